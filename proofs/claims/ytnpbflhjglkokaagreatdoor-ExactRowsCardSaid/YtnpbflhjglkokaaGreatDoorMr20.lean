/- Parts of the proof: memory, numbers, walks of the functions that are called. -/
import Derived.Ground.GgzProg
import Derived.Ground.SlgmProg
import Derived.Shelf.SlIter.Nil
import Derived.Shelf.SortM.Plain
import Derived.Shelf.SortM.SortNone
import Derived.Test.YtnpbflhjglkokaaGreatDoorMr19
set_option linter.unusedVariables false
set_option linter.unusedSimpArgs false
namespace Go.Proofs.YtnpbflhjglkokaaGreatDoor
open Go.RowKit Go.Maps Go.Sort Go.Shelf
def zcx:Go.Shelf.Ren:=⟨fun | 7=>125 | 10=>204 | n=>n,fun | 23=>177 | 26=>9 | 3=>4 | 28=>180 | 0=>0 | 27=>179 | 33=>159 | 4=>4 | n=>n,fun | n=>n⟩
theorem zou:Go.Proofs.SlLaysZ.n7 Tryz.prog zcx:={
 mixed:=by kernel_rfl
 f7:=⟨Tryz.f125.name,by decide,Tryz.func125.trans (congrArg some (by kernel_rfl))⟩
 f10:=⟨Tryz.f204.name,by decide,Tryz.func204.trans (congrArg some (by kernel_rfl))⟩
 t0:=Tryz.underlying0
 a0:=Tryz.isAgg0
 z0:=Tryz.sizeOf0
 v0:=Tryz.zeroValue0
 t4:=Tryz.underlying4
 a4:=Tryz.isAgg4
 z4:=Tryz.sizeOf4
 v4:=Tryz.zeroValue4
 t23:=Tryz.underlying177
 a23:=Tryz.isAgg177
 z23:=Tryz.sizeOf177
 v23:=Tryz.zeroValue177
 t26:=Tryz.underlying9
 a26:=Tryz.isAgg9
 z26:=Tryz.sizeOf9
 v26:=Tryz.zeroValue9
 t27:=Tryz.underlying179
 a27:=Tryz.isAgg179
 z27:=Tryz.sizeOf179
 v27:=Tryz.zeroValue179
 t28:=Tryz.underlying180
 a28:=Tryz.isAgg180
 z28:=Tryz.sizeOf180
 v28:=Tryz.zeroValue180
 t33:=Tryz.underlying159
 a33:=Tryz.isAgg159
 z33:=Tryz.sizeOf159
 v33:=Tryz.zeroValue159 }
def zcf:Go.Shelf.Ren:=⟨fun | 6=>124 | 8=>202 | 9=>203 | 11=>239 | 13=>241 | 12=>240 | 23=>269 | 24=>270 | 14=>261 | 15=>262 | 16=>263 | 17=>264 | 18=>265 | 19=>266 | 20=>259 | 21=>267 | 22=>268 | 25=>278 | 26=>279 | 27=>280 | 28=>281 | 29=>282 | 30=>242 | 31=>283 | n=>n,fun | 26=>9 | 28=>180 | 24=>25 | 0=>0 | 3=>3 | 37=>207 | 48=>205 | 50=>168 | 4=>4 | 40=>298 | 39=>297 | 45=>259 | 5=>5 | 9=>9 | 51=>311 | 55=>314 | 57=>316 | 58=>317 | 33=>159 | n=>n,fun | n=>n⟩
theorem zqi:Go.Proofs.SlLaysZ.n6 Tryz.prog zcf:={
 mixed:=by kernel_rfl
 f6:=⟨Tryz.f124.name,by decide,Tryz.func124.trans (congrArg some (by kernel_rfl))⟩
 f8:=⟨Tryz.f202.name,by decide,Tryz.func202.trans (congrArg some (by kernel_rfl))⟩
 f11:=⟨Tryz.f239.name,by decide,Tryz.func239.trans (congrArg some (by kernel_rfl))⟩
 t0:=Tryz.underlying0
 a0:=Tryz.isAgg0
 z0:=Tryz.sizeOf0
 v0:=Tryz.zeroValue0
 t24:=Tryz.underlying25
 a24:=Tryz.isAgg25
 z24:=Tryz.sizeOf25
 v24:=Tryz.zeroValue25
 t26:=Tryz.underlying9
 a26:=Tryz.isAgg9
 z26:=Tryz.sizeOf9
 v26:=Tryz.zeroValue9
 t28:=Tryz.underlying180
 a28:=Tryz.isAgg180
 z28:=Tryz.sizeOf180
 v28:=Tryz.zeroValue180
 i26:=by kernel_rfl }
def zh3:Go.Shelf.Ren:=⟨fun | 6=>203 | 8=>241 | 9=>240 | 19=>269 | 20=>270 | 21=>261 | 22=>262 | 23=>263 | 24=>264 | 25=>265 | 26=>266 | 27=>259 | 28=>267 | 29=>268 | 36=>278 | 31=>279 | 32=>280 | 37=>281 | 38=>282 | 39=>242 | 41=>283 | n=>n,fun | 27=>25 | 29=>9 | 3=>3 | 32=>207 | 26=>25 | 0=>0 | 44=>205 | 46=>168 | 4=>4 | 36=>298 | 35=>297 | 41=>259 | 5=>5 | 9=>9 | 53=>311 | 57=>314 | 63=>316 | 64=>317 | n=>n,fun | n=>n⟩
theorem zoz:Go.Proofs.SlLaysM.n6 Tryz.prog zh3:={
 mixed:=by kernel_rfl
 f6:=⟨Tryz.f203.name,by decide,Tryz.func203.trans (congrArg some (by kernel_rfl))⟩
 f8:=Tryz.func241.trans (congrArg some (by kernel_rfl))
 f9:=⟨Tryz.f240.name,by decide,Tryz.func240.trans (congrArg some (by kernel_rfl))⟩
 f19:=Tryz.func269.trans (congrArg some (by kernel_rfl))
 f20:=Tryz.func270.trans (congrArg some (by kernel_rfl))
 f21:=⟨Tryz.f261.name,by decide,Tryz.func261.trans (congrArg some (by kernel_rfl))⟩
 f22:=⟨Tryz.f262.name,by decide,Tryz.func262.trans (congrArg some (by kernel_rfl))⟩
 f23:=⟨Tryz.f263.name,by decide,Tryz.func263.trans (congrArg some (by kernel_rfl))⟩
 f24:=⟨Tryz.f264.name,by decide,Tryz.func264.trans (congrArg some (by kernel_rfl))⟩
 f25:=⟨Tryz.f265.name,by decide,Tryz.func265.trans (congrArg some (by kernel_rfl))⟩
 f26:=⟨Tryz.f266.name,by decide,Tryz.func266.trans (congrArg some (by kernel_rfl))⟩
 f27:=⟨Tryz.f259.name,by decide,Tryz.func259.trans (congrArg some (by kernel_rfl))⟩
 f28:=⟨Tryz.f267.name,by decide,Tryz.func267.trans (congrArg some (by kernel_rfl))⟩
 f29:=⟨Tryz.f268.name,by decide,Tryz.func268.trans (congrArg some (by kernel_rfl))⟩
 f31:=Tryz.func279.trans (congrArg some (by kernel_rfl))
 f32:=Tryz.func280.trans (congrArg some (by kernel_rfl))
 f36:=⟨Tryz.f278.name,by decide,Tryz.func278.trans (congrArg some (by kernel_rfl))⟩
 f37:=⟨Tryz.f281.name,by decide,Tryz.func281.trans (congrArg some (by kernel_rfl))⟩
 f38:=⟨Tryz.f282.name,by decide,Tryz.func282.trans (congrArg some (by kernel_rfl))⟩
 f39:=⟨Tryz.f242.name,by decide,Tryz.func242.trans (congrArg some (by kernel_rfl))⟩
 f41:=⟨Tryz.f283.name,by decide,Tryz.func283.trans (congrArg some (by kernel_rfl))⟩
 t0:=Tryz.underlying0
 a0:=Tryz.isAgg0
 z0:=Tryz.sizeOf0
 v0:=Tryz.zeroValue0
 t3:=Tryz.underlying3
 a3:=Tryz.isAgg3
 z3:=Tryz.sizeOf3
 v3:=Tryz.zeroValue3
 t4:=Tryz.underlying4
 a4:=Tryz.isAgg4
 z4:=Tryz.sizeOf4
 v4:=Tryz.zeroValue4
 t5:=Tryz.underlying5
 a5:=Tryz.isAgg5
 z5:=Tryz.sizeOf5
 v5:=Tryz.zeroValue5
 t9:=Tryz.underlying9
 a9:=Tryz.isAgg9
 z9:=Tryz.sizeOf9
 v9:=Tryz.zeroValue9
 t26:=Tryz.underlying25
 a26:=Tryz.isAgg25
 z26:=Tryz.sizeOf25
 v26:=Tryz.zeroValue25
 t27:=Tryz.underlying25
 a27:=Tryz.isAgg25
 z27:=Tryz.sizeOf25
 v27:=Tryz.zeroValue25
 t29:=Tryz.underlying9
 a29:=Tryz.isAgg9
 z29:=Tryz.sizeOf9
 v29:=Tryz.zeroValue9
 t32:=Tryz.underlying207
 a32:=Tryz.isAgg207
 z32:=Tryz.sizeOf207
 v32:=Tryz.zeroValue207
 t35:=Tryz.underlying297
 a35:=Tryz.isAgg297
 z35:=Tryz.sizeOf297
 v35:=Tryz.zeroValue297
 t36:=Tryz.underlying298
 a36:=Tryz.isAgg298
 z36:=Tryz.sizeOf298
 v36:=Tryz.zeroValue298
 t41:=Tryz.underlying259
 a41:=Tryz.isAgg259
 z41:=Tryz.sizeOf259
 v41:=Tryz.zeroValue259
 t44:=Tryz.underlying205
 a44:=Tryz.isAgg205
 z44:=Tryz.sizeOf205
 v44:=Tryz.zeroValue205
 t46:=Tryz.underlying168
 a46:=Tryz.isAgg168
 z46:=Tryz.sizeOf168
 v46:=Tryz.zeroValue168
 t53:=Tryz.underlying311
 a53:=Tryz.isAgg311
 z53:=Tryz.sizeOf311
 v53:=Tryz.zeroValue311
 t57:=Tryz.underlying314
 a57:=Tryz.isAgg314
 z57:=Tryz.sizeOf314
 v57:=Tryz.zeroValue314
 t63:=Tryz.underlying316
 a63:=Tryz.isAgg316
 z63:=Tryz.sizeOf316
 v63:=Tryz.zeroValue316
 t64:=Tryz.underlying317
 a64:=Tryz.isAgg317
 z64:=Tryz.sizeOf317
 v64:=Tryz.zeroValue317 }
theorem zkw (m:Nat):AnyZ.SortsIn Tryz.prog zcf Fence.wide m:=
 ⟨fun blk off cap ss W hH hblk hsz=>callsIn_wide.2 (AnyM.slices_Sort_string zoz blk off cap ss W hH hblk hsz),
  fun p cap W=>callsIn_wide.2 (AnyM.slices_Sort_string_none zoz p cap W)⟩
theorem zje (mb:Option Nat) (W:World):Calls Tryz.prog 125 #[.map mb] W fun e w' =>e= .returned (.func (.func 204) #[] #[.pointer (some ⟨W.heap.size,0,none⟩)])/\w' =W.alloc (.cells #[.map mb] 177):=
 callsIn_wide.1 (AnyZ.keys_in zou Fence.wide 5 trivial rfl mb W)
set_option maxHeartbeats 1000000 in
theorem zfq {H:Type} (b nn:Nat) (D0:DataW H) (R:Value->Option (DataW H×List MemPlace)) (w:World) (hown:w.ownsMap Tryz.prog 9 R b nn D0) (hmax:Maps.size D0<=maxLen) (hbytes:Maps.size D0*16<=140737488355328):
 Calls Tryz.prog 124 #[.func (.func 204) #[] #[.pointer (some ⟨w.heap.size,0,none⟩)]] (w.alloc (.cells #[.map (some b)] 177)) fun e w' =>∃ (v:Value) (ss:List (List UInt8)),e= .returned v/\ss.Perm (strKeys D0)/\
  w'.ownsRow (w.alloc (.cells #[.map (some b)] 177)).heap.size 9 1 v ss.length ((ss.mergeSort (fun x y=>decide (x<=y))).map encStr)/\(v= .slice none 0 0↔ss=[])/\Below (w.alloc (.cells #[.map (some b)] 177)).heap.size (w.alloc (.cells #[.map (some b)] 177)) w' :=by
 have hbl:=hown.lt
 have hseq:SeqGives Fence.wide 2 Tryz.prog 204 #[.pointer (some ⟨w.heap.size,0,none⟩)] encStr (fun ss=>ss.Perm (strKeys D0)) (Maps.size D0) (w.alloc (.cells #[.map (some b)] 177)):=
  AnyZ.keys_gives (ρ:=zcx) { zou with } Fence.wide _ trivial rfl (by omega) w.heap.size b nn D0 _ (by simp) (by simp) (by
   obtain ⟨es,clock,hb,Ft,hs,hD⟩:=hown
   exact ⟨es,clock,(Below.heap_alloc _ _ b hbl).trans hb,Ft,hs,hD⟩)
 exact callsIn_wide.1 (AnyZ.sorted_in zqi Fence.wide 5 trivial trivial trivial trivial rfl (by omega) (zkw _) (enters_of Tryz.func203 (by kernel_rfl) rfl) 204 #[.pointer (some ⟨w.heap.size,0,none⟩)] trivial (enters_of Tryz.func204 (by kernel_rfl) rfl) _ _ hmax hbytes _ hseq)
abbrev zn4:TypeId:=177
end Go.Proofs.YtnpbflhjglkokaaGreatDoor
