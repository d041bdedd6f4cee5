/- Parts of the proof. -/
import Derived.Ground.GgzProg
import Derived.Ground.SlgmProg
import Derived.Shelf.SlIter.Nil
import Derived.Shelf.SortM.Plain
import Derived.Shelf.SortM.SortNone
import Derived.Test.YtnjljgidphemdaaGreatDoorMv15
set_option linter.all false
namespace Go.Proofs.YtnjljgidphemdaaGreatDoor
open Proofs.Tryz Go.RowKit Go.Maps Go.Sort Go.Shelf
def zhz:Go.Shelf.Ren:=⟨fun | 7=>96 | 10=>152 | n=>n,fun | 23=>156 | 26=>9 | 3=>4 | 28=>159 | 0=>0 | 27=>158 | 33=>121 | 4=>4 | n=>n,fun | n=>n⟩
theorem zyp:Go.Proofs.SlLaysZ.n7 prog zhz:={
 mixed:=by kernel_rfl
 f7:=⟨Tryz.f96.name,by decide,func96.trans (congrArg some (by kernel_rfl))⟩
 f10:=⟨Tryz.f152.name,by decide,func152.trans (congrArg some (by kernel_rfl))⟩
 t0:=underlying0
 a0:=isAgg0
 z0:=sizeOf0
 v0:=zeroValue0
 t4:=underlying4
 a4:=isAgg4
 z4:=sizeOf4
 v4:=zeroValue4
 t23:=underlying156
 a23:=isAgg156
 z23:=sizeOf156
 v23:=zeroValue156
 t26:=underlying9
 a26:=isAgg9
 z26:=sizeOf9
 v26:=zeroValue9
 t27:=underlying158
 a27:=isAgg158
 z27:=sizeOf158
 v27:=zeroValue158
 t28:=underlying159
 a28:=isAgg159
 z28:=sizeOf159
 v28:=zeroValue159
 t33:=underlying121
 a33:=isAgg121
 z33:=sizeOf121
 v33:=zeroValue121 }
def zh3:Go.Shelf.Ren:=⟨fun | 6=>95 | 8=>150 | 9=>151 | 11=>178 | 13=>180 | 12=>179 | 23=>202 | 24=>203 | 14=>194 | 15=>195 | 16=>196 | 17=>197 | 18=>198 | 19=>199 | 20=>174 | 21=>200 | 22=>201 | 25=>207 | 26=>208 | 27=>209 | 28=>210 | 29=>211 | 30=>164 | 31=>212 | n=>n,fun | 26=>9 | 28=>159 | 24=>58 | 0=>0 | 3=>3 | 37=>209 | 48=>170 | 50=>169 | 4=>4 | 40=>242 | 39=>241 | 45=>178 | 5=>5 | 9=>9 | 51=>254 | 55=>257 | 57=>259 | 58=>260 | 33=>121 | n=>n,fun | n=>n⟩
theorem zzf:Go.Proofs.SlLaysZ.n6 prog zh3:={
 mixed:=by kernel_rfl
 f6:=⟨Tryz.f95.name,by decide,func95.trans (congrArg some (by kernel_rfl))⟩
 f8:=⟨Tryz.f150.name,by decide,func150.trans (congrArg some (by kernel_rfl))⟩
 f11:=⟨Tryz.f178.name,by decide,func178.trans (congrArg some (by kernel_rfl))⟩
 t0:=underlying0
 a0:=isAgg0
 z0:=sizeOf0
 v0:=zeroValue0
 t24:=underlying58
 a24:=isAgg58
 z24:=sizeOf58
 v24:=zeroValue58
 t26:=underlying9
 a26:=isAgg9
 z26:=sizeOf9
 v26:=zeroValue9
 t28:=underlying159
 a28:=isAgg159
 z28:=sizeOf159
 v28:=zeroValue159
 i26:=by kernel_rfl }
def zsg:Go.Shelf.Ren:=⟨fun | 6=>151 | 8=>180 | 9=>179 | 19=>202 | 20=>203 | 21=>194 | 22=>195 | 23=>196 | 24=>197 | 25=>198 | 26=>199 | 27=>174 | 28=>200 | 29=>201 | 36=>207 | 31=>208 | 32=>209 | 37=>210 | 38=>211 | 39=>164 | 41=>212 | n=>n,fun | 27=>58 | 29=>9 | 3=>3 | 32=>209 | 26=>58 | 0=>0 | 44=>170 | 46=>169 | 4=>4 | 36=>242 | 35=>241 | 41=>178 | 5=>5 | 9=>9 | 53=>254 | 57=>257 | 63=>259 | 64=>260 | n=>n,fun | n=>n⟩
theorem zyn:Go.Proofs.SlLaysM.n6 prog zsg:={
 mixed:=by kernel_rfl
 f6:=⟨Tryz.f151.name,by decide,func151.trans (congrArg some (by kernel_rfl))⟩
 f8:=func180.trans (congrArg some (by kernel_rfl))
 f9:=⟨Tryz.f179.name,by decide,func179.trans (congrArg some (by kernel_rfl))⟩
 f19:=func202.trans (congrArg some (by kernel_rfl))
 f20:=func203.trans (congrArg some (by kernel_rfl))
 f21:=⟨Tryz.f194.name,by decide,func194.trans (congrArg some (by kernel_rfl))⟩
 f22:=⟨Tryz.f195.name,by decide,func195.trans (congrArg some (by kernel_rfl))⟩
 f23:=⟨Tryz.f196.name,by decide,func196.trans (congrArg some (by kernel_rfl))⟩
 f24:=⟨Tryz.f197.name,by decide,func197.trans (congrArg some (by kernel_rfl))⟩
 f25:=⟨Tryz.f198.name,by decide,func198.trans (congrArg some (by kernel_rfl))⟩
 f26:=⟨Tryz.f199.name,by decide,func199.trans (congrArg some (by kernel_rfl))⟩
 f27:=⟨Tryz.f174.name,by decide,func174.trans (congrArg some (by kernel_rfl))⟩
 f28:=⟨Tryz.f200.name,by decide,func200.trans (congrArg some (by kernel_rfl))⟩
 f29:=⟨Tryz.f201.name,by decide,func201.trans (congrArg some (by kernel_rfl))⟩
 f31:=func208.trans (congrArg some (by kernel_rfl))
 f32:=func209.trans (congrArg some (by kernel_rfl))
 f36:=⟨Tryz.f207.name,by decide,func207.trans (congrArg some (by kernel_rfl))⟩
 f37:=⟨Tryz.f210.name,by decide,func210.trans (congrArg some (by kernel_rfl))⟩
 f38:=⟨Tryz.f211.name,by decide,func211.trans (congrArg some (by kernel_rfl))⟩
 f39:=⟨Tryz.f164.name,by decide,func164.trans (congrArg some (by kernel_rfl))⟩
 f41:=⟨Tryz.f212.name,by decide,func212.trans (congrArg some (by kernel_rfl))⟩
 t0:=underlying0
 a0:=isAgg0
 z0:=sizeOf0
 v0:=zeroValue0
 t3:=underlying3
 a3:=isAgg3
 z3:=sizeOf3
 v3:=zeroValue3
 t4:=underlying4
 a4:=isAgg4
 z4:=sizeOf4
 v4:=zeroValue4
 t5:=underlying5
 a5:=isAgg5
 z5:=sizeOf5
 v5:=zeroValue5
 t9:=underlying9
 a9:=isAgg9
 z9:=sizeOf9
 v9:=zeroValue9
 t26:=underlying58
 a26:=isAgg58
 z26:=sizeOf58
 v26:=zeroValue58
 t27:=underlying58
 a27:=isAgg58
 z27:=sizeOf58
 v27:=zeroValue58
 t29:=underlying9
 a29:=isAgg9
 z29:=sizeOf9
 v29:=zeroValue9
 t32:=underlying209
 a32:=isAgg209
 z32:=sizeOf209
 v32:=zeroValue209
 t35:=underlying241
 a35:=isAgg241
 z35:=sizeOf241
 v35:=zeroValue241
 t36:=underlying242
 a36:=isAgg242
 z36:=sizeOf242
 v36:=zeroValue242
 t41:=underlying178
 a41:=isAgg178
 z41:=sizeOf178
 v41:=zeroValue178
 t44:=underlying170
 a44:=isAgg170
 z44:=sizeOf170
 v44:=zeroValue170
 t46:=underlying169
 a46:=isAgg169
 z46:=sizeOf169
 v46:=zeroValue169
 t53:=underlying254
 a53:=isAgg254
 z53:=sizeOf254
 v53:=zeroValue254
 t57:=underlying257
 a57:=isAgg257
 z57:=sizeOf257
 v57:=zeroValue257
 t63:=underlying259
 a63:=isAgg259
 z63:=sizeOf259
 v63:=zeroValue259
 t64:=underlying260
 a64:=isAgg260
 z64:=sizeOf260
 v64:=zeroValue260 }
theorem ztu (m:Nat):AnyZ.SortsIn prog zh3 Fence.wide m:=
 ⟨fun blk off cap ss W hH hblk hsz=>callsIn_wide.2 (AnyM.slices_Sort_string zyn blk off cap ss W hH hblk hsz),
  fun p cap W=>callsIn_wide.2 (AnyM.slices_Sort_string_none zyn p cap W)⟩
theorem zqm (mb:Option Nat) (W:World):Calls prog 96 #[.map mb] W fun e w' =>e= .returned (.func (.func 152) #[] #[.pointer (some ⟨W.heap.size,0,none⟩)])/\w' =W.alloc (.cells #[.map mb] 156):=
 callsIn_wide.1 (AnyZ.keys_in zyp Fence.wide 5 trivial rfl mb W)
set_option maxHeartbeats 1000000 in
theorem zlm {H:Type} (b nn:Nat) (D0:DataW H) (R:Value->Option (DataW H×List MemPlace)) (w:World) (hown:w.ownsMap prog 9 R b nn D0) (hmax:Maps.size D0<=maxLen) (hbytes:Maps.size D0*16<=140737488355328):
 Calls prog 95 #[.func (.func 152) #[] #[.pointer (some ⟨w.heap.size,0,none⟩)]] (w.alloc (.cells #[.map (some b)] 156)) fun e w' =>∃ (v:Value) (ss:List (List UInt8)),e= .returned v/\ss.Perm (strKeys D0)/\
  w'.ownsRow (w.alloc (.cells #[.map (some b)] 156)).heap.size 9 1 v ss.length ((ss.mergeSort (fun x y=>decide (x<=y))).map encStr)/\(v= .slice none 0 0↔ss=[])/\Below (w.alloc (.cells #[.map (some b)] 156)).heap.size (w.alloc (.cells #[.map (some b)] 156)) w' :=by
 have m:=hown.lt
 have l:SeqGives Fence.wide 2 prog 152 #[.pointer (some ⟨w.heap.size,0,none⟩)] encStr (fun ss=>ss.Perm (strKeys D0)) (Maps.size D0) (w.alloc (.cells #[.map (some b)] 156)):=
  AnyZ.keys_gives (ρ:=zhz) { zyp with } Fence.wide _ trivial rfl (by omega) w.heap.size b nn D0 _ (by simp) (by simp) (by
   obtain ⟨r,u,hb,j,z,B⟩:=hown
   exact ⟨r,u,(Below.heap_alloc _ _ b m).trans hb,j,z,B⟩)
 exact callsIn_wide.1 (AnyZ.sorted_in zzf Fence.wide 5 trivial trivial trivial trivial rfl (by omega) (ztu _) (enters_of func151 (by kernel_rfl) rfl) 152 #[.pointer (some ⟨w.heap.size,0,none⟩)] trivial (enters_of func152 (by kernel_rfl) rfl) _ _ hmax hbytes _ l)
abbrev zwg:TypeId:=156
end Go.Proofs.YtnjljgidphemdaaGreatDoor
