/- Parts of the proof: memory, numbers, walks of the functions that are called. -/
import Derived.Ground.GgzProg
import Derived.Ground.SlgmProg
import Derived.Shelf.SlIter.Nil
import Derived.Shelf.SortM.Plain
import Derived.Shelf.SortM.SortNone
import Derived.Test.YtkmcmmcencdcpaaGreatDoorMt17
set_option linter.unusedVariables false
set_option linter.unusedSimpArgs false
namespace Go.Proofs.YtkmcmmcencdcpaaGreatDoor
open Go.RowKit Go.Maps Go.Sort Go.Shelf
def ze5:Go.Shelf.Ren:=⟨fun | 7=>148 | 10=>197 | n=>n,fun | 23=>203 | 26=>9 | 3=>4 | 28=>163 | 0=>0 | 27=>162 | 33=>141 | 4=>4 | n=>n,fun | n=>n⟩
theorem zq5:Go.Proofs.SlLaysZ.n7 Tryz.prog ze5:={
 mixed:=by kernel_rfl
 f7:=⟨Tryz.f148.name,by decide,Tryz.func148.trans (congrArg some (by kernel_rfl))⟩
 f10:=⟨Tryz.f197.name,by decide,Tryz.func197.trans (congrArg some (by kernel_rfl))⟩
 t0:=Tryz.underlying0
 a0:=Tryz.isAgg0
 z0:=Tryz.sizeOf0
 v0:=Tryz.zeroValue0
 t4:=Tryz.underlying4
 a4:=Tryz.isAgg4
 z4:=Tryz.sizeOf4
 v4:=Tryz.zeroValue4
 t23:=Tryz.underlying203
 a23:=Tryz.isAgg203
 z23:=Tryz.sizeOf203
 v23:=Tryz.zeroValue203
 t26:=Tryz.underlying9
 a26:=Tryz.isAgg9
 z26:=Tryz.sizeOf9
 v26:=Tryz.zeroValue9
 t27:=Tryz.underlying162
 a27:=Tryz.isAgg162
 z27:=Tryz.sizeOf162
 v27:=Tryz.zeroValue162
 t28:=Tryz.underlying163
 a28:=Tryz.isAgg163
 z28:=Tryz.sizeOf163
 v28:=Tryz.zeroValue163
 t33:=Tryz.underlying141
 a33:=Tryz.isAgg141
 z33:=Tryz.sizeOf141
 v33:=Tryz.zeroValue141 }
def zfi:Go.Shelf.Ren:=⟨fun | 6=>112 | 8=>163 | 9=>164 | 11=>205 | 13=>207 | 12=>206 | 23=>229 | 24=>230 | 14=>221 | 15=>222 | 16=>223 | 17=>224 | 18=>225 | 19=>226 | 20=>213 | 21=>227 | 22=>228 | 25=>240 | 26=>241 | 27=>242 | 28=>243 | 29=>244 | 30=>201 | 31=>246 | n=>n,fun | 26=>9 | 28=>163 | 24=>77 | 0=>0 | 3=>3 | 37=>245 | 48=>221 | 50=>210 | 4=>4 | 40=>267 | 39=>266 | 45=>207 | 5=>5 | 9=>9 | 51=>283 | 55=>286 | 57=>288 | 58=>289 | 33=>141 | n=>n,fun | n=>n⟩
theorem zst:Go.Proofs.SlLaysZ.n6 Tryz.prog zfi:={
 mixed:=by kernel_rfl
 f6:=⟨Tryz.f112.name,by decide,Tryz.func112.trans (congrArg some (by kernel_rfl))⟩
 f8:=⟨Tryz.f163.name,by decide,Tryz.func163.trans (congrArg some (by kernel_rfl))⟩
 f11:=⟨Tryz.f205.name,by decide,Tryz.func205.trans (congrArg some (by kernel_rfl))⟩
 t0:=Tryz.underlying0
 a0:=Tryz.isAgg0
 z0:=Tryz.sizeOf0
 v0:=Tryz.zeroValue0
 t24:=Tryz.underlying77
 a24:=Tryz.isAgg77
 z24:=Tryz.sizeOf77
 v24:=Tryz.zeroValue77
 t26:=Tryz.underlying9
 a26:=Tryz.isAgg9
 z26:=Tryz.sizeOf9
 v26:=Tryz.zeroValue9
 t28:=Tryz.underlying163
 a28:=Tryz.isAgg163
 z28:=Tryz.sizeOf163
 v28:=Tryz.zeroValue163
 i26:=by kernel_rfl }
def zk5:Go.Shelf.Ren:=⟨fun | 6=>164 | 8=>207 | 9=>206 | 19=>229 | 20=>230 | 21=>221 | 22=>222 | 23=>223 | 24=>224 | 25=>225 | 26=>226 | 27=>213 | 28=>227 | 29=>228 | 36=>240 | 31=>241 | 32=>242 | 37=>243 | 38=>244 | 39=>201 | 41=>246 | n=>n,fun | 27=>77 | 29=>9 | 3=>3 | 32=>245 | 26=>77 | 0=>0 | 44=>221 | 46=>210 | 4=>4 | 36=>267 | 35=>266 | 41=>207 | 5=>5 | 9=>9 | 53=>283 | 57=>286 | 63=>288 | 64=>289 | n=>n,fun | n=>n⟩
theorem zr1:Go.Proofs.SlLaysM.n6 Tryz.prog zk5:={
 mixed:=by kernel_rfl
 f6:=⟨Tryz.f164.name,by decide,Tryz.func164.trans (congrArg some (by kernel_rfl))⟩
 f8:=Tryz.func207.trans (congrArg some (by kernel_rfl))
 f9:=⟨Tryz.f206.name,by decide,Tryz.func206.trans (congrArg some (by kernel_rfl))⟩
 f19:=Tryz.func229.trans (congrArg some (by kernel_rfl))
 f20:=Tryz.func230.trans (congrArg some (by kernel_rfl))
 f21:=⟨Tryz.f221.name,by decide,Tryz.func221.trans (congrArg some (by kernel_rfl))⟩
 f22:=⟨Tryz.f222.name,by decide,Tryz.func222.trans (congrArg some (by kernel_rfl))⟩
 f23:=⟨Tryz.f223.name,by decide,Tryz.func223.trans (congrArg some (by kernel_rfl))⟩
 f24:=⟨Tryz.f224.name,by decide,Tryz.func224.trans (congrArg some (by kernel_rfl))⟩
 f25:=⟨Tryz.f225.name,by decide,Tryz.func225.trans (congrArg some (by kernel_rfl))⟩
 f26:=⟨Tryz.f226.name,by decide,Tryz.func226.trans (congrArg some (by kernel_rfl))⟩
 f27:=⟨Tryz.f213.name,by decide,Tryz.func213.trans (congrArg some (by kernel_rfl))⟩
 f28:=⟨Tryz.f227.name,by decide,Tryz.func227.trans (congrArg some (by kernel_rfl))⟩
 f29:=⟨Tryz.f228.name,by decide,Tryz.func228.trans (congrArg some (by kernel_rfl))⟩
 f31:=Tryz.func241.trans (congrArg some (by kernel_rfl))
 f32:=Tryz.func242.trans (congrArg some (by kernel_rfl))
 f36:=⟨Tryz.f240.name,by decide,Tryz.func240.trans (congrArg some (by kernel_rfl))⟩
 f37:=⟨Tryz.f243.name,by decide,Tryz.func243.trans (congrArg some (by kernel_rfl))⟩
 f38:=⟨Tryz.f244.name,by decide,Tryz.func244.trans (congrArg some (by kernel_rfl))⟩
 f39:=⟨Tryz.f201.name,by decide,Tryz.func201.trans (congrArg some (by kernel_rfl))⟩
 f41:=⟨Tryz.f246.name,by decide,Tryz.func246.trans (congrArg some (by kernel_rfl))⟩
 t0:=Tryz.underlying0
 a0:=Tryz.isAgg0
 z0:=Tryz.sizeOf0
 v0:=Tryz.zeroValue0
 t3:=Tryz.underlying3
 a3:=Tryz.isAgg3
 z3:=Tryz.sizeOf3
 v3:=Tryz.zeroValue3
 t4:=Tryz.underlying4
 a4:=Tryz.isAgg4
 z4:=Tryz.sizeOf4
 v4:=Tryz.zeroValue4
 t5:=Tryz.underlying5
 a5:=Tryz.isAgg5
 z5:=Tryz.sizeOf5
 v5:=Tryz.zeroValue5
 t9:=Tryz.underlying9
 a9:=Tryz.isAgg9
 z9:=Tryz.sizeOf9
 v9:=Tryz.zeroValue9
 t26:=Tryz.underlying77
 a26:=Tryz.isAgg77
 z26:=Tryz.sizeOf77
 v26:=Tryz.zeroValue77
 t27:=Tryz.underlying77
 a27:=Tryz.isAgg77
 z27:=Tryz.sizeOf77
 v27:=Tryz.zeroValue77
 t29:=Tryz.underlying9
 a29:=Tryz.isAgg9
 z29:=Tryz.sizeOf9
 v29:=Tryz.zeroValue9
 t32:=Tryz.underlying245
 a32:=Tryz.isAgg245
 z32:=Tryz.sizeOf245
 v32:=Tryz.zeroValue245
 t35:=Tryz.underlying266
 a35:=Tryz.isAgg266
 z35:=Tryz.sizeOf266
 v35:=Tryz.zeroValue266
 t36:=Tryz.underlying267
 a36:=Tryz.isAgg267
 z36:=Tryz.sizeOf267
 v36:=Tryz.zeroValue267
 t41:=Tryz.underlying207
 a41:=Tryz.isAgg207
 z41:=Tryz.sizeOf207
 v41:=Tryz.zeroValue207
 t44:=Tryz.underlying221
 a44:=Tryz.isAgg221
 z44:=Tryz.sizeOf221
 v44:=Tryz.zeroValue221
 t46:=Tryz.underlying210
 a46:=Tryz.isAgg210
 z46:=Tryz.sizeOf210
 v46:=Tryz.zeroValue210
 t53:=Tryz.underlying283
 a53:=Tryz.isAgg283
 z53:=Tryz.sizeOf283
 v53:=Tryz.zeroValue283
 t57:=Tryz.underlying286
 a57:=Tryz.isAgg286
 z57:=Tryz.sizeOf286
 v57:=Tryz.zeroValue286
 t63:=Tryz.underlying288
 a63:=Tryz.isAgg288
 z63:=Tryz.sizeOf288
 v63:=Tryz.zeroValue288
 t64:=Tryz.underlying289
 a64:=Tryz.isAgg289
 z64:=Tryz.sizeOf289
 v64:=Tryz.zeroValue289 }
theorem zn8 (m:Nat):AnyZ.SortsIn Tryz.prog zfi Fence.wide m:=
 ⟨fun blk off cap ss W hH hblk hsz=>callsIn_wide.2 (AnyM.slices_Sort_string zr1 blk off cap ss W hH hblk hsz),
  fun p cap W=>callsIn_wide.2 (AnyM.slices_Sort_string_none zr1 p cap W)⟩
theorem zma (mb:Option Nat) (W:World):Calls Tryz.prog 148 #[.map mb] W fun e w' =>e= .returned (.func (.func 197) #[] #[.pointer (some ⟨W.heap.size,0,none⟩)])/\w' =W.alloc (.cells #[.map mb] 203):=
 callsIn_wide.1 (AnyZ.keys_in zq5 Fence.wide 5 trivial rfl mb W)
set_option maxHeartbeats 1000000 in
theorem zfr {H:Type} (b nn:Nat) (D0:DataW H) (R:Value->Option (DataW H×List MemPlace)) (w:World) (hown:w.ownsMap Tryz.prog 9 R b nn D0) (hmax:Maps.size D0<=maxLen) (hbytes:Maps.size D0*16<=140737488355328):
 Calls Tryz.prog 112 #[.func (.func 197) #[] #[.pointer (some ⟨w.heap.size,0,none⟩)]] (w.alloc (.cells #[.map (some b)] 203)) fun e w' =>∃ (v:Value) (ss:List (List UInt8)),e= .returned v/\ss.Perm (strKeys D0)/\
  w'.ownsRow (w.alloc (.cells #[.map (some b)] 203)).heap.size 9 1 v ss.length ((ss.mergeSort (fun x y=>decide (x<=y))).map encStr)/\(v= .slice none 0 0↔ss=[])/\Below (w.alloc (.cells #[.map (some b)] 203)).heap.size (w.alloc (.cells #[.map (some b)] 203)) w' :=by
 have hbl:=hown.lt
 have hseq:SeqGives Fence.wide 2 Tryz.prog 197 #[.pointer (some ⟨w.heap.size,0,none⟩)] encStr (fun ss=>ss.Perm (strKeys D0)) (Maps.size D0) (w.alloc (.cells #[.map (some b)] 203)):=
  AnyZ.keys_gives (ρ:=ze5) { zq5 with } Fence.wide _ trivial rfl (by omega) w.heap.size b nn D0 _ (by simp) (by simp) (by
   obtain ⟨es,clock,hb,Ft,hs,hD⟩:=hown
   exact ⟨es,clock,(Below.heap_alloc _ _ b hbl).trans hb,Ft,hs,hD⟩)
 exact callsIn_wide.1 (AnyZ.sorted_in zst Fence.wide 5 trivial trivial trivial trivial rfl (by omega) (zn8 _) (enters_of Tryz.func164 (by kernel_rfl) rfl) 197 #[.pointer (some ⟨w.heap.size,0,none⟩)] trivial (enters_of Tryz.func197 (by kernel_rfl) rfl) _ _ hmax hbytes _ hseq)
abbrev zp1:TypeId:=203
end Go.Proofs.YtkmcmmcencdcpaaGreatDoor
