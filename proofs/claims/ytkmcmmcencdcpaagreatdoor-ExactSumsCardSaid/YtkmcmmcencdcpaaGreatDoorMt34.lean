/- Parts of the proof: memory, numbers, walks of the functions that are called. -/
import Derived.Deep.DrawnRows
import Derived.Lib.Split
import Derived.Test.YtkmcmmcencdcpaaGreatDoorMt15
set_option linter.unusedVariables false
set_option linter.unusedSimpArgs false
set_option maxRecDepth 100000
namespace Go.Proofs.YtkmcmmcencdcpaaGreatDoor
open Go.RowKit Go.Deep
attribute [local go_sem ↓] Go.wp_at_zero Go.wp_at_succ
def spl (c:UInt8):Nat->List UInt8->List (List UInt8)
 | 0,l=>[l]
 | k+1,l=>ahead c l :: spl c k (ym c l)
theorem V4 (c:UInt8):∀ (k:Nat) (l:List UInt8),(spl c k l).length=k+1
 | 0,l=>rfl
 | k+1,l=>by unfold spl;rw [List.length_cons,V4 c k]
theorem zj6 {c:UInt8} {l:List UInt8} (h:0<l.count c):has c l=true:=by
 unfold has
 rw [List.contains_iff_mem]
 exact List.count_pos_iff.1 h
theorem zf2 {c:UInt8} (l:List UInt8):(ahead c l).count c=0:=by
 rw [List.count_eq_zero]
 intro h
 unfold ahead at h
 have:=List.all_takeWhile (p:=(· != c)) (l:=l)
 rw [List.all_eq_true] at this
 have:=this c h
 simp at this
theorem zei {c:UInt8} {l:List UInt8} (h:has c l=true):(ym c l).count c+1=l.count c:=by
 conv=>rhs;rw [zle h]
 rw [List.count_append,zf2,List.count_cons]
 simp
theorem zqu:(Tryz.prog.info? 9).map (fun i=>(i.zero,i.size,i.bytes))=some (some (.string ⟨#[]⟩),1,16):=by kernel_rfl
theorem Tryz.underlying77:Tryz.prog.underlying 77=some (.slice 9):=by kernel_rfl
theorem zoe (k:IntKind) (n:Nat) (hn:n<=4294967296) (w:World):
 (Instr.makeSlice 77 (.int k (n:Int)) (.int k (n:Int))).run Tryz.prog w= .ok (.slice (some ⟨w.heap.size,0,none⟩) n n) (w.alloc (.cells (Lib.cellsOf [] n) 9)):=by
 obtain ⟨i,hi,hzz⟩:=Option.map_eq_some_iff.1 zqu
 simp only [Prod.mk.injEq] at hzz
 obtain ⟨hz,hs,hb⟩:=hzz
 rw [run_make (P:=Tryz.prog) w 77 9 i _ Tryz.underlying77 hi hz k k n n (by omega) (by omega) (by rw [hb];omega) (by omega)]
 rw [hs,Lib.cellsOf_nil,Nat.mul_one]
 rfl
theorem zkz (s:ByteArray) (c:UInt8) (w:World):
 Calls Tryz.prog 144 #[.string s,.string ⟨#[c]⟩] w (Vd w (.int .i64 ((bts s).count c:Nat))):=by
 go_enter Tryz.func144,Tryz.ntmps144
 go_wp2
 rw [run_callFunc_extern Tryz.func195 (by kernel_rfl) (by kernel_rfl) (by kernel_rfl) (e:=Extern.BytealgCount.count) (by kernel_rfl),Lib.run_countString]
 simp only [Result.andThen]
 rw [Oper.upon_value]
 go_wp2
 go_ret
 refine ⟨?_,rfl⟩
 show Ending.returned (Value.int IntKind.i64 ((s.data.toList.count c:Nat):Int))=_
 rfl
theorem zi0 (s:ByteArray) (c:UInt8) (w:World):
 Calls Tryz.prog 145 #[.string s,.string ⟨#[c]⟩] w (Vd w (.int .i64 (Lib.indexByte s.data.toList c))):=by
 have h:=fun w=>zdy s c w
 go_enter Tryz.func145,Tryz.ntmps145
 go_wp2_with fail
 refine (h _).mono ?_
 rintro e w' ⟨rfl,rfl⟩
 go_wp2
 go_ret
 exact ⟨rfl,rfl⟩
def zh8 (w:World) (l:List (List UInt8)) (e:Ending) (w' :World):Prop:=
 ∃ g,e= .returned (.slice (some ⟨g,0,none⟩) l.length l.length)/\Blk w' g 9 (l.map str).toArray/\w.heap.size<=g/\Below w.heap.size w w'
def SplR (w0:World) (g n:Nat) (c:UInt8) (l:List (List UInt8)) (sv iv:Value) (wr:World):Prop:=
 ∃ (d:Nat) (done:List ByteArray) (s:ByteArray),sv= .string s/\iv= .int .i64 (d:Nat)/\d<=n/\Hid (done.length=d)/\Hid ((bts s).count c=n - d)/\Hid (done.map bts ++ spl c (n - d) (bts s)=l)/\
  s.size<=1073741824/\Hid (Blk wr g 9 (Lib.cellsOf done (n+1)))/\Hid (Below w0.heap.size w0 wr)
theorem zgt {done:List ByteArray} {N:Nat} (h:done.length=N):Lib.cellsOf done N=((done.map bts).map str).toArray:=by
 unfold Lib.cellsOf
 rw [h,Nat.sub_self,List.replicate_zero,List.append_nil,List.map_map]
 congr 1
set_option maxHeartbeats 4000000 in
theorem zjx (s:ByteArray) (c:UInt8) (w:World) (hs:s.size<=1073741824):
 Calls Tryz.prog 83 #[.string s,.string ⟨#[c]⟩,.int .i64 0,.int .i64 (-1)] w (zh8 w (spl c ((bts s).count c) (bts s))):=by
 obtain ⟨n,hn⟩:∃ n,(bts s).count c=n:=⟨_,rfl⟩
 have hle:n<=s.size:=by rw [<- hn, <- zo];exact List.count_le_length
 have hct:=fun w=>zkz s c w
 have hnb:n<=1073741824:=by omega
 rw [hn] at hct |-
 have hmk:=fun w=>zoe .i64 (n+1) (by omega) w
 have e1:IntKind.i64.wrap ((n:Int)+1)=(n:Int)+1:=by rw [IntKind.wrap_i64];omega
 have e2:IntKind.i64.wrap ((s.size:Int)+1)=(s.size:Int)+1:=by rw [IntKind.wrap_i64];omega
 have e4:min ((n:Int)+1) ((s.size:Int)+1)=(n:Int)+1:=by omega
 have e5:((n+1:Nat):Int)=(n:Int)+1:=by omega
 rw [e5] at hmk
 have HN:=ze hn
 obtain ⟨l,HL⟩:∃ l,Hid (spl c n (bts s)=l):=⟨_,rfl⟩
 have HLL:Hid (l.length=n+1):=by rw [<- HL.out];exact V4 c n _
 rw [HL.out]
 clear hn
 go_enter Tryz.func83,Tryz.ntmps83
 go_wp2_with fail
 refine (hct _).mono ?_
 rintro e w9 ⟨rfl,rfl⟩
 clear hct
 go_upto_region 9 with fail
 have HK:=ze (Blk.new w 9 (Lib.cellsOf [] (n+1)))
 have HX:=ze (zf w (.cells (Lib.cellsOf [] (n+1)) 9))
 have HG:=ze (Nat.le_refl w.heap.size)
 generalize w.alloc (.cells (Lib.cellsOf [] (n+1)) 9)=W at HK HX |-
 generalize hgg:w.heap.size=g at HK |-
 have HGG:Hid (w.heap.size<=g):=Nat.le_of_eq hgg
 clear hgg HG hmk e2 e4 e5
 go_wp2_with fail
 go_loopw [0,10] (SplR w g n c l) (fun _ iv _=>n - (intOf iv).toNat)
 case atStart=>exact ⟨0,[],s,rfl,rfl,Nat.zero_le _,rfl,HN.out,HL.out,hs,HK,HX⟩
 case round=>
  clear HK HX HN HL hs
  obtain ⟨d,done,s,rfl,rfl,hdn,HD,HCT,HSP,hs,HK,HX⟩:=hrel
  by_cases hlt:d<n
  . have hli:(d:Int)<(n:Int):=by omega
    have hli2:(d:Int)<(n:Int)+1:=by omega
    have hh:has c (bts s)=true:=zj6 (by rw [HCT.out];omega);have hxi:=fun w=>zi0 s c w
    have hi:Lib.indexByte s.data.toList c=((ahead c (bts s)).length:Int):=XF hh;rw [hi] at hxi;obtain ⟨h1,h2,h3⟩:=zas hh;have HH:=ze hh;clear hi hh;generalize (ahead c (bts s)).length=k at h1 h2 h3 hxi;have d1:decide ((k:Int)<0)=false:=by rw [decide_eq_false_iff_not];omega
    have e6:IntKind.i64.wrap ((k:Int)+0)=(k:Int):=by rw [IntKind.wrap_i64];omega
    have e7:IntKind.i64.wrap ((k:Int)+1)=(k:Int)+1:=by rw [IntKind.wrap_i64];omega
    have hks:(k:Int)<=(s.size:Int):=by omega
    have hks1:(k:Int)+1<=(s.size:Int):=by omega
    have hdd:done.length<n+1:=by rw [HD.out];omega
    have c1:wr.cell? ⟨g,d,none⟩=some (.string ByteArray.empty):=by rw [HK.out.cell, <- HD.out];exact Lib.cellsOf_next hdd
    have f1:=HK.out.frozen d;have hb2:=HK.out.set_ d (.string (s.extract 0 k));rw [<- HD.out,Lib.cellsOf_set hdd,HD.out] at hb2;have HK2:=ze hb2;have HX2:Hid (Below w.heap.size w (wr.setCell ⟨g,d,none⟩ (.string (s.extract 0 k)))):=HX.out.setCell HGG.out _;have HD2:Hid ((done ++ [s.extract 0 k]).length=d+1):=by show _=_;rw [List.length_append,HD.out];rfl
    have HCT2:Hid ((bts (s.extract (k+1) s.size)).count c=n - (d+1)):=by
     have:=zei HH.out;have h4:=HCT.out
     show _=_
     rw [h3];omega
    have HSP2:Hid ((done ++ [s.extract 0 k]).map bts ++ spl c (n - (d+1)) (bts (s.extract (k+1) s.size))=l):=by
     show _=_
     rw [<- HSP.out,List.map_append,List.map_cons,List.map_nil,h2,h3,show n - d=(n - (d+1))+1 by omega,spl]
     simp
    have hsz2:(s.extract (k+1) s.size).size<=1073741824:=by simp;omega
    clear hb2 HK HX HD HCT HSP h2 h3 HH hdd;go_wp2_with fail;refine (hxi _).mono ?_;rintro e w2 ⟨rfl,rfl⟩;clear hxi;go_wp2_with fail;go_roundw
    case rel=>first | exact ⟨d+1,_,_,rfl,by go_num,by omega,HD2,HCT2,HSP2,hsz2,HK2,HX2⟩ | ((repeat apply Exists.intro);exact ⟨⟨d+1,_,_,rfl,by go_num,by omega,HD2,HCT2,HSP2,hsz2,HK2,HX2⟩,rfl⟩)
    case measure=>simp [intOf];omega
  . obtain rfl:n=d:=by omega
    have hdd:done.length<n+1:=by rw [HD.out];omega
    have c1:wr.cell? ⟨g,n,none⟩=some (.string ByteArray.empty):=by rw [HK.out.cell, <- HD.out];exact Lib.cellsOf_next (by rw [HD.out];omega)
    have f1:=HK.out.frozen n;have hb2:=HK.out.set_ n (.string s)
    have h5:(Lib.cellsOf done (n+1)).setIfInBounds n (.string s)=(l.map str).toArray:=by
     have h6:=Lib.cellsOf_set hdd s;rw [HD.out] at h6;rw [h6,zgt (by rw [List.length_append,HD.out];rfl), <- HSP.out,Nat.sub_self,List.map_append]
     rfl
    rw [h5] at hb2;have HK2:=ze hb2;have HX2:Hid (Below w.heap.size w (wr.setCell ⟨g,n,none⟩ (.string s))):=HX.out.setCell HGG.out _;have hn1:(n:Int)<(n:Int)+1:=by omega
    clear hb2 h5 HK HX HD HCT HSP hdd;go_wp2_with fail;go_ret;refine ⟨g,?_,HK2.out,HGG.out,HX2.out⟩;rw [HLL.out]
    go_num
theorem ze0 (s:ByteArray) (c:UInt8) (w:World) (hs:s.size<=1073741824):
 Calls Tryz.prog 38 #[.string s,.string ⟨#[c]⟩] w (zh8 w (spl c ((bts s).count c) (bts s))):=by
 have h:=fun w=>zjx s c w hs
 go_enter Tryz.func38,Tryz.ntmps38
 go_wp2_with fail
 refine (h _).mono ?_
 rintro e w' ⟨g,rfl,hb⟩
 have HB:=ze hb
 clear hb h
 go_wp2_with fail
 go_ret
 exact ⟨g,rfl,HB.out⟩
end Go.Proofs.YtkmcmmcencdcpaaGreatDoor
