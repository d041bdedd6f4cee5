/- Parts of the proof. -/
import Derived.Deep.DrawnRows
import Derived.Lib.Split
import Derived.Test.YtobdoblpnanclaaGreatDoorMo14
set_option linter.all false
set_option maxRecDepth 100000
namespace Go.Proofs.YtobdoblpnanclaaGreatDoor
open Proofs.Tryz Go.RowKit Go.Deep
attribute [local go_sem ↓] Go.wp_at_zero Go.wp_at_succ
def spl (c:UInt8):Nat->List UInt8->List (List UInt8)
 | 0,l=>[l]
 | k+1,l=>ahead c l :: spl c k (yo c l)
theorem VQ (c:UInt8):∀ (k:Nat) (l:List UInt8),(spl c k l).length=k+1
 | 0,l=>rfl
 | k+1,l=>by unfold spl;rw [List.length_cons,VQ c k]
theorem zo7 {c:UInt8} {l:List UInt8} (h:0<l.count c):has c l=true:=by
 unfold has
 rw [List.contains_iff_mem]
 exact List.count_pos_iff.1 h
theorem zj4 {c:UInt8} (l:List UInt8):(ahead c l).count c=0:=by
 rw [List.count_eq_zero]
 intro h
 unfold ahead at h
 have:=List.all_takeWhile (p:=(· != c)) (l:=l)
 rw [List.all_eq_true] at this
 have:=this c h
 simp at this
theorem zgb {c:UInt8} {l:List UInt8} (h:has c l=true):(yo c l).count c+1=l.count c:=by
 conv=>rhs;rw [zp0 h]
 rw [List.count_append,zj4,List.count_cons]
 simp
theorem zu9:(prog.info? 9).map (fun i=>(i.zero,i.size,i.bytes))=some (some (.string ⟨#[]⟩),1,16):=by kernel_rfl
theorem Tryz.underlying52:prog.underlying 52=some (.slice 9):=by kernel_rfl
theorem zr7 (k:IntKind) (n:Nat) (hn:n<=4294967296) (w:World):
 (Instr.makeSlice 52 (.int k (n:Int)) (.int k (n:Int))).run prog w= .ok (.slice (some ⟨w.heap.size,0,none⟩) n n) (w.alloc (.cells (Lib.cellsOf [] n) 9)):=by
 obtain ⟨i,hi,b⟩:=Option.map_eq_some_iff.1 zu9
 simp only [Prod.mk.injEq] at b
 obtain ⟨j,e,hb⟩:=b
 rw [run_make (P:=prog) w 52 9 i _ underlying52 hi j k k n n (by omega) (by omega) (by rw [hb];omega) (by omega)]
 rw [e,Lib.cellsOf_nil,Nat.mul_one]
 rfl
theorem zpi (s:ByteArray) (c:UInt8) (w:World):
 Calls prog 105 #[.string s,.string ⟨#[c]⟩] w (zaw w (.int .i64 ((bts s).count c:Nat))):=by
 go_in
 go_wp2
 rw [run_callFunc_extern func126 (by kernel_rfl) (by kernel_rfl) (by kernel_rfl) (e:=Extern.BytealgCount.count) (by kernel_rfl),Lib.run_countString]
 simp only [Result.andThen]
 rw [Oper.upon_value]
 go_wp2
 go_ret
 refine ⟨?_,rfl⟩
 show Ending.returned (Value.int IntKind.i64 ((s.data.toList.count c:Nat):Int))=_
 rfl
theorem zmj (s:ByteArray) (c:UInt8) (w:World):
 Calls prog 106 #[.string s,.string ⟨#[c]⟩] w (zaw w (.int .i64 (Lib.indexByte s.data.toList c))):=by
 have h:=fun w=>zhd s c w
 go_in
 go_wp2_with fail
 refine (h _).mono ?_
 rintro e w' ⟨rfl,rfl⟩
 go_wp2
 go_ret
 exact ⟨rfl,rfl⟩
def zk7 (w:World) (l:List (List UInt8)) (e:Ending) (w' :World):Prop:=
 ∃ g,e= .returned (.slice (some ⟨g,0,none⟩) l.length l.length)/\Blk w' g 9 (l.map str).toArray/\w.heap.size<=g/\Below w.heap.size w w'
def SplR (w0:World) (g n:Nat) (c:UInt8) (l:List (List UInt8)) (sv iv:Value) (wr:World):Prop:=
 ∃ (d:Nat) (done:List ByteArray) (s:ByteArray),sv= .string s/\iv= .int .i64 (d:Nat)/\d<=n/\Hid (done.length=d)/\Hid ((bts s).count c=n - d)/\Hid (done.map bts ++ spl c (n - d) (bts s)=l)/\
  s.size<=1073741824/\Hid (Blk wr g 9 (Lib.cellsOf done (n+1)))/\Hid (Below w0.heap.size w0 wr)
theorem zik {done:List ByteArray} {N:Nat} (h:done.length=N):Lib.cellsOf done N=((done.map bts).map str).toArray:=by
 unfold Lib.cellsOf
 rw [h,Nat.sub_self,List.replicate_zero,List.append_nil,List.map_map]
 congr 1
set_option maxHeartbeats 4000000 in
theorem zpl (s:ByteArray) (c:UInt8) (w:World) (M:s.size<=1073741824):
 Calls prog 64 #[.string s,.string ⟨#[c]⟩,.int .i64 0,.int .i64 (-1)] w (zk7 w (spl c ((bts s).count c) (bts s))):=by
 obtain ⟨n,G⟩:=uR ((bts s).count c)
 have af:n<=s.size:=by rw [<- G, <- zt];exact List.count_le_length
 have K:=fun w=>zpi s c w
 have ag:n<=1073741824:=by omega
 rw [G] at K |-
 have V:=fun w=>zr7 .i64 (n+1) (by omega) w
 have e1:IntKind.i64.wrap ((n:Int)+1)=(n:Int)+1:=by rw [IntKind.wrap_i64];omega
 have e2:IntKind.i64.wrap ((s.size:Int)+1)=(s.size:Int)+1:=by rw [IntKind.wrap_i64];omega
 have e4:min ((n:Int)+1) ((s.size:Int)+1)=(n:Int)+1:=by omega
 have N:((n+1:Nat):Int)=(n:Int)+1:=by omega
 rw [N] at V
 have T:=ze G
 obtain ⟨l,E⟩:∃ l,Hid (spl c n (bts s)=l):=⟨_,rfl⟩
 have Z:Hid (l.length=n+1):=by rw [<- E.o];exact VQ c n _
 rw [E.o]
 clear G
 go_in
 go_wp2_with fail
 refine (K _).mono ?_
 rintro e w9 ⟨rfl,rfl⟩
 clear K
 go_upto_region 9 with fail
 have b:=ze (Blk.new w 9 (Lib.cellsOf [] (n+1)))
 have m:=ze (zf w (.cells (Lib.cellsOf [] (n+1)) 9))
 have HG:=ze (Nat.le_refl w.heap.size)
 generalize w.alloc (.cells (Lib.cellsOf [] (n+1)) 9)=W at b m |-
 generalize U:w.heap.size=g at b |-
 have L:Hid (w.heap.size<=g):=Nat.le_of_eq U
 clear U HG V e2 e4 N
 go_wp2
 go_loopw [0,10] (SplR w g n c l) (fun _ iv _=>n - (intOf iv).toNat)
 case atStart=>exact ⟨0,[],s,rfl,rfl,uB,rfl,T.o,E.o,M,b,m⟩
 case round=>
  clear b m T E M
  obtain ⟨d,done,s,rfl,rfl,hdn,j,F,B,M,b,m⟩:=hrel
  by_cases aa:d<n
  rotate_left
  . obtain rfl:n=d:=by omega
    have u:done.length<n+1:=by rw [j.o];omega
    have c1:wr.cell? ⟨g,n,none⟩=some (.string ByteArray.empty):=by rw [b.o.cell, <- j.o];exact Lib.cellsOf_next (by rw [j.o];omega)
    have f1:=b.o.frozen n;have r:=b.o.set_ n (.string s)
    have R:(Lib.cellsOf done (n+1)).setIfInBounds n (.string s)=(l.map str).toArray:=by
     have X:=Lib.cellsOf_set u s;rw [j.o] at X;rw [X,zik (by rw [List.length_append,j.o];rfl), <- B.o,Nat.sub_self,List.map_append]
     rfl
    rw [R] at r;have z:=ze r;have y:Hid (Below w.heap.size w (wr.setCell ⟨g,n,none⟩ (.string s))):=m.o.setCell L.o _;have ab:(n:Int)<(n:Int)+1:=by omega
    clear r R b m j F B u;go_wp2;go_ret;refine ⟨g,?_,z.o,L.o,y.o⟩;rw [Z.o]
    go_num
  have ah:(d:Int)<(n:Int):=by omega
  have ac:(d:Int)<(n:Int)+1:=by omega
  have C:has c (bts s)=true:=zo7 (by rw [F.o];omega);have I:=fun w=>zmj s c w
  have hi:Lib.indexByte s.data.toList c=((ahead c (bts s)).length:Int):=Vp C;rw [hi] at I;obtain ⟨h1,J,D⟩:=zh7 C;have HH:=ze C;clear hi C;generalize (ahead c (bts s)).length=k at h1 J D I;have d1:decide ((k:Int)<0)=false:=by rw [decide_eq_false_iff_not];omega
  have e6:IntKind.i64.wrap ((k:Int)+0)=(k:Int):=by rw [IntKind.wrap_i64];omega
  have e7:IntKind.i64.wrap ((k:Int)+1)=(k:Int)+1:=by rw [IntKind.wrap_i64];omega
  have ad:(k:Int)<=(s.size:Int):=by omega
  have ae:(k:Int)+1<=(s.size:Int):=by omega
  have u:done.length<n+1:=by rw [j.o];omega
  have c1:wr.cell? ⟨g,d,none⟩=some (.string ByteArray.empty):=by rw [b.o.cell, <- j.o];exact Lib.cellsOf_next u
  have f1:=b.o.frozen d;have r:=b.o.set_ d (.string (s.extract 0 k));rw [<- j.o,Lib.cellsOf_set u,j.o] at r;have z:=ze r;have y:Hid (Below w.heap.size w (wr.setCell ⟨g,d,none⟩ (.string (s.extract 0 k)))):=m.o.setCell L.o _;have O:Hid ((done ++ [s.extract 0 k]).length=d+1):=by show _=_;rw [List.length_append,j.o];rfl
  have Q:Hid ((bts (s.extract (k+1) s.size)).count c=n - (d+1)):=by
   have:=zgb HH.out;have h4:=F.o
   show _=_
   rw [D];omega
  have S:Hid ((done ++ [s.extract 0 k]).map bts ++ spl c (n - (d+1)) (bts (s.extract (k+1) s.size))=l):=by
   show _=_
   rw [<- B.o,List.map_append,List.map_cons,List.map_nil,J,D,show n - d=(n - (d+1))+1 by omega,spl]
   simp
  have Y:(s.extract (k+1) s.size).size<=1073741824:=by simp;omega
  clear r b m j F B J D HH u;go_wp2_with fail;refine (I _).mono ?_;rintro e w2 ⟨rfl,rfl⟩;clear I;go_wp2;go_roundw
  case rel=>first | exact ⟨d+1,_,_,rfl,by go_num,by omega,O,Q,S,Y,z,y⟩ | ((repeat apply Exists.intro);exact ⟨⟨d+1,_,_,rfl,by go_num,by omega,O,Q,S,Y,z,y⟩,rfl⟩)
  case measure=>simp [intOf];omega
theorem zgc (s:ByteArray) (c:UInt8) (w:World) (hs:s.size<=1073741824):
 Calls prog 27 #[.string s,.string ⟨#[c]⟩] w (zk7 w (spl c ((bts s).count c) (bts s))):=by
 have h:=fun w=>zpl s c w hs
 go_in
 go_wp2_with fail
 refine (h _).mono ?_
 rintro e w' ⟨g,rfl,hb⟩
 have b:=ze hb
 clear hb h
 go_wp2
 go_ret
 exact ⟨g,rfl,b.o⟩
end Go.Proofs.YtobdoblpnanclaaGreatDoor
