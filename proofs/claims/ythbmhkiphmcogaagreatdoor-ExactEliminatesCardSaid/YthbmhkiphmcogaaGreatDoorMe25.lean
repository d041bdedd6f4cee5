/- Parts of the proof. -/
import Derived.Deep.DrawnRows
import Derived.Lib.Split
import Derived.Test.YthbmhkiphmcogaaGreatDoorMe13
set_option linter.all false
set_option maxRecDepth 100000
namespace Go.Proofs.YthbmhkiphmcogaaGreatDoor
open Proofs.Tryz Go.RowKit Go.Deep
attribute [local go_sem ↓] Go.wp_at_zero Go.wp_at_succ
def spl (c:UInt8):Nat->List UInt8->List (List UInt8)
 | 0,l=>[l]
 | k+1,l=>ahead c l :: spl c k (yt c l)
theorem zbn (c:UInt8):∀ (k:Nat) (l:List UInt8),(spl c k l).length=k+1
 | 0,l=>rfl
 | k+1,l=>by unfold spl;rw [List.length_cons,zbn c k]
theorem zql {c:UInt8} {l:List UInt8} (h:0<l.count c):has c l=true:=by
 unfold has
 rw [List.contains_iff_mem]
 exact List.count_pos_iff.1 h
theorem zjf {c:UInt8} (l:List UInt8):(ahead c l).count c=0:=by
 rw [List.count_eq_zero]
 intro h
 unfold ahead at h
 have:=List.all_takeWhile (p:=(· != c)) (l:=l)
 rw [List.all_eq_true] at this
 have:=this c h
 simp at this
theorem zim {c:UInt8} {l:List UInt8} (h:has c l=true):(yt c l).count c+1=l.count c:=by
 conv=>rhs;rw [znu h]
 rw [List.count_append,zjf,List.count_cons]
 simp
theorem ztu:(Tryz.prog.info? 9).map (fun i=>(i.zero,i.size,i.bytes))=some (some (.string ⟨#[]⟩),1,16):=by kernel_rfl
theorem Tryz.underlying72:Tryz.prog.underlying 72=some (.slice 9):=by kernel_rfl
theorem zrw (k:IntKind) (n:Nat) (hn:n<=4294967296) (w:World):
 (Instr.makeSlice 72 (.int k (n:Int)) (.int k (n:Int))).run Tryz.prog w= .ok (.slice (some ⟨w.heap.size,0,none⟩) n n) (w.alloc (.cells (Lib.cellsOf [] n) 9)):=by
 obtain ⟨i,hi,b⟩:=Option.map_eq_some_iff.1 ztu
 simp only [Prod.mk.injEq] at b
 obtain ⟨e,j,hb⟩:=b
 rw [run_make (P:=Tryz.prog) w 72 9 i _ underlying72 hi e k k n n (by omega) (by omega) (by rw [hb];omega) (by omega)]
 rw [j,Lib.cellsOf_nil,Nat.mul_one]
 rfl
theorem zqi (s:ByteArray) (c:UInt8) (w:World):
 Calls Tryz.prog 101 #[.string s,.string ⟨#[c]⟩] w (zbj w (.int .i64 ((bts s).count c:Nat))):=by
 go_enter func101,ntmps101
 go_wp2
 rw [run_callFunc_extern func144 (by kernel_rfl) (by kernel_rfl) (by kernel_rfl) (e:=Extern.BytealgCount.count) (by kernel_rfl),Lib.run_countString]
 simp only [Result.andThen]
 rw [Oper.upon_value]
 go_wp2
 go_ret
 refine ⟨?_,rfl⟩
 show Ending.returned (Value.int IntKind.i64 ((s.data.toList.count c:Nat):Int))=_
 rfl
theorem zm5 (s:ByteArray) (c:UInt8) (w:World):
 Calls Tryz.prog 102 #[.string s,.string ⟨#[c]⟩] w (zbj w (.int .i64 (Lib.indexByte s.data.toList c))):=by
 have h:=fun w=>zh6 s c w
 go_enter func102,ntmps102
 go_wp2_with fail
 refine (h _).mono ?_
 rintro e w' ⟨rfl,rfl⟩
 go_wp2
 go_ret
 exact ⟨rfl,rfl⟩
def zll (w:World) (l:List (List UInt8)) (e:Ending) (w' :World):Prop:=
 ∃ g,e= .returned (.slice (some ⟨g,0,none⟩) l.length l.length)/\Blk w' g 9 (l.map str).toArray/\w.heap.size<=g/\Below w.heap.size w w'
def SplR (w0:World) (g n:Nat) (c:UInt8) (l:List (List UInt8)) (sv iv:Value) (wr:World):Prop:=
 ∃ (d:Nat) (done:List ByteArray) (s:ByteArray),sv= .string s/\iv= .int .i64 (d:Nat)/\d<=n/\Hid (done.length=d)/\Hid ((bts s).count c=n - d)/\Hid (done.map bts ++ spl c (n - d) (bts s)=l)/\
  s.size<=1073741824/\Hid (Blk wr g 9 (Lib.cellsOf done (n+1)))/\Hid (Below w0.heap.size w0 wr)
theorem zjj {done:List ByteArray} {N:Nat} (h:done.length=N):Lib.cellsOf done N=((done.map bts).map str).toArray:=by
 unfold Lib.cellsOf
 rw [h,Nat.sub_self,List.replicate_zero,List.append_nil,List.map_map]
 congr 1
set_option maxHeartbeats 4000000 in
theorem zn1 (s:ByteArray) (c:UInt8) (w:World) (M:s.size<=1073741824):
 Calls Tryz.prog 57 #[.string s,.string ⟨#[c]⟩,.int .i64 0,.int .i64 (-1)] w (zll w (spl c ((bts s).count c) (bts s))):=by
 obtain ⟨n,G⟩:∃ n,(bts s).count c=n:=⟨_,rfl⟩
 have af:n<=s.size:=by rw [<- G, <- zm];exact List.count_le_length
 have K:=fun w=>zqi s c w
 have ad:n<=1073741824:=by omega
 rw [G] at K |-
 have O:=fun w=>zrw .i64 (n+1) (by omega) w
 have e1:IntKind.i64.wrap ((n:Int)+1)=(n:Int)+1:=by rw [IntKind.wrap_i64];omega
 have Z:IntKind.i64.wrap ((s.size:Int)+1)=(s.size:Int)+1:=by rw [IntKind.wrap_i64];omega
 have e4:min ((n:Int)+1) ((s.size:Int)+1)=(n:Int)+1:=by omega
 have V:((n+1:Nat):Int)=(n:Int)+1:=by omega
 rw [V] at O
 have X:=ze G
 obtain ⟨l,z⟩:∃ l,Hid (spl c n (bts s)=l):=⟨_,rfl⟩
 have aa:Hid (l.length=n+1):=by rw [<- z.o];exact zbn c n _
 rw [z.o]
 clear G
 go_enter func57,ntmps57
 go_wp2_with fail
 refine (K _).mono ?_
 rintro e w9 ⟨rfl,rfl⟩
 clear K
 go_upto_region 9 with fail
 have b:=ze (Blk.new w 9 (Lib.cellsOf [] (n+1)))
 have m:=ze (zf w (.cells (Lib.cellsOf [] (n+1)) 9))
 have HG:=ze (Nat.le_refl w.heap.size)
 generalize w.alloc (.cells (Lib.cellsOf [] (n+1)) 9)=W at b m |-
 generalize U:w.heap.size=g at b |-
 have L:Hid (w.heap.size<=g):=Nat.le_of_eq U
 clear U HG O Z e4 V
 go_wp2_with fail
 go_loopw [0,10] (SplR w g n c l) (fun _ iv _=>n - (intOf iv).toNat)
 case atStart=>exact ⟨0,[],s,rfl,rfl,Nat.zero_le _,rfl,X.o,z.o,M,b,m⟩
 case round=>
  clear b m X z M
  obtain ⟨d,done,s,rfl,rfl,ai,j,I,y,M,b,m⟩:=hrel
  by_cases ab:d<n
  rotate_left
  . obtain rfl:n=d:=by omega
    have u:done.length<n+1:=by rw [j.o];omega
    have c1:wr.cell? ⟨g,n,none⟩=some (.string ByteArray.empty):=by rw [b.o.cell, <- j.o];exact Lib.cellsOf_next (by rw [j.o];omega)
    have f1:=b.o.frozen n;have r:=b.o.set_ n (.string s)
    have T:(Lib.cellsOf done (n+1)).setIfInBounds n (.string s)=(l.map str).toArray:=by
     have S:=Lib.cellsOf_set u s;rw [j.o] at S;rw [S,zjj (by rw [List.length_append,j.o];rfl), <- y.o,Nat.sub_self,List.map_append]
     rfl
    rw [T] at r;have F:=ze r;have E:Hid (Below w.heap.size w (wr.setCell ⟨g,n,none⟩ (.string s))):=m.o.setCell L.o _;have ag:(n:Int)<(n:Int)+1:=by omega
    clear r T b m j I y u;go_wp2_with fail;go_ret;refine ⟨g,?_,F.o,L.o,E.o⟩;rw [aa.o]
    go_num
  have aj:(d:Int)<(n:Int):=by omega
  have ae:(d:Int)<(n:Int)+1:=by omega
  have D:has c (bts s)=true:=zql (by rw [I.o];omega);have B:=fun w=>zm5 s c w
  have hi:Lib.indexByte s.data.toList c=((ahead c (bts s)).length:Int):=VY D;rw [hi] at B;obtain ⟨h1,J,C⟩:=zc6 D;have HH:=ze D;clear hi D;generalize (ahead c (bts s)).length=k at h1 J C B;have d1:decide ((k:Int)<0)=false:=by rw [decide_eq_false_iff_not];omega
  have e6:IntKind.i64.wrap ((k:Int)+0)=(k:Int):=by rw [IntKind.wrap_i64];omega
  have e7:IntKind.i64.wrap ((k:Int)+1)=(k:Int)+1:=by rw [IntKind.wrap_i64];omega
  have ac:(k:Int)<=(s.size:Int):=by omega
  have ah:(k:Int)+1<=(s.size:Int):=by omega
  have u:done.length<n+1:=by rw [j.o];omega
  have c1:wr.cell? ⟨g,d,none⟩=some (.string ByteArray.empty):=by rw [b.o.cell, <- j.o];exact Lib.cellsOf_next u
  have f1:=b.o.frozen d;have r:=b.o.set_ d (.string (s.extract 0 k));rw [<- j.o,Lib.cellsOf_set u,j.o] at r;have F:=ze r;have E:Hid (Below w.heap.size w (wr.setCell ⟨g,d,none⟩ (.string (s.extract 0 k)))):=m.o.setCell L.o _;have N:Hid ((done ++ [s.extract 0 k]).length=d+1):=by show _=_;rw [List.length_append,j.o];rfl
  have R:Hid ((bts (s.extract (k+1) s.size)).count c=n - (d+1)):=by
   have:=zim HH.out;have h4:=I.o
   show _=_
   rw [C];omega
  have Y:Hid ((done ++ [s.extract 0 k]).map bts ++ spl c (n - (d+1)) (bts (s.extract (k+1) s.size))=l):=by
   show _=_
   rw [<- y.o,List.map_append,List.map_cons,List.map_nil,J,C,show n - d=(n - (d+1))+1 by omega,spl]
   simp
  have Q:(s.extract (k+1) s.size).size<=1073741824:=by simp;omega
  clear r b m j I y J C HH u;go_wp2_with fail;refine (B _).mono ?_;rintro e w2 ⟨rfl,rfl⟩;clear B;go_wp2_with fail;go_roundw
  case rel=>first | exact ⟨d+1,_,_,rfl,by go_num,by omega,N,R,Y,Q,F,E⟩ | ((repeat apply Exists.intro);exact ⟨⟨d+1,_,_,rfl,by go_num,by omega,N,R,Y,Q,F,E⟩,rfl⟩)
  case measure=>simp [intOf];omega
theorem zhn (s:ByteArray) (c:UInt8) (w:World) (hs:s.size<=1073741824):
 Calls Tryz.prog 25 #[.string s,.string ⟨#[c]⟩] w (zll w (spl c ((bts s).count c) (bts s))):=by
 have h:=fun w=>zn1 s c w hs
 go_enter func25,ntmps25
 go_wp2_with fail
 refine (h _).mono ?_
 rintro e w' ⟨g,rfl,hb⟩
 have b:=ze hb
 clear hb h
 go_wp2_with fail
 go_ret
 exact ⟨g,rfl,b.o⟩
end Go.Proofs.YthbmhkiphmcogaaGreatDoor
