/- Parts of the proof. -/
import Derived.Deep.RegionHeld3
import Derived.Deep.RegionLawGrows
import Derived.Test.YtobdoblpnanclaaGreatDoorMo08
set_option linter.all false
namespace Go.Proofs.YtobdoblpnanclaaGreatDoor
open Proofs.Tryz Go.RowKit Go.Deep
theorem zil {w:World} {B n:Nat} {ad:Addr} {xs:List Value} (h:ys w B 1 (some ad) n xs):∀ j u,xs[j]?=some u->w.cell? (ad.add j)=some u:=by
 intro j u hu
 rcases uN n with b | b
 . have:xs.length=0:=by have:=h.1;omega
   rw [uI this] at hu;simp at hu
 . obtain ⟨m,e,_,l⟩:=h.2 b
   injection e with e
   subst e;exact l j u hu
def zn2 (x0 x1:Nat):Array Value:=#[.int .u32 x0,.int .u32 x1,.int .u32 0,.int .u32 0,.int .u32 0,.int .u32 0,.int .u32 0,.int .u32 0]
theorem zho {W:World} {g t x0 x1:Nat} (h:Blk W g t (zn2 x0 x1)):∀ j u,(Xc [x0,x1])[j]?=some u->W.cell? ((⟨g,0,none⟩:Addr).add j)=some u:=by
 have b:=h.reads (n:=2) (by simp [zn2])
 exact zil b
theorem zqt {w:World} {base base' :Nat} {e:TypeId} {size:Nat} {v:Value} {n:Nat} {xs:List Value} (h:w.ownsRow base e size v n xs) (hb:base' <=base):w.ownsRow base' e size v n xs:=by
 refine ⟨h.1,?_⟩
 rcases h.2 with l | ⟨g,j,b,hv,m,r⟩
 . exact .inl l
 . exact .inr ⟨g,j,b,hv,by omega,r⟩
def zvx (w:World) (g x0 x1:Nat) (e:Ending) (w' :World):Prop:=
 e= .returned (.tuple #[])/\∃ A c,Blk w' g 190 #[.slice A 2 c]/\w'.ownsRow w.heap.size 158 1 (.slice A 2 c) 2 (Xc [x0,x1])/\2<=c/\c<=maxLen/\w.grownBy w' (some g)
set_option maxRecDepth 100000 in
theorem zun (g x0 x1:Nat) (w:World) (hg:Blk w g 190 #[.slice none 0 0]):
 Calls prog 130 #[.pointer (some ⟨g,0,none⟩),.agg #[.int .u32 x0,.int .u32 x1,.int .u32 0,.int .u32 0,.int .u32 0,.int .u32 0,.int .u32 0,.int .u32 0],.int .i64 2] w
  (zvx w g x0 x1):=by
 obtain ⟨M,I,D,L,N⟩:=info_parts znf
 have X:=hg.cell 0;have U:=hg.frozen 0;have S:=hg.lt
 go_in
 go_wp2
 have E:∀ n,∀ j u,(Xc [x0,x1])[j]?=some u->((w.alloc (.cells #[Value.int IntKind.u32 ↑x0,Value.int IntKind.u32 ↑x1,Value.int IntKind.u32 0,Value.int IntKind.u32 0,Value.int IntKind.u32 0,Value.int IntKind.u32 0,Value.int IntKind.u32 0,Value.int IntKind.u32 0] 192)).drewN n).cell? ((⟨w.heap.size,0,none⟩:Addr).add j)=some u:=
  fun n=>zho (W:=(w.alloc (.cells (zn2 x0 x1) 192)).drewN n) ((Blk.new _ _ _).drewN n)
 go_region_law (refine step_append_grows rfl (.tmp 10) (.tmp 12) 55 rfl 158 M _ 1 4 underlying55 I D L N rfl (by decide) none 0 0 [] (by simp [Act.eval,Act.put]) (fun _=>⟨rfl,rfl⟩) rfl (by intro b h;cases h) ⟨w.heap.size,0,none⟩ 2 8 (Xc [x0,x1]) (by simp [Act.eval,Act.put]) rfl (E 1) (zdo _) (by omega) (by unfold maxLen;omega) (by omega) ?_;intro T R m l;obtain ⟨z,y,rfl,_,_⟩:=m.form (by omega);have r:=((hg.alloc _).drewN 1).grown l (by simp);have Q:=r.cell 0;have V:=r.frozen 0;simp at Q)
 go_end0
 refine ⟨rfl,some ⟨z,0,none⟩,y,?_,?_,?_,?_,?_⟩
 . exact r.set_ 0 (.slice (some ⟨z,0,none⟩) 2 y)
 . exact zqt (ownsRow_setCell_below (a:=⟨g,0,none⟩) m (by simp;omega) _) (by simp)
 . rcases m.2 with ⟨h,_⟩ | ⟨g',K,O,hv,_,_,J,C,_⟩
   . cases h
   . injection hv with _ _ hv;omega
 . rcases m.2 with ⟨h,_⟩ | ⟨g',K,O,hv,_,_,J,C,_⟩
   . cases h
   . injection hv with _ _ hv;omega
 . refine ⟨l.os,l.tape,l.output,?_,?_⟩
   . have:=l.size;simp [World.setCell] at this |-;omega
   intro k G B
   have F:k≠g:=fun e=>B (by rw [e])
   rw [Below.heap_setCell _ _ _ _ F,l.block k (by simp;omega) (by simp)];exact Below.heap_alloc _ _ _ G
theorem ztg (n:Nat):val 4294967296 [n % 4294967296,n / 4294967296]=n:=by simp only [val];omega
theorem zlp (n:Nat) (hn:n<18446744073709551616) (w:World):Calls prog 114 #[.int .u64 n] w (Vo w n):=by
 have z:zP 4294967296 [n % 4294967296,n / 4294967296]:=zP.cons (Nat.mod_lt _ (by omega)) (Vn (by omega))
 go_in
 go_wp2_with fail
 refine (zun w.heap.size (n % 4294967296) (n / 4294967296) _ (Blk.new _ _ _)).mono ?_
 rintro e B ⟨rfl,A,c,hb,m,r,l,y⟩
 have C:=(bp1 hb).1
 have u:=ys.of_own m
 go_wp2_with (go_at_call 96;refine (Zv _ _ _ _ _ _ u z r l).mono ?_;rintro e w' ⟨v,rfl,j,rfl⟩)
 go_ret
 rw [ztg] at j
 refine ⟨v,rfl,j,?_⟩
 exact ((Below.refl _ _).alloc (uA) _).grown y (by simp) (by intro k b;injection b with b;omega)
theorem zu7 (w:World) (t d:Nat) (h0:0<d) (hd:d<4294967296):yt (w.alloc (.cells #[.int .u32 (d:Int)] t)) (.slice (some ⟨w.heap.size,0,none⟩) 1 1) d:=by
 refine ⟨some ⟨w.heap.size,0,none⟩,1,[d],rfl,by simp,by simp [maxLen],?_,⟨Vn hd,by simp;omega⟩,by simp [val]⟩
 have:=zj5 w t d
 simpa using this
theorem zc5 {d:Nat} (hd:d<4294967296):len 4294967296 d<=1:=xo (by omega) (by simpa using hd)
def bts (s:ByteArray):List UInt8:=s.data.toList
theorem zt (s:ByteArray):(bts s).length=s.size:=by
 show s.data.toList.length=s.data.size
 exact Array.length_toList
theorem Va (s:ByteArray) (k:Nat) (hk:k<s.size):(bts s)[k]'(by rw [zt];exact hk)=s[k]:=rfl
theorem ZZ (s:ByteArray) (a b:Nat):bts (s.extract a b)=((bts s).take b).drop a:=by
 simp [bts,ByteArray.data_extract,List.extract_eq_take_drop,List.drop_take]
def OfR (L:List UInt8) (w:World) (sv av:Value) (wr:World):Prop:=
 ∃ (t:ByteArray) (pre:List UInt8),sv= .string t/\Hid (L=pre ++ bts t)/\yt wr av (zQ pre)/\Below w.heap.size w wr
def OfI (t:ByteArray) (n:Nat) (xv bv iv:Value):Prop:=
 ∃ i x b:Nat,i<=n/\iv= .int .i64 i/\xv= .int .u32 x/\bv= .int .u32 b/\Hid (x=zQ ((bts t).take i))/\Hid (b=10 ^ i)
theorem zbn {l:List UInt8} {i:Nat} (hi:i<l.length):zQ (l.take (i+1))=10*zQ (l.take i)+dig l[i]:=by
 rw [zcp l i hi,zij]
theorem zrv {l:List UInt8} (h:l.all xO=true) (k:Nat):(l.take k).all xO=true:=by
 rw [List.all_eq_true] at*
 exact fun x hx=>h x (List.mem_of_mem_take hx)
theorem Xr {c:UInt8} (h:xO c=true):48<=c.toNat/\c.toNat<=57:=by
 simp [xO] at h;exact h
theorem zen {i:Nat} (hi:i<=9):10 ^ i<=1000000000:=by
 have:10 ^ i<=10 ^ 9:=Nat.pow_le_pow_right (by omega) hi
 exact this
theorem zcn {i:Nat} (hi:i<=8):10 ^ i<=100000000:=by
 have:10 ^ i<=10 ^ 8:=Nat.pow_le_pow_right (by omega) hi
 exact this
theorem XO {l:List UInt8} (h:l.all xO=true) (i:Nat):zQ (l.take i)<10 ^ i:=by
 have b:=zcs (zrv h i)
 exact uK b (Nat.pow_le_pow_right (by omega) (List.length_take_le _ _))
theorem Ya (s:ByteArray) (w:World) (hd:(bts s).all xO=true) (hs:s.size<=50000):
 Calls prog 47 #[.string s] w (Vo w (zQ (bts s))):=by
 have Z:=ze hd
 clear hd
 go_in
 go_wp2
 go_loopw [0,3] (OfR (bts s) w) (fun sv _ _=>match sv with | .string t=>t.size | _=>0)
 case atStart=>exact ⟨s,[],rfl,rfl,zio _,Below.refl _ _⟩
 case round=>
  obtain ⟨t,j,rfl,u,F,I⟩:=hrel
  have ap:j.length+t.size=s.size:=by
   have:=congrArg List.length u.o;rw [List.length_append,zt,zt] at this
   omega
  by_cases hz:0<t.size
  rotate_left
  . have Y:bts t=[]:=uI (by rw [zt];omega)
    have T:j=bts s:=by have:=u.o;rw [Y,List.append_nil] at this;exact this.symm
    have ad:=ze T;have an:t.size=0:=by omega
    clear Y T;go_wp2;go_ret;refine ⟨_,rfl,?_,I⟩;rw [<- ad.o];exact F
  have ab:(t.size - 1) % 9+1<=t.size/\(t.size - 1) % 9<9:=by omega
  have L:(bts t).all xO=true:=by
   have:=Z.o;rw [u.o,List.all_append,Bool.and_eq_true] at this;exact this.2
  have D:=ze L;clear L;obtain ⟨n,V⟩:=uQ ((t.size - 1) % 9+1);have z:n<=t.size/\n<=9/\1<=n:=by omega
  obtain ⟨ar,N,al⟩:=z;have ao:((t.size:Int) - 1) % 9+1=(n:Int):=by omega
  have HN:=ze V;clear V ab;go_wp2_with fail
  go_loop [5,6,17] (OfI t n) (fun _ _ iv=>n - (intOf iv).toNat)
  case atStart=>exact ⟨0,0,1,by omega,rfl,rfl,rfl,by rw [List.take_zero];rfl,rfl⟩
  case round=>
   obtain ⟨i,x,b,hi,rfl,rfl,rfl,B,m⟩:=hrel
   by_cases am:i<n
   . have hit:i<t.size:=by omega
     have U:i<(bts t).length:=by rw [zt];exact hit
     have E:xO t[i]=true:=by
      have:=List.all_eq_true.1 D.o _ (uO U)
      rwa [Va t i hit] at this
     obtain ⟨c1,c2⟩:=Xr E
     have hx:x<100000000:=by
      have r:=XO D.o i;have l:=zcn (i:=i) (by omega);rw [<- B.o] at r
      omega
     have hb:b<=100000000:=by
      have l:=zcn (i:=i) (by omega);rw [m.o];exact l
     have av:=ze E;clear E;go_wp2;go_round
     case rel=>
      refine ⟨i+1,10*x+(t[i].toNat - 48),b*10,by omega,by go_num,congrArg _ (by omega),by go_num,?_,?_⟩
      rotate_left
      . show _=_
        rw [m.o,Nat.pow_succ]
      show _=_
      rw [zbn U, <- B.o,Va t i hit]
      rfl
     case measure=>simp [intOf];omega
   obtain rfl:i=n:=by omega
   have X:b<=1000000000:=by rw [m.o];exact zen N
   have ag:0<b:=by rw [m.o];exact Nat.pow_pos (by omega)
   have aq:x<1000000000:=by
    have r:=XO D.o i;have l:=zen N;rw [<- B.o] at r
    omega
   have J:len 4294967296 (zQ j)<=50000:=by
    have r:zQ j<10 ^ j.length:=by
     apply zcs
     have:=Z.o;rw [u.o,List.all_append,Bool.and_eq_true] at this;exact this.1
    have l:zQ j<4294967296 ^ j.length:=uK r (Nat.pow_le_pow_left (by omega) _);have:=xo (β:=4294967296) (by omega) l
    omega
   have G:=zc5 (d:=x) (by omega);have K:=zc5 (d:=b) (by omega);have Q:=zok (β:=4294967296) (by omega) (zQ j) b;have HP:=ze (And.intro J (And.intro G (And.intro K Q)));have z:=zu7 wr 158 b ag (by omega);have M:=yt.below F ((Below.refl _ _).alloc (uA) (.cells #[.int .u32 (b:Int)] 158));have O:=ze (zci _ _ _ _ _ M z (by omega) (by omega));clear J G K Q z M;go_wp2_with fail;refine (zW O).mono ?_;rintro e y ⟨v1,rfl,ac,X⟩;have R:=ze (Zv (some ⟨y.heap.size,0,none⟩) 1 1 [x] (y.alloc (.cells #[.int .u32 (x:Int)] 158)) _ (zj5 y 158 x) (Vn (by omega)) (uA) (by simp [maxLen]));clear O;go_wp2_with fail;refine (zW R).mono ?_;rintro e w' ⟨S,rfl,C,rfl⟩;rw [zdx] at C;have ae :yt (y.alloc (.cells #[.int .u32 (x:Int)] 158)) S x:=C.below (Below.refl _ _) (by simp);have ai :=yt.below ac ((Below.refl _ _).alloc (uA) (.cells #[.int .u32 (x:Int)] 158));have ah:=ze (zcb v1 S _ _ _ ai ae (by have:=HP.o;omega) (by have:=HP.o;omega));clear R C;go_wp2_with fail;refine (zW ah).mono ?_
   rintro e w2 ⟨v3,rfl,af,ak⟩;have au:¬ ((t.size:Int)<(i:Int)):=by omega
   go_wp2;go_roundw
   case rel=>
    have aa:bts (t.extract i t.size)=(bts t).drop i:=by
     rw [ZZ,uJ (by rw [zt];exact uA)]
    have aj:((bts t).take i).length=i:=by rw [List.length_take,zt];omega
    refine ⟨t.extract i t.size,j ++ (bts t).take i,rfl,?_,?_,?_⟩
    . show _=_
      rw [aa,List.append_assoc,List.take_append_drop];exact u.o
    . rw [Vv,aj, <- B.o, <- m.o]
      exact af
    . exact ext I (ext (zf _ _) (ext X (ext (zf _ _) ak)))
   case measure=>
    show (t.extract i t.size).size<t.size
    rw [ByteArray.size_extract]
    omega
end Go.Proofs.YtobdoblpnanclaaGreatDoor
