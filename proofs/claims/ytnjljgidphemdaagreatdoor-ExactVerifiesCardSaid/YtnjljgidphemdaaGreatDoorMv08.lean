/- Parts of the proof. -/
import Derived.Deep.RegionHeld3
import Derived.Deep.RegionLawGrows
import Derived.Test.YtnjljgidphemdaaGreatDoorMv07
set_option linter.all false
namespace Go.Proofs.YtnjljgidphemdaaGreatDoor
open Proofs.Tryz Go.RowKit Go.Deep
theorem Yv {w:World} {B n:Nat} {ad:Addr} {xs:List Value} (h:yc w B 1 (some ad) n xs):∀ j u,xs[j]?=some u->w.cell? (ad.add j)=some u:=by
 intro j u hu
 rcases uN n with b | b
 . have:xs.length=0:=by have:=h.1;omega
   rw [uI this] at hu;simp at hu
 . obtain ⟨m,e,_,l⟩:=h.2 b
   injection e with e
   subst e;exact l j u hu
def zqd (x0 x1:Nat):Array Value:=#[.int .u32 x0,.int .u32 x1,.int .u32 0,.int .u32 0,.int .u32 0,.int .u32 0,.int .u32 0,.int .u32 0]
theorem zi0 {W:World} {g t x0 x1:Nat} (h:Blk W g t (zqd x0 x1)):∀ j u,(XQ [x0,x1])[j]?=some u->W.cell? ((⟨g,0,none⟩:Addr).add j)=some u:=by
 have b:=h.reads (n:=2) (by simp [zqd])
 exact Yv b
theorem zs3 {w:World} {base base' :Nat} {e:TypeId} {size:Nat} {v:Value} {n:Nat} {xs:List Value} (h:w.ownsRow base e size v n xs) (hb:base' <=base):w.ownsRow base' e size v n xs:=by
 refine ⟨h.1,?_⟩
 rcases h.2 with m | ⟨g,l,b,j,u,r⟩
 . exact .inl m
 . exact .inr ⟨g,l,b,j,by omega,r⟩
def zxz (w:World) (g x0 x1:Nat) (e:Ending) (w' :World):Prop:=
 e= .returned (.tuple #[])/\∃ A c,Blk w' g 232 #[.slice A 2 c]/\w'.ownsRow w.heap.size 170 1 (.slice A 2 c) 2 (XQ [x0,x1])/\2<=c/\c<=maxLen/\w.grownBy w' (some g)
set_option maxRecDepth 100000 in
theorem zwi (g x0 x1:Nat) (w:World) (hg:Blk w g 232 #[.slice none 0 0]):
 Calls prog 185 #[.pointer (some ⟨g,0,none⟩),.agg #[.int .u32 x0,.int .u32 x1,.int .u32 0,.int .u32 0,.int .u32 0,.int .u32 0,.int .u32 0,.int .u32 0],.int .i64 2] w
  (zxz w g x0 x1):=by
 obtain ⟨N,J,E,M,O⟩:=info_parts zps
 have Y:=hg.cell 0;have V:=hg.frozen 0;have T:=hg.lt
 go_in
 go_wp2
 have F:∀ n,∀ j u,(XQ [x0,x1])[j]?=some u->((w.alloc (.cells #[Value.int IntKind.u32 ↑x0,Value.int IntKind.u32 ↑x1,Value.int IntKind.u32 0,Value.int IntKind.u32 0,Value.int IntKind.u32 0,Value.int IntKind.u32 0,Value.int IntKind.u32 0,Value.int IntKind.u32 0] 234)).drewN n).cell? ((⟨w.heap.size,0,none⟩:Addr).add j)=some u:=
  fun n=>zi0 (W:=(w.alloc (.cells (zqd x0 x1) 234)).drewN n) ((Blk.new _ _ _).drewN n)
 go_region_law (refine step_append_grows rfl (.tmp 10) (.tmp 12) 65 rfl 170 N _ 1 4 underlying65 J E M O rfl (by decide) none 0 0 [] (by simp [Act.eval,Act.put]) (fun _=>⟨rfl,rfl⟩) rfl (by intro b h;cases h) ⟨w.heap.size,0,none⟩ 2 8 (XQ [x0,x1]) (by simp [Act.eval,Act.put]) rfl (F 1) (zet _) (by omega) (by unfold maxLen;omega) (by omega) ?_;intro U S r l;obtain ⟨B,z,rfl,_,_⟩:=r.form (by omega);have y:=((hg.alloc _).drewN 1).grown l (by simp);have R:=y.cell 0;have X:=y.frozen 0;simp at R)
 go_end0
 refine ⟨rfl,some ⟨B,0,none⟩,z,?_,?_,?_,?_,?_⟩
 . exact y.set_ 0 (.slice (some ⟨B,0,none⟩) 2 z)
 . exact zs3 (ownsRow_setCell_below (a:=⟨g,0,none⟩) r (by simp;omega) _) (by simp)
 . rcases r.2 with ⟨h,_⟩ | ⟨g',L,Q,m,_,_,K,D,_⟩
   . cases h
   . injection m with _ _ m;omega
 . rcases r.2 with ⟨h,_⟩ | ⟨g',L,Q,m,_,_,K,D,_⟩
   . cases h
   . injection m with _ _ m;omega
 . refine ⟨l.os,l.tape,l.output,?_,?_⟩
   . have:=l.size;simp [World.setCell] at this |-;omega
   intro k I C
   have G:k≠g:=fun e=>C (by rw [e])
   rw [Below.heap_setCell _ _ _ _ G,l.block k (by simp;omega) (by simp)];exact Below.heap_alloc _ _ _ I
theorem zve (n:Nat):val 4294967296 [n % 4294967296,n / 4294967296]=n:=by simp only [val];omega
theorem znu (n:Nat) (hn:n<18446744073709551616) (w:World):Calls prog 162 #[.int .u64 n] w (zaf w n):=by
 have z:zF 4294967296 [n % 4294967296,n / 4294967296]:=zF.cons (Nat.mod_lt _ (by omega)) (zac (by omega))
 go_in
 go_wp2_with fail
 refine (zwi w.heap.size (n % 4294967296) (n / 4294967296) _ (Blk.new _ _ _)).mono ?_
 rintro e B ⟨rfl,A,c,hb,m,r,l,y⟩
 have C:=(bp1 hb).1
 have u:=yc.of_own m
 go_wp2_with (go_at_call 113;refine (ZU _ _ _ _ _ _ u z r l).mono ?_;rintro e w' ⟨v,rfl,j,rfl⟩)
 go_ret
 rw [zve] at j
 refine ⟨v,rfl,j,?_⟩
 exact ((Below.refl _ _).alloc (uA) _).grown y (by simp) (by intro k b;injection b with b;omega)
theorem zw3 (w:World) (t d:Nat) (h0:0<d) (hd:d<4294967296):yH (w.alloc (.cells #[.int .u32 (d:Int)] t)) (.slice (some ⟨w.heap.size,0,none⟩) 1 1) d:=by
 refine ⟨some ⟨w.heap.size,0,none⟩,1,[d],rfl,by simp,by simp [maxLen],?_,⟨zac hd,by simp;omega⟩,by simp [val]⟩
 have:=zlu w t d
 simpa using this
theorem Zv {d:Nat} (hd:d<4294967296):len 4294967296 d<=1:=y8 (by omega) (by simpa using hd)
def bts (s:ByteArray):List UInt8:=s.data.toList
theorem zm (s:ByteArray):(bts s).length=s.size:=by
 show s.data.toList.length=s.data.size
 exact Array.length_toList
theorem Z6 (s:ByteArray) (k:Nat) (hk:k<s.size):(bts s)[k]'(by rw [zm];exact hk)=s[k]:=rfl
theorem Zb (s:ByteArray) (a b:Nat):bts (s.extract a b)=((bts s).take b).drop a:=by
 simp [bts,ByteArray.data_extract,List.extract_eq_take_drop,List.drop_take]
def OfR (L:List UInt8) (w:World) (sv av:Value) (wr:World):Prop:=
 ∃ (t:ByteArray) (pre:List UInt8),sv= .string t/\Hid (L=pre ++ bts t)/\yH wr av (zE pre)/\Below w.heap.size w wr
def OfI (t:ByteArray) (n:Nat) (xv bv iv:Value):Prop:=
 ∃ i x b:Nat,i<=n/\iv= .int .i64 i/\xv= .int .u32 x/\bv= .int .u32 b/\Hid (x=zE ((bts t).take i))/\Hid (b=10 ^ i)
theorem XN {l:List UInt8} {i:Nat} (hi:i<l.length):zE (l.take (i+1))=10*zE (l.take i)+dig l[i]:=by
 rw [Ve l i hi,zjz]
theorem zg7 {l:List UInt8} (h:l.all xp=true) (k:Nat):(l.take k).all xp=true:=by
 rw [List.all_eq_true] at*
 exact fun x hx=>h x (List.mem_of_mem_take hx)
theorem zs2 {l:List UInt8} (h:l.all xp=true) (k:Nat):(l.drop k).all xp=true:=by
 rw [List.all_eq_true] at*
 exact fun x hx=>h x (List.mem_of_mem_drop hx)
theorem ZQ {c:UInt8} (h:xp c=true):48<=c.toNat/\c.toNat<=57:=by
 simp [xp] at h;exact h
theorem zbu {i:Nat} (hi:i<=9):10 ^ i<=1000000000:=by
 have:10 ^ i<=10 ^ 9:=Nat.pow_le_pow_right (by omega) hi
 exact this
theorem zd2 {i:Nat} (hi:i<=8):10 ^ i<=100000000:=by
 have:10 ^ i<=10 ^ 8:=Nat.pow_le_pow_right (by omega) hi
 exact this
theorem VI {l:List UInt8} (h:l.all xp=true) (i:Nat):zE (l.take i)<10 ^ i:=by
 have b:=Vg (zg7 h i)
 exact uK b (Nat.pow_le_pow_right (by omega) (List.length_take_le _ _))
theorem YB (s:ByteArray) (w:World) (hd:(bts s).all xp=true) (hs:s.size<=50000):
 Calls prog 62 #[.string s] w (zaf w (zE (bts s))):=by
 have Z:=ze hd
 clear hd
 go_in
 go_wp2
 go_loopw [0,3] (OfR (bts s) w) (fun sv _ _=>match sv with | .string t=>t.size | _=>0)
 case atStart=>exact ⟨s,[],rfl,rfl,zj4 _,Below.refl _ _⟩
 case round=>
  obtain ⟨t,j,rfl,u,F,I⟩:=hrel
  have ap:j.length+t.size=s.size:=by
   have:=congrArg List.length u.o;rw [List.length_append,zm,zm] at this
   omega
  by_cases hz:0<t.size
  rotate_left
  . have Y:bts t=[]:=uI (by rw [zm];omega)
    have T:j=bts s:=by have:=u.o;rw [Y,List.append_nil] at this;exact this.symm
    have ad:=ze T;have an:t.size=0:=by omega
    clear Y T;go_wp2;go_ret;refine ⟨_,rfl,?_,I⟩;rw [<- ad.o];exact F
  have ab:(t.size - 1) % 9+1<=t.size/\(t.size - 1) % 9<9:=by omega
  have L:(bts t).all xp=true:=by
   have:=Z.o;rw [u.o,List.all_append,Bool.and_eq_true] at this;exact this.2
  have D:=ze L;clear L;obtain ⟨n,V⟩:=uQ ((t.size - 1) % 9+1);have z:n<=t.size/\n<=9/\1<=n:=by omega
  obtain ⟨ar,N,al⟩:=z;have ao:((t.size:Int) - 1) % 9+1=(n:Int):=by omega
  have HN:=ze V;clear V ab;go_wp2_with fail
  go_loop [5,6,17] (OfI t n) (fun _ _ iv=>n - (intOf iv).toNat)
  case atStart=>exact ⟨0,0,1,by omega,rfl,rfl,rfl,by rw [List.take_zero];rfl,rfl⟩
  case round=>
   obtain ⟨i,x,b,hi,rfl,rfl,rfl,B,m⟩:=hrel
   by_cases am:i<n
   . have hit:i<t.size:=by omega
     have U:i<(bts t).length:=by rw [zm];exact hit
     have E:xp t[i]=true:=by
      have:=List.all_eq_true.1 D.o _ (uO U)
      rwa [Z6 t i hit] at this
     obtain ⟨c1,c2⟩:=ZQ E
     have hx:x<100000000:=by
      have r:=VI D.o i;have l:=zd2 (i:=i) (by omega);rw [<- B.o] at r
      omega
     have hb:b<=100000000:=by
      have l:=zd2 (i:=i) (by omega);rw [m.o];exact l
     have av:=ze E;clear E;go_wp2;go_round
     case rel=>
      refine ⟨i+1,10*x+(t[i].toNat - 48),b*10,by omega,by go_num,congrArg _ (by omega),by go_num,?_,?_⟩
      rotate_left
      . show _=_
        rw [m.o,Nat.pow_succ]
      show _=_
      rw [XN U, <- B.o,Z6 t i hit]
      rfl
     case measure=>simp [intOf];omega
   obtain rfl:i=n:=by omega
   have X:b<=1000000000:=by rw [m.o];exact zbu N
   have ag:0<b:=by rw [m.o];exact Nat.pow_pos (by omega)
   have aq:x<1000000000:=by
    have r:=VI D.o i;have l:=zbu N;rw [<- B.o] at r
    omega
   have J:len 4294967296 (zE j)<=50000:=by
    have r:zE j<10 ^ j.length:=by
     apply Vg
     have:=Z.o;rw [u.o,List.all_append,Bool.and_eq_true] at this;exact this.1
    have l:zE j<4294967296 ^ j.length:=uK r (Nat.pow_le_pow_left (by omega) _);have:=y8 (β:=4294967296) (by omega) l
    omega
   have G:=Zv (d:=x) (by omega);have K:=Zv (d:=b) (by omega);have Q:=VX (β:=4294967296) (by omega) (zE j) b;have HP:=ze (And.intro J (And.intro G (And.intro K Q)));have z:=zw3 wr 170 b ag (by omega);have M:=yH.below F ((Below.refl _ _).alloc (uA) (.cells #[.int .u32 (b:Int)] 170));have O:=ze (zdz _ _ _ _ _ M z (by omega) (by omega));clear J G K Q z M;go_wp2_with fail;refine (zM O).mono ?_;rintro e y ⟨v1,rfl,ac,X⟩;have R:=ze (ZU (some ⟨y.heap.size,0,none⟩) 1 1 [x] (y.alloc (.cells #[.int .u32 (x:Int)] 170)) _ (zlu y 170 x) (zac (by omega)) (uA) (by simp [maxLen]));clear O;go_wp2_with fail;refine (zM R).mono ?_;rintro e w' ⟨S,rfl,C,rfl⟩;rw [YA] at C;have ae :yH (y.alloc (.cells #[.int .u32 (x:Int)] 170)) S x:=C.below (Below.refl _ _) (by simp);have ai :=yH.below ac ((Below.refl _ _).alloc (uA) (.cells #[.int .u32 (x:Int)] 170));have ah:=ze (zdq v1 S _ _ _ ai ae (by have:=HP.o;omega) (by have:=HP.o;omega));clear R C;go_wp2_with fail;refine (zM ah).mono ?_
   rintro e w2 ⟨v3,rfl,af,ak⟩;have au:¬ ((t.size:Int)<(i:Int)):=by omega
   go_wp2;go_roundw
   case rel=>
    have aa:bts (t.extract i t.size)=(bts t).drop i:=by
     rw [Zb,uJ (by rw [zm];exact uA)]
    have aj:((bts t).take i).length=i:=by rw [List.length_take,zm];omega
    refine ⟨t.extract i t.size,j ++ (bts t).take i,rfl,?_,?_,?_⟩
    . show _=_
      rw [aa,List.append_assoc,List.take_append_drop];exact u.o
    . rw [X0,aj, <- B.o, <- m.o]
      exact af
    . exact ext I (ext (zf _ _) (ext X (ext (zf _ _) ak)))
   case measure=>
    show (t.extract i t.size).size<t.size
    rw [ByteArray.size_extract]
    omega
end Go.Proofs.YtnjljgidphemdaaGreatDoor
