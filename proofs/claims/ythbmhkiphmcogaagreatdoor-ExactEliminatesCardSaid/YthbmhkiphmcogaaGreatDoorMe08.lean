/- Parts of the proof. -/
import Derived.Deep.RegionHeld3
import Derived.Deep.RegionLawGrows
import Derived.Test.YthbmhkiphmcogaaGreatDoorMe07
set_option linter.all false
namespace Go.Proofs.YthbmhkiphmcogaaGreatDoor
open Proofs.Tryz Go.RowKit Go.Deep
theorem YI {w:World} {B n:Nat} {ad:Addr} {xs:List Value} (h:zV w B 1 (some ad) n xs):∀ j u,xs[j]?=some u->w.cell? (ad.add j)=some u:=by
 intro j u hu
 rcases Nat.eq_zero_or_pos n with b | b
 . have:xs.length=0:=by have:=h.1;omega
   rw [List.eq_nil_of_length_eq_zero this] at hu;simp at hu
 . obtain ⟨m,e,_,l⟩:=h.2 b
   injection e with e
   subst e;exact l j u hu
def zqp (x0 x1:Nat):Array Value:=#[.int .u32 x0,.int .u32 x1,.int .u32 0,.int .u32 0,.int .u32 0,.int .u32 0,.int .u32 0,.int .u32 0]
theorem zg9 {W:World} {g t x0 x1:Nat} (h:Blk W g t (zqp x0 x1)):∀ j u,(XY [x0,x1])[j]?=some u->W.cell? ((⟨g,0,none⟩:Addr).add j)=some u:=by
 have b:=h.reads (n:=2) (by simp [zqp])
 exact YI b
theorem zsa {w:World} {base base' :Nat} {e:TypeId} {size:Nat} {v:Value} {n:Nat} {xs:List Value} (h:w.ownsRow base e size v n xs) (hb:base' <=base):w.ownsRow base' e size v n xs:=by
 refine ⟨h.1,?_⟩
 rcases h.2 with b | ⟨g,l,j,m,u,r⟩
 . exact .inl b
 . exact .inr ⟨g,l,j,m,by omega,r⟩
def zxq (w:World) (g x0 x1:Nat) (e:Ending) (w' :World):Prop:=
 e= .returned (.tuple #[])/\∃ A c,Blk w' g 213 #[.slice A 2 c]/\w'.ownsRow w.heap.size 184 1 (.slice A 2 c) 2 (XY [x0,x1])/\2<=c/\c<=maxLen/\w.grownBy w' (some g)
set_option maxRecDepth 100000 in
theorem zuu (g x0 x1:Nat) (w:World) (hg:Blk w g 213 #[.slice none 0 0]):
 Calls Tryz.prog 162 #[.pointer (some ⟨g,0,none⟩),.agg #[.int .u32 x0,.int .u32 x1,.int .u32 0,.int .u32 0,.int .u32 0,.int .u32 0,.int .u32 0,.int .u32 0],.int .i64 2] w
  (zxq w g x0 x1):=by
 obtain ⟨E,K,L,C,O⟩:=info_parts zom
 have U:=hg.cell 0
 have V:=hg.frozen 0
 have R:=hg.lt
 go_enter func162,ntmps162
 go_wp2
 have I:∀ n,∀ j u,(XY [x0,x1])[j]?=some u->((w.alloc (.cells #[Value.int IntKind.u32 ↑x0,Value.int IntKind.u32 ↑x1,Value.int IntKind.u32 0,Value.int IntKind.u32 0,Value.int IntKind.u32 0,Value.int IntKind.u32 0,Value.int IntKind.u32 0,Value.int IntKind.u32 0] 215)).drewN n).cell? ((⟨w.heap.size,0,none⟩:Addr).add j)=some u:=
  fun n=>zg9 (W:=(w.alloc (.cells (zqp x0 x1) 215)).drewN n) ((Blk.new _ _ _).drewN n)
 go_region_law (refine step_append_grows rfl (.tmp 10) (.tmp 12) 50 rfl 184 E _ 1 4 underlying50 K L C O rfl (by decide) none 0 0 [] (by simp [Act.eval,Act.put]) (fun _=>⟨rfl,rfl⟩) rfl (by intro b h;cases h) ⟨w.heap.size,0,none⟩ 2 8 (XY [x0,x1]) (by simp [Act.eval,Act.put]) rfl (I 1) (zd9 _) (by omega) (by unfold maxLen;omega) (by omega) ?_;intro T w1 r l;obtain ⟨z,c1,rfl,_,_⟩:=r.form (by omega);have y:=((hg.alloc _).drewN 1).grown l (by simp);have G:=y.cell 0;have S:=y.frozen 0;simp at G)
 go_end0
 refine ⟨rfl,some ⟨z,0,none⟩,c1,?_,?_,?_,?_,?_⟩
 . exact y.set_ 0 (.slice (some ⟨z,0,none⟩) 2 c1)
 . exact zsa (ownsRow_setCell_below (a:=⟨g,0,none⟩) r (by simp;omega) _) (by simp)
 . rcases r.2 with ⟨h,_⟩ | ⟨g',Q,M,m,_,_,N,J,_⟩
   . cases h
   . injection m with _ _ m;omega
 . rcases r.2 with ⟨h,_⟩ | ⟨g',Q,M,m,_,_,N,J,_⟩
   . cases h
   . injection m with _ _ m;omega
 . refine ⟨l.os,l.tape,l.output,?_,?_⟩
   . have:=l.size;simp [World.setCell] at this |-;omega
   intro k F B
   have D:k≠g:=fun e=>B (by rw [e])
   rw [Below.heap_setCell _ _ _ _ D,l.block k (by simp;omega) (by simp)];exact Below.heap_alloc _ _ _ F
theorem zvn (n:Nat):val 4294967296 [n % 4294967296,n / 4294967296]=n:=by simp only [val];omega
theorem zmu (n:Nat) (hn:n<18446744073709551616) (w:World):Calls Tryz.prog 127 #[.int .u64 n] w (zat w n):=by
 have y:zI 4294967296 [n % 4294967296,n / 4294967296]:=zI.cons (Nat.mod_lt _ (by omega)) (zap (by omega))
 go_enter func127,ntmps127
 go_wp2_with fail
 refine (zuu w.heap.size (n % 4294967296) (n / 4294967296) _ (Blk.new _ _ _)).mono ?_
 rintro e w1 ⟨rfl,A,c,hb,l,u,r,B⟩
 have z:=hb.cell 0
 simp at z
 have m:=zV.of_own l
 go_wp2_with (go_at_call 138;refine (Yf _ _ _ _ _ _ m y u r).mono ?_;rintro e w' ⟨v,rfl,j,rfl⟩)
 go_ret
 rw [zvn] at j
 refine ⟨v,rfl,j,?_⟩
 exact ((Below.refl _ _).alloc (Nat.le_refl _) _).grown B (by simp) (by intro k b;injection b with b;omega)
theorem zuc (w:World) (t d:Nat) (h0:0<d) (hd:d<4294967296):yF (w.alloc (.cells #[.int .u32 (d:Int)] t)) (.slice (some ⟨w.heap.size,0,none⟩) 1 1) d:=by
 refine ⟨some ⟨w.heap.size,0,none⟩,1,[d],rfl,by simp,by simp [maxLen],?_,⟨zap hd,by simp;omega⟩,by simp [val]⟩
 have:=zj6 w t d
 simpa using this
theorem Z2 {d:Nat} (hd:d<4294967296):len 4294967296 d<=1:=yv (by omega) (by simpa using hd)
def bts (s:ByteArray):List UInt8:=s.data.toList
theorem zm (s:ByteArray):(bts s).length=s.size:=by
 show s.data.toList.length=s.data.size
 exact Array.length_toList
theorem ZL (s:ByteArray) (k:Nat) (hk:k<s.size):(bts s)[k]'(by rw [zm];exact hk)=s[k]:=rfl
theorem Zj (s:ByteArray) (a b:Nat):bts (s.extract a b)=((bts s).take b).drop a:=by
 simp [bts,ByteArray.data_extract,List.extract_eq_take_drop,List.drop_take]
def OfR (L:List UInt8) (w:World) (sv av:Value) (wr:World):Prop:=
 ∃ (t:ByteArray) (pre:List UInt8),sv= .string t/\Hid (L=pre ++ bts t)/\yF wr av (zH pre)/\Below w.heap.size w wr
def OfI (t:ByteArray) (n:Nat) (xv bv iv:Value):Prop:=
 ∃ i x b:Nat,i<=n/\iv= .int .i64 i/\xv= .int .u32 x/\bv= .int .u32 b/\Hid (x=zH ((bts t).take i))/\Hid (b=10 ^ i)
theorem XU {l:List UInt8} {i:Nat} (hi:i<l.length):zH (l.take (i+1))=10*zH (l.take i)+dig l[i]:=by
 rw [Vq l i hi,zj4]
theorem zgj {l:List UInt8} (h:l.all xu=true) (k:Nat):(l.take k).all xu=true:=by
 rw [List.all_eq_true] at*
 exact fun x hx=>h x (List.mem_of_mem_take hx)
theorem zsi {l:List UInt8} (h:l.all xu=true) (k:Nat):(l.drop k).all xu=true:=by
 rw [List.all_eq_true] at*
 exact fun x hx=>h x (List.mem_of_mem_drop hx)
theorem Yh {c:UInt8} (h:xu c=true):48<=c.toNat/\c.toNat<=57:=by
 simp [xu] at h;exact h
theorem zbg {i:Nat} (hi:i<=9):10 ^ i<=1000000000:=by
 have:10 ^ i<=10 ^ 9:=Nat.pow_le_pow_right (by omega) hi
 exact this
theorem zdi {i:Nat} (hi:i<=8):10 ^ i<=100000000:=by
 have:10 ^ i<=10 ^ 8:=Nat.pow_le_pow_right (by omega) hi
 exact this
theorem V9 {l:List UInt8} (h:l.all xu=true) (i:Nat):zH (l.take i)<10 ^ i:=by
 have b:=Vi (zgj h i)
 exact Nat.lt_of_lt_of_le b (Nat.pow_le_pow_right (by omega) (List.length_take_le _ _))
theorem YF (s:ByteArray) (w:World) (hd:(bts s).all xu=true) (hs:s.size<=50000):
 Calls Tryz.prog 122 #[.string s] w (zat w (zH (bts s))):=by
 have I:=ze hd
 clear hd
 go_enter func122,ntmps122
 go_wp2
 go_loopw [0,3] (OfR (bts s) w) (fun sv _ _=>match sv with | .string t=>t.size | _=>0)
 case atStart=>exact ⟨s,[],rfl,rfl,zkm _,Below.refl _ _⟩
 case round=>
  obtain ⟨t,j,rfl,l,O,R⟩:=hrel
  have au:j.length+t.size=s.size:=by
   have:=congrArg List.length l.o;rw [List.length_append,zm,zm] at this
   omega
  by_cases hz:0<t.size
  rotate_left
  . have N:bts t=[]:=List.eq_nil_of_length_eq_zero (by rw [zm];omega)
    have X:j=bts s:=by have:=l.o;rw [N,List.append_nil] at this;exact this.symm
    have ab:=ze X;have ap:t.size=0:=by omega
    clear N X;go_wp2_with fail;go_ret;refine ⟨_,rfl,?_,R⟩;rw [<- ab.o];exact O
  have ai:(t.size - 1) % 9+1<=t.size/\(t.size - 1) % 9<9:=by omega
  have J:(bts t).all xu=true:=by
   have:=I.o;rw [l.o,List.all_append,Bool.and_eq_true] at this;exact this.2
  have B:=ze J;clear J;obtain ⟨n,Z⟩:∃ n,n=(t.size - 1) % 9+1:=⟨_,rfl⟩;have y:n<=t.size/\n<=9/\1<=n:=by omega
  obtain ⟨an,G,ar⟩:=y;have av:((t.size:Int) - 1) % 9+1=(n:Int):=by omega
  have HN:=ze Z;clear Z ai;go_wp2_with fail
  go_loop [5,6,17] (OfI t n) (fun _ _ iv=>n - (intOf iv).toNat)
  case atStart=>exact ⟨0,0,1,by omega,rfl,rfl,rfl,by rw [List.take_zero];rfl,rfl⟩
  case round=>
   obtain ⟨i,x,b,hi,rfl,rfl,rfl,z,u⟩:=hrel
   by_cases al:i<n
   . have hit:i<t.size:=by omega
     have V:i<(bts t).length:=by rw [zm];exact hit
     have C:xu t[i]=true:=by
      have:=List.all_eq_true.1 B.o _ (List.getElem_mem V)
      rwa [ZL t i hit] at this
     obtain ⟨c1,c2⟩:=Yh C
     have hx:x<100000000:=by
      have r:=V9 B.o i;have m:=zdi (i:=i) (by omega);rw [<- z.o] at r
      omega
     have hb:b<=100000000:=by
      have m:=zdi (i:=i) (by omega);rw [u.o];exact m
     have am:=ze C;clear C;go_wp2_with fail;go_round
     case rel=>
      refine ⟨i+1,10*x+(t[i].toNat - 48),b*10,by omega,by go_num,congrArg _ (by omega),by go_num,?_,?_⟩
      rotate_left
      . show _=_
        rw [u.o,Nat.pow_succ]
      show _=_
      rw [XU V, <- z.o,ZL t i hit]
      rfl
     case measure=>simp [intOf];omega
   obtain rfl:i=n:=by omega
   have F:b<=1000000000:=by rw [u.o];exact zbg G
   have ac:0<b:=by rw [u.o];exact Nat.pow_pos (by omega)
   have aq:x<1000000000:=by
    have r:=V9 B.o i;have m:=zbg G;rw [<- z.o] at r
    omega
   have M:len 4294967296 (zH j)<=50000:=by
    have r:zH j<10 ^ j.length:=by
     apply Vi
     have:=I.o;rw [l.o,List.all_append,Bool.and_eq_true] at this;exact this.1
    have m:zH j<4294967296 ^ j.length:=Nat.lt_of_lt_of_le r (Nat.pow_le_pow_left (by omega) _);have:=yv (β:=4294967296) (by omega) m
    omega
   have U:=Z2 (d:=x) (by omega);have Q:=Z2 (d:=b) (by omega);have L:=VS (β:=4294967296) (by omega) (zH j) b;have T:=ze (And.intro M (And.intro U (And.intro Q L)));have y:=zuc wr 184 b ac (by omega);have E:=yF.below O ((Below.refl _ _).alloc (Nat.le_refl _) (.cells #[.int .u32 (b:Int)] 184));have K:=ze (zdb _ _ _ _ _ E y (by omega) (by omega));clear M U Q L y E;go_wp2_with fail;refine (zK K).mono ?_;rintro e w1 ⟨v1,rfl,ah,F⟩;have Y:=ze (Yf (some ⟨w1.heap.size,0,none⟩) 1 1 [x] (w1.alloc (.cells #[.int .u32 (x:Int)] 184)) _ (zj6 w1 184 x) (zap (by omega)) (Nat.le_refl _) (by simp [maxLen]));clear K;go_wp2_with fail;refine (zK Y).mono ?_;rintro e w' ⟨S,rfl,D,rfl⟩;rw [YM] at D;have af :yF (w1.alloc (.cells #[.int .u32 (x:Int)] 184)) S x:=D.below (Below.refl _ _) (by simp);have ag :=yF.below ah ((Below.refl _ _).alloc (Nat.le_refl _) (.cells #[.int .u32 (x:Int)] 184));have ad:=ze (zdf v1 S _ _ _ ag af (by have:=T.o;omega) (by have:=T.o;omega));clear Y D;go_wp2_with fail;refine (zK ad).mono ?_
   rintro e w2 ⟨v3,rfl,aa,ak⟩;have ao:¬ ((t.size:Int)<(i:Int)):=by omega
   go_wp2_with fail;go_roundw
   case rel=>
    have ae:bts (t.extract i t.size)=(bts t).drop i:=by
     rw [Zj,List.take_of_length_le (by rw [zm];exact Nat.le_refl _)]
    have aj:((bts t).take i).length=i:=by rw [List.length_take,zm];omega
    refine ⟨t.extract i t.size,j ++ (bts t).take i,rfl,?_,?_,?_⟩
    . show _=_
      rw [ae,List.append_assoc,List.take_append_drop];exact l.o
    . rw [X3,aj, <- z.o, <- u.o]
      exact aa
    . exact ext R (ext (zf _ _) (ext F (ext (zf _ _) ak)))
   case measure=>
    show (t.extract i t.size).size<t.size
    rw [ByteArray.size_extract]
    omega
end Go.Proofs.YthbmhkiphmcogaaGreatDoor
