/- Parts of the proof. -/
import Derived.Deep.RegionHeld3
import Derived.Deep.RegionLawGrows
import Derived.Test.YtofmkndhocinmaaGreatDoorMs08
set_option linter.all false
namespace Go.Proofs.YtofmkndhocinmaaGreatDoor
open Proofs.Tryz Go.RowKit Go.Deep
theorem zgy {w:World} {B n:Nat} {ad:Addr} {xs:List Value} (h:ym w B 1 (some ad) n xs):∀ j u,xs[j]?=some u->w.cell? (ad.add j)=some u:=by
 intro j u hu
 rcases uN n with b | b
 . have:xs.length=0:=by have:=h.1;omega
   rw [uI this] at hu;simp at hu
 . obtain ⟨m,e,_,l⟩:=h.2 b
   injection e with e
   subst e;exact l j u hu
def zmq (x0 x1:Nat):Array Value:=#[.int .u32 x0,.int .u32 x1,.int .u32 0,.int .u32 0,.int .u32 0,.int .u32 0,.int .u32 0,.int .u32 0]
theorem zfz {W:World} {g t x0 x1:Nat} (h:Blk W g t (zmq x0 x1)):∀ j u,(YS [x0,x1])[j]?=some u->W.cell? ((⟨g,0,none⟩:Addr).add j)=some u:=by
 have b:=h.reads (n:=2) (by simp [zmq])
 exact zgy b
theorem zo2 {w:World} {base base' :Nat} {e:TypeId} {size:Nat} {v:Value} {n:Nat} {xs:List Value} (h:w.ownsRow base e size v n xs) (hb:base' <=base):w.ownsRow base' e size v n xs:=by
 refine ⟨h.1,?_⟩
 rcases h.2 with m | ⟨g,l,b,j,u,r⟩
 . exact .inl m
 . exact .inr ⟨g,l,b,j,by omega,r⟩
def zt2 (w:World) (g x0 x1:Nat) (e:Ending) (w' :World):Prop:=
 e= .returned (.tuple #[])/\∃ A c,Blk w' g 201 #[.slice A 2 c]/\w'.ownsRow w.heap.size 152 1 (.slice A 2 c) 2 (YS [x0,x1])/\2<=c/\c<=maxLen/\w.grownBy w' (some g)
set_option maxRecDepth 100000 in
theorem zsn (g x0 x1:Nat) (w:World) (hg:Blk w g 201 #[.slice none 0 0]):
 Calls prog 148 #[.pointer (some ⟨g,0,none⟩),.agg #[.int .u32 x0,.int .u32 x1,.int .u32 0,.int .u32 0,.int .u32 0,.int .u32 0,.int .u32 0,.int .u32 0],.int .i64 2] w
  (zt2 w g x0 x1):=by
 obtain ⟨M,I,D,L,N⟩:=info_parts zl7
 have V:=hg.cell 0;have T:=hg.frozen 0;have R:=hg.lt
 go_in
 go_wp2
 have E:∀ n,∀ j u,(YS [x0,x1])[j]?=some u->((w.alloc (.cells #[Value.int IntKind.u32 ↑x0,Value.int IntKind.u32 ↑x1,Value.int IntKind.u32 0,Value.int IntKind.u32 0,Value.int IntKind.u32 0,Value.int IntKind.u32 0,Value.int IntKind.u32 0,Value.int IntKind.u32 0] 203)).drewN n).cell? ((⟨w.heap.size,0,none⟩:Addr).add j)=some u:=
  fun n=>zfz (W:=(w.alloc (.cells (zmq x0 x1) 203)).drewN n) ((Blk.new _ _ _).drewN n)
 go_region_law (refine step_append_grows rfl (.tmp 10) (.tmp 12) 57 rfl 152 M _ 1 4 underlying57 I D L N rfl (by decide) none 0 0 [] (by simp [Act.eval,Act.put]) (fun _=>⟨rfl,rfl⟩) rfl (by intro b h;cases h) ⟨w.heap.size,0,none⟩ 2 8 (YS [x0,x1]) (by simp [Act.eval,Act.put]) rfl (E 1) (zce _) (by omega) (by unfold maxLen;omega) (by omega) ?_;intro S w1 r l;obtain ⟨z,c1,rfl,_,_⟩:=r.form (by omega);have y:=((hg.alloc _).drewN 1).grown l (by simp);have Q:=y.cell 0;have U:=y.frozen 0;simp at Q)
 go_end0
 refine ⟨rfl,some ⟨z,0,none⟩,c1,?_,?_,?_,?_,?_⟩
 . exact y.set_ 0 (.slice (some ⟨z,0,none⟩) 2 c1)
 . exact zo2 (ownsRow_setCell_below (a:=⟨g,0,none⟩) r (by simp;omega) _) (by simp)
 . rcases r.2 with ⟨h,_⟩ | ⟨g',K,O,m,_,_,J,C,_⟩
   . cases h
   . injection m with _ _ m;omega
 . rcases r.2 with ⟨h,_⟩ | ⟨g',K,O,m,_,_,J,C,_⟩
   . cases h
   . injection m with _ _ m;omega
 . refine ⟨l.os,l.tape,l.output,?_,?_⟩
   . have:=l.size;simp [World.setCell] at this |-;omega
   intro k G B
   have F:k≠g:=fun e=>B (by rw [e])
   rw [Below.heap_setCell _ _ _ _ F,l.block k (by simp;omega) (by simp)];exact Below.heap_alloc _ _ _ G
theorem zri (n:Nat):val 4294967296 [n % 4294967296,n / 4294967296]=n:=by simp only [val];omega
theorem zkd (n:Nat) (hn:n<18446744073709551616) (w:World):Calls prog 123 #[.int .u64 n] w (XN w n):=by
 have z:zQ 4294967296 [n % 4294967296,n / 4294967296]:=zQ.cons (Nat.mod_lt _ (by omega)) (XL (by omega))
 go_in
 go_wp2_with fail
 refine (zsn w.heap.size (n % 4294967296) (n / 4294967296) _ (Blk.new _ _ _)).mono ?_
 rintro e w1 ⟨rfl,A,c,hb,m,r,l,y⟩
 have B:=(bp1 hb).1
 have u:=ym.of_own m
 go_wp2_with (go_at_call 96;refine (Z6 _ _ _ _ _ _ u z r l).mono ?_;rintro e w' ⟨v,rfl,j,rfl⟩)
 go_ret
 rw [zri] at j
 refine ⟨v,rfl,j,?_⟩
 exact ((Below.refl _ _).alloc (uA) _).grown y (by simp) (by intro k b;injection b with b;omega)
theorem zta (w:World) (t d:Nat) (h0:0<d) (hd:d<4294967296):yA (w.alloc (.cells #[.int .u32 (d:Int)] t)) (.slice (some ⟨w.heap.size,0,none⟩) 1 1) d:=by
 refine ⟨some ⟨w.heap.size,0,none⟩,1,[d],rfl,by simp,by simp [maxLen],?_,⟨XL hd,by simp;omega⟩,by simp [val]⟩
 have:=zim w t d
 simpa using this
theorem vS {d:Nat} (hd:d<4294967296):len 4294967296 d<=1:=xC (by omega) (by simpa using hd)
def bts (s:ByteArray):List UInt8:=s.data.toList
theorem zq (s:ByteArray):(bts s).length=s.size:=by
 show s.data.toList.length=s.data.size
 exact Array.length_toList
theorem XC (s:ByteArray) (k:Nat) (hk:k<s.size):(bts s)[k]'(by rw [zq];exact hk)=s[k]:=rfl
theorem Ya (s:ByteArray) (a b:Nat):bts (s.extract a b)=((bts s).take b).drop a:=by
 simp [bts,ByteArray.data_extract,List.extract_eq_take_drop,List.drop_take]
def OfR (L:List UInt8) (w:World) (sv av:Value) (wr:World):Prop:=
 ∃ (t:ByteArray) (pre:List UInt8),sv= .string t/\Hid (L=pre ++ bts t)/\yA wr av (zR pre)/\Below w.heap.size w wr
def OfI (t:ByteArray) (n:Nat) (xv bv iv:Value):Prop:=
 ∃ i x b:Nat,i<=n/\iv= .int .i64 i/\xv= .int .u32 x/\bv= .int .u32 b/\Hid (x=zR ((bts t).take i))/\Hid (b=10 ^ i)
theorem zag {l:List UInt8} {i:Nat} (hi:i<l.length):zR (l.take (i+1))=10*zR (l.take i)+dig l[i]:=by
 rw [zbj l i hi,zgw]
theorem zp1 {l:List UInt8} (h:l.all xZ=true) (k:Nat):(l.take k).all xZ=true:=by
 rw [List.all_eq_true] at*
 exact fun x hx=>h x (List.mem_of_mem_take hx)
theorem Xe {c:UInt8} (h:xZ c=true):48<=c.toNat/\c.toNat<=57:=by
 simp [xZ] at h;exact h
theorem zdb {i:Nat} (hi:i<=9):10 ^ i<=1000000000:=by
 have:10 ^ i<=10 ^ 9:=Nat.pow_le_pow_right (by omega) hi
 exact this
theorem zbi {i:Nat} (hi:i<=8):10 ^ i<=100000000:=by
 have:10 ^ i<=10 ^ 8:=Nat.pow_le_pow_right (by omega) hi
 exact this
theorem Xz {l:List UInt8} (h:l.all xZ=true) (i:Nat):zR (l.take i)<10 ^ i:=by
 have b:=zbn (zp1 h i)
 exact uK b (Nat.pow_le_pow_right (by omega) (List.length_take_le _ _))
theorem Yb (s:ByteArray) (w:World) (hd:(bts s).all xZ=true) (hs:s.size<=50000):
 Calls prog 63 #[.string s] w (XN w (zR (bts s))):=by
 have Y:=ze hd
 clear hd
 go_in
 go_wp2
 go_loopw [0,3] (OfR (bts s) w) (fun sv _ _=>match sv with | .string t=>t.size | _=>0)
 case atStart=>exact ⟨s,[],rfl,rfl,zg2 _,Below.refl _ _⟩
 case round=>
  obtain ⟨t,j,rfl,u,E,G⟩:=hrel
  have ap:j.length+t.size=s.size:=by
   have:=congrArg List.length u.o;rw [List.length_append,zq,zq] at this
   omega
  by_cases hz:0<t.size
  rotate_left
  . have X:bts t=[]:=uI (by rw [zq];omega)
    have S:j=bts s:=by have:=u.o;rw [X,List.append_nil] at this;exact this.symm
    have ad:=ze S;have an:t.size=0:=by omega
    clear X S;go_wp2;go_ret;refine ⟨_,rfl,?_,G⟩;rw [<- ad.o];exact E
  have ab:(t.size - 1) % 9+1<=t.size/\(t.size - 1) % 9<9:=by omega
  have K:(bts t).all xZ=true:=by
   have:=Y.o;rw [u.o,List.all_append,Bool.and_eq_true] at this;exact this.2
  have C:=ze K;clear K;obtain ⟨n,U⟩:=uQ ((t.size - 1) % 9+1);have y:n<=t.size/\n<=9/\1<=n:=by omega
  obtain ⟨ar,M,al⟩:=y;have ao:((t.size:Int) - 1) % 9+1=(n:Int):=by omega
  have HN:=ze U;clear U ab;go_wp2_with fail
  go_loop [5,6,17] (OfI t n) (fun _ _ iv=>n - (intOf iv).toNat)
  case atStart=>exact ⟨0,0,1,by omega,rfl,rfl,rfl,by rw [List.take_zero];rfl,rfl⟩
  case round=>
   obtain ⟨i,x,b,hi,rfl,rfl,rfl,z,m⟩:=hrel
   by_cases am:i<n
   . have hit:i<t.size:=by omega
     have T:i<(bts t).length:=by rw [zq];exact hit
     have D:xZ t[i]=true:=by
      have:=List.all_eq_true.1 C.o _ (uO T)
      rwa [XC t i hit] at this
     obtain ⟨c1,c2⟩:=Xe D
     have hx:x<100000000:=by
      have r:=Xz C.o i;have l:=zbi (i:=i) (by omega);rw [<- z.o] at r
      omega
     have hb:b<=100000000:=by
      have l:=zbi (i:=i) (by omega);rw [m.o];exact l
     have av:=ze D;clear D;go_wp2;go_round
     case rel=>
      refine ⟨i+1,10*x+(t[i].toNat - 48),b*10,by omega,by go_num,congrArg _ (by omega),by go_num,?_,?_⟩
      rotate_left
      . show _=_
        rw [m.o,Nat.pow_succ]
      show _=_
      rw [zag T, <- z.o,XC t i hit]
      rfl
     case measure=>simp [intOf];omega
   obtain rfl:i=n:=by omega
   have V:b<=1000000000:=by rw [m.o];exact zdb M
   have ag:0<b:=by rw [m.o];exact Nat.pow_pos (by omega)
   have aq:x<1000000000:=by
    have r:=Xz C.o i;have l:=zdb M;rw [<- z.o] at r
    omega
   have I:len 4294967296 (zR j)<=50000:=by
    have r:zR j<10 ^ j.length:=by
     apply zbn
     have:=Y.o;rw [u.o,List.all_append,Bool.and_eq_true] at this;exact this.1
    have l:zR j<4294967296 ^ j.length:=uK r (Nat.pow_le_pow_left (by omega) _);have:=xC (β:=4294967296) (by omega) l
    omega
   have F:=vS (d:=x) (by omega);have J:=vS (d:=b) (by omega);have O:=zm8 (β:=4294967296) (by omega) (zR j) b;have Z:=ze (And.intro I (And.intro F (And.intro J O)));have y:=zta wr 152 b ag (by omega);have L:=yA.below E ((Below.refl _ _).alloc (uA) (.cells #[.int .u32 (b:Int)] 152));have N:=ze (zbf _ _ _ _ _ L y (by omega) (by omega));clear I F J O y L;go_wp2_with fail;refine (zO N).mono ?_;rintro e w1 ⟨v1,rfl,ac,V⟩;have Q:=ze (Z6 (some ⟨w1.heap.size,0,none⟩) 1 1 [x] (w1.alloc (.cells #[.int .u32 (x:Int)] 152)) _ (zim w1 152 x) (XL (by omega)) (uA) (by simp [maxLen]));clear N;go_wp2_with fail;refine (zO Q).mono ?_;rintro e w' ⟨R,rfl,B,rfl⟩;rw [zco] at B;have ae :yA (w1.alloc (.cells #[.int .u32 (x:Int)] 152)) R x:=B.below (Below.refl _ _) (by simp);have ai :=yA.below ac ((Below.refl _ _).alloc (uA) (.cells #[.int .u32 (x:Int)] 152));have ah:=ze (za8 v1 R _ _ _ ai ae (by have:=Z.o;omega) (by have:=Z.o;omega));clear Q B;go_wp2_with fail;refine (zO ah).mono ?_
   rintro e w2 ⟨v3,rfl,af,ak⟩;have au:¬ ((t.size:Int)<(i:Int)):=by omega
   go_wp2;go_roundw
   case rel=>
    have aa:bts (t.extract i t.size)=(bts t).drop i:=by
     rw [Ya,uJ (by rw [zq];exact uA)]
    have aj:((bts t).take i).length=i:=by rw [List.length_take,zq];omega
    refine ⟨t.extract i t.size,j ++ (bts t).take i,rfl,?_,?_,?_⟩
    . show _=_
      rw [aa,List.append_assoc,List.take_append_drop];exact u.o
    . rw [XV,aj, <- z.o, <- m.o]
      exact af
    . exact ext G (ext (zf _ _) (ext V (ext (zf _ _) ak)))
   case measure=>
    show (t.extract i t.size).size<t.size
    rw [ByteArray.size_extract]
    omega
end Go.Proofs.YtofmkndhocinmaaGreatDoor
