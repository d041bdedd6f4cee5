/- Parts of the proof: memory, numbers, walks of the functions that are called. -/
import Derived.Deep.RegionHeld3
import Derived.Deep.RegionLawGrows
import Derived.Test.YtkmcmmcencdcpaaGreatDoorMt09
set_option linter.unusedVariables false
set_option linter.unusedSimpArgs false
namespace Go.Proofs.YtkmcmmcencdcpaaGreatDoor
open Go.RowKit Go.Deep
theorem ZG {w:World} {B n:Nat} {ad:Addr} {xs:List Value} (h:zY w B 1 (some ad) n xs):∀ j u,xs[j]?=some u->w.cell? (ad.add j)=some u:=by
 intro j u hu
 rcases Nat.eq_zero_or_pos n with h0 | h0
 . have:xs.length=0:=by have:=h.1;omega
   rw [List.eq_nil_of_length_eq_zero this] at hu;simp at hu
 . obtain ⟨ad',e,_,hc⟩:=h.2 h0
   injection e with e
   subst e;exact hc j u hu
def zls (x0 x1:Nat):Array Value:=#[.int .u32 x0,.int .u32 x1,.int .u32 0,.int .u32 0,.int .u32 0,.int .u32 0,.int .u32 0,.int .u32 0]
theorem zdr {W:World} {g t x0 x1:Nat} (h:Blk W g t (zls x0 x1)):∀ j u,(YE [x0,x1])[j]?=some u->W.cell? ((⟨g,0,none⟩:Addr).add j)=some u:=by
 have h2:=h.reads (n:=2) (by simp [zls])
 exact ZG h2
theorem znj {w:World} {base base' :Nat} {e:TypeId} {size:Nat} {v:Value} {n:Nat} {xs:List Value} (h:w.ownsRow base e size v n xs) (hb:base' <=base):w.ownsRow base' e size v n xs:=by
 refine ⟨h.1,?_⟩
 rcases h.2 with h0 | ⟨g,cap,cur,hv,hg,r⟩
 . exact .inl h0
 . exact .inr ⟨g,cap,cur,hv,by omega,r⟩
def zsf (w:World) (g x0 x1:Nat) (e:Ending) (w' :World):Prop:=
 e= .returned (.tuple #[])/\∃ A c,Blk w' g 261 #[.slice A 2 c]/\w'.ownsRow w.heap.size 221 1 (.slice A 2 c) 2 (YE [x0,x1])/\2<=c/\c<=maxLen/\w.grownBy w' (some g)
set_option maxRecDepth 100000 in
theorem zqq (g x0 x1:Nat) (w:World) (hg:Blk w g 261 #[.slice none 0 0]):
 Calls Tryz.prog 220 #[.pointer (some ⟨g,0,none⟩),.agg #[.int .u32 x0,.int .u32 x1,.int .u32 0,.int .u32 0,.int .u32 0,.int .u32 0,.int .u32 0,.int .u32 0],.int .i64 2] w
  (zsf w g x0 x1):=by
 obtain ⟨i0,hi0,hz0,hz1,hz2⟩:=info_parts zj1
 have hc:=hg.cell 0
 have hf:=hg.frozen 0
 have hlt:=hg.lt
 go_enter Tryz.func220,Tryz.ntmps220
 go_wp2
 have hn1:∀ n,∀ j u,(YE [x0,x1])[j]?=some u->((w.alloc (.cells #[Value.int IntKind.u32 ↑x0,Value.int IntKind.u32 ↑x1,Value.int IntKind.u32 0,Value.int IntKind.u32 0,Value.int IntKind.u32 0,Value.int IntKind.u32 0,Value.int IntKind.u32 0,Value.int IntKind.u32 0] 263)).drewN n).cell? ((⟨w.heap.size,0,none⟩:Addr).add j)=some u:=
  fun n=>zdr (W:=(w.alloc (.cells (zls x0 x1) 263)).drewN n) ((Blk.new _ _ _).drewN n)
 go_region_law (refine step_append_grows rfl (.tmp 10) (.tmp 12) 88 rfl 221 i0 _ 1 4 Tryz.underlying88 hi0 hz0 hz1 hz2 rfl (by decide) none 0 0 [] (by simp [Act.eval,Act.put]) (fun _=>⟨rfl,rfl⟩) rfl (by intro b h;cases h) ⟨w.heap.size,0,none⟩ 2 8 (YE [x0,x1]) (by simp [Act.eval,Act.put]) rfl (hn1 1) (zaw _) (by omega) (by unfold maxLen;omega) (by omega) ?_;intro v' w1 hown hgrow;obtain ⟨g1,c1,rfl,_,_⟩:=hown.form (by omega);have hb1:=((hg.alloc _).drewN 1).grown hgrow (by simp);have hc1:=hb1.cell 0;have hf1:=hb1.frozen 0;simp at hc1)
 go_end0
 refine ⟨rfl,some ⟨g1,0,none⟩,c1,?_,?_,?_,?_,?_⟩
 . exact hb1.set_ 0 (.slice (some ⟨g1,0,none⟩) 2 c1)
 . exact znj (ownsRow_setCell_below (a:=⟨g,0,none⟩) hown (by simp;omega) _) (by simp)
 . rcases hown.2 with ⟨h,_⟩ | ⟨g',cap,cur,hv,_,_,h1,h2,_⟩
   . cases h
   . injection hv with _ _ hv;omega
 . rcases hown.2 with ⟨h,_⟩ | ⟨g',cap,cur,hv,_,_,h1,h2,_⟩
   . cases h
   . injection hv with _ _ hv;omega
 . refine ⟨hgrow.os,hgrow.tape,hgrow.output,?_,?_⟩
   . have:=hgrow.size;simp [World.setCell] at this |-;omega
   . intro k hk hne
     have hkg:k≠g:=fun e=>hne (by rw [e])
     rw [Below.heap_setCell _ _ _ _ hkg,hgrow.block k (by simp;omega) (by simp)];exact Below.heap_alloc _ _ _ hk
theorem zpz (n:Nat):val 4294967296 [n % 4294967296,n / 4294967296]=n:=by simp only [val];omega
theorem zjf (n:Nat) (hn:n<18446744073709551616) (w:World):Calls Tryz.prog 198 #[.int .u64 n] w (XL w n):=by
 have hs:zD 4294967296 [n % 4294967296,n / 4294967296]:=zD.cons (Nat.mod_lt _ (by omega)) (XE (by omega))
 go_enter Tryz.func198,Tryz.ntmps198
 go_wp2_with fail
 refine (zqq w.heap.size (n % 4294967296) (n / 4294967296) _ (Blk.new _ _ _)).mono ?_
 rintro e w1 ⟨rfl,A,c,hb,hown,h2,hm,hgr⟩
 have hc:=hb.cell 0
 simp at hc
 have hr:=zY.of_own hown
 go_wp2_with (go_at_call 174;refine (Zr _ _ _ _ _ _ hr hs h2 hm).mono ?_;rintro e w' ⟨v,rfl,hnat,rfl⟩)
 go_ret
 rw [zpz] at hnat
 refine ⟨v,rfl,hnat,?_⟩
 exact ((Below.refl _ _).alloc (Nat.le_refl _) _).grown hgr (by simp) (by intro k hk;injection hk with hk;omega)
theorem zp4 (w:World) (t d:Nat) (h0:0<d) (hd:d<4294967296):y6 (w.alloc (.cells #[.int .u32 (d:Int)] t)) (.slice (some ⟨w.heap.size,0,none⟩) 1 1) d:=by
 refine ⟨some ⟨w.heap.size,0,none⟩,1,[d],rfl,by simp,by simp [maxLen],?_,⟨XE hd,by simp;omega⟩,by simp [val]⟩
 have:=zg2 w t d
 simpa using this
theorem vK {d:Nat} (hd:d<4294967296):len 4294967296 d<=1:=yt (by omega) (by simpa using hd)
def bts (s:ByteArray):List UInt8:=s.data.toList
theorem zo (s:ByteArray):(bts s).length=s.size:=by
 show s.data.toList.length=s.data.size
 exact Array.length_toList
theorem Zc (s:ByteArray) (k:Nat) (hk:k<s.size):(bts s)[k]'(by rw [zo];exact hk)=s[k]:=rfl
theorem vq (s:ByteArray) (a b:Nat):bts (s.extract a b)=((bts s).take b).drop a:=by
 simp [bts,ByteArray.data_extract,List.extract_eq_take_drop,List.drop_take]
def OfR (L:List UInt8) (w:World) (sv av:Value) (wr:World):Prop:=
 ∃ (t:ByteArray) (pre:List UInt8),sv= .string t/\Hid (L=pre ++ bts t)/\y6 wr av (zC pre)/\Below w.heap.size w wr
def OfI (t:ByteArray) (n:Nat) (xv bv iv:Value):Prop:=
 ∃ i x b:Nat,i<=n/\iv= .int .i64 i/\xv= .int .u32 x/\bv= .int .u32 b/\Hid (x=zC ((bts t).take i))/\Hid (b=10 ^ i)
theorem Y9 {l:List UInt8} {i:Nat} (hi:i<l.length):zC (l.take (i+1))=10*zC (l.take i)+dig l[i]:=by
 rw [YQ l i hi,zgj]
theorem zc7 {l:List UInt8} (h:l.all yY=true) (k:Nat):(l.take k).all yY=true:=by
 rw [List.all_eq_true] at*
 exact fun x hx=>h x (List.mem_of_mem_take hx)
theorem znu {l:List UInt8} (h:l.all yY=true) (k:Nat):(l.drop k).all yY=true:=by
 rw [List.all_eq_true] at*
 exact fun x hx=>h x (List.mem_of_mem_drop hx)
theorem Zq {c:UInt8} (h:yY c=true):48<=c.toNat/\c.toNat<=57:=by
 simp [yY] at h;exact h
theorem Vs {i:Nat} (hi:i<=9):10 ^ i<=1000000000:=by
 have:10 ^ i<=10 ^ 9:=Nat.pow_le_pow_right (by omega) hi
 exact this
theorem zbg {i:Nat} (hi:i<=8):10 ^ i<=100000000:=by
 have:10 ^ i<=10 ^ 8:=Nat.pow_le_pow_right (by omega) hi
 exact this
theorem Xr {l:List UInt8} (h:l.all yY=true) (i:Nat):zC (l.take i)<10 ^ i:=by
 have h1:=YR (zc7 h i)
 exact Nat.lt_of_lt_of_le h1 (Nat.pow_le_pow_right (by omega) (List.length_take_le _ _))
theorem ZI (s:ByteArray) (w:World) (hd:(bts s).all yY=true) (hs:s.size<=50000):
 Calls Tryz.prog 127 #[.string s] w (XL w (zC (bts s))):=by
 have HD:=ze hd
 clear hd
 go_enter Tryz.func127,Tryz.ntmps127
 go_wp2
 go_loopw [0,3] (OfR (bts s) w) (fun sv _ _=>match sv with | .string t=>t.size | _=>0)
 case atStart=>exact ⟨s,[],rfl,rfl,zf1 _,Below.refl _ _⟩
 case round=>
  obtain ⟨t,pre,rfl,HL,hna,hbl⟩:=hrel
  have hlen:pre.length+t.size=s.size:=by
   have:=congrArg List.length HL.out;rw [List.length_append,zo,zo] at this
   omega
  by_cases hz:0<t.size
  . have hn9:(t.size - 1) % 9+1<=t.size/\(t.size - 1) % 9<9:=by omega
    have htd:(bts t).all yY=true:=by
     have:=HD.out;rw [HL.out,List.all_append,Bool.and_eq_true] at this;exact this.2
    have HTD:=ze htd;clear htd;obtain ⟨n,hn⟩:∃ n,n=(t.size - 1) % 9+1:=⟨_,rfl⟩;have hn1:n<=t.size/\n<=9/\1<=n:=by omega
    obtain ⟨hn2,hn3,hn4⟩:=hn1;have hnI:((t.size:Int) - 1) % 9+1=(n:Int):=by omega
    have HN:=ze hn;clear hn hn9;go_wp2_with fail
    go_loop [5,6,17] (OfI t n) (fun _ _ iv=>n - (intOf iv).toNat)
    case atStart=>exact ⟨0,0,1,by omega,rfl,rfl,rfl,by rw [List.take_zero];rfl,rfl⟩
    case round=>
     obtain ⟨i,x,b,hi,rfl,rfl,rfl,HX,HB⟩:=hrel
     by_cases hlt:i<n
     . have hit:i<t.size:=by omega
       have hil:i<(bts t).length:=by rw [zo];exact hit
       have hdi:yY t[i]=true:=by
        have:=List.all_eq_true.1 HTD.out _ (List.getElem_mem hil)
        rwa [Zc t i hit] at this
       obtain ⟨c1,c2⟩:=Zq hdi
       have hx:x<100000000:=by
        have h1:=Xr HTD.out i;have h2:=zbg (i:=i) (by omega);rw [<- HX.out] at h1
        omega
       have hb:b<=100000000:=by
        have h2:=zbg (i:=i) (by omega);rw [HB.out];exact h2
       have HDI:=ze hdi;clear hdi;go_wp2_with fail;go_round
       case rel=>
        refine ⟨i+1,10*x+(t[i].toNat - 48),b*10,by omega,by go_num,congrArg _ (by omega),by go_num,?_,?_⟩
        . show _=_
          rw [Y9 hil, <- HX.out,Zc t i hit]
          rfl
        . show _=_
          rw [HB.out,Nat.pow_succ]
       case measure=>simp [intOf];omega
     . obtain rfl:i=n:=by omega
       have hb1:b<=1000000000:=by rw [HB.out];exact Vs hn3
       have hb0:0<b:=by rw [HB.out];exact Nat.pow_pos (by omega)
       have hx1:x<1000000000:=by
        have h1:=Xr HTD.out i;have h2:=Vs hn3;rw [<- HX.out] at h1
        omega
       have hpl:len 4294967296 (zC pre)<=50000:=by
        have h1:zC pre<10 ^ pre.length:=by
         apply YR
         have:=HD.out;rw [HL.out,List.all_append,Bool.and_eq_true] at this;exact this.1
        have h2:zC pre<4294967296 ^ pre.length:=Nat.lt_of_lt_of_le h1 (Nat.pow_le_pow_left (by omega) _);have:=yt (β:=4294967296) (by omega) h2
        omega
       have hxl:=vK (d:=x) (by omega);have hbl1:=vK (d:=b) (by omega);have hpm:=X6 (β:=4294967296) (by omega) (zC pre) b;have HP:=ze (And.intro hpl (And.intro hxl (And.intro hbl1 hpm)));have hn1:=zp4 wr 221 b hb0 (by omega);have hna1:=y6.below hna ((Below.refl _ _).alloc (Nat.le_refl _) (.cells #[.int .u32 (b:Int)] 221));have hmul:=ze (zab _ _ _ _ _ hna1 hn1 (by omega) (by omega));clear hpl hxl hbl1 hpm hn1 hna1;go_wp2_with fail;refine (zI hmul).mono ?_;rintro e w1 ⟨v1,rfl,hv1,hb1⟩;have htr:=ze (Zr (some ⟨w1.heap.size,0,none⟩) 1 1 [x] (w1.alloc (.cells #[.int .u32 (x:Int)] 221)) _ (zg2 w1 221 x) (XE (by omega)) (Nat.le_refl _) (by simp [maxLen]));clear hmul;go_wp2_with fail;refine (zI htr).mono ?_;rintro e w' ⟨v2,rfl,hv2,rfl⟩;rw [ZH] at hv2;have hv2' :y6 (w1.alloc (.cells #[.int .u32 (x:Int)] 221)) v2 x:=hv2.below (Below.refl _ _) (by simp);have hv1' :=y6.below hv1 ((Below.refl _ _).alloc (Nat.le_refl _) (.cells #[.int .u32 (x:Int)] 221));have hadd:=ze (za3 v1 v2 _ _ _ hv1' hv2' (by have:=HP.out;omega) (by have:=HP.out;omega));clear htr hv2;go_wp2_with fail;refine (zI hadd).mono ?_
       rintro e w2 ⟨v3,rfl,hv3,hb3⟩;have hxt:¬ ((t.size:Int)<(i:Int)):=by omega
       go_wp2_with fail;go_roundw
       case rel=>
        have hxe:bts (t.extract i t.size)=(bts t).drop i:=by
         rw [vq,List.take_of_length_le (by rw [zo];exact Nat.le_refl _)]
        have hli:((bts t).take i).length=i:=by rw [List.length_take,zo];omega
        refine ⟨t.extract i t.size,pre ++ (bts t).take i,rfl,?_,?_,?_⟩
        . show _=_
          rw [hxe,List.append_assoc,List.take_append_drop];exact HL.out
        . rw [Yx,hli, <- HX.out, <- HB.out]
          exact hv3
        . exact ext hbl (ext (zf _ _) (ext hb1 (ext (zf _ _) hb3)))
       case measure=>
        show (t.extract i t.size).size<t.size
        rw [ByteArray.size_extract]
        omega
  . have ht0:bts t=[]:=List.eq_nil_of_length_eq_zero (by rw [zo];omega)
    have hpre:pre=bts s:=by have:=HL.out;rw [ht0,List.append_nil] at this;exact this.symm
    have HPR:=ze hpre;have hz0:t.size=0:=by omega
    clear ht0 hpre;go_wp2_with fail;go_ret;refine ⟨_,rfl,?_,hbl⟩;rw [<- HPR.out];exact hna
end Go.Proofs.YtkmcmmcencdcpaaGreatDoor
