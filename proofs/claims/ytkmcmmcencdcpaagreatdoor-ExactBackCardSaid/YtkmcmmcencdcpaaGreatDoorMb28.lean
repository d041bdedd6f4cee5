/- Parts of the proof: memory, numbers, walks of the functions that are called. -/
import Derived.Test.YtkmcmmcencdcpaaGreatDoorMb25
import Derived.Test.YtkmcmmcencdcpaaGreatDoorMb26
import Derived.Test.YtkmcmmcencdcpaaGreatDoorMb27
set_option linter.unusedVariables false
set_option linter.unusedSimpArgs false
namespace Go.Proofs.YtkmcmmcencdcpaaGreatDoor
open Go.RowKit Go.Deep
attribute [local go_sem ↓] Go.wp_at_zero Go.wp_at_succ
theorem ZU (a:Addr) (n:Nat):(a.add n).block=a.block:=by unfold Addr.add;split<;>rfl
def vB (t:zR):List UInt8:=t.coef ++ [32] ++ t.name ++ [32]
def yk (l:List zR):List UInt8:=l.flatMap vB
def xR (r:yv):List UInt8:=yk r.terms ++ ([60,61,32] ++ r.bound ++ [10])
def yt (l:List yv):List UInt8:=l.flatMap xR
theorem XT {α:Type} (f:α->List UInt8) (l:List α) (i:Nat) (h:i<l.length):(l.take (i+1)).flatMap f=(l.take i).flatMap f ++ f l[i]:=by
 rw [List.take_add_one,List.getElem?_eq_getElem h,List.flatMap_append]
 simp
theorem Vg {α:Type} (f:α->List UInt8) (l:List α) (i:Nat):((l.take i).flatMap f).length<=(l.flatMap f).length:=by
 conv=>rhs;rw [<- List.take_append_drop i l,List.flatMap_append,List.length_append]
 omega
abbrev zex (w:World) (B b:Nat) (l:List UInt8):Prop:=Lib.IsBuilderF 70 5 B b (Lib.byteCells l) w
theorem zex.alloc {w:World} {B b:Nat} {l:List UInt8} (h:zex w B b l) (o:Obj):zex (w.alloc o) B b l:=h.elim (fun x=>.inl (x.alloc o)) (fun x=>.inr (x.alloc o))
theorem zex.lt {w:World} {B b:Nat} {l:List UInt8} (h:zex w B b l):b<w.heap.size:=h.elim (fun x=>x.lt) (fun x=>x.lt)
theorem Blk.others {w w' :World} {b g:Nat} {cs:Array Value} {t:TypeId} (h:Blk w g t cs) (hk:Lib.OthersKept 5 (some b) w w') (hne:g≠b) (ht:t≠5):Blk w' g t cs:=
 hk g _ h (fun e=>hne (by injection e)) (fun c fz e=>ht (by injection e))
theorem zdz (B b:Nat) (l x:List UInt8) (w:World) (h:zex w B b l) (hlen:l.length+x.length<=65536) (hBw:B<=w.heap.size) (s:ByteArray) (hs:s.data.toList=x):
 Calls Tryz.prog 35 #[.pointer (some ⟨b,0,none⟩),.string s] w fun e w' =>e= .returned (.tuple #[.int .i64 s.size,.nilIface])/\zex w' B b (l ++ x)/\Below B w w' /\Lib.OthersKept 5 (some b) w w' :=by
 have e:s.size=x.length:=by rw [<- hs,Array.length_toList];rfl
 refine (VV B b _ s w h (by rw [Lib.byteCells_length];omega) hBw).mono ?_
 rintro e w' ⟨rfl,h1,h2,h3⟩
 refine ⟨rfl,.inr ?_,h2,h3⟩
 rw [Lib.byteCells_append, <- hs]
 exact h1
def za7 (w:World) (rows:List yv) (e:Ending) (w' :World):Prop:=
 e= .returned (.tuple #[str (if yH rows=0 then yt rows else []),.int .i64 (yH rows)])/\Below w.heap.size w w'
def PriR (w1:World) (b:Nat) (rows:List yv) (iv:Value) (wr:World):Prop:=
 ∃ i:Nat,i<=rows.length/\iv= .int .i64 i/\Hid (zex wr w1.heap.size b (yt (rows.take i)))/\Hid (Below w1.heap.size w1 wr)
def PriK (w1:World) (b gr:Nat) (cs:Array Value) (l0:List UInt8) (terms:List zR) (kv:Value) (wr:World):Prop:=
 ∃ k:Nat,k<=terms.length/\kv= .int .i64 k/\Hid (zex wr w1.heap.size b (l0 ++ yk (terms.take k)))/\Hid (Blk wr gr 49 cs)/\Hid (Below w1.heap.size w1 wr)
set_option maxRecDepth 100000 in
set_option maxHeartbeats 4000000 in
theorem zcp (A:Option Addr) (n c:Nat) (rows:List yv) (w:World) (hr:xU w (.slice A n c) rows) (hcnt:rows.length<=800->(yJ rows []).length<=100000) (htx:yH rows=0->(yt rows).length<=65536):
 Calls Tryz.prog 10 #[.slice A n c] w (za7 w rows):=by
 obtain rfl:=hr.len
 have hck:=zdi A rows.length c rows w hr hcnt
 have hn8:rows.length<=100000:=by obtain ⟨_,_,_,_,_,_,h,_⟩:=hr;exact h
 have HR:=ze hr
 unfold za7
 have HTX:=ze htx
 clear htx
 obtain ⟨z,hz⟩:∃ z,yH rows=z:=⟨_,rfl⟩
 rw [hz] at hck HTX |-
 have HCK:=ze hck
 clear hr hcnt hck hz
 go_enter Tryz.func10,Tryz.ntmps10
 go_wp2_with fail
 refine HCK.out.mono ?_
 rintro e w1 ⟨rfl,hb1⟩
 replace HR:=ze (zP.below HR.out hb1)
 have HB:=ze hb1
 clear hb1 HCK
 by_cases hz0:z=0
 . subst hz0
   have HL:Hid ((yt rows).length<=65536):=HTX.out rfl;have hl:(yt rows).length<=65536:=HL.out;have hfb:=Lib.fresh_isBuilder 70 5 w1;have HBD:Hid (zex (w1.alloc (.cells #[.pointer none,.slice none 0 0] 70)) w1.heap.size w1.heap.size []):=Lib.IsBuilderF.of hfb;have HBL:Hid (Below w1.heap.size w1 (w1.alloc (.cells #[.pointer none,.slice none 0 0] 70))):=zh w1 _;have HRL:Hid (w.heap.size<=w1.heap.size):=HB.out.size;have HR1:Hid (xU w1 (.slice A rows.length c) rows):=HR.out.more HRL.out;clear hfb HTX HR
   go_upto_region 5 with fail
   obtain ⟨b,hb⟩:∃ b,b=w1.heap.size:=⟨_,rfl⟩;have HBE:=ze hb;generalize w1.alloc (.cells #[.pointer none,.slice none 0 0] 70)=W at HBD HBL |-;have HBD2:Hid (zex W w1.heap.size b []):=ze (by rw [hb];exact HBD.out);rw [<- hb];clear HBD hb hl;go_wp2_with fail
   go_loopw [17] (PriR w1 b rows) (fun iv _=>rows.length - (intOf iv).toNat)
   case atStart=>exact ⟨0,Nat.zero_le _,rfl,HBD2,HBL⟩
   case round=>
    clear HBD2 HBL;obtain ⟨i,hi,rfl,HBD,HBL⟩:=hrel
    by_cases hil:i<rows.length
    . have hii:(i:Int)<(rows.length:Int):=by omega
      obtain ⟨ad,AT,nt,ct,eA,hbb,p0,p1,ht,hsb⟩:=HR1.out.at_ hil;subst eA;replace p0:=(HBL.out.cell (p:=ad.add (i*2)) (by rw [ZU];exact hbb)).trans p0;replace p1:=(HBL.out.cell (p:=⟨(ad.add (i*2)).block,(ad.add (i*2)).off+1,none⟩) (by show (ad.add (i*2)).block<_;rw [ZU];exact hbb)).trans p1;obtain rfl:=ht.len;have hx:=zh wr (.cells #[.slice AT rows[i].terms.length ct,str rows[i].bound] 49);have HK:=ze (Blk.new wr 49 #[.slice AT rows[i].terms.length ct,str rows[i].bound]);have HBD1:=ze (HBD.out.alloc (.cells #[.slice AT rows[i].terms.length ct,str rows[i].bound] 49));have HBL1:=ze (HBL.out.trans (hx.mono HBL.out.size));have HNE:Hid (wr.heap.size≠b):=Nat.ne_of_gt HBD.out.lt;have hsum:(yt (rows.take (i+1)))=yt (rows.take i) ++ xR rows[i]:=XT _ _ _ hil;have hle:(yt (rows.take (i+1))).length<=(yt rows).length:=Vg _ _ _;obtain ⟨r,hrr⟩:∃ r,r=rows[i]:=⟨_,rfl⟩;rw [<- hrr] at p0 p1 ht hsb HK HBD1 HBL1 hsum;have ht8:r.terms.length<=100000:=by obtain ⟨_,_,_,_,_,h,_⟩:=ht;exact h
      have HT:Hid (zo w1 w1.heap.size (.slice AT r.terms.length ct) r.terms):=ht;rw [hsum,List.length_append] at hle;have HSUM:=ze hsum;have HLE:Hid ((yt (rows.take i)).length+(xR r).length<=65536):=Nat.le_trans hle HL.out;clear hrr hsum hle hx ht HBD HBL hsb
      go_upto_region 8 with fail
      clear p0 p1 hbb;generalize wr.alloc (.cells #[.slice AT r.terms.length ct,str r.bound] 49)=W2 at HK HBD1 HBL1 |-;generalize wr.heap.size=gr at HK HNE |-;have r0:=HK.out.cell 0;simp at r0;go_wp2_with fail
      go_loopw [24] (PriK w1 b gr #[.slice AT r.terms.length ct,str r.bound] (yt (rows.take i)) r.terms) (fun kv _=>r.terms.length - (intOf kv).toNat)
      case atStart=>exact ⟨0,Nat.zero_le _,rfl,by rw [List.take_zero];exact ze (by simpa [yk] using HBD1.out),HK,HBL1⟩
      case round=>
       clear HBD1 HBL1 HK r0;obtain ⟨k,hk,rfl,HBD,HK,HBL⟩:=hrel;have r1:=HK.out.cell 1;simp at r1
       by_cases hkl:k<r.terms.length
       . have hki:(k:Int)<(r.terms.length:Int):=by omega
         obtain ⟨ad2,eA,hbb2,q0,q1,hs1,hs2⟩:=HT.out.at_ hkl;subst eA;replace q0:=(HBL.out.cell (p:=ad2.add (k*2)) (by rw [ZU];exact hbb2)).trans q0;replace q1:=(HBL.out.cell (p:=⟨(ad2.add (k*2)).block,(ad2.add (k*2)).off+1,none⟩) (by show (ad2.add (k*2)).block<_;rw [ZU];exact hbb2)).trans q1;have hsum:yk (r.terms.take (k+1))=yk (r.terms.take k) ++ vB r.terms[k]:=XT _ _ _ hkl;have hle:(yk (r.terms.take (k+1))).length<=(yk r.terms).length:=Vg _ _ _;rw [hsum,List.length_append] at hle;have hle2:(yk r.terms).length<=(xR r).length:=by unfold xR;rw [List.length_append];omega
         obtain ⟨t,htt⟩:∃ t,t=r.terms[k]:=⟨_,rfl⟩;rw [<- htt] at q0 q1 hsum hle;have hx:=zh wr (.cells #[str t.name,str t.coef] 60);have HK2:=ze (Blk.new wr 60 #[str t.name,str t.coef]);replace HK:=ze (HK.out.alloc (.cells #[str t.name,str t.coef] 60));replace HBD:=ze (HBD.out.alloc (.cells #[str t.name,str t.coef] 60));replace HBL:=ze (HBL.out.trans (hx.mono HBL.out.size));have HSK:=ze hsum;have hl2:(yt (rows.take i) ++ yk (r.terms.take k)).length+(vB t).length<=65536:=by have:=HLE.out;rw [List.length_append];omega
         have hwr:=fun w' hb' hB' =>zdz w1.heap.size b (yt (rows.take i) ++ yk (r.terms.take k)) (vB t) w' hb' hl2 hB'
         have HWR:=ze hwr;unfold yb at hs1 hs2;rw [<- htt] at hs1 hs2;have c1:¬ 9223372036854775807<t.coef.length+1:=by omega
         have c2:¬ 9223372036854775807<t.coef.length+1+t.name.length:=by omega
         have c3:¬ 9223372036854775807<t.coef.length+1+t.name.length+1:=by omega
         clear hsum hle hle2 htt hx hl2 hwr hs1 hs2 r1
         go_upto_region 11 with fail
         clear q0 q1 hbb2;generalize wr.alloc (.cells #[str t.name,str t.coef] 60)=W3 at HK HK2 HBD HBL |-;generalize wr.heap.size=gt at HK2 |-;have r0:=HK2.out.cell 0;have r1:=HK2.out.cell 1;simp at r0 r1;go_wp2_with fail;refine (HWR.out _ HBD.out HBL.out.size _ ?_).mono ?_
         . unfold vB;simp [ByteArray.data_append]
         rintro e w4 ⟨rfl,hb4,hbl,hok⟩;replace HK:=ze (HK.out.others hok HNE.out (by decide));replace HBL:=ze (HBL.out.trans hbl);replace HBD:Hid (zex w4 w1.heap.size b (yt (rows.take i) ++ yk (r.terms.take (k+1)))):=ze (by rw [HSK.out, <- List.append_assoc];exact hb4);clear hb4 hbl hok HWR HK2 r0 r1;go_wp2_with fail;go_roundw
         case rel=>exact ⟨k+1,by omega,by go_num,HBD,HK,HBL⟩
         case measure=>simp [intOf];omega
       . obtain rfl:r.terms.length=k:=by omega
         have hl2:(yt (rows.take i) ++ yk r.terms).length+([60,61,32] ++ r.bound ++ [10]).length<=65536:=by have:=HLE.out;unfold xR at this;rw [List.length_append] at this |-;omega
         have HWR:=ze (zdz w1.heap.size b (yt (rows.take i) ++ yk r.terms) ([60,61,32] ++ r.bound ++ [10]) wr (by have:=HBD.out;rw [List.take_length] at this;exact this) hl2 HBL.out.size);have hbn:r.bound.length<=65536:=by have:=HLE.out;unfold xR at this;simp only [List.length_append] at this;omega
         have c1:¬ 9223372036854775807<3+r.bound.length:=by omega
         have c2:¬ 9223372036854775807<3+r.bound.length+1:=by omega
         clear hl2 HBD hbn;go_wp2_with fail;refine (HWR.out _ ?_).mono ?_
         . simp [ByteArray.data_append]
         rintro e w4 ⟨rfl,hb4,hbl,hok⟩;replace HBL:=ze (HBL.out.trans hbl);have HBD:Hid (zex w4 w1.heap.size b (yt (rows.take (i+1)))):=ze (by rw [HSUM.out];unfold xR;rw [<- List.append_assoc];exact hb4);clear hb4 hbl hok HWR r1 HK;go_wp2_with fail;go_roundw
         case rel=>exact ⟨i+1,by omega,by go_num,HBD,HBL⟩
         case measure=>simp [intOf];omega
    . obtain rfl:rows.length=i:=by omega
      rw [List.take_length] at HBD;have hln:=zdc w1.heap.size b _ wr HBD.out;obtain ⟨L,hL⟩:∃ L,L=(Lib.byteCells (yt rows)).length:=⟨_,rfl⟩;rw [<- hL] at hln;have d1:¬ (65536:Int)<(L:Int):=by rw [hL,Lib.byteCells_length];have:=HL.out;omega
      have hst:=Vw w1.heap.size b _ wr HBD.out HBL.out.size;have HLN:=ze hln;have HST:=ze hst;clear hL hln hst HBD;go_wp2_with fail;refine HLN.out.mono ?_;rintro e w4 ⟨rfl,rfl⟩;clear HLN;go_wp2_with fail;refine HST.out.mono ?_;rintro e w5 ⟨rfl,hb5,hbl,hok⟩;replace HB:=ze (ext HB.out (HBL.out.trans hbl));clear hb5 hbl hok HST d1;go_wp2_with fail;go_ret2;exact ⟨by first | rfl | (rw [if_pos rfl];rfl),HB.out⟩
 . have hzb:(z == 0)=false:=beq_eq_false_iff_ne.2 hz0
   have HZ:=ze hz0;clear hz0 HR HTX;go_wp2_with fail;go_ret2;exact ⟨by first | rfl | (rw [if_neg HZ.out];rfl),HB.out⟩
end Go.Proofs.YtkmcmmcencdcpaaGreatDoor
