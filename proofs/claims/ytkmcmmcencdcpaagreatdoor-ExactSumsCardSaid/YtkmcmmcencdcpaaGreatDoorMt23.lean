/- Parts of the proof: memory, numbers, walks of the functions that are called. -/
import Derived.Test.YtkmcmmcencdcpaaGreatDoorMt15
import Derived.Test.YtkmcmmcencdcpaaGreatDoorMt13
set_option linter.unusedVariables false
set_option linter.unusedSimpArgs false
set_option maxRecDepth 100000
set_option maxHeartbeats 32000000
namespace Go.Proofs.YtkmcmmcencdcpaaGreatDoor
open Go.RowKit Go.Deep
theorem ZB (s:ByteArray) (w:World) (hs:s.size<=1073741824):
 Calls Tryz.prog 167 #[.string s] w (Vd w (.bool (xd (bts s)))):=by
 go_enter Tryz.func167,Tryz.ntmps167
 go_wp2
 go_loop [3] (fun iv=>∃ k:Nat,k<=s.size/\iv= .int .i64 k/\Hid (∀ j (h:j<s.size),j<k->yY s[j]=true)) (fun iv=>s.size - (intOf iv).toNat)
 case atStart=>exact ⟨0,Nat.zero_le _,rfl,fun j _ h=>by omega⟩
 case round=>
  obtain ⟨k,hk,rfl,HD⟩:=hrel
  by_cases hlt:k<s.size
  . cases hd:yY s[k] with
    | true=>
      obtain ⟨h1,h2⟩:=Zq hd;have HD1:=ze hd;clear hd;go_wp2;go_round
      case rel=>
       refine ⟨k+1,by omega,by go_num,?_⟩;intro j hj hlt2
       rcases Nat.lt_or_ge j k with h3 | h3
       . exact HD.out j hj h3
       . obtain rfl:j=k:=by omega
         exact HD1.out
      case measure=>simp [intOf];omega
    | false=>
      have HF:=ze (VK hlt hd)
      rcases zll hd with h1 | h1
      . clear hd
        go_wp2;go_ret;exact ⟨zU HF.out,rfl⟩
      . have h2:¬ s[k].toNat<48:=by omega
        clear hd;go_wp2;go_ret;exact ⟨zU HF.out,rfl⟩
  . obtain rfl:k=s.size:=by omega
    have hall:(bts s).all yY=true:=by
     rw [List.all_eq_true];intro c hc;obtain ⟨j,hj,rfl⟩:=List.mem_iff_getElem.1 hc;rw [zo] at hj;rw [Zc s j hj];exact HD.out j hj hj
    have HI:=ze (show xd (bts s)= !((s.toList).isEmpty) by unfold xd;rw [hall,Lib.toList_data];rfl);clear hall
    cases hb:(s.toList).isEmpty with
    | true=>
      have HI2:=ze (HI.out.trans (by rw [hb];rfl:_=false));have hb2:s.toList=[]:=by simpa using hb
      clear HI;go_wp2;go_ret;exact ⟨zU HI2.out,rfl⟩
    | false=>
      have HI2:=ze (HI.out.trans (by rw [hb];rfl:_=true));clear HI;go_wp2;go_ret;exact ⟨zU HI2.out,rfl⟩
theorem zms {c:UInt8} {l:List UInt8} {k:Nat} (hk:k<l.length) (h:∀ j (hj:j<l.length),j<k->l[j]≠c) (hc:l[k]=c):has c l=true/\(ahead c l).length=k:=by
 induction l generalizing k with
 | nil=>simp at hk
 | cons b l ih=>
   cases k with
   | zero=>
     simp at hc;subst hc
     constructor
     . simp [has]
     . simp [ahead]
   | succ k=>
     have h0:b≠c:=h 0 (by simp) (by omega);have:=ih (k:=k) (by simpa using hk) (fun j hj hlt=>by have:=h (j+1) (by simpa using hj) (by omega);simpa using this) (by simpa using hc)
     constructor
     . unfold has at this |-
       simp only [List.contains_cons,Bool.or_eq_true];exact .inr this.1
     . unfold ahead at this |-
       rw [List.takeWhile_cons_of_pos (by simpa using h0),List.length_cons,this.2]
theorem zp3 {c:UInt8} {l:List UInt8} (h:∀ j (hj:j<l.length),l[j]≠c):has c l=false:=by
 unfold has
 rw [Bool.eq_false_iff]
 intro hc
 have:=List.contains_iff_mem.1 hc
 obtain ⟨j,hj,e⟩:=List.mem_iff_getElem.1 this
 exact h j hj e
theorem zp7 (s:ByteArray) (c:UInt8) (w:World) (hs:s.size<=1073741824):
 Calls Tryz.prog 166 #[.string s,.int .u8 (c.toNat:Int)] w (zac w s c):=by
 have hc:=UInt8.toNat_lt c
 go_enter Tryz.func166,Tryz.ntmps166
 go_wp2_with fail
 go_loop [7] (fun iv=>∃ k:Nat,k<=s.size/\iv= .int .i64 k/\Hid (∀ j (h:j<s.size),j<k->s[j]≠c)) (fun iv=>s.size - (intOf iv).toNat)
 case atStart=>exact ⟨0,Nat.zero_le _,rfl,fun j _ h=>by omega⟩
 case round=>
  obtain ⟨k,hk,rfl,HD⟩:=hrel
  by_cases hlt:k<s.size
  . by_cases hd:s[k]=c
    . have hI:((s[k].toNat:Int) == (c.toNat:Int))=true:=by rw [hd];simp
      obtain ⟨h1,h2⟩:=zms (c:=c) (l:=bts s) (k:=k) (by rw [zo];exact hlt) (fun j hj hlt2=>by rw [zo] at hj;rw [Zc s j hj];exact HD.out j hj hlt2) (by rw [Zc s k hlt];exact hd);obtain ⟨h3,h4,h5⟩:=zas h1;rw [h2] at h4 h5
      have HP:Hid (∀ n:Nat,zac w s c (.returned (.tuple #[.string (s.extract 0 k),.string (s.extract (k+1) s.size),.bool true])) (w.drewN n)):=by
       intro n;exact ⟨_,_,by rw [h1],h4,by rw [if_pos h1];exact h5,n,rfl⟩
      have hk1:(k:Int)+1<=(s.size:Int):=by omega
      clear h1 h2 h3 h4 h5 hd;go_wp2_with fail
      go_quiet (fail)
      go_wp2;go_ret3;exact HP.out _
    . have hI:((s[k].toNat:Int) == (c.toNat:Int))=false:=by
       rw [beq_eq_false_iff_ne];intro e;exact hd (UInt8.toNat_inj.1 (by omega))
      have HD1:=ze hd;clear hd;go_wp2;go_round
      case rel=>
       refine ⟨k+1,by omega,by go_num,?_⟩;intro j hj hlt2
       rcases Nat.lt_or_ge j k with h3 | h3
       . exact HD.out j hj h3
       . obtain rfl:j=k:=by omega
         exact HD1.out
      case measure=>simp [intOf];omega
  . obtain rfl:k=s.size:=by omega
    have h1:=zp3 (c:=c) (l:=bts s) (fun j hj=>by rw [zo] at hj;rw [Zc s j hj];exact HD.out j hj hj)
    have HP:Hid (zac w s c (.returned (.tuple #[.string s,.string ⟨#[]⟩,.bool false])) w):=
     ⟨_,_,by rw [h1],(Xg h1).symm,by rw [h1];rfl,0,rfl⟩
    clear h1;go_wp2;go_ret3;exact HP.out
def zsn (L:List UInt8) (w:World) (sv ov:Value) (wr:World):Prop:=
 ∃ (t:ByteArray) (O:List Nat),sv= .string t/\t.size+O.length<=L.length/\Hid ((bts t).all yY=true)/\zD 1000000000 O/\Hid (zC L=zC (bts t)*1000000000 ^ O.length+val 1000000000 O)/\
  wr.ownsRow w.heap.size 3 1 ov O.length (Zp O)/\Below w.heap.size w wr
def SizI (t:ByteArray) (f:Nat) (nv iv:Value):Prop:=∃ i n:Nat,f<=i/\i<=t.size/\iv= .int .i64 i/\nv= .int .i64 n/\Hid (n=zC (((bts t).drop f).take (i - f)))
theorem zbh {l:List UInt8} (h:l.all yY=true) (f i:Nat) (hi:i - f<=9):zC ((l.drop f).take (i - f))<1000000000:=by
 have h1:=YR (zc7 (znu h f) (i - f))
 have h2:=Vs hi
 have h3:10 ^ ((l.drop f).take (i - f)).length<=10 ^ (i - f):=Nat.pow_le_pow_right (by omega) (by rw [List.length_take];omega)
 omega
theorem zdc {t:ByteArray} {f i:Nat} (hf:f<=i) (hi:i<t.size):zC (((bts t).drop f).take (i+1 - f))=10*zC (((bts t).drop f).take (i - f))+dig t[i]:=by
 have e:i+1 - f=(i - f)+1:=by omega
 have hl:i - f<((bts t).drop f).length:=by rw [List.length_drop,zo];omega
 rw [e,Y9 hl,List.getElem_drop]
 congr 2
 have:f+(i - f)=i:=by omega
 simp only [this]
 exact Zc t i hi
theorem zsn.step {L:List UInt8} {w wr w2:World} {t:ByteArray} {O:List Nat} {ov ov2:Value} {o:Obj} {f n:Nat} (ht:t.size+O.length<=L.length) (h0:0<t.size) (hf:f=t.size - 9) (HD:Hid ((bts t).all yY=true)) (hsO:zD 1000000000 O)
 (HV:Hid (zC L=zC (bts t)*1000000000 ^ O.length+val 1000000000 O)) (hown:wr.ownsRow w.heap.size 3 1 ov O.length (Zp O)) (hbl:Below w.heap.size w wr)
 (hn:n=zC (((bts t).drop f).take (t.size - f))) (hown2:w2.ownsRow w.heap.size 3 1 ov2 (O.length+1) (Zp O ++ [.int .i64 (n:Int)])) (hg:(wr.alloc o).grownBy w2 ov.ownBlock):
 zsn L w (.string (t.extract 0 f)) ov2 w2:=by
 have hlt:n<1000000000:=by rw [hn];exact zbh HD.out f t.size (by omega)
 have hft:f<=t.size:=by omega
 have hbe:bts (t.extract 0 f)=(bts t).take f:=by have:=vq t 0 f;rw [List.drop_zero] at this;exact this
 have hsz:(t.extract 0 f).size=f:=by rw [<- zo,hbe,List.length_take,zo];omega
 refine ⟨_,O ++ [n],rfl,by rw [hsz,List.length_append];simp;omega,?_,hsO.append (zD.cons hlt (zD.nil _)),?_,?_,?_⟩
 . rw [hbe];exact zc7 HD.out f
 . show _=_
   have hdr:((bts t).drop f).take (t.size - f)=(bts t).drop f:=List.take_of_length_le (by rw [List.length_drop,zo];exact Nat.le_refl _)
   have e1:zC (bts t)=zC ((bts t).take f)*10 ^ (t.size - f)+n:=by
    conv=>lhs;rw [<- List.take_append_drop f (bts t)]
    rw [Yx,List.length_drop,zo,hn,hdr]
   rw [HV.out,e1,hbe,Zk,List.length_append,List.length_singleton,Nat.pow_succ]
   by_cases h9:9<=t.size
   . have:t.size - f=9:=by omega
     rw [this,show (10:Nat) ^ 9=1000000000 by decide,Nat.add_mul,Nat.mul_assoc,Nat.mul_comm 1000000000 (1000000000 ^ O.length),Nat.mul_comm n]
     omega
   . have:f=0:=by omega
     subst this;rw [List.take_zero,zci,Nat.zero_mul,Nat.zero_mul,Nat.zero_add,Nat.zero_add,Nat.mul_comm n]
     omega
 . rw [List.length_append,X5]
   exact hown2
 . exact (hbl.alloc hbl.size o).grown hg (by have:=hbl.size;simp;omega) (fun k hk=>(hown.lt k hk).1)
theorem VU (s:ByteArray) (w:World) (hd:(bts s).all yY=true) (hs:s.size<=1000000):
 Calls Tryz.prog 168 #[.string s] w (zbv w (zC (bts s))):=by
 have HD:=ze hd
 have HB:=ze (show (bts s).length=s.size from zo s)
 clear hd
 obtain ⟨i0,hi0,hz0,hz1,hz2⟩:=info_parts zck
 go_enter Tryz.func168,Tryz.ntmps168
 go_wp2_with fail
 go_loopw [0,3] (zsn (bts s) w) (fun sv _ _=>match sv with | .string t=>t.size | _=>0)
 case atStart=>exact ⟨s,[],rfl,by rw [zo];simp,HD,zD.nil _,by simp [Hid,val],World.ownsRow_nil _ _ _ _,xw _⟩
 case round=>
  obtain ⟨t,O,rfl,ht,HT,hsO,HV,hown,hbl⟩:=hrel
  rw [HB.out] at ht
  by_cases h0:0<t.size
  . obtain ⟨f,hf⟩:∃ f,f=t.size - 9:=⟨_,rfl⟩
    rcases (show 9<=t.size\/t.size<9 by omega) with h9 | h9
    all_goals
     have hfI:max ((t.size:Int) - 9) 0=(f:Int):=by omega
     have hft:f<=t.size:=by omega
     have HF:=ze hf;clear hf;go_wp2_with fail
     go_loop [5,6] (SizI t f) (fun _ iv=>t.size - (intOf iv).toNat)
     case atStart=>exact ⟨f,0,Nat.le_refl _,hft,rfl,rfl,by rw [Nat.sub_self,List.take_zero];rfl⟩
     case round=>
      obtain ⟨i,n,hi1,hi2,rfl,rfl,HN⟩:=hrel
      by_cases hlt:i<t.size
      . have hn9:n<1000000000:=by rw [HN.out];exact zbh HT.out f i (by have:=HF.out;omega)
        have hdi:yY t[i]=true:=by
         have:=List.all_eq_true.1 HT.out _ (List.getElem_mem (show i<(bts t).length by rw [zo];exact hlt))
         rwa [Zc t i hlt] at this
        obtain ⟨c1,c2⟩:=Zq hdi;clear hdi;go_wp2_with fail;go_round
        case rel=>
         refine ⟨i+1,10*n+(t[i].toNat - 48),by omega,by omega,by go_num,congrArg _ (by omega),?_⟩
         show _=_
         rw [zdc hi1 hlt, <- HN.out]
         rfl
        case measure=>simp [intOf];omega
      . obtain rfl:i=t.size:=by omega
        have hol:O.length<=1000000:=by omega
        have hrd:=xj wr 3 (.int .i64 (n:Int))
        have h1c:∀ u∈[Value.int .i64 (n:Int)],u.oneCell' =true:=by
         intro u hu;rw [List.mem_singleton] at hu;subst hu;rfl
        go_wp2_with (at_builtin;refine yj _ rfl (.tmp 29) (.tmp 31) _ rfl w.heap.size 3 i0 _ 1 8 Tryz.underlying96 hi0 hz0 hz1 hz2 rfl (by omega) _ O.length (Zp O) rfl (hown.alloc _) _ (some ⟨wr.heap.size,0,none⟩) 1 1 _ rfl hrd h1c ?o2 ?o3 ?o4 ?_)
        case o2=>unfold maxLen;omega
        case o3=>omega
        case o4=>have:=hbl.size;simp;omega
        intro v3 w3 hown3 hgr3 hat3;have HO3:=ze hown3;have HG3:=ze hgr3;clear hown3 hgr3 hat3 hrd h1c;go_wp2_with fail;go_roundw
        case rel=>exact zsn.step (by rw [HB.out];exact ht) h0 HF.out HT hsO HV hown hbl HN.out HO3.out HG3.out
        case measure=>
         have e:(t.extract 0 f).size=f:=by
          have hbe:bts (t.extract 0 f)=(bts t).take f:=by have:=vq t 0 f;rw [List.drop_zero] at this;exact this
          rw [<- zo,hbe,List.length_take,zo];omega
         show (t.extract 0 f).size<t.size
         rw [e];have:=HF.out
         omega
  . have ht0:bts t=[]:=List.eq_nil_of_length_eq_zero (by rw [zo];omega)
    have HE:=ze (show val 1000000000 O=zC (bts s) by have:=HV.out;rw [ht0,zci] at this;omega);obtain ⟨g,cg,rfl,hcg,hcm,hrd⟩:=XD hown;have HCM:=ze hcm;have hol:O.length<=1000000:=by omega
    clear hcm ht0;go_wp2_with (go_at_call 202;refine (Zz _ _ _ _ _ _ hrd hsO hcg HCM.out).mono ?_;rintro e w' ⟨v,rfl,hnat,rfl⟩);go_ret;exact ⟨v,rfl,by rw [<- HE.out];exact hnat,hbl⟩
def WriR (da:List Nat) (w:World) (ov iv:Value) (wr:World):Prop:=
 ∃ (k:Nat) (l:List Nat),k<=da.length/\iv= .int .i64 k/\ov=str ((l.map chr).reverse)/\Hid (l ++ digs 10 (val 1000000000 (da.drop k))=digs 10 (val 1000000000 da))/\wr=w
def WriI (da:List Nat) (k:Nat) (ov nv iv:Value):Prop:=
 ∃ (i r:Nat) (l:List Nat),i<=9/\iv= .int .i64 i/\nv= .int .i64 r/\r<1000000000/\Hid (r<10 ^ (9 - i))/\ov=str ((l.map chr).reverse)/\
  Hid (l ++ digs 10 (r+val 1000000000 (da.drop (k+1))*10 ^ (9 - i))=digs 10 (val 1000000000 da))
theorem zhd {da:List Nat} (hc:yJ 1000000000 da) {k:Nat} (hk:k<da.length):0<val 1000000000 (da.drop (k)):=by
 have h1:da.drop k≠[]:=by intro e;have:=congrArg List.length e;simp at this;omega
 have h2:yJ 1000000000 (da.drop k):=by
  refine ⟨hc.1.drop k,?_⟩
  rw [List.getLast?_drop,if_neg (by omega)]
  exact hc.2
 rcases Nat.eq_zero_or_pos (val 1000000000 (da.drop k)) with e | e
 . exact absurd ((h2.zero_iff (by omega)).1 e) h1
 . exact e
theorem zfn (r:Nat):Utf8.encode (48+(r:Int) % 10)=⟨#[chr (r % 10)]⟩:=by
 have e:(48+(r:Int) % 10)=((48+r % 10:Nat):Int):=by omega
 rw [e]
 have v:Utf8.valid ((48+r % 10:Nat):Int)=true:=by simp [Utf8.valid];omega
 have c1:48+r % 10<128:=by omega
 have c2:((48+r % 10:Nat):Int).toNat=48+r % 10:=by omega
 simp only [Utf8.encode,v,c2,c1,if_true]
 unfold chr
 rfl
theorem zqp {l:List Nat} {m a:Nat} (h:l ++ digs 10 m=digs 10 a) (ha:len 1000000000 a<=33554432):l.length<=301989888:=by
 have h1:=congrArg List.length h
 rw [List.length_append] at h1
 have h2:(digs 10 a).length=len 10 a:=rfl
 have h4:len 10 a<=9*len 1000000000 a:=by
  apply yt (by omega)
  have h5:=xH (β:=1000000000) (by omega) a
  have h6:(1000000000:Nat)=10 ^ 9:=by decide
  rw [h6, <- Nat.pow_mul, <- h6] at h5
  exact h5
 omega
theorem zh9 (l:List Nat) (d:Nat):(⟨#[chr d]⟩:ByteArray) ++ (⟨((l.map chr).reverse).toArray⟩:ByteArray)=⟨(((l ++ [d]).map chr).reverse).toArray⟩:=by
 apply ByteArray.ext
 rw [ByteArray.data_append]
 simp
theorem wrn {l:List Nat} {r m a:Nat} (h:l ++ digs 10 m=digs 10 a) (ha:len 1000000000 a<=33554432)
 (hc:9223372036854775807<(Utf8.encode (48+(r:Int) % 10)).size+l.length):False:=by
 rw [zfn r] at hc
 have:(⟨#[chr (r % 10)]⟩:ByteArray).size=1:=rfl
 have:=zqp h ha
 omega
theorem xh (va:Value) (a:Nat) (w:World) (ha:zz w va a) (hla:len 1000000000 a<=33554432):
 Calls Tryz.prog 117 #[va] w (Vd w (str (dec a))):=by
 obtain ⟨A,ca,da,rfl,h1,h2,hra,h4,rfl⟩:=ha
 have HLA:=ze hla
 rw [<- h4.length_eq (by omega)] at hla
 have hsa:=h4.1
 have hda0:da.length=0\/0<da.length:=by omega
 by_cases h0:da.length=0
 . have e:da=[]:=List.eq_nil_of_length_eq_zero h0
   subst e
   go_enter Tryz.func117,Tryz.ntmps117
   go_wp2_with fail;go_ret;exact ⟨by rw [vk,xV];rfl,rfl⟩
 . have h0I:((da.length:Int) == 0)=false:=by rw [beq_eq_false_iff_ne];omega
   have HC:=ze h4;have hdp:0<da.length:=by omega
   clear h4 h0 hda0
   go_enter Tryz.func117,Tryz.ntmps117
   go_wp2_with fail
   go_loop [3,4] (fun ov iv=>WriR da w ov iv w) (fun _ iv=>da.length - (intOf iv).toNat)
   case atStart=>exact ⟨0,[],Nat.zero_le _,rfl,rfl,rfl,rfl⟩
   case round=>
    obtain ⟨k,l,hk,rfl,rfl,HV,_⟩:=hrel
    by_cases hlt:k<da.length
    . obtain ⟨ada,u,rfl,hba,hx,hcell⟩:=hra.at_ hlt
      rw [xR hlt] at hx;injection hx with hx
      subst hx;have hx1:da[k]<1000000000:=hsa.get k hlt;have HX:=ze hx1;go_wp2_with fail
      go_loop [3,5,6] (WriI da k) (fun _ _ iv=>9 - (intOf iv).toNat)
      case atStart=>
       refine ⟨0,da[k],l,by omega,rfl,rfl,HX.out,?_,rfl,?_⟩
       . show _<10 ^ 9
         exact HX.out
       . show _=_
         have:=HV.out;rw [Z5 _ _ _ hlt] at this;rw [show (10:Nat) ^ (9 - 0)=1000000000 by decide,Nat.mul_comm];exact this
      case round=>
       clear HV;obtain ⟨i,r,l,hi,rfl,rfl,hr,HR,rfl,HV⟩:=hrel
       by_cases hgo:i<9/\(k+1<da.length\/0<r)
       . obtain ⟨hi9,hpos⟩:=hgo
         by_cases hk1:k+1<da.length
         . have hkI:(k:Int)<(da.length:Int) - 1:=by omega
           clear hpos;go_wp2_with fail
           case isTrue=>exact (wrn (r:=r) HV.out HLA.out ‹_›).elim
           go_round
           case rel=>
            obtain ⟨t1,t2⟩:=zaq hi9 (.inl (zhd HC.out hk1)) HV.out HR.out;exact ⟨i+1,r / 10,l ++ [r % 10],by omega,by go_num,by go_num,by omega,t2,by rw [zfn,zh9],t1⟩
           case measure=>simp [intOf];omega
         . have hkI:¬ (k:Int)<(da.length:Int) - 1:=by omega
           have hrI:(0:Int)<(r:Int):=by omega
           have HRP:=ze (show 0<r by omega);clear hpos;go_wp2_with fail
           case isTrue=>exact (wrn (r:=r) HV.out HLA.out ‹_›).elim
           go_round
           case rel=>
            obtain ⟨t1,t2⟩:=zaq hi9 (.inr HRP.out) HV.out HR.out;exact ⟨i+1,r / 10,l ++ [r % 10],by omega,by go_num,by go_num,by omega,t2,by rw [zfn,zh9],t1⟩
           case measure=>simp [intOf];omega
       . have HE:Hid (l ++ digs 10 (val 1000000000 (da.drop (k+1)))=digs 10 (val 1000000000 da)):=by
          have h1:=HV.out;have h2:=HR.out
          show _=_
          by_cases hi9:i<9
          . have hk1:da.length<=k+1:=by omega
            have hr0:r=0:=by omega
            rw [List.drop_of_length_le hk1,vk] at h1 |-;rw [hr0,Nat.zero_mul] at h1;exact h1
          . have hi0:i=9:=by omega
            subst hi0
            have hr0:r=0:=by
             have:(10:Nat) ^ (9 - 9)=1:=by decide
             omega
            rw [hr0,show (10:Nat) ^ (9 - 9)=1 by decide,Nat.mul_one,Nat.zero_add] at h1;exact h1
         by_cases hi9:i<9
         . have hkI:¬ (k:Int)<(da.length:Int) - 1:=by omega
           have hr0:¬ (0:Int)<(r:Int):=by omega
           clear hgo;go_wp2_with fail;go_round
           case rel=>exact ⟨k+1,l,by omega,by go_num,rfl,HE.out,rfl⟩
           case measure=>simp [intOf];omega
         . have hi0:i=9:=by omega
           clear hgo;go_wp2_with fail;go_round
           case rel=>exact ⟨k+1,l,by omega,by go_num,rfl,HE.out,rfl⟩
           case measure=>simp [intOf];omega
    . obtain rfl:k=da.length:=by omega
      have HE:=ze (show (l.map chr).reverse=dec (val 1000000000 da) by
       have h1:=HV.out;rw [List.drop_length,vk,Za,List.append_nil] at h1
       exact zhp (by have:=zhd HC.out (k:=0) (by omega);rw [List.drop_zero] at this;omega) h1)
      rw [HE.out];go_wp2_with fail;go_ret;exact ⟨rfl,rfl⟩
def VQ (M:Nat) (q:Rat):Prop:=len 1000000000 q.num.natAbs<=M/\len 1000000000 q.den<=M
theorem zk4 {a M:Nat} (h:len 1000000000 a<=M):(dec a).length<=9*M+1:=by
 apply Y2 _ (by omega)
 have h5:=xH (β:=1000000000) (by omega) a
 have h6:(1000000000:Nat)=10 ^ 9:=by decide
 rw [h6, <- Nat.pow_mul, <- h6] at h5
 exact Nat.lt_of_lt_of_le h5 (Nat.pow_le_pow_right (Nat.zero_lt_succ _) (by omega))
theorem zib {a:Nat} (h:len 1000000000 a<=33554432):(dec a).length<=301989889:=zk4 h
theorem vV.form {w:World} {v:Value} {q:Rat} (h:vV w v q):∃ ng A c B d,v= .agg #[.bool ng,.slice A (len 1000000000 q.num.natAbs) c,.slice B (len 1000000000 q.den) d]/\ng=decide (q.num<0)/\
 zz w (.slice A (len 1000000000 q.num.natAbs) c) q.num.natAbs/\zz w (.slice B (len 1000000000 q.den) d) q.den:=by
 obtain ⟨ng,A,n,c,B,m,d,rfl,hng,ha1,ha2⟩:=h
 obtain ⟨A',c',e1⟩:=ha1.form
 obtain ⟨B',d',e2⟩:=ha2.form
 injection e1 with e1 e2' e3
 injection e2 with f1 f2 f3
 subst e1 e2' e3 f1 f2 f3
 exact ⟨_,_,_,_,_,rfl,hng,ha1,ha2⟩
theorem zje (ng:Bool) (q:Rat) (h:ng=decide (q.num<0)):zT q=(if ng then [45] else []) ++ dec q.num.natAbs ++ (if q.den=1 then [] else 47 :: dec q.den):=by
 unfold zT;rw [h];by_cases h0:q.num<0<;>simp [h0]
theorem zdn (va:Value) (q:Rat) (w:World) (ha:vV w va q) (hl:VQ 33554432 q):
 Calls Tryz.prog 98 #[va] w (zhi w (zT q)):=by
 obtain ⟨ng,A,c,B,d,rfl,hng,ha1,ha2⟩:=ha.form
 have HB:=ze (zf w (.cells #[.bool ng,.slice A (len 1000000000 q.num.natAbs) c,.slice B (len 1000000000 q.den) d] 98))
 have HA:=ze (ha1.below HB.out)
 have h2:=ha2.below HB.out
 have HD:=ze h2
 have HL1:=ze hl.1
 have HL2:=ze hl.2
 have b1:=zib HL1.out
 have b2:=zib HL2.out
 have HQ:=ze (zje ng q hng)
 clear ha ha1 ha2 hl hng
 obtain ⟨n,hn⟩:∃ n,len 1000000000 q.num.natAbs=n:=⟨_,rfl⟩
 rw [hn] at HA HB HD h2 |-
 clear hn
 by_cases hd:q.den=1
 . have hl1:len 1000000000 q.den=1:=by rw [hd];exact vt (by omega) (by omega)
   obtain ⟨adg,rfl,hk,hgb,hgc⟩:=h2.first hl1;rw [hl1] at HA HB hgc |-;rw [hd] at hgc;have HDD:=ze hd;clear hd h2 hl1 hk b2 HD
   cases ng
   . go_enter Tryz.func98,Tryz.ntmps98
     go_wp2_with fail;refine (xh _ q.num.natAbs _ HA.out HL1.out).mono ?_;rintro e w1 ⟨rfl,rfl⟩;go_wp2_with fail;go_ret;refine ⟨?_,HB.out⟩;rw [HQ.out,if_pos HDD.out];apply congrArg (fun x=>Ending.returned (Value.string x));apply ByteArray.ext;simp
   . have hs:¬ 9223372036854775807<(dec q.num.natAbs).length+1:=by omega
     clear b1
     go_enter Tryz.func98,Tryz.ntmps98
     go_wp2_with fail;refine (xh _ q.num.natAbs _ HA.out HL1.out).mono ?_;rintro e w1 ⟨rfl,rfl⟩;go_wp2_with fail;go_ret;refine ⟨?_,HB.out⟩;rw [HQ.out,if_pos HDD.out];apply congrArg (fun x=>Ending.returned (Value.string x));apply ByteArray.ext;simp
 . by_cases hl1:len 1000000000 q.den=1
   . obtain ⟨adg,rfl,hk,hgb,hgc⟩:=h2.first hl1
     have hdI:((q.den:Int) != 1)=true:=by rw [bne_iff_ne];omega
     rw [hl1] at HA HB HD hgc |-;have HDD:=ze hd;have hs:¬ 9223372036854775807<(dec q.num.natAbs).length+1:=by omega
     have hs1:¬ 9223372036854775807<(dec q.den).length+1:=by omega
     have hs2:¬ 9223372036854775807<(dec q.num.natAbs).length+((dec q.den).length+1):=by omega
     have hs3:¬ 9223372036854775807<(dec q.num.natAbs).length+1+((dec q.den).length+1):=by omega
     clear hd h2 hl1 hk b1 b2
     cases ng
     all_goals
      go_enter Tryz.func98,Tryz.ntmps98
      go_wp2_with fail;refine (xh _ q.num.natAbs _ HA.out HL1.out).mono ?_;rintro e w1 ⟨rfl,rfl⟩;go_wp2_with fail;refine (xh _ q.den _ HD.out HL2.out).mono ?_;rintro e w1 ⟨rfl,rfl⟩;go_wp2_with fail;go_ret;refine ⟨?_,HB.out⟩;rw [HQ.out,if_neg HDD.out];apply congrArg (fun x=>Ending.returned (Value.string x));apply ByteArray.ext;simp
   . have hlI:((len 1000000000 q.den:Int) != 1)=true:=by rw [bne_iff_ne];omega
     have HDD:=ze hd;have hs:¬ 9223372036854775807<(dec q.num.natAbs).length+1:=by omega
     have hs1:¬ 9223372036854775807<(dec q.den).length+1:=by omega
     have hs2:¬ 9223372036854775807<(dec q.num.natAbs).length+((dec q.den).length+1):=by omega
     have hs3:¬ 9223372036854775807<(dec q.num.natAbs).length+1+((dec q.den).length+1):=by omega
     obtain ⟨m,hm⟩:∃ m,len 1000000000 q.den=m:=⟨_,rfl⟩;rw [hm] at HA HB HD hlI |-;clear hd h2 hl1 b1 b2 hm
     cases ng
     all_goals
      go_enter Tryz.func98,Tryz.ntmps98
      go_wp2_with fail;refine (xh _ q.num.natAbs _ HA.out HL1.out).mono ?_;rintro e w1 ⟨rfl,rfl⟩;go_wp2_with fail;refine (xh _ q.den _ HD.out HL2.out).mono ?_;rintro e w1 ⟨rfl,rfl⟩;go_wp2_with fail;go_ret;refine ⟨?_,HB.out⟩;rw [HQ.out,if_neg HDD.out];apply congrArg (fun x=>Ending.returned (Value.string x));apply ByteArray.ext;simp
end Go.Proofs.YtkmcmmcencdcpaaGreatDoor
