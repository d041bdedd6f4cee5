/- Parts of the proof. -/
import Derived.Test.YthbmhkiphmcogaaGreatDoorMe13
import Derived.Test.YthbmhkiphmcogaaGreatDoorMe11
set_option linter.all false
set_option maxRecDepth 100000
set_option maxHeartbeats 32000000
namespace Go.Proofs.YthbmhkiphmcogaaGreatDoor
open Proofs.Tryz Go.RowKit Go.Deep
theorem Y5 (s:ByteArray) (w:World) (hs:s.size<=1073741824):
 Calls Tryz.prog 89 #[.string s] w (zbj w (.bool (xG (bts s)))):=by
 go_enter func89,ntmps89
 go_wp2
 go_loop [3] (fun iv=>∃ k:Nat,k<=s.size/\iv= .int .i64 k/\Hid (∀ j (h:j<s.size),j<k->xu s[j]=true)) (fun iv=>s.size - (intOf iv).toNat)
 case atStart=>exact ⟨0,Nat.zero_le _,rfl,fun j _ h=>by omega⟩
 case round=>
  obtain ⟨k,F,rfl,y⟩:=hrel
  by_cases B:k<s.size
  rotate_left
  . obtain rfl:k=s.size:=by omega
    have r:(bts s).all xu=true:=by
     rw [List.all_eq_true];intro c E;obtain ⟨j,b,rfl⟩:=List.mem_iff_getElem.1 E;rw [zm] at b;rw [ZL s j b];exact y.o j b b
    have e:=ze (show xG (bts s)= !((s.toList).isEmpty) by unfold xG;rw [r,Lib.toList_data];rfl);clear r
    cases hb:(s.toList).isEmpty with
    | true=>
      have l:=ze (e.o.trans (by rw [hb];rfl:_=false));have I:s.toList=[]:=by simpa using hb
      clear e;go_wp2;go_ret;exact ⟨yd l.o,rfl⟩
    | false=>
      have l:=ze (e.o.trans (by rw [hb];rfl:_=true));clear e;go_wp2;go_ret;exact ⟨yd l.o,rfl⟩
  cases hd:xu s[k] with
  | true=>
    obtain ⟨u,D⟩:=Yh hd;have C:=ze hd;clear hd;go_wp2;go_round
    case rel=>
     refine ⟨k+1,by omega,by go_num,?_⟩;intro j b G
     rcases Nat.lt_or_ge j k with m | m
     . exact y.o j b m
     . obtain rfl:j=k:=by omega
       exact C.o
    case measure=>simp [intOf];omega
  | false=>
    have z:=ze (zcc B hd)
    rcases zpy hd with u | u
    . clear hd
      go_wp2;go_ret;exact ⟨yd z.o,rfl⟩
    . have D:¬ s[k].toNat<48:=by omega
      clear hd;go_wp2;go_ret;exact ⟨yd z.o,rfl⟩
theorem zrs {c:UInt8} {l:List UInt8} {k:Nat} (hk:k<l.length) (h:∀ j (hj:j<l.length),j<k->l[j]≠c) (hc:l[k]=c):has c l=true/\(ahead c l).length=k:=by
 induction l generalizing k with
 | nil=>simp at hk
 | cons b l ih=>
   cases k with
   | zero=>
     simp at hc;subst hc
     constructor
     . simp [has]
     simp [ahead]
   | succ k=>
     have e:b≠c:=h 0 (by simp) (by omega);have:=ih (k:=k) (by simpa using hk) (fun j hj hlt=>by have:=h (j+1) (by simpa using hj) (by omega);simpa using this) (by simpa using hc)
     constructor
     . unfold has at this |-
       simp only [List.contains_cons,Bool.or_eq_true];exact .inr this.1
     unfold ahead at this |-
     rw [List.takeWhile_cons_of_pos (by simpa using e),List.length_cons,this.2]
theorem zvk {c:UInt8} {l:List UInt8} (h:∀ j (b:j<l.length),l[j]≠c):has c l=false:=by
 unfold has
 rw [Bool.eq_false_iff]
 intro m
 have:=List.contains_iff_mem.1 m
 obtain ⟨j,b,e⟩:=List.mem_iff_getElem.1 this
 exact h j b e
theorem zvp (s:ByteArray) (c:UInt8) (w:World) (hs:s.size<=1073741824):
 Calls Tryz.prog 88 #[.string s,.int .u8 (c.toNat:Int)] w (zdl w s c):=by
 have K:=UInt8.toNat_lt c
 go_enter func88,ntmps88
 go_wp2_with fail
 go_loop [7] (fun iv=>∃ k:Nat,k<=s.size/\iv= .int .i64 k/\Hid (∀ j (h:j<s.size),j<k->s[j]≠c)) (fun iv=>s.size - (intOf iv).toNat)
 case atStart=>exact ⟨0,Nat.zero_le _,rfl,fun j _ h=>by omega⟩
 case round=>
  obtain ⟨k,I,rfl,y⟩:=hrel
  by_cases C:k<s.size
  rotate_left
  . obtain rfl:k=s.size:=by omega
    have m:=zvk (c:=c) (l:=bts s) (fun j b=>by rw [zm] at b;rw [ZL s j b];exact y.o j b b)
    have u:Hid (zdl w s c (.returned (.tuple #[.string s,.string ⟨#[]⟩,.bool false])) w):=
     ⟨_,_,by rw [m],(Vy m).symm,by rw [m];rfl,0,rfl⟩
    clear m;go_wp2;go_ret3;exact u.o
  by_cases hd:s[k]=c
  . have G:((s[k].toNat:Int) == (c.toNat:Int))=true:=by rw [hd];simp
    obtain ⟨m,E⟩:=zrs (c:=c) (l:=bts s) (k:=k) (by rw [zm];exact C) (fun j b D=>by rw [zm] at b;rw [ZL s j b];exact y.o j b D) (by rw [ZL s k C];exact hd);obtain ⟨r,z,B⟩:=zc6 m;rw [E] at z B
    have u:Hid (∀ n:Nat,zdl w s c (.returned (.tuple #[.string (s.extract 0 k),.string (s.extract (k+1) s.size),.bool true])) (w.drewN n)):=by
     intro n;exact ⟨_,_,by rw [m],z,by rw [if_pos m];exact B,n,rfl⟩
    have J:(k:Int)+1<=(s.size:Int):=by omega
    clear m E r z B hd;go_wp2_with fail
    go_quiet (fail)
    go_wp2;go_ret3;exact u.o _
  have G:((s[k].toNat:Int) == (c.toNat:Int))=false:=by
   rw [beq_eq_false_iff_ne];intro e;exact hd (UInt8.toNat_inj.1 (by omega))
  have F:=ze hd;clear hd;go_wp2;go_round
  case rel=>
   refine ⟨k+1,by omega,by go_num,?_⟩;intro j b D
   rcases Nat.lt_or_ge j k with r | r
   . exact y.o j b r
   . obtain rfl:j=k:=by omega
     exact F.o
  case measure=>simp [intOf];omega
def zxx (L:List UInt8) (w:World) (sv ov:Value) (wr:World):Prop:=
 ∃ (t:ByteArray) (O:List Nat),sv= .string t/\t.size+O.length<=L.length/\Hid ((bts t).all xu=true)/\zI 1000000000 O/\Hid (zH L=zH (bts t)*1000000000 ^ O.length+val 1000000000 O)/\
  wr.ownsRow w.heap.size 3 1 ov O.length (Yd O)/\Below w.heap.size w wr
def SizI (t:ByteArray) (f:Nat) (nv iv:Value):Prop:=∃ i n:Nat,f<=i/\i<=t.size/\iv= .int .i64 i/\nv= .int .i64 n/\Hid (n=zH (((bts t).drop f).take (i - f)))
theorem zdp {l:List UInt8} (h:l.all xu=true) (f i:Nat) (hi:i - f<=9):zH ((l.drop f).take (i - f))<1000000000:=by
 have b:=Vi (zgj (zsi h f) (i - f))
 have j:=zbg hi
 have e:10 ^ ((l.drop f).take (i - f)).length<=10 ^ (i - f):=Nat.pow_le_pow_right (by omega) (by rw [List.length_take];omega)
 omega
theorem zgm {t:ByteArray} {f i:Nat} (hf:f<=i) (hi:i<t.size):zH (((bts t).drop f).take (i+1 - f))=10*zH (((bts t).drop f).take (i - f))+dig t[i]:=by
 have e:i+1 - f=(i - f)+1:=by omega
 have b:i - f<((bts t).drop f).length:=by rw [List.length_drop,zm];omega
 rw [e,XU b,List.getElem_drop]
 congr 2
 have:f+(i - f)=i:=by omega
 simp only [this]
 exact ZL t i hi
theorem zxx.step {L:List UInt8} {w wr w2:World} {t:ByteArray} {O:List Nat} {ov ov2:Value} {o:Obj} {f n:Nat} (ht:t.size+O.length<=L.length) (h0:0<t.size) (hf:f=t.size - 9) (HD:Hid ((bts t).all xu=true)) (hsO:zI 1000000000 O)
 (HV:Hid (zH L=zH (bts t)*1000000000 ^ O.length+val 1000000000 O)) (hown:wr.ownsRow w.heap.size 3 1 ov O.length (Yd O)) (hbl:Below w.heap.size w wr)
 (hn:n=zH (((bts t).drop f).take (t.size - f))) (hown2:w2.ownsRow w.heap.size 3 1 ov2 (O.length+1) (Yd O ++ [.int .i64 (n:Int)])) (hg:(wr.alloc o).grownBy w2 ov.ownBlock):
 zxx L w (.string (t.extract 0 f)) ov2 w2:=by
 have e:n<1000000000:=by rw [hn];exact zdp HD.o f t.size (by omega)
 have r:f<=t.size:=by omega
 have b:bts (t.extract 0 f)=(bts t).take f:=by have:=Zj t 0 f;rw [List.drop_zero] at this;exact this
 have j:(t.extract 0 f).size=f:=by rw [<- zm,b,List.length_take,zm];omega
 refine ⟨_,O ++ [n],rfl,by rw [j,List.length_append];simp;omega,?_,hsO.append (zI.cons e (zI.nil _)),?_,?_,?_⟩
 . rw [b];exact zgj HD.o f
 . show _=_
   have m:((bts t).drop f).take (t.size - f)=(bts t).drop f:=List.take_of_length_le (by rw [List.length_drop,zm];exact Nat.le_refl _)
   have l:zH (bts t)=zH ((bts t).take f)*10 ^ (t.size - f)+n:=by
    conv=>lhs;rw [<- List.take_append_drop f (bts t)]
    rw [X3,List.length_drop,zm,hn,m]
   rw [HV.o,l,b,Yb,List.length_append,List.length_singleton,Nat.pow_succ]
   by_cases u:9<=t.size
   . have:t.size - f=9:=by omega
     rw [this,show (10:Nat) ^ 9=1000000000 by decide,Nat.add_mul,Nat.mul_assoc,Nat.mul_comm 1000000000 (1000000000 ^ O.length),Nat.mul_comm n]
     omega
   have:f=0:=by omega
   subst this;rw [List.take_zero,zfi,Nat.zero_mul,Nat.zero_mul,Nat.zero_add,Nat.zero_add,Nat.mul_comm n]
   omega
 . rw [List.length_append,VP]
   exact hown2
 . exact (hbl.alloc hbl.size o).grown hg (by have:=hbl.size;simp;omega) (fun k hk=>(hown.lt k hk).1)
theorem zck (s:ByteArray) (w:World) (hd:(bts s).all xu=true) (hs:s.size<=1000000):
 Calls Tryz.prog 90 #[.string s] w (zfc w (zH (bts s))):=by
 have S:=ze hd
 have K:=ze (show (bts s).length=s.size from zm s)
 clear hd
 obtain ⟨R,X,Z,N,ae⟩:=info_parts zev
 go_enter func90,ntmps90
 go_wp2_with fail
 go_loopw [0,3] (zxx (bts s) w) (fun sv _ _=>match sv with | .string t=>t.size | _=>0)
 case atStart=>exact ⟨s,[],rfl,by rw [zm];simp,S,zI.nil _,by simp [Hid,val],World.ownsRow_nil _ _ _ _,vh _⟩
 case round=>
  obtain ⟨t,O,rfl,G,l,M,E,m,y⟩:=hrel
  rw [K.o] at G
  by_cases h0:0<t.size
  rotate_left
  . have C:bts t=[]:=List.eq_nil_of_length_eq_zero (by rw [zm];omega)
    have HE:=ze (show val 1000000000 O=zH (bts s) by have:=E.o;rw [C,zfi] at this;omega);obtain ⟨g,cg,rfl,aa,B,b⟩:=VU m;have ad:=ze B;have V:O.length<=1000000:=by omega
    clear B C;go_wp2_with (go_at_call 136;refine (Yz _ _ _ _ _ _ b M aa ad.o).mono ?_;rintro e w' ⟨v,rfl,Q,rfl⟩);go_ret;exact ⟨v,rfl,by rw [<- HE.o];exact Q,y⟩
  obtain ⟨f,L⟩:∃ f,f=t.size - 9:=⟨_,rfl⟩
  rcases (show 9<=t.size\/t.size<9 by omega) with h9 | h9
  all_goals
   have ag:max ((t.size:Int) - 9) 0=(f:Int):=by omega
   have af:f<=t.size:=by omega
   have r:=ze L;clear L;go_wp2_with fail
   go_loop [5,6] (SizI t f) (fun _ iv=>t.size - (intOf iv).toNat)
   case atStart=>exact ⟨f,0,Nat.le_refl _,af,rfl,rfl,by rw [Nat.sub_self,List.take_zero];rfl⟩
   case round=>
    obtain ⟨i,n,T,ai,rfl,rfl,z⟩:=hrel
    by_cases j:i<t.size
    . have ah:n<1000000000:=by rw [z.o];exact zdp l.o f i (by have:=r.o;omega)
      have F:xu t[i]=true:=by
       have:=List.all_eq_true.1 l.o _ (List.getElem_mem (show i<(bts t).length by rw [zm];exact j))
       rwa [ZL t i j] at this
      obtain ⟨c1,c2⟩:=Yh F;clear F;go_wp2_with fail;go_round
      case rel=>
       refine ⟨i+1,10*n+(t[i].toNat - 48),by omega,by omega,by go_num,congrArg _ (by omega),?_⟩
       show _=_
       rw [zgm T j, <- z.o]
       rfl
      case measure=>simp [intOf];omega
    obtain rfl:i=t.size:=by omega
    have V:O.length<=1000000:=by omega
    have b:=xJ wr 3 (.int .i64 (n:Int))
    have J:∀ u∈[Value.int .i64 (n:Int)],u.oneCell' =true:=by
     intro u hu;rw [List.mem_singleton] at hu;subst hu;rfl
    go_wp2_with (at_builtin;refine yj _ rfl (.tmp 29) (.tmp 31) _ rfl w.heap.size 3 R _ 1 8 underlying62 X Z N ae rfl (by omega) _ O.length (Yd O) rfl (m.alloc _) _ (some ⟨wr.heap.size,0,none⟩) 1 1 _ rfl b J ?o2 ?o3 ?o4 ?_)
    case o2=>unfold maxLen;omega
    case o3=>omega
    case o4=>have:=y.size;simp;omega
    intro v3 w3 D I ab;have Y:=ze D;have ac:=ze I;clear D I ab b J;go_wp2_with fail;go_roundw
    case rel=>exact zxx.step (by rw [K.o];exact G) h0 r.o l M E m y z.o Y.o ac.o
    case measure=>
     have e:(t.extract 0 f).size=f:=by
      have U:bts (t.extract 0 f)=(bts t).take f:=by have:=Zj t 0 f;rw [List.drop_zero] at this;exact this
      rw [<- zm,U,List.length_take,zm];omega
     show (t.extract 0 f).size<t.size
     rw [e];have:=r.o
     omega
def WriR (da:List Nat) (w:World) (ov iv:Value) (wr:World):Prop:=
 ∃ (k:Nat) (l:List Nat),k<=da.length/\iv= .int .i64 k/\ov=str ((l.map chr).reverse)/\Hid (l ++ digs 10 (val 1000000000 (da.drop k))=digs 10 (val 1000000000 da))/\wr=w
def WriI (da:List Nat) (k:Nat) (ov nv iv:Value):Prop:=
 ∃ (i r:Nat) (l:List Nat),i<=9/\iv= .int .i64 i/\nv= .int .i64 r/\r<1000000000/\Hid (r<10 ^ (9 - i))/\ov=str ((l.map chr).reverse)/\
  Hid (l ++ digs 10 (r+val 1000000000 (da.drop (k+1))*10 ^ (9 - i))=digs 10 (val 1000000000 da))
theorem zk7 {da:List Nat} (hc:yW 1000000000 da) {k:Nat} (hk:k<da.length):0<val 1000000000 (da.drop (k)):=by
 have b:da.drop k≠[]:=by intro e;have:=congrArg List.length e;simp at this;omega
 have j:yW 1000000000 (da.drop k):=by
  refine ⟨hc.1.drop k,?_⟩
  rw [List.getLast?_drop,if_neg (by omega)]
  exact hc.2
 rcases Nat.eq_zero_or_pos (val 1000000000 (da.drop k)) with e | e
 . exact absurd ((j.zero_iff (by omega)).1 e) b
 . exact e
theorem zj5 (r:Nat):Utf8.encode (48+(r:Int) % 10)=⟨#[chr (r % 10)]⟩:=by
 have e:(48+(r:Int) % 10)=((48+r % 10:Nat):Int):=by omega
 rw [e]
 have v:Utf8.valid ((48+r % 10:Nat):Int)=true:=by simp [Utf8.valid];omega
 have c1:48+r % 10<128:=by omega
 have c2:((48+r % 10:Nat):Int).toNat=48+r % 10:=by omega
 simp only [Utf8.encode,v,c2,c1,if_true]
 unfold chr
 rfl
theorem zt0 {l:List Nat} {m a:Nat} (h:l ++ digs 10 m=digs 10 a) (ha:len 1000000000 a<=33554432):l.length<=301989888:=by
 have j:=congrArg List.length h
 rw [List.length_append] at j
 have r:(digs 10 a).length=len 10 a:=rfl
 have u:len 10 a<=9*len 1000000000 a:=by
  apply yv (by omega)
  have e:=vy (β:=1000000000) (by omega) a
  have b:(1000000000:Nat)=10 ^ 9:=by decide
  rw [b, <- Nat.pow_mul, <- b] at e
  exact e
 omega
theorem zkx (l:List Nat) (d:Nat):(⟨#[chr d]⟩:ByteArray) ++ (⟨((l.map chr).reverse).toArray⟩:ByteArray)=⟨(((l ++ [d]).map chr).reverse).toArray⟩:=by
 apply ByteArray.ext
 rw [ByteArray.data_append]
 simp
theorem wrn {l:List Nat} {r m a:Nat} (h:l ++ digs 10 m=digs 10 a) (ha:len 1000000000 a<=33554432)
 (hc:9223372036854775807<(Utf8.encode (48+(r:Int) % 10)).size+l.length):False:=by
 rw [zj5 r] at hc
 have:(⟨#[chr (r % 10)]⟩:ByteArray).size=1:=rfl
 have:=zt0 h ha
 omega
theorem xQ (va:Value) (a:Nat) (w:World) (ha:zy w va a) (hla:len 1000000000 a<=33554432):
 Calls Tryz.prog 50 #[va] w (zbj w (str (dec a))):=by
 obtain ⟨A,ca,b,rfl,m,X,U,C,rfl⟩:=ha
 have O:=ze hla
 rw [<- C.length_eq (by omega)] at hla
 have V:=C.1
 have Z:b.length=0\/0<b.length:=by omega
 by_cases R:b.length=0
 . have e:b=[]:=List.eq_nil_of_length_eq_zero R
   subst e
   go_enter func50,ntmps50
   go_wp2_with fail;go_ret;exact ⟨by rw [Zc,vO];rfl,rfl⟩
 have ab:((b.length:Int) == 0)=false:=by rw [beq_eq_false_iff_ne];omega
 have N:=ze C;have ae:0<b.length:=by omega
 clear C R Z
 go_enter func50,ntmps50
 go_wp2_with fail
 go_loop [3,4] (fun ov iv=>WriR b w ov iv w) (fun _ iv=>b.length - (intOf iv).toNat)
 case atStart=>exact ⟨0,[],Nat.zero_le _,rfl,rfl,rfl,rfl⟩
 case round=>
  obtain ⟨k,l,hk,rfl,rfl,j,_⟩:=hrel
  by_cases y:k<b.length
  rotate_left
  . obtain rfl:k=b.length:=by omega
    have E:=ze (show (l.map chr).reverse=dec (val 1000000000 b) by
     have m:=j.o;rw [List.drop_length,Zc,ZH,List.append_nil] at m
     exact zlp (by have:=zk7 N.o (k:=0) (by omega);rw [List.drop_zero] at this;omega) m)
    rw [E.o];go_wp2_with fail;go_ret;exact ⟨rfl,rfl⟩
  obtain ⟨ac,u,rfl,aa,D,af⟩:=U.at_ y
  rw [vF y] at D;injection D with D
  subst D;have Y:b[k]<1000000000:=V.get k y;have S:=ze Y;go_wp2_with fail
  go_loop [3,5,6] (WriI b k) (fun _ _ iv=>9 - (intOf iv).toNat)
  case atStart=>
   refine ⟨0,b[k],l,by omega,rfl,rfl,S.o,?_,rfl,?_⟩
   . show _<10 ^ 9
     exact S.o
   show _=_
   have:=j.o;rw [Yu _ _ _ y] at this;rw [show (10:Nat) ^ (9 - 0)=1000000000 by decide,Nat.mul_comm];exact this
  case round=>
   clear j;obtain ⟨i,r,l,hi,rfl,rfl,hr,J,rfl,j⟩:=hrel
   by_cases I:i<9/\(k+1<b.length\/0<r)
   . obtain ⟨B,M⟩:=I
     by_cases F:k+1<b.length
     . have L:(k:Int)<(b.length:Int) - 1:=by omega
       clear M;go_wp2_with fail
       case isTrue=>exact (wrn (r:=r) j.o O.o ‹_›).elim
       go_round
       case rel=>
        obtain ⟨K,G⟩:=zdq B (.inl (zk7 N.o F)) j.o J.o;exact ⟨i+1,r / 10,l ++ [r % 10],by omega,by go_num,by go_num,by omega,G,by rw [zj5,zkx],K⟩
       case measure=>simp [intOf];omega
     have L:¬ (k:Int)<(b.length:Int) - 1:=by omega
     have ad:(0:Int)<(r:Int):=by omega
     have T:=ze (show 0<r by omega);clear M;go_wp2_with fail
     case isTrue=>exact (wrn (r:=r) j.o O.o ‹_›).elim
     go_round
     case rel=>
      obtain ⟨K,G⟩:=zdq B (.inr T.o) j.o J.o;exact ⟨i+1,r / 10,l ++ [r % 10],by omega,by go_num,by go_num,by omega,G,by rw [zj5,zkx],K⟩
     case measure=>simp [intOf];omega
   have E:Hid (l ++ digs 10 (val 1000000000 (b.drop (k+1)))=digs 10 (val 1000000000 b)):=by
    have m:=j.o;have X:=J.o
    show _=_
    by_cases B:i<9
    . have F:b.length<=k+1:=by omega
      have z:r=0:=by omega
      rw [List.drop_of_length_le F,Zc] at m |-;rw [z,Nat.zero_mul] at m;exact m
    have Q:i=9:=by omega
    subst Q
    have z:r=0:=by
     have:(10:Nat) ^ (9 - 9)=1:=by decide
     omega
    rw [z,show (10:Nat) ^ (9 - 9)=1 by decide,Nat.mul_one,Nat.zero_add] at m;exact m
   by_cases B:i<9
   rotate_left
   . have Q:i=9:=by omega
     clear I;go_wp2_with fail;go_round
     case rel=>exact ⟨k+1,l,by omega,by go_num,rfl,E.o,rfl⟩
     case measure=>simp [intOf];omega
   have L:¬ (k:Int)<(b.length:Int) - 1:=by omega
   have z:¬ (0:Int)<(r:Int):=by omega
   clear I;go_wp2_with fail;go_round
   case rel=>exact ⟨k+1,l,by omega,by go_num,rfl,E.o,rfl⟩
   case measure=>simp [intOf];omega
def XE (M:Nat) (q:Rat):Prop:=len 1000000000 q.num.natAbs<=M/\len 1000000000 q.den<=M
theorem zp2 {a M:Nat} (h:len 1000000000 a<=M):(dec a).length<=9*M+1:=by
 apply XO _ (by omega)
 have e:=vy (β:=1000000000) (by omega) a
 have b:(1000000000:Nat)=10 ^ 9:=by decide
 rw [b, <- Nat.pow_mul, <- b] at e
 exact Nat.lt_of_lt_of_le e (Nat.pow_le_pow_right (Nat.zero_lt_succ _) (by omega))
theorem zlm {a:Nat} (h:len 1000000000 a<=33554432):(dec a).length<=301989889:=zp2 h
theorem xf.form {w:World} {v:Value} {q:Rat} (h:xf w v q):∃ ng A c B d,v= .agg #[.bool ng,.slice A (len 1000000000 q.num.natAbs) c,.slice B (len 1000000000 q.den) d]/\ng=decide (q.num<0)/\
 zy w (.slice A (len 1000000000 q.num.natAbs) c) q.num.natAbs/\zy w (.slice B (len 1000000000 q.den) d) q.den:=by
 obtain ⟨ng,A,n,c,B,m,d,rfl,l,j,e⟩:=h
 obtain ⟨A',c',b⟩:=j.form
 obtain ⟨u,d',r⟩:=e.form
 injection b with b e2' e3
 injection r with f1 f2 f3
 subst b e2' e3 f1 f2 f3
 exact ⟨_,_,_,_,_,rfl,l,j,e⟩
theorem zm0 (ng:Bool) (q:Rat) (h:ng=decide (q.num<0)):zw q=(if ng then [45] else []) ++ dec q.num.natAbs ++ (if q.den=1 then [] else 47 :: dec q.den):=by
 unfold zw;rw [h];by_cases b:q.num<0<;>simp [b]
theorem zcm (va:Value) (q:Rat) (w:World) (ha:xf w va q) (hl:XE 33554432 q):
 Calls Tryz.prog 85 #[va] w (zkz w (zw q)):=by
 obtain ⟨ng,A,c,B,d,rfl,K,G,J⟩:=ha.form
 have b:=ze (zf w (.cells #[.bool ng,.slice A (len 1000000000 q.num.natAbs) c,.slice B (len 1000000000 q.den) d] 64))
 have l:=ze (G.below b.o)
 have r:=J.below b.o
 have u:=ze r
 have z:=ze hl.1
 have E:=ze hl.2
 have b1:=zlm z.o
 have b2:=zlm E.o
 have D:=ze (zm0 ng q K)
 clear ha G J hl K
 obtain ⟨n,M⟩:∃ n,len 1000000000 q.num.natAbs=n:=⟨_,rfl⟩
 rw [M] at l b u r |-
 clear M
 by_cases hd:q.den=1
 . have j:len 1000000000 q.den=1:=by rw [hd];exact Zk (by omega) (by omega)
   obtain ⟨N,rfl,F,S,C⟩:=r.first j;rw [j] at l b C |-;rw [hd] at C;have y:=ze hd;clear hd r j F b2 u
   cases ng
   . go_enter func85,ntmps85
     go_wp2_with fail;refine (xQ _ q.num.natAbs _ l.o z.o).mono ?_;rintro e w1 ⟨rfl,rfl⟩;go_wp2_with fail;go_ret;refine ⟨?_,b.o⟩;rw [D.o,if_pos y.o];apply congrArg (fun x=>Ending.returned (Value.string x));apply ByteArray.ext;simp
   have L:¬ 9223372036854775807<(dec q.num.natAbs).length+1:=by omega
   clear b1
   go_enter func85,ntmps85
   go_wp2_with fail;refine (xQ _ q.num.natAbs _ l.o z.o).mono ?_;rintro e w1 ⟨rfl,rfl⟩;go_wp2_with fail;go_ret;refine ⟨?_,b.o⟩;rw [D.o,if_pos y.o];apply congrArg (fun x=>Ending.returned (Value.string x));apply ByteArray.ext;simp
 by_cases j:len 1000000000 q.den=1
 rotate_left
 . have Q:((len 1000000000 q.den:Int) != 1)=true:=by rw [bne_iff_ne];omega
   have y:=ze hd;have L:¬ 9223372036854775807<(dec q.num.natAbs).length+1:=by omega
   have R:¬ 9223372036854775807<(dec q.den).length+1:=by omega
   have O:¬ 9223372036854775807<(dec q.num.natAbs).length+((dec q.den).length+1):=by omega
   have T:¬ 9223372036854775807<(dec q.num.natAbs).length+1+((dec q.den).length+1):=by omega
   obtain ⟨m,I⟩:∃ m,len 1000000000 q.den=m:=⟨_,rfl⟩;rw [I] at l b u Q |-;clear hd r j b1 b2 I
   cases ng
   all_goals
    go_enter func85,ntmps85
    go_wp2_with fail;refine (xQ _ q.num.natAbs _ l.o z.o).mono ?_;rintro e w1 ⟨rfl,rfl⟩;go_wp2_with fail;refine (xQ _ q.den _ u.o E.o).mono ?_;rintro e w1 ⟨rfl,rfl⟩;go_wp2_with fail;go_ret;refine ⟨?_,b.o⟩;rw [D.o,if_neg y.o];apply congrArg (fun x=>Ending.returned (Value.string x));apply ByteArray.ext;simp
 obtain ⟨N,rfl,F,S,C⟩:=r.first j
 have U:((q.den:Int) != 1)=true:=by rw [bne_iff_ne];omega
 rw [j] at l b u C |-;have y:=ze hd;have L:¬ 9223372036854775807<(dec q.num.natAbs).length+1:=by omega
 have R:¬ 9223372036854775807<(dec q.den).length+1:=by omega
 have O:¬ 9223372036854775807<(dec q.num.natAbs).length+((dec q.den).length+1):=by omega
 have T:¬ 9223372036854775807<(dec q.num.natAbs).length+1+((dec q.den).length+1):=by omega
 clear hd r j F b1 b2
 cases ng
 all_goals
  go_enter func85,ntmps85
  go_wp2_with fail;refine (xQ _ q.num.natAbs _ l.o z.o).mono ?_;rintro e w1 ⟨rfl,rfl⟩;go_wp2_with fail;refine (xQ _ q.den _ u.o E.o).mono ?_;rintro e w1 ⟨rfl,rfl⟩;go_wp2_with fail;go_ret;refine ⟨?_,b.o⟩;rw [D.o,if_neg y.o];apply congrArg (fun x=>Ending.returned (Value.string x));apply ByteArray.ext;simp
end Go.Proofs.YthbmhkiphmcogaaGreatDoor
