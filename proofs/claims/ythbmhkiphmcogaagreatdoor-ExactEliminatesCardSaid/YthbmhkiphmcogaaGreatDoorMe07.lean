/- Parts of the proof. -/
import Derived.Deep.DeepMust
import Derived.Maps.AppendAt
import Derived.OwnWalk
import Derived.RegionTactic
import Derived.Test.YthbmhkiphmcogaaGreatDoorMe06
set_option linter.all false
namespace Go.Proofs.YthbmhkiphmcogaaGreatDoor
open Proofs.Tryz Go.RowKit Go.Deep
section
variable {P:Program} (w:World)
theorem zbk (base:Nat) (t ty e:TypeId) (i:TypeInfo) (size:Nat) (ht:P.underlying t=some (.slice e)) (hi:P.info? e=some i)
 (v:Value) (n:Nat) (xs:List Value) (hown:w.ownsRow base e size v n xs) (c:Nat):(Builtin.append_ #[t,t] ty #[v,.slice none 0 c]).run P w= .ok v w:=by
 rcases hown.2 with ⟨rfl,rfl⟩ | ⟨g,l,j,rfl,_,_,b,_⟩
 . simp [Builtin.append_,run_underlying ht,sizeOf,typeInfo,hi,Builtin.lenOf,Builtin.firstCells]
 . simp [Builtin.append_,run_underlying ht,sizeOf,typeInfo,hi,Builtin.lenOf,Builtin.firstCells,b,storeCells]
theorem zen (base:Nat) (t ty e:TypeId) (i:TypeInfo) (z:Value) (size bytes:Nat) (ht:P.underlying t=some (.slice e)) (hi:P.info? e=some i) (hz:i.zero=some z)
 (hsize:i.size=size) (hby:i.bytes=bytes) (hzs:z.cells.size=size) (hsz:0<size)
 (v:Value) (n:Nat) (xs:List Value) (hown:w.ownsRow base e size v n xs)
 (B:Nat) (A:Option Addr) (m c:Nat) (news:List Value) (hr:zV w B size A m news) (h1:∀ u∈news,u.oneCell' =true)
 (h63:n+m<=maxLen) (hbytes:(n+m)*bytes<=140737488355328) (hbase:base<=w.heap.size):
 ∃ l w',(Builtin.append_ #[t,t] ty #[v,.slice A m c]).run P w= .ok l w' /\w'.ownsRow base e size l (n+m) (xs ++ news)/\w.grownBy w' v.ownBlock/\
  (l.ownBlock=v.ownBlock\/l.ownBlock=some w.heap.size):=by
 rcases A with _ | y
 . have F:m=0:=by
    rcases Nat.eq_zero_or_pos m with b | b
    . exact b
    . obtain ⟨y,h,_⟩:=hr.2 b
      cases h
   subst F;have r:news=[]:=List.eq_nil_of_length_eq_zero (by simpa using hr.1);subst r;exact ⟨v,w,zbk w base t ty e i size ht hi v n xs hown c,by simpa using hown,World.grownBy.refl w _,.inl rfl⟩
 . have C:∀ j u,news[j]?=some u->w.cell? (y.add j)=some u:=by
    intro j u hu
    rcases Nat.eq_zero_or_pos m with b | b
    . subst b
      have r:news=[]:=List.eq_nil_of_length_eq_zero (by simpa using hr.1);subst r;simp at hu
    . obtain ⟨K,h,_,I⟩:=hr.2 b
      injection h with h
      subst h;exact I j u hu
   obtain ⟨l,w',D,G,E,_,J⟩:=run_append_own_at (P:=P) w base t ty e i z size bytes ht hi hz hsize hby hzs hsz v n xs hown y m c news hr.1 C h1 h63 hbytes hbase;exact ⟨l,w',D,G,E,J⟩
theorem yD {o:Oper} {a:Act} {K:Act->World->Prop} {Q:Exit->Act->World->Prop} (s x:Operand) (t:TypeId)
 (ho:o.op= .call { callee:=.builtin .append,args:=#[s,x],argTypes:=#[t,t] })
 (base:Nat) (e:TypeId) (i:TypeInfo) (z:Value) (size bytes:Nat) (ht:P.underlying t=some (.slice e)) (hi:P.info? e=some i) (hz:i.zero=some z)
 (hsize:i.size=size) (hby:i.bytes=bytes) (hzs:z.cells.size=size) (hsz:0<size)
 (v:Value) (n:Nat) (xs:List Value) (hs:a.eval s=v) (hown:w.ownsRow base e size v n xs)
 (B:Nat) (A:Option Addr) (m c:Nat) (news:List Value) (hx:a.eval x= .slice A m c) (hr:zV w B size A m news) (h1:∀ u∈news,u.oneCell' =true)
 (h63:n+m<=maxLen) (hbytes:(n+m)*bytes<=140737488355328) (hbase:base<=w.heap.size)
 (h:∀ b w',w'.ownsRow base e size b (n+m) (xs ++ news)->w.grownBy w' v.ownBlock->(b.ownBlock=v.ownBlock\/b.ownBlock=some w.heap.size)->K (a.put o.dst b) w'):o.wp P a w K Q:=by
 obtain ⟨b,w',j,r,l,y⟩:=zen (P:=P) w base t o.type e i z size bytes ht hi hz hsize hby hzs hsz v n xs hown B A m c news hr h1 h63 hbytes hbase
 unfold Oper.wp execOp
 simp only [ho,resolve,invoke,builtin,Sem.run_bind,Sem.run_pure,Result.andThen_ok,List.map_toArray,List.map_cons,List.map_nil,hs,hx,j]
 exact h b w' r l y
theorem yj {ops:Array Oper} {rest:List Oper} {o:Oper} {a:Act} {Q:Exit->Act->World->Prop} (hgd:o.guard=none) (s x:Operand) (t:TypeId)
 (ho:o.op= .call { callee:=.builtin .append,args:=#[s,x],argTypes:=#[t,t] })
 (base:Nat) (e:TypeId) (i:TypeInfo) (z:Value) (size bytes:Nat) (ht:P.underlying t=some (.slice e)) (hi:P.info? e=some i) (hz:i.zero=some z)
 (hsize:i.size=size) (hby:i.bytes=bytes) (hzs:z.cells.size=size) (hsz:0<size)
 (v:Value) (n:Nat) (xs:List Value) (hs:a.eval s=v) (hown:w.ownsRow base e size v n xs)
 (B:Nat) (A:Option Addr) (m c:Nat) (news:List Value) (hx:a.eval x= .slice A m c) (hr:zV w B size A m news) (h1:∀ u∈news,u.oneCell' =true)
 (h63:n+m<=maxLen) (hbytes:(n+m)*bytes<=140737488355328) (hbase:base<=w.heap.size)
 (h:∀ v' w',w'.ownsRow base e size v' (n+m) (xs ++ news)->w.grownBy w' v.ownBlock->(v'.ownBlock=v.ownBlock\/v'.ownBlock=some w.heap.size)->wpList P ops Q rest (a.put o.dst v') w'):wpList P ops Q (o :: rest) a w:=
 wpList_plain hgd fun _ hK=>yD w s x t ho base e i z size bytes ht hi hz hsize hby hzs hsz v n xs hs hown B A m c news hx hr h1 h63 hbytes hbase fun v' w' h2 h3 h4=>hK _ _ (h v' w' h2 h3 h4)
end
theorem zd9 (ds:List Nat):∀ u∈XY ds,u.oneCell' =true:=by
 intro u hu
 simp only [XY,List.mem_map] at hu
 obtain ⟨d,_,rfl⟩:=hu
 rfl
theorem zma {w:World} {base:Nat} {e:TypeId} {v:Value} {n:Nat} {ds:List Nat} (h:w.ownsRow base e 1 v n (XY ds)) (hc:yW 4294967296 ds):yF w v (val 4294967296 ds):=by
 have b:ds.length=n:=by have:=h.1;rw [Zh] at this;omega
 rcases h.2 with ⟨rfl,B⟩ | ⟨g,m,r,rfl,hb,u,j,l,y,z⟩
 . have:ds=[]:=List.eq_nil_of_length_eq_zero (by omega)
   subst this;exact ⟨none,0,[],rfl,by simp,by simp [maxLen],zV.none_,yW.nil _,rfl⟩
 . subst b
   exact ⟨_,m,ds,rfl,j,l,zV.of_own h,hc,rfl⟩
theorem zkm (w:World):yF w (.slice none 0 0) 0:=⟨none,0,[],rfl,by simp,by simp [maxLen],zV.none_,yW.nil _,rfl⟩
theorem zq1 (va:Value) (a:Nat) (w:World) (ha:yF w va a) (hla:len 4294967296 a<=67108864):
 Calls Tryz.prog 163 #[va] w (zat w a):=by
 obtain ⟨A,y,b,rfl,M,R,m,u,rfl⟩:=ha
 rw [<- u.length_eq (by omega)] at hla
 have Q:∀ (w:World) (a:Option Addr) (n c n' c' :Nat),(binOp .eql 51 (.slice a n c) (.slice none n' c')).run Tryz.prog w= .ok (.bool a.isNone) w:=fun w a n c n' c' =>Lib.run_eql_slice_nil w _ _ a n c n' c' underlying51
 rcases A with _ | e
 . have hd:b=[]:=by
    apply List.eq_nil_of_length_eq_zero
    rcases Nat.eq_zero_or_pos b.length with h | h
    . exact h
    . obtain ⟨e,h,_⟩:=m.2 h
      cases h
   subst hd
   go_enter func163,ntmps163
   go_wp2;go_ret;exact ⟨_,rfl,zkm _,Below.refl _ _⟩
 . obtain ⟨C,F,G,B,N⟩:=info_parts zom
   have D:=Q w (some e) b.length y 0 0;simp only [Option.isNone_some] at D
   go_enter func163,ntmps163
   have r:=ze hla;have S:=ze M;have L:=zd9 b;go_wp2_with (at_builtin;go_must (refine yj _ rfl (.tmp 5) (.tmp 6) _ rfl w.heap.size 184 C _ 1 4 underlying51 F G B N rfl (by omega) (.slice (some ⟨w.heap.size,0,none⟩) 0 0) 0 [] rfl ?o1 w.heap.size (some e) b.length y (XY b) rfl (m.alloc (Nat.le_refl _) _) L ?o2 ?o3 ?o4 ?_))
   case o1=>exact World.ownsRow_lit w #[] 0 (Nat.le_refl _) (Nat.zero_le _) rfl
   case o2=>have:=r.o;unfold maxLen;omega
   case o3=>have:=r.o;omega
   case o4=>simp
   intro J w1 l j z;have I:=ze l;have O:=ze j;clear l j z;go_wp2_with fail;go_ret;have K:=zma I.o u;refine ⟨J,rfl,K,?_⟩;refine ((Below.refl _ _).alloc (Nat.le_refl _) _).grown O.o (by simp) ?_;intro k E
   simp [Value.ownBlock] at E
   omega
theorem zqn {x:Nat} (h0:0<x) (h:x<4294967296):Lib.bitLen x=x.log2+1:=by
 have b:2 ^ x.log2<=x:=Nat.log2_self_le (by omega)
 have l:x<2 ^ (x.log2+1):=Nat.lt_log2_self
 have j:=Lib.bitLen_shift x.log2 x b (by omega)
 have e:x / 2 ^ x.log2=1:=by
  apply Nat.div_eq_of_lt_le
  . omega
  rw [Nat.pow_succ] at l;omega
 rw [j,e]
 rfl
def ztx (w:World) (x:Nat) (e:Ending) (w' :World):Prop:=∃ n:Nat,n<32/\2147483648<=x*2 ^ n/\x*2 ^ n<4294967296/\e= .returned (.int .i64 (n:Int))/\w=w'
theorem zmb (x:Nat) (h0:0<x) (h:x<4294967296) (w:World):Calls Tryz.prog 164 #[.int .u32 (x:Int)] w (ztx w x):=by
 refine (zmp (x:Int) (by omega) (by omega) w).mono ?_
 rintro e w' ⟨rfl,rfl⟩
 rw [Int.toNat_natCast,zqn h0 h]
 have r:x.log2<32:=(Nat.log2_lt (by omega)).2 (by omega)
 have m:2 ^ x.log2<=x:=Nat.log2_self_le (by omega)
 have l:x<2 ^ (x.log2+1):=Nat.lt_log2_self
 have j:2 ^ x.log2*2 ^ (31 - x.log2)=2147483648:=by rw [<- Nat.pow_add,show x.log2+(31 - x.log2)=31 by omega]
 have b:2 ^ (x.log2+1)*2 ^ (31 - x.log2)=4294967296:=by rw [<- Nat.pow_add,show x.log2+1+(31 - x.log2)=32 by omega]
 refine ⟨31 - x.log2,by omega,?_,?_,congrArg Ending.returned (congrArg (Value.int IntKind.i64) (by omega)),rfl⟩
 . rw [<- j];exact Nat.mul_le_mul_right _ m
 rw [<- b];exact Nat.mul_lt_mul_of_pos_right l (Nat.two_pow_pos _)
theorem zqm {U dv:List Nat} {m k V:Nat} (hV:V=val 4294967296 dv) (hl:dv.length=m) (hsv:zI 4294967296 dv) (hsU:zI 4294967296 U) (hk:k+m+1<=U.length) (hlt:val 4294967296 (U.drop (k+1))<V):
 U=U.take k ++ (U.drop k).take (m+1) ++ U.drop (k+m+1)/\((U.drop k).take (m+1)).length=m+1/\val 4294967296 (U.drop (k+m+1))=0/\val 4294967296 (U.drop k)=val 4294967296 ((U.drop k).take (m+1))/\
 val 4294967296 ((U.drop k).take (m+1))<4294967296*V:=by
 have r:((U.drop k).take (m+1)).length=m+1:=by rw [List.length_take,List.length_drop];omega
 have l:U=U.take k ++ (U.drop k).take (m+1) ++ U.drop (k+m+1):=by
  rw [List.append_assoc]
  conv=>lhs;rw [<- List.take_append_drop k U, <- List.take_append_drop (m+1) (U.drop k),List.drop_drop]
  rw [show k+(m+1)=k+m+1 by omega]
 have u:V<4294967296 ^ m:=by rw [hV, <- hl];exact Xq hsv
 have j:val 4294967296 (U.drop (k+m+1))=0:=by
  have b:=xZ 4294967296 (U.drop (k+1)) m (by rw [List.length_drop];omega)
  rw [List.drop_drop,show k+1+m=k+m+1 by omega] at b
  rcases Nat.eq_zero_or_pos (val 4294967296 (U.drop (k+m+1))) with h | h
  . exact h
  . exfalso
    have:4294967296 ^ m*1<=4294967296 ^ m*val 4294967296 (U.drop (k+m+1)):=Nat.mul_le_mul_left _ h
    omega
 have b:val 4294967296 (U.drop k)=val 4294967296 ((U.drop k).take (m+1)):=by
  have e:=xZ 4294967296 (U.drop k) (m+1) (by rw [List.length_drop];omega)
  rw [List.drop_drop,show k+(m+1)=k+m+1 by omega,j,Nat.mul_zero,Nat.add_zero] at e
  exact e
 refine ⟨l,r,j,b,?_⟩
 rw [<- b,Yu _ _ _ (by omega)]
 have hd:=hsU.get k (by omega)
 have:4294967296*(val 4294967296 (U.drop (k+1))+1)<=4294967296*V:=Nat.mul_le_mul_left _ hlt
 omega
def zx3 (w:World) (g gq m lq cV u0 V:Nat) (adv:Option Addr) (dv:List Nat) (iv:Value) (wr:World):Prop:=
 ∃ (k:Nat) (U Q:List Nat),k<=lq/\iv= .int .i64 ((k:Int) - 1)/\U.length=lq+m/\Q.length=lq/\zI 4294967296 U/\zI 4294967296 Q/\
  Hid (u0=val 4294967296 U+4294967296 ^ k*val 4294967296 (Q.drop k)*V)/\Hid (val 4294967296 (U.drop k)<V)/\
  Blk wr g 184 (y8 U)/\Blk wr gq 184 (y8 Q)/\zV wr wr.heap.size 1 adv m (XY dv)/\Below w.heap.size w wr
theorem zsv {U O Q:List Nat} {k m u0 V q r:Nat} (hk:k<Q.length) (hU:U=U.take k ++ (U.drop k).take (m+1) ++ U.drop (k+m+1)) (hkU:k<=U.length)
 (hz:val 4294967296 (U.drop (k+m+1))=0) (hw:val 4294967296 (U.drop k)=val 4294967296 ((U.drop k).take (m+1)))
 (hlO:O.length=m+1) (hvO:val 4294967296 O=r) (hqr:val 4294967296 ((U.drop k).take (m+1))=V*q+r)
 (H:u0=val 4294967296 U+4294967296 ^ (k+1)*val 4294967296 (Q.drop (k+1))*V):
 u0=val 4294967296 (U.take k ++ O ++ U.drop (k+m+1))+4294967296 ^ k*val 4294967296 ((Q.set k q).drop k)*V/\val 4294967296 ((U.take k ++ O ++ U.drop (k+m+1)).drop k)=r:=by
 have j:(U.take k).length=k:=by rw [List.length_take];omega
 have e:val 4294967296 (U.take k ++ O ++ U.drop (k+m+1))=val 4294967296 (U.take k)+4294967296 ^ k*r:=by
  rw [List.append_assoc,Y6,Y6,j,hz,hvO,Nat.mul_zero,Nat.add_zero]
 have b:val 4294967296 U=val 4294967296 (U.take k)+4294967296 ^ k*(V*q+r):=by
  rw [xZ _ U k hkU,hw,hqr]
 constructor
 rotate_left
 . rw [List.append_assoc,List.drop_append_of_le_length (by omega),List.drop_of_length_le (by omega),List.nil_append,Y6,hz,hvO,Nat.mul_zero,Nat.add_zero]
 rw [H,e,b,Vj _ _ _ _ hk,Nat.pow_succ]
 generalize 4294967296 ^ k=P;generalize val 4294967296 (Q.drop (k+1))=Y;generalize val 4294967296 (U.take k)=L;simp only [Nat.mul_add,Nat.add_mul,Nat.mul_assoc,Nat.mul_comm,Nat.mul_left_comm]
 omega
theorem znj {a b n la m:Nat} {U dv:List Nat} (hn:n<32) (ha:a<4294967296 ^ la) (hU:val 4294967296 U=a*2 ^ n) (hlU:U.length=la+1) (hm:m<=la) (hm1:1<=m)
 (hV:2147483648*4294967296 ^ (m - 1)<=val 4294967296 dv):val 4294967296 (U.drop (la+1 - m))<val 4294967296 dv:=by
 have u:=xZ 4294967296 U (la+1 - m) (by omega)
 have j:4294967296 ^ (la+1 - m)*val 4294967296 (U.drop (la+1 - m))<=val 4294967296 U:=by omega
 have e:val 4294967296 U<4294967296 ^ la*2147483648:=by
  rw [hU]
  have:a*2 ^ n<=a*2147483648:=Nat.mul_le_mul_left _ (zbl hn)
  have:a*2147483648<4294967296 ^ la*2147483648:=Nat.mul_lt_mul_of_pos_right ha (by omega)
  omega
 have l:4294967296 ^ la=4294967296 ^ (la+1 - m)*4294967296 ^ (m - 1):=by rw [<- Nat.pow_add];congr 1;omega
 rw [l,Nat.mul_assoc] at e
 have r:=Nat.lt_of_mul_lt_mul_left (Nat.lt_of_le_of_lt j e)
 rw [Nat.mul_comm] at r
 omega
theorem zfy {b n:Nat} {j dv:List Nat} (hb:yW 4294967296 j) (hne:j≠[]) (hvb:val 4294967296 j=b) (hdv:yW 4294967296 dv) (hv:val 4294967296 dv=b*2 ^ n)
 (h1:2147483648<=j.getD (j.length - 1) 0*2 ^ n) (h2:j.getD (j.length - 1) 0*2 ^ n<4294967296):
 dv.length=j.length/\2147483648*4294967296 ^ (j.length - 1)<=val 4294967296 dv/\2147483648<=dv.getD (j.length - 1) 0:=by
 have L:=List.length_pos_iff.2 hne
 obtain ⟨l,K⟩:∃ l,j.length=l+1:=⟨j.length - 1,by omega⟩
 have E:j.length - 1=l:=by omega
 rw [E] at h1 h2 |-
 have e:b=val 4294967296 (j.take l)+4294967296 ^ l*j.getD l 0:=by rw [<- zO,List.take_of_length_le (by omega),hvb]
 have R:val 4294967296 (j.take l)<4294967296 ^ l:=by
  have:=Xq (hb.1.take l);rwa [List.length_take,Nat.min_eq_left (by omega)] at this
 have I:val 4294967296 dv<4294967296 ^ (l+1):=by
  rw [hv,e,Nat.pow_succ]
  have r:(val 4294967296 (j.take l)+4294967296 ^ l*j.getD l 0)*2 ^ n<(4294967296 ^ l*(j.getD l 0+1))*2 ^ n:=Nat.mul_lt_mul_of_pos_right (by rw [Nat.mul_add,Nat.mul_one];omega) (Nat.two_pow_pos _)
  have u:(j.getD l 0+1)*2 ^ n<=4294967296:=by
   rw [Nat.add_mul,Nat.one_mul]
   have G:n<32:=by
    rcases Nat.lt_or_ge n 32 with h | h
    . exact h
    . exfalso
      have z:(2:Nat) ^ 32<=2 ^ n:=Nat.pow_le_pow_right (by omega) h
      have F:0<j.getD l 0:=by
       rcases Nat.eq_zero_or_pos (j.getD l 0) with m | m
       . rw [m] at h1;omega
       . exact m
      have m:1*2 ^ n<=j.getD l 0*2 ^ n:=Nat.mul_le_mul_right _ F;have Q:(2:Nat) ^ 32=4294967296:=by decide
      omega
   have B:=x8 G
   have D:j.getD l 0<2 ^ (32 - n):=by
    rw [<- B,Nat.mul_comm] at h2;exact Nat.lt_of_mul_lt_mul_left h2
   have y:2 ^ n*(j.getD l 0+1)<=2 ^ n*2 ^ (32 - n):=Nat.mul_le_mul_left _ D;rw [B,Nat.mul_add,Nat.mul_one,Nat.mul_comm] at y;exact y
  rw [Nat.mul_assoc] at r
  have z:4294967296 ^ l*((j.getD l 0+1)*2 ^ n)<=4294967296 ^ l*4294967296:=Nat.mul_le_mul_left _ u
  omega
 have C:2147483648*4294967296 ^ l<=val 4294967296 dv:=by
  rw [hv,e,Nat.add_mul,Nat.mul_assoc,Nat.mul_comm 2147483648]
  have:4294967296 ^ l*2147483648<=4294967296 ^ l*(j.getD l 0*2 ^ n):=Nat.mul_le_mul_left _ h1
  omega
 have N:dv.length<=l+1:=hdv.length_lt_pow (by omega) I
 have M:l<dv.length:=by
  rcases Nat.lt_or_ge l dv.length with h | h
  . exact h
  . exfalso
    have r:=Xq hdv.1;have u:4294967296 ^ dv.length<=4294967296 ^ l:=Nat.pow_le_pow_right (by omega) h;have z:1*4294967296 ^ l<=2147483648*4294967296 ^ l:=Nat.mul_le_mul_right _ (by omega)
    omega
 refine ⟨by omega,C,?_⟩
 have J:val 4294967296 dv=val 4294967296 (dv.take l)+4294967296 ^ l*dv.getD l 0:=by rw [<- zO,List.take_of_length_le (by omega)]
 have O:val 4294967296 (dv.take l)<4294967296 ^ l:=by
  have:=Xq (hdv.1.take l);rwa [List.length_take,Nat.min_eq_left (by omega)] at this
 rcases Nat.lt_or_ge (dv.getD l 0) 2147483648 with h | h
 . exfalso
   have r:4294967296 ^ l*(dv.getD l 0+1)<=4294967296 ^ l*2147483648:=Nat.mul_le_mul_left _ h;rw [Nat.mul_add,Nat.mul_one] at r;rw [Nat.mul_comm 2147483648] at C
   omega
 . exact h
theorem zs2 {a b s R Q:Nat} (hs:0<s) (h:a*s=R+Q*(b*s)) (hR:R<b*s):Q=a / b/\R / s=a % b:=by
 have hb:0<b:=by
  rcases Nat.eq_zero_or_pos b with e | e
  . rw [e] at hR;omega
  . exact e
 have m:(a - Q*b)*s=R:=by rw [Nat.sub_mul,Nat.mul_assoc];omega
 have r:Q*b<=a:=by
  rcases Nat.lt_or_ge a (Q*b) with l | l
  . exfalso
    have j:(a+1)*s<=Q*b*s:=Nat.mul_le_mul_right _ l;rw [Nat.add_mul,Nat.one_mul,Nat.mul_assoc] at j
    omega
  . exact l
 have l:a - Q*b<b:=by
  rw [<- m] at hR
  exact Nat.lt_of_mul_lt_mul_right hR
 have j:Q=a / b:=by
  symm
  apply Nat.div_eq_of_lt_le
  . exact r
  rw [Nat.add_mul,Nat.one_mul];omega
 refine ⟨j,?_⟩
 rw [<- m,Nat.mul_div_cancel _ hs]
 have:=Nat.div_add_mod a b
 rw [<- j,Nat.mul_comm] at this
 omega
theorem zV.apart {w w' :World} {B size n:Nat} {ad:Addr} {xs:List Value} (h:zV w B size (some ad) n xs) (hk:∀ p:Addr,p.block=ad.block->w'.cell? p=w.cell? p):zV w' B size (some ad) n xs:=
 ⟨h.1,fun hn=>by
  obtain ⟨l,e,hb,b⟩:=h.2 hn
  injection e with e
  subst e
  exact ⟨ad,rfl,hb,fun j u hu=>(hk _ (zz _ _)).trans (b j u hu)⟩⟩
def zva (w:World) (q r:Nat) (e:Ending) (w' :World):Prop:=∃ v1 v2,e= .returned (.tuple #[v1,v2])/\yF w' v1 q/\yF w' v2 r/\Below w.heap.size w w'
theorem zj6 (w:World) (t d:Nat):zV (w.alloc (.cells #[.int .u32 (d:Int)] t)) (w.heap.size+1) 1 (some ⟨w.heap.size,0,none⟩) 1 (XY [d]):=by
 have h:=Blk.new w t (y8 [d])
 have:=vV h
 simp only [World.size_alloc] at this
 exact this
theorem zap {d:Nat} (hd:d<4294967296):zI 4294967296 [d]:=fun x hx=>by
 rw [List.mem_singleton] at hx;omega
theorem zpw {db:List Nat} (h:db.length=1):db=[db.getD 0 0]:=by
 match db,h with
 | [d],_=>rfl
set_option maxHeartbeats 1600000 in
set_option maxRecDepth 100000 in
theorem zkl (va vb:Value) (a b:Nat) (w:World) (ha:yF w va a) (hb:yF w vb b) (hb0:0<b) (hla:len 4294967296 a<=33554432) (hlb:len 4294967296 b<=33554432):
 Calls Tryz.prog 137 #[va,vb] w (zva w (a / b) (a % b)):=by
 have Z:=ze hla
 have aZ:=ze hlb
 have bH:=ze hb0
 by_cases L:a<b
 . have hc:zP (a:Int) (b:Int)= -1:=by unfold zP;rw [if_pos (by omega)]
   have e1:a / b=0:=Nat.div_eq_of_lt L;have e2:a % b=a:=Nat.mod_eq_of_lt L;rw [e1,e2];clear e1 e2 L hla hlb hb0
   go_enter func137,ntmps137
   go_wp2_with (first
    | (go_at_call 98;refine (VI va vb a b _ ha hb (by have:=Z.o;omega) (by have:=aZ.o;omega)).mono ?_;rintro e w' ⟨rfl,n,rfl⟩)
    | (go_at_call 163;refine (zq1 va a _ (yF.below ha (zo (Below.refl _ _) _)) (by have:=Z.o;omega)).mono ?_;rintro e w' ⟨v,rfl,C,ac⟩))
   go_ret2;exact ⟨_,v,rfl,zkm _,C,(zo (Below.refl _ _) _).trans ac⟩
 have hc:¬ zP (a:Int) (b:Int)<0:=by
  unfold zP;rw [if_neg (by omega)]
  split<;>omega
 have av:=hb;have ai:=ha;obtain ⟨B,Y,j,rfl,k1,k2,aL,k4,N⟩:=hb
 have aq:j≠[]:=by
  rintro rfl;rw [Zc] at N
  omega
 have J:=k4.length_eq (β:=4294967296) (by omega);rw [N] at J;have aH:=List.length_pos_iff.2 aq;obtain ⟨S,u,rfl,bL,hx,aa⟩:=aL.at_ (k:=j.length - 1) (by omega);have ag:j.length - 1<j.length:=by omega
 rw [xb ag] at hx;injection hx with hx
 subst hx;have az:=k4.last aq;have ae:=k4.1.get _ ag
 by_cases I:j.length=1
 . have hq:((j.length:Int) == 1)=true:=by rw [I];rfl
   obtain ⟨d,hd⟩:∃ d,d=j[j.length - 1]:=⟨_,rfl⟩;rw [<- hd] at aa az ae
   have bq:b=d:=by
    rw [<- N,zpw I,YM,zv (by omega),hd]
    congr 1
    omega
   subst bq
   have bG:w.cell? S=some (.int .u32 (b:Int)):=by
    rw [I] at aa
    simpa [Addr.add] using aa
   have aX:0<b:=by omega
   obtain ⟨r,hr⟩:∃ r,r=a % b:=⟨_,rfl⟩
   have bn:r<4294967296:=by
    have:=Nat.mod_lt a aX
    omega
   have bu:∀ W,yF W va a->Calls Tryz.prog 128 #[va,.int .u32 b] W (ztj W (a / b) (.int .u32 (r:Int))):=by
    intro W R;rw [hr];exact zkf va a b W R (by omega) aX ae
   have HO:=ze I;rw [<- hr];clear I hr hd aa J N hla hlb az aH k2 ae L
   go_enter func137,ntmps137
   go_wp2_with (first
    | (go_at_call 98;refine (VI va _ a b _ ai av (by have:=Z.o;omega) (by have:=aZ.o;omega)).mono ?_;rintro e w' ⟨rfl,n,rfl⟩)
    | (go_at_call 128;refine (bu _ (yF.below ai (zo (Below.refl _ _) _))).mono ?_;rintro e w1 ⟨v,rfl,C,ac⟩))
   refine (Yf _ _ _ _ _ _ (zj6 w1 184 r) (zap bn) (Nat.le_refl _) (by unfold maxLen;omega)).mono ?_;rintro e w' ⟨v2,rfl,ak,rfl⟩;go_wp2_with fail;go_ret2;rw [YM] at ak;exact ⟨v,v2,rfl,yF.below C ((Below.refl _ _).alloc (Nat.le_refl _) _),ak.below (Below.refl _ _) (by simp),((zo (Below.refl _ _) _).trans ac).alloc (by have:=ac.size;simpa using this) _⟩
 have hq:((j.length:Int) == 1)=false:=by rw [beq_eq_false_iff_ne];omega
 have bg:=ze (VI va (.slice (some S) j.length Y) a b w ai av (by omega) (by omega));obtain ⟨l,al⟩:∃ l,l=len 4294967296 a:=⟨_,rfl⟩;have an:=vy (β:=4294967296) (by omega) a;have aA:=vI (β:=4294967296) (m:=b) (n:=a) (by omega) (by omega);rw [<- al] at hla Z an aA;rw [<- J] at aA;have hi:((j.length:Int) - 1).toNat=j.length - 1:=by omega
 have HQ:Hid (∀ n,n<32->2147483648<=j[j.length - 1]*2 ^ n->j[j.length - 1]*2 ^ n<4294967296->∀ dv,yW 4294967296 dv->val 4294967296 dv=b*2 ^ n->
  dv.length=j.length/\2147483648*4294967296 ^ (j.length - 1)<=val 4294967296 dv/\2147483648<=dv.getD (j.length - 1) 0):=by
  intro n y K M dv F C;exact zfy k4 aq N F C (by rw [zv ag];exact K) (by rw [zv ag];exact M)
 have bo:∀ W n,yF W va a->n<32->Calls Tryz.prog 165 #[va,.int .u64 (n:Nat)] W (zkp W (l+1) (a*2 ^ n)):=by
  intro W n R y;rw [al];exact zdy va a n W R (by omega) y
 have a9:∀ W n,yF W (.slice (some S) j.length Y) b->n<32->Calls Tryz.prog 165 #[.slice (some S) j.length Y,.int .u64 (n:Nat)] W (zkp W (j.length+1) (b*2 ^ n)):=by
  intro W n R y;rw [J];rw [J] at R;exact zdy _ b n W R (by omega) y
 have bk:0<j[j.length - 1]:=by omega
 have bI:l<=33554432:=Z.o;have bE:j.length<=33554432:=by omega
 have bK:=ze L;have bp:=ze an;have ba:=ze I;clear al N J hla hlb L an I az k2
 go_enter func137,ntmps137
 go_upto_region 8 with (first
  | (go_at_call 98;refine (zK bg).mono ?_;rintro e w' ⟨rfl,n0,rfl⟩)
  | (go_at_call 164;refine (zmb _ bk ae _).mono ?_;rintro e w' ⟨n,y,a1,a0,rfl,rfl⟩;have a8:=ze a1;have bd:=ze a0;clear a1 a0)
  | (go_at_call_of 165 va;refine (bo _ n (yF.below ai (zo (Below.refl _ _) _)) y).mono ?_;rintro e w1 ⟨U,rfl,ah,D,aV,E,aj⟩;have am:=ze aV;clear aV)
  | (go_at_call_of 165 (Value.slice (some S) j.length Y);refine (a9 _ n (yF.below av ((zo (Below.refl _ _) _).trans aj)) y).mono ?_;rintro e z ⟨Vf,rfl,aw,aB,aE,af,ap⟩;have aC:=ze aE;clear aE)
  | (go_at_call 138;refine (zfd _ _ _ Vf _ _ (by have:=vV af;rwa [aw] at this) aB (Nat.le_refl _) (by unfold maxLen;omega)).mono ?_;rintro e w' ⟨k,T,rfl,aJ,C,rfl⟩;have HC:=ze aJ;have HV:=ze C;clear aJ C))
 have bh:(Vf.take k).length=k:=by rw [List.length_take];omega
 obtain ⟨q1,q2,q3⟩:=HQ.o n y a8.o bd.o (Vf.take k) HC.o (HV.o.trans aC.o);have bs:k=j.length:=by omega
 subst bs;obtain ⟨dv,F⟩:∃ dv,dv=Vf.take j.length:=⟨_,rfl⟩
 have X:zV z z.heap.size 1 (some ⟨w1.heap.size,0,none⟩) j.length (XY dv):=by
  have K:=vV af;rw [aw] at K;have M:=K.head (k:=j.length) (by omega);rw [Nat.mul_one,zde, <- F] at M;exact M
 have aU:zI 4294967296 dv:=by rw [F];exact aB.take _
 have aD:val 4294967296 dv=b*2 ^ n:=by rw [F];exact HV.o.trans aC.o
 rw [<- F] at q1 q2 q3;have bx:w.heap.size<w1.heap.size:=E.lt;have bz:w1.heap.size<z.heap.size:=af.lt;have aS:Blk z w.heap.size 184 (y8 U):=E.below ap bx;have G:Below w.heap.size w z:=((zo (Below.refl _ _) n0).trans aj).trans (ap.mono aj.size);have aW:=znj (b:=b) y bp.o am.o ah aA aH q2;have bl:=fun W=>zdh .i64 (l+1 - j.length) (by omega) W
 rw [show ((l+1 - j.length:Nat):Int)=(l:Int)+1 - j.length by omega] at bl;have aP:=ze aD;have a4:=ze aW;have bb:2<=j.length:=by have:=ba.o;omega
 have a5:=ze G;clear aD aW G HQ HC HV aC F aB aw bh T af E aj ap q2 aa hi aL k1;go_wp2_with fail
 go_loopw [13] (zx3 w w.heap.size z.heap.size j.length (l+1 - j.length) Y (a*2 ^ n) (val 4294967296 dv) (some ⟨w1.heap.size,0,none⟩) dv) (fun iv _=>(intOf iv+1).toNat)
 case atStart=>
  refine ⟨l+1 - j.length,U,List.replicate (l+1 - j.length) 0,Nat.le_refl _,congrArg _ (by omega),by omega,by simp,D,zI.replicate (by omega) _,?_,a4.o,aS.alloc _,Blk.new _ _ _,?_,a5.o.alloc (by have:=a5.o.size;omega) _⟩
  rotate_left
  . exact (X.alloc (Nat.le_refl _) _).more (by simp)
  show _=_
  rw [List.drop_of_length_le (by simp),Zc,Nat.mul_zero,Nat.zero_mul,Nat.add_zero];exact am.o.symm
 case round=>
  clear am D ah a4 aS X;obtain ⟨k,U,Q,T,rfl,ah,aF,D,a2,HU,HL,E,ay,X,G⟩:=hrel;have bD:=E.lt;have bA:=ay.lt
  by_cases bJ:0<k
  rotate_left
  . obtain rfl:k=0:=by omega
    have aT:=vV ay;rw [aF] at aT;have aR:=vV E;rw [ah,show l+1 - j.length+j.length=l+1 by omega] at aR
    have aQ:=zs2 (a:=a) (b:=b) (Nat.two_pow_pos n) (by
     have h:=HU.o;rw [Nat.pow_zero,Nat.one_mul,List.drop_zero,aP.o] at h
     exact h) (by have h:=HL.o;rwa [List.drop_zero,aP.o] at h)
    have HF:=ze aQ;clear aQ
    go_wp2_with (first
     | (go_at_call 138;refine (Yf _ _ _ _ _ _ aT a2 (Nat.le_refl _) (by unfold maxLen;omega)).mono ?_;rintro e w' ⟨v1,rfl,bi,rfl⟩)
     | (go_at_call 167;refine (zr4 _ _ _ n U _ aR D (by omega) y).mono ?_;rintro e w4 ⟨v2,rfl,ak,a7⟩))
    go_ret2;refine ⟨v1,v2,rfl,?_,?_,G.trans (a7.mono G.size)⟩
    . rw [<- HF.o.1];exact yF.below bi a7
    rw [<- HF.o.2];exact ak
  obtain ⟨e0,aM,hz,hw,ab⟩:=zqm (V:=val 4294967296 dv) (k:=k - 1) rfl q1 aU D (by omega) (by rw [show k - 1+1=k by omega];exact HL.o)
  have aI:Vb wr w.heap.size (U.take (k - 1)) ((U.drop (k - 1)).take (j.length+1)) (U.drop (k - 1+j.length+1)):=by
   unfold Vb;rw [<- e0];exact E
  have aO:0<val 4294967296 dv:=by
   rcases Nat.eq_zero_or_pos (val 4294967296 dv) with e | e
   . rw [e] at ab;omega
   . exact e
  have aK:val 4294967296 ((U.drop (k - 1)).take (j.length+1)) / val 4294967296 dv<4294967296:=(Nat.div_lt_iff_lt_mul aO).2 ab
  have ar:=zp1 w.heap.size (k - 1) j.length (l+1 - (k - 1)) (j.length+1) _ _ _ dv _ wr (by rw [List.length_take];omega) bb (by omega) aM q1 ((D.drop _).take _) aU aI X
   (by intro ad h;injection h with h;subst h;show w1.heap.size≠w.heap.size;omega) q3 ab (by omega) (by omega)
  obtain ⟨q,hq⟩:∃ q,q=val 4294967296 ((U.drop (k - 1)).take (j.length+1)) / val 4294967296 dv:=⟨_,rfl⟩;rw [<- hq] at aK ar;have bm:=ze ar;have be:=ze e0;have aY:=ze (And.intro hz hw);have HQ:=ze hq;have a3:k - 1<Q.length:=by omega
  have bC :((k:Int) - 1).toNat=k - 1:=by omega
  clear ar e0 hz hw hq aI aM ab aO;go_wp2_with fail;rw [show k - 1+j.length+1 - (k - 1)=j.length+1 by omega];refine (zK bm).mono ?_;rintro e w3 ⟨O,rfl,aN,bc,a6,bw,au⟩;have ax:Blk w3 z.heap.size 184 (y8 Q):=ay.grown au (by simp;omega);have bF:=(ax.cell (k - 1)).trans (xM a3);have bB:=ax.frozen (k - 1);have bv:=ze a6;have br:=ze aN;have ao:=ze au;clear a6 aN au;go_wp2_with fail;go_roundw
  case rel=>
   have bj:O.length=j.length+1:=by rw [br.o,List.length_take,List.length_drop];omega
   have aG:=(Nat.div_add_mod (val 4294967296 ((U.drop (k - 1)).take (j.length+1))) (val 4294967296 dv)).symm;rw [<- HQ.o] at aG;obtain ⟨K,M⟩:=zsv (u0:=a*2 ^ n) (q:=q) a3 be.o (by omega) aY.o.1 aY.o.2 bj bv.o aG (by rw [show k - 1+1=k by omega];exact HU.o);refine ⟨k - 1,U.take (k - 1) ++ O ++ U.drop (k - 1+j.length+1),Q.set (k - 1) q,by omega,congrArg _ (by omega),?_,by simpa using aF,((D.take _).append bc).append (D.drop _),a2.set _ _ aK,K,?_,?_,?_,?_,?_⟩
   . simp only [List.length_append,List.length_take,List.length_drop];omega
   . show _<_
     rw [M]
     exact Nat.mod_lt _ (by
      rcases Nat.eq_zero_or_pos (val 4294967296 dv) with e | e
      . have:=HL.o;omega
      . exact e)
   . exact Blk.far bw (by show w.heap.size≠z.heap.size;omega) _
   . have:=ax.set_ (k - 1) (.int .u32 (q:Int))
     rwa [yZ] at this
   . refine zV.more (B:=wr.heap.size) ?_ (by rw [World.setCell];simpa using ao.o.size)
     refine zV.apart X ?_;intro p hp;have bf :p.block=w1.heap.size:=hp;rw [World.cell?_setCell_other _ _ _ _ (by intro e;subst e;simp at bf;omega)];exact zbv ao.o (by omega) (by omega)
   . exact (G.grown ao.o G.size (by intro k T;injection T with T;omega)).setCell (by show w.heap.size<=z.heap.size;omega) _
  case measure=>simp [intOf];omega
theorem zar.inj {w:World} {B:Nat} {v:Value} {m n:Nat} (h:zar w B v m) (k:zar w B v n):m=n:=by
 obtain ⟨A,c,ds,rfl,z,y,C,M,rfl⟩:=h
 obtain ⟨A',c',r,e,k1,k2,F,K,rfl⟩:=k
 injection e with e1 e2 e3
 subst e1
 have:XY ds=XY r :=by
  apply List.ext_getElem?
  intro i
  rcases Nat.lt_or_ge i ds.length with hi | hi
  . obtain ⟨N,u,E,_,I,G⟩:=C.at_ hi
    obtain ⟨L,J,b,_,D,j⟩:=F.at_ (k:=i) (by omega);rw [E] at b;injection b with b
    subst b;rw [G] at j;injection j with j
    subst j;rw [I,D]
  . rw [List.getElem?_eq_none (by rw [Zh];omega),List.getElem?_eq_none (by rw [Zh];omega)]
 have hd:ds=r :=by
  apply List.ext_getElem e2
  intro i z y
  have:=congrArg (fun l=>l[i]?) this
  simp only [xb z,xb y] at this
  injection this with this
  injection this with _ this
  omega
 rw [hd]
open Classical in
noncomputable def zfg (w:World) (v:Value):Nat:=if h:∃ n,yF w v n then h.choose else 0
theorem Vg {w:World} {v:Value} {n:Nat} (h:yF w v n):zfg w v=n:=by
 unfold zfg
 have b:∃ n,yF w v n:=⟨n,h⟩
 rw [dif_pos b]
 exact zar.inj b.choose_spec h
def GcdR (w:World) (G:Nat) (v0 v1:Value) (wr:World):Prop:=
 ∃ x y:Nat,yF wr v0 x/\yF wr v1 y/\Hid (Nat.gcd x y=G)/\Hid (len 4294967296 x<=33554432)/\Hid (len 4294967296 y<=33554432)/\Below w.heap.size w wr
theorem zq5 (va vb:Value) (a b:Nat) (w:World) (ha:yF w va a) (hb:yF w vb b) (hla:len 4294967296 a<=33554432) (hlb:len 4294967296 b<=33554432):
 Calls Tryz.prog 93 #[va,vb] w (zat w (Nat.gcd a b)):=by
 have V:=ze hla
 have Z:=ze hlb
 clear hla hlb
 go_enter func93,ntmps93
 go_wp2
 go_loopw [0,1] (GcdR w (Nat.gcd a b)) (fun _ N wr=>zfg wr N)
 case atStart=>exact ⟨a,b,ha,hb,rfl,V,Z,Below.refl _ _⟩
 case round=>
  obtain ⟨x,y,Q,C,S,Y,l,u⟩:=hrel
  have L:=Vg C
  have R:=C
  obtain ⟨B,G,j,rfl,k1,k2,ab,E,D⟩:=C
  have U:=ze L
  have O:=ze D
  have z:=E.length_eq (β:=4294967296) (by omega)
  rw [D] at z
  have ac:j.length<=33554432:=by rw [z];exact l.o
  clear L D z k2
  by_cases m:j.length=0
  . have hd:j=[]:=List.eq_nil_of_length_eq_zero m
    have J:y=0:=by have:=O.o;rw [hd,Zc] at this;omega
    have I:x=Nat.gcd a b:=by have:=S.o;rw [J,Nat.gcd_zero_right] at this;exact this
    have aa:=ze I;have ae:¬ (0:Int)<(j.length:Int):=by omega
    clear hd J I m;go_wp2;go_ret;exact ⟨_,rfl,by rw [<- aa.o];exact Q,u⟩
  have F:0<j.length:=by omega
  have r:0<y:=by
   rcases Nat.eq_zero_or_pos y with e | e
   . exfalso
     have h:=O.o;rw [e] at h;have:=(E.zero_iff (by omega)).1 h;rw [this] at F;simp at F
   . exact e
  have HZ:=ze m;have T:=ze (zkl _ (.slice B j.length G) x y wr Q R r Y.o l.o);clear m;go_wp2_with (go_at_call 137;refine (zK T).mono ?_;rintro e w1 ⟨N,X,rfl,ad,M,K⟩);go_roundw
  case rel=>
   refine ⟨y,x % y,yF.below R K,M,?_,l,?_,u.trans (K.mono u.size)⟩
   rotate_left
   . exact Nat.le_trans (vI (by omega) (Nat.le_of_lt (Nat.mod_lt _ r))) l.o
   show _=_
   rw [<- S.o,Nat.gcd_comm x y,Nat.gcd_rec y x,Nat.gcd_comm]
  case measure=>
   show zfg w1 X<zfg wr (.slice B j.length G)
   rw [Vg M,U.o];exact Nat.mod_lt _ r
end Go.Proofs.YthbmhkiphmcogaaGreatDoor
