/- Parts of the proof: memory, numbers, walks of the functions that are called. -/
import Derived.Deep.DeepMust
import Derived.Maps.AppendAt
import Derived.OwnWalk
import Derived.RegionTactic
import Derived.Test.YtkmcmmcencdcpaaGreatDoorMt08
set_option linter.unusedVariables false
set_option linter.unusedSimpArgs false
namespace Go.Proofs.YtkmcmmcencdcpaaGreatDoor
open Go.RowKit Go.Deep
section
variable {P:Program} (w:World)
theorem Vy (base:Nat) (t ty e:TypeId) (i:TypeInfo) (size:Nat) (ht:P.underlying t=some (.slice e)) (hi:P.info? e=some i)
 (v:Value) (n:Nat) (xs:List Value) (hown:w.ownsRow base e size v n xs) (c:Nat):(Builtin.append_ #[t,t] ty #[v,.slice none 0 c]).run P w= .ok v w:=by
 rcases hown.2 with ⟨rfl,rfl⟩ | ⟨g,cap,cur,rfl,_,_,hnc,_⟩
 . simp [Builtin.append_,run_underlying ht,sizeOf,typeInfo,hi,Builtin.lenOf,Builtin.firstCells]
 . simp [Builtin.append_,run_underlying ht,sizeOf,typeInfo,hi,Builtin.lenOf,Builtin.firstCells,hnc,storeCells]
theorem zbn (base:Nat) (t ty e:TypeId) (i:TypeInfo) (z:Value) (size bytes:Nat) (ht:P.underlying t=some (.slice e)) (hi:P.info? e=some i) (hz:i.zero=some z)
 (hsize:i.size=size) (hby:i.bytes=bytes) (hzs:z.cells.size=size) (hsz:0<size)
 (v:Value) (n:Nat) (xs:List Value) (hown:w.ownsRow base e size v n xs)
 (B:Nat) (A:Option Addr) (m c:Nat) (news:List Value) (hr:zY w B size A m news) (h1:∀ u∈news,u.oneCell' =true)
 (h63:n+m<=maxLen) (hbytes:(n+m)*bytes<=140737488355328) (hbase:base<=w.heap.size):
 ∃ v' w',(Builtin.append_ #[t,t] ty #[v,.slice A m c]).run P w= .ok v' w' /\w'.ownsRow base e size v' (n+m) (xs ++ news)/\w.grownBy w' v.ownBlock/\
  (v'.ownBlock=v.ownBlock\/v'.ownBlock=some w.heap.size):=by
 rcases A with _ | ad
 . have hm:m=0:=by
    rcases Nat.eq_zero_or_pos m with h0 | h0
    . exact h0
    . obtain ⟨ad,h,_⟩:=hr.2 h0
      cases h
   subst hm;have hn:news=[]:=List.eq_nil_of_length_eq_zero (by simpa using hr.1);subst hn;exact ⟨v,w,Vy w base t ty e i size ht hi v n xs hown c,by simpa using hown,World.grownBy.refl w _,.inl rfl⟩
 . have hcells:∀ j u,news[j]?=some u->w.cell? (ad.add j)=some u:=by
    intro j u hu
    rcases Nat.eq_zero_or_pos m with h0 | h0
    . subst h0
      have hn:news=[]:=List.eq_nil_of_length_eq_zero (by simpa using hr.1);subst hn;simp at hu
    . obtain ⟨ad',h,_,hc⟩:=hr.2 h0
      injection h with h
      subst h;exact hc j u hu
   obtain ⟨v',w',hrun,h2,h3,_,h5⟩:=run_append_own_at (P:=P) w base t ty e i z size bytes ht hi hz hsize hby hzs hsz v n xs hown ad m c news hr.1 hcells h1 h63 hbytes hbase;exact ⟨v',w',hrun,h2,h3,h5⟩
theorem yx {o:Oper} {a:Act} {K:Act->World->Prop} {Q:Exit->Act->World->Prop} (s x:Operand) (t:TypeId)
 (ho:o.op= .call { callee:=.builtin .append,args:=#[s,x],argTypes:=#[t,t] })
 (base:Nat) (e:TypeId) (i:TypeInfo) (z:Value) (size bytes:Nat) (ht:P.underlying t=some (.slice e)) (hi:P.info? e=some i) (hz:i.zero=some z)
 (hsize:i.size=size) (hby:i.bytes=bytes) (hzs:z.cells.size=size) (hsz:0<size)
 (v:Value) (n:Nat) (xs:List Value) (hs:a.eval s=v) (hown:w.ownsRow base e size v n xs)
 (B:Nat) (A:Option Addr) (m c:Nat) (news:List Value) (hx:a.eval x= .slice A m c) (hr:zY w B size A m news) (h1:∀ u∈news,u.oneCell' =true)
 (h63:n+m<=maxLen) (hbytes:(n+m)*bytes<=140737488355328) (hbase:base<=w.heap.size)
 (h:∀ v' w',w'.ownsRow base e size v' (n+m) (xs ++ news)->w.grownBy w' v.ownBlock->(v'.ownBlock=v.ownBlock\/v'.ownBlock=some w.heap.size)->K (a.put o.dst v') w'):o.wp P a w K Q:=by
 obtain ⟨v',w',hrun,h2,h3,h4⟩:=zbn (P:=P) w base t o.type e i z size bytes ht hi hz hsize hby hzs hsz v n xs hown B A m c news hr h1 h63 hbytes hbase
 unfold Oper.wp execOp
 simp only [ho,resolve,invoke,builtin,Sem.run_bind,Sem.run_pure,Result.andThen_ok,List.map_toArray,List.map_cons,List.map_nil,hs,hx,hrun]
 exact h v' w' h2 h3 h4
theorem yj {ops:Array Oper} {rest:List Oper} {o:Oper} {a:Act} {Q:Exit->Act->World->Prop} (hgd:o.guard=none) (s x:Operand) (t:TypeId)
 (ho:o.op= .call { callee:=.builtin .append,args:=#[s,x],argTypes:=#[t,t] })
 (base:Nat) (e:TypeId) (i:TypeInfo) (z:Value) (size bytes:Nat) (ht:P.underlying t=some (.slice e)) (hi:P.info? e=some i) (hz:i.zero=some z)
 (hsize:i.size=size) (hby:i.bytes=bytes) (hzs:z.cells.size=size) (hsz:0<size)
 (v:Value) (n:Nat) (xs:List Value) (hs:a.eval s=v) (hown:w.ownsRow base e size v n xs)
 (B:Nat) (A:Option Addr) (m c:Nat) (news:List Value) (hx:a.eval x= .slice A m c) (hr:zY w B size A m news) (h1:∀ u∈news,u.oneCell' =true)
 (h63:n+m<=maxLen) (hbytes:(n+m)*bytes<=140737488355328) (hbase:base<=w.heap.size)
 (h:∀ v' w',w'.ownsRow base e size v' (n+m) (xs ++ news)->w.grownBy w' v.ownBlock->(v'.ownBlock=v.ownBlock\/v'.ownBlock=some w.heap.size)->wpList P ops Q rest (a.put o.dst v') w'):wpList P ops Q (o :: rest) a w:=
 wpList_plain hgd fun _ hK=>yx w s x t ho base e i z size bytes ht hi hz hsize hby hzs hsz v n xs hs hown B A m c news hx hr h1 h63 hbytes hbase fun v' w' h2 h3 h4=>hK _ _ (h v' w' h2 h3 h4)
end
theorem zaw (ds:List Nat):∀ u∈YE ds,u.oneCell' =true:=by
 intro u hu
 simp only [YE,List.mem_map] at hu
 obtain ⟨d,_,rfl⟩:=hu
 rfl
theorem zig {w:World} {base:Nat} {e:TypeId} {v:Value} {n:Nat} {ds:List Nat} (h:w.ownsRow base e 1 v n (YE ds)) (hc:yJ 4294967296 ds):y6 w v (val 4294967296 ds):=by
 have hl:ds.length=n:=by have:=h.1;rw [vm] at this;omega
 rcases h.2 with ⟨rfl,hn⟩ | ⟨g,cap,cur,rfl,hb,hg,hnc,hcm,hcs,ht⟩
 . have:ds=[]:=List.eq_nil_of_length_eq_zero (by omega)
   subst this;exact ⟨none,0,[],rfl,by simp,by simp [maxLen],zY.none_,yJ.nil _,rfl⟩
 . subst hl
   exact ⟨_,cap,ds,rfl,hnc,hcm,zY.of_own h,hc,rfl⟩
theorem zf1 (w:World):y6 w (.slice none 0 0) 0:=⟨none,0,[],rfl,by simp,by simp [maxLen],zY.none_,yJ.nil _,rfl⟩
theorem zlu (va:Value) (a:Nat) (w:World) (ha:y6 w va a) (hla:len 4294967296 a<=67108864):
 Calls Tryz.prog 231 #[va] w (XL w a):=by
 obtain ⟨A,ca,da,rfl,h1,h2,hra,h4,rfl⟩:=ha
 rw [<- h4.length_eq (by omega)] at hla
 have qT:∀ (w:World) (a:Option Addr) (n c n' c' :Nat),(binOp .eql 89 (.slice a n c) (.slice none n' c')).run Tryz.prog w= .ok (.bool a.isNone) w:=fun w a n c n' c' =>Lib.run_eql_slice_nil w _ _ a n c n' c' Tryz.underlying89
 rcases A with _ | ad
 . have hd:da=[]:=by
    apply List.eq_nil_of_length_eq_zero
    rcases Nat.eq_zero_or_pos da.length with h | h
    . exact h
    . obtain ⟨ad,h,_⟩:=hra.2 h
      cases h
   subst hd
   go_enter Tryz.func231,Tryz.ntmps231
   go_wp2;go_ret;exact ⟨_,rfl,zf1 _,Below.refl _ _⟩
 . obtain ⟨i0,hi0,hz0,hz1,hz2⟩:=info_parts zj1
   have hq:=qT w (some ad) da.length ca 0 0;simp only [Option.isNone_some] at hq
   go_enter Tryz.func231,Tryz.ntmps231
   have HLA:=ze hla;have H1:=ze h1;have h1c:=zaw da;go_wp2_with (at_builtin;go_must (refine yj _ rfl (.tmp 5) (.tmp 6) _ rfl w.heap.size 221 i0 _ 1 4 Tryz.underlying89 hi0 hz0 hz1 hz2 rfl (by omega) (.slice (some ⟨w.heap.size,0,none⟩) 0 0) 0 [] rfl ?o1 w.heap.size (some ad) da.length ca (YE da) rfl (hra.alloc (Nat.le_refl _) _) h1c ?o2 ?o3 ?o4 ?_))
   case o1=>exact World.ownsRow_lit w #[] 0 (Nat.le_refl _) (Nat.zero_le _) rfl
   case o2=>have:=HLA.out;unfold maxLen;omega
   case o3=>have:=HLA.out;omega
   case o4=>simp
   intro v1 w1 hown hgrow hat;have HO:=ze hown;have HG:=ze hgrow;clear hown hgrow hat;go_wp2_with fail;go_ret;have hn:=zig HO.out h4;refine ⟨v1,rfl,hn,?_⟩;refine ((Below.refl _ _).alloc (Nat.le_refl _) _).grown HG.out (by simp) ?_;intro k hk
   simp [Value.ownBlock] at hk
   omega
theorem zk7 {x:Nat} (h0:0<x) (h:x<4294967296):Lib.bitLen x=x.log2+1:=by
 have h1:2 ^ x.log2<=x:=Nat.log2_self_le (by omega)
 have h2:x<2 ^ (x.log2+1):=Nat.lt_log2_self
 have h3:=Lib.bitLen_shift x.log2 x h1 (by omega)
 have h4:x / 2 ^ x.log2=1:=by
  apply Nat.div_eq_of_lt_le
  . omega
  . rw [Nat.pow_succ] at h2;omega
 rw [h3,h4]
 rfl
def zqm (w:World) (x:Nat) (e:Ending) (w' :World):Prop:=∃ n:Nat,n<32/\2147483648<=x*2 ^ n/\x*2 ^ n<4294967296/\e= .returned (.int .i64 (n:Int))/\w=w'
theorem zjc (x:Nat) (h0:0<x) (h:x<4294967296) (w:World):Calls Tryz.prog 232 #[.int .u32 (x:Int)] w (zqm w x):=by
 refine (zi5 (x:Int) (by omega) (by omega) w).mono ?_
 rintro e w' ⟨rfl,rfl⟩
 rw [Int.toNat_natCast,zk7 h0 h]
 have hl:x.log2<32:=(Nat.log2_lt (by omega)).2 (by omega)
 have h1:2 ^ x.log2<=x:=Nat.log2_self_le (by omega)
 have h2:x<2 ^ (x.log2+1):=Nat.lt_log2_self
 have e1:2 ^ x.log2*2 ^ (31 - x.log2)=2147483648:=by rw [<- Nat.pow_add,show x.log2+(31 - x.log2)=31 by omega]
 have e2:2 ^ (x.log2+1)*2 ^ (31 - x.log2)=4294967296:=by rw [<- Nat.pow_add,show x.log2+1+(31 - x.log2)=32 by omega]
 refine ⟨31 - x.log2,by omega,?_,?_,congrArg Ending.returned (congrArg (Value.int IntKind.i64) (by omega)),rfl⟩
 . rw [<- e1];exact Nat.mul_le_mul_right _ h1
 . rw [<- e2];exact Nat.mul_lt_mul_of_pos_right h2 (Nat.two_pow_pos _)
theorem zmf {U dv:List Nat} {m k V:Nat} (hV:V=val 4294967296 dv) (hl:dv.length=m) (hsv:zD 4294967296 dv) (hsU:zD 4294967296 U) (hk:k+m+1<=U.length) (hlt:val 4294967296 (U.drop (k+1))<V):
 U=U.take k ++ (U.drop k).take (m+1) ++ U.drop (k+m+1)/\((U.drop k).take (m+1)).length=m+1/\val 4294967296 (U.drop (k+m+1))=0/\val 4294967296 (U.drop k)=val 4294967296 ((U.drop k).take (m+1))/\
 val 4294967296 ((U.drop k).take (m+1))<4294967296*V:=by
 have hlen:((U.drop k).take (m+1)).length=m+1:=by rw [List.length_take,List.length_drop];omega
 have e0:U=U.take k ++ (U.drop k).take (m+1) ++ U.drop (k+m+1):=by
  rw [List.append_assoc]
  conv=>lhs;rw [<- List.take_append_drop k U, <- List.take_append_drop (m+1) (U.drop k),List.drop_drop]
  rw [show k+(m+1)=k+m+1 by omega]
 have hvm:V<4294967296 ^ m:=by rw [hV, <- hl];exact Yh hsv
 have h1:val 4294967296 (U.drop (k+m+1))=0:=by
  have h2:=xu 4294967296 (U.drop (k+1)) m (by rw [List.length_drop];omega)
  rw [List.drop_drop,show k+1+m=k+m+1 by omega] at h2
  rcases Nat.eq_zero_or_pos (val 4294967296 (U.drop (k+m+1))) with h | h
  . exact h
  . exfalso
    have:4294967296 ^ m*1<=4294967296 ^ m*val 4294967296 (U.drop (k+m+1)):=Nat.mul_le_mul_left _ h
    omega
 have h2:val 4294967296 (U.drop k)=val 4294967296 ((U.drop k).take (m+1)):=by
  have h3:=xu 4294967296 (U.drop k) (m+1) (by rw [List.length_drop];omega)
  rw [List.drop_drop,show k+(m+1)=k+m+1 by omega,h1,Nat.mul_zero,Nat.add_zero] at h3
  exact h3
 refine ⟨e0,hlen,h1,h2,?_⟩
 rw [<- h2,Z5 _ _ _ (by omega)]
 have hd:=hsU.get k (by omega)
 have:4294967296*(val 4294967296 (U.drop (k+1))+1)<=4294967296*V:=Nat.mul_le_mul_left _ hlt
 omega
def zs3 (w:World) (g gq m lq cV u0 V:Nat) (adv:Option Addr) (dv:List Nat) (iv:Value) (wr:World):Prop:=
 ∃ (k:Nat) (U Q:List Nat),k<=lq/\iv= .int .i64 ((k:Int) - 1)/\U.length=lq+m/\Q.length=lq/\zD 4294967296 U/\zD 4294967296 Q/\
  Hid (u0=val 4294967296 U+4294967296 ^ k*val 4294967296 (Q.drop k)*V)/\Hid (val 4294967296 (U.drop k)<V)/\
  Blk wr g 221 (yv U)/\Blk wr gq 221 (yv Q)/\zY wr wr.heap.size 1 adv m (YE dv)/\Below w.heap.size w wr
theorem zoo {U O Q:List Nat} {k m u0 V q r:Nat} (hk:k<Q.length) (hU:U=U.take k ++ (U.drop k).take (m+1) ++ U.drop (k+m+1)) (hkU:k<=U.length)
 (hz:val 4294967296 (U.drop (k+m+1))=0) (hw:val 4294967296 (U.drop k)=val 4294967296 ((U.drop k).take (m+1)))
 (hlO:O.length=m+1) (hvO:val 4294967296 O=r) (hqr:val 4294967296 ((U.drop k).take (m+1))=V*q+r)
 (H:u0=val 4294967296 U+4294967296 ^ (k+1)*val 4294967296 (Q.drop (k+1))*V):
 u0=val 4294967296 (U.take k ++ O ++ U.drop (k+m+1))+4294967296 ^ k*val 4294967296 ((Q.set k q).drop k)*V/\val 4294967296 ((U.take k ++ O ++ U.drop (k+m+1)).drop k)=r:=by
 have hlk:(U.take k).length=k:=by rw [List.length_take];omega
 have e1:val 4294967296 (U.take k ++ O ++ U.drop (k+m+1))=val 4294967296 (U.take k)+4294967296 ^ k*r:=by
  rw [List.append_assoc,ZA,ZA,hlk,hz,hvO,Nat.mul_zero,Nat.add_zero]
 have e2:val 4294967296 U=val 4294967296 (U.take k)+4294967296 ^ k*(V*q+r):=by
  rw [xu _ U k hkU,hw,hqr]
 constructor
 . rw [H,e1,e2,YO _ _ _ _ hk,Nat.pow_succ]
   generalize 4294967296 ^ k=P;generalize val 4294967296 (Q.drop (k+1))=Y;generalize val 4294967296 (U.take k)=L;simp only [Nat.mul_add,Nat.add_mul,Nat.mul_assoc,Nat.mul_comm,Nat.mul_left_comm]
   omega
 . rw [List.append_assoc,List.drop_append_of_le_length (by omega),List.drop_of_length_le (by omega),List.nil_append,ZA,hz,hvO,Nat.mul_zero,Nat.add_zero]
theorem zio {a b n la m:Nat} {U dv:List Nat} (hn:n<32) (ha:a<4294967296 ^ la) (hU:val 4294967296 U=a*2 ^ n) (hlU:U.length=la+1) (hm:m<=la) (hm1:1<=m)
 (hV:2147483648*4294967296 ^ (m - 1)<=val 4294967296 dv):val 4294967296 (U.drop (la+1 - m))<val 4294967296 dv:=by
 have h1:=xu 4294967296 U (la+1 - m) (by omega)
 have h2:4294967296 ^ (la+1 - m)*val 4294967296 (U.drop (la+1 - m))<=val 4294967296 U:=by omega
 have h3:val 4294967296 U<4294967296 ^ la*2147483648:=by
  rw [hU]
  have:a*2 ^ n<=a*2147483648:=Nat.mul_le_mul_left _ (Vu hn)
  have:a*2147483648<4294967296 ^ la*2147483648:=Nat.mul_lt_mul_of_pos_right ha (by omega)
  omega
 have h4:4294967296 ^ la=4294967296 ^ (la+1 - m)*4294967296 ^ (m - 1):=by rw [<- Nat.pow_add];congr 1;omega
 rw [h4,Nat.mul_assoc] at h3
 have h5:=Nat.lt_of_mul_lt_mul_left (Nat.lt_of_le_of_lt h2 h3)
 rw [Nat.mul_comm] at h5
 omega
theorem zcy {b n:Nat} {db dv:List Nat} (hb:yJ 4294967296 db) (hne:db≠[]) (hvb:val 4294967296 db=b) (hdv:yJ 4294967296 dv) (hv:val 4294967296 dv=b*2 ^ n)
 (h1:2147483648<=db.getD (db.length - 1) 0*2 ^ n) (h2:db.getD (db.length - 1) 0*2 ^ n<4294967296):
 dv.length=db.length/\2147483648*4294967296 ^ (db.length - 1)<=val 4294967296 dv/\2147483648<=dv.getD (db.length - 1) 0:=by
 have hp:=List.length_pos_iff.2 hne
 obtain ⟨l,hl⟩:∃ l,db.length=l+1:=⟨db.length - 1,by omega⟩
 have hl1:db.length - 1=l:=by omega
 rw [hl1] at h1 h2 |-
 have e:b=val 4294967296 (db.take l)+4294967296 ^ l*db.getD l 0:=by rw [<- zJ,List.take_of_length_le (by omega),hvb]
 have hlow:val 4294967296 (db.take l)<4294967296 ^ l:=by
  have:=Yh (hb.1.take l);rwa [List.length_take,Nat.min_eq_left (by omega)] at this
 have hup:val 4294967296 dv<4294967296 ^ (l+1):=by
  rw [hv,e,Nat.pow_succ]
  have h3:(val 4294967296 (db.take l)+4294967296 ^ l*db.getD l 0)*2 ^ n<(4294967296 ^ l*(db.getD l 0+1))*2 ^ n:=Nat.mul_lt_mul_of_pos_right (by rw [Nat.mul_add,Nat.mul_one];omega) (Nat.two_pow_pos _)
  have h4:(db.getD l 0+1)*2 ^ n<=4294967296:=by
   rw [Nat.add_mul,Nat.one_mul]
   have hn:n<32:=by
    rcases Nat.lt_or_ge n 32 with h | h
    . exact h
    . exfalso
      have h5:(2:Nat) ^ 32<=2 ^ n:=Nat.pow_le_pow_right (by omega) h
      have h6:0<db.getD l 0:=by
       rcases Nat.eq_zero_or_pos (db.getD l 0) with h7 | h7
       . rw [h7] at h1;omega
       . exact h7
      have h7:1*2 ^ n<=db.getD l 0*2 ^ n:=Nat.mul_le_mul_right _ h6;have h8:(2:Nat) ^ 32=4294967296:=by decide
      omega
   have h9:=yZ hn
   have h10:db.getD l 0<2 ^ (32 - n):=by
    rw [<- h9,Nat.mul_comm] at h2;exact Nat.lt_of_mul_lt_mul_left h2
   have h11:2 ^ n*(db.getD l 0+1)<=2 ^ n*2 ^ (32 - n):=Nat.mul_le_mul_left _ h10;rw [h9,Nat.mul_add,Nat.mul_one,Nat.mul_comm] at h11;exact h11
  rw [Nat.mul_assoc] at h3
  have h5:4294967296 ^ l*((db.getD l 0+1)*2 ^ n)<=4294967296 ^ l*4294967296:=Nat.mul_le_mul_left _ h4
  omega
 have hlo:2147483648*4294967296 ^ l<=val 4294967296 dv:=by
  rw [hv,e,Nat.add_mul,Nat.mul_assoc,Nat.mul_comm 2147483648]
  have:4294967296 ^ l*2147483648<=4294967296 ^ l*(db.getD l 0*2 ^ n):=Nat.mul_le_mul_left _ h1
  omega
 have hlen1:dv.length<=l+1:=hdv.length_lt_pow (by omega) hup
 have hlen2:l<dv.length:=by
  rcases Nat.lt_or_ge l dv.length with h | h
  . exact h
  . exfalso
    have h3:=Yh hdv.1;have h4:4294967296 ^ dv.length<=4294967296 ^ l:=Nat.pow_le_pow_right (by omega) h;have h5:1*4294967296 ^ l<=2147483648*4294967296 ^ l:=Nat.mul_le_mul_right _ (by omega)
    omega
 refine ⟨by omega,hlo,?_⟩
 have e2:val 4294967296 dv=val 4294967296 (dv.take l)+4294967296 ^ l*dv.getD l 0:=by rw [<- zJ,List.take_of_length_le (by omega)]
 have hlow2:val 4294967296 (dv.take l)<4294967296 ^ l:=by
  have:=Yh (hdv.1.take l);rwa [List.length_take,Nat.min_eq_left (by omega)] at this
 rcases Nat.lt_or_ge (dv.getD l 0) 2147483648 with h | h
 . exfalso
   have h3:4294967296 ^ l*(dv.getD l 0+1)<=4294967296 ^ l*2147483648:=Nat.mul_le_mul_left _ h;rw [Nat.mul_add,Nat.mul_one] at h3;rw [Nat.mul_comm 2147483648] at hlo
   omega
 . exact h
theorem zna {a b s R Q:Nat} (hs:0<s) (h:a*s=R+Q*(b*s)) (hR:R<b*s):Q=a / b/\R / s=a % b:=by
 have hb:0<b:=by
  rcases Nat.eq_zero_or_pos b with e | e
  . rw [e] at hR;omega
  . exact e
 have e1:(a - Q*b)*s=R:=by rw [Nat.sub_mul,Nat.mul_assoc];omega
 have h1:Q*b<=a:=by
  rcases Nat.lt_or_ge a (Q*b) with h2 | h2
  . exfalso
    have h3:(a+1)*s<=Q*b*s:=Nat.mul_le_mul_right _ h2;rw [Nat.add_mul,Nat.one_mul,Nat.mul_assoc] at h3
    omega
  . exact h2
 have h2:a - Q*b<b:=by
  rw [<- e1] at hR
  exact Nat.lt_of_mul_lt_mul_right hR
 have h3:Q=a / b:=by
  symm
  apply Nat.div_eq_of_lt_le
  . exact h1
  . rw [Nat.add_mul,Nat.one_mul];omega
 refine ⟨h3,?_⟩
 rw [<- e1,Nat.mul_div_cancel _ hs]
 have:=Nat.div_add_mod a b
 rw [<- h3,Nat.mul_comm] at this
 omega
theorem zY.apart {w w' :World} {B size n:Nat} {ad:Addr} {xs:List Value} (h:zY w B size (some ad) n xs) (hk:∀ p:Addr,p.block=ad.block->w'.cell? p=w.cell? p):zY w' B size (some ad) n xs:=
 ⟨h.1,fun hn=>by
  obtain ⟨ad',e,hb,hc⟩:=h.2 hn
  injection e with e
  subst e
  exact ⟨ad,rfl,hb,fun j u hu=>(hk _ (zF _ _)).trans (hc j u hu)⟩⟩
def zpf (w:World) (q r:Nat) (e:Ending) (w' :World):Prop:=∃ v1 v2,e= .returned (.tuple #[v1,v2])/\y6 w' v1 q/\y6 w' v2 r/\Below w.heap.size w w'
theorem zg2 (w:World) (t d:Nat):zY (w.alloc (.cells #[.int .u32 (d:Int)] t)) (w.heap.size+1) 1 (some ⟨w.heap.size,0,none⟩) 1 (YE [d]):=by
 have h:=Blk.new w t (yv [d])
 have:=ve h
 simp only [World.size_alloc] at this
 exact this
theorem XE {d:Nat} (hd:d<4294967296):zD 4294967296 [d]:=fun x hx=>by
 rw [List.mem_singleton] at hx;omega
theorem zkw {db:List Nat} (h:db.length=1):db=[db.getD 0 0]:=by
 match db,h with
 | [d],_=>rfl
set_option maxHeartbeats 1600000 in
set_option maxRecDepth 100000 in
theorem zgk (va vb:Value) (a b:Nat) (w:World) (ha:y6 w va a) (hb:y6 w vb b) (hb0:0<b) (hla:len 4294967296 a<=33554432) (hlb:len 4294967296 b<=33554432):
 Calls Tryz.prog 209 #[va,vb] w (zpf w (a / b) (a % b)):=by
 have HLA:=ze hla
 have HLB:=ze hlb
 have HB0:=ze hb0
 by_cases hlt:a<b
 . have hc:zK (a:Int) (b:Int)= -1:=by unfold zK;rw [if_pos (by omega)]
   have e1:a / b=0:=Nat.div_eq_of_lt hlt;have e2:a % b=a:=Nat.mod_eq_of_lt hlt;rw [e1,e2];clear e1 e2 hlt hla hlb hb0
   go_enter Tryz.func209,Tryz.ntmps209
   go_wp2_with (first
    | (go_at_call 180;refine (X2 va vb a b _ ha hb (by have:=HLA.out;omega) (by have:=HLB.out;omega)).mono ?_;rintro e w' ⟨rfl,n,rfl⟩)
    | (go_at_call 231;refine (zlu va a _ (y6.below ha (zl (Below.refl _ _) _)) (by have:=HLA.out;omega)).mono ?_;rintro e w' ⟨v,rfl,hv,hbl⟩))
   go_ret2;exact ⟨_,v,rfl,zf1 _,hv,(zl (Below.refl _ _) _).trans hbl⟩
 . have hc:¬ zK (a:Int) (b:Int)<0:=by
    unfold zK;rw [if_neg (by omega)]
    split<;>omega
   have hbN:=hb;have haN:=ha;obtain ⟨B,cb,db,rfl,k1,k2,hrb,k4,hvb⟩:=hb
   have hne:db≠[]:=by
    rintro rfl;rw [vk] at hvb
    omega
   have hlb1:=k4.length_eq (β:=4294967296) (by omega);rw [hvb] at hlb1;have hpos:=List.length_pos_iff.2 hne;obtain ⟨adb,u,rfl,hbb,hx,hcell⟩:=hrb.at_ (k:=db.length - 1) (by omega);have hm1:db.length - 1<db.length:=by omega
   rw [yQ hm1] at hx;injection hx with hx
   subst hx;have hdl:=k4.last hne;have hds:=k4.1.get _ hm1
   by_cases hone:db.length=1
   . have hq:((db.length:Int) == 1)=true:=by rw [hone];rfl
     obtain ⟨d,hd⟩:∃ d,d=db[db.length - 1]:=⟨_,rfl⟩;rw [<- hd] at hcell hdl hds
     have hval:b=d:=by
      rw [<- hvb,zkw hone,ZH,zu (by omega),hd]
      congr 1
      omega
     subst hval
     have hc0:w.cell? adb=some (.int .u32 (b:Int)):=by
      rw [hone] at hcell
      simpa [Addr.add] using hcell
     have hdl0:0<b:=by omega
     obtain ⟨r,hr⟩:∃ r,r=a % b:=⟨_,rfl⟩
     have hrl:r<4294967296:=by
      have:=Nat.mod_lt a hdl0
      omega
     have hdw:∀ W,y6 W va a->Calls Tryz.prog 199 #[va,.int .u32 b] W (zot W (a / b) (.int .u32 (r:Int))):=by
      intro W hW;rw [hr];exact zft va a b W hW (by omega) hdl0 hds
     have HO:=ze hone;rw [<- hr];clear hone hr hd hcell hlb1 hvb hla hlb hdl hpos k2 hds hlt
     go_enter Tryz.func209,Tryz.ntmps209
     go_wp2_with (first
      | (go_at_call 180;refine (X2 va _ a b _ haN hbN (by have:=HLA.out;omega) (by have:=HLB.out;omega)).mono ?_;rintro e w' ⟨rfl,n,rfl⟩)
      | (go_at_call 199;refine (hdw _ (y6.below haN (zl (Below.refl _ _) _))).mono ?_;rintro e w1 ⟨v,rfl,hv,hbl⟩))
     refine (Zr _ _ _ _ _ _ (zg2 w1 221 r) (XE hrl) (Nat.le_refl _) (by unfold maxLen;omega)).mono ?_;rintro e w' ⟨v2,rfl,hv2,rfl⟩;go_wp2_with fail;go_ret2;rw [ZH] at hv2;exact ⟨v,v2,rfl,y6.below hv ((Below.refl _ _).alloc (Nat.le_refl _) _),hv2.below (Below.refl _ _) (by simp),((zl (Below.refl _ _) _).trans hbl).alloc (by have:=hbl.size;simpa using this) _⟩
   . have hq:((db.length:Int) == 1)=false:=by rw [beq_eq_false_iff_ne];omega
     have hcmp:=ze (X2 va (.slice (some adb) db.length cb) a b w haN hbN (by omega) (by omega));obtain ⟨la,hla'⟩:∃ la,la=len 4294967296 a:=⟨_,rfl⟩;have hal:=xH (β:=4294967296) (by omega) a;have hlen:=xS (β:=4294967296) (m:=b) (n:=a) (by omega) (by omega);rw [<- hla'] at hla HLA hal hlen;rw [<- hlb1] at hlen;have hi:((db.length:Int) - 1).toNat=db.length - 1:=by omega
     have HQ:Hid (∀ n,n<32->2147483648<=db[db.length - 1]*2 ^ n->db[db.length - 1]*2 ^ n<4294967296->∀ dv,yJ 4294967296 dv->val 4294967296 dv=b*2 ^ n->
      dv.length=db.length/\2147483648*4294967296 ^ (db.length - 1)<=val 4294967296 dv/\2147483648<=dv.getD (db.length - 1) 0):=by
      intro n hn h1 h2 dv hdv hv;exact zcy k4 hne hvb hdv hv (by rw [zu hm1];exact h1) (by rw [zu hm1];exact h2)
     have hsha:∀ W n,y6 W va a->n<32->Calls Tryz.prog 233 #[va,.int .u64 (n:Nat)] W (zf9 W (la+1) (a*2 ^ n)):=by
      intro W n hW hn;rw [hla'];exact zap va a n W hW (by omega) hn
     have hshb:∀ W n,y6 W (.slice (some adb) db.length cb) b->n<32->Calls Tryz.prog 233 #[.slice (some adb) db.length cb,.int .u64 (n:Nat)] W (zf9 W (db.length+1) (b*2 ^ n)):=by
      intro W n hW hn;rw [hlb1];rw [hlb1] at hW;exact zap _ b n W hW (by omega) hn
     have hdp:0<db[db.length - 1]:=by omega
     have hlam:la<=33554432:=HLA.out;have hlbm:db.length<=33554432:=by omega
     have HLT:=ze hlt;have HAL:=ze hal;have HONE:=ze hone;clear hla' hvb hlb1 hla hlb hlt hal hone hdl k2
     go_enter Tryz.func209,Tryz.ntmps209
     go_upto_region 8 with (first
      | (go_at_call 180;refine (zI hcmp).mono ?_;rintro e w' ⟨rfl,n0,rfl⟩)
      | (go_at_call 232;refine (zjc _ hdp hds _).mono ?_;rintro e w' ⟨n,hn,hn1,hn2,rfl,rfl⟩;have HN1:=ze hn1;have HN2:=ze hn2;clear hn1 hn2)
      | (go_at_call_of 233 va;refine (hsha _ n (y6.below haN (zl (Below.refl _ _) _)) hn).mono ?_;rintro e w1 ⟨U,rfl,hlU,hsU,hvU,hblkU,hbl1⟩;have HVU:=ze hvU;clear hvU)
      | (go_at_call_of 233 (Value.slice (some adb) db.length cb);refine (hshb _ n (y6.below hbN ((zl (Below.refl _ _) _).trans hbl1)) hn).mono ?_;rintro e w2 ⟨Vf,rfl,hlV,hsV,hvV,hblkV,hbl2⟩;have HVV:=ze hvV;clear hvV)
      | (go_at_call 174;refine (zb7 _ _ _ Vf _ _ (by have:=ve hblkV;rwa [hlV] at this) hsV (Nat.le_refl _) (by unfold maxLen;omega)).mono ?_;rintro e w' ⟨k,hk,rfl,hcan,hv,rfl⟩;have HC:=ze hcan;have HV:=ze hv;clear hcan hv))
     have hkl:(Vf.take k).length=k:=by rw [List.length_take];omega
     obtain ⟨q1,q2,q3⟩:=HQ.out n hn HN1.out HN2.out (Vf.take k) HC.out (HV.out.trans HVV.out);have hkm:k=db.length:=by omega
     subst hkm;obtain ⟨dv,hdv⟩:∃ dv,dv=Vf.take db.length:=⟨_,rfl⟩
     have hrv:zY w2 w2.heap.size 1 (some ⟨w1.heap.size,0,none⟩) db.length (YE dv):=by
      have h1:=ve hblkV;rw [hlV] at h1;have h2:=h1.head (k:=db.length) (by omega);rw [Nat.mul_one,zan, <- hdv] at h2;exact h2
     have hsv:zD 4294967296 dv:=by rw [hdv];exact hsV.take _
     have hvv:val 4294967296 dv=b*2 ^ n:=by rw [hdv];exact HV.out.trans HVV.out
     rw [<- hdv] at q1 q2 q3;have hgl:w.heap.size<w1.heap.size:=hblkU.lt;have hgl2:w1.heap.size<w2.heap.size:=hblkV.lt;have hblkU2:Blk w2 w.heap.size 221 (yv U):=hblkU.below hbl2 hgl;have hbw:Below w.heap.size w w2:=((zl (Below.refl _ _) n0).trans hbl1).trans (hbl2.mono hbl1.size);have hst:=zio (b:=b) hn HAL.out HVU.out hlU hlen hpos q2;have hmk:=fun W=>zay .i64 (la+1 - db.length) (by omega) W
     rw [show ((la+1 - db.length:Nat):Int)=(la:Int)+1 - db.length by omega] at hmk;have HVD:=ze hvv;have HST:=ze hst;have hm2:2<=db.length:=by have:=HONE.out;omega
     have HBW:=ze hbw;clear hvv hst hbw HQ HC HV HVV hdv hsV hlV hkl hk hblkV hblkU hbl1 hbl2 q2 hcell hi hrb k1;go_wp2_with fail
     go_loopw [13] (zs3 w w.heap.size w2.heap.size db.length (la+1 - db.length) cb (a*2 ^ n) (val 4294967296 dv) (some ⟨w1.heap.size,0,none⟩) dv) (fun iv _=>(intOf iv+1).toNat)
     case atStart=>
      refine ⟨la+1 - db.length,U,List.replicate (la+1 - db.length) 0,Nat.le_refl _,congrArg _ (by omega),by omega,by simp,hsU,zD.replicate (by omega) _,?_,HST.out,hblkU2.alloc _,Blk.new _ _ _,?_,HBW.out.alloc (by have:=HBW.out.size;omega) _⟩
      . show _=_
        rw [List.drop_of_length_le (by simp),vk,Nat.mul_zero,Nat.zero_mul,Nat.add_zero];exact HVU.out.symm
      . exact (hrv.alloc (Nat.le_refl _) _).more (by simp)
     case round=>
      clear HVU hsU hlU HST hblkU2 hrv;obtain ⟨k,U,Q,hk,rfl,hlU,hlQ,hsU,hsQ,HU,HL,hblkU,hblkQ,hrv,hbw⟩:=hrel;have hg1:=hblkU.lt;have hg2:=hblkQ.lt
      by_cases hk0:0<k
      . obtain ⟨e0,hlw,hz,hw,hwlt⟩:=zmf (V:=val 4294967296 dv) (k:=k - 1) rfl q1 hsv hsU (by omega) (by rw [show k - 1+1=k by omega];exact HL.out)
        have hwin:YF wr w.heap.size (U.take (k - 1)) ((U.drop (k - 1)).take (db.length+1)) (U.drop (k - 1+db.length+1)):=by
         unfold YF;rw [<- e0];exact hblkU
        have hvp:0<val 4294967296 dv:=by
         rcases Nat.eq_zero_or_pos (val 4294967296 dv) with e | e
         . rw [e] at hwlt;omega
         . exact e
        have hql:val 4294967296 ((U.drop (k - 1)).take (db.length+1)) / val 4294967296 dv<4294967296:=(Nat.div_lt_iff_lt_mul hvp).2 hwlt
        have hgs:=zky w.heap.size (k - 1) db.length (la+1 - (k - 1)) (db.length+1) _ _ _ dv _ wr (by rw [List.length_take];omega) hm2 (by omega) hlw q1 ((hsU.drop _).take _) hsv hwin hrv
         (by intro ad h;injection h with h;subst h;show w1.heap.size≠w.heap.size;omega) q3 hwlt (by omega) (by omega)
        obtain ⟨q,hq⟩:∃ q,q=val 4294967296 ((U.drop (k - 1)).take (db.length+1)) / val 4294967296 dv:=⟨_,rfl⟩;rw [<- hq] at hql hgs;have HGS:=ze hgs;have HE0:=ze e0;have HZW:=ze (And.intro hz hw);have HQ:=ze hq;have hkQ:k - 1<Q.length:=by omega
        have hi' :((k:Int) - 1).toNat=k - 1:=by omega
        clear hgs e0 hz hw hq hwin hlw hwlt hvp;go_wp2_with fail;rw [show k - 1+db.length+1 - (k - 1)=db.length+1 by omega];refine (zI HGS).mono ?_;rintro e w3 ⟨O,rfl,hlO,hsO,hvO,hwO,hgr⟩;have hbQ3:Blk w3 w2.heap.size 221 (yv Q):=hblkQ.grown hgr (by simp;omega);have hcq:=(hbQ3.cell (k - 1)).trans (xm hkQ);have hfq:=hbQ3.frozen (k - 1);have HVO:=ze hvO;have HLO:=ze hlO;have HGR:=ze hgr;clear hvO hlO hgr;go_wp2_with fail;go_roundw
        case rel=>
         have hlOO:O.length=db.length+1:=by rw [HLO.out,List.length_take,List.length_drop];omega
         have hdm:=(Nat.div_add_mod (val 4294967296 ((U.drop (k - 1)).take (db.length+1))) (val 4294967296 dv)).symm;rw [<- HQ.out] at hdm;obtain ⟨h1,h2⟩:=zoo (u0:=a*2 ^ n) (q:=q) hkQ HE0.out (by omega) HZW.out.1 HZW.out.2 hlOO HVO.out hdm (by rw [show k - 1+1=k by omega];exact HU.out);refine ⟨k - 1,U.take (k - 1) ++ O ++ U.drop (k - 1+db.length+1),Q.set (k - 1) q,by omega,congrArg _ (by omega),?_,by simpa using hlQ,((hsU.take _).append hsO).append (hsU.drop _),hsQ.set _ _ hql,h1,?_,?_,?_,?_,?_⟩
         . simp only [List.length_append,List.length_take,List.length_drop];omega
         . show _<_
           rw [h2]
           exact Nat.mod_lt _ (by
            rcases Nat.eq_zero_or_pos (val 4294967296 dv) with e | e
            . have:=HL.out;omega
            . exact e)
         . exact Blk.far hwO (by show w.heap.size≠w2.heap.size;omega) _
         . have:=hbQ3.set_ (k - 1) (.int .u32 (q:Int))
           rwa [yK] at this
         . refine zY.more (B:=wr.heap.size) ?_ (by rw [World.setCell];simpa using HGR.out.size)
           refine zY.apart hrv ?_;intro p hp;have hp' :p.block=w1.heap.size:=hp;rw [World.cell?_setCell_other _ _ _ _ (by intro e;subst e;simp at hp';omega)];exact Vg HGR.out (by omega) (by omega)
         . exact (hbw.grown HGR.out hbw.size (by intro k hk;injection hk with hk;omega)).setCell (by show w.heap.size<=w2.heap.size;omega) _
        case measure=>simp [intOf];omega
      . obtain rfl:k=0:=by omega
        have hrq:=ve hblkQ;rw [hlQ] at hrq;have hru:=ve hblkU;rw [hlU,show la+1 - db.length+db.length=la+1 by omega] at hru
        have hfin:=zna (a:=a) (b:=b) (Nat.two_pow_pos n) (by
         have h:=HU.out;rw [Nat.pow_zero,Nat.one_mul,List.drop_zero,HVD.out] at h
         exact h) (by have h:=HL.out;rwa [List.drop_zero,HVD.out] at h)
        have HF:=ze hfin;clear hfin
        go_wp2_with (first
         | (go_at_call 174;refine (Zr _ _ _ _ _ _ hrq hsQ (Nat.le_refl _) (by unfold maxLen;omega)).mono ?_;rintro e w' ⟨v1,rfl,hv1,rfl⟩)
         | (go_at_call 235;refine (znw _ _ _ n U _ hru hsU (by omega) hn).mono ?_;rintro e w4 ⟨v2,rfl,hv2,hbl4⟩))
        go_ret2;refine ⟨v1,v2,rfl,?_,?_,hbw.trans (hbl4.mono hbw.size)⟩
        . rw [<- HF.out.1];exact y6.below hv1 hbl4
        . rw [<- HF.out.2];exact hv2
theorem Vb.inj {w:World} {B:Nat} {v:Value} {m n:Nat} (h:Vb w B v m) (k:Vb w B v n):m=n:=by
 obtain ⟨A,c,ds,rfl,h1,h2,h3,h4,rfl⟩:=h
 obtain ⟨A',c',ds',e,k1,k2,k3,k4,rfl⟩:=k
 injection e with e1 e2 e3
 subst e1
 have:YE ds=YE ds' :=by
  apply List.ext_getElem?
  intro i
  rcases Nat.lt_or_ge i ds.length with hi | hi
  . obtain ⟨ad,u,ea,_,hx,hc⟩:=h3.at_ hi
    obtain ⟨ad',u',ea',_,hx',hc'⟩:=k3.at_ (k:=i) (by omega);rw [ea] at ea';injection ea' with ea'
    subst ea';rw [hc] at hc';injection hc' with hc'
    subst hc';rw [hx,hx']
  . rw [List.getElem?_eq_none (by rw [vm];omega),List.getElem?_eq_none (by rw [vm];omega)]
 have hd:ds=ds' :=by
  apply List.ext_getElem e2
  intro i h1 h2
  have:=congrArg (fun l=>l[i]?) this
  simp only [yQ h1,yQ h2] at this
  injection this with this
  injection this with _ this
  omega
 rw [hd]
open Classical in
noncomputable def zb2 (w:World) (v:Value):Nat:=if h:∃ n,y6 w v n then h.choose else 0
theorem YI {w:World} {v:Value} {n:Nat} (h:y6 w v n):zb2 w v=n:=by
 unfold zb2
 have hex:∃ n,y6 w v n:=⟨n,h⟩
 rw [dif_pos hex]
 exact Vb.inj hex.choose_spec h
def GcdR (w:World) (G:Nat) (v0 v1:Value) (wr:World):Prop:=
 ∃ x y:Nat,y6 wr v0 x/\y6 wr v1 y/\Hid (Nat.gcd x y=G)/\Hid (len 4294967296 x<=33554432)/\Hid (len 4294967296 y<=33554432)/\Below w.heap.size w wr
theorem zlz (va vb:Value) (a b:Nat) (w:World) (ha:y6 w va a) (hb:y6 w vb b) (hla:len 4294967296 a<=33554432) (hlb:len 4294967296 b<=33554432):
 Calls Tryz.prog 176 #[va,vb] w (XL w (Nat.gcd a b)):=by
 have HLA:=ze hla
 have HLB:=ze hlb
 clear hla hlb
 go_enter Tryz.func176,Tryz.ntmps176
 go_wp2
 go_loopw [0,1] (GcdR w (Nat.gcd a b)) (fun _ v1 wr=>zb2 wr v1)
 case atStart=>exact ⟨a,b,ha,hb,rfl,HLA,HLB,Below.refl _ _⟩
 case round=>
  obtain ⟨x,y,hx,hy,HG,HLX,HLY,hbl⟩:=hrel
  have hyv:=YI hy
  have hyN:=hy
  obtain ⟨B,cb,db,rfl,k1,k2,hrb,k4,hvb⟩:=hy
  have HYV:=ze hyv
  have HVB:=ze hvb
  have hl1:=k4.length_eq (β:=4294967296) (by omega)
  rw [hvb] at hl1
  have hdm:db.length<=33554432:=by rw [hl1];exact HLY.out
  clear hyv hvb hl1 k2
  by_cases hz:db.length=0
  . have hd:db=[]:=List.eq_nil_of_length_eq_zero hz
    have hy0:y=0:=by have:=HVB.out;rw [hd,vk] at this;omega
    have hg:x=Nat.gcd a b:=by have:=HG.out;rw [hy0,Nat.gcd_zero_right] at this;exact this
    have HGG:=ze hg;have hzI:¬ (0:Int)<(db.length:Int):=by omega
    clear hd hy0 hg hz;go_wp2;go_ret;exact ⟨_,rfl,by rw [<- HGG.out];exact hx,hbl⟩
  . have hpos:0<db.length:=by omega
    have hyp:0<y:=by
     rcases Nat.eq_zero_or_pos y with e | e
     . exfalso
       have h:=HVB.out;rw [e] at h;have:=(k4.zero_iff (by omega)).1 h;rw [this] at hpos;simp at hpos
     . exact e
    have HZ:=ze hz;have hdv:=ze (zgk _ (.slice B db.length cb) x y wr hx hyN hyp HLX.out HLY.out);clear hz;go_wp2_with (go_at_call 209;refine (zI hdv).mono ?_;rintro e w1 ⟨v1,v2,rfl,hv1,hv2,hbl1⟩);go_roundw
    case rel=>
     refine ⟨y,x % y,y6.below hyN hbl1,hv2,?_,HLY,?_,hbl.trans (hbl1.mono hbl.size)⟩
     . show _=_
       rw [<- HG.out,Nat.gcd_comm x y,Nat.gcd_rec y x,Nat.gcd_comm]
     . exact Nat.le_trans (xS (by omega) (Nat.le_of_lt (Nat.mod_lt _ hyp))) HLY.out
    case measure=>
     show zb2 w1 v2<zb2 wr (.slice B db.length cb)
     rw [YI hv2,HYV.out];exact Nat.mod_lt _ hyp
end Go.Proofs.YtkmcmmcencdcpaaGreatDoor
