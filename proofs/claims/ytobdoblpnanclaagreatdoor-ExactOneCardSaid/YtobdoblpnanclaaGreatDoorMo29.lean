/- Parts of the proof. -/
import Derived.Test.YtobdoblpnanclaaGreatDoorMo24
import Derived.Test.YtobdoblpnanclaaGreatDoorMo28
set_option linter.all false
namespace Go.Proofs.YtobdoblpnanclaaGreatDoor
open Proofs.Tryz Go.RowKit Go.Deep
attribute [local go_sem ↓] Go.wp_at_zero Go.wp_at_succ
def znj (l:List UInt8):List (List UInt8):=spl 10 (l.count 10) l
theorem zsc:(prog.info? 31).map (fun i=>(i.zero,i.size,i.bytes))=some (some (.agg #[.slice none 0 0,.string ⟨#[]⟩]),2,40):=by kernel_rfl
theorem Tryz.underlying22:prog.underlying 22=some (.slice 31):=by kernel_rfl
structure zsz (text:List UInt8) (ls:List (List UInt8)) (rows:List zS):Prop where
 lines:znj text=ls ++ [[]]
 len:ls.length=rows.length
 ok:∀ i,i<rows.length->zse (ls.getD i []) (rows.getD i default)
 small:text.length<=65536
 m0:0<rows.length
 mm:rows.length<=800
def zjz (w:World) (base:Nat) (rows:List zS) (v:Value) (i:Nat) (H:Nat->Value):Prop:=
 vE w base 31 2 v i (vC i H (YH rows))/\∀ j,j<i->zh w w.heap.size (H j) (rows.getD j default).terms/\TyT w (H j)
theorem zjz.chg {S:Nat->Prop} {w w' :World} {base:Nat} {rows:List zS} {v:Value} {i:Nat} {H:Nat->Value} (h:zjz w base rows v i H) (hc:Chg S w w') (h1:∀ g,v.ownBlock=some g->¬ S g) (hS:∀ x,S x->(∀ cs,w.heap[x]?≠some (.cells cs 44 (0,0)))):zjz w' base rows v i H:=
 ⟨h.1.chg hc h1,fun j hj=>⟨((h.2 j hj).1.off (h.2 j hj).2 hc hS).more hc.size,(h.2 j hj).2.chg hc hS⟩⟩
theorem zsb {w:World} {base m:Nat} {rows:List zS} {v:Value} {H:Nat->Value} (h:zjz w base rows v m H) (hm:m=rows.length) (u:0<rows.length) (hb:m<=800) (ht:∀ j,j<rows.length->yc (rows.getD j default).bound):Zi w v rows:=by
 subst hm
 rcases h.1.1.2 with ⟨_,u⟩ | ⟨g,r,y,e,_,D,z,l,C,B⟩
 . omega
 . subst e
   refine ⟨some ⟨g,0,none⟩,r,H,rfl,by omega,l,by omega,ys.of_own h.1.1,fun j b=>(h.2 j b).1,fun x hx=>?_⟩;obtain ⟨j,b,ex⟩:=List.mem_iff_getElem.1 hx;have:=ht j b;rw [<- ex]
   simpa [List.getD,List.getElem?_eq_getElem b] using this
def PrsR (w0:World) (b gw:Nat) (ws:List (List UInt8)) (rows:List zS) (iv rv:Value) (wr:World):Prop:=
 ∃ (i:Nat) (v:Value) (H:Nat->Value),i<=rows.length/\iv= .int .i64 i/\rv=v/\Hid (zjz wr w0.heap.size rows v i H)/\Hid (zu wr b)/\Hid (Blk wr gw 9 (ws.map str).toArray)/\Hid (Chg (· =b) w0 wr)
theorem zu.ne' {w:World} {b x:Nat} {cs:Array Value} {t:TypeId} {fr:Nat×Nat} (h:zu w b) (k:w.heap[x]?=some (.cells cs t fr)):x≠b:=by
 intro e
 subst e
 obtain ⟨D,⟨j,c,hb,_⟩,_⟩:=h
 rw [k] at hb;cases hb
theorem zta {w:World} {g:Nat} {t:TypeId} {a b:Value} (h:Blk w g t #[a,b]):∀ (j:Nat) (u:Value),[a,b][j]?=some u->w.cell? ((⟨g,0,none⟩:Addr).add j)=some u:=by
 intro j u hu
 have e:((⟨g,0,none⟩:Addr).add j)=⟨g,j,none⟩:=by
  unfold Addr.add
  by_cases h:j=0
  . subst h;rfl
  simp [h]
 rw [e,h.cell j, <- hu]
 simp
theorem zg9 {w:World} {b:Nat} (h:zu w b):∀ x,x=b->(∀ cs,w.heap[x]?≠some (.cells cs 44 (0,0))):=fun x e cs h1=>h.ne' h1 e
def zwf (rows:List zS) (w:World) (e:Ending) (w' :World):Prop:=
 ∃ A c,e= .returned (.tuple #[.slice A rows.length c,.int .i64 0,.int .i64 0])/\Zi w' (.slice A rows.length c) rows/\Below w.heap.size w w'
set_option maxRecDepth 100000 in
set_option maxHeartbeats 8000000 in
theorem zi3 (text:List UInt8) (ls:List (List UInt8)) (rows:List zS) (s:List UInt8) (w:World) (hok:zsz text ls rows) (G:zcm rows s):
 Calls prog 12 #[str text] w (zwf rows w):=by
 obtain ⟨m,S⟩:=uQ rows.length
 obtain ⟨N,hN⟩:=uQ (m+1)
 have U:bts ⟨text.toArray⟩=text:=yG text
 have M:=fun w=>zgc ⟨text.toArray⟩ 10 w (by rw [<- zt,U];have:=hok.small;omega)
 rw [U] at M
 change ∀ w,Calls _ _ _ w (zk7 w (znj text)) at M
 rw [hok.lines] at M
 have ad:(ls ++ [[]]).length=N:=by rw [List.length_append,hok.len,hN,S];rfl
 have az:=hok.small
 have aN:=hok.mm
 rw [<- S] at aN
 have d1:decide (((⟨text.toArray⟩:ByteArray).size:Int)>65536)=false:=by
  rw [decide_eq_false_iff_not, <- zt,U];omega
 have d2:decide ((text.length:Int)>65536)=false:=by rw [decide_eq_false_iff_not];omega
 obtain ⟨K,H1,ae,aE,Q,HN⟩:=hz6 hok G M ad S hN
 have aC:=@run_makeMap prog
 have e1:IntKind.i64.wrap ((N:Int) - 1)=(m:Int):=by rw [IntKind.wrap_i64];omega
 have e2:(m:Int)<(N:Int):=by omega
 have e3:(m:Int)<=(N:Int):=by omega
 clear hok G M ad S hN U az
 go_in
 go_wp2_with fail
 refine (ae.o _).mono ?_
 rintro e B ⟨Y,rfl,aq,aR,av⟩
 rw [aE.o]
 clear ae d1 d2
 have C:=ze aq
 have aI:=ze av
 clear aq av
 have p1:B.cell? ⟨Y,m,none⟩=some (str []):=by
  rw [C.o.cell]
  have G:ls.length=m:=by rw [K.o.len,Q.o]
  simp [<- G]
 have e4:IntKind.i64.wrap (m:Int)=(m:Int):=by rw [IntKind.wrap_i64];omega
 go_upto_region 6 with fail
 clear p1 e1 e2 e3 e4
 have R:=zf B (.map #[] 0)
 have z:=ze (zu.new B)
 have D:Hid (Chg (· =B.heap.size) B (B.alloc (.map #[] 0))):=Chg.of_below R
 replace C:=kb_ C R
 clear R
 go_upto_region 7 with fail
 clear aC
 have y:Hid (zjz (B.alloc (.map #[] 0)) B.heap.size rows (.slice none 0 0) 0 (fun _=>undef)):=⟨Zr _ _ _ _,fun j hj=>by omega⟩
 generalize B.alloc (.map #[] 0)=W2 at z D C y |-
 obtain ⟨b,hb⟩:=uQ B.heap.size
 rw [<- hb] at z D |-
 have aH:=ze hb
 clear hb
 go_wp2
 go_loopw [32,2] (PrsR B b Y (ls ++ [[]]) rows) (fun iv _ _=>m - (intOf iv).toNat)
 case atStart=>exact ⟨0,_,_,uB,rfl,rfl,y,z,C,D⟩
 case round=>
  clear y z C D
  obtain ⟨i,v,H,hi,rfl,rfl,y,z,C,D⟩:=hrel
  by_cases aF:i<m
  rotate_left
  . obtain rfl:m=i:=by have:=Q.o;omega
    have T:=zsb y.o Q.o K.o.m0 (by omega) (fun j hj=>(K.o.ok j hj).tinyb);obtain ⟨A,c,H2,ev,_⟩:=id T;subst ev;have ah:=zmd b A rows.length c rows s wr z.o T H1.o;have ac:=ze ah;have aD:=ze T;clear ah T y;go_wp2_with fail;refine ac.o.mono ?_;rintro e w2 ⟨rfl,O,F⟩;have aB:=ze (z.o.keepRows F aD.o);replace D:=ze (yp D.o F);clear O ac;go_wp2;go_ret3;exact ⟨A,c,rfl,aB.o.more F.size,ext aI.o (D.o.below (uA) (fun x e=>by have:=aH.o;omega))⟩
  have aT:(i:Int)<(m:Int):=by omega
  have ab:i<rows.length:=by rw [<- Q.o];exact aF
  have Z:=K.o.ok i ab;obtain ⟨l,hl⟩:=uQ (ls.getD i []);obtain ⟨r,hr⟩:=uQ (rows.getD i default)
  have p1:wr.cell? ⟨Y,i,none⟩=some (str l):=by
   have G:i<ls.length:=by rw [K.o.len];exact ab
   rw [C.o.cell,hl,List.getElem?_toArray,List.map_append,List.getElem?_append_left (by rw [List.length_map];exact G),List.getElem?_map]
   simp [List.getD,List.getElem?_eq_getElem G]
  rw [<- hl, <- hr] at Z;have am:=zmo b l r wr z.o Z;have al:=ze am;have HR:=ze hr;clear Z hl hr am;go_wp2_with fail;refine al.o.mono ?_;rintro e w4 ⟨g,J,I,cs,rfl,X,aJ,ao,ag,O,F⟩;subst aJ;have ar:=y.o.chg F (fun c hc e=>by obtain ⟨cs,q⟩:=y.o.1.heap hc;exact z.o.ne' q e) (zg9 z.o);replace C:=ze (z.o.keepBlk F C.o);replace D:=ze (yp D.o F);replace z:=ze O;replace y:=ze ar;obtain ⟨aM,an,aa⟩:=hz3 X ao ag;have ak:=zta X;have af:=Vm (a:=.slice J r.terms.length I) (b:=str r.bound) (p:=fun u=>u.oneCell' =true) rfl rfl;have aj:=Vm (a:=.slice J r.terms.length I) (b:=str r.bound) (p:=ZP) (yf _ _ _) (vY _)
  have ai:∀ u∈(Value.agg #[.slice none 0 0,.string ⟨#[]⟩]).cells,ZP u:=by
   intro u hu;simp [Value.cells] at hu;rcases hu with rfl | rfl
   . exact yf _ _ _
   . exact vY _
  obtain ⟨i1,aL,aA,aP,aG⟩:=info_parts zsc;clear O F ar X ao ag p1 al;go_wp2_with (at_builtin;go_must (refine yk (P:=prog) rfl (.tmp 47) (.tmp 48) _ rfl B.heap.size 31 i1 _ 2 40 underlying22 aL aA aP aG rfl (by omega) _ i _ rfl y.o.1 ⟨g,0,none⟩ 1 1 [.slice J r.terms.length I,str r.bound] rfl rfl (by omega) ak af aj ai ?o4 ?o5 ?o6 ?_))
  case o4=>unfold maxLen;omega
  case o5=>omega
  case o6=>exact D.o.size
  intro v3 w6 V au aO;obtain ⟨g3,ay,ev,_,_⟩:=V.1.form (by omega);subst ev;have E:=vI au;have ap:=fun c hc=>(y.o.1.1.lt c hc).1
  have hD:=fun x e=>y.o.1.2 x e
  have L:∀ x,Value.ownBlock _=some x->(∀ cs,w4.heap[x]?≠some (.cells cs 44 (0,0))):=fun x e cs q=>by
   obtain ⟨aS,q2⟩:=y.o.1.heap e;rw [q2] at q;injection q with q
   injection q with _ q _
   exact absurd q (by decide)
  have aK:Hid (zu w6 b):=z.o.chg E (fun e=>by
   obtain ⟨cs,q⟩:=y.o.1.heap e
   exact z.o.ne' q rfl) hD
  have aQ:=ze (E.blk C.o (fun e=>by
   obtain ⟨cs,q⟩:=y.o.1.heap e
   exact xp C.o q (by decide) rfl))
  have aw:Hid (Chg (· =b) B w6):=D.o.trans E (fun x R e=>by have:=ap _ e;omega)
  have ax:Hid (zjz w6 B.heap.size rows (.slice (some ⟨g3,0,none⟩) (i+1) ay) (i+1) (fun j=>if j=i then .slice J r.terms.length I else H j)):=by
   refine ⟨?_,fun j hj=>?_⟩
   rotate_left
   . by_cases ej:j=i
     . subst ej
       simp only [if_pos];rw [<- HR.o];exact ⟨(an.o.off aa.o E L).more E.size,aa.o.chg E L⟩
     simp only [if_neg ej]
     exact ⟨((y.o.2 j (by omega)).1.off (y.o.2 j (by omega)).2 E L).more E.size,(y.o.2 j (by omega)).2.chg E L⟩
   have e:vC i H (YH rows) ++ [.slice J r.terms.length I,str r.bound]=vC (i+1) (fun j=>if j=i then .slice J r.terms.length I else H j) (YH rows):=by
    rw [Zl]
    congr 1
    . exact zaz (fun k hk=>⟨by rw [if_neg (by omega)],rfl⟩)
    rw [if_pos rfl]
    unfold YH;rw [<- HR.o]
   rw [e] at V;exact V
  clear V au aO E ap hD L z C D y aM an aa ak af aj ai;go_wp2;go_roundw
  case rel=>exact ⟨i+1,_,_,by omega,by go_num,rfl,ax,aK,aQ,aw⟩
  case measure=>simp [intOf];omega
theorem XM:dec 1=[49]:=by simp [dec,digs];rfl
theorem znc:dec 2=[50]:=by simp [dec,digs];rfl
theorem zp1:dec 3=[51]:=by simp [dec,digs];rfl
theorem zvr:dec 5=[53]:=by simp [dec,digs];rfl
theorem zu4:dec 6=[54]:=by simp [dec,digs];rfl
theorem rd {l:List UInt8} {q:Rat} (h:ya q=l) (h1:(dec q.num.natAbs).length<=50000) (h2:(dec q.den).length<=50000):zj l=some q:=by rw [<- h];exact ZB ⟨h1,h2⟩
theorem rd0:zj [48]=some 0:=rd (by show (if (0:Int)<0 then [45] else []) ++ dec 0 ++ (if (1:Nat)=1 then [] else _)=_;rw [v8];rfl) (by show (dec 0).length<=_;rw [v8];decide) (by show (dec 1).length<=_;rw [XM];decide)
theorem rd1:zj [49]=some 1:=rd (by show (if (1:Int)<0 then [45] else []) ++ dec 1 ++ (if (1:Nat)=1 then [] else _)=_;rw [XM];rfl) (by show (dec 1).length<=_;rw [XM];decide) (by show (dec 1).length<=_;rw [XM];decide)
theorem rd2:zj [50]=some 2:=rd (by show (if (2:Int)<0 then [45] else []) ++ dec 2 ++ (if (1:Nat)=1 then [] else _)=_;rw [znc];rfl) (by show (dec 2).length<=_;rw [znc];decide) (by show (dec 1).length<=_;rw [XM];decide)
theorem rd3:zj [51]=some 3:=rd (by show (if (3:Int)<0 then [45] else []) ++ dec 3 ++ (if (1:Nat)=1 then [] else _)=_;rw [zp1];rfl) (by show (dec 3).length<=_;rw [zp1];decide) (by show (dec 1).length<=_;rw [XM];decide)
theorem rdm:zj [45,49]=some (-1):=rd (by show (if (-1:Int)<0 then [45] else []) ++ dec 1 ++ (if (1:Nat)=1 then [] else _)=_;rw [XM];rfl) (by show (dec 1).length<=_;rw [XM];decide) (by show (dec 1).length<=_;rw [XM];decide)
theorem zw2:ya 6=[54]:=by show (if (6:Int)<0 then [45] else []) ++ dec 6 ++ (if (1:Nat)=1 then [] else _)=_;rw [zu4];rfl
def qh:Rat:=mkRat 1 2
def qt:Rat:=mkRat 1 3
theorem rdh:zj [49,47,50]=some qh:=rd (by show (if (1:Int)<0 then [45] else []) ++ dec 1 ++ (if (2:Nat)=1 then [] else 47 :: dec 2)=_;rw [XM,znc];rfl) (by show (dec 1).length<=_;rw [XM];decide) (by show (dec 2).length<=_;rw [znc];decide)
theorem rdt:zj [49,47,51]=some qt:=rd (by show (if (1:Int)<0 then [45] else []) ++ dec 1 ++ (if (3:Nat)=1 then [] else 47 :: dec 3)=_;rw [XM,zp1];rfl) (by show (dec 1).length<=_;rw [XM];decide) (by show (dec 3).length<=_;rw [zp1];decide)
theorem zwm:op2 (· + ·) [49,47,50] [49,47,51]=([53,47,54],0):=by
 unfold op2
 rw [rdh,rdt]
 have e:qh+qt=mkRat 5 6:=by decide+kernel
 show Vl (qh+qt)=_
 rw [e]
 unfold Vl
 rw [if_pos (by
  show (dec 5).length<=_/\(dec 6).length<=_
  rw [zvr,zu4]
  decide)]
 show ((if (5:Int)<0 then [45] else []) ++ dec 5 ++ (if (6:Nat)=1 then [] else 47 :: dec 6),(0:Int))=_
 rw [zvr,zu4]
 rfl
def zs9:List UInt8:=[49,32,120,32,60,61,32,51,10,45,49,32,120,32,60,61,32,48,10]
def zmt:List (List UInt8):=[[49,32,120,32,60,61,32,51],[45,49,32,120,32,60,61,32,48]]
def Yv:List zS:=[⟨[⟨[120],[49]⟩],[51]⟩,⟨[⟨[120],[45,49]⟩],[48]⟩]
def XS:List zr:=[⟨[120],[50]⟩]
theorem VA {q:Rat} (h1:dec q.num.natAbs=[49]\/dec q.num.natAbs=[48]\/dec q.num.natAbs=[50]\/dec q.num.natAbs=[51]) (h2:q.den=1):yz 12 q:=by
 refine ⟨?_,by rw [h2,XM];decide⟩
 rcases h1 with h | h | h | h<;>(rw [h];decide)
theorem one {p:Nat->Prop} (h:p 0):∀ i,i<1->p i:=by
 intro i hi
 have e:i=0:=by omega
 subst e
 exact h
theorem zt5:zsz zs9 zmt Yv:=by
 refine ⟨by decide,rfl,fun i hi=>?_,by decide,by decide,by decide⟩
 have hi:i<2:=hi
 rcases (show i=0\/i=1 by omega) with rfl | rfl
 . exact ⟨by decide,by decide,one (by decide),one (by decide),by decide,by decide,one (by show (zj [49]).isSome=true;rw [rd1];rfl),by show (zj [51]).isSome=true;rw [rd3];rfl,by decide,
    fun x hx=>by obtain rfl:=List.mem_singleton.1 hx;exact ⟨by unfold yc;decide,by unfold yc;decide⟩,by unfold yc;decide⟩
 . exact ⟨by decide,by decide,one (by decide),one (by decide),by decide,by decide,one (by show (zj [45,49]).isSome=true;rw [rdm];rfl),by show (zj [48]).isSome=true;rw [rd0];rfl,by decide,
    fun x hx=>by obtain rfl:=List.mem_singleton.1 hx;exact ⟨by unfold yc;decide,by unfold yc;decide⟩,by unfold yc;decide⟩
theorem zgl {f:Nat->Int} (h:f 0=0):xt 1 f=0:=by
 apply yT.2
 intro k b
 have e:k=0:=by omega
 subst e
 exact h
theorem zii {l:List UInt8} {q:Rat} (h:zj l=some q) (h0:q≠0) (hs:yz 12 q):xZ l=0:=by unfold xZ;rw [h];simp only;rw [if_neg h0,if_pos hs]
theorem zk1 {l:List UInt8} {q:Rat} (h:zj l=some q) (hs:yz 12 q):xP l=0:=by unfold xP;rw [h];simp only;rw [if_pos hs]
theorem zmy {c:List UInt8} (h:xZ c=0):yh [⟨[120],c⟩]=0:=by
 unfold yh
 refine zgl ?_
 unfold vj
 show (if Ze [120]=false then _ else if xZ c≠0 then _ else yM [120] [120] (decide (0=0)))=0
 rw [if_neg (by decide),if_neg (by rw [h];decide)]
 rfl
theorem sh1:yz 12 1:=VA (.inl (by show dec 1=_;exact XM)) rfl
theorem shm:yz 12 (-1):=VA (.inl (by show dec 1=_;exact XM)) rfl
theorem sh0:yz 12 0:=VA (.inr (.inl (by show dec 0=_;exact v8))) rfl
theorem sh2:yz 12 2:=VA (.inr (.inr (.inl (by show dec 2=_;exact znc)))) rfl
theorem sh3:yz 12 3:=VA (.inr (.inr (.inr (by show dec 3=_;exact zp1)))) rfl
theorem zsy {c d:List UInt8} (h:xZ c=0) (k:xP d=0):xz ⟨[⟨[120],c⟩],d⟩=0:=by
 unfold xz
 rw [if_neg (by rw [zmy h];decide)]
 exact k
theorem zjl:zcm Yv [120]:=by
 refine ⟨fun r hr=>?_,by decide,fun r hr t ht=>?_,⟨_,uP ..,by decide⟩,by decide⟩
 . simp [Yv] at hr
   rcases hr with rfl | rfl
   . exact zsy (zii rd1 (by decide) sh1) (zk1 rd3 sh3)
   . exact zsy (zii rdm (by decide) shm) (zk1 rd0 sh0)
 simp [Yv] at hr
 rcases hr with rfl | rfl
 all_goals
  simp at ht;subst ht
  rfl
theorem zt6:ztw XS [120]:=⟨zmy (zii rd2 (by decide) sh2),fun t ht=>by simp [XS] at ht;subst ht;rfl⟩
end Go.Proofs.YtobdoblpnanclaaGreatDoor
