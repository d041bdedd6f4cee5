/- Parts of the proof. -/
import Derived.Test.YtnjljgidphemdaaGreatDoorMv24
import Derived.Test.YtnjljgidphemdaaGreatDoorMv29
set_option linter.all false
namespace Go.Proofs.YtnjljgidphemdaaGreatDoor
open Proofs.Tryz Go.RowKit Go.Deep
attribute [local go_sem ↓] Go.wp_at_zero Go.wp_at_succ
def zpu (l:List UInt8):List (List UInt8):=spl 10 (l.count 10) l
theorem zuk:(prog.info? 31).map (fun i=>(i.zero,i.size,i.bytes))=some (some (.agg #[.slice none 0 0,.string ⟨#[]⟩]),2,40):=by kernel_rfl
theorem Tryz.underlying22:prog.underlying 22=some (.slice 31):=by kernel_rfl
structure zu0 (text:List UInt8) (ls:List (List UInt8)) (rows:List zU):Prop where
 lines:zpu text=ls ++ [[]]
 len:ls.length=rows.length
 ok:∀ i,i<rows.length->zun (ls.getD i []) (rows.getD i default)
 small:text.length<=65536
 m0:0<rows.length
 mm:rows.length<=800
def zlq (w:World) (base:Nat) (rows:List zU) (v:Value) (i:Nat) (H:Nat->Value):Prop:=
 Zj w base 31 2 v i (v8 i H (Xv rows))/\∀ j,j<i->zh w w.heap.size (H j) (rows.getD j default).terms/\TyT w (H j)
theorem zlq.chg {S:Nat->Prop} {w w' :World} {base:Nat} {rows:List zU} {v:Value} {i:Nat} {H:Nat->Value} (h:zlq w base rows v i H) (hc:Chg S w w') (h1:∀ g,v.ownBlock=some g->¬ S g) (hS:∀ x,S x->(∀ cs,w.heap[x]?≠some (.cells cs 45 (0,0)))):zlq w' base rows v i H:=
 ⟨h.1.chg hc h1,fun j hj=>⟨((h.2 j hj).1.off (h.2 j hj).2 hc hS).more hc.size,(h.2 j hj).2.chg hc hS⟩⟩
theorem zuj {w:World} {base m:Nat} {rows:List zU} {v:Value} {H:Nat->Value} (h:zlq w base rows v m H) (hm:m=rows.length) (u:0<rows.length) (hb:m<=800) (ht:∀ j,j<rows.length->zS (rows.getD j default).bound):yS w v rows:=by
 subst hm
 rcases h.1.1.2 with ⟨_,u⟩ | ⟨g,r,y,e,_,D,z,l,C,B⟩
 . omega
 . subst e
   refine ⟨some ⟨g,0,none⟩,r,H,rfl,by omega,l,by omega,yc.of_own h.1.1,fun j b=>(h.2 j b).1,fun x hx=>?_⟩;obtain ⟨j,b,ex⟩:=List.mem_iff_getElem.1 hx;have:=ht j b;rw [<- ex]
   simpa [List.getD,List.getElem?_eq_getElem b] using this
def PrsR (w0:World) (b gw:Nat) (ws:List (List UInt8)) (rows:List zU) (iv rv:Value) (wr:World):Prop:=
 ∃ (i:Nat) (v:Value) (H:Nat->Value),i<=rows.length/\iv= .int .i64 i/\rv=v/\Hid (zlq wr w0.heap.size rows v i H)/\Hid (zv wr b)/\Hid (Blk wr gw 9 (ws.map str).toArray)/\Hid (Chg (· =b) w0 wr)
theorem zv.ne' {w:World} {b x:Nat} {cs:Array Value} {t:TypeId} {fr:Nat×Nat} (h:zv w b) (k:w.heap[x]?=some (.cells cs t fr)):x≠b:=by
 intro e
 subst e
 obtain ⟨D,⟨j,c,hb,_⟩,_⟩:=h
 rw [k] at hb;cases hb
theorem zvb {w:World} {g:Nat} {t:TypeId} {a b:Value} (h:Blk w g t #[a,b]):∀ (j:Nat) (u:Value),[a,b][j]?=some u->w.cell? ((⟨g,0,none⟩:Addr).add j)=some u:=by
 intro j u hu
 have e:((⟨g,0,none⟩:Addr).add j)=⟨g,j,none⟩:=by
  unfold Addr.add
  by_cases h:j=0
  . subst h;rfl
  simp [h]
 rw [e,h.cell j, <- hu]
 simp
theorem zin {w:World} {b:Nat} (h:zv w b):∀ x,x=b->(∀ cs,w.heap[x]?≠some (.cells cs 45 (0,0))):=fun x e cs h1=>h.ne' h1 e
def zyk (rows:List zU) (w:World) (e:Ending) (w' :World):Prop:=
 ∃ A c,e= .returned (.tuple #[.slice A rows.length c,.int .i64 0,.int .i64 0])/\yS w' (.slice A rows.length c) rows/\Below w.heap.size w w'
set_option maxRecDepth 100000 in
set_option maxHeartbeats 8000000 in
theorem zkr (text:List UInt8) (ls:List (List UInt8)) (rows:List zU) (s:List UInt8) (w:World) (hok:zu0 text ls rows) (G:VS rows s):
 Calls prog 16 #[str text] w (zyk rows w):=by
 obtain ⟨m,S⟩:=uQ rows.length
 obtain ⟨N,hN⟩:=uQ (m+1)
 have U:bts ⟨text.toArray⟩=text:=yt text
 have M:=fun w=>zhs ⟨text.toArray⟩ 10 w (by rw [<- zm,U];have:=hok.small;omega)
 rw [U] at M
 change ∀ w,Calls _ _ _ w (zm6 w (zpu text)) at M
 rw [hok.lines] at M
 have ad:(ls ++ [[]]).length=N:=by rw [List.length_append,hok.len,hN,S];rfl
 have az:=hok.small
 have aN:=hok.mm
 rw [<- S] at aN
 have d1:decide (((⟨text.toArray⟩:ByteArray).size:Int)>65536)=false:=by
  rw [decide_eq_false_iff_not, <- zm,U];omega
 have d2:decide ((text.length:Int)>65536)=false:=by rw [decide_eq_false_iff_not];omega
 obtain ⟨K,H1,ae,aE,Q,HN⟩:=hz6 hok G M ad S hN
 have aC:=@run_makeMap prog
 have e1:IntKind.i64.wrap ((N:Int) - 1)=(m:Int):=by rw [IntKind.wrap_i64];omega
 have e2:(m:Int)<(N:Int):=by omega
 have e3:(m:Int)<=(N:Int):=by omega
 clear hok G M ad S hN U az
 go_in
 go_wp2_with fail
 refine (ae.o _).mono ?_
 rintro e B ⟨Y,rfl,aq,aR,av⟩
 rw [aE.o]
 clear ae d1 d2
 have C:=ze aq
 have aI:=ze av
 clear aq av
 have p1:B.cell? ⟨Y,m,none⟩=some (str []):=by
  rw [C.o.cell]
  have G:ls.length=m:=by rw [K.o.len,Q.o]
  simp [<- G]
 have e4:IntKind.i64.wrap (m:Int)=(m:Int):=by rw [IntKind.wrap_i64];omega
 go_upto_region 6 with fail
 clear p1 e1 e2 e3 e4
 have R:=zf B (.map #[] 0)
 have z:=ze (zv.new B)
 have D:Hid (Chg (· =B.heap.size) B (B.alloc (.map #[] 0))):=Chg.of_below R
 replace C:=kb_ C R
 clear R
 go_upto_region 7 with fail
 clear aC
 have y:Hid (zlq (B.alloc (.map #[] 0)) B.heap.size rows (.slice none 0 0) 0 (fun _=>undef)):=⟨Z8 _ _ _ _,fun j hj=>by omega⟩
 generalize B.alloc (.map #[] 0)=W2 at z D C y |-
 obtain ⟨b,hb⟩:=uQ B.heap.size
 rw [<- hb] at z D |-
 have aH:=ze hb
 clear hb
 go_wp2
 go_loopw [32,2] (PrsR B b Y (ls ++ [[]]) rows) (fun iv _ _=>m - (intOf iv).toNat)
 case atStart=>exact ⟨0,_,_,uB,rfl,rfl,y,z,C,D⟩
 case round=>
  clear y z C D
  obtain ⟨i,v,H,hi,rfl,rfl,y,z,C,D⟩:=hrel
  by_cases aF:i<m
  rotate_left
  . obtain rfl:m=i:=by have:=Q.o;omega
    have T:=zuj y.o Q.o K.o.m0 (by omega) (fun j hj=>(K.o.ok j hj).tinyb);obtain ⟨A,c,H2,ev,_⟩:=id T;subst ev;have ah:=zoo b A rows.length c rows s wr z.o T H1.o;have ac:=ze ah;have aD:=ze T;clear ah T y;go_wp2_with fail;refine ac.o.mono ?_;rintro e w2 ⟨rfl,O,F⟩;have aB:=ze (z.o.keepRows F aD.o);replace D:=ze (yn D.o F);clear O ac;go_wp2;go_ret3;exact ⟨A,c,rfl,aB.o.more F.size,ext aI.o (D.o.below (uA) (fun x e=>by have:=aH.o;omega))⟩
  have aT:(i:Int)<(m:Int):=by omega
  have ab:i<rows.length:=by rw [<- Q.o];exact aF
  have Z:=K.o.ok i ab;obtain ⟨l,hl⟩:=uQ (ls.getD i []);obtain ⟨r,hr⟩:=uQ (rows.getD i default)
  have p1:wr.cell? ⟨Y,i,none⟩=some (str l):=by
   have G:i<ls.length:=by rw [K.o.len];exact ab
   rw [C.o.cell,hl,List.getElem?_toArray,List.map_append,List.getElem?_append_left (by rw [List.length_map];exact G),List.getElem?_map]
   simp [List.getD,List.getElem?_eq_getElem G]
  rw [<- hl, <- hr] at Z;have am:=zo4 b l r wr z.o Z;have al:=ze am;have HR:=ze hr;clear Z hl hr am;go_wp2_with fail;refine al.o.mono ?_;rintro e w4 ⟨g,J,I,cs,rfl,X,aJ,ao,ag,O,F⟩;subst aJ;have ar:=y.o.chg F (fun c hc e=>by obtain ⟨cs,q⟩:=y.o.1.heap hc;exact z.o.ne' q e) (zin z.o);replace C:=ze (z.o.keepBlk F C.o);replace D:=ze (yn D.o F);replace z:=ze O;replace y:=ze ar;obtain ⟨aM,an,aa⟩:=hz3 X ao ag;have ak:=zvb X;have af:=Xe (a:=.slice J r.terms.length I) (b:=str r.bound) (p:=fun u=>u.oneCell' =true) rfl rfl;have aj:=Xe (a:=.slice J r.terms.length I) (b:=str r.bound) (p:=Yk) (yo _ _ _) (vR _)
  have ai:∀ u∈(Value.agg #[.slice none 0 0,.string ⟨#[]⟩]).cells,Yk u:=by
   intro u hu;simp [Value.cells] at hu;rcases hu with rfl | rfl
   . exact yo _ _ _
   . exact vR _
  obtain ⟨i1,aL,aA,aP,aG⟩:=info_parts zuk;clear O F ar X ao ag p1 al;go_wp2_with (at_builtin;go_must (refine yx (P:=prog) rfl (.tmp 47) (.tmp 48) _ rfl B.heap.size 31 i1 _ 2 40 underlying22 aL aA aP aG rfl (by omega) _ i _ rfl y.o.1 ⟨g,0,none⟩ 1 1 [.slice J r.terms.length I,str r.bound] rfl rfl (by omega) ak af aj ai ?o4 ?o5 ?o6 ?_))
  case o4=>unfold maxLen;omega
  case o5=>omega
  case o6=>exact D.o.size
  intro v3 w6 V au aO;obtain ⟨g3,ay,ev,_,_⟩:=V.1.form (by omega);subst ev;have E:=Za au;have ap:=fun c hc=>(y.o.1.1.lt c hc).1
  have hD:=fun x e=>y.o.1.2 x e
  have L:∀ x,Value.ownBlock _=some x->(∀ cs,w4.heap[x]?≠some (.cells cs 45 (0,0))):=fun x e cs q=>by
   obtain ⟨aS,q2⟩:=y.o.1.heap e;rw [q2] at q;injection q with q
   injection q with _ q _
   exact absurd q (by decide)
  have aK:Hid (zv w6 b):=z.o.chg E (fun e=>by
   obtain ⟨cs,q⟩:=y.o.1.heap e
   exact z.o.ne' q rfl) hD
  have aQ:=ze (E.blk C.o (fun e=>by
   obtain ⟨cs,q⟩:=y.o.1.heap e
   exact xD C.o q (by decide) rfl))
  have aw:Hid (Chg (· =b) B w6):=D.o.trans E (fun x R e=>by have:=ap _ e;omega)
  have ax:Hid (zlq w6 B.heap.size rows (.slice (some ⟨g3,0,none⟩) (i+1) ay) (i+1) (fun j=>if j=i then .slice J r.terms.length I else H j)):=by
   refine ⟨?_,fun j hj=>?_⟩
   rotate_left
   . by_cases ej:j=i
     . subst ej
       simp only [if_pos];rw [<- HR.o];exact ⟨(an.o.off aa.o E L).more E.size,aa.o.chg E L⟩
     simp only [if_neg ej]
     exact ⟨((y.o.2 j (by omega)).1.off (y.o.2 j (by omega)).2 E L).more E.size,(y.o.2 j (by omega)).2.chg E L⟩
   have e:v8 i H (Xv rows) ++ [.slice J r.terms.length I,str r.bound]=v8 (i+1) (fun j=>if j=i then .slice J r.terms.length I else H j) (Xv rows):=by
    rw [Zw]
    congr 1
    . exact Va (fun k hk=>⟨by rw [if_neg (by omega)],rfl⟩)
    rw [if_pos rfl]
    unfold Xv;rw [<- HR.o]
   rw [e] at V;exact V
  clear V au aO E ap hD L z C D y aM an aa ak af aj ai;go_wp2;go_roundw
  case rel=>exact ⟨i+1,_,_,by omega,by go_num,rfl,ax,aK,aQ,aw⟩
  case measure=>simp [intOf];omega
theorem zjd {w:World} {base n:Nat} {v:Value} {l:List zu} (h:w.ownsRow base 45 2 v n (v8 l.length (Ye l) (Yc l))) (hl:l.length<=100000) (ht:∀ x∈l,zS x.name/\zS x.coef):zh w w.heap.size v l:=by
 have e:l.length=n:=by have:=h.1;rw [za2] at this;omega
 subst e
 rcases h.2 with ⟨rfl,r⟩ | ⟨g,m,u,rfl,hb,B,j,b,z,y⟩
 . have e:l=[]:=List.length_eq_zero_iff.1 r
   subst e;exact ⟨none,0,rfl,uA,by unfold maxLen;omega,by simp,yc.none_,ht⟩
 . exact ⟨some ⟨g,0,none⟩,m,rfl,j,b,hl,yc.of_own h,ht⟩
theorem zr9 {w:World} {base n:Nat} {tv:Value} {xs:List Value} (h:w.ownsRow base 45 2 tv n xs):TyT w tv:=fun A k c e hn=>by
 subst e
 rcases h.2 with ⟨e,m⟩ | ⟨g,l,b,e,_,j,_⟩
 . injection e with e1 e2;omega
 . injection e with e1 e2 e3
   exact ⟨g,b,e1,j⟩
end Go.Proofs.YtnjljgidphemdaaGreatDoor
