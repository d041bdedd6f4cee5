/- Parts of the proof. -/
import Derived.Test.YthbmhkiphmcogaaGreatDoorMe23
import Derived.Test.YthbmhkiphmcogaaGreatDoorMe27
set_option linter.all false
set_option maxRecDepth 100000
namespace Go.Proofs.YthbmhkiphmcogaaGreatDoor
open Proofs.Tryz Go.RowKit Go.Deep
attribute [local go_sem ↓] Go.wp_at_zero Go.wp_at_succ
def zoa (l:List UInt8):List (List UInt8):=spl 10 (l.count 10) l
theorem X8:(Tryz.prog.info? 33).map (fun i=>(i.zero,i.size,i.bytes))=some (some (.agg #[.slice none 0 0,.string ⟨#[]⟩]),2,40):=by kernel_rfl
theorem Tryz.underlying22:Tryz.prog.underlying 22=some (.slice 33):=by kernel_rfl
structure zte (text:List UInt8) (ls:List (List UInt8)) (rows:List zQ):Prop where
 lines:zoa text=ls ++ [[]]
 len:ls.length=rows.length
 ok:∀ i,i<rows.length->zti (ls.getD i []) (rows.getD i default)
 small:text.length<=65536
 m0:0<rows.length
 mm:rows.length<=800
def zix (w:World) (base:Nat) (rows:List zQ) (v:Value) (i:Nat) (H:Nat->Value):Prop:=
 Zm w base 33 2 v i (yP i H (vM rows))/\∀ j,j<i->zk w w.heap.size (H j) (rows.getD j default).terms/\TyT w (H j)
theorem zix.chg {S:Nat->Prop} {w w' :World} {base:Nat} {rows:List zQ} {v:Value} {i:Nat} {H:Nat->Value} (h:zix w base rows v i H) (hc:Chg S w w') (h1:∀ g,v.ownBlock=some g->¬ S g) (hS:∀ x,S x->(∀ cs,w.heap[x]?≠some (.cells cs 35 (0,0)))):zix w' base rows v i H:=
 ⟨h.1.chg hc h1,fun j hj=>⟨((h.2 j hj).1.off (h.2 j hj).2 hc hS).more hc.size,(h.2 j hj).2.chg hc hS⟩⟩
theorem zsk {w:World} {base m:Nat} {rows:List zQ} {v:Value} {H:Nat->Value} (h:zix w base rows v m H) (hm:m=rows.length) (l:0<rows.length) (hb:m<=800) (ht:∀ j,j<rows.length->zN (rows.getD j default).bound):yN w v rows:=by
 subst hm
 rcases h.1.1.2 with ⟨_,l⟩ | ⟨g,u,z,e,_,C,B,r,D,y⟩
 . omega
 . subst e
   refine ⟨some ⟨g,0,none⟩,u,H,rfl,by omega,r,by omega,zV.of_own h.1.1,fun j b=>(h.2 j b).1,fun x hx=>?_⟩;obtain ⟨j,b,ex⟩:=List.mem_iff_getElem.1 hx;have:=ht j b;rw [<- ex]
   simpa [List.getD,List.getElem?_eq_getElem b] using this
def PrsR (w0:World) (b gw:Nat) (ws:List (List UInt8)) (rows:List zQ) (iv rv:Value) (wr:World):Prop:=
 ∃ (i:Nat) (v:Value) (H:Nat->Value),i<=rows.length/\iv= .int .i64 i/\rv=v/\Hid (zix wr w0.heap.size rows v i H)/\Hid (zB wr b)/\Hid (Blk wr gw 9 (ws.map str).toArray)/\Hid (Chg (· =b) w0 wr)
theorem zB.ne' {w:World} {b x:Nat} {cs:Array Value} {t:TypeId} {fr:Nat×Nat} (h:zB w b) (k:w.heap[x]?=some (.cells cs t fr)):x≠b:=by
 intro e
 subst e
 obtain ⟨D,⟨j,c,hb,_⟩,_⟩:=h
 rw [k] at hb;cases hb
theorem zpb {w:World} {g:Nat} {t:TypeId} {a b:Value} (h:Blk w g t #[a,b]):∀ (j:Nat) (u:Value),[a,b][j]?=some u->w.cell? ((⟨g,0,none⟩:Addr).add j)=some u:=by
 intro j u hu
 have e:((⟨g,0,none⟩:Addr).add j)=⟨g,j,none⟩:=by
  unfold Addr.add
  by_cases h:j=0
  . subst h;rfl
  simp [h]
 rw [e,h.cell j, <- hu]
 simp
theorem zg4 {w:World} {b:Nat} (h:zB w b):∀ x,x=b->(∀ cs,w.heap[x]?≠some (.cells cs 35 (0,0))):=fun x e cs h1=>h.ne' h1 e
def zxg (rows:List zQ) (w:World) (e:Ending) (w' :World):Prop:=
 ∃ A c,e= .returned (.tuple #[.slice A rows.length c,.int .i64 0,.int .i64 0])/\yN w' (.slice A rows.length c) rows/\Below w.heap.size w w'
set_option maxHeartbeats 8000000 in
theorem zka (text:List UInt8) (ls:List (List UInt8)) (rows:List zQ) (s:List UInt8) (w:World) (hok:zte text ls rows) (F:VM rows s):
 Calls Tryz.prog 10 #[str text] w (zxg rows w):=by
 obtain ⟨m,O⟩:∃ m,m=rows.length:=⟨_,rfl⟩
 obtain ⟨N,hN⟩:∃ N,N=m+1:=⟨_,rfl⟩
 have R:bts ⟨text.toArray⟩=text:=xR text
 have J:=fun w=>zhn ⟨text.toArray⟩ 10 w (by rw [<- zm,R];have:=hok.small;omega)
 rw [R] at J
 change ∀ w,Calls _ _ _ w (zll w (zoa text)) at J
 rw [hok.lines] at J
 have an:(ls ++ [[]]).length=N:=by rw [List.length_append,hok.len,hN,O];rfl
 have aB:=hok.small
 have aR:=hok.mm
 rw [<- O] at aR
 have d1:decide (((⟨text.toArray⟩:ByteArray).size:Int)>65536)=false:=by
  rw [decide_eq_false_iff_not, <- zm,R];omega
 have d2:decide ((text.length:Int)>65536)=false:=by rw [decide_eq_false_iff_not];omega
 have L:=ze hok
 have H1:=ze F
 have ag:=ze J
 have aO:=ze an
 have Q:=ze O
 have HN:=ze hN
 have aI:=@run_makeMap Tryz.prog
 have e1:IntKind.i64.wrap ((N:Int) - 1)=(m:Int):=by rw [IntKind.wrap_i64];omega
 have e2:(m:Int)<(N:Int):=by omega
 have e3:(m:Int)<=(N:Int):=by omega
 clear hok F J an O hN R aB
 go_enter func10,ntmps10
 go_wp2_with fail
 refine (ag.o _).mono ?_
 rintro e w1 ⟨Y,rfl,aw,aU,ao⟩
 rw [aO.o]
 clear ag d1 d2
 have B:=ze aw
 have aM:=ze ao
 clear aw ao
 have p1:w1.cell? ⟨Y,m,none⟩=some (str []):=by
  rw [B.o.cell]
  have F:ls.length=m:=by rw [L.o.len,Q.o]
  simp [<- F]
 have e4:IntKind.i64.wrap (m:Int)=(m:Int):=by rw [IntKind.wrap_i64];omega
 go_upto_region 6 with fail
 clear p1 e1 e2 e3 e4
 have T:=zf w1 (.map #[] 0)
 have z:=ze (zB.new w1)
 have C:Hid (Chg (· =w1.heap.size) w1 (w1.alloc (.map #[] 0))):=Chg.of_below T
 replace B:=kb_ B T
 clear T
 go_upto_region 7 with fail
 clear aI
 have y:Hid (zix (w1.alloc (.map #[] 0)) w1.heap.size rows (.slice none 0 0) 0 (fun _=>undef)):=⟨Zz _ _ _ _,fun j hj=>by omega⟩
 generalize w1.alloc (.map #[] 0)=W2 at z C B y |-
 obtain ⟨b,hb⟩:∃ b,b=w1.heap.size:=⟨_,rfl⟩
 rw [<- hb] at z C |-
 have aG:=ze hb
 clear hb
 go_wp2_with fail
 go_loopw [32,2] (PrsR w1 b Y (ls ++ [[]]) rows) (fun iv _ _=>m - (intOf iv).toNat)
 case atStart=>exact ⟨0,_,_,Nat.zero_le _,rfl,rfl,y,z,B,C⟩
 case round=>
  clear y z B C
  obtain ⟨i,v,H,hi,rfl,rfl,y,z,B,C⟩:=hrel
  by_cases aF:i<m
  rotate_left
  . obtain rfl:m=i:=by have:=Q.o;omega
    have S:=zsk y.o Q.o L.o.m0 (by omega) (fun j hj=>(L.o.ok j hj).tinyb);obtain ⟨A,c,H2,ev,_⟩:=id S;subst ev;have al:=zfb b A rows.length c rows s wr z.o S H1.o;have ad:=ze al;have aP:=ze S;clear al S y;go_wp2_with fail;refine ad.o.mono ?_;rintro e w2 ⟨rfl,U,E⟩;have ay:=ze (z.o.keepRows E aP.o);replace C:=ze (vm C.o E);clear U ad;go_wp2_with fail;go_ret3;exact ⟨A,c,rfl,ay.o.more E.size,ext aM.o (C.o.below (Nat.le_refl _) (fun x e=>by have:=aG.o;omega))⟩
  have aS:(i:Int)<(m:Int):=by omega
  have aq:i<rows.length:=by rw [<- Q.o];exact aF
  have aa:=L.o.ok i aq;obtain ⟨l,Z⟩:∃ l,l=ls.getD i []:=⟨_,rfl⟩;obtain ⟨r,hr⟩:∃ r,r=rows.getD i default:=⟨_,rfl⟩
  have p1:wr.cell? ⟨Y,i,none⟩=some (str l):=by
   have F:i<ls.length:=by rw [L.o.len];exact aq
   rw [B.o.cell,Z,List.getElem?_toArray,List.map_append,List.getElem?_append_left (by rw [List.length_map];exact F),List.getElem?_map]
   simp [List.getD,List.getElem?_eq_getElem F]
  rw [<- Z, <- hr] at aa;have aj:=zn5 b l r wr z.o aa;have ap:=ze aj;have HR:=ze hr;clear aa Z hr aj;go_wp2_with fail;refine ap.o.mono ?_;rintro e w4 ⟨g,G,I,cs,rfl,ab,aL,ar,ai,U,E⟩;subst aL;have af:=y.o.chg E (fun c hc e=>by obtain ⟨cs,q⟩:=y.o.1.heap hc;exact z.o.ne' q e) (zg4 z.o);replace B:=ze (z.o.keepBlk E B.o);replace C:=ze (vm C.o E);replace z:=ze U;replace y:=ze af;have az:=ze ab;have ae:=ze ar;have X:=ze ai;have am:=zpb ab;have av:=yJ (a:=.slice G r.terms.length I) (b:=str r.bound) (p:=fun u=>u.oneCell' =true) rfl rfl;have au:=yJ (a:=.slice G r.terms.length I) (b:=str r.bound) (p:=Z0) (zM _ _ _) (yq _)
  have ah:∀ u∈(Value.agg #[.slice none 0 0,.string ⟨#[]⟩]).cells,Z0 u:=by
   intro u hu;simp [Value.cells] at hu;rcases hu with rfl | rfl
   . exact zM _ _ _
   . exact yq _
  obtain ⟨i1,aQ,aK,aH,aC⟩:=info_parts X8;clear U E af ab ar ai p1 ap;go_wp2_with (at_builtin;go_must (refine zS (P:=Tryz.prog) rfl (.tmp 47) (.tmp 48) _ rfl w1.heap.size 33 i1 _ 2 40 underlying22 aQ aK aH aC rfl (by omega) _ i _ rfl y.o.1 ⟨g,0,none⟩ 1 1 [.slice G r.terms.length I,str r.bound] rfl rfl (by omega) am av au ah ?o4 ?o5 ?o6 ?_))
  case o4=>unfold maxLen;omega
  case o5=>omega
  case o6=>exact C.o.size
  intro v3 V M ak aE;obtain ⟨g3,aJ,ev,_,_⟩:=M.1.form (by omega);subst ev;have D:=xP ak;have ac:=fun c hc=>(y.o.1.1.lt c hc).1
  have hD:=fun x e=>y.o.1.2 x e
  have K:∀ x,Value.ownBlock _=some x->(∀ cs,w4.heap[x]?≠some (.cells cs 35 (0,0))):=fun x e cs q=>by
   obtain ⟨aT,q2⟩:=y.o.1.heap e;rw [q2] at q;injection q with q
   injection q with _ q _
   exact absurd q (by decide)
  have aA:Hid (zB V b):=z.o.chg D (fun e=>by
   obtain ⟨cs,q⟩:=y.o.1.heap e
   exact z.o.ne' q rfl) hD
  have ax:=ze (D.blk B.o (fun e=>by
   obtain ⟨cs,q⟩:=y.o.1.heap e
   exact yX B.o q (by decide) rfl))
  have aN:Hid (Chg (· =b) w1 V):=C.o.trans D (fun x T e=>by have:=ac _ e;omega)
  have aD:Hid (zix V w1.heap.size rows (.slice (some ⟨g3,0,none⟩) (i+1) aJ) (i+1) (fun j=>if j=i then .slice G r.terms.length I else H j)):=by
   refine ⟨?_,fun j hj=>?_⟩
   rotate_left
   . by_cases ej:j=i
     . subst ej
       simp only [if_pos];rw [<- HR.o];exact ⟨(ae.o.off X.o D K).more D.size,X.o.chg D K⟩
     simp only [if_neg ej]
     exact ⟨((y.o.2 j (by omega)).1.off (y.o.2 j (by omega)).2 D K).more D.size,(y.o.2 j (by omega)).2.chg D K⟩
   have e:yP i H (vM rows) ++ [.slice G r.terms.length I,str r.bound]=yP (i+1) (fun j=>if j=i then .slice G r.terms.length I else H j) (vM rows):=by
    rw [vJ]
    congr 1
    . exact YS (fun k hk=>⟨by rw [if_neg (by omega)],rfl⟩)
    rw [if_pos rfl]
    unfold vM;rw [<- HR.o]
   rw [e] at M;exact M
  clear M ak aE D ac hD K z B C y az ae X am av au ah;go_wp2_with fail;go_roundw
  case rel=>exact ⟨i+1,_,_,by omega,by go_num,rfl,aD,aA,ax,aN⟩
  case measure=>simp [intOf];omega
theorem Vs {w:World} {base n:Nat} {v:Value} {l:List zR} (h:w.ownsRow base 35 2 v n (yP l.length (Zb l) (Zg l))) (hl:l.length<=100000) (ht:∀ x∈l,zN x.name/\zN x.coef):zk w w.heap.size v l:=by
 have e:l.length=n:=by have:=h.1;rw [zax] at this;omega
 subst e
 rcases h.2 with ⟨rfl,r⟩ | ⟨g,m,u,rfl,hb,y,b,j,B,z⟩
 . have e:l=[]:=List.length_eq_zero_iff.1 r
   subst e;exact ⟨none,0,rfl,Nat.le_refl _,by unfold maxLen;omega,by simp,zV.none_,ht⟩
 . exact ⟨some ⟨g,0,none⟩,m,rfl,b,j,hl,zV.of_own h,ht⟩
theorem zc4 {w:World} {base n:Nat} {tv:Value} {xs:List Value} (h:w.ownsRow base 35 2 tv n xs):TyT w tv:=fun A k c e hn=>by
 subst e
 rcases h.2 with ⟨e,l⟩ | ⟨g,m,j,e,_,b,_⟩
 . injection e with e1 e2;omega
 . injection e with e1 e2 e3
   exact ⟨g,j,e1,b⟩
theorem zmc (l:List zR):∀ u∈yP l.length (Zb l) (Zg l),u.oneCell' =true:=by
 intro u hu
 unfold yP at hu
 obtain ⟨i,_,hu⟩:=List.mem_flatMap.1 hu
 simp only [List.mem_cons,List.not_mem_nil,or_false] at hu
 rcases hu with rfl | rfl<;>rfl
def zsb (w:World) (l:List zR) (e:Ending) (w' :World):Prop:=∃ v,e= .returned v/\zk w' w'.heap.size v l/\TyT w' v/\Below w.heap.size w w'
theorem zj1 (A:Option Addr) (n c B:Nat) (l:List zR) (w:World) (ht:zk w B (.slice A n c) l) (hB:B<=w.heap.size):
 Calls Tryz.prog 37 #[.slice A n c] w (zsb w l):=by
 obtain rfl:=ht.len
 have O:l.length<=100000:=by obtain ⟨_,_,_,_,_,h,_⟩:=id ht;exact h
 have u:zV w w.heap.size 2 A l.length (yP l.length (Zb l) (Zg l)):=by
  obtain ⟨_,_,e,_,_,_,h,_⟩:=ht.more hB
  injection e with e1 e2 e3
  subst e1
  exact h
 have z:∀ x∈l,zN x.name/\zN x.coef:=by obtain ⟨_,_,_,_,_,_,_,h⟩:=id ht;exact h
 have y:=ze z
 clear ht z
 have R:∀ (w:World) (a:Option Addr) (n c n' c' :Nat),(binOp .eql 30 (.slice a n c) (.slice none n' c')).run Tryz.prog w= .ok (.bool a.isNone) w:=fun w a n c n' c' =>Lib.run_eql_slice_nil w _ _ a n c n' c' underlying30
 rcases A with _ | b
 . have hd:l=[]:=by
    apply List.eq_nil_of_length_eq_zero
    rcases Nat.eq_zero_or_pos l.length with h | h
    . exact h
    . obtain ⟨b,h,_⟩:=u.2 h
      cases h
   subst hd
   go_enter func37,ntmps37
   go_wp2;go_ret;exact ⟨_,rfl,⟨none,0,rfl,Nat.le_refl _,by unfold maxLen;omega,by simp,zV.none_,y.o⟩,fun A k c e hn=>by (injection e with e1 e2;omega),Below.refl _ _⟩
 . obtain ⟨F,J,K,E,N⟩:=info_parts zcn
   have G:=R w (some b) l.length c 0 0;simp only [Option.isNone_some] at G
   go_enter func37,ntmps37
   have j:=ze O;have M:=zmc l;go_wp2_with (at_builtin;go_must (refine yj _ rfl (.tmp 5) (.tmp 6) _ rfl w.heap.size 35 F _ 2 32 underlying30 J K E N rfl (by omega) (.slice (some ⟨w.heap.size,0,none⟩) 0 0) 0 [] rfl ?o1 w.heap.size (some b) l.length c (yP l.length (Zb l) (Zg l)) rfl (u.alloc (Nat.le_refl _) _) M ?o2 ?o3 ?o4 ?_))
   case o1=>exact World.ownsRow_lit w #[] 0 (Nat.le_refl _) (Nat.zero_le _) rfl
   case o2=>have:=j.o;unfold maxLen;omega
   case o3=>have:=j.o;omega
   case o4=>simp
   intro L w1 r m D;have C:=ze r;have Q:=ze m;clear r m D;go_wp2_with fail;go_ret;refine ⟨L,rfl,Vs C.o j.o y.o,zc4 C.o,?_⟩;refine ((Below.refl _ _).alloc (Nat.le_refl _) _).grown Q.o (by simp) ?_;intro k I
   simp [Value.ownBlock] at I
   omega
def zwq (w:World) (r:zQ) (e:Ending) (w' :World):Prop:=∃ A c,e= .returned (.agg #[.slice A r.terms.length c,str r.bound])/\zk w' w'.heap.size (.slice A r.terms.length c) r.terms/\Below w.heap.size w w' /\TyT w' (.slice A r.terms.length c)
theorem zno (A:Option Addr) (n c B:Nat) (r:zQ) (w:World) (ht:zk w B (.slice A n c) r.terms) (hB:B<=w.heap.size):
 Calls Tryz.prog 15 #[.agg #[.slice A n c,str r.bound]] w (zwq w r):=by
 obtain ⟨W,J⟩:∃ W,W=(w.alloc (.cells #[.slice A n c,str r.bound] 33)).alloc (.cells #[.slice none 0 0,.string ⟨#[]⟩] 33):=⟨_,rfl⟩
 have j:=ext (zf w (.cells #[.slice A n c,str r.bound] 33)) (zf (w.alloc (.cells #[.slice A n c,str r.bound] 33)) (.cells #[.slice none 0 0,.string ⟨#[]⟩] 33))
 have C:=(Blk.new w 33 #[.slice A n c,str r.bound]).alloc (.cells #[.slice none 0 0,.string ⟨#[]⟩] 33)
 have m:=Blk.new (w.alloc (.cells #[.slice A n c,str r.bound] 33)) 33 #[.slice none 0 0,.string ⟨#[]⟩]
 simp only [World.size_alloc] at m
 rw [<- J] at j C m
 have D:=ze C
 have b:=ze m
 have I:=ze j
 have U:Hid (zk W W.heap.size (.slice A n c) r.terms):=(zk.below (ht.more hB) j).more j.size
 clear ht j C m hB
 go_enter func15,ntmps15
 go_upto_region 1 with fail
 rw [<- J]
 clear J
 have a0:=D.o.cell 0
 have z:=D.o.cell 1
 simp at a0 z
 have u:=D.o.lt
 refine zJ (S:=fun w' =>Hid (Below W.heap.size W w')/\w'.cell? ⟨w.heap.size,0,none⟩=some (.slice A n c)/\w'.cell? ⟨w.heap.size,1,none⟩=some (str r.bound)) 5 (by kernel_rfl) (by kernel_rfl) (zl (zu W) (fun hB=>⟨zh hB u a0,zh hB u z⟩)) (fun hHeld=>?_)
 refine HH.tk 0 ?_
 refine HH.tk 1 ?_
 refine HH.tk 3 ?_
 refine HH.tk 4 ?_
 refine HH.rd 2 (fun K hK=>?_)
 go_simp
 go_at_call 37
 refine (zj1 A n c W.heap.size r.terms _ (zk.below U.o hHeld.1.out) hHeld.1.out.size).mono ?_
 rintro e y ⟨v,rfl,E,T,R⟩
 obtain ⟨l,c2,rfl,_⟩:=id E
 have Q:=ze T
 clear T
 have V:=ze E
 clear E
 have O:=hHeld
 clear hHeld
 refine hK.out _ _ (zl (zr R O.1) (fun hB=>⟨zh hB u a0,zh hB u z⟩)) (fun hHeld=>?_)
 clear O hK K
 try simp only [Act.put,xST]
 clear R
 have G:=(hHeld.1).out
 try clear z0 Y X
 replace b:=kb_ b G
 replace I:=eb_ I G
 clear G hHeld
 refine HH.done (by kernel_rfl) ?_
 simp only [List.drop_succ_cons,List.drop_zero]
 obtain ⟨z0,Y,X⟩:=zxb b.o
 have Z:=b.o.frozen 0
 have f1:=b.o.frozen 1
 go_wp2_with fail
 have L:Blk ((y.setCell ⟨w.heap.size+1,0,none⟩ (.slice l r.terms.length c2)).setCell ⟨w.heap.size+1,1,none⟩ (str r.bound)) (w.heap.size+1) 33 #[.slice l r.terms.length c2,str r.bound]:=(b.o.set_ 0 _).set_ 1 _
 have M:=L.cell 0
 have N:=L.cell 1
 simp at M N
 have F:Chg (fun x=>x=w.heap.size+1) y ((y.setCell ⟨w.heap.size+1,0,none⟩ (.slice l r.terms.length c2)).setCell ⟨w.heap.size+1,1,none⟩ (str r.bound)):=by
  apply Chg.setCell (S:=fun x=>x=w.heap.size+1) ?_ (by rfl)
  apply Chg.setCell (S:=fun x=>x=w.heap.size+1) ?_ (by rfl)
  exact Chg.refl y
 refine bodyPost_ret (v:=.agg #[.slice l r.terms.length c2,str r.bound]) (by simp [results,results15,go_sem,M,N]) rfl ?_
 exact ⟨l,c2,rfl,(V.o.off Q.o F (fun x hx cs h=>by subst hx;rw [b.o] at h;injection h with h;injection h with _ h _;exact absurd h (by decide))).more F.size,(I.o.setCell (by show w.heap.size<=w.heap.size+1;omega) _).setCell (by show w.heap.size<=w.heap.size+1;omega) _,Q.o.chg F (fun x hx cs h=>by subst hx;rw [b.o] at h;injection h with h;injection h with _ h _;exact absurd h (by decide))⟩
end Go.Proofs.YthbmhkiphmcogaaGreatDoor
namespace Go.Proofs.YthbmhkiphmcogaaGreatDoor
open Proofs.Tryz Go.RowKit Go.Deep
def zec (w:World) (B:Nat) (v:Value) (l:List zR):Prop:=zk w B v l\/(zk w w.heap.size v l/\TyT w v)
def VX (w:World) (x:Nat):Prop:=∀ cs,w.heap[x]?≠some (.cells cs 35 (0,0))
section
variable {S:Nat->Prop} {w w' :World} {B:Nat} {v:Value}
theorem zec.chg {l:List zR} (h:zec w B v l) (hc:Chg S w w') (hT:∀ x,S x->VX w x) (hB:∀ x,x<B->S x->Z1 w x):zec w' B v l:=by
 rcases h with h | ⟨h,b⟩
 . exact .inl (h.chg hc hB)
 . exact .inr ⟨(h.off b hc (fun x hx=>hT x hx)).more hc.size,b.chg hc (fun x hx=>hT x hx)⟩
theorem zec.is {l:List zR} (h:zec w B v l) (hB:B<=w.heap.size):vr w v l:=by
 rcases h with h | ⟨h,_⟩
 . exact h.more hB
 . exact h
def ZR (w:World) (B:Nat) (v:Value) (L:List zQ):Prop:=
 ∃ H:Nat->Value,Zm w B 33 2 v L.length (yP L.length H (vM L))/\∀ j,j<L.length->zec w B (H j) (L.getD j default).terms
theorem ZR.nil (w:World) (B:Nat):ZR w B (.slice none 0 0) []:=⟨fun _=>undef,Zz _ _ _ _,fun j hj=>absurd hj (by simp)⟩
theorem ZR.chg {L:List zQ} (h:ZR w B v L) (hc:Chg S w w') (ho:∀ g,v.ownBlock=some g->¬ S g) (hT:∀ x,S x->VX w x) (hB:∀ x,x<B->S x->Z1 w x):ZR w' B v L:=by
 obtain ⟨H,b,e⟩:=h
 exact ⟨H,b.chg hc ho,fun j hj=>(e j hj).chg hc hT hB⟩
theorem ZR.form {L:List zQ} (h:ZR w B v L):∃ A c,v= .slice A L.length c:=by
 obtain ⟨H,b,_⟩:=h
 obtain ⟨A,c,e,_⟩:=zai b.1
 exact ⟨A,c,e⟩
theorem ZR.own {L:List zQ} (h:ZR w B v L) {g:Nat} (e:v.ownBlock=some g):B<=g/\VX w g/\zZ w g/\∃ cs,w.heap[g]?=some (.cells cs 33 (0,0)):=by
 obtain ⟨H,b,_⟩:=h
 obtain ⟨cs,q⟩:=b.heap e
 exact ⟨(b.1.lt g e).1,fun cs2 q2=>by
  rw [q] at q2
  injection q2 with q2
  injection q2 with _ q2 _
  exact absurd q2 (by decide),b.2 g e,cs,q⟩
theorem ZR.rows {L:List zQ} (h:ZR w B v L) (hB:B<=w.heap.size) (hl:L.length<=100000) (hs:∀ r∈L,zN r.bound):yN w v L:=by
 obtain ⟨H,l,m⟩:=h
 rcases l.1.2 with ⟨b,u⟩ | ⟨g,z,E,b,_,F,D,y,G,C⟩
 . have e:L=[]:=List.length_eq_zero_iff.1 u
   subst e;subst b;exact ⟨none,0,H,rfl,Nat.le_refl _,by unfold maxLen;omega,by simp,zV.none_,fun j hj=>absurd hj (by simp),fun x hx=>by cases hx⟩
 . subst b
   exact ⟨some ⟨g,0,none⟩,z,H,rfl,by omega,y,hl,zV.of_own l.1,fun j hj=>(m j hj).is hB,hs⟩
theorem ZR.at_ {L:List zQ} {A:Option Addr} {n c:Nat} (h:ZR w B (.slice A n c) L) {k:Nat} (hk:k<L.length):
 ∃ b l j,A=some b/\b.block<w.heap.size/\w.cell? (b.add (k*2))=some (.slice l L[k].terms.length j)/\w.cell? ⟨(b.add (k*2)).block,(b.add (k*2)).off+1,none⟩=some (str L[k].bound)/\zec w B (.slice l L[k].terms.length j) L[k].terms:=by
 obtain ⟨H,u,C⟩:=h
 have hd:L.getD k default=L[k]:=by simp [List.getD,List.getElem?_eq_getElem hk]
 have m:=C k hk
 rw [hd] at m
 obtain ⟨A',c',e,_⟩:=zai u.1
 injection e with e1 e2 e3
 subst e1
 subst e2
 subst e3
 have y:zV w w.heap.size 2 A L.length (yP L.length H (vM L)):=zV.of_own u.1
 obtain ⟨b,e,hb,r,c1⟩:=y.at2 hk
 obtain ⟨l,j,z⟩:∃ l j,H k= .slice l L[k].terms.length j:=by
  rcases m with ⟨A,c,e,_⟩ | ⟨⟨A,c,e,_⟩,_⟩
  . exact ⟨A,c,e⟩
  . exact ⟨A,c,e⟩
 rw [z] at r m
 simp only [vM,hd] at c1
 exact ⟨b,l,j,e,hb,r,c1,m⟩
theorem ZR.push {L:List zQ} {r:zQ} {tv v' :Value} {H:Nat->Value} (hc:Chg S w w') (h2:∀ j,j<L.length->zec w B (H j) (L.getD j default).terms) (hT:∀ x,S x->VX w x) (hB:∀ x,x<B->S x->Z1 w x)
 (ho:Zm w' B 33 2 v' (L.length+1) (yP L.length H (vM L) ++ [tv,str r.bound])) (ht:zec w B tv r.terms):ZR w' B v' (L ++ [r]):=by
 have b:(L ++ [r]).length=L.length+1:=by simp
 refine ⟨fun j=>if j=L.length then tv else H j,?_,fun j hj=>?_⟩
 . have e:yP L.length H (vM L) ++ [tv,str r.bound]=yP (L.length+1) (fun j=>if j=L.length then tv else H j) (vM (L ++ [r])):=by
    rw [vJ]
    congr 1
    . exact YS (fun k hk=>⟨by rw [if_neg (by omega)],by unfold vM;simp [List.getD,List.getElem?_append_left hk]⟩)
    rw [if_pos rfl]
    unfold vM
    simp [List.getD]
   rw [b, <- e];exact ho
 rw [b] at hj
 by_cases l:j=L.length
 . subst l
   simp only [if_pos];have:(L ++ [r]).getD L.length default=r:=by simp [List.getD]
   rw [this];exact ht.chg hc hT hB
 simp only [if_neg l]
 have:(L ++ [r]).getD j default=L.getD j default:=by simp [List.getD,List.getElem?_append_left (show j<L.length by omega)]
 rw [this];exact (h2 j (by omega)).chg hc hT hB
end
structure ElK (w0 w:World) (b:Nat) (rv vo vu vd:Value) (rows Lo Lu Ld:List zQ):Prop where
 book:zB w b
 rows:zT w w0.heap.size rv rows
 o:ZR w w0.heap.size vo Lo
 u:ZR w w0.heap.size vu Lu
 d:ZR w w0.heap.size vd Ld
 ou:∀ g,vo.ownBlock=some g->vu.ownBlock≠some g
 od:∀ g,vo.ownBlock=some g->vd.ownBlock≠some g
 ud:∀ g,vu.ownBlock=some g->vd.ownBlock≠some g
 below:Below w0.heap.size w0 w
 hb:w0.heap.size<=b
section
variable {w0 w w' :World} {b:Nat} {rv vo vu vd:Value} {rows Lo Lu Ld:List zQ}
theorem zB.noTerm (h:zB w b):VX w b:=fun cs e=>h.ne' e rfl
theorem ElK.turn (h:ElK w0 w b rv vo vu vd rows Lo Lu Ld) (hc:Chg (· =b) w w') (hB:zB w' b):ElK w0 w' b rv vo vu vd rows Lo Lu Ld:=by
 have l:∀ x,x=b->VX w x:=fun x e=>by subst e;exact h.book.noTerm
 have j:∀ x,x<w0.heap.size->x=b->Z1 w x:=fun x _ e=>by subst e;exact h.book.noCells
 have ho:∀ {v:Value} {L:List zQ},ZR w w0.heap.size v L->∀ g,v.ownBlock=some g->¬ g=b:=fun hl g e hg=>by
  obtain ⟨_,_,_,cs,q⟩:=hl.own e
  exact h.book.ne' q hg
 exact ⟨hB,h.book.keepRows hc h.rows,h.o.chg hc (ho h.o) l j,h.u.chg hc (ho h.u) l j,h.d.chg hc (ho h.d) l j,h.ou,h.od,h.ud,h.below.trans (hc.below h.below.size (fun x e=>by have:=h.hb;omega)),h.hb⟩
theorem ElK.ext_ (h:ElK w0 w b rv vo vu vd rows Lo Lu Ld) (hb:Below w.heap.size w w'):ElK w0 w' b rv vo vu vd rows Lo Lu Ld:=h.turn (Chg.of_below hb) (h.book.below hb)
theorem ElK.swapU (h:ElK w0 w b rv vo vu vd rows Lo Lu Ld):ElK w0 w b rv vu vo vd rows Lu Lo Ld:=
 ⟨h.book,h.rows,h.u,h.o,h.d,fun g e e2=>h.ou g e2 e,h.ud,h.od,h.below,h.hb⟩
theorem ElK.swapD (h:ElK w0 w b rv vo vu vd rows Lo Lu Ld):ElK w0 w b rv vd vu vo rows Ld Lu Lo:=
 ⟨h.book,h.rows,h.d,h.u,h.o,fun g e e2=>h.ud g e2 e,fun g e e2=>h.od g e2 e,fun g e e2=>h.ou g e2 e,h.below,h.hb⟩
theorem ElK.push {H:Nat->Value} {r:zQ} {tv v' :Value} (h:ElK w0 w b rv vo vu vd rows Lo Lu Ld) (h2:∀ j,j<Lo.length->zec w w0.heap.size (H j) (Lo.getD j default).terms)
 (ho:Zm w' w0.heap.size 33 2 v' (Lo.length+1) (yP Lo.length H (vM Lo) ++ [tv,str r.bound])) (hg:w.grownBy w' vo.ownBlock) (hat:v'.ownBlock=vo.ownBlock\/v'.ownBlock=some w.heap.size) (ht:zec w w0.heap.size tv r.terms):
 ElK w0 w' b rv v' vu vd rows (Lo ++ [r]) Lu Ld:=by
 have m:=xP hg
 have z:∀ x,vo.ownBlock=some x->VX w x:=fun x e=>(h.o.own e).2.1
 have y:∀ x,x<w0.heap.size->vo.ownBlock=some x->Z1 w x:=fun x hx e=>by have:=(h.o.own e).1;omega
 have C:∀ x,vo.ownBlock=some x->zZ w x:=fun x e=>(h.o.own e).2.2.1
 have B:∀ {v:Value} {L:List zQ},ZR w w0.heap.size v L->∀ g,v.ownBlock=some g->g<w.heap.size:=fun hl g e=>by
  obtain ⟨_,_,_,cs,q⟩:=hl.own e
  exact (Array.getElem?_eq_some_iff.1 q).1
 refine ⟨h.book.chg m (fun e=>?_) C,h.rows.chg m y,ZR.push m h2 z y ho ht,h.u.chg m (fun g e e2=>h.ou g e2 e) z y,h.d.chg m (fun g e e2=>h.od g e2 e) z y,fun g e e2=>?_,fun g e e2=>?_,h.ud,h.below.trans (m.below h.below.size (fun x e=>(h.o.own e).1)),h.hb⟩
 . obtain ⟨_,_,_,cs,q⟩:=h.o.own e
   exact h.book.ne' q rfl
 . rcases hat with l | l
   . exact h.ou g (l.symm.trans e) e2
   . rw [l] at e
     injection e with e
     have:=B h.u g e2
     omega
 . rcases hat with l | l
   . exact h.od g (l.symm.trans e) e2
   . rw [l] at e
     injection e with e
     have:=B h.d g e2
     omega
end
end Go.Proofs.YthbmhkiphmcogaaGreatDoor
