/- Parts of the proof. -/
import Derived.Test.YtofmkndhocinmaaGreatDoorMs23
import Derived.Test.YtofmkndhocinmaaGreatDoorMs27
set_option linter.all false
set_option maxRecDepth 100000
namespace Go.Proofs.YtofmkndhocinmaaGreatDoor
open Proofs.Tryz Go.RowKit Go.Deep
attribute [local go_sem ↓] Go.wp_at_zero Go.wp_at_succ
def zmb (l:List UInt8):List (List UInt8):=spl 10 (l.count 10) l
theorem Vn:(prog.info? 36).map (fun i=>(i.zero,i.size,i.bytes))=some (some (.agg #[.slice none 0 0,.string ⟨#[]⟩]),2,40):=by kernel_rfl
theorem Tryz.underlying22:prog.underlying 22=some (.slice 36):=by kernel_rfl
structure zq2 (text:List UInt8) (ls:List (List UInt8)) (rows:List zF):Prop where
 lines:zmb text=ls ++ [[]]
 len:ls.length=rows.length
 ok:∀ i,i<rows.length->zqp (ls.getD i []) (rows.getD i default)
 small:text.length<=65536
 m0:0<rows.length
 mm:rows.length<=800
def zig (w:World) (base:Nat) (rows:List zF) (v:Value) (i:Nat) (H:Nat->Value):Prop:=
 vJ w base 36 2 v i (yG i H (vk rows))/\∀ j,j<i->zi w w.heap.size (H j) (rows.getD j default).terms/\TyT w (H j)
theorem zig.chg {S:Nat->Prop} {w w' :World} {base:Nat} {rows:List zF} {v:Value} {i:Nat} {H:Nat->Value} (h:zig w base rows v i H) (hc:Chg S w w') (h1:∀ g,v.ownBlock=some g->¬ S g) (hS:∀ x,S x->(∀ cs,w.heap[x]?≠some (.cells cs 38 (0,0)))):zig w' base rows v i H:=
 ⟨h.1.chg hc h1,fun j hj=>⟨((h.2 j hj).1.off (h.2 j hj).2 hc hS).more hc.size,(h.2 j hj).2.chg hc hS⟩⟩
theorem zqn {w:World} {base m:Nat} {rows:List zF} {v:Value} {H:Nat->Value} (h:zig w base rows v m H) (hm:m=rows.length) (u:0<rows.length) (hb:m<=800) (ht:∀ j,j<rows.length->zB (rows.getD j default).bound):yM w v rows:=by
 subst hm
 rcases h.1.1.2 with ⟨_,u⟩ | ⟨g,r,y,e,_,D,z,l,C,B⟩
 . omega
 . subst e
   refine ⟨some ⟨g,0,none⟩,r,H,rfl,by omega,l,by omega,ym.of_own h.1.1,fun j b=>(h.2 j b).1,fun x hx=>?_⟩;obtain ⟨j,b,ex⟩:=List.mem_iff_getElem.1 hx;have:=ht j b;rw [<- ex]
   simpa [List.getD,List.getElem?_eq_getElem b] using this
def PrsR (w0:World) (b gw:Nat) (ws:List (List UInt8)) (rows:List zF) (iv rv:Value) (wr:World):Prop:=
 ∃ (i:Nat) (v:Value) (H:Nat->Value),i<=rows.length/\iv= .int .i64 i/\rv=v/\Hid (zig wr w0.heap.size rows v i H)/\Hid (zr wr b)/\Hid (Blk wr gw 9 (ws.map str).toArray)/\Hid (Chg (· =b) w0 wr)
theorem zr.ne' {w:World} {b x:Nat} {cs:Array Value} {t:TypeId} {fr:Nat×Nat} (h:zr w b) (k:w.heap[x]?=some (.cells cs t fr)):x≠b:=by
 intro e
 subst e
 obtain ⟨D,⟨j,c,hb,_⟩,_⟩:=h
 rw [k] at hb;cases hb
theorem zrd {w:World} {g:Nat} {t:TypeId} {a b:Value} (h:Blk w g t #[a,b]):∀ (j:Nat) (u:Value),[a,b][j]?=some u->w.cell? ((⟨g,0,none⟩:Addr).add j)=some u:=by
 intro j u hu
 have e:((⟨g,0,none⟩:Addr).add j)=⟨g,j,none⟩:=by
  unfold Addr.add
  by_cases h:j=0
  . subst h;rfl
  simp [h]
 rw [e,h.cell j, <- hu]
 simp
theorem zfm {w:World} {b:Nat} (h:zr w b):∀ x,x=b->(∀ cs,w.heap[x]?≠some (.cells cs 38 (0,0))):=fun x e cs h1=>h.ne' h1 e
def zur (rows:List zF) (w:World) (e:Ending) (w' :World):Prop:=
 ∃ A c,e= .returned (.tuple #[.slice A rows.length c,.int .i64 0,.int .i64 0])/\yM w' (.slice A rows.length c) rows/\Below w.heap.size w w'
set_option maxHeartbeats 8000000 in
theorem zhk (text:List UInt8) (ls:List (List UInt8)) (rows:List zF) (s:List UInt8) (w:World) (hok:zq2 text ls rows) (F:XB rows s):
 Calls prog 15 #[str text] w (zur rows w):=by
 obtain ⟨m,R⟩:=uQ rows.length
 obtain ⟨N,hN⟩:=uQ (m+1)
 have T:bts ⟨text.toArray⟩=text:=xf text
 have L:=fun w=>zez ⟨text.toArray⟩ 10 w (by rw [<- zq,T];have:=hok.small;omega)
 rw [T] at L
 change ∀ w,Calls _ _ _ w (zjs w (zmb text)) at L
 rw [hok.lines] at L
 have ad:(ls ++ [[]]).length=N:=by rw [List.length_append,hok.len,hN,R];rfl
 have az:=hok.small
 have aN:=hok.mm
 rw [<- R] at aN
 have d1:decide (((⟨text.toArray⟩:ByteArray).size:Int)>65536)=false:=by
  rw [decide_eq_false_iff_not, <- zq,T];omega
 have d2:decide ((text.length:Int)>65536)=false:=by rw [decide_eq_false_iff_not];omega
 obtain ⟨J,H1,ae,aE,O,HN⟩:=hz6 hok F L ad R hN
 have aC:=@run_makeMap prog
 have e1:IntKind.i64.wrap ((N:Int) - 1)=(m:Int):=by rw [IntKind.wrap_i64];omega
 have e2:(m:Int)<(N:Int):=by omega
 have e3:(m:Int)<=(N:Int):=by omega
 clear hok F L ad R hN T az
 go_in
 go_wp2_with fail
 refine (ae.o _).mono ?_
 rintro e w1 ⟨X,rfl,aq,aR,av⟩
 rw [aE.o]
 clear ae d1 d2
 have B:=ze aq
 have aI:=ze av
 clear aq av
 have p1:w1.cell? ⟨X,m,none⟩=some (str []):=by
  rw [B.o.cell]
  have F:ls.length=m:=by rw [J.o.len,O.o]
  simp [<- F]
 have e4:IntKind.i64.wrap (m:Int)=(m:Int):=by rw [IntKind.wrap_i64];omega
 go_upto_region 6 with fail
 clear p1 e1 e2 e3 e4
 have Q:=zf w1 (.map #[] 0)
 have z:=ze (zr.new w1)
 have C:Hid (Chg (· =w1.heap.size) w1 (w1.alloc (.map #[] 0))):=Chg.of_below Q
 replace B:=kb_ B Q
 clear Q
 go_upto_region 7 with fail
 clear aC
 have y:Hid (zig (w1.alloc (.map #[] 0)) w1.heap.size rows (.slice none 0 0) 0 (fun _=>undef)):=⟨Zk _ _ _ _,fun j hj=>by omega⟩
 generalize w1.alloc (.map #[] 0)=W2 at z C B y |-
 obtain ⟨b,hb⟩:=uQ w1.heap.size
 rw [<- hb] at z C |-
 have aH:=ze hb
 clear hb
 go_wp2
 go_loopw [32,2] (PrsR w1 b X (ls ++ [[]]) rows) (fun iv _ _=>m - (intOf iv).toNat)
 case atStart=>exact ⟨0,_,_,uB,rfl,rfl,y,z,B,C⟩
 case round=>
  clear y z B C
  obtain ⟨i,v,H,hi,rfl,rfl,y,z,B,C⟩:=hrel
  by_cases aF:i<m
  rotate_left
  . obtain rfl:m=i:=by have:=O.o;omega
    have S:=zqn y.o O.o J.o.m0 (by omega) (fun j hj=>(J.o.ok j hj).tinyb);obtain ⟨A,c,H2,ev,_⟩:=id S;subst ev;have ah:=zk3 b A rows.length c rows s wr z.o S H1.o;have ac:=ze ah;have aD:=ze S;clear ah S y;go_wp2_with fail;refine ac.o.mono ?_;rintro e w2 ⟨rfl,M,E⟩;have aB:=ze (z.o.keepRows E aD.o);replace C:=ze (yg C.o E);clear M ac;go_wp2;go_ret3;exact ⟨A,c,rfl,aB.o.more E.size,ext aI.o (C.o.below (uA) (fun x e=>by have:=aH.o;omega))⟩
  have aT:(i:Int)<(m:Int):=by omega
  have ab:i<rows.length:=by rw [<- O.o];exact aF
  have Y:=J.o.ok i ab;obtain ⟨l,hl⟩:=uQ (ls.getD i []);obtain ⟨r,hr⟩:=uQ (rows.getD i default)
  have p1:wr.cell? ⟨X,i,none⟩=some (str l):=by
   have F:i<ls.length:=by rw [J.o.len];exact ab
   rw [B.o.cell,hl,List.getElem?_toArray,List.map_append,List.getElem?_append_left (by rw [List.length_map];exact F),List.getElem?_map]
   simp [List.getD,List.getElem?_eq_getElem F]
  rw [<- hl, <- hr] at Y;have am:=zlk b l r wr z.o Y;have al:=ze am;have HR:=ze hr;clear Y hl hr am;go_wp2_with fail;refine al.o.mono ?_;rintro e w4 ⟨g,I,G,cs,rfl,V,aJ,ao,ag,M,E⟩;subst aJ;have ar:=y.o.chg E (fun c hc e=>by obtain ⟨cs,q⟩:=y.o.1.heap hc;exact z.o.ne' q e) (zfm z.o);replace B:=ze (z.o.keepBlk E B.o);replace C:=ze (yg C.o E);replace z:=ze M;replace y:=ze ar;obtain ⟨aM,an,aa⟩:=hz3 V ao ag;have ak:=zrd V;have af:=xh (a:=.slice I r.terms.length G) (b:=str r.bound) (p:=fun u=>u.oneCell' =true) rfl rfl;have aj:=xh (a:=.slice I r.terms.length G) (b:=str r.bound) (p:=Zp) (zH _ _ _) (yF _)
  have ai:∀ u∈(Value.agg #[.slice none 0 0,.string ⟨#[]⟩]).cells,Zp u:=by
   intro u hu;simp [Value.cells] at hu;rcases hu with rfl | rfl
   . exact zH _ _ _
   . exact yF _
  obtain ⟨i1,aL,aA,aP,aG⟩:=info_parts Vn;clear M E ar V ao ag p1 al;go_wp2_with (at_builtin;go_must (refine zS (P:=prog) rfl (.tmp 47) (.tmp 48) _ rfl w1.heap.size 36 i1 _ 2 40 underlying22 aL aA aP aG rfl (by omega) _ i _ rfl y.o.1 ⟨g,0,none⟩ 1 1 [.slice I r.terms.length G,str r.bound] rfl rfl (by omega) ak af aj ai ?o4 ?o5 ?o6 ?_))
  case o4=>unfold maxLen;omega
  case o5=>omega
  case o6=>exact C.o.size
  intro v3 Z U au aO;obtain ⟨g3,ay,ev,_,_⟩:=U.1.form (by omega);subst ev;have D:=xN au;have ap:=fun c hc=>(y.o.1.1.lt c hc).1
  have hD:=fun x e=>y.o.1.2 x e
  have K:∀ x,Value.ownBlock _=some x->(∀ cs,w4.heap[x]?≠some (.cells cs 38 (0,0))):=fun x e cs q=>by
   obtain ⟨aS,q2⟩:=y.o.1.heap e;rw [q2] at q;injection q with q
   injection q with _ q _
   exact absurd q (by decide)
  have aK:Hid (zr Z b):=z.o.chg D (fun e=>by
   obtain ⟨cs,q⟩:=y.o.1.heap e
   exact z.o.ne' q rfl) hD
  have aQ:=ze (D.blk B.o (fun e=>by
   obtain ⟨cs,q⟩:=y.o.1.heap e
   exact yZ B.o q (by decide) rfl))
  have aw:Hid (Chg (· =b) w1 Z):=C.o.trans D (fun x Q e=>by have:=ap _ e;omega)
  have ax:Hid (zig Z w1.heap.size rows (.slice (some ⟨g3,0,none⟩) (i+1) ay) (i+1) (fun j=>if j=i then .slice I r.terms.length G else H j)):=by
   refine ⟨?_,fun j hj=>?_⟩
   rotate_left
   . by_cases ej:j=i
     . subst ej
       simp only [if_pos];rw [<- HR.o];exact ⟨(an.o.off aa.o D K).more D.size,aa.o.chg D K⟩
     simp only [if_neg ej]
     exact ⟨((y.o.2 j (by omega)).1.off (y.o.2 j (by omega)).2 D K).more D.size,(y.o.2 j (by omega)).2.chg D K⟩
   have e:yG i H (vk rows) ++ [.slice I r.terms.length G,str r.bound]=yG (i+1) (fun j=>if j=i then .slice I r.terms.length G else H j) (vk rows):=by
    rw [xX]
    congr 1
    . exact Yg (fun k hk=>⟨by rw [if_neg (by omega)],rfl⟩)
    rw [if_pos rfl]
    unfold vk;rw [<- HR.o]
   rw [e] at U;exact U
  clear U au aO D ap hD K z B C y aM an aa ak af aj ai;go_wp2;go_roundw
  case rel=>exact ⟨i+1,_,_,by omega,by go_num,rfl,ax,aK,aQ,aw⟩
  case measure=>simp [intOf];omega
theorem VW {w:World} {base n:Nat} {v:Value} {l:List zm} (h:w.ownsRow base 38 2 v n (yG l.length (vw l) (vq l))) (hl:l.length<=100000) (ht:∀ x∈l,zB x.name/\zB x.coef):zi w w.heap.size v l:=by
 have e:l.length=n:=by have:=h.1;rw [Vh] at this;omega
 subst e
 rcases h.2 with ⟨rfl,r⟩ | ⟨g,m,u,rfl,hb,B,j,b,z,y⟩
 . have e:l=[]:=List.length_eq_zero_iff.1 r
   subst e;exact ⟨none,0,rfl,uA,by unfold maxLen;omega,by simp,ym.none_,ht⟩
 . exact ⟨some ⟨g,0,none⟩,m,rfl,j,b,hl,ym.of_own h,ht⟩
theorem zgp {w:World} {base n:Nat} {tv:Value} {xs:List Value} (h:w.ownsRow base 38 2 tv n xs):TyT w tv:=fun A k c e hn=>by
 subst e
 rcases h.2 with ⟨e,m⟩ | ⟨g,l,b,e,_,j,_⟩
 . injection e with e1 e2;omega
 . injection e with e1 e2 e3
   exact ⟨g,b,e1,j⟩
theorem zkn (l:List zm):∀ u∈yG l.length (vw l) (vq l),u.oneCell' =true:=by
 intro u hu
 unfold yG at hu
 obtain ⟨i,_,hu⟩:=List.mem_flatMap.1 hu
 simp only [List.mem_cons,List.not_mem_nil,or_false] at hu
 rcases hu with rfl | rfl<;>rfl
def zqi (w:World) (l:List zm) (e:Ending) (w' :World):Prop:=∃ v,e= .returned v/\zi w' w'.heap.size v l/\TyT w' v/\Below w.heap.size w w'
theorem zh6 (A:Option Addr) (n c B:Nat) (l:List zm) (w:World) (ht:zi w B (.slice A n c) l) (hB:B<=w.heap.size):
 Calls prog 47 #[.slice A n c] w (zqi w l):=by
 obtain rfl:=ht.len
 have Q:l.length<=100000:=by obtain ⟨_,_,_,_,_,h,_⟩:=id ht;exact h
 have u:ym w w.heap.size 2 A l.length (yG l.length (vw l) (vq l)):=by
  obtain ⟨_,_,e,_,_,_,h,_⟩:=ht.more hB
  injection e with e1 e2 e3
  subst e1
  exact h
 have z:∀ x∈l,zB x.name/\zB x.coef:=by obtain ⟨_,_,_,_,_,_,_,h⟩:=id ht;exact h
 have r:=ze z
 clear ht z
 have G:∀ (w:World) (a:Option Addr) (n c n' c' :Nat),(binOp .eql 34 (.slice a n c) (.slice none n' c')).run prog w= .ok (.bool a.isNone) w:=fun w a n c n' c' =>Lib.run_eql_slice_nil w _ _ a n c n' c' underlying34
 rcases A with _ | b
 . have hd:l=[]:=by
    apply uI
    rcases uN l.length with h | h
    . exact h
    . obtain ⟨b,h,_⟩:=u.2 h
      cases h
   subst hd
   go_in
   go_wp2;go_ret;exact ⟨_,rfl,⟨none,0,rfl,uA,by unfold maxLen;omega,by simp,ym.none_,r.o⟩,fun A k c e hn=>by (injection e with e1 e2;omega),Below.refl _ _⟩
 . obtain ⟨M,R,D,K,N⟩:=info_parts zed
   have J:=G w (some b) l.length c 0 0;simp only [Option.isNone_some] at J
   go_in
   have j:=ze Q;have O:=zkn l;go_wp2_with (at_builtin;go_must (refine xI _ rfl (.tmp 5) (.tmp 6) _ rfl w.heap.size 38 M _ 2 32 underlying34 R D K N rfl (by omega) (.slice (some ⟨w.heap.size,0,none⟩) 0 0) 0 [] rfl ?o1 w.heap.size (some b) l.length c (yG l.length (vw l) (vq l)) rfl (u.alloc (uA) _) O ?o2 ?o3 ?o4 ?_))
   case o1=>exact World.ownsRow_lit w #[] 0 (uA) (uB) rfl
   case o2=>have:=j.o;unfold maxLen;omega
   case o3=>have:=j.o;omega
   case o4=>simp
   intro L w1 m C E;have y:=ze m;have I:=ze C;clear m C E;go_wp2;go_ret;refine ⟨L,rfl,VW y.o j.o r.o,zgp y.o,?_⟩;refine ((Below.refl _ _).alloc (uA) _).grown I.o (by simp) ?_;intro k F
   simp [Value.ownBlock] at F
   omega
def zuy (w:World) (r:zF) (e:Ending) (w' :World):Prop:=∃ A c,e= .returned (.agg #[.slice A r.terms.length c,str r.bound])/\zi w' w'.heap.size (.slice A r.terms.length c) r.terms/\Below w.heap.size w w' /\TyT w' (.slice A r.terms.length c)
theorem zkq (A:Option Addr) (n c B:Nat) (r:zF) (w:World) (ht:zi w B (.slice A n c) r.terms) (hB:B<=w.heap.size):
 Calls prog 20 #[.agg #[.slice A n c,str r.bound]] w (zuy w r):=by
 obtain ⟨W,D⟩:=uQ ((w.alloc (.cells #[.slice A n c,str r.bound] 36)).alloc (.cells #[.slice none 0 0,.string ⟨#[]⟩] 36))
 have l:=ext (zf w (.cells #[.slice A n c,str r.bound] 36)) (zf (w.alloc (.cells #[.slice A n c,str r.bound] 36)) (.cells #[.slice none 0 0,.string ⟨#[]⟩] 36))
 have E:=(Blk.new w 36 #[.slice A n c,str r.bound]).alloc (.cells #[.slice none 0 0,.string ⟨#[]⟩] 36)
 have u:=Blk.new (w.alloc (.cells #[.slice A n c,str r.bound] 36)) 36 #[.slice none 0 0,.string ⟨#[]⟩]
 simp only [World.size_alloc] at u
 rw [<- D] at l E u
 obtain ⟨O,b,F⟩:=hz3 E u l
 have Y:Hid (zi W W.heap.size (.slice A n c) r.terms):=(zi.below (ht.more hB) l).more l.size
 clear ht l E u hB
 go_in
 go_upto_region 1 with fail
 rw [<- D]
 clear D;obtain ⟨a0,V,_⟩:=bq2 O;have J:=O.o.lt
 have z:∀ w',Hid (Below W.heap.size W w')->w'.cell? ⟨w.heap.size,0,none⟩=some (.slice A n c)/\w'.cell? ⟨w.heap.size,1,none⟩=some (str r.bound):=fun w' hB=>⟨zk hB J a0,zk hB J V⟩
 refine XJ z 5 (zw W) fun j=>?_
 refine tK 0 ?_
 refine tK 1 ?_
 refine tK 3 ?_
 refine tK 4 ?_
 refine rK 2 fun K hK=>?_
 go_simp
 go_at_call 47
 refine (zh6 A n c W.heap.size r.terms _ (zi.below Y.o j.1.out) j.1.out.size).mono ?_
 rintro e y ⟨v,rfl,I,M,N⟩
 obtain ⟨m,c2,rfl,_⟩:=id I
 have L:=ze M
 clear M
 have X:=ze I
 clear I
 refine hK.out _ _ (zl (zo N j.1) (z _)) ?_
 clear hK K j
 intro j
 try simp only [Act.put,xST]
 clear N
 have C:=(j.1).out
 try clear z0 T Q
 replace b:=kb_ b C
 replace F:=eb_ F C
 clear C j z
 refine hdn ?_
 simp only [xDR]
 obtain ⟨z0,T,Q⟩:=ztz b.o
 have Z:=b.o.frozen 0;have f1:=b.o.frozen 1
 go_wp2_with fail
 have R:Blk ((y.setCell ⟨w.heap.size+1,0,none⟩ (.slice m r.terms.length c2)).setCell ⟨w.heap.size+1,1,none⟩ (str r.bound)) (w.heap.size+1) 36 #[.slice m r.terms.length c2,str r.bound]:=(b.o.set_ 0 _).set_ 1 _
 obtain ⟨e0,U,_⟩:=bp2 R
 have G:Chg (fun x=>x=w.heap.size+1) y ((y.setCell ⟨w.heap.size+1,0,none⟩ (.slice m r.terms.length c2)).setCell ⟨w.heap.size+1,1,none⟩ (str r.bound)):=by
  apply Chg.setCell (S:=fun x=>x=w.heap.size+1) ?_ (by rfl)
  apply Chg.setCell (S:=fun x=>x=w.heap.size+1) ?_ (by rfl)
  exact Chg.refl y
 refine bodyPost_ret (v:=.agg #[.slice m r.terms.length c2,str r.bound]) (by simp [results,results20,go_sem,e0,U]) rfl ?_
 exact ⟨m,c2,rfl,(X.o.off L.o G (fun x hx cs h=>by subst hx;rw [b.o] at h;injection h with h;injection h with _ h _;exact absurd h (by decide))).more G.size,(F.o.setCell (by show w.heap.size<=w.heap.size+1;omega) _).setCell (by show w.heap.size<=w.heap.size+1;omega) _,L.o.chg G (fun x hx cs h=>by subst hx;rw [b.o] at h;injection h with h;injection h with _ h _;exact absurd h (by decide))⟩
def zjp (w:World) (B:Nat) (v:Value) (l:List zm):Prop:=zi w B v l\/(zi w w.heap.size v l/\TyT w v)
def VU (w:World) (x:Nat):Prop:=∀ cs,w.heap[x]?≠some (.cells cs 38 (0,0))
section
variable {S:Nat->Prop} {w w' :World} {B:Nat} {v:Value}
theorem zjp.chg {l:List zm} (h:zjp w B v l) (hc:Chg S w w') (hT:∀ x,S x->VU w x) (hB:∀ x,x<B->S x->Zn w x):zjp w' B v l:=by
 rcases h with h | ⟨h,b⟩
 . exact .inl (h.chg hc hB)
 . exact .inr ⟨(h.off b hc (fun x hx=>hT x hx)).more hc.size,b.chg hc (fun x hx=>hT x hx)⟩
theorem zjp.is {l:List zm} (h:zjp w B v l) (hB:B<=w.heap.size):zZ w v l:=by
 rcases h with h | ⟨h,_⟩
 . exact h.more hB
 . exact h
def ZH (w:World) (B:Nat) (v:Value) (L:List zF):Prop:=
 ∃ H:Nat->Value,vJ w B 36 2 v L.length (yG L.length H (vk L))/\∀ j,j<L.length->zjp w B (H j) (L.getD j default).terms
theorem ZH.nil (w:World) (B:Nat):ZH w B (.slice none 0 0) []:=⟨fun _=>undef,Zk _ _ _ _,fun j hj=>absurd hj (by simp)⟩
theorem ZH.chg {L:List zF} (h:ZH w B v L) (hc:Chg S w w') (ho:∀ g,v.ownBlock=some g->¬ S g) (hT:∀ x,S x->VU w x) (hB:∀ x,x<B->S x->Zn w x):ZH w' B v L:=by
 obtain ⟨H,b,e⟩:=h
 exact ⟨H,b.chg hc ho,fun j hj=>(e j hj).chg hc hT hB⟩
theorem ZH.form {L:List zF} (h:ZH w B v L):∃ A c,v= .slice A L.length c:=by
 obtain ⟨H,b,_⟩:=h
 obtain ⟨A,c,e,_⟩:=zas b.1
 exact ⟨A,c,e⟩
theorem ZH.own {L:List zF} (h:ZH w B v L) {g:Nat} (e:v.ownBlock=some g):B<=g/\VU w g/\zK w g/\∃ cs,w.heap[g]?=some (.cells cs 36 (0,0)):=by
 obtain ⟨H,b,_⟩:=h
 obtain ⟨cs,q⟩:=b.heap e
 exact ⟨(b.1.lt g e).1,fun cs2 q2=>by
  rw [q] at q2
  injection q2 with q2
  injection q2 with _ q2 _
  exact absurd q2 (by decide),b.2 g e,cs,q⟩
theorem ZH.rows {L:List zF} (h:ZH w B v L) (hB:B<=w.heap.size) (hl:L.length<=100000) (hs:∀ r∈L,zB r.bound):yM w v L:=by
 obtain ⟨H,l,m⟩:=h
 rcases l.1.2 with ⟨b,z⟩ | ⟨g,y,C,b,_,G,D,u,F,E⟩
 . have e:L=[]:=List.length_eq_zero_iff.1 z
   subst e;subst b;exact ⟨none,0,H,rfl,uA,by unfold maxLen;omega,by simp,ym.none_,fun j hj=>absurd hj (by simp),fun x hx=>by cases hx⟩
 . subst b
   exact ⟨some ⟨g,0,none⟩,y,H,rfl,by omega,u,hl,ym.of_own l.1,fun j hj=>(m j hj).is hB,hs⟩
theorem ZH.at_ {L:List zF} {A:Option Addr} {n c:Nat} (h:ZH w B (.slice A n c) L) {k:Nat} (hk:k<L.length):
 ∃ b j l,A=some b/\b.block<w.heap.size/\w.cell? (b.add (k*2))=some (.slice j L[k].terms.length l)/\w.cell? ⟨(b.add (k*2)).block,(b.add (k*2)).off+1,none⟩=some (str L[k].bound)/\zjp w B (.slice j L[k].terms.length l) L[k].terms:=by
 obtain ⟨H,r,y⟩:=h
 have hd:=xGD (d:=default) hk
 have m:=y k hk
 rw [hd] at m
 obtain ⟨A',c',e,_⟩:=zas r.1
 injection e with e1 e2 e3
 subst e1
 subst e2
 subst e3
 have z:ym w w.heap.size 2 A L.length (yG L.length H (vk L)):=ym.of_own r.1
 obtain ⟨b,e,hb,u,c1⟩:=z.at2 hk
 obtain ⟨j,l,C⟩:∃ j l,H k= .slice j L[k].terms.length l:=by
  rcases m with ⟨A,c,e,_⟩ | ⟨⟨A,c,e,_⟩,_⟩
  . exact ⟨A,c,e⟩
  . exact ⟨A,c,e⟩
 rw [C] at u m
 simp only [vk,hd] at c1
 exact ⟨b,j,l,e,hb,u,c1,m⟩
theorem ZH.push {L:List zF} {r:zF} {tv v' :Value} {H:Nat->Value} (hc:Chg S w w') (h2:∀ j,j<L.length->zjp w B (H j) (L.getD j default).terms) (hT:∀ x,S x->VU w x) (hB:∀ x,x<B->S x->Zn w x)
 (ho:vJ w' B 36 2 v' (L.length+1) (yG L.length H (vk L) ++ [tv,str r.bound])) (ht:zjp w B tv r.terms):ZH w' B v' (L ++ [r]):=by
 have b:(L ++ [r]).length=L.length+1:=by simp
 refine ⟨fun j=>if j=L.length then tv else H j,?_,fun j hj=>?_⟩
 . have e:yG L.length H (vk L) ++ [tv,str r.bound]=yG (L.length+1) (fun j=>if j=L.length then tv else H j) (vk (L ++ [r])):=by
    rw [xX]
    congr 1
    . exact Yg (fun k hk=>⟨by rw [if_neg (by omega)],by unfold vk;simp [List.getD,List.getElem?_append_left hk]⟩)
    rw [if_pos rfl]
    unfold vk
    simp [List.getD]
   rw [b, <- e];exact ho
 rw [b] at hj
 by_cases l:j=L.length
 . subst l
   simp only [if_pos];have:(L ++ [r]).getD L.length default=r:=by simp [List.getD]
   rw [this];exact ht.chg hc hT hB
 simp only [if_neg l]
 have:(L ++ [r]).getD j default=L.getD j default:=by simp [List.getD,List.getElem?_append_left (show j<L.length by omega)]
 rw [this];exact (h2 j (by omega)).chg hc hT hB
end
structure ElK (w0 w:World) (b:Nat) (rv vo vu vd:Value) (rows Lo Lu Ld:List zF):Prop where
 book:zr w b
 rows:zW w w0.heap.size rv rows
 o:ZH w w0.heap.size vo Lo
 u:ZH w w0.heap.size vu Lu
 d:ZH w w0.heap.size vd Ld
 ou:∀ g,vo.ownBlock=some g->vu.ownBlock≠some g
 od:∀ g,vo.ownBlock=some g->vd.ownBlock≠some g
 ud:∀ g,vu.ownBlock=some g->vd.ownBlock≠some g
 below:Below w0.heap.size w0 w
 hb:w0.heap.size<=b
section
variable {w0 w w' :World} {b:Nat} {rv vo vu vd:Value} {rows Lo Lu Ld:List zF}
theorem zr.noTerm (h:zr w b):VU w b:=fun cs e=>h.ne' e rfl
theorem ElK.turn (h:ElK w0 w b rv vo vu vd rows Lo Lu Ld) (hc:Chg (· =b) w w') (hB:zr w' b):ElK w0 w' b rv vo vu vd rows Lo Lu Ld:=by
 have l:∀ x,x=b->VU w x:=fun x e=>by subst e;exact h.book.noTerm
 have j:∀ x,x<w0.heap.size->x=b->Zn w x:=fun x _ e=>by subst e;exact h.book.noCells
 have m:∀ {v:Value} {L:List zF},ZH w w0.heap.size v L->∀ g,v.ownBlock=some g->¬ g=b:=fun hl g e hg=>by
  obtain ⟨_,_,_,cs,q⟩:=hl.own e
  exact h.book.ne' q hg
 exact ⟨hB,h.book.keepRows hc h.rows,h.o.chg hc (m h.o) l j,h.u.chg hc (m h.u) l j,h.d.chg hc (m h.d) l j,h.ou,h.od,h.ud,h.below.trans (hc.below h.below.size (fun x e=>by have:=h.hb;omega)),h.hb⟩
theorem ElK.ext_ (h:ElK w0 w b rv vo vu vd rows Lo Lu Ld) (hb:Below w.heap.size w w'):ElK w0 w' b rv vo vu vd rows Lo Lu Ld:=h.turn (Chg.of_below hb) (h.book.below hb)
theorem ElK.swapU (h:ElK w0 w b rv vo vu vd rows Lo Lu Ld):ElK w0 w b rv vu vo vd rows Lu Lo Ld:=
 ⟨h.book,h.rows,h.u,h.o,h.d,fun g e e2=>h.ou g e2 e,h.ud,h.od,h.below,h.hb⟩
theorem ElK.swapD (h:ElK w0 w b rv vo vu vd rows Lo Lu Ld):ElK w0 w b rv vd vu vo rows Ld Lu Lo:=
 ⟨h.book,h.rows,h.d,h.u,h.o,fun g e e2=>h.ud g e2 e,fun g e e2=>h.od g e2 e,fun g e e2=>h.ou g e2 e,h.below,h.hb⟩
theorem ElK.push {H:Nat->Value} {r:zF} {tv v' :Value} (h:ElK w0 w b rv vo vu vd rows Lo Lu Ld) (h2:∀ j,j<Lo.length->zjp w w0.heap.size (H j) (Lo.getD j default).terms)
 (ho:vJ w' w0.heap.size 36 2 v' (Lo.length+1) (yG Lo.length H (vk Lo) ++ [tv,str r.bound])) (hg:w.grownBy w' vo.ownBlock) (hat:v'.ownBlock=vo.ownBlock\/v'.ownBlock=some w.heap.size) (ht:zjp w w0.heap.size tv r.terms):
 ElK w0 w' b rv v' vu vd rows (Lo ++ [r]) Lu Ld:=by
 have m:=xN hg
 have z:∀ x,vo.ownBlock=some x->VU w x:=fun x e=>(h.o.own e).2.1
 have y:∀ x,x<w0.heap.size->vo.ownBlock=some x->Zn w x:=fun x hx e=>by have:=(h.o.own e).1;omega
 have C:∀ x,vo.ownBlock=some x->zK w x:=fun x e=>(h.o.own e).2.2.1
 have B:∀ {v:Value} {L:List zF},ZH w w0.heap.size v L->∀ g,v.ownBlock=some g->g<w.heap.size:=fun hl g e=>by
  obtain ⟨_,_,_,cs,q⟩:=hl.own e
  exact (Array.getElem?_eq_some_iff.1 q).1
 refine ⟨h.book.chg m (fun e=>?_) C,h.rows.chg m y,ZH.push m h2 z y ho ht,h.u.chg m (fun g e e2=>h.ou g e2 e) z y,h.d.chg m (fun g e e2=>h.od g e2 e) z y,fun g e e2=>?_,fun g e e2=>?_,h.ud,h.below.trans (m.below h.below.size (fun x e=>(h.o.own e).1)),h.hb⟩
 . obtain ⟨_,_,_,cs,q⟩:=h.o.own e
   exact h.book.ne' q rfl
 . rcases hat with l | l
   . exact h.ou g (l.symm.trans e) e2
   . rw [l] at e
     injection e with e
     have:=B h.u g e2
     omega
 . rcases hat with l | l
   . exact h.od g (l.symm.trans e) e2
   . rw [l] at e
     injection e with e
     have:=B h.d g e2
     omega
end
end Go.Proofs.YtofmkndhocinmaaGreatDoor
