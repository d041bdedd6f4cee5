/- Parts of the proof. -/
import Derived.Laws.StructEq
import Derived.Test.YtnjljgidphemdaaGreatDoorMv42
import Derived.Test.YtnjljgidphemdaaGreatDoorMv44
set_option linter.all false
set_option maxRecDepth 100000
set_option maxHeartbeats 32000000
namespace Go.Proofs.YtnjljgidphemdaaGreatDoor
open Proofs.Tryz Go.RowKit Go.Deep
attribute [local go_sem ↓] Go.wp_at_zero Go.wp_at_succ
theorem zon (w:World) (x y:Operand) (a b:Array Value):(eqGuard .neq 45 x y (.agg a) (.agg b)).run prog w= .ok () w:=run_eqGuard_agg w _ _ _ _ _ _ (by kernel_rfl)
theorem zmn (w:World) (t s:zu):(binOp .neq 45 (.agg #[str t.name,str t.coef]) (.agg #[str s.name,str s.coef])).run prog w= .ok (.bool (!decide (t=s))) w:=by
 have hu:=underlying45
 rw [run_neq_struct,run_equalIn_struct w 9999 _ _ _ (by unfold Program.fieldsOf;rw [hu]) (by kernel_rfl)]
 unfold Program.fieldsOf
 rw [hu]
 have m:∀ (u v:Value) (w:World),(part 9 #[u,v] 0).run prog w= .ok u w:=fun _ _ _=>by kernel_rfl
 have e:∀ (u v:Value) (w:World),(part 25 #[u,v] 1).run prog w= .ok v w:=fun _ _ _=>by kernel_rfl
 have r:∀ (a b:List UInt8) (w:World),(Op.equalIn 9999 9 (str a) (str b)).run prog w= .ok (decide (a=b)) w:=fun a b w=>by
  have:=run_equalIn_string (P:=prog) w 9998 9 ⟨a.toArray⟩ ⟨b.toArray⟩ underlying9
  rw [Lib.toList_data,Lib.toList_data] at this
  rw [show (decide (a=b))=(a == b) from by rw [Bool.eq_iff_iff];simp]
  simpa using this
 have B:∀ (a b:List UInt8) (w:World),(Op.equalIn 9999 25 (str a) (str b)).run prog w= .ok (decide (a=b)) w:=fun a b w=>by
  have:=run_equalIn_string (P:=prog) w 9998 25 ⟨a.toArray⟩ ⟨b.toArray⟩ underlying25
  rw [Lib.toList_data,Lib.toList_data] at this
  rw [show (decide (a=b))=(a == b) from by rw [Bool.eq_iff_iff];simp]
  simpa using this
 simp only [Op.eqFields,Sem.run_bind,m,e,r,B,Result.andThen_ok,Sem.run_ite,Sem.run_pure]
 obtain ⟨l,D⟩:=t
 obtain ⟨j,z⟩:=s
 by_cases C:l=j<;>by_cases y:D=z<;>simp [C,y]
def SaeR (w0:World) (l m:List zu) (iv:Value) (wr:World):Prop:=
 ∃ i:Nat,i<=l.length/\iv= .int .i64 i/\Hid (∀ j,j<i->l.getD j default=m.getD j default)/\∃ k,wr=w0.drewN k
theorem zum {l m:List zu} (h:l.length=m.length) (hj:∀ j,j<l.length->l.getD j default=m.getD j default):l=m:=by
 apply List.ext_getElem h
 intro i b e
 have:=hj i b
 simpa [List.getD,List.getElem?_eq_getElem b,List.getElem?_eq_getElem e] using this
theorem zgr (A A2:Option Addr) (n c n2 c2 B B2:Nat) (l m:List zu) (w:World) (hl:zh w B (.slice A n c) l) (hm:zh w B2 (.slice A2 n2 c2) m):
 Calls prog 55 #[.slice A n c,.slice A2 n2 c2] w (fun e w' =>e= .returned (.bool (decide (l=m)))/\∃ k,w' =w.drewN k):=by
 obtain rfl:=hl.len
 obtain rfl:=hm.len
 have h1:l.length<=100000:=by obtain ⟨_,_,_,_,_,h,_⟩:=id hl;exact h
 have HL:=ze hl
 have Q:=ze hm
 clear hl hm
 go_in
 by_cases I:l.length=m.length
 rotate_left
 . have D:((l.length:Int) == (m.length:Int))=false:=uD (by omega)
   have C:Hid (l≠m):=fun e=>I (by rw [e])
   go_wp2;go_ret;exact ⟨by rw [uF C.o];rfl,0,rfl⟩
 have ac:(l.length:Int)=(m.length:Int):=by omega
 go_wp2
 go_loopw [5] (SaeR w l m) (fun iv _=>l.length - (intOf iv).toNat)
 case atStart=>exact ⟨0,uB,rfl,ze (fun j hj=>by omega),0,rfl⟩
 case round=>
  obtain ⟨i,hi,rfl,E,k,rfl⟩:=hrel
  by_cases K:i<l.length
  rotate_left
  . obtain rfl:l.length=i:=by omega
    have C:=ze (zum I E.o);go_wp2;go_ret;exact ⟨by rw [uE C.o];rfl,_,rfl⟩
  have ab:(i:Int)<(l.length:Int):=by omega
  have G:i<m.length:=by omega
  obtain ⟨ad,R,Y,p0,Z,_,_⟩:=HL.o.at_ K;obtain ⟨aa,O,V,N,U,_,_⟩:=Q.o.at_ G;subst R O;have M:=xGD (d:=default) K;have J:=xGD (d:=default) G;have D:l[i]≠m[i]->l≠m:=fun h e=>h (by simp only [e])
  have z:=ze D
  have u:Hid (l[i]=m[i]->∀ j,j<i+1->l.getD j default=m.getD j default):=ze (fun e j hj=>by
   by_cases X:j=i
   . subst X;rw [M,J,e]
   exact E.o j (by omega))
  clear M J D Y V;obtain ⟨t,F⟩:=uQ (l[i]);obtain ⟨s,L⟩:=uQ (m[i]);rw [<- F] at p0 Z u z;rw [<- L] at N U u z;clear F L;have hg:=fun (w:World) (x y:Operand) (a b:Array Value)=>zon w x y a b
  by_cases r:t=s
  rotate_left
  . have T:∀ w,(binOp .neq 45 (.agg #[str t.name,str t.coef]) (.agg #[str s.name,str s.coef])).run prog w= .ok (.bool true) w:=fun w=>by rw [zmn,uF r];rfl
    have C:=ze (z.o r);clear u z r;go_wp2
    go_quiet (fail)
    go_wp2;go_ret;exact ⟨by rw [uF C.o];rfl,_,World.drewN_drewN _ _ _⟩
  have T:∀ w,(binOp .neq 45 (.agg #[str t.name,str t.coef]) (.agg #[str s.name,str s.coef])).run prog w= .ok (.bool false) w:=fun w=>by rw [zmn,uE r];rfl
  have S:=ze (u.o r);clear u z r;go_wp2
  go_quiet (fail)
  go_wp2;go_roundw
  case rel=>exact ⟨i+1,by omega,by go_num,S,_,rfl⟩
  case measure=>simp [intOf];omega
theorem zdn {l:List (List UInt8)} {n:Nat} (h:xq l n=true):l.length=n:=by
 unfold xq at h
 rw [Bool.and_eq_true,decide_eq_true_eq] at h
 exact h.1
theorem VY (A AW:Option Addr) (n c nw cw:Nat) (rows:List zU) (l:List (List UInt8)) (w:World) (hr:yS w (.slice A n c) rows) (hl:zw w w.heap.size (.slice AW nw cw) l)
 (h8:rows.length<=800) (ho:xq l rows.length=true->Vb rows (xC l)):
 Calls prog 21 #[.slice A n c,.slice AW nw cw] w (VE w (.bool (Ya rows l))):=by
 obtain rfl:=hr.len
 have ad:=zd6 AW nw cw rows.length l w hl h8
 obtain ⟨z,M⟩:=uR (xq l rows.length)
 have ae:Ya rows l=(z && zek rows (xC l)):=by unfold Ya;rw [M]
 obtain ⟨C,S,E,L,O⟩:=hz5 M ae ad hr ho
 clear hr hl h8 ho ad M ae
 go_in
 go_wp2_with fail
 refine E.o.mono ?_
 rintro e w1 ⟨A1,c1,m1,rfl,j,D⟩
 rw [C.o] at j |-
 have b:=ze D
 cases z with
 | false=>
   clear j D L O E;go_wp2;go_ret;exact ⟨by rw [S.o];rfl,b.o⟩
 | true=>
   have Y:=zdn C.o;have j:=j rfl;rw [Y] at j;have HV:=ze j;have G:=ze (O.o C.o);have Z:=xre L D;clear j D L O E Y;go_wp2_with fail;refine (zgc A rows.length c _ rows (xC l) w1 Z.o HV.o G.o.join).mono ?_;rintro e w2 ⟨l2,T,N,aa,rfl,_,_,ac⟩;rw [zuq aa];obtain ⟨_,_,ab,ah⟩:=G.o.bound;have r:=ze (fun w=>xV _ _ w ab ah)
   have m:Hid (Ya rows l=(decide ((jnT rows (xC l)).length=0) && decide (ZA rows (xC l) rows.length<0))):=by
    show _=_
    rw [S.o,Bool.true_and];unfold zek
    congr 1
    exact decide_eq_decide.2 List.length_eq_zero_iff.symm
   replace b:=eb_ b ac;clear aa ac ab ah G Z HV S C;obtain ⟨bt,K⟩:=uQ (zI (ZA rows (xC l) rows.length));obtain ⟨Q,F⟩:=uQ (ZA rows (xC l) rows.length);obtain ⟨k,I⟩:=uQ ((jnT rows (xC l)).length);rw [<- K, <- F] at r;rw [<- F, <- I] at m;rw [<- K, <- I];clear K F I;have hx:=zf w2 (.cells #[.slice T k N,str bt] 31);have u:=ze (Blk.new w2 31 #[.slice T k N,str bt]);replace b:=eb_ b hx;clear hx
   go_upto_region 5 with fail
   generalize w2.alloc (.cells #[.slice T k N,str bt] 31)=W at u b |-;generalize w2.heap.size=g at u |-;obtain ⟨r0,r1,_⟩:=bq2 u
   by_cases V:k=0
   rotate_left
   . have ai:((k:Int) == 0)=false:=uD (by omega)
     have B:Hid (Ya rows l=false):=ze (by rw [m.o,uF V,Bool.false_and]);clear m r;go_wp2;go_ret;exact ⟨by rw [B.o];rfl,b.o⟩
   subst V
   have B:Hid (Ya rows l=decide (Q<0)):=ze (by rw [m.o];rfl);clear m;go_wp2_with fail;refine (r.o _).mono ?_;rintro e w3 ⟨v3,rfl,X,ag⟩;have R:=YG v3 Q w3 X;have J:Ya rows l=decide (Q.num.sign<0):=by rw [B.o];exact decide_eq_decide.2 (zj9 Q).symm
   generalize hy:Q.num.sign=y at R J;have U:=ze R;have HQ:=ze J;replace b:=eb_ b ag;clear R J hy X ag B r r0 r1 u;go_wp2_with fail;refine U.o.mono ?_;rintro e w4 ⟨rfl,af⟩;replace b:=eb_ b af;clear af U;go_wp2;go_ret;exact ⟨by rw [HQ.o];rfl,b.o⟩
theorem zde (A AW A3:Option Addr) (n c nw cw n3 c3:Nat) (rows:List zU) (r:zU) (l:List (List UInt8)) (w:World) (hr:yS w (.slice A n c) rows) (hl:zw w w.heap.size (.slice AW nw cw) l)
 (ht:zh w w.heap.size (.slice A3 n3 c3) r.terms) (hs:zS r.bound) (hb:zl r.bound=some (XY r)) (hbl:XV 8388608 (XY r))
 (h8:rows.length<=800) (ho:xq l rows.length=true->Vb rows (xC l)):
 Calls prog 24 #[.slice A n c,.agg #[.slice A3 n3 c3,str r.bound],.slice AW nw cw] w (VE w (.bool (Vp rows r l))):=by
 obtain rfl:=hr.len
 obtain rfl:=ht.len
 have j:=zf w (.cells #[.slice A3 r.terms.length c3,str r.bound] 31)
 have J:=ze (Blk.new w 31 #[.slice A3 r.terms.length c3,str r.bound])
 have HR:=ze ((zH.below hr j).more j.size)
 have HT:=ze ((zh.below ht j).more j.size)
 have b:=ze j
 have aB:=zd6 AW nw cw rows.length l _ ((zw.below hl j).more j.size) h8
 obtain ⟨z,u⟩:=uR (xq l rows.length)
 have aF:Vp rows r l=(z && zt6 rows (xC l) r):=by unfold Vp;rw [u]
 obtain ⟨O,al,X,HO⟩:=hz4 u aF aB ho
 have aa:=ze (fun w=>xV _ _ w hs hb)
 have aI:=ze hbl
 clear hr hl ht hs hb hbl h8 ho aB u aF j
 go_in
 go_upto_region 1 with fail
 generalize w.alloc (.cells #[.slice A3 r.terms.length c3,str r.bound] 31)=W0 at J HR HT b X |-
 have aG:Hid (w.heap.size=w.heap.size):=rfl
 go_wp2_with fail
 refine X.o.mono ?_
 rintro e w1 ⟨A1,c1,m1,rfl,C,E⟩
 rw [O.o] at C |-
 replace b:=eb_ b E
 cases z with
 | false=>
   clear C E HR HO X HT J;go_wp2;go_ret;exact ⟨by rw [al.o];rfl,b.o⟩
 | true=>
   have ao:=zdn O.o;have C:=C rfl;rw [ao] at C;have HV:=ze C;have ab:=ze (HO.o O.o);have ax:=xre HR E;have aA:=xte HT E;have ag:=ze (J.o.below E J.o.lt);clear C E HR HO X ao HT J aG;go_wp2_with fail;refine (zgc A rows.length c _ rows (xC l) w1 ax.o HV.o ab.o.join).mono ?_;rintro e w2 ⟨l2,L,F,aD,rfl,ah,_,V⟩;rw [zuq aD] at ah |-;obtain ⟨_,aE,ap,aC⟩:=ab.o.bound;have N:=ze (fun w=>xV _ _ w ap aC);have az:=ze aE
   have D:Hid (Vp rows r l=(decide (jnT rows (xC l)=r.terms) && decide (ZA rows (xC l) rows.length<=XY r))):=by
    show _=_
    rw [al.o,Bool.true_and]
    rfl
   replace b:=eb_ b V;have af:=ze ah;have au:=xte aA V;have ai:=ze (ag.o.below V ag.o.lt);clear aD V ap aC aE ab ax HV al O ah aA ag;obtain ⟨bt,ac⟩:=uQ (zI (ZA rows (xC l) rows.length));obtain ⟨Q,hQ⟩:=uQ (ZA rows (xC l) rows.length);obtain ⟨T,U⟩:=uQ (jnT rows (xC l));rw [<- ac, <- hQ] at N;rw [<- hQ] at az;rw [<- hQ, <- U] at D;rw [<- U] at af;rw [<- ac, <- U];clear ac hQ U;obtain ⟨tl,aK⟩:=uQ r.terms.length;have j:=zf w2 (.cells #[.slice L T.length F,str bt] 31);have G:=ze (Blk.new w2 31 #[.slice L T.length F,str bt]);replace b:=eb_ b j;have I:=xte af j;have M:=xte au j;have S:=ze (ai.o.below j ai.o.lt);clear j af au ai
   go_upto_region 5 with fail
   generalize w2.alloc (.cells #[.slice L T.length F,str bt] 31)=W at G b I M S |-;generalize w2.heap.size=g at G |-;obtain ⟨r0,r1,rL⟩:=zw8 G.o;obtain ⟨s0,s1,sL⟩:=zw8 S.o;have R:=(zt W).out;replace I:=ze (zh.below I.o R);replace M:=ze (zh.below M.o R);replace b:=eb_ b R;obtain ⟨z,u⟩:=uR (decide (T=r.terms));rw [u] at D;have aw:=ze u;clear R u;have B:∀ w',Hid (Below W.heap.size W w')->w'.cell? ⟨g,0,none⟩=some (.slice L T.length F)/\w'.cell? ⟨g,1,none⟩=some (str bt)/\w'.cell? ⟨w.heap.size,0,none⟩=some (.slice A3 r.terms.length c3)/\w'.cell? ⟨w.heap.size,1,none⟩=some (str r.bound):=fun w' hB=>⟨zq hB rL r0,zq hB rL r1,zq hB sL s0,zq hB sL s1⟩
   refine Xc B 13 (zt W) fun m=>?_;refine tK 0 ?_;refine tK 1 ?_;refine tK 2 ?_;refine tK 3 ?_;refine rK 4 fun K hK=>?_
   go_simp
   go_at_call 55;refine (zgr L A3 T.length F r.terms.length c3 _ _ T r.terms _ I.o M.o).mono ?_;rintro e w4 ⟨rfl,m4,an⟩;rw [aw.o];have am:Below W.drew.heap.size W.drew w4:=by rw [an];exact zk (yR _) m4
   replace b:=eb_ b am;refine hK.out _ _ (zo (zp am (zt W)) (B _)) ?_;clear hK K m;intro m
   try simp only [Act.put,xST]
   clear am an I M aw
   cases z with
   | true=>
     refine tK 5 ?_;refine tK 6 ?_;refine tK 7 ?_;refine tK 9 ?_;refine tK 10 ?_;refine rK 8 fun K hK=>?_
     go_simp
     go_at_call 53;refine (N.o _).mono ?_;rintro e w5 ⟨v5,rfl,ay,aj⟩;have Z:=ze ay;replace b:=eb_ b aj;refine hK.out _ _ (zo (zp aj m.1) (B _)) ?_;clear hK K m;intro m
     try simp only [Act.put,xST]
     clear aj ay;refine rK 11 fun K hK=>?_
     go_simp
     go_at_call 53;refine (aa.o _).mono ?_;rintro e w6 ⟨v6,rfl,ar,Y⟩;replace Z:=ze (Z.o.below Y);have aq:=ze ar;replace b:=eb_ b Y;refine hK.out _ _ (zo (zp Y m.1) (B _)) ?_;clear hK K m;intro m
     try simp only [Act.put,xST]
     clear Y ar;have ad:=Xt _ _ Q (XY r) w6 Z.o aq.o az.o aI.o;have ae:Vp rows r l=decide ((Q - XY r).num.sign<=0):=by rw [D.o,Bool.true_and,zen,zm4]
     generalize hy:(Q - XY r).num.sign=y at ad ae;have av:=ze ad;have aJ:=ze ae;clear ad ae hy;refine rK 12 fun K hK=>?_
     go_simp
     go_at_call 56;refine av.o.mono ?_;rintro e w7 ⟨rfl,ak⟩;replace b:=eb_ b ak;refine hK.out _ _ (zo (zp ak m.1) (B _)) ?_;clear hK K m;intro m
     try simp only [Act.put,xST]
     clear ak;clear m B;refine hdn ?_;simp only [xDR];clear r0 r1 rL s0 s1 sL av Z aq D N aa G S;go_wp2;go_ret;exact ⟨by rw [aJ.o];rfl,b.o⟩
   | false=>
     have aH:Hid (Vp rows r l=false):=ze (by rw [D.o,Bool.false_and]);refine tK 5 ?_;refine sK 6 ?_;refine sK 7 ?_;refine sK 8 ?_;refine sK 9 ?_;refine sK 10 ?_;refine sK 11 ?_;refine sK 12 ?_;clear m B;refine hdn ?_;simp only [xDR];clear r0 r1 rL s0 s1 sL D N aa G S;go_wp2;go_ret;exact ⟨by rw [aH.o];rfl,b.o⟩
theorem zc5 {rows:List zU} (h:yf rows=0):rows.length<=800:=Classical.byContradiction fun h8=>by
 rw [Zx (by omega)] at h
 cases h
theorem zfd (A AW:Option Addr) (n c nw cw:Nat) (rows:List zU) (l:List (List UInt8)) (w:World) (hr:yS w (.slice A n c) rows) (hl:zw w w.heap.size (.slice AW nw cw) l)
 (hcnt:rows.length<=800->(zP (rows.map (·.terms))).length<=50000) (ho:yf rows=0->xq l rows.length=true->Vb rows (xC l)):
 Calls prog 9 #[.slice A n c,.slice AW nw cw] w (zul w (za9 rows l)):=by
 have B:=zdk A n c rows w hr hcnt
 generalize E:yf rows=z at B
 obtain ⟨m,D,C,y,I⟩:=hz5 B hr hl ho E
 have u:Hid (za9 rows l=if z≠0 then (false,z) else (Ya rows l,0)):=ze (by unfold za9;rw [E])
 clear B hr hl hcnt ho E
 go_in
 by_cases r:z=0
 . subst r
   go_wp2_with fail;refine m.o.mono ?_;rintro e F ⟨rfl,b⟩;have G:=ze (VY A AW n c nw cw rows l F ((zH.below D.o b).more b.size) ((zw.below C.o b).more b.size) (zc5 I.o) (y.o I.o));have j:=ze b;clear b m D C y;go_wp2_with fail;refine G.o.mono ?_;rintro e w2 ⟨rfl,J⟩;replace j:=eb_ j J;clear J G;go_wp2;go_ret2;exact ⟨by rw [u.o];rfl,j.o⟩
 have L:(z == 0)=false:=uD r
 have K:Hid (za9 rows l=(false,z)):=ze (by rw [u.o,if_pos r]);clear r u;go_wp2_with fail;refine m.o.mono ?_;rintro e F ⟨rfl,b⟩;have j:=ze b;clear b m D C y;go_wp2;go_ret2;exact ⟨by rw [K.o];rfl,j.o⟩
theorem zcs (A A2 AW:Option Addr) (n c n2 c2 nw cw:Nat) (rows:List zU) (r:zU) (l:List (List UInt8)) (w:World) (hr:yS w (.slice A n c) rows) (hg:zV w (.slice A2 n2 c2) r.terms) (hs:zS r.bound) (hl:zw w w.heap.size (.slice AW nw cw) l)
 (hcnt:rows.length<=800->(zP (rows.map (·.terms))).length<=50000) (hgl:r.terms.length<=50000) (ho:yf rows=0->xq l rows.length=true->Vb rows (xC l)):
 Calls prog 11 #[.slice A n c,.agg #[.slice A2 n2 c2,str r.bound],.slice AW nw cw] w (zul w (Vm rows r l)):=by
 have u:=zf w (.cells #[.slice A2 n2 c2,str r.bound] 31)
 have C:=ze (Blk.new w 31 #[.slice A2 n2 c2,str r.bound])
 have G:=ze ((zH.below hr u).more u.size)
 have E:=ze ((zh.below hg u).more u.size)
 have N:=ze ((zw.below hl u).more u.size)
 have b:=ze u
 have Q:=zk3 A A2 n c n2 c2 rows r _ G.o E.o hs hcnt hgl
 generalize hz:Zh rows r=z at Q
 obtain ⟨I,J,HO,HS⟩:=hz4 Q hz ho hs
 clear Q hr hg hl hs hcnt hgl ho u hz
 go_in
 go_upto_region 1 with fail
 generalize w.alloc (.cells #[.slice A2 n2 c2,str r.bound] 31)=W at C G E N b I |-
 obtain ⟨r0,y,_⟩:=bq2 C
 by_cases K:z=0
 rotate_left
 . have ae:(z == 0)=false:=uD K
   have B:Hid (Vm rows r l=(false,z)):=ze (by unfold Vm;rw [if_pos (by rw [J.o];exact K),J.o]);clear K;go_wp2_with fail;refine I.o.mono ?_;rintro e U ⟨rfl,m⟩;replace b:=eb_ b m;clear m I G E N C r0 y;go_wp2;go_ret2;exact ⟨by rw [B.o];rfl,b.o⟩
 subst K
 obtain ⟨S,X⟩:=zja J.o;have B:Hid (Vm rows r l=(Ya rows l || Vp rows r l,0)):=ze (by unfold Vm;rw [if_neg (fun h=>h J.o)]);go_wp2_with fail;refine I.o.mono ?_;rintro e U ⟨rfl,m⟩;have M:=xre G m;have O:=xne N m;have T:=xte E m;have F:=ze (C.o.below m C.o.lt);replace b:=eb_ b m;have ab:=ze (HO.o S);have Z:=ze (zc5 S);have ad:=ze (zgm X);clear m I G N E C r0 y HO J S X;have D:=ze (VY A AW n c nw cw rows l U M.o O.o Z.o ab.o);obtain ⟨p,L⟩:=uQ (Ya rows l);rw [<- L] at D B;clear L;obtain ⟨r0,y,_⟩:=bq2 F
 cases p with
 | true=>
   go_wp2_with fail;refine D.o.mono ?_;rintro e w2 ⟨rfl,j⟩;replace b:=eb_ b j;clear j D r0 y F M O T;go_wp2;go_ret2;exact ⟨by rw [B.o];rfl,b.o⟩
 | false=>
   go_wp2_with fail;refine D.o.mono ?_;rintro e w2 ⟨rfl,j⟩;obtain ⟨Y,V⟩:=YR ad.o;have R:=ze (zde A AW A2 n c nw cw n2 c2 rows r l w2 ((zH.below M.o j).more j.size) ((zw.below O.o j).more j.size) ((zh.below T.o j).more j.size) HS.o Y (nl V.sz (by omega)) Z.o ab.o);have aa:=ze (F.o.below j F.o.lt);replace b:=eb_ b j;clear j D r0 y F M O T Y V;obtain ⟨r0,y,_⟩:=bq2 aa;generalize L:Vp rows r l=p at R B;clear L;go_wp2_with fail;refine R.o.mono ?_;rintro e w3 ⟨rfl,ac⟩;replace b:=eb_ b ac;clear ac R r0 y aa;go_wp2;go_ret2;exact ⟨by rw [B.o];rfl,b.o⟩
theorem zrj (q:Rat):decide (q.num.sign>0)=decide (0<q):=by
 have h:=zm7 q 0
 rwa [show q - 0=q by rw [Rat.sub_eq_add_neg,Rat.neg_zero,Rat.add_zero]] at h
def TruR (w0:World) (rows:List zU) (p:List zu) (gA:Nat) (cs:Array Value) (kv:Value) (wr:World):Prop:=
 ∃ k:Nat,k<=rows.length/\kv= .int .i64 k/\Hid (∀ j,j<k->zmb p (rows.getD j default)=false)/\Hid (Blk wr gA 29 cs)/\Hid (Below w0.heap.size w0 wr)
theorem zub (A AG AP AY AW:Option Addr) (n c ng cg np cp ny cy nw cw:Nat) (rows:List zU) (goal:List zu) (a:zk1) (w:World) (hr:yS w (.slice A n c) rows) (hg:zV w (.slice AG ng cg) goal)
 (hp:zV w (.slice AP np cp) a.point) (hy:zV w (.slice AY ny cy) a.ray) (hl:zw w w.heap.size (.slice AW nw cw) a.weights) (ho:Vn rows goal a):
 Calls prog 33 #[.slice A n c,.slice AG ng cg,.agg #[.int .u8 a.kind,str a.value,.slice AP np cp,.slice AY ny cy,.slice AW nw cw]] w (VE w (.bool (Z3 rows goal a))):=by
 obtain rfl:=hr.len
 have ba:rows.length<=100000:=by obtain ⟨_,_,_,_,_,_,h,_⟩:=id hr;exact h
 have D:=zf w (.cells #[.int .u8 a.kind,str a.value,.slice AP np cp,.slice AY ny cy,.slice AW nw cw] 29)
 have l:=ze (Blk.new w 29 #[.int .u8 a.kind,str a.value,.slice AP np cp,.slice AY ny cy,.slice AW nw cw])
 have m:=ze ((zH.below hr D).more D.size)
 have r:=ze ((zh.below hg D).more D.size)
 have E:=ze ((zh.below hp D).more D.size)
 have G:=ze ((zh.below hy D).more D.size)
 have u:=ze ((zw.below hl D).more D.size)
 obtain ⟨b,a0,a2,HO⟩:=hz4 D hr hy ho
 have aQ:Hid (zS a.value):=ze (by have:=ho.sm.vl;unfold zS;omega)
 clear hr hg hp hy hl ho D
 go_in
 go_upto_region 1 with fail
 generalize w.alloc (.cells #[.int .u8 a.kind,str a.value,.slice AP np cp,.slice AY ny cy,.slice AW nw cw] 29)=W at l m r E G u b |-
 generalize aZ:w.heap.size=gA at l |-
 clear aZ
 obtain ⟨V,N,J,L,M,C⟩:=zth l.o
 by_cases ag:a.kind=2
 . have d2:(a.kind == 2)=true:=beq_iff_eq.2 ag
   have HT:Hid (Z3 rows goal a=Ya rows a.weights):=ze (by unfold Z3;rw [if_pos ag]);have aW:=ze (VY A AW rows.length c nw cw rows a.weights W m.o u.o (zc5 HO.o.r0) HO.o.ws);clear ag;go_wp2_with fail;refine aW.o.mono ?_;rintro e w1 ⟨rfl,B⟩;replace b:=eb_ b B;clear B aW m r E G u l V N J L M C;go_wp2;go_ret;exact ⟨by rw [HT.o];rfl,b.o⟩
 have d2:(a.kind == 2)=false:=uD ag
 have HT:Hid (Z3 rows goal a=if a.kind=1 then zj6 rows goal a else zff rows goal a):=ze (by unfold Z3;rw [if_neg ag]);clear ag;have ae:=ziu AP np cp a.point W E.o;generalize R:yI a.point=z at ae;have ab:=ze ae;clear ae
 by_cases O:z=0
 rotate_left
 . have I:Hid (Z3 rows goal a=false):=ze (by
    have hh:YW rows a.point=false:=by unfold YW;rw [R,uF O,Bool.false_and]
    rw [HT.o];unfold zj6 zff
    rw [hh,Bool.false_and,Bool.false_and,ite_self])
   have az:(z == 0)=false:=uD O;have a3:(z != 0)=true:=by simp [bne,az]
   clear R O HT;go_wp2_with fail;refine ab.o.mono ?_;rintro e w1 ⟨rfl,B⟩;replace b:=eb_ b B;clear B ab m r E G u l V N J L M C;go_wp2;go_ret;exact ⟨by rw [I.o];rfl,b.o⟩
 subst O
 have HZ:=ze R;clear R;go_wp2_with fail;refine ab.o.mono ?_;rintro e w1 ⟨rfl,B⟩;replace m:=xre m B;replace r:=xte r B;replace E:=xte E B;replace G:=xte G B;replace u:=xne u B;replace l:=kb_ l B;replace b:=eb_ b B;clear B ab V N J L M C;obtain ⟨V,N,J,L,M,C⟩:=zth l.o;have aD:=zqy A AP rows.length c np cp rows a.point w1 m.o E.o (HO.o.rowP HZ.o);have aE:YW rows a.point=decide (Y4 rows.length (X8 a.point rows)<0):=by unfold YW;rw [uE HZ.o,Bool.true_and]
 generalize hy:Y4 rows.length (X8 a.point rows)=y at aD aE;have ap:=ze aD;have au:=ze aE;clear aD aE hy
 by_cases U:y<0
 rotate_left
 . have d3:decide (y ≥ 0)=true:=uE (by omega)
   have I:Hid (Z3 rows goal a=false):=ze (by
    have hh:YW rows a.point=false:=by rw [au.o,uF U]
    rw [HT.o];unfold zj6 zff
    rw [hh,Bool.false_and,Bool.false_and,ite_self])
   clear au U HT;go_wp2_with fail;refine ap.o.mono ?_;rintro e w2 ⟨rfl,X⟩;replace b:=eb_ b X;clear X ap m r E G u l V N J L M C;go_wp2;go_ret;exact ⟨by rw [I.o];rfl,b.o⟩
 have d3:decide (y ≥ 0)=false:=uF (by omega)
 have aP:Hid (YW rows a.point=true):=ze (by rw [au.o,uE U]);clear au U;go_wp2_with fail;refine ap.o.mono ?_;rintro e w2 ⟨rfl,X⟩;replace m:=xre m X;replace r:=xte r X;replace E:=xte E X;replace G:=xte G X;replace u:=xne u X;replace l:=kb_ l X;replace b:=eb_ b X;clear X ap V N J L M C;obtain ⟨V,N,J,L,M,C⟩:=zth l.o
 by_cases ah:a.kind=1
 . have d1:(a.kind == 1)=true:=beq_iff_eq.2 ah
   have Z:Hid (Z3 rows goal a=((zl a.value).isSome && (decide (YD a.point goal goal.length=zej a) && Vp rows (XO goal a) a.weights))):=ze (by rw [HT.o,if_pos ah];unfold zj6;rw [aP.o,Bool.true_and]);clear ah HT;have ay:=Xf ⟨a.value.toArray⟩ w2 (by rw [<- zm,yt];exact aQ.o);rw [yt] at ay;have aM:=ze ay;clear ay;go_wp2_with fail;refine aM.o.mono ?_;rintro e w3 ⟨bb,ok,rfl,⟨ak,X3,m3,c3,Y3,m4,c4,rfl⟩,af,hq,aO⟩;have D:=ext aO (zf w3 (.cells #[.bool ak,.slice X3 m3 c3,.slice Y3 m4 c4] 112));have HN:=ze (Blk.new w3 112 #[.bool ak,.slice X3 m3 c3,.slice Y3 m4 c4]);replace m:=xre m D;replace r:=xte r D;replace E:=xte E D;replace u:=xne u D;replace l:=kb_ l D;replace b:=eb_ b D;have aj:=ze af;have HQ:=ze (fun q h=>(hq q h).below (zf w3 (.cells #[.bool ak,.slice X3 m3 c3,.slice Y3 m4 c4] 112)));clear D af hq aO aM V N J L M C G
   go_upto_region 7 with fail
   generalize w3.alloc (.cells #[.bool ak,.slice X3 m3 c3,.slice Y3 m4 c4] 112)=W4 at HN m r E u l b HQ |-;generalize w3.heap.size=gN at HN |-;obtain ⟨_,N,J,_,M,C⟩:=bq5 l;obtain ⟨n0,n1,n2,nL⟩:=bq3 HN;have S:=(zt W4).out;replace m:=xre m S;replace r:=xte r S;replace E:=xte E S;replace u:=xne u S;replace b:=eb_ b S;replace HQ:=ze (fun q h=>(HQ.o q h).below S);clear S;have T:∀ w',Hid (Below W4.heap.size W4 w')->w'.cell? ⟨gA,1,none⟩=some (str a.value)/\w'.cell? ⟨gA,2,none⟩=some (.slice AP np cp)/\w'.cell? ⟨gA,4,none⟩=some (.slice AW nw cw)/\w'.cell? ⟨gN,0,none⟩=some (.bool ak)/\w'.cell? ⟨gN,1,none⟩=some (.slice X3 m3 c3)/\w'.cell? ⟨gN,2,none⟩=some (.slice Y3 m4 c4):=fun w' hB=>⟨zq hB C N,zq hB C J,zq hB C M,zq hB nL n0,zq hB nL n1,zq hB nL n2⟩
   refine Xc T 19 (zt W4) fun F=>?_
   cases ok with
   | false=>
     have I:Hid (Z3 rows goal a=false):=ze (by rw [Z.o, <- aj.o,Bool.false_and]);refine tK 0 ?_;refine tK 1 ?_;refine sK 2 ?_;refine sK 3 ?_;refine sK 4 ?_;refine sK 5 ?_;refine sK 6 ?_;refine sK 7 ?_;refine sK 8 ?_;refine tK 9 ?_;refine tK 10 ?_;refine sK 11 ?_;refine sK 12 ?_;refine sK 13 ?_;refine sK 14 ?_;refine sK 15 ?_;refine sK 16 ?_;refine sK 17 ?_;refine sK 18 ?_;clear F T;refine hdn ?_;simp only [xDR];clear N J M C n0 n1 n2 nL Z HQ m r E u l HN;go_wp2;go_ret;exact ⟨by rw [I.o];rfl,b.o⟩
   | true=>
     obtain ⟨q,hq⟩:=Option.isSome_iff_exists.1 aj.o.symm;have ar:=ze (HQ.o q hq);have a5:Hid (XV 8388608 q):=nlE (HO.o.val hq) (by omega);have aT:zej a=q:=by unfold zej;rw [hq];rfl
     have ac:Hid (Z3 rows goal a=(decide (YD a.point goal goal.length=q) && Vp rows (XO goal a) a.weights)):=ze (by rw [Z.o, <- aj.o,Bool.true_and,aT]);have a7:=ze (HO.o.fit aj.o.symm);have aR:=ze (HO.o.goalP HZ.o);clear hq aT Z HQ aj;refine tK 0 ?_;refine tK 1 ?_;refine tK 2 ?_;refine tK 3 ?_;refine tK 4 ?_;refine tK 6 ?_;refine rK 5 fun K hK=>?_
     go_simp
     go_at_call 79;refine (zaj _ _ _ _ _ _ _ goal a.point _ r.o E.o (uA) aR.o).mono ?_;rintro e w5 ⟨v5,rfl,aN,Q⟩;replace m:=xre m Q;replace r:=xte r Q;replace u:=xne u Q;replace ar:=ze (ar.o.below Q);replace b:=eb_ b Q;have aV:=ze aN;refine hK.out _ _ (zo (zp Q (zt W4)) (T _)) ?_;clear hK K F;intro F
     try simp only [Act.put,xST]
     clear Q aN E;have ao:=Xt _ _ _ q w5 aV.o ar.o (aR.o.nlen (uA)) a5.o;rw [zen] at ao;have aB:=zc8 (YD a.point goal goal.length) q;generalize hy:XX (YD a.point goal goal.length) q=y at ao aB;have aJ:=ze ao;have an:=ze aB;clear ao aB hy;refine rK 7 fun K hK=>?_
     go_simp
     go_at_call 56;refine aJ.o.mono ?_;rintro e w6 ⟨rfl,Y⟩;replace m:=xre m Y;replace r:=xte r Y;replace u:=xne u Y;replace b:=eb_ b Y;refine hK.out _ _ (zo (zp Y F.1) (T _)) ?_;clear hK K F;intro F
     try simp only [Act.put,xST]
     clear Y aJ aV ar
     by_cases U:y=0
     rotate_left
     . have I:Hid (Z3 rows goal a=false):=ze (by rw [ac.o,uF (fun h=>U (an.o.2 h)),Bool.false_and])
       have a8:(y == 0)=false:=uD U;clear ac an U;refine tK 8 ?_;refine tK 9 ?_;refine tK 10 ?_;refine sK 11 ?_;refine sK 12 ?_;refine sK 13 ?_;refine sK 14 ?_;refine sK 15 ?_;refine sK 16 ?_;refine sK 17 ?_;refine sK 18 ?_;clear F T;refine hdn ?_;simp only [xDR];clear N J M C n0 n1 n2 nL m r u l HN;go_wp2;go_ret;exact ⟨by rw [I.o];rfl,b.o⟩
     have I:Hid (Z3 rows goal a=Vp rows (XO goal a) a.weights):=ze (by rw [ac.o,uE (an.o.1 U),Bool.true_and])
     subst U;obtain ⟨aX,aG⟩:=a7.o.bq;have aS:=ze (fun w hr hl ht=>zde A AW AG rows.length c nw cw ng cg rows (XO goal a) a.weights w hr hl ht aQ.o aX (nlE aG (by omega)) (zc5 HO.o.r0) HO.o.ws);clear aX aG ac an;refine tK 8 ?_;refine tK 9 ?_;refine tK 10 ?_;refine tK 11 ?_;refine tK 12 ?_;refine tK 13 ?_;refine tK 14 ?_;refine tK 15 ?_;refine tK 16 ?_;refine tK 17 ?_;refine rK 18 fun K hK=>?_
     go_simp
     go_at_call 24;refine (aS.o _ m.o u.o r.o).mono ?_;rintro e w7 ⟨rfl,aF⟩;replace b:=eb_ b aF;refine hK.out _ _ (zo (zp aF F.1) (T _)) ?_;clear hK K F;intro F
     try simp only [Act.put,xST]
     clear aF;clear F T;refine hdn ?_;simp only [xDR];clear N J M C n0 n1 n2 nL m r u l HN aS;go_wp2;go_ret;exact ⟨by rw [I.o];rfl,b.o⟩
 have d1:(a.kind == 1)=false:=uD ah
 have Z:Hid (Z3 rows goal a=(decide (yI a.ray=0) && Xn rows goal a.ray)):=ze (by rw [HT.o,if_neg ah];unfold zff;rw [aP.o,Bool.true_and]);clear ah HT;have ae:=ziu AY ny cy a.ray w2 G.o;generalize R:yI a.ray=z at ae Z;have ab:=ze ae;clear ae
 by_cases O:z=0
 rotate_left
 . have I:Hid (Z3 rows goal a=false):=ze (by rw [Z.o,uF O,Bool.false_and])
   have az:(z == 0)=false:=uD O;have a3:(z != 0)=true:=by simp [bne,az]
   clear R O Z;go_wp2_with fail;refine ab.o.mono ?_;rintro e w3 ⟨rfl,B⟩;replace b:=eb_ b B;clear B ab m r E G u l V N J L M C;go_wp2;go_ret;exact ⟨by rw [I.o];rfl,b.o⟩
 subst O
 have aK:=ze R;have ac:Hid (Z3 rows goal a=Xn rows goal a.ray):=ze (by rw [Z.o,uE rfl,Bool.true_and]);clear R Z;go_wp2_with fail;refine ab.o.mono ?_;rintro e w3 ⟨rfl,B⟩;replace m:=xre m B;replace r:=xte r B;replace G:=xte G B;replace l:=kb_ l B;replace b:=eb_ b B;clear B ab V N J L M C E u;obtain ⟨V,_,_,L,C⟩:=bq4 l;go_wp2_with fail;refine (zaj _ _ _ _ _ _ w3.heap.size goal a.ray _ r.o G.o (uA) (HO.o.goalR aK.o)).mono ?_;rintro e w4 ⟨v4,rfl,ai,aa⟩;have aA:=YG v4 _ w4 ai;generalize hy:(YD a.ray goal goal.length).num.sign=y at aA;have am:=ze aA;have aC:=zrj (YD a.ray goal goal.length);rw [hy] at aC;have al:=ze aC;replace m:=xre m aa;replace G:=xte G aa;replace l:=kb_ l aa;replace b:=eb_ b aa;clear aA aC hy ai aa V L C r
 by_cases U:y<=0
 . have I:Hid (Z3 rows goal a=false):=ze (by
    rw [ac.o];unfold Xn
    rw [<- al.o,uF (show ¬ y>0 by omega),Bool.and_false])
   clear al ac;go_wp2_with fail;refine am.o.mono ?_;rintro e w5 ⟨rfl,Q⟩;replace b:=eb_ b Q;clear Q am m G l;go_wp2;go_ret;exact ⟨by rw [I.o];rfl,b.o⟩
 have a1:Hid (decide (0<YD a.ray goal goal.length)=true):=ze (by rw [<- al.o];exact uE (by omega))
 clear al;go_wp2_with fail;refine am.o.mono ?_;rintro e w5 ⟨rfl,Q⟩;replace l:=kb_ l Q;replace b:=eb_ b Q;clear Q am m G;go_wp2_with fail;clear U
 go_loopw [9] (TruR w rows a.ray gA #[.int .u8 a.kind,str a.value,.slice AP np cp,.slice AY ny cy,.slice AW nw cw]) (fun kv _=>rows.length - (intOf kv).toNat)
 case atStart=>exact ⟨0,uB,rfl,ze (fun j h=>by omega),l,b⟩
 case round=>
  clear l b;obtain ⟨k,hk,rfl,HJ,l,b⟩:=hrel
  by_cases av:k<rows.length
  rotate_left
  . obtain rfl:rows.length=k:=by omega
    have I:=ze ((ac.o.trans (zn8 HJ.o)).trans a1.o);go_wp2;go_ret;exact ⟨by rw [I.o];rfl,b.o⟩
  have a9:(k:Int)<(rows.length:Int):=by omega
  obtain ⟨ad,AT,nt,ct,eA,aI,p0,p1,ht,a6⟩:=(zH.below' a0.o b.o).at_ av;subst eA;have ax:=xGD (d:=default) av;have af:=HO.o.rowR aK.o k av;rw [ax] at af;obtain ⟨z,R⟩:=uR ((YD a.ray rows[k].terms rows[k].terms.length).num.sign);have aH:zmb a.ray (rows.getD k default)=decide (z>0):=by rw [ax, <- R,zrj];rfl
  obtain ⟨aY,aw,HZ,aq⟩:=hz4 af ht R aH;have aL:ad.block<wr.heap.size:=uK aI b.o.size;obtain ⟨_,_,_,L,C⟩:=bq4 l;clear ht a6 ax af aI R aH p1
  go_upto_region 13 with fail
  have T:∀ w',Hid (Below wr.heap.size wr w')->w'.cell? (ad.add (k*2))=some (.slice AT nt ct)/\w'.cell? ⟨gA,3,none⟩=some (.slice AY ny cy):=fun w' hB=>⟨xy hB aL p0,zq hB C L⟩
  refine Xc T 9 (zt wr) fun F=>?_;refine tK 0 ?_;refine tK 1 ?_;refine tK 2 ?_;refine tK 3 ?_;refine tK 4 ?_;refine tK 5 ?_;refine tK 6 ?_;refine rK 7 fun K hK=>?_
  go_simp
  go_at_call 79;have S:=(zt wr).out;replace aw:=ze (zh.below' aw.o (S.mono b.o.size));replace l:=kb_ l S;replace b:=eb_ b S;clear S;refine (zaj _ _ _ _ _ _ w.heap.size rows[k].terms a.ray _ aw.o (zh.below' a2.o b.o) b.o.size aY.o).mono ?_;rintro e w4 ⟨v4,rfl,ai,aa⟩;replace l:=kb_ l aa;replace b:=eb_ b aa;have aU:=ze ai;refine hK.out _ _ (zo (zp aa (zt wr)) (T _)) ?_;clear hK K F;intro F
  try simp only [Act.put,xST]
  clear aa ai;refine rK 8 fun K hK=>?_
  go_simp
  go_at_call 52;refine (YG _ _ _ aU.o).mono ?_;rintro e w6 ⟨rfl,Y⟩;rw [HZ.o];replace l:=kb_ l Y;replace b:=eb_ b Y;refine hK.out _ _ (zo (zp Y F.1) (T _)) ?_;clear hK K F;intro F
  try simp only [Act.put,xST]
  clear Y;clear F T;refine hdn ?_;simp only [xDR];clear p0 aL L C aU aw aY HZ
  by_cases O:z>0
  . have d0:decide (0<z)=true:=uE O
    have I:=ze (ac.o.trans (znw av (by rw [aq.o];exact d0) HJ.o));clear O aq;go_wp2;go_ret;exact ⟨by rw [I.o];rfl,b.o⟩
  have d0:decide (0<z)=false:=uF O
  have a4:Hid (∀ j,j<k+1->zmb a.ray (rows.getD j default)=false):=ze (fun j hj=>by
   by_cases e:j=k
   . subst e;rw [aq.o];exact d0
   exact HJ.o j (by omega))
  clear O aq;go_wp2;go_roundw
  case rel=>exact ⟨k+1,by omega,by go_num,a4,l,b⟩
  case measure=>simp [intOf];omega
theorem zh8 {rows:List zU} {goal:List zu} (h:xW rows goal=0):yf rows=0/\zX goal=0:=by
 unfold xW at h
 by_cases e:yf rows=0
 rotate_left
 . rw [if_pos e] at h;exact absurd h e
 rw [if_neg (fun b=>b e)] at h
 by_cases b:zX goal=0
 . exact ⟨e,b⟩
 rw [if_pos b] at h;exact absurd h b
theorem zn9 (A AG AP AY AW:Option Addr) (n c ng cg np cp ny cy nw cw:Nat) (rows:List zU) (goal:List zu) (a:zk1) (kd:Int) (hkd:a.kind=kd) (w:World) (hr:yS w (.slice A n c) rows) (hg:zV w (.slice AG ng cg) goal)
 (hp:zV w (.slice AP np cp) a.point) (O:zV w (.slice AY ny cy) a.ray) (hl:zw w w.heap.size (.slice AW nw cw) a.weights) (hs:xI rows) (hsm:zsn goal a):
 Calls prog 13 #[.slice A n c,.slice AG ng cg,.agg #[.int .u8 kd,str a.value,.slice AP np cp,.slice AY ny cy,.slice AW nw cw]] w (VE w (.int .i64 (Y9 rows goal a))):=by
 have j:=zf w (.cells #[.int .u8 kd,str a.value,.slice AP np cp,.slice AY ny cy,.slice AW nw cw] 29)
 have m:=ze (Blk.new w 29 #[.int .u8 kd,str a.value,.slice AP np cp,.slice AY ny cy,.slice AW nw cw])
 have B:=ze ((zH.below hr j).more j.size)
 have r:=ze ((zh.below hg j).more j.size)
 have G:=ze ((zh.below hp j).more j.size)
 have E:=ze ((zh.below O j).more j.size)
 have F:=ze ((zw.below hl j).more j.size)
 have b:=ze j
 have has:=zqs A AG n c ng cg rows goal _ B.o r.o (fun _=>uC hs.names (by omega)) (by have:=hsm.gl;omega)
 generalize X:xW rows goal=z at has
 obtain ⟨K,HS,ab,M,Q⟩:=hz5 has hs hsm X hkd
 clear hkd hr hg hp O hl hs hsm j has X
 go_in
 go_upto_region 1 with fail
 generalize w.alloc (.cells #[.int .u8 kd,str a.value,.slice AP np cp,.slice AY ny cy,.slice AW nw cw] 29)=W at m B r G E F b K |-
 generalize aa:w.heap.size=gA at m |-
 clear aa
 by_cases N:z=0
 rotate_left
 . have D:Hid (Y9 rows goal a=z):=ze (by unfold Y9;rw [if_pos (by rw [M.o];exact N),M.o])
   have ac:(z == 0)=false:=uD N;clear N;go_wp2_with fail;refine K.o.mono ?_;rintro e T ⟨rfl,l⟩;replace b:=eb_ b l;clear l K B r G E F m;go_wp2;go_ret;exact ⟨by rw [D.o];rfl,b.o⟩
 subst N
 go_wp2_with fail;refine K.o.mono ?_;rintro e T ⟨rfl,l⟩;replace B:=xre B l;replace r:=xte r l;replace G:=xte G l;replace E:=xte E l;replace F:=xne F l;replace m:=kb_ m l;replace b:=eb_ b l;clear l K;have V:=(bq1 m).1;obtain ⟨bad,Y⟩:=uQ (decide (kd≠1/\kd≠2/\kd≠3));have I:=ze Y;clear Y
 go_upto_region 4 with fail
 go_cut [26] from 14 (fun s wc=>s= .bool bad/\wc=T)
 case first=>
  by_cases u:kd=1
  . subst u
    have hb:bad=false:=by rw [I.o];rfl
    subst hb;go_wp2;go_meet
    case rel=>exact ⟨rfl,rfl⟩
  by_cases C:kd=2
  . subst C
    have hb:bad=false:=by rw [I.o];rfl
    subst hb;clear u;go_wp2;go_meet
    case rel=>exact ⟨rfl,rfl⟩
  by_cases R:kd=3
  rotate_left
  . have hb:bad=true:=by rw [I.o];exact uE ⟨u,C,R⟩
    subst hb;go_wp2;go_meet
    case rel=>exact ⟨by simp [u,C,R],rfl⟩
  subst R
  have hb:bad=false:=by rw [I.o];rfl
  subst hb;clear u C;go_wp2;go_meet
  case rel=>exact ⟨rfl,rfl⟩
 case rest=>
 obtain ⟨rfl,rfl⟩:=hcut
 cases bad with
 | true=>
   have D:Hid (Y9 rows goal a=1):=ze (by unfold Y9;rw [if_neg (fun h=>h M.o),if_pos (by rw [Q.o];exact uG I.o.symm)]);go_wp2;go_ret;exact ⟨by rw [D.o];rfl,b.o⟩
 | false=>
   have D:Hid (Y9 rows goal a=if Z3 rows goal a=true then 0 else 8):=ze (by unfold Y9;rw [if_neg (fun h=>h M.o),if_neg (by rw [Q.o];exact of_decide_eq_false I.o.symm)]);obtain ⟨u,C⟩:=zh8 M.o;have J:=ze (zub A AG AP AY AW n c ng cg np cp ny cy nw cw rows goal a _ B.o r.o G.o E.o F.o ⟨HS.o,u,C,ab.o⟩);rw [Q.o] at J;obtain ⟨_,S,Z,U,k4,_⟩:=bq5 m;generalize O:Z3 rows goal a=y at J D;clear u C O
   cases y with
   | true=>
     go_wp2_with fail;refine J.o.mono ?_;rintro e w2 ⟨rfl,L⟩;replace b:=eb_ b L;clear L J B r G E F m V S Z U k4;go_wp2;go_ret;exact ⟨by rw [D.o];rfl,b.o⟩
   | false=>
     go_wp2_with fail;refine J.o.mono ?_;rintro e w2 ⟨rfl,L⟩;replace b:=eb_ b L;clear L J B r G E F m V S Z U k4;go_wp2;go_ret;exact ⟨by rw [D.o];rfl,b.o⟩
theorem Chg.weak {S T:Nat->Prop} {w w' :World} (h:Chg S w w') (f:∀ x,S x->T x):Chg T w w' :=⟨h.os,h.tape,h.output,h.size,fun k hk hT=>h.block k hk (fun hs=>hT (f k hs))⟩
theorem zv.lay {w:World} {b:Nat} (h:zv w b) (s:List UInt8) (v:Value):
 ∃ w',(Instr.mapUpdate 54 (.map (some b)) (str s) v).run prog w= .ok () w' /\Chg (· =b) w w' /\(∀ q,zl s=some q->yk w v q->zv w' b/\yk w' v q):=by
 obtain ⟨D,e,u⟩:=id h
 obtain ⟨w',r,m,j,_⟩:=ZG zer zd0 e s v
 have l:Chg (· =b) w w' :=Chg.of_grown j rfl
 exact ⟨w',r,l,fun q hq hv=>⟨zv.put u e hq hv m j,h.keepR l hv⟩⟩
theorem zql {rows:List zU} {goal:List zu} {a:zk1} {kd:Int} (hkd:a.kind=kd) (hz:xW rows goal=0) (hk:kd=1\/kd=2\/kd=3) {z:Bool} (ht:Z3 rows goal a=z):Y9 rows goal a=if z=true then 0 else 8:=by
 subst hkd
 unfold Y9
 rw [if_neg (fun h=>h hz),if_neg (fun h=>by rcases hk with e | e | e<;>simp [e] at h),ht]
theorem zik (A AG AP AY AW:Option Addr) (n c ng cg np cp ny cy nw cw:Nat) (rows:List zU) (goal:List zu) (a:zk1) (kd:Int) (hkd:a.kind=kd) (w:World) (hr:yS w (.slice A n c) rows) (hg:zV w (.slice AG ng cg) goal)
 (hp:zV w (.slice AP np cp) a.point) (hy:zV w (.slice AY ny cy) a.ray) (hl:zw w w.heap.size (.slice AW nw cw) a.weights) (hs:xI rows) (hsm:zsn goal a) (hcnt2:yf rows=0->(zR rows [goal]).length<=100000):
 Calls prog 12 #[.slice A n c,.slice AG ng cg,.agg #[.int .u8 kd,str a.value,.slice AP np cp,.slice AY ny cy,.slice AW nw cw]] w (VE w (.int .i64 (Y9 rows goal a))):=by
 have G:=zf w (.cells #[.int .u8 kd,str a.value,.slice AP np cp,.slice AY ny cy,.slice AW nw cw] 29)
 have E:=ze (Blk.new w 29 #[.int .u8 kd,str a.value,.slice AP np cp,.slice AY ny cy,.slice AW nw cw])
 have B:=ze ((zH.below hr G).more G.size)
 have C:=ze ((zh.below hg G).more G.size)
 have D:=ze ((zh.below hp G).more G.size)
 have M:=ze ((zh.below hy G).more G.size)
 have F:=ze ((zw.below hl G).more G.size)
 have HW:=ze G
 have has:=YC A AG n c ng cg rows goal _ B.o C.o (fun _=>uC (zf8 rows) (uC hs.names (by omega))) hcnt2
 obtain ⟨z,Q⟩:=uR (xW rows goal)
 unfold zqb at has
 rw [Q] at has
 obtain ⟨aA,HS,aM,HZ,ah⟩:=hz5 has hs hsm Q hkd
 have aV:Hid (zS a.value):=ze (by have:=hsm.vl;unfold zS;omega)
 clear hkd hr hg hp hy hl hs hsm G has Q hcnt2
 go_in
 go_upto_region 1 with fail
 generalize w.alloc (.cells #[.int .u8 kd,str a.value,.slice AP np cp,.slice AY ny cy,.slice AW nw cw] 29)=W at E B C D M F HW aA |-
 generalize a3:w.heap.size=gA at E |-
 clear a3
 go_wp2_with fail
 refine aA.o.mono ?_
 rintro e w1 ⟨o,A3,n3,c3,rfl,h0,ae⟩
 by_cases N:z=0
 rotate_left
 . have J:Hid (Y9 rows goal a=z):=ze (by unfold Y9;rw [if_pos (by rw [HZ.o];exact N),HZ.o])
   have av:(z == 0)=false:=uD N;replace HW:=eb_ HW ae;clear h0 ae N aA B C D M F E;go_wp2;go_ret;exact ⟨by rw [J.o];rfl,HW.o⟩
 obtain ⟨b,rfl,hB,_,aN⟩:=h0 N
 subst N;obtain ⟨h1,h2⟩:=zh8 HZ.o;have HO:Hid (Vn rows goal a):=⟨HS.o,h1,h2,aM.o⟩;have l:=ze hB;have X:Hid (w.heap.size<=b):=ze (uC HW.o.size aN);have a5:Hid (¬ gA=b):=ze (fun e=>by have:=E.o.lt;omega);replace B:=xre B ae;replace C:=xte C ae;replace D:=xte D ae;replace M:=xte M ae;replace F:=xne F ae;replace E:=kb_ E ae;have m:Hid (Chg (fun x=>x=b\/w.heap.size<=x) w w1):=Chg.of_below (ext HW.o ae);clear h0 hB aN ae h1 h2 aA HW HS aM;obtain ⟨V,O,R,U,S,Y⟩:=zth E.o
 by_cases h1:kd=1
 rotate_left
 . by_cases h2:kd=2
   . subst h2
     have HT:Hid (Z3 rows goal a=Ya rows a.weights):=ze (by unfold Z3;rw [if_pos ah.o]);have ag:=ze (XF b A AW n c nw cw (.pointer none) rows a.weights none w1 l.o B.o F.o rfl HO.o.ws (fun r h=>by cases h));rw [zb9] at ag;generalize hy:Ya rows a.weights=y at ag;have J:=ze (zql ah.o HZ.o (.inr (.inl rfl)) (HT.o.trans hy));clear h1 hy
     cases y with
     | true=>
       go_wp2_with fail;refine ag.o.mono ?_;rintro e w2 ⟨rfl,_,j⟩
       replace m:=ze (m.o.trans j (fun x _ e=>by
        rcases e with e | e
        . exact .inl e
        . have:=m.o.size;exact .inr (by omega)))
       clear j ag l B C D M F E V O R U S Y;go_wp2;go_ret;exact ⟨by rw [J.o];rfl,m.o.below (uA) (fun x e=>by have:=X.o;rcases e with e | e<;>omega)⟩
     | false=>
       go_wp2_with fail;refine ag.o.mono ?_;rintro e w2 ⟨rfl,_,j⟩
       replace m:=ze (m.o.trans j (fun x _ e=>by
        rcases e with e | e
        . exact .inl e
        . have:=m.o.size;exact .inr (by omega)))
       clear j ag l B C D M F E V O R U S Y;go_wp2;go_ret;exact ⟨by rw [J.o];rfl,m.o.below (uA) (fun x e=>by have:=X.o;rcases e with e | e<;>omega)⟩
   by_cases h3:kd=3
   rotate_left
   . have J:Hid (Y9 rows goal a=1):=ze (by
      unfold Y9
      rw [if_neg (fun h=>h HZ.o),if_pos (by rw [ah.o];exact ⟨h1,h2,h3⟩)])
     go_wp2;go_ret;exact ⟨by rw [J.o];rfl,m.o.below (uA) (fun x e=>by have:=X.o;rcases e with e | e<;>omega)⟩
   subst h3
   have Z:=ze (fun z h=>zql ah.o HZ.o (.inr (.inr rfl)) (z:=z) h);have HT:Hid (Z3 rows goal a=zff rows goal a):=ze (by unfold Z3;rw [if_neg (by rw [ah.o];decide),if_neg (by rw [ah.o];decide)]);have ad:=zb3 b AP np cp a.point w1 l.o D.o;generalize Q:yI a.point=z at ad;have ac:=ze ad;clear ad h1 h2
   by_cases N:z=0
   rotate_left
   . have J:=ze (Z.o false (by rw [HT.o];unfold zff YW;rw [Q,uF N,Bool.false_and,Bool.false_and]))
     have av:(z == 0)=false:=uD N;have a6:(z != 0)=true:=by simp [bne,av]
     clear Q HT Z;go_wp2_with fail;clear N;refine ac.o.mono ?_;rintro e w2 ⟨rfl,I,j⟩;clear ac;replace m:=ze (m.o.trans j (fun x _ e=>.inl e));clear I j l B C D M F E V O R U S Y;go_wp2;go_ret;exact ⟨by rw [J.o];rfl,m.o.below (uA) (fun x e=>by have:=X.o;rcases e with e | e<;>omega)⟩
   subst N
   have an:=ze Q;clear Q;go_wp2_with fail;refine ac.o.mono ?_;rintro e w2 ⟨rfl,I,j⟩;replace B:=ze ((l.o.keepRows j B.o).more j.size);replace C:=ze ((l.o.keepT j C.o).more j.size);replace D:=ze ((l.o.keepT j D.o).more j.size);replace M:=ze ((l.o.keepT j M.o).more j.size);replace E:=ze (l.o.keepBlk j E.o);replace m:=ze (m.o.trans j (fun x _ e=>.inl e));replace l:=ze I;clear I j V O R U S Y;obtain ⟨V,O,R,U,S,Y⟩:=zth E.o;clear ac;have ao:=zdr b A AP n c np cp rows a.point w2 l.o B.o D.o (HO.o.rowP an.o);have aq:YW rows a.point=decide (Y4 rows.length (X8 a.point rows)<0):=by unfold YW;rw [uE an.o,Bool.true_and]
   generalize hy:Y4 rows.length (X8 a.point rows)=y at ao aq;have ar:=ze ao;have af:=ze aq;clear ao aq hy
   by_cases a0:y<0
   rotate_left
   . have J:=ze (Z.o false (by rw [HT.o];unfold zff;rw [af.o,uF a0,Bool.false_and]))
     clear af HT Z;go_wp2_with fail;refine ar.o.mono ?_;rintro e w3 ⟨rfl,I,j⟩;clear ar;replace m:=ze (m.o.trans j (fun x _ e=>.inl e));clear I j l B C D M F E V O R U S Y;go_wp2;go_ret;exact ⟨by rw [J.o];rfl,m.o.below (uA) (fun x e=>by have:=X.o;rcases e with e | e<;>omega)⟩
   have a7:Hid (YW rows a.point=true):=ze (by rw [af.o,uE a0])
   clear af;go_wp2_with fail;refine ar.o.mono ?_;rintro e w3 ⟨rfl,I,j⟩;replace B:=ze ((l.o.keepRows j B.o).more j.size);replace C:=ze ((l.o.keepT j C.o).more j.size);replace D:=ze ((l.o.keepT j D.o).more j.size);replace M:=ze ((l.o.keepT j M.o).more j.size);replace E:=ze (l.o.keepBlk j E.o);replace m:=ze (m.o.trans j (fun x _ e=>.inl e));replace l:=ze I;clear I j V O R U S Y;obtain ⟨V,O,R,U,S,Y⟩:=zth E.o;clear ar;have ad:=zb3 b AY ny cy a.ray w3 l.o M.o;generalize Q:yI a.ray=z at ad;have ac:=ze ad;clear ad
   by_cases N:z=0
   rotate_left
   . have J:=ze (Z.o false (by rw [HT.o];unfold zff;rw [Q,uF N,Bool.false_and,Bool.and_false]))
     have av:(z == 0)=false:=uD N;have a6:(z != 0)=true:=by simp [bne,av]
     clear Q HT Z;go_wp2_with fail;clear N;refine ac.o.mono ?_;rintro e T ⟨rfl,I,j⟩;clear ac;replace m:=ze (m.o.trans j (fun x _ e=>.inl e));clear I j l B C D M F E V O R U S Y;go_wp2;go_ret;exact ⟨by rw [J.o];rfl,m.o.below (uA) (fun x e=>by have:=X.o;rcases e with e | e<;>omega)⟩
   subst N
   have aK:=ze Q;clear Q;go_wp2_with fail;refine ac.o.mono ?_;rintro e T ⟨rfl,I,j⟩;replace B:=ze ((l.o.keepRows j B.o).more j.size);replace C:=ze ((l.o.keepT j C.o).more j.size);replace D:=ze ((l.o.keepT j D.o).more j.size);replace M:=ze ((l.o.keepT j M.o).more j.size);replace E:=ze (l.o.keepBlk j E.o);replace m:=ze (m.o.trans j (fun x _ e=>.inl e));replace l:=ze I;clear I j V O R U S Y;obtain ⟨V,O,R,U,S,Y⟩:=zth E.o;clear ac;have aB:=znb b A AG AY n c ng cg ny cy rows goal a.ray T l.o B.o C.o M.o (HO.o.rowR aK.o) (HO.o.goalR aK.o);have ap:Z3 rows goal a=Xn rows goal a.ray:=by rw [HT.o];unfold zff;rw [a7.o,uE aK.o,Bool.true_and,Bool.true_and]
   generalize hy:Xn rows goal a.ray=y at aB ap;have az:=ze aB;have J:=ze (Z.o _ ap);clear aB ap hy HT Z
   cases y with
   | true=>
     go_wp2_with fail;refine az.o.mono ?_;rintro e w5 ⟨rfl,I,j⟩;clear az;replace m:=ze (m.o.trans j (fun x _ e=>.inl e));clear I j l B C D M F E V O R U S Y;go_wp2;go_ret;exact ⟨by rw [J.o];rfl,m.o.below (uA) (fun x e=>by have:=X.o;rcases e with e | e<;>omega)⟩
   | false=>
     go_wp2_with fail;refine az.o.mono ?_;rintro e w5 ⟨rfl,I,j⟩;clear az;replace m:=ze (m.o.trans j (fun x _ e=>.inl e));clear I j l B C D M F E V O R U S Y;go_wp2;go_ret;exact ⟨by rw [J.o];rfl,m.o.below (uA) (fun x e=>by have:=X.o;rcases e with e | e<;>omega)⟩
 subst h1
 have Z:=fun z h=>ze (zql ah.o HZ.o (.inl rfl) (z:=z) h)
 have aD:Hid (Z3 rows goal a=zpt rows goal a):=ze (by unfold Z3;rw [if_neg (by rw [ah.o];decide),if_pos ah.o,zvs HO.o]);have aC:=ZT ⟨a.value.toArray⟩ w1 (by rw [<- zm,yt];exact aV.o);simp only [yt] at aC;have aR:=ze aC;clear aC;go_wp2_with fail;refine aR.o.mono ?_;rintro e w2 ⟨bc,ok,rfl,⟨x3,A4,l4,c4,s3,y3,B3,al,aj,t3,rfl⟩,aO,hq,aU⟩;have G:=ext aU (zf w2 (.cells #[.int .i64 x3,.slice A4 l4 c4,.bool s3,.int .i64 y3,.slice B3 al aj,.bool t3] 70));have HN:=ze (Blk.new w2 70 #[.int .i64 x3,.slice A4 l4 c4,.bool s3,.int .i64 y3,.slice B3 al aj,.bool t3]);replace l:=ze (l.o.below G);replace B:=xre B G;replace C:=xte C G;replace D:=xte D G;replace F:=xne F G;replace E:=kb_ E G;replace m:=ze (zJ m.o G);have ax:=ze aO;have HQ:=ze (fun q h=>(hq q h).below (zf w2 (.cells #[.int .i64 x3,.slice A4 l4 c4,.bool s3,.int .i64 y3,.slice B3 al aj,.bool t3] 70)));clear G aO hq aU aR V O R U S Y M
 go_upto_region 9 with fail
 generalize w2.alloc (.cells #[.int .i64 x3,.slice A4 l4 c4,.bool s3,.int .i64 y3,.slice B3 al aj,.bool t3] 70)=W3 at HN l B C D F E m HQ |-;generalize w2.heap.size=gX at HN |-;have O:=E.o.cell 1;obtain ⟨n0,n1,n2,n3,n4,n5,_⟩:=bq6 HN;simp at O;obtain ⟨T,hu,aT,aP⟩:=l.o.lay a.value (.agg #[.int .i64 x3,.slice A4 l4 c4,.bool s3,.int .i64 y3,.slice B3 al aj,.bool t3]);have ab:=ze aT;have a2:=ze aP;clear aT aP
 go_upto_region 10 with fail
 clear hu O n0 n1 n2 n3 n4 n5;have bb:Hid (¬ gX=b):=ze (fun e=>l.o.neB HN.o e.symm);replace B:=ze ((l.o.keepRows ab.o B.o).more ab.o.size);replace C:=ze ((l.o.keepT ab.o C.o).more ab.o.size);replace D:=ze ((l.o.keepT ab.o D.o).more ab.o.size);replace F:=ze ((zw.chg F.o ab.o (fun x _ e=>by subst e;exact l.o.noCells)).more ab.o.size);replace E:=ze (l.o.keepBlk ab.o E.o);replace HN:=ze (l.o.keepBlk ab.o HN.o);replace m:=ze (m.o.trans ab.o (fun x _ e=>.inl e));have ay:Hid (∀ q,zl a.value=some q->zv T b/\yk T (.agg #[.int .i64 x3,.slice A4 l4 c4,.bool s3,.int .i64 y3,.slice B3 al aj,.bool t3]) q):=ze (fun q h=>a2.o q h (HQ.o q h));clear ab a2 HQ l;obtain ⟨_,O,R,_,S,_⟩:=bq5 E;obtain ⟨n0,n1,n2,n3,n4,n5,_⟩:=bq6 HN
 have aG:¬ (gA=b\/T.heap.size<=gA):=fun e=>by have:=E.o.lt;rcases e with e | e;exact a5.o e;omega
 have au:¬ (gX=b\/T.heap.size<=gX):=fun e=>by have:=HN.o.lt;rcases e with e | e;exact bb.o e;omega
 have ai:=(zt T).out;replace B:=xre B ai;replace C:=xte C ai;replace D:=xte D ai;replace F:=xne F ai;replace m:=ze (zJ m.o ai);replace ay:=ze (fun q h=>(⟨(ay.o q h).1.below ai,(ay.o q h).2.below ai⟩:zv T.drew b/\yk T.drew (.agg #[.int .i64 x3,.slice A4 l4 c4,.bool s3,.int .i64 y3,.slice B3 al aj,.bool t3]) q));clear ai;have aa:∀ w',Hid (Chg (fun x=>x=b\/T.heap.size<=x) T w')->w'.cell? ⟨gA,1,none⟩=some (str a.value)/\w'.cell? ⟨gA,2,none⟩=some (.slice AP np cp)/\w'.cell? ⟨gA,4,none⟩=some (.slice AW nw cw)/\w'.cell? ⟨gX,0,none⟩=some (.int .i64 x3)/\w'.cell? ⟨gX,1,none⟩=some (.slice A4 l4 c4)/\w'.cell? ⟨gX,2,none⟩=some (.bool s3)/\w'.cell? ⟨gX,3,none⟩=some (.int .i64 y3)/\w'.cell? ⟨gX,4,none⟩=some (.slice B3 al aj)/\w'.cell? ⟨gX,5,none⟩=some (.bool t3):=fun w' hB=>⟨xo hB O aG,xo hB R aG,xo hB S aG,xo hB n0 au,xo hB n1 au,xo hB n2 au,xo hB n3 au,xo hB n4 au,xo hB n5 au⟩
 refine Xc aa 37 (vq T) fun L=>?_
 cases ok with
 | false=>
   have J:=Z false (by rw [aD.o];unfold zpt;rw [<- ax.o,Bool.false_and]);refine tK 0 ?_;refine tK 1 ?_;refine sK 2 ?_;refine sK 3 ?_;refine sK 4 ?_;refine sK 5 ?_;refine sK 6 ?_;refine tK 7 ?_;refine tK 8 ?_;refine sK 9 ?_;refine sK 10 ?_;refine sK 11 ?_;refine sK 12 ?_;refine sK 13 ?_;refine sK 14 ?_;refine tK 15 ?_;refine tK 16 ?_;refine sK 17 ?_;refine sK 18 ?_;refine sK 19 ?_;refine sK 20 ?_;refine sK 21 ?_;refine sK 22 ?_;refine sK 23 ?_;refine sK 24 ?_;refine tK 25 ?_;refine tK 26 ?_;refine sK 27 ?_;refine sK 28 ?_;refine sK 29 ?_;refine sK 30 ?_;refine sK 31 ?_;refine sK 32 ?_;refine sK 33 ?_;refine sK 34 ?_;refine sK 35 ?_;refine sK 36 ?_;clear L aa;refine hdn ?_;simp only [xDR];go_wp2;go_ret;exact ⟨by rw [J.o];rfl,m.o.below (uA) (fun x e=>by have:=X.o;rcases e with e | e<;>omega)⟩
 | true=>
   obtain ⟨q,hq⟩:=Option.isSome_iff_exists.1 ax.o.symm;obtain ⟨aS,aY⟩:=ay.o q hq;have l:=ze aS;have ak:=ze aY;have a8:Hid (Zu 8388608 q):=rlE (HO.o.val hq) (by omega);have aX:zej a=q:=by unfold zej;rw [hq];rfl
   have aw:Hid (Z3 rows goal a=(YW rows a.point && (decide (YD a.point goal goal.length=q) && Y2 rows (some (XO goal a)) a.weights))):=ze (by rw [aD.o];unfold zpt;rw [<- ax.o,Bool.true_and,aX]);have ba:=ze (HO.o.fit ax.o.symm);clear hq aX aS aY ay aD ax;have ad:=zb3 b AP np cp a.point T.drew l.o D.o;generalize Q:yI a.point=z at ad;have ac:=ze ad;have an:=ze Q;clear ad Q;refine tK 0 ?_;refine tK 1 ?_;refine tK 2 ?_;refine tK 3 ?_;refine tK 4 ?_;refine rK 5 fun K hK=>?_
   go_simp
   go_at_call 27;refine ac.o.mono ?_;rintro e w5 ⟨rfl,I,j⟩;refine hK.out _ _ (zo (vS (j.weak (fun x e=>.inl e)) (vq T)) (aa _)) ?_;clear hK K L;intro L
   try simp only [Act.put,xST]
   replace B:=ze ((l.o.keepRows j B.o).more j.size);replace C:=ze ((l.o.keepT j C.o).more j.size);replace D:=ze ((l.o.keepT j D.o).more j.size);replace F:=ze ((zw.chg F.o j (fun x _ e=>by subst e;exact l.o.noCells)).more j.size);replace ak:=ze (l.o.keepR j ak.o);replace m:=ze (m.o.trans j (fun x _ e=>.inl e));replace l:=ze I;clear I j ac
   by_cases N:z=0
   rotate_left
   . have J:=Z false (by
      have hh:YW rows a.point=false:=by unfold YW;rw [an.o,uF N,Bool.false_and]
      rw [aw.o,hh,Bool.false_and])
     have av:(z == 0)=false:=uD N;refine tK 6 ?_;refine tK 7 ?_;refine tK 8 ?_;refine sK 9 ?_;refine sK 10 ?_;refine sK 11 ?_;refine sK 12 ?_;refine sK 13 ?_;refine sK 14 ?_;refine tK 15 ?_;refine tK 16 ?_;refine sK 17 ?_;refine sK 18 ?_;refine sK 19 ?_;refine sK 20 ?_;refine sK 21 ?_;refine sK 22 ?_;refine sK 23 ?_;refine sK 24 ?_;refine tK 25 ?_;refine tK 26 ?_;refine sK 27 ?_;refine sK 28 ?_;refine sK 29 ?_;refine sK 30 ?_;refine sK 31 ?_;refine sK 32 ?_;refine sK 33 ?_;refine sK 34 ?_;refine sK 35 ?_;refine sK 36 ?_;clear L aa;refine hdn ?_;simp only [xDR];go_wp2;go_ret;exact ⟨by rw [J.o];rfl,m.o.below (uA) (fun x e=>by have:=X.o;rcases e with e | e<;>omega)⟩
   subst N
   have ao:=zdr b A AP n c np cp rows a.point w5 l.o B.o D.o (HO.o.rowP an.o);have aq:YW rows a.point=decide (Y4 rows.length (X8 a.point rows)<0):=by unfold YW;rw [uE an.o,Bool.true_and]
   generalize hy:Y4 rows.length (X8 a.point rows)=y at ao aq;have ar:=ze ao;have af:=ze aq;clear ao aq hy;refine tK 6 ?_;refine tK 7 ?_;refine tK 8 ?_;refine tK 9 ?_;refine tK 10 ?_;refine tK 11 ?_;refine tK 12 ?_;refine rK 13 fun K hK=>?_
   go_simp
   go_at_call 28;refine ar.o.mono ?_;rintro e w6 ⟨rfl,I,j⟩;refine hK.out _ _ (zo (vS (j.weak (fun x e=>.inl e)) L.1) (aa _)) ?_;clear hK K L;intro L
   try simp only [Act.put,xST]
   replace B:=ze ((l.o.keepRows j B.o).more j.size);replace C:=ze ((l.o.keepT j C.o).more j.size);replace D:=ze ((l.o.keepT j D.o).more j.size);replace F:=ze ((zw.chg F.o j (fun x _ e=>by subst e;exact l.o.noCells)).more j.size);replace ak:=ze (l.o.keepR j ak.o);replace m:=ze (m.o.trans j (fun x _ e=>.inl e));replace l:=ze I;clear I j ar;generalize hh:decide (y<0)=h at af
   cases h with
   | false=>
     have J:=Z false (by rw [aw.o,af.o,Bool.false_and]);refine tK 14 ?_;refine tK 15 ?_;refine tK 16 ?_;refine sK 17 ?_;refine sK 18 ?_;refine sK 19 ?_;refine sK 20 ?_;refine sK 21 ?_;refine sK 22 ?_;refine sK 23 ?_;refine sK 24 ?_;refine tK 25 ?_;refine tK 26 ?_;refine sK 27 ?_;refine sK 28 ?_;refine sK 29 ?_;refine sK 30 ?_;refine sK 31 ?_;refine sK 32 ?_;refine sK 33 ?_;refine sK 34 ?_;refine sK 35 ?_;refine sK 36 ?_;clear L aa;refine hdn ?_;simp only [xDR];go_wp2;go_ret;exact ⟨by rw [J.o];rfl,m.o.below (uA) (fun x e=>by have:=X.o;rcases e with e | e<;>omega)⟩
   | true=>
     have aW:=ze (HO.o.goalP an.o);refine tK 14 ?_;refine tK 15 ?_;refine tK 16 ?_;refine tK 17 ?_;refine tK 18 ?_;refine tK 19 ?_;refine tK 20 ?_;refine tK 22 ?_;refine rK 21 fun K hK=>?_
     go_simp
     go_at_call 29;refine (zc9 b _ _ _ _ _ _ goal a.point _ l.o C.o D.o aW.o).mono ?_;rintro e w7 ⟨v7,rfl,aZ,I,j⟩;refine hK.out _ _ (zo (vS (j.weak (fun x e=>.inl e)) L.1) (aa _)) ?_;clear hK K L;intro L
     try simp only [Act.put,xST]
     replace B:=ze ((l.o.keepRows j B.o).more j.size);replace C:=ze ((l.o.keepT j C.o).more j.size);replace F:=ze ((zw.chg F.o j (fun x _ e=>by subst e;exact l.o.noCells)).more j.size);replace ak:=ze (l.o.keepR j ak.o);replace m:=ze (m.o.trans j (fun x _ e=>.inl e));replace l:=ze I;have aQ:=ze aZ;clear I j aZ D;have aI:=X5 _ _ _ q w7 aQ.o ak.o (aW.o.rlen (uA)) a8.o;have aH:=zc8 (YD a.point goal goal.length) q;generalize hσ:XX (YD a.point goal goal.length) q=σ at aI aH;have a1:=ze aI;have aE:=ze aH;clear aI aH hσ;refine rK 23 fun K hK=>?_
     go_simp
     go_at_call 30;refine a1.o.mono ?_;rintro e w8 ⟨rfl,am⟩;refine hK.out _ _ (zo (xR am L.1) (aa _)) ?_;clear hK K L;intro L
     try simp only [Act.put,xST]
     replace B:=xre B am;replace C:=xte C am;replace F:=xne F am;replace m:=ze (zJ m.o am);replace l:=ze (l.o.below am);clear am a1 aQ ak
     by_cases aJ:σ=0
     rotate_left
     . have J:=Z false (by rw [aw.o,uF (fun h=>aJ (aE.o.2 h)),Bool.false_and,Bool.and_false])
       have bd:(σ == 0)=false:=uD aJ;refine tK 24 ?_;refine tK 25 ?_;refine tK 26 ?_;refine sK 27 ?_;refine sK 28 ?_;refine sK 29 ?_;refine sK 30 ?_;refine sK 31 ?_;refine sK 32 ?_;refine sK 33 ?_;refine sK 34 ?_;refine sK 35 ?_;refine sK 36 ?_;clear L aa;refine hdn ?_;simp only [xDR];go_wp2;go_ret;exact ⟨by rw [J.o];rfl,m.o.below (uA) (fun x e=>by have:=X.o;rcases e with e | e<;>omega)⟩
     subst aJ
     have G:=zf w8 (.cells #[.slice AG ng cg,str a.value] 31);refine tK 24 ?_;refine tK 25 ?_;refine tK 26 ?_;refine tK 27 ?_;refine tK 28 ?_;refine tK 29 ?_;refine tK 30 ?_;refine tK 31 ?_;refine tK 32 ?_;refine tK 33 ?_;refine tK 34 ?_;refine rK 35 fun K hK=>?_
     go_simp
     refine hK.out _ _ (zo (xR (zf w8 (.cells #[.slice AG ng cg,str a.value] 31)) L.1) (aa _)) ?_;clear hK K L;intro L
     try simp only [Act.put,xST]
     have a9:Hid (zea (w8.alloc (.cells #[.slice AG ng cg,str a.value] 31)) (w8.alloc (.cells #[.slice AG ng cg,str a.value] 31)).heap.size (.pointer (some ⟨w8.heap.size,0,none⟩)) (some (XO goal a))):=
      ⟨_,_,_,_,rfl,by rw [World.size_alloc];omega,Blk.new w8 31 _,(zh.below C.o G).more G.size⟩
     replace B:=xre B G;replace F:=xne F G;replace m:=ze (zJ m.o G);replace l:=ze (l.o.below G);have aL:=XF b A AW n c nw cw _ rows a.weights (some (XO goal a)) _ l.o B.o F.o a9.o HO.o.ws (fun r' e=>by injection e with e;subst e;exact ⟨ba.o,aV.o⟩);have ap:Z3 rows goal a=Y2 rows (some (XO goal a)) a.weights:=by rw [aw.o,af.o,uE (aE.o.1 rfl),Bool.true_and,Bool.true_and]
     generalize hu:Y2 rows (some (XO goal a)) a.weights=u at aL ap;have ag:=ze aL;have J:=Z _ ap;clear G aL ap hu aw af aE;refine rK 36 fun K hK=>?_
     go_simp
     go_at_call 19;refine ag.o.mono ?_;rintro e w9 ⟨rfl,_,aF⟩
     replace m:=ze (m.o.trans aF (fun x _ e=>by
      rcases e with e | e
      . exact .inl e
      . have:=m.o.size;exact .inr (by omega)))
     have a4:=L.1.out.size;refine hK.out _ _ (zo (vS (aF.weak (fun x e=>by rcases e with e | e;exact .inl e;exact .inr (by omega))) L.1) (aa _)) ?_;clear hK K L;intro L
     try simp only [Act.put,xST]
     clear aF ag a4
     cases u with
     | true=>
       clear L aa;refine hdn ?_;simp only [xDR];go_wp2;go_ret;exact ⟨by rw [J.o];rfl,m.o.below (uA) (fun x e=>by have:=X.o;rcases e with e | e<;>omega)⟩
     | false=>
       clear L aa;refine hdn ?_;simp only [xDR];go_wp2;go_ret;exact ⟨by rw [J.o];rfl,m.o.below (uA) (fun x e=>by have:=X.o;rcases e with e | e<;>omega)⟩
theorem unk2 (rows:List zU) (goal:List zu):(zR rows [goal]).length<=goal.length+xb rows:=by
 unfold zR
 refine uC (Z7 _) ?_
 have h:=zdx rows
 unfold zP at h |-
 rw [List.flatMap_append,List.length_append,h,List.flatMap_cons,List.flatMap_nil,List.append_nil,List.length_map]
 exact uA
theorem zlw {l:List (List UInt8)} {t:List UInt8} (h:t∈l):t.length<=XJ l:=vj List.length l t h
theorem xE.fits {w:World} {B:Nat} {v:Value} {l:List zu} (h:xE w B v l) (h1:l.length<=1000) (h2:zK l<=2000):zh w B v l:=
 h.small (by omega) (fun x hx=>by
  have:=vj (fun t:zu=>t.name.length+t.coef.length) l x hx
  have b:x.name.length+x.coef.length<=zK l:=this
  unfold zS
  omega)
theorem zi7 (A AG AP AY AW AS AT:Option Addr) (n c ng cg np cp ny cy cw cs nt ct:Nat) (kd:Int) (rows:List zU) (goal:List zu) (x:zb7) (hkd:x.ans.kind=kd) (w:World)
 (hr:XR w w.heap.size (.slice A n c) rows) (hg:xE w w.heap.size (.slice AG ng cg) goal) (hx:zcj w w.heap.size (.slice AP np cp) (.slice AY ny cy) (.slice AW x.ans.weights.length cw) (.slice AS x.weights.length cs) (.slice AT nt ct) x):
 Calls prog 3 #[.slice A n c,.slice AG ng cg,.agg #[.int .u8 kd,str x.ans.value,.slice AP np cp,.slice AY ny cy,.slice AW x.ans.weights.length cw,.slice AS x.weights.length cs,.slice AT nt ct,str x.row.bound]] w (VE w (.bool true)):=by
 have aa:=zf w (.cells #[.int .u8 kd,str x.ans.value,.slice AP np cp,.slice AY ny cy,.slice AW x.ans.weights.length cw,.slice AS x.weights.length cs,.slice AT nt ct,str x.row.bound] 33)
 have r:=ze (Blk.new w 33 #[.int .u8 kd,str x.ans.value,.slice AP np cp,.slice AY ny cy,.slice AW x.ans.weights.length cw,.slice AS x.weights.length cs,.slice AT nt ct,str x.row.bound])
 have m:=ze (hr.below aa)
 have u:=ze (hg.below aa)
 have X:=ze (hx.below aa)
 have j:=ze aa
 have ag:=ze hkd
 have h1:=zi9 A n c rows _ _ m.o
 have H1:=ze h1
 clear hr hg hx aa hkd h1
 go_in
 go_upto_region 1 with fail
 have M:Hid (w.heap.size<=(w.alloc (.cells #[.int .u8 kd,str x.ans.value,.slice AP np cp,.slice AY ny cy,.slice AW x.ans.weights.length cw,.slice AS x.weights.length cs,.slice AT nt ct,str x.row.bound] 33)).heap.size):=j.o.size
 generalize w.alloc (.cells #[.int .u8 kd,str x.ans.value,.slice AP np cp,.slice AY ny cy,.slice AW x.ans.weights.length cw,.slice AS x.weights.length cs,.slice AT nt ct,str x.row.bound] 33)=W at r m u X j H1 M |-
 generalize aG:w.heap.size=gC at r |-
 clear aG
 obtain ⟨J,I,C,D,G,Q,T,O,l⟩:=zw9 r.o
 go_wp2_with fail
 refine H1.o.mono ?_
 rintro e w1 ⟨g1,rfl,⟨m1,rfl⟩,av⟩
 cases g1 with
 | true=>
   replace j:=ze (zk j.o m1);go_wp2_with fail;refine (zau _).mono ?_;rintro e w9 ⟨rfl,V⟩;replace j:=eb_ j V;clear V;go_wp2;go_ret;exact ⟨rfl,j.o⟩
 | false=>
   have U:=ze (av rfl);clear av H1;go_wp2_with fail;refine (zo6 AG ng cg w.heap.size goal _ (u.o.below (zk (Below.refl _ _) _))).mono ?_;rintro e w2 ⟨g2,rfl,⟨m2,rfl⟩,al⟩
   cases g2 with
   | true=>
     replace j:Hid (Below w.heap.size w (W.drewN (m1+m2))):=zk j.o _;go_wp2_with fail;refine (zau _).mono ?_;rintro e w9 ⟨rfl,V⟩;replace j:=eb_ j V;clear V;go_wp2;go_ret;exact ⟨rfl,j.o⟩
   | false=>
     have Z:=ze (al rfl);clear al
     have aD:=zn5 AP AY AW AS AT np cp ny cy cw cs nt ct kd x (W.drewN (m1+m2)) (by
      have h:=X.o.below (zk (Below.refl w.heap.size W) (m1+m2))
      exact ⟨h.val,h.pt.more M.o,h.ray.more M.o,h.wts.more M.o,h.ws.more M.o,h.tm.more M.o,h.bnd⟩)
     have ah:=ze aD;clear aD;go_wp2_with fail;refine ah.o.mono ?_;rintro e w3 ⟨g3,rfl,ac,ad⟩
     cases g3 with
     | true=>
       replace j:=ze (ext (zk j.o (m1+m2)) ac);clear ac ad ah;go_wp2_with fail;refine (zau _).mono ?_;rintro e w9 ⟨rfl,V⟩;replace j:=eb_ j V;clear V;go_wp2;go_ret;exact ⟨rfl,j.o⟩
     | false=>
       have B:=ze (ad rfl);clear ad ah;have y:Below W.heap.size W w3:=(zk (yR W) (m1+m2)).trans ac;obtain ⟨c1,c2⟩:=U.o.each;have aj:zH W w.heap.size (.slice A n c) rows:=m.o.small c1 c2;have aq:zh W w.heap.size (.slice AG ng cg) goal:=u.o.fits (by have:=Z.o.1;omega) (by have:=Z.o.2;omega);have aw:zh W w.heap.size (.slice AP np cp) x.ans.point:=X.o.pt.fits (by have:=B.o.pt.1;omega) (by have:=B.o.pt.2;omega);have ak:zh W w.heap.size (.slice AY ny cy) x.ans.ray:=X.o.ray.fits (by have:=B.o.ray.1;omega) (by have:=B.o.ray.2;omega);have aC:zw W w.heap.size (.slice AW x.ans.weights.length cw) x.ans.weights:=X.o.wts.small (by have:=B.o.wl;omega) (fun t ht=>by have h1:=zlw ht;have h2:=B.o.bytes;unfold zS;omega);have az:zw W w.heap.size (.slice AS x.weights.length cs) x.weights:=X.o.ws.small (by have:=B.o.sl;omega) (fun t ht=>by have h1:=zlw ht;have h2:=B.o.bytes;unfold zS;omega);obtain ⟨e1,e2⟩:=B.o.row.each;obtain ⟨f1,f2,f3⟩:=e2 x.row (List.mem_singleton.2 rfl)
       have ar:zh W w.heap.size (.slice AT nt ct) x.row.terms:=X.o.tm.small f1 f3;replace m:=ze ((zH.below (aj.more M.o) y).more y.size);replace u:=ze ((zh.below (aq.more M.o) y).more y.size);have L:=ze ((zh.below (aw.more M.o) y).more y.size);have E:=ze ((zh.below (ak.more M.o) y).more y.size);have F:=ze ((zw.below (aC.more M.o) y).more y.size);have N:=ze ((zw.below (az.more M.o) y).more y.size);have R:=ze ((zh.below (ar.more M.o) y).more y.size);replace r:=kb_ r y;replace j:=eb_ j y;have HN:Hid (rows.length<=800->(zR rows []).length<=100000):=ze (fun _=>uC (zf8 rows) (uC U.o.names (by omega)));have af:Hid (rows.length<=800->(zP (rows.map (·.terms))).length<=50000):=ze (fun _=>uC U.o.names (by omega));have aF:xb rows<=400:=U.o.2.2.1;have aH:x.row.terms.length<=1000:=zeh B.o.row (List.mem_singleton.2 rfl);have ao:Hid (yf rows=0->(zR rows [x.row.terms]).length<=100000):=ze (fun _=>uC (unk2 rows _) (by omega))
       have an:Hid (yf rows=0->(zR rows [goal]).length<=100000):=ze (fun _=>uC (unk2 rows _) (by have:=Z.o.1;omega));have am:Hid (x.row.terms.length<=50000):=ze (by omega);have ab:Hid (yf rows=0->xq x.weights rows.length=true->Vb rows (xC x.weights)):=ze (fun h0=>zp3 U.o h0 (fun t ht=>by have h1:=zlw ht;have h2:=B.o.bytes;omega));have ai:Hid (zS x.row.bound):=f2;have ae:Hid (zsn goal x.ans):=ze ⟨Z.o.1,Z.o.2,B.o.pt.2,B.o.ray.2,by have:=B.o.bytes;omega,fun t ht=>by have h1:=zlw ht;have h2:=B.o.bytes;omega⟩;clear aj aq aw ak aC az ar c1 c2 e1 e2 f1 f2 f3 aF aH y ac X M J I C D G Q T O l Z B;obtain ⟨J,I,C,D,G,Q,T,O,l⟩:=zw9 r.o;have E1:=fun w a b=>zcu A AS n c x.weights.length cs rows x.weights w a b HN.o ab.o
       have E2:=fun w a b=>zfd A AS n c x.weights.length cs rows x.weights w a b af.o ab.o
       have E3:=fun w a b d=>zad A AT AS n c nt ct x.weights.length cs rows x.row x.weights w a b ai.o d HN.o ao.o ab.o
       have E4:=fun w a b d=>zcs A AT AS n c nt ct x.weights.length cs rows x.row x.weights w a b ai.o d af.o am.o ab.o
       have E5:=fun w a b d e f=>zik A AG AP AY AW n c ng cg np cp ny cy x.ans.weights.length cw rows goal x.ans kd ag.o w a b d e f U.o ae.o an.o
       have E6:=fun w a b d e f=>zn9 A AG AP AY AW n c ng cg np cp ny cy x.ans.weights.length cw rows goal x.ans kd ag.o w a b d e f U.o ae.o
       obtain ⟨p,hp⟩:=uQ (za9 rows x.weights);obtain ⟨q,hq⟩:=uQ (Vm rows x.row x.weights);obtain ⟨z,hz⟩:=uQ (Y9 rows goal x.ans);rw [<- hp] at E1 E2;rw [<- hq] at E3 E4;rw [<- hz] at E5 E6;obtain ⟨p1,p2⟩:=p;obtain ⟨q1,q2⟩:=q;obtain ⟨aA,aB,ap,ay,au,ax⟩:=hz6 E1 E2 E3 E4 E5 E6;clear E1 E2 E3 E4 E5 E6 hp hq hz HN af ao an am ab ai ae ag U;go_wp2_with fail;refine (aA.o _ m.o N.o).mono ?_;rintro e w4 ⟨rfl,hb⟩;replace m:=xre m hb;replace u:=xte u hb;replace L:=xte L hb;replace E:=xte E hb;replace R:=xte R hb;replace F:=xne F hb;replace N:=xne N hb;replace r:=kb_ r hb;replace j:=eb_ j hb;clear hb J I C D G Q T O l;obtain ⟨J,I,C,D,G,Q,T,O,l⟩:=zw9 r.o;go_wp2_with fail;refine (aB.o _ m.o N.o).mono ?_;rintro e w5 ⟨rfl,hb⟩;replace m:=xre m hb;replace u:=xte u hb;replace L:=xte L hb;replace E:=xte E hb;replace R:=xte R hb;replace F:=xne F hb;replace N:=xne N hb;replace r:=kb_ r hb;replace j:=eb_ j hb;clear hb J I C D G Q T O l
       obtain ⟨J,I,C,D,G,Q,T,O,l⟩:=zw9 r.o;go_wp2_with fail;refine (ap.o _ m.o R.o N.o).mono ?_;rintro e w6 ⟨rfl,hb⟩;replace m:=xre m hb;replace u:=xte u hb;replace L:=xte L hb;replace E:=xte E hb;replace R:=xte R hb;replace F:=xne F hb;replace N:=xne N hb;replace r:=kb_ r hb;replace j:=eb_ j hb;clear hb J I C D G Q T O l;obtain ⟨J,I,C,D,G,Q,T,O,l⟩:=zw9 r.o;go_wp2_with fail;refine (ay.o _ m.o R.o N.o).mono ?_;rintro e w7 ⟨rfl,hb⟩;replace m:=xre m hb;replace u:=xte u hb;replace L:=xte L hb;replace E:=xte E hb;replace R:=xte R hb;replace F:=xne F hb;replace N:=xne N hb;replace r:=kb_ r hb;replace j:=eb_ j hb;clear hb J I C D G Q T O l;obtain ⟨J,I,C,D,G,Q,T,O,l⟩:=zw9 r.o;clear aA aB ap ay
       go_upto_region 7 with fail
       have hb:=(zt w7).out;replace m:=xre m hb;replace u:=xte u hb;replace L:=xte L hb;replace E:=xte E hb;replace F:=xne F hb;replace j:=eb_ j hb;clear hb N R;refine yP (S:=fun w' =>Hid (Below w7.heap.size w7 w')/\w'.cell? ⟨gC,0,none⟩=some (.int .u8 kd)/\w'.cell? ⟨gC,1,none⟩=some (str x.ans.value)/\w'.cell? ⟨gC,2,none⟩=some (.slice AP np cp)/\w'.cell? ⟨gC,3,none⟩=some (.slice AY ny cy)/\w'.cell? ⟨gC,4,none⟩=some (.slice AW x.ans.weights.length cw)) 33 (by kernel_rfl) (by kernel_rfl) (zo (zt w7) (fun hB=>⟨zq hB l J,zq hB l I,zq hB l C,zq hB l D,zq hB l G⟩)) fun hU=>?_;refine tK 0 ?_;refine tK 1 ?_;refine tK 2 ?_;refine tK 3 ?_;refine tK 5 ?_;refine tK 6 ?_;refine tK 7 ?_;refine tK 8 ?_;refine rK 4 fun K hK=>?_
       go_simp
       go_at_call 12;refine (au.o _ m.o u.o L.o E.o F.o).mono ?_;rintro e w8 ⟨rfl,hb⟩;have Y:=hU;clear hU;refine hK.out _ _ (zo (zp hb (zt w7)) (fun hB=>⟨zq hB l J,zq hB l I,zq hB l C,zq hB l D,zq hB l G⟩)) fun hU=>?_;clear Y hK K
       try simp only [Act.put,xST]
       replace m:=xre m hb;replace u:=xte u hb;replace L:=xte L hb;replace E:=xte E hb;replace F:=xne F hb;replace j:=eb_ j hb;clear hb au;refine rK 9 fun K hK=>?_
       go_simp
       go_at_call 13;refine (ax.o _ m.o u.o L.o E.o F.o).mono ?_;rintro e w9 ⟨rfl,hb⟩;have Y:=hU;clear hU;refine hK.out _ _ (zo (zp hb Y.1) (fun hB=>⟨zq hB l J,zq hB l I,zq hB l C,zq hB l D,zq hB l G⟩)) fun hU=>?_;clear Y hK K
       try simp only [Act.put,xST]
       replace j:=eb_ j hb;clear hb ax m u L E F;refine tK 10 ?_;refine tK 11 ?_;refine tK 12 ?_;refine tK 13 ?_;refine tK 14 ?_;refine tK 15 ?_;refine tK 16 ?_;refine tK 17 ?_;refine tK 18 ?_;refine tK 19 ?_;refine tK 20 ?_;refine tK 21 ?_;refine tK 22 ?_;refine tK 23 ?_;refine tK 24 ?_;refine tK 25 ?_;refine tK 26 ?_;refine tK 27 ?_;refine tK 28 ?_;refine tK 29 ?_;refine tK 30 ?_;refine tK 31 ?_;refine rK 32 fun K hK=>?_
       go_simp
       go_at_call 7;refine (zau _).mono ?_;rintro e aI ⟨rfl,hb⟩;have Y:=hU;clear hU;refine hK.out _ _ (zo (zp hb Y.1) (fun hB=>⟨zq hB l J,zq hB l I,zq hB l C,zq hB l D,zq hB l G⟩)) fun hU=>?_;clear Y hK K
       try simp only [Act.put,xST]
       replace j:=eb_ j hb;clear hb;have aE:=(hU.1).out;clear aE hU;refine HH.done (by kernel_rfl) ?_;simp only [List.drop_succ_cons,List.drop_zero];clear J I C D G Q T O l r;go_wp2;go_ret;exact ⟨rfl,j.o⟩
theorem ztl (A:Option Addr) (n c:Nat) (rows:List zU) (AG:Option Addr) (ng cg:Nat) (goal:List zu) (kd:Int) (vp vy vw vs vt:Value) (x:zb7) (w:World)
 (hr:XR w w.heap.size (.slice A n c) rows) (hg:xE w w.heap.size (.slice AG ng cg) goal) (hkd:x.ans.kind=kd) (hx:zcj w w.heap.size vp vy vw vs vt x):
 Calls prog 3 #[.slice A n c,.slice AG ng cg,.agg #[.int .u8 kd,str x.ans.value,vp,vy,vw,vs,vt,str x.row.bound]] w (VE w (.bool true)):=by
 obtain ⟨_,e,l,rfl,_⟩:=id hx.pt
 obtain ⟨_,y,m,rfl,_⟩:=id hx.ray
 obtain ⟨_,b,r,rfl,_⟩:=id hx.wts
 obtain ⟨_,z,cs,rfl,_⟩:=id hx.ws
 obtain ⟨_,j,u,rfl,_⟩:=id hx.tm
 exact zi7 A AG e y b z j n c ng cg _ l _ m r cs _ u kd rows goal x hkd w hr hg hx
end Go.Proofs.YtnjljgidphemdaaGreatDoor
