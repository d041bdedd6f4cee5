/- Parts of the proof. -/
import Derived.Laws.StructEq
import Derived.Test.YtobdoblpnanclaaGreatDoorMo38
import Derived.Test.YtobdoblpnanclaaGreatDoorMo39
set_option linter.all false
set_option maxHeartbeats 32000000
namespace Go.Proofs.YtobdoblpnanclaaGreatDoor
open Proofs.Tryz Go.RowKit Go.Deep
attribute [local go_sem ↓] Go.wp_at_zero Go.wp_at_succ
theorem znh {rows:List zS} {goal:List zr} (h:xy rows goal=0):yB rows=0/\yh goal=0:=by
 unfold xy at h
 by_cases e:yB rows=0
 rotate_left
 . rw [if_pos e] at h;exact absurd h e
 rw [if_neg (fun b=>b e)] at h
 by_cases b:yh goal=0
 . exact ⟨e,b⟩
 rw [if_pos b] at h;exact absurd h b
theorem Chg.weak {S T:Nat->Prop} {w w' :World} (h:Chg S w w') (f:∀ x,S x->T x):Chg T w w' :=⟨h.os,h.tape,h.output,h.size,fun k hk hT=>h.block k hk (fun hs=>hT (f k hs))⟩
theorem zu.lay {w:World} {b:Nat} (h:zu w b) (s:List UInt8) (v:Value):
 ∃ w',(Instr.mapUpdate 51 (.map (some b)) (str s) v).run prog w= .ok () w' /\Chg (· =b) w w' /\(∀ q,zj s=some q->zV w v q->zu w' b/\zV w' v q):=by
 obtain ⟨D,e,u⟩:=id h
 obtain ⟨w',r,m,j,_⟩:=Zk zdm zcj e s v
 have l:Chg (· =b) w w' :=Chg.of_grown j rfl
 exact ⟨w',r,l,fun q hq hv=>⟨zu.put u e hq hv m j,h.keepR l hv⟩⟩
theorem zoc {rows:List zS} {goal:List zr} {a:zkn} {kd:Int} (hkd:a.kind=kd) (hz:xy rows goal=0) (hk:kd=1\/kd=2\/kd=3) {z:Bool} (ht:zbj rows goal a=z):X1 rows goal a=if z=true then 0 else 8:=by
 subst hkd
 unfold X1
 rw [if_neg (fun h=>h hz),if_neg (fun h=>by rcases hk with e | e | e<;>simp [e] at h),ht]
set_option maxRecDepth 100000 in
theorem zg4 (A AG AP AY AW:Option Addr) (n c ng cg np cp ny cy nw cw:Nat) (rows:List zS) (goal:List zr) (a:zkn) (kd:Int) (hkd:a.kind=kd) (w:World) (hr:Zi w (.slice A n c) rows) (hg:yu w (.slice AG ng cg) goal)
 (hp:yu w (.slice AP np cp) a.point) (hy:yu w (.slice AY ny cy) a.ray) (hl:zT w w.heap.size (.slice AW nw cw) a.weights) (hs:yK rows) (hsm:ztb goal a) (hcnt2:yB rows=0->(zy rows [goal]).length<=100000):
 Calls prog 9 #[.slice A n c,.slice AG ng cg,.agg #[.int .u8 kd,str a.value,.slice AP np cp,.slice AY ny cy,.slice AW nw cw]] w (zj3 w (.int .i64 (X1 rows goal a))):=by
 have G:=zf w (.cells #[.int .u8 kd,str a.value,.slice AP np cp,.slice AY ny cy,.slice AW nw cw] 29)
 have E:=ze (Blk.new w 29 #[.int .u8 kd,str a.value,.slice AP np cp,.slice AY ny cy,.slice AW nw cw])
 have B:=ze ((zR.below hr G).more G.size)
 have C:=ze ((zh.below hg G).more G.size)
 have D:=ze ((zh.below hp G).more G.size)
 have M:=ze ((zh.below hy G).more G.size)
 have F:=ze ((zT.below hl G).more G.size)
 have HW:=ze G
 have has:=X4 A AG n c ng cg rows goal _ B.o C.o (fun _=>uC (ze1 rows) (uC hs.names (by omega))) hcnt2
 obtain ⟨z,Q⟩:=uR (xy rows goal)
 unfold zjb at has
 rw [Q] at has
 obtain ⟨aA,HS,aM,HZ,ah⟩:=hz5 has hs hsm Q hkd
 have aV:Hid (yc a.value):=ze (by have:=hsm.vl;unfold yc;omega)
 clear hkd hr hg hp hy hl hs hsm G has Q hcnt2
 go_in
 go_upto_region 1 with fail
 generalize w.alloc (.cells #[.int .u8 kd,str a.value,.slice AP np cp,.slice AY ny cy,.slice AW nw cw] 29)=W at E B C D M F HW aA |-
 generalize a3:w.heap.size=gA at E |-
 clear a3
 go_wp2_with fail
 refine aA.o.mono ?_
 rintro e w1 ⟨o,A3,n3,c3,rfl,h0,ae⟩
 by_cases N:z=0
 rotate_left
 . have J:Hid (X1 rows goal a=z):=ze (by unfold X1;rw [if_pos (by rw [HZ.o];exact N),HZ.o])
   have av:(z == 0)=false:=uD N;replace HW:=eb_ HW ae;clear h0 ae N aA B C D M F E;go_wp2;go_ret;exact ⟨by rw [J.o];rfl,HW.o⟩
 obtain ⟨b,rfl,hB,_,aN⟩:=h0 N
 subst N;obtain ⟨h1,h2⟩:=znh HZ.o;have HO:Hid (XK rows goal a):=⟨HS.o,h1,h2,aM.o⟩;have l:=ze hB;have X:Hid (w.heap.size<=b):=ze (uC HW.o.size aN);have a5:Hid (¬ gA=b):=ze (fun e=>by have:=E.o.lt;omega);replace B:=xre B ae;replace C:=xte C ae;replace D:=xte D ae;replace M:=xte M ae;replace F:=xne F ae;replace E:=kb_ E ae;have m:Hid (Chg (fun x=>x=b\/w.heap.size<=x) w w1):=Chg.of_below (ext HW.o ae);clear h0 hB aN ae h1 h2 aA HW HS aM;obtain ⟨V,O,R,U,S,Y⟩:=zso E.o
 by_cases h1:kd=1
 rotate_left
 . by_cases h2:kd=2
   . subst h2
     have HT:Hid (zbj rows goal a=zea rows a.weights):=ze (by unfold zbj;rw [if_pos ah.o]);have ag:=ze (zdk b A AW n c nw cw (.pointer none) rows a.weights none w1 l.o B.o F.o rfl HO.o.ws (fun r h=>by cases h));rw [zgd] at ag;generalize hy:zea rows a.weights=y at ag;have J:=ze (zoc ah.o HZ.o (.inr (.inl rfl)) (HT.o.trans hy));clear h1 hy
     cases y with
     | true=>
       go_wp2_with fail;refine ag.o.mono ?_;rintro e w2 ⟨rfl,_,j⟩
       replace m:=ze (m.o.trans j (fun x _ e=>by
        rcases e with e | e
        . exact .inl e
        . have:=m.o.size;exact .inr (by omega)))
       clear j ag l B C D M F E V O R U S Y;go_wp2;go_ret;exact ⟨by rw [J.o];rfl,m.o.below (uA) (fun x e=>by have:=X.o;rcases e with e | e<;>omega)⟩
     | false=>
       go_wp2_with fail;refine ag.o.mono ?_;rintro e w2 ⟨rfl,_,j⟩
       replace m:=ze (m.o.trans j (fun x _ e=>by
        rcases e with e | e
        . exact .inl e
        . have:=m.o.size;exact .inr (by omega)))
       clear j ag l B C D M F E V O R U S Y;go_wp2;go_ret;exact ⟨by rw [J.o];rfl,m.o.below (uA) (fun x e=>by have:=X.o;rcases e with e | e<;>omega)⟩
   by_cases h3:kd=3
   rotate_left
   . have J:Hid (X1 rows goal a=1):=ze (by
      unfold X1
      rw [if_neg (fun h=>h HZ.o),if_pos (by rw [ah.o];exact ⟨h1,h2,h3⟩)])
     go_wp2;go_ret;exact ⟨by rw [J.o];rfl,m.o.below (uA) (fun x e=>by have:=X.o;rcases e with e | e<;>omega)⟩
   subst h3
   have Z:=ze (fun z h=>zoc ah.o HZ.o (.inr (.inr rfl)) (z:=z) h);have HT:Hid (zbj rows goal a=zjw rows goal a):=ze (by unfold zbj;rw [if_neg (by rw [ah.o];decide),if_neg (by rw [ah.o];decide)]);have ad:=zaq b AP np cp a.point w1 l.o D.o;generalize Q:xm a.point=z at ad;have ac:=ze ad;clear ad h1 h2
   by_cases N:z=0
   rotate_left
   . have J:=ze (Z.o false (by rw [HT.o];unfold zjw Xl;rw [Q,uF N,Bool.false_and,Bool.false_and]))
     have av:(z == 0)=false:=uD N;have a6:(z != 0)=true:=by simp [bne,av]
     clear Q HT Z;go_wp2_with fail;clear N;refine ac.o.mono ?_;rintro e w2 ⟨rfl,I,j⟩;clear ac;replace m:=ze (m.o.trans j (fun x _ e=>.inl e));clear I j l B C D M F E V O R U S Y;go_wp2;go_ret;exact ⟨by rw [J.o];rfl,m.o.below (uA) (fun x e=>by have:=X.o;rcases e with e | e<;>omega)⟩
   subst N
   have an:=ze Q;clear Q;go_wp2_with fail;refine ac.o.mono ?_;rintro e w2 ⟨rfl,I,j⟩;replace B:=ze ((l.o.keepRows j B.o).more j.size);replace C:=ze ((l.o.keepT j C.o).more j.size);replace D:=ze ((l.o.keepT j D.o).more j.size);replace M:=ze ((l.o.keepT j M.o).more j.size);replace E:=ze (l.o.keepBlk j E.o);replace m:=ze (m.o.trans j (fun x _ e=>.inl e));replace l:=ze I;clear I j V O R U S Y;obtain ⟨V,O,R,U,S,Y⟩:=zso E.o;clear ac;have ao:=zcc b A AP n c np cp rows a.point w2 l.o B.o D.o (HO.o.rowP an.o);have aq:Xl rows a.point=decide (Ys rows.length (zfr a.point rows)<0):=by unfold Xl;rw [uE an.o,Bool.true_and]
   generalize hy:Ys rows.length (zfr a.point rows)=y at ao aq;have ar:=ze ao;have af:=ze aq;clear ao aq hy
   by_cases a0:y<0
   rotate_left
   . have J:=ze (Z.o false (by rw [HT.o];unfold zjw;rw [af.o,uF a0,Bool.false_and]))
     clear af HT Z;go_wp2_with fail;refine ar.o.mono ?_;rintro e w3 ⟨rfl,I,j⟩;clear ar;replace m:=ze (m.o.trans j (fun x _ e=>.inl e));clear I j l B C D M F E V O R U S Y;go_wp2;go_ret;exact ⟨by rw [J.o];rfl,m.o.below (uA) (fun x e=>by have:=X.o;rcases e with e | e<;>omega)⟩
   have a7:Hid (Xl rows a.point=true):=ze (by rw [af.o,uE a0])
   clear af;go_wp2_with fail;refine ar.o.mono ?_;rintro e w3 ⟨rfl,I,j⟩;replace B:=ze ((l.o.keepRows j B.o).more j.size);replace C:=ze ((l.o.keepT j C.o).more j.size);replace D:=ze ((l.o.keepT j D.o).more j.size);replace M:=ze ((l.o.keepT j M.o).more j.size);replace E:=ze (l.o.keepBlk j E.o);replace m:=ze (m.o.trans j (fun x _ e=>.inl e));replace l:=ze I;clear I j V O R U S Y;obtain ⟨V,O,R,U,S,Y⟩:=zso E.o;clear ar;have ad:=zaq b AY ny cy a.ray w3 l.o M.o;generalize Q:xm a.ray=z at ad;have ac:=ze ad;clear ad
   by_cases N:z=0
   rotate_left
   . have J:=ze (Z.o false (by rw [HT.o];unfold zjw;rw [Q,uF N,Bool.false_and,Bool.and_false]))
     have av:(z == 0)=false:=uD N;have a6:(z != 0)=true:=by simp [bne,av]
     clear Q HT Z;go_wp2_with fail;clear N;refine ac.o.mono ?_;rintro e T ⟨rfl,I,j⟩;clear ac;replace m:=ze (m.o.trans j (fun x _ e=>.inl e));clear I j l B C D M F E V O R U S Y;go_wp2;go_ret;exact ⟨by rw [J.o];rfl,m.o.below (uA) (fun x e=>by have:=X.o;rcases e with e | e<;>omega)⟩
   subst N
   have aK:=ze Q;clear Q;go_wp2_with fail;refine ac.o.mono ?_;rintro e T ⟨rfl,I,j⟩;replace B:=ze ((l.o.keepRows j B.o).more j.size);replace C:=ze ((l.o.keepT j C.o).more j.size);replace D:=ze ((l.o.keepT j D.o).more j.size);replace M:=ze ((l.o.keepT j M.o).more j.size);replace E:=ze (l.o.keepBlk j E.o);replace m:=ze (m.o.trans j (fun x _ e=>.inl e));replace l:=ze I;clear I j V O R U S Y;obtain ⟨V,O,R,U,S,Y⟩:=zso E.o;clear ac;have aB:=zla b A AG AY n c ng cg ny cy rows goal a.ray T l.o B.o C.o M.o (HO.o.rowR aK.o) (HO.o.goalR aK.o);have ap:zbj rows goal a=zdj rows goal a.ray:=by rw [HT.o];unfold zjw;rw [a7.o,uE aK.o,Bool.true_and,Bool.true_and]
   generalize hy:zdj rows goal a.ray=y at aB ap;have az:=ze aB;have J:=ze (Z.o _ ap);clear aB ap hy HT Z
   cases y with
   | true=>
     go_wp2_with fail;refine az.o.mono ?_;rintro e w5 ⟨rfl,I,j⟩;clear az;replace m:=ze (m.o.trans j (fun x _ e=>.inl e));clear I j l B C D M F E V O R U S Y;go_wp2;go_ret;exact ⟨by rw [J.o];rfl,m.o.below (uA) (fun x e=>by have:=X.o;rcases e with e | e<;>omega)⟩
   | false=>
     go_wp2_with fail;refine az.o.mono ?_;rintro e w5 ⟨rfl,I,j⟩;clear az;replace m:=ze (m.o.trans j (fun x _ e=>.inl e));clear I j l B C D M F E V O R U S Y;go_wp2;go_ret;exact ⟨by rw [J.o];rfl,m.o.below (uA) (fun x e=>by have:=X.o;rcases e with e | e<;>omega)⟩
 subst h1
 have Z:=fun z h=>ze (zoc ah.o HZ.o (.inl rfl) (z:=z) h)
 have aD:Hid (zbj rows goal a=zni rows goal a):=ze (by unfold zbj;rw [if_neg (by rw [ah.o];decide),if_pos ah.o,ztx HO.o]);have aC:=Zu ⟨a.value.toArray⟩ w1 (by rw [<- zt,yG];exact aV.o);simp only [yG] at aC;have aR:=ze aC;clear aC;go_wp2_with fail;refine aR.o.mono ?_;rintro e w2 ⟨bc,ok,rfl,⟨x3,A4,l4,c4,s3,y3,B3,al,aj,t3,rfl⟩,aO,hq,aU⟩;have G:=ext aU (zf w2 (.cells #[.int .i64 x3,.slice A4 l4 c4,.bool s3,.int .i64 y3,.slice B3 al aj,.bool t3] 60));have HN:=ze (Blk.new w2 60 #[.int .i64 x3,.slice A4 l4 c4,.bool s3,.int .i64 y3,.slice B3 al aj,.bool t3]);replace l:=ze (l.o.below G);replace B:=xre B G;replace C:=xte C G;replace D:=xte D G;replace F:=xne F G;replace E:=kb_ E G;replace m:=ze (zD m.o G);have ax:=ze aO;have HQ:=ze (fun q h=>(hq q h).below (zf w2 (.cells #[.int .i64 x3,.slice A4 l4 c4,.bool s3,.int .i64 y3,.slice B3 al aj,.bool t3] 60)));clear G aO hq aU aR V O R U S Y M
 go_upto_region 9 with fail
 generalize w2.alloc (.cells #[.int .i64 x3,.slice A4 l4 c4,.bool s3,.int .i64 y3,.slice B3 al aj,.bool t3] 60)=W3 at HN l B C D F E m HQ |-;generalize w2.heap.size=gX at HN |-;have O:=E.o.cell 1;obtain ⟨n0,n1,n2,n3,n4,n5,_⟩:=bq6 HN;simp at O;obtain ⟨T,hu,aT,aP⟩:=l.o.lay a.value (.agg #[.int .i64 x3,.slice A4 l4 c4,.bool s3,.int .i64 y3,.slice B3 al aj,.bool t3]);have ab:=ze aT;have a2:=ze aP;clear aT aP
 go_upto_region 10 with fail
 clear hu O n0 n1 n2 n3 n4 n5;have bb:Hid (¬ gX=b):=ze (fun e=>l.o.neB HN.o e.symm);replace B:=ze ((l.o.keepRows ab.o B.o).more ab.o.size);replace C:=ze ((l.o.keepT ab.o C.o).more ab.o.size);replace D:=ze ((l.o.keepT ab.o D.o).more ab.o.size);replace F:=ze ((zT.chg F.o ab.o (fun x _ e=>by subst e;exact l.o.noCells)).more ab.o.size);replace E:=ze (l.o.keepBlk ab.o E.o);replace HN:=ze (l.o.keepBlk ab.o HN.o);replace m:=ze (m.o.trans ab.o (fun x _ e=>.inl e));have ay:Hid (∀ q,zj a.value=some q->zu T b/\zV T (.agg #[.int .i64 x3,.slice A4 l4 c4,.bool s3,.int .i64 y3,.slice B3 al aj,.bool t3]) q):=ze (fun q h=>a2.o q h (HQ.o q h));clear ab a2 HQ l;obtain ⟨_,O,R,_,S,_⟩:=bq5 E;obtain ⟨n0,n1,n2,n3,n4,n5,_⟩:=bq6 HN
 have aG:¬ (gA=b\/T.heap.size<=gA):=fun e=>by have:=E.o.lt;rcases e with e | e;exact a5.o e;omega
 have au:¬ (gX=b\/T.heap.size<=gX):=fun e=>by have:=HN.o.lt;rcases e with e | e;exact bb.o e;omega
 have ai:=(zv T).out;replace B:=xre B ai;replace C:=xte C ai;replace D:=xte D ai;replace F:=xne F ai;replace m:=ze (zD m.o ai);replace ay:=ze (fun q h=>(⟨(ay.o q h).1.below ai,(ay.o q h).2.below ai⟩:zu T.drew b/\zV T.drew (.agg #[.int .i64 x3,.slice A4 l4 c4,.bool s3,.int .i64 y3,.slice B3 al aj,.bool t3]) q));clear ai;have aa:∀ w',Hid (Chg (fun x=>x=b\/T.heap.size<=x) T w')->w'.cell? ⟨gA,1,none⟩=some (str a.value)/\w'.cell? ⟨gA,2,none⟩=some (.slice AP np cp)/\w'.cell? ⟨gA,4,none⟩=some (.slice AW nw cw)/\w'.cell? ⟨gX,0,none⟩=some (.int .i64 x3)/\w'.cell? ⟨gX,1,none⟩=some (.slice A4 l4 c4)/\w'.cell? ⟨gX,2,none⟩=some (.bool s3)/\w'.cell? ⟨gX,3,none⟩=some (.int .i64 y3)/\w'.cell? ⟨gX,4,none⟩=some (.slice B3 al aj)/\w'.cell? ⟨gX,5,none⟩=some (.bool t3):=fun w' hB=>⟨xl hB O aG,xl hB R aG,xl hB S aG,xl hB n0 au,xl hB n1 au,xl hB n2 au,xl hB n3 au,xl hB n4 au,xl hB n5 au⟩
 refine zb7 aa 37 (xX T) fun L=>?_
 cases ok with
 | false=>
   have J:=Z false (by rw [aD.o];unfold zni;rw [<- ax.o,Bool.false_and]);refine tK 0 ?_;refine tK 1 ?_;refine sK 2 ?_;refine sK 3 ?_;refine sK 4 ?_;refine sK 5 ?_;refine sK 6 ?_;refine tK 7 ?_;refine tK 8 ?_;refine sK 9 ?_;refine sK 10 ?_;refine sK 11 ?_;refine sK 12 ?_;refine sK 13 ?_;refine sK 14 ?_;refine tK 15 ?_;refine tK 16 ?_;refine sK 17 ?_;refine sK 18 ?_;refine sK 19 ?_;refine sK 20 ?_;refine sK 21 ?_;refine sK 22 ?_;refine sK 23 ?_;refine sK 24 ?_;refine tK 25 ?_;refine tK 26 ?_;refine sK 27 ?_;refine sK 28 ?_;refine sK 29 ?_;refine sK 30 ?_;refine sK 31 ?_;refine sK 32 ?_;refine sK 33 ?_;refine sK 34 ?_;refine sK 35 ?_;refine sK 36 ?_;clear L aa;refine hdn ?_;simp only [xDR];go_wp2;go_ret;exact ⟨by rw [J.o];rfl,m.o.below (uA) (fun x e=>by have:=X.o;rcases e with e | e<;>omega)⟩
 | true=>
   obtain ⟨q,hq⟩:=Option.isSome_iff_exists.1 ax.o.symm;obtain ⟨aS,aY⟩:=ay.o q hq;have l:=ze aS;have ak:=ze aY;have a8:Hid (xJ 8388608 q):=rlE (HO.o.val hq) (by omega);have aX:za9 a=q:=by unfold za9;rw [hq];rfl
   have aw:Hid (zbj rows goal a=(Xl rows a.point && (decide (XI a.point goal goal.length=q) && ZT rows (some (zbf goal a)) a.weights))):=ze (by rw [aD.o];unfold zni;rw [<- ax.o,Bool.true_and,aX]);have ba:=ze (HO.o.fit ax.o.symm);clear hq aX aS aY ay aD ax;have ad:=zaq b AP np cp a.point T.drew l.o D.o;generalize Q:xm a.point=z at ad;have ac:=ze ad;have an:=ze Q;clear ad Q;refine tK 0 ?_;refine tK 1 ?_;refine tK 2 ?_;refine tK 3 ?_;refine tK 4 ?_;refine rK 5 fun K hK=>?_
   go_simp
   go_at_call 19;refine ac.o.mono ?_;rintro e w5 ⟨rfl,I,j⟩;refine hK.out _ _ (zm (vz (j.weak (fun x e=>.inl e)) (xX T)) (aa _)) ?_;clear hK K L;intro L
   try simp only [Act.put,xST]
   replace B:=ze ((l.o.keepRows j B.o).more j.size);replace C:=ze ((l.o.keepT j C.o).more j.size);replace D:=ze ((l.o.keepT j D.o).more j.size);replace F:=ze ((zT.chg F.o j (fun x _ e=>by subst e;exact l.o.noCells)).more j.size);replace ak:=ze (l.o.keepR j ak.o);replace m:=ze (m.o.trans j (fun x _ e=>.inl e));replace l:=ze I;clear I j ac
   by_cases N:z=0
   rotate_left
   . have J:=Z false (by
      have hh:Xl rows a.point=false:=by unfold Xl;rw [an.o,uF N,Bool.false_and]
      rw [aw.o,hh,Bool.false_and])
     have av:(z == 0)=false:=uD N;refine tK 6 ?_;refine tK 7 ?_;refine tK 8 ?_;refine sK 9 ?_;refine sK 10 ?_;refine sK 11 ?_;refine sK 12 ?_;refine sK 13 ?_;refine sK 14 ?_;refine tK 15 ?_;refine tK 16 ?_;refine sK 17 ?_;refine sK 18 ?_;refine sK 19 ?_;refine sK 20 ?_;refine sK 21 ?_;refine sK 22 ?_;refine sK 23 ?_;refine sK 24 ?_;refine tK 25 ?_;refine tK 26 ?_;refine sK 27 ?_;refine sK 28 ?_;refine sK 29 ?_;refine sK 30 ?_;refine sK 31 ?_;refine sK 32 ?_;refine sK 33 ?_;refine sK 34 ?_;refine sK 35 ?_;refine sK 36 ?_;clear L aa;refine hdn ?_;simp only [xDR];go_wp2;go_ret;exact ⟨by rw [J.o];rfl,m.o.below (uA) (fun x e=>by have:=X.o;rcases e with e | e<;>omega)⟩
   subst N
   have ao:=zcc b A AP n c np cp rows a.point w5 l.o B.o D.o (HO.o.rowP an.o);have aq:Xl rows a.point=decide (Ys rows.length (zfr a.point rows)<0):=by unfold Xl;rw [uE an.o,Bool.true_and]
   generalize hy:Ys rows.length (zfr a.point rows)=y at ao aq;have ar:=ze ao;have af:=ze aq;clear ao aq hy;refine tK 6 ?_;refine tK 7 ?_;refine tK 8 ?_;refine tK 9 ?_;refine tK 10 ?_;refine tK 11 ?_;refine tK 12 ?_;refine rK 13 fun K hK=>?_
   go_simp
   go_at_call 20;refine ar.o.mono ?_;rintro e w6 ⟨rfl,I,j⟩;refine hK.out _ _ (zm (vz (j.weak (fun x e=>.inl e)) L.1) (aa _)) ?_;clear hK K L;intro L
   try simp only [Act.put,xST]
   replace B:=ze ((l.o.keepRows j B.o).more j.size);replace C:=ze ((l.o.keepT j C.o).more j.size);replace D:=ze ((l.o.keepT j D.o).more j.size);replace F:=ze ((zT.chg F.o j (fun x _ e=>by subst e;exact l.o.noCells)).more j.size);replace ak:=ze (l.o.keepR j ak.o);replace m:=ze (m.o.trans j (fun x _ e=>.inl e));replace l:=ze I;clear I j ar;generalize hh:decide (y<0)=h at af
   cases h with
   | false=>
     have J:=Z false (by rw [aw.o,af.o,Bool.false_and]);refine tK 14 ?_;refine tK 15 ?_;refine tK 16 ?_;refine sK 17 ?_;refine sK 18 ?_;refine sK 19 ?_;refine sK 20 ?_;refine sK 21 ?_;refine sK 22 ?_;refine sK 23 ?_;refine sK 24 ?_;refine tK 25 ?_;refine tK 26 ?_;refine sK 27 ?_;refine sK 28 ?_;refine sK 29 ?_;refine sK 30 ?_;refine sK 31 ?_;refine sK 32 ?_;refine sK 33 ?_;refine sK 34 ?_;refine sK 35 ?_;refine sK 36 ?_;clear L aa;refine hdn ?_;simp only [xDR];go_wp2;go_ret;exact ⟨by rw [J.o];rfl,m.o.below (uA) (fun x e=>by have:=X.o;rcases e with e | e<;>omega)⟩
   | true=>
     have aW:=ze (HO.o.goalP an.o);refine tK 14 ?_;refine tK 15 ?_;refine tK 16 ?_;refine tK 17 ?_;refine tK 18 ?_;refine tK 19 ?_;refine tK 20 ?_;refine tK 22 ?_;refine rK 21 fun K hK=>?_
     go_simp
     go_at_call 21;refine (zbx b _ _ _ _ _ _ goal a.point _ l.o C.o D.o aW.o).mono ?_;rintro e w7 ⟨v7,rfl,aZ,I,j⟩;refine hK.out _ _ (zm (vz (j.weak (fun x e=>.inl e)) L.1) (aa _)) ?_;clear hK K L;intro L
     try simp only [Act.put,xST]
     replace B:=ze ((l.o.keepRows j B.o).more j.size);replace C:=ze ((l.o.keepT j C.o).more j.size);replace F:=ze ((zT.chg F.o j (fun x _ e=>by subst e;exact l.o.noCells)).more j.size);replace ak:=ze (l.o.keepR j ak.o);replace m:=ze (m.o.trans j (fun x _ e=>.inl e));replace l:=ze I;have aQ:=ze aZ;clear I j aZ D;have aI:=YO _ _ _ q w7 aQ.o ak.o (aW.o.rlen (uA)) a8.o;have aH:=zfl (XI a.point goal goal.length) q;generalize hσ:XG (XI a.point goal goal.length) q=σ at aI aH;have a1:=ze aI;have aE:=ze aH;clear aI aH hσ;refine rK 23 fun K hK=>?_
     go_simp
     go_at_call 22;refine a1.o.mono ?_;rintro e w8 ⟨rfl,am⟩;refine hK.out _ _ (zm (xU am L.1) (aa _)) ?_;clear hK K L;intro L
     try simp only [Act.put,xST]
     replace B:=xre B am;replace C:=xte C am;replace F:=xne F am;replace m:=ze (zD m.o am);replace l:=ze (l.o.below am);clear am a1 aQ ak
     by_cases aJ:σ=0
     rotate_left
     . have J:=Z false (by rw [aw.o,uF (fun h=>aJ (aE.o.2 h)),Bool.false_and,Bool.and_false])
       have bd:(σ == 0)=false:=uD aJ;refine tK 24 ?_;refine tK 25 ?_;refine tK 26 ?_;refine sK 27 ?_;refine sK 28 ?_;refine sK 29 ?_;refine sK 30 ?_;refine sK 31 ?_;refine sK 32 ?_;refine sK 33 ?_;refine sK 34 ?_;refine sK 35 ?_;refine sK 36 ?_;clear L aa;refine hdn ?_;simp only [xDR];go_wp2;go_ret;exact ⟨by rw [J.o];rfl,m.o.below (uA) (fun x e=>by have:=X.o;rcases e with e | e<;>omega)⟩
     subst aJ
     have G:=zf w8 (.cells #[.slice AG ng cg,str a.value] 31);refine tK 24 ?_;refine tK 25 ?_;refine tK 26 ?_;refine tK 27 ?_;refine tK 28 ?_;refine tK 29 ?_;refine tK 30 ?_;refine tK 31 ?_;refine tK 32 ?_;refine tK 33 ?_;refine tK 34 ?_;refine rK 35 fun K hK=>?_
     go_simp
     refine hK.out _ _ (zm (xU (zf w8 (.cells #[.slice AG ng cg,str a.value] 31)) L.1) (aa _)) ?_;clear hK K L;intro L
     try simp only [Act.put,xST]
     have a9:Hid (zeo (w8.alloc (.cells #[.slice AG ng cg,str a.value] 31)) (w8.alloc (.cells #[.slice AG ng cg,str a.value] 31)).heap.size (.pointer (some ⟨w8.heap.size,0,none⟩)) (some (zbf goal a))):=
      ⟨_,_,_,_,rfl,by rw [World.size_alloc];omega,Blk.new w8 31 _,(zh.below C.o G).more G.size⟩
     replace B:=xre B G;replace F:=xne F G;replace m:=ze (zD m.o G);replace l:=ze (l.o.below G);have aL:=zdk b A AW n c nw cw _ rows a.weights (some (zbf goal a)) _ l.o B.o F.o a9.o HO.o.ws (fun r' e=>by injection e with e;subst e;exact ⟨ba.o,aV.o⟩);have ap:zbj rows goal a=ZT rows (some (zbf goal a)) a.weights:=by rw [aw.o,af.o,uE (aE.o.1 rfl),Bool.true_and,Bool.true_and]
     generalize hu:ZT rows (some (zbf goal a)) a.weights=u at aL ap;have ag:=ze aL;have J:=Z _ ap;clear G aL ap hu aw af aE;refine rK 36 fun K hK=>?_
     go_simp
     go_at_call 23;refine ag.o.mono ?_;rintro e w9 ⟨rfl,_,aF⟩
     replace m:=ze (m.o.trans aF (fun x _ e=>by
      rcases e with e | e
      . exact .inl e
      . have:=m.o.size;exact .inr (by omega)))
     have a4:=L.1.out.size;refine hK.out _ _ (zm (vz (aF.weak (fun x e=>by rcases e with e | e;exact .inl e;exact .inr (by omega))) L.1) (aa _)) ?_;clear hK K L;intro L
     try simp only [Act.put,xST]
     clear aF ag a4
     cases u with
     | true=>
       clear L aa;refine hdn ?_;simp only [xDR];go_wp2;go_ret;exact ⟨by rw [J.o];rfl,m.o.below (uA) (fun x e=>by have:=X.o;rcases e with e | e<;>omega)⟩
     | false=>
       clear L aa;refine hdn ?_;simp only [xDR];go_wp2;go_ret;exact ⟨by rw [J.o];rfl,m.o.below (uA) (fun x e=>by have:=X.o;rcases e with e | e<;>omega)⟩
theorem unk2 (rows:List zS) (goal:List zr):(zy rows [goal]).length<=goal.length+yV rows:=by
 unfold zy
 refine uC (Za _) ?_
 have h:=zch rows
 unfold yd at h |-
 rw [List.flatMap_append,List.length_append,h,List.flatMap_cons,List.flatMap_nil,List.append_nil,List.length_map]
 exact uA
theorem zsf {l:List (List UInt8)} {t:List UInt8} (h:t∈l):t.length<=YY l:=xD List.length l t h
theorem yY.fits {w:World} {B:Nat} {v:Value} {l:List zr} (h:yY w B v l) (h1:l.length<=1000) (h2:zE l<=2000):zh w B v l:=
 h.small (by omega) (fun x hx=>by
  have:=xD (fun t:zr=>t.name.length+t.coef.length) l x hx
  have b:x.name.length+x.coef.length<=zE l:=this
  unfold yc
  omega)
set_option maxRecDepth 100000 in
theorem zuj (A AG AP AY AW AS AT:Option Addr) (n c ng cg np cp ny cy cw cs nt ct:Nat) (kd:Int) (rows:List zS) (goal:List zr) (x:zav) (hkd:x.ans.kind=kd) (w:World)
 (hr:Xd w w.heap.size (.slice A n c) rows) (hg:yY w w.heap.size (.slice AG ng cg) goal) (hx:za8 w w.heap.size (.slice AP np cp) (.slice AY ny cy) (.slice AW x.ans.weights.length cw) (.slice AS x.weights.length cs) (.slice AT nt ct) x):
 Calls prog 3 #[.slice A n c,.slice AG ng cg,.agg #[.int .u8 kd,str x.ans.value,.slice AP np cp,.slice AY ny cy,.slice AW x.ans.weights.length cw,.slice AS x.weights.length cs,.slice AT nt ct,str x.row.bound]] w (zj3 w (.bool true)):=by
 have ab:=zf w (.cells #[.int .u8 kd,str x.ans.value,.slice AP np cp,.slice AY ny cy,.slice AW x.ans.weights.length cw,.slice AS x.weights.length cs,.slice AT nt ct,str x.row.bound] 33)
 have m:=ze (Blk.new w 33 #[.int .u8 kd,str x.ans.value,.slice AP np cp,.slice AY ny cy,.slice AW x.ans.weights.length cw,.slice AS x.weights.length cs,.slice AT nt ct,str x.row.bound])
 have B:=ze (hr.below ab)
 have u:=ze (hg.below ab)
 have HX:=ze (hx.below ab)
 have j:=ze ab
 have ac:=ze hkd
 have D:=zhu A n c rows _ _ B.o
 have H1:=ze D
 clear hr hg hx ab hkd D
 go_in
 go_upto_region 1 with fail
 have y:Hid (w.heap.size<=(w.alloc (.cells #[.int .u8 kd,str x.ans.value,.slice AP np cp,.slice AY ny cy,.slice AW x.ans.weights.length cw,.slice AS x.weights.length cs,.slice AT nt ct,str x.row.bound] 33)).heap.size):=j.o.size
 generalize w.alloc (.cells #[.int .u8 kd,str x.ans.value,.slice AP np cp,.slice AY ny cy,.slice AW x.ans.weights.length cw,.slice AS x.weights.length cs,.slice AT nt ct,str x.row.bound] 33)=W at m B u HX j H1 y |-
 generalize aJ:w.heap.size=gC at m |-
 clear aJ
 obtain ⟨F,E,I,K,N,L,Q,J,O⟩:=zww m.o
 go_wp2_with fail
 refine H1.o.mono ?_
 rintro e w1 ⟨g1,rfl,⟨m1,rfl⟩,aw⟩
 cases g1 with
 | true=>
   replace j:=ze (zo j.o m1);go_wp2_with fail;refine (ZU _).mono ?_;rintro e Z ⟨rfl,l⟩;replace j:=eb_ j l;clear l;go_wp2;go_ret;exact ⟨rfl,j.o⟩
 | false=>
   have G:=ze (aw rfl);clear aw H1;go_wp2_with fail;refine (zmq AG ng cg w.heap.size goal _ (u.o.below (zo (Below.refl _ _) _))).mono ?_;rintro e w2 ⟨g2,rfl,⟨m2,rfl⟩,aq⟩
   cases g2 with
   | true=>
     replace j:Hid (Below w.heap.size w (W.drewN (m1+m2))):=zo j.o _;go_wp2_with fail;refine (ZU _).mono ?_;rintro e Z ⟨rfl,l⟩;replace j:=eb_ j l;clear l;go_wp2;go_ret;exact ⟨rfl,j.o⟩
   | false=>
     have S:=ze (aq rfl);clear aq
     have aG:=zlz AP AY AW AS AT np cp ny cy cw cs nt ct kd x (W.drewN (m1+m2)) (by
      have h:=HX.o.below (zo (Below.refl w.heap.size W) (m1+m2))
      exact ⟨h.val,h.pt.more y.o,h.ray.more y.o,h.wts.more y.o,h.ws.more y.o,h.tm.more y.o,h.bnd⟩)
     have al:=ze aG;clear aG;go_wp2_with fail;refine al.o.mono ?_;rintro e w3 ⟨g3,rfl,af,ag⟩
     cases g3 with
     | true=>
       replace j:=ze (ext (zo j.o (m1+m2)) af);clear af ag al;go_wp2_with fail;refine (ZU _).mono ?_;rintro e Z ⟨rfl,l⟩;replace j:=eb_ j l;clear l;go_wp2;go_ret;exact ⟨rfl,j.o⟩
     | false=>
       have C:=ze (ag rfl);clear ag al;have r:Below W.heap.size W w3:=(zo (xh W) (m1+m2)).trans af;obtain ⟨Y,X⟩:=G.o.each;have an:zR W w.heap.size (.slice A n c) rows:=B.o.small Y X;have au:zh W w.heap.size (.slice AG ng cg) goal:=u.o.fits (by have:=S.o.1;omega) (by have:=S.o.2;omega);have ax:zh W w.heap.size (.slice AP np cp) x.ans.point:=HX.o.pt.fits (by have:=C.o.pt.1;omega) (by have:=C.o.pt.2;omega);have ap:zh W w.heap.size (.slice AY ny cy) x.ans.ray:=HX.o.ray.fits (by have:=C.o.ray.1;omega) (by have:=C.o.ray.2;omega);have aF:zT W w.heap.size (.slice AW x.ans.weights.length cw) x.ans.weights:=HX.o.wts.small (by have:=C.o.wl;omega) (fun t ht=>by have D:=zsf ht;have h2:=C.o.bytes;unfold yc;omega);replace B:=ze ((zR.below (an.more y.o) r).more r.size);replace u:=ze ((zh.below (au.more y.o) r).more r.size);have V:=ze ((zh.below (ax.more y.o) r).more r.size);have T:=ze ((zh.below (ap.more y.o) r).more r.size);have U:=ze ((zT.below (aF.more y.o) r).more r.size)
       replace m:=kb_ m r;replace j:=eb_ j r;have HN:Hid (rows.length<=800->(zy rows []).length<=100000):=ze (fun _=>uC (ze1 rows) (uC G.o.names (by omega)));have aH:yV rows<=400:=G.o.2.2.1;have ah:Hid (yB rows=0->(zy rows [goal]).length<=100000):=ze (fun _=>uC (unk2 rows _) (by have:=S.o.1;omega));have aa:Hid (∀ t∈x.ans.weights,t.length<=2000):=ze (fun t ht=>by have D:=zsf ht;have h2:=C.o.bytes;omega);have ao:Hid (ztb goal x.ans):=ze ⟨S.o.1,S.o.2,C.o.pt.2,C.o.ray.2,by have:=C.o.bytes;omega,aa.o⟩;obtain ⟨sk,sv,aA⟩:=zgg (goal:=goal) G.o S.o.1;have ad:=ze aA;clear an au ax ap aF Y X aH r af HX y F E I K N L Q J O S C aA;obtain ⟨F,E,I,K,N,L,Q,J,O⟩:=zww m.o;have E1:=fun w a b=>Xh n c ng cg A AG rows goal sk sv w a b HN.o ah.o (fun h=>(ad.o h).1)
       have E5:=fun w a b d e f=>zg4 A AG AP AY AW n c ng cg np cp ny cy x.ans.weights.length cw rows goal x.ans kd ac.o w a b d e f G.o ao.o ah.o
       obtain ⟨z,hz⟩:=uQ (X1 rows goal x.ans);obtain ⟨q,hq⟩:=uQ (xy rows goal);rw [<- hz] at E5;rw [<- hq] at E1;obtain ⟨aB,av,HZ,HQ⟩:=hz4 E1 E5 hz hq;clear E1 E5 hz hq HN ah ao;go_wp2_with fail;refine (aB.o _ B.o u.o).mono ?_;rintro e w4 ⟨M,at_,A1,A2,A3,n1,Y,n2,X,n3,c3,rfl,aC,hb⟩;have ae:=ze aC;clear aC;replace B:=xre B hb;replace u:=xte u hb;replace V:=xte V hb;replace T:=xte T hb;replace U:=xne U hb;replace m:=kb_ m hb;replace j:=eb_ j hb;clear hb F E I K N L Q J O;obtain ⟨F,E,I,K,N,L,Q,J,O⟩:=zww m.o;clear aB;have ay:=zf w4 (.cells #[.int .u8 M,str at_,.slice A1 n1 Y,.slice A2 n2 X,.slice A3 n3 c3] 29);have R:=ze (Blk.new w4 29 #[.int .u8 M,str at_,.slice A1 n1 Y,.slice A2 n2 X,.slice A3 n3 c3]);have hb:=ay;replace B:=xre B hb;replace u:=xte u hb;replace V:=xte V hb;replace T:=xte T hb;replace U:=xne U hb;replace m:=kb_ m hb;replace j:=eb_ j hb;clear hb F E I K N L Q J O;obtain ⟨F,E,I,K,N,L,Q,J,O⟩:=zww m.o;clear ay
       go_upto_region 4 with fail
       generalize w4.alloc (.cells #[.int .u8 M,str at_,.slice A1 n1 Y,.slice A2 n2 X,.slice A3 n3 c3] 29)=W5 at m B u V T U j R F E I K N L Q J O |-;generalize w4.heap.size=gA at R |-;have HV:=ze (av.o W5 B.o u.o V.o T.o U.o);clear av B u V T U
       by_cases ai:q=0
       rotate_left
       . have d1:(q != 0)=true:=by simpa using ai
         have aI:z=q:=by
          have D:=HZ.o;have h2:=HQ.o;unfold X1 at D;rw [<- h2,if_pos ai] at D;exact D
         subst aI
         go_upto_region 5 with fail
         go_wp2_with fail;refine HV.o.mono ?_;rintro e w6 ⟨rfl,hb⟩;replace j:=eb_ j hb;clear hb HV ae ad ac G aa HZ HQ m R F E I K N L Q J O;go_wp2_with fail;refine (ZU _).mono ?_;rintro e Z ⟨rfl,l⟩;replace j:=eb_ j l;clear l;go_wp2;go_ret;exact ⟨rfl,j.o⟩
       subst ai
       have ha:=HQ.o.symm
       go_upto_region 6 with fail
       go_wp2_with fail;refine HV.o.mono ?_;rintro e w6 ⟨rfl,hb⟩;replace j:=eb_ j hb;replace m:=kb_ m hb;replace R:=kb_ R hb;clear hb HV F E I K N L Q J O
       by_cases ar:z=0
       rotate_left
       . have d1:(z != 0)=true:=by simpa using ar
         clear ae ad ac G aa HZ HQ ha m R;go_wp2_with fail;refine (ZU _).mono ?_;rintro e Z ⟨rfl,l⟩;replace j:=eb_ j l;clear l;go_wp2;go_ret;exact ⟨rfl,j.o⟩
       subst ar
       obtain ⟨_,kn,am,aD,az⟩:=zo2 G.o aa.o HZ.o.symm;obtain ⟨rfl,rfl⟩:=ae.o (by first | rfl | trivial);obtain ⟨e1,e2⟩:=zg2 (ad.o ha).2 aD;subst e1;have aK:kd=(M:Int):=by rw [<- ac.o,am]
       subst aK
       have aE:M=1->zcv M sv=x.ans.value:=fun h=>by
        unfold zcv;rw [if_pos h,e2 h,(yA.1 (az h)).1]
       have aj:=ze aE;obtain ⟨F,E,_⟩:=bq2 m;obtain ⟨a0,a1,_⟩:=bq2 R;clear am aD az e2 aE ae ad ac G aa HZ HQ ha
       by_cases D:M=1
       . have e:=aj.o D
         subst D;rw [e] at a1;clear e aj
         skip
         go_wp2_with fail;refine (ZU _).mono ?_;rintro e Z ⟨rfl,l⟩;replace j:=eb_ j l;clear l;go_wp2;go_ret;exact ⟨rfl,j.o⟩
       have d1:((M:Int) != 1)=true:=by
        have:(M:Int)≠1:=by omega
        simpa using this
       clear aj
       skip
       go_wp2_with fail;refine (ZU _).mono ?_;rintro e Z ⟨rfl,l⟩;replace j:=eb_ j l;clear l;go_wp2;go_ret;exact ⟨rfl,j.o⟩
theorem zr4 (A:Option Addr) (n c:Nat) (rows:List zS) (AG:Option Addr) (ng cg:Nat) (goal:List zr) (kd:Int) (vp vy vw vs vt:Value) (x:zav) (w:World)
 (hr:Xd w w.heap.size (.slice A n c) rows) (hg:yY w w.heap.size (.slice AG ng cg) goal) (hkd:x.ans.kind=kd) (hx:za8 w w.heap.size vp vy vw vs vt x):
 Calls prog 3 #[.slice A n c,.slice AG ng cg,.agg #[.int .u8 kd,str x.ans.value,vp,vy,vw,vs,vt,str x.row.bound]] w (zj3 w (.bool true)):=by
 obtain ⟨_,e,l,rfl,_⟩:=id hx.pt
 obtain ⟨_,y,m,rfl,_⟩:=id hx.ray
 obtain ⟨_,b,r,rfl,_⟩:=id hx.wts
 obtain ⟨_,z,cs,rfl,_⟩:=id hx.ws
 obtain ⟨_,j,u,rfl,_⟩:=id hx.tm
 exact zuj A AG e y b z j n c ng cg _ l _ m r cs _ u kd rows goal x hkd w hr hg hx
end Go.Proofs.YtobdoblpnanclaaGreatDoor
