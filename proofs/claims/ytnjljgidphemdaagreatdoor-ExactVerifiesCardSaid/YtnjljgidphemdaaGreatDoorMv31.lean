/- Parts of the proof. -/
import Derived.Test.YtnjljgidphemdaaGreatDoorMv26
import Derived.Test.YtnjljgidphemdaaGreatDoorMv30
set_option linter.all false
namespace Go.Proofs.YtnjljgidphemdaaGreatDoor
open Proofs.Tryz Go.RowKit Go.Deep
attribute [local go_sem ↓] Go.wp_at_zero Go.wp_at_succ
def zoe (w:World) (v:Value) (n:Nat) (f:Nat->Rat):Prop:=∃ A c,v= .slice A n c/\(0<n->∃ g L,A=some ⟨g,0,none⟩/\n<=L/\zah w g L n f)
theorem zoe.below {w w' :World} {v:Value} {n:Nat} {f:Nat->Rat} (h:zoe w v n f) (hb:Below w.heap.size w w'):zoe w' v n f:=by
 obtain ⟨A,c,e,h⟩:=h
 refine ⟨A,c,e,fun hn=>?_⟩
 obtain ⟨g,L,l,j,b⟩:=h hn
 exact ⟨g,L,l,j,b.below hb⟩
def Zk (rows:List zU) (ws:Nat->Rat):Nat->List (List UInt8)
 | 0=>[]
 | n+1=>if ws n=0 then Zk rows ws n else Zk rows ws n ++ (rows.getD n default).terms.map (·.name)
def Y0 (rows:List zU) (ws:Nat->Rat) (s:List UInt8):Nat->Rat
 | 0=>0
 | n+1=>if ws n=0 then Y0 rows ws s n else Y0 rows ws s n+ZR (rows.getD n default).terms s*ws n
def yJ (rows:List zU) (ws:Nat->Rat) (l:List (List UInt8)):List zu:=(l.filter fun s=>decide (Y0 rows ws s rows.length≠0)).map fun s=>{ name:=s,coef:=zI (Y0 rows ws s rows.length) }
structure zu6 (rows:List zU) (ws:Nat->Rat):Prop where
 few:rows.length<=800
 coefs:∀ i,i<rows.length->zqc (rows.getD i default).terms
 bnd:∀ i,i<rows.length->zl (rows.getD i default).bound=some (XY (rows.getD i default))
 small:∀ i,i<rows.length->zS (rows.getD i default).bound
 bl:∀ i,i<rows.length->XV 8388608 (XY (rows.getD i default))/\XV 8388608 (XY (rows.getD i default)*ws i)
 wl:∀ i,i<rows.length->XV 8388608 (ws i)
 bs:∀ i,i<=rows.length->XV 8388608 (ZA rows ws i)
 cl:∀ i s,i<rows.length->XV 8388608 (ZR (rows.getD i default).terms s)/\XV 8388608 (ZR (rows.getD i default).terms s*ws i)
 cs:∀ i s,i<=rows.length->XV 8388608 (Y0 rows ws s i)
 cnt:∀ i,i<rows.length->(Zk rows ws i).length+(rows.getD i default).terms.length<=100000
 out:∀ s,zS (zI (Y0 rows ws s rows.length))
theorem Vx (q:Rat):(q.num.sign=0)↔q=0:=by
 rw [Int.sign_eq_zero_iff_zero]
 exact Rat.num_eq_zero
theorem zld (w:World):zw w w.heap.size (.slice none 0 0) []:=⟨none,0,rfl,uA,by unfold maxLen;omega,by simp,yc.none_,fun x hx=>by cases hx⟩
theorem zw.off {w w' :World} {B g:Nat} {v:Value} {l:List (List UInt8)} {t:TypeId} {cs:Array Value} (h:zw w B v l) (hk:Blk w g t cs) (hn:∀ u∈cs,∀ s,u≠ .string s) (hc:Chg (· =g) w w'):zw w' B v l:=by
 obtain ⟨A,c,e,E,I,F,y,z⟩:=h
 refine ⟨A,c,e,E,I,F,⟨y.1,fun h0=>?_⟩,z⟩
 obtain ⟨m,J,hb,r⟩:=y.2 h0
 have D:m.block≠g:=fun e3=>by
  have G:(l.map str)[0]?=some (str (l[0]'h0)):=by rw [List.getElem?_map,List.getElem?_eq_getElem h0];rfl
  have b:=r 0 _ G
  have C:(m.add 0).block=g:=by rw [zD];exact e3
  unfold Blk at hk
  rw [<- C] at hk
  simp only [World.cell?,hk] at b
  split at b
  . cases b
  exact hn _ (Array.mem_of_getElem? b) _ rfl
 exact ⟨m,J,hb,fun j u hu=>hc.cell (r j u hu) (by rw [zD];exact D)⟩
theorem ztn {ng:Bool} {X Y:Option Addr} {a b c d:Nat}:∀ u∈#[Value.bool ng,.slice X a b,.slice Y c d],∀ s,u≠ .string s:=by
 intro u hu s e
 subst e
 simp at hu
theorem zkl {w:World} {g:Nat} {ng:Bool} {A B:Option Addr} {n c m d:Nat}:Chg (· =g) w (World.ref w g ng A n c B m d):=by
 simp only [World.ref]
 apply Chg.setCell (S:=fun b=>b=g) ?_ (by rfl)
 apply Chg.setCell (S:=fun b=>b=g) ?_ (by rfl)
 apply Chg.setCell (S:=fun b=>b=g) ?_ (by rfl)
 exact Chg.refl w
structure JoK (w0 w:World) (gO Bn:Nat) (nv tv:Value) (l:List (List UInt8)) (T:List zu) (bt:List UInt8):Prop where
 own:Zj w Bn 45 2 tv T.length (v8 T.length (Ye T) (Yc T))
 out:Blk w gO 31 #[tv,str bt]
 names:zw w gO nv l
 res:Blk w w0.heap.size 31 #[.slice none 0 0,.string ⟨#[]⟩]
 below:Below w0.heap.size w0 w
 lo:gO<Bn
 bn:Bn<=w.heap.size
 ho:w0.heap.size<gO
theorem JoK.ext_ {w0 w w' :World} {gO Bn:Nat} {nv tv:Value} {l:List (List UInt8)} {T:List zu} {bt:List UInt8} (h:JoK w0 w gO Bn nv tv l T bt) (hb:Below w.heap.size w w'):JoK w0 w' gO Bn nv tv l T bt:=
 ⟨h.own.below hb,h.out.below hb h.out.lt,zw.below h.names hb,h.res.below hb h.res.lt,ext h.below hb,h.lo,uC h.bn hb.size,h.ho⟩
theorem JoK.num {w0 w w' :World} {gO Bn g:Nat} {nv tv:Value} {l:List (List UInt8)} {T:List zu} {bt:List UInt8} {cs:Array Value} (h:JoK w0 w gO Bn nv tv l T bt) (hk:Blk w g 112 cs) (hg:gO<g) (hc:Chg (· =g) w w'):JoK w0 w' gO Bn nv tv l T bt:=
 ⟨h.own.chg hc (fun c hc2 e=>by
  subst e
  obtain ⟨b,q⟩:=h.own.heap hc2
  exact xD hk q (by decide) rfl),hc.blk h.out (xD h.out hk (by decide)),zw.chg h.names hc (fun x hx e=>by omega),hc.blk h.res (xD h.res hk (by decide)),h.below.trans (hc.below h.below.size (fun x e=>by have:=h.ho;omega)),h.lo,uC h.bn hc.size,h.ho⟩
def JoB (w0:World) (rows:List zU) (ws:Nat->Rat) (gO Bn:Nat) (nv:Value) (l:List (List UInt8)) (bt:List UInt8) (kv:Value) (wr:World):Prop:=
 ∃ (k:Nat) (tv:Value),k<=l.length/\kv= .int .i64 k/\Hid (JoK w0 wr gO Bn nv tv l (yJ rows ws (l.take k)) bt)
def JoC (w0:World) (rows:List zU) (ws:Nat->Rat) (gO Bn gS:Nat) (nv tv:Value) (l:List (List UInt8)) (T:List zu) (bt s:List UInt8) (iv:Value) (wr:World):Prop:=
 ∃ (i:Nat),i<=rows.length/\iv= .int .i64 i/\Hid (JoK w0 wr gO Bn nv tv l T bt)/\Hid (NBx wr gS (Y0 rows ws s i))
theorem zq8 {rows:List zU} {ws:Nat->Rat} {l:List (List UInt8)} {k:Nat} (h:k<l.length):
 (Y0 rows ws l[k] rows.length=0->yJ rows ws (l.take (k+1))=yJ rows ws (l.take k))/\
 (Y0 rows ws l[k] rows.length≠0->yJ rows ws (l.take (k+1))=yJ rows ws (l.take k) ++ [{ name:=l[k],coef:=zI (Y0 rows ws l[k] rows.length) }]):=by
 have e:l.take (k+1)=l.take k ++ [l[k]]:=by rw [List.take_add_one,List.getElem?_eq_getElem h];rfl
 unfold yJ
 rw [e,List.filter_append,List.map_append]
 simp only [List.filter_cons,List.filter_nil]
 refine ⟨fun h0=>?_,fun h0=>?_⟩
 . simp [h0]
 simp [h0]
theorem zmk {rows:List zU} {ws:Nat->Rat} {l:List (List UInt8)}:(yJ rows ws l).length<=l.length:=by
 unfold yJ
 rw [List.length_map]
 exact List.length_filter_le _ _
def JoA (w0:World) (rows:List zU) (ws:Nat->Rat) (gB:Nat) (nv iv:Value) (wr:World):Prop:=
 ∃ (i:Nat) (v:Value) (l:List (List UInt8)),i<=rows.length/\iv= .int .i64 i/\v=nv/\Hid (xh l (Zk rows ws i))/\Hid (zw wr wr.heap.size v l)/\Hid (NBx wr gB (ZA rows ws i))/\Hid (Blk wr w0.heap.size 31 #[.slice none 0 0,.string ⟨#[]⟩])/\Hid (Below w0.heap.size w0 wr)
def zva (w:World) (rows:List zU) (ws:Nat->Rat) (e:Ending) (w' :World):Prop:=
 ∃ l A c,xh l (Zk rows ws rows.length)/\e= .returned (.agg #[.slice A (yJ rows ws l).length c,str (zI (ZA rows ws rows.length))])/\zh w' w'.heap.size (.slice A (yJ rows ws l).length c) (yJ rows ws l)/\TyT w' (.slice A (yJ rows ws l).length c)/\Below w.heap.size w w'
set_option maxRecDepth 100000 in
set_option maxHeartbeats 8000000 in
theorem zgc (A:Option Addr) (n c:Nat) (wv:Value) (rows:List zU) (ws:Nat->Rat) (w:World) (hr:yS w (.slice A n c) rows) (hw:zoe w wv rows.length ws) (ho:zu6 rows ws):
 Calls prog 51 #[.slice A n c,wv] w (zva w rows ws):=by
 obtain rfl:=hr.len
 obtain ⟨AW,cW,rfl,_⟩:=id hw
 have h8:=ho.few
 obtain ⟨aW,bJ,HO⟩:=hz3 hr hw ho
 have G:=zf w (.cells #[.slice none 0 0,.string ⟨#[]⟩] 31)
 have D:=ze (Blk.new w 31 #[.slice none 0 0,.string ⟨#[]⟩])
 have z:=ze G
 clear hr hw ho G
 go_in
 go_wp2_with fail
 refine (zas _).mono ?_
 rintro e w1 ⟨v,rfl,hv,aT⟩
 obtain ⟨ng,X,n1,U,Y,Z,R,rfl⟩:zu3 v:=by obtain ⟨ng,X,n1,U,Y,Z,R,h6,_⟩:=hv;exact ⟨_,_,_,_,_,_,_,h6⟩
 have J:=zf w1 (.cells #[.bool ng,.slice X n1 U,.slice Y Z R] 112)
 have E:Hid (NBx (w1.alloc (.cells #[.bool ng,.slice X n1 U,.slice Y Z R] 112)) w1.heap.size (ZA rows ws 0)):=⟨_,_,_,_,_,_,_,Blk.new w1 _ _,hv.below J⟩
 have I:=aT.trans (J.mono aT.size)
 have a5:Hid (w.heap.size<w1.heap.size):=ze (by have:=D.o.lt;have:=aT.size;omega)
 replace D:=kb_ D I
 replace z:=eb_ z I
 clear aT J I hv
 go_upto_region 3 with fail
 generalize w1.alloc (.cells #[.bool ng,.slice X n1 U,.slice Y Z R] 112)=W at E D z |-
 generalize w1.heap.size=gB at E a5 |-
 go_wp2
 go_loopw [5,7] (JoA w rows ws gB) (fun _ iv _=>rows.length - (intOf iv).toNat)
 case atStart=>exact ⟨0,_,[],uB,rfl,rfl,ze ⟨List.Pairwise.nil,fun x=>by simp [Zk]⟩,ze (zld _),E,D,z⟩
 case round=>
  clear E D z
  obtain ⟨i,v,l,hi,rfl,rfl,aM,V,E,D,z⟩:=hrel
  by_cases Q:i<rows.length
  . have ca:(i:Int)<(rows.length:Int):=by omega
    have bV:IntKind.i64.wrap ((i:Int)+1)=((i+1:Nat):Int):=by rw [IntKind.wrap_i64];omega
    have af:=xGD (d:=default) Q;obtain ⟨A',c',e,ay⟩:=bJ.o.below z.o;injection e with e1 e2 e3
    subst e1;obtain ⟨gw,L,e4,bR,ar⟩:=ay (by omega);subst e4;obtain ⟨aF,Xw,aO,aD,Yw,aE,aJ,c0,c1,c2,aj⟩:=ar.2 i Q;have M:=ze aj;have ag:=ze ar;clear ay ar aj e2 e3;go_wp2_with fail;refine (YG _ (ws i) wr M.o).mono ?_;rintro e w2 ⟨rfl,I⟩;replace V:=xne V I;replace E:=ze (E.o.below I);replace D:=kb_ D I;replace z:=eb_ z I;replace ag:=ze (ag.o.below I);clear I c0 c1 c2 M
    by_cases G:ws i=0
    . have ak:(ws i).num.sign=0:=(Vx _).2 G
      rw [ak];have al:Hid (Zk rows ws (i+1)=Zk rows ws i/\ZA rows ws (i+1)=ZA rows ws i):=ze ⟨by rw [Zk,if_pos G],by rw [ZA,if_pos G]⟩;clear G ak af ag;go_wp2;go_roundw
      case rel=>exact ⟨i+1,_,l,by omega,by go_num,rfl,by rw [al.o.1];exact aM,V,by rw [al.o.2];exact E,D,z⟩
      case measure=>simp [intOf];omega
    obtain ⟨σ,hσ⟩:=uQ ((ws i).num.sign)
    have aG:¬ σ=0:=fun e=>G ((Vx _).1 (hσ.symm.trans e))
    rw [<- hσ];have al:Hid (Zk rows ws (i+1)=Zk rows ws i ++ rows[i].terms.map (·.name)/\ZA rows ws (i+1)=ZA rows ws i+XY rows[i]*ws i):=ze ⟨by rw [Zk,if_neg G,af],by rw [ZA,if_neg G,af]⟩;clear hσ G
    go_upto_region 7 with fail
    clear aG;have HR:=ze (zH.below' aW.o z.o);obtain ⟨ad,AT,nt,ct,eA,a2,p0,p1,ht,au⟩:=HR.o.at_ Q;subst eA;have bX:=ht.len;subst bX;obtain ⟨An,cn,rfl,_⟩:=id V.o;have aV:=HO.o.cnt i Q;rw [af] at aV;have bL:=zgt An AT l.length cn _ ct w.heap.size l (Zk rows ws i) rows[i].terms w2 V.o aM.o ht z.o.size aV;have bD:=ze bL;clear bL aV au;go_wp2_with fail;refine bD.o.mono ?_;rintro e w3 ⟨v3,l3,rfl,bG,bK,aC⟩;have b9:=ze bG;have ap:=ze bK;replace E:=ze (E.o.below aC);replace D:=kb_ D aC;replace z:=eb_ z aC;replace ag:=ze (ag.o.below aC);clear bG bK aC bD V aM p0 p1 ht HR
    go_upto_region 8 with fail
    have HR:=ze (zH.below' aW.o z.o);obtain ⟨cj,ch,cg,cd,eA,bZ,p0,p1,ht,au⟩:=HR.o.at_ Q;injection eA with eA
    subst eA;have aL:ad.block<w3.heap.size:=uK a2 z.o.size;obtain ⟨aF,Xw,aO,aD,Yw,aE,aJ,c0,c1,c2,aj⟩:=ag.o.2 i Q;have M:=ze aj;have gL:=ag.o.lt;obtain ⟨ng,X,n1,U,Y,Z,R,ac,ai⟩:=E.o;have y:=ze ac;have F:=ze ai;obtain ⟨o0,o1,o2,oL⟩:=bp3 ac;have bf:=HO.o.bnd i Q;rw [af] at bf;have a9:=HO.o.bl i Q;rw [af] at a9;have bo:=ze (fun w=>xV rows[i].bound (XY rows[i]) w au bf);have bB:=ze a9;have aX:=ze (HO.o.wl i Q);have cc:=ze (HO.o.bs i hi);generalize aU:rows[i].bound=bd at bo p1;clear aj ac ai E HR bf a9 ht au p0 bZ aU af
    have O:∀ w',Hid (Below w3.heap.size w3 w')->w'.cell? ⟨gB,0,none⟩=some (.bool ng)/\w'.cell? ⟨gB,1,none⟩=some (.slice X n1 U)/\w'.cell? ⟨gB,2,none⟩=some (.slice Y Z R)/\w'.cell? ⟨(ad.add (i*2)).block,(ad.add (i*2)).off+1,none⟩=some (str bd)/\w'.cell? ⟨gw,i*3,none⟩=some (.bool aF)/\w'.cell? ⟨gw,i*3+1,none⟩=some (.slice Xw aO aD)/\w'.cell? ⟨gw,i*3+2,none⟩=some (.slice Yw aE aJ):=fun w' hB=>⟨zq hB oL o0,zq hB oL o1,zq hB oL o2,Vh hB aL p1,zq hB gL c0,zq hB gL c1,zq hB gL c2⟩
    refine Xc O 13 (zt w3) fun C=>?_;refine tK 0 ?_;refine tK 1 ?_;refine tK 2 ?_;refine tK 3 ?_;refine tK 4 ?_;refine tK 5 ?_;refine tK 7 ?_;refine tK 8 ?_;refine tK 9 ?_;refine tK 10 ?_;refine rK 6 fun K hK=>?_
    go_simp
    go_at_call 53;have ae:=(zt w3).out;replace ap:=xne ap ae;replace D:=kb_ D ae;replace y:=kb_ y ae;replace F:=ze (F.o.below ae);replace M:=ze (M.o.below ae);replace z:=eb_ z ae;clear ae;refine (bo.o _).mono ?_;rintro e w4 ⟨v4,rfl,am,N⟩;replace ap:=xne ap N;replace D:=kb_ D N;replace y:=kb_ y N;replace F:=ze (F.o.below N);replace M:=ze (M.o.below N);replace z:=eb_ z N;have aH:=ze am;refine hK.out _ _ (zo (zp N (zt w3)) (O _)) ?_;clear hK K C;intro C
    try simp only [Act.put,xST]
    clear N am;refine rK 11 fun K hK=>?_
    go_simp
    go_at_call 103;refine (X4 _ _ (XY rows[i]) (ws i) _ aH.o M.o bB.o.1 aX.o).mono ?_;rintro e w6 ⟨v6,rfl,aA,ah⟩;replace ap:=xne ap ah;replace D:=kb_ D ah;replace y:=kb_ y ah;replace F:=ze (F.o.below ah);replace z:=eb_ z ah;have az:=ze aA;refine hK.out _ _ (zo (zp ah C.1) (O _)) ?_;clear hK K C;intro C
    try simp only [Act.put,xST]
    clear ah aA aH M;refine rK 12 fun K hK=>?_
    go_simp
    go_at_call 102;refine (YO _ _ (ZA rows ws i) (XY rows[i]*ws i) _ F.o az.o cc.o bB.o.2).mono ?_;rintro e w7 ⟨v7,rfl,ao,ab⟩;replace ap:=xne ap ab;replace D:=kb_ D ab;replace y:=kb_ y ab;replace z:=eb_ z ab;obtain ⟨g7,X7,a7,b7,Y7,d7,f7,rfl⟩:zu3 v7:=by obtain ⟨g7,X7,a7,b7,Y7,d7,f7,h6,_⟩:=ao;exact ⟨_,_,_,_,_,_,_,h6⟩
    rw [<- al.o.2] at ao;have a6:=ze ao;obtain ⟨f0,f1,f2⟩:=fq3 y;obtain ⟨g0,g1,g2,_⟩:=bq3 y;refine hK.out _ _ (zo (zp ab C.1) (O _)) ?_;clear hK K C;intro C
    try simp only [Act.put,xST]
    clear ab ao az F;clear C O;refine hdn ?_;simp only [xDR];clear o0 o1 o2 oL p1 aL c0 c1 c2 gL;go_wp2_with fail;have bb:Hid (NBx (World.ref w7 gB g7 X7 a7 b7 Y7 d7 f7) gB (ZA rows ws (i+1))):=⟨_,_,_,_,_,_,_,yO y.o,vW.stored a6.o y.o⟩;have bU:=ze (zrn (ng:=g7) (A:=X7) (n:=a7) (c:=b7) (B:=Y7) (m:=d7) (d:=f7) D.o (show w.heap.size≠gB by have:=a5.o;omega));have bY:=ze (yy (ng:=g7) (A:=X7) (n:=a7) (c:=b7) (B:=Y7) (m:=d7) (d:=f7) z.o (Nat.le_of_lt a5.o));have bP:Hid (zw (World.ref w7 gB g7 X7 a7 b7 Y7 d7 f7) (World.ref w7 gB g7 X7 a7 b7 Y7 d7 f7).heap.size v3 l3):=(zw.off ap.o y.o ztn zkl).more zkl.size;go_roundw
    case rel=>exact ⟨i+1,_,l3,by omega,by go_num,rfl,by rw [al.o.1];exact b9,bP,bb,bU,bY⟩
    case measure=>simp [intOf];omega
  obtain rfl:rows.length=i:=by omega
  obtain ⟨ng,X,n1,U,Y,Z,R,ac,ai⟩:=E.o;have F:=ze ai;obtain ⟨o0,o1,o2,_⟩:=bp3 ac;clear ac ai E;go_wp2_with fail;refine (zcz _ (ZA rows ws rows.length) wr F.o ((HO.o.bs _ (uA)).mono (by omega))).mono ?_;rintro e w2 ⟨rfl,I⟩;obtain ⟨bt,aZ⟩:=uQ (zI (ZA rows ws rows.length));rw [<- aZ];have b4:=ze aZ;clear o0 o1 o2 F aZ;replace V:=xne V I;replace D:=kb_ D I;replace z:=eb_ z I;clear I;have J:=zf w2 (.cells #[.slice none 0 0,str bt] 31);have y:=ze (Blk.new w2 31 #[.slice none 0 0,str bt]);have ba:=ze (show w.heap.size<w2.heap.size from D.o.lt);replace V:=ze (zw.below V.o J);replace D:=kb_ D J;replace z:=eb_ z J;clear J
  go_upto_region 10 with fail
  generalize w2.alloc (.cells #[.slice none 0 0,str bt] 31)=W3 at y V D z |-;generalize w2.heap.size=gO at y ba V |-;obtain ⟨An,cn,rfl,_⟩:=id V.o;have bi:l.length<=100000:=by obtain ⟨_,_,_,_,_,h,_⟩:=id V.o;exact h
  have br:=ze bi
  have bk:Hid (JoK w W3 gO (gO+1) (.slice An l.length cn) (.slice none 0 0) l (yJ rows ws (l.take 0)) bt):=ze (by
   rw [List.take_zero]
   exact ⟨Z8 _ _ _ _,y.o,V.o,D.o,z.o,Nat.lt_succ_self _,y.o.lt,ba.o⟩)
  have bT:=aM;clear bi y V D z ba aM;go_wp2
  go_loopw [9] (JoB w rows ws gO (gO+1) (.slice An l.length cn) l bt) (fun kv _=>l.length - (intOf kv).toNat)
  case atStart=>exact ⟨0,_,uB,rfl,bk⟩
  case round=>
   clear bk;obtain ⟨k,tv,hk,rfl,r⟩:=hrel;have bi:=br.o
   by_cases bc:k<l.length
   rotate_left
   . obtain rfl:l.length=k:=by omega
     rw [List.take_length] at r;obtain ⟨At,ct,rfl,_⟩:=zmi r.o.own.1;have o0:=r.o.out.cell 0;have o1:=r.o.out.cell 1;have a0:=r.o.res.cell 0;have a1:=r.o.res.cell 1;have f0:=r.o.res.frozen 0;have f1:=r.o.res.frozen 1;simp at o0 o1 a0 a1;go_wp2_with fail;have aw:=(r.o.res.set_ 0 (.slice At (yJ rows ws l).length ct)).set_ 1 (str bt);obtain ⟨e0,e1,_⟩:=bp2 aw;refine bodyPost_ret (v:=.agg #[.slice At (yJ rows ws l).length ct,str bt]) (by simp [results,results51,go_sem,e0,e1]) rfl ?_
     have bC:Chg (· =w.heap.size) wr ((wr.setCell ⟨w.heap.size,0,none⟩ (.slice At (yJ rows ws l).length ct)).setCell ⟨w.heap.size,1,none⟩ (str bt)):=by
      apply Chg.setCell (S:=fun x=>x=w.heap.size) ?_ (by rfl)
      apply Chg.setCell (S:=fun x=>x=w.heap.size) ?_ (by rfl)
      exact Chg.refl wr
     have aK:=r.o.own.chg bC (fun c hc e=>by
      subst e;have:=(r.o.own.1.lt _ hc).1;have:=r.o.ho
      omega)
     refine ⟨l,At,ct,bT.o,by rw [b4.o],?_,zr9 aK.1,r.o.below.trans (bC.below r.o.below.size (fun x e=>by omega))⟩;refine zjd aK.1 (uC zmk br.o) fun x J=>?_;unfold yJ at J;obtain ⟨s0,ak,rfl⟩:=List.mem_map.1 J;refine ⟨?_,HO.o.out s0⟩;obtain ⟨_,_,_,_,_,_,_,h⟩:=id r.o.names;exact h s0 (List.mem_filter.1 ak).1
   have cf:(k:Int)<(l.length:Int):=by omega
   have ce:IntKind.i64.wrap ((k:Int)+1)=((k+1:Nat):Int):=by rw [IntKind.wrap_i64];omega
   go_wp2_with fail;refine (zas _).mono ?_;rintro e w4 ⟨v4,rfl,am,N⟩;obtain ⟨ng,X,n1,U,Y,Z,R,rfl⟩:zu3 v4:=by obtain ⟨ng,X,n1,U,Y,Z,R,h6,_⟩:=am;exact ⟨_,_,_,_,_,_,_,h6⟩
   have J:=zf w4 (.cells #[.bool ng,.slice X n1 U,.slice Y Z R] 112);have E:Hid (NBx (w4.alloc (.cells #[.bool ng,.slice X n1 U,.slice Y Z R] 112)) w4.heap.size (Y0 rows ws l[k] 0)):=⟨_,_,_,_,_,_,_,Blk.new w4 _ _,am.below J⟩;have bF:Hid (gO<w4.heap.size):=ze (by have:=r.o.out.lt;have:=N.size;omega);replace r:=ze ((r.o.ext_ N).ext_ J);clear N J am
   go_upto_region 14 with fail
   generalize w4.alloc (.cells #[.bool ng,.slice X n1 U,.slice Y Z R] 112)=W5 at E r |-;generalize w4.heap.size=gS at E bF |-;obtain ⟨T,hT⟩:=uQ (yJ rows ws (l.take k));rw [<- hT] at r;have bW:=ze hT;have bj:T.length<=100000:=by rw [hT];exact uC zmk (by rw [List.length_take];omega)
   have bI:=ze bj;clear hT bj;go_wp2
   go_loopw [11] (JoC w rows ws gO (gO+1) gS (.slice An l.length cn) tv l T bt l[k]) (fun iv _=>rows.length - (intOf iv).toNat)
   case atStart=>exact ⟨0,uB,rfl,r,E⟩
   case round=>
    clear r E;obtain ⟨i,hi,rfl,r,E⟩:=hrel
    by_cases Q:i<rows.length
    . have ca:(i:Int)<(rows.length:Int):=by omega
      have bV:IntKind.i64.wrap ((i:Int)+1)=((i+1:Nat):Int):=by rw [IntKind.wrap_i64];omega
      have af:=xGD (d:=default) Q;obtain ⟨A',c',e,ay⟩:=bJ.o.below r.o.below;injection e with e1 e2 e3
      subst e1;obtain ⟨gw,L,e4,bR,ar⟩:=ay (by omega);subst e4;obtain ⟨aF,Xw,aO,aD,Yw,aE,aJ,c0,c1,c2,aj⟩:=ar.2 i Q;have M:=ze aj;have ag:=ze ar;clear ay ar aj e2 e3;go_wp2_with fail;refine (YG _ (ws i) wr M.o).mono ?_;rintro e w2 ⟨rfl,I⟩;replace r:=ze (r.o.ext_ I);replace E:=ze (E.o.below I);replace ag:=ze (ag.o.below I);clear I c0 c1 c2 M
      by_cases G:ws i=0
      . have ak:(ws i).num.sign=0:=(Vx _).2 G
        rw [ak];have al:Hid (Y0 rows ws l[k] (i+1)=Y0 rows ws l[k] i):=ze (by rw [Y0,if_pos G]);clear G ak af ag;go_wp2;go_roundw
        case rel=>exact ⟨i+1,by omega,by go_num,r,by rw [al.o];exact E⟩
        case measure=>simp [intOf];omega
      obtain ⟨σ,hσ⟩:=uQ ((ws i).num.sign)
      have aG:¬ σ=0:=fun e=>G ((Vx _).1 (hσ.symm.trans e))
      rw [<- hσ];have al:Hid (Y0 rows ws l[k] (i+1)=Y0 rows ws l[k] i+ZR rows[i].terms l[k]*ws i):=ze (by rw [Y0,if_neg G,af]);clear hσ G
      go_upto_region 18 with fail
      clear aG;have HR:=ze (zH.below' aW.o r.o.below);obtain ⟨ad,AT,nt,ct,eA,a2,p0,p1,ht,au⟩:=HR.o.at_ Q;have aL:ad.block<w2.heap.size:=uK a2 r.o.below.size;obtain ⟨an,eN,bM,p2⟩:=r.o.names.at_ bc;have nL:an.block<w2.heap.size:=Nat.lt_trans bM r.o.out.lt;subst eA;subst eN;obtain ⟨aF,Xw,aO,aD,Yw,aE,aJ,c0,c1,c2,aj⟩:=ag.o.2 i Q;have M:=ze aj;have gL:=ag.o.lt;obtain ⟨ng,X,n1,U,Y,Z,R,ac,ai⟩:=E.o;have y:=ze ac;have F:=ze ai;obtain ⟨o0,o1,o2,oL⟩:=bp3 ac;have bg:=HO.o.cl i l[k] Q;rw [af] at bg;have aY:=HO.o.coefs i Q;rw [af] at aY;have aN:=ze bg;have b1:=ze aY;have aX:=ze (HO.o.wl i Q);have bH:=ze (HO.o.cs i l[k] hi);have a8:=ze ht;generalize aU:rows[i].bound=bd at p1;generalize a4:l[k]=nm at p2 aN bH al E F;clear aj ac ai HR bg aY ht au aU af
      have O:∀ w',Hid (Below w2.heap.size w2 w')->w'.cell? ⟨gS,0,none⟩=some (.bool ng)/\w'.cell? ⟨gS,1,none⟩=some (.slice X n1 U)/\w'.cell? ⟨gS,2,none⟩=some (.slice Y Z R)/\w'.cell? (ad.add (i*2))=some (.slice AT nt ct)/\w'.cell? ⟨(ad.add (i*2)).block,(ad.add (i*2)).off+1,none⟩=some (str bd)/\w'.cell? (an.add k)=some (str nm)/\w'.cell? ⟨gw,i*3,none⟩=some (.bool aF)/\w'.cell? ⟨gw,i*3+1,none⟩=some (.slice Xw aO aD)/\w'.cell? ⟨gw,i*3+2,none⟩=some (.slice Yw aE aJ):=fun w' hB=>⟨zq hB oL o0,zq hB oL o1,zq hB oL o2,xy hB aL p0,Vh hB aL p1,xy hB nL p2,zq hB gL c0,zq hB gL c1,zq hB gL c2⟩
      refine Xc O 16 (zt w2) fun C=>?_;refine tK 0 ?_;refine tK 1 ?_;refine tK 2 ?_;refine tK 3 ?_;refine tK 4 ?_;refine tK 5 ?_;refine tK 6 ?_;refine tK 7 ?_;refine tK 8 ?_;refine tK 10 ?_;refine tK 11 ?_;refine tK 12 ?_;refine tK 13 ?_;refine rK 9 fun K hK=>?_
      go_simp
      go_at_call 105;have ae:=(zt w2).out;replace r:=ze (r.o.ext_ ae);replace y:=kb_ y ae;replace F:=ze (F.o.below ae);replace M:=ze (M.o.below ae);replace a8:=ze (zh.below a8.o ae);clear ae;refine (zs4 AT nt ct w.heap.size rows[i].terms bd nm _ a8.o r.o.below.size b1.o).mono ?_;rintro e w4 ⟨v4,rfl,am,N⟩;replace r:=ze (r.o.ext_ N);replace y:=kb_ y N;replace F:=ze (F.o.below N);replace M:=ze (M.o.below N);have aH:=ze am;refine hK.out _ _ (zo (zp N (zt w2)) (O _)) ?_;clear hK K C;intro C
      try simp only [Act.put,xST]
      clear N am;refine rK 14 fun K hK=>?_
      go_simp
      go_at_call 103;refine (X4 _ _ (ZR rows[i].terms nm) (ws i) _ aH.o M.o aN.o.1 aX.o).mono ?_;rintro e w6 ⟨v6,rfl,aA,ah⟩;replace r:=ze (r.o.ext_ ah);replace y:=kb_ y ah;replace F:=ze (F.o.below ah);have az:=ze aA;refine hK.out _ _ (zo (zp ah C.1) (O _)) ?_;clear hK K C;intro C
      try simp only [Act.put,xST]
      clear ah aA aH M;refine rK 15 fun K hK=>?_
      go_simp
      go_at_call 102;refine (YO _ _ (Y0 rows ws nm i) (ZR rows[i].terms nm*ws i) _ F.o az.o bH.o aN.o.2).mono ?_;rintro e w7 ⟨v7,rfl,ao,ab⟩;replace r:=ze (r.o.ext_ ab);replace y:=kb_ y ab;obtain ⟨g7,X7,a7,b7,Y7,d7,f7,rfl⟩:zu3 v7:=by obtain ⟨g7,X7,a7,b7,Y7,d7,f7,h6,_⟩:=ao;exact ⟨_,_,_,_,_,_,_,h6⟩
      rw [<- al.o] at ao;have a6:=ze ao;obtain ⟨f0,f1,f2⟩:=fq3 y;obtain ⟨g0,g1,g2,_⟩:=bq3 y;refine hK.out _ _ (zo (zp ab C.1) (O _)) ?_;clear hK K C;intro C
      try simp only [Act.put,xST]
      clear ab ao az F;clear C O;refine hdn ?_;simp only [xDR];clear o0 o1 o2 oL p0 p1 p2 aL nL c0 c1 c2 gL;go_wp2_with fail;have bb:Hid (NBx (World.ref w7 gS g7 X7 a7 b7 Y7 d7 f7) gS (Y0 rows ws nm (i+1))):=⟨_,_,_,_,_,_,_,yO y.o,vW.stored a6.o y.o⟩;have b6:Hid (JoK w (World.ref w7 gS g7 X7 a7 b7 Y7 d7 f7) gO (gO+1) _ tv l T bt):=ze (r.o.num y.o bF.o zkl);go_roundw
      case rel=>exact ⟨i+1,by omega,by go_num,b6,by rw [a4];exact bb⟩
      case measure=>simp [intOf];omega
    obtain rfl:rows.length=i:=by omega
    obtain ⟨cq,aR⟩:=uQ (Y0 rows ws l[k] rows.length);rw [<- aR] at E;have be:=zq8 (rows:=rows) (ws:=ws) bc;rw [<- aR, <- bW.o] at be;have aS:=ze be;have aN:=ze (show XV 8388608 cq by rw [aR];exact HO.o.cs _ _ (uA));clear aR be;obtain ⟨ng,X,n1,U,Y,Z,R,ac,ai⟩:=E.o;have aQ:=ze ac;have F:=ze ai;obtain ⟨o0,o1,o2,_⟩:=bp3 ac;clear ac ai E;go_wp2_with fail;refine (YG _ cq wr F.o).mono ?_;rintro e w2 ⟨rfl,I⟩;replace r:=ze (r.o.ext_ I);replace aQ:=kb_ aQ I;replace F:=ze (F.o.below I);clear I o0 o1 o2
    by_cases G:cq=0
    . have ak:cq.num.sign=0:=(Vx _).2 G
      rw [ak];have aB:Hid (JoK w w2 gO (gO+1) (.slice An l.length cn) tv l (yJ rows ws (l.take (k+1))) bt):=ze (by rw [aS.o.1 G];exact r.o);clear G ak aS r;go_wp2;go_roundw
      case rel=>exact ⟨k+1,_,by omega,by go_num,aB⟩
      case measure=>simp [intOf];omega
    obtain ⟨σ,hσ⟩:=uQ cq.num.sign
    have aG:¬ σ=0:=fun e=>G ((Vx _).1 (hσ.symm.trans e))
    rw [<- hσ];have aB:=ze (aS.o.2 G);clear hσ G aS
    go_upto_region 20 with fail
    clear aG;have av:∀ x,tv.ownBlock=some x->gO+1<=x:=fun x e=>(r.o.own.1.lt x e).1
    have nO:¬ tv.ownBlock=some gO:=fun e=>by have:=av _ e;omega
    have nS:¬ tv.ownBlock=some gS:=fun e=>by
     obtain ⟨cs,q⟩:=r.o.own.heap e;exact xD aQ.o q (by decide) rfl
    obtain ⟨an,eN,bM,p2⟩:=r.o.names.at_ bc;subst eN;have nN:¬ tv.ownBlock=some an.block:=fun e=>by have:=av _ e;omega
    have o0:=r.o.out.cell 0;obtain ⟨s0,s1,s2,_⟩:=bq3 aQ;simp at o0;generalize a4:l[k]=nm at p2 aB;obtain ⟨ft,bh⟩:=uQ (zI cq);rw [<- bh] at aB;have cb:=ze bh;clear a4 bh;have O:∀ w',Hid (Chg (fun x=>tv.ownBlock=some x) w2 w')->w'.cell? ⟨gO,0,none⟩=some tv/\w'.cell? (an.add k)=some (str nm)/\w'.cell? ⟨gS,0,none⟩=some (.bool ng)/\w'.cell? ⟨gS,1,none⟩=some (.slice X n1 U)/\w'.cell? ⟨gS,2,none⟩=some (.slice Y Z R):=fun w' hB=>⟨xo hB o0 nO,xo hB p2 (by rw [zD];exact nN),xo hB s0 nS,xo hB s1 nS,xo hB s2 nS⟩
    refine Xc O 12 (vq w2) fun C=>?_;refine tK 0 ?_;refine tK 1 ?_;refine tK 2 ?_;refine tK 3 ?_;refine tK 4 ?_;refine tK 5 ?_;refine tK 6 ?_;refine rK 7 fun K hK=>?_
    go_simp
    go_at_call 104;refine (zcz _ cq _ (F.o.below (zt w2).out) (aN.o.mono (by omega))).mono ?_;rintro e w7 ⟨rfl,ab⟩;rw [<- cb.o];have bu:=((zt w2).out).trans (ab.mono (Nat.le_of_eq rfl));refine hK.out _ _ (zo (xR ab C.1) (O _)) ?_;clear hK K C;intro C
    try simp only [Act.put,xST]
    clear ab;refine tK 8 ?_;refine rK 9 fun K hK=>?_
    go_simp
    have J:=zf w7 (.cells #[str nm,str ft] 45);refine hK.out _ _ (zo (xR (zf _ _) C.1) (O _)) ?_;clear hK K C;intro C
    try simp only [Act.put,xST]
    have bq:=ext bu J;have aa:=ze (r.o.ext_ bq);have bA:=ze0 (w:=w7) (t:=45) (a:=str nm) (b:=str ft);have bp:=Xe (a:=str nm) (b:=str ft) (p:=fun u=>u.oneCell' =true) rfl rfl;have bz:=Xe (a:=str nm) (b:=str ft) (p:=Yk) (vR _) (vR _);have bw:∀ u∈(Value.agg #[.string ⟨#[]⟩,.string ⟨#[]⟩]).cells,Yk u:=by intro u hu;simp [Value.cells] at hu;subst hu;exact vR _
    obtain ⟨i1,b2,bS,b8,b0⟩:=info_parts zmp;have bE:=aa.o.bn;clear bq J bu;refine HH.ready (rs:=[10]) (by kernel_rfl) (by simp) (by kernel_rfl) ?_;refine yY.cons (o:=_) rfl (fun K hK=>?_) yY.nil;rw [if_pos (by rfl)];refine xS (P:=prog) (.tmp 87) (.tmp 95) _ rfl (gO+1) 45 i1 _ 2 32 underlying23 b2 bS b8 b0 rfl (by omega) _ T.length _ rfl aa.o.own ⟨w7.heap.size,0,none⟩ 1 1 [str nm,str ft] rfl rfl (by omega) bA bp bz bw (by have:=bI.o;unfold maxLen;omega) (by have:=bI.o;omega) bE ?_;intro ci w9 aI bx b5;obtain ⟨g3,a3,bQ,_,_⟩:=aI.1.form (by omega);subst bQ;have aq:=Za bx;have aw:=aq.blk aa.o.out nO;have bO:zw w9 gO (.slice (some an) l.length cn) l:=zw.chg aa.o.names aq (fun x J e=>by have:=av _ e;omega);have bN:=aq.blk aa.o.res (fun e=>by have:=av _ e;have:=aa.o.ho;omega);have ax:Chg (· =gO) w9 (w9.setCell ⟨gO,0,none⟩ (.slice (some ⟨g3,0,none⟩) (T.length+1) a3)):=Chg.setCell (S:=(· =gO)) (Chg.refl w9) (p:=⟨gO,0,none⟩) rfl _
    obtain ⟨T2,aP⟩:∃ T2:List zu,T2=T ++ [{ name:=nm,coef:=ft }]:=⟨_,rfl⟩;have bm:T2.length=T.length+1:=by rw [aP];simp
    have bv:v8 T.length (Ye T) (Yc T) ++ [str nm,str ft]=v8 (T.length+1) (Ye T2) (Yc T2):=by
     rw [aP,Zw]
     congr 1
     . exact Va (fun j hj=>by unfold Ye Yc;simp [List.getD,List.getElem?_append_left hj])
     unfold Ye Yc
     simp [List.getD]
    rw [bv] at aI
    have aK:=aI.chg ax (fun c hc e=>by
     subst e;have:=(aI.1.lt _ hc).1
     omega)
    have b3:Hid (JoK w (w9.setCell ⟨gO,0,none⟩ (.slice (some ⟨g3,0,none⟩) (T.length+1) a3)) gO (gO+1) (.slice (some an) l.length cn) (.slice (some ⟨g3,0,none⟩) (T.length+1) a3) l (yJ rows ws (l.take (k+1))) bt):=ze (by
     rw [aB.o, <- aP];refine ⟨by rw [bm];exact aK,aw.set_ 0 _,zw.chg bO ax (fun x J e=>by omega),ax.blk bN (fun e=>by have:=aa.o.ho;omega),?_,Nat.lt_succ_self _,?_,aa.o.ho⟩
     . exact (aa.o.below.trans (aq.below aa.o.below.size (fun x e=>by have:=av _ e;have:=aa.o.ho;omega))).trans (ax.below (uC aa.o.below.size aq.size) (fun x e=>by have:=aa.o.ho;omega))
     exact uC (uC aa.o.bn aq.size) ax.size)
    clear aK aP;have r0:=aw.cell 0;have q0:=aw.frozen 0;simp at r0;refine hK.out _ _ (zo (vS aq C.1) (O _)) ?_;clear hK K C;intro C
    try simp only [Act.put,xST]
    clear aq aw bO bN ax bv aI bx b5 bE bA bp bz bw aa av r nO nS nN bm;refine tK 11 ?_;clear C O;refine hdn ?_;simp only [xDR];clear o0 p2 s0 s1 s2;go_wp2;go_roundw
    case rel=>exact ⟨k+1,_,by omega,by go_num,b3⟩
    case measure=>simp [intOf];omega
end Go.Proofs.YtnjljgidphemdaaGreatDoor
