/- Parts of the proof. -/
import Derived.Carry
import Derived.Test.YtofmkndhocinmaaGreatDoorMs22
import Derived.Test.YtofmkndhocinmaaGreatDoorMs21
import Derived.Test.YtofmkndhocinmaaGreatDoorMs20
set_option linter.all false
set_option maxRecDepth 100000
set_option maxHeartbeats 32000000
namespace Go.Proofs.YtofmkndhocinmaaGreatDoor
open Proofs.Tryz Go.RowKit Go.Deep Go.Maps Go.Sort
attribute [local go_sem ↓] Go.wp_at_zero Go.wp_at_succ
def zct (w:World) (B:Nat) (hs:List Value) (L:List (List zm)):Prop:=hs.length=L.length/\∀ j,j<L.length->zi w B (hs.getD j undef) (L.getD j [])
theorem zct.below {w w' :World} {B:Nat} {hs:List Value} {L:List (List zm)} (h:zct w B hs L) (hb:Below B w w'):zct w' B hs L:=by
 refine ⟨h.1,fun j hj=>?_⟩
 obtain ⟨A,c,m,e,u,l,r,b⟩:=h.2 j hj
 exact ⟨A,c,m,e,u,l,r.below hb,b⟩
theorem zW.below' {w w' :World} {B:Nat} {v:Value} {l:List zF} (h:zW w B v l) (hb:Below B w w'):zW w' B v l:=by
 obtain ⟨A,c,H,m,e,u,j,r,b,y⟩:=h
 refine ⟨A,c,H,m,e,u,j,r.below hb,fun i hi=>?_,y⟩
 obtain ⟨A,c,m,e,u,j,r,b⟩:=b i hi
 exact ⟨A,c,m,e,u,j,r.below hb,b⟩
theorem zi.below' {w w' :World} {B:Nat} {v:Value} {l:List zm} (h:zi w B v l) (hb:Below B w w'):zi w' B v l:=by
 obtain ⟨A,c,m,e,u,j,r,b⟩:=h
 exact ⟨A,c,m,e,u,j,r.below hb,b⟩
theorem zct.push {w:World} {B:Nat} {hs:List Value} {L:List (List zm)} {v:Value} {l:List zm} (h:zct w B hs L) (hv:zi w B v l):zct w B (hs ++ [v]) (L ++ [l]):=by
 refine ⟨by rw [List.length_append,List.length_append,h.1];rfl,fun j hj=>?_⟩
 rw [List.length_append,List.length_singleton] at hj
 by_cases e:j<L.length
 . have:=h.2 j e
   unfold List.getD at this |-;rw [List.getElem?_append_left e,List.getElem?_append_left (by rw [h.1];exact e)];exact this
 obtain rfl:j=L.length:=by omega
 unfold List.getD;rw [List.getElem?_append_right (uA),List.getElem?_append_right (by rw [h.1];exact uA),h.1,Nat.sub_self];exact hv
theorem zqx:Keyed prog 9:=string_keyed underlying9
theorem zgf:prog.underlying zsj=some (.map 9 4):=by kernel_rfl
def Ys (w:World) (g:Nat) (ns:List (List UInt8)):Prop:=
 ∃ (n:Nat) (D:DataW Unit),w.ownsMap prog 9 (plainElem (H:=Unit) prog 4) g n D/\n<=ns.length/\∀ x,Maps.has D (.string x)=true↔x∈ns
theorem Ys.lt {w:World} {g:Nat} {ns:List (List UInt8)} (h:Ys w g ns):g<w.heap.size:=by
 obtain ⟨n,D,h,_⟩:=h
 exact World.ownsMap.lt h
theorem Ys.keep {w w' :World} {g:Nat} {ns:List (List UInt8)} (h:Ys w g ns) (hk:w'.heap[g]?=w.heap[g]?):Ys w' g ns:=by
 obtain ⟨n,D,⟨e,j,hb,F,l,m⟩,b⟩:=h
 exact ⟨n,D,⟨e,j,hk.trans hb,F,l,m⟩,b⟩
theorem Ys.below {w w' :World} {g:Nat} {ns:List (List UInt8)} (h:Ys w g ns) (hb:Below w.heap.size w w'):Ys w' g ns:=h.keep (hb.block g h.lt)
theorem Ys.new (w:World):Ys (w.alloc (.map #[] 0)) w.heap.size []:=
 ⟨0,.map [],World.ownsMap_made w prog 9 (plainElem (H:=Unit) prog 4),uA,fun x=>by simp [Maps.has]⟩
theorem Ys.put {w:World} {g:Nat} {ns:List (List UInt8)} {s:List UInt8} (h:Ys w g ns) (hs:s.length<=1073741824) (hn:ns.length<maxLen):
 ∃ w',(Instr.mapUpdate zsj (.map (some g)) (str s) (.bool true)).run prog w= .ok () w' /\Ys w' g (ns ++ [s])/\w.grownBy w' (some g):=by
 obtain ⟨n,D,h,m,l⟩:=h
 have b:keyOf prog 9 (str s)=some (.string s):=WideMaps.keyOf_string_mk underlying9 (by
  show s.toArray.size<=maxLen
  rw [List.size_toArray]
  unfold maxLen;omega)
 obtain ⟨w',r,j,u⟩:=World.ownsMap.update h zqx zgf (by omega) b (plainElem_bool underlying4 true)
 refine ⟨w',r,⟨n+1,_,j,by rw [List.length_append];simpa using m,fun x=>?_⟩,u⟩
 rw [List.mem_append,uM]
 by_cases e:x=s
 . subst e
   rw [has_put_same h.isMap (k:=.string x) (show WideAt.IsKeyLit (.string x) from trivial)];exact ⟨fun _=>.inr rfl,fun _=>rfl⟩
 rw [has_put_other (by intro h;injection h with h;exact e h),l x]
 exact ⟨fun h=>.inl h,fun h=>h.elim id (fun h=>absurd h e)⟩
theorem zk6 {w:World} {g n:Nat} {D:DataW Unit} (h:w.ownsMap prog 9 (plainElem (H:=Unit) prog 4) g n D):(strKeys D).Nodup/\∀ x,x∈strKeys D↔Maps.has D (.string x)=true:=by
 obtain ⟨r,z,E,_⟩:=h.entries zqx
 obtain ⟨G,u,B⟩:=h.keysOf
 obtain rfl:r=G :=by rw [z] at u;simpa using u
 subst z
 have m:∀ p∈r,∃ x,p.1= .string x:=fun p hp=>by obtain ⟨v,C⟩:=B p hp;obtain ⟨x,_,F,_⟩:=Maps.keyOf_str underlying9 C;exact ⟨x,F⟩
 refine ⟨?_,fun x=>?_⟩
 . show (r.map fun p=>strOf p.1).Nodup
   refine List.pairwise_map.2 (E.imp_of_mem fun {p q} j hq' hne e=>hne ?_);obtain ⟨a,l⟩:=m p j;obtain ⟨b,hb⟩:=m q hq';rw [l,hb] at e |-;exact congrArg _ e
 rw [has_eq,List.any_eq_true]
 show (x∈r.map fun p=>strOf p.1)↔_
 rw [List.mem_map]
 constructor
 . rintro ⟨p,j,rfl⟩
   obtain ⟨a,l⟩:=m p j;exact ⟨p,j,by rw [l];simp [Lit.sameKey,strOf]⟩
 rintro ⟨p,j,y⟩
 obtain ⟨a,l⟩:=m p j;rw [l] at y;exact ⟨p,j,by rw [l];simpa [Lit.sameKey,strOf] using y⟩
theorem VP {w:World} {base:Nat} {v:Value} {l:List (List UInt8)} (h:w.ownsRow base 9 1 v l.length (l.map str)) (hl:l.length<=100000) (hs:∀ x∈l,zB x):zT w w.heap.size v l:=by
 have m:=h
 rcases h.2 with ⟨e,b⟩ | ⟨g,j,r,e,hb,z,u,B,y⟩
 . have:l=[]:=uI b
   subst this;subst e;exact ⟨none,0,rfl,uA,by unfold maxLen;omega,by simp,ym.none_,fun x b=>by cases b⟩
 . subst e
   refine ⟨_,j,rfl,?_,?_,hl,ym.of_own m,hs⟩
   . omega
   omega
theorem zas {w:World} {base size n:Nat} {e:TypeId} {v:Value} {xs:List Value} (h:w.ownsRow base e size v n xs):∃ am b,v= .slice am n b/\(0<n->∃ gm,am=some ⟨gm,0,none⟩):=by
 rcases h.2 with ⟨e,j⟩ | ⟨gm,b,l,e,_⟩
 . exact ⟨none,0,by rw [j];exact e,fun h=>by omega⟩
 . exact ⟨_,b,e,fun _=>⟨gm,rfl⟩⟩
theorem zds {L:List (List zm)} {M:Nat} (h:∀ l∈L,l.length<=M):(yt L).length<=L.length*M:=by
 induction L with
 | nil=>simp [yt]
 | cons a L ih=>
   have b:=ih (fun l hl=>h l (List.mem_cons_of_mem _ hl));have e:=h a (uP ..);unfold yt at b |-;rw [List.flatMap_cons,List.length_append,List.length_map,List.length_cons,Nat.succ_mul]
   omega
theorem zf3 {L:List (List zm)} {j:Nat} (h:j<L.length):yt (L.take (j+1))=yt (L.take j) ++ L[j].map (·.name):=by
 unfold yt
 rw [List.take_add_one,List.getElem?_eq_getElem h,List.flatMap_append]
 simp
theorem zkk {l:List zm} {t:Nat} (h:t<l.length):(l.take (t+1)).map (·.name)=(l.take t).map (·.name) ++ [l[t].name]:=by
 rw [List.take_add_one,List.getElem?_eq_getElem h,List.map_append]
 rfl
theorem zm6:(prog.info? 34).map (fun i=>(i.zero,i.size,i.bytes))=some (some (.slice none 0 0),1,24):=by kernel_rfl
theorem Tryz.underlying139:prog.underlying 139=some (.slice 34):=by kernel_rfl
def UnkA (w0:World) (B g k:Nat) (rv:Value) (rows:List zF) (more:List (List zm)) (iv mv:Value) (wr:World):Prop:=
 ∃ (i:Nat) (hs:List Value) (mv' :Value),i<=rows.length/\iv= .int .i64 i/\mv=mv' /\Hid (vJ wr B 34 1 mv' (k+i) hs)/\Hid (zct wr B hs (more ++ (rows.take i).map (·.terms)))/\Hid (zW wr B rv rows)/\Hid (Ys wr g [])/\Hid (Below B w0 wr)
def UnkB (w0:World) (B g n:Nat) (mv:Value) (hs:List Value) (L:List (List zm)) (jv:Value) (wr:World):Prop:=
 ∃ (j:Nat),j<=n/\jv= .int .i64 j/\Hid (vJ wr B 34 1 mv n hs)/\Hid (zct wr B hs L)/\Hid (Ys wr g (yt (L.take j)))/\Hid (Below B w0 wr)
def UnkC (w0:World) (B g n:Nat) (mv:Value) (hs:List Value) (L:List (List zm)) (l:List zm) (tv:Value) (ns:List (List UInt8)) (jv:Value) (wr:World):Prop:=
 ∃ (j:Nat),j<=l.length/\jv= .int .i64 j/\Hid (vJ wr B 34 1 mv n hs)/\Hid (zct wr B hs L)/\Hid (zi wr B tv l)/\Hid (Ys wr g (ns ++ (l.take j).map (·.name)))/\Hid (Below B w0 wr)
def zuk (w:World) (B:Nat) (ns:List (List UInt8)) (e:Ending) (w' :World):Prop:=∃ v l,e= .returned v/\XG l ns/\zT w' w'.heap.size v l/\Below B w w'
theorem zab (B k:Nat) (A:Option Addr) (n c:Nat) (mv:Value) (R:List Value) (rows:List zF) (more:List (List zm)) (w:World) (hr:zW w B (.slice A n c) rows) (hm:vJ w B 34 1 mv k R) (hh:zct w B R more) (hk:k=more.length) (hkm:k<=100000)
 (hB:B<=w.heap.size) (hcnt:∀ l,XG l (yt (more ++ rows.map (·.terms)))->l.length<=100000):
 Calls prog 43 #[.slice A n c,mv] w (zuk w B (yt (more ++ rows.map (·.terms)))):=by
 obtain rfl:=hr.len
 subst hk
 have bl:rows.length<=100000:=by obtain ⟨_,_,_,_,_,_,h,_⟩:=hr;exact h
 have r:Hid (Ys (w.alloc (.map #[] 0)) w.heap.size []):=Ys.new w
 have C:Below B w (w.alloc (.map #[] 0)):=(zf w (.map #[] 0)).mono hB
 have M:=ze (zW.below' hr C)
 have z:=ze (hm.below (zf w (.map #[] 0)))
 have HH:=ze (hh.below C)
 have E:=ze C
 have ai:=ze hcnt
 have X:Hid (B<=w.heap.size):=hB
 have bg:=@run_makeMap prog
 clear hr hm hh C hcnt hB
 go_in
 go_upto_region 2 with fail
 generalize w.alloc (.map #[] 0)=W at r M z HH E |-
 generalize w.heap.size=g at r X |-
 clear bg
 go_wp2
 go_loopw [15,1] (UnkA w B g more.length (.slice A rows.length c) rows more) (fun iv _ _=>rows.length - (intOf iv).toNat)
 case atStart=>exact ⟨0,R,mv,uB,rfl,rfl,z,by rw [List.take_zero,List.map_nil,List.append_nil];exact HH,M,r,E⟩
 case round=>
  clear M z HH r E
  obtain ⟨i,R,mv,hi,rfl,rfl,z,HH,M,r,E⟩:=hrel
  by_cases aV:i<rows.length
  . have bn:(i:Int)<(rows.length:Int):=by omega
    obtain ⟨ad,K,J,I,eA,ae,p0,p1,U,bc⟩:=M.o.at_ aV;subst eA;have C:=zf wr (.cells #[.slice K J I,str rows[i].bound] 36);have Q:=ze (Blk.new wr 36 #[.slice K J I,str rows[i].bound]);have F:Hid (B<=wr.heap.size):=uC X.o (Nat.le_of_lt (Ys.lt r.o));have G:=C.mono F.o;have Z:=ze (zi.below' U G);replace z:=ze (z.o.below C);replace HH:=ze (HH.out.below G);replace M:=ze (zW.below' M.o G);replace r:=ze (r.o.below C);replace E:=ze (E.o.trans G);clear C U bc G
    go_upto_region 5 with fail
    clear p0 p1 ae;replace F:Hid (B<=(wr.alloc (.cells #[.slice K J I,str rows[i].bound] 36)).heap.size):=by have:=F.o;show B<=_;simp only [World.size_alloc];omega
    generalize wr.alloc (.cells #[.slice K J I,str rows[i].bound] 36)=W2 at Q Z z HH M r E F |-;generalize wr.heap.size=gr at Q |-;have r0:=(bq1 Q).1;have C:=zf W2 (.cells #[.slice K J I] 34);have G:=C.mono F.o;have av:∀ u∈[Value.slice K J I],u.oneCell' =true:=by intro u hu;rw [uM] at hu;subst hu;rfl
    have aC:∀ u∈[Value.slice K J I],Zp u:=by intro u hu;rw [uM] at hu;subst hu;exact zH _ _ _
    have ay:∀ u∈(Value.slice none 0 0).cells,Zp u:=by intro u hu;simp [Value.cells] at hu;subst hu;exact zH _ _ _
    obtain ⟨i0,bf,a6,bi,bd⟩:=info_parts zm6;have aS:=Blk.new W2 34 #[.slice K J I]
    have aD:∀ (j:Nat) (u:Value),[Value.slice K J I][j]?=some u->(W2.alloc (.cells #[.slice K J I] 34)).cell? ((⟨W2.heap.size,0,none⟩:Addr).add j)=some u:=by
     intro j u hu
     match j with
     | 0=>
       simp at hu;subst hu;have:=aS.cell 0
       simp [Addr.add]
     | j+1=>simp at hu
    replace z:=ze (z.o.below C);replace HH:=ze (HH.out.below G);replace M:=ze (zW.below' M.o G);replace Z:=ze (zi.below' Z.o G);replace r:=ze (r.o.below C);replace E:=ze (E.o.trans G);have ak:=ze (show B<=(W2.alloc (.cells #[.slice K J I] 34)).heap.size by have:=F.o;simp only [World.size_alloc];omega);clear C G aS Q;go_wp2_with (at_builtin;go_must (refine zS (P:=prog) rfl (.tmp 19) (.tmp 22) _ rfl B 34 i0 _ 1 24 underlying139 bf a6 bi bd rfl (by omega) _ (more.length+i) R rfl z.o ⟨W2.heap.size,0,none⟩ 1 1 [.slice K J I] rfl rfl (by omega) aD av aC ay ?o4 ?o5 ?o6 ?_))
    case o4=>unfold maxLen;omega
    case o5=>omega
    case o6=>exact ak.o
    intro v3 w3 az ah bb;clear aD av aC ay r0;have aN:=fun b hb=>(z.o.1.lt b hb).1
    have N:Below B (W2.alloc (.cells #[.slice K J I] 34)) w3:=(Below.refl _ _).grown ah ak.o aN;have ap:=ze az
    have ac:Hid (Ys w3 g []):=r.o.keep (ah.block g r.o.lt (fun e=>by
     obtain ⟨cs,k1⟩:=z.o.heap e.symm;obtain ⟨_,_,⟨es,a4,k2,_⟩,_⟩:=r.o
     rw [k1] at k2;cases k2))
    have ao:=ze ((HH.out.below N).push (zi.below' Z.o N));have aZ:=ze (zW.below' M.o N);have an:=ze (E.o.trans N)
    have a0:Hid ((rows.take i).map (·.terms) ++ [rows[i].terms]=(rows.take (i+1)).map (·.terms)):=by
     show _=_
     rw [List.take_add_one,List.getElem?_eq_getElem aV,List.map_append]
     rfl
    clear z HH M r E Z az ah bb aN N ak F;go_wp2;go_roundw
    case rel=>exact ⟨i+1,_,_,by omega,by go_num,rfl,ap,by rw [<- a0.o, <- List.append_assoc];exact ao,aZ,ac,an⟩
    case measure=>simp [intOf];omega
  obtain rfl:rows.length=i:=by omega
  rw [List.take_length] at HH;obtain ⟨L,hL⟩:=uQ (more ++ rows.map (·.terms));rw [<- hL] at HH ai;have bh:=ze hL;have aO:L.length=more.length+rows.length:=by rw [hL,List.length_append,List.length_map]
  rw [<- aO] at z;have a9:L.length<=200000:=by omega
  clear hL aO M;generalize hn:L.length=n at z a9;have HN:Hid (L.length=n):=hn;clear hn;obtain ⟨am,aR,aW,aH⟩:=zas z.o.1;subst aW
  skip
  go_wp2
  go_loopw [27] (UnkB w B g n (.slice am n aR) R L) (fun iv _=>n - (intOf iv).toNat)
  case atStart=>exact ⟨0,uB,rfl,z,HH,r,E⟩
  case round=>
   clear z HH r E;obtain ⟨j,hj,rfl,z,HH,r,E⟩:=hrel
   by_cases a1:j<n
   rotate_left
   . obtain rfl:n=j:=by omega
     have aE:L.take n=L:=uJ (by rw [HN.o];exact uA)
     have af:∀ x∈yt L,zB x:=by
      intro x C;unfold yt at C;rw [List.mem_flatMap] at C;obtain ⟨l,Y,C⟩:=C;obtain ⟨t,U,rfl⟩:=List.mem_map.1 C;obtain ⟨i,hi,rfl⟩:=List.mem_iff_getElem.1 Y;obtain ⟨_,_,_,_,_,_,_,h6⟩:=HH.out.2 i hi;exact (h6 t (by simpa [List.getD,List.getElem?_eq_getElem hi] using U)).1
     have aU:(yt L).length<=20000000000:=by
      have h1:(yt L).length<=L.length*100000:=zds (fun l Y=>by
       obtain ⟨i,hi,rfl⟩:=List.mem_iff_getElem.1 Y;have:=(HH.out.2 i hi).bound
       simpa [List.getD,List.getElem?_eq_getElem hi] using this)
      rw [HN.o] at h1
      omega
     rw [aE] at r;obtain ⟨ns,T⟩:∃ ns,Hid (yt L=ns):=⟨_,rfl⟩;rw [T.o] at r af aU ai;have be:Hid (yt (more ++ rows.map (·.terms))=ns):=ze (by rw [<- bh.o,T.o]);obtain ⟨m,D,hS,a7,aG⟩:=r.o;have ab:=zk6 hS;have a2:=hS.size_le;have aA:=zm1 (some g) wr;have ax:=zib g m D (plainElem (H:=Unit) prog 4) wr hS (by unfold maxLen;omega) (by omega);have aJ:=ze aA;have aT:=ze ax;have aK:Hid ((strKeys D).Nodup/\∀ x,x∈strKeys D↔x∈ns):=⟨ab.1,fun x=>(ab.2 x).trans (aG x)⟩;have aY:=ze af;have F:Hid (B<=wr.heap.size):=uC X.o (Nat.le_of_lt (World.ownsMap.lt hS));clear hS aA ax z HH r HN T aE af aU a7 aG ab a2 aH;go_wp2_with fail;refine aJ.o.mono ?_;rintro e w1 ⟨rfl,rfl⟩;clear aJ;go_wp2_with fail;refine aT.o.mono ?_;rintro e w2 ⟨v,ss,rfl,ar,aM,a3,aF⟩;obtain ⟨aQ,ba,a8⟩:=hz3 ar aM aF;clear ar aM a3 aF aT;go_wp2;go_ret
     have aq:XG (ss.mergeSort (fun x y=>decide (x<=y))) ns:=
      ⟨X5 (aQ.o.nodup_iff.2 aK.o.1),fun x=>by rw [(List.mergeSort_perm ss _).mem_iff,aQ.o.mem_iff];exact aK.o.2 x⟩
     rw [be.o];refine ⟨v,_,rfl,aq,?_,E.o.trans (((zf wr _).mono F.o).trans (a8.o.mono (by have:=F.o;simp only [World.size_alloc];omega)))⟩;refine VP (base:=(wr.alloc (.cells #[.map (some g)] zsj)).heap.size) ?_ (ai.o _ aq) (fun x C=>aY.o x ((aq.2 x).1 C));rw [List.length_mergeSort];exact ba.o
   obtain ⟨gm,rfl⟩:=aH (by omega)
   have bk:(j:Int)<(n:Int):=by omega
   have al:j<L.length:=by rw [HN.o];exact a1
   have V:=HH.out.2 j al;obtain ⟨At,I,eH,_⟩:=id V
   have c1:wr.cell? ⟨gm,j,none⟩=some (.slice At (L.getD j []).length I):=by
    rw [z.o.1.cellAt j (by omega)];have h1:=HH.out.1;rw [<- eH]
    simp [List.getD,List.getElem?_eq_getElem (show j<R.length by omega)]
   rw [eH] at V
   have aa:Hid (yt (L.take (j+1))=yt (L.take j) ++ (L.getD j []).map (·.name)):=by
    show _=_
    rw [zf3 al]
    simp [List.getD,List.getElem?_eq_getElem al]
   have aL:Hid ((yt (L.take j)).length<=20000000000):=by
    have h1:(yt (L.take j)).length<=(L.take j).length*100000:=zds (fun l Y=>by
     obtain ⟨i,hi,rfl⟩:=List.mem_iff_getElem.1 (List.mem_of_mem_take Y);have:=(HH.out.2 i hi).bound
     simpa [List.getD,List.getElem?_eq_getElem hi] using this)
    have h2:(L.take j).length<=200000:=by rw [List.length_take];omega
    show _<=_
    omega
   have O:=ze V;have bj:=V.bound;obtain ⟨l,aI⟩:∃ l,Hid (L.getD j []=l):=⟨_,rfl⟩;rw [aI.o] at c1 aa O bj;obtain ⟨ns,T⟩:∃ ns,Hid (yt (L.take j)=ns):=⟨_,rfl⟩;rw [T.o] at aa aL r;clear V eH;go_wp2
   go_loopw [33] (UnkC w B g n (.slice (some ⟨gm,0,none⟩) n aR) R L l (.slice At l.length I) ns) (fun iv _=>l.length - (intOf iv).toNat)
   case atStart=>exact ⟨0,uB,rfl,z,HH,O,by rw [List.take_zero,List.map_nil,List.append_nil];exact r,E⟩
   case round=>
    clear z HH r E O c1;obtain ⟨t,U,rfl,z,HH,O,r,E⟩:=hrel
    by_cases aP:t<l.length
    rotate_left
    . obtain rfl:l.length=t:=by omega
      rw [List.take_length, <- aa.o] at r;clear aI aa T;go_wp2;go_roundw
      case rel=>exact ⟨j+1,by omega,by go_num,z,HH,r,E⟩
      case measure=>simp [intOf];omega
    have bm:(t:Int)<(l.length:Int):=by omega
    obtain ⟨ad,eA,ae,p0,p1,aw,aX⟩:=O.o.at_ aP;subst eA;have au:=ze (zkk aP);have C:=zf wr (.cells #[str l[t].name,str l[t].coef] 38);have Q:=ze (Blk.new wr 38 #[str l[t].name,str l[t].coef]);have F:Hid (B<=wr.heap.size):=uC X.o (Nat.le_of_lt (Ys.lt r.o));have G:=C.mono F.o;replace z:=ze (z.o.below C);replace HH:=ze (HH.out.below G);replace O:=ze (zi.below' O.o G);replace r:=ze (r.o.below C);replace E:=ze (E.o.trans G);have aB:=ze aw;clear C G aw aX
    go_upto_region 13 with fail
    clear p0 p1 ae;replace F:Hid (B<=(wr.alloc (.cells #[str l[t].name,str l[t].coef] 38)).heap.size):=by have:=F.o;show B<=_;simp only [World.size_alloc];omega
    generalize wr.alloc (.cells #[str l[t].name,str l[t].coef] 38)=W2 at Q O z HH r E F |-;generalize wr.heap.size=gr at Q |-;have r0:=(bq1 Q).1;obtain ⟨w3,hu,ag,aj⟩:=r.o.put aB.o (by rw [List.length_append,List.length_map,List.length_take];have:=aL.o;unfold maxLen;omega);rw [List.append_assoc, <- au.o] at ag;have N:Below B W2 w3:=(Below.refl _ _).grown aj F.o (fun c e=>by injection e with e;have:=X.o;omega)
    have ap:=ze (z.o.chg (Chg.of_grown (S:=(· =g)) aj rfl) (fun c e e2=>by
     subst e2;obtain ⟨cs,k1⟩:=z.o.heap e;obtain ⟨_,_,⟨es,a4,k2,_⟩,_⟩:=r.o
     rw [k1] at k2;cases k2))
    have ao:=ze (HH.out.below N);have a5:=ze (zi.below' O.o N);have ac:=ze ag;have an:=ze (E.o.trans N);clear z HH O r E ag aj N Q F au aB;go_wp2;go_roundw
    case rel=>exact ⟨t+1,by omega,by go_num,ap,ao,a5,ac,an⟩
    case measure=>simp [intOf];omega
theorem zjd {ns l:List (List UInt8)} {s:List UInt8} (hall:∀ x∈ns,x=s) (hex:ns≠[]) (h:XG l ns):l=[s]:=by
 refine YA l [s] h.1 (List.pairwise_singleton _ _) fun x=>?_
 rw [h.2 x,uM]
 refine ⟨hall x,fun e=>?_⟩
 subst e
 obtain ⟨y,r,rfl⟩:=List.exists_cons_of_ne_nil hex
 rw [<- hall y (uP ..)]
 exact uP ..
theorem zgh:zj [48]=some 0:=by
 have b:([48]:List UInt8)=zu 0:=by
  have h:=congrArg bts Xr
  rw [ZA] at h
  exact h
 have d1:dec 1=[49]:=by simp [dec,digs];rfl
 rw [b]
 exact yO ⟨by show (dec 0).length<=_;rw [vt];decide,by show (dec 1).length<=_;rw [d1];decide⟩
def YZ (l:List zm) (i:Nat):Int:=
 if vr (l.getD i default).name=false then 5
 else if (zj (l.getD i default).coef).isSome=false then 4
 else yH (l.getD (i - 1) default).name (l.getD i default).name (decide (i=0))
def yb (l:List zm):Int:=xq l.length (YZ l)
def PntR (w0:World) (b B:Nat) (tv:Value) (l:List zm) (kv:Value) (wr:World):Prop:=
 ∃ k:Nat,k<=l.length/\kv= .int .i64 k/\Hid (∀ j,j<k->YZ l j=0)/\Hid (zr wr b)/\Hid (zi wr B tv l)/\Hid (Chg (· =b) w0 wr)
theorem zdn (b:Nat) (A:Option Addr) (n c:Nat) (l:List zm) (w:World) (hB:zr w b) (ht:zZ w (.slice A n c) l):Calls prog 22 #[.map (some b),.slice A n c] w (X8 b (yb l) w):=by
 obtain rfl:=ht.len
 have ap:=ht.bound
 have m:=ze hB
 have u:=ze ht
 have r:=ze (Chg.refl (S:=(· =b)) w)
 clear hB ht
 go_in
 go_wp2
 go_loopw [12] (PntR w b w.heap.size (.slice A l.length c) l) (fun kv _=>l.length - (intOf kv).toNat)
 case atStart=>exact ⟨0,uB,rfl,(fun j h=>by omega),m,u,r⟩
 case round=>
  clear m u r
  obtain ⟨k,hk,rfl,D,m,u,r⟩:=hrel
  by_cases I:k<l.length
  rotate_left
  . obtain rfl:l.length=k:=by omega
    have E:Hid (yb l=0):=ys.2 D.o;go_wp2;go_ret;exact ⟨by rw [E.o];rfl,m.o,r.o⟩
  have aq:(k:Int)<(l.length:Int):=by omega
  obtain ⟨ad,eA,N,p0,p1,O,ak⟩:=u.o.at_ I;subst eA;have z:=zf wr (.cells #[str l[k].name,str l[k].coef] 45);have y:=ze (Blk.new wr 45 #[str l[k].name,str l[k].coef]);replace m:=ze (m.o.below z);replace u:=ze (zi.below u.o z);replace r:=ze (zC r.o z);have aa:=xGD (d:=default) I;have Z:=ze aa;have am:=ze ak;have L:=fun w=>zbg l[k].name w O
  clear z aa O ak
  go_upto_region 4 with fail
  clear p0 p1 N;generalize wr.alloc (.cells #[str l[k].name,str l[k].coef] 45)=WL at y m u r |-;generalize wr.heap.size=gt at y |-;have p0:=(bq1 y).1
  cases hin:vr l[k].name with
  | false=>
    rw [hin] at L;have B:Hid (YZ l k=5):=by show YZ l k=5;unfold YZ;rw [Z.o,hin];rfl
    have E:Hid (yb l=5):=(ve I D.o (by rw [B.o];decide)).trans B.o;clear hin;go_wp2_with fail;refine (L _).mono ?_;rintro e w1 ⟨rfl,rfl⟩;go_wp2;go_ret;exact ⟨by rw [E.o];rfl,m.o,r.o⟩
  | true=>
    rw [hin] at L;have ag:=ze hin;have X:=xK b ⟨l[k].coef.toArray⟩ WL m.o (by rw [<- zq,xf];exact am.o);rw [xf] at X;have af:=ze X;have p1:=y.o.cell 1;simp at p1;clear hin X;go_wp2_with fail;refine (L _).mono ?_;rintro e w1 ⟨rfl,rfl⟩;clear L;go_wp2_with fail;refine af.o.mono ?_;rintro e w2 ⟨v,ok,rfl,⟨x1,A1,k1,c1,s1,y1,B1,ah,aj,t1,rfl⟩,Q,hq,ae,R⟩;clear af p0 p1;replace u:=ze (m.o.keepT R u.o);replace y:=ze (m.o.keepBlk R y.o);replace r:=ze (yg r.o R);replace m:=ze ae;have z:=zf w2 (.cells #[.int .i64 x1,.slice A1 k1 c1,.bool s1,.int .i64 y1,.slice B1 ah aj,.bool t1] 62);replace m:=ze (m.o.below z);replace u:=ze (zi.below u.o z);replace y:=kb_ y z;replace r:=ze (zC r.o z);clear ae R z
    cases hr:zj l[k].coef with
    | none=>
      rw [hr] at Q;subst Q;have B:Hid (YZ l k=4):=by show YZ l k=4;unfold YZ;rw [Z.o,ag.o,hr];rfl
      have E:Hid (yb l=4):=(ve I D.o (by rw [B.o];decide)).trans B.o;clear hq hr;go_wp2;go_ret;exact ⟨by rw [E.o];rfl,m.o,r.o⟩
    | some q=>
      rw [hr] at Q;subst Q
      have ab:Hid (YZ l k=yH (l.getD (k - 1) default).name l[k].name (decide (k=0))):=by
       show _=_
       unfold YZ;rw [Z.o,ag.o,hr]
       rfl
      clear hq hr
      go_upto_region 9 with fail
      generalize w2.alloc (.cells #[.int .i64 x1,.slice A1 k1 c1,.bool s1,.int .i64 y1,.slice B1 ah aj,.bool t1] 62)=w4 at m u y r |-;obtain ⟨C,al⟩:=uQ (k - 1);have ac:C<l.length:=by omega
      obtain ⟨ar,U,N,p0,p1,O,_⟩:=u.o.at_ ac;injection U with U
      subst U;have au:max ((k:Int) - 1) 0=(C:Int):=by omega
      have aw:IntKind.i64.wrap ((k:Int) - 1)=(k:Int) - 1:=by rw [IntKind.wrap_i64];omega
      have av:(C:Int)<(l.length:Int):=by omega
      have t0:=(bq1 y).1;have tL:=y.o.lt;have aL:ad.block<w4.heap.size:=uK N r.o.size;obtain ⟨F,V⟩:=uR (yH l[C].name l[k].name (decide (k=0)));have Y:=fun w=>zdj l[C].name l[k].name (decide (k=0)) w
      rw [V] at Y;have dk:((k:Int) == 0)=decide (k=0):=by by_cases h:k=0<;>simp [h]
      have B:Hid (YZ l k=F):=by
       show YZ l k=F
       rw [ab.o, <- V];have ao:l.getD (k - 1) default=l[C]:=by rw [<- al];simp [List.getD,List.getElem?_eq_getElem ac]
       rw [ao]
      have ai:=ze Y;clear V Y p1 O N al ab;have T:∀ w',Hid (Below w4.heap.size w4 w')->w'.cell? (ad.add (C*2))=some (str l[C].name)/\w'.cell? ⟨gt,0,none⟩=some (str l[k].name):=fun w' hB=>⟨zq8 hB aL p0,zk hB tL t0⟩
      refine xb T 11 1 12 (zw w4) fun J=>?_;simp only [xDR]
      iterate 11 refine zP ?_
      refine zD ?_;refine rK 11 fun K hK=>?_
      go_simp
      go_at_call 54;refine (ai.o _).mono ?_;rintro e w5 ⟨rfl,rfl⟩;refine hK.out _ _ (zl (J.1) (T _)) ?_;clear hK K J;intro J
      try simp only [Act.put,xST]
      have M:=(J.1).out;replace m:=ze (zr.below m.o M);replace u:=ze (zi.below u.o M);replace r:=ze (zC r.o M);clear M J T;refine hdn ?_;simp only [xDR];clear p0 t0 tL aL ai
      by_cases G:F=0
      rotate_left
      . have d1:(F != 0)=true:=by rw [bne_iff_ne];exact G
        have E:Hid (yb l=F):=(ve I D.o (by rw [B.o];exact G)).trans B.o;clear G D;go_wp2;go_ret;exact ⟨by rw [E.o];rfl,m.o,r.o⟩
      have d1:(F != 0)=false:=by rw [bne_eq_false_iff_eq];exact G
      have an:Hid (∀ j,j<k+1->YZ l j=0):=fun j hj=>by
       by_cases e:j=k
       . subst e;exact B.o.trans G
       exact D.o j (by omega)
      clear G D;go_wp2;go_roundw
      case rel=>exact ⟨k+1,by omega,by go_num,an,m,u,r⟩
      case measure=>simp [intOf];omega
def zi8 (a b:List UInt8):Int:=if a<b then -1 else if b<a then 1 else 0
theorem zp7 (a b:List UInt8):zi8 a b<0↔a<b:=by
 unfold zi8
 split
 . exact ⟨fun _=>‹_›,fun _=>by omega⟩
 split<;>exact ⟨fun h=>by omega,fun h=>absurd h ‹_›⟩
theorem zm7 (a b:List UInt8):zi8 a b=0↔a=b:=by
 unfold zi8
 constructor
 rotate_left
 . intro h
   subst h;rw [if_neg (yz a),if_neg (yz a)]
 intro h
 split at h
 . omega
 split at h
 . omega
 exact zhp a b ‹_› ‹_›
theorem zgo (a b:List UInt8) (w:World):Calls prog 90 #[str a,str b] w (zal w (.int .i64 (zi8 a b))):=by
 have u:=fun w=>zcg ⟨a.toArray⟩ w
 have r:=fun w=>zcg ⟨b.toArray⟩ w
 have z:=ZO a b
 have y:=ZO b a
 by_cases j:a<b
 . have m:Hid (zi8 a b= -1):=by show _=_;unfold zi8;exact if_pos j
   rw [uE j] at z;clear j y
   go_in
   go_wp2_with fail;refine (u _).mono ?_;rintro e w1 ⟨rfl,rfl⟩;go_wp2_with fail;refine (r _).mono ?_;rintro e w1 ⟨rfl,rfl⟩;go_wp2;go_ret;exact ⟨by rw [m.o];rfl,rfl⟩
 rw [uF j] at z
 by_cases l:b<a
 . have m:Hid (zi8 a b=1):=by show _=_;unfold zi8;rw [if_neg j,if_pos l]
   rw [uE l] at y;have B:(a == b)=false:=by rw [beq_eq_false_iff_ne];intro e;subst e;exact yz _ l
   clear j l
   go_in
   go_wp2_with fail;refine (u _).mono ?_;rintro e w1 ⟨rfl,rfl⟩;go_wp2_with fail;refine (r _).mono ?_;rintro e w1 ⟨rfl,rfl⟩;go_wp2;go_ret;exact ⟨by rw [m.o];rfl,rfl⟩
 have m:Hid (zi8 a b=0):=by show _=_;unfold zi8;rw [if_neg j,if_neg l]
 rw [uF l] at y;have B:(a == b)=true:=by rw [beq_iff_eq];exact zhp a b j l
 clear j l
 go_in
 go_wp2_with fail;refine (u _).mono ?_;rintro e w1 ⟨rfl,rfl⟩;go_wp2_with fail;refine (r _).mono ?_;rintro e w1 ⟨rfl,rfl⟩;go_wp2;go_ret;exact ⟨by rw [m.o];rfl,rfl⟩
theorem ztm (a c b:List UInt8) (w:World):Calls prog 89 #[.agg #[str a,str c],str b] w (zij w (.int .i64 (zi8 a b))):=by
 have l:=zf w (.cells #[str a,str c] 45)
 have j:=Blk.new w 45 #[str a,str c]
 have m:=(bp1 j).1
 have u:=ze l
 have r:=fun w=>zgo a b w
 clear j l
 go_in
 go_wp2_with fail
 refine (r _).mono ?_
 rintro e w1 ⟨rfl,rfl⟩
 clear m
 go_wp2
 go_ret
 exact ⟨rfl,u.o⟩
def BnvR (w0:World) (B:Nat) (tv:Value) (l:List zm) (s:List UInt8) (iv jv:Value) (wr:World):Prop:=
 ∃ i j:Nat,i<=j/\j<=l.length/\iv= .int .i64 i/\jv= .int .i64 j/\Hid (∀ k (h:k<l.length),k<i->l[k].name<s)/\Hid (∀ k (h:k<l.length),j<=k->¬ l[k].name<s)/\Hid (zi wr B tv l)/\Hid (Below w0.heap.size w0 wr)
def zsy (w:World) (l:List zm) (s:List UInt8) (e:Ending) (w' :World):Prop:=
 ∃ (k:Nat) (f:Bool),e= .returned (.tuple #[.int .i64 k,.bool f])/\k<=l.length/\(f=true->∃ h:k<l.length,l[k].name=s)/\(f=false->∀ i (h:i<l.length),l[i].name≠s)/\Below w.heap.size w w'
abbrev atFn:Value:=.func (.func 89) #[] #[]
theorem zea (A:Option Addr) (n c B:Nat) (l:List zm) (s:List UInt8) (w:World) (ht:zi w B (.slice A n c) l) (hB:B<=w.heap.size) (hinc:∀ i j (hi:i<l.length) (hj:j<l.length),i<j->l[i].name<l[j].name):
 Calls prog 88 #[.slice A n c,str s,atFn] w (zsy w l s):=by
 obtain rfl:=ht.len
 have S:=ht.bound
 obtain ⟨D,X,Q⟩:=hz3 ht hB hinc
 have m:=ze (Below.refl w.heap.size w)
 have V:=fun a c w=>ztm a c s w
 have Y:=ze V
 clear ht hB hinc V
 go_in
 go_wp2
 go_loopw [9,10] (BnvR w B (.slice A l.length c) l s) (fun iv jv _=>(intOf jv).toNat - (intOf iv).toNat)
 case atStart=>exact ⟨0,l.length,uB,uA,rfl,rfl,ze (fun k h hk=>by omega),ze (fun k h hk=>by omega),D,m⟩
 case round=>
  clear D m
  obtain ⟨i,j,ai,af,rfl,rfl,T,ab,D,m⟩:=hrel
  by_cases ah:i<j
  rotate_left
  . obtain rfl:i=j:=by omega
    by_cases K:i<l.length
    rotate_left
    . obtain rfl:l.length=i:=by omega
      have J:Hid (∀ k (h:k<l.length),l[k].name≠s):=ze (fun k hk he=>yz s (by have:=T.o k hk hk;rw [he] at this;exact this));have ak:¬ (l.length:Int)<(l.length:Int):=by omega
      go_wp2;go_ret2;exact ⟨l.length,false,rfl,uA,(fun h=>by cases h),(fun _=>J.o),m.o⟩
    have ag:(i:Int)<(l.length:Int):=by omega
    obtain ⟨ad,O,R,M,c1,_,_⟩:=D.o.at_ K;subst O;have u:=Y.o l[i].name l[i].coef wr;obtain ⟨z,F⟩:=uR (zi8 l[i].name s);have L:=zm7 l[i].name s;rw [F] at u L;have C:=ze u
    have J:Hid (decide (z=0)=false->∀ k (h:k<l.length),l[k].name≠s):=ze (fun r k hk he=>by
     have r:=of_decide_eq_false r
     rcases uL k i with h | h
     . exact yz s (by have:=T.o k hk h;rw [he] at this;exact this)
     . by_cases e:k=i
       . subst e;exact r (L.2 he)
       have G:=Q.o i k K hk (by omega)
       rw [he] at G
       exact ab.o i K (uA) G)
    have aa:Hid (decide (z=0)=true->∃ h:i<l.length,l[i].name=s):=ze (fun r=>⟨K,L.1 (uG r)⟩);have dz:(z == 0)=decide (z=0):=by by_cases h:z=0<;>simp [h]
    obtain ⟨f,r⟩:=uR (decide (z=0));rw [r] at J aa dz;clear F u L R r;go_wp2_with fail;refine C.o.mono ?_;rintro e w1 ⟨rfl,b⟩;have I:=ze (ext m.o b);clear b C M c1;go_wp2;go_ret2;exact ⟨i,f,rfl,af,aa.o,J.o,I.o⟩
  have ag:(i:Int)<(j:Int):=by omega
  obtain ⟨h,Z⟩:=uQ ((i+j) / 2);have N:h<l.length:=by omega
  have aj:(h:Int)<(l.length:Int):=by omega
  have e1:IntKind.i64.wrap ((i:Int)+(j:Int))=(i:Int)+(j:Int):=by rw [IntKind.wrap_i64];omega
  have e2:((i:Int)+(j:Int)) / 2=(h:Int):=by omega
  obtain ⟨ad,O,R,M,c1,_,_⟩:=D.o.at_ N;subst O;have h1:i<=h:=by omega
  have h2:h<j:=by omega
  have u:=Y.o l[h].name l[h].coef wr;have HH:=ze Z;clear Z R;obtain ⟨z,F⟩:=uR (zi8 l[h].name s);have y:=zp7 l[h].name s;rw [F] at u y;have C:=ze u
  by_cases E:z<0
  . have ac:Hid (∀ k (hk:k<l.length),k<h+1->l[k].name<s):=ze (fun k hk hkh=>by
     by_cases e:k=h
     . subst e;exact y.1 E
     have G:=Q.o k h hk N (by omega)
     exact Yz G (y.1 E))
    have d0:decide (z<0)=true:=uE E;clear F u y;go_wp2_with fail;refine C.o.mono ?_;rintro e w1 ⟨rfl,b⟩;have U:=ze (zi.below' D.o (b.mono (uC X.o m.o.size)));have I:=ze (ext m.o b);clear b C M c1;go_wp2;go_roundw
    case rel=>exact ⟨h+1,j,by omega,by omega,by go_num,rfl,ac,ab,U,I⟩
    case measure=>simp [intOf];omega
  have ae:Hid (∀ k (hk:k<l.length),h<=k->¬ l[k].name<s):=ze (fun k hk hkh S=>by
   by_cases e:k=h
   . subst e;exact E (y.2 S)
   have G:=Q.o h k N hk (by omega)
   exact E (y.2 (Yz G S)))
  have d0:decide (z<0)=false:=uF E;clear F u y;go_wp2_with fail;refine C.o.mono ?_;rintro e w1 ⟨rfl,b⟩;have U:=ze (zi.below' D.o (b.mono (uC X.o m.o.size)));have I:=ze (ext m.o b);clear b C M c1;go_wp2;go_roundw
  case rel=>exact ⟨i,h,by omega,by omega,rfl,by go_num,T,ae,U,I⟩
  case measure=>simp [intOf];omega
def yd:List zm->List UInt8->Rat
 | [],_=>0
 | t :: l,s=>if t.name=s then (zj t.coef).getD 0 else yd l s
theorem zik:∀ (l:List zm) (k:Nat) (s:List UInt8) (h:k<l.length),(∀ j (hj:j<l.length),j<k->l[j].name≠s)->l[k].name=s->yd l s=(zj l[k].coef).getD 0
 | [],k,s,h,_,_=>absurd h (Nat.not_lt_zero _)
 | t :: l,0,s,h,_,h2=>by
   unfold yd;rw [if_pos (by simpa using h2)]
   rfl
 | t :: l,k+1,s,h,h1,h2=>by
   unfold yd;rw [if_neg (show ¬ t.name=s from h1 0 (Nat.succ_pos _) (Nat.succ_pos _))];exact zik l k s (by simpa using h) (fun j hj hjk=>h1 (j+1) (Nat.succ_lt_succ hj) (Nat.succ_lt_succ hjk)) h2
theorem zcf:∀ (l:List zm) (s:List UInt8),(∀ j (hj:j<l.length),l[j].name≠s)->yd l s=0
 | [],s,_=>rfl
 | t :: l,s,h=>by
   unfold yd;rw [if_neg (show ¬ t.name=s from h 0 (Nat.succ_pos _))];exact zcf l s (fun j hj=>h (j+1) (Nat.succ_lt_succ hj))
structure Zr (l:List zm):Prop where
 inc:∀ i j (hi:i<l.length) (hj:j<l.length),i<j->l[i].name<l[j].name
 val:∀ i (hi:i<l.length),(zj l[i].coef).isSome=true
theorem Zr.of {l:List zm} (h:yb l=0):Zr l:=by
 have m:=ys.1 h
 have hb:∀ i (hi:i+1<l.length),l[i].name<l[i+1].name:=fun i hi=>by
  have:=m (i+1) hi
  unfold YZ at this
  have e:l.getD (i+1) default=l[i+1]:=by simp [List.getD,List.getElem?_eq_getElem hi]
  have r:l.getD (i+1 - 1) default=l[i]:=by rw [Nat.add_sub_cancel];simp [List.getD,List.getElem?_eq_getElem (show i<l.length by omega)]
  rw [e,r] at this
  split at this
  . omega
  split at this
  . omega
  unfold yH at this
  split at this
  rotate_left
  . split at this<;>omega
  rename_i b
  rcases b with b | b
  . simp at b
  . exact b
 refine ⟨fun i j hi hj hij=>?_,fun i hi=>?_⟩
 . obtain ⟨d,rfl⟩:∃ d,j=i+1+d:=⟨j - i - 1,by omega⟩
   clear hij
   induction d with
   | zero=>exact hb i hj
   | succ d ih=>exact Yz (ih (by omega)) (hb (i+1+d) hj)
 have:=m i hi
 unfold YZ at this;have e:=xGD (d:=default) hi;rw [e] at this
 split at this
 . omega
 split at this
 . omega
 rename_i b
 cases h8:(zj l[i].coef).isSome with
 | false=>exact absurd h8 b
 | true=>rfl
def zod (w:World) (b:Nat) (q:Rat) (e:Ending) (w' :World):Prop:=∃ v,e= .returned v/\zE w' v q/\zr w' b/\Chg (· =b) w w'
theorem za0 {w W:World} {b g:Nat} {q:Rat} {x y x0 y0:Int} {A B A0 B0:Option Addr} {k c k' c' k0 c0 k1 c1:Nat} {s t s0 t0:Bool} {t' :TypeId} (hg:w.heap.size<=g) (hbl:b<w.heap.size) (hb:zr W b) (hc:Chg (· =b) w W)
 (hk:Blk W g t' #[.int .i64 x0,.slice A0 k0 c0,.bool s0,.int .i64 y0,.slice B0 k1 c1,.bool t0]) (hv:zE W (.agg #[.int .i64 x,.slice A k c,.bool s,.int .i64 y,.slice B k' c',.bool t]) q):
 zE (World.rat W g x A k c s y B k' c' t) (.agg #[.int .i64 x,.slice A k c,.bool s,.int .i64 y,.slice B k' c',.bool t]) q/\zr (World.rat W g x A k c s y B k' c' t) b/\Chg (· =b) w (World.rat W g x A k c s y B k' c' t):=by
 have hS:∀ z,z=g->zK W z:=fun z hz=>by subst hz;exact hk.noDig (Ym _ _ _ _ _ _ _ _ _ _)
 have e:=Chg.ratSet (w:=W) (g:=g) (x:=x) (A:=A) (k:=k) (c:=c) (s:=s) (y:=y) (B:=B) (k' :=k') (c' :=c') (t:=t)
 exact ⟨e.rat hv hS,hb.chg e (by omega) hS,Chg.trans (S:=fun z=>z=b) (T:=fun z=>z=g) hc e (fun z hz h=>absurd hz (by omega))⟩
theorem zte (b:Nat) (A:Option Addr) (n c B:Nat) (l:List zm) (s:List UInt8) (w:World) (hB:zr w b) (ht:zi w B (.slice A n c) l) (hBB:B<=w.heap.size) (hg:Zr l):
 Calls prog 58 #[.map (some b),.slice A n c,str s] w (zod w b (yd l s)):=by
 obtain rfl:=ht.len
 have hl:=ht.bound
 have R:=zf w (.cells #[.int .i64 0,.slice none 0 0,.bool false,.int .i64 0,.slice none 0 0,.bool false] 62)
 have m:=ze (Blk.new w 62 #[.int .i64 0,.slice none 0 0,.bool false,.int .i64 0,.slice none 0 0,.bool false])
 have ah:=zea A l.length c B l s _ (zi.below ht R) (uC hBB R.size) hg.inc
 have u:=ze (hB.below R)
 have am:=ze hB.lt
 have HT:=ze (zi.below ht R)
 have z:Hid (Chg (· =b) w (w.alloc (.cells #[.int .i64 0,.slice none 0 0,.bool false,.int .i64 0,.slice none 0 0,.bool false] 62))):=Chg.of_below R
 have HG:=ze hg
 have aj:Hid (w.heap.size<=w.heap.size):=uA
 have ag:=ze ah
 clear hB ht hBB hg R ah
 go_in
 go_wp2_with fail
 refine ag.o.mono ?_
 rintro e w1 ⟨k,f,rfl,hk,ab,aa,T⟩
 clear ag
 replace u:=ze (u.o.below T)
 replace HT:=ze (zi.below HT.o T)
 replace m:=kb_ m T
 replace z:=ze (zC z.o T)
 clear T
 cases f with
 | false=>
   have HV:Hid (yd l s=0):=ze (zcf l s (aa rfl));clear ab aa hk;go_wp2_with fail;refine (Ze 0 _ (by omega) (by omega)).mono ?_;rintro e U ⟨v,rfl,hv,Y⟩;obtain ⟨J,D,k1,c1,s1,C,I,E,F,G,rfl⟩:=hv.agg;have X:=ze hv;replace u:=ze (u.o.below Y);replace m:=kb_ m Y;replace z:=ze (zC z.o Y);have a0:=m.o.cell 0;have a1:=m.o.cell 1;have a2:=m.o.cell 2;have a3:=m.o.cell 3;have a4:=m.o.cell 4;have a5:=m.o.cell 5;obtain ⟨f0,f1,f2,f3,f4,f5⟩:=fq6 m;simp at a0 a1 a2 a3 a4 a5;clear Y hv;go_wp2_with fail;have r:=yf (x:=J) (A:=D) (k:=k1) (c:=c1) (s:=s1) (y:=C) (B:=I) (k' :=E) (c' :=F) (t:=G) m.o;have r0:=r.cell 0;have M:=r.cell 1;have Q:=r.cell 2;have L:=r.cell 3;have N:=r.cell 4;have O:=r.cell 5;simp only [World.rat] at r0 M Q L N O;simp at r0 M Q L N O
   refine bodyPost_ret (v:=.agg #[.int .i64 J,.slice D k1 c1,.bool s1,.int .i64 C,.slice I E F,.bool G]) (by simp [results,results58,go_sem,r0,M,Q,L,N,O]) rfl ?_;obtain ⟨z1,z2,z3⟩:=za0 (x:=J) (A:=D) (k:=k1) (c:=c1) (s:=s1) (y:=C) (B:=I) (k' :=E) (c' :=F) (t:=G) aj.o am.o u.o z.o m.o X.o;exact ⟨_,rfl,by rw [HV.o];exact z1,z2,z3⟩
 | true=>
   obtain ⟨V,Z⟩:=ab rfl;have HV:Hid (yd l s=(zj l[k].coef).getD 0):=ze (zik l k s V (fun j hj hjk he=>yz s (by have:=HG.o.inc j k hj V hjk;rw [he,Z] at this;exact this)) Z);have ar:(k:Int)<(l.length:Int):=by omega
   obtain ⟨ad,eA,ao,p0,p1,ap,an⟩:=HT.o.at_ V;subst eA;have ai:=HG.o.val k V;obtain ⟨q,al⟩:=Option.isSome_iff_exists.1 ai;have ac:=xK b ⟨l[k].coef.toArray⟩ w1 u.o (by rw [<- zq,xf];exact an);rw [xf] at ac;have ak:=ze ac;have HQ:=ze al;clear ab aa Z ap an ai ac al p0 ao;go_wp2_with fail;refine ak.o.mono ?_;rintro e U ⟨v,ok,rfl,⟨J,D,k1,c1,s1,C,I,E,F,G,rfl⟩,aq,hq,af,ae⟩;clear ak p1;replace m:=ze (u.o.keepBlk ae m.o);replace z:=ze (yg z.o ae);replace u:=ze af;have S:=zf U (.cells #[.int .i64 J,.slice D k1 c1,.bool s1,.int .i64 C,.slice I E F,.bool G] 62);have K:=ze (Blk.new U 62 #[.int .i64 J,.slice D k1 c1,.bool s1,.int .i64 C,.slice I E F,.bool G]);have X:=ze ((hq q HQ.o).below S);replace u:=ze (u.o.below S);replace m:=kb_ m S;replace z:=ze (zC z.o S);clear af ae S hq aq
   go_upto_region 5 with fail
   generalize U.alloc (.cells #[.int .i64 J,.slice D k1 c1,.bool s1,.int .i64 C,.slice I E F,.bool G] 62)=W3 at K X u m z |-;generalize U.heap.size=gx at K |-;have e0:=K.o.cell 0;have e1:=K.o.cell 1;have e2:=K.o.cell 2;have e3:=K.o.cell 3;have e4:=K.o.cell 4;have e5:=K.o.cell 5;have a0:=m.o.cell 0;have a1:=m.o.cell 1;have a2:=m.o.cell 2;have a3:=m.o.cell 3;have a4:=m.o.cell 4;have a5:=m.o.cell 5;obtain ⟨f0,f1,f2,f3,f4,f5⟩:=fq6 m;simp at a0 a1 a2 a3 a4 a5 e0 e1 e2 e3 e4 e5;go_wp2_with fail;have r:=yf (x:=J) (A:=D) (k:=k1) (c:=c1) (s:=s1) (y:=C) (B:=I) (k' :=E) (c' :=F) (t:=G) m.o;have r0:=r.cell 0;have M:=r.cell 1;have Q:=r.cell 2;have L:=r.cell 3;have N:=r.cell 4;have O:=r.cell 5;simp only [World.rat] at r0 M Q L N O;simp at r0 M Q L N O
   refine bodyPost_ret (v:=.agg #[.int .i64 J,.slice D k1 c1,.bool s1,.int .i64 C,.slice I E F,.bool G]) (by simp [results,results58,go_sem,r0,M,Q,L,N,O]) rfl ?_;obtain ⟨z1,z2,z3⟩:=za0 (x:=J) (A:=D) (k:=k1) (c:=c1) (s:=s1) (y:=C) (B:=I) (k' :=E) (c' :=F) (t:=G) aj.o am.o u.o z.o m.o X.o;exact ⟨_,rfl,by rw [HV.o,HQ.o];exact z1,z2,z3⟩
def ZY (t:zm):Rat:=(zj t.coef).getD 0
def zae (p l:List zm):Nat->Rat
 | 0=>0
 | k+1=>zae p l k+ZY (l.getD k default)*yd p (l.getD k default).name
structure zb2 (l p:List zm):Prop where
 few:l.length<=400
 coef:∀ k,k<l.length->∃ q,zj (l.getD k default).coef=some q/\Dz 8000 q
 pt:Zr p
 val:∃ M,M<=60000/\l.length*(M+8001)<=8000000/\∀ s,Dz M (yd p s)
theorem zb2.tots {l p:List zm} (h:zb2 l p) {M:Nat} (hM:∀ s,Dz M (yd p s)):∀ k,k<=l.length->Dz (k*(M+8001)+1) (zae p l k)
 | 0,_=>Dz.zero _
 | k+1,hk=>by
   obtain ⟨q,b,hd⟩:=h.coef k (by omega);have e:ZY (l.getD k default)=q:=by unfold ZY;rw [b];rfl
   unfold zae;rw [e];exact Dz.add (zb2.tots h hM k (by omega)) (Dz.mul hd (hM _) (uA)) (by rw [Nat.add_mul];omega)
theorem zb2.tot {l p:List zm} (h:zb2 l p) (k:Nat) (hk:k<=l.length):∃ e,e<=8000001/\Dz e (zae p l k):=by
 obtain ⟨M,_,j,b⟩:=h.val
 have m:k*(M+8001)<=l.length*(M+8001):=Nat.mul_le_mul_right _ hk
 exact ⟨_,Nat.succ_le_succ (uC m j),h.tots b k hk⟩
theorem zb2.rlen {l p:List zm} (h:zb2 l p) {k:Nat} (hk:k<=l.length):xS 8388608 (zae p l k):=by
 obtain ⟨e,b,hd⟩:=h.tot k hk
 exact (xS.of_dz hd).more (by omega)
def Vo (w:World) (g:Nat) (q:Rat):Prop:=∃ (x:Int) (A:Option Addr) (k c:Nat) (s:Bool) (y:Int) (B:Option Addr) (k' c' :Nat) (t:Bool),Blk w g 62 #[.int .i64 x,.slice A k c,.bool s,.int .i64 y,.slice B k' c',.bool t]/\zE w (.agg #[.int .i64 x,.slice A k c,.bool s,.int .i64 y,.slice B k' c',.bool t]) q
theorem Vo.lt {w:World} {g:Nat} {q:Rat} (h:Vo w g q):g<w.heap.size:=by obtain ⟨_,_,_,_,_,_,_,_,_,_,b,_⟩:=h;exact b.lt
theorem Vo.below {w w' :World} {g:Nat} {q:Rat} (h:Vo w g q) (hb:Below w.heap.size w w'):Vo w' g q:=by
 obtain ⟨_,_,_,_,_,_,_,_,_,_,b,e⟩:=h
 exact ⟨_,_,_,_,_,_,_,_,_,_,b.below hb b.lt,e.below hb⟩
theorem zr.keepRB {w w' :World} {b g:Nat} {q:Rat} (h:zr w b) (hc:Chg (· =b) w w') (e:Vo w g q):Vo w' g q:=by
 obtain ⟨_,_,_,_,_,_,_,_,_,_,e,j⟩:=e
 exact ⟨_,_,_,_,_,_,_,_,_,_,h.keepBlk hc e,h.keepR hc j⟩
def BsmR (w0:World) (b g go:Nat) (tv pv:Value) (l p:List zm) (kv:Value) (wr:World):Prop:=
 ∃ k:Nat,k<=l.length/\kv= .int .i64 k/\Hid (Vo wr go (zae p l k))/\Hid (zr wr b)/\Hid (zi wr w0.heap.size tv l)/\Hid (zi wr w0.heap.size pv p)/\Hid (Blk wr g 62 #[.int .i64 0,.slice none 0 0,.bool false,.int .i64 0,.slice none 0 0,.bool false])/\Hid (Chg (· =b) w0 wr)
theorem zja (b:Nat) (A AP:Option Addr) (n c np cp:Nat) (l p:List zm) (w:World) (hB:zr w b) (ht:zZ w (.slice A n c) l) (hp:zZ w (.slice AP np cp) p) (ho:zb2 l p):
 Calls prog 26 #[.map (some b),.slice A n c,.slice AP np cp] w (zod w b (zae p l l.length)):=by
 obtain rfl:=ht.len
 have G:=zf w (.cells #[.int .i64 0,.slice none 0 0,.bool false,.int .i64 0,.slice none 0 0,.bool false] 62)
 have m:=ze (Blk.new w 62 #[.int .i64 0,.slice none 0 0,.bool false,.int .i64 0,.slice none 0 0,.bool false])
 have j:=ze (hB.below G)
 have ao:=ze hB.lt
 have C:=ze (zi.below ht G)
 have u:=ze (zi.below hp G)
 have r:Hid (Chg (· =b) w (w.alloc (.cells #[.int .i64 0,.slice none 0 0,.bool false,.int .i64 0,.slice none 0 0,.bool false] 62))):=Chg.of_below G
 have HO:=ze ho
 have hl:=ho.few
 clear hB ht hp ho G
 go_in
 go_wp2_with fail
 refine (Ze 0 _ (by omega) (by omega)).mono ?_
 rintro e w1 ⟨v,rfl,hv,au⟩
 obtain ⟨Y,L,k1,c1,s1,Q,N,R,aa,V,rfl⟩:=hv.agg
 have F:=zf w1 (.cells #[.int .i64 Y,.slice L k1 c1,.bool s1,.int .i64 Q,.slice N R aa,.bool V] 62)
 have E:Hid (Vo (w1.alloc (.cells #[.int .i64 Y,.slice L k1 c1,.bool s1,.int .i64 Q,.slice N R aa,.bool V] 62)) w1.heap.size (zae p l 0)):=⟨_,_,_,_,_,_,_,_,_,_,Blk.new w1 _ _,hv.below F⟩
 have ag:=au.trans (F.mono au.size)
 replace j:=ze (j.o.below ag)
 replace C:=ze (zi.below C.o ag)
 replace u:=ze (zi.below u.o ag)
 have ab:Hid (w.heap.size<w1.heap.size):=ze (by have:=m.o.lt;have:=au.size;omega)
 replace m:=kb_ m ag
 replace r:=ze (zC r.o ag)
 clear au F ag hv
 go_upto_region 2 with fail
 generalize w1.alloc (.cells #[.int .i64 Y,.slice L k1 c1,.bool s1,.int .i64 Q,.slice N R aa,.bool V] 62)=W at E j C u m r |-
 generalize w1.heap.size=go at E ab |-
 go_wp2
 go_loopw [15] (BsmR w b w.heap.size go (.slice A l.length c) (.slice AP np cp) l p) (fun kv _=>l.length - (intOf kv).toNat)
 case atStart=>exact ⟨0,uB,rfl,E,j,C,u,m,r⟩
 case round=>
  clear E j C u m r
  obtain ⟨k,hk,rfl,E,j,C,u,m,r⟩:=hrel
  by_cases aA:k<l.length
  rotate_left
  . obtain rfl:l.length=k:=by omega
    obtain ⟨Y,L,k1,c1,s1,Q,N,R,aa,V,al,am⟩:=E.o;have D:=ze al;have I:=ze am;have bc:Hid (w.heap.size<=w.heap.size):=uA;clear al am E;have e0:=D.o.cell 0;have e1:=D.o.cell 1;have e2:=D.o.cell 2;have e3:=D.o.cell 3;have e4:=D.o.cell 4;have e5:=D.o.cell 5;have a0:=m.o.cell 0;have a1:=m.o.cell 1;have a2:=m.o.cell 2;have a3:=m.o.cell 3;have a4:=m.o.cell 4;have a5:=m.o.cell 5;obtain ⟨f0,f1,f2,f3,f4,f5⟩:=fq6 m;simp at a0 a1 a2 a3 a4 a5 e0 e1 e2 e3 e4 e5;go_wp2_with fail;have aj:=yf (x:=Y) (A:=L) (k:=k1) (c:=c1) (s:=s1) (y:=Q) (B:=N) (k' :=R) (c' :=aa) (t:=V) m.o;have r0:=aj.cell 0;have r1:=aj.cell 1;have r2:=aj.cell 2;have r3:=aj.cell 3;have r4:=aj.cell 4;have r5:=aj.cell 5;simp only [World.rat] at r0 r1 r2 r3 r4 r5;simp at r0 r1 r2 r3 r4 r5
    refine bodyPost_ret (v:=.agg #[.int .i64 Y,.slice L k1 c1,.bool s1,.int .i64 Q,.slice N R aa,.bool V]) (by simp [results,results26,go_sem,r0,r1,r2,r3,r4,r5]) rfl ?_;obtain ⟨z1,z2,z3⟩:=za0 (x:=Y) (A:=L) (k:=k1) (c:=c1) (s:=s1) (y:=Q) (B:=N) (k' :=R) (c' :=aa) (t:=V) bc.o ao.o j.o r.o m.o I.o;exact ⟨_,rfl,z1,z2,z3⟩
  have be:(k:Int)<(l.length:Int):=by omega
  obtain ⟨ad,eA,aS,p0,p1,a9,aD⟩:=C.o.at_ aA;subst eA;have F:=zf wr (.cells #[str l[k].name,str l[k].coef] 38);have X:=ze (Blk.new wr 38 #[str l[k].name,str l[k].coef]);have aw:Hid (go<wr.heap.size):=E.o.lt;replace j:=ze (j.o.below F);replace C:=ze (zi.below C.o F);replace u:=ze (zi.below u.o F);replace E:=ze (E.o.below F);replace m:=kb_ m F;replace r:=ze (zC r.o F);have av:=xGD (d:=default) aA;obtain ⟨q,hq,hd⟩:=HO.o.coef k aA;rw [av] at hq
  have aN:Hid (zae p l (k+1)=zae p l k+q*yd p l[k].name):=ze (by
   show zae p l k+ZY (l.getD k default)*yd p (l.getD k default).name=_
   rw [av];unfold ZY;rw [hq];rfl)
  have HQ:=ze hq;have bb:=ze ((xS.of_dz hd).more (show 8001<=8388608 by omega));obtain ⟨M,aR,-,hM⟩:=HO.o.val;have aQ:=ze ((xS.of_dz (hM l[k].name)).more (show M+1<=8388608 by omega));have aO:=ze ((xS.of_dz (Dz.mul hd (hM l[k].name) (uA))).more (show 8000+M+1<=8388608 by omega));clear aR hM;have ba:=ze (HO.o.rlen hk);have aW:=ze aD;clear F av a9 aD hq hd
  go_upto_region 5 with fail
  clear p0 p1 aS;generalize wr.alloc (.cells #[str l[k].name,str l[k].coef] 38)=WL at X j C u E m r |-;generalize wr.heap.size=gt at X aw |-;generalize aV:l[k].name=nm at X aN aQ aO;have az:=xK b ⟨l[k].coef.toArray⟩ WL j.o (by rw [<- zq,xf];exact aW.o);rw [xf] at az;have aG:=ze az;have p1:=X.o.cell 1;simp at p1;clear az aV;go_wp2_with fail;refine aG.o.mono ?_;rintro e w2 ⟨v,ok,rfl,⟨x2,A2,k2,c2,s2,y2,B2,ap,an,t2,rfl⟩,aU,aJ,aC,aB⟩;clear aG p1;have F:=zf w2 (.cells #[.int .i64 x2,.slice A2 k2 c2,.bool s2,.int .i64 y2,.slice B2 ap an,.bool t2] 62);have af:Chg (· =b) WL (w2.alloc (.cells #[.int .i64 x2,.slice A2 k2 c2,.bool s2,.int .i64 y2,.slice B2 ap an,.bool t2] 62)):=zC aB F;have aL:Hid (gt<w2.heap.size):=ze (uK X.o.lt aB.size);replace C:=ze (j.o.keepT af C.o);replace u:=ze (j.o.keepT af u.o);replace X:=ze (j.o.keepBlk af X.o);replace m:=ze (j.o.keepBlk af m.o);replace E:=ze (j.o.keepRB af E.o);replace r:=ze (yg r.o af);replace j:=ze (aC.below F)
  have ax:=ze (Blk.new w2 62 #[.int .i64 x2,.slice A2 k2 c2,.bool s2,.int .i64 y2,.slice B2 ap an,.bool t2]);have ae:=ze ((aJ q HQ.o).below F);clear aC aB F af aJ aU
  go_upto_region 6 with fail
  generalize w2.alloc (.cells #[.int .i64 x2,.slice A2 k2 c2,.bool s2,.int .i64 y2,.slice B2 ap an,.bool t2] 62)=W3 at ax ae j C u X m E r |-;generalize w2.heap.size=gx at ax aL |-;obtain ⟨Y,L,k1,c1,s1,Q,N,R,aa,V,al,am⟩:=E.o;have D:=ze al;have I:=ze am;clear al am E;obtain ⟨o0,o1,o2,o3,o4,o5,_⟩:=bq6 D;obtain ⟨q0,q1,q2,q3,q4,q5,_⟩:=bq6 ax;have p0:=(bq1 X).1;have ai:¬ go=b:=fun e=>by have:=ao.o;have:=ab.o;omega
  have bd:¬ gt=b:=fun e=>by have:=ao.o;have:=ab.o;have:=aw.o;omega
  have ah:¬ gx=b:=fun e=>by have:=ao.o;have:=ab.o;have:=aw.o;have:=aL.o;omega
  have aq:∀ w',Hid (Chg (fun x=>x=b) W3 w')->w'.cell? ⟨go,0,none⟩=some (.int .i64 Y)/\w'.cell? ⟨go,1,none⟩=some (.slice L k1 c1)/\w'.cell? ⟨go,2,none⟩=some (.bool s1)/\w'.cell? ⟨go,3,none⟩=some (.int .i64 Q)/\w'.cell? ⟨go,4,none⟩=some (.slice N R aa)/\w'.cell? ⟨go,5,none⟩=some (.bool V)/\w'.cell? ⟨gx,0,none⟩=some (.int .i64 x2)/\w'.cell? ⟨gx,1,none⟩=some (.slice A2 k2 c2)/\w'.cell? ⟨gx,2,none⟩=some (.bool s2)/\w'.cell? ⟨gx,3,none⟩=some (.int .i64 y2)/\w'.cell? ⟨gx,4,none⟩=some (.slice B2 ap an)/\w'.cell? ⟨gx,5,none⟩=some (.bool t2)/\w'.cell? ⟨gt,0,none⟩=some (str nm):=fun w' hB=>⟨xu hB o0 ai,xu hB o1 ai,xu hB o2 ai,xu hB o3 ai,xu hB o4 ai,xu hB o5 ai,xu hB q0 ah,xu hB q1 ah,xu hB q2 ah,xu hB q3 ah,xu hB q4 ah,xu hB q5 ah,xu hB p0 bd⟩
  refine XJ aq 9 (vj W3) fun J=>?_;refine tK 0 ?_;refine tK 1 ?_;refine tK 2 ?_;refine tK 3 ?_;refine tK 4 ?_;refine tK 5 ?_;refine rK 6 fun K hK=>?_
  go_simp
  go_at_call 58;have O:=(zw W3).out;replace j:=ze (j.o.below O);replace C:=ze (zi.below C.o O);replace u:=ze (zi.below u.o O);replace m:=kb_ m O;replace D:=kb_ D O;replace I:=ze (I.o.below O);replace ae:=ze (ae.o.below O);replace r:=ze (zC r.o O);clear O;refine (zte b _ _ _ w.heap.size p nm _ j.o u.o r.o.size HO.o.pt).mono ?_;rintro e w4 ⟨v4,rfl,aE,aF,U⟩;replace C:=ze (j.o.keepT U C.o);replace u:=ze (j.o.keepT U u.o);replace m:=ze (j.o.keepBlk U m.o);replace D:=ze (j.o.keepBlk U D.o);replace I:=ze (j.o.keepR U I.o);replace ae:=ze (j.o.keepR U ae.o);replace r:=ze (yg r.o U);replace j:=ze aF;have aK:=ze aE;refine hK.out _ _ (zl (Zh U J.1) (aq _)) ?_;clear hK K J;intro J
  try simp only [Act.put,xST]
  clear U aF aE;refine rK 7 fun K hK=>?_
  go_simp
  go_at_call 57;refine (YN _ _ q (yd p nm) _ ae.o aK.o bb.o aQ.o).mono ?_;rintro e w5 ⟨v5,rfl,aI,Z⟩;replace j:=ze (j.o.below Z);replace C:=ze (zi.below C.o Z);replace u:=ze (zi.below u.o Z);replace m:=kb_ m Z;replace D:=kb_ D Z;replace I:=ze (I.o.below Z);replace r:=ze (zC r.o Z);have aM:=ze aI;refine hK.out _ _ (zl (xM Z J.1) (aq _)) ?_;clear hK K J;intro J
  try simp only [Act.put,xST]
  clear Z aI aK ae;refine rK 8 fun K hK=>?_
  go_simp
  go_at_call 34;refine (vT _ _ (zae p l k) (q*yd p nm) _ I.o aM.o ba.o aO.o).mono ?_;rintro e w6 ⟨v6,rfl,ar,ac⟩;replace j:=ze (j.o.below ac);replace C:=ze (zi.below C.o ac);replace u:=ze (zi.below u.o ac);replace m:=kb_ m ac;replace D:=kb_ D ac;replace r:=ze (zC r.o ac);obtain ⟨x3,A3,k3,c3,s3,y3,B3,aP,aH,t3,rfl⟩:=ar.agg;rw [<- aN.o] at ar;have aT:=ze ar;obtain ⟨f0,f1,f2,f3,f4,f5⟩:=fq6 D;obtain ⟨g0,g1,g2,g3,g4,g5,_⟩:=bq6 D;refine hK.out _ _ (zl (xM ac J.1) (aq _)) ?_;clear hK K J;intro J
  try simp only [Act.put,xST]
  clear ac ar aM I;clear J aq;refine hdn ?_;simp only [xDR];go_wp2_with fail;have a8:Hid (Vo (World.rat w6 go x3 A3 k3 c3 s3 y3 B3 aP aH t3) go (zae p l (k+1))):=⟨_,_,_,_,_,_,_,_,_,_,yf D.o,zE.stored aT.o D.o⟩;have hS:∀ z,z=go->zK w6 z:=fun z G=>by subst G;exact D.o.noDig (Ym _ _ _ _ _ _ _ _ _ _)
  have ak:=Chg.ratSet (w:=w6) (g:=go) (x:=x3) (A:=A3) (k:=k3) (c:=c3) (s:=s3) (y:=y3) (B:=B3) (k' :=aP) (c' :=aH) (t:=t3);have ay:∀ z,z<w.heap.size->z=go->Zn w6 z:=fun z G e=>by have:=ab.o;omega
  have a7:=ze (j.o.chg ak (by have:=ao.o;have:=ab.o;omega) hS);have a6:=ze (zi.chg C.o ak ay);have aX:=ze (zi.chg u.o ak ay);have aY:=ze (ak.blk m.o (by have:=ab.o;omega));have aZ:=ze (Chg.trans (S:=fun z=>z=b) (T:=fun z=>z=go) r.o ak (fun z G h=>absurd G (by have:=ab.o;omega)));clear hS ak ay;go_roundw
  case rel=>exact ⟨k+1,by omega,by go_num,a8,a7,a6,aX,aY,aZ⟩
  case measure=>simp [intOf];omega
def zec (l p:List zm):List UInt8×Int:=if ya l≠0 then ([],ya l) else if yb p≠0 then ([],yb p) else ZQ (zae p l l.length)
def ChkR (w0:World) (b B:Nat) (rv:Value) (rows:List zF) (iv:Value) (wr:World):Prop:=
 ∃ i:Nat,i<=rows.length/\iv= .int .i64 i/\Hid (∀ j,j<i->yN (rows.getD j default)=0)/\Hid (zr wr b)/\Hid (zW wr B rv rows)/\Hid (Chg (· =b) w0 wr)
theorem VR {rows:List zF} (h:800<rows.length):zY rows=3:=by unfold zY;rw [if_pos h]
theorem zin {rows:List zF} {i:Nat} (h:¬ 800<rows.length) (hi:i<rows.length) (h0:∀ j,j<i->yN (rows.getD j default)=0) (hne:yN (rows.getD i default)≠0):zY rows=yN (rows.getD i default):=by
 have e:=ve (f:=fun i=>yN (rows.getD i default)) hi h0 hne
 unfold zY
 rw [if_neg h,if_pos (by rw [e];exact hne),e]
theorem zbm {rows:List zF} (h:¬ 800<rows.length) (h0:∀ j,j<rows.length->yN (rows.getD j default)=0):zY rows=if 80<(ye rows []).length then 3 else 0:=by
 have e:=ys (f:=fun i=>yN (rows.getD i default)).2 h0
 unfold zY
 rw [if_neg h,if_neg (by rw [e];exact fun h=>h rfl)]
theorem Z0 (b:Nat) (A:Option Addr) (n c:Nat) (rows:List zF) (w:World) (hB:zr w b) (hr:yM w (.slice A n c) rows) (hcnt:rows.length<=800->(ye rows []).length<=100000):
 Calls prog 17 #[.map (some b),.slice A n c] w (X8 b (zY rows) w):=by
 obtain rfl:=hr.len
 have r:=ze hB
 have u:=ze hr
 have m:=ze (Chg.refl (S:=(· =b)) w)
 by_cases ab:800<rows.length
 . have d0:decide ((rows.length:Int)>800)=true:=by rw [decide_eq_true_iff];omega
   have HE:=ze (VR ab);clear hB hr hcnt
   go_in
   go_wp2;go_ret;exact ⟨by rw [HE.o];rfl,r.o,m.o⟩
 have d0:decide ((rows.length:Int)>800)=false:=by rw [decide_eq_false_iff_not];omega
 have HL:=ze ab
 have Z:=ze (hcnt (by omega))
 clear hB hr hcnt
 go_in
 go_wp2
 go_loopw [13] (ChkR w b w.heap.size (.slice A rows.length c) rows) (fun iv _=>rows.length - (intOf iv).toNat)
 case atStart=>exact ⟨0,uB,rfl,(fun j h=>by omega),r,u,m⟩
 case round=>
  clear r u m d0
  obtain ⟨i,hi,rfl,M,r,u,m⟩:=hrel
  by_cases O:i<rows.length
  . have ai:(i:Int)<(rows.length:Int):=by omega
    obtain ⟨ad,B,y,C,eA,ah,p0,p1,X,aa⟩:=u.o.at_ O;subst eA;have G:=zf wr (.cells #[.slice B y C,str rows[i].bound] 36);have K:=ze (Blk.new wr 36 #[.slice B y C,str rows[i].bound]);have af:=fun w' (k:zr w' b) (t:zZ w' (.slice B y C) rows[i].terms)=>zqa b B y C rows[i] w' k t aa
    have T:=xGD (d:=default) O;have F:=ze af;have L:Hid (zZ (wr.alloc (.cells #[.slice B y C,str rows[i].bound] 36)) (.slice B y C) rows[i].terms):=(zi.below X G).more (uC m.o.size G.size);replace r:=ze (r.o.below G);replace u:=ze (zW.below u.o G);replace m:=ze (zC m.o G);have Q:=ze T;clear G X aa af T
    go_upto_region 6 with fail
    clear p0 p1 ah;generalize wr.alloc (.cells #[.slice B y C,str rows[i].bound] 36)=W2 at K L r u m |-;generalize wr.heap.size=gr at K |-;obtain ⟨r0,V,_⟩:=bq2 K
    by_cases D:yN rows[i]=0
    . rw [D] at F
      have ag:Hid (∀ j,j<i+1->yN (rows.getD j default)=0):=by
       intro j hj
       by_cases e:j=i
       . subst e;rw [Q.o];exact D
       . exact M.o j (by omega)
      clear D;go_wp2_with fail;refine (F.o _ r.o L.o).mono ?_;rintro e w3 ⟨rfl,J,I⟩;replace u:=ze (r.o.keepRows I u.o);replace m:=ze (yg m.o I);replace r:=ze J;clear J I F L K r0 V;go_wp2;go_roundw
      case rel=>exact ⟨i+1,by omega,by go_num,ag,r,u,m⟩
      case measure=>simp [intOf];omega
    . have E:Hid (zY rows=yN rows[i]):=by
       have:=zin HL.o O M.o (by rw [Q.o];exact D);rw [Q.o] at this;exact this
      generalize hz:yN rows[i]=z at F E D;have aj:(z == 0)=false:=uD D;clear hz D;go_wp2_with fail;refine (F.o _ r.o L.o).mono ?_;rintro e w3 ⟨rfl,J,I⟩;replace m:=ze (yg m.o I);replace r:=ze J;clear J I F L K r0 V;go_wp2;go_ret;exact ⟨by rw [E.o];rfl,r.o,m.o⟩
  . obtain rfl:rows.length=i:=by omega
    have ae:=zab wr.heap.size 0 A rows.length c (.slice none 0 0) [] rows [] wr (u.o.more m.o.size) (Zk _ _ _ _) ⟨rfl,fun j hj=>by cases hj⟩ rfl (by omega) (uA)
     (fun l hl=>by rw [hl.eq];exact Z.o)
    have Y:=ze ae;clear ae u;go_wp2_with fail;refine Y.o.mono ?_;rintro e w3 ⟨v,l,rfl,ac,hn,R⟩;have U:l.length=(ye rows []).length:=by rw [ac.eq];rfl
    have E:Hid (zY rows=if 80<l.length then 3 else 0):=by
     show _=_
     rw [U];exact zbm HL.o M.o
    obtain ⟨A3,c3,rfl,_⟩:=hn;replace r:=ze (r.o.below R);replace m:=ze (zC m.o R);clear R Y ac U M Z
    by_cases N:80<l.length
    . rw [if_pos N] at E
      have d8:(80:Int)<(l.length:Int):=by omega
      clear N;go_wp2;go_ret;exact ⟨by rw [E.o];rfl,r.o,m.o⟩
    . rw [if_neg N] at E
      have d8:¬ (80:Int)<(l.length:Int):=by omega
      clear N;go_wp2;go_ret;exact ⟨by rw [E.o];rfl,r.o,m.o⟩
structure XB (rows:List zF) (s:List UInt8):Prop where
 err:∀ r∈rows,yN r=0
 len:rows.length<=800
 all:∀ r∈rows,∀ t∈r.terms,t.name=s
 ex:∃ r∈rows,r.terms≠[]
 small:s.length<=1073741824
theorem XB.err0 {rows:List zF} {s:List UInt8} (h:XB rows s):zY rows=0/\(ye rows []).length=1:=by
 have z:∀ x∈yt ([] ++ rows.map (·.terms)),x=s:=by
  intro x b
  unfold yt at b
  rw [List.nil_append,List.mem_flatMap] at b
  obtain ⟨l,B,b⟩:=b
  obtain ⟨t,D,rfl⟩:=List.mem_map.1 b
  obtain ⟨r,m,rfl⟩:=List.mem_map.1 B
  exact h.all r m t D
 have y:yt ([] ++ rows.map (·.terms))≠[]:=by
  obtain ⟨r,m,C⟩:=h.ex
  obtain ⟨t,q,e⟩:=List.exists_cons_of_ne_nil C
  intro E
  have:t.name∈yt ([] ++ rows.map (·.terms)):=by
   unfold yt;exact List.mem_flatMap.2 ⟨_,List.mem_map.2 ⟨r,m,rfl⟩,List.mem_map.2 ⟨t,by rw [e];exact uP ..,rfl⟩⟩
  rw [E] at this
  cases this
 have u:(ye rows []).length=1:=by
  have e:ye rows []=[s]:=zjd z y (yx _)
  rw [e];rfl
 refine ⟨?_,u⟩
 rw [zbm (by have:=h.len;omega) (fun j hj=>by
  have e:=xGD (d:=default) hj
  rw [e];exact h.err _ (uO hj)),u]
 rfl
theorem zk3 (b:Nat) (A:Option Addr) (n c:Nat) (rows:List zF) (s:List UInt8) (w:World) (hB:zr w b) (hr:yM w (.slice A n c) rows) (h1:XB rows s):
 Calls prog 17 #[.map (some b),.slice A n c] w (X8 b 0 w):=by
 have h:=Z0 b A n c rows w hB hr (fun _=>by rw [h1.err0.2];omega)
 rw [h1.err0.1] at h
 exact h
def zd9 (l:List zm):Prop:=∀ t∈l,(zj t.coef).isSome=true
def CoeR (w0:World) (b B gR:Nat) (tv:Value) (l:List zm) (s:List UInt8) (kv:Value) (wr:World):Prop:=
 ∃ k:Nat,k<=l.length/\kv= .int .i64 k/\Hid (∀ j (hj:j<l.length),j<k->l[j].name≠s)/\Hid (zr wr b)/\Hid (zi wr B tv l)/\Hid (Blk wr gR 62 #[.int .i64 0,.slice none 0 0,.bool false,.int .i64 0,.slice none 0 0,.bool false])/\Hid (Chg (· =b) w0 wr)
theorem zbr (b:Nat) (A:Option Addr) (n c B:Nat) (l:List zm) (bd s:List UInt8) (w:World) (hB:zr w b) (ht:zi w B (.slice A n c) l) (hBB:B<=w.heap.size) (hg:zd9 l):
 Calls prog 18 #[.map (some b),.agg #[.slice A n c,str bd],str s] w (zod w b (yd l s)):=by
 obtain rfl:=ht.len
 have hl:=ht.bound
 have Y:=ext (zf w (.cells #[.slice A l.length c,str bd] 36)) (zf (w.alloc (.cells #[.slice A l.length c,str bd] 36)) (.cells #[.int .i64 0,.slice none 0 0,.bool false,.int .i64 0,.slice none 0 0,.bool false] 62))
 have ae:=ze ((Blk.new w 36 #[.slice A l.length c,str bd]).alloc (.cells #[.int .i64 0,.slice none 0 0,.bool false,.int .i64 0,.slice none 0 0,.bool false] 62))
 have ab:=Blk.new (w.alloc (.cells #[.slice A l.length c,str bd] 36)) 62 #[.int .i64 0,.slice none 0 0,.bool false,.int .i64 0,.slice none 0 0,.bool false]
 simp only [World.size_alloc] at ab
 have m:=ze ab
 have r:=ze (hB.below Y)
 have al:=ze hB.lt
 have L:=ze ((zi.below (ht.more hBB) Y))
 have u:Hid (Chg (· =b) w ((w.alloc (.cells #[.slice A l.length c,str bd] 36)).alloc (.cells #[.int .i64 0,.slice none 0 0,.bool false,.int .i64 0,.slice none 0 0,.bool false] 62))):=Chg.of_below Y
 have HG:=ze hg
 have ai:Hid (w.heap.size<=w.heap.size+1):=Nat.le_succ _
 have aw:Hid (b<w.heap.size):=hB.lt
 clear hB ht hBB hg Y ab
 go_in
 go_upto_region 1 with fail
 generalize (w.alloc (.cells #[.slice A l.length c,str bd] 36)).alloc (.cells #[.int .i64 0,.slice none 0 0,.bool false,.int .i64 0,.slice none 0 0,.bool false] 62)=W at m ae r L u |-
 have b0:=(bq1 ae).1
 go_wp2
 go_loopw [14] (CoeR w b w.heap.size (w.heap.size+1) (.slice A l.length c) l s) (fun kv _=>l.length - (intOf kv).toNat)
 case atStart=>exact ⟨0,uB,rfl,ze (fun j hj h=>by omega),r,L,m,u⟩
 case round=>
  clear b0 ae m r L u
  obtain ⟨k,hk,rfl,U,r,L,m,u⟩:=hrel
  by_cases aa:k<l.length
  rotate_left
  . obtain rfl:l.length=k:=by omega
    have HV:Hid (yd l s=0):=ze (zcf l s (fun j hj=>U.o j hj hj));clear U;go_wp2_with fail;refine (Ze 0 _ (by omega) (by omega)).mono ?_;rintro e V ⟨v,rfl,hv,Z⟩;obtain ⟨K,F,k1,c1,s1,E,J,G,I,C,rfl⟩:=hv.agg;have X:=ze hv;replace r:=ze (r.o.below Z);replace m:=kb_ m Z;replace u:=ze (zC u.o Z);have a0:=m.o.cell 0;have a1:=m.o.cell 1;have a2:=m.o.cell 2;have a3:=m.o.cell 3;have a4:=m.o.cell 4;have a5:=m.o.cell 5;obtain ⟨f0,f1,f2,f3,f4,f5⟩:=fq6 m;simp at a0 a1 a2 a3 a4 a5;clear Z hv;go_wp2_with fail;have z:=yf (x:=K) (A:=F) (k:=k1) (c:=c1) (s:=s1) (y:=E) (B:=J) (k' :=G) (c' :=I) (t:=C) m.o;have r0:=z.cell 0;have O:=z.cell 1;have S:=z.cell 2;have N:=z.cell 3;have Q:=z.cell 4;have R:=z.cell 5;simp only [World.rat] at r0 O S N Q R;simp at r0 O S N Q R
    refine bodyPost_ret (v:=.agg #[.int .i64 K,.slice F k1 c1,.bool s1,.int .i64 E,.slice J G I,.bool C]) (by simp [results,results18,go_sem,r0,O,S,N,Q,R]) rfl ?_;obtain ⟨z1,z2,z3⟩:=za0 (x:=K) (A:=F) (k:=k1) (c:=c1) (s:=s1) (y:=E) (B:=J) (k' :=G) (c' :=I) (t:=C) ai.o al.o r.o u.o m.o X.o;exact ⟨_,rfl,by rw [HV.o];exact z1,z2,z3⟩
  have av:(k:Int)<(l.length:Int):=by omega
  obtain ⟨ad,eA,ap,p0,p1,aq,am⟩:=L.o.at_ aa;subst eA;have he:(l[k].name == s)=decide (l[k].name=s):=by by_cases h:l[k].name=s<;>simp [h]
  have D:=zf wr (.cells #[str l[k].name,str l[k].coef] 38);have ac:=ze (Blk.new wr 38 #[str l[k].name,str l[k].coef]);replace r:=ze (r.o.below D);have ar:Hid (w.heap.size<=wr.heap.size):=u.o.size;replace L:=ze (zi.below L.o D);replace m:=kb_ m D;replace u:=ze (zC u.o D);have ao:=ze am;clear D aq am
  go_upto_region 4 with fail
  clear p0 p1 ap;generalize wr.alloc (.cells #[str l[k].name,str l[k].coef] 38)=W2 at ac r L m u |-;generalize wr.heap.size=gt at ac ar |-;obtain ⟨t0,C,_⟩:=bq2 ac
  by_cases T:l[k].name=s
  . rw [uE T] at he
    obtain ⟨q,ak⟩:=Option.isSome_iff_exists.1 (HG.o _ (uO aa));have HV:Hid (yd l s=(zj l[k].coef).getD 0):=ze (zik l k s aa U.o T);have af:=xK b ⟨l[k].coef.toArray⟩ W2 r.o (by rw [<- zq,xf];exact ao.o);rw [xf] at af;have aj:=ze af;have HQ:=ze ak;clear T af ak U L;go_wp2_with fail;refine aj.o.mono ?_;rintro e V ⟨v,ok,rfl,⟨K,F,k1,c1,s1,E,J,G,I,C,rfl⟩,au,hq,ah,ag⟩;clear aj;replace m:=ze (r.o.keepBlk ag m.o);replace u:=ze (yg u.o ag);replace r:=ze ah;have D:=zf V (.cells #[.int .i64 K,.slice F k1 c1,.bool s1,.int .i64 E,.slice J G I,.bool C] 62);have M:=ze (Blk.new V 62 #[.int .i64 K,.slice F k1 c1,.bool s1,.int .i64 E,.slice J G I,.bool C]);have X:=ze ((hq q HQ.o).below D);replace r:=ze (r.o.below D);replace m:=kb_ m D;replace u:=ze (zC u.o D);clear ah ag D hq au
    go_upto_region 6 with fail
    generalize V.alloc (.cells #[.int .i64 K,.slice F k1 c1,.bool s1,.int .i64 E,.slice J G I,.bool C] 62)=W3 at M X r m u |-;generalize V.heap.size=gx at M |-;have e0:=M.o.cell 0;have e1:=M.o.cell 1;have e2:=M.o.cell 2;have e3:=M.o.cell 3;have e4:=M.o.cell 4;have e5:=M.o.cell 5;have a0:=m.o.cell 0;have a1:=m.o.cell 1;have a2:=m.o.cell 2;have a3:=m.o.cell 3;have a4:=m.o.cell 4;have a5:=m.o.cell 5;obtain ⟨f0,f1,f2,f3,f4,f5⟩:=fq6 m;simp at a0 a1 a2 a3 a4 a5 e0 e1 e2 e3 e4 e5;go_wp2_with fail;have z:=yf (x:=K) (A:=F) (k:=k1) (c:=c1) (s:=s1) (y:=E) (B:=J) (k' :=G) (c' :=I) (t:=C) m.o;have r0:=z.cell 0;have O:=z.cell 1;have S:=z.cell 2;have N:=z.cell 3;have Q:=z.cell 4;have R:=z.cell 5;simp only [World.rat] at r0 O S N Q R;simp at r0 O S N Q R
    refine bodyPost_ret (v:=.agg #[.int .i64 K,.slice F k1 c1,.bool s1,.int .i64 E,.slice J G I,.bool C]) (by simp [results,results18,go_sem,r0,O,S,N,Q,R]) rfl ?_;obtain ⟨z1,z2,z3⟩:=za0 (x:=K) (A:=F) (k:=k1) (c:=c1) (s:=s1) (y:=E) (B:=J) (k' :=G) (c' :=I) (t:=C) ai.o al.o r.o u.o m.o X.o;exact ⟨_,rfl,by rw [HV.o,HQ.o];exact z1,z2,z3⟩
  rw [uF T] at he
  have an:Hid (∀ j (hj:j<l.length),j<k+1->l[j].name≠s):=ze (fun j hj h=>by
   by_cases e:j=k
   . subst e;exact T
   exact U.o j hj (by omega))
  clear T U;go_wp2;go_roundw
  case rel=>exact ⟨k+1,by omega,by go_num,an,r,L,m,u⟩
  case measure=>simp [intOf];omega
theorem ze4 {s:List UInt8}:∀ {D:List (List UInt8×Value)} {i:Nat},Vs s D i=none↔∀ p∈D,p.1≠s
 | [],i=>by simp [Vs]
 | p :: D,i=>by
   unfold Vs
   by_cases h:p.1=s
   . rw [if_pos h]
     constructor
     . intro e;cases e
     intro e;exact absurd h (e p uP)
   rw [if_neg h,ze4]
   constructor
   rotate_left
   . intro e q b
     exact e q (List.mem_cons_of_mem _ b)
   intro e q b
   rcases List.mem_cons.1 b with rfl | b
   . exact h
   . exact e q b
theorem vN (s:List UInt8) (p:List UInt8×Value) (D:List (List UInt8×Value)):Vp s (p :: D)=if p.1=s then some p.2 else Vp s D:=by
 unfold Vp
 conv=>lhs;unfold Vs
 by_cases h:p.1=s
 . rw [if_pos h,if_pos h];rfl
 rw [if_neg h,if_neg h,XY s D 1,Option.map_map];rfl
theorem za2 (s:List UInt8) (v:Value) (p:List UInt8×Value) (D:List (List UInt8×Value)):zh8 s v (p :: D)=if p.1=s then (s,v) :: D else p :: zh8 s v D:=by
 unfold zh8
 conv=>lhs;unfold Vs
 by_cases h:p.1=s
 . rw [if_pos h,if_pos h];rfl
 rw [if_neg h,if_neg h,XY s D 1]
 cases Vs s D 0 with
 | none=>rfl
 | some q=>rfl
theorem zi9 (s:List UInt8) (v:Value):∀ D:List (List UInt8×Value),Vp s (zh8 s v D)=some v
 | []=>by simp [zh8,Vs,Vp]
 | p :: D=>by
   rw [za2]
   by_cases h:p.1=s
   . rw [if_pos h,vN,if_pos rfl]
   rw [if_neg h,vN,if_neg h]
   exact zi9 s v D
theorem zbk {s s' :List UInt8} (hne:s' ≠s) (v:Value):∀ D:List (List UInt8×Value),Vp s' (zh8 s v D)=Vp s' D
 | []=>by
   have:¬ s=s' :=fun e=>hne e.symm
   simp [zh8,Vs,Vp,this]
 | p :: D=>by
   rw [za2]
   by_cases h:p.1=s
   . rw [if_pos h,vN,vN,if_neg (fun e=>hne e.symm),if_neg (fun e=>hne (e.symm.trans h))]
   rw [if_neg h,vN,vN,zbk hne v D]
theorem zgr (s:List UInt8) (v:Value):∀ D:List (List UInt8×Value),(zh8 s v D).map (·.1)=if s∈D.map (·.1) then D.map (·.1) else D.map (·.1) ++ [s]
 | []=>by simp [zh8,Vs]
 | p :: D=>by
   rw [za2]
   by_cases h:p.1=s
   . rw [if_pos h,List.map_cons,List.map_cons,if_pos (by rw [h];exact uP),h]
   rw [if_neg h,List.map_cons,zgr s v D,List.map_cons]
   by_cases b:s∈D.map (·.1)
   . rw [if_pos b,if_pos (List.mem_cons_of_mem _ b)]
   rw [if_neg b,if_neg (fun e=>by rcases List.mem_cons.1 e with e | e;exact h e.symm;exact b e)]
   rfl
theorem zka {s:List UInt8} {v:Value} {D:List (List UInt8×Value)} (h:(D.map (·.1)).Nodup):((zh8 s v D).map (·.1)).Nodup:=by
 rw [zgr]
 by_cases j:s∈D.map (·.1)
 . rw [if_pos j];exact h
 rw [if_neg j,List.nodup_append]
 refine ⟨h,by simp,fun a ha b hb e=>?_⟩;simp at hb;subst hb;subst e;exact j ha
def Z7 (w:World) (g:Nat) (F:List UInt8->Option Rat):Prop:=
 ∃ D,Zq w g D/\(D.map (·.1)).Nodup/\∀ s,match Vp s D with | none=>F s=none | some v=>∃ q,F s=some q/\zE w v q
theorem Z7.lt {w:World} {g:Nat} {F:List UInt8->Option Rat} (h:Z7 w g F):g<w.heap.size:=by obtain ⟨D,h,_⟩:=h;exact h.lt
theorem Z7.noDig {w:World} {g:Nat} {F:List UInt8->Option Rat} (h:Z7 w g F):zK w g:=by obtain ⟨D,h,_⟩:=h;exact h.noDig
theorem Z7.new (w:World):Z7 (w.alloc (.map #[] 0)) w.heap.size (fun _=>none):=⟨[],Zq.new w,by simp,fun s=>rfl⟩
theorem Z7.chg {S:Nat->Prop} {w w' :World} {g:Nat} {F:List UInt8->Option Rat} (h:Z7 w g F) (hc:Chg S w w') (hb:¬ S g) (hS:∀ b,S b->zK w b):Z7 w' g F:=by
 obtain ⟨D,m,j,r⟩:=h
 refine ⟨D,hc.map m hb,j,fun s=>?_⟩
 have:=r s
 split at this
 . exact this
 obtain ⟨q,e,l⟩:=this
 exact ⟨q,e,hc.rat l hS⟩
theorem Z7.below {w w' :World} {g:Nat} {F:List UInt8->Option Rat} (h:Z7 w g F) (hb:Below w.heap.size w w'):Z7 w' g F:=h.chg (S:=fun _=>False) (Chg.of_below hb) (fun h=>h) (fun _ h=>h.elim)
theorem Z7.book {w w' :World} {g b:Nat} {F:List UInt8->Option Rat} (h:Z7 w g F) (hB:zr w b) (hc:Chg (· =b) w w') (hne:g≠b):Z7 w' g F:=h.chg hc hne (fun _ e=>by subst e;exact hB.noDig)
def zrn (F:List UInt8->Option Rat) (s:List UInt8) (q:Rat):List UInt8->Option Rat:=fun t=>if t=s then some q else F t
theorem Z7.put {P:Program} {w:World} {g:Nat} {F:List UInt8->Option Rat} {s:List UInt8} {v:Value} {q:Rat} {t k e:TypeId} (ht:P.underlying t=some (.map k e)) (hk:P.underlying k=some .string) (h:Z7 w g F) (hv:zE w v q):
 ∃ w',(Instr.mapUpdate t (.map (some g)) (str s) v).run P w= .ok () w' /\Z7 w' g (zrn F s q)/\Chg (· =g) w w' :=by
 obtain ⟨D,j,r,B⟩:=h
 obtain ⟨w',y,l,E,_⟩:=Y2 ht hk j s v
 have b:Chg (· =g) w w' :=Chg.of_grown E rfl
 have hS:∀ z,z=g->zK w z:=fun z e=>by subst e;exact j.noDig
 refine ⟨w',y,⟨_,l,zka r,fun s' =>?_⟩,b⟩
 unfold zrn
 by_cases e:s' =s
 . subst e
   rw [zi9,if_pos rfl];exact ⟨q,rfl,b.rat hv hS⟩
 rw [zbk e,if_neg e]
 have:=B s'
 split at this
 . exact this
 obtain ⟨C,m,u⟩:=this
 exact ⟨C,m,b.rat u hS⟩
theorem Z7.look {P:Program} {w:World} {g:Nat} {F:List UInt8->Option Rat} {t k e:TypeId} {z:Value} (ht:P.underlying t=some (.map k e)) (hk:P.underlying k=some .string) (hz:(zeroValue e).run P w= .ok z w) (h:Z7 w g F) (s:List UInt8) (c:Bool):
 ∃ v,(Instr.lookup t (.map (some g)) (str s) c).run P w= .ok (if c then .tuple #[v,.bool (F s).isSome] else v) w/\((F s=none/\v=z)\/∃ q,F s=some q/\zE w v q):=by
 obtain ⟨D,r,_,u⟩:=h
 have b:=Zy (w:=w) ht hk hz r s c
 have:=u s
 split at this
 . rename_i j
   rw [j] at b;exact ⟨z,by rw [this];exact b,.inl ⟨this,rfl⟩⟩
 rename_i v j
 obtain ⟨q,l,m⟩:=this;rw [j] at b;exact ⟨v,by rw [l];exact b,.inr ⟨q,l,m⟩⟩
theorem Z7.noCells {w:World} {g:Nat} {F:List UInt8->Option Rat} (h:Z7 w g F):Zn w g:=by obtain ⟨D,h,_⟩:=h;exact h.noCells
theorem Z7.keepR {w w' :World} {g:Nat} {F:List UInt8->Option Rat} {v:Value} {q:Rat} (h:Z7 w g F) (hc:Chg (· =g) w w') (hv:zE w v q):zE w' v q:=hc.rat hv (fun _ e=>by subst e;exact h.noDig)
theorem Z7.keepT {w w' :World} {g B:Nat} {F:List UInt8->Option Rat} {v:Value} {l:List zm} (h:Z7 w g F) (hc:Chg (· =g) w w') (hv:zi w B v l):zi w' B v l:=hv.chg hc (fun _ _ e=>by subst e;exact h.noCells)
theorem Z7.keepBlk {w w' :World} {g x:Nat} {F:List UInt8->Option Rat} {t:TypeId} {cs:Array Value} (h:Z7 w g F) (hc:Chg (· =g) w w') (hk:Blk w x t cs):Blk w' x t cs:=hc.blk hk (fun e=>by
 subst e
 obtain ⟨D,⟨b,c,hb,_⟩,_⟩:=h
 unfold Blk at hk
 rw [hb] at hk;cases hk)
theorem zr.neB {w:World} {b x:Nat} {t:TypeId} {cs:Array Value} (h:zr w b) (hk:Blk w x t cs):b≠x:=fun e=>by
 subst e
 obtain ⟨D,⟨j,c,hb,_⟩,_⟩:=h
 unfold Blk at hk
 rw [hb] at hk;cases hk
theorem Z7.ne {w:World} {g x:Nat} {F:List UInt8->Option Rat} {t:TypeId} {cs:Array Value} (h:Z7 w g F) (hk:Blk w x t cs):g≠x:=fun e=>by
 subst e
 obtain ⟨D,⟨b,c,hb,_⟩,_⟩:=h
 unfold Blk at hk
 rw [hb] at hk;cases hk
theorem Z7.keepB {w w' :World} {g b:Nat} {F:List UInt8->Option Rat} (h:Z7 w g F) (hc:Chg (· =g) w w') (hB:zr w b) (hne:b≠g):zr w' b:=hB.chg hc hne (fun _ e=>by subst e;exact h.noDig)
theorem ZW:prog.underlying 100=some (.map 9 62):=by kernel_rfl
theorem Xn:prog.underlying 9=some .string:=by kernel_rfl
def zqy (wt:Rat) (F:List UInt8->Option Rat) (t:zm):List UInt8->Option Rat:=zrn F t.name ((F t.name).getD 0+ZY t*wt)
def Xx (wt:Rat) (F:List UInt8->Option Rat) (l:List zm):List UInt8->Option Rat:=l.foldl (zqy wt) F
theorem zmo {wt:Rat} {F:List UInt8->Option Rat} {l:List zm} {k:Nat} (h:k<l.length):Xx wt F (l.take (k+1))=zqy wt (Xx wt F (l.take k)) l[k]:=by
 unfold Xx
 rw [List.take_add_one,List.getElem?_eq_getElem h,List.foldl_append]
 rfl
def zgt (r:zF):Rat:=(zj r.bound).getD 0
structure zt9 (wt q0:Rat) (F:List UInt8->Option Rat) (r:zF):Prop where
 coef:∀ t∈r.terms,∃ q,zj t.coef=some q/\xS 8388608 q/\xS 8388608 (q*wt)
 wtl:xS 8388608 wt
 part:∀ k,k<=r.terms.length->∀ s,xS 8388608 (((Xx wt F (r.terms.take k)) s).getD 0)
 bound:∃ q,zj r.bound=some q/\xS 8388608 q/\xS 8388608 (q*wt)
 small:zB r.bound
 sum:xS 8388608 q0
def yW (w:World) (gs gm:Nat) (q:Rat):Prop:=∃ (x:Int) (A:Option Addr) (k c:Nat) (s:Bool) (y:Int) (B:Option Addr) (k' c' :Nat) (t:Bool),Blk w gs 102 #[.map (some gm),.int .i64 x,.slice A k c,.bool s,.int .i64 y,.slice B k' c',.bool t]/\zE w (.agg #[.int .i64 x,.slice A k c,.bool s,.int .i64 y,.slice B k' c',.bool t]) q
theorem yW.below {w w' :World} {gs gm:Nat} {q:Rat} (h:yW w gs gm q) (hb:Below w.heap.size w w'):yW w' gs gm q:=by
 obtain ⟨_,_,_,_,_,_,_,_,_,_,b,e⟩:=h
 exact ⟨_,_,_,_,_,_,_,_,_,_,b.below hb b.lt,e.below hb⟩
theorem yW.map {w:World} {gs gm:Nat} {q:Rat} (h:yW w gs gm q):w.cell? ⟨gs,0,none⟩=some (.map (some gm))/\gs<w.heap.size:=by
 obtain ⟨_,_,_,_,_,_,_,_,_,_,b,e⟩:=h
 have:=b.cell 0
 simp at this
 exact ⟨this,b.lt⟩
theorem zef (g:Option Nat) (x:Int) (A:Option Addr) (k c:Nat) (s:Bool) (y:Int) (B:Option Addr) (k' c' :Nat) (t:Bool):vC #[.map g,.int .i64 x,.slice A k c,.bool s,.int .i64 y,.slice B k' c',.bool t]:=by
 intro i d h
 match i with
 | 0=>simp at h
 | 1=>simp at h
 | 2=>simp at h
 | 3=>simp at h
 | 4=>simp at h
 | 5=>simp at h
 | 6=>simp at h
 | n+7=>simp at h
def World.rat1 (w:World) (g:Nat) (x:Int) (A:Option Addr) (k c:Nat) (s:Bool) (y:Int) (B:Option Addr) (k' c' :Nat) (t:Bool):World:=
 (((((w.setCell ⟨g,1,none⟩ (.int .i64 x)).setCell ⟨g,2,none⟩ (.slice A k c)).setCell ⟨g,3,none⟩ (.bool s)).setCell ⟨g,4,none⟩ (.int .i64 y)).setCell ⟨g,5,none⟩ (.slice B k' c')).setCell ⟨g,6,none⟩ (.bool t)
theorem yW.noDig {w:World} {gs gm:Nat} {q:Rat} (h:yW w gs gm q):zK w gs:=by
 obtain ⟨_,_,_,_,_,_,_,_,_,_,b,e⟩:=h
 exact b.noDig (zef _ _ _ _ _ _ _ _ _ _ _)
theorem zdw {w:World} {g:Nat} {x:Int} {A:Option Addr} {k c:Nat} {s:Bool} {y:Int} {B:Option Addr} {k' c' :Nat} {t:Bool}:Chg (· =g) w (World.rat1 w g x A k c s y B k' c' t):=by
 simp only [World.rat1]
 apply Chg.setCell (S:=fun b=>b=g) ?_ (by rfl)
 apply Chg.setCell (S:=fun b=>b=g) ?_ (by rfl)
 apply Chg.setCell (S:=fun b=>b=g) ?_ (by rfl)
 apply Chg.setCell (S:=fun b=>b=g) ?_ (by rfl)
 apply Chg.setCell (S:=fun b=>b=g) ?_ (by rfl)
 apply Chg.setCell (S:=fun b=>b=g) ?_ (by rfl)
 exact Chg.refl w
theorem yW.put {w:World} {gs gm:Nat} {q q' :Rat} {x:Int} {A:Option Addr} {k c:Nat} {s:Bool} {y:Int} {B:Option Addr} {k' c' :Nat} {t:Bool} (h:yW w gs gm q) (hv:zE w (.agg #[.int .i64 x,.slice A k c,.bool s,.int .i64 y,.slice B k' c',.bool t]) q'):yW (World.rat1 w gs x A k c s y B k' c' t) gs gm q' :=by
 have hS:∀ z,z=gs->zK w z:=fun z e=>by subst e;exact h.noDig
 have j:=(zdw (w:=w) (g:=gs) (x:=x) (A:=A) (k:=k) (c:=c) (s:=s) (y:=y) (B:=B) (k' :=k') (c' :=c') (t:=t)).rat hv hS
 obtain ⟨_,_,_,_,_,_,_,_,_,_,b,l⟩:=h
 exact ⟨_,_,_,_,_,_,_,_,_,_,(((((b.set_ 1 _).set_ 2 _).set_ 3 _).set_ 4 _).set_ 5 _).set_ 6 _,j⟩
def ScaR (w0:World) (b gs gm gw:Nat) (gv:Value) (gr:Nat) (bd:List UInt8) (wt q0:Rat) (F:List UInt8->Option Rat) (tv:Value) (l:List zm) (kv:Value) (wr:World):Prop:=
 ∃ k:Nat,k<=l.length/\kv= .int .i64 k/\Hid (Z7 wr gm (Xx wt F (l.take k)))/\Hid (yW wr gs gm q0)/\Hid (Vo wr gw wt)/\Hid (Blk wr gr 36 #[tv,str bd])/\Hid (zr wr b)/\Hid (zi wr w0.heap.size tv l)/\Hid (Chg (fun x=>x=b\/x=gm) w0 wr)
theorem zk1 (b gs gm:Nat) (A:Option Addr) (n c:Nat) (r:zF) (va:Value) (wt q0:Rat) (F:List UInt8->Option Rat) (w:World) (hB:zr w b) (hm:Z7 w gm F) (hs:yW w gs gm q0) (hbm:gm≠b) (hv:zE w va wt) (ht:zZ w (.slice A n c) r.terms) (ho:zt9 wt q0 F r):
 Calls prog 82 #[.pointer (some ⟨gs,0,none⟩),.map (some b),.agg #[.slice A n c,str r.bound],va] w fun e w' =>e= .returned (.tuple #[])/\zr w' b/\Z7 w' gm (Xx wt F r.terms)/\yW w' gs gm (q0+zgt r*wt)/\Chg (fun x=>x=b\/x=gm\/x=gs) w w' :=by
 obtain rfl:=ht.len
 have b7:r.terms.length<=100000:=by obtain ⟨_,_,_,_,_,h,_⟩:=id ht;exact h
 obtain ⟨x9,A9,k9,c9,s9,y9,B9,bm,bb,t9,rfl⟩:=hv.agg
 obtain ⟨W,hW⟩:=uQ ((w.alloc (.cells #[.slice A r.terms.length c,str r.bound] 36)).alloc (.cells #[.int .i64 x9,.slice A9 k9 c9,.bool s9,.int .i64 y9,.slice B9 bm bb,.bool t9] 62))
 have hz:=ext (zf w (.cells #[.slice A r.terms.length c,str r.bound] 36)) (zf (w.alloc (.cells #[.slice A r.terms.length c,str r.bound] 36)) (.cells #[.int .i64 x9,.slice A9 k9 c9,.bool s9,.int .i64 y9,.slice B9 bm bb,.bool t9] 62))
 have bz:=(Blk.new w 36 #[.slice A r.terms.length c,str r.bound]).alloc (.cells #[.int .i64 x9,.slice A9 k9 c9,.bool s9,.int .i64 y9,.slice B9 bm bb,.bool t9] 62)
 have bl:=Blk.new (w.alloc (.cells #[.slice A r.terms.length c,str r.bound] 36)) 62 #[.int .i64 x9,.slice A9 k9 c9,.bool s9,.int .i64 y9,.slice B9 bm bb,.bool t9]
 simp only [World.size_alloc] at bl
 rw [<- hW] at hz bz bl
 have J:=ze bz
 have G:Hid (Vo W (w.heap.size+1) wt):=⟨_,_,_,_,_,_,_,_,_,_,bl,hv.below hz⟩
 have l:=ze (hB.below hz)
 have j:=ze (hm.below hz)
 have M:=ze (zi.below ht hz)
 have E:Hid (yW W gs gm q0):=by
  obtain ⟨_,_,_,_,_,_,_,_,_,_,N,R⟩:=hs
  exact ⟨_,_,_,_,_,_,_,_,_,_,N.below hz N.lt,R.below hz⟩
 have I:Hid (Chg (fun x=>x=b\/x=gm) w W):=Chg.of_below hz
 have HO:=ze ho
 have bk:=ze hbm
 clear hB hm hs hbm hv ht ho hz bz bl
 go_in
 go_upto_region 1 with fail
 rw [<- hW]
 clear hW;have r0:=(bq1 J).1
 go_wp2
 go_loopw [19] (ScaR w b gs gm (w.heap.size+1) (.slice A r.terms.length c) w.heap.size r.bound wt q0 F (.slice A r.terms.length c) r.terms) (fun kv _=>r.terms.length - (intOf kv).toNat)
 case atStart=>exact ⟨0,uB,rfl,j,E,G,J,l,M,I⟩
 case round=>
  clear j E G J l M I r0
  obtain ⟨k,hk,rfl,j,E,G,J,l,M,I⟩:=hrel
  by_cases bF:k<r.terms.length
  rotate_left
  . obtain rfl:r.terms.length=k:=by omega
    rw [List.take_length] at j;obtain ⟨q,hq,aZ,aX⟩:=HO.o.bound;have b1:Hid (zgt r=q):=ze (by unfold zgt;rw [hq];rfl);obtain ⟨HQ,be,bn⟩:=hz3 hq aZ aX;have bd:=ze HO.o.wtl;have bY:=ze HO.o.small;have b6:=ze HO.o.sum;clear hq aZ aX M;have r1:=J.o.cell 1;simp at r1;have aM:=xK b ⟨r.bound.toArray⟩ wr l.o (by rw [<- zq,xf];exact bY.o);rw [xf] at aM;have aV:=ze aM;clear aM;go_wp2_with fail;refine aV.o.mono ?_;rintro e w2 ⟨v,ok,rfl,⟨x2,A2,k2,c2,s2,y2,B2,aj,ai,t2,rfl⟩,bu,aY,aQ,ba⟩;have V:=zf w2 (.cells #[.int .i64 x2,.slice A2 k2 c2,.bool s2,.int .i64 y2,.slice B2 aj ai,.bool t2] 62);have af:Chg (· =b) wr (w2.alloc (.cells #[.int .i64 x2,.slice A2 k2 c2,.bool s2,.int .i64 y2,.slice B2 aj ai,.bool t2] 62)):=zC ba V;replace j:=ze (j.o.book l.o af bk.o)
    replace E:Hid (yW (w2.alloc (.cells #[.int .i64 x2,.slice A2 k2 c2,.bool s2,.int .i64 y2,.slice B2 aj ai,.bool t2] 62)) gs gm q0):=by
     obtain ⟨_,_,_,_,_,_,_,_,_,_,N,R⟩:=E.o;exact ⟨_,_,_,_,_,_,_,_,_,_,l.o.keepBlk af N,l.o.keepR af R⟩
    replace G:=ze (l.o.keepRB af G.o);replace I:=ze (I.o.trans (S:=fun x=>x=b\/x=gm) (T:=fun x=>x=b) af (fun x _ h=>.inl h));replace l:=ze (aQ.below V);have m:=ze (Blk.new w2 62 #[.int .i64 x2,.slice A2 k2 c2,.bool s2,.int .i64 y2,.slice B2 aj ai,.bool t2]);have ag:=ze ((aY q HQ.o).below V);clear aQ ba V af aY bu aV r1 J
    go_upto_region 11 with fail
    generalize w2.alloc (.cells #[.int .i64 x2,.slice A2 k2 c2,.bool s2,.int .i64 y2,.slice B2 aj ai,.bool t2] 62)=Q at m ag l j E G I |-;generalize w2.heap.size=gx at m |-;obtain ⟨X,A4,k4,c4,Z,y4,Y,ab,aa,t4,ao,bc⟩:=E.o;obtain ⟨xw,Aw,kw,cw,sw,yw,Bw,a9,aR,tw,L,aD⟩:=G.o;have a7:=ze aD;have ah:=ze bc;have o1:=ao.cell 1;have o2:=ao.cell 2;have o3:=ao.cell 3;have o4:=ao.cell 4;have o5:=ao.cell 5;have o6:=ao.cell 6;have oL:=ao.lt;have aC :=m.o.cell 0;have az :=m.o.cell 1;have aH :=m.o.cell 2;have au :=m.o.cell 3;have aA :=m.o.cell 4;have aJ :=m.o.cell 5;have qL:=m.o.lt;have aB :=L.cell 0;have ax :=L.cell 1;have aF :=L.cell 2;have ar :=L.cell 3;have aG :=L.cell 4;have ay :=L.cell 5;have wL:=L.lt;simp at o1 o2 o3 o4 o5 o6 aC az aH au aA aJ aB ax aF ar aG ay;have ac:=ze ao;clear ao L aD bc
    have ak:∀ w',Hid (Below Q.heap.size Q w')->w'.cell? ⟨gs,1,none⟩=some (.int .i64 X)/\w'.cell? ⟨gs,2,none⟩=some (.slice A4 k4 c4)/\w'.cell? ⟨gs,3,none⟩=some (.bool Z)/\w'.cell? ⟨gs,4,none⟩=some (.int .i64 y4)/\w'.cell? ⟨gs,5,none⟩=some (.slice Y ab aa)/\w'.cell? ⟨gs,6,none⟩=some (.bool t4)/\w'.cell? ⟨gx,0,none⟩=some (.int .i64 x2)/\w'.cell? ⟨gx,1,none⟩=some (.slice A2 k2 c2)/\w'.cell? ⟨gx,2,none⟩=some (.bool s2)/\w'.cell? ⟨gx,3,none⟩=some (.int .i64 y2)/\w'.cell? ⟨gx,4,none⟩=some (.slice B2 aj ai)/\w'.cell? ⟨gx,5,none⟩=some (.bool t2)/\w'.cell? ⟨w.heap.size+1,0,none⟩=some (.int .i64 xw)/\w'.cell? ⟨w.heap.size+1,1,none⟩=some (.slice Aw kw cw)/\w'.cell? ⟨w.heap.size+1,2,none⟩=some (.bool sw)/\w'.cell? ⟨w.heap.size+1,3,none⟩=some (.int .i64 yw)/\w'.cell? ⟨w.heap.size+1,4,none⟩=some (.slice Bw a9 aR)/\w'.cell? ⟨w.heap.size+1,5,none⟩=some (.bool tw):=fun w' hB=>⟨zk hB oL o1,zk hB oL o2,zk hB oL o3,zk hB oL o4,zk hB oL o5,zk hB oL o6,zk hB qL aC,zk hB qL az,zk hB qL aH,zk hB qL au,zk hB qL aA,zk hB qL aJ,zk hB wL aB,zk hB wL ax,zk hB wL aF,zk hB wL ar,zk hB wL aG,zk hB wL ay⟩
    refine XJ ak 11 (zw Q) fun C=>?_;refine tK 0 ?_;refine tK 1 ?_;refine tK 2 ?_;refine tK 3 ?_;refine tK 4 ?_;refine tK 5 ?_;refine tK 6 ?_;refine rK 7 fun K hK=>?_
    go_simp
    go_at_call 57;refine (YN _ _ q wt _ (ag.o.below C.1.out) (a7.o.below C.1.out) be.o bd.o).mono ?_;rintro e w6 ⟨v6,rfl,aw,aE⟩;have av:=ze aw;refine hK.out _ _ (zl (zo aE C.1) (ak _)) ?_;clear hK K C;intro C
    try simp only [Act.put,xST]
    clear aE aw;refine rK 8 fun K hK=>?_
    go_simp
    go_at_call 34;refine (vT _ _ q0 (q*wt) _ (ah.o.below C.1.out) av.o b6.o bn.o).mono ?_;rintro e w7 ⟨v7,rfl,aq,aI⟩;obtain ⟨x7,A7,k7,c7,s7,y7,B7,b4,b5,t7,rfl⟩:=aq.agg;have aU:=ze aq;refine hK.out _ _ (zl (zo aI C.1) (ak _)) ?_;clear hK K C;intro C
    try simp only [Act.put,xST]
    clear aI aq av;refine tK 9 ?_;refine tK 10 ?_;have O:=(C.1).out
    try clear z0 z1 z2 z3 z4 z5 z6 zL
    replace j:=ze (j.o.below O);replace l:=ze (l.o.below O);replace E:=ze (yW.below E.o O);replace I:=ze (zC I.o O);replace ac:=kb_ ac O;clear O C ak;refine hdn ?_;simp only [xDR];obtain ⟨z0,z1,z2,z3,z4,z5,z6,zL⟩:=bkc7 ac.o;clear z0 z1 z2 z3 z4 z5 z6 zL;have a1:=ac.o.cell 1;have a2:=ac.o.cell 2;have a3:=ac.o.cell 3;have a4:=ac.o.cell 4;have a5:=ac.o.cell 5;have a6:=ac.o.cell 6;have f1:=ac.o.frozen 1;have f2:=ac.o.frozen 2;have f3:=ac.o.frozen 3;have f4:=ac.o.frozen 4;have f5:=ac.o.frozen 5;have f6:=ac.o.frozen 6;simp at a1 a2 a3 a4 a5 a6;go_wp2
    go_end0
    have bA:Chg (· =gs) w7 (World.rat1 w7 gs x7 A7 k7 c7 s7 y7 B7 b4 b5 t7):=zdw;have bH:∀ z,z=gs->zK w7 z:=fun z e=>by subst e;exact E.o.noDig
    refine ⟨rfl,l.o.chg bA (l.o.neB ac.o) bH,j.o.chg bA (j.o.ne ac.o) bH,by rw [b1.o];exact E.o.put aU.o,(I.o.mono (T:=fun x=>x=b\/x=gm\/x=gs) (fun x _ h=>h.elim .inl (fun h=>.inr (.inl h)))).trans (T:=fun x=>x=gs) bA (fun x _ h=>.inr (.inr h))⟩
  have b8:(k:Int)<(r.terms.length:Int):=by omega
  obtain ⟨ad,eA,bZ,p0,p1,b3,bI⟩:=M.o.at_ bF;subst eA;obtain ⟨q,hq,aZ,aX⟩:=HO.o.coef r.terms[k] (uO bF)
  have bN:Xx wt F (r.terms.take (k+1))=zrn (Xx wt F (r.terms.take k)) r.terms[k].name (((Xx wt F (r.terms.take k)) r.terms[k].name).getD 0+q*wt):=by
   rw [zmo bF];unfold zqy ZY;rw [hq];rfl
  have bP:=HO.o.part k hk r.terms[k].name;obtain ⟨br,bB,HQ,be,bn⟩:=hz5 bN bP hq aZ aX;have bd:=ze HO.o.wtl;have bK:=ze bI;generalize b0:r.terms[k]=t at p0 p1 br bB HQ bK;have V:=zf wr (.cells #[str t.name,str t.coef] 38);have U:=ze (Blk.new wr 38 #[str t.name,str t.coef])
  have bO (w' :World) (hb:Below wr.heap.size wr w'):yW w' gs gm q0:=by
   obtain ⟨_,_,_,_,_,_,_,_,_,_,N,R⟩:=E.o;exact ⟨_,_,_,_,_,_,_,_,_,_,N.below hb N.lt,R.below hb⟩
  replace j:=ze (j.o.below V);replace E:=ze (bO _ V);replace G:=ze (G.o.below V);replace J:=kb_ J V;replace l:=ze (l.o.below V);replace M:=ze (zi.below M.o V);replace I:=ze (I.o.trans (Chg.of_below (S:=fun x=>x=b\/x=gm) V) (fun _ _ h=>h));clear bN bP hq aZ aX b3 bI b0 V bO
  go_upto_region 4 with fail
  clear p0 p1 bZ;generalize wr.alloc (.cells #[str t.name,str t.coef] 38)=W2 at U j E G J l M I |-;generalize wr.heap.size=gt at U |-;have t1:=U.o.cell 1;simp at t1;have aM:=xK b ⟨t.coef.toArray⟩ W2 l.o (by rw [<- zq,xf];exact bK.o);rw [xf] at aM;have aV:=ze aM;clear aM;go_wp2_with fail;refine aV.o.mono ?_;rintro e w2 ⟨v,ok,rfl,⟨x2,A2,k2,c2,s2,y2,B2,aj,ai,t2,rfl⟩,bu,aY,aQ,ba⟩;have V:=zf w2 (.cells #[.int .i64 x2,.slice A2 k2 c2,.bool s2,.int .i64 y2,.slice B2 aj ai,.bool t2] 62);have af:Chg (· =b) W2 (w2.alloc (.cells #[.int .i64 x2,.slice A2 k2 c2,.bool s2,.int .i64 y2,.slice B2 aj ai,.bool t2] 62)):=zC ba V;replace j:=ze (j.o.book l.o af bk.o)
  replace E:Hid (yW (w2.alloc (.cells #[.int .i64 x2,.slice A2 k2 c2,.bool s2,.int .i64 y2,.slice B2 aj ai,.bool t2] 62)) gs gm q0):=by
   obtain ⟨_,_,_,_,_,_,_,_,_,_,N,R⟩:=E.o;exact ⟨_,_,_,_,_,_,_,_,_,_,l.o.keepBlk af N,l.o.keepR af R⟩
  replace M:=ze (l.o.keepT af M.o);replace U:=ze (l.o.keepBlk af U.o);replace J:=ze (l.o.keepBlk af J.o);replace G:=ze (l.o.keepRB af G.o);replace I:=ze (I.o.trans (S:=fun x=>x=b\/x=gm) (T:=fun x=>x=b) af (fun x _ h=>.inl h));replace l:=ze (aQ.below V);have m:=ze (Blk.new w2 62 #[.int .i64 x2,.slice A2 k2 c2,.bool s2,.int .i64 y2,.slice B2 aj ai,.bool t2]);have ag:=ze ((aY q HQ.o).below V);clear aQ ba V af aY bu aV t1
  go_upto_region 5 with fail
  generalize w2.alloc (.cells #[.int .i64 x2,.slice A2 k2 c2,.bool s2,.int .i64 y2,.slice B2 aj ai,.bool t2] 62)=Q at m ag l M j E U J G I |-;generalize w2.heap.size=gx at m |-;obtain ⟨x3,A3,k3,c3,s3,y3,B3,ca,b9,t3,bj,bc⟩:=E.o;have g0:=(bp1 bj).1;have n0:=(bq1 U).1;obtain ⟨D,aL,_,bS⟩:=id j.o;have bh:=bS t.name;have aO (w' :World) (h:Zq w' gm D):=Zy (w:=w') ZW Xn (zai _) h t.name true;simp only [if_true] at aO;obtain ⟨vo,ap⟩:=uQ ((Vp t.name D).getD (.agg #[.int .i64 0,.slice none 0 0,.bool false,.int .i64 0,.slice none 0 0,.bool false]));obtain ⟨bo,bw⟩:=uQ ((Vp t.name D).isSome)
  have ah:Hid ((bo=false/\(Xx wt F (r.terms.take k)) t.name=none/\vo=(.agg #[.int .i64 0,.slice none 0 0,.bool false,.int .i64 0,.slice none 0 0,.bool false]))\/(bo=true/\∃ q,(Xx wt F (r.terms.take k)) t.name=some q/\zE Q vo q)):=by
   rw [ap,bw]
   split at bh
   . rename_i e;rw [e];exact .inl ⟨rfl,bh,rfl⟩
   rename_i v e;rw [e];exact .inr ⟨rfl,bh⟩
  rw [<- ap, <- bw] at aO
  obtain ⟨X,A4,k4,c4,Z,y4,Y,ab,aa,t4,ev⟩:∃ (x:Int) (A:Option Addr) (k c:Nat) (s:Bool) (y:Int) (B:Option Addr) (k' c' :Nat) (t:Bool),vo= .agg #[.int .i64 x,.slice A k c,.bool s,.int .i64 y,.slice B k' c',.bool t]:=by
   rcases ah.o with ⟨_,_,e⟩ | ⟨_,q,_,h⟩
   . exact ⟨_,_,_,_,_,_,_,_,_,_,e⟩
   . exact h.agg
  rw [ev] at aO ah;have bV:=(zw Q).out;have aT:=zf Q (.cells #[.int .i64 0,.slice none 0 0,.bool false,.int .i64 0,.slice none 0 0,.bool false] 62);have l1:=aO Q.drew (aL.below bV aL.lt);have l2:=aO (Q.alloc (.cells #[.int .i64 0,.slice none 0 0,.bool false,.int .i64 0,.slice none 0 0,.bool false] 62)).drew ((aL.below aT aL.lt).below (zw _).out (aL.below aT aL.lt).lt);have g1:=(bj.below aT bj.lt).cell 0;have n1:=(U.o.below aT U.o.lt).cell 0;simp at g1 n1;clear bh aO ap bw bS bV aT aL ev;have bX:Hid (w.heap.size<=Q.heap.size):=I.o.size;have bQ:Hid (gx<Q.heap.size):=m.o.lt;have bT:Hid (w.heap.size+1<Q.heap.size):=G.o.lt;go_wp2_with fail
  go_region
  all_goals
   have am:=ext (zf Q (.cells #[.int .i64 X,.slice A4 k4 c4,.bool Z,.int .i64 y4,.slice Y ab aa,.bool t4] 62)) (zw (Q.alloc (.cells #[.int .i64 X,.slice A4 k4 c4,.bool Z,.int .i64 y4,.slice Y ab aa,.bool t4] 62))).out;have u:Hid (Blk (Q.alloc (.cells #[.int .i64 X,.slice A4 k4 c4,.bool Z,.int .i64 y4,.slice Y ab aa,.bool t4] 62)).drew Q.heap.size 62 #[.int .i64 X,.slice A4 k4 c4,.bool Z,.int .i64 y4,.slice Y ab aa,.bool t4]):=Blk.new Q 62 #[.int .i64 X,.slice A4 k4 c4,.bool Z,.int .i64 y4,.slice Y ab aa,.bool t4];replace E:=ze (E.o.below am);replace j:=ze (j.o.below am);replace l:=ze (l.o.below am);replace M:=ze (zi.below M.o am);replace U:=kb_ U am;replace J:=kb_ J am;replace m:=kb_ m am;replace G:=ze (G.o.below am);replace ag:=ze (ag.o.below am);replace I:=ze (zC I.o am)
   have bg:Hid ((bo=false/\(Xx wt F (r.terms.take k)) t.name=none)\/(bo=true/\∃ q,(Xx wt F (r.terms.take k)) t.name=some q/\zE (Q.alloc (.cells #[.int .i64 X,.slice A4 k4 c4,.bool Z,.int .i64 y4,.slice Y ab aa,.bool t4] 62)).drew (.agg #[.int .i64 X,.slice A4 k4 c4,.bool Z,.int .i64 y4,.slice Y ab aa,.bool t4]) q)):=by
    rcases ah.o with ⟨N,R,_⟩ | ⟨N,q,R,h3⟩
    . exact .inl ⟨N,R⟩
    . exact .inr ⟨N,q,R,h3.below am⟩
   clear am ah bj bc g0 n0 l1 l2 g1 n1;generalize (Q.alloc (.cells #[.int .i64 X,.slice A4 k4 c4,.bool Z,.int .i64 y4,.slice Y ab aa,.bool t4] 62)).drew=W4 at u E j l M U J m G ag I bg |-;have bv:Hid (w.heap.size<=Q.heap.size):=bX;have bR:Hid (gx<Q.heap.size):=bQ;have bL:Hid (w.heap.size+1<Q.heap.size):=bT;clear bX bQ bT;generalize Q.heap.size=gO at u bv bR bL |-
   rcases bg.o with ⟨rfl,hn⟩ | ⟨rfl,fo,hn,ap⟩
   . have aK:Hid (((Xx wt F (r.terms.take k)) t.name).getD 0=0):=ze (by rw [hn];rfl)
     clear hn bg;have aS:Hid (xS 8388608 0):=by rw [<- aK.o];exact bB.o
     go_wp2_with fail;refine (Ze 0 _ (by omega) (by omega)).mono ?_;rintro e w5 ⟨v,rfl,hv,an⟩;obtain ⟨X,A4,k4,c4,Z,y4,Y,ab,aa,t4,rfl⟩:=hv.agg;have bU:=ze hv;replace E:=ze (E.o.below an);replace j:=ze (j.o.below an);replace l:=ze (l.o.below an);replace M:=ze (zi.below M.o an);replace U:=kb_ U an;replace J:=kb_ J an;replace m:=kb_ m an;replace u:=kb_ u an;replace G:=ze (G.o.below an);replace ag:=ze (ag.o.below an);replace I:=ze (zC I.o an);clear an hv;have a0:=u.o.cell 0;have a1:=u.o.cell 1;have a2:=u.o.cell 2;have a3:=u.o.cell 3;have a4:=u.o.cell 4;have a5:=u.o.cell 5;obtain ⟨f0,f1,f2,f3,f4,f5⟩:=fq6 u;simp at a0 a1 a2 a3 a4 a5;go_wp2_with fail;clear a0 a1 a2 a3 a4 a5 f0 f1 f2 f3 f4 f5;have aP:∀ z,z=gO->zK w5 z:=fun z hz=>by subst hz;exact u.o.noDig (Ym _ _ _ _ _ _ _ _ _ _)
     have al:=Chg.ratSet (w:=w5) (g:=gO) (x:=X) (A:=A4) (k:=k4) (c:=c4) (s:=Z) (y:=y4) (B:=Y) (k' :=ab) (c' :=aa) (t:=t4);have bW:=yf (x:=X) (A:=A4) (k:=k4) (c:=c4) (s:=Z) (y:=y4) (B:=Y) (k' :=ab) (c' :=aa) (t:=t4) u.o;have ap:=zE.stored (x:=X) (A:=A4) (k:=k4) (c:=c4) (s:=Z) (y:=y4) (B:=Y) (k' :=ab) (c' :=aa) (t:=t4) bU.o u.o
     have bJ:yW (World.rat w5 gO X A4 k4 c4 Z y4 Y ab aa t4) gs gm q0:=by
      obtain ⟨_,_,_,_,_,_,_,_,_,_,N,R⟩:=E.o;exact ⟨_,_,_,_,_,_,_,_,_,_,al.blk N (fun e=>yZ N u.o (by decide) e),al.rat R aP⟩
     have bM:Vo (World.rat w5 gO X A4 k4 c4 Z y4 Y ab aa t4) (w.heap.size+1) wt:=by
      obtain ⟨_,_,_,_,_,_,_,_,_,_,N,R⟩:=G.o;exact ⟨_,_,_,_,_,_,_,_,_,_,al.blk N (fun e=>by have:=bL.o;omega),al.rat R aP⟩
     replace j:=ze (j.o.chg al (j.o.ne u.o) aP);replace l:=ze (l.o.chg al (l.o.neB u.o) aP);replace M:=ze (M.o.chg al (fun x V e=>absurd V (by have:=bv.o;omega)));replace U:=ze (al.blk U.o (fun e=>yZ U.o u.o (by decide) e));replace J:=ze (al.blk J.o (fun e=>yZ J.o u.o (by decide) e));replace m:=ze (al.blk m.o (fun e=>by have:=bR.o;omega));replace ag:=ze (al.rat ag.o aP);replace I:Hid (Chg (fun x=>x=b\/x=gm) w (World.rat w5 gO X A4 k4 c4 Z y4 Y ab aa t4)):=ze (I.o.trans (S:=fun x=>x=b\/x=gm) (T:=fun x=>x=gO) al (fun x V e=>absurd V (by have:=bv.o;omega)));obtain ⟨E,G,u,ah⟩:=hz4 bJ bM bW ap;clear al bW ap bJ bM aP bU;obtain ⟨fo,bf⟩:∃ fo:Rat,fo=0:=⟨_,rfl⟩;have aK:Hid (((Xx wt F (r.terms.take k)) t.name).getD 0=fo):=by rw [bf];exact aK
     have aS:Hid (xS 8388608 fo):=by rw [bf];exact aS
     have ah:Hid (zE (World.rat w5 gO X A4 k4 c4 Z y4 Y ab aa t4) (.agg #[.int .i64 X,.slice A4 k4 c4,.bool Z,.int .i64 y4,.slice Y ab aa,.bool t4]) fo):=by rw [bf];exact ah
     clear bf;obtain ⟨W5,bi⟩:=uQ (World.rat w5 gO X A4 k4 c4 Z y4 Y ab aa t4);rw [<- bi] at j l M U J m ag I E G u ah;simp only [World.rat] at bi;rw [<- bi];clear bi;obtain ⟨xw,Aw,kw,cw,sw,yw,Bw,a9,aR,tw,L,aD⟩:=G.o;have a7:=ze aD;have aN:=E.o.map;have g0:=aN.1;have sL:=aN.2;have n0:=U.o.cell 0;have nL:=U.o.lt;have o0:=u.o.cell 0;have o1:=u.o.cell 1;have o2:=u.o.cell 2;have o3:=u.o.cell 3;have o4:=u.o.cell 4;have o5:=u.o.cell 5;have oL:=u.o.lt;have aC :=m.o.cell 0;have az :=m.o.cell 1;have aH :=m.o.cell 2;have au :=m.o.cell 3;have aA :=m.o.cell 4;have aJ :=m.o.cell 5;have qL:=m.o.lt;have aB :=L.cell 0;have ax :=L.cell 1;have aF :=L.cell 2;have ar :=L.cell 3;have aG :=L.cell 4;have ay :=L.cell 5;have wL:=L.lt;simp at n0 o0 o1 o2 o3 o4 o5 aC az aH au aA aJ aB ax aF ar aG ay;clear aN L aD
     have ak:∀ w',Hid (Below W5.heap.size W5 w')->w'.cell? ⟨gs,0,none⟩=some (.map (some gm))/\w'.cell? ⟨gt,0,none⟩=some (str t.name)/\w'.cell? ⟨gO,0,none⟩=some (.int .i64 X)/\w'.cell? ⟨gO,1,none⟩=some (.slice A4 k4 c4)/\w'.cell? ⟨gO,2,none⟩=some (.bool Z)/\w'.cell? ⟨gO,3,none⟩=some (.int .i64 y4)/\w'.cell? ⟨gO,4,none⟩=some (.slice Y ab aa)/\w'.cell? ⟨gO,5,none⟩=some (.bool t4)/\w'.cell? ⟨gx,0,none⟩=some (.int .i64 x2)/\w'.cell? ⟨gx,1,none⟩=some (.slice A2 k2 c2)/\w'.cell? ⟨gx,2,none⟩=some (.bool s2)/\w'.cell? ⟨gx,3,none⟩=some (.int .i64 y2)/\w'.cell? ⟨gx,4,none⟩=some (.slice B2 aj ai)/\w'.cell? ⟨gx,5,none⟩=some (.bool t2)/\w'.cell? ⟨w.heap.size+1,0,none⟩=some (.int .i64 xw)/\w'.cell? ⟨w.heap.size+1,1,none⟩=some (.slice Aw kw cw)/\w'.cell? ⟨w.heap.size+1,2,none⟩=some (.bool sw)/\w'.cell? ⟨w.heap.size+1,3,none⟩=some (.int .i64 yw)/\w'.cell? ⟨w.heap.size+1,4,none⟩=some (.slice Bw a9 aR)/\w'.cell? ⟨w.heap.size+1,5,none⟩=some (.bool tw):=fun w' hB=>⟨zk hB sL g0,zk hB nL n0,zk hB oL o0,zk hB oL o1,zk hB oL o2,zk hB oL o3,zk hB oL o4,zk hB oL o5,zk hB qL aC,zk hB qL az,zk hB qL aH,zk hB qL au,zk hB qL aA,zk hB qL aJ,zk hB wL aB,zk hB wL ax,zk hB wL aF,zk hB wL ar,zk hB wL aG,zk hB wL ay⟩
     refine XJ ak 11 (zw W5) fun C=>?_;refine tK 0 ?_;refine tK 1 ?_;refine tK 2 ?_;refine tK 3 ?_;refine tK 4 ?_;refine tK 5 ?_;refine tK 6 ?_;refine tK 7 ?_;refine tK 8 ?_;refine rK 9 fun K hK=>?_
     go_simp
     go_at_call 57;refine (YN _ _ q wt _ (ag.o.below C.1.out) (a7.o.below C.1.out) be.o bd.o).mono ?_;rintro e w6 ⟨v6,rfl,aw,aE⟩;have av:=ze aw;refine hK.out _ _ (zl (zo aE C.1) (ak _)) ?_;clear hK K C;intro C
     try simp only [Act.put,xST]
     clear aE aw;refine rK 10 fun K hK=>?_
     go_simp
     go_at_call 34;refine (vT _ _ fo (q*wt) _ (ah.o.below C.1.out) av.o aS.o bn.o).mono ?_;rintro e w7 ⟨v7,rfl,aq,aI⟩;have aU:=ze aq;refine hK.out _ _ (zl (zo aI C.1) (ak _)) ?_;clear hK K C;intro C
     try simp only [Act.put,xST]
     clear aI aq av;have O:=(C.1).out
     try clear z0 z1 zL
     replace j:=ze (j.o.below O);replace l:=ze (l.o.below O);replace G:=ze (G.o.below O);replace E:=ze (yW.below E.o O);replace M:=ze (zi.below M.o O);replace J:=kb_ J O;replace I:=ze (zC I.o O);clear O C ak;refine hdn ?_;simp only [xDR];obtain ⟨z0,z1,zL⟩:=ztz J.o;obtain ⟨w8,hu,a8,aW⟩:=Z7.put (s:=t.name) ZW Xn j.o aU.o;have bE:=ze a8;have ae:=ze aW;clear a8 aW;go_wp2_with fail;have bx:=j.o.keepB ae.o l.o (fun e=>bk.o e.symm)
     have bG:yW w8 gs gm q0:=by
      obtain ⟨_,_,_,_,_,_,_,_,_,_,N,R⟩:=E.o;exact ⟨_,_,_,_,_,_,_,_,_,_,j.o.keepBlk ae.o N,j.o.keepR ae.o R⟩
     have bC:Vo w8 (w.heap.size+1) wt:=by
      obtain ⟨_,_,_,_,_,_,_,_,_,_,N,R⟩:=G.o;exact ⟨_,_,_,_,_,_,_,_,_,_,j.o.keepBlk ae.o N,j.o.keepR ae.o R⟩
     have bs:=j.o.keepBlk ae.o J.o;have bq:=j.o.keepT ae.o M.o;have bp:Chg (fun x=>x=b\/x=gm) w w8:=I.o.trans (S:=fun x=>x=b\/x=gm) (T:=fun x=>x=gm) ae.o (fun x _ h=>.inr h);have bD:Z7 w8 gm (Xx wt F (r.terms.take (k+1))):=by rw [br.o,aK.o];exact bE.o
     have b2:IntKind.i64.wrap ((k:Int)+1)=((k+1:Nat):Int):=by rw [IntKind.wrap_i64];omega
     go_roundw
     case rel=>exact ⟨k+1,by omega,by go_num,bD,bG,bC,bs,bx,bq,bp⟩
     case measure=>simp [intOf];omega
   . have aK:Hid (((Xx wt F (r.terms.take k)) t.name).getD 0=fo):=ze (by rw [hn];rfl)
     have ah:=ze ap;have aS:Hid (xS 8388608 fo):=by rw [<- aK.o];exact bB.o
     clear hn ap bg;generalize W4=W5 at u E j l M U J m G ag I ah |-;go_wp2_with fail;obtain ⟨xw,Aw,kw,cw,sw,yw,Bw,a9,aR,tw,L,aD⟩:=G.o;have a7:=ze aD;have aN:=E.o.map;have g0:=aN.1;have sL:=aN.2;have n0:=U.o.cell 0;have nL:=U.o.lt;have o0:=u.o.cell 0;have o1:=u.o.cell 1;have o2:=u.o.cell 2;have o3:=u.o.cell 3;have o4:=u.o.cell 4;have o5:=u.o.cell 5;have oL:=u.o.lt;have aC :=m.o.cell 0;have az :=m.o.cell 1;have aH :=m.o.cell 2;have au :=m.o.cell 3;have aA :=m.o.cell 4;have aJ :=m.o.cell 5;have qL:=m.o.lt;have aB :=L.cell 0;have ax :=L.cell 1;have aF :=L.cell 2;have ar :=L.cell 3;have aG :=L.cell 4;have ay :=L.cell 5;have wL:=L.lt;simp at n0 o0 o1 o2 o3 o4 o5 aC az aH au aA aJ aB ax aF ar aG ay;clear aN L aD
     have ak:∀ w',Hid (Below W5.heap.size W5 w')->w'.cell? ⟨gs,0,none⟩=some (.map (some gm))/\w'.cell? ⟨gt,0,none⟩=some (str t.name)/\w'.cell? ⟨gO,0,none⟩=some (.int .i64 X)/\w'.cell? ⟨gO,1,none⟩=some (.slice A4 k4 c4)/\w'.cell? ⟨gO,2,none⟩=some (.bool Z)/\w'.cell? ⟨gO,3,none⟩=some (.int .i64 y4)/\w'.cell? ⟨gO,4,none⟩=some (.slice Y ab aa)/\w'.cell? ⟨gO,5,none⟩=some (.bool t4)/\w'.cell? ⟨gx,0,none⟩=some (.int .i64 x2)/\w'.cell? ⟨gx,1,none⟩=some (.slice A2 k2 c2)/\w'.cell? ⟨gx,2,none⟩=some (.bool s2)/\w'.cell? ⟨gx,3,none⟩=some (.int .i64 y2)/\w'.cell? ⟨gx,4,none⟩=some (.slice B2 aj ai)/\w'.cell? ⟨gx,5,none⟩=some (.bool t2)/\w'.cell? ⟨w.heap.size+1,0,none⟩=some (.int .i64 xw)/\w'.cell? ⟨w.heap.size+1,1,none⟩=some (.slice Aw kw cw)/\w'.cell? ⟨w.heap.size+1,2,none⟩=some (.bool sw)/\w'.cell? ⟨w.heap.size+1,3,none⟩=some (.int .i64 yw)/\w'.cell? ⟨w.heap.size+1,4,none⟩=some (.slice Bw a9 aR)/\w'.cell? ⟨w.heap.size+1,5,none⟩=some (.bool tw):=fun w' hB=>⟨zk hB sL g0,zk hB nL n0,zk hB oL o0,zk hB oL o1,zk hB oL o2,zk hB oL o3,zk hB oL o4,zk hB oL o5,zk hB qL aC,zk hB qL az,zk hB qL aH,zk hB qL au,zk hB qL aA,zk hB qL aJ,zk hB wL aB,zk hB wL ax,zk hB wL aF,zk hB wL ar,zk hB wL aG,zk hB wL ay⟩
     refine XJ ak 11 (zw W5) fun C=>?_;refine tK 0 ?_;refine tK 1 ?_;refine tK 2 ?_;refine tK 3 ?_;refine tK 4 ?_;refine tK 5 ?_;refine tK 6 ?_;refine tK 7 ?_;refine tK 8 ?_;refine rK 9 fun K hK=>?_
     go_simp
     go_at_call 57;refine (YN _ _ q wt _ (ag.o.below C.1.out) (a7.o.below C.1.out) be.o bd.o).mono ?_;rintro e w6 ⟨v6,rfl,aw,aE⟩;have av:=ze aw;refine hK.out _ _ (zl (zo aE C.1) (ak _)) ?_;clear hK K C;intro C
     try simp only [Act.put,xST]
     clear aE aw;refine rK 10 fun K hK=>?_
     go_simp
     go_at_call 34;refine (vT _ _ fo (q*wt) _ (ah.o.below C.1.out) av.o aS.o bn.o).mono ?_;rintro e w7 ⟨v7,rfl,aq,aI⟩;have aU:=ze aq;refine hK.out _ _ (zl (zo aI C.1) (ak _)) ?_;clear hK K C;intro C
     try simp only [Act.put,xST]
     clear aI aq av;have O:=(C.1).out
     try clear z0 z1 zL
     replace j:=ze (j.o.below O);replace l:=ze (l.o.below O);replace G:=ze (G.o.below O);replace E:=ze (yW.below E.o O);replace M:=ze (zi.below M.o O);replace J:=kb_ J O;replace I:=ze (zC I.o O);clear O C ak;refine hdn ?_;simp only [xDR];obtain ⟨z0,z1,zL⟩:=ztz J.o;obtain ⟨w8,hu,a8,aW⟩:=Z7.put (s:=t.name) ZW Xn j.o aU.o;have bE:=ze a8;have ae:=ze aW;clear a8 aW;go_wp2_with fail;have bx:=j.o.keepB ae.o l.o (fun e=>bk.o e.symm)
     have bG:yW w8 gs gm q0:=by
      obtain ⟨_,_,_,_,_,_,_,_,_,_,N,R⟩:=E.o;exact ⟨_,_,_,_,_,_,_,_,_,_,j.o.keepBlk ae.o N,j.o.keepR ae.o R⟩
     have bC:Vo w8 (w.heap.size+1) wt:=by
      obtain ⟨_,_,_,_,_,_,_,_,_,_,N,R⟩:=G.o;exact ⟨_,_,_,_,_,_,_,_,_,_,j.o.keepBlk ae.o N,j.o.keepR ae.o R⟩
     have bs:=j.o.keepBlk ae.o J.o;have bq:=j.o.keepT ae.o M.o;have bp:Chg (fun x=>x=b\/x=gm) w w8:=I.o.trans (S:=fun x=>x=b\/x=gm) (T:=fun x=>x=gm) ae.o (fun x _ h=>.inr h);have bD:Z7 w8 gm (Xx wt F (r.terms.take (k+1))):=by rw [br.o,aK.o];exact bE.o
     have b2:IntKind.i64.wrap ((k:Int)+1)=((k+1:Nat):Int):=by rw [IntKind.wrap_i64];omega
     go_roundw
     case rel=>exact ⟨k+1,by omega,by go_num,bD,bG,bC,bs,bx,bq,bp⟩
     case measure=>simp [intOf];omega
theorem znp (A AP:Option Addr) (n c np cp:Nat) (l p:List zm) (w:World) (ht:zZ w (.slice A n c) l) (hp:zZ w (.slice AP np cp) p) (ho:ya l=0->yb p=0->zb2 l p):
 Calls prog 10 #[.slice A n c,.slice AP np cp] w (zom w (zec l p)):=by
 have V:=@run_makeMap prog
 have K:=zf w (.map #[] 0)
 have r:=ze (zr.new w)
 have B:=ze (zi.below ht K)
 have y:=ze (zi.below hp K)
 have j:Hid (Chg (· =w.heap.size) w (w.alloc (.map #[] 0))):=Chg.of_below K
 have O:=ze ho
 clear ht hp ho K
 go_in
 go_upto_region 2 with fail
 clear V
 generalize w.alloc (.map #[] 0)=W at r B y j |-
 obtain ⟨b,hb⟩:=uQ w.heap.size
 have M:Hid (w.heap.size<=b):=Nat.le_of_eq hb.symm
 have Q:Hid (w.heap.size<=W.heap.size):=j.o.size
 rw [<- hb] at r j |-
 clear hb
 have G:=V5 b A n c l W r.o (B.o.more Q.o)
 by_cases D:ya l=0
 rotate_left
 . have E:Hid (zec l p=([],ya l)):=ze (by unfold zec;rw [if_pos D])
   generalize N:ya l=z at G D E;have I:=ze G;have Z:(z == 0)=false:=uD D;clear G D N O;go_wp2_with fail;refine I.o.mono ?_;rintro e w1 ⟨rfl,u,m⟩;replace j:=ze (yg j.o m);clear u m I r B y Q;go_wp2;go_ret2;rw [E.o];exact ⟨rfl,j.o.below (uA) (fun x e=>by subst e;exact M.o)⟩
 rw [D] at G
 have I:=ze G;have L:=ze D;clear G D;go_wp2_with fail;refine I.o.mono ?_;rintro e w1 ⟨rfl,u,m⟩;replace B:=ze (r.o.keepT m B.o);replace y:=ze (r.o.keepT m y.o);replace j:=ze (yg j.o m);replace r:=ze u;clear u m I Q;have F:=zdn b AP np cp p w1 r.o (y.o.more j.o.size)
 by_cases C:yb p=0
 . rw [C] at F
   have J:=ze F;have E:Hid (zec l p=ZQ (zae p l l.length)):=ze (by unfold zec;rw [if_neg (by rw [L.o];exact fun h=>h rfl),if_neg (by rw [C];exact fun h=>h rfl)]);have R:=O.o L.o C;have U:=ze R;have X:=ze ((R.rlen (uA)).more (show 8388608<=67108864 by omega));clear F C R;go_wp2_with fail;refine J.o.mono ?_;rintro e w2 ⟨rfl,u,m⟩;replace B:=ze (r.o.keepT m B.o);replace y:=ze (r.o.keepT m y.o);replace j:=ze (yg j.o m);replace r:=ze u;clear u m J;go_wp2_with fail;refine (zja b A AP n c np cp l p _ r.o (B.o.more j.o.size) (y.o.more j.o.size) U.o).mono ?_;rintro e w3 ⟨v,rfl,S,u,m⟩;replace j:=ze (yg j.o m);have Y:=ze S;clear u m S r B y;go_wp2_with fail;refine (zar v _ _ Y.o X.o).mono ?_;rintro e w4 ⟨rfl,T⟩;replace j:=ze (zC j.o T);clear T;go_wp2;go_ret2;rw [E.o];exact ⟨rfl,j.o.below (uA) (fun x e=>by subst e;exact M.o)⟩
 have E:Hid (zec l p=([],yb p)):=ze (by unfold zec;rw [if_neg (by rw [L.o];exact fun h=>h rfl),if_pos C])
 generalize N:yb p=z at F C E;have J:=ze F;have Z:(z == 0)=false:=uD C;clear F C N O;go_wp2_with fail;refine J.o.mono ?_;rintro e w2 ⟨rfl,u,m⟩;replace j:=ze (yg j.o m);clear u m J r B y;go_wp2;go_ret2;rw [E.o];exact ⟨rfl,j.o.below (uA) (fun x e=>by subst e;exact M.o)⟩
def vV (r:zF):Rat:=(zj r.bound).getD 0
def zdq (p:List zm) (r:zF):Bool:=decide (vV r<zae p r.terms r.terms.length)
structure zfe (p:List zm) (r:zF):Prop where
 sum:zb2 r.terms p
 bnd:∃ q,zj r.bound=some q/\Dz 8000 q
theorem zfe.rlen {p:List zm} {r:zF} (h:zfe p r):zj r.bound=some (vV r)/\xS 8388608 (vV r)/\zuo 8388608 (vV r):=by
 obtain ⟨q,b,hd⟩:=h.bnd
 have e:vV r=q:=by unfold vV;rw [b];rfl
 rw [e]
 exact ⟨b,(xS.of_dz hd).more (by omega),(Dz.nlen hd).mono (by omega)⟩
theorem zi2 (x y:Rat):decide (Y7 x y>0)=decide (y<x):=by
 unfold Y7
 by_cases e:x<y
 . rw [if_pos e,uF (by omega),uF (Rat.not_lt.2 (Rat.le_of_lt e))]
 rw [if_neg e]
 by_cases b:y<x
 . rw [if_pos b,uE b,uE (by omega)]
 rw [if_neg b,uF b,uF (by omega)]
def Yf (n:Nat) (p:Nat->Bool):Int:=match (List.range n).find? p with
 | some k=>k
 | none=> -1
theorem zpw {n k:Nat} {p:Nat->Bool} (hk:k<n) (h:p k=true) (h0:∀ j,j<k->p j=false):Yf n p=k:=by
 have:(List.range n).find? p=some k:=by
  rw [List.find?_eq_some_iff_getElem]
  refine ⟨h,k,by simpa using hk,by simp,?_⟩
  intro j b
  simp [h0 j b]
 unfold Yf
 rw [this]
theorem zky {n:Nat} {p:Nat->Bool} (h0:∀ j,j<n->p j=false):Yf n p= -1:=by
 have:(List.range n).find? p=none:=by
  rw [List.find?_eq_none]
  intro j b
  rw [h0 j (by simpa using b)];decide
 unfold Yf
 rw [this]
theorem zj2 (b gb gp:Nat) (AT AP:Option Addr) (nt ct np cp:Nat) (r:zF) (p:List zm) (w:World) (hB:zr w b) (hkb:Blk w gb 55 #[.map (some b)]) (hkp:Blk w gp 23 #[.slice AP np cp])
 (ht:zZ w (.slice AT nt ct) r.terms) (hp:zZ w (.slice AP np cp) p) (hs:zB r.bound) (ho:zfe p r):
 Calls prog 56 #[.agg #[.slice AT nt ct,str r.bound],.pointer (some ⟨gb,0,none⟩),.pointer (some ⟨gp,0,none⟩)] w (fun e w' =>e= .returned (.bool (zdq p r))/\zr w' b/\Chg (· =b) w w'):=by
 have l:=zf w (.cells #[.slice AT nt ct,str r.bound] 36)
 have y:=ze (Blk.new w 36 #[.slice AT nt ct,str r.bound])
 have j:=ze (hB.below l)
 have aw:=ze hB.lt
 have F:=ze (hkb.below l hkb.lt)
 have T:=ze (hkp.below l hkp.lt)
 have D:=ze ((zi.below ht l).more l.size)
 have B:=ze ((zi.below hp l).more l.size)
 have m:Hid (Chg (· =b) w (w.alloc (.cells #[.slice AT nt ct,str r.bound] 36))):=Chg.of_below l
 obtain ⟨af,ac,_⟩:=ho.rlen
 have an:=ze af
 have au:=ze ac
 have HO:=ze ho.sum
 have al:=ze (ho.sum.rlen (uA))
 obtain ⟨z,hz⟩:=uR (Y7 (zae p r.terms r.terms.length) (vV r))
 have am:Hid (zdq p r=decide (z>0)):=ze (by rw [<- hz];exact (zi2 _ _).symm)
 have HZ:=ze hz
 have ar:¬ gb=b:=fun e=>by
  subst e
  have N:=hkb.cell 0
  rw [hB.noCells ⟨gb,0,none⟩ rfl] at N
  simp at N
 have av:¬ gp=b:=fun e=>by
  subst e
  have N:=hkp.cell 0
  rw [hB.noCells ⟨gp,0,none⟩ rfl] at N
  simp at N
 have aj:Hid (¬ w.heap.size=b):=ze (fun e=>by have:=hB.lt;omega)
 have HS:=ze hs
 clear hB hkb hkp ht hp hs ho l af ac hz
 go_in
 go_upto_region 1 with fail
 generalize w.alloc (.cells #[.slice AT nt ct,str r.bound] 36)=W at y j F T D B m |-
 generalize w.heap.size=gr at y aj |-
 have aa:=xK b ⟨r.bound.toArray⟩ W j.o (by rw [<- zq,xf];exact HS.o)
 rw [xf] at aa
 have ai:=ze aa
 obtain ⟨r0,r1,_⟩:=bq2 y;have d0:=(bq1 F).1;clear aa
 go_wp2_with fail
 refine ai.o.mono ?_
 rintro e I ⟨v,ok,rfl,⟨U,M,k1,c1,s1,L,S,O,Q,R,rfl⟩,aq,ag,Z,ak⟩
 clear ai r0 r1 d0
 have l:=zf I (.cells #[.int .i64 U,.slice M k1 c1,.bool s1,.int .i64 L,.slice S O Q,.bool R] 62)
 have u:Chg (· =b) W (I.alloc (.cells #[.int .i64 U,.slice M k1 c1,.bool s1,.int .i64 L,.slice S O Q,.bool R] 62)):=zC ak l
 have ad:Hid (¬ I.heap.size=b):=ze (fun e=>by have:=Z.lt;omega)
 replace D:=ze ((j.o.keepT u D.o).more u.size)
 replace B:=ze ((j.o.keepT u B.o).more u.size)
 replace y:=ze (j.o.keepBlk u y.o)
 replace F:=ze (j.o.keepBlk u F.o)
 replace T:=ze (j.o.keepBlk u T.o)
 replace m:=ze (yg m.o u)
 replace j:=ze (Z.below l)
 have ab:=ze (Blk.new I 62 #[.int .i64 U,.slice M k1 c1,.bool s1,.int .i64 L,.slice S O Q,.bool R])
 have E:=ze ((ag _ an.o).below l)
 clear Z ak l u ag aq
 go_upto_region 2 with fail
 generalize I.alloc (.cells #[.int .i64 U,.slice M k1 c1,.bool s1,.int .i64 L,.slice S O Q,.bool R] 62)=W3 at ab E j D B y F T m |-
 generalize I.heap.size=gx at ab ad |-
 obtain ⟨q0,q1,q2,q3,q4,q5,_⟩:=bq6 ab;have r0:=(bq1 y).1;have d0:=(bq1 F).1;have z0:=(bq1 T).1
 have G:=ad.o
 have ap:=aj.o
 have V:∀ w',Hid (Chg (fun x=>x=b) W3 w')->w'.cell? ⟨gx,0,none⟩=some (.int .i64 U)/\w'.cell? ⟨gx,1,none⟩=some (.slice M k1 c1)/\w'.cell? ⟨gx,2,none⟩=some (.bool s1)/\w'.cell? ⟨gx,3,none⟩=some (.int .i64 L)/\w'.cell? ⟨gx,4,none⟩=some (.slice S O Q)/\w'.cell? ⟨gx,5,none⟩=some (.bool R)/\w'.cell? ⟨gr,0,none⟩=some (.slice AT nt ct)/\w'.cell? ⟨gb,0,none⟩=some (.map (some b))/\w'.cell? ⟨gp,0,none⟩=some (.slice AP np cp):=fun w' hB=>⟨xu hB q0 G,xu hB q1 G,xu hB q2 G,xu hB q3 G,xu hB q4 G,xu hB q5 G,xu hB r0 ap,xu hB d0 ar,xu hB z0 av⟩
 refine XJ V 7 (vj W3) fun C=>?_
 refine tK 0 ?_
 refine tK 1 ?_
 refine tK 2 ?_
 refine tK 3 ?_
 refine tK 5 ?_
 refine rK 4 fun K hK=>?_
 go_simp
 go_at_call 26
 have J:=(zw W3).out
 replace j:=ze (j.o.below J)
 replace D:=xte D J
 replace B:=xte B J
 replace E:=ze (E.o.below J)
 replace m:=ze (zC m.o J)
 clear J
 refine (zja b _ _ _ _ _ _ r.terms p _ j.o D.o B.o HO.o).mono ?_
 rintro e w4 ⟨v4,rfl,ae,ah,Y⟩
 replace E:=ze (j.o.keepR Y E.o)
 replace m:=ze (yg m.o Y)
 replace j:=ze ah
 have ao:=ze ae
 refine hK.out _ _ (zl (Zh Y C.1) (V _)) ?_
 clear hK K C
 intro C
 try simp only [Act.put,xST]
 clear Y ah ae
 refine rK 6 fun K hK=>?_
 go_simp
 go_at_call 33
 refine (zbx _ _ _ _ _ ao.o E.o al.o au.o).mono ?_
 rintro e w5 ⟨rfl,X⟩
 rw [HZ.o]
 replace j:=ze (j.o.below X)
 replace m:=ze (zC m.o X)
 refine hK.out _ _ (zl (xM X C.1) (V _)) ?_
 clear hK K C
 intro C
 try simp only [Act.put,xST]
 clear X;clear C V
 refine hdn ?_
 simp only [xDR]
 clear q0 q1 q2 q3 q4 q5 r0 d0 z0
 go_wp2
 go_ret
 exact ⟨by rw [am.o];rfl,j.o,m.o⟩
def Xh (p:List zm) (rows:List zF) (k:Nat):Bool:=zdq p (rows.getD k default)
def IfnR (w0:World) (b gb gp B:Nat) (rv pv:Value) (rows:List zF) (p:List zm) (Q:zF->Bool) (kv:Value) (wr:World):Prop:=
 ∃ k:Nat,k<=rows.length/\kv= .int .i64 k/\Hid (∀ j,j<k->Q (rows.getD j default)=false)/\Hid (zr wr b)/\Hid (zW wr B rv rows)/\Hid (zi wr B pv p)/\
  Hid (Blk wr gb 55 #[.map (some b)])/\Hid (Blk wr gp 23 #[pv])/\Hid (Chg (· =b) w0 wr)
theorem zks (F:FuncId) (Q:zF->Bool) (b gb gp B:Nat) (A AP:Option Addr) (n c np cp:Nat) (rows:List zF) (p:List zm) (w:World) (hB:zr w b) (hkb:Blk w gb 55 #[.map (some b)]) (hkp:Blk w gp 23 #[.slice AP np cp])
 (hr:zW w B (.slice A n c) rows) (hp:zi w B (.slice AP np cp) p) (hBB:B<=w.heap.size)
 (hcf:∀ a w,(callFunc F a).run prog w= .ok (.enter F a) w) (ho:∀ L K M k w,k<rows.length->zr w b->Blk w gb 55 #[.map (some b)]->Blk w gp 23 #[.slice AP np cp]->zZ w (.slice L K M) (rows.getD k default).terms->zZ w (.slice AP np cp) p->zB (rows.getD k default).bound->
   Calls prog F #[.agg #[.slice L K M,str (rows.getD k default).bound],.pointer (some ⟨gb,0,none⟩),.pointer (some ⟨gp,0,none⟩)] w (fun e w' =>e= .returned (.bool (Q (rows.getD k default)))/\zr w' b/\Chg (· =b) w w')):
 Calls prog 55 #[.slice A n c,.func (.func F) #[] #[.pointer (some ⟨gb,0,none⟩),.pointer (some ⟨gp,0,none⟩)]] w
  (fun e w' =>e= .returned (.int .i64 (Yf rows.length (fun k=>Q (rows.getD k default))))/\zr w' b/\Chg (· =b) w w'):=by
 obtain rfl:=hr.len
 have ae:rows.length<=100000:=by obtain ⟨_,_,_,_,_,_,h,_⟩:=hr;exact h
 obtain ⟨l,y,u,C,D⟩:=hz5 hB hr hp hkb hkp
 have m:=ze (Chg.refl (S:=(· =b)) w)
 have HO:=ze ho
 have Z:=ze hBB
 clear hB hkb hkp hr hp hBB ho
 go_in
 go_wp2
 go_loopw [8] (IfnR w b gb gp B (.slice A rows.length c) (.slice AP np cp) rows p Q) (fun kv _=>rows.length - (intOf kv).toNat)
 case atStart=>exact ⟨0,uB,rfl,ze (fun j h=>by omega),l,y,u,C,D,m⟩
 case round=>
  clear l y u C D m
  obtain ⟨k,hk,rfl,O,l,y,u,C,D,m⟩:=hrel
  by_cases I:k<rows.length
  rotate_left
  . obtain rfl:rows.length=k:=by omega
    have R:Hid (Yf rows.length (fun k=>Q (rows.getD k default))= -1):=ze (zky O.o);go_wp2;go_ret;exact ⟨by rw [R.o];rfl,l.o,m.o⟩
  have ac:(k:Int)<(rows.length:Int):=by omega
  obtain ⟨ad,L,K,M,Y,ab,p0,p1,V,X⟩:=y.o.at_ I;subst Y;have E:=xGD (d:=default) I;have U:B<=wr.heap.size:=uC Z.o m.o.size;have N:=HO.o L K M k wr I l.o C.o D.o (by rw [E];exact V.more U) (u.o.more U) (by rw [E];exact X);rw [E] at N;have T:Hid (Q (rows.getD k default)=Q rows[k]):=ze (by rw [E]);generalize hz:Q rows[k]=z at N T;have J:=ze N;clear V X E U N hz ab
  cases z with
  | true=>
    have R:Hid (Yf rows.length (fun k=>Q (rows.getD k default))=k):=ze (zpw I T.o O.o);go_wp2_with fail;refine J.o.mono ?_;rintro e w1 ⟨rfl,G,r⟩;replace m:=ze (yg m.o r);replace l:=ze G;clear G r J p0 p1;go_wp2;go_ret;exact ⟨by rw [R.o];rfl,l.o,m.o⟩
  | false=>
    have aa:Hid (∀ j,j<k+1->Q (rows.getD j default)=false):=ze (fun j hj=>by
     by_cases e:j=k
     . subst e;exact T.o
     exact O.o j (by omega))
    go_wp2_with fail;refine J.o.mono ?_;rintro e w1 ⟨rfl,G,r⟩;replace y:=ze (l.o.keepRows r y.o);replace u:=ze (l.o.keepT r u.o);replace C:=ze (l.o.keepBlk r C.o);replace D:=ze (l.o.keepBlk r D.o);replace m:=ze (yg m.o r);replace l:=ze G;clear G r J p0 p1;go_wp2;go_roundw
    case rel=>exact ⟨k+1,by omega,by go_num,aa,l,y,u,C,D,m⟩
    case measure=>simp [intOf];omega
theorem zha (b:Nat) (A AP:Option Addr) (n c np cp:Nat) (rows:List zF) (p:List zm) (w:World) (hB:zr w b) (hr:yM w (.slice A n c) rows) (hp:zZ w (.slice AP np cp) p) (ho:∀ k,k<rows.length->zfe p (rows.getD k default)):
 Calls prog 23 #[.map (some b),.slice A n c,.slice AP np cp] w (X8 b (Yf rows.length (Xh p rows)) w):=by
 have C:=zf w (.cells #[.map (some b)] 55)
 have u:=zf (w.alloc (.cells #[.map (some b)] 55)) (.cells #[.slice AP np cp] 23)
 have j:=ext C u
 have B:=(Blk.new w 55 #[.map (some b)]).alloc (.cells #[.slice AP np cp] 23)
 have l:=Blk.new (w.alloc (.cells #[.map (some b)] 55)) 23 #[.slice AP np cp]
 rw [World.size_alloc] at l
 have r:=zks 56 (zdq p) b w.heap.size (w.heap.size+1) w.heap.size A AP n c np cp rows p _ (hB.below j) B l (zW.below hr j) (zi.below hp j) j.size (fun _ _=>by kernel_rfl) (fun AT nt ct k w hk h1 h2 h3 h4 h5 h6=>zj2 b _ _ AT AP nt ct np cp _ p w h1 h2 h3 h4 h5 h6 (ho k hk))
 have D:=ze r
 have m:Hid (Chg (· =b) w ((w.alloc (.cells #[.map (some b)] 55)).alloc (.cells #[.slice AP np cp] 23))):=Chg.of_below j
 clear hB hr hp ho C u j B l r
 go_in
 go_wp2_with fail
 refine D.o.mono ?_
 rintro e w1 ⟨rfl,y,z⟩
 have E:=ze y
 replace m:=ze (yg m.o z)
 clear y z D
 go_wp2
 go_ret
 exact ⟨rfl,E.o,m.o⟩
def Yc (rows:List zF) (p:List zm):Int×Int:=if zY rows≠0 then (0,zY rows) else if yb p≠0 then (0,yb p) else (Yf rows.length (Xh p rows),0)
theorem XD (A AP:Option Addr) (n c np cp:Nat) (rows:List zF) (p:List zm) (w:World) (hr:yM w (.slice A n c) rows) (hp:zZ w (.slice AP np cp) p) (hcnt:rows.length<=800->(ye rows []).length<=100000)
 (ho:zY rows=0->yb p=0->∀ k,k<rows.length->zfe p (rows.getD k default)):
 Calls prog 8 #[.slice A n c,.slice AP np cp] w (zuc w (Yc rows p)):=by
 have U:=@run_makeMap prog
 have K:=zf w (.map #[] 0)
 have m:=ze (zr.new w)
 have y:=ze (zW.below hr K)
 have u:=ze (zi.below hp K)
 have j:Hid (Chg (· =w.heap.size) w (w.alloc (.map #[] 0))):=Chg.of_below K
 have O:=ze ho
 have V:=ze hcnt
 clear hr hp ho K hcnt
 go_in
 go_upto_region 2 with fail
 clear U
 generalize w.alloc (.map #[] 0)=W at m y u j |-
 obtain ⟨b,hb⟩:=uQ w.heap.size
 have N:Hid (w.heap.size<=b):=Nat.le_of_eq hb.symm
 have Q:Hid (w.heap.size<=W.heap.size):=j.o.size
 rw [<- hb] at m j |-
 clear hb
 have F:=Z0 b A n c rows W m.o (y.o.more Q.o) V.o
 by_cases D:zY rows=0
 rotate_left
 . have B:Hid (Yc rows p=(0,zY rows)):=ze (by unfold Yc;rw [if_pos D])
   generalize G:zY rows=z at F D B;have I:=ze F;have X:(z == 0)=false:=uD D;clear F D G O;go_wp2_with fail;refine I.o.mono ?_;rintro e w1 ⟨rfl,r,l⟩;replace j:=ze (yg j.o l);clear r l I m y u Q;go_wp2;go_ret2;rw [B.o];exact ⟨rfl,j.o.below (uA) (fun x e=>by subst e;exact N.o)⟩
 rw [D] at F
 have I:=ze F;have L:=ze D;clear F D;go_wp2_with fail;refine I.o.mono ?_;rintro e w1 ⟨rfl,r,l⟩;replace y:=ze (m.o.keepRows l y.o);replace u:=ze (m.o.keepT l u.o);replace j:=ze (yg j.o l);replace m:=ze r;clear r l I Q;have E:=zdn b AP np cp p w1 m.o (u.o.more j.o.size)
 by_cases C:yb p=0
 . rw [C] at E
   have J:=ze E;have B:Hid (Yc rows p=(Yf rows.length (Xh p rows),0)):=ze (by unfold Yc;rw [if_neg (by rw [L.o];exact fun h=>h rfl),if_neg (by rw [C];exact fun h=>h rfl)]);have T:=ze (O.o L.o C);clear E C;go_wp2_with fail;refine J.o.mono ?_;rintro e S ⟨rfl,r,l⟩;replace y:=ze (m.o.keepRows l y.o);replace u:=ze (m.o.keepT l u.o);replace j:=ze (yg j.o l);replace m:=ze r;clear r l J;have M:=zha b A AP n c np cp rows p S m.o (y.o.more j.o.size) (u.o.more j.o.size) T.o;generalize G:Yf rows.length (Xh p rows)=z at M B;have R:=ze M;clear M G;go_wp2_with fail;refine R.o.mono ?_;rintro e w3 ⟨rfl,r,l⟩;replace j:=ze (yg j.o l);clear r l m y u R;go_wp2;go_ret2;rw [B.o];exact ⟨rfl,j.o.below (uA) (fun x e=>by subst e;exact N.o)⟩
 have B:Hid (Yc rows p=(0,yb p)):=ze (by unfold Yc;rw [if_neg (by rw [L.o];exact fun h=>h rfl),if_pos C])
 generalize G:yb p=z at E C B;have J:=ze E;have X:(z == 0)=false:=uD C;clear E C G O;go_wp2_with fail;refine J.o.mono ?_;rintro e S ⟨rfl,r,l⟩;replace j:=ze (yg j.o l);clear r l J m y u;go_wp2;go_ret2;rw [B.o];exact ⟨rfl,j.o.below (uA) (fun x e=>by subst e;exact N.o)⟩
structure zhg (goal:List zm) (s:List UInt8):Prop where
 err:ya goal=0
 all:∀ t∈goal,t.name=s
def YP (rows:List zF) (goal:List zm):Int:=if zY rows≠0 then zY rows else if ya goal≠0 then ya goal else if 80<(ye rows [goal]).length then 3 else 0
def zr6 (w:World) (rows:List zF) (goal:List zm) (e:Ending) (w' :World):Prop:=
 ∃ o A n c,e= .returned (.tuple #[.map o,.slice A n c,.int .i64 (YP rows goal)])/\(YP rows goal=0->∃ b,o=some b/\zr w' b/\zT w' w'.heap.size (.slice A n c) (ye rows [goal])/\w.heap.size<=b)/\Below w.heap.size w w'
theorem zcp (A A2:Option Addr) (n c n2 c2:Nat) (rows:List zF) (goal:List zm) (w:World) (hr:yM w (.slice A n c) rows) (hg:zZ w (.slice A2 n2 c2) goal)
 (hcnt:rows.length<=800->(ye rows []).length<=100000) (hcnt2:zY rows=0->(ye rows [goal]).length<=100000):
 Calls prog 37 #[.slice A n c,.slice A2 n2 c2] w (zr6 w rows goal):=by
 have aj:=@run_makeMap prog
 have G:=zf w (.map #[] 0)
 have r:=ze (zr.new w)
 have F:=ze (zW.below hr G)
 have E:=ze (zi.below hg G)
 have m:Hid (Chg (· =w.heap.size) w (w.alloc (.map #[] 0))):=Chg.of_below G
 have H1:=ze hcnt
 have H2:=ze hcnt2
 clear hr hg hcnt hcnt2 G
 go_in
 go_upto_region 2 with fail
 clear aj
 have ai:Hid (w.heap.size<=w.heap.size):=uA
 generalize w.alloc (.map #[] 0)=W at r F E m |-
 obtain ⟨b,hb⟩:=uQ w.heap.size
 have K:Hid (w.heap.size<=b):=Nat.le_of_eq hb.symm
 have ah:=r.o.lt
 have aa:Hid (w.heap.size<=W.heap.size):=m.o.size
 rw [<- hb] at r m |-
 clear hb ai ah
 have V:=Z0 b A n c rows W r.o (F.o.more aa.o) H1.o
 generalize M:zY rows=z at V
 have S:=ze V
 by_cases J:z=0
 rotate_left
 . have D:Hid (YP rows goal=z):=ze (by unfold YP;rw [if_pos (by rw [M];exact J),M])
   have ap:(z == 0)=false:=uD J;have am:=ze J;clear V M J;go_wp2_with fail;refine S.o.mono ?_;rintro e w1 ⟨rfl,I,B⟩;replace m:=ze (yg m.o B);clear I B S r F E aa;go_wp2;go_ret3;exact ⟨none,none,0,0,by rw [D.o];rfl,(fun h=>by rw [D.o] at h;exact absurd h am.o),m.o.below (uA) (fun x e=>by subst e;exact K.o)⟩
 subst J
 have U:=ze M;clear V M;go_wp2_with fail;refine S.o.mono ?_;rintro e w1 ⟨rfl,I,B⟩;replace F:=ze (r.o.keepRows B F.o);replace E:=ze (r.o.keepT B E.o);replace m:=ze (yg m.o B);replace r:=ze I;clear I B S aa;have X:=V5 b A2 n2 c2 goal w1 r.o (E.o.more m.o.size);generalize N:ya goal=y at X;have T:=ze X
 by_cases Q:y=0
 rotate_left
 . have D:Hid (YP rows goal=y):=ze (by unfold YP;rw [if_neg (fun h=>h U.o),if_pos (by rw [N];exact Q),N])
   have ao:(y == 0)=false:=uD Q;have an:=ze Q;clear X N Q;go_wp2_with fail;refine T.o.mono ?_;rintro e C ⟨rfl,I,B⟩;replace m:=ze (yg m.o B);clear I B T r F E;go_wp2;go_ret3;exact ⟨none,none,0,0,by rw [D.o];rfl,(fun h=>by rw [D.o] at h;exact absurd h an.o),m.o.below (uA) (fun x e=>by subst e;exact K.o)⟩
 subst Q
 have HY:=ze N;clear X N;go_wp2_with fail;refine T.o.mono ?_;rintro e C ⟨rfl,I,B⟩;replace F:=ze (r.o.keepRows B F.o);replace E:=ze (r.o.keepT B E.o);replace m:=ze (yg m.o B);replace r:=ze I;clear I B T;have G:=zf C (.cells #[.slice A2 n2 c2] 34);have Z:=Blk.new C 34 #[.slice A2 n2 c2]
 have HO:Hid (vJ (C.alloc (.cells #[.slice A2 n2 c2] 34)) C.heap.size 34 1 (.slice (some ⟨C.heap.size,0,none⟩) 1 1) 1 [.slice A2 n2 c2]):=by
  refine ⟨⟨rfl,.inr ⟨_,1,_,rfl,uA,Z,uA,by unfold maxLen;omega,rfl,rfl⟩⟩,fun g hg=>?_⟩;injection hg with hg
  subst hg;exact Z.noDig (vH (by intro u hu;simp at hu;subst hu;exact zH _ _ _))
 have ae:=zab C.heap.size 1 A n c (.slice (some ⟨C.heap.size,0,none⟩) 1 1) [.slice A2 n2 c2] rows [goal] (C.alloc (.cells #[.slice A2 n2 c2] 34)) ((zW.below F.o G).more m.o.size) HO.o
  ⟨rfl,fun j hj=>by
   have:j=0:=by simp at hj;omega
   subst this
   exact (zi.below E.o G).more m.o.size⟩ rfl (by omega) G.size (fun l hl=>by rw [hl.eq];exact H2.o U.o)
 have ac:=ze ae;have HX:=ze G;clear ae G Z HO F E;go_wp2_with fail;refine ac.o.mono ?_;rintro e w3 ⟨v,l,rfl,ad,hn,ag⟩;have af:l=ye rows [goal]:=ad.eq;rw [af] at hn;have ab:Below C.heap.size C w3:=HX.o.trans ag;replace r:=ze (r.o.below ab);replace m:=ze (zC m.o ab);have HN:=ze hn;have al:(ye rows [goal]).length<=100000:=H2.o U.o;obtain ⟨A3,c3,rfl,_⟩:=hn;clear ag ab ac HX ad af
 have O:Hid (YP rows goal=if 80<(ye rows [goal]).length then 3 else 0):=by
  show _=_
  unfold YP;rw [if_neg (fun h=>h U.o),if_neg (fun h=>h HY.o)]
 obtain ⟨L,Y⟩:=uQ (ye rows [goal]);have ak:=ze Y;rw [<- Y] at HN al O |-;clear Y
 by_cases R:80<L.length
 . have d0:decide ((L.length:Int)>80)=true:=by rw [decide_eq_true_iff];omega
   have D:Hid (YP rows goal=3):=ze (by rw [O.o,if_pos R]);clear R O;go_wp2;go_ret3;exact ⟨none,none,0,0,by rw [D.o];rfl,(fun h=>by rw [D.o] at h;cases h),m.o.below (uA) (fun x e=>by subst e;exact K.o)⟩
 have d0:decide ((L.length:Int)>80)=false:=by rw [decide_eq_false_iff_not];omega
 have D:Hid (YP rows goal=0):=ze (by rw [O.o,if_neg R]);clear R O;go_wp2;go_ret3;exact ⟨some b,A3,_,c3,by rw [D.o];rfl,(fun _=>⟨b,rfl,r.o,by rw [<- ak.o];exact HN.o,K.o⟩),m.o.below (uA) (fun x e=>by subst e;exact K.o)⟩
def ztt (w:World) (s:List UInt8) (e:Ending) (w' :World):Prop:=
 ∃ b v,e= .returned (.tuple #[.map (some b),v,.int .i64 0])/\zr w' b/\zT w' w'.heap.size v [s]/\w.heap.size<=b/\Below w.heap.size w w'
theorem zii (A A2:Option Addr) (n c n2 c2:Nat) (rows:List zF) (goal:List zm) (s:List UInt8) (w:World) (j:yM w (.slice A n c) rows) (hg:zZ w (.slice A2 n2 c2) goal) (h1:XB rows s) (h2:zhg goal s):
 Calls prog 37 #[.slice A n c,.slice A2 n2 c2] w (ztt w s):=by
 have F:∀ x∈yt ([goal] ++ rows.map (·.terms)),x=s:=by
  intro x m
  unfold yt at m
  obtain ⟨l,D,m⟩:=List.mem_flatMap.1 m
  obtain ⟨t,B,rfl⟩:=List.mem_map.1 m
  rcases List.mem_append.1 D with h | h
  . rw [uM] at h;subst h;exact h2.all t B
  . obtain ⟨r,j,rfl⟩:=List.mem_map.1 h
    exact h1.all r j t B
 have E:yt ([goal] ++ rows.map (·.terms))≠[]:=by
  obtain ⟨r,j,C⟩:=h1.ex
  obtain ⟨t,q,e⟩:=List.exists_cons_of_ne_nil C
  intro u
  have:t.name∈yt ([goal] ++ rows.map (·.terms)):=by
   unfold yt;exact List.mem_flatMap.2 ⟨_,List.mem_append.2 (.inr (List.mem_map.2 ⟨r,j,rfl⟩)),List.mem_map.2 ⟨t,by rw [e];exact uP ..,rfl⟩⟩
  rw [u] at this
  cases this
 have hu:ye rows [goal]=[s]:=zjd F E (yx _)
 have y:YP rows goal=0:=by
  unfold YP
  rw [if_neg (fun h=>h h1.err0.1),if_neg (fun h=>h h2.err),hu];rfl
 refine (zcp A A2 n c n2 c2 rows goal w j hg (fun _=>by rw [h1.err0.2];omega) (fun _=>by rw [hu];simp)).mono ?_
 rintro e w' ⟨o,J,L,K,rfl,u,hb⟩
 obtain ⟨b,rfl,I,z,G⟩:=u y
 rw [hu] at z
 rw [y]
 exact ⟨b,_,rfl,I,z,G,hb⟩
end Go.Proofs.YtofmkndhocinmaaGreatDoor
