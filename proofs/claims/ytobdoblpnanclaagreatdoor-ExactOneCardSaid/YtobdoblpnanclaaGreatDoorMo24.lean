/- Parts of the proof. -/
import Derived.Carry
import Derived.Test.YtobdoblpnanclaaGreatDoorMo23
import Derived.Test.YtobdoblpnanclaaGreatDoorMo21
import Derived.Test.YtobdoblpnanclaaGreatDoorMo22
set_option linter.all false
set_option maxRecDepth 100000
set_option maxHeartbeats 32000000
namespace Go.Proofs.YtobdoblpnanclaaGreatDoor
open Proofs.Tryz Go.RowKit Go.Deep Go.Maps Go.Sort
attribute [local go_sem ↓] Go.wp_at_zero Go.wp_at_succ
def zd1 (w:World) (B:Nat) (hs:List Value) (L:List (List zr)):Prop:=hs.length=L.length/\∀ j,j<L.length->zh w B (hs.getD j undef) (L.getD j [])
theorem zd1.below {w w' :World} {B:Nat} {hs:List Value} {L:List (List zr)} (h:zd1 w B hs L) (hb:Below B w w'):zd1 w' B hs L:=by
 refine ⟨h.1,fun j hj=>?_⟩
 obtain ⟨A,c,m,e,u,l,r,b⟩:=h.2 j hj
 exact ⟨A,c,m,e,u,l,r.below hb,b⟩
theorem zR.below' {w w' :World} {B:Nat} {v:Value} {l:List zS} (h:zR w B v l) (hb:Below B w w'):zR w' B v l:=by
 obtain ⟨A,c,H,m,e,u,j,r,b,y⟩:=h
 refine ⟨A,c,H,m,e,u,j,r.below hb,fun i hi=>?_,y⟩
 obtain ⟨A,c,m,e,u,j,r,b⟩:=b i hi
 exact ⟨A,c,m,e,u,j,r.below hb,b⟩
theorem zh.below' {w w' :World} {B:Nat} {v:Value} {l:List zr} (h:zh w B v l) (hb:Below B w w'):zh w' B v l:=by
 obtain ⟨A,c,m,e,u,j,r,b⟩:=h
 exact ⟨A,c,m,e,u,j,r.below hb,b⟩
theorem zd1.push {w:World} {B:Nat} {hs:List Value} {L:List (List zr)} {v:Value} {l:List zr} (h:zd1 w B hs L) (hv:zh w B v l):zd1 w B (hs ++ [v]) (L ++ [l]):=by
 refine ⟨by rw [List.length_append,List.length_append,h.1];rfl,fun j hj=>?_⟩
 rw [List.length_append,List.length_singleton] at hj
 by_cases e:j<L.length
 . have:=h.2 j e
   unfold List.getD at this |-;rw [List.getElem?_append_left e,List.getElem?_append_left (by rw [h.1];exact e)];exact this
 obtain rfl:j=L.length:=by omega
 unfold List.getD;rw [List.getElem?_append_right (uA),List.getElem?_append_right (by rw [h.1];exact uA),h.1,Nat.sub_self];exact hv
theorem zsu:Keyed prog 9:=string_keyed underlying9
theorem zh2:prog.underlying zul=some (.map 9 4):=by kernel_rfl
def Yp (w:World) (g:Nat) (ns:List (List UInt8)):Prop:=
 ∃ (n:Nat) (D:DataW Unit),w.ownsMap prog 9 (plainElem (H:=Unit) prog 4) g n D/\n<=ns.length/\∀ x,Maps.has D (.string x)=true↔x∈ns
theorem Yp.lt {w:World} {g:Nat} {ns:List (List UInt8)} (h:Yp w g ns):g<w.heap.size:=by
 obtain ⟨n,D,h,_⟩:=h
 exact World.ownsMap.lt h
theorem Yp.keep {w w' :World} {g:Nat} {ns:List (List UInt8)} (h:Yp w g ns) (hk:w'.heap[g]?=w.heap[g]?):Yp w' g ns:=by
 obtain ⟨n,D,⟨e,j,hb,F,l,m⟩,b⟩:=h
 exact ⟨n,D,⟨e,j,hk.trans hb,F,l,m⟩,b⟩
theorem Yp.below {w w' :World} {g:Nat} {ns:List (List UInt8)} (h:Yp w g ns) (hb:Below w.heap.size w w'):Yp w' g ns:=h.keep (hb.block g h.lt)
theorem Yp.new (w:World):Yp (w.alloc (.map #[] 0)) w.heap.size []:=
 ⟨0,.map [],World.ownsMap_made w prog 9 (plainElem (H:=Unit) prog 4),uA,fun x=>by simp [Maps.has]⟩
theorem Yp.put {w:World} {g:Nat} {ns:List (List UInt8)} {s:List UInt8} (h:Yp w g ns) (hs:s.length<=1073741824) (hn:ns.length<maxLen):
 ∃ w',(Instr.mapUpdate zul (.map (some g)) (str s) (.bool true)).run prog w= .ok () w' /\Yp w' g (ns ++ [s])/\w.grownBy w' (some g):=by
 obtain ⟨n,D,h,m,l⟩:=h
 have b:keyOf prog 9 (str s)=some (.string s):=WideMaps.keyOf_string_mk underlying9 (by
  show s.toArray.size<=maxLen
  rw [List.size_toArray]
  unfold maxLen;omega)
 obtain ⟨w',r,j,u⟩:=World.ownsMap.update h zsu zh2 (by omega) b (plainElem_bool underlying4 true)
 refine ⟨w',r,⟨n+1,_,j,by rw [List.length_append];simpa using m,fun x=>?_⟩,u⟩
 rw [List.mem_append,uM]
 by_cases e:x=s
 . subst e
   rw [has_put_same h.isMap (k:=.string x) (show WideAt.IsKeyLit (.string x) from trivial)];exact ⟨fun _=>.inr rfl,fun _=>rfl⟩
 rw [has_put_other (by intro h;injection h with h;exact e h),l x]
 exact ⟨fun h=>.inl h,fun h=>h.elim id (fun h=>absurd h e)⟩
theorem zme {w:World} {g n:Nat} {D:DataW Unit} (h:w.ownsMap prog 9 (plainElem (H:=Unit) prog 4) g n D):(strKeys D).Nodup/\∀ x,x∈strKeys D↔Maps.has D (.string x)=true:=by
 obtain ⟨r,z,C,_⟩:=h.entries zsu
 obtain ⟨F,u,B⟩:=h.keysOf
 obtain rfl:r=F :=by rw [z] at u;simpa using u
 subst z
 have m:∀ p∈r,∃ x,p.1= .string x:=fun p hp=>by obtain ⟨v,hv⟩:=B p hp;obtain ⟨x,_,E,_⟩:=Maps.keyOf_str underlying9 hv;exact ⟨x,E⟩
 refine ⟨?_,fun x=>?_⟩
 . show (r.map fun p=>strOf p.1).Nodup
   refine List.pairwise_map.2 (C.imp_of_mem fun {p q} j hq' hne e=>hne ?_);obtain ⟨a,l⟩:=m p j;obtain ⟨b,hb⟩:=m q hq';rw [l,hb] at e |-;exact congrArg _ e
 rw [has_eq,List.any_eq_true]
 show (x∈r.map fun p=>strOf p.1)↔_
 rw [List.mem_map]
 constructor
 . rintro ⟨p,j,rfl⟩
   obtain ⟨a,l⟩:=m p j;exact ⟨p,j,by rw [l];simp [Lit.sameKey,strOf]⟩
 rintro ⟨p,j,y⟩
 obtain ⟨a,l⟩:=m p j;rw [l] at y;exact ⟨p,j,by rw [l];simpa [Lit.sameKey,strOf] using y⟩
theorem zgr {w:World} {base:Nat} {v:Value} {l:List (List UInt8)} (h:w.ownsRow base 9 1 v l.length (l.map str)) (hl:l.length<=100000) (hs:∀ x∈l,yc x):zT w w.heap.size v l:=by
 have m:=h
 rcases h.2 with ⟨e,b⟩ | ⟨g,j,r,e,hb,z,u,B,y⟩
 . have:l=[]:=uI b
   subst this;subst e;exact ⟨none,0,rfl,uA,by unfold maxLen;omega,by simp,ys.none_,fun x b=>by cases b⟩
 . subst e
   refine ⟨_,j,rfl,?_,?_,hl,ys.of_own m,hs⟩
   . omega
   omega
theorem zrb {w:World} {base size n:Nat} {e:TypeId} {v:Value} {xs:List Value} (h:w.ownsRow base e size v n xs):∃ am b,v= .slice am n b/\(0<n->∃ gm,am=some ⟨gm,0,none⟩):=by
 rcases h.2 with ⟨e,j⟩ | ⟨gm,b,l,e,_⟩
 . exact ⟨none,0,by rw [j];exact e,fun h=>by omega⟩
 . exact ⟨_,b,e,fun _=>⟨gm,rfl⟩⟩
theorem ze4 {L:List (List zr)} {M:Nat} (h:∀ l∈L,l.length<=M):(yd L).length<=L.length*M:=by
 induction L with
 | nil=>simp [yd]
 | cons a L ih=>
   have b:=ih (fun l hl=>h l (List.mem_cons_of_mem _ hl));have e:=h a (uP ..);unfold yd at b |-;rw [List.flatMap_cons,List.length_append,List.length_map,List.length_cons,Nat.succ_mul]
   omega
theorem zhq {L:List (List zr)} {j:Nat} (h:j<L.length):yd (L.take (j+1))=yd (L.take j) ++ L[j].map (·.name):=by
 unfold yd
 rw [List.take_add_one,List.getElem?_eq_getElem h,List.flatMap_append]
 simp
theorem zlw {l:List zr} {t:Nat} (h:t<l.length):(l.take (t+1)).map (·.name)=(l.take t).map (·.name) ++ [l[t].name]:=by
 rw [List.take_add_one,List.getElem?_eq_getElem h,List.map_append]
 rfl
theorem zoi:(prog.info? 23).map (fun i=>(i.zero,i.size,i.bytes))=some (some (.slice none 0 0),1,24):=by kernel_rfl
theorem Tryz.underlying132:prog.underlying 132=some (.slice 23):=by kernel_rfl
def UnkA (w0:World) (B g k:Nat) (rv:Value) (rows:List zS) (more:List (List zr)) (iv mv:Value) (wr:World):Prop:=
 ∃ (i:Nat) (hs:List Value) (mv' :Value),i<=rows.length/\iv= .int .i64 i/\mv=mv' /\Hid (vE wr B 23 1 mv' (k+i) hs)/\Hid (zd1 wr B hs (more ++ (rows.take i).map (·.terms)))/\Hid (zR wr B rv rows)/\Hid (Yp wr g [])/\Hid (Below B w0 wr)
def UnkB (w0:World) (B g n:Nat) (mv:Value) (hs:List Value) (L:List (List zr)) (jv:Value) (wr:World):Prop:=
 ∃ (j:Nat),j<=n/\jv= .int .i64 j/\Hid (vE wr B 23 1 mv n hs)/\Hid (zd1 wr B hs L)/\Hid (Yp wr g (yd (L.take j)))/\Hid (Below B w0 wr)
def UnkC (w0:World) (B g n:Nat) (mv:Value) (hs:List Value) (L:List (List zr)) (l:List zr) (tv:Value) (ns:List (List UInt8)) (jv:Value) (wr:World):Prop:=
 ∃ (j:Nat),j<=l.length/\jv= .int .i64 j/\Hid (vE wr B 23 1 mv n hs)/\Hid (zd1 wr B hs L)/\Hid (zh wr B tv l)/\Hid (Yp wr g (ns ++ (l.take j).map (·.name)))/\Hid (Below B w0 wr)
def zwa (w:World) (B:Nat) (ns:List (List UInt8)) (e:Ending) (w' :World):Prop:=∃ v l,e= .returned v/\Ve l ns/\zT w' w'.heap.size v l/\Below B w w'
theorem zbh (B k:Nat) (A:Option Addr) (n c:Nat) (mv:Value) (R:List Value) (rows:List zS) (more:List (List zr)) (w:World) (hr:zR w B (.slice A n c) rows) (hm:vE w B 23 1 mv k R) (hh:zd1 w B R more) (hk:k=more.length) (hkm:k<=100000)
 (hB:B<=w.heap.size) (hcnt:∀ l,Ve l (yd (more ++ rows.map (·.terms)))->l.length<=100000):
 Calls prog 31 #[.slice A n c,mv] w (zwa w B (yd (more ++ rows.map (·.terms)))):=by
 obtain rfl:=hr.len
 subst hk
 have bl:rows.length<=100000:=by obtain ⟨_,_,_,_,_,_,h,_⟩:=hr;exact h
 have r:Hid (Yp (w.alloc (.map #[] 0)) w.heap.size []):=Yp.new w
 have C:Below B w (w.alloc (.map #[] 0)):=(zf w (.map #[] 0)).mono hB
 have M:=ze (zR.below' hr C)
 have z:=ze (hm.below (zf w (.map #[] 0)))
 have HH:=ze (hh.below C)
 have E:=ze C
 have ai:=ze hcnt
 have Y:Hid (B<=w.heap.size):=hB
 have bg:=@run_makeMap prog
 clear hr hm hh C hcnt hB
 go_in
 go_upto_region 2 with fail
 generalize w.alloc (.map #[] 0)=W at r M z HH E |-
 generalize w.heap.size=g at r Y |-
 clear bg
 go_wp2
 go_loopw [15,1] (UnkA w B g more.length (.slice A rows.length c) rows more) (fun iv _ _=>rows.length - (intOf iv).toNat)
 case atStart=>exact ⟨0,R,mv,uB,rfl,rfl,z,by rw [List.take_zero,List.map_nil,List.append_nil];exact HH,M,r,E⟩
 case round=>
  clear M z HH r E
  obtain ⟨i,R,mv,hi,rfl,rfl,z,HH,M,r,E⟩:=hrel
  by_cases aV:i<rows.length
  . have bn:(i:Int)<(rows.length:Int):=by omega
    obtain ⟨ad,K,J,I,eA,ae,p0,p1,U,bc⟩:=M.o.at_ aV;subst eA;have C:=zf wr (.cells #[.slice K J I,str rows[i].bound] 31);have Q:=ze (Blk.new wr 31 #[.slice K J I,str rows[i].bound]);have F:Hid (B<=wr.heap.size):=uC Y.o (Nat.le_of_lt (Yp.lt r.o));have G:=C.mono F.o;have Z:=ze (zh.below' U G);replace z:=ze (z.o.below C);replace HH:=ze (HH.out.below G);replace M:=ze (zR.below' M.o G);replace r:=ze (r.o.below C);replace E:=ze (E.o.trans G);clear C U bc G
    go_upto_region 5 with fail
    clear p0 p1 ae;replace F:Hid (B<=(wr.alloc (.cells #[.slice K J I,str rows[i].bound] 31)).heap.size):=by have:=F.o;show B<=_;simp only [World.size_alloc];omega
    generalize wr.alloc (.cells #[.slice K J I,str rows[i].bound] 31)=W2 at Q Z z HH M r E F |-;generalize wr.heap.size=gr at Q |-;have r0:=(bq1 Q).1;have C:=zf W2 (.cells #[.slice K J I] 23);have G:=C.mono F.o;have av:∀ u∈[Value.slice K J I],u.oneCell' =true:=by intro u hu;rw [uM] at hu;subst hu;rfl
    have aC:∀ u∈[Value.slice K J I],ZP u:=by intro u hu;rw [uM] at hu;subst hu;exact yf _ _ _
    have ay:∀ u∈(Value.slice none 0 0).cells,ZP u:=by intro u hu;simp [Value.cells] at hu;subst hu;exact yf _ _ _
    obtain ⟨i0,bf,a6,bi,bd⟩:=info_parts zoi;have aS:=Blk.new W2 23 #[.slice K J I]
    have aD:∀ (j:Nat) (u:Value),[Value.slice K J I][j]?=some u->(W2.alloc (.cells #[.slice K J I] 23)).cell? ((⟨W2.heap.size,0,none⟩:Addr).add j)=some u:=by
     intro j u hu
     match j with
     | 0=>
       simp at hu;subst hu;have:=aS.cell 0
       simp [Addr.add]
     | j+1=>simp at hu
    replace z:=ze (z.o.below C);replace HH:=ze (HH.out.below G);replace M:=ze (zR.below' M.o G);replace Z:=ze (zh.below' Z.o G);replace r:=ze (r.o.below C);replace E:=ze (E.o.trans G);have ak:=ze (show B<=(W2.alloc (.cells #[.slice K J I] 23)).heap.size by have:=F.o;simp only [World.size_alloc];omega);clear C G aS Q;go_wp2_with (at_builtin;go_must (refine yk (P:=prog) rfl (.tmp 19) (.tmp 22) _ rfl B 23 i0 _ 1 24 underlying132 bf a6 bi bd rfl (by omega) _ (more.length+i) R rfl z.o ⟨W2.heap.size,0,none⟩ 1 1 [.slice K J I] rfl rfl (by omega) aD av aC ay ?o4 ?o5 ?o6 ?_))
    case o4=>unfold maxLen;omega
    case o5=>omega
    case o6=>exact ak.o
    intro v3 w3 az ah bb;clear aD av aC ay r0;have aN:=fun b hb=>(z.o.1.lt b hb).1
    have N:Below B (W2.alloc (.cells #[.slice K J I] 23)) w3:=(Below.refl _ _).grown ah ak.o aN;have ap:=ze az
    have ac:Hid (Yp w3 g []):=r.o.keep (ah.block g r.o.lt (fun e=>by
     obtain ⟨cs,k1⟩:=z.o.heap e.symm;obtain ⟨_,_,⟨es,a4,V,_⟩,_⟩:=r.o
     rw [k1] at V;cases V))
    have ao:=ze ((HH.out.below N).push (zh.below' Z.o N));have aZ:=ze (zR.below' M.o N);have an:=ze (E.o.trans N)
    have a0:Hid ((rows.take i).map (·.terms) ++ [rows[i].terms]=(rows.take (i+1)).map (·.terms)):=by
     show _=_
     rw [List.take_add_one,List.getElem?_eq_getElem aV,List.map_append]
     rfl
    clear z HH M r E Z az ah bb aN N ak F;go_wp2;go_roundw
    case rel=>exact ⟨i+1,_,_,by omega,by go_num,rfl,ap,by rw [<- a0.o, <- List.append_assoc];exact ao,aZ,ac,an⟩
    case measure=>simp [intOf];omega
  obtain rfl:rows.length=i:=by omega
  rw [List.take_length] at HH;obtain ⟨L,hL⟩:=uQ (more ++ rows.map (·.terms));rw [<- hL] at HH ai;have bh:=ze hL;have aO:L.length=more.length+rows.length:=by rw [hL,List.length_append,List.length_map]
  rw [<- aO] at z;have a9:L.length<=200000:=by omega
  clear hL aO M;generalize hn:L.length=n at z a9;have HN:Hid (L.length=n):=hn;clear hn;obtain ⟨am,aR,aW,aH⟩:=zrb z.o.1;subst aW
  skip
  go_wp2
  go_loopw [27] (UnkB w B g n (.slice am n aR) R L) (fun iv _=>n - (intOf iv).toNat)
  case atStart=>exact ⟨0,uB,rfl,z,HH,r,E⟩
  case round=>
   clear z HH r E;obtain ⟨j,hj,rfl,z,HH,r,E⟩:=hrel
   by_cases a1:j<n
   rotate_left
   . obtain rfl:n=j:=by omega
     have aE:L.take n=L:=uJ (by rw [HN.o];exact uA)
     have af:∀ x∈yd L,yc x:=by
      intro x C;unfold yd at C;rw [List.mem_flatMap] at C;obtain ⟨l,hl,C⟩:=C;obtain ⟨t,U,rfl⟩:=List.mem_map.1 C;obtain ⟨i,hi,rfl⟩:=List.mem_iff_getElem.1 hl;obtain ⟨_,_,_,_,_,_,_,h6⟩:=HH.out.2 i hi;exact (h6 t (by simpa [List.getD,List.getElem?_eq_getElem hi] using U)).1
     have aU:(yd L).length<=20000000000:=by
      have h1:(yd L).length<=L.length*100000:=ze4 (fun l hl=>by
       obtain ⟨i,hi,rfl⟩:=List.mem_iff_getElem.1 hl;have:=(HH.out.2 i hi).bound
       simpa [List.getD,List.getElem?_eq_getElem hi] using this)
      rw [HN.o] at h1
      omega
     rw [aE] at r;obtain ⟨ns,T⟩:∃ ns,Hid (yd L=ns):=⟨_,rfl⟩;rw [T.o] at r af aU ai;have be:Hid (yd (more ++ rows.map (·.terms))=ns):=ze (by rw [<- bh.o,T.o]);obtain ⟨m,D,hS,a7,aG⟩:=r.o;have ab:=zme hS;have a2:=hS.size_le;have aA:=zod (some g) wr;have ax:=zjt g m D (plainElem (H:=Unit) prog 4) wr hS (by unfold maxLen;omega) (by omega);have aJ:=ze aA;have aT:=ze ax;have aK:Hid ((strKeys D).Nodup/\∀ x,x∈strKeys D↔x∈ns):=⟨ab.1,fun x=>(ab.2 x).trans (aG x)⟩;have aY:=ze af;have F:Hid (B<=wr.heap.size):=uC Y.o (Nat.le_of_lt (World.ownsMap.lt hS));clear hS aA ax z HH r HN T aE af aU a7 aG ab a2 aH;go_wp2_with fail;refine aJ.o.mono ?_;rintro e w1 ⟨rfl,rfl⟩;clear aJ;go_wp2_with fail;refine aT.o.mono ?_;rintro e w2 ⟨v,ss,rfl,ar,aM,a3,aF⟩;obtain ⟨aQ,ba,a8⟩:=hz3 ar aM aF;clear ar aM a3 aF aT;go_wp2;go_ret
     have aq:Ve (ss.mergeSort (fun x y=>decide (x<=y))) ns:=
      ⟨zb4 (aQ.o.nodup_iff.2 aK.o.1),fun x=>by rw [(List.mergeSort_perm ss _).mem_iff,aQ.o.mem_iff];exact aK.o.2 x⟩
     rw [be.o];refine ⟨v,_,rfl,aq,?_,E.o.trans (((zf wr _).mono F.o).trans (a8.o.mono (by have:=F.o;simp only [World.size_alloc];omega)))⟩;refine zgr (base:=(wr.alloc (.cells #[.map (some g)] zul)).heap.size) ?_ (ai.o _ aq) (fun x C=>aY.o x ((aq.2 x).1 C));rw [List.length_mergeSort];exact ba.o
   obtain ⟨gm,rfl⟩:=aH (by omega)
   have bk:(j:Int)<(n:Int):=by omega
   have al:j<L.length:=by rw [HN.o];exact a1
   have X:=HH.out.2 j al;obtain ⟨At,I,eH,_⟩:=id X
   have c1:wr.cell? ⟨gm,j,none⟩=some (.slice At (L.getD j []).length I):=by
    rw [z.o.1.cellAt j (by omega)];have h1:=HH.out.1;rw [<- eH]
    simp [List.getD,List.getElem?_eq_getElem (show j<R.length by omega)]
   rw [eH] at X
   have aa:Hid (yd (L.take (j+1))=yd (L.take j) ++ (L.getD j []).map (·.name)):=by
    show _=_
    rw [zhq al]
    simp [List.getD,List.getElem?_eq_getElem al]
   have aL:Hid ((yd (L.take j)).length<=20000000000):=by
    have h1:(yd (L.take j)).length<=(L.take j).length*100000:=ze4 (fun l hl=>by
     obtain ⟨i,hi,rfl⟩:=List.mem_iff_getElem.1 (List.mem_of_mem_take hl);have:=(HH.out.2 i hi).bound
     simpa [List.getD,List.getElem?_eq_getElem hi] using this)
    have h2:(L.take j).length<=200000:=by rw [List.length_take];omega
    show _<=_
    omega
   have O:=ze X;have bj:=X.bound;obtain ⟨l,aI⟩:∃ l,Hid (L.getD j []=l):=⟨_,rfl⟩;rw [aI.o] at c1 aa O bj;obtain ⟨ns,T⟩:∃ ns,Hid (yd (L.take j)=ns):=⟨_,rfl⟩;rw [T.o] at aa aL r;clear X eH;go_wp2
   go_loopw [33] (UnkC w B g n (.slice (some ⟨gm,0,none⟩) n aR) R L l (.slice At l.length I) ns) (fun iv _=>l.length - (intOf iv).toNat)
   case atStart=>exact ⟨0,uB,rfl,z,HH,O,by rw [List.take_zero,List.map_nil,List.append_nil];exact r,E⟩
   case round=>
    clear z HH r E O c1;obtain ⟨t,U,rfl,z,HH,O,r,E⟩:=hrel
    by_cases aP:t<l.length
    rotate_left
    . obtain rfl:l.length=t:=by omega
      rw [List.take_length, <- aa.o] at r;clear aI aa T;go_wp2;go_roundw
      case rel=>exact ⟨j+1,by omega,by go_num,z,HH,r,E⟩
      case measure=>simp [intOf];omega
    have bm:(t:Int)<(l.length:Int):=by omega
    obtain ⟨ad,eA,ae,p0,p1,aw,aX⟩:=O.o.at_ aP;subst eA;have au:=ze (zlw aP);have C:=zf wr (.cells #[str l[t].name,str l[t].coef] 44);have Q:=ze (Blk.new wr 44 #[str l[t].name,str l[t].coef]);have F:Hid (B<=wr.heap.size):=uC Y.o (Nat.le_of_lt (Yp.lt r.o));have G:=C.mono F.o;replace z:=ze (z.o.below C);replace HH:=ze (HH.out.below G);replace O:=ze (zh.below' O.o G);replace r:=ze (r.o.below C);replace E:=ze (E.o.trans G);have aB:=ze aw;clear C G aw aX
    go_upto_region 13 with fail
    clear p0 p1 ae;replace F:Hid (B<=(wr.alloc (.cells #[str l[t].name,str l[t].coef] 44)).heap.size):=by have:=F.o;show B<=_;simp only [World.size_alloc];omega
    generalize wr.alloc (.cells #[str l[t].name,str l[t].coef] 44)=W2 at Q O z HH r E F |-;generalize wr.heap.size=gr at Q |-;have r0:=(bq1 Q).1;obtain ⟨w3,hu,ag,aj⟩:=r.o.put aB.o (by rw [List.length_append,List.length_map,List.length_take];have:=aL.o;unfold maxLen;omega);rw [List.append_assoc, <- au.o] at ag;have N:Below B W2 w3:=(Below.refl _ _).grown aj F.o (fun c e=>by injection e with e;have:=Y.o;omega)
    have ap:=ze (z.o.chg (Chg.of_grown (S:=(· =g)) aj rfl) (fun c e e2=>by
     subst e2;obtain ⟨cs,k1⟩:=z.o.heap e;obtain ⟨_,_,⟨es,a4,V,_⟩,_⟩:=r.o
     rw [k1] at V;cases V))
    have ao:=ze (HH.out.below N);have a5:=ze (zh.below' O.o N);have ac:=ze ag;have an:=ze (E.o.trans N);clear z HH O r E ag aj N Q F au aB;go_wp2;go_roundw
    case rel=>exact ⟨t+1,by omega,by go_num,ap,ao,a5,ac,an⟩
    case measure=>simp [intOf];omega
theorem zrh {ns l:List (List UInt8)} {s:List UInt8} (hall:∀ x∈ns,x=s) (hex:ns≠[]) (h:Ve l ns):l=[s]:=by
 refine YC l [s] h.1 (List.pairwise_singleton _ _) fun x=>?_
 rw [h.2 x,uM]
 refine ⟨hall x,fun e=>?_⟩
 subst e
 obtain ⟨y,r,rfl⟩:=List.exists_cons_of_ne_nil hex
 rw [<- hall y (uP ..)]
 exact uP ..
def XW (l:List zr) (i:Nat):Int:=
 if Ze (l.getD i default).name=false then 5
 else if (zj (l.getD i default).coef).isSome=false then 4
 else yM (l.getD (i - 1) default).name (l.getD i default).name (decide (i=0))
def xm (l:List zr):Int:=xt l.length (XW l)
def PntR (w0:World) (b B:Nat) (tv:Value) (l:List zr) (kv:Value) (wr:World):Prop:=
 ∃ k:Nat,k<=l.length/\kv= .int .i64 k/\Hid (∀ j,j<k->XW l j=0)/\Hid (zu wr b)/\Hid (zh wr B tv l)/\Hid (Chg (· =b) w0 wr)
theorem zaq (b:Nat) (A:Option Addr) (n c:Nat) (l:List zr) (w:World) (hB:zu w b) (ht:yu w (.slice A n c) l):Calls prog 19 #[.map (some b),.slice A n c] w (XX b (xm l) w):=by
 obtain rfl:=ht.len
 have ar:=ht.bound
 have m:=ze hB
 have u:=ze ht
 have r:=ze (Chg.refl (S:=(· =b)) w)
 clear hB ht
 go_in
 go_wp2
 go_loopw [12] (PntR w b w.heap.size (.slice A l.length c) l) (fun kv _=>l.length - (intOf kv).toNat)
 case atStart=>exact ⟨0,uB,rfl,(fun j h=>by omega),m,u,r⟩
 case round=>
  clear m u r
  obtain ⟨k,hk,rfl,D,m,u,r⟩:=hrel
  by_cases L:k<l.length
  rotate_left
  . obtain rfl:l.length=k:=by omega
    have E:Hid (xm l=0):=yT.2 D.o;go_wp2;go_ret;exact ⟨by rw [E.o];rfl,m.o,r.o⟩
  have au:(k:Int)<(l.length:Int):=by omega
  obtain ⟨ad,eA,Q,J,I,R,am⟩:=u.o.at_ L;subst eA;have z:=zf wr (.cells #[str l[k].name,str l[k].coef] 78);have y:=ze (Blk.new wr 78 #[str l[k].name,str l[k].coef]);replace m:=ze (m.o.below z);replace u:=ze (zh.below u.o z);replace r:=ze (zD r.o z);have ac:=xGD (d:=default) L;have aa:=ze ac;have ao:=ze am;have N:=fun w=>zcl l[k].name w R
  clear z ac R am
  go_upto_region 4 with fail
  clear J I Q;generalize wr.alloc (.cells #[str l[k].name,str l[k].coef] 78)=WL at y m u r |-;generalize wr.heap.size=gt at y |-;have J:=(bq1 y).1
  cases hin:Ze l[k].name with
  | false=>
    rw [hin] at N;have B:Hid (XW l k=5):=by show XW l k=5;unfold XW;rw [aa.o,hin];rfl
    have E:Hid (xm l=5):=(xQ L D.o (by rw [B.o];decide)).trans B.o;clear hin;go_wp2_with fail;refine (N _).mono ?_;rintro e w1 ⟨rfl,rfl⟩;go_wp2;go_ret;exact ⟨by rw [E.o];rfl,m.o,r.o⟩
  | true=>
    rw [hin] at N;have ai:=ze hin;have ab:=xu b ⟨l[k].coef.toArray⟩ WL m.o (by rw [<- zt,yG];exact ao.o);rw [yG] at ab;have ah:=ze ab;have I:=y.o.cell 1;simp at I;clear hin ab;go_wp2_with fail;refine (N _).mono ?_;rintro e w1 ⟨rfl,rfl⟩;clear N;go_wp2_with fail;refine ah.o.mono ?_;rintro e w2 ⟨v,ok,rfl,⟨x1,A1,k1,c1,s1,y1,B1,ak,al,t1,rfl⟩,T,hq,ag,U⟩;clear ah J I;replace u:=ze (m.o.keepT U u.o);replace y:=ze (m.o.keepBlk U y.o);replace r:=ze (yp r.o U);replace m:=ze ag;have z:=zf w2 (.cells #[.int .i64 x1,.slice A1 k1 c1,.bool s1,.int .i64 y1,.slice B1 ak al,.bool t1] 60);replace m:=ze (m.o.below z);replace u:=ze (zh.below u.o z);replace y:=kb_ y z;replace r:=ze (zD r.o z);clear ag U z
    cases hr:zj l[k].coef with
    | none=>
      rw [hr] at T;subst T;have B:Hid (XW l k=4):=by show XW l k=4;unfold XW;rw [aa.o,ai.o,hr];rfl
      have E:Hid (xm l=4):=(xQ L D.o (by rw [B.o];decide)).trans B.o;clear hq hr;go_wp2;go_ret;exact ⟨by rw [E.o];rfl,m.o,r.o⟩
    | some q=>
      rw [hr] at T;subst T
      have ae:Hid (XW l k=yM (l.getD (k - 1) default).name l[k].name (decide (k=0))):=by
       show _=_
       unfold XW;rw [aa.o,ai.o,hr]
       rfl
      clear hq hr
      go_upto_region 9 with fail
      generalize w2.alloc (.cells #[.int .i64 x1,.slice A1 k1 c1,.bool s1,.int .i64 y1,.slice B1 ak al,.bool t1] 60)=w4 at m u y r |-;obtain ⟨C,an⟩:=uQ (k - 1);have af:C<l.length:=by omega
      obtain ⟨av,X,Q,J,I,R,_⟩:=u.o.at_ af;injection X with X
      subst X;have aw:max ((k:Int) - 1) 0=(C:Int):=by omega
      have ay:IntKind.i64.wrap ((k:Int) - 1)=(k:Int) - 1:=by rw [IntKind.wrap_i64];omega
      have ax:(C:Int)<(l.length:Int):=by omega
      have t0:=(bq1 y).1;have tL:=y.o.lt;have aL:ad.block<w4.heap.size:=uK Q r.o.size;obtain ⟨F,Y⟩:=uR (yM l[C].name l[k].name (decide (k=0)));have Z:=fun w=>zev l[C].name l[k].name (decide (k=0)) w
      rw [Y] at Z;have dk:((k:Int) == 0)=decide (k=0):=by by_cases h:k=0<;>simp [h]
      have B:Hid (XW l k=F):=by
       show XW l k=F
       rw [ae.o, <- Y];have aq:l.getD (k - 1) default=l[C]:=by rw [<- an];simp [List.getD,List.getElem?_eq_getElem af]
       rw [aq]
      have aj:=ze Z;clear Y Z I R Q an ae;have V:∀ w',Hid (Below w4.heap.size w4 w')->w'.cell? (ad.add (C*2))=some (str l[C].name)/\w'.cell? ⟨gt,0,none⟩=some (str l[k].name):=fun w' hB=>⟨zs4 hB aL J,zl hB tL t0⟩
      refine y8 V 11 1 12 (zv w4) fun M=>?_;simp only [xDR]
      iterate 11 refine zH ?_
      refine zB ?_;refine rK 11 fun K hK=>?_
      go_simp
      go_at_call 51;refine (aj.o _).mono ?_;rintro e w5 ⟨rfl,rfl⟩;refine hK.out _ _ (zm (M.1) (V _)) ?_;clear hK K M;intro M
      try simp only [Act.put,xST]
      have O:=(M.1).out;replace m:=ze (zu.below m.o O);replace u:=ze (zh.below u.o O);replace r:=ze (zD r.o O);clear O M V;refine hdn ?_;simp only [xDR];clear J t0 tL aL aj
      by_cases G:F=0
      rotate_left
      . have d1:(F != 0)=true:=by rw [bne_iff_ne];exact G
        have E:Hid (xm l=F):=(xQ L D.o (by rw [B.o];exact G)).trans B.o;clear G D;go_wp2;go_ret;exact ⟨by rw [E.o];rfl,m.o,r.o⟩
      have d1:(F != 0)=false:=by rw [bne_eq_false_iff_eq];exact G
      have ap:Hid (∀ j,j<k+1->XW l j=0):=fun j hj=>by
       by_cases e:j=k
       . subst e;exact B.o.trans G
       exact D.o j (by omega)
      clear G D;go_wp2;go_roundw
      case rel=>exact ⟨k+1,by omega,by go_num,ap,m,u,r⟩
      case measure=>simp [intOf];omega
def zkm (a b:List UInt8):Int:=if a<b then -1 else if b<a then 1 else 0
theorem zr0 (a b:List UInt8):zkm a b<0↔a<b:=by
 unfold zkm
 split
 . exact ⟨fun _=>‹_›,fun _=>by omega⟩
 split<;>exact ⟨fun h=>by omega,fun h=>absurd h ‹_›⟩
theorem zoj (a b:List UInt8):zkm a b=0↔a=b:=by
 unfold zkm
 constructor
 rotate_left
 . intro h
   subst h;rw [if_neg (xF a),if_neg (xF a)]
 intro h
 split at h
 . omega
 split at h
 . omega
 exact zja a b ‹_› ‹_›
theorem zid (a b:List UInt8) (w:World):Calls prog 100 #[str a,str b] w (zaw w (.int .i64 (zkm a b))):=by
 have y:=fun w=>zdp ⟨a.toArray⟩ w
 have u:=fun w=>zdp ⟨b.toArray⟩ w
 have hl:=Y5 a b
 have z:=Y5 b a
 by_cases j:a<b
 . have r:Hid (zkm a b= -1):=by show _=_;unfold zkm;exact if_pos j
   rw [uE j] at hl;clear j z
   go_in
   go_wp2_with fail;refine (y _).mono ?_;rintro e m ⟨rfl,rfl⟩;go_wp2_with fail;refine (u _).mono ?_;rintro e m ⟨rfl,rfl⟩;go_wp2;go_ret;exact ⟨by rw [r.o];rfl,rfl⟩
 rw [uF j] at hl
 by_cases l:b<a
 . have r:Hid (zkm a b=1):=by show _=_;unfold zkm;rw [if_neg j,if_pos l]
   rw [uE l] at z;have B:(a == b)=false:=by rw [beq_eq_false_iff_ne];intro e;subst e;exact xF _ l
   clear j l
   go_in
   go_wp2_with fail;refine (y _).mono ?_;rintro e m ⟨rfl,rfl⟩;go_wp2_with fail;refine (u _).mono ?_;rintro e m ⟨rfl,rfl⟩;go_wp2;go_ret;exact ⟨by rw [r.o];rfl,rfl⟩
 have r:Hid (zkm a b=0):=by show _=_;unfold zkm;rw [if_neg j,if_neg l]
 rw [uF l] at z;have B:(a == b)=true:=by rw [beq_iff_eq];exact zja a b j l
 clear j l
 go_in
 go_wp2_with fail;refine (y _).mono ?_;rintro e m ⟨rfl,rfl⟩;go_wp2_with fail;refine (u _).mono ?_;rintro e m ⟨rfl,rfl⟩;go_wp2;go_ret;exact ⟨by rw [r.o];rfl,rfl⟩
theorem zvj (a c b:List UInt8) (w:World):Calls prog 99 #[.agg #[str a,str c],str b] w (zj3 w (.int .i64 (zkm a b))):=by
 have l:=zf w (.cells #[str a,str c] 78)
 have j:=Blk.new w 78 #[str a,str c]
 have m:=(bp1 j).1
 have u:=ze l
 have r:=fun w=>zid a b w
 clear j l
 go_in
 go_wp2_with fail
 refine (r _).mono ?_
 rintro e y ⟨rfl,rfl⟩
 clear m
 go_wp2
 go_ret
 exact ⟨rfl,u.o⟩
def BnvR (w0:World) (B:Nat) (tv:Value) (l:List zr) (s:List UInt8) (iv jv:Value) (wr:World):Prop:=
 ∃ i j:Nat,i<=j/\j<=l.length/\iv= .int .i64 i/\jv= .int .i64 j/\Hid (∀ k (h:k<l.length),k<i->l[k].name<s)/\Hid (∀ k (h:k<l.length),j<=k->¬ l[k].name<s)/\Hid (zh wr B tv l)/\Hid (Below w0.heap.size w0 wr)
def zux (w:World) (l:List zr) (s:List UInt8) (e:Ending) (w' :World):Prop:=
 ∃ (k:Nat) (f:Bool),e= .returned (.tuple #[.int .i64 k,.bool f])/\k<=l.length/\(f=true->∃ h:k<l.length,l[k].name=s)/\(f=false->∀ i (h:i<l.length),l[i].name≠s)/\Below w.heap.size w w'
abbrev atFn:Value:=.func (.func 99) #[] #[]
theorem zfp (A:Option Addr) (n c B:Nat) (l:List zr) (s:List UInt8) (w:World) (ht:zh w B (.slice A n c) l) (hB:B<=w.heap.size) (hinc:∀ i j (hi:i<l.length) (hj:j<l.length),i<j->l[i].name<l[j].name):
 Calls prog 98 #[.slice A n c,str s,atFn] w (zux w l s):=by
 obtain rfl:=ht.len
 have hl:=ht.bound
 obtain ⟨D,Y,R⟩:=hz3 ht hB hinc
 have m:=ze (Below.refl w.heap.size w)
 have X:=fun a c w=>zvj a c s w
 have Z:=ze X
 clear ht hB hinc X
 go_in
 go_wp2
 go_loopw [9,10] (BnvR w B (.slice A l.length c) l s) (fun iv jv _=>(intOf jv).toNat - (intOf iv).toNat)
 case atStart=>exact ⟨0,l.length,uB,uA,rfl,rfl,ze (fun k h hk=>by omega),ze (fun k h hk=>by omega),D,m⟩
 case round=>
  clear D m
  obtain ⟨i,j,ai,af,rfl,rfl,T,ab,D,m⟩:=hrel
  by_cases ah:i<j
  rotate_left
  . obtain rfl:i=j:=by omega
    by_cases L:i<l.length
    rotate_left
    . obtain rfl:l.length=i:=by omega
      have J:Hid (∀ k (h:k<l.length),l[k].name≠s):=ze (fun k hk he=>xF s (by have:=T.o k hk hk;rw [he] at this;exact this));have ak:¬ (l.length:Int)<(l.length:Int):=by omega
      go_wp2;go_ret2;exact ⟨l.length,false,rfl,uA,(fun h=>by cases h),(fun _=>J.o),m.o⟩
    have ag:(i:Int)<(l.length:Int):=by omega
    obtain ⟨ad,Q,S,N,K,_,_⟩:=D.o.at_ L;subst Q;have u:=Z.o l[i].name l[i].coef wr;obtain ⟨z,F⟩:=uR (zkm l[i].name s);have M:=zoj l[i].name s;rw [F] at u M;have C:=ze u
    have J:Hid (decide (z=0)=false->∀ k (h:k<l.length),l[k].name≠s):=ze (fun r k hk he=>by
     have r:=of_decide_eq_false r
     rcases uL k i with h | h
     . exact xF s (by have:=T.o k hk h;rw [he] at this;exact this)
     . by_cases e:k=i
       . subst e;exact r (M.2 he)
       have G:=R.o i k L hk (by omega)
       rw [he] at G
       exact ab.o i L (uA) G)
    have aa:Hid (decide (z=0)=true->∃ h:i<l.length,l[i].name=s):=ze (fun r=>⟨L,M.1 (uG r)⟩);have dz:(z == 0)=decide (z=0):=by by_cases h:z=0<;>simp [h]
    obtain ⟨f,r⟩:=uR (decide (z=0));rw [r] at J aa dz;clear F u M S r;go_wp2_with fail;refine C.o.mono ?_;rintro e V ⟨rfl,b⟩;have I:=ze (ext m.o b);clear b C N K;go_wp2;go_ret2;exact ⟨i,f,rfl,af,aa.o,J.o,I.o⟩
  have ag:(i:Int)<(j:Int):=by omega
  obtain ⟨h,hh⟩:=uQ ((i+j) / 2);have O:h<l.length:=by omega
  have aj:(h:Int)<(l.length:Int):=by omega
  have e1:IntKind.i64.wrap ((i:Int)+(j:Int))=(i:Int)+(j:Int):=by rw [IntKind.wrap_i64];omega
  have e2:((i:Int)+(j:Int)) / 2=(h:Int):=by omega
  obtain ⟨ad,Q,S,N,K,_,_⟩:=D.o.at_ O;subst Q;have h1:i<=h:=by omega
  have h2:h<j:=by omega
  have u:=Z.o l[h].name l[h].coef wr;have HH:=ze hh;clear hh S;obtain ⟨z,F⟩:=uR (zkm l[h].name s);have y:=zr0 l[h].name s;rw [F] at u y;have C:=ze u
  by_cases E:z<0
  . have ac:Hid (∀ k (hk:k<l.length),k<h+1->l[k].name<s):=ze (fun k hk hkh=>by
     by_cases e:k=h
     . subst e;exact y.1 E
     have G:=R.o k h hk O (by omega)
     exact Xo G (y.1 E))
    have d0:decide (z<0)=true:=uE E;clear F u y;go_wp2_with fail;refine C.o.mono ?_;rintro e V ⟨rfl,b⟩;have U:=ze (zh.below' D.o (b.mono (uC Y.o m.o.size)));have I:=ze (ext m.o b);clear b C N K;go_wp2;go_roundw
    case rel=>exact ⟨h+1,j,by omega,by omega,by go_num,rfl,ac,ab,U,I⟩
    case measure=>simp [intOf];omega
  have ae:Hid (∀ k (hk:k<l.length),h<=k->¬ l[k].name<s):=ze (fun k hk hkh hl=>by
   by_cases e:k=h
   . subst e;exact E (y.2 hl)
   have G:=R.o h k O hk (by omega)
   exact E (y.2 (Xo G hl)))
  have d0:decide (z<0)=false:=uF E;clear F u y;go_wp2_with fail;refine C.o.mono ?_;rintro e V ⟨rfl,b⟩;have U:=ze (zh.below' D.o (b.mono (uC Y.o m.o.size)));have I:=ze (ext m.o b);clear b C N K;go_wp2;go_roundw
  case rel=>exact ⟨i,h,by omega,by omega,rfl,by go_num,T,ae,U,I⟩
  case measure=>simp [intOf];omega
def Zq:List zr->List UInt8->Rat
 | [],_=>0
 | t :: l,s=>if t.name=s then (zj t.coef).getD 0 else Zq l s
theorem zp5:∀ (l:List zr) (k:Nat) (s:List UInt8) (h:k<l.length),(∀ j (hj:j<l.length),j<k->l[j].name≠s)->l[k].name=s->Zq l s=(zj l[k].coef).getD 0
 | [],k,s,h,_,_=>absurd h (Nat.not_lt_zero _)
 | t :: l,0,s,h,_,h2=>by
   unfold Zq;rw [if_pos (by simpa using h2)]
   rfl
 | t :: l,k+1,s,h,h1,h2=>by
   unfold Zq;rw [if_neg (show ¬ t.name=s from h1 0 (Nat.succ_pos _) (Nat.succ_pos _))];exact zp5 l k s (by simpa using h) (fun j hj hjk=>h1 (j+1) (Nat.succ_lt_succ hj) (Nat.succ_lt_succ hjk)) h2
theorem zh1:∀ (l:List zr) (s:List UInt8),(∀ j (hj:j<l.length),l[j].name≠s)->Zq l s=0
 | [],s,_=>rfl
 | t :: l,s,h=>by
   unfold Zq;rw [if_neg (show ¬ t.name=s from h 0 (Nat.succ_pos _))];exact zh1 l s (fun j hj=>h (j+1) (Nat.succ_lt_succ hj))
structure zga (l:List zr):Prop where
 inc:∀ i j (hi:i<l.length) (hj:j<l.length),i<j->l[i].name<l[j].name
 val:∀ i (hi:i<l.length),(zj l[i].coef).isSome=true
theorem zga.of {l:List zr} (h:xm l=0):zga l:=by
 have m:=yT.1 h
 have hb:∀ i (hi:i+1<l.length),l[i].name<l[i+1].name:=fun i hi=>by
  have:=m (i+1) hi
  unfold XW at this
  have e:l.getD (i+1) default=l[i+1]:=by simp [List.getD,List.getElem?_eq_getElem hi]
  have r:l.getD (i+1 - 1) default=l[i]:=by rw [Nat.add_sub_cancel];simp [List.getD,List.getElem?_eq_getElem (show i<l.length by omega)]
  rw [e,r] at this
  split at this
  . omega
  split at this
  . omega
  unfold yM at this
  split at this
  rotate_left
  . split at this<;>omega
  rename_i b
  rcases b with b | b
  . simp at b
  . exact b
 refine ⟨fun i j hi hj hij=>?_,fun i hi=>?_⟩
 . obtain ⟨d,rfl⟩:∃ d,j=i+1+d:=⟨j - i - 1,by omega⟩
   clear hij
   induction d with
   | zero=>exact hb i hj
   | succ d ih=>exact Xo (ih (by omega)) (hb (i+1+d) hj)
 have:=m i hi
 unfold XW at this;have e:=xGD (d:=default) hi;rw [e] at this
 split at this
 . omega
 split at this
 . omega
 rename_i b
 cases h8:(zj l[i].coef).isSome with
 | false=>exact absurd h8 b
 | true=>rfl
def zs8 (w:World) (b:Nat) (q:Rat) (e:Ending) (w' :World):Prop:=∃ v,e= .returned v/\zV w' v q/\zu w' b/\Chg (· =b) w w'
theorem zim {w W:World} {b g:Nat} {q:Rat} {x y x0 y0:Int} {A B A0 B0:Option Addr} {k c k' c' k0 c0 k1 c1:Nat} {s t s0 t0:Bool} {t' :TypeId} (hg:w.heap.size<=g) (hbl:b<w.heap.size) (hb:zu W b) (hc:Chg (· =b) w W)
 (hk:Blk W g t' #[.int .i64 x0,.slice A0 k0 c0,.bool s0,.int .i64 y0,.slice B0 k1 c1,.bool t0]) (hv:zV W (.agg #[.int .i64 x,.slice A k c,.bool s,.int .i64 y,.slice B k' c',.bool t]) q):
 zV (World.rat W g x A k c s y B k' c' t) (.agg #[.int .i64 x,.slice A k c,.bool s,.int .i64 y,.slice B k' c',.bool t]) q/\zu (World.rat W g x A k c s y B k' c' t) b/\Chg (· =b) w (World.rat W g x A k c s y B k' c' t):=by
 have hS:∀ z,z=g->zO W z:=fun z hz=>by subst hz;exact hk.noDig (Yg _ _ _ _ _ _ _ _ _ _)
 have e:=Chg.ratSet (w:=W) (g:=g) (x:=x) (A:=A) (k:=k) (c:=c) (s:=s) (y:=y) (B:=B) (k' :=k') (c' :=c') (t:=t)
 exact ⟨e.rat hv hS,hb.chg e (by omega) hS,Chg.trans (S:=fun z=>z=b) (T:=fun z=>z=g) hc e (fun z hz h=>absurd hz (by omega))⟩
theorem zvb (b:Nat) (A:Option Addr) (n c B:Nat) (l:List zr) (s:List UInt8) (w:World) (hB:zu w b) (ht:zh w B (.slice A n c) l) (hBB:B<=w.heap.size) (hg:zga l):
 Calls prog 56 #[.map (some b),.slice A n c,str s] w (zs8 w b (Zq l s)):=by
 obtain rfl:=ht.len
 have hl:=ht.bound
 have U:=zf w (.cells #[.int .i64 0,.slice none 0 0,.bool false,.int .i64 0,.slice none 0 0,.bool false] 60)
 have m:=ze (Blk.new w 60 #[.int .i64 0,.slice none 0 0,.bool false,.int .i64 0,.slice none 0 0,.bool false])
 have aj:=zfp A l.length c B l s _ (zh.below ht U) (uC hBB U.size) hg.inc
 have u:=ze (hB.below U)
 have ao:=ze hB.lt
 have HT:=ze (zh.below ht U)
 have z:Hid (Chg (· =b) w (w.alloc (.cells #[.int .i64 0,.slice none 0 0,.bool false,.int .i64 0,.slice none 0 0,.bool false] 60))):=Chg.of_below U
 have HG:=ze hg
 have al:Hid (w.heap.size<=w.heap.size):=uA
 have ai:=ze aj
 clear hB ht hBB hg U aj
 go_in
 go_wp2_with fail
 refine ai.o.mono ?_
 rintro e w1 ⟨k,f,rfl,hk,ae,ac,X⟩
 clear ai
 replace u:=ze (u.o.below X)
 replace HT:=ze (zh.below HT.o X)
 replace m:=kb_ m X
 replace z:=ze (zD z.o X)
 clear X
 cases f with
 | false=>
   have HV:Hid (Zq l s=0):=ze (zh1 l s (ac rfl));clear ae ac hk;go_wp2_with fail;refine (ZN 0 _ (by omega) (by omega)).mono ?_;rintro e w2 ⟨v,rfl,hv,aa⟩;obtain ⟨M,E,C,F,L,D,K,G,I,J,rfl⟩:=hv.agg;have Z:=ze hv;replace u:=ze (u.o.below aa);replace m:=kb_ m aa;replace z:=ze (zD z.o aa);have a0:=m.o.cell 0;have a1:=m.o.cell 1;have a2:=m.o.cell 2;have a3:=m.o.cell 3;have a4:=m.o.cell 4;have a5:=m.o.cell 5;obtain ⟨f0,f1,f2,f3,f4,f5⟩:=fq6 m;simp at a0 a1 a2 a3 a4 a5;clear aa hv;go_wp2_with fail;have r:=yj (x:=M) (A:=E) (k:=C) (c:=F) (s:=L) (y:=D) (B:=K) (k' :=G) (c' :=I) (t:=J) m.o;have r0:=r.cell 0;have Q:=r.cell 1;have T:=r.cell 2;have O:=r.cell 3;have R:=r.cell 4;have S:=r.cell 5;simp only [World.rat] at r0 Q T O R S;simp at r0 Q T O R S
   refine bodyPost_ret (v:=.agg #[.int .i64 M,.slice E C F,.bool L,.int .i64 D,.slice K G I,.bool J]) (by simp [results,results56,go_sem,r0,Q,T,O,R,S]) rfl ?_;obtain ⟨z1,z2,z3⟩:=zim (x:=M) (A:=E) (k:=C) (c:=F) (s:=L) (y:=D) (B:=K) (k' :=G) (c' :=I) (t:=J) al.o ao.o u.o z.o m.o Z.o;exact ⟨_,rfl,by rw [HV.o];exact z1,z2,z3⟩
 | true=>
   obtain ⟨Y,ab⟩:=ae rfl;have HV:Hid (Zq l s=(zj l[k].coef).getD 0):=ze (zp5 l k s Y (fun j hj hjk he=>xF s (by have:=HG.o.inc j k hj Y hjk;rw [he,ab] at this;exact this)) ab);have av:(k:Int)<(l.length:Int):=by omega
   obtain ⟨ad,eA,aq,p0,p1,ar,ap⟩:=HT.o.at_ Y;subst eA;have ak:=HG.o.val k Y;obtain ⟨q,an⟩:=Option.isSome_iff_exists.1 ak;have af:=xu b ⟨l[k].coef.toArray⟩ w1 u.o (by rw [<- zt,yG];exact ap);rw [yG] at af;have am:=ze af;have HQ:=ze an;clear ae ac ab ar ap ak af an p0 aq;go_wp2_with fail;refine am.o.mono ?_;rintro e w2 ⟨v,ok,rfl,⟨M,E,C,F,L,D,K,G,I,J,rfl⟩,au,hq,ah,ag⟩;clear am p1;replace m:=ze (u.o.keepBlk ag m.o);replace z:=ze (yp z.o ag);replace u:=ze ah;have V:=zf w2 (.cells #[.int .i64 M,.slice E C F,.bool L,.int .i64 D,.slice K G I,.bool J] 60);have N:=ze (Blk.new w2 60 #[.int .i64 M,.slice E C F,.bool L,.int .i64 D,.slice K G I,.bool J]);have Z:=ze ((hq q HQ.o).below V);replace u:=ze (u.o.below V);replace m:=kb_ m V;replace z:=ze (zD z.o V);clear ah ag V hq au
   go_upto_region 5 with fail
   generalize w2.alloc (.cells #[.int .i64 M,.slice E C F,.bool L,.int .i64 D,.slice K G I,.bool J] 60)=W3 at N Z u m z |-;generalize w2.heap.size=gx at N |-;have e0:=N.o.cell 0;have e1:=N.o.cell 1;have e2:=N.o.cell 2;have e3:=N.o.cell 3;have e4:=N.o.cell 4;have e5:=N.o.cell 5;have a0:=m.o.cell 0;have a1:=m.o.cell 1;have a2:=m.o.cell 2;have a3:=m.o.cell 3;have a4:=m.o.cell 4;have a5:=m.o.cell 5;obtain ⟨f0,f1,f2,f3,f4,f5⟩:=fq6 m;simp at a0 a1 a2 a3 a4 a5 e0 e1 e2 e3 e4 e5;go_wp2_with fail;have r:=yj (x:=M) (A:=E) (k:=C) (c:=F) (s:=L) (y:=D) (B:=K) (k' :=G) (c' :=I) (t:=J) m.o;have r0:=r.cell 0;have Q:=r.cell 1;have T:=r.cell 2;have O:=r.cell 3;have R:=r.cell 4;have S:=r.cell 5;simp only [World.rat] at r0 Q T O R S;simp at r0 Q T O R S
   refine bodyPost_ret (v:=.agg #[.int .i64 M,.slice E C F,.bool L,.int .i64 D,.slice K G I,.bool J]) (by simp [results,results56,go_sem,r0,Q,T,O,R,S]) rfl ?_;obtain ⟨z1,z2,z3⟩:=zim (x:=M) (A:=E) (k:=C) (c:=F) (s:=L) (y:=D) (B:=K) (k' :=G) (c' :=I) (t:=J) al.o ao.o u.o z.o m.o Z.o;exact ⟨_,rfl,by rw [HV.o,HQ.o];exact z1,z2,z3⟩
def yX (t:zr):Rat:=(zj t.coef).getD 0
def XI (p l:List zr):Nat->Rat
 | 0=>0
 | k+1=>XI p l k+yX (l.getD k default)*Zq p (l.getD k default).name
structure Xx (l p:List zr):Prop where
 few:l.length<=400
 coef:∀ k,k<l.length->∃ q,zj (l.getD k default).coef=some q/\Dz 8000 q
 pt:zga p
 val:∃ M,M<=60000/\l.length*(M+8001)<=8000000/\∀ s,Dz M (Zq p s)
theorem Xx.tots {l p:List zr} (h:Xx l p) {M:Nat} (hM:∀ s,Dz M (Zq p s)):∀ k,k<=l.length->Dz (k*(M+8001)+1) (XI p l k)
 | 0,_=>Dz.zero _
 | k+1,hk=>by
   obtain ⟨q,b,hd⟩:=h.coef k (by omega);have e:yX (l.getD k default)=q:=by unfold yX;rw [b];rfl
   unfold XI;rw [e];exact Dz.add (Xx.tots h hM k (by omega)) (Dz.mul hd (hM _) (uA)) (by rw [Nat.add_mul];omega)
theorem Xx.tot {l p:List zr} (h:Xx l p) (k:Nat) (hk:k<=l.length):∃ e,e<=8000001/\Dz e (XI p l k):=by
 obtain ⟨M,_,j,b⟩:=h.val
 have m:k*(M+8001)<=l.length*(M+8001):=Nat.mul_le_mul_right _ hk
 exact ⟨_,Nat.succ_le_succ (uC m j),h.tots b k hk⟩
theorem Xx.rlen {l p:List zr} (h:Xx l p) {k:Nat} (hk:k<=l.length):xJ 8388608 (XI p l k):=by
 obtain ⟨e,b,hd⟩:=h.tot k hk
 exact (xJ.of_dz hd).more (by omega)
def ziu (w:World) (g:Nat) (q:Rat):Prop:=∃ (x:Int) (A:Option Addr) (k c:Nat) (s:Bool) (y:Int) (B:Option Addr) (k' c' :Nat) (t:Bool),Blk w g 60 #[.int .i64 x,.slice A k c,.bool s,.int .i64 y,.slice B k' c',.bool t]/\zV w (.agg #[.int .i64 x,.slice A k c,.bool s,.int .i64 y,.slice B k' c',.bool t]) q
theorem ziu.lt {w:World} {g:Nat} {q:Rat} (h:ziu w g q):g<w.heap.size:=by obtain ⟨_,_,_,_,_,_,_,_,_,_,b,_⟩:=h;exact b.lt
theorem ziu.below {w w' :World} {g:Nat} {q:Rat} (h:ziu w g q) (hb:Below w.heap.size w w'):ziu w' g q:=by
 obtain ⟨_,_,_,_,_,_,_,_,_,_,b,hv⟩:=h
 exact ⟨_,_,_,_,_,_,_,_,_,_,b.below hb b.lt,hv.below hb⟩
theorem zu.keepRB {w w' :World} {b g:Nat} {q:Rat} (h:zu w b) (hc:Chg (· =b) w w') (e:ziu w g q):ziu w' g q:=by
 obtain ⟨_,_,_,_,_,_,_,_,_,_,e,hv⟩:=e
 exact ⟨_,_,_,_,_,_,_,_,_,_,h.keepBlk hc e,h.keepR hc hv⟩
def BsmR (w0:World) (b g go:Nat) (tv pv:Value) (l p:List zr) (kv:Value) (wr:World):Prop:=
 ∃ k:Nat,k<=l.length/\kv= .int .i64 k/\Hid (ziu wr go (XI p l k))/\Hid (zu wr b)/\Hid (zh wr w0.heap.size tv l)/\Hid (zh wr w0.heap.size pv p)/\Hid (Blk wr g 60 #[.int .i64 0,.slice none 0 0,.bool false,.int .i64 0,.slice none 0 0,.bool false])/\Hid (Chg (· =b) w0 wr)
theorem zbx (b:Nat) (A AP:Option Addr) (n c np cp:Nat) (l p:List zr) (w:World) (hB:zu w b) (ht:yu w (.slice A n c) l) (hp:yu w (.slice AP np cp) p) (ho:Xx l p):
 Calls prog 21 #[.map (some b),.slice A n c,.slice AP np cp] w (zs8 w b (XI p l l.length)):=by
 obtain rfl:=ht.len
 have G:=zf w (.cells #[.int .i64 0,.slice none 0 0,.bool false,.int .i64 0,.slice none 0 0,.bool false] 60)
 have m:=ze (Blk.new w 60 #[.int .i64 0,.slice none 0 0,.bool false,.int .i64 0,.slice none 0 0,.bool false])
 have j:=ze (hB.below G)
 have ap:=ze hB.lt
 have C:=ze (zh.below ht G)
 have u:=ze (zh.below hp G)
 have r:Hid (Chg (· =b) w (w.alloc (.cells #[.int .i64 0,.slice none 0 0,.bool false,.int .i64 0,.slice none 0 0,.bool false] 60))):=Chg.of_below G
 have HO:=ze ho
 have hl:=ho.few
 clear hB ht hp ho G
 go_in
 go_wp2_with fail
 refine (ZN 0 _ (by omega) (by omega)).mono ?_
 rintro e w1 ⟨v,rfl,hv,av⟩
 obtain ⟨x1,L,k1,R,Y,Q,N,U,ab,X,rfl⟩:=hv.agg
 have F:=zf w1 (.cells #[.int .i64 x1,.slice L k1 R,.bool Y,.int .i64 Q,.slice N U ab,.bool X] 60)
 have E:Hid (ziu (w1.alloc (.cells #[.int .i64 x1,.slice L k1 R,.bool Y,.int .i64 Q,.slice N U ab,.bool X] 60)) w1.heap.size (XI p l 0)):=⟨_,_,_,_,_,_,_,_,_,_,Blk.new w1 _ _,hv.below F⟩
 have ah:=av.trans (F.mono av.size)
 replace j:=ze (j.o.below ah)
 replace C:=ze (zh.below C.o ah)
 replace u:=ze (zh.below u.o ah)
 have ac:Hid (w.heap.size<w1.heap.size):=ze (by have:=m.o.lt;have:=av.size;omega)
 replace m:=kb_ m ah
 replace r:=ze (zD r.o ah)
 clear av F ah hv
 go_upto_region 2 with fail
 generalize w1.alloc (.cells #[.int .i64 x1,.slice L k1 R,.bool Y,.int .i64 Q,.slice N U ab,.bool X] 60)=W at E j C u m r |-
 generalize w1.heap.size=go at E ac |-
 go_wp2
 go_loopw [15] (BsmR w b w.heap.size go (.slice A l.length c) (.slice AP np cp) l p) (fun kv _=>l.length - (intOf kv).toNat)
 case atStart=>exact ⟨0,uB,rfl,E,j,C,u,m,r⟩
 case round=>
  clear E j C u m r
  obtain ⟨k,hk,rfl,E,j,C,u,m,r⟩:=hrel
  by_cases aB:k<l.length
  rotate_left
  . obtain rfl:l.length=k:=by omega
    obtain ⟨x1,L,k1,R,Y,Q,N,U,ab,X,am,an⟩:=E.o;have D:=ze am;have I:=ze an;have bd:Hid (w.heap.size<=w.heap.size):=uA;clear am an E;have e0:=D.o.cell 0;have e1:=D.o.cell 1;have e2:=D.o.cell 2;have e3:=D.o.cell 3;have e4:=D.o.cell 4;have e5:=D.o.cell 5;have a0:=m.o.cell 0;have a1:=m.o.cell 1;have a2:=m.o.cell 2;have a3:=m.o.cell 3;have a4:=m.o.cell 4;have a5:=m.o.cell 5;obtain ⟨f0,f1,f2,f3,f4,f5⟩:=fq6 m;simp at a0 a1 a2 a3 a4 a5 e0 e1 e2 e3 e4 e5;go_wp2_with fail;have ak:=yj (x:=x1) (A:=L) (k:=k1) (c:=R) (s:=Y) (y:=Q) (B:=N) (k' :=U) (c' :=ab) (t:=X) m.o;have r0:=ak.cell 0;have r1:=ak.cell 1;have r2:=ak.cell 2;have r3:=ak.cell 3;have r4:=ak.cell 4;have r5:=ak.cell 5;simp only [World.rat] at r0 r1 r2 r3 r4 r5;simp at r0 r1 r2 r3 r4 r5
    refine bodyPost_ret (v:=.agg #[.int .i64 x1,.slice L k1 R,.bool Y,.int .i64 Q,.slice N U ab,.bool X]) (by simp [results,results21,go_sem,r0,r1,r2,r3,r4,r5]) rfl ?_;obtain ⟨z1,z2,z3⟩:=zim (x:=x1) (A:=L) (k:=k1) (c:=R) (s:=Y) (y:=Q) (B:=N) (k' :=U) (c' :=ab) (t:=X) bd.o ap.o j.o r.o m.o I.o;exact ⟨_,rfl,z1,z2,z3⟩
  have bf:(k:Int)<(l.length:Int):=by omega
  obtain ⟨ad,eA,aT,p0,p1,ba,aE⟩:=C.o.at_ aB;subst eA;have F:=zf wr (.cells #[str l[k].name,str l[k].coef] 44);have Z:=ze (Blk.new wr 44 #[str l[k].name,str l[k].coef]);have ax:Hid (go<wr.heap.size):=E.o.lt;replace j:=ze (j.o.below F);replace C:=ze (zh.below C.o F);replace u:=ze (zh.below u.o F);replace E:=ze (E.o.below F);replace m:=kb_ m F;replace r:=ze (zD r.o F);have aw:=xGD (d:=default) aB;obtain ⟨q,hq,hd⟩:=HO.o.coef k aB;rw [aw] at hq
  have aO:Hid (XI p l (k+1)=XI p l k+q*Zq p l[k].name):=ze (by
   show XI p l k+yX (l.getD k default)*Zq p (l.getD k default).name=_
   rw [aw];unfold yX;rw [hq];rfl)
  have HQ:=ze hq;have bc:=ze ((xJ.of_dz hd).more (show 8001<=8388608 by omega));obtain ⟨M,aS,-,hM⟩:=HO.o.val;have aR:=ze ((xJ.of_dz (hM l[k].name)).more (show M+1<=8388608 by omega));have aP:=ze ((xJ.of_dz (Dz.mul hd (hM l[k].name) (uA))).more (show 8000+M+1<=8388608 by omega));clear aS hM;have bb:=ze (HO.o.rlen hk);have aX:=ze aE;clear F aw ba aE hq hd
  go_upto_region 5 with fail
  clear p0 p1 aT;generalize wr.alloc (.cells #[str l[k].name,str l[k].coef] 44)=WL at Z j C u E m r |-;generalize wr.heap.size=gt at Z ax |-;generalize aW:l[k].name=nm at Z aO aR aP;have aA:=xu b ⟨l[k].coef.toArray⟩ WL j.o (by rw [<- zt,yG];exact aX.o);rw [yG] at aA;have aH:=ze aA;have p1:=Z.o.cell 1;simp at p1;clear aA aW;go_wp2_with fail;refine aH.o.mono ?_;rintro e w2 ⟨v,ok,rfl,⟨x2,A2,k2,c2,s2,y2,B2,aq,ao,t2,rfl⟩,aV,aK,aD,aC⟩;clear aH p1;have F:=zf w2 (.cells #[.int .i64 x2,.slice A2 k2 c2,.bool s2,.int .i64 y2,.slice B2 aq ao,.bool t2] 60);have ag:Chg (· =b) WL (w2.alloc (.cells #[.int .i64 x2,.slice A2 k2 c2,.bool s2,.int .i64 y2,.slice B2 aq ao,.bool t2] 60)):=zD aC F;have aM:Hid (gt<w2.heap.size):=ze (uK Z.o.lt aC.size);replace C:=ze (j.o.keepT ag C.o);replace u:=ze (j.o.keepT ag u.o);replace Z:=ze (j.o.keepBlk ag Z.o);replace m:=ze (j.o.keepBlk ag m.o);replace E:=ze (j.o.keepRB ag E.o);replace r:=ze (yp r.o ag);replace j:=ze (aD.below F)
  have ay:=ze (Blk.new w2 60 #[.int .i64 x2,.slice A2 k2 c2,.bool s2,.int .i64 y2,.slice B2 aq ao,.bool t2]);have af:=ze ((aK q HQ.o).below F);clear aD aC F ag aK aV
  go_upto_region 6 with fail
  generalize w2.alloc (.cells #[.int .i64 x2,.slice A2 k2 c2,.bool s2,.int .i64 y2,.slice B2 aq ao,.bool t2] 60)=W3 at ay af j C u Z m E r |-;generalize w2.heap.size=gx at ay aM |-;obtain ⟨x1,L,k1,R,Y,Q,N,U,ab,X,am,an⟩:=E.o;have D:=ze am;have I:=ze an;clear am an E;obtain ⟨o0,o1,o2,o3,o4,o5,_⟩:=bq6 D;obtain ⟨q0,q1,q2,q3,q4,q5,_⟩:=bq6 ay;have p0:=(bq1 Z).1;have aj:¬ go=b:=fun e=>by have:=ap.o;have:=ac.o;omega
  have be:¬ gt=b:=fun e=>by have:=ap.o;have:=ac.o;have:=ax.o;omega
  have ai:¬ gx=b:=fun e=>by have:=ap.o;have:=ac.o;have:=ax.o;have:=aM.o;omega
  have ar:∀ w',Hid (Chg (fun x=>x=b) W3 w')->w'.cell? ⟨go,0,none⟩=some (.int .i64 x1)/\w'.cell? ⟨go,1,none⟩=some (.slice L k1 R)/\w'.cell? ⟨go,2,none⟩=some (.bool Y)/\w'.cell? ⟨go,3,none⟩=some (.int .i64 Q)/\w'.cell? ⟨go,4,none⟩=some (.slice N U ab)/\w'.cell? ⟨go,5,none⟩=some (.bool X)/\w'.cell? ⟨gx,0,none⟩=some (.int .i64 x2)/\w'.cell? ⟨gx,1,none⟩=some (.slice A2 k2 c2)/\w'.cell? ⟨gx,2,none⟩=some (.bool s2)/\w'.cell? ⟨gx,3,none⟩=some (.int .i64 y2)/\w'.cell? ⟨gx,4,none⟩=some (.slice B2 aq ao)/\w'.cell? ⟨gx,5,none⟩=some (.bool t2)/\w'.cell? ⟨gt,0,none⟩=some (str nm):=fun w' hB=>⟨xl hB o0 aj,xl hB o1 aj,xl hB o2 aj,xl hB o3 aj,xl hB o4 aj,xl hB o5 aj,xl hB q0 ai,xl hB q1 ai,xl hB q2 ai,xl hB q3 ai,xl hB q4 ai,xl hB q5 ai,xl hB p0 be⟩
  refine zb7 ar 9 (xX W3) fun J=>?_;refine tK 0 ?_;refine tK 1 ?_;refine tK 2 ?_;refine tK 3 ?_;refine tK 4 ?_;refine tK 5 ?_;refine rK 6 fun K hK=>?_
  go_simp
  go_at_call 56;have O:=(zv W3).out;replace j:=ze (j.o.below O);replace C:=ze (zh.below C.o O);replace u:=ze (zh.below u.o O);replace m:=kb_ m O;replace D:=kb_ D O;replace I:=ze (I.o.below O);replace af:=ze (af.o.below O);replace r:=ze (zD r.o O);clear O;refine (zvb b _ _ _ w.heap.size p nm _ j.o u.o r.o.size HO.o.pt).mono ?_;rintro e w4 ⟨v4,rfl,aF,aG,V⟩;replace C:=ze (j.o.keepT V C.o);replace u:=ze (j.o.keepT V u.o);replace m:=ze (j.o.keepBlk V m.o);replace D:=ze (j.o.keepBlk V D.o);replace I:=ze (j.o.keepR V I.o);replace af:=ze (j.o.keepR V af.o);replace r:=ze (yp r.o V);replace j:=ze aG;have aL:=ze aF;refine hK.out _ _ (zm (vz V J.1) (ar _)) ?_;clear hK K J;intro J
  try simp only [Act.put,xST]
  clear V aG aF;refine rK 7 fun K hK=>?_
  go_simp
  go_at_call 55;refine (YX _ _ q (Zq p nm) _ af.o aL.o bc.o aR.o).mono ?_;rintro e w5 ⟨v5,rfl,aJ,aa⟩;replace j:=ze (j.o.below aa);replace C:=ze (zh.below C.o aa);replace u:=ze (zh.below u.o aa);replace m:=kb_ m aa;replace D:=kb_ D aa;replace I:=ze (I.o.below aa);replace r:=ze (zD r.o aa);have aN:=ze aJ;refine hK.out _ _ (zm (xU aa J.1) (ar _)) ?_;clear hK K J;intro J
  try simp only [Act.put,xST]
  clear aa aJ aL af;refine rK 8 fun K hK=>?_
  go_simp
  go_at_call 26;refine (vM _ _ (XI p l k) (q*Zq p nm) _ I.o aN.o bb.o aP.o).mono ?_;rintro e w6 ⟨v6,rfl,au,ae⟩;replace j:=ze (j.o.below ae);replace C:=ze (zh.below C.o ae);replace u:=ze (zh.below u.o ae);replace m:=kb_ m ae;replace D:=kb_ D ae;replace r:=ze (zD r.o ae);obtain ⟨x3,A3,k3,c3,s3,y3,B3,aQ,aI,t3,rfl⟩:=au.agg;rw [<- aO.o] at au;have aU:=ze au;obtain ⟨f0,f1,f2,f3,f4,f5⟩:=fq6 D;obtain ⟨g0,g1,g2,g3,g4,g5,_⟩:=bq6 D;refine hK.out _ _ (zm (xU ae J.1) (ar _)) ?_;clear hK K J;intro J
  try simp only [Act.put,xST]
  clear ae au aN I;clear J ar;refine hdn ?_;simp only [xDR];go_wp2_with fail;have a9:Hid (ziu (World.rat w6 go x3 A3 k3 c3 s3 y3 B3 aQ aI t3) go (XI p l (k+1))):=⟨_,_,_,_,_,_,_,_,_,_,yj D.o,zV.stored aU.o D.o⟩;have hS:∀ z,z=go->zO w6 z:=fun z G=>by subst G;exact D.o.noDig (Yg _ _ _ _ _ _ _ _ _ _)
  have al:=Chg.ratSet (w:=w6) (g:=go) (x:=x3) (A:=A3) (k:=k3) (c:=c3) (s:=s3) (y:=y3) (B:=B3) (k' :=aQ) (c' :=aI) (t:=t3);have az:∀ z,z<w.heap.size->z=go->Yu w6 z:=fun z G e=>by have:=ac.o;omega
  have a8:=ze (j.o.chg al (by have:=ap.o;have:=ac.o;omega) hS);have a7:=ze (zh.chg C.o al az);have aY:=ze (zh.chg u.o al az);have aZ:=ze (al.blk m.o (by have:=ac.o;omega));have a6:=ze (Chg.trans (S:=fun z=>z=b) (T:=fun z=>z=go) r.o al (fun z G h=>absurd G (by have:=ac.o;omega)));clear hS al az;go_roundw
  case rel=>exact ⟨k+1,by omega,by go_num,a9,a8,a7,aY,aZ,a6⟩
  case measure=>simp [intOf];omega
def ChkR (w0:World) (b B:Nat) (rv:Value) (rows:List zS) (iv:Value) (wr:World):Prop:=
 ∃ i:Nat,i<=rows.length/\iv= .int .i64 i/\Hid (∀ j,j<i->xz (rows.getD j default)=0)/\Hid (zu wr b)/\Hid (zR wr B rv rows)/\Hid (Chg (· =b) w0 wr)
theorem za4 {rows:List zS} (h:800<rows.length):yB rows=3:=by unfold yB;rw [if_pos h]
theorem zj6 {rows:List zS} {i:Nat} (h:¬ 800<rows.length) (hi:i<rows.length) (h0:∀ j,j<i->xz (rows.getD j default)=0) (hne:xz (rows.getD i default)≠0):yB rows=xz (rows.getD i default):=by
 have e:=xQ (f:=fun i=>xz (rows.getD i default)) hi h0 hne
 unfold yB
 rw [if_neg h,if_pos (by rw [e];exact hne),e]
theorem zcr {rows:List zS} (h:¬ 800<rows.length) (h0:∀ j,j<rows.length->xz (rows.getD j default)=0):yB rows=if 80<(zy rows []).length then 3 else 0:=by
 have e:=yT (f:=fun i=>xz (rows.getD i default)).2 h0
 unfold yB
 rw [if_neg h,if_neg (by rw [e];exact fun h=>h rfl)]
theorem XU (b:Nat) (A:Option Addr) (n c:Nat) (rows:List zS) (w:World) (hB:zu w b) (hr:Zi w (.slice A n c) rows) (hcnt:rows.length<=800->(zy rows []).length<=100000):
 Calls prog 29 #[.map (some b),.slice A n c] w (XX b (yB rows) w):=by
 obtain rfl:=hr.len
 have r:=ze hB
 have u:=ze hr
 have m:=ze (Chg.refl (S:=(· =b)) w)
 by_cases ab:800<rows.length
 . have d0:decide ((rows.length:Int)>800)=true:=by rw [decide_eq_true_iff];omega
   have HE:=ze (za4 ab);clear hB hr hcnt
   go_in
   go_wp2;go_ret;exact ⟨by rw [HE.o];rfl,r.o,m.o⟩
 have d0:decide ((rows.length:Int)>800)=false:=by rw [decide_eq_false_iff_not];omega
 have HL:=ze ab
 have Z:=ze (hcnt (by omega))
 clear hB hr hcnt
 go_in
 go_wp2
 go_loopw [13] (ChkR w b w.heap.size (.slice A rows.length c) rows) (fun iv _=>rows.length - (intOf iv).toNat)
 case atStart=>exact ⟨0,uB,rfl,(fun j h=>by omega),r,u,m⟩
 case round=>
  clear r u m d0
  obtain ⟨i,hi,rfl,M,r,u,m⟩:=hrel
  by_cases O:i<rows.length
  . have ai:(i:Int)<(rows.length:Int):=by omega
    obtain ⟨ad,B,y,C,eA,ah,p0,p1,X,aa⟩:=u.o.at_ O;subst eA;have G:=zf wr (.cells #[.slice B y C,str rows[i].bound] 31);have K:=ze (Blk.new wr 31 #[.slice B y C,str rows[i].bound]);have af:=fun w' (k:zu w' b) (t:yu w' (.slice B y C) rows[i].terms)=>zr2 b B y C rows[i] w' k t aa
    have T:=xGD (d:=default) O;have F:=ze af;have L:Hid (yu (wr.alloc (.cells #[.slice B y C,str rows[i].bound] 31)) (.slice B y C) rows[i].terms):=(zh.below X G).more (uC m.o.size G.size);replace r:=ze (r.o.below G);replace u:=ze (zR.below u.o G);replace m:=ze (zD m.o G);have Q:=ze T;clear G X aa af T
    go_upto_region 6 with fail
    clear p0 p1 ah;generalize wr.alloc (.cells #[.slice B y C,str rows[i].bound] 31)=W2 at K L r u m |-;generalize wr.heap.size=gr at K |-;obtain ⟨r0,V,_⟩:=bq2 K
    by_cases D:xz rows[i]=0
    . rw [D] at F
      have ag:Hid (∀ j,j<i+1->xz (rows.getD j default)=0):=by
       intro j hj
       by_cases e:j=i
       . subst e;rw [Q.o];exact D
       . exact M.o j (by omega)
      clear D;go_wp2_with fail;refine (F.o _ r.o L.o).mono ?_;rintro e w3 ⟨rfl,J,I⟩;replace u:=ze (r.o.keepRows I u.o);replace m:=ze (yp m.o I);replace r:=ze J;clear J I F L K r0 V;go_wp2;go_roundw
      case rel=>exact ⟨i+1,by omega,by go_num,ag,r,u,m⟩
      case measure=>simp [intOf];omega
    . have E:Hid (yB rows=xz rows[i]):=by
       have:=zj6 HL.o O M.o (by rw [Q.o];exact D);rw [Q.o] at this;exact this
      generalize hz:xz rows[i]=z at F E D;have aj:(z == 0)=false:=uD D;clear hz D;go_wp2_with fail;refine (F.o _ r.o L.o).mono ?_;rintro e w3 ⟨rfl,J,I⟩;replace m:=ze (yp m.o I);replace r:=ze J;clear J I F L K r0 V;go_wp2;go_ret;exact ⟨by rw [E.o];rfl,r.o,m.o⟩
  . obtain rfl:rows.length=i:=by omega
    have ae:=zbh wr.heap.size 0 A rows.length c (.slice none 0 0) [] rows [] wr (u.o.more m.o.size) (Zr _ _ _ _) ⟨rfl,fun j hj=>by cases hj⟩ rfl (by omega) (uA)
     (fun l hl=>by rw [hl.eq];exact Z.o)
    have Y:=ze ae;clear ae u;go_wp2_with fail;refine Y.o.mono ?_;rintro e w3 ⟨v,l,rfl,ac,hn,R⟩;have U:l.length=(zy rows []).length:=by rw [ac.eq];rfl
    have E:Hid (yB rows=if 80<l.length then 3 else 0):=by
     show _=_
     rw [U];exact zcr HL.o M.o
    obtain ⟨A3,c3,rfl,_⟩:=hn;replace r:=ze (r.o.below R);replace m:=ze (zD m.o R);clear R Y ac U M Z
    by_cases N:80<l.length
    . rw [if_pos N] at E
      have d8:(80:Int)<(l.length:Int):=by omega
      clear N;go_wp2;go_ret;exact ⟨by rw [E.o];rfl,r.o,m.o⟩
    . rw [if_neg N] at E
      have d8:¬ (80:Int)<(l.length:Int):=by omega
      clear N;go_wp2;go_ret;exact ⟨by rw [E.o];rfl,r.o,m.o⟩
structure zcm (rows:List zS) (s:List UInt8):Prop where
 err:∀ r∈rows,xz r=0
 len:rows.length<=800
 all:∀ r∈rows,∀ t∈r.terms,t.name=s
 ex:∃ r∈rows,r.terms≠[]
 small:s.length<=1073741824
theorem zcm.err0 {rows:List zS} {s:List UInt8} (h:zcm rows s):yB rows=0/\(zy rows []).length=1:=by
 have z:∀ x∈yd ([] ++ rows.map (·.terms)),x=s:=by
  intro x b
  unfold yd at b
  rw [List.nil_append,List.mem_flatMap] at b
  obtain ⟨l,hl,b⟩:=b
  obtain ⟨t,C,rfl⟩:=List.mem_map.1 b
  obtain ⟨r,m,rfl⟩:=List.mem_map.1 hl
  exact h.all r m t C
 have y:yd ([] ++ rows.map (·.terms))≠[]:=by
  obtain ⟨r,m,B⟩:=h.ex
  obtain ⟨t,q,e⟩:=List.exists_cons_of_ne_nil B
  intro D
  have:t.name∈yd ([] ++ rows.map (·.terms)):=by
   unfold yd;exact List.mem_flatMap.2 ⟨_,List.mem_map.2 ⟨r,m,rfl⟩,List.mem_map.2 ⟨t,by rw [e];exact uP ..,rfl⟩⟩
  rw [D] at this
  cases this
 have u:(zy rows []).length=1:=by
  have e:zy rows []=[s]:=zrh z y (yn _)
  rw [e];rfl
 refine ⟨?_,u⟩
 rw [zcr (by have:=h.len;omega) (fun j hj=>by
  have e:=xGD (d:=default) hj
  rw [e];exact h.err _ (uO hj)),u]
 rfl
theorem zmd (b:Nat) (A:Option Addr) (n c:Nat) (rows:List zS) (s:List UInt8) (w:World) (hB:zu w b) (hr:Zi w (.slice A n c) rows) (h1:zcm rows s):
 Calls prog 29 #[.map (some b),.slice A n c] w (XX b 0 w):=by
 have h:=XU b A n c rows w hB hr (fun _=>by rw [h1.err0.2];omega)
 rw [h1.err0.1] at h
 exact h
theorem zgk {s:List UInt8}:∀ {D:List (List UInt8×Value)} {i:Nat},VK s D i=none↔∀ p∈D,p.1≠s
 | [],i=>by simp [VK]
 | p :: D,i=>by
   unfold VK
   by_cases h:p.1=s
   . rw [if_pos h]
     constructor
     . intro e;cases e
     intro e;exact absurd h (e p uP)
   rw [if_neg h,zgk]
   constructor
   rotate_left
   . intro e q b
     exact e q (List.mem_cons_of_mem _ b)
   intro e q b
   rcases List.mem_cons.1 b with rfl | b
   . exact h
   . exact e q b
theorem vG (s:List UInt8) (p:List UInt8×Value) (D:List (List UInt8×Value)):VW s (p :: D)=if p.1=s then some p.2 else VW s D:=by
 unfold VW
 conv=>lhs;unfold VK
 by_cases h:p.1=s
 . rw [if_pos h,if_pos h];rfl
 rw [if_neg h,if_neg h,Vy s D 1,Option.map_map];rfl
theorem zb8 (s:List UInt8) (v:Value) (p:List UInt8×Value) (D:List (List UInt8×Value)):zjp s v (p :: D)=if p.1=s then (s,v) :: D else p :: zjp s v D:=by
 unfold zjp
 conv=>lhs;unfold VK
 by_cases h:p.1=s
 . rw [if_pos h,if_pos h];rfl
 rw [if_neg h,if_neg h,Vy s D 1]
 cases VK s D 0 with
 | none=>rfl
 | some q=>rfl
theorem zkp (s:List UInt8) (v:Value):∀ D:List (List UInt8×Value),VW s (zjp s v D)=some v
 | []=>by simp [zjp,VK,VW]
 | p :: D=>by
   rw [zb8]
   by_cases h:p.1=s
   . rw [if_pos h,vG,if_pos rfl]
   rw [if_neg h,vG,if_neg h]
   exact zkp s v D
theorem zcq {s s' :List UInt8} (hne:s' ≠s) (v:Value):∀ D:List (List UInt8×Value),VW s' (zjp s v D)=VW s' D
 | []=>by
   have:¬ s=s' :=fun e=>hne e.symm
   simp [zjp,VK,VW,this]
 | p :: D=>by
   rw [zb8]
   by_cases h:p.1=s
   . rw [if_pos h,vG,vG,if_neg (fun e=>hne e.symm),if_neg (fun e=>hne (e.symm.trans h))]
   rw [if_neg h,vG,vG,zcq hne v D]
theorem zif (s:List UInt8) (v:Value):∀ D:List (List UInt8×Value),(zjp s v D).map (·.1)=if s∈D.map (·.1) then D.map (·.1) else D.map (·.1) ++ [s]
 | []=>by simp [zjp,VK]
 | p :: D=>by
   rw [zb8]
   by_cases h:p.1=s
   . rw [if_pos h,List.map_cons,List.map_cons,if_pos (by rw [h];exact uP),h]
   rw [if_neg h,List.map_cons,zif s v D,List.map_cons]
   by_cases b:s∈D.map (·.1)
   . rw [if_pos b,if_pos (List.mem_cons_of_mem _ b)]
   rw [if_neg b,if_neg (fun e=>by rcases List.mem_cons.1 e with e | e;exact h e.symm;exact b e)]
   rfl
theorem zlm {s:List UInt8} {v:Value} {D:List (List UInt8×Value)} (h:(D.map (·.1)).Nodup):((zjp s v D).map (·.1)).Nodup:=by
 rw [zif]
 by_cases j:s∈D.map (·.1)
 . rw [if_pos j];exact h
 rw [if_neg j,List.nodup_append]
 refine ⟨h,by simp,fun a ha b hb e=>?_⟩;simp at hb;subst hb;subst e;exact j ha
def Zw (w:World) (g:Nat) (F:List UInt8->Option Rat):Prop:=
 ∃ D,Zm w g D/\(D.map (·.1)).Nodup/\∀ s,match VW s D with | none=>F s=none | some v=>∃ q,F s=some q/\zV w v q
theorem Zw.noDig {w:World} {g:Nat} {F:List UInt8->Option Rat} (h:Zw w g F):zO w g:=by obtain ⟨D,h,_⟩:=h;exact h.noDig
theorem Zw.new (w:World):Zw (w.alloc (.map #[] 0)) w.heap.size (fun _=>none):=⟨[],Zm.new w,by simp,fun s=>rfl⟩
theorem Zw.chg {S:Nat->Prop} {w w' :World} {g:Nat} {F:List UInt8->Option Rat} (h:Zw w g F) (hc:Chg S w w') (hb:¬ S g) (hS:∀ b,S b->zO w b):Zw w' g F:=by
 obtain ⟨D,m,j,r⟩:=h
 refine ⟨D,hc.map m hb,j,fun s=>?_⟩
 have:=r s
 split at this
 . exact this
 obtain ⟨q,e,l⟩:=this
 exact ⟨q,e,hc.rat l hS⟩
theorem Zw.below {w w' :World} {g:Nat} {F:List UInt8->Option Rat} (h:Zw w g F) (hb:Below w.heap.size w w'):Zw w' g F:=h.chg (S:=fun _=>False) (Chg.of_below hb) (fun h=>h) (fun _ h=>h.elim)
theorem Zw.book {w w' :World} {g b:Nat} {F:List UInt8->Option Rat} (h:Zw w g F) (hB:zu w b) (hc:Chg (· =b) w w') (hne:g≠b):Zw w' g F:=h.chg hc hne (fun _ e=>by subst e;exact hB.noDig)
def ztq (F:List UInt8->Option Rat) (s:List UInt8) (q:Rat):List UInt8->Option Rat:=fun t=>if t=s then some q else F t
theorem Zw.put {P:Program} {w:World} {g:Nat} {F:List UInt8->Option Rat} {s:List UInt8} {v:Value} {q:Rat} {t k e:TypeId} (ht:P.underlying t=some (.map k e)) (hk:P.underlying k=some .string) (h:Zw w g F) (hv:zV w v q):
 ∃ w',(Instr.mapUpdate t (.map (some g)) (str s) v).run P w= .ok () w' /\Zw w' g (ztq F s q)/\Chg (· =g) w w' :=by
 obtain ⟨D,j,r,B⟩:=h
 obtain ⟨w',y,l,E,_⟩:=Zk ht hk j s v
 have b:Chg (· =g) w w' :=Chg.of_grown E rfl
 have hS:∀ z,z=g->zO w z:=fun z e=>by subst e;exact j.noDig
 refine ⟨w',y,⟨_,l,zlm r,fun s' =>?_⟩,b⟩
 unfold ztq
 by_cases e:s' =s
 . subst e
   rw [zkp,if_pos rfl];exact ⟨q,rfl,b.rat hv hS⟩
 rw [zcq e,if_neg e]
 have:=B s'
 split at this
 . exact this
 obtain ⟨C,m,u⟩:=this
 exact ⟨C,m,b.rat u hS⟩
theorem Zw.look {P:Program} {w:World} {g:Nat} {F:List UInt8->Option Rat} {t k e:TypeId} {z:Value} (ht:P.underlying t=some (.map k e)) (hk:P.underlying k=some .string) (hz:(zeroValue e).run P w= .ok z w) (h:Zw w g F) (s:List UInt8) (c:Bool):
 ∃ v,(Instr.lookup t (.map (some g)) (str s) c).run P w= .ok (if c then .tuple #[v,.bool (F s).isSome] else v) w/\((F s=none/\v=z)\/∃ q,F s=some q/\zV w v q):=by
 obtain ⟨D,m,_,r⟩:=h
 have hl:=Yl (w:=w) ht hk hz m s c
 have:=r s
 split at this
 . rename_i b
   rw [b] at hl;exact ⟨z,by rw [this];exact hl,.inl ⟨this,rfl⟩⟩
 rename_i v b
 obtain ⟨q,j,l⟩:=this;rw [b] at hl;exact ⟨v,by rw [j];exact hl,.inr ⟨q,j,l⟩⟩
theorem Zw.noCells {w:World} {g:Nat} {F:List UInt8->Option Rat} (h:Zw w g F):Yu w g:=by obtain ⟨D,h,_⟩:=h;exact h.noCells
theorem Zw.keepR {w w' :World} {g:Nat} {F:List UInt8->Option Rat} {v:Value} {q:Rat} (h:Zw w g F) (hc:Chg (· =g) w w') (hv:zV w v q):zV w' v q:=hc.rat hv (fun _ e=>by subst e;exact h.noDig)
theorem Zw.keepT {w w' :World} {g B:Nat} {F:List UInt8->Option Rat} {v:Value} {l:List zr} (h:Zw w g F) (hc:Chg (· =g) w w') (hv:zh w B v l):zh w' B v l:=hv.chg hc (fun _ _ e=>by subst e;exact h.noCells)
theorem Zw.keepBlk {w w' :World} {g x:Nat} {F:List UInt8->Option Rat} {t:TypeId} {cs:Array Value} (h:Zw w g F) (hc:Chg (· =g) w w') (hk:Blk w x t cs):Blk w' x t cs:=hc.blk hk (fun e=>by
 subst e
 obtain ⟨D,⟨b,c,hb,_⟩,_⟩:=h
 unfold Blk at hk
 rw [hb] at hk;cases hk)
theorem zu.neB {w:World} {b x:Nat} {t:TypeId} {cs:Array Value} (h:zu w b) (hk:Blk w x t cs):b≠x:=fun e=>by
 subst e
 obtain ⟨D,⟨j,c,hb,_⟩,_⟩:=h
 unfold Blk at hk
 rw [hb] at hk;cases hk
theorem Zw.ne {w:World} {g x:Nat} {F:List UInt8->Option Rat} {t:TypeId} {cs:Array Value} (h:Zw w g F) (hk:Blk w x t cs):g≠x:=fun e=>by
 subst e
 obtain ⟨D,⟨b,c,hb,_⟩,_⟩:=h
 unfold Blk at hk
 rw [hb] at hk;cases hk
theorem Zw.keepB {w w' :World} {g b:Nat} {F:List UInt8->Option Rat} (h:Zw w g F) (hc:Chg (· =g) w w') (hB:zu w b) (hne:b≠g):zu w' b:=hB.chg hc hne (fun _ e=>by subst e;exact h.noDig)
theorem Y6:prog.underlying 119=some (.map 9 60):=by kernel_rfl
theorem Vq:prog.underlying 9=some .string:=by kernel_rfl
def zsv (wt:Rat) (F:List UInt8->Option Rat) (t:zr):List UInt8->Option Rat:=ztq F t.name ((F t.name).getD 0+yX t*wt)
def zbl (wt:Rat) (F:List UInt8->Option Rat) (l:List zr):List UInt8->Option Rat:=l.foldl (zsv wt) F
theorem zn1 {wt:Rat} {F:List UInt8->Option Rat} {l:List zr} {k:Nat} (h:k<l.length):zbl wt F (l.take (k+1))=zsv wt (zbl wt F (l.take k)) l[k]:=by
 unfold zbl
 rw [List.take_add_one,List.getElem?_eq_getElem h,List.foldl_append]
 rfl
def YR (r:zS):Rat:=(zj r.bound).getD 0
structure zv3 (wt q0:Rat) (F:List UInt8->Option Rat) (r:zS):Prop where
 coef:∀ t∈r.terms,∃ q,zj t.coef=some q/\xJ 8388608 q/\xJ 8388608 (q*wt)
 wtl:xJ 8388608 wt
 part:∀ k,k<=r.terms.length->∀ s,xJ 8388608 (((zbl wt F (r.terms.take k)) s).getD 0)
 bound:∃ q,zj r.bound=some q/\xJ 8388608 q/\xJ 8388608 (q*wt)
 small:yc r.bound
 sum:xJ 8388608 q0
def yP (w:World) (gs gm:Nat) (q:Rat):Prop:=∃ (x:Int) (A:Option Addr) (k c:Nat) (s:Bool) (y:Int) (B:Option Addr) (k' c' :Nat) (t:Bool),Blk w gs 121 #[.map (some gm),.int .i64 x,.slice A k c,.bool s,.int .i64 y,.slice B k' c',.bool t]/\zV w (.agg #[.int .i64 x,.slice A k c,.bool s,.int .i64 y,.slice B k' c',.bool t]) q
theorem yP.below {w w' :World} {gs gm:Nat} {q:Rat} (h:yP w gs gm q) (hb:Below w.heap.size w w'):yP w' gs gm q:=by
 obtain ⟨_,_,_,_,_,_,_,_,_,_,b,e⟩:=h
 exact ⟨_,_,_,_,_,_,_,_,_,_,b.below hb b.lt,e.below hb⟩
theorem yP.map {w:World} {gs gm:Nat} {q:Rat} (h:yP w gs gm q):w.cell? ⟨gs,0,none⟩=some (.map (some gm))/\gs<w.heap.size:=by
 obtain ⟨_,_,_,_,_,_,_,_,_,_,b,e⟩:=h
 have:=b.cell 0
 simp at this
 exact ⟨this,b.lt⟩
theorem zkv (g:Option Nat) (x:Int) (A:Option Addr) (k c:Nat) (s:Bool) (y:Int) (B:Option Addr) (k' c' :Nat) (t:Bool):vD #[.map g,.int .i64 x,.slice A k c,.bool s,.int .i64 y,.slice B k' c',.bool t]:=by
 intro i d h
 match i with
 | 0=>simp at h
 | 1=>simp at h
 | 2=>simp at h
 | 3=>simp at h
 | 4=>simp at h
 | 5=>simp at h
 | 6=>simp at h
 | n+7=>simp at h
def World.rat1 (w:World) (g:Nat) (x:Int) (A:Option Addr) (k c:Nat) (s:Bool) (y:Int) (B:Option Addr) (k' c' :Nat) (t:Bool):World:=
 (((((w.setCell ⟨g,1,none⟩ (.int .i64 x)).setCell ⟨g,2,none⟩ (.slice A k c)).setCell ⟨g,3,none⟩ (.bool s)).setCell ⟨g,4,none⟩ (.int .i64 y)).setCell ⟨g,5,none⟩ (.slice B k' c')).setCell ⟨g,6,none⟩ (.bool t)
theorem yP.noDig {w:World} {gs gm:Nat} {q:Rat} (h:yP w gs gm q):zO w gs:=by
 obtain ⟨_,_,_,_,_,_,_,_,_,_,b,e⟩:=h
 exact b.noDig (zkv _ _ _ _ _ _ _ _ _ _ _)
theorem ze8 {w:World} {g:Nat} {x:Int} {A:Option Addr} {k c:Nat} {s:Bool} {y:Int} {B:Option Addr} {k' c' :Nat} {t:Bool}:Chg (· =g) w (World.rat1 w g x A k c s y B k' c' t):=by
 simp only [World.rat1]
 apply Chg.setCell (S:=fun b=>b=g) ?_ (by rfl)
 apply Chg.setCell (S:=fun b=>b=g) ?_ (by rfl)
 apply Chg.setCell (S:=fun b=>b=g) ?_ (by rfl)
 apply Chg.setCell (S:=fun b=>b=g) ?_ (by rfl)
 apply Chg.setCell (S:=fun b=>b=g) ?_ (by rfl)
 apply Chg.setCell (S:=fun b=>b=g) ?_ (by rfl)
 exact Chg.refl w
theorem yP.put {w:World} {gs gm:Nat} {q q' :Rat} {x:Int} {A:Option Addr} {k c:Nat} {s:Bool} {y:Int} {B:Option Addr} {k' c' :Nat} {t:Bool} (h:yP w gs gm q) (hv:zV w (.agg #[.int .i64 x,.slice A k c,.bool s,.int .i64 y,.slice B k' c',.bool t]) q'):yP (World.rat1 w gs x A k c s y B k' c' t) gs gm q' :=by
 have hS:∀ z,z=gs->zO w z:=fun z e=>by subst e;exact h.noDig
 have j:=(ze8 (w:=w) (g:=gs) (x:=x) (A:=A) (k:=k) (c:=c) (s:=s) (y:=y) (B:=B) (k' :=k') (c' :=c') (t:=t)).rat hv hS
 obtain ⟨_,_,_,_,_,_,_,_,_,_,b,l⟩:=h
 exact ⟨_,_,_,_,_,_,_,_,_,_,(((((b.set_ 1 _).set_ 2 _).set_ 3 _).set_ 4 _).set_ 5 _).set_ 6 _,j⟩
def ScaR (w0:World) (b gs gm gw:Nat) (gv:Value) (gr:Nat) (bd:List UInt8) (wt q0:Rat) (F:List UInt8->Option Rat) (tv:Value) (l:List zr) (kv:Value) (wr:World):Prop:=
 ∃ k:Nat,k<=l.length/\kv= .int .i64 k/\Hid (Zw wr gm (zbl wt F (l.take k)))/\Hid (yP wr gs gm q0)/\Hid (ziu wr gw wt)/\Hid (Blk wr gr 31 #[tv,str bd])/\Hid (zu wr b)/\Hid (zh wr w0.heap.size tv l)/\Hid (Chg (fun x=>x=b\/x=gm) w0 wr)
theorem zmc (b gs gm:Nat) (A:Option Addr) (n c:Nat) (r:zS) (va:Value) (wt q0:Rat) (F:List UInt8->Option Rat) (w:World) (hB:zu w b) (hm:Zw w gm F) (hs:yP w gs gm q0) (hbm:gm≠b) (hv:zV w va wt) (ht:yu w (.slice A n c) r.terms) (ho:zv3 wt q0 F r):
 Calls prog 101 #[.pointer (some ⟨gs,0,none⟩),.map (some b),.agg #[.slice A n c,str r.bound],va] w fun e w' =>e= .returned (.tuple #[])/\zu w' b/\Zw w' gm (zbl wt F r.terms)/\yP w' gs gm (q0+YR r*wt)/\Chg (fun x=>x=b\/x=gm\/x=gs) w w' :=by
 obtain rfl:=ht.len
 have b7:r.terms.length<=100000:=by obtain ⟨_,_,_,_,_,h,_⟩:=id ht;exact h
 obtain ⟨x9,A9,k9,c9,s9,y9,B9,bm,bb,t9,rfl⟩:=hv.agg
 obtain ⟨W,hW⟩:=uQ ((w.alloc (.cells #[.slice A r.terms.length c,str r.bound] 31)).alloc (.cells #[.int .i64 x9,.slice A9 k9 c9,.bool s9,.int .i64 y9,.slice B9 bm bb,.bool t9] 60))
 have hz:=ext (zf w (.cells #[.slice A r.terms.length c,str r.bound] 31)) (zf (w.alloc (.cells #[.slice A r.terms.length c,str r.bound] 31)) (.cells #[.int .i64 x9,.slice A9 k9 c9,.bool s9,.int .i64 y9,.slice B9 bm bb,.bool t9] 60))
 have bz:=(Blk.new w 31 #[.slice A r.terms.length c,str r.bound]).alloc (.cells #[.int .i64 x9,.slice A9 k9 c9,.bool s9,.int .i64 y9,.slice B9 bm bb,.bool t9] 60)
 have bl:=Blk.new (w.alloc (.cells #[.slice A r.terms.length c,str r.bound] 31)) 60 #[.int .i64 x9,.slice A9 k9 c9,.bool s9,.int .i64 y9,.slice B9 bm bb,.bool t9]
 simp only [World.size_alloc] at bl
 rw [<- hW] at hz bz bl
 have J:=ze bz
 have G:Hid (ziu W (w.heap.size+1) wt):=⟨_,_,_,_,_,_,_,_,_,_,bl,hv.below hz⟩
 have l:=ze (hB.below hz)
 have j:=ze (hm.below hz)
 have M:=ze (zh.below ht hz)
 have E:Hid (yP W gs gm q0):=by
  obtain ⟨_,_,_,_,_,_,_,_,_,_,N,R⟩:=hs
  exact ⟨_,_,_,_,_,_,_,_,_,_,N.below hz N.lt,R.below hz⟩
 have I:Hid (Chg (fun x=>x=b\/x=gm) w W):=Chg.of_below hz
 have HO:=ze ho
 have bk:=ze hbm
 clear hB hm hs hbm hv ht ho hz bz bl
 go_in
 go_upto_region 1 with fail
 rw [<- hW]
 clear hW;have r0:=(bq1 J).1
 go_wp2
 go_loopw [19] (ScaR w b gs gm (w.heap.size+1) (.slice A r.terms.length c) w.heap.size r.bound wt q0 F (.slice A r.terms.length c) r.terms) (fun kv _=>r.terms.length - (intOf kv).toNat)
 case atStart=>exact ⟨0,uB,rfl,j,E,G,J,l,M,I⟩
 case round=>
  clear j E G J l M I r0
  obtain ⟨k,hk,rfl,j,E,G,J,l,M,I⟩:=hrel
  by_cases bF:k<r.terms.length
  rotate_left
  . obtain rfl:r.terms.length=k:=by omega
    rw [List.take_length] at j;obtain ⟨q,hq,aZ,aX⟩:=HO.o.bound;have b1:Hid (YR r=q):=ze (by unfold YR;rw [hq];rfl);obtain ⟨HQ,be,bn⟩:=hz3 hq aZ aX;have bd:=ze HO.o.wtl;have bY:=ze HO.o.small;have b6:=ze HO.o.sum;clear hq aZ aX M;have r1:=J.o.cell 1;simp at r1;have aM:=xu b ⟨r.bound.toArray⟩ wr l.o (by rw [<- zt,yG];exact bY.o);rw [yG] at aM;have aV:=ze aM;clear aM;go_wp2_with fail;refine aV.o.mono ?_;rintro e w2 ⟨v,ok,rfl,⟨x2,A2,k2,c2,s2,y2,B2,aj,ai,t2,rfl⟩,bu,aY,aQ,ba⟩;have V:=zf w2 (.cells #[.int .i64 x2,.slice A2 k2 c2,.bool s2,.int .i64 y2,.slice B2 aj ai,.bool t2] 60);have af:Chg (· =b) wr (w2.alloc (.cells #[.int .i64 x2,.slice A2 k2 c2,.bool s2,.int .i64 y2,.slice B2 aj ai,.bool t2] 60)):=zD ba V;replace j:=ze (j.o.book l.o af bk.o)
    replace E:Hid (yP (w2.alloc (.cells #[.int .i64 x2,.slice A2 k2 c2,.bool s2,.int .i64 y2,.slice B2 aj ai,.bool t2] 60)) gs gm q0):=by
     obtain ⟨_,_,_,_,_,_,_,_,_,_,N,R⟩:=E.o;exact ⟨_,_,_,_,_,_,_,_,_,_,l.o.keepBlk af N,l.o.keepR af R⟩
    replace G:=ze (l.o.keepRB af G.o);replace I:=ze (I.o.trans (S:=fun x=>x=b\/x=gm) (T:=fun x=>x=b) af (fun x _ h=>.inl h));replace l:=ze (aQ.below V);have m:=ze (Blk.new w2 60 #[.int .i64 x2,.slice A2 k2 c2,.bool s2,.int .i64 y2,.slice B2 aj ai,.bool t2]);have ag:=ze ((aY q HQ.o).below V);clear aQ ba V af aY bu aV r1 J
    go_upto_region 11 with fail
    generalize w2.alloc (.cells #[.int .i64 x2,.slice A2 k2 c2,.bool s2,.int .i64 y2,.slice B2 aj ai,.bool t2] 60)=Q at m ag l j E G I |-;generalize w2.heap.size=gx at m |-;obtain ⟨X,A4,k4,c4,Z,y4,Y,ab,aa,t4,ao,bc⟩:=E.o;obtain ⟨xw,Aw,kw,cw,sw,yw,Bw,a9,aR,tw,L,aD⟩:=G.o;have a7:=ze aD;have ah:=ze bc;have o1:=ao.cell 1;have o2:=ao.cell 2;have o3:=ao.cell 3;have o4:=ao.cell 4;have o5:=ao.cell 5;have o6:=ao.cell 6;have oL:=ao.lt;have aC :=m.o.cell 0;have az :=m.o.cell 1;have aH :=m.o.cell 2;have au :=m.o.cell 3;have aA :=m.o.cell 4;have aJ :=m.o.cell 5;have qL:=m.o.lt;have aB :=L.cell 0;have ax :=L.cell 1;have aF :=L.cell 2;have ar :=L.cell 3;have aG :=L.cell 4;have ay :=L.cell 5;have wL:=L.lt;simp at o1 o2 o3 o4 o5 o6 aC az aH au aA aJ aB ax aF ar aG ay;have ac:=ze ao;clear ao L aD bc
    have ak:∀ w',Hid (Below Q.heap.size Q w')->w'.cell? ⟨gs,1,none⟩=some (.int .i64 X)/\w'.cell? ⟨gs,2,none⟩=some (.slice A4 k4 c4)/\w'.cell? ⟨gs,3,none⟩=some (.bool Z)/\w'.cell? ⟨gs,4,none⟩=some (.int .i64 y4)/\w'.cell? ⟨gs,5,none⟩=some (.slice Y ab aa)/\w'.cell? ⟨gs,6,none⟩=some (.bool t4)/\w'.cell? ⟨gx,0,none⟩=some (.int .i64 x2)/\w'.cell? ⟨gx,1,none⟩=some (.slice A2 k2 c2)/\w'.cell? ⟨gx,2,none⟩=some (.bool s2)/\w'.cell? ⟨gx,3,none⟩=some (.int .i64 y2)/\w'.cell? ⟨gx,4,none⟩=some (.slice B2 aj ai)/\w'.cell? ⟨gx,5,none⟩=some (.bool t2)/\w'.cell? ⟨w.heap.size+1,0,none⟩=some (.int .i64 xw)/\w'.cell? ⟨w.heap.size+1,1,none⟩=some (.slice Aw kw cw)/\w'.cell? ⟨w.heap.size+1,2,none⟩=some (.bool sw)/\w'.cell? ⟨w.heap.size+1,3,none⟩=some (.int .i64 yw)/\w'.cell? ⟨w.heap.size+1,4,none⟩=some (.slice Bw a9 aR)/\w'.cell? ⟨w.heap.size+1,5,none⟩=some (.bool tw):=fun w' hB=>⟨zl hB oL o1,zl hB oL o2,zl hB oL o3,zl hB oL o4,zl hB oL o5,zl hB oL o6,zl hB qL aC,zl hB qL az,zl hB qL aH,zl hB qL au,zl hB qL aA,zl hB qL aJ,zl hB wL aB,zl hB wL ax,zl hB wL aF,zl hB wL ar,zl hB wL aG,zl hB wL ay⟩
    refine zb7 ak 11 (zv Q) fun C=>?_;refine tK 0 ?_;refine tK 1 ?_;refine tK 2 ?_;refine tK 3 ?_;refine tK 4 ?_;refine tK 5 ?_;refine tK 6 ?_;refine rK 7 fun K hK=>?_
    go_simp
    go_at_call 55;refine (YX _ _ q wt _ (ag.o.below C.1.out) (a7.o.below C.1.out) be.o bd.o).mono ?_;rintro e w6 ⟨v6,rfl,aw,aE⟩;have av:=ze aw;refine hK.out _ _ (zm (zp aE C.1) (ak _)) ?_;clear hK K C;intro C
    try simp only [Act.put,xST]
    clear aE aw;refine rK 8 fun K hK=>?_
    go_simp
    go_at_call 26;refine (vM _ _ q0 (q*wt) _ (ah.o.below C.1.out) av.o b6.o bn.o).mono ?_;rintro e w7 ⟨v7,rfl,aq,aI⟩;obtain ⟨x7,A7,k7,c7,s7,y7,B7,b4,b5,t7,rfl⟩:=aq.agg;have aU:=ze aq;refine hK.out _ _ (zm (zp aI C.1) (ak _)) ?_;clear hK K C;intro C
    try simp only [Act.put,xST]
    clear aI aq av;refine tK 9 ?_;refine tK 10 ?_;have O:=(C.1).out
    try clear z0 z1 z2 z3 z4 z5 z6 zL
    replace j:=ze (j.o.below O);replace l:=ze (l.o.below O);replace E:=ze (yP.below E.o O);replace I:=ze (zD I.o O);replace ac:=kb_ ac O;clear O C ak;refine hdn ?_;simp only [xDR];obtain ⟨z0,z1,z2,z3,z4,z5,z6,zL⟩:=bkc7 ac.o;clear z0 z1 z2 z3 z4 z5 z6 zL;have a1:=ac.o.cell 1;have a2:=ac.o.cell 2;have a3:=ac.o.cell 3;have a4:=ac.o.cell 4;have a5:=ac.o.cell 5;have a6:=ac.o.cell 6;have f1:=ac.o.frozen 1;have f2:=ac.o.frozen 2;have f3:=ac.o.frozen 3;have f4:=ac.o.frozen 4;have f5:=ac.o.frozen 5;have f6:=ac.o.frozen 6;simp at a1 a2 a3 a4 a5 a6;go_wp2
    go_end0
    have bA:Chg (· =gs) w7 (World.rat1 w7 gs x7 A7 k7 c7 s7 y7 B7 b4 b5 t7):=ze8;have bH:∀ z,z=gs->zO w7 z:=fun z e=>by subst e;exact E.o.noDig
    refine ⟨rfl,l.o.chg bA (l.o.neB ac.o) bH,j.o.chg bA (j.o.ne ac.o) bH,by rw [b1.o];exact E.o.put aU.o,(I.o.mono (T:=fun x=>x=b\/x=gm\/x=gs) (fun x _ h=>h.elim .inl (fun h=>.inr (.inl h)))).trans (T:=fun x=>x=gs) bA (fun x _ h=>.inr (.inr h))⟩
  have b8:(k:Int)<(r.terms.length:Int):=by omega
  obtain ⟨ad,eA,bZ,p0,p1,b3,bI⟩:=M.o.at_ bF;subst eA;obtain ⟨q,hq,aZ,aX⟩:=HO.o.coef r.terms[k] (uO bF)
  have bN:zbl wt F (r.terms.take (k+1))=ztq (zbl wt F (r.terms.take k)) r.terms[k].name (((zbl wt F (r.terms.take k)) r.terms[k].name).getD 0+q*wt):=by
   rw [zn1 bF];unfold zsv yX;rw [hq];rfl
  have bP:=HO.o.part k hk r.terms[k].name;obtain ⟨br,bB,HQ,be,bn⟩:=hz5 bN bP hq aZ aX;have bd:=ze HO.o.wtl;have bK:=ze bI;generalize b0:r.terms[k]=t at p0 p1 br bB HQ bK;have V:=zf wr (.cells #[str t.name,str t.coef] 44);have U:=ze (Blk.new wr 44 #[str t.name,str t.coef])
  have bO (w' :World) (hb:Below wr.heap.size wr w'):yP w' gs gm q0:=by
   obtain ⟨_,_,_,_,_,_,_,_,_,_,N,R⟩:=E.o;exact ⟨_,_,_,_,_,_,_,_,_,_,N.below hb N.lt,R.below hb⟩
  replace j:=ze (j.o.below V);replace E:=ze (bO _ V);replace G:=ze (G.o.below V);replace J:=kb_ J V;replace l:=ze (l.o.below V);replace M:=ze (zh.below M.o V);replace I:=ze (I.o.trans (Chg.of_below (S:=fun x=>x=b\/x=gm) V) (fun _ _ h=>h));clear bN bP hq aZ aX b3 bI b0 V bO
  go_upto_region 4 with fail
  clear p0 p1 bZ;generalize wr.alloc (.cells #[str t.name,str t.coef] 44)=W2 at U j E G J l M I |-;generalize wr.heap.size=gt at U |-;have t1:=U.o.cell 1;simp at t1;have aM:=xu b ⟨t.coef.toArray⟩ W2 l.o (by rw [<- zt,yG];exact bK.o);rw [yG] at aM;have aV:=ze aM;clear aM;go_wp2_with fail;refine aV.o.mono ?_;rintro e w2 ⟨v,ok,rfl,⟨x2,A2,k2,c2,s2,y2,B2,aj,ai,t2,rfl⟩,bu,aY,aQ,ba⟩;have V:=zf w2 (.cells #[.int .i64 x2,.slice A2 k2 c2,.bool s2,.int .i64 y2,.slice B2 aj ai,.bool t2] 60);have af:Chg (· =b) W2 (w2.alloc (.cells #[.int .i64 x2,.slice A2 k2 c2,.bool s2,.int .i64 y2,.slice B2 aj ai,.bool t2] 60)):=zD ba V;replace j:=ze (j.o.book l.o af bk.o)
  replace E:Hid (yP (w2.alloc (.cells #[.int .i64 x2,.slice A2 k2 c2,.bool s2,.int .i64 y2,.slice B2 aj ai,.bool t2] 60)) gs gm q0):=by
   obtain ⟨_,_,_,_,_,_,_,_,_,_,N,R⟩:=E.o;exact ⟨_,_,_,_,_,_,_,_,_,_,l.o.keepBlk af N,l.o.keepR af R⟩
  replace M:=ze (l.o.keepT af M.o);replace U:=ze (l.o.keepBlk af U.o);replace J:=ze (l.o.keepBlk af J.o);replace G:=ze (l.o.keepRB af G.o);replace I:=ze (I.o.trans (S:=fun x=>x=b\/x=gm) (T:=fun x=>x=b) af (fun x _ h=>.inl h));replace l:=ze (aQ.below V);have m:=ze (Blk.new w2 60 #[.int .i64 x2,.slice A2 k2 c2,.bool s2,.int .i64 y2,.slice B2 aj ai,.bool t2]);have ag:=ze ((aY q HQ.o).below V);clear aQ ba V af aY bu aV t1
  go_upto_region 5 with fail
  generalize w2.alloc (.cells #[.int .i64 x2,.slice A2 k2 c2,.bool s2,.int .i64 y2,.slice B2 aj ai,.bool t2] 60)=Q at m ag l M j E U J G I |-;generalize w2.heap.size=gx at m |-;obtain ⟨x3,A3,k3,c3,s3,y3,B3,ca,b9,t3,bj,bc⟩:=E.o;have g0:=(bp1 bj).1;have n0:=(bq1 U).1;obtain ⟨D,aL,_,bS⟩:=id j.o;have bh:=bS t.name;have aO (w' :World) (h:Zm w' gm D):=Yl (w:=w') Y6 Vq (ze6 _) h t.name true;simp only [if_true] at aO;obtain ⟨vo,ap⟩:=uQ ((VW t.name D).getD (.agg #[.int .i64 0,.slice none 0 0,.bool false,.int .i64 0,.slice none 0 0,.bool false]));obtain ⟨bo,bw⟩:=uQ ((VW t.name D).isSome)
  have ah:Hid ((bo=false/\(zbl wt F (r.terms.take k)) t.name=none/\vo=(.agg #[.int .i64 0,.slice none 0 0,.bool false,.int .i64 0,.slice none 0 0,.bool false]))\/(bo=true/\∃ q,(zbl wt F (r.terms.take k)) t.name=some q/\zV Q vo q)):=by
   rw [ap,bw]
   split at bh
   . rename_i e;rw [e];exact .inl ⟨rfl,bh,rfl⟩
   rename_i v e;rw [e];exact .inr ⟨rfl,bh⟩
  rw [<- ap, <- bw] at aO
  obtain ⟨X,A4,k4,c4,Z,y4,Y,ab,aa,t4,ev⟩:∃ (x:Int) (A:Option Addr) (k c:Nat) (s:Bool) (y:Int) (B:Option Addr) (k' c' :Nat) (t:Bool),vo= .agg #[.int .i64 x,.slice A k c,.bool s,.int .i64 y,.slice B k' c',.bool t]:=by
   rcases ah.o with ⟨_,_,e⟩ | ⟨_,q,_,h⟩
   . exact ⟨_,_,_,_,_,_,_,_,_,_,e⟩
   . exact h.agg
  rw [ev] at aO ah;have bV:=(zv Q).out;have aT:=zf Q (.cells #[.int .i64 0,.slice none 0 0,.bool false,.int .i64 0,.slice none 0 0,.bool false] 60);have l1:=aO Q.drew (aL.below bV aL.lt);have l2:=aO (Q.alloc (.cells #[.int .i64 0,.slice none 0 0,.bool false,.int .i64 0,.slice none 0 0,.bool false] 60)).drew ((aL.below aT aL.lt).below (zv _).out (aL.below aT aL.lt).lt);have g1:=(bj.below aT bj.lt).cell 0;have n1:=(U.o.below aT U.o.lt).cell 0;simp at g1 n1;clear bh aO ap bw bS bV aT aL ev;have bX:Hid (w.heap.size<=Q.heap.size):=I.o.size;have bQ:Hid (gx<Q.heap.size):=m.o.lt;have bT:Hid (w.heap.size+1<Q.heap.size):=G.o.lt;go_wp2_with fail
  go_region
  all_goals
   have am:=ext (zf Q (.cells #[.int .i64 X,.slice A4 k4 c4,.bool Z,.int .i64 y4,.slice Y ab aa,.bool t4] 60)) (zv (Q.alloc (.cells #[.int .i64 X,.slice A4 k4 c4,.bool Z,.int .i64 y4,.slice Y ab aa,.bool t4] 60))).out;have u:Hid (Blk (Q.alloc (.cells #[.int .i64 X,.slice A4 k4 c4,.bool Z,.int .i64 y4,.slice Y ab aa,.bool t4] 60)).drew Q.heap.size 60 #[.int .i64 X,.slice A4 k4 c4,.bool Z,.int .i64 y4,.slice Y ab aa,.bool t4]):=Blk.new Q 60 #[.int .i64 X,.slice A4 k4 c4,.bool Z,.int .i64 y4,.slice Y ab aa,.bool t4];replace E:=ze (E.o.below am);replace j:=ze (j.o.below am);replace l:=ze (l.o.below am);replace M:=ze (zh.below M.o am);replace U:=kb_ U am;replace J:=kb_ J am;replace m:=kb_ m am;replace G:=ze (G.o.below am);replace ag:=ze (ag.o.below am);replace I:=ze (zD I.o am)
   have bg:Hid ((bo=false/\(zbl wt F (r.terms.take k)) t.name=none)\/(bo=true/\∃ q,(zbl wt F (r.terms.take k)) t.name=some q/\zV (Q.alloc (.cells #[.int .i64 X,.slice A4 k4 c4,.bool Z,.int .i64 y4,.slice Y ab aa,.bool t4] 60)).drew (.agg #[.int .i64 X,.slice A4 k4 c4,.bool Z,.int .i64 y4,.slice Y ab aa,.bool t4]) q)):=by
    rcases ah.o with ⟨N,R,_⟩ | ⟨N,q,R,h3⟩
    . exact .inl ⟨N,R⟩
    . exact .inr ⟨N,q,R,h3.below am⟩
   clear am ah bj bc g0 n0 l1 l2 g1 n1;generalize (Q.alloc (.cells #[.int .i64 X,.slice A4 k4 c4,.bool Z,.int .i64 y4,.slice Y ab aa,.bool t4] 60)).drew=W4 at u E j l M U J m G ag I bg |-;have bv:Hid (w.heap.size<=Q.heap.size):=bX;have bR:Hid (gx<Q.heap.size):=bQ;have bL:Hid (w.heap.size+1<Q.heap.size):=bT;clear bX bQ bT;generalize Q.heap.size=gO at u bv bR bL |-
   rcases bg.o with ⟨rfl,hn⟩ | ⟨rfl,fo,hn,ap⟩
   . have aK:Hid (((zbl wt F (r.terms.take k)) t.name).getD 0=0):=ze (by rw [hn];rfl)
     clear hn bg;have aS:Hid (xJ 8388608 0):=by rw [<- aK.o];exact bB.o
     go_wp2_with fail;refine (ZN 0 _ (by omega) (by omega)).mono ?_;rintro e w5 ⟨v,rfl,hv,an⟩;obtain ⟨X,A4,k4,c4,Z,y4,Y,ab,aa,t4,rfl⟩:=hv.agg;have bU:=ze hv;replace E:=ze (E.o.below an);replace j:=ze (j.o.below an);replace l:=ze (l.o.below an);replace M:=ze (zh.below M.o an);replace U:=kb_ U an;replace J:=kb_ J an;replace m:=kb_ m an;replace u:=kb_ u an;replace G:=ze (G.o.below an);replace ag:=ze (ag.o.below an);replace I:=ze (zD I.o an);clear an hv;have a0:=u.o.cell 0;have a1:=u.o.cell 1;have a2:=u.o.cell 2;have a3:=u.o.cell 3;have a4:=u.o.cell 4;have a5:=u.o.cell 5;obtain ⟨f0,f1,f2,f3,f4,f5⟩:=fq6 u;simp at a0 a1 a2 a3 a4 a5;go_wp2_with fail;clear a0 a1 a2 a3 a4 a5 f0 f1 f2 f3 f4 f5;have aP:∀ z,z=gO->zO w5 z:=fun z hz=>by subst hz;exact u.o.noDig (Yg _ _ _ _ _ _ _ _ _ _)
     have al:=Chg.ratSet (w:=w5) (g:=gO) (x:=X) (A:=A4) (k:=k4) (c:=c4) (s:=Z) (y:=y4) (B:=Y) (k' :=ab) (c' :=aa) (t:=t4);have bW:=yj (x:=X) (A:=A4) (k:=k4) (c:=c4) (s:=Z) (y:=y4) (B:=Y) (k' :=ab) (c' :=aa) (t:=t4) u.o;have ap:=zV.stored (x:=X) (A:=A4) (k:=k4) (c:=c4) (s:=Z) (y:=y4) (B:=Y) (k' :=ab) (c' :=aa) (t:=t4) bU.o u.o
     have bJ:yP (World.rat w5 gO X A4 k4 c4 Z y4 Y ab aa t4) gs gm q0:=by
      obtain ⟨_,_,_,_,_,_,_,_,_,_,N,R⟩:=E.o;exact ⟨_,_,_,_,_,_,_,_,_,_,al.blk N (fun e=>xp N u.o (by decide) e),al.rat R aP⟩
     have bM:ziu (World.rat w5 gO X A4 k4 c4 Z y4 Y ab aa t4) (w.heap.size+1) wt:=by
      obtain ⟨_,_,_,_,_,_,_,_,_,_,N,R⟩:=G.o;exact ⟨_,_,_,_,_,_,_,_,_,_,al.blk N (fun e=>by have:=bL.o;omega),al.rat R aP⟩
     replace j:=ze (j.o.chg al (j.o.ne u.o) aP);replace l:=ze (l.o.chg al (l.o.neB u.o) aP);replace M:=ze (M.o.chg al (fun x V e=>absurd V (by have:=bv.o;omega)));replace U:=ze (al.blk U.o (fun e=>xp U.o u.o (by decide) e));replace J:=ze (al.blk J.o (fun e=>xp J.o u.o (by decide) e));replace m:=ze (al.blk m.o (fun e=>by have:=bR.o;omega));replace ag:=ze (al.rat ag.o aP);replace I:Hid (Chg (fun x=>x=b\/x=gm) w (World.rat w5 gO X A4 k4 c4 Z y4 Y ab aa t4)):=ze (I.o.trans (S:=fun x=>x=b\/x=gm) (T:=fun x=>x=gO) al (fun x V e=>absurd V (by have:=bv.o;omega)));obtain ⟨E,G,u,ah⟩:=hz4 bJ bM bW ap;clear al bW ap bJ bM aP bU;obtain ⟨fo,bf⟩:∃ fo:Rat,fo=0:=⟨_,rfl⟩;have aK:Hid (((zbl wt F (r.terms.take k)) t.name).getD 0=fo):=by rw [bf];exact aK
     have aS:Hid (xJ 8388608 fo):=by rw [bf];exact aS
     have ah:Hid (zV (World.rat w5 gO X A4 k4 c4 Z y4 Y ab aa t4) (.agg #[.int .i64 X,.slice A4 k4 c4,.bool Z,.int .i64 y4,.slice Y ab aa,.bool t4]) fo):=by rw [bf];exact ah
     clear bf;obtain ⟨W5,bi⟩:=uQ (World.rat w5 gO X A4 k4 c4 Z y4 Y ab aa t4);rw [<- bi] at j l M U J m ag I E G u ah;simp only [World.rat] at bi;rw [<- bi];clear bi;obtain ⟨xw,Aw,kw,cw,sw,yw,Bw,a9,aR,tw,L,aD⟩:=G.o;have a7:=ze aD;have aN:=E.o.map;have g0:=aN.1;have sL:=aN.2;have n0:=U.o.cell 0;have nL:=U.o.lt;have o0:=u.o.cell 0;have o1:=u.o.cell 1;have o2:=u.o.cell 2;have o3:=u.o.cell 3;have o4:=u.o.cell 4;have o5:=u.o.cell 5;have oL:=u.o.lt;have aC :=m.o.cell 0;have az :=m.o.cell 1;have aH :=m.o.cell 2;have au :=m.o.cell 3;have aA :=m.o.cell 4;have aJ :=m.o.cell 5;have qL:=m.o.lt;have aB :=L.cell 0;have ax :=L.cell 1;have aF :=L.cell 2;have ar :=L.cell 3;have aG :=L.cell 4;have ay :=L.cell 5;have wL:=L.lt;simp at n0 o0 o1 o2 o3 o4 o5 aC az aH au aA aJ aB ax aF ar aG ay;clear aN L aD
     have ak:∀ w',Hid (Below W5.heap.size W5 w')->w'.cell? ⟨gs,0,none⟩=some (.map (some gm))/\w'.cell? ⟨gt,0,none⟩=some (str t.name)/\w'.cell? ⟨gO,0,none⟩=some (.int .i64 X)/\w'.cell? ⟨gO,1,none⟩=some (.slice A4 k4 c4)/\w'.cell? ⟨gO,2,none⟩=some (.bool Z)/\w'.cell? ⟨gO,3,none⟩=some (.int .i64 y4)/\w'.cell? ⟨gO,4,none⟩=some (.slice Y ab aa)/\w'.cell? ⟨gO,5,none⟩=some (.bool t4)/\w'.cell? ⟨gx,0,none⟩=some (.int .i64 x2)/\w'.cell? ⟨gx,1,none⟩=some (.slice A2 k2 c2)/\w'.cell? ⟨gx,2,none⟩=some (.bool s2)/\w'.cell? ⟨gx,3,none⟩=some (.int .i64 y2)/\w'.cell? ⟨gx,4,none⟩=some (.slice B2 aj ai)/\w'.cell? ⟨gx,5,none⟩=some (.bool t2)/\w'.cell? ⟨w.heap.size+1,0,none⟩=some (.int .i64 xw)/\w'.cell? ⟨w.heap.size+1,1,none⟩=some (.slice Aw kw cw)/\w'.cell? ⟨w.heap.size+1,2,none⟩=some (.bool sw)/\w'.cell? ⟨w.heap.size+1,3,none⟩=some (.int .i64 yw)/\w'.cell? ⟨w.heap.size+1,4,none⟩=some (.slice Bw a9 aR)/\w'.cell? ⟨w.heap.size+1,5,none⟩=some (.bool tw):=fun w' hB=>⟨zl hB sL g0,zl hB nL n0,zl hB oL o0,zl hB oL o1,zl hB oL o2,zl hB oL o3,zl hB oL o4,zl hB oL o5,zl hB qL aC,zl hB qL az,zl hB qL aH,zl hB qL au,zl hB qL aA,zl hB qL aJ,zl hB wL aB,zl hB wL ax,zl hB wL aF,zl hB wL ar,zl hB wL aG,zl hB wL ay⟩
     refine zb7 ak 11 (zv W5) fun C=>?_;refine tK 0 ?_;refine tK 1 ?_;refine tK 2 ?_;refine tK 3 ?_;refine tK 4 ?_;refine tK 5 ?_;refine tK 6 ?_;refine tK 7 ?_;refine tK 8 ?_;refine rK 9 fun K hK=>?_
     go_simp
     go_at_call 55;refine (YX _ _ q wt _ (ag.o.below C.1.out) (a7.o.below C.1.out) be.o bd.o).mono ?_;rintro e w6 ⟨v6,rfl,aw,aE⟩;have av:=ze aw;refine hK.out _ _ (zm (zp aE C.1) (ak _)) ?_;clear hK K C;intro C
     try simp only [Act.put,xST]
     clear aE aw;refine rK 10 fun K hK=>?_
     go_simp
     go_at_call 26;refine (vM _ _ fo (q*wt) _ (ah.o.below C.1.out) av.o aS.o bn.o).mono ?_;rintro e w7 ⟨v7,rfl,aq,aI⟩;have aU:=ze aq;refine hK.out _ _ (zm (zp aI C.1) (ak _)) ?_;clear hK K C;intro C
     try simp only [Act.put,xST]
     clear aI aq av;have O:=(C.1).out
     try clear z0 z1 zL
     replace j:=ze (j.o.below O);replace l:=ze (l.o.below O);replace G:=ze (G.o.below O);replace E:=ze (yP.below E.o O);replace M:=ze (zh.below M.o O);replace J:=kb_ J O;replace I:=ze (zD I.o O);clear O C ak;refine hdn ?_;simp only [xDR];obtain ⟨z0,z1,zL⟩:=zwu J.o;obtain ⟨w8,hu,a8,aW⟩:=Zw.put (s:=t.name) Y6 Vq j.o aU.o;have bE:=ze a8;have ae:=ze aW;clear a8 aW;go_wp2_with fail;have bx:=j.o.keepB ae.o l.o (fun e=>bk.o e.symm)
     have bG:yP w8 gs gm q0:=by
      obtain ⟨_,_,_,_,_,_,_,_,_,_,N,R⟩:=E.o;exact ⟨_,_,_,_,_,_,_,_,_,_,j.o.keepBlk ae.o N,j.o.keepR ae.o R⟩
     have bC:ziu w8 (w.heap.size+1) wt:=by
      obtain ⟨_,_,_,_,_,_,_,_,_,_,N,R⟩:=G.o;exact ⟨_,_,_,_,_,_,_,_,_,_,j.o.keepBlk ae.o N,j.o.keepR ae.o R⟩
     have bs:=j.o.keepBlk ae.o J.o;have bq:=j.o.keepT ae.o M.o;have bp:Chg (fun x=>x=b\/x=gm) w w8:=I.o.trans (S:=fun x=>x=b\/x=gm) (T:=fun x=>x=gm) ae.o (fun x _ h=>.inr h);have bD:Zw w8 gm (zbl wt F (r.terms.take (k+1))):=by rw [br.o,aK.o];exact bE.o
     have b2:IntKind.i64.wrap ((k:Int)+1)=((k+1:Nat):Int):=by rw [IntKind.wrap_i64];omega
     go_roundw
     case rel=>exact ⟨k+1,by omega,by go_num,bD,bG,bC,bs,bx,bq,bp⟩
     case measure=>simp [intOf];omega
   . have aK:Hid (((zbl wt F (r.terms.take k)) t.name).getD 0=fo):=ze (by rw [hn];rfl)
     have ah:=ze ap;have aS:Hid (xJ 8388608 fo):=by rw [<- aK.o];exact bB.o
     clear hn ap bg;generalize W4=W5 at u E j l M U J m G ag I ah |-;go_wp2_with fail;obtain ⟨xw,Aw,kw,cw,sw,yw,Bw,a9,aR,tw,L,aD⟩:=G.o;have a7:=ze aD;have aN:=E.o.map;have g0:=aN.1;have sL:=aN.2;have n0:=U.o.cell 0;have nL:=U.o.lt;have o0:=u.o.cell 0;have o1:=u.o.cell 1;have o2:=u.o.cell 2;have o3:=u.o.cell 3;have o4:=u.o.cell 4;have o5:=u.o.cell 5;have oL:=u.o.lt;have aC :=m.o.cell 0;have az :=m.o.cell 1;have aH :=m.o.cell 2;have au :=m.o.cell 3;have aA :=m.o.cell 4;have aJ :=m.o.cell 5;have qL:=m.o.lt;have aB :=L.cell 0;have ax :=L.cell 1;have aF :=L.cell 2;have ar :=L.cell 3;have aG :=L.cell 4;have ay :=L.cell 5;have wL:=L.lt;simp at n0 o0 o1 o2 o3 o4 o5 aC az aH au aA aJ aB ax aF ar aG ay;clear aN L aD
     have ak:∀ w',Hid (Below W5.heap.size W5 w')->w'.cell? ⟨gs,0,none⟩=some (.map (some gm))/\w'.cell? ⟨gt,0,none⟩=some (str t.name)/\w'.cell? ⟨gO,0,none⟩=some (.int .i64 X)/\w'.cell? ⟨gO,1,none⟩=some (.slice A4 k4 c4)/\w'.cell? ⟨gO,2,none⟩=some (.bool Z)/\w'.cell? ⟨gO,3,none⟩=some (.int .i64 y4)/\w'.cell? ⟨gO,4,none⟩=some (.slice Y ab aa)/\w'.cell? ⟨gO,5,none⟩=some (.bool t4)/\w'.cell? ⟨gx,0,none⟩=some (.int .i64 x2)/\w'.cell? ⟨gx,1,none⟩=some (.slice A2 k2 c2)/\w'.cell? ⟨gx,2,none⟩=some (.bool s2)/\w'.cell? ⟨gx,3,none⟩=some (.int .i64 y2)/\w'.cell? ⟨gx,4,none⟩=some (.slice B2 aj ai)/\w'.cell? ⟨gx,5,none⟩=some (.bool t2)/\w'.cell? ⟨w.heap.size+1,0,none⟩=some (.int .i64 xw)/\w'.cell? ⟨w.heap.size+1,1,none⟩=some (.slice Aw kw cw)/\w'.cell? ⟨w.heap.size+1,2,none⟩=some (.bool sw)/\w'.cell? ⟨w.heap.size+1,3,none⟩=some (.int .i64 yw)/\w'.cell? ⟨w.heap.size+1,4,none⟩=some (.slice Bw a9 aR)/\w'.cell? ⟨w.heap.size+1,5,none⟩=some (.bool tw):=fun w' hB=>⟨zl hB sL g0,zl hB nL n0,zl hB oL o0,zl hB oL o1,zl hB oL o2,zl hB oL o3,zl hB oL o4,zl hB oL o5,zl hB qL aC,zl hB qL az,zl hB qL aH,zl hB qL au,zl hB qL aA,zl hB qL aJ,zl hB wL aB,zl hB wL ax,zl hB wL aF,zl hB wL ar,zl hB wL aG,zl hB wL ay⟩
     refine zb7 ak 11 (zv W5) fun C=>?_;refine tK 0 ?_;refine tK 1 ?_;refine tK 2 ?_;refine tK 3 ?_;refine tK 4 ?_;refine tK 5 ?_;refine tK 6 ?_;refine tK 7 ?_;refine tK 8 ?_;refine rK 9 fun K hK=>?_
     go_simp
     go_at_call 55;refine (YX _ _ q wt _ (ag.o.below C.1.out) (a7.o.below C.1.out) be.o bd.o).mono ?_;rintro e w6 ⟨v6,rfl,aw,aE⟩;have av:=ze aw;refine hK.out _ _ (zm (zp aE C.1) (ak _)) ?_;clear hK K C;intro C
     try simp only [Act.put,xST]
     clear aE aw;refine rK 10 fun K hK=>?_
     go_simp
     go_at_call 26;refine (vM _ _ fo (q*wt) _ (ah.o.below C.1.out) av.o aS.o bn.o).mono ?_;rintro e w7 ⟨v7,rfl,aq,aI⟩;have aU:=ze aq;refine hK.out _ _ (zm (zp aI C.1) (ak _)) ?_;clear hK K C;intro C
     try simp only [Act.put,xST]
     clear aI aq av;have O:=(C.1).out
     try clear z0 z1 zL
     replace j:=ze (j.o.below O);replace l:=ze (l.o.below O);replace G:=ze (G.o.below O);replace E:=ze (yP.below E.o O);replace M:=ze (zh.below M.o O);replace J:=kb_ J O;replace I:=ze (zD I.o O);clear O C ak;refine hdn ?_;simp only [xDR];obtain ⟨z0,z1,zL⟩:=zwu J.o;obtain ⟨w8,hu,a8,aW⟩:=Zw.put (s:=t.name) Y6 Vq j.o aU.o;have bE:=ze a8;have ae:=ze aW;clear a8 aW;go_wp2_with fail;have bx:=j.o.keepB ae.o l.o (fun e=>bk.o e.symm)
     have bG:yP w8 gs gm q0:=by
      obtain ⟨_,_,_,_,_,_,_,_,_,_,N,R⟩:=E.o;exact ⟨_,_,_,_,_,_,_,_,_,_,j.o.keepBlk ae.o N,j.o.keepR ae.o R⟩
     have bC:ziu w8 (w.heap.size+1) wt:=by
      obtain ⟨_,_,_,_,_,_,_,_,_,_,N,R⟩:=G.o;exact ⟨_,_,_,_,_,_,_,_,_,_,j.o.keepBlk ae.o N,j.o.keepR ae.o R⟩
     have bs:=j.o.keepBlk ae.o J.o;have bq:=j.o.keepT ae.o M.o;have bp:Chg (fun x=>x=b\/x=gm) w w8:=I.o.trans (S:=fun x=>x=b\/x=gm) (T:=fun x=>x=gm) ae.o (fun x _ h=>.inr h);have bD:Zw w8 gm (zbl wt F (r.terms.take (k+1))):=by rw [br.o,aK.o];exact bE.o
     have b2:IntKind.i64.wrap ((k:Int)+1)=((k+1:Nat):Int):=by rw [IntKind.wrap_i64];omega
     go_roundw
     case rel=>exact ⟨k+1,by omega,by go_num,bD,bG,bC,bs,bx,bq,bp⟩
     case measure=>simp [intOf];omega
def zc2 (r:zS):Rat:=(zj r.bound).getD 0
def zk3 (p:List zr) (r:zS):Bool:=decide (zc2 r<XI p r.terms r.terms.length)
structure zlo (p:List zr) (r:zS):Prop where
 sum:Xx r.terms p
 bnd:∃ q,zj r.bound=some q/\Dz 8000 q
theorem zlo.rlen {p:List zr} {r:zS} (h:zlo p r):zj r.bound=some (zc2 r)/\xJ 8388608 (zc2 r)/\zut 8388608 (zc2 r):=by
 obtain ⟨q,b,hd⟩:=h.bnd
 have e:zc2 r=q:=by unfold zc2;rw [b];rfl
 rw [e]
 exact ⟨b,(xJ.of_dz hd).more (by omega),(Dz.nlen hd).mono (by omega)⟩
theorem zfh (x y:Rat):decide (XG x y>0)=decide (y<x):=by
 unfold XG
 by_cases e:x<y
 . rw [if_pos e,uF (by omega),uF (Rat.not_lt.2 (Rat.le_of_lt e))]
 rw [if_neg e]
 by_cases b:y<x
 . rw [if_pos b,uE b,uE (by omega)]
 rw [if_neg b,uF b,uF (by omega)]
def Ys (n:Nat) (p:Nat->Bool):Int:=match (List.range n).find? p with
 | some k=>k
 | none=> -1
theorem zrm {n k:Nat} {p:Nat->Bool} (hk:k<n) (h:p k=true) (h0:∀ j,j<k->p j=false):Ys n p=k:=by
 have:(List.range n).find? p=some k:=by
  rw [List.find?_eq_some_iff_getElem]
  refine ⟨h,k,by simpa using hk,by simp,?_⟩
  intro j b
  simp [h0 j b]
 unfold Ys
 rw [this]
theorem zl9 {n:Nat} {p:Nat->Bool} (h0:∀ j,j<n->p j=false):Ys n p= -1:=by
 have:(List.range n).find? p=none:=by
  rw [List.find?_eq_none]
  intro j b
  rw [h0 j (by simpa using b)];decide
 unfold Ys
 rw [this]
theorem zli (b gb gp:Nat) (AT AP:Option Addr) (nt ct np cp:Nat) (r:zS) (p:List zr) (w:World) (hB:zu w b) (hkb:Blk w gb 51 #[.map (some b)]) (hkp:Blk w gp 26 #[.slice AP np cp])
 (ht:yu w (.slice AT nt ct) r.terms) (hp:yu w (.slice AP np cp) p) (hs:yc r.bound) (ho:zlo p r):
 Calls prog 53 #[.agg #[.slice AT nt ct,str r.bound],.pointer (some ⟨gb,0,none⟩),.pointer (some ⟨gp,0,none⟩)] w (fun e w' =>e= .returned (.bool (zk3 p r))/\zu w' b/\Chg (· =b) w w'):=by
 have l:=zf w (.cells #[.slice AT nt ct,str r.bound] 31)
 have y:=ze (Blk.new w 31 #[.slice AT nt ct,str r.bound])
 have j:=ze (hB.below l)
 have ay:=ze hB.lt
 have F:=ze (hkb.below l hkb.lt)
 have V:=ze (hkp.below l hkp.lt)
 have D:=ze ((zh.below ht l).more l.size)
 have B:=ze ((zh.below hp l).more l.size)
 have m:Hid (Chg (· =b) w (w.alloc (.cells #[.slice AT nt ct,str r.bound] 31))):=Chg.of_below l
 obtain ⟨ah,ae,_⟩:=ho.rlen
 have ap:=ze ah
 have aw:=ze ae
 have HO:=ze ho.sum
 have an:=ze (ho.sum.rlen (uA))
 obtain ⟨z,hz⟩:=uR (XG (XI p r.terms r.terms.length) (zc2 r))
 have ao:Hid (zk3 p r=decide (z>0)):=ze (by rw [<- hz];exact (zfh _ _).symm)
 have HZ:=ze hz
 have av:¬ gb=b:=fun e=>by
  subst e
  have N:=hkb.cell 0
  rw [hB.noCells ⟨gb,0,none⟩ rfl] at N
  simp at N
 have ax:¬ gp=b:=fun e=>by
  subst e
  have N:=hkp.cell 0
  rw [hB.noCells ⟨gp,0,none⟩ rfl] at N
  simp at N
 have al:Hid (¬ w.heap.size=b):=ze (fun e=>by have:=hB.lt;omega)
 have HS:=ze hs
 clear hB hkb hkp ht hp hs ho l ah ae hz
 go_in
 go_upto_region 1 with fail
 generalize w.alloc (.cells #[.slice AT nt ct,str r.bound] 31)=W at y j F V D B m |-
 generalize w.heap.size=gr at y al |-
 have ad:=xu b ⟨r.bound.toArray⟩ W j.o (by rw [<- zt,yG];exact HS.o)
 rw [yG] at ad
 have ak:=ze ad
 obtain ⟨r0,r1,_⟩:=bq2 y;have d0:=(bq1 F).1;clear ad
 go_wp2_with fail
 refine ak.o.mono ?_
 rintro e w2 ⟨v,ok,rfl,⟨X,M,J,O,T,L,U,Q,R,S,rfl⟩,au,ai,ab,am⟩
 clear ak r0 r1 d0
 have l:=zf w2 (.cells #[.int .i64 X,.slice M J O,.bool T,.int .i64 L,.slice U Q R,.bool S] 60)
 have u:Chg (· =b) W (w2.alloc (.cells #[.int .i64 X,.slice M J O,.bool T,.int .i64 L,.slice U Q R,.bool S] 60)):=zD am l
 have af:Hid (¬ w2.heap.size=b):=ze (fun e=>by have:=ab.lt;omega)
 replace D:=ze ((j.o.keepT u D.o).more u.size)
 replace B:=ze ((j.o.keepT u B.o).more u.size)
 replace y:=ze (j.o.keepBlk u y.o)
 replace F:=ze (j.o.keepBlk u F.o)
 replace V:=ze (j.o.keepBlk u V.o)
 replace m:=ze (yp m.o u)
 replace j:=ze (ab.below l)
 have ac:=ze (Blk.new w2 60 #[.int .i64 X,.slice M J O,.bool T,.int .i64 L,.slice U Q R,.bool S])
 have E:=ze ((ai _ ap.o).below l)
 clear ab am l u ai au
 go_upto_region 2 with fail
 generalize w2.alloc (.cells #[.int .i64 X,.slice M J O,.bool T,.int .i64 L,.slice U Q R,.bool S] 60)=W3 at ac E j D B y F V m |-
 generalize w2.heap.size=gx at ac af |-
 obtain ⟨q0,q1,q2,q3,q4,q5,_⟩:=bq6 ac;have r0:=(bq1 y).1;have d0:=(bq1 F).1;have z0:=(bq1 V).1
 have G:=af.o
 have ar:=al.o
 have Y:∀ w',Hid (Chg (fun x=>x=b) W3 w')->w'.cell? ⟨gx,0,none⟩=some (.int .i64 X)/\w'.cell? ⟨gx,1,none⟩=some (.slice M J O)/\w'.cell? ⟨gx,2,none⟩=some (.bool T)/\w'.cell? ⟨gx,3,none⟩=some (.int .i64 L)/\w'.cell? ⟨gx,4,none⟩=some (.slice U Q R)/\w'.cell? ⟨gx,5,none⟩=some (.bool S)/\w'.cell? ⟨gr,0,none⟩=some (.slice AT nt ct)/\w'.cell? ⟨gb,0,none⟩=some (.map (some b))/\w'.cell? ⟨gp,0,none⟩=some (.slice AP np cp):=fun w' hB=>⟨xl hB q0 G,xl hB q1 G,xl hB q2 G,xl hB q3 G,xl hB q4 G,xl hB q5 G,xl hB r0 ar,xl hB d0 av,xl hB z0 ax⟩
 refine zb7 Y 7 (xX W3) fun C=>?_
 refine tK 0 ?_
 refine tK 1 ?_
 refine tK 2 ?_
 refine tK 3 ?_
 refine tK 5 ?_
 refine rK 4 fun K hK=>?_
 go_simp
 go_at_call 21
 have I:=(zv W3).out
 replace j:=ze (j.o.below I)
 replace D:=xte D I
 replace B:=xte B I
 replace E:=ze (E.o.below I)
 replace m:=ze (zD m.o I)
 clear I
 refine (zbx b _ _ _ _ _ _ r.terms p _ j.o D.o B.o HO.o).mono ?_
 rintro e w4 ⟨v4,rfl,ag,aj,aa⟩
 replace E:=ze (j.o.keepR aa E.o)
 replace m:=ze (yp m.o aa)
 replace j:=ze aj
 have aq:=ze ag
 refine hK.out _ _ (zm (vz aa C.1) (Y _)) ?_
 clear hK K C
 intro C
 try simp only [Act.put,xST]
 clear aa aj ag
 refine rK 6 fun K hK=>?_
 go_simp
 go_at_call 22
 refine (YO _ _ _ _ _ aq.o E.o an.o aw.o).mono ?_
 rintro e w5 ⟨rfl,Z⟩
 rw [HZ.o]
 replace j:=ze (j.o.below Z)
 replace m:=ze (zD m.o Z)
 refine hK.out _ _ (zm (xU Z C.1) (Y _)) ?_
 clear hK K C
 intro C
 try simp only [Act.put,xST]
 clear Z;clear C Y
 refine hdn ?_
 simp only [xDR]
 clear q0 q1 q2 q3 q4 q5 r0 d0 z0
 go_wp2
 go_ret
 exact ⟨by rw [ao.o];rfl,j.o,m.o⟩
def zfr (p:List zr) (rows:List zS) (k:Nat):Bool:=zk3 p (rows.getD k default)
def IfnR (w0:World) (b gb gp B:Nat) (rv pv:Value) (rows:List zS) (p:List zr) (Q:zS->Bool) (kv:Value) (wr:World):Prop:=
 ∃ k:Nat,k<=rows.length/\kv= .int .i64 k/\Hid (∀ j,j<k->Q (rows.getD j default)=false)/\Hid (zu wr b)/\Hid (zR wr B rv rows)/\Hid (zh wr B pv p)/\
  Hid (Blk wr gb 51 #[.map (some b)])/\Hid (Blk wr gp 26 #[pv])/\Hid (Chg (· =b) w0 wr)
theorem zeu (F:FuncId) (Q:zS->Bool) (b gb gp B:Nat) (A AP:Option Addr) (n c np cp:Nat) (rows:List zS) (p:List zr) (w:World) (hB:zu w b) (hkb:Blk w gb 51 #[.map (some b)]) (hkp:Blk w gp 26 #[.slice AP np cp])
 (hr:zR w B (.slice A n c) rows) (hp:zh w B (.slice AP np cp) p) (hBB:B<=w.heap.size)
 (hcf:∀ a w,(callFunc F a).run prog w= .ok (.enter F a) w) (ho:∀ L K M k w,k<rows.length->zu w b->Blk w gb 51 #[.map (some b)]->Blk w gp 26 #[.slice AP np cp]->yu w (.slice L K M) (rows.getD k default).terms->yu w (.slice AP np cp) p->yc (rows.getD k default).bound->
   Calls prog F #[.agg #[.slice L K M,str (rows.getD k default).bound],.pointer (some ⟨gb,0,none⟩),.pointer (some ⟨gp,0,none⟩)] w (fun e w' =>e= .returned (.bool (Q (rows.getD k default)))/\zu w' b/\Chg (· =b) w w')):
 Calls prog 52 #[.slice A n c,.func (.func F) #[] #[.pointer (some ⟨gb,0,none⟩),.pointer (some ⟨gp,0,none⟩)]] w
  (fun e w' =>e= .returned (.int .i64 (Ys rows.length (fun k=>Q (rows.getD k default))))/\zu w' b/\Chg (· =b) w w'):=by
 obtain rfl:=hr.len
 have af:rows.length<=100000:=by obtain ⟨_,_,_,_,_,_,h,_⟩:=hr;exact h
 obtain ⟨l,y,u,C,D⟩:=hz5 hB hr hp hkb hkp
 have m:=ze (Chg.refl (S:=(· =b)) w)
 have HO:=ze ho
 have aa:=ze hBB
 clear hB hkb hkp hr hp hBB ho
 go_in
 go_wp2
 go_loopw [8] (IfnR w b gb gp B (.slice A rows.length c) (.slice AP np cp) rows p Q) (fun kv _=>rows.length - (intOf kv).toNat)
 case atStart=>exact ⟨0,uB,rfl,ze (fun j h=>by omega),l,y,u,C,D,m⟩
 case round=>
  clear l y u C D m
  obtain ⟨k,hk,rfl,O,l,y,u,C,D,m⟩:=hrel
  by_cases I:k<rows.length
  rotate_left
  . obtain rfl:rows.length=k:=by omega
    have R:Hid (Ys rows.length (fun k=>Q (rows.getD k default))= -1):=ze (zl9 O.o);go_wp2;go_ret;exact ⟨by rw [R.o];rfl,l.o,m.o⟩
  have ae:(k:Int)<(rows.length:Int):=by omega
  obtain ⟨ad,L,K,M,eA,ac,Z,Y,V,X⟩:=y.o.at_ I;subst eA;have E:=xGD (d:=default) I;have U:B<=wr.heap.size:=uC aa.o m.o.size;have N:=HO.o L K M k wr I l.o C.o D.o (by rw [E];exact V.more U) (u.o.more U) (by rw [E];exact X);rw [E] at N;have T:Hid (Q (rows.getD k default)=Q rows[k]):=ze (by rw [E]);generalize hz:Q rows[k]=z at N T;have J:=ze N;clear V X E U N hz ac
  cases z with
  | true=>
    have R:Hid (Ys rows.length (fun k=>Q (rows.getD k default))=k):=ze (zrm I T.o O.o);go_wp2_with fail;refine J.o.mono ?_;rintro e w1 ⟨rfl,G,r⟩;replace m:=ze (yp m.o r);replace l:=ze G;clear G r J Z Y;go_wp2;go_ret;exact ⟨by rw [R.o];rfl,l.o,m.o⟩
  | false=>
    have ab:Hid (∀ j,j<k+1->Q (rows.getD j default)=false):=ze (fun j hj=>by
     by_cases e:j=k
     . subst e;exact T.o
     exact O.o j (by omega))
    go_wp2_with fail;refine J.o.mono ?_;rintro e w1 ⟨rfl,G,r⟩;replace y:=ze (l.o.keepRows r y.o);replace u:=ze (l.o.keepT r u.o);replace C:=ze (l.o.keepBlk r C.o);replace D:=ze (l.o.keepBlk r D.o);replace m:=ze (yp m.o r);replace l:=ze G;clear G r J Z Y;go_wp2;go_roundw
    case rel=>exact ⟨k+1,by omega,by go_num,ab,l,y,u,C,D,m⟩
    case measure=>simp [intOf];omega
theorem zcc (b:Nat) (A AP:Option Addr) (n c np cp:Nat) (rows:List zS) (p:List zr) (w:World) (hB:zu w b) (hr:Zi w (.slice A n c) rows) (hp:yu w (.slice AP np cp) p) (ho:∀ k,k<rows.length->zlo p (rows.getD k default)):
 Calls prog 20 #[.map (some b),.slice A n c,.slice AP np cp] w (XX b (Ys rows.length (zfr p rows)) w):=by
 have C:=zf w (.cells #[.map (some b)] 51)
 have u:=zf (w.alloc (.cells #[.map (some b)] 51)) (.cells #[.slice AP np cp] 26)
 have j:=ext C u
 have B:=(Blk.new w 51 #[.map (some b)]).alloc (.cells #[.slice AP np cp] 26)
 have l:=Blk.new (w.alloc (.cells #[.map (some b)] 51)) 26 #[.slice AP np cp]
 rw [World.size_alloc] at l
 have r:=zeu 53 (zk3 p) b w.heap.size (w.heap.size+1) w.heap.size A AP n c np cp rows p _ (hB.below j) B l (zR.below hr j) (zh.below hp j) j.size (fun _ _=>by kernel_rfl) (fun AT nt ct k w hk h1 h2 h3 h4 h5 h6=>zli b _ _ AT AP nt ct np cp _ p w h1 h2 h3 h4 h5 h6 (ho k hk))
 have D:=ze r
 have m:Hid (Chg (· =b) w ((w.alloc (.cells #[.map (some b)] 51)).alloc (.cells #[.slice AP np cp] 26))):=Chg.of_below j
 clear hB hr hp ho C u j B l r
 go_in
 go_wp2_with fail
 refine D.o.mono ?_
 rintro e F ⟨rfl,y,z⟩
 have E:=ze y
 replace m:=ze (yp m.o z)
 clear y z D
 go_wp2
 go_ret
 exact ⟨rfl,E.o,m.o⟩
structure ztw (goal:List zr) (s:List UInt8):Prop where
 err:yh goal=0
 all:∀ t∈goal,t.name=s
def xy (rows:List zS) (goal:List zr):Int:=if yB rows≠0 then yB rows else if yh goal≠0 then yh goal else if 80<(zy rows [goal]).length then 3 else 0
def zjb (w:World) (rows:List zS) (goal:List zr) (e:Ending) (w' :World):Prop:=
 ∃ o A n c,e= .returned (.tuple #[.map o,.slice A n c,.int .i64 (xy rows goal)])/\(xy rows goal=0->∃ b,o=some b/\zu w' b/\zT w' w'.heap.size (.slice A n c) (zy rows [goal])/\w.heap.size<=b)/\Below w.heap.size w w'
theorem X4 (A A2:Option Addr) (n c n2 c2:Nat) (rows:List zS) (goal:List zr) (w:World) (hr:Zi w (.slice A n c) rows) (hg:yu w (.slice A2 n2 c2) goal)
 (hcnt:rows.length<=800->(zy rows []).length<=100000) (hcnt2:yB rows=0->(zy rows [goal]).length<=100000):
 Calls prog 13 #[.slice A n c,.slice A2 n2 c2] w (zjb w rows goal):=by
 have ai:=@run_makeMap prog
 have F:=zf w (.map #[] 0)
 have r:=ze (zu.new w)
 have E:=ze (zR.below hr F)
 have D:=ze (zh.below hg F)
 have m:Hid (Chg (· =w.heap.size) w (w.alloc (.map #[] 0))):=Chg.of_below F
 have H1:=ze hcnt
 have H2:=ze hcnt2
 clear hr hg hcnt hcnt2 F
 go_in
 go_upto_region 2 with fail
 clear ai
 have ah:Hid (w.heap.size<=w.heap.size):=uA
 generalize w.alloc (.map #[] 0)=W at r E D m |-
 obtain ⟨b,hb⟩:=uQ w.heap.size
 have J:Hid (w.heap.size<=b):=Nat.le_of_eq hb.symm
 have ag:=r.o.lt
 have Z:Hid (w.heap.size<=W.heap.size):=m.o.size
 rw [<- hb] at r m |-
 clear hb ah ag
 have U:=XU b A n c rows W r.o (E.o.more Z.o) H1.o
 generalize K:yB rows=z at U
 have R:=ze U
 by_cases I:z=0
 rotate_left
 . have C:Hid (xy rows goal=z):=ze (by unfold xy;rw [if_pos (by rw [K];exact I),K])
   have ao:(z == 0)=false:=uD I;have al:=ze I;clear U K I;go_wp2_with fail;refine R.o.mono ?_;rintro e w1 ⟨rfl,G,B⟩;replace m:=ze (yp m.o B);clear G B R r E D Z;go_wp2;go_ret3;exact ⟨none,none,0,0,by rw [C.o];rfl,(fun h=>by rw [C.o] at h;exact absurd h al.o),m.o.below (uA) (fun x e=>by subst e;exact J.o)⟩
 subst I
 have T:=ze K;clear U K;go_wp2_with fail;refine R.o.mono ?_;rintro e w1 ⟨rfl,G,B⟩;replace E:=ze (r.o.keepRows B E.o);replace D:=ze (r.o.keepT B D.o);replace m:=ze (yp m.o B);replace r:=ze G;clear G B R Z;have V:=zeh b A2 n2 c2 goal w1 r.o (D.o.more m.o.size);generalize M:yh goal=y at V;have S:=ze V
 by_cases O:y=0
 rotate_left
 . have C:Hid (xy rows goal=y):=ze (by unfold xy;rw [if_neg (fun h=>h T.o),if_pos (by rw [M];exact O),M])
   have an:(y == 0)=false:=uD O;have am:=ze O;clear V M O;go_wp2_with fail;refine S.o.mono ?_;rintro e w2 ⟨rfl,G,B⟩;replace m:=ze (yp m.o B);clear G B S r E D;go_wp2;go_ret3;exact ⟨none,none,0,0,by rw [C.o];rfl,(fun h=>by rw [C.o] at h;exact absurd h am.o),m.o.below (uA) (fun x e=>by subst e;exact J.o)⟩
 subst O
 have HY:=ze M;clear V M;go_wp2_with fail;refine S.o.mono ?_;rintro e w2 ⟨rfl,G,B⟩;replace E:=ze (r.o.keepRows B E.o);replace D:=ze (r.o.keepT B D.o);replace m:=ze (yp m.o B);replace r:=ze G;clear G B S;have F:=zf w2 (.cells #[.slice A2 n2 c2] 23);have Y:=Blk.new w2 23 #[.slice A2 n2 c2]
 have HO:Hid (vE (w2.alloc (.cells #[.slice A2 n2 c2] 23)) w2.heap.size 23 1 (.slice (some ⟨w2.heap.size,0,none⟩) 1 1) 1 [.slice A2 n2 c2]):=by
  refine ⟨⟨rfl,.inr ⟨_,1,_,rfl,uA,Y,uA,by unfold maxLen;omega,rfl,rfl⟩⟩,fun g hg=>?_⟩;injection hg with hg
  subst hg;exact Y.noDig (ZK (by intro u hu;simp at hu;subst hu;exact yf _ _ _))
 have ad:=zbh w2.heap.size 1 A n c (.slice (some ⟨w2.heap.size,0,none⟩) 1 1) [.slice A2 n2 c2] rows [goal] (w2.alloc (.cells #[.slice A2 n2 c2] 23)) ((zR.below E.o F).more m.o.size) HO.o
  ⟨rfl,fun j hj=>by
   have:j=0:=by simp at hj;omega
   subst this
   exact (zh.below D.o F).more m.o.size⟩ rfl (by omega) F.size (fun l hl=>by rw [hl.eq];exact H2.o T.o)
 have ab:=ze ad;have HX:=ze F;clear ad F Y HO E D;go_wp2_with fail;refine ab.o.mono ?_;rintro e w3 ⟨v,l,rfl,ac,hn,af⟩;have ae:l=zy rows [goal]:=ac.eq;rw [ae] at hn;have aa:Below w2.heap.size w2 w3:=HX.o.trans af;replace r:=ze (r.o.below aa);replace m:=ze (zD m.o aa);have HN:=ze hn;have ak:(zy rows [goal]).length<=100000:=H2.o T.o;obtain ⟨A3,c3,rfl,_⟩:=hn;clear af aa ab HX ac ae
 have N:Hid (xy rows goal=if 80<(zy rows [goal]).length then 3 else 0):=by
  show _=_
  unfold xy;rw [if_neg (fun h=>h T.o),if_neg (fun h=>h HY.o)]
 obtain ⟨L,X⟩:=uQ (zy rows [goal]);have aj:=ze X;rw [<- X] at HN ak N |-;clear X
 by_cases Q:80<L.length
 . have d0:decide ((L.length:Int)>80)=true:=by rw [decide_eq_true_iff];omega
   have C:Hid (xy rows goal=3):=ze (by rw [N.o,if_pos Q]);clear Q N;go_wp2;go_ret3;exact ⟨none,none,0,0,by rw [C.o];rfl,(fun h=>by rw [C.o] at h;cases h),m.o.below (uA) (fun x e=>by subst e;exact J.o)⟩
 have d0:decide ((L.length:Int)>80)=false:=by rw [decide_eq_false_iff_not];omega
 have C:Hid (xy rows goal=0):=ze (by rw [N.o,if_neg Q]);clear Q N;go_wp2;go_ret3;exact ⟨some b,A3,_,c3,by rw [C.o];rfl,(fun _=>⟨b,rfl,r.o,by rw [<- aj.o];exact HN.o,J.o⟩),m.o.below (uA) (fun x e=>by subst e;exact J.o)⟩
def Ym:List zr->(List UInt8->Rat)->Rat
 | [],_=>0
 | t :: l,Y=>yX t*Y t.name+Ym l Y
theorem zgt (l:List zr) (t:zr) (Y:List UInt8->Rat):Ym (l ++ [t]) Y=Ym l Y+yX t*Y t.name:=by
 induction l with
 | nil=>show yX t*Y t.name+0=0+yX t*Y t.name;grind
 | cons a l ih=>show yX a*Y a.name+Ym (l ++ [t]) Y=yX a*Y a.name+Ym l Y+_;rw [ih];grind
theorem zon (p l:List zr):∀ k,k<=l.length->XI p l k=Ym (l.take k) (Zq p)
 | 0,_=>by rw [List.take_zero];rfl
 | k+1,hk=>by
   have e:l.getD k default=l[k]:=by simp [List.getD,List.getElem?_eq_getElem (by omega:k<l.length)]
   unfold XI;rw [zon p l k (by omega),List.take_add_one,List.getElem?_eq_getElem (by omega:k<l.length),Option.toList,zgt,e]
theorem zbs (p l:List zr):XI p l l.length=Ym l (Zq p):=by rw [zon p l _ (uA),List.take_length]
def zp8 (rows:List zS) (W:Nat->Rat) (Y:List UInt8->Rat):Rat:=zJ rows.length fun i=>W i*Ym (rows.getD i default).terms Y
def zvd (rows:List zS) (W:Nat->Rat):Rat:=zJ rows.length fun i=>W i*YR (rows.getD i default)
def zib (rows:List zS) (Y:List UInt8->Rat):Prop:=∀ i,i<rows.length->Ym (rows.getD i default).terms Y<=YR (rows.getD i default)
structure zdw (rows:List zS) (goal:List zr) (v:Rat) (Y:List UInt8->Rat) (W:Nat->Rat):Prop where
 keep:zib rows Y
 val:Ym goal Y=v
 pos:∀ i,i<rows.length->0<=W i
 tel:∀ Z,zp8 rows W Z=Ym goal Z
 bnd:zvd rows W<=v
structure zgx (rows:List zS) (W:Nat->Rat):Prop where
 pos:∀ i,i<rows.length->0<=W i
 tel:∀ Z,zp8 rows W Z=0
 bnd:zvd rows W<0
structure ztc (rows:List zS) (goal:List zr) (Y R:List UInt8->Rat):Prop where
 keep:zib rows Y
 ray:∀ i,i<rows.length->Ym (rows.getD i default).terms R<=0
 up:0<Ym goal R
section
variable {rows:List zS} {goal:List zr} {v v' :Rat} {Y Y' R:List UInt8->Rat} {W W' :Nat->Rat}
theorem zhz {n:Nat} {f g:Nat->Rat} (h:∀ k,k<n->f k<=g k):zJ n f<=zJ n g:=by
 induction n with
 | zero=>exact Rat.le_refl
 | succ n ih=>unfold zJ;have:=ih fun k hk=>h k (by omega);have:=h n (by omega);grind
theorem zor (hp:∀ i,i<rows.length->0<=W i) (hk:zib rows Y):zp8 rows W Y<=zvd rows W:=
 zhz fun i hi=>Rat.mul_le_mul_of_nonneg_left (hk i hi) (hp i hi)
theorem zro (hp:∀ i,i<rows.length->0<=W i) (hk:∀ i,i<rows.length->Ym (rows.getD i default).terms R<=0):zp8 rows W R<=0:=by
 have:zJ rows.length (fun i=>W i*Ym (rows.getD i default).terms R)<=zJ rows.length fun _=>0:=zhz fun i hi=>by
  have:=Rat.mul_le_mul_of_nonneg_left (hk i hi) (hp i hi)
  rw [Rat.mul_zero] at this
  exact this
 rw [yC (fun _ _=>rfl)] at this
 exact this
theorem zdw.le (h:zdw rows goal v Y W) (hk:zib rows Y'):Ym goal Y' <=v:=by
 rw [<- h.tel Y']
 exact Rat.le_trans (zor h.pos hk) h.bnd
theorem zdw.one (h:zdw rows goal v Y W) (h' :zdw rows goal v' Y' W'):v=v' :=by
 have b:=h.le h'.keep
 have e:=h'.le h.keep
 rw [h'.val] at b
 rw [h.val] at e
 exact Rat.le_antisymm e b
theorem zgx.none_ (h:zgx rows W) (hk:zib rows Y):False:=by
 have b:=zor h.pos hk
 rw [h.tel Y] at b
 have e:=h.bnd
 grind
theorem zdw.notFree (h:zdw rows goal v Y W) (hr:∀ i,i<rows.length->Ym (rows.getD i default).terms R<=0) (hu:0<Ym goal R):False:=by
 have b:=zro h.pos hr
 rw [h.tel R] at b
 grind
end
def zgh (rows:List zS) (goal:List zr) (kd:Nat) (v:Rat):Prop:=
 (kd=1/\∃ Y W,zdw rows goal v Y W)\/(kd=2/\∃ W,zgx rows W)\/(kd=3/\∃ Y R,ztc rows goal Y R)
theorem zg2 {rows:List zS} {goal:List zr} {kd kd' :Nat} {v v' :Rat} (h:zgh rows goal kd v) (b :zgh rows goal kd' v'):kd=kd' /\(kd=1->v=v'):=by
 rcases h with ⟨rfl,Y,W,h⟩ | ⟨rfl,W,h⟩ | ⟨rfl,Y,R,h⟩<;>rcases b with ⟨rfl,Y',W',b⟩ | ⟨rfl,W',b⟩ | ⟨rfl,Y',e,b⟩
 . exact ⟨rfl,fun _=>h.one b⟩
 . exact (b.none_ h.keep).elim
 . exact (h.notFree b.ray b.up).elim
 . exact (h.none_ b.keep).elim
 . exact ⟨rfl,fun h=>by cases h⟩
 . exact (h.none_ b.keep).elim
 . exact (b.notFree h.ray h.up).elim
 . exact (b.none_ h.keep).elim
 . exact ⟨rfl,fun h=>by cases h⟩
def zsl (p:List zr) (r:zS):Bool:=decide (0<XI p r.terms r.terms.length)
def zdj (rows:List zS) (goal p:List zr):Bool:= !decide (Ys rows.length (fun k=>zsl p (rows.getD k default)) ≥ 0) && decide (0<XI p goal goal.length)
theorem zo0 (b gb gp:Nat) (AT AP:Option Addr) (nt ct np cp:Nat) (r:zS) (p:List zr) (w:World) (hB:zu w b) (hkb:Blk w gb 51 #[.map (some b)]) (hkp:Blk w gp 26 #[.slice AP np cp])
 (ht:yu w (.slice AT nt ct) r.terms) (hp:yu w (.slice AP np cp) p) (ho:Xx r.terms p):
 Calls prog 60 #[.agg #[.slice AT nt ct,str r.bound],.pointer (some ⟨gb,0,none⟩),.pointer (some ⟨gp,0,none⟩)] w (fun e w' =>e= .returned (.bool (zsl p r))/\zu w' b/\Chg (· =b) w w'):=by
 have j:=zf w (.cells #[.slice AT nt ct,str r.bound] 31)
 have u:=ze (Blk.new w 31 #[.slice AT nt ct,str r.bound])
 have l:=ze (hB.below j)
 have y:=ze (hkb.below j hkb.lt)
 have B:=ze (hkp.below j hkp.lt)
 have E:=ze ((zh.below ht j).more j.size)
 have C:=ze ((zh.below hp j).more j.size)
 have m:Hid (Chg (· =b) w (w.alloc (.cells #[.slice AT nt ct,str r.bound] 31))):=Chg.of_below j
 have L:=ze ho
 obtain ⟨z,F⟩:=uR (XG (XI p r.terms r.terms.length) 0)
 have M:Hid (zsl p r=decide (z>0)):=ze (by rw [<- F];exact (zfh _ _).symm)
 have N:=ze F
 clear hB hkb hkp ht hp ho j F
 go_in
 go_upto_region 1 with fail
 generalize w.alloc (.cells #[.slice AT nt ct,str r.bound] 31)=W at u l y B E C m |-
 generalize w.heap.size=gr at u |-
 have r0:=(bq1 u).1;have d0:=(bq1 y).1;have z0:=(bq1 B).1
 go_wp2_with fail
 refine (zbx b _ _ _ _ _ _ r.terms p _ l.o E.o C.o L.o).mono ?_
 rintro e O ⟨v4,rfl,K,J,G⟩
 replace m:=ze (yp m.o G)
 replace l:=ze J
 have I:=ze K
 clear G J K r0 d0 z0 u y B E C
 go_wp2_with fail
 refine (xK _ _ _ I.o).mono ?_
 rintro e w5 ⟨rfl,D⟩
 rw [N.o]
 replace l:=ze (l.o.below D)
 replace m:=ze (zD m.o D)
 clear D I
 go_wp2
 go_ret
 exact ⟨by rw [M.o];rfl,l.o,m.o⟩
theorem zfz (b gb gp B:Nat) (A AP:Option Addr) (n c np cp:Nat) (rows:List zS) (p:List zr) (w:World) (hB:zu w b) (hkb:Blk w gb 51 #[.map (some b)]) (hkp:Blk w gp 26 #[.slice AP np cp])
 (hr:zR w B (.slice A n c) rows) (hp:zh w B (.slice AP np cp) p) (hBB:B<=w.heap.size) (ho:∀ k,k<rows.length->Xx (rows.getD k default).terms p):
 Calls prog 59 #[.slice A n c,.func (.func 60) #[] #[.pointer (some ⟨gb,0,none⟩),.pointer (some ⟨gp,0,none⟩)]] w
  (fun e w' =>e= .returned (.bool (decide (Ys rows.length (fun k=>zsl p (rows.getD k default)) ≥ 0)))/\zu w' b/\Chg (· =b) w w'):=by
 have j:=zeu 60 (zsl p) b gb gp B A AP n c np cp rows p w hB hkb hkp hr hp hBB (fun _ _=>by kernel_rfl) (fun AT nt ct k w hk h1 h2 h3 h4 h5 h6=>zo0 b _ _ AT AP nt ct np cp _ p w h1 h2 h3 h4 h5 (ho k hk))
 generalize C:Ys rows.length (fun k=>zsl p (rows.getD k default))=z at j |-
 have r:=ze j
 clear j C hB hkb hkp hr hp hBB ho
 go_in
 go_wp2_with fail
 refine r.o.mono ?_
 rintro e D ⟨rfl,l,m⟩
 have u:=ze l
 have y:=ze m
 clear l m r
 go_wp2
 go_ret
 exact ⟨rfl,u.o,y.o⟩
theorem zla (b:Nat) (A AG AP:Option Addr) (n c ng cg np cp:Nat) (rows:List zS) (goal p:List zr) (w:World) (hB:zu w b) (hr:Zi w (.slice A n c) rows) (hg:yu w (.slice AG ng cg) goal) (hp:yu w (.slice AP np cp) p)
 (ho:∀ k,k<rows.length->Xx (rows.getD k default).terms p) (hgo:Xx goal p):
 Calls prog 24 #[.map (some b),.slice A n c,.slice AG ng cg,.slice AP np cp] w (fun e w' =>e= .returned (.bool (zdj rows goal p))/\zu w' b/\Chg (· =b) w w'):=by
 have T:=zf w (.cells #[.map (some b)] 51)
 have O:=zf (w.alloc (.cells #[.map (some b)] 51)) (.cells #[.slice AP np cp] 26)
 have m:=ext T O
 have M:=(Blk.new w 51 #[.map (some b)]).alloc (.cells #[.slice AP np cp] 26)
 have G:=Blk.new (w.alloc (.cells #[.map (some b)] 51)) 26 #[.slice AP np cp]
 rw [World.size_alloc] at G
 have K:=zfz b w.heap.size (w.heap.size+1) w.heap.size A AP n c np cp rows p _ (hB.below m) M G (zR.below hr m) (zh.below hp m) m.size ho
 have l:Hid (Chg (· =b) w ((w.alloc (.cells #[.map (some b)] 51)).alloc (.cells #[.slice AP np cp] 26))):=Chg.of_below m
 have j:=ze (hB.below m)
 have C:=ze M
 have D:=ze G
 have u:=ze ((zh.below hg m).more m.size)
 have B:=ze ((zh.below hp m).more m.size)
 have aa:=ze hgo
 generalize U:decide (Ys rows.length (fun k=>zsl p (rows.getD k default)) ≥ 0)=z at K
 have N:zdj rows goal p=(!z && decide (0<XI p goal goal.length)):=by unfold zdj;rw [U]
 have X:=ze N
 have F:=ze K
 clear hB hr hp hg ho hgo T O m M G K U N
 go_in
 go_upto_region 1 with fail
 generalize (w.alloc (.cells #[.map (some b)] 51)).alloc (.cells #[.slice AP np cp] 26)=W at l j C D u B F |-
 cases z with
 | true=>
   go_wp2_with fail;refine F.o.mono ?_;rintro e Z ⟨rfl,E,r⟩;replace l:=ze (yp l.o r);replace j:=ze E;clear E r F C D u B;go_wp2;go_ret;exact ⟨by rw [X.o];rfl,j.o,l.o⟩
 | false=>
   go_wp2_with fail;refine F.o.mono ?_;rintro e Z ⟨rfl,E,r⟩;replace C:=ze (j.o.keepBlk r C.o);replace D:=ze (j.o.keepBlk r D.o);replace u:=ze ((j.o.keepT r u.o).more r.size);replace B:=ze ((j.o.keepT r B.o).more r.size);replace l:=ze (yp l.o r);replace j:=ze E;have d0:=(bq1 C).1;have z0:=(bq1 D).1;clear E r F;go_wp2_with fail;refine (zbx b _ _ _ _ _ _ goal p _ j.o u.o B.o aa.o).mono ?_;rintro e Y ⟨v4,rfl,R,S,V⟩;replace l:=ze (yp l.o V);replace j:=ze S;have L:=xK v4 _ Y R;have I:=zfh (XI p goal goal.length) 0;generalize hy:XG (XI p goal goal.length) 0=y at L I;have Q:=ze L;have ab:=ze I;clear L I hy V S R d0 z0 C D u B;go_wp2_with fail;refine Q.o.mono ?_;rintro e w5 ⟨rfl,J⟩;replace j:=ze (j.o.below J);replace l:=ze (zD l.o J);clear J Q;go_wp2;go_ret;exact ⟨by rw [X.o, <- ab.o];rfl,j.o,l.o⟩
end Go.Proofs.YtobdoblpnanclaaGreatDoor
