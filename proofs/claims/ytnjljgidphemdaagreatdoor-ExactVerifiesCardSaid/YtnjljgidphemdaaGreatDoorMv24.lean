/- Parts of the proof. -/
import Derived.Carry
import Derived.Test.YtnjljgidphemdaaGreatDoorMv23
import Derived.Test.YtnjljgidphemdaaGreatDoorMv22
import Derived.Test.YtnjljgidphemdaaGreatDoorMv20
set_option linter.all false
set_option maxRecDepth 100000
set_option maxHeartbeats 32000000
namespace Go.Proofs.YtnjljgidphemdaaGreatDoor
open Proofs.Tryz Go.RowKit Go.Deep Go.Maps Go.Sort
attribute [local go_sem ↓] Go.wp_at_zero Go.wp_at_succ
def ze4 (w:World) (B:Nat) (hs:List Value) (L:List (List zu)):Prop:=hs.length=L.length/\∀ j,j<L.length->zh w B (hs.getD j undef) (L.getD j [])
theorem ze4.below {w w' :World} {B:Nat} {hs:List Value} {L:List (List zu)} (h:ze4 w B hs L) (hb:Below B w w'):ze4 w' B hs L:=by
 refine ⟨h.1,fun j hj=>?_⟩
 obtain ⟨A,c,m,e,u,l,r,b⟩:=h.2 j hj
 exact ⟨A,c,m,e,u,l,r.below hb,b⟩
theorem zH.below' {w w' :World} {B:Nat} {v:Value} {l:List zU} (h:zH w B v l) (hb:Below B w w'):zH w' B v l:=by
 obtain ⟨A,c,H,m,e,u,j,r,b,y⟩:=h
 refine ⟨A,c,H,m,e,u,j,r.below hb,fun i hi=>?_,y⟩
 obtain ⟨A,c,m,e,u,j,r,b⟩:=b i hi
 exact ⟨A,c,m,e,u,j,r.below hb,b⟩
theorem zh.below' {w w' :World} {B:Nat} {v:Value} {l:List zu} (h:zh w B v l) (hb:Below B w w'):zh w' B v l:=by
 obtain ⟨A,c,m,e,u,j,r,b⟩:=h
 exact ⟨A,c,m,e,u,j,r.below hb,b⟩
theorem ze4.push {w:World} {B:Nat} {hs:List Value} {L:List (List zu)} {v:Value} {l:List zu} (h:ze4 w B hs L) (hv:zh w B v l):ze4 w B (hs ++ [v]) (L ++ [l]):=by
 refine ⟨by rw [List.length_append,List.length_append,h.1];rfl,fun j hj=>?_⟩
 rw [List.length_append,List.length_singleton] at hj
 by_cases e:j<L.length
 . have:=h.2 j e
   unfold List.getD at this |-;rw [List.getElem?_append_left e,List.getElem?_append_left (by rw [h.1];exact e)];exact this
 obtain rfl:j=L.length:=by omega
 unfold List.getD;rw [List.getElem?_append_right (uA),List.getElem?_append_right (by rw [h.1];exact uA),h.1,Nat.sub_self];exact hv
theorem zuv:Keyed prog 9:=string_keyed underlying9
theorem zji:prog.underlying zwg=some (.map 9 4):=by kernel_rfl
def YX (w:World) (g:Nat) (ns:List (List UInt8)):Prop:=
 ∃ (n:Nat) (D:DataW Unit),w.ownsMap prog 9 (plainElem (H:=Unit) prog 4) g n D/\n<=ns.length/\∀ x,Maps.has D (.string x)=true↔x∈ns
theorem YX.lt {w:World} {g:Nat} {ns:List (List UInt8)} (h:YX w g ns):g<w.heap.size:=by
 obtain ⟨n,D,h,_⟩:=h
 exact World.ownsMap.lt h
theorem YX.keep {w w' :World} {g:Nat} {ns:List (List UInt8)} (h:YX w g ns) (hk:w'.heap[g]?=w.heap[g]?):YX w' g ns:=by
 obtain ⟨n,D,⟨e,j,hb,F,l,m⟩,b⟩:=h
 exact ⟨n,D,⟨e,j,hk.trans hb,F,l,m⟩,b⟩
theorem YX.below {w w' :World} {g:Nat} {ns:List (List UInt8)} (h:YX w g ns) (hb:Below w.heap.size w w'):YX w' g ns:=h.keep (hb.block g h.lt)
theorem YX.new (w:World):YX (w.alloc (.map #[] 0)) w.heap.size []:=
 ⟨0,.map [],World.ownsMap_made w prog 9 (plainElem (H:=Unit) prog 4),uA,fun x=>by simp [Maps.has]⟩
theorem YX.put {w:World} {g:Nat} {ns:List (List UInt8)} {s:List UInt8} (h:YX w g ns) (hs:s.length<=1073741824) (hn:ns.length<maxLen):
 ∃ w',(Instr.mapUpdate zwg (.map (some g)) (str s) (.bool true)).run prog w= .ok () w' /\YX w' g (ns ++ [s])/\w.grownBy w' (some g):=by
 obtain ⟨n,D,h,m,l⟩:=h
 have b:keyOf prog 9 (str s)=some (.string s):=WideMaps.keyOf_string_mk underlying9 (by
  show s.toArray.size<=maxLen
  rw [List.size_toArray]
  unfold maxLen;omega)
 obtain ⟨w',r,j,u⟩:=World.ownsMap.update h zuv zji (by omega) b (plainElem_bool underlying4 true)
 refine ⟨w',r,⟨n+1,_,j,by rw [List.length_append];simpa using m,fun x=>?_⟩,u⟩
 rw [List.mem_append,uM]
 by_cases e:x=s
 . subst e
   rw [has_put_same h.isMap (k:=.string x) (show WideAt.IsKeyLit (.string x) from trivial)];exact ⟨fun _=>.inr rfl,fun _=>rfl⟩
 rw [has_put_other (by intro h;injection h with h;exact e h),l x]
 exact ⟨fun h=>.inl h,fun h=>h.elim id (fun h=>absurd h e)⟩
theorem zop {w:World} {g n:Nat} {D:DataW Unit} (h:w.ownsMap prog 9 (plainElem (H:=Unit) prog 4) g n D):(strKeys D).Nodup/\∀ x,x∈strKeys D↔Maps.has D (.string x)=true:=by
 obtain ⟨r,z,E,_⟩:=h.entries zuv
 obtain ⟨G,u,B⟩:=h.keysOf
 obtain rfl:r=G :=by rw [z] at u;simpa using u
 subst z
 have m:∀ p∈r,∃ x,p.1= .string x:=fun p hp=>by obtain ⟨v,C⟩:=B p hp;obtain ⟨x,_,F,_⟩:=Maps.keyOf_str underlying9 C;exact ⟨x,F⟩
 refine ⟨?_,fun x=>?_⟩
 . show (r.map fun p=>strOf p.1).Nodup
   refine List.pairwise_map.2 (E.imp_of_mem fun {p q} j hq' hne e=>hne ?_);obtain ⟨a,l⟩:=m p j;obtain ⟨b,hb⟩:=m q hq';rw [l,hb] at e |-;exact congrArg _ e
 rw [has_eq,List.any_eq_true]
 show (x∈r.map fun p=>strOf p.1)↔_
 rw [List.mem_map]
 constructor
 . rintro ⟨p,j,rfl⟩
   obtain ⟨a,l⟩:=m p j;exact ⟨p,j,by rw [l];simp [Lit.sameKey,strOf]⟩
 rintro ⟨p,j,y⟩
 obtain ⟨a,l⟩:=m p j;rw [l] at y;exact ⟨p,j,by rw [l];simpa [Lit.sameKey,strOf] using y⟩
theorem ZP {w:World} {base:Nat} {v:Value} {l:List (List UInt8)} (h:w.ownsRow base 9 1 v l.length (l.map str)) (hl:l.length<=100000) (hs:∀ x∈l,zS x):zw w w.heap.size v l:=by
 have m:=h
 rcases h.2 with ⟨e,b⟩ | ⟨g,j,r,e,hb,z,u,B,y⟩
 . have:l=[]:=uI b
   subst this;subst e;exact ⟨none,0,rfl,uA,by unfold maxLen;omega,by simp,yc.none_,fun x b=>by cases b⟩
 . subst e
   refine ⟨_,j,rfl,?_,?_,hl,yc.of_own m,hs⟩
   . omega
   omega
theorem zmi {w:World} {base size n:Nat} {e:TypeId} {v:Value} {xs:List Value} (h:w.ownsRow base e size v n xs):∃ am b,v= .slice am n b/\(0<n->∃ gm,am=some ⟨gm,0,none⟩):=by
 rcases h.2 with ⟨e,j⟩ | ⟨gm,b,l,e,_⟩
 . exact ⟨none,0,by rw [j];exact e,fun h=>by omega⟩
 . exact ⟨_,b,e,fun _=>⟨gm,rfl⟩⟩
theorem zgb {L:List (List zu)} {M:Nat} (h:∀ l∈L,l.length<=M):(zP L).length<=L.length*M:=by
 induction L with
 | nil=>simp [zP]
 | cons a L ih=>
   have b:=ih (fun l hl=>h l (List.mem_cons_of_mem _ hl));have e:=h a (uP ..);unfold zP at b |-;rw [List.flatMap_cons,List.length_append,List.length_map,List.length_cons,Nat.succ_mul]
   omega
theorem zck {L:List (List zu)} {j:Nat} (h:j<L.length):zP (L.take (j+1))=zP (L.take j) ++ L[j].map (·.name):=by
 unfold zP
 rw [List.take_add_one,List.getElem?_eq_getElem h,List.flatMap_append]
 simp
theorem zfu {l:List zu} {t:Nat} (h:t<l.length):(l.take (t+1)).map (·.name)=(l.take t).map (·.name) ++ [l[t].name]:=by
 rw [List.take_add_one,List.getElem?_eq_getElem h,List.map_append]
 rfl
theorem zqu:(prog.info? 23).map (fun i=>(i.zero,i.size,i.bytes))=some (some (.slice none 0 0),1,24):=by kernel_rfl
theorem Tryz.underlying155:prog.underlying 155=some (.slice 23):=by kernel_rfl
def UnkA (w0:World) (B g k:Nat) (rv:Value) (rows:List zU) (more:List (List zu)) (iv mv:Value) (wr:World):Prop:=
 ∃ (i:Nat) (hs:List Value) (mv' :Value),i<=rows.length/\iv= .int .i64 i/\mv=mv' /\Hid (Zj wr B 23 1 mv' (k+i) hs)/\Hid (ze4 wr B hs (more ++ (rows.take i).map (·.terms)))/\Hid (zH wr B rv rows)/\Hid (YX wr g [])/\Hid (Below B w0 wr)
def UnkB (w0:World) (B g n:Nat) (mv:Value) (hs:List Value) (L:List (List zu)) (jv:Value) (wr:World):Prop:=
 ∃ (j:Nat),j<=n/\jv= .int .i64 j/\Hid (Zj wr B 23 1 mv n hs)/\Hid (ze4 wr B hs L)/\Hid (YX wr g (zP (L.take j)))/\Hid (Below B w0 wr)
def UnkC (w0:World) (B g n:Nat) (mv:Value) (hs:List Value) (L:List (List zu)) (l:List zu) (tv:Value) (ns:List (List UInt8)) (jv:Value) (wr:World):Prop:=
 ∃ (j:Nat),j<=l.length/\jv= .int .i64 j/\Hid (Zj wr B 23 1 mv n hs)/\Hid (ze4 wr B hs L)/\Hid (zh wr B tv l)/\Hid (YX wr g (ns ++ (l.take j).map (·.name)))/\Hid (Below B w0 wr)
def zyg (w:World) (B:Nat) (ns:List (List UInt8)) (e:Ending) (w' :World):Prop:=∃ v l,e= .returned v/\xh l ns/\zw w' w'.heap.size v l/\Below B w w'
theorem zcp (B k:Nat) (A:Option Addr) (n c:Nat) (mv:Value) (R:List Value) (rows:List zU) (more:List (List zu)) (w:World) (hr:zH w B (.slice A n c) rows) (hm:Zj w B 23 1 mv k R) (hh:ze4 w B R more) (hk:k=more.length) (hkm:k<=100000)
 (hB:B<=w.heap.size) (hcnt:∀ l,xh l (zP (more ++ rows.map (·.terms)))->l.length<=100000):
 Calls prog 43 #[.slice A n c,mv] w (zyg w B (zP (more ++ rows.map (·.terms)))):=by
 obtain rfl:=hr.len
 subst hk
 have bl:rows.length<=100000:=by obtain ⟨_,_,_,_,_,_,h,_⟩:=hr;exact h
 have r:Hid (YX (w.alloc (.map #[] 0)) w.heap.size []):=YX.new w
 have C:Below B w (w.alloc (.map #[] 0)):=(zf w (.map #[] 0)).mono hB
 have M:=ze (zH.below' hr C)
 have z:=ze (hm.below (zf w (.map #[] 0)))
 have HH:=ze (hh.below C)
 have E:=ze C
 have ai:=ze hcnt
 have Y:Hid (B<=w.heap.size):=hB
 have bg:=@run_makeMap prog
 clear hr hm hh C hcnt hB
 go_in
 go_upto_region 2 with fail
 generalize w.alloc (.map #[] 0)=W at r M z HH E |-
 generalize w.heap.size=g at r Y |-
 clear bg
 go_wp2
 go_loopw [15,1] (UnkA w B g more.length (.slice A rows.length c) rows more) (fun iv _ _=>rows.length - (intOf iv).toNat)
 case atStart=>exact ⟨0,R,mv,uB,rfl,rfl,z,by rw [List.take_zero,List.map_nil,List.append_nil];exact HH,M,r,E⟩
 case round=>
  clear M z HH r E
  obtain ⟨i,R,mv,hi,rfl,rfl,z,HH,M,r,E⟩:=hrel
  by_cases aV:i<rows.length
  . have bn:(i:Int)<(rows.length:Int):=by omega
    obtain ⟨ad,K,J,I,eA,ae,p0,p1,U,bc⟩:=M.o.at_ aV;subst eA;have C:=zf wr (.cells #[.slice K J I,str rows[i].bound] 31);have Q:=ze (Blk.new wr 31 #[.slice K J I,str rows[i].bound]);have F:Hid (B<=wr.heap.size):=uC Y.o (Nat.le_of_lt (YX.lt r.o));have G:=C.mono F.o;have HT:=ze (zh.below' U G);replace z:=ze (z.o.below C);replace HH:=ze (HH.out.below G);replace M:=ze (zH.below' M.o G);replace r:=ze (r.o.below C);replace E:=ze (E.o.trans G);clear C U bc G
    go_upto_region 5 with fail
    clear p0 p1 ae;replace F:Hid (B<=(wr.alloc (.cells #[.slice K J I,str rows[i].bound] 31)).heap.size):=by have:=F.o;show B<=_;simp only [World.size_alloc];omega
    generalize wr.alloc (.cells #[.slice K J I,str rows[i].bound] 31)=W2 at Q HT z HH M r E F |-;generalize wr.heap.size=gr at Q |-;have r0:=(bq1 Q).1;have C:=zf W2 (.cells #[.slice K J I] 23);have G:=C.mono F.o;have av:∀ u∈[Value.slice K J I],u.oneCell' =true:=by intro u hu;rw [uM] at hu;subst hu;rfl
    have aC:∀ u∈[Value.slice K J I],Yk u:=by intro u hu;rw [uM] at hu;subst hu;exact yo _ _ _
    have ay:∀ u∈(Value.slice none 0 0).cells,Yk u:=by intro u hu;simp [Value.cells] at hu;subst hu;exact yo _ _ _
    obtain ⟨i0,bf,a6,bi,bd⟩:=info_parts zqu;have aS:=Blk.new W2 23 #[.slice K J I]
    have aD:∀ (j:Nat) (u:Value),[Value.slice K J I][j]?=some u->(W2.alloc (.cells #[.slice K J I] 23)).cell? ((⟨W2.heap.size,0,none⟩:Addr).add j)=some u:=by
     intro j u hu
     match j with
     | 0=>
       simp at hu;subst hu;have:=aS.cell 0
       simp [Addr.add]
     | j+1=>simp at hu
    replace z:=ze (z.o.below C);replace HH:=ze (HH.out.below G);replace M:=ze (zH.below' M.o G);replace HT:=ze (zh.below' HT.o G);replace r:=ze (r.o.below C);replace E:=ze (E.o.trans G);have ak:=ze (show B<=(W2.alloc (.cells #[.slice K J I] 23)).heap.size by have:=F.o;simp only [World.size_alloc];omega);clear C G aS Q;go_wp2_with (at_builtin;go_must (refine yx (P:=prog) rfl (.tmp 19) (.tmp 22) _ rfl B 23 i0 _ 1 24 underlying155 bf a6 bi bd rfl (by omega) _ (more.length+i) R rfl z.o ⟨W2.heap.size,0,none⟩ 1 1 [.slice K J I] rfl rfl (by omega) aD av aC ay ?o4 ?o5 ?o6 ?_))
    case o4=>unfold maxLen;omega
    case o5=>omega
    case o6=>exact ak.o
    intro v3 w3 az ah bb;clear aD av aC ay r0;have aN:=fun b hb=>(z.o.1.lt b hb).1
    have N:Below B (W2.alloc (.cells #[.slice K J I] 23)) w3:=(Below.refl _ _).grown ah ak.o aN;have ap:=ze az
    have ac:Hid (YX w3 g []):=r.o.keep (ah.block g r.o.lt (fun e=>by
     obtain ⟨cs,k1⟩:=z.o.heap e.symm;obtain ⟨_,_,⟨es,a4,V,_⟩,_⟩:=r.o
     rw [k1] at V;cases V))
    have ao:=ze ((HH.out.below N).push (zh.below' HT.o N));have aZ:=ze (zH.below' M.o N);have an:=ze (E.o.trans N)
    have a0:Hid ((rows.take i).map (·.terms) ++ [rows[i].terms]=(rows.take (i+1)).map (·.terms)):=by
     show _=_
     rw [List.take_add_one,List.getElem?_eq_getElem aV,List.map_append]
     rfl
    clear z HH M r E HT az ah bb aN N ak F;go_wp2;go_roundw
    case rel=>exact ⟨i+1,_,_,by omega,by go_num,rfl,ap,by rw [<- a0.o, <- List.append_assoc];exact ao,aZ,ac,an⟩
    case measure=>simp [intOf];omega
  obtain rfl:rows.length=i:=by omega
  rw [List.take_length] at HH;obtain ⟨L,hL⟩:=uQ (more ++ rows.map (·.terms));rw [<- hL] at HH ai;have bh:=ze hL;have aO:L.length=more.length+rows.length:=by rw [hL,List.length_append,List.length_map]
  rw [<- aO] at z;have a9:L.length<=200000:=by omega
  clear hL aO M;generalize hn:L.length=n at z a9;have HN:Hid (L.length=n):=hn;clear hn;obtain ⟨am,aR,aW,aH⟩:=zmi z.o.1;subst aW
  skip
  go_wp2
  go_loopw [27] (UnkB w B g n (.slice am n aR) R L) (fun iv _=>n - (intOf iv).toNat)
  case atStart=>exact ⟨0,uB,rfl,z,HH,r,E⟩
  case round=>
   clear z HH r E;obtain ⟨j,hj,rfl,z,HH,r,E⟩:=hrel
   by_cases a1:j<n
   rotate_left
   . obtain rfl:n=j:=by omega
     have aE:L.take n=L:=uJ (by rw [HN.o];exact uA)
     have af:∀ x∈zP L,zS x:=by
      intro x C;unfold zP at C;rw [List.mem_flatMap] at C;obtain ⟨l,Z,C⟩:=C;obtain ⟨t,U,rfl⟩:=List.mem_map.1 C;obtain ⟨i,hi,rfl⟩:=List.mem_iff_getElem.1 Z;obtain ⟨_,_,_,_,_,_,_,h6⟩:=HH.out.2 i hi;exact (h6 t (by simpa [List.getD,List.getElem?_eq_getElem hi] using U)).1
     have aU:(zP L).length<=20000000000:=by
      have h1:(zP L).length<=L.length*100000:=zgb (fun l Z=>by
       obtain ⟨i,hi,rfl⟩:=List.mem_iff_getElem.1 Z;have:=(HH.out.2 i hi).bound
       simpa [List.getD,List.getElem?_eq_getElem hi] using this)
      rw [HN.o] at h1
      omega
     rw [aE] at r;obtain ⟨ns,T⟩:∃ ns,Hid (zP L=ns):=⟨_,rfl⟩;rw [T.o] at r af aU ai;have be:Hid (zP (more ++ rows.map (·.terms))=ns):=ze (by rw [<- bh.o,T.o]);obtain ⟨m,D,hS,a7,aG⟩:=r.o;have ab:=zop hS;have a2:=hS.size_le;have aA:=zqm (some g) wr;have ax:=zlm g m D (plainElem (H:=Unit) prog 4) wr hS (by unfold maxLen;omega) (by omega);have aJ:=ze aA;have aT:=ze ax;have aK:Hid ((strKeys D).Nodup/\∀ x,x∈strKeys D↔x∈ns):=⟨ab.1,fun x=>(ab.2 x).trans (aG x)⟩;have aY:=ze af;have F:Hid (B<=wr.heap.size):=uC Y.o (Nat.le_of_lt (World.ownsMap.lt hS));clear hS aA ax z HH r HN T aE af aU a7 aG ab a2 aH;go_wp2_with fail;refine aJ.o.mono ?_;rintro e w1 ⟨rfl,rfl⟩;clear aJ;go_wp2_with fail;refine aT.o.mono ?_;rintro e w2 ⟨v,ss,rfl,ar,aM,a3,aF⟩;obtain ⟨aQ,ba,a8⟩:=hz3 ar aM aF;clear ar aM a3 aF aT;go_wp2;go_ret
     have aq:xh (ss.mergeSort (fun x y=>decide (x<=y))) ns:=
      ⟨zdf (aQ.o.nodup_iff.2 aK.o.1),fun x=>by rw [(List.mergeSort_perm ss _).mem_iff,aQ.o.mem_iff];exact aK.o.2 x⟩
     rw [be.o];refine ⟨v,_,rfl,aq,?_,E.o.trans (((zf wr _).mono F.o).trans (a8.o.mono (by have:=F.o;simp only [World.size_alloc];omega)))⟩;refine ZP (base:=(wr.alloc (.cells #[.map (some g)] zwg)).heap.size) ?_ (ai.o _ aq) (fun x C=>aY.o x ((aq.2 x).1 C));rw [List.length_mergeSort];exact ba.o
   obtain ⟨gm,rfl⟩:=aH (by omega)
   have bk:(j:Int)<(n:Int):=by omega
   have al:j<L.length:=by rw [HN.o];exact a1
   have X:=HH.out.2 j al;obtain ⟨At,I,eH,_⟩:=id X
   have c1:wr.cell? ⟨gm,j,none⟩=some (.slice At (L.getD j []).length I):=by
    rw [z.o.1.cellAt j (by omega)];have h1:=HH.out.1;rw [<- eH]
    simp [List.getD,List.getElem?_eq_getElem (show j<R.length by omega)]
   rw [eH] at X
   have aa:Hid (zP (L.take (j+1))=zP (L.take j) ++ (L.getD j []).map (·.name)):=by
    show _=_
    rw [zck al]
    simp [List.getD,List.getElem?_eq_getElem al]
   have aL:Hid ((zP (L.take j)).length<=20000000000):=by
    have h1:(zP (L.take j)).length<=(L.take j).length*100000:=zgb (fun l Z=>by
     obtain ⟨i,hi,rfl⟩:=List.mem_iff_getElem.1 (List.mem_of_mem_take Z);have:=(HH.out.2 i hi).bound
     simpa [List.getD,List.getElem?_eq_getElem hi] using this)
    have h2:(L.take j).length<=200000:=by rw [List.length_take];omega
    show _<=_
    omega
   have O:=ze X;have bj:=X.bound;obtain ⟨l,aI⟩:∃ l,Hid (L.getD j []=l):=⟨_,rfl⟩;rw [aI.o] at c1 aa O bj;obtain ⟨ns,T⟩:∃ ns,Hid (zP (L.take j)=ns):=⟨_,rfl⟩;rw [T.o] at aa aL r;clear X eH;go_wp2
   go_loopw [33] (UnkC w B g n (.slice (some ⟨gm,0,none⟩) n aR) R L l (.slice At l.length I) ns) (fun iv _=>l.length - (intOf iv).toNat)
   case atStart=>exact ⟨0,uB,rfl,z,HH,O,by rw [List.take_zero,List.map_nil,List.append_nil];exact r,E⟩
   case round=>
    clear z HH r E O c1;obtain ⟨t,U,rfl,z,HH,O,r,E⟩:=hrel
    by_cases aP:t<l.length
    rotate_left
    . obtain rfl:l.length=t:=by omega
      rw [List.take_length, <- aa.o] at r;clear aI aa T;go_wp2;go_roundw
      case rel=>exact ⟨j+1,by omega,by go_num,z,HH,r,E⟩
      case measure=>simp [intOf];omega
    have bm:(t:Int)<(l.length:Int):=by omega
    obtain ⟨ad,eA,ae,p0,p1,aw,aX⟩:=O.o.at_ aP;subst eA;have au:=ze (zfu aP);have C:=zf wr (.cells #[str l[t].name,str l[t].coef] 45);have Q:=ze (Blk.new wr 45 #[str l[t].name,str l[t].coef]);have F:Hid (B<=wr.heap.size):=uC Y.o (Nat.le_of_lt (YX.lt r.o));have G:=C.mono F.o;replace z:=ze (z.o.below C);replace HH:=ze (HH.out.below G);replace O:=ze (zh.below' O.o G);replace r:=ze (r.o.below C);replace E:=ze (E.o.trans G);have aB:=ze aw;clear C G aw aX
    go_upto_region 13 with fail
    clear p0 p1 ae;replace F:Hid (B<=(wr.alloc (.cells #[str l[t].name,str l[t].coef] 45)).heap.size):=by have:=F.o;show B<=_;simp only [World.size_alloc];omega
    generalize wr.alloc (.cells #[str l[t].name,str l[t].coef] 45)=W2 at Q O z HH r E F |-;generalize wr.heap.size=gr at Q |-;have r0:=(bq1 Q).1;obtain ⟨w3,hu,ag,aj⟩:=r.o.put aB.o (by rw [List.length_append,List.length_map,List.length_take];have:=aL.o;unfold maxLen;omega);rw [List.append_assoc, <- au.o] at ag;have N:Below B W2 w3:=(Below.refl _ _).grown aj F.o (fun c e=>by injection e with e;have:=Y.o;omega)
    have ap:=ze (z.o.chg (Chg.of_grown (S:=(· =g)) aj rfl) (fun c e e2=>by
     subst e2;obtain ⟨cs,k1⟩:=z.o.heap e;obtain ⟨_,_,⟨es,a4,V,_⟩,_⟩:=r.o
     rw [k1] at V;cases V))
    have ao:=ze (HH.out.below N);have a5:=ze (zh.below' O.o N);have ac:=ze ag;have an:=ze (E.o.trans N);clear z HH O r E ag aj N Q F au aB;go_wp2;go_roundw
    case rel=>exact ⟨t+1,by omega,by go_num,ap,ao,a5,ac,an⟩
    case measure=>simp [intOf];omega
theorem zmq {ns l:List (List UInt8)} {s:List UInt8} (hall:∀ x∈ns,x=s) (hex:ns≠[]) (h:xh l ns):l=[s]:=by
 refine ZC l [s] h.1 (List.pairwise_singleton _ _) fun x=>?_
 rw [h.2 x,uM]
 refine ⟨hall x,fun e=>?_⟩
 subst e
 obtain ⟨y,r,rfl⟩:=List.exists_cons_of_ne_nil hex
 rw [<- hall y (uP ..)]
 exact uP ..
theorem zpf (s:ByteArray) (w:World) (hs:s.size<=1073741824):
 Calls prog 99 #[.string s] w (VE w (.int .i64 (yD (bts s)))):=by
 have u:=Xf s w hs
 cases hr:zl (bts s) with
 | none=>
   have j:=ze (show yD (bts s)=4 by unfold yD;rw [hr]);have r:=ze hr;clear hr
   go_in
   go_wp2_with fail;refine u.mono ?_;rintro e y ⟨v,b,rfl,⟨ng,A,n,c,B,m,d,rfl⟩,hb,_,l⟩;rw [r.o] at hb;subst hb;have C:=ze (ext l (zf y (.cells #[.bool ng,.slice A n c,.slice B m d] 112)));clear l u;go_wp2;go_ret;exact ⟨Zr j.o,C.o⟩
 | some q=>
   have r:=ze hr;have I:=ze (XV.mono (zsa hr) (show 50000<=33554432 by omega))
   have j:=ze (show yD (bts s)=if (!decide (yG 12 q))=true then 3 else 0 by
    unfold yD;rw [hr];by_cases h:yG 12 q<;>simp [h])
   clear hr
   go_in
   go_wp2_with fail;refine u.mono ?_;rintro e y ⟨v,b,rfl,⟨ng,A,n,c,B,m,d,rfl⟩,hb,E,l⟩;rw [r.o] at hb;subst hb;have D:=zf y (.cells #[.bool ng,.slice A n c,.slice B m d] 112);have C:=ze (ext l D);have J:=ze (vW.below (E q r.o) D);clear l u E D;go_wp2_with fail;refine (zt0 _ q 12 _ J.o I.o (by omega)).mono ?_;rintro e w2 ⟨rfl,G⟩;have F:=ze (ext C.o G);clear G
   cases hsh:(!decide (yG 12 q)) with
   | true=>
     have z:=ze (j.o.trans (by rw [hsh];rfl:_=(3:Int)));clear hsh j;go_wp2;go_ret;exact ⟨Zr z.o,F.o⟩
   | false=>
     have z:=ze (j.o.trans (by rw [hsh];rfl:_=(0:Int)));clear hsh j;go_wp2;go_ret;exact ⟨Zr z.o,F.o⟩
theorem VJ (s:List UInt8) (w:World) (hs:zS s):Calls prog 99 #[str s] w (VE w (.int .i64 (yD s))):=by
 have h:=zpf ⟨s.toArray⟩ w (by rw [<- zm,yt];exact hs)
 rw [yt] at h
 exact h
theorem zay (s:List UInt8) (w:World) (hs:zS s):Calls prog 124 #[str s] w (zba w (.bool (vf s))):=by
 have h:=zs7 ⟨s.toArray⟩ w (by rw [<- zm,yt];exact hs)
 rw [yt] at h
 exact h
theorem zrz:zl [48]=some 0:=by
 have e:([48]:List UInt8)=zI 0:=by
  have h:=congrArg bts zmg
  rw [zkw] at h
  exact h
 have b:dec 1=[49]:=by simp [dec,digs];rfl
 rw [e]
 exact Yj ⟨by show (dec 0).length<=_;rw [vG];decide,by show (dec 1).length<=_;rw [b];decide⟩
theorem zjf {l:List UInt8} {q:Rat} (h:zl l=some q):(l=[48])↔q=0:=by
 constructor
 . intro e
   subst e;rw [zrz] at h;injection h with h;exact h.symm
 intro e
 subst e;have:=zv0 (a:=⟨l.toArray⟩) (q:=0) (by rw [yt];exact h);have b:=congrArg bts this;rw [yt,zkw] at b;have j:=congrArg bts zmg;rw [zkw] at j;rw [b, <- j]
 rfl
theorem znq {l:List UInt8} {q:Rat} (h:zl l=some q) (h0:q≠0):xd l=yD l:=by
 unfold xd yD
 rw [h]
 simp [h0]
def RtmR (w0:World) (tv:Value) (l:List zu) (kv:Value) (wr:World):Prop:=
 ∃ k:Nat,k<=l.length/\kv= .int .i64 k/\Hid (∀ j,j<k->y6 l j=0)/\Hid (zh wr w0.heap.size tv l)/\Hid (Below w0.heap.size w0 wr)
theorem zib (A:Option Addr) (n c:Nat) (l:List zu) (w:World) (ht:zV w (.slice A n c) l):Calls prog 75 #[.slice A n c] w (VE w (.int .i64 (zX l))):=by
 obtain rfl:=ht.len
 have av:=ht.bound
 have y:=ze ht
 have m:=ze (Below.refl w.heap.size w)
 clear ht
 go_in
 go_wp2
 go_loopw [3] (RtmR w (.slice A l.length c) l) (fun kv _=>l.length - (intOf kv).toNat)
 case atStart=>exact ⟨0,uB,rfl,(fun j h=>by omega),y,m⟩
 case round=>
  clear y m
  obtain ⟨k,hk,rfl,K,y,m⟩:=hrel
  by_cases D:k<l.length
  rotate_left
  . obtain rfl:l.length=k:=by omega
    have E:Hid (zX l=0):=yX.2 K.o;clear y K;go_wp2;go_ret;exact ⟨by rw [E.o];rfl,m.o⟩
  have aw:(k:Int)<(l.length:Int):=by omega
  obtain ⟨ad,eA,aq,X,U,al,am⟩:=y.o.at_ D;subst eA;have ai:=xGD (d:=default) D;have ah:=ze ai;have F:=fun w=>VJ l[k].coef w am
  have an:=fun w=>zay l[k].name w al
  have M:vf l[k].name=true->xd l[k].coef≠0->y6 l k=xd l[k].coef:=fun h1 G=>by
   unfold y6;rw [ah.o,h1,if_neg (by decide),if_pos G]
  have I:=ze an;clear ai al am aq an;obtain ⟨O,L⟩:∃ z,yD l[k].coef=z:=⟨_,rfl⟩;rw [L] at F
  cases hin:vf l[k].name with
  | false=>
    have r:Hid (y6 l k=5):=by show y6 l k=5;unfold y6;rw [ah.o,hin];rfl
    have E:Hid (zX l=5):=(yq D K.o (by rw [r.o];decide)).trans r.o;rw [hin] at I;clear hin M L r;go_wp2_with fail;refine (F _).mono ?_;rintro e w2 ⟨rfl,C⟩;have B :=C.mono m.o.size;replace y:=ze (zh.below' y.o B);replace m:=ze (m.o.trans B);obtain ⟨V,u,_,J,N,_,_⟩:=y.o.at_ D;injection u with u
    subst u;clear C B X U F;go_wp2_with fail;refine (I.o _).mono ?_;rintro e w3 ⟨rfl,rfl⟩;clear J N;go_wp2;go_ret;exact ⟨by rw [E.o];rfl,m.o⟩
  | true=>
    rw [hin] at I;have ac:=ze hin;clear hin
    cases hr:zl l[k].coef with
    | none=>
      have e4:xd l[k].coef=4:=by unfold xd;rw [hr]
      have r:Hid (y6 l k=4):=(M ac.o (by rw [e4];decide)).trans e4;have E:Hid (zX l=4):=(yq D K.o (by rw [r.o];decide)).trans r.o;have ez:O=4:=by rw [<- L];unfold yD;rw [hr]
      subst ez;clear hr M e4 L r;go_wp2_with fail;refine (F _).mono ?_;rintro e w2 ⟨rfl,C⟩;have B :=C.mono m.o.size;replace y:=ze (zh.below' y.o B);replace m:=ze (m.o.trans B);obtain ⟨V,u,_,J,N,_,_⟩:=y.o.at_ D;injection u with u
      subst u;clear C B X U F;go_wp2_with fail;refine (I.o _).mono ?_;rintro e w3 ⟨rfl,rfl⟩;clear J N;go_wp2;go_ret;exact ⟨by rw [E.o];rfl,m.o⟩
    | some q=>
      have ab:¬ O=4:=by
       rw [<- L];unfold yD;rw [hr];intro h;simp at h
       split at h<;>omega
      have d4:(O == 4)=false:=uD ab
      by_cases Q:q=0
      . have S:l[k].coef=[48]:=(zjf hr).2 Q
        have e1:xd l[k].coef=1:=by unfold xd;rw [hr];exact if_pos Q
        have r:Hid (y6 l k=1):=(M ac.o (by rw [e1];decide)).trans e1;have E:Hid (zX l=1):=(yq D K.o (by rw [r.o];decide)).trans r.o;have ar:=ze S;clear hr M e1 L r ab S Q;go_wp2_with fail;refine (F _).mono ?_;rintro e w2 ⟨rfl,C⟩;have B :=C.mono m.o.size;replace y:=ze (zh.below' y.o B);replace m:=ze (m.o.trans B);obtain ⟨V,u,_,J,N,_,_⟩:=y.o.at_ D;injection u with u
        subst u;rw [ar.o] at N;clear C B X U F;go_wp2_with fail;refine (I.o _).mono ?_;rintro e w3 ⟨rfl,rfl⟩;clear J;go_wp2;go_ret;exact ⟨by rw [E.o];rfl,m.o⟩
      have S:¬ l[k].coef=[48]:=fun e=>Q ((zjf hr).1 e)
      have ay:(l[k].coef == [48])=false:=uD S;have Z:xd l[k].coef=O:=(znq hr Q).trans L
      by_cases Y:O=0
      rotate_left
      . have r:Hid (y6 l k=O):=(M ac.o (by rw [Z];exact Y)).trans Z
        have E:Hid (zX l=O):=(yq D K.o (by rw [r.o];exact Y)).trans r.o;have d0:(O == 0)=false:=uD Y;clear hr M L ab S Q Z r Y;go_wp2_with fail;refine (F _).mono ?_;rintro e w2 ⟨rfl,C⟩;have B :=C.mono m.o.size;replace y:=ze (zh.below' y.o B);replace m:=ze (m.o.trans B);obtain ⟨V,u,_,J,N,_,_⟩:=y.o.at_ D;injection u with u
        subst u;clear C B X U F;go_wp2_with fail;refine (I.o _).mono ?_;rintro e w3 ⟨rfl,rfl⟩;clear J;go_wp2;go_ret;exact ⟨by rw [E.o];rfl,m.o⟩
      subst Y
      have ap:vf l[k].name=true->y6 l k=yi (l.getD (k - 1) default).name l[k].name (decide (k=0)):=fun h1=>by
       unfold y6;rw [ah.o,h1,if_neg (by decide),if_neg (by rw [Z];exact fun h=>h rfl)]
      have aa:=ze (ap ac.o);clear hr M L ab S Q Z ap
      by_cases af:k=0
      . have au:decide ((0:Int)<(k:Int))=false:=uF (by omega)
        have az:decide (0<k)=false:=uF (by omega);have r:Hid (y6 l k=0):=by show _=_;rw [aa.o,uE af];unfold yi;exact if_pos (.inl rfl)
        have ag:Hid (∀ j,j<k+1->y6 l j=0):=fun j hj=>by
         obtain rfl:j=k:=by omega
         exact r.o
        clear aa af;go_wp2_with fail;refine (F _).mono ?_;rintro e w2 ⟨rfl,C⟩;have B :=C.mono m.o.size;replace y:=ze (zh.below' y.o B);replace m:=ze (m.o.trans B);obtain ⟨V,u,_,J,N,_,_⟩:=y.o.at_ D;injection u with u
        subst u;clear C B X U F;go_wp2_with fail;refine (I.o _).mono ?_;rintro e w3 ⟨rfl,rfl⟩;clear J;go_wp2
        go_quiet (fail)
        go_wp2
        go_quiet (fail)
        go_wp2;go_roundw
        case rel=>exact ⟨k+1,by omega,by go_num,ag,y,ze (by first | exact zk m.o _ | exact zk (zk m.o _) _)⟩
        case measure=>simp [intOf];omega
      have aC:0<k:=by omega
      have au:(0:Int)<(k:Int):=by omega
      obtain ⟨T,ak⟩:=uQ (k - 1);have aj:T<l.length:=by omega
      have aB:IntKind.i64.wrap ((k:Int) - 1)=(T:Int):=by rw [IntKind.wrap_i64];omega
      have aA:(T:Int)<(l.length:Int):=by omega
      have ao:l.getD (k - 1) default=l[T]:=by rw [<- ak];simp [List.getD,List.getElem?_eq_getElem aj]
      have R:Hid (y6 l k=yi l[T].name l[k].name false):=by
       show _=_
       rw [aa.o,ao,uF af]
      clear aa ao ak;go_wp2_with fail;refine (F _).mono ?_;rintro e w2 ⟨rfl,C⟩;have B :=C.mono m.o.size;replace y:=ze (zh.below' y.o B);replace m:=ze (m.o.trans B);obtain ⟨V,u,_,J,N,_,_⟩:=y.o.at_ D;injection u with u
      subst u;obtain ⟨V,u,_,q0,q1,_,_⟩:=y.o.at_ aj;injection u with u
      subst u;clear C B X U F q1;have ax:=y;obtain ⟨a,ha⟩:=uR (l[T].name);obtain ⟨b,hb⟩:=uR (l[k].name);rw [ha,hb] at R;rw [ha] at q0;rw [hb] at J I;clear ha hb;have hl:=Zy a b;have he:(a == b)=decide (a=b):=by by_cases h:a=b<;>simp [h]
      by_cases G:a=b
      . have r:Hid (y6 l k=6):=by show _=_;rw [R.o];unfold yi;rw [if_neg (by rintro (h | h);cases h;rw [G] at h;exact xQ _ h),if_pos G]
        have E:Hid (zX l=6):=(yq D K.o (by rw [r.o];decide)).trans r.o;rw [uE G] at he;clear hl G R r;go_wp2_with fail;refine (I.o _).mono ?_;rintro e w3 ⟨rfl,rfl⟩;go_wp2
        go_quiet (fail)
        go_wp2;go_ret;exact ⟨by rw [E.o];rfl,by first | exact zk m.o _ | exact zk (zk m.o _) _⟩
      rw [uF G] at he
      by_cases h3:b<a
      . have r:Hid (y6 l k=1):=by show _=_;rw [R.o];unfold yi;rw [if_neg (by rintro (h | h);cases h;exact Vk h3 h),if_neg G]
        have E:Hid (zX l=1):=(yq D K.o (by rw [r.o];decide)).trans r.o;rw [uF (Vk h3)] at hl;clear G h3 R r;go_wp2_with fail;refine (I.o _).mono ?_;rintro e w3 ⟨rfl,rfl⟩;go_wp2
        go_quiet (fail)
        go_wp2
        go_quiet (fail)
        go_wp2;go_ret;exact ⟨by rw [E.o];rfl,by first | exact zk m.o _ | exact zk (zk m.o _) _⟩
      skip
      have ae:a<b:=by
       rcases Decidable.em (a<b) with h | h
       . exact h
       . exact absurd (zbt _ _ h h3) G
      have r:Hid (y6 l k=0):=by show _=_;rw [R.o];unfold yi;exact if_pos (.inr ae)
      have ag:Hid (∀ j,j<k+1->y6 l j=0):=fun j hj=>by
       by_cases e:j=k
       . subst e;exact r.o
       exact K.o j (by omega)
      rw [uE ae] at hl;clear G h3 ae R r;go_wp2_with fail;refine (I.o _).mono ?_;rintro e w3 ⟨rfl,rfl⟩;go_wp2
      go_quiet (fail)
      go_wp2
      go_quiet (fail)
      go_wp2;go_roundw
      case rel=>exact ⟨k+1,by omega,by go_num,ag,y,ze (by first | exact zk m.o _ | exact zk (zk m.o _) _)⟩
      case measure=>simp [intOf];omega
theorem zmv (A:Option Addr) (n c:Nat) (r:zU) (w:World) (ht:zV w (.slice A n c) r.terms) (hs:zS r.bound):Calls prog 48 #[.agg #[.slice A n c,str r.bound]] w (VE w (.int .i64 (yF r))):=by
 have C:=zf w (.cells #[.slice A n c,str r.bound] 31)
 have y:=ze (Blk.new w 31 #[.slice A n c,str r.bound])
 have b:=ze C
 have m:=zib A n c r.terms _ ((zh.below ht C).more C.size)
 have F:=fun w=>VJ r.bound w hs
 have J:=ze F
 clear ht hs C F
 by_cases j:zX r.terms=0
 . have B:Hid (yF r=yD r.bound):=by show _=_;unfold yF;rw [j];rfl
   rw [j] at m;have u:=ze m;clear j m;have G:=y.o.cell 1;simp at G
   go_in
   go_wp2_with fail;refine u.o.mono ?_;rintro e I ⟨rfl,l⟩;have D:=y.o.below l y.o.lt;replace b:=eb_ b l;have K:=D.cell 1;simp at K;clear l u y D G;go_wp2_with fail;refine (J.o _).mono ?_;rintro e w2 ⟨rfl,E⟩;replace b:=eb_ b E;clear E;go_wp2;go_ret;exact ⟨by rw [B.o];rfl,b.o⟩
 have B:Hid (yF r=zX r.terms):=by show _=_;unfold yF;rw [if_pos j]
 generalize L:zX r.terms=z at m B j;have M:(z == 0)=false:=uD j;have u:=ze m;clear j m L
 go_in
 go_wp2_with fail;refine u.o.mono ?_;rintro e I ⟨rfl,l⟩;replace b:=eb_ b l;clear l u y;go_wp2;go_ret;exact ⟨by rw [B.o];rfl,b.o⟩
def Zs (l:List zu) (i:Nat):Int:=
 if vf (l.getD i default).name=false then 5
 else if (zl (l.getD i default).coef).isSome=false then 4
 else yi (l.getD (i - 1) default).name (l.getD i default).name (decide (i=0))
def yI (l:List zu):Int:=yM l.length (Zs l)
def PntR (w0:World) (b B:Nat) (tv:Value) (l:List zu) (kv:Value) (wr:World):Prop:=
 ∃ k:Nat,k<=l.length/\kv= .int .i64 k/\Hid (∀ j,j<k->Zs l j=0)/\Hid (zv wr b)/\Hid (zh wr B tv l)/\Hid (Chg (· =b) w0 wr)
theorem zb3 (b:Nat) (A:Option Addr) (n c:Nat) (l:List zu) (w:World) (hB:zv w b) (ht:zV w (.slice A n c) l):Calls prog 27 #[.map (some b),.slice A n c] w (VO b (yI l) w):=by
 obtain rfl:=ht.len
 have ar:=ht.bound
 have m:=ze hB
 have u:=ze ht
 have r:=ze (Chg.refl (S:=(· =b)) w)
 clear hB ht
 go_in
 go_wp2
 go_loopw [12] (PntR w b w.heap.size (.slice A l.length c) l) (fun kv _=>l.length - (intOf kv).toNat)
 case atStart=>exact ⟨0,uB,rfl,(fun j h=>by omega),m,u,r⟩
 case round=>
  clear m u r
  obtain ⟨k,hk,rfl,D,m,u,r⟩:=hrel
  by_cases L:k<l.length
  rotate_left
  . obtain rfl:l.length=k:=by omega
    have E:Hid (yI l=0):=yX.2 D.o;go_wp2;go_ret;exact ⟨by rw [E.o];rfl,m.o,r.o⟩
  have au:(k:Int)<(l.length:Int):=by omega
  obtain ⟨ad,eA,Q,J,I,R,am⟩:=u.o.at_ L;subst eA;have z:=zf wr (.cells #[str l[k].name,str l[k].coef] 81);have y:=ze (Blk.new wr 81 #[str l[k].name,str l[k].coef]);replace m:=ze (m.o.below z);replace u:=ze (zh.below u.o z);replace r:=ze (zJ r.o z);have ac:=xGD (d:=default) L;have aa:=ze ac;have ao:=ze am;have N:=fun w=>zd1 l[k].name w R
  clear z ac R am
  go_upto_region 4 with fail
  clear J I Q;generalize wr.alloc (.cells #[str l[k].name,str l[k].coef] 81)=WL at y m u r |-;generalize wr.heap.size=gt at y |-;have J:=(bq1 y).1
  cases hin:vf l[k].name with
  | false=>
    rw [hin] at N;have B:Hid (Zs l k=5):=by show Zs l k=5;unfold Zs;rw [aa.o,hin];rfl
    have E:Hid (yI l=5):=(yq L D.o (by rw [B.o];decide)).trans B.o;clear hin;go_wp2_with fail;refine (N _).mono ?_;rintro e w1 ⟨rfl,rfl⟩;go_wp2;go_ret;exact ⟨by rw [E.o];rfl,m.o,r.o⟩
  | true=>
    rw [hin] at N;have ai:=ze hin;have ab:=xU b ⟨l[k].coef.toArray⟩ WL m.o (by rw [<- zm,yt];exact ao.o);rw [yt] at ab;have ah:=ze ab;have I:=y.o.cell 1;simp at I;clear hin ab;go_wp2_with fail;refine (N _).mono ?_;rintro e w1 ⟨rfl,rfl⟩;clear N;go_wp2_with fail;refine ah.o.mono ?_;rintro e w2 ⟨v,ok,rfl,⟨x1,A1,k1,c1,s1,y1,B1,ak,al,t1,rfl⟩,T,hq,ag,U⟩;clear ah J I;replace u:=ze (m.o.keepT U u.o);replace y:=ze (m.o.keepBlk U y.o);replace r:=ze (yn r.o U);replace m:=ze ag;have z:=zf w2 (.cells #[.int .i64 x1,.slice A1 k1 c1,.bool s1,.int .i64 y1,.slice B1 ak al,.bool t1] 70);replace m:=ze (m.o.below z);replace u:=ze (zh.below u.o z);replace y:=kb_ y z;replace r:=ze (zJ r.o z);clear ag U z
    cases hr:zl l[k].coef with
    | none=>
      rw [hr] at T;subst T;have B:Hid (Zs l k=4):=by show Zs l k=4;unfold Zs;rw [aa.o,ai.o,hr];rfl
      have E:Hid (yI l=4):=(yq L D.o (by rw [B.o];decide)).trans B.o;clear hq hr;go_wp2;go_ret;exact ⟨by rw [E.o];rfl,m.o,r.o⟩
    | some q=>
      rw [hr] at T;subst T
      have ae:Hid (Zs l k=yi (l.getD (k - 1) default).name l[k].name (decide (k=0))):=by
       show _=_
       unfold Zs;rw [aa.o,ai.o,hr]
       rfl
      clear hq hr
      go_upto_region 9 with fail
      generalize w2.alloc (.cells #[.int .i64 x1,.slice A1 k1 c1,.bool s1,.int .i64 y1,.slice B1 ak al,.bool t1] 70)=w4 at m u y r |-;obtain ⟨C,an⟩:=uQ (k - 1);have af:C<l.length:=by omega
      obtain ⟨av,X,Q,J,I,R,_⟩:=u.o.at_ af;injection X with X
      subst X;have aw:max ((k:Int) - 1) 0=(C:Int):=by omega
      have ay:IntKind.i64.wrap ((k:Int) - 1)=(k:Int) - 1:=by rw [IntKind.wrap_i64];omega
      have ax:(C:Int)<(l.length:Int):=by omega
      have t0:=(bq1 y).1;have tL:=y.o.lt;have aL:ad.block<w4.heap.size:=uK Q r.o.size;obtain ⟨F,Y⟩:=uR (yi l[C].name l[k].name (decide (k=0)));have Z:=fun w=>zf1 l[C].name l[k].name (decide (k=0)) w
      rw [Y] at Z;have dk:((k:Int) == 0)=decide (k=0):=by by_cases h:k=0<;>simp [h]
      have B:Hid (Zs l k=F):=by
       show Zs l k=F
       rw [ae.o, <- Y];have aq:l.getD (k - 1) default=l[C]:=by rw [<- an];simp [List.getD,List.getElem?_eq_getElem af]
       rw [aq]
      have aj:=ze Z;clear Y Z I R Q an ae;have V:∀ w',Hid (Below w4.heap.size w4 w')->w'.cell? (ad.add (C*2))=some (str l[C].name)/\w'.cell? ⟨gt,0,none⟩=some (str l[k].name):=fun w' hB=>⟨xy hB aL J,zq hB tL t0⟩
      refine xz V 11 1 12 (zt w4) fun M=>?_;simp only [xDR]
      iterate 11 refine yd ?_
      refine zQ ?_;refine rK 11 fun K hK=>?_
      go_simp
      go_at_call 66;refine (aj.o _).mono ?_;rintro e w5 ⟨rfl,rfl⟩;refine hK.out _ _ (zo (M.1) (V _)) ?_;clear hK K M;intro M
      try simp only [Act.put,xST]
      have O:=(M.1).out;replace m:=ze (zv.below m.o O);replace u:=ze (zh.below u.o O);replace r:=ze (zJ r.o O);clear O M V;refine hdn ?_;simp only [xDR];clear J t0 tL aL aj
      by_cases G:F=0
      rotate_left
      . have d1:(F != 0)=true:=by rw [bne_iff_ne];exact G
        have E:Hid (yI l=F):=(yq L D.o (by rw [B.o];exact G)).trans B.o;clear G D;go_wp2;go_ret;exact ⟨by rw [E.o];rfl,m.o,r.o⟩
      have d1:(F != 0)=false:=by rw [bne_eq_false_iff_eq];exact G
      have ap:Hid (∀ j,j<k+1->Zs l j=0):=fun j hj=>by
       by_cases e:j=k
       . subst e;exact B.o.trans G
       exact D.o j (by omega)
      clear G D;go_wp2;go_roundw
      case rel=>exact ⟨k+1,by omega,by go_num,ap,m,u,r⟩
      case measure=>simp [intOf];omega
theorem zfg (s:List UInt8) (w:World) (hs:zS s):Calls prog 125 #[str s] w (VE w (.bool (zl s).isSome)):=by
 have h:=zgu ⟨s.toArray⟩ w (by rw [<- zm,yt];exact hs)
 rw [yt] at h
 exact h
def RptR (w0:World) (tv:Value) (l:List zu) (kv:Value) (wr:World):Prop:=
 ∃ k:Nat,k<=l.length/\kv= .int .i64 k/\Hid (∀ j,j<k->Zs l j=0)/\Hid (zh wr w0.heap.size tv l)/\Hid (Below w0.heap.size w0 wr)
theorem ziu (A:Option Addr) (n c:Nat) (l:List zu) (w:World) (ht:zV w (.slice A n c) l):Calls prog 76 #[.slice A n c] w (VE w (.int .i64 (yI l))):=by
 obtain rfl:=ht.len
 have ak:=ht.bound
 have u:=ze ht
 have m:=ze (Below.refl w.heap.size w)
 clear ht
 go_in
 go_wp2
 go_loopw [3] (RptR w (.slice A l.length c) l) (fun kv _=>l.length - (intOf kv).toNat)
 case atStart=>exact ⟨0,uB,rfl,(fun j h=>by omega),u,m⟩
 case round=>
  clear u m
  obtain ⟨k,hk,rfl,D,u,m⟩:=hrel
  by_cases C:k<l.length
  rotate_left
  . obtain rfl:l.length=k:=by omega
    have z:Hid (yI l=0):=yX.2 D.o;clear u D;go_wp2;go_ret;exact ⟨by rw [z.o];rfl,m.o⟩
  have al:(k:Int)<(l.length:Int):=by omega
  obtain ⟨ad,eA,af,p0,p1,aa,ab⟩:=u.o.at_ C;subst eA;have U:=xGD (d:=default) C;have T:=ze U;have X:=fun w=>zfg l[k].coef w ab
  have ac:=fun w=>zay l[k].name w aa
  have J:=ze ac;have K:=ze X;clear U aa ab af ac X
  cases hin:vf l[k].name with
  | false=>
    have r:Hid (Zs l k=5):=by show Zs l k=5;unfold Zs;rw [T.o,hin];rfl
    have z:Hid (yI l=5):=(yq C D.o (by rw [r.o];decide)).trans r.o;rw [hin] at J;clear hin r;go_wp2_with fail;refine (J.o _).mono ?_;rintro e w3 ⟨rfl,rfl⟩;go_wp2;go_ret;exact ⟨by rw [z.o];rfl,m.o⟩
  | true=>
    rw [hin] at J;have Z:=ze hin;clear hin
    cases hr:(zl l[k].coef).isSome with
    | false=>
      have r:Hid (Zs l k=4):=by show Zs l k=4;unfold Zs;rw [T.o,Z.o,hr];rfl
      have z:Hid (yI l=4):=(yq C D.o (by rw [r.o];decide)).trans r.o;rw [hr] at K;clear hr r;go_wp2_with fail;refine (J.o _).mono ?_;rintro e w3 ⟨rfl,rfl⟩;go_wp2_with fail;refine (K.o _).mono ?_;rintro e w2 ⟨rfl,B⟩;replace m:=ze (m.o.trans (B.mono m.o.size));clear B;go_wp2;go_ret;exact ⟨by rw [z.o];rfl,m.o⟩
    | true=>
      rw [hr] at K
      have M:Hid (Zs l k=yi (l.getD (k - 1) default).name l[k].name (decide (k=0))):=by
       show _=_
       unfold Zs;rw [T.o,Z.o,hr]
       rfl
      clear hr
      by_cases O:k=0
      . have aj:decide ((0:Int)<(k:Int))=false:=uF (by omega)
        have am:decide (0<k)=false:=uF (by omega);have r:Hid (Zs l k=0):=by show _=_;rw [M.o,uE O];unfold yi;exact if_pos (.inl rfl)
        have Q:Hid (∀ j,j<k+1->Zs l j=0):=fun j hj=>by
         obtain rfl:j=k:=by omega
         exact r.o
        clear M O;go_wp2_with fail;refine (J.o _).mono ?_;rintro e w3 ⟨rfl,rfl⟩;go_wp2_with fail;refine (K.o _).mono ?_;rintro e w2 ⟨rfl,B⟩;have G :=B.mono m.o.size;replace u:=ze (zh.below' u.o G);replace m:=ze (m.o.trans G);clear B G p0 p1;go_wp2
        go_quiet (fail)
        go_wp2
        go_quiet (fail)
        go_wp2;go_roundw
        case rel=>exact ⟨k+1,by omega,by go_num,Q,u,ze (by first | exact zk m.o _ | exact zk (zk m.o _) _)⟩
        case measure=>simp [intOf];omega
      have ap:0<k:=by omega
      have aj:(0:Int)<(k:Int):=by omega
      obtain ⟨I,Y⟩:=uQ (k - 1);have V:I<l.length:=by omega
      have ao:IntKind.i64.wrap ((k:Int) - 1)=(I:Int):=by rw [IntKind.wrap_i64];omega
      have an:(I:Int)<(l.length:Int):=by omega
      have ae:l.getD (k - 1) default=l[I]:=by rw [<- Y];simp [List.getD,List.getElem?_eq_getElem V]
      have F:Hid (Zs l k=yi l[I].name l[k].name false):=by
       show _=_
       rw [M.o,ae,uF O]
      clear M ae Y;go_wp2_with fail;refine (J.o _).mono ?_;rintro e w3 ⟨rfl,rfl⟩;go_wp2_with fail;refine (K.o _).mono ?_;rintro e w2 ⟨rfl,B⟩;have G :=B.mono m.o.size;replace u:=ze (zh.below' u.o G);replace m:=ze (m.o.trans G);obtain ⟨ag,E,_,ah,ai,_,_⟩:=u.o.at_ C;injection E with E
      subst E;obtain ⟨ag,E,_,q0,q1,_,_⟩:=u.o.at_ V;injection E with E
      subst E;clear B G p0 p1 q1 ai;obtain ⟨a,S⟩:=uR (l[I].name);obtain ⟨b,hb⟩:=uR (l[k].name);rw [S,hb] at F;rw [S] at q0;rw [hb] at ah;clear S hb;have R:=Zy a b;have he:(a == b)=decide (a=b):=by by_cases h:a=b<;>simp [h]
      by_cases y:a=b
      . have r:Hid (Zs l k=6):=by show _=_;rw [F.o];unfold yi;rw [if_neg (by rintro (h | h);cases h;rw [y] at h;exact xQ _ h),if_pos y]
        have z:Hid (yI l=6):=(yq C D.o (by rw [r.o];decide)).trans r.o;rw [uE y] at he;clear R y F r;go_wp2
        go_quiet (fail)
        go_wp2;go_ret;exact ⟨by rw [z.o];rfl,by first | exact zk m.o _ | exact zk (zk m.o _) _⟩
      rw [uF y] at he
      by_cases L:b<a
      . have r:Hid (Zs l k=1):=by show _=_;rw [F.o];unfold yi;rw [if_neg (by rintro (h | h);cases h;exact Vk L h),if_neg y]
        have z:Hid (yI l=1):=(yq C D.o (by rw [r.o];decide)).trans r.o;rw [uF (Vk L)] at R;clear y L F r;go_wp2
        go_quiet (fail)
        go_wp2
        go_quiet (fail)
        go_wp2;go_ret;exact ⟨by rw [z.o];rfl,by first | exact zk m.o _ | exact zk (zk m.o _) _⟩
      skip
      have N:a<b:=by
       rcases Decidable.em (a<b) with h | h
       . exact h
       . exact absurd (zbt _ _ h L) y
      have r:Hid (Zs l k=0):=by show _=_;rw [F.o];unfold yi;exact if_pos (.inr N)
      have Q:Hid (∀ j,j<k+1->Zs l j=0):=fun j hj=>by
       by_cases e:j=k
       . subst e;exact r.o
       exact D.o j (by omega)
      rw [uE N] at R;clear y L N F r;go_wp2
      go_quiet (fail)
      go_wp2
      go_quiet (fail)
      go_wp2;go_roundw
      case rel=>exact ⟨k+1,by omega,by go_num,Q,u,ze (by first | exact zk m.o _ | exact zk (zk m.o _) _)⟩
      case measure=>simp [intOf];omega
def zmh (a b:List UInt8):Int:=if a<b then -1 else if b<a then 1 else 0
theorem zt9 (a b:List UInt8):zmh a b<0↔a<b:=by
 unfold zmh
 split
 . exact ⟨fun _=>‹_›,fun _=>by omega⟩
 split<;>exact ⟨fun h=>by omega,fun h=>absurd h ‹_›⟩
theorem zqv (a b:List UInt8):zmh a b=0↔a=b:=by
 unfold zmh
 constructor
 rotate_left
 . intro h
   subst h;rw [if_neg (xQ a),if_neg (xQ a)]
 intro h
 split at h
 . omega
 split at h
 . omega
 exact zbt a b ‹_› ‹_›
theorem zjq (a b:List UInt8) (w:World):Calls prog 122 #[str a,str b] w (zba w (.int .i64 (zmh a b))):=by
 have y:=fun w=>zeu ⟨a.toArray⟩ w
 have u:=fun w=>zeu ⟨b.toArray⟩ w
 have B:=Zy a b
 have z:=Zy b a
 by_cases j:a<b
 . have r:Hid (zmh a b= -1):=by show _=_;unfold zmh;exact if_pos j
   rw [uE j] at B;clear j z
   go_in
   go_wp2_with fail;refine (y _).mono ?_;rintro e m ⟨rfl,rfl⟩;go_wp2_with fail;refine (u _).mono ?_;rintro e m ⟨rfl,rfl⟩;go_wp2;go_ret;exact ⟨by rw [r.o];rfl,rfl⟩
 rw [uF j] at B
 by_cases l:b<a
 . have r:Hid (zmh a b=1):=by show _=_;unfold zmh;rw [if_neg j,if_pos l]
   rw [uE l] at z;have C:(a == b)=false:=by rw [beq_eq_false_iff_ne];intro e;subst e;exact xQ _ l
   clear j l
   go_in
   go_wp2_with fail;refine (y _).mono ?_;rintro e m ⟨rfl,rfl⟩;go_wp2_with fail;refine (u _).mono ?_;rintro e m ⟨rfl,rfl⟩;go_wp2;go_ret;exact ⟨by rw [r.o];rfl,rfl⟩
 have r:Hid (zmh a b=0):=by show _=_;unfold zmh;rw [if_neg j,if_neg l]
 rw [uF l] at z;have C:(a == b)=true:=by rw [beq_iff_eq];exact zbt a b j l
 clear j l
 go_in
 go_wp2_with fail;refine (y _).mono ?_;rintro e m ⟨rfl,rfl⟩;go_wp2_with fail;refine (u _).mono ?_;rintro e m ⟨rfl,rfl⟩;go_wp2;go_ret;exact ⟨by rw [r.o];rfl,rfl⟩
theorem zxh (a c b:List UInt8) (w:World):Calls prog 121 #[.agg #[str a,str c],str b] w (VE w (.int .i64 (zmh a b))):=by
 have l:=zf w (.cells #[str a,str c] 81)
 have j:=Blk.new w 81 #[str a,str c]
 have m:=(bp1 j).1
 have u:=ze l
 have r:=fun w=>zjq a b w
 clear j l
 go_in
 go_wp2_with fail
 refine (r _).mono ?_
 rintro e y ⟨rfl,rfl⟩
 clear m
 go_wp2
 go_ret
 exact ⟨rfl,u.o⟩
def BnvR (w0:World) (B:Nat) (tv:Value) (l:List zu) (s:List UInt8) (iv jv:Value) (wr:World):Prop:=
 ∃ i j:Nat,i<=j/\j<=l.length/\iv= .int .i64 i/\jv= .int .i64 j/\Hid (∀ k (h:k<l.length),k<i->l[k].name<s)/\Hid (∀ k (h:k<l.length),j<=k->¬ l[k].name<s)/\Hid (zh wr B tv l)/\Hid (Below w0.heap.size w0 wr)
def zwr (w:World) (l:List zu) (s:List UInt8) (e:Ending) (w' :World):Prop:=
 ∃ (k:Nat) (f:Bool),e= .returned (.tuple #[.int .i64 k,.bool f])/\k<=l.length/\(f=true->∃ h:k<l.length,l[k].name=s)/\(f=false->∀ i (h:i<l.length),l[i].name≠s)/\Below w.heap.size w w'
abbrev atFn:Value:=.func (.func 121) #[] #[]
theorem zgy (A:Option Addr) (n c B:Nat) (l:List zu) (s:List UInt8) (w:World) (ht:zh w B (.slice A n c) l) (hB:B<=w.heap.size) (hinc:∀ i j (hi:i<l.length) (hj:j<l.length),i<j->l[i].name<l[j].name):
 Calls prog 120 #[.slice A n c,str s,atFn] w (zwr w l s):=by
 obtain rfl:=ht.len
 have T:=ht.bound
 obtain ⟨D,Z,R⟩:=hz3 ht hB hinc
 have m:=ze (Below.refl w.heap.size w)
 have Y:=fun a c w=>zxh a c s w
 have aa:=ze Y
 clear ht hB hinc Y
 go_in
 go_wp2
 go_loopw [9,10] (BnvR w B (.slice A l.length c) l s) (fun iv jv _=>(intOf jv).toNat - (intOf iv).toNat)
 case atStart=>exact ⟨0,l.length,uB,uA,rfl,rfl,ze (fun k h hk=>by omega),ze (fun k h hk=>by omega),D,m⟩
 case round=>
  clear D m
  obtain ⟨i,j,aj,ag,rfl,rfl,U,ac,D,m⟩:=hrel
  by_cases ai:i<j
  rotate_left
  . obtain rfl:i=j:=by omega
    by_cases L:i<l.length
    rotate_left
    . obtain rfl:l.length=i:=by omega
      have J:Hid (∀ k (h:k<l.length),l[k].name≠s):=ze (fun k hk he=>xQ s (by have:=U.o k hk hk;rw [he] at this;exact this));have al:¬ (l.length:Int)<(l.length:Int):=by omega
      go_wp2;go_ret2;exact ⟨l.length,false,rfl,uA,(fun h=>by cases h),(fun _=>J.o),m.o⟩
    have ah:(i:Int)<(l.length:Int):=by omega
    obtain ⟨ad,Q,S,N,K,_,_⟩:=D.o.at_ L;subst Q;have u:=aa.o l[i].name l[i].coef wr;obtain ⟨z,F⟩:=uR (zmh l[i].name s);have M:=zqv l[i].name s;rw [F] at u M;have C:=ze u
    have J:Hid (decide (z=0)=false->∀ k (h:k<l.length),l[k].name≠s):=ze (fun r k hk he=>by
     have r:=of_decide_eq_false r
     rcases uL k i with h | h
     . exact xQ s (by have:=U.o k hk h;rw [he] at this;exact this)
     . by_cases e:k=i
       . subst e;exact r (M.2 he)
       have G:=R.o i k L hk (by omega)
       rw [he] at G
       exact ac.o i L (uA) G)
    have ab:Hid (decide (z=0)=true->∃ h:i<l.length,l[i].name=s):=ze (fun r=>⟨L,M.1 (uG r)⟩);have dz:(z == 0)=decide (z=0):=by by_cases h:z=0<;>simp [h]
    obtain ⟨f,r⟩:=uR (decide (z=0));rw [r] at J ab dz;clear F u M S r;go_wp2_with fail;refine C.o.mono ?_;rintro e X ⟨rfl,b⟩;have I:=ze (ext m.o b);clear b C N K;go_wp2;go_ret2;exact ⟨i,f,rfl,ag,ab.o,J.o,I.o⟩
  have ah:(i:Int)<(j:Int):=by omega
  obtain ⟨h,hh⟩:=uQ ((i+j) / 2);have O:h<l.length:=by omega
  have ak:(h:Int)<(l.length:Int):=by omega
  have e1:IntKind.i64.wrap ((i:Int)+(j:Int))=(i:Int)+(j:Int):=by rw [IntKind.wrap_i64];omega
  have e2:((i:Int)+(j:Int)) / 2=(h:Int):=by omega
  obtain ⟨ad,Q,S,N,K,_,_⟩:=D.o.at_ O;subst Q;have h1:i<=h:=by omega
  have h2:h<j:=by omega
  have u:=aa.o l[h].name l[h].coef wr;have HH:=ze hh;clear hh S;obtain ⟨z,F⟩:=uR (zmh l[h].name s);have y:=zt9 l[h].name s;rw [F] at u y;have C:=ze u
  by_cases E:z<0
  . have ae:Hid (∀ k (hk:k<l.length),k<h+1->l[k].name<s):=ze (fun k hk hkh=>by
     by_cases e:k=h
     . subst e;exact y.1 E
     have G:=R.o k h hk O (by omega)
     exact Xh G (y.1 E))
    have d0:decide (z<0)=true:=uE E;clear F u y;go_wp2_with fail;refine C.o.mono ?_;rintro e X ⟨rfl,b⟩;have V:=ze (zh.below' D.o (b.mono (uC Z.o m.o.size)));have I:=ze (ext m.o b);clear b C N K;go_wp2;go_roundw
    case rel=>exact ⟨h+1,j,by omega,by omega,by go_num,rfl,ae,ac,V,I⟩
    case measure=>simp [intOf];omega
  have af:Hid (∀ k (hk:k<l.length),h<=k->¬ l[k].name<s):=ze (fun k hk hkh T=>by
   by_cases e:k=h
   . subst e;exact E (y.2 T)
   have G:=R.o h k O hk (by omega)
   exact E (y.2 (Xh G T)))
  have d0:decide (z<0)=false:=uF E;clear F u y;go_wp2_with fail;refine C.o.mono ?_;rintro e X ⟨rfl,b⟩;have V:=ze (zh.below' D.o (b.mono (uC Z.o m.o.size)));have I:=ze (ext m.o b);clear b C N K;go_wp2;go_roundw
  case rel=>exact ⟨i,h,by omega,by omega,rfl,by go_num,U,af,V,I⟩
  case measure=>simp [intOf];omega
def ZR:List zu->List UInt8->Rat
 | [],_=>0
 | t :: l,s=>if t.name=s then (zl t.coef).getD 0 else ZR l s
theorem zho:∀ (l:List zu) (k:Nat) (s:List UInt8) (h:k<l.length),(∀ j (hj:j<l.length),j<k->l[j].name≠s)->l[k].name=s->ZR l s=(zl l[k].coef).getD 0
 | [],k,s,h,_,_=>absurd h (Nat.not_lt_zero _)
 | t :: l,0,s,h,_,h2=>by
   unfold ZR;rw [if_pos (by simpa using h2)]
   rfl
 | t :: l,k+1,s,h,h1,h2=>by
   unfold ZR;rw [if_neg (show ¬ t.name=s from h1 0 (Nat.succ_pos _) (Nat.succ_pos _))];exact zho l k s (by simpa using h) (fun j hj hjk=>h1 (j+1) (Nat.succ_lt_succ hj) (Nat.succ_lt_succ hjk)) h2
theorem za5:∀ (l:List zu) (s:List UInt8),(∀ j (hj:j<l.length),l[j].name≠s)->ZR l s=0
 | [],s,_=>rfl
 | t :: l,s,h=>by
   unfold ZR;rw [if_neg (show ¬ t.name=s from h 0 (Nat.succ_pos _))];exact za5 l s (fun j hj=>h (j+1) (Nat.succ_lt_succ hj))
structure zfh (l:List zu):Prop where
 inc:∀ i j (hi:i<l.length) (hj:j<l.length),i<j->l[i].name<l[j].name
 val:∀ i (hi:i<l.length),(zl l[i].coef).isSome=true
theorem zfh.of {l:List zu} (h:yI l=0):zfh l:=by
 have m:=yX.1 h
 have hb:∀ i (hi:i+1<l.length),l[i].name<l[i+1].name:=fun i hi=>by
  have:=m (i+1) hi
  unfold Zs at this
  have e:l.getD (i+1) default=l[i+1]:=by simp [List.getD,List.getElem?_eq_getElem hi]
  have r:l.getD (i+1 - 1) default=l[i]:=by rw [Nat.add_sub_cancel];simp [List.getD,List.getElem?_eq_getElem (show i<l.length by omega)]
  rw [e,r] at this
  split at this
  . omega
  split at this
  . omega
  unfold yi at this
  split at this
  rotate_left
  . split at this<;>omega
  rename_i b
  rcases b with b | b
  . simp at b
  . exact b
 refine ⟨fun i j hi hj hij=>?_,fun i hi=>?_⟩
 . obtain ⟨d,rfl⟩:∃ d,j=i+1+d:=⟨j - i - 1,by omega⟩
   clear hij
   induction d with
   | zero=>exact hb i hj
   | succ d ih=>exact Xh (ih (by omega)) (hb (i+1+d) hj)
 have:=m i hi
 unfold Zs at this;have e:=xGD (d:=default) hi;rw [e] at this
 split at this
 . omega
 split at this
 . omega
 rename_i b
 cases h8:(zl l[i].coef).isSome with
 | false=>exact absurd h8 b
 | true=>rfl
def zu8 (w:World) (b:Nat) (q:Rat) (e:Ending) (w' :World):Prop:=∃ v,e= .returned v/\yk w' v q/\zv w' b/\Chg (· =b) w w'
theorem zj1 {w W:World} {b g:Nat} {q:Rat} {x y x0 y0:Int} {A B A0 B0:Option Addr} {k c k' c' k0 c0 k1 c1:Nat} {s t s0 t0:Bool} {t' :TypeId} (hg:w.heap.size<=g) (hbl:b<w.heap.size) (hb:zv W b) (hc:Chg (· =b) w W)
 (hk:Blk W g t' #[.int .i64 x0,.slice A0 k0 c0,.bool s0,.int .i64 y0,.slice B0 k1 c1,.bool t0]) (hv:yk W (.agg #[.int .i64 x,.slice A k c,.bool s,.int .i64 y,.slice B k' c',.bool t]) q):
 yk (World.rat W g x A k c s y B k' c' t) (.agg #[.int .i64 x,.slice A k c,.bool s,.int .i64 y,.slice B k' c',.bool t]) q/\zv (World.rat W g x A k c s y B k' c' t) b/\Chg (· =b) w (World.rat W g x A k c s y B k' c' t):=by
 have hS:∀ z,z=g->ye W z:=fun z hz=>by subst hz;exact hk.noDig (X6 _ _ _ _ _ _ _ _ _ _)
 have e:=Chg.ratSet (w:=W) (g:=g) (x:=x) (A:=A) (k:=k) (c:=c) (s:=s) (y:=y) (B:=B) (k' :=k') (c' :=c') (t:=t)
 exact ⟨e.rat hv hS,hb.chg e (by omega) hS,Chg.trans (S:=fun z=>z=b) (T:=fun z=>z=g) hc e (fun z hz h=>absurd hz (by omega))⟩
theorem zw6 (b:Nat) (A:Option Addr) (n c B:Nat) (l:List zu) (s:List UInt8) (w:World) (hB:zv w b) (ht:zh w B (.slice A n c) l) (hBB:B<=w.heap.size) (hg:zfh l):
 Calls prog 71 #[.map (some b),.slice A n c,str s] w (zu8 w b (ZR l s)):=by
 obtain rfl:=ht.len
 have hl:=ht.bound
 have U:=zf w (.cells #[.int .i64 0,.slice none 0 0,.bool false,.int .i64 0,.slice none 0 0,.bool false] 70)
 have m:=ze (Blk.new w 70 #[.int .i64 0,.slice none 0 0,.bool false,.int .i64 0,.slice none 0 0,.bool false])
 have aj:=zgy A l.length c B l s _ (zh.below ht U) (uC hBB U.size) hg.inc
 have u:=ze (hB.below U)
 have ao:=ze hB.lt
 have HT:=ze (zh.below ht U)
 have z:Hid (Chg (· =b) w (w.alloc (.cells #[.int .i64 0,.slice none 0 0,.bool false,.int .i64 0,.slice none 0 0,.bool false] 70))):=Chg.of_below U
 have HG:=ze hg
 have al:Hid (w.heap.size<=w.heap.size):=uA
 have ai:=ze aj
 clear hB ht hBB hg U aj
 go_in
 go_wp2_with fail
 refine ai.o.mono ?_
 rintro e w1 ⟨k,f,rfl,hk,ae,ac,X⟩
 clear ai
 replace u:=ze (u.o.below X)
 replace HT:=ze (zh.below HT.o X)
 replace m:=kb_ m X
 replace z:=ze (zJ z.o X)
 clear X
 cases f with
 | false=>
   have HV:Hid (ZR l s=0):=ze (za5 l s (ac rfl));clear ae ac hk;go_wp2_with fail;refine (Xd 0 _ (by omega) (by omega)).mono ?_;rintro e w2 ⟨v,rfl,hv,aa⟩;obtain ⟨M,E,C,F,L,D,K,G,I,J,rfl⟩:=hv.agg;have Z:=ze hv;replace u:=ze (u.o.below aa);replace m:=kb_ m aa;replace z:=ze (zJ z.o aa);have a0:=m.o.cell 0;have a1:=m.o.cell 1;have a2:=m.o.cell 2;have a3:=m.o.cell 3;have a4:=m.o.cell 4;have a5:=m.o.cell 5;obtain ⟨f0,f1,f2,f3,f4,f5⟩:=fq6 m;simp at a0 a1 a2 a3 a4 a5;clear aa hv;go_wp2_with fail;have r:=yz (x:=M) (A:=E) (k:=C) (c:=F) (s:=L) (y:=D) (B:=K) (k' :=G) (c' :=I) (t:=J) m.o;have r0:=r.cell 0;have Q:=r.cell 1;have T:=r.cell 2;have O:=r.cell 3;have R:=r.cell 4;have S:=r.cell 5;simp only [World.rat] at r0 Q T O R S;simp at r0 Q T O R S
   refine bodyPost_ret (v:=.agg #[.int .i64 M,.slice E C F,.bool L,.int .i64 D,.slice K G I,.bool J]) (by simp [results,results71,go_sem,r0,Q,T,O,R,S]) rfl ?_;obtain ⟨z1,z2,z3⟩:=zj1 (x:=M) (A:=E) (k:=C) (c:=F) (s:=L) (y:=D) (B:=K) (k' :=G) (c' :=I) (t:=J) al.o ao.o u.o z.o m.o Z.o;exact ⟨_,rfl,by rw [HV.o];exact z1,z2,z3⟩
 | true=>
   obtain ⟨Y,ab⟩:=ae rfl;have HV:Hid (ZR l s=(zl l[k].coef).getD 0):=ze (zho l k s Y (fun j hj hjk he=>xQ s (by have:=HG.o.inc j k hj Y hjk;rw [he,ab] at this;exact this)) ab);have av:(k:Int)<(l.length:Int):=by omega
   obtain ⟨ad,eA,aq,p0,p1,ar,ap⟩:=HT.o.at_ Y;subst eA;have ak:=HG.o.val k Y;obtain ⟨q,an⟩:=Option.isSome_iff_exists.1 ak;have af:=xU b ⟨l[k].coef.toArray⟩ w1 u.o (by rw [<- zm,yt];exact ap);rw [yt] at af;have am:=ze af;have HQ:=ze an;clear ae ac ab ar ap ak af an p0 aq;go_wp2_with fail;refine am.o.mono ?_;rintro e w2 ⟨v,ok,rfl,⟨M,E,C,F,L,D,K,G,I,J,rfl⟩,au,hq,ah,ag⟩;clear am p1;replace m:=ze (u.o.keepBlk ag m.o);replace z:=ze (yn z.o ag);replace u:=ze ah;have V:=zf w2 (.cells #[.int .i64 M,.slice E C F,.bool L,.int .i64 D,.slice K G I,.bool J] 70);have N:=ze (Blk.new w2 70 #[.int .i64 M,.slice E C F,.bool L,.int .i64 D,.slice K G I,.bool J]);have Z:=ze ((hq q HQ.o).below V);replace u:=ze (u.o.below V);replace m:=kb_ m V;replace z:=ze (zJ z.o V);clear ah ag V hq au
   go_upto_region 5 with fail
   generalize w2.alloc (.cells #[.int .i64 M,.slice E C F,.bool L,.int .i64 D,.slice K G I,.bool J] 70)=W3 at N Z u m z |-;generalize w2.heap.size=gx at N |-;have e0:=N.o.cell 0;have e1:=N.o.cell 1;have e2:=N.o.cell 2;have e3:=N.o.cell 3;have e4:=N.o.cell 4;have e5:=N.o.cell 5;have a0:=m.o.cell 0;have a1:=m.o.cell 1;have a2:=m.o.cell 2;have a3:=m.o.cell 3;have a4:=m.o.cell 4;have a5:=m.o.cell 5;obtain ⟨f0,f1,f2,f3,f4,f5⟩:=fq6 m;simp at a0 a1 a2 a3 a4 a5 e0 e1 e2 e3 e4 e5;go_wp2_with fail;have r:=yz (x:=M) (A:=E) (k:=C) (c:=F) (s:=L) (y:=D) (B:=K) (k' :=G) (c' :=I) (t:=J) m.o;have r0:=r.cell 0;have Q:=r.cell 1;have T:=r.cell 2;have O:=r.cell 3;have R:=r.cell 4;have S:=r.cell 5;simp only [World.rat] at r0 Q T O R S;simp at r0 Q T O R S
   refine bodyPost_ret (v:=.agg #[.int .i64 M,.slice E C F,.bool L,.int .i64 D,.slice K G I,.bool J]) (by simp [results,results71,go_sem,r0,Q,T,O,R,S]) rfl ?_;obtain ⟨z1,z2,z3⟩:=zj1 (x:=M) (A:=E) (k:=C) (c:=F) (s:=L) (y:=D) (B:=K) (k' :=G) (c' :=I) (t:=J) al.o ao.o u.o z.o m.o Z.o;exact ⟨_,rfl,by rw [HV.o,HQ.o];exact z1,z2,z3⟩
def ZS (t:zu):Rat:=(zl t.coef).getD 0
def YD (p l:List zu):Nat->Rat
 | 0=>0
 | k+1=>YD p l k+ZS (l.getD k default)*ZR p (l.getD k default).name
structure XT (l p:List zu):Prop where
 few:l.length<=400
 coef:∀ k,k<l.length->∃ q,zl (l.getD k default).coef=some q/\Dz 8000 q
 pt:zfh p
 val:∀ s,Dz 1000 (ZR p s)
theorem XT.tot {l p:List zu} (h:XT l p):∀ k,k<=l.length->Dz (k*9001+1) (YD p l k)
 | 0,_=>Dz.zero _
 | k+1,hk=>by
   obtain ⟨q,b,hd⟩:=h.coef k (by omega);have e:ZS (l.getD k default)=q:=by unfold ZS;rw [b];rfl
   unfold YD;rw [e];exact Dz.add (XT.tot h k (by omega)) (Dz.mul hd (h.val _) (uA)) (by omega)
theorem XT.rlen {l p:List zu} (h:XT l p) {k:Nat} (hk:k<=l.length):Zu 8388608 (YD p l k):=(Zu.of_dz (h.tot k hk)).more (by have:=h.few;omega)
def zkf (w:World) (g:Nat) (q:Rat):Prop:=∃ (x:Int) (A:Option Addr) (k c:Nat) (s:Bool) (y:Int) (B:Option Addr) (k' c' :Nat) (t:Bool),Blk w g 70 #[.int .i64 x,.slice A k c,.bool s,.int .i64 y,.slice B k' c',.bool t]/\yk w (.agg #[.int .i64 x,.slice A k c,.bool s,.int .i64 y,.slice B k' c',.bool t]) q
theorem zkf.lt {w:World} {g:Nat} {q:Rat} (h:zkf w g q):g<w.heap.size:=by obtain ⟨_,_,_,_,_,_,_,_,_,_,b,_⟩:=h;exact b.lt
theorem zkf.below {w w' :World} {g:Nat} {q:Rat} (h:zkf w g q) (hb:Below w.heap.size w w'):zkf w' g q:=by
 obtain ⟨_,_,_,_,_,_,_,_,_,_,b,e⟩:=h
 exact ⟨_,_,_,_,_,_,_,_,_,_,b.below hb b.lt,e.below hb⟩
theorem zv.keepRB {w w' :World} {b g:Nat} {q:Rat} (h:zv w b) (hc:Chg (· =b) w w') (e:zkf w g q):zkf w' g q:=by
 obtain ⟨_,_,_,_,_,_,_,_,_,_,e,j⟩:=e
 exact ⟨_,_,_,_,_,_,_,_,_,_,h.keepBlk hc e,h.keepR hc j⟩
def BsmR (w0:World) (b g go:Nat) (tv pv:Value) (l p:List zu) (kv:Value) (wr:World):Prop:=
 ∃ k:Nat,k<=l.length/\kv= .int .i64 k/\Hid (zkf wr go (YD p l k))/\Hid (zv wr b)/\Hid (zh wr w0.heap.size tv l)/\Hid (zh wr w0.heap.size pv p)/\Hid (Blk wr g 70 #[.int .i64 0,.slice none 0 0,.bool false,.int .i64 0,.slice none 0 0,.bool false])/\Hid (Chg (· =b) w0 wr)
theorem zc9 (b:Nat) (A AP:Option Addr) (n c np cp:Nat) (l p:List zu) (w:World) (hB:zv w b) (ht:zV w (.slice A n c) l) (hp:zV w (.slice AP np cp) p) (ho:XT l p):
 Calls prog 29 #[.map (some b),.slice A n c,.slice AP np cp] w (zu8 w b (YD p l l.length)):=by
 obtain rfl:=ht.len
 have G:=zf w (.cells #[.int .i64 0,.slice none 0 0,.bool false,.int .i64 0,.slice none 0 0,.bool false] 70)
 have m:=ze (Blk.new w 70 #[.int .i64 0,.slice none 0 0,.bool false,.int .i64 0,.slice none 0 0,.bool false])
 have j:=ze (hB.below G)
 have aq:=ze hB.lt
 have C:=ze (zh.below ht G)
 have u:=ze (zh.below hp G)
 have r:Hid (Chg (· =b) w (w.alloc (.cells #[.int .i64 0,.slice none 0 0,.bool false,.int .i64 0,.slice none 0 0,.bool false] 70))):=Chg.of_below G
 have HO:=ze ho
 have hl:=ho.few
 clear hB ht hp ho G
 go_in
 go_wp2_with fail
 refine (Xd 0 _ (by omega) (by omega)).mono ?_
 rintro e w1 ⟨v,rfl,hv,av⟩
 obtain ⟨Z,L,k1,Q,X,O,M,R,ab,V,rfl⟩:=hv.agg
 have F:=zf w1 (.cells #[.int .i64 Z,.slice L k1 Q,.bool X,.int .i64 O,.slice M R ab,.bool V] 70)
 have E:Hid (zkf (w1.alloc (.cells #[.int .i64 Z,.slice L k1 Q,.bool X,.int .i64 O,.slice M R ab,.bool V] 70)) w1.heap.size (YD p l 0)):=⟨_,_,_,_,_,_,_,_,_,_,Blk.new w1 _ _,hv.below F⟩
 have ah:=av.trans (F.mono av.size)
 replace j:=ze (j.o.below ah)
 replace C:=ze (zh.below C.o ah)
 replace u:=ze (zh.below u.o ah)
 have ac:Hid (w.heap.size<w1.heap.size):=ze (by have:=m.o.lt;have:=av.size;omega)
 replace m:=kb_ m ah
 replace r:=ze (zJ r.o ah)
 clear av F ah hv
 go_upto_region 2 with fail
 generalize w1.alloc (.cells #[.int .i64 Z,.slice L k1 Q,.bool X,.int .i64 O,.slice M R ab,.bool V] 70)=W at E j C u m r |-
 generalize w1.heap.size=go at E ac |-
 go_wp2
 go_loopw [15] (BsmR w b w.heap.size go (.slice A l.length c) (.slice AP np cp) l p) (fun kv _=>l.length - (intOf kv).toNat)
 case atStart=>exact ⟨0,uB,rfl,E,j,C,u,m,r⟩
 case round=>
  clear E j C u m r
  obtain ⟨k,hk,rfl,E,j,C,u,m,r⟩:=hrel
  by_cases aB:k<l.length
  rotate_left
  . obtain rfl:l.length=k:=by omega
    obtain ⟨Z,L,k1,Q,X,O,M,R,ab,V,am,ao⟩:=E.o;have D:=ze am;have I:=ze ao;have bc:Hid (w.heap.size<=w.heap.size):=uA;clear am ao E;have e0:=D.o.cell 0;have e1:=D.o.cell 1;have e2:=D.o.cell 2;have e3:=D.o.cell 3;have e4:=D.o.cell 4;have e5:=D.o.cell 5;have a0:=m.o.cell 0;have a1:=m.o.cell 1;have a2:=m.o.cell 2;have a3:=m.o.cell 3;have a4:=m.o.cell 4;have a5:=m.o.cell 5;obtain ⟨f0,f1,f2,f3,f4,f5⟩:=fq6 m;simp at a0 a1 a2 a3 a4 a5 e0 e1 e2 e3 e4 e5;go_wp2_with fail;have ak:=yz (x:=Z) (A:=L) (k:=k1) (c:=Q) (s:=X) (y:=O) (B:=M) (k' :=R) (c' :=ab) (t:=V) m.o;have r0:=ak.cell 0;have r1:=ak.cell 1;have r2:=ak.cell 2;have r3:=ak.cell 3;have r4:=ak.cell 4;have r5:=ak.cell 5;simp only [World.rat] at r0 r1 r2 r3 r4 r5;simp at r0 r1 r2 r3 r4 r5
    refine bodyPost_ret (v:=.agg #[.int .i64 Z,.slice L k1 Q,.bool X,.int .i64 O,.slice M R ab,.bool V]) (by simp [results,results29,go_sem,r0,r1,r2,r3,r4,r5]) rfl ?_;obtain ⟨z1,z2,z3⟩:=zj1 (x:=Z) (A:=L) (k:=k1) (c:=Q) (s:=X) (y:=O) (B:=M) (k' :=R) (c' :=ab) (t:=V) bc.o aq.o j.o r.o m.o I.o;exact ⟨_,rfl,z1,z2,z3⟩
  have be:(k:Int)<(l.length:Int):=by omega
  obtain ⟨ad,eA,aS,p0,p1,a9,aE⟩:=C.o.at_ aB;subst eA;have F:=zf wr (.cells #[str l[k].name,str l[k].coef] 45);have Y:=ze (Blk.new wr 45 #[str l[k].name,str l[k].coef]);have ax:Hid (go<wr.heap.size):=E.o.lt;replace j:=ze (j.o.below F);replace C:=ze (zh.below C.o F);replace u:=ze (zh.below u.o F);replace E:=ze (E.o.below F);replace m:=kb_ m F;replace r:=ze (zJ r.o F);have aw:=xGD (d:=default) aB;obtain ⟨q,hq,hd⟩:=HO.o.coef k aB;rw [aw] at hq
  have aO:Hid (YD p l (k+1)=YD p l k+q*ZR p l[k].name):=ze (by
   show YD p l k+ZS (l.getD k default)*ZR p (l.getD k default).name=_
   rw [aw];unfold ZS;rw [hq];rfl)
  have HQ:=ze hq;have bb:=ze ((Zu.of_dz hd).more (show 8001<=8388608 by omega));have aR:=ze ((Zu.of_dz (HO.o.val l[k].name)).more (show 1001<=8388608 by omega));have aP:=ze ((Zu.of_dz (Dz.mul hd (HO.o.val l[k].name) (uA))).more (show 9001<=8388608 by omega));have ba:=ze (HO.o.rlen hk);have aW:=ze aE;clear F aw a9 aE hq hd
  go_upto_region 5 with fail
  clear p0 p1 aS;generalize wr.alloc (.cells #[str l[k].name,str l[k].coef] 45)=WL at Y j C u E m r |-;generalize wr.heap.size=gt at Y ax |-;generalize aV:l[k].name=nm at Y aO aR aP;have aA:=xU b ⟨l[k].coef.toArray⟩ WL j.o (by rw [<- zm,yt];exact aW.o);rw [yt] at aA;have aH:=ze aA;have p1:=Y.o.cell 1;simp at p1;clear aA aV;go_wp2_with fail;refine aH.o.mono ?_;rintro e w2 ⟨v,ok,rfl,⟨x2,A2,k2,c2,s2,y2,B2,ar,ap,t2,rfl⟩,aU,aK,aD,aC⟩;clear aH p1;have F:=zf w2 (.cells #[.int .i64 x2,.slice A2 k2 c2,.bool s2,.int .i64 y2,.slice B2 ar ap,.bool t2] 70);have ag:Chg (· =b) WL (w2.alloc (.cells #[.int .i64 x2,.slice A2 k2 c2,.bool s2,.int .i64 y2,.slice B2 ar ap,.bool t2] 70)):=zJ aC F;have aM:Hid (gt<w2.heap.size):=ze (uK Y.o.lt aC.size);replace C:=ze (j.o.keepT ag C.o);replace u:=ze (j.o.keepT ag u.o);replace Y:=ze (j.o.keepBlk ag Y.o);replace m:=ze (j.o.keepBlk ag m.o);replace E:=ze (j.o.keepRB ag E.o);replace r:=ze (yn r.o ag);replace j:=ze (aD.below F)
  have ay:=ze (Blk.new w2 70 #[.int .i64 x2,.slice A2 k2 c2,.bool s2,.int .i64 y2,.slice B2 ar ap,.bool t2]);have af:=ze ((aK q HQ.o).below F);clear aD aC F ag aK aU
  go_upto_region 6 with fail
  generalize w2.alloc (.cells #[.int .i64 x2,.slice A2 k2 c2,.bool s2,.int .i64 y2,.slice B2 ar ap,.bool t2] 70)=W3 at ay af j C u Y m E r |-;generalize w2.heap.size=gx at ay aM |-;obtain ⟨Z,L,k1,Q,X,O,M,R,ab,V,am,ao⟩:=E.o;have D:=ze am;have I:=ze ao;clear am ao E;obtain ⟨o0,o1,o2,o3,o4,o5,_⟩:=bq6 D;obtain ⟨q0,q1,q2,q3,q4,q5,_⟩:=bq6 ay;have p0:=(bq1 Y).1;have aj:¬ go=b:=fun e=>by have:=aq.o;have:=ac.o;omega
  have bd:¬ gt=b:=fun e=>by have:=aq.o;have:=ac.o;have:=ax.o;omega
  have ai:¬ gx=b:=fun e=>by have:=aq.o;have:=ac.o;have:=ax.o;have:=aM.o;omega
  have an:∀ w',Hid (Chg (fun x=>x=b) W3 w')->w'.cell? ⟨go,0,none⟩=some (.int .i64 Z)/\w'.cell? ⟨go,1,none⟩=some (.slice L k1 Q)/\w'.cell? ⟨go,2,none⟩=some (.bool X)/\w'.cell? ⟨go,3,none⟩=some (.int .i64 O)/\w'.cell? ⟨go,4,none⟩=some (.slice M R ab)/\w'.cell? ⟨go,5,none⟩=some (.bool V)/\w'.cell? ⟨gx,0,none⟩=some (.int .i64 x2)/\w'.cell? ⟨gx,1,none⟩=some (.slice A2 k2 c2)/\w'.cell? ⟨gx,2,none⟩=some (.bool s2)/\w'.cell? ⟨gx,3,none⟩=some (.int .i64 y2)/\w'.cell? ⟨gx,4,none⟩=some (.slice B2 ar ap)/\w'.cell? ⟨gx,5,none⟩=some (.bool t2)/\w'.cell? ⟨gt,0,none⟩=some (str nm):=fun w' hB=>⟨xo hB o0 aj,xo hB o1 aj,xo hB o2 aj,xo hB o3 aj,xo hB o4 aj,xo hB o5 aj,xo hB q0 ai,xo hB q1 ai,xo hB q2 ai,xo hB q3 ai,xo hB q4 ai,xo hB q5 ai,xo hB p0 bd⟩
  refine Xc an 9 (vq W3) fun J=>?_;refine tK 0 ?_;refine tK 1 ?_;refine tK 2 ?_;refine tK 3 ?_;refine tK 4 ?_;refine tK 5 ?_;refine rK 6 fun K hK=>?_
  go_simp
  go_at_call 71;have N:=(zt W3).out;replace j:=ze (j.o.below N);replace C:=ze (zh.below C.o N);replace u:=ze (zh.below u.o N);replace m:=kb_ m N;replace D:=kb_ D N;replace I:=ze (I.o.below N);replace af:=ze (af.o.below N);replace r:=ze (zJ r.o N);clear N;refine (zw6 b _ _ _ w.heap.size p nm _ j.o u.o r.o.size HO.o.pt).mono ?_;rintro e w4 ⟨v4,rfl,aF,aG,U⟩;replace C:=ze (j.o.keepT U C.o);replace u:=ze (j.o.keepT U u.o);replace m:=ze (j.o.keepBlk U m.o);replace D:=ze (j.o.keepBlk U D.o);replace I:=ze (j.o.keepR U I.o);replace af:=ze (j.o.keepR U af.o);replace r:=ze (yn r.o U);replace j:=ze aG;have aL:=ze aF;refine hK.out _ _ (zo (vS U J.1) (an _)) ?_;clear hK K J;intro J
  try simp only [Act.put,xST]
  clear U aG aF;refine rK 7 fun K hK=>?_
  go_simp
  go_at_call 70;refine (XG _ _ q (ZR p nm) _ af.o aL.o bb.o aR.o).mono ?_;rintro e w5 ⟨v5,rfl,aJ,aa⟩;replace j:=ze (j.o.below aa);replace C:=ze (zh.below C.o aa);replace u:=ze (zh.below u.o aa);replace m:=kb_ m aa;replace D:=kb_ D aa;replace I:=ze (I.o.below aa);replace r:=ze (zJ r.o aa);have aN:=ze aJ;refine hK.out _ _ (zo (xR aa J.1) (an _)) ?_;clear hK K J;intro J
  try simp only [Act.put,xST]
  clear aa aJ aL af;refine rK 8 fun K hK=>?_
  go_simp
  go_at_call 35;refine (ZH _ _ (YD p l k) (q*ZR p nm) _ I.o aN.o ba.o aP.o).mono ?_;rintro e w6 ⟨v6,rfl,au,ae⟩;replace j:=ze (j.o.below ae);replace C:=ze (zh.below C.o ae);replace u:=ze (zh.below u.o ae);replace m:=kb_ m ae;replace D:=kb_ D ae;replace r:=ze (zJ r.o ae);obtain ⟨x3,A3,k3,c3,s3,y3,B3,aQ,aI,t3,rfl⟩:=au.agg;rw [<- aO.o] at au;have aT:=ze au;obtain ⟨f0,f1,f2,f3,f4,f5⟩:=fq6 D;obtain ⟨g0,g1,g2,g3,g4,g5,_⟩:=bq6 D;refine hK.out _ _ (zo (xR ae J.1) (an _)) ?_;clear hK K J;intro J
  try simp only [Act.put,xST]
  clear ae au aN I;clear J an;refine hdn ?_;simp only [xDR];go_wp2_with fail;have a8:Hid (zkf (World.rat w6 go x3 A3 k3 c3 s3 y3 B3 aQ aI t3) go (YD p l (k+1))):=⟨_,_,_,_,_,_,_,_,_,_,yz D.o,yk.stored aT.o D.o⟩;have hS:∀ z,z=go->ye w6 z:=fun z G=>by subst G;exact D.o.noDig (X6 _ _ _ _ _ _ _ _ _ _)
  have al:=Chg.ratSet (w:=w6) (g:=go) (x:=x3) (A:=A3) (k:=k3) (c:=c3) (s:=s3) (y:=y3) (B:=B3) (k' :=aQ) (c' :=aI) (t:=t3);have az:∀ z,z<w.heap.size->z=go->YZ w6 z:=fun z G e=>by have:=ac.o;omega
  have a7:=ze (j.o.chg al (by have:=aq.o;have:=ac.o;omega) hS);have a6:=ze (zh.chg C.o al az);have aX:=ze (zh.chg u.o al az);have aY:=ze (al.blk m.o (by have:=ac.o;omega));have aZ:=ze (Chg.trans (S:=fun z=>z=b) (T:=fun z=>z=go) r.o al (fun z G h=>absurd G (by have:=ac.o;omega)));clear hS al az;go_roundw
  case rel=>exact ⟨k+1,by omega,by go_num,a8,a7,a6,aX,aY,aZ⟩
  case measure=>simp [intOf];omega
theorem zq9 (s:ByteArray) (q:Rat) (w:World) (hs:s.size<=1073741824) (r:zl (bts s)=some q):
 Calls prog 53 #[.string s] w (Vt w q):=by
 have M:=zf w (.cells #[.bool false,.slice none 0 0,.slice none 0 0] 112)
 have I:=Blk.new w 112 #[.bool false,.slice none 0 0,.slice none 0 0]
 obtain ⟨N,F,S⟩:=hz3 M I r
 have K:=fun w=>Xf s w hs
 clear r M I hs
 go_in
 go_wp2_with fail
 refine (K _).mono ?_
 rintro e O ⟨v,b,rfl,⟨ng,A,n,c,B,m,d,rfl⟩,hb,r,L⟩
 have C:=zf O (.cells #[.bool ng,.slice A n c,.slice B m d] 112)
 have U:=vW.below (r q S.o) C
 have y:=ext L C
 have j:=ze (F.o.below y F.o.lt)
 have V:=ze (ext N.o y)
 obtain ⟨Z,A',n',c',B',m',d',e,G,J,E⟩:=U
 injection e with e
 have l:=congrArg (fun a=>a.toList) e
 simp at l
 obtain ⟨rfl,⟨rfl,rfl,rfl⟩,rfl,rfl,rfl⟩:=l
 obtain ⟨Q,T,Y⟩:=hz3 G J E
 have r0:=j.o.cell 0;have R:=j.o.cell 1;have X:=j.o.cell 2;obtain ⟨f0,f1,f2⟩:=fq3 j;have lR:=j.o.lt;simp at r0 R X;clear L K r C y G J E e hb
 go_wp2_with fail
 have z:=yO (ng:=ng) (A:=A) (n:=n) (c:=c) (B:=B) (m:=m) (d:=d) j.o
 have l:=z.cell 0;have D:=z.cell 1;have u:=z.cell 2
 simp only [World.ref] at l D u
 simp at l D u
 refine bodyPost_ret (v:=.agg #[.bool ng,.slice A n c,.slice B m d]) (by simp [results,results53,go_sem,l,D,u]) rfl ?_
 exact ⟨_,rfl,⟨_,_,_,_,_,_,_,rfl,Q.o,yb T.o j.o,yb Y.o j.o⟩,yy (w:=w) (g:=w.heap.size) V.o (uA)⟩
theorem xV (s:List UInt8) (q:Rat) (w:World) (hs:zS s) (hq:zl s=some q):Calls prog 53 #[str s] w (Vt w q):=
 zq9 ⟨s.toArray⟩ q w (by rw [<- zm,yt];exact hs) (by rw [yt];exact hq)
theorem zas (w:World):Calls prog 101 #[.int .i64 0] w (Vt w 0):=by
 have h:=zoi 0 w (by omega)
 have e:((0:Nat):Rat)=0:=rfl
 rw [e] at h
 exact h
def RatR (w0:World) (B g:Nat) (tv:Value) (l:List zu) (s:List UInt8) (kv:Value) (wr:World):Prop:=
 ∃ k:Nat,k<=l.length/\kv= .int .i64 k/\Hid (∀ j (hj:j<l.length),j<k->l[j].name≠s)/\w0=wr
theorem zxi (A:Option Addr) (n c B:Nat) (l:List zu) (s:List UInt8) (w:World) (ht:zh w B (.slice A n c) l) (hB:B<=w.heap.size) (hg:zfh l):
 Calls prog 130 #[.slice A n c,str s] w (Vt w (ZR l s)):=by
 obtain rfl:=ht.len
 have hl:=ht.bound
 have N:=zf w (.cells #[.bool false,.slice none 0 0,.slice none 0 0] 112)
 have I:=ze (Blk.new w 112 #[.bool false,.slice none 0 0,.slice none 0 0])
 have HT:=ze (zh.below ht N)
 have Z:=ze N
 have HG:=ze hg
 have af:Hid (B<=(w.alloc (.cells #[.bool false,.slice none 0 0,.slice none 0 0] 112)).heap.size):=ze (uC hB N.size)
 have ah:Hid (w.heap.size<=w.heap.size):=uA
 clear ht hB N hg
 go_in
 go_upto_region 1 with fail
 generalize w.alloc (.cells #[.bool false,.slice none 0 0,.slice none 0 0] 112)=W at I HT Z af |-
 go_wp2
 go_loopw [5] (RatR W B w.heap.size (.slice A l.length c) l s) (fun kv _=>l.length - (intOf kv).toNat)
 case atStart=>exact ⟨0,uB,rfl,ze (fun j hj h=>by omega),rfl⟩
 case round=>
  obtain ⟨k,hk,rfl,L,rfl⟩:=hrel
  by_cases Q:k<l.length
  rotate_left
  . obtain rfl:l.length=k:=by omega
    have HV:Hid (ZR l s=0):=ze (za5 l s (fun j hj=>L.o j hj hj));clear L;go_wp2_with fail;refine (zas _).mono ?_;rintro e w1 ⟨v,rfl,hv,C⟩;obtain ⟨ng,X,n1,G,Y,M,J,rfl,E,K,F⟩:=hv;have b:=ze (I.o.below C I.o.lt);have V:=ze (ext Z.o C);obtain ⟨O,T,H2⟩:=hz3 E K F;have r0:=b.o.cell 0;have R:=b.o.cell 1;have r2:=b.o.cell 2;obtain ⟨f0,f1,f2⟩:=fq3 b;have lR:=b.o.lt;simp at r0 R r2;clear C E K F;go_wp2_with fail;have y:=yO (ng:=ng) (A:=X) (n:=n1) (c:=G) (B:=Y) (m:=M) (d:=J) b.o;have r:=y.cell 0;have z:=y.cell 1;have u:=y.cell 2;simp only [World.ref] at r z u;simp at r z u;refine bodyPost_ret (v:=.agg #[.bool ng,.slice X n1 G,.slice Y M J]) (by simp [results,results130,go_sem,r,z,u]) rfl ?_;rw [HV.o];exact ⟨_,rfl,⟨_,_,_,_,_,_,_,rfl,O.o,yb T.o b.o,yb H2.o b.o⟩,yy (w:=w) (g:=w.heap.size) V.o (uA)⟩
  have ag:(k:Int)<(l.length:Int):=by omega
  obtain ⟨ad,eA,ai,p0,p1,ab,U⟩:=HT.o.at_ Q;subst eA;have he:(l[k].name == s)=decide (l[k].name=s):=by by_cases h:l[k].name=s<;>simp [h]
  by_cases D:l[k].name=s
  . rw [uE D] at he
    obtain ⟨q,S⟩:=Option.isSome_iff_exists.1 (HG.o.val k Q);have HV:Hid (ZR l s=q):=ze (by rw [zho l k s Q L.o D,S];rfl);have ac:=fun w=>xV l[k].coef q w U S
    have aa:=ze ac;clear S ac ab U D L;go_wp2_with fail;refine (aa.o _).mono ?_;rintro e w1 ⟨v,rfl,hv,C⟩;obtain ⟨ng,X,n1,G,Y,M,J,rfl,E,K,F⟩:=hv;have b:=ze (I.o.below C I.o.lt);have V:=ze (ext Z.o C);obtain ⟨O,T,H2⟩:=hz3 E K F;have r0:=b.o.cell 0;have R:=b.o.cell 1;have r2:=b.o.cell 2;obtain ⟨f0,f1,f2⟩:=fq3 b;have lR:=b.o.lt;simp at r0 R r2;clear C E K F p0 p1 aa;go_wp2_with fail;have y:=yO (ng:=ng) (A:=X) (n:=n1) (c:=G) (B:=Y) (m:=M) (d:=J) b.o;have r:=y.cell 0;have z:=y.cell 1;have u:=y.cell 2;simp only [World.ref] at r z u;simp at r z u;refine bodyPost_ret (v:=.agg #[.bool ng,.slice X n1 G,.slice Y M J]) (by simp [results,results130,go_sem,r,z,u]) rfl ?_;rw [HV.o];exact ⟨_,rfl,⟨_,_,_,_,_,_,_,rfl,O.o,yb T.o b.o,yb H2.o b.o⟩,yy (w:=w) (g:=w.heap.size) V.o (uA)⟩
  rw [uF D] at he
  have ae:Hid (∀ j (hj:j<l.length),j<k+1->l[j].name≠s):=ze (fun j hj h=>by
   by_cases e:j=k
   . subst e;exact D
   exact L.o j hj (by omega))
  clear D ab U;go_wp2;go_roundw
  case rel=>exact ⟨k+1,by omega,by go_num,ae,rfl⟩
  case measure=>simp [intOf];omega
theorem XT.nlen {l p:List zu} (h:XT l p) {k:Nat} (hk:k<=l.length):XV 8388608 (YD p l k):=(Dz.nlen (h.tot k hk)).mono (by have:=h.few;omega)
def NBx (w:World) (g:Nat) (q:Rat):Prop:=∃ (ng:Bool) (X:Option Addr) (n1 c8:Nat) (Y:Option Addr) (n2 c9:Nat),Blk w g 112 #[.bool ng,.slice X n1 c8,.slice Y n2 c9]/\vW w (.agg #[.bool ng,.slice X n1 c8,.slice Y n2 c9]) q
theorem NBx.below {w w' :World} {g:Nat} {q:Rat} (h:NBx w g q) (hb:Below w.heap.size w w'):NBx w' g q:=by
 obtain ⟨_,_,_,_,_,_,_,b,e⟩:=h
 exact ⟨_,_,_,_,_,_,_,b.below hb b.lt,e.below hb⟩
def RttR (w0:World) (g go:Nat) (l p:List zu) (kv:Value) (wr:World):Prop:=
 ∃ k:Nat,k<=l.length/\kv= .int .i64 k/\Hid (NBx wr go (YD p l k))/\Hid (Blk wr g 112 #[.bool false,.slice none 0 0,.slice none 0 0])/\Hid (Below w0.heap.size w0 wr)
theorem zaj (A AP:Option Addr) (n c np cp B:Nat) (l p:List zu) (w:World) (ht:zh w B (.slice A n c) l) (hp:zh w B (.slice AP np cp) p) (hB:B<=w.heap.size) (ho:XT l p):
 Calls prog 79 #[.slice A n c,.slice AP np cp] w (Vt w (YD p l l.length)):=by
 obtain rfl:=ht.len
 have hz:=zf w (.cells #[.bool false,.slice none 0 0,.slice none 0 0] 112)
 have b:=ze (Blk.new w 112 #[.bool false,.slice none 0 0,.slice none 0 0])
 have aC:=ze (ht.more hB)
 have an:=ze (hp.more hB)
 have j:=ze hz
 have V:=ze ho
 have hl:=ho.few
 clear ht hp hB ho hz
 go_in
 go_wp2_with fail
 refine (zas _).mono ?_
 rintro e I ⟨v,rfl,hv,ac⟩
 obtain ⟨ng,X,n1,F,Y,G,D,rfl⟩:zu3 v:=by obtain ⟨ng,X,n1,F,Y,G,D,h6,_⟩:=hv;exact ⟨_,_,_,_,_,_,_,h6⟩
 have hx:=zf I (.cells #[.bool ng,.slice X n1 F,.slice Y G D] 112)
 have E:Hid (NBx (I.alloc (.cells #[.bool ng,.slice X n1 F,.slice Y G D] 112)) I.heap.size (YD p l 0)):=⟨_,_,_,_,_,_,_,Blk.new I _ _,hv.below hx⟩
 have ag:=ac.trans (hx.mono ac.size)
 have af:Hid (w.heap.size<I.heap.size):=ze (by have:=b.o.lt;have:=ac.size;omega)
 replace b:=kb_ b ag
 replace j:=eb_ j ag
 clear ac hx ag hv
 go_upto_region 2 with fail
 generalize I.alloc (.cells #[.bool ng,.slice X n1 F,.slice Y G D] 112)=W at E b j |-
 generalize I.heap.size=go at E af |-
 go_wp2
 go_loopw [6] (RttR w w.heap.size go l p) (fun kv _=>l.length - (intOf kv).toNat)
 case atStart=>exact ⟨0,uB,rfl,E,b,j⟩
 case round=>
  clear E b j
  obtain ⟨k,hk,rfl,E,b,j⟩:=hrel
  by_cases ah:k<l.length
  rotate_left
  . obtain rfl:l.length=k:=by omega
    obtain ⟨ng,X,n1,F,Y,G,D,R,U⟩:=E.o;have r:=ze R;have y:=ze U;clear R U E;have e0:=r.o.cell 0;have e1:=r.o.cell 1;have e2:=r.o.cell 2;have r0:=b.o.cell 0;have r1:=b.o.cell 1;have r2:=b.o.cell 2;obtain ⟨f0,f1,f2⟩:=fq3 b;have lR:=b.o.lt;simp at r0 r1 r2 e0 e1 e2;go_wp2_with fail;have ai:=yO (ng:=ng) (A:=X) (n:=n1) (c:=F) (B:=Y) (m:=G) (d:=D) b.o;have z0:=ai.cell 0;have z1:=ai.cell 1;have z2:=ai.cell 2;simp only [World.ref] at z0 z1 z2;simp at z0 z1 z2;refine bodyPost_ret (v:=.agg #[.bool ng,.slice X n1 F,.slice Y G D]) (by simp [results,results79,go_sem,z0,z1,z2]) rfl ?_;exact ⟨_,rfl,vW.stored y.o b.o,yy (w:=w) (g:=w.heap.size) j.o (uA)⟩
  have aJ:(k:Int)<(l.length:Int):=by omega
  have HT:=ze (zh.below' aC.o j.o);have HP:=ze (zh.below' an.o j.o);obtain ⟨ad,eA,ak,M,L,aG,al⟩:=HT.o.at_ ah;subst eA;have ae:=xGD (d:=default) ah;obtain ⟨q,hq,hd⟩:=V.o.coef k ah;rw [ae] at hq
  have aw:Hid (YD p l (k+1)=YD p l k+q*ZR p l[k].name):=ze (by
   show YD p l k+ZS (l.getD k default)*ZR p (l.getD k default).name=_
   rw [ae];unfold ZS;rw [hq];rfl)
  have aI:=ze ((Dz.nlen hd).mono (show 8001<=8388608 by omega));have az:=ze ((Dz.nlen (V.o.val l[k].name)).mono (show 1001<=8388608 by omega));have ax:=ze ((Dz.nlen (Dz.mul hd (V.o.val l[k].name) (uA))).mono (show 9001<=8388608 by omega));have aH:=ze (V.o.nlen hk);have ay:=fun w=>xV l[k].coef q w al hq
  have aj:=ze ay;have z:ad.block<wr.heap.size:=uK ak j.o.size;obtain ⟨nm,ap⟩:=uR (l[k].name);obtain ⟨cf,aq⟩:=uR (l[k].coef);rw [ap] at aw az ax M;rw [aq] at aj L;clear ae aG al hq hd ay ap aq ak;obtain ⟨ng,X,n1,F,Y,G,D,R,U⟩:=E.o;have r:=ze R;have y:=ze U;clear R U E;obtain ⟨O,o1,o2,u⟩:=bkc3 r.o
  go_upto_region 5 with fail
  refine yP (S:=fun w' =>Hid (Below wr.heap.size wr w')/\w'.cell? ⟨go,0,none⟩=some (.bool ng)/\w'.cell? ⟨go,1,none⟩=some (.slice X n1 F)/\w'.cell? ⟨go,2,none⟩=some (.slice Y G D)/\w'.cell? (ad.add (k*2))=some (str nm)/\w'.cell? ⟨(ad.add (k*2)).block,(ad.add (k*2)).off+1,none⟩=some (str cf)) 16 (by kernel_rfl) (by kernel_rfl) (zo (zt wr) (fun hB=>⟨zq hB u O,zq hB u o1,zq hB u o2,xy hB z M,Vh hB z L⟩)) fun hU=>?_;refine tK 0 ?_;refine tK 1 ?_;refine tK 2 ?_;refine tK 3 ?_;refine tK 4 ?_;refine tK 5 ?_;refine tK 7 ?_;refine tK 8 ?_;refine tK 9 ?_;refine tK 10 ?_;refine tK 11 ?_;refine tK 12 ?_;refine rK 6 fun K hK=>?_
  go_simp
  go_at_call 53;have T:=(zt wr).out;replace b:=kb_ b T;replace r:=kb_ r T;replace y:=ze (y.o.below T);replace j:=eb_ j T;clear T;refine (aj.o _).mono ?_;rintro e w4 ⟨v4,rfl,ar,Q⟩;replace b:=kb_ b Q;replace r:=kb_ r Q;replace y:=ze (y.o.below Q);replace j:=eb_ j Q;have aa:=ze ar;have C:=hU;clear hU;refine hK.out _ _ (zo (zp Q (zt wr)) (fun hB=>⟨zq hB u O,zq hB u o1,zq hB u o2,xy hB z M,Vh hB z L⟩)) fun hU=>?_;clear C hK K
  try simp only [Act.put,xST]
  clear Q ar;refine rK 13 fun K hK=>?_
  go_simp
  go_at_call 130;refine (zxi _ _ _ w.heap.size p nm _ (zh.below' an.o j.o) j.o.size V.o.pt).mono ?_;rintro e w5 ⟨v5,rfl,au,J⟩;replace b:=kb_ b J;replace r:=kb_ r J;replace y:=ze (y.o.below J);replace aa:=ze (aa.o.below J);replace j:=eb_ j J;have av:=ze au;have C:=hU;clear hU;refine hK.out _ _ (zo (zp J C.1) (fun hB=>⟨zq hB u O,zq hB u o1,zq hB u o2,xy hB z M,Vh hB z L⟩)) fun hU=>?_;clear C hK K
  try simp only [Act.put,xST]
  clear J au;refine rK 14 fun K hK=>?_
  go_simp
  go_at_call 103;refine (X4 _ _ q (ZR p nm) _ aa.o av.o aI.o az.o).mono ?_;rintro e w6 ⟨v6,rfl,ao,N⟩;replace b:=kb_ b N;replace r:=kb_ r N;replace y:=ze (y.o.below N);replace j:=eb_ j N;have am:=ze ao;have C:=hU;clear hU;refine hK.out _ _ (zo (zp N C.1) (fun hB=>⟨zq hB u O,zq hB u o1,zq hB u o2,xy hB z M,Vh hB z L⟩)) fun hU=>?_;clear C hK K
  try simp only [Act.put,xST]
  clear N ao aa av;refine rK 15 fun K hK=>?_
  go_simp
  go_at_call 102;refine (YO _ _ (YD p l k) (q*ZR p nm) _ y.o am.o aH.o ax.o).mono ?_;rintro e w7 ⟨v7,rfl,ab,Z⟩;replace b:=kb_ b Z;replace r:=kb_ r Z;replace j:=eb_ j Z;obtain ⟨g7,X7,a7,b7,Y7,d7,f7,rfl⟩:zu3 v7:=by obtain ⟨g7,X7,a7,b7,Y7,d7,f7,h6,_⟩:=ab;exact ⟨_,_,_,_,_,_,_,h6⟩
  rw [<- aw.o] at ab;have aB:=ze ab;obtain ⟨f0,f1,f2⟩:=fq3 r;obtain ⟨g0,g1,g2,_⟩:=bq3 r;have C:=hU;clear hU;refine hK.out _ _ (zo (zp Z C.1) (fun hB=>⟨zq hB u O,zq hB u o1,zq hB u o2,xy hB z M,Vh hB z L⟩)) fun hU=>?_;clear C hK K
  try simp only [Act.put,xST]
  clear Z ab am y;have aA:=(hU.1).out;clear aA hU;refine HH.done (by kernel_rfl) ?_;simp only [List.drop_succ_cons,List.drop_zero];clear O o1 o2 u M L z;go_wp2_with fail;have aF:Hid (NBx (World.ref w7 go g7 X7 a7 b7 Y7 d7 f7) go (YD p l (k+1))):=⟨_,_,_,_,_,_,_,yO r.o,vW.stored aB.o r.o⟩;have aD:=ze (zrn (ng:=g7) (A:=X7) (n:=a7) (c:=b7) (B:=Y7) (m:=d7) (d:=f7) b.o (show w.heap.size≠go by have:=af.o;omega));have aE:=ze (yy (ng:=g7) (A:=X7) (n:=a7) (c:=b7) (B:=Y7) (m:=d7) (d:=f7) j.o (Nat.le_of_lt af.o));go_roundw
  case rel=>exact ⟨k+1,by omega,by go_num,aF,aD,aE⟩
  case measure=>simp [intOf];omega
def ChkR (w0:World) (b B:Nat) (rv:Value) (rows:List zU) (iv:Value) (wr:World):Prop:=
 ∃ i:Nat,i<=rows.length/\iv= .int .i64 i/\Hid (∀ j,j<i->yF (rows.getD j default)=0)/\Hid (zv wr b)/\Hid (zH wr B rv rows)/\Hid (Chg (· =b) w0 wr)
theorem Zx {rows:List zU} (h:800<rows.length):yf rows=3:=by unfold yf;rw [if_pos h]
theorem ze2 {rows:List zU} {i:Nat} (h:¬ 800<rows.length) (hi:i<rows.length) (h0:∀ j,j<i->yF (rows.getD j default)=0) (hne:yF (rows.getD i default)≠0):yf rows=yF (rows.getD i default):=by
 have e:=yq (f:=fun i=>yF (rows.getD i default)) hi h0 hne
 unfold yf
 rw [if_neg h,if_pos (by rw [e];exact hne),e]
theorem VU {rows:List zU} (h:¬ 800<rows.length) (h0:∀ j,j<rows.length->yF (rows.getD j default)=0):yf rows=if 80<(zR rows []).length then 3 else 0:=by
 have e:=yX (f:=fun i=>yF (rows.getD i default)).2 h0
 unfold yf
 rw [if_neg h,if_neg (by rw [e];exact fun h=>h rfl)]
theorem ZN (b:Nat) (A:Option Addr) (n c:Nat) (rows:List zU) (w:World) (hB:zv w b) (hr:yS w (.slice A n c) rows) (hcnt:rows.length<=800->(zR rows []).length<=100000):
 Calls prog 18 #[.map (some b),.slice A n c] w (VO b (yf rows) w):=by
 obtain rfl:=hr.len
 have r:=ze hB
 have u:=ze hr
 have m:=ze (Chg.refl (S:=(· =b)) w)
 by_cases ab:800<rows.length
 . have d0:decide ((rows.length:Int)>800)=true:=by rw [decide_eq_true_iff];omega
   have HE:=ze (Zx ab);clear hB hr hcnt
   go_in
   go_wp2;go_ret;exact ⟨by rw [HE.o];rfl,r.o,m.o⟩
 have d0:decide ((rows.length:Int)>800)=false:=by rw [decide_eq_false_iff_not];omega
 have HL:=ze ab
 have Z:=ze (hcnt (by omega))
 clear hB hr hcnt
 go_in
 go_wp2
 go_loopw [13] (ChkR w b w.heap.size (.slice A rows.length c) rows) (fun iv _=>rows.length - (intOf iv).toNat)
 case atStart=>exact ⟨0,uB,rfl,(fun j h=>by omega),r,u,m⟩
 case round=>
  clear r u m d0
  obtain ⟨i,hi,rfl,M,r,u,m⟩:=hrel
  by_cases O:i<rows.length
  . have ai:(i:Int)<(rows.length:Int):=by omega
    obtain ⟨ad,B,y,C,eA,ah,p0,p1,X,aa⟩:=u.o.at_ O;subst eA;have G:=zf wr (.cells #[.slice B y C,str rows[i].bound] 31);have K:=ze (Blk.new wr 31 #[.slice B y C,str rows[i].bound]);have af:=fun w' (k:zv w' b) (t:zV w' (.slice B y C) rows[i].terms)=>zm1 b B y C rows[i] w' k t aa
    have T:=xGD (d:=default) O;have F:=ze af;have L:Hid (zV (wr.alloc (.cells #[.slice B y C,str rows[i].bound] 31)) (.slice B y C) rows[i].terms):=(zh.below X G).more (uC m.o.size G.size);replace r:=ze (r.o.below G);replace u:=ze (zH.below u.o G);replace m:=ze (zJ m.o G);have Q:=ze T;clear G X aa af T
    go_upto_region 6 with fail
    clear p0 p1 ah;generalize wr.alloc (.cells #[.slice B y C,str rows[i].bound] 31)=W2 at K L r u m |-;generalize wr.heap.size=gr at K |-;obtain ⟨r0,V,_⟩:=bq2 K
    by_cases D:yF rows[i]=0
    . rw [D] at F
      have ag:Hid (∀ j,j<i+1->yF (rows.getD j default)=0):=by
       intro j hj
       by_cases e:j=i
       . subst e;rw [Q.o];exact D
       . exact M.o j (by omega)
      clear D;go_wp2_with fail;refine (F.o _ r.o L.o).mono ?_;rintro e w3 ⟨rfl,J,I⟩;replace u:=ze (r.o.keepRows I u.o);replace m:=ze (yn m.o I);replace r:=ze J;clear J I F L K r0 V;go_wp2;go_roundw
      case rel=>exact ⟨i+1,by omega,by go_num,ag,r,u,m⟩
      case measure=>simp [intOf];omega
    . have E:Hid (yf rows=yF rows[i]):=by
       have:=ze2 HL.o O M.o (by rw [Q.o];exact D);rw [Q.o] at this;exact this
      generalize hz:yF rows[i]=z at F E D;have aj:(z == 0)=false:=uD D;clear hz D;go_wp2_with fail;refine (F.o _ r.o L.o).mono ?_;rintro e w3 ⟨rfl,J,I⟩;replace m:=ze (yn m.o I);replace r:=ze J;clear J I F L K r0 V;go_wp2;go_ret;exact ⟨by rw [E.o];rfl,r.o,m.o⟩
  . obtain rfl:rows.length=i:=by omega
    have ae:=zcp wr.heap.size 0 A rows.length c (.slice none 0 0) [] rows [] wr (u.o.more m.o.size) (Z8 _ _ _ _) ⟨rfl,fun j hj=>by cases hj⟩ rfl (by omega) (uA)
     (fun l hl=>by rw [hl.eq];exact Z.o)
    have Y:=ze ae;clear ae u;go_wp2_with fail;refine Y.o.mono ?_;rintro e w3 ⟨v,l,rfl,ac,hn,R⟩;have U:l.length=(zR rows []).length:=by rw [ac.eq];rfl
    have E:Hid (yf rows=if 80<l.length then 3 else 0):=by
     show _=_
     rw [U];exact VU HL.o M.o
    obtain ⟨A3,c3,rfl,_⟩:=hn;replace r:=ze (r.o.below R);replace m:=ze (zJ m.o R);clear R Y ac U M Z
    by_cases N:80<l.length
    . rw [if_pos N] at E
      have d8:(80:Int)<(l.length:Int):=by omega
      clear N;go_wp2;go_ret;exact ⟨by rw [E.o];rfl,r.o,m.o⟩
    . rw [if_neg N] at E
      have d8:¬ (80:Int)<(l.length:Int):=by omega
      clear N;go_wp2;go_ret;exact ⟨by rw [E.o];rfl,r.o,m.o⟩
structure VS (rows:List zU) (s:List UInt8):Prop where
 err:∀ r∈rows,yF r=0
 len:rows.length<=800
 all:∀ r∈rows,∀ t∈r.terms,t.name=s
 ex:∃ r∈rows,r.terms≠[]
 small:s.length<=1073741824
theorem VS.err0 {rows:List zU} {s:List UInt8} (h:VS rows s):yf rows=0/\(zR rows []).length=1:=by
 have z:∀ x∈zP ([] ++ rows.map (·.terms)),x=s:=by
  intro x b
  unfold zP at b
  rw [List.nil_append,List.mem_flatMap] at b
  obtain ⟨l,B,b⟩:=b
  obtain ⟨t,D,rfl⟩:=List.mem_map.1 b
  obtain ⟨r,m,rfl⟩:=List.mem_map.1 B
  exact h.all r m t D
 have y:zP ([] ++ rows.map (·.terms))≠[]:=by
  obtain ⟨r,m,C⟩:=h.ex
  obtain ⟨t,q,e⟩:=List.exists_cons_of_ne_nil C
  intro E
  have:t.name∈zP ([] ++ rows.map (·.terms)):=by
   unfold zP;exact List.mem_flatMap.2 ⟨_,List.mem_map.2 ⟨r,m,rfl⟩,List.mem_map.2 ⟨t,by rw [e];exact uP ..,rfl⟩⟩
  rw [E] at this
  cases this
 have u:(zR rows []).length=1:=by
  have e:zR rows []=[s]:=zmq z y (yB _)
  rw [e];rfl
 refine ⟨?_,u⟩
 rw [VU (by have:=h.len;omega) (fun j hj=>by
  have e:=xGD (d:=default) hj
  rw [e];exact h.err _ (uO hj)),u]
 rfl
theorem zoo (b:Nat) (A:Option Addr) (n c:Nat) (rows:List zU) (s:List UInt8) (w:World) (hB:zv w b) (hr:yS w (.slice A n c) rows) (h1:VS rows s):
 Calls prog 18 #[.map (some b),.slice A n c] w (VO b 0 w):=by
 have h:=ZN b A n c rows w hB hr (fun _=>by rw [h1.err0.2];omega)
 rw [h1.err0.1] at h
 exact h
theorem zr5 (w:World) (B:Nat):zw w B (.slice none 0 0) []:=⟨none,0,rfl,uA,by unfold maxLen;omega,by simp,yc.none_,fun x hx=>by cases hx⟩
theorem zlz:(prog.info? 9).map (fun i=>(i.zero,i.size,i.bytes))=some (some (.string ⟨#[]⟩),1,16):=by kernel_rfl
theorem XK:prog.underlying 58=some (.slice 9):=by kernel_rfl
theorem xh.count {l ns:List (List UInt8)} (h:xh l ns):l.length<=ns.length:=by rw [h.eq];exact Z7 ns
theorem YN (l:List (List UInt8)):∀ u∈l.map str,u.oneCell' =true:=by
 intro u hu
 obtain ⟨x,_,rfl⟩:=List.mem_map.1 hu
 rfl
def WthR (w0:World) (B:Nat) (tv:Value) (t:List zu) (ns:List (List UInt8)) (lv iv:Value) (wr:World):Prop:=
 ∃ (i:Nat) (l:List (List UInt8)),i<=t.length/\iv= .int .i64 i/\Hid (xh l (ns ++ (t.take i).map (·.name)))/\Hid (zw wr wr.heap.size lv l)/\Hid (zh wr B tv t)/\Hid (Below w0.heap.size w0 wr)
def WthK (w0:World) (B:Nat) (tv:Value) (t:List zu) (lv:Value) (l:List (List UInt8)) (s:List UInt8) (pv:Value) (wr:World):Prop:=
 ∃ p:Nat,p<=l.length/\pv= .int .i64 p/\Hid (∀ j (h:j<l.length),j<p->l[j]<s)/\Hid (zw wr wr.heap.size lv l)/\Hid (zh wr B tv t)/\Hid (Below w0.heap.size w0 wr)
theorem V7 {w w' :World} {v:Value} {l:List (List UInt8)} (h:zw w w.heap.size v l) (hb:Below w.heap.size w w'):zw w' w'.heap.size v l:=(h.below hb).more hb.size
def zpg (w:World) (ns:List (List UInt8)) (e:Ending) (w' :World):Prop:=∃ v l,e= .returned v/\xh l ns/\zw w' w'.heap.size v l/\Below w.heap.size w w'
theorem zgt (A A2:Option Addr) (n c n2 c2 B:Nat) (l ns:List (List UInt8)) (t:List zu) (w:World) (hl:zw w w.heap.size (.slice A n c) l) (hin:xh l ns) (ht:zh w B (.slice A2 n2 c2) t) (hB:B<=w.heap.size) (hcnt:ns.length+t.length<=100000):
 Calls prog 100 #[.slice A n c,.slice A2 n2 c2] w (zpg w (ns ++ t.map (·.name))):=by
 obtain rfl:=ht.len
 have a9:=ht.bound
 have r:=ze hl
 have al:Hid (xh l (ns ++ (t.take 0).map (·.name))):=ze (by rw [List.take_zero,List.map_nil,List.append_nil];exact hin)
 have m:=ze ht
 have HB:=ze hB
 have b:=ze (Below.refl w.heap.size w)
 have a1:=ze hcnt
 clear hl hin ht hB hcnt
 go_in
 go_wp2
 go_loopw [0,5] (WthR w B (.slice A2 t.length c2) t ns) (fun _ iv _=>t.length - (intOf iv).toNat)
 case atStart=>exact ⟨0,l,uB,rfl,al,r,m,b⟩
 case round=>
  clear al r m b
  obtain ⟨i,l,hi,rfl,al,r,m,b⟩:=hrel
  obtain ⟨AL,cl,rfl,aV,aW,a8,aw,ao⟩:=id r.o
  by_cases aA:i<t.length
  rotate_left
  . obtain rfl:t.length=i:=by omega
    rw [List.take_length] at al;have bb:=HB.o;go_wp2;go_ret;exact ⟨_,l,rfl,al.o,r.o,b.o⟩
  have be:(i:Int)<(t.length:Int):=by omega
  obtain ⟨ad,eA,ah,z,p1,aQ,aZ⟩:=m.o.at_ aA;subst eA;have aK:Hid (ns ++ (t.take (i+1)).map (·.name)=(ns ++ (t.take i).map (·.name)) ++ [t[i].name]):=ze (by rw [zfu aA,List.append_assoc]);generalize hs:t[i].name=s at z aQ aK;obtain ⟨aU,aM,bd⟩:=hz3 aQ hs aW;have a6:(l.length:Int)<=(cl:Int):=by omega
  have D:Hid (l.length+1<=100000):=ze (by
   have h1:=al.o.count;rw [List.length_append,List.length_map,List.length_take] at h1;have:=a1.o
   omega)
  obtain ⟨bf,bc⟩:∃ a,a=ad:=⟨_,rfl⟩;clear hs aQ aZ p1 aw ao aW z ah;go_wp2
  go_loopw [6] (WthK w B (.slice (some ad) t.length c2) t (.slice AL l.length cl) l s) (fun pv _=>l.length - (intOf pv).toNat)
  case atStart=>exact ⟨0,uB,rfl,(fun j h hj=>by omega),r,m,b⟩
  case round=>
   clear r m b;obtain ⟨p,hp,rfl,aO,r,m,b⟩:=hrel;obtain ⟨aT,Y,ah,z,p1,_,_⟩:=m.o.at_ aA;injection Y with Y
   subst Y;rw [aM.o] at z
   by_cases aH:p<l.length
   rotate_left
   . have aX:decide ((p:Int)<(l.length:Int))=false:=uF (by omega)
     have bg:decide (p<l.length)=false:=uF aH;have aN:((p:Int) == (l.length:Int))=true:=by rw [beq_iff_eq];omega
     have aP:Hid (∀ hp:p<l.length,¬ l[p]<s/\l[p]≠s):=ze (fun h=>absurd h aH);clear aH p1 z ah;go_wp2
     go_quiet (fail)
     have C:=zC wr nq;replace r:=ze (V7 r.o C);replace m:=ze (zh.below m.o C);replace b:=eb_ b C;clear C;generalize wr.drewN nq=wa at r m b |-;clear nq;go_wp2
     go_quiet (fail)
     have C:=zC wa nq;replace r:=ze (V7 r.o C);replace m:=ze (zh.below m.o C);replace b:=eb_ b C;clear C;generalize wa.drewN nq=wd at r m b |-;clear nq;clear aN
     go_upto_region 8 with fail
     obtain ⟨Z,R,M,T,Q⟩:=info_parts zlz;have a0:(p:Int)<=(l.length:Int):=by omega
     have a2:(p:Int)<=(cl:Int):=by omega
     obtain ⟨aT,Y,ah,z,p1,_,_⟩:=m.o.at_ aA;injection Y with Y
     subst Y;rw [aM.o] at z;clear p1;obtain ⟨A',c',e',aY,_,_,aw,ao⟩:=id r.o;injection e' with e1 e2 e3
     subst e1;subst e3;have aE:=ze aw;have aB:=ze ao;clear e2 aw ao;have J:ad.block<wd.heap.size:=uK ah (uC HB.o b.o.size)
     have aj:Hid (∀ w',Below wd.heap.size wd w' ->yc w' wd.heap.size 1 AL p ((l.take p).map str)):=ze (fun w' hb=>by
      have h:=(aE.o.below hb).head hp;rw [Nat.mul_one, <- List.map_take] at h
      exact h)
     have ai:Hid (∀ w',Below wd.heap.size wd w' ->yc w' wd.heap.size 1 (if cl=p then AL else (Option.map (fun x=>x.add p) AL)) (l.length - p) ((l.drop p).map str)):=ze (fun w' hb=>by
      have h:=(aE.o.below hb).cut hp aV;rw [Nat.mul_one, <- List.map_drop] at h
      exact h)
     have aG:Hid (xh (l.take p ++ s :: l.drop p) (ns ++ (t.take (i+1)).map (·.name))):=ze (by
      rw [aK.o]
      exact zqn al.o aO.o aP.o)
     have ak:Hid ((l.take p ++ s :: l.drop p).length=0+p+1+(l.length - p)):=ze (by
      rw [List.length_append,List.length_cons,List.length_take,List.length_drop];omega)
     have aF:Hid (∀ x∈l.take p ++ s :: l.drop p,zS x):=ze (fun x I=>by
      rcases List.mem_append.1 I with I | I
      . exact aB.o x (List.mem_of_mem_take I)
      . rcases List.mem_cons.1 I with rfl | I
        . exact aU.o
        . exact aB.o x (List.mem_of_mem_drop I))
     have aC:Hid (((([]:List Value) ++ (l.take p).map str) ++ [str s]) ++ (l.drop p).map str=(l.take p ++ s :: l.drop p).map str):=ze (by simp);refine yP (S:=fun w' =>Hid (Below wd.heap.size wd w')/\w'.cell? (ad.add (i*2))=some (str s)) 15 (by kernel_rfl) (by kernel_rfl) (zo (zt wd) (fun hB=>xy hB J z)) fun hU=>?_;refine tK 0 ?_;refine tK 1 ?_;refine tK 2 ?_;refine tK 4 ?_;refine tK 5 ?_;refine tK 6 ?_;refine tK 7 ?_;refine tK 8 ?_;refine tK 11 ?_;refine tK 12 ?_;refine tK 13 ?_;refine HH.ready (rs:=[3,9]) (by kernel_rfl) (by simp) (by kernel_rfl) ?_;refine yY.cons (o:=_) rfl (fun K hK=>?_) (yY.cons (o:=_) rfl (fun K hK=>?_) yY.nil)
     rotate_left
     . skip
       go_simp
       have U:Below wd.heap.size wd (wd.alloc (.cells #[str s] 9)).drew:=(yU wd _).out;have y:=hU;clear hU;refine hK.out _ _ (zo (yU wd _) (fun hB=>xy hB J z)) fun hU=>?_;clear y hK K
       try simp only [Act.put,xST]
       have ag:=xF wd 9 (str s);refine HH.ready (rs:=[3]) (by kernel_rfl) (by simp) (by kernel_rfl) ?_;refine yY.cons (o:=_) rfl (fun K hK=>?_) yY.nil;rw [if_pos (by rfl)];refine yC (P:=prog) (w:=(wd.alloc (.cells #[str s] 9)).drew) (.const (.slice none 0 0)) (.tmp 49) _ rfl wd.heap.size 9 Z _ 1 16 XK R M T Q rfl (by omega) (.slice none 0 0) 0 [] rfl (World.ownsRow_nil _ _ _ _) _ AL p cl _ rfl (aj.o _ U) (YN _) (by have:=D.o;unfold maxLen;omega) (by have:=D.o;omega) U.size ?_;intro v1 wA ae af an;have N:Below (wd.alloc (.cells #[str s] 9)).drew.heap.size (wd.alloc (.cells #[str s] 9)).drew wA:=(Below.refl _ _).grown af (uA) (fun k hk=>by cases hk);have au:=ext U N;have y:=hU;clear hU;refine hK.out _ _ (zo ((ze au)) (fun hB=>xy hB J z)) fun hU=>?_;clear y hK K
       try simp only [Act.put,xST]
       have O:=ze ae;have aI:yc (wd.alloc (.cells #[str s] 9)).drew (wd.alloc (.cells #[str s] 9)).drew.heap.size 1 (some ⟨wd.heap.size,0,none⟩) 1 [str s]:=yc.more (yc.drew ag) (by show _<=(wd.alloc (.cells #[str s] 9)).heap.size;rw [World.size_alloc];exact uA);have V:=ze ((yc.below aI N).more N.size);have F:=ze au;clear U N au ae af an ag aI;refine HH.ready (rs:=[10]) (by kernel_rfl) (by simp) (by kernel_rfl) ?_;refine yY.cons (o:=_) rfl (fun K hK=>?_) yY.nil;rw [if_pos (by rfl)];refine yC (P:=prog) (w:=wA) (.tmp 50) (.tmp 56) _ rfl wd.heap.size 9 Z _ 1 16 XK R M T Q rfl (by omega) v1 (0+p) _ rfl O.o _ (some ⟨wd.heap.size,0,none⟩) 1 1 [str s] rfl V.o (by intro u hu;rw [uM] at hu;subst hu;rfl) (by have:=D.o;unfold maxLen;omega) (by have:=D.o;omega) F.o.size ?_;intro v2 wB G aa ap;have E:Below wd.heap.size wd wB:=F.o.grown aa F.o.size (fun k e=>(O.o.lt k e).1);have y:=hU;clear hU;refine hK.out _ _ (zo ((ze E)) (fun hB=>xy hB J z)) fun hU=>?_;clear y hK K
       try simp only [Act.put,xST]
       refine HH.ready (rs:=[14]) (by kernel_rfl) (by simp) (by kernel_rfl) ?_;refine yY.cons (o:=_) rfl (fun K hK=>?_) yY.nil;rw [if_pos (by rfl)];refine yC (P:=prog) (w:=wB) (.tmp 57) (.tmp 60) _ rfl wd.heap.size 9 Z _ 1 16 XK R M T Q rfl (by omega) v2 (0+p+1) _ rfl G _ _ (l.length - p) (cl - p) _ rfl (ai.o _ E) (YN _) (by have:=D.o;unfold maxLen;omega) (by have:=D.o;omega) E.size ?_;intro v3 wC X ac av;have L:Below wd.heap.size wd wC:=E.grown ac E.size (fun k e=>(G.lt k e).1);have y:=hU;clear hU;refine hK.out _ _ (zo ((ze L)) (fun hB=>xy hB J z)) fun hU=>?_;clear y hK K
       try simp only [Act.put,xST]
       have am:=(hU.1).out;clear am hU;refine HH.done (by kernel_rfl) ?_;simp only [List.drop_succ_cons,List.drop_zero];rw [aC.o, <- ak.o] at X;have ab:=ZP X (by rw [ak.o];have:=D.o;omega) aF.o;have aq:=ze ab;have ar:=ze (zh.below' m.o (L.mono (uC HB.o b.o.size)));have ax:=ze (b.o.trans (L.mono b.o.size));clear E L G X aa ac ap av ab O V F aj ai R M T Q;go_wp2;go_roundw
       case rel=>exact ⟨i+1,_,by omega,by go_num,aG,aq,ar,ax⟩
       case measure=>simp [intOf];omega
     skip
     rw [if_pos (by rfl)];refine yC (P:=prog) (w:=wd.drew) (.const (.slice none 0 0)) (.tmp 49) _ rfl wd.heap.size 9 Z _ 1 16 XK R M T Q rfl (by omega) (.slice none 0 0) 0 [] rfl (World.ownsRow_nil _ _ _ _) _ AL p cl _ rfl (aj.o wd.drew (zt wd).out) (YN _) (by have:=D.o;unfold maxLen;omega) (by have:=D.o;omega) (uA) ?_;intro v1 w1 ae af an;have U:Below wd.heap.size wd w1:=(zt wd).out.grown af (uA) (fun k hk=>by cases hk);have y:=hU;clear hU;refine hK.out _ _ (zo ((ze U)) (fun hB=>xy hB J z)) fun hU=>?_;clear y hK K
     try simp only [Act.put,xST]
     refine rK 9 fun K hK=>?_
     go_simp
     have N:Below wd.heap.size wd (w1.alloc (.cells #[str s] 9)):=ext U (zf w1 _);have y:=hU;clear hU;refine hK.out _ _ (zo ((ze N)) (fun hB=>xy hB J z)) fun hU=>?_;clear y hK K
     try simp only [Act.put,xST]
     have G:=World.ownsRow.alloc ae (.cells #[str s] 9);have ag:=xF w1 9 (str s);obtain ⟨O,V,F⟩:=hz3 G ag N;clear U N ae G af an ag;generalize w1.alloc (.cells #[str s] 9)=wA at O V F hU |-;generalize w1.heap.size=gs at V |-;refine HH.ready (rs:=[10]) (by kernel_rfl) (by simp) (by kernel_rfl) ?_;refine yY.cons (o:=_) rfl (fun K hK=>?_) yY.nil;rw [if_pos (by rfl)];refine yC (P:=prog) (w:=wA) (.tmp 50) (.tmp 56) _ rfl wd.heap.size 9 Z _ 1 16 XK R M T Q rfl (by omega) v1 (0+p) _ rfl O.o _ (some ⟨gs,0,none⟩) 1 1 [str s] rfl V.o (by intro u hu;rw [uM] at hu;subst hu;rfl) (by have:=D.o;unfold maxLen;omega) (by have:=D.o;omega) F.o.size ?_;intro v2 wB G aa ap;have E:Below wd.heap.size wd wB:=F.o.grown aa F.o.size (fun k e=>(O.o.lt k e).1);have y:=hU;clear hU;refine hK.out _ _ (zo ((ze E)) (fun hB=>xy hB J z)) fun hU=>?_;clear y hK K
     try simp only [Act.put,xST]
     refine HH.ready (rs:=[14]) (by kernel_rfl) (by simp) (by kernel_rfl) ?_;refine yY.cons (o:=_) rfl (fun K hK=>?_) yY.nil;rw [if_pos (by rfl)];refine yC (P:=prog) (w:=wB) (.tmp 57) (.tmp 60) _ rfl wd.heap.size 9 Z _ 1 16 XK R M T Q rfl (by omega) v2 (0+p+1) _ rfl G _ _ (l.length - p) (cl - p) _ rfl (ai.o _ E) (YN _) (by have:=D.o;unfold maxLen;omega) (by have:=D.o;omega) E.size ?_;intro v3 wC X ac av;have L:Below wd.heap.size wd wC:=E.grown ac E.size (fun k e=>(G.lt k e).1);have y:=hU;clear hU;refine hK.out _ _ (zo ((ze L)) (fun hB=>xy hB J z)) fun hU=>?_;clear y hK K
     try simp only [Act.put,xST]
     have am:=(hU.1).out;clear am hU;refine HH.done (by kernel_rfl) ?_;simp only [List.drop_succ_cons,List.drop_zero];rw [aC.o, <- ak.o] at X;have ab:=ZP X (by rw [ak.o];have:=D.o;omega) aF.o;have aq:=ze ab;have ar:=ze (zh.below' m.o (L.mono (uC HB.o b.o.size)));have ax:=ze (b.o.trans (L.mono b.o.size));clear E L G X aa ac ap av ab O V F aj ai R M T Q;go_wp2;go_roundw
     case rel=>exact ⟨i+1,_,by omega,by go_num,aG,aq,ar,ax⟩
     case measure=>simp [intOf];omega
   have aX:(p:Int)<(l.length:Int):=by omega
   obtain ⟨aD,eL,aJ,c1⟩:=r.o.at_ aH;subst eL;generalize I:l[p]=x at c1;have aR:=Zy x s;have a7:decide ((p:Int)<(l.length:Int))=true:=uE aX
   by_cases ay:x<s
   . rw [uE ay] at aR
     have a3:Hid (∀ j (h:j<l.length),j<p+1->l[j]<s):=ze (fun j h hj=>by
      by_cases e:j=p
      . subst e;rw [I];exact ay
      exact aO.o j h (by omega))
     clear I ay p1 aJ;go_wp2
     go_quiet (fail)
     have C:=zC wr nq;replace r:=ze (V7 r.o C);replace m:=ze (zh.below m.o C);replace b:=eb_ b C;clear C;generalize wr.drewN nq=wa at r m b |-;clear nq;go_wp2;go_roundw
     case rel=>exact ⟨p+1,by omega,by go_num,a3,r,m,b⟩
     case measure=>simp [intOf];omega
   rw [uF ay] at aR
   have HX:=ze I;have a5:=ze ay;clear I ay p1 aJ;go_wp2
   go_quiet (fail)
   have C:=zC wr nq;replace r:=ze (V7 r.o C);replace m:=ze (zh.below m.o C);replace b:=eb_ b C;clear C;generalize wr.drewN nq=wa at r m b |-;clear nq;clear c1 z aR ah;obtain ⟨aT,Y,ah,z,p1,_,_⟩:=m.o.at_ aA;injection Y with Y
   subst Y;rw [aM.o] at z;obtain ⟨ba,aS,aJ,c1⟩:=r.o.at_ aH;injection aS with aS
   subst aS;rw [HX.o] at c1;have aN:((p:Int) == (l.length:Int))=false:=by rw [beq_eq_false_iff_ne];omega
   have he:(x == s)=decide (x=s):=by by_cases h:x=s<;>simp [h]
   clear p1 aJ
   by_cases az:x=s
   . rw [uE az] at he
     have a4:Hid (xh l (ns ++ (t.take (i+1)).map (·.name))):=ze (by
      rw [aK.o]
      exact zwk al.o (by rw [<- az, <- HX.o];exact uO _))
     clear az;go_wp2
     go_quiet (fail)
     have C:=zC wa nq;replace r:=ze (V7 r.o C);replace m:=ze (zh.below m.o C);replace b:=eb_ b C;clear C;generalize wa.drewN nq=wd at r m b |-;clear nq;go_wp2;go_roundw
     case rel=>exact ⟨i+1,l,by omega,by go_num,a4,r,m,b⟩
     case measure=>simp [intOf];omega
   rw [uF az] at he
   have aP:Hid (∀ hp:p<l.length,¬ l[p]<s/\l[p]≠s):=ze (fun _=>⟨by rw [HX.o];exact a5.o,by rw [HX.o];exact az⟩);clear az;go_wp2
   go_quiet (fail)
   have C:=zC wa nq;replace r:=ze (V7 r.o C);replace m:=ze (zh.below m.o C);replace b:=eb_ b C;clear C;generalize wa.drewN nq=wd at r m b |-;clear nq;clear c1 z he aN ah
   go_upto_region 8 with fail
   obtain ⟨Z,R,M,T,Q⟩:=info_parts zlz;have a0:(p:Int)<=(l.length:Int):=by omega
   have a2:(p:Int)<=(cl:Int):=by omega
   obtain ⟨aT,Y,ah,z,p1,_,_⟩:=m.o.at_ aA;injection Y with Y
   subst Y;rw [aM.o] at z;clear p1;obtain ⟨A',c',e',aY,_,_,aw,ao⟩:=id r.o;injection e' with e1 e2 e3
   subst e1;subst e3;have aE:=ze aw;have aB:=ze ao;clear e2 aw ao;have J:ad.block<wd.heap.size:=uK ah (uC HB.o b.o.size)
   have aj:Hid (∀ w',Below wd.heap.size wd w' ->yc w' wd.heap.size 1 (some aD) p ((l.take p).map str)):=ze (fun w' hb=>by
    have h:=(aE.o.below hb).head hp;rw [Nat.mul_one, <- List.map_take] at h
    exact h)
   have ai:Hid (∀ w',Below wd.heap.size wd w' ->yc w' wd.heap.size 1 (if cl=p then (some aD) else (some (aD.add p))) (l.length - p) ((l.drop p).map str)):=ze (fun w' hb=>by
    have h:=(aE.o.below hb).cut hp aV;rw [Nat.mul_one, <- List.map_drop] at h
    exact h)
   have aG:Hid (xh (l.take p ++ s :: l.drop p) (ns ++ (t.take (i+1)).map (·.name))):=ze (by
    rw [aK.o]
    exact zqn al.o aO.o aP.o)
   have ak:Hid ((l.take p ++ s :: l.drop p).length=0+p+1+(l.length - p)):=ze (by
    rw [List.length_append,List.length_cons,List.length_take,List.length_drop];omega)
   have aF:Hid (∀ x∈l.take p ++ s :: l.drop p,zS x):=ze (fun x I=>by
    rcases List.mem_append.1 I with I | I
    . exact aB.o x (List.mem_of_mem_take I)
    . rcases List.mem_cons.1 I with rfl | I
      . exact aU.o
      . exact aB.o x (List.mem_of_mem_drop I))
   have aC:Hid (((([]:List Value) ++ (l.take p).map str) ++ [str s]) ++ (l.drop p).map str=(l.take p ++ s :: l.drop p).map str):=ze (by simp);refine yP (S:=fun w' =>Hid (Below wd.heap.size wd w')/\w'.cell? (ad.add (i*2))=some (str s)) 15 (by kernel_rfl) (by kernel_rfl) (zo (zt wd) (fun hB=>xy hB J z)) fun hU=>?_;refine tK 0 ?_;refine tK 1 ?_;refine tK 2 ?_;refine tK 4 ?_;refine tK 5 ?_;refine tK 6 ?_;refine tK 7 ?_;refine tK 8 ?_;refine tK 11 ?_;refine tK 12 ?_;refine tK 13 ?_;refine HH.ready (rs:=[3,9]) (by kernel_rfl) (by simp) (by kernel_rfl) ?_;refine yY.cons (o:=_) rfl (fun K hK=>?_) (yY.cons (o:=_) rfl (fun K hK=>?_) yY.nil)
   rotate_left
   . skip
     go_simp
     have U:Below wd.heap.size wd (wd.alloc (.cells #[str s] 9)).drew:=(yU wd _).out;have y:=hU;clear hU;refine hK.out _ _ (zo (yU wd _) (fun hB=>xy hB J z)) fun hU=>?_;clear y hK K
     try simp only [Act.put,xST]
     have ag:=xF wd 9 (str s);refine HH.ready (rs:=[3]) (by kernel_rfl) (by simp) (by kernel_rfl) ?_;refine yY.cons (o:=_) rfl (fun K hK=>?_) yY.nil;rw [if_pos (by rfl)];refine yC (P:=prog) (w:=(wd.alloc (.cells #[str s] 9)).drew) (.const (.slice none 0 0)) (.tmp 49) _ rfl wd.heap.size 9 Z _ 1 16 XK R M T Q rfl (by omega) (.slice none 0 0) 0 [] rfl (World.ownsRow_nil _ _ _ _) _ (some aD) p cl _ rfl (aj.o _ U) (YN _) (by have:=D.o;unfold maxLen;omega) (by have:=D.o;omega) U.size ?_;intro v1 wA ae af an;have N:Below (wd.alloc (.cells #[str s] 9)).drew.heap.size (wd.alloc (.cells #[str s] 9)).drew wA:=(Below.refl _ _).grown af (uA) (fun k hk=>by cases hk);have au:=ext U N;have y:=hU;clear hU;refine hK.out _ _ (zo ((ze au)) (fun hB=>xy hB J z)) fun hU=>?_;clear y hK K
     try simp only [Act.put,xST]
     have O:=ze ae;have aI:yc (wd.alloc (.cells #[str s] 9)).drew (wd.alloc (.cells #[str s] 9)).drew.heap.size 1 (some ⟨wd.heap.size,0,none⟩) 1 [str s]:=yc.more (yc.drew ag) (by show _<=(wd.alloc (.cells #[str s] 9)).heap.size;rw [World.size_alloc];exact uA);have V:=ze ((yc.below aI N).more N.size);have F:=ze au;clear U N au ae af an ag aI;refine HH.ready (rs:=[10]) (by kernel_rfl) (by simp) (by kernel_rfl) ?_;refine yY.cons (o:=_) rfl (fun K hK=>?_) yY.nil;rw [if_pos (by rfl)];refine yC (P:=prog) (w:=wA) (.tmp 50) (.tmp 56) _ rfl wd.heap.size 9 Z _ 1 16 XK R M T Q rfl (by omega) v1 (0+p) _ rfl O.o _ (some ⟨wd.heap.size,0,none⟩) 1 1 [str s] rfl V.o (by intro u hu;rw [uM] at hu;subst hu;rfl) (by have:=D.o;unfold maxLen;omega) (by have:=D.o;omega) F.o.size ?_;intro v2 wB G aa ap;have E:Below wd.heap.size wd wB:=F.o.grown aa F.o.size (fun k e=>(O.o.lt k e).1);have y:=hU;clear hU;refine hK.out _ _ (zo ((ze E)) (fun hB=>xy hB J z)) fun hU=>?_;clear y hK K
     try simp only [Act.put,xST]
     refine HH.ready (rs:=[14]) (by kernel_rfl) (by simp) (by kernel_rfl) ?_;refine yY.cons (o:=_) rfl (fun K hK=>?_) yY.nil;rw [if_pos (by rfl)];refine yC (P:=prog) (w:=wB) (.tmp 57) (.tmp 60) _ rfl wd.heap.size 9 Z _ 1 16 XK R M T Q rfl (by omega) v2 (0+p+1) _ rfl G _ _ (l.length - p) (cl - p) _ rfl (ai.o _ E) (YN _) (by have:=D.o;unfold maxLen;omega) (by have:=D.o;omega) E.size ?_;intro v3 wC X ac av;have L:Below wd.heap.size wd wC:=E.grown ac E.size (fun k e=>(G.lt k e).1);have y:=hU;clear hU;refine hK.out _ _ (zo ((ze L)) (fun hB=>xy hB J z)) fun hU=>?_;clear y hK K
     try simp only [Act.put,xST]
     have am:=(hU.1).out;clear am hU;refine HH.done (by kernel_rfl) ?_;simp only [List.drop_succ_cons,List.drop_zero];rw [aC.o, <- ak.o] at X;have ab:=ZP X (by rw [ak.o];have:=D.o;omega) aF.o;have aq:=ze ab;have ar:=ze (zh.below' m.o (L.mono (uC HB.o b.o.size)));have ax:=ze (b.o.trans (L.mono b.o.size));clear E L G X aa ac ap av ab O V F aj ai R M T Q;go_wp2;go_roundw
     case rel=>exact ⟨i+1,_,by omega,by go_num,aG,aq,ar,ax⟩
     case measure=>simp [intOf];omega
   skip
   rw [if_pos (by rfl)];refine yC (P:=prog) (w:=wd.drew) (.const (.slice none 0 0)) (.tmp 49) _ rfl wd.heap.size 9 Z _ 1 16 XK R M T Q rfl (by omega) (.slice none 0 0) 0 [] rfl (World.ownsRow_nil _ _ _ _) _ (some aD) p cl _ rfl (aj.o wd.drew (zt wd).out) (YN _) (by have:=D.o;unfold maxLen;omega) (by have:=D.o;omega) (uA) ?_;intro v1 w1 ae af an;have U:Below wd.heap.size wd w1:=(zt wd).out.grown af (uA) (fun k hk=>by cases hk);have y:=hU;clear hU;refine hK.out _ _ (zo ((ze U)) (fun hB=>xy hB J z)) fun hU=>?_;clear y hK K
   try simp only [Act.put,xST]
   refine rK 9 fun K hK=>?_
   go_simp
   have N:Below wd.heap.size wd (w1.alloc (.cells #[str s] 9)):=ext U (zf w1 _);have y:=hU;clear hU;refine hK.out _ _ (zo ((ze N)) (fun hB=>xy hB J z)) fun hU=>?_;clear y hK K
   try simp only [Act.put,xST]
   have G:=World.ownsRow.alloc ae (.cells #[str s] 9);have ag:=xF w1 9 (str s);obtain ⟨O,V,F⟩:=hz3 G ag N;clear U N ae G af an ag;generalize w1.alloc (.cells #[str s] 9)=wA at O V F hU |-;generalize w1.heap.size=gs at V |-;refine HH.ready (rs:=[10]) (by kernel_rfl) (by simp) (by kernel_rfl) ?_;refine yY.cons (o:=_) rfl (fun K hK=>?_) yY.nil;rw [if_pos (by rfl)];refine yC (P:=prog) (w:=wA) (.tmp 50) (.tmp 56) _ rfl wd.heap.size 9 Z _ 1 16 XK R M T Q rfl (by omega) v1 (0+p) _ rfl O.o _ (some ⟨gs,0,none⟩) 1 1 [str s] rfl V.o (by intro u hu;rw [uM] at hu;subst hu;rfl) (by have:=D.o;unfold maxLen;omega) (by have:=D.o;omega) F.o.size ?_;intro v2 wB G aa ap;have E:Below wd.heap.size wd wB:=F.o.grown aa F.o.size (fun k e=>(O.o.lt k e).1);have y:=hU;clear hU;refine hK.out _ _ (zo ((ze E)) (fun hB=>xy hB J z)) fun hU=>?_;clear y hK K
   try simp only [Act.put,xST]
   refine HH.ready (rs:=[14]) (by kernel_rfl) (by simp) (by kernel_rfl) ?_;refine yY.cons (o:=_) rfl (fun K hK=>?_) yY.nil;rw [if_pos (by rfl)];refine yC (P:=prog) (w:=wB) (.tmp 57) (.tmp 60) _ rfl wd.heap.size 9 Z _ 1 16 XK R M T Q rfl (by omega) v2 (0+p+1) _ rfl G _ _ (l.length - p) (cl - p) _ rfl (ai.o _ E) (YN _) (by have:=D.o;unfold maxLen;omega) (by have:=D.o;omega) E.size ?_;intro v3 wC X ac av;have L:Below wd.heap.size wd wC:=E.grown ac E.size (fun k e=>(G.lt k e).1);have y:=hU;clear hU;refine hK.out _ _ (zo ((ze L)) (fun hB=>xy hB J z)) fun hU=>?_;clear y hK K
   try simp only [Act.put,xST]
   have am:=(hU.1).out;clear am hU;refine HH.done (by kernel_rfl) ?_;simp only [List.drop_succ_cons,List.drop_zero];rw [aC.o, <- ak.o] at X;have ab:=ZP X (by rw [ak.o];have:=D.o;omega) aF.o;have aq:=ze ab;have ar:=ze (zh.below' m.o (L.mono (uC HB.o b.o.size)));have ax:=ze (b.o.trans (L.mono b.o.size));clear E L G X aa ac ap av ab O V F aj ai R M T Q;go_wp2;go_roundw
   case rel=>exact ⟨i+1,_,by omega,by go_num,aG,aq,ar,ax⟩
   case measure=>simp [intOf];omega
theorem zdv (L:List (List zu)) (k:Nat):(zP (L.take k)).length<=(zP L).length:=by
 conv=>rhs;rw [<- List.take_append_drop k L]
 unfold zP
 rw [List.flatMap_append,List.length_append]
 omega
def UnwR (w0:World) (rv:Value) (rows:List zU) (ov iv:Value) (wr:World):Prop:=
 ∃ (i:Nat) (l:List (List UInt8)),i<=rows.length/\iv= .int .i64 i/\Hid (xh l (zP ((rows.map (·.terms)).take i)))/\Hid (zw wr wr.heap.size ov l)/\Hid (zH wr w0.heap.size rv rows)/\Hid (Below w0.heap.size w0 wr)
theorem zb6 (A:Option Addr) (n c:Nat) (rows:List zU) (w:World) (hr:yS w (.slice A n c) rows) (r:(zP (rows.map (·.terms))).length<=50000):
 Calls prog 49 #[.slice A n c] w (zpg w (zP (rows.map (·.terms)))):=by
 obtain rfl:=hr.len
 have aa:rows.length<=100000:=by obtain ⟨_,_,_,_,_,_,h,_⟩:=hr;exact h
 have u:=ze hr
 have b:=ze (Below.refl w.heap.size w)
 have L:=ze r
 have j:Hid (xh [] (zP ((rows.map (·.terms)).take 0))):=ze ⟨List.Pairwise.nil,fun x=>by simp [zP]⟩
 have m:=ze (zr5 w w.heap.size)
 clear hr r
 go_in
 go_wp2
 go_loopw [3,4] (UnwR w (.slice A rows.length c) rows) (fun _ iv _=>rows.length - (intOf iv).toNat)
 case atStart=>exact ⟨0,[],uB,rfl,j,m,u,b⟩
 case round=>
  clear j m u b
  obtain ⟨i,l,hi,rfl,j,m,u,b⟩:=hrel
  obtain ⟨J,cl,rfl,_⟩:=id m.o
  by_cases F:i<rows.length
  rotate_left
  . obtain rfl:rows.length=i:=by omega
    rw [uJ (by rw [List.length_map];exact uA)] at j;go_wp2;go_ret;exact ⟨_,l,rfl,j.o,m.o,b.o⟩
  have ab:(i:Int)<(rows.length:Int):=by omega
  obtain ⟨ad,AT,X,ct,K,T,Y,U,C,S⟩:=u.o.at_ F;subst K;have R:i<(rows.map (·.terms)).length:=by rw [List.length_map];exact F
  have B:Hid (zP ((rows.map (·.terms)).take (i+1))=zP ((rows.map (·.terms)).take i) ++ rows[i].terms.map (·.name)):=ze (by
   rw [zck R,List.getElem_map])
  have r:(zP ((rows.map (·.terms)).take i)).length+rows[i].terms.length<=100000:=by
   have O:=zdv (rows.map (·.terms)) (i+1);rw [B.o,List.length_append,List.length_map] at O;have:=L.o
   omega
  have y:=zgt J AT l.length cl X ct w.heap.size l _ rows[i].terms wr m.o j.o C b.o.size r;rw [<- B.o] at y;have E:=ze y;clear C S r y U;go_wp2_with fail;refine E.o.mono ?_;rintro e w2 ⟨v,Z,rfl,I,D,G⟩;have z:=G.mono b.o.size;have Q:=ze (zH.below' u.o z);have V:=ze (b.o.trans z);have M:=ze I;have N:=ze D;clear G z I D E Y T;go_wp2;go_roundw
  case rel=>exact ⟨i+1,Z,by omega,by go_num,M,N,Q,V⟩
  case measure=>simp [intOf];omega
def RckR (w0:World) (rv:Value) (rows:List zU) (iv:Value) (wr:World):Prop:=
 ∃ i:Nat,i<=rows.length/\iv= .int .i64 i/\Hid (∀ j,j<i->yF (rows.getD j default)=0)/\Hid (zH wr w0.heap.size rv rows)/\Hid (Below w0.heap.size w0 wr)
theorem zdk (A:Option Addr) (n c:Nat) (rows:List zU) (w:World) (hr:yS w (.slice A n c) rows) (hcnt:rows.length<=800->(zP (rows.map (·.terms))).length<=50000):
 Calls prog 20 #[.slice A n c] w (VE w (.int .i64 (yf rows))):=by
 obtain rfl:=hr.len
 have m:=ze hr
 have b:=ze (Below.refl w.heap.size w)
 by_cases Q:800<rows.length
 . have R:decide ((rows.length:Int)>800)=true:=by rw [decide_eq_true_iff];omega
   have HE:=ze (Zx Q);clear hr hcnt
   go_in
   go_wp2;go_ret;exact ⟨by rw [HE.o];rfl,b.o⟩
 have R:decide ((rows.length:Int)>800)=false:=by rw [decide_eq_false_iff_not];omega
 have V:=ze Q
 have N:=ze (hcnt (by omega))
 clear hr hcnt
 go_in
 go_wp2
 go_loopw [3] (RckR w (.slice A rows.length c) rows) (fun iv _=>rows.length - (intOf iv).toNat)
 case atStart=>exact ⟨0,uB,rfl,(fun j h=>by omega),m,b⟩
 case round=>
  clear m b R
  obtain ⟨i,hi,rfl,D,m,b⟩:=hrel
  by_cases G:i<rows.length
  . have ac:(i:Int)<(rows.length:Int):=by omega
    obtain ⟨ad,AT,nt,ct,eA,S,Y,T,L,O⟩:=m.o.at_ G;subst eA;have Z:=zmv AT nt ct rows[i] wr (L.more b.o.size) O;have J:=xGD (d:=default) G;have I:=ze J;have y:=ze Z;clear L O Z J
    by_cases r:yF rows[i]=0
    . rw [r] at y
      have ab:Hid (∀ j,j<i+1->yF (rows.getD j default)=0):=by
       intro j hj
       by_cases e:j=i
       . subst e;rw [I.o];exact r
       . exact D.o j (by omega)
      clear r;go_wp2_with fail;refine y.o.mono ?_;rintro e w3 ⟨rfl,C⟩;have B:=C.mono b.o.size;have aa:=ze (zH.below' m.o B);have F:=ze (b.o.trans B);clear C B y Y T S;go_wp2;go_roundw
      case rel=>exact ⟨i+1,by omega,by go_num,ab,aa,F⟩
      case measure=>simp [intOf];omega
    . have u:Hid (yf rows=yF rows[i]):=by
       have:=ze2 V.o G D.o (by rw [I.o];exact r);rw [I.o] at this;exact this
      generalize hz:yF rows[i]=z at y u r;have ae:(z == 0)=false:=uD r;clear hz r;go_wp2_with fail;refine y.o.mono ?_;rintro e w3 ⟨rfl,C⟩;have F:=ze (b.o.trans (C.mono b.o.size));clear C y Y T S;go_wp2;go_ret;exact ⟨by rw [u.o];rfl,F.o⟩
  . obtain rfl:rows.length=i:=by omega
    have X:=zb6 A rows.length c rows wr (m.o.more b.o.size) N.o;have M:=ze X;clear X m;go_wp2_with fail;refine M.o.mono ?_;rintro e w3 ⟨v,l,rfl,U,hn,B⟩;have K:l.length=(zR rows []).length:=by rw [U.eq];rfl
    have u:Hid (yf rows=if 80<l.length then 3 else 0):=by
     show _=_
     rw [K];exact VU V.o D.o
    obtain ⟨A3,c3,rfl,_⟩:=hn;replace b:=eb_ b B;clear B M U K D N
    by_cases E:80<l.length
    . rw [if_pos E] at u
      have d8:(80:Int)<(l.length:Int):=by omega
      clear E;go_wp2;go_ret;exact ⟨by rw [u.o];rfl,b.o⟩
    . rw [if_neg E] at u
      have d8:¬ (80:Int)<(l.length:Int):=by omega
      clear E;go_wp2;go_ret;exact ⟨by rw [u.o];rfl,b.o⟩
def zqc (l:List zu):Prop:=∀ t∈l,(zl t.coef).isSome=true
theorem zs4 (A:Option Addr) (n c B:Nat) (l:List zu) (bd s:List UInt8) (w:World) (ht:zh w B (.slice A n c) l) (hB:B<=w.heap.size) (hg:zqc l):
 Calls prog 105 #[.agg #[.slice A n c,str bd],str s] w (Vt w (ZR l s)):=by
 obtain rfl:=ht.len
 have hl:=ht.bound
 have N:=ext (zf w (.cells #[.slice A l.length c,str bd] 31)) (zf (w.alloc (.cells #[.slice A l.length c,str bd] 31)) (.cells #[.bool false,.slice none 0 0,.slice none 0 0] 112))
 have af:=ze ((Blk.new w 31 #[.slice A l.length c,str bd]).alloc (.cells #[.bool false,.slice none 0 0,.slice none 0 0] 112))
 have S:=Blk.new (w.alloc (.cells #[.slice A l.length c,str bd] 31)) 112 #[.bool false,.slice none 0 0,.slice none 0 0]
 simp only [World.size_alloc] at S
 have I:=ze S
 have HT:=ze (zh.below ht N)
 have HW:=ze N
 have HG:=ze hg
 have ah:Hid (B<=((w.alloc (.cells #[.slice A l.length c,str bd] 31)).alloc (.cells #[.bool false,.slice none 0 0,.slice none 0 0] 112)).heap.size):=ze (uC hB N.size)
 have aa:Hid (w.heap.size<=w.heap.size+1):=Nat.le_succ _
 clear ht hB N hg S
 go_in
 go_upto_region 1 with fail
 generalize (w.alloc (.cells #[.slice A l.length c,str bd] 31)).alloc (.cells #[.bool false,.slice none 0 0,.slice none 0 0] 112)=W at I af HT HW ah |-
 have b0:=(bq1 af).1
 go_wp2
 go_loopw [5] (RatR W B w.heap.size (.slice A l.length c) l s) (fun kv _=>l.length - (intOf kv).toNat)
 case atStart=>exact ⟨0,uB,rfl,ze (fun j hj h=>by omega),rfl⟩
 case round=>
  obtain ⟨k,hk,rfl,L,rfl⟩:=hrel
  by_cases Q:k<l.length
  rotate_left
  . obtain rfl:l.length=k:=by omega
    have HV:Hid (ZR l s=0):=ze (za5 l s (fun j hj=>L.o j hj hj));clear L;go_wp2_with fail;refine (zas _).mono ?_;rintro e w1 ⟨v,rfl,hv,C⟩;obtain ⟨ng,X,n1,G,Y,M,J,rfl,E,K,F⟩:=hv;have b:=ze (I.o.below C I.o.lt);have Z:=ze (ext HW.o C);obtain ⟨O,U,H2⟩:=hz3 E K F;have r0:=b.o.cell 0;have R:=b.o.cell 1;have r2:=b.o.cell 2;obtain ⟨f0,f1,f2⟩:=fq3 b;have lR:=b.o.lt;simp at r0 R r2;clear C E K F;go_wp2_with fail;have y:=yO (ng:=ng) (A:=X) (n:=n1) (c:=G) (B:=Y) (m:=M) (d:=J) b.o;have r:=y.cell 0;have z:=y.cell 1;have u:=y.cell 2;simp only [World.ref] at r z u;simp at r z u;refine bodyPost_ret (v:=.agg #[.bool ng,.slice X n1 G,.slice Y M J]) (by simp [results,results105,go_sem,r,z,u]) rfl ?_;rw [HV.o];exact ⟨_,rfl,⟨_,_,_,_,_,_,_,rfl,O.o,yb U.o b.o,yb H2.o b.o⟩,yy (w:=w) (g:=w.heap.size+1) Z.o aa.o⟩
  have ai:(k:Int)<(l.length:Int):=by omega
  obtain ⟨ad,eA,aj,p0,p1,ac,V⟩:=HT.o.at_ Q;subst eA;have he:(l[k].name == s)=decide (l[k].name=s):=by by_cases h:l[k].name=s<;>simp [h]
  by_cases D:l[k].name=s
  . rw [uE D] at he
    obtain ⟨q,T⟩:=Option.isSome_iff_exists.1 (HG.o _ (uO Q));have HV:Hid (ZR l s=q):=ze (by rw [zho l k s Q L.o D,T];rfl);have ae:=fun w=>xV l[k].coef q w V T
    have ab:=ze ae;clear T ae ac V D L;go_wp2_with fail;refine (ab.o _).mono ?_;rintro e w1 ⟨v,rfl,hv,C⟩;obtain ⟨ng,X,n1,G,Y,M,J,rfl,E,K,F⟩:=hv;have b:=ze (I.o.below C I.o.lt);have Z:=ze (ext HW.o C);obtain ⟨O,U,H2⟩:=hz3 E K F;have r0:=b.o.cell 0;have R:=b.o.cell 1;have r2:=b.o.cell 2;obtain ⟨f0,f1,f2⟩:=fq3 b;have lR:=b.o.lt;simp at r0 R r2;clear C E K F p0 p1 ab;go_wp2_with fail;have y:=yO (ng:=ng) (A:=X) (n:=n1) (c:=G) (B:=Y) (m:=M) (d:=J) b.o;have r:=y.cell 0;have z:=y.cell 1;have u:=y.cell 2;simp only [World.ref] at r z u;simp at r z u;refine bodyPost_ret (v:=.agg #[.bool ng,.slice X n1 G,.slice Y M J]) (by simp [results,results105,go_sem,r,z,u]) rfl ?_;rw [HV.o];exact ⟨_,rfl,⟨_,_,_,_,_,_,_,rfl,O.o,yb U.o b.o,yb H2.o b.o⟩,yy (w:=w) (g:=w.heap.size+1) Z.o aa.o⟩
  rw [uF D] at he
  have ag:Hid (∀ j (hj:j<l.length),j<k+1->l[j].name≠s):=ze (fun j hj h=>by
   by_cases e:j=k
   . subst e;exact D
   exact L.o j hj (by omega))
  clear D ac V;go_wp2;go_roundw
  case rel=>exact ⟨k+1,by omega,by go_num,ag,rfl⟩
  case measure=>simp [intOf];omega
end Go.Proofs.YtnjljgidphemdaaGreatDoor
