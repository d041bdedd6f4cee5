/- Parts of the proof. -/
import Derived.Carry
import Derived.Test.YthbmhkiphmcogaaGreatDoorMe22
import Derived.Test.YthbmhkiphmcogaaGreatDoorMe21
import Derived.Test.YthbmhkiphmcogaaGreatDoorMe19
set_option linter.all false
set_option maxRecDepth 100000
set_option maxHeartbeats 32000000
namespace Go.Proofs.YthbmhkiphmcogaaGreatDoor
open Proofs.Tryz Go.RowKit Go.Deep Go.Maps Go.Sort
attribute [local go_sem ↓] Go.wp_at_zero Go.wp_at_succ
def zdx (w:World) (B:Nat) (hs:List Value) (L:List (List zR)):Prop:=hs.length=L.length/\∀ j,j<L.length->zk w B (hs.getD j undef) (L.getD j [])
theorem zdx.below {w w' :World} {B:Nat} {hs:List Value} {L:List (List zR)} (h:zdx w B hs L) (hb:Below B w w'):zdx w' B hs L:=by
 refine ⟨h.1,fun j hj=>?_⟩
 obtain ⟨A,c,m,l,b,r,u,e⟩:=h.2 j hj
 exact ⟨A,c,m,l,b,r,u.below hb,e⟩
theorem zT.below' {w w' :World} {B:Nat} {v:Value} {l:List zQ} (h:zT w B v l) (hb:Below B w w'):zT w' B v l:=by
 obtain ⟨A,c,H,m,j,b,r,u,e,y⟩:=h
 refine ⟨A,c,H,m,j,b,r,u.below hb,fun i hi=>?_,y⟩
 obtain ⟨A,c,m,j,b,r,u,e⟩:=e i hi
 exact ⟨A,c,m,j,b,r,u.below hb,e⟩
theorem zk.below' {w w' :World} {B:Nat} {v:Value} {l:List zR} (h:zk w B v l) (hb:Below B w w'):zk w' B v l:=by
 obtain ⟨A,c,m,j,b,r,u,e⟩:=h
 exact ⟨A,c,m,j,b,r,u.below hb,e⟩
theorem zdx.push {w:World} {B:Nat} {hs:List Value} {L:List (List zR)} {v:Value} {l:List zR} (h:zdx w B hs L) (hv:zk w B v l):zdx w B (hs ++ [v]) (L ++ [l]):=by
 refine ⟨by rw [List.length_append,List.length_append,h.1];rfl,fun j hj=>?_⟩
 rw [List.length_append,List.length_singleton] at hj
 by_cases e:j<L.length
 . have:=h.2 j e
   unfold List.getD at this |-;rw [List.getElem?_append_left e,List.getElem?_append_left (by rw [h.1];exact e)];exact this
 obtain rfl:j=L.length:=by omega
 unfold List.getD;rw [List.getElem?_append_right (Nat.le_refl _),List.getElem?_append_right (by rw [h.1];exact Nat.le_refl _),h.1,Nat.sub_self];exact hv
theorem ztq:Keyed Tryz.prog 9:=string_keyed underlying9
theorem zhh:Tryz.prog.underlying zug=some (.map 9 4):=by kernel_rfl
def Xb (w:World) (g:Nat) (ns:List (List UInt8)):Prop:=
 ∃ (n:Nat) (D:DataW Unit),w.ownsMap Tryz.prog 9 (plainElem (H:=Unit) Tryz.prog 4) g n D/\n<=ns.length/\∀ x,Maps.has D (.string x)=true↔x∈ns
theorem Xb.lt {w:World} {g:Nat} {ns:List (List UInt8)} (h:Xb w g ns):g<w.heap.size:=by
 obtain ⟨n,D,h,_⟩:=h
 exact World.ownsMap.lt h
theorem Xb.keep {w w' :World} {g:Nat} {ns:List (List UInt8)} (h:Xb w g ns) (hk:w'.heap[g]?=w.heap[g]?):Xb w' g ns:=by
 obtain ⟨n,D,⟨e,b,hb,F,m,j⟩,l⟩:=h
 exact ⟨n,D,⟨e,b,hk.trans hb,F,m,j⟩,l⟩
theorem Xb.below {w w' :World} {g:Nat} {ns:List (List UInt8)} (h:Xb w g ns) (hb:Below w.heap.size w w'):Xb w' g ns:=h.keep (hb.block g h.lt)
theorem Xb.new (w:World):Xb (w.alloc (.map #[] 0)) w.heap.size []:=
 ⟨0,.map [],World.ownsMap_made w Tryz.prog 9 (plainElem (H:=Unit) Tryz.prog 4),Nat.le_refl _,fun x=>by simp [Maps.has]⟩
theorem Xb.put {w:World} {g:Nat} {ns:List (List UInt8)} {s:List UInt8} (h:Xb w g ns) (hs:s.length<=1073741824) (hn:ns.length<maxLen):
 ∃ w',(Instr.mapUpdate zug (.map (some g)) (str s) (.bool true)).run Tryz.prog w= .ok () w' /\Xb w' g (ns ++ [s])/\w.grownBy w' (some g):=by
 obtain ⟨n,D,h,j,m⟩:=h
 have b:keyOf Tryz.prog 9 (str s)=some (.string s):=WideMaps.keyOf_string_mk underlying9 (by
  show s.toArray.size<=maxLen
  rw [List.size_toArray]
  unfold maxLen;omega)
 obtain ⟨w',u,r,l⟩:=World.ownsMap.update h ztq zhh (by omega) b (plainElem_bool underlying4 true)
 refine ⟨w',u,⟨n+1,_,r,by rw [List.length_append];simpa using j,fun x=>?_⟩,l⟩
 rw [List.mem_append,List.mem_singleton]
 by_cases e:x=s
 . subst e
   rw [has_put_same h.isMap (k:=.string x) (show WideAt.IsKeyLit (.string x) from trivial)];exact ⟨fun _=>.inr rfl,fun _=>rfl⟩
 rw [has_put_other (by intro h;injection h with h;exact e h),m x]
 exact ⟨fun h=>.inl h,fun h=>h.elim id (fun h=>absurd h e)⟩
theorem znc {w:World} {g n:Nat} {D:DataW Unit} (h:w.ownsMap Tryz.prog 9 (plainElem (H:=Unit) Tryz.prog 4) g n D):(strKeys D).Nodup/\∀ x,x∈strKeys D↔Maps.has D (.string x)=true:=by
 obtain ⟨r,y,C,_⟩:=h.entries ztq
 obtain ⟨B,u,E⟩:=h.keysOf
 obtain rfl:r=B :=by rw [y] at u;simpa using u
 subst y
 have m:∀ p∈r,∃ x,p.1= .string x:=fun p hp=>by obtain ⟨v,F⟩:=E p hp;obtain ⟨x,_,G,_⟩:=Maps.keyOf_str underlying9 F;exact ⟨x,G⟩
 refine ⟨?_,fun x=>?_⟩
 . show (r.map fun p=>strOf p.1).Nodup
   refine List.pairwise_map.2 (C.imp_of_mem fun {p q} j hq' hne e=>hne ?_);obtain ⟨a,l⟩:=m p j;obtain ⟨b,hb⟩:=m q hq';rw [l,hb] at e |-;exact congrArg _ e
 rw [has_eq,List.any_eq_true]
 show (x∈r.map fun p=>strOf p.1)↔_
 rw [List.mem_map]
 constructor
 . rintro ⟨p,j,rfl⟩
   obtain ⟨a,l⟩:=m p j;exact ⟨p,j,by rw [l];simp [Lit.sameKey,strOf]⟩
 rintro ⟨p,j,z⟩
 obtain ⟨a,l⟩:=m p j;rw [l] at z;exact ⟨p,j,by rw [l];simpa [Lit.sameKey,strOf] using z⟩
theorem Z5 {w:World} {base:Nat} {v:Value} {l:List (List UInt8)} (h:w.ownsRow base 9 1 v l.length (l.map str)) (hl:l.length<=100000) (hs:∀ x∈l,zN x):zF w w.heap.size v l:=by
 have j:=h
 rcases h.2 with ⟨e,b⟩ | ⟨g,m,r,e,hb,B,y,u,z⟩
 . have:l=[]:=List.eq_nil_of_length_eq_zero b
   subst this;subst e;exact ⟨none,0,rfl,Nat.le_refl _,by unfold maxLen;omega,by simp,zV.none_,fun x b=>by cases b⟩
 . subst e
   refine ⟨_,m,rfl,?_,?_,hl,zV.of_own j,hs⟩
   . omega
   omega
theorem zai {w:World} {base size n:Nat} {e:TypeId} {v:Value} {xs:List Value} (h:w.ownsRow base e size v n xs):∃ am b,v= .slice am n b/\(0<n->∃ gm,am=some ⟨gm,0,none⟩):=by
 rcases h.2 with ⟨e,j⟩ | ⟨gm,b,l,e,_⟩
 . exact ⟨none,0,by rw [j];exact e,fun h=>by omega⟩
 . exact ⟨_,b,e,fun _=>⟨gm,rfl⟩⟩
theorem zey {L:List (List zR)} {M:Nat} (h:∀ l∈L,l.length<=M):(yg L).length<=L.length*M:=by
 induction L with
 | nil=>simp [yg]
 | cons a L ih=>
   have b:=ih (fun l hl=>h l (List.mem_cons_of_mem _ hl));have e:=h a (List.mem_cons_self ..);unfold yg at b |-;rw [List.flatMap_cons,List.length_append,List.length_map,List.length_cons,Nat.succ_mul]
   omega
theorem zca {L:List (List zR)} {j:Nat} (h:j<L.length):yg (L.take (j+1))=yg (L.take j) ++ L[j].map (·.name):=by
 unfold yg
 rw [List.take_add_one,List.getElem?_eq_getElem h,List.flatMap_append]
 simp
theorem zeq {l:List zR} {t:Nat} (h:t<l.length):(l.take (t+1)).map (·.name)=(l.take t).map (·.name) ++ [l[t].name]:=by
 rw [List.take_add_one,List.getElem?_eq_getElem h,List.map_append]
 rfl
theorem zpc:(Tryz.prog.info? 30).map (fun i=>(i.zero,i.size,i.bytes))=some (some (.slice none 0 0),1,24):=by kernel_rfl
theorem Tryz.underlying133:Tryz.prog.underlying 133=some (.slice 30):=by kernel_rfl
def UnkA (w0:World) (B g k:Nat) (rv:Value) (rows:List zQ) (more:List (List zR)) (iv mv:Value) (wr:World):Prop:=
 ∃ (i:Nat) (hs:List Value) (mv' :Value),i<=rows.length/\iv= .int .i64 i/\mv=mv' /\Hid (Zm wr B 30 1 mv' (k+i) hs)/\Hid (zdx wr B hs (more ++ (rows.take i).map (·.terms)))/\Hid (zT wr B rv rows)/\Hid (Xb wr g [])/\Hid (Below B w0 wr)
def UnkB (w0:World) (B g n:Nat) (mv:Value) (hs:List Value) (L:List (List zR)) (jv:Value) (wr:World):Prop:=
 ∃ (j:Nat),j<=n/\jv= .int .i64 j/\Hid (Zm wr B 30 1 mv n hs)/\Hid (zdx wr B hs L)/\Hid (Xb wr g (yg (L.take j)))/\Hid (Below B w0 wr)
def UnkC (w0:World) (B g n:Nat) (mv:Value) (hs:List Value) (L:List (List zR)) (l:List zR) (tv:Value) (ns:List (List UInt8)) (jv:Value) (wr:World):Prop:=
 ∃ (j:Nat),j<=l.length/\jv= .int .i64 j/\Hid (Zm wr B 30 1 mv n hs)/\Hid (zdx wr B hs L)/\Hid (zk wr B tv l)/\Hid (Xb wr g (ns ++ (l.take j).map (·.name)))/\Hid (Below B w0 wr)
def zwg (w:World) (B:Nat) (ns:List (List UInt8)) (e:Ending) (w' :World):Prop:=∃ v l,e= .returned v/\xC l ns/\zF w' w'.heap.size v l/\Below B w w'
theorem zb5 (B k:Nat) (A:Option Addr) (n c:Nat) (mv:Value) (R:List Value) (rows:List zQ) (more:List (List zR)) (w:World) (hr:zT w B (.slice A n c) rows) (hm:Zm w B 30 1 mv k R) (hh:zdx w B R more) (hk:k=more.length) (hkm:k<=100000)
 (hB:B<=w.heap.size) (hcnt:∀ l,xC l (yg (more ++ rows.map (·.terms)))->l.length<=100000):
 Calls Tryz.prog 33 #[.slice A n c,mv] w (zwg w B (yg (more ++ rows.map (·.terms)))):=by
 obtain rfl:=hr.len
 subst hk
 have bm:rows.length<=100000:=by obtain ⟨_,_,_,_,_,_,h,_⟩:=hr;exact h
 have r:Hid (Xb (w.alloc (.map #[] 0)) w.heap.size []):=Xb.new w
 have C:Below B w (w.alloc (.map #[] 0)):=(zf w (.map #[] 0)).mono hB
 have M:=ze (zT.below' hr C)
 have z:=ze (hm.below (zf w (.map #[] 0)))
 have HH:=ze (hh.below C)
 have E:=ze C
 have an:=ze hcnt
 have Z:Hid (B<=w.heap.size):=hB
 have be:=@run_makeMap Tryz.prog
 clear hr hm hh C hcnt hB
 go_enter func33,ntmps33
 go_upto_region 2 with fail
 generalize w.alloc (.map #[] 0)=W at r M z HH E |-
 generalize w.heap.size=g at r Z |-
 clear be
 go_wp2_with fail
 go_loopw [15,1] (UnkA w B g more.length (.slice A rows.length c) rows more) (fun iv _ _=>rows.length - (intOf iv).toNat)
 case atStart=>exact ⟨0,R,mv,Nat.zero_le _,rfl,rfl,z,by rw [List.take_zero,List.map_nil,List.append_nil];exact HH,M,r,E⟩
 case round=>
  clear M z HH r E
  obtain ⟨i,R,mv,hi,rfl,rfl,z,HH,M,r,E⟩:=hrel
  by_cases aV:i<rows.length
  . have bl:(i:Int)<(rows.length:Int):=by omega
    obtain ⟨ad,J,K,G,eA,aq,p0,p1,X,a1⟩:=M.o.at_ aV;subst eA;have C:=zf wr (.cells #[.slice J K G,str rows[i].bound] 33);have Q:=ze (Blk.new wr 33 #[.slice J K G,str rows[i].bound]);have F:Hid (B<=wr.heap.size):=Nat.le_trans Z.o (Nat.le_of_lt (Xb.lt r.o));have I:=C.mono F.o;have U:=ze (zk.below' X I);replace z:=ze (z.o.below C);replace HH:=ze (HH.out.below I);replace M:=ze (zT.below' M.o I);replace r:=ze (r.o.below C);replace E:=ze (E.o.trans I);clear C X a1 I
    go_upto_region 5 with fail
    clear p0 p1 aq;replace F:Hid (B<=(wr.alloc (.cells #[.slice J K G,str rows[i].bound] 33)).heap.size):=by have:=F.o;show B<=_;simp only [World.size_alloc];omega
    generalize wr.alloc (.cells #[.slice J K G,str rows[i].bound] 33)=W2 at Q U z HH M r E F |-;generalize wr.heap.size=gr at Q |-;have r0:=Q.o.cell 0;simp at r0;have C:=zf W2 (.cells #[.slice J K G] 30);have I:=C.mono F.o;have aU:∀ u∈[Value.slice J K G],u.oneCell' =true:=by intro u hu;rw [List.mem_singleton] at hu;subst hu;rfl
    have aS:∀ u∈[Value.slice J K G],Z0 u:=by intro u hu;rw [List.mem_singleton] at hu;subst hu;exact zM _ _ _
    have aA:∀ u∈(Value.slice none 0 0).cells,Z0 u:=by intro u hu;simp [Value.cells] at hu;subst hu;exact zM _ _ _
    obtain ⟨i0,bc,a8,a5,aZ⟩:=info_parts zpc;have aD:=Blk.new W2 30 #[.slice J K G]
    have aJ:∀ (j:Nat) (u:Value),[Value.slice J K G][j]?=some u->(W2.alloc (.cells #[.slice J K G] 30)).cell? ((⟨W2.heap.size,0,none⟩:Addr).add j)=some u:=by
     intro j u hu
     match j with
     | 0=>
       simp at hu;subst hu;have:=aD.cell 0
       simp [Addr.add]
     | j+1=>simp at hu
    replace z:=ze (z.o.below C);replace HH:=ze (HH.out.below I);replace M:=ze (zT.below' M.o I);replace U:=ze (zk.below' U.o I);replace r:=ze (r.o.below C);replace E:=ze (E.o.trans I);have ao:=ze (show B<=(W2.alloc (.cells #[.slice J K G] 30)).heap.size by have:=F.o;simp only [World.size_alloc];omega);clear C I aD Q;go_wp2_with (at_builtin;go_must (refine zS (P:=Tryz.prog) rfl (.tmp 19) (.tmp 22) _ rfl B 30 i0 _ 1 24 underlying133 bc a8 a5 aZ rfl (by omega) _ (more.length+i) R rfl z.o ⟨W2.heap.size,0,none⟩ 1 1 [.slice J K G] rfl rfl (by omega) aJ aU aS aA ?o4 ?o5 ?o6 ?_))
    case o4=>unfold maxLen;omega
    case o5=>omega
    case o6=>exact ao.o
    intro v3 w3 aC ap bi;clear aJ aU aS aA r0;have au:=fun b hb=>(z.o.1.lt b hb).1
    have N:Below B (W2.alloc (.cells #[.slice J K G] 30)) w3:=(Below.refl _ _).grown ap ao.o au;have ag:=ze aC
    have ah:Hid (Xb w3 g []):=r.o.keep (ap.block g r.o.lt (fun e=>by
     obtain ⟨cs,k1⟩:=z.o.heap e.symm;obtain ⟨_,_,⟨es,bf,k2,_⟩,_⟩:=r.o
     rw [k1] at k2;cases k2))
    have ak:=ze ((HH.out.below N).push (zk.below' U.o N));have a0:=ze (zT.below' M.o N);have al:=ze (E.o.trans N)
    have a4:Hid ((rows.take i).map (·.terms) ++ [rows[i].terms]=(rows.take (i+1)).map (·.terms)):=by
     show _=_
     rw [List.take_add_one,List.getElem?_eq_getElem aV,List.map_append]
     rfl
    clear z HH M r E U aC ap bi au N ao F;go_wp2_with fail;go_roundw
    case rel=>exact ⟨i+1,_,_,by omega,by go_num,rfl,ag,by rw [<- a4.o, <- List.append_assoc];exact ak,a0,ah,al⟩
    case measure=>simp [intOf];omega
  obtain rfl:rows.length=i:=by omega
  rw [List.take_length] at HH;obtain ⟨L,hL⟩:∃ L,L=more ++ rows.map (·.terms):=⟨_,rfl⟩;rw [<- hL] at HH an;have bj:=ze hL;have aI:L.length=more.length+rows.length:=by rw [hL,List.length_append,List.length_map]
  rw [<- aI] at z;have aX:L.length<=200000:=by omega
  clear hL aI M;generalize hn:L.length=n at z aX;have HN:Hid (L.length=n):=hn;clear hn;obtain ⟨am,aK,bh,ax⟩:=zai z.o.1;subst bh
  skip
  go_wp2_with fail
  go_loopw [27] (UnkB w B g n (.slice am n aK) R L) (fun iv _=>n - (intOf iv).toNat)
  case atStart=>exact ⟨0,Nat.zero_le _,rfl,z,HH,r,E⟩
  case round=>
   clear z HH r E;obtain ⟨j,hj,rfl,z,HH,r,E⟩:=hrel
   by_cases bg:j<n
   rotate_left
   . obtain rfl:n=j:=by omega
     have ar:L.take n=L:=List.take_of_length_le (by rw [HN.o];exact Nat.le_refl _)
     have ac:∀ x∈yg L,zN x:=by
      intro x C;unfold yg at C;rw [List.mem_flatMap] at C;obtain ⟨l,V,C⟩:=C;obtain ⟨t,X,rfl⟩:=List.mem_map.1 C;obtain ⟨i,hi,rfl⟩:=List.mem_iff_getElem.1 V;obtain ⟨_,_,_,_,_,_,_,h6⟩:=HH.out.2 i hi;exact (h6 t (by simpa [List.getD,List.getElem?_eq_getElem hi] using X)).1
     have ay:(yg L).length<=20000000000:=by
      have h1:(yg L).length<=L.length*100000:=zey (fun l V=>by
       obtain ⟨i,hi,rfl⟩:=List.mem_iff_getElem.1 V;have:=(HH.out.2 i hi).bound
       simpa [List.getD,List.getElem?_eq_getElem hi] using this)
      rw [HN.o] at h1
      omega
     rw [ar] at r;obtain ⟨ns,T⟩:∃ ns,Hid (yg L=ns):=⟨_,rfl⟩;rw [T.o] at r ac ay an;have ba:Hid (yg (more ++ rows.map (·.terms))=ns):=ze (by rw [<- bj.o,T.o]);obtain ⟨m,D,hS,a7,aQ⟩:=r.o;have ab:=znc hS;have a2:=hS.size_le;have av:=zqf (some g) wr;have aG:=zjq g m D (plainElem (H:=Unit) Tryz.prog 4) wr hS (by unfold maxLen;omega) (by omega);have aM:=ze av;have aR:=ze aG;have aL:Hid ((strKeys D).Nodup/\∀ x,x∈strKeys D↔x∈ns):=⟨ab.1,fun x=>(ab.2 x).trans (aQ x)⟩;have aY:=ze ac;have F:Hid (B<=wr.heap.size):=Nat.le_trans Z.o (Nat.le_of_lt (World.ownsMap.lt hS));clear hS av aG z HH r HN T ar ac ay a7 aQ ab a2 ax;go_wp2_with fail;refine aM.o.mono ?_;rintro e w1 ⟨rfl,rfl⟩;clear aM;go_wp2_with fail;refine aR.o.mono ?_;rintro e w2 ⟨v,ss,rfl,aO,aw,bd,aF⟩;have aP:=ze aO;have a9:=ze aw;have a6:=ze aF;clear aO aw bd aF aR;go_wp2_with fail;go_ret
     have ai:xC (ss.mergeSort (fun x y=>decide (x<=y))) ns:=
      ⟨VG (aP.o.nodup_iff.2 aL.o.1),fun x=>by rw [(List.mergeSort_perm ss _).mem_iff,aP.o.mem_iff];exact aL.o.2 x⟩
     rw [ba.o];refine ⟨v,_,rfl,ai,?_,E.o.trans (((zf wr _).mono F.o).trans (a6.o.mono (by have:=F.o;simp only [World.size_alloc];omega)))⟩;refine Z5 (base:=(wr.alloc (.cells #[.map (some g)] zug)).heap.size) ?_ (an.o _ ai) (fun x C=>aY.o x ((ai.2 x).1 C));rw [List.length_mergeSort];exact a9.o
   obtain ⟨gm,rfl⟩:=ax (by omega)
   have bn:(j:Int)<(n:Int):=by omega
   have aj:j<L.length:=by rw [HN.o];exact bg
   have Y:=HH.out.2 j aj;obtain ⟨At,G,eH,_⟩:=id Y
   have c1:wr.cell? ⟨gm,j,none⟩=some (.slice At (L.getD j []).length G):=by
    rw [z.o.1.cellAt j (by omega)];have h1:=HH.out.1;rw [<- eH]
    simp [List.getD,List.getElem?_eq_getElem (show j<R.length by omega)]
   rw [eH] at Y
   have aa:Hid (yg (L.take (j+1))=yg (L.take j) ++ (L.getD j []).map (·.name)):=by
    show _=_
    rw [zca aj]
    simp [List.getD,List.getElem?_eq_getElem aj]
   have aN:Hid ((yg (L.take j)).length<=20000000000):=by
    have h1:(yg (L.take j)).length<=(L.take j).length*100000:=zey (fun l V=>by
     obtain ⟨i,hi,rfl⟩:=List.mem_iff_getElem.1 (List.mem_of_mem_take V);have:=(HH.out.2 i hi).bound
     simpa [List.getD,List.getElem?_eq_getElem hi] using this)
    have h2:(L.take j).length<=200000:=by rw [List.length_take];omega
    show _<=_
    omega
   have O:=ze Y;have a3:=Y.bound;obtain ⟨l,aE⟩:∃ l,Hid (L.getD j []=l):=⟨_,rfl⟩;rw [aE.o] at c1 aa O a3;obtain ⟨ns,T⟩:∃ ns,Hid (yg (L.take j)=ns):=⟨_,rfl⟩;rw [T.o] at aa aN r;clear Y eH;go_wp2_with fail
   go_loopw [33] (UnkC w B g n (.slice (some ⟨gm,0,none⟩) n aK) R L l (.slice At l.length G) ns) (fun iv _=>l.length - (intOf iv).toNat)
   case atStart=>exact ⟨0,Nat.zero_le _,rfl,z,HH,O,by rw [List.take_zero,List.map_nil,List.append_nil];exact r,E⟩
   case round=>
    clear z HH r E O c1;obtain ⟨t,X,rfl,z,HH,O,r,E⟩:=hrel
    by_cases aT:t<l.length
    rotate_left
    . obtain rfl:l.length=t:=by omega
      rw [List.take_length, <- aa.o] at r;clear aE aa T;go_wp2_with fail;go_roundw
      case rel=>exact ⟨j+1,by omega,by go_num,z,HH,r,E⟩
      case measure=>simp [intOf];omega
    have bk:(t:Int)<(l.length:Int):=by omega
    obtain ⟨ad,eA,aq,p0,p1,az,bb⟩:=O.o.at_ aT;subst eA;have aH:=ze (zeq aT);have C:=zf wr (.cells #[str l[t].name,str l[t].coef] 35);have Q:=ze (Blk.new wr 35 #[str l[t].name,str l[t].coef]);have F:Hid (B<=wr.heap.size):=Nat.le_trans Z.o (Nat.le_of_lt (Xb.lt r.o));have I:=C.mono F.o;replace z:=ze (z.o.below C);replace HH:=ze (HH.out.below I);replace O:=ze (zk.below' O.o I);replace r:=ze (r.o.below C);replace E:=ze (E.o.trans I);have aB:=ze az;clear C I az bb
    go_upto_region 13 with fail
    clear p0 p1 aq;replace F:Hid (B<=(wr.alloc (.cells #[str l[t].name,str l[t].coef] 35)).heap.size):=by have:=F.o;show B<=_;simp only [World.size_alloc];omega
    generalize wr.alloc (.cells #[str l[t].name,str l[t].coef] 35)=W2 at Q O z HH r E F |-;generalize wr.heap.size=gr at Q |-;have r0:=Q.o.cell 0;simp at r0;obtain ⟨w3,hu,af,ae⟩:=r.o.put aB.o (by rw [List.length_append,List.length_map,List.length_take];have:=aN.o;unfold maxLen;omega);rw [List.append_assoc, <- aH.o] at af;have N:Below B W2 w3:=(Below.refl _ _).grown ae F.o (fun c e=>by injection e with e;have:=Z.o;omega)
    have ag:=ze (z.o.chg (Chg.of_grown (S:=(· =g)) ae rfl) (fun c e e2=>by
     subst e2;obtain ⟨cs,k1⟩:=z.o.heap e;obtain ⟨_,_,⟨es,bf,k2,_⟩,_⟩:=r.o
     rw [k1] at k2;cases k2))
    have ak:=ze (HH.out.below N);have aW:=ze (zk.below' O.o N);have ah:=ze af;have al:=ze (E.o.trans N);clear z HH O r E af ae N Q F aH aB;go_wp2_with fail;go_roundw
    case rel=>exact ⟨t+1,by omega,by go_num,ag,ak,aW,ah,al⟩
    case measure=>simp [intOf];omega
theorem zf9 {ns l:List (List UInt8)} {s:List UInt8} (hall:∀ x∈ns,x=s) (hex:ns≠[]) (h:xC l ns):l=[s]:=by
 refine XD l [s] h.1 (List.pairwise_singleton _ _) (fun x=>?_)
 rw [h.2 x,List.mem_singleton]
 refine ⟨hall x,fun e=>?_⟩
 subst e
 obtain ⟨y,r,rfl⟩:=List.exists_cons_of_ne_nil hex
 rw [<- hall y (List.mem_cons_self ..)]
 exact List.mem_cons_self ..
def zv1 (w:World) (B:Nat) (s:List UInt8) (e:Ending) (w' :World):Prop:=∃ v,e= .returned v/\zF w' w'.heap.size v [s]/\Below B w w'
theorem zhj (B k:Nat) (A:Option Addr) (n c:Nat) (mv:Value) (hs:List Value) (rows:List zQ) (more:List (List zR)) (s:List UInt8) (w:World) (hr:zT w B (.slice A n c) rows) (hm:Zm w B 30 1 mv k hs) (hh:zdx w B hs more) (hk:k=more.length) (hkm:k<=100000)
 (hB:B<=w.heap.size) (hs1:s.length<=1073741824) (hall:∀ l∈more ++ rows.map (·.terms),∀ t∈l,t.name=s) (hex:∃ l∈more ++ rows.map (·.terms),l≠[]):
 Calls Tryz.prog 33 #[.slice A n c,mv] w (zv1 w B s):=by
 have m:∀ x∈yg (more ++ rows.map (·.terms)),x=s:=by
  intro x j
  unfold yg at j
  rw [List.mem_flatMap] at j
  obtain ⟨l,b,j⟩:=j
  obtain ⟨t,E,rfl⟩:=List.mem_map.1 j
  exact hall l b t E
 have u:yg (more ++ rows.map (·.terms))≠[]:=by
  obtain ⟨l,b,z⟩:=hex
  obtain ⟨t,r,rfl⟩:=List.exists_cons_of_ne_nil z
  intro C
  have:t.name∈yg (more ++ rows.map (·.terms)):=by
   unfold yg;exact List.mem_flatMap.2 ⟨_,b,List.mem_map.2 ⟨t,List.mem_cons_self ..,rfl⟩⟩
  rw [C] at this
  cases this
 refine (zb5 B k A n c mv hs rows more w hr hm hh hk hkm hB (fun l b=>by rw [zf9 m u b];simp)).mono ?_
 rintro e w' ⟨v,l,rfl,D,y,hb⟩
 rw [zf9 m u D] at y
 exact ⟨v,rfl,y,hb⟩
end Go.Proofs.YthbmhkiphmcogaaGreatDoor
namespace Go.Proofs.YthbmhkiphmcogaaGreatDoor
open Proofs.Tryz Go.RowKit Go.Deep
attribute [local go_sem ↓] Go.wp_at_zero Go.wp_at_succ
theorem zp9 (s:ByteArray) (w:World) (hs:s.size<=1073741824):
 Calls Tryz.prog 80 #[.string s] w (zfq w (.int .i64 (yG (bts s)))):=by
 have u:=ze8 s w hs
 cases hr:zp (bts s) with
 | none=>
   have j:=ze (show yG (bts s)=4 by unfold yG;rw [hr]);have r:=ze hr;clear hr
   go_enter func80,ntmps80
   go_wp2_with fail;refine u.mono ?_;rintro e w1 ⟨v,b,rfl,⟨ng,A,n,c,B,m,d,rfl⟩,hb,_,l⟩;rw [r.o] at hb;subst hb;have z:=ze (ext l (zf w1 (.cells #[.bool ng,.slice A n c,.slice B m d] 64)));clear l u;go_wp2_with fail;go_ret;exact ⟨ZF j.o,z.o⟩
 | some q=>
   have r:=ze hr;have I:=ze (XE.mono (zqz hr) (show 50000<=33554432 by omega))
   have j:=ze (show yG (bts s)=if (!decide (yo 12 q))=true then 3 else 0 by
    unfold yG;rw [hr];by_cases h:yo 12 q<;>simp [h])
   clear hr
   go_enter func80,ntmps80
   go_wp2_with fail;refine u.mono ?_;rintro e w1 ⟨v,b,rfl,⟨ng,A,n,c,B,m,d,rfl⟩,hb,F,l⟩;rw [r.o] at hb;subst hb;have C:=zf w1 (.cells #[.bool ng,.slice A n c,.slice B m d] 64);have z:=ze (ext l C);have G:=ze (xf.below (F q r.o) C);clear l u F C;go_wp2_with fail;refine (zf3 _ q 12 _ G.o I.o (by omega)).mono ?_;rintro e J ⟨rfl,E⟩;have D:=ze (ext z.o E);clear E
   cases hsh:(!decide (yo 12 q)) with
   | true=>
     have y:=ze (j.o.trans (by rw [hsh];rfl:_=(3:Int)));clear hsh j;go_wp2_with fail;go_ret;exact ⟨ZF y.o,D.o⟩
   | false=>
     have y:=ze (j.o.trans (by rw [hsh];rfl:_=(0:Int)));clear hsh j;go_wp2_with fail;go_ret;exact ⟨ZF y.o,D.o⟩
theorem VE (s:List UInt8) (w:World) (hs:zN s):Calls Tryz.prog 80 #[str s] w (zfq w (.int .i64 (yG s))):=by
 have h:=zp9 ⟨s.toArray⟩ w (by rw [<- zm,xR];exact hs)
 rw [xR] at h
 exact h
theorem zfv (s:List UInt8) (w:World) (hs:zN s):Calls Tryz.prog 130 #[str s] w (zbj w (.bool (vQ s))):=by
 have h:=zsm ⟨s.toArray⟩ w (by rw [<- zm,xR];exact hs)
 rw [xR] at h
 exact h
theorem zoq:zp [48]=some 0:=by
 have b:([48]:List UInt8)=zw 0:=by
  have h:=congrArg bts zk4
  rw [zi2] at h
  exact h
 have d1:dec 1=[49]:=by simp [dec,digs];rfl
 rw [b]
 exact XK ⟨by show (dec 0).length<=_;rw [vO];decide,by show (dec 1).length<=_;rw [d1];decide⟩
theorem zhv {l:List UInt8} {q:Rat} (h:zp l=some q):(l=[48])↔q=0:=by
 constructor
 . intro e
   subst e;rw [zoq] at h;injection h with h;exact h.symm
 intro e
 subst e;have:=zuf (a:=⟨l.toArray⟩) (q:=0) (by rw [xR];exact h);have j:=congrArg bts this;rw [xR,zi2] at j;have b:=congrArg bts zk4;rw [zi2] at b;rw [j, <- b]
 rfl
theorem zmk {l:List UInt8} {q:Rat} (h:zp l=some q) (h0:q≠0):xy l=yG l:=by
 unfold xy yG
 rw [h]
 simp [h0]
def RtmR (w0:World) (tv:Value) (l:List zR) (kv:Value) (wr:World):Prop:=
 ∃ k:Nat,k<=l.length/\kv= .int .i64 k/\Hid (∀ j,j<k->yC l j=0)/\Hid (zk wr w0.heap.size tv l)/\Hid (Below w0.heap.size w0 wr)
theorem zqg (A:Option Addr) (n c:Nat) (l:List zR) (w:World) (ht:vr w (.slice A n c) l):Calls Tryz.prog 79 #[.slice A n c] w (zfq w (.int .i64 (yp l))):=by
 obtain rfl:=ht.len
 have aB:=ht.bound
 have u:=ze ht
 have m:=ze (Below.refl w.heap.size w)
 clear ht
 go_enter func79,ntmps79
 go_wp2_with fail
 go_loopw [3] (RtmR w (.slice A l.length c) l) (fun kv _=>l.length - (intOf kv).toNat)
 case atStart=>exact ⟨0,Nat.zero_le _,rfl,(fun j h=>by omega),u,m⟩
 case round=>
  clear u m
  obtain ⟨k,hk,rfl,K,u,m⟩:=hrel
  by_cases D:k<l.length
  rotate_left
  . obtain rfl:l.length=k:=by omega
    have E:Hid (yp l=0):=Zf.2 K.o;clear u K;go_wp2_with fail;go_ret;exact ⟨by rw [E.o];rfl,m.o⟩
  have az:(k:Int)<(l.length:Int):=by omega
  obtain ⟨ad,eA,au,X,T,am,aj⟩:=u.o.at_ D;subst eA;have ak:l.getD k default=l[k]:=by simp [List.getD,List.getElem?_eq_getElem D]
  have af:=ze ak;have F:=fun w=>VE l[k].coef w aj
  have an:=fun w=>zfv l[k].name w am
  have O:vQ l[k].name=true->xy l[k].coef≠0->yC l k=xy l[k].coef:=fun h1 G=>by
   unfold yC;rw [af.o,h1,if_neg (by decide),if_pos G]
  have J:=ze an;clear ak am aj au an;obtain ⟨N,L⟩:∃ z,yG l[k].coef=z:=⟨_,rfl⟩;rw [L] at F
  cases hin:vQ l[k].name with
  | false=>
    have r:Hid (yC l k=5):=by show yC l k=5;unfold yC;rw [af.o,hin];rfl
    have E:Hid (yp l=5):=(xm D K.o (by rw [r.o];decide)).trans r.o;rw [hin] at J;clear hin O L r;go_wp2_with fail;refine (F _).mono ?_;rintro e w2 ⟨rfl,C⟩;have B :=C.mono m.o.size;replace u:=ze (zk.below' u.o B);replace m:=ze (m.o.trans B);obtain ⟨U,y,_,I,M,_,_⟩:=u.o.at_ D;injection y with y
    subst y;clear C B X T F;go_wp2_with fail;refine (J.o _).mono ?_;rintro e w3 ⟨rfl,rfl⟩;clear I M;go_wp2_with fail;go_ret;exact ⟨by rw [E.o];rfl,m.o⟩
  | true=>
    rw [hin] at J;have ab:=ze hin;clear hin
    cases hr:zp l[k].coef with
    | none=>
      have e4:xy l[k].coef=4:=by unfold xy;rw [hr]
      have r:Hid (yC l k=4):=(O ab.o (by rw [e4];decide)).trans e4;have E:Hid (yp l=4):=(xm D K.o (by rw [r.o];decide)).trans r.o;have ez:N=4:=by rw [<- L];unfold yG;rw [hr]
      subst ez;clear hr O e4 L r;go_wp2_with fail;refine (F _).mono ?_;rintro e w2 ⟨rfl,C⟩;have B :=C.mono m.o.size;replace u:=ze (zk.below' u.o B);replace m:=ze (m.o.trans B);obtain ⟨U,y,_,I,M,_,_⟩:=u.o.at_ D;injection y with y
      subst y;clear C B X T F;go_wp2_with fail;refine (J.o _).mono ?_;rintro e w3 ⟨rfl,rfl⟩;clear I M;go_wp2_with fail;go_ret;exact ⟨by rw [E.o];rfl,m.o⟩
    | some q=>
      have ac:¬ N=4:=by
       rw [<- L];unfold yG;rw [hr];intro h;simp at h
       split at h<;>omega
      have d4:(N == 4)=false:=beq_eq_false_iff_ne.2 ac
      by_cases R:q=0
      . have V:l[k].coef=[48]:=(zhv hr).2 R
        have e1:xy l[k].coef=1:=by unfold xy;rw [hr];exact if_pos R
        have r:Hid (yC l k=1):=(O ab.o (by rw [e1];decide)).trans e1;have E:Hid (yp l=1):=(xm D K.o (by rw [r.o];decide)).trans r.o;have ar:=ze V;clear hr O e1 L r ac V R;go_wp2_with fail;refine (F _).mono ?_;rintro e w2 ⟨rfl,C⟩;have B :=C.mono m.o.size;replace u:=ze (zk.below' u.o B);replace m:=ze (m.o.trans B);obtain ⟨U,y,_,I,M,_,_⟩:=u.o.at_ D;injection y with y
        subst y;rw [ar.o] at M;clear C B X T F;go_wp2_with fail;refine (J.o _).mono ?_;rintro e w3 ⟨rfl,rfl⟩;clear I;go_wp2_with fail;go_ret;exact ⟨by rw [E.o];rfl,m.o⟩
      have V:¬ l[k].coef=[48]:=fun e=>R ((zhv hr).1 e)
      have aC:(l[k].coef == [48])=false:=beq_eq_false_iff_ne.2 V;have Z:xy l[k].coef=N:=(zmk hr R).trans L
      by_cases Y:N=0
      rotate_left
      . have r:Hid (yC l k=N):=(O ab.o (by rw [Z];exact Y)).trans Z
        have E:Hid (yp l=N):=(xm D K.o (by rw [r.o];exact Y)).trans r.o;have d0:(N == 0)=false:=beq_eq_false_iff_ne.2 Y;clear hr O L ac V R Z r Y;go_wp2_with fail;refine (F _).mono ?_;rintro e w2 ⟨rfl,C⟩;have B :=C.mono m.o.size;replace u:=ze (zk.below' u.o B);replace m:=ze (m.o.trans B);obtain ⟨U,y,_,I,M,_,_⟩:=u.o.at_ D;injection y with y
        subst y;clear C B X T F;go_wp2_with fail;refine (J.o _).mono ?_;rintro e w3 ⟨rfl,rfl⟩;clear I;go_wp2_with fail;go_ret;exact ⟨by rw [E.o];rfl,m.o⟩
      subst Y
      have ai:vQ l[k].name=true->yC l k=yS (l.getD (k - 1) default).name l[k].name (decide (k=0)):=fun h1=>by
       unfold yC;rw [af.o,h1,if_neg (by decide),if_neg (by rw [Z];exact fun h=>h rfl)]
      have aa:=ze (ai ab.o);clear hr O L ac V R Z ai
      by_cases ag:k=0
      . have aq:decide ((0:Int)<(k:Int))=false:=decide_eq_false (by omega)
        have ay:decide (0<k)=false:=decide_eq_false (by omega);have r:Hid (yC l k=0):=by show _=_;rw [aa.o,decide_eq_true ag];unfold yS;exact if_pos (.inl rfl)
        have ah:Hid (∀ j,j<k+1->yC l j=0):=fun j hj=>by
         obtain rfl:j=k:=by omega
         exact r.o
        clear aa ag;go_wp2_with fail;refine (F _).mono ?_;rintro e w2 ⟨rfl,C⟩;have B :=C.mono m.o.size;replace u:=ze (zk.below' u.o B);replace m:=ze (m.o.trans B);obtain ⟨U,y,_,I,M,_,_⟩:=u.o.at_ D;injection y with y
        subst y;clear C B X T F;go_wp2_with fail;refine (J.o _).mono ?_;rintro e w3 ⟨rfl,rfl⟩;clear I;go_wp2_with fail
        go_quiet (fail)
        go_wp2_with fail
        go_quiet (fail)
        go_wp2_with fail;go_roundw
        case rel=>exact ⟨k+1,by omega,by go_num,ah,u,ze (by first | exact zo m.o _ | exact zo (zo m.o _) _)⟩
        case measure=>simp [intOf];omega
      have ax:0<k:=by omega
      have aq:(0:Int)<(k:Int):=by omega
      obtain ⟨Q,ao⟩:∃ Q,Q=k - 1:=⟨_,rfl⟩;have ap:Q<l.length:=by omega
      have av:IntKind.i64.wrap ((k:Int) - 1)=(Q:Int):=by rw [IntKind.wrap_i64];omega
      have aA:(Q:Int)<(l.length:Int):=by omega
      have al:l.getD (k - 1) default=l[Q]:=by rw [<- ao];simp [List.getD,List.getElem?_eq_getElem ap]
      have S:Hid (yC l k=yS l[Q].name l[k].name false):=by
       show _=_
       rw [aa.o,al,decide_eq_false ag]
      clear aa al ao;go_wp2_with fail;refine (F _).mono ?_;rintro e w2 ⟨rfl,C⟩;have B :=C.mono m.o.size;replace u:=ze (zk.below' u.o B);replace m:=ze (m.o.trans B);obtain ⟨U,y,_,I,M,_,_⟩:=u.o.at_ D;injection y with y
      subst y;obtain ⟨U,y,_,q0,q1,_,_⟩:=u.o.at_ ap;injection y with y
      subst y;clear C B X T F q1;have aw:=u;obtain ⟨a,ha⟩:∃ a,l[Q].name=a:=⟨_,rfl⟩;obtain ⟨b,hb⟩:∃ b,l[k].name=b:=⟨_,rfl⟩;rw [ha,hb] at S;rw [ha] at q0;rw [hb] at I J;clear ha hb;have hl:=Xo a b;have he:(a == b)=decide (a=b):=by by_cases h:a=b<;>simp [h]
      by_cases G:a=b
      . have r:Hid (yC l k=6):=by show _=_;rw [S.o];unfold yS;rw [if_neg (by rintro (h | h);cases h;rw [G] at h;exact Xu _ h),if_pos G]
        have E:Hid (yp l=6):=(xm D K.o (by rw [r.o];decide)).trans r.o;rw [decide_eq_true G] at he;clear hl G S r;go_wp2_with fail;refine (J.o _).mono ?_;rintro e w3 ⟨rfl,rfl⟩;go_wp2_with fail
        go_quiet (fail)
        go_wp2_with fail;go_ret;exact ⟨by rw [E.o];rfl,by first | exact zo m.o _ | exact zo (zo m.o _) _⟩
      rw [decide_eq_false G] at he
      by_cases h3:b<a
      . have r:Hid (yC l k=1):=by show _=_;rw [S.o];unfold yS;rw [if_neg (by rintro (h | h);cases h;exact zc9 h3 h),if_neg G]
        have E:Hid (yp l=1):=(xm D K.o (by rw [r.o];decide)).trans r.o;rw [decide_eq_false (zc9 h3)] at hl;clear G h3 S r;go_wp2_with fail;refine (J.o _).mono ?_;rintro e w3 ⟨rfl,rfl⟩;go_wp2_with fail
        go_quiet (fail)
        go_wp2_with fail
        go_quiet (fail)
        go_wp2_with fail;go_ret;exact ⟨by rw [E.o];rfl,by first | exact zo m.o _ | exact zo (zo m.o _) _⟩
      skip
      have ae:a<b:=by
       rcases Decidable.em (a<b) with h | h
       . exact h
       . exact absurd (zjl _ _ h h3) G
      have r:Hid (yC l k=0):=by show _=_;rw [S.o];unfold yS;exact if_pos (.inr ae)
      have ah:Hid (∀ j,j<k+1->yC l j=0):=fun j hj=>by
       by_cases e:j=k
       . subst e;exact r.o
       exact K.o j (by omega)
      rw [decide_eq_true ae] at hl;clear G h3 ae S r;go_wp2_with fail;refine (J.o _).mono ?_;rintro e w3 ⟨rfl,rfl⟩;go_wp2_with fail
      go_quiet (fail)
      go_wp2_with fail
      go_quiet (fail)
      go_wp2_with fail;go_roundw
      case rel=>exact ⟨k+1,by omega,by go_num,ah,u,ze (by first | exact zo m.o _ | exact zo (zo m.o _) _)⟩
      case measure=>simp [intOf];omega
theorem zq9 (A:Option Addr) (n c:Nat) (r:zQ) (w:World) (ht:vr w (.slice A n c) r.terms) (hs:zN r.bound):Calls Tryz.prog 44 #[.agg #[.slice A n c,str r.bound]] w (zfq w (.int .i64 (xa r))):=by
 have C:=zf w (.cells #[.slice A n c,str r.bound] 33)
 have y:=ze (Blk.new w 33 #[.slice A n c,str r.bound])
 have b:=ze C
 have m:=zqg A n c r.terms _ ((zk.below ht C).more C.size)
 have E:=fun w=>VE r.bound w hs
 have I:=ze E
 clear ht hs C E
 by_cases j:yp r.terms=0
 . have B:Hid (xa r=yG r.bound):=by show _=_;unfold xa;rw [j];rfl
   rw [j] at m;have u:=ze m;clear j m;have F:=y.o.cell 1;simp at F
   go_enter func44,ntmps44
   go_wp2_with fail;refine u.o.mono ?_;rintro e w1 ⟨rfl,l⟩;have k1:=y.o.below l y.o.lt;replace b:=eb_ b l;have c1:=k1.cell 1;simp at c1;clear l u y k1 F;go_wp2_with fail;refine (I.o _).mono ?_;rintro e J ⟨rfl,G⟩;replace b:=eb_ b G;clear G;go_wp2_with fail;go_ret;exact ⟨by rw [B.o];rfl,b.o⟩
 have B:Hid (xa r=yp r.terms):=by show _=_;unfold xa;rw [if_pos j]
 obtain ⟨z,D⟩:∃ z,yp r.terms=z:=⟨_,rfl⟩;rw [D] at m B j;have K:(z == 0)=false:=beq_eq_false_iff_ne.2 j;have u:=ze m;clear j m D
 go_enter func44,ntmps44
 go_wp2_with fail;refine u.o.mono ?_;rintro e w1 ⟨rfl,l⟩;replace b:=eb_ b l;clear l u y;go_wp2_with fail;go_ret;exact ⟨by rw [B.o];rfl,b.o⟩
def xU:List zR->List UInt8->Rat
 | [],_=>0
 | t :: l,s=>if t.name=s then (zp t.coef).getD 0 else xU l s
theorem zjd:∀ (l:List zR) (k:Nat) (s:List UInt8) (h:k<l.length),(∀ j (hj:j<l.length),j<k->l[j].name≠s)->l[k].name=s->xU l s=(zp l[k].coef).getD 0
 | [],k,s,h,_,_=>absurd h (Nat.not_lt_zero _)
 | t :: l,0,s,h,_,h2=>by
   unfold xU;rw [if_pos (by simpa using h2)]
   rfl
 | t :: l,k+1,s,h,h1,h2=>by
   unfold xU;rw [if_neg (show ¬ t.name=s from h1 0 (Nat.succ_pos _) (Nat.succ_pos _))];exact zjd l k s (by simpa using h) (fun j hj hjk=>h1 (j+1) (Nat.succ_lt_succ hj) (Nat.succ_lt_succ hjk)) h2
theorem zct:∀ (l:List zR) (s:List UInt8),(∀ j (hj:j<l.length),l[j].name≠s)->xU l s=0
 | [],s,_=>rfl
 | t :: l,s,h=>by
   unfold xU;rw [if_neg (show ¬ t.name=s from h 0 (Nat.succ_pos _))];exact zct l s (fun j hj=>h (j+1) (Nat.succ_lt_succ hj))
def zxd (w:World) (b:Nat) (q:Rat) (e:Ending) (w' :World):Prop:=∃ v,e= .returned v/\yc w' v q/\zB w' b/\Chg (· =b) w w'
theorem zq4 {w W:World} {b g:Nat} {q:Rat} {x y x0 y0:Int} {A B A0 B0:Option Addr} {k c k' c' k0 c0 k1 c1:Nat} {s t s0 t0:Bool} {t' :TypeId} (hg:w.heap.size<=g) (hbl:b<w.heap.size) (hb:zB W b) (hc:Chg (· =b) w W)
 (hk:Blk W g t' #[.int .i64 x0,.slice A0 k0 c0,.bool s0,.int .i64 y0,.slice B0 k1 c1,.bool t0]) (hv:yc W (.agg #[.int .i64 x,.slice A k c,.bool s,.int .i64 y,.slice B k' c',.bool t]) q):
 yc (World.rat W g x A k c s y B k' c' t) (.agg #[.int .i64 x,.slice A k c,.bool s,.int .i64 y,.slice B k' c',.bool t]) q/\zB (World.rat W g x A k c s y B k' c' t) b/\Chg (· =b) w (World.rat W g x A k c s y B k' c' t):=by
 have hS:∀ z,z=g->zZ W z:=fun z hz=>by subst hz;exact hk.noDig (XJ _ _ _ _ _ _ _ _ _ _)
 have e:=Chg.ratSet (w:=W) (g:=g) (x:=x) (A:=A) (k:=k) (c:=c) (s:=s) (y:=y) (B:=B) (k' :=k') (c' :=c') (t:=t)
 exact ⟨e.rat hv hS,hb.chg e (by omega) hS,Chg.trans (S:=fun z=>z=b) (T:=fun z=>z=g) hc e (fun z hz h=>absurd hz (by omega))⟩
def XV (t:zR):Rat:=(zp t.coef).getD 0
def zcg (w:World) (g:Nat) (q:Rat):Prop:=∃ (x:Int) (A:Option Addr) (k c:Nat) (s:Bool) (y:Int) (B:Option Addr) (k' c' :Nat) (t:Bool),Blk w g 55 #[.int .i64 x,.slice A k c,.bool s,.int .i64 y,.slice B k' c',.bool t]/\yc w (.agg #[.int .i64 x,.slice A k c,.bool s,.int .i64 y,.slice B k' c',.bool t]) q
theorem zcg.lt {w:World} {g:Nat} {q:Rat} (h:zcg w g q):g<w.heap.size:=by obtain ⟨_,_,_,_,_,_,_,_,_,_,b,_⟩:=h;exact b.lt
theorem zcg.below {w w' :World} {g:Nat} {q:Rat} (h:zcg w g q) (hb:Below w.heap.size w w'):zcg w' g q:=by
 obtain ⟨_,_,_,_,_,_,_,_,_,_,b,e⟩:=h
 exact ⟨_,_,_,_,_,_,_,_,_,_,b.below hb b.lt,e.below hb⟩
theorem zB.keepRB {w w' :World} {b g:Nat} {q:Rat} (h:zB w b) (hc:Chg (· =b) w w') (e:zcg w g q):zcg w' g q:=by
 obtain ⟨_,_,_,_,_,_,_,_,_,_,e,j⟩:=e
 exact ⟨_,_,_,_,_,_,_,_,_,_,h.keepBlk hc e,h.keepR hc j⟩
theorem zpa (s:ByteArray) (q:Rat) (w:World) (hs:s.size<=1073741824) (r:zp (bts s)=some q):
 Calls Tryz.prog 22 #[.string s] w (Vc w q):=by
 have K:=zf w (.cells #[.bool false,.slice none 0 0,.slice none 0 0] 64)
 have I:=Blk.new w 64 #[.bool false,.slice none 0 0,.slice none 0 0]
 have X:=ze K
 have M:=ze I
 have U:=ze r
 have F:=fun w=>ze8 s w hs
 clear r K I hs
 go_enter func22,ntmps22
 go_wp2_with fail
 refine (F _).mono ?_
 rintro e w1 ⟨v,b,rfl,⟨ng,A,n,c,B,m,d,rfl⟩,hb,r,E⟩
 have D:=zf w1 (.cells #[.bool ng,.slice A n c,.slice B m d] 64)
 have N:=xf.below (r q U.o) D
 have y:=ext E D
 have j:=ze (M.o.below y M.o.lt)
 have O:=ze (ext X.o y)
 obtain ⟨aa,A',n',c',Z,m',d',e,L,J,G⟩:=N
 injection e with e
 have l:=congrArg (fun a=>a.toList) e
 simp at l
 obtain ⟨rfl,⟨rfl,rfl,rfl⟩,rfl,rfl,rfl⟩:=l
 have S:=ze L
 have T:=ze J
 have Y:=ze G
 have R:=j.o.cell 0
 have V:=j.o.cell 1
 have Q:=j.o.cell 2
 have f0:=j.o.frozen 0
 have f1:=j.o.frozen 1
 have f2:=j.o.frozen 2
 have lR:=j.o.lt
 simp at R V Q
 clear E F r D y L J G e hb
 go_wp2_with fail
 have C:=yT (ng:=ng) (A:=A) (n:=n) (c:=c) (B:=B) (m:=m) (d:=d) j.o
 have l:=C.cell 0
 have z:=C.cell 1
 have u:=C.cell 2
 simp only [World.ref] at l z u
 simp at l z u
 refine bodyPost_ret (v:=.agg #[.bool ng,.slice A n c,.slice B m d]) (by simp [results,results22,go_sem,l,z,u]) rfl ?_
 exact ⟨_,rfl,⟨_,_,_,_,_,_,_,rfl,S.o,yf T.o j.o,yf Y.o j.o⟩,yK (w:=w) (g:=w.heap.size) O.o (Nat.le_refl _)⟩
theorem Yx (s:List UInt8) (q:Rat) (w:World) (hs:zN s) (hq:zp s=some q):Calls Tryz.prog 22 #[str s] w (Vc w q):=
 zpa ⟨s.toArray⟩ q w (by rw [<- zm,xR];exact hs) (by rw [xR];exact hq)
theorem zgl (w:World):Calls Tryz.prog 46 #[.int .i64 0] w (Vc w 0):=by
 have h:=ze9 0 w (by omega)
 have e:((0:Nat):Rat)=0:=rfl
 rw [e] at h
 exact h
def RatR (w0:World) (B g:Nat) (tv:Value) (l:List zR) (s:List UInt8) (kv:Value) (wr:World):Prop:=
 ∃ k:Nat,k<=l.length/\kv= .int .i64 k/\Hid (∀ j (hj:j<l.length),j<k->l[j].name≠s)/\w0=wr
def NBx (w:World) (g:Nat) (q:Rat):Prop:=∃ (ng:Bool) (X:Option Addr) (n1 c8:Nat) (Y:Option Addr) (n2 c9:Nat),Blk w g 64 #[.bool ng,.slice X n1 c8,.slice Y n2 c9]/\xf w (.agg #[.bool ng,.slice X n1 c8,.slice Y n2 c9]) q
theorem NBx.below {w w' :World} {g:Nat} {q:Rat} (h:NBx w g q) (hb:Below w.heap.size w w'):NBx w' g q:=by
 obtain ⟨_,_,_,_,_,_,_,b,e⟩:=h
 exact ⟨_,_,_,_,_,_,_,b.below hb b.lt,e.below hb⟩
def ChkR (w0:World) (b B:Nat) (rv:Value) (rows:List zQ) (iv:Value) (wr:World):Prop:=
 ∃ i:Nat,i<=rows.length/\iv= .int .i64 i/\Hid (∀ j,j<i->xa (rows.getD j default)=0)/\Hid (zB wr b)/\Hid (zT wr B rv rows)/\Hid (Chg (· =b) w0 wr)
theorem Ve {rows:List zQ} (h:800<rows.length):yA rows=3:=by unfold yA;rw [if_pos h]
theorem zeb {rows:List zQ} {i:Nat} (h:¬ 800<rows.length) (hi:i<rows.length) (h0:∀ j,j<i->xa (rows.getD j default)=0) (hne:xa (rows.getD i default)≠0):yA rows=xa (rows.getD i default):=by
 have e:=xm (f:=fun i=>xa (rows.getD i default)) hi h0 hne
 unfold yA
 rw [if_neg h,if_pos (by rw [e];exact hne),e]
theorem VN {rows:List zQ} (h:¬ 800<rows.length) (h0:∀ j,j<rows.length->xa (rows.getD j default)=0):yA rows=if 80<(vS rows []).length then 3 else 0:=by
 have e:=Zf (f:=fun i=>xa (rows.getD i default)).2 h0
 unfold yA
 rw [if_neg h,if_neg (by rw [e];exact fun h=>h rfl)]
theorem VA (b:Nat) (A:Option Addr) (n c:Nat) (rows:List zQ) (w:World) (hB:zB w b) (hr:yN w (.slice A n c) rows) (hcnt:rows.length<=800->(vS rows []).length<=100000):
 Calls Tryz.prog 12 #[.map (some b),.slice A n c] w (zd6 b (yA rows) w):=by
 obtain rfl:=hr.len
 have r:=ze hB
 have u:=ze hr
 have m:=ze (Chg.refl (S:=(· =b)) w)
 by_cases ae:800<rows.length
 . have d0:decide ((rows.length:Int)>800)=true:=by rw [decide_eq_true_iff];omega
   have HE:=ze (Ve ae);clear hB hr hcnt
   go_enter func12,ntmps12
   go_wp2_with fail;go_ret;exact ⟨by rw [HE.o];rfl,r.o,m.o⟩
 have d0:decide ((rows.length:Int)>800)=false:=by rw [decide_eq_false_iff_not];omega
 have HL:=ze ae
 have af:=ze (hcnt (by omega))
 clear hB hr hcnt
 go_enter func12,ntmps12
 go_wp2_with fail
 go_loopw [13] (ChkR w b w.heap.size (.slice A rows.length c) rows) (fun iv _=>rows.length - (intOf iv).toNat)
 case atStart=>exact ⟨0,Nat.zero_le _,rfl,(fun j h=>by omega),r,u,m⟩
 case round=>
  clear r u m d0
  obtain ⟨i,hi,rfl,M,r,u,m⟩:=hrel
  by_cases R:i<rows.length
  . have aj:(i:Int)<(rows.length:Int):=by omega
    obtain ⟨ad,E,C,y,eA,ah,p0,p1,ht,V⟩:=u.o.at_ R;subst eA;have I:=zf wr (.cells #[.slice E C y,str rows[i].bound] 33);have J:=ze (Blk.new wr 33 #[.slice E C y,str rows[i].bound]);have ab:=fun w' (k:zB w' b) (t:vr w' (.slice E C y) rows[i].terms)=>zss b E C y rows[i] w' k t V
    have aa:rows.getD i default=rows[i]:=by simp [List.getD,List.getElem?_eq_getElem R]
    have G:=ze ab;have K:Hid (vr (wr.alloc (.cells #[.slice E C y,str rows[i].bound] 33)) (.slice E C y) rows[i].terms):=(zk.below ht I).more (Nat.le_trans m.o.size I.size);replace r:=ze (r.o.below I);replace u:=ze (zT.below u.o I);replace m:=ze (yh m.o I);have O:=ze aa;clear I ht V ab aa
    go_upto_region 6 with fail
    clear p0 p1 ah;generalize wr.alloc (.cells #[.slice E C y,str rows[i].bound] 33)=W2 at J K r u m |-;generalize wr.heap.size=gr at J |-;have Q:=J.o.cell 0;have T:=J.o.cell 1;simp at Q T
    by_cases B:xa rows[i]=0
    . rw [B] at G
      have ag:Hid (∀ j,j<i+1->xa (rows.getD j default)=0):=by
       intro j hj
       by_cases e:j=i
       . subst e;rw [O.o];exact B
       . exact M.o j (by omega)
      clear B;go_wp2_with fail;refine (G.o _ r.o K.o).mono ?_;rintro e w3 ⟨rfl,L,F⟩;replace u:=ze (r.o.keepRows F u.o);replace m:=ze (vm m.o F);replace r:=ze L;clear L F G K J Q T;go_wp2_with fail;go_roundw
      case rel=>exact ⟨i+1,by omega,by go_num,ag,r,u,m⟩
      case measure=>simp [intOf];omega
    . have D:Hid (yA rows=xa rows[i]):=by
       have:=zeb HL.o R M.o (by rw [O.o];exact B);rw [O.o] at this;exact this
      obtain ⟨z,hz⟩:∃ z,xa rows[i]=z:=⟨_,rfl⟩;rw [hz] at G D B;have ai:(z == 0)=false:=beq_eq_false_iff_ne.2 B;clear hz B;go_wp2_with fail;refine (G.o _ r.o K.o).mono ?_;rintro e w3 ⟨rfl,L,F⟩;replace m:=ze (vm m.o F);replace r:=ze L;clear L F G K J Q T;go_wp2_with fail;go_ret;exact ⟨by rw [D.o];rfl,r.o,m.o⟩
  . obtain rfl:rows.length=i:=by omega
    have Z:=zb5 wr.heap.size 0 A rows.length c (.slice none 0 0) [] rows [] wr (u.o.more m.o.size) (Zz _ _ _ _) ⟨rfl,fun j hj=>by cases hj⟩ rfl (by omega) (Nat.le_refl _)
     (fun l hl=>by rw [hl.eq];exact af.o)
    have X:=ze Z;clear Z u;go_wp2_with fail;refine X.o.mono ?_;rintro e w3 ⟨v,l,rfl,Y,hn,U⟩;have ac:l.length=(vS rows []).length:=by rw [Y.eq];rfl
    have D:Hid (yA rows=if 80<l.length then 3 else 0):=by
     show _=_
     rw [ac];exact VN HL.o M.o
    obtain ⟨A3,c3,rfl,_⟩:=hn;replace r:=ze (r.o.below U);replace m:=ze (yh m.o U);clear U X Y ac M af
    by_cases N:80<l.length
    . rw [if_pos N] at D
      have d8:(80:Int)<(l.length:Int):=by omega
      clear N;go_wp2_with fail;go_ret;exact ⟨by rw [D.o];rfl,r.o,m.o⟩
    . rw [if_neg N] at D
      have d8:¬ (80:Int)<(l.length:Int):=by omega
      clear N;go_wp2_with fail;go_ret;exact ⟨by rw [D.o];rfl,r.o,m.o⟩
structure VM (rows:List zQ) (s:List UInt8):Prop where
 err:∀ r∈rows,xa r=0
 len:rows.length<=800
 all:∀ r∈rows,∀ t∈r.terms,t.name=s
 ex:∃ r∈rows,r.terms≠[]
 small:s.length<=1073741824
theorem VM.err0 {rows:List zQ} {s:List UInt8} (h:VM rows s):yA rows=0/\(vS rows []).length=1:=by
 have E:∀ x∈yg ([] ++ rows.map (·.terms)),x=s:=by
  intro x b
  unfold yg at b
  rw [List.nil_append,List.mem_flatMap] at b
  obtain ⟨l,z,b⟩:=b
  obtain ⟨t,D,rfl⟩:=List.mem_map.1 b
  obtain ⟨r,m,rfl⟩:=List.mem_map.1 z
  exact h.all r m t D
 have C:yg ([] ++ rows.map (·.terms))≠[]:=by
  obtain ⟨r,m,y⟩:=h.ex
  obtain ⟨t,q,e⟩:=List.exists_cons_of_ne_nil y
  intro B
  have:t.name∈yg ([] ++ rows.map (·.terms)):=by
   unfold yg;exact List.mem_flatMap.2 ⟨_,List.mem_map.2 ⟨r,m,rfl⟩,List.mem_map.2 ⟨t,by rw [e];exact List.mem_cons_self ..,rfl⟩⟩
  rw [B] at this
  cases this
 have u:(vS rows []).length=1:=by
  have e:vS rows []=[s]:=zf9 E C (vp _)
  rw [e];rfl
 refine ⟨?_,u⟩
 rw [VN (by have:=h.len;omega) (fun j hj=>by
  have e:rows.getD j default=rows[j]:=by simp [List.getD,List.getElem?_eq_getElem hj]
  rw [e];exact h.err _ (List.getElem_mem hj)),u]
 rfl
theorem zfb (b:Nat) (A:Option Addr) (n c:Nat) (rows:List zQ) (s:List UInt8) (w:World) (hB:zB w b) (hr:yN w (.slice A n c) rows) (h1:VM rows s):
 Calls Tryz.prog 12 #[.map (some b),.slice A n c] w (zd6 b 0 w):=by
 have h:=VA b A n c rows w hB hr (fun _=>by rw [h1.err0.2];omega)
 rw [h1.err0.1] at h
 exact h
theorem zpp (w:World) (B:Nat):zF w B (.slice none 0 0) []:=⟨none,0,rfl,Nat.le_refl _,by unfold maxLen;omega,by simp,zV.none_,fun x hx=>by cases hx⟩
theorem zli:(Tryz.prog.info? 9).map (fun i=>(i.zero,i.size,i.bytes))=some (some (.string ⟨#[]⟩),1,16):=by kernel_rfl
theorem XS:Tryz.prog.underlying 72=some (.slice 9):=by kernel_rfl
theorem xC.count {l ns:List (List UInt8)} (h:xC l ns):l.length<=ns.length:=by rw [h.eq];exact ZE ns
theorem Xa (l:List (List UInt8)):∀ u∈l.map str,u.oneCell' =true:=by
 intro u hu
 obtain ⟨x,_,rfl⟩:=List.mem_map.1 hu
 rfl
def WthR (w0:World) (B:Nat) (tv:Value) (t:List zR) (ns:List (List UInt8)) (lv iv:Value) (wr:World):Prop:=
 ∃ (i:Nat) (l:List (List UInt8)),i<=t.length/\iv= .int .i64 i/\Hid (xC l (ns ++ (t.take i).map (·.name)))/\Hid (zF wr wr.heap.size lv l)/\Hid (zk wr B tv t)/\Hid (Below w0.heap.size w0 wr)
def WthK (w0:World) (B:Nat) (tv:Value) (t:List zR) (lv:Value) (l:List (List UInt8)) (s:List UInt8) (pv:Value) (wr:World):Prop:=
 ∃ p:Nat,p<=l.length/\pv= .int .i64 p/\Hid (∀ j (h:j<l.length),j<p->l[j]<s)/\Hid (zF wr wr.heap.size lv l)/\Hid (zk wr B tv t)/\Hid (Below w0.heap.size w0 wr)
theorem V5 {w w' :World} {v:Value} {l:List (List UInt8)} (h:zF w w.heap.size v l) (hb:Below w.heap.size w w'):zF w' w'.heap.size v l:=(h.below hb).more hb.size
def zo7 (w:World) (ns:List (List UInt8)) (e:Ending) (w' :World):Prop:=∃ v l,e= .returned v/\xC l ns/\zF w' w'.heap.size v l/\Below w.heap.size w w'
theorem zkt (A A2:Option Addr) (n c n2 c2 B:Nat) (l ns:List (List UInt8)) (t:List zR) (w:World) (hl:zF w w.heap.size (.slice A n c) l) (hin:xC l ns) (ht:zk w B (.slice A2 n2 c2) t) (hB:B<=w.heap.size) (hcnt:ns.length+t.length<=100000):
 Calls Tryz.prog 81 #[.slice A n c,.slice A2 n2 c2] w (zo7 w (ns ++ t.map (·.name))):=by
 obtain rfl:=ht.len
 have ba:=ht.bound
 have r:=ze hl
 have aj:Hid (xC l (ns ++ (t.take 0).map (·.name))):=ze (by rw [List.take_zero,List.map_nil,List.append_nil];exact hin)
 have m:=ze ht
 have HB:=ze hB
 have b:=ze (Below.refl w.heap.size w)
 have a3:=ze hcnt
 clear hl hin ht hB hcnt
 go_enter func81,ntmps81
 go_wp2_with fail
 go_loopw [0,5] (WthR w B (.slice A2 t.length c2) t ns) (fun _ iv _=>t.length - (intOf iv).toNat)
 case atStart=>exact ⟨0,l,Nat.zero_le _,rfl,aj,r,m,b⟩
 case round=>
  clear aj r m b
  obtain ⟨i,l,hi,rfl,aj,r,m,b⟩:=hrel
  obtain ⟨AL,cl,rfl,aV,aX,a9,ao,am⟩:=id r.o
  by_cases aA:i<t.length
  rotate_left
  . obtain rfl:t.length=i:=by omega
    rw [List.take_length] at aj;have a7:=HB.o;go_wp2_with fail;go_ret;exact ⟨_,l,rfl,aj.o,r.o,b.o⟩
  have a8:(i:Int)<(t.length:Int):=by omega
  obtain ⟨ad,eA,ah,z,p1,aO,a0⟩:=m.o.at_ aA;subst eA;have aJ:Hid (ns ++ (t.take (i+1)).map (·.name)=(ns ++ (t.take i).map (·.name)) ++ [t[i].name]):=ze (by rw [zeq aA,List.append_assoc]);obtain ⟨s,hs⟩:∃ s,t[i].name=s:=⟨_,rfl⟩;rw [hs] at z aO aJ;have aU:=ze aO;have aK:=ze hs;have bg:=ze aX;have bf:(l.length:Int)<=(cl:Int):=by omega
  have D:Hid (l.length+1<=100000):=ze (by
   have h1:=aj.o.count;rw [List.length_append,List.length_map,List.length_take] at h1;have:=a3.o
   omega)
  obtain ⟨bd,be⟩:∃ a,a=ad:=⟨_,rfl⟩;clear hs aO a0 p1 ao am aX z ah;go_wp2_with fail
  go_loopw [6] (WthK w B (.slice (some ad) t.length c2) t (.slice AL l.length cl) l s) (fun pv _=>l.length - (intOf pv).toNat)
  case atStart=>exact ⟨0,Nat.zero_le _,rfl,(fun j h hj=>by omega),r,m,b⟩
  case round=>
   clear r m b;obtain ⟨p,hp,rfl,aT,r,m,b⟩:=hrel;obtain ⟨aS,X,ah,z,p1,_,_⟩:=m.o.at_ aA;injection X with X
   subst X;rw [aK.o] at z
   by_cases aG:p<l.length
   rotate_left
   . have aW:decide ((p:Int)<(l.length:Int))=false:=decide_eq_false (by omega)
     have a6:decide (p<l.length)=false:=decide_eq_false aG;have aQ:((p:Int) == (l.length:Int))=true:=by rw [beq_iff_eq];omega
     have aP:Hid (∀ hp:p<l.length,¬ l[p]<s/\l[p]≠s):=ze (fun h=>absurd h aG);clear aG p1 z ah;go_wp2_with fail
     go_quiet (fail)
     have C:=zD wr nq;replace r:=ze (V5 r.o C);replace m:=ze (zk.below m.o C);replace b:=eb_ b C;clear C;generalize wr.drewN nq=wa at r m b |-;clear nq;go_wp2_with fail
     go_quiet (fail)
     have C:=zD wa nq;replace r:=ze (V5 r.o C);replace m:=ze (zk.below m.o C);replace b:=eb_ b C;clear C;generalize wa.drewN nq=wd at r m b |-;clear nq;clear aQ
     go_upto_region 8 with fail
     obtain ⟨Z,T,Q,O,M⟩:=info_parts zli;have a4:(p:Int)<=(l.length:Int):=by omega
     have a5:(p:Int)<=(cl:Int):=by omega
     obtain ⟨aS,X,ah,z,p1,_,_⟩:=m.o.at_ aA;injection X with X
     subst X;rw [aK.o] at z;clear p1;obtain ⟨A',c',e',a2,_,_,ao,am⟩:=id r.o;injection e' with e1 e2 e3
     subst e1;subst e3;have aD:=ze ao;have aF:=ze am;clear e2 ao am;have L:ad.block<wd.heap.size:=Nat.lt_of_lt_of_le ah (Nat.le_trans HB.o b.o.size)
     have al:Hid (∀ w',Below wd.heap.size wd w' ->zV w' wd.heap.size 1 AL p ((l.take p).map str)):=ze (fun w' hb=>by
      have h:=(aD.o.below hb).head hp;rw [Nat.mul_one, <- List.map_take] at h
      exact h)
     have ai:Hid (∀ w',Below wd.heap.size wd w' ->zV w' wd.heap.size 1 (if cl=p then AL else (Option.map (fun x=>x.add p) AL)) (l.length - p) ((l.drop p).map str)):=ze (fun w' hb=>by
      have h:=(aD.o.below hb).cut hp aV;rw [Nat.mul_one, <- List.map_drop] at h
      exact h)
     have aB:Hid (xC (l.take p ++ s :: l.drop p) (ns ++ (t.take (i+1)).map (·.name))):=ze (by
      rw [aJ.o]
      exact zqu aj.o aT.o aP.o)
     have ak:Hid ((l.take p ++ s :: l.drop p).length=0+p+1+(l.length - p)):=ze (by
      rw [List.length_append,List.length_cons,List.length_take,List.length_drop];omega)
     have aH:Hid (∀ x∈l.take p ++ s :: l.drop p,zN x):=ze (fun x F=>by
      rcases List.mem_append.1 F with F | F
      . exact aF.o x (List.mem_of_mem_take F)
      . rcases List.mem_cons.1 F with rfl | F
        . exact aU.o
        . exact aF.o x (List.mem_of_mem_drop F))
     have aC:Hid (((([]:List Value) ++ (l.take p).map str) ++ [str s]) ++ (l.drop p).map str=(l.take p ++ s :: l.drop p).map str):=ze (by simp);refine zJ (S:=fun w' =>Hid (Below wd.heap.size wd w')/\w'.cell? (ad.add (i*2))=some (str s)) 15 (by kernel_rfl) (by kernel_rfl) (zl (zu wd) (fun hB=>xD hB L z)) (fun hHeld=>?_);refine HH.tk 0 ?_;refine HH.tk 1 ?_;refine HH.tk 2 ?_;refine HH.tk 4 ?_;refine HH.tk 5 ?_;refine HH.tk 6 ?_;refine HH.tk 7 ?_;refine HH.tk 8 ?_;refine HH.tk 11 ?_;refine HH.tk 12 ?_;refine HH.tk 13 ?_;refine HH.ready (rs:=[3,9]) (by kernel_rfl) (by simp) (by kernel_rfl) ?_;refine yV.cons (o:=_) rfl (fun K hK=>?_) (yV.cons (o:=_) rfl (fun K hK=>?_) yV.nil)
     rotate_left
     . skip
       go_simp
       have R:Below wd.heap.size wd (wd.alloc (.cells #[str s] 9)).drew:=(yU wd _).out;have y:=hHeld;clear hHeld;refine hK.out _ _ (zl (yU wd _) (fun hB=>xD hB L z)) (fun hHeld=>?_);clear y hK K
       try simp only [Act.put,xST]
       have ab:=xJ wd 9 (str s);refine HH.ready (rs:=[3]) (by kernel_rfl) (by simp) (by kernel_rfl) ?_;refine yV.cons (o:=_) rfl (fun K hK=>?_) yV.nil;rw [if_pos (by rfl)];refine yD (P:=Tryz.prog) (w:=(wd.alloc (.cells #[str s] 9)).drew) (.const (.slice none 0 0)) (.tmp 49) _ rfl wd.heap.size 9 Z _ 1 16 XS T Q O M rfl (by omega) (.slice none 0 0) 0 [] rfl (World.ownsRow_nil _ _ _ _) _ AL p cl _ rfl (al.o _ R) (Xa _) (by have:=D.o;unfold maxLen;omega) (by have:=D.o;omega) R.size ?_;intro v1 wA ae aa ax;have N:Below (wd.alloc (.cells #[str s] 9)).drew.heap.size (wd.alloc (.cells #[str s] 9)).drew wA:=(Below.refl _ _).grown aa (Nat.le_refl _) (fun k hk=>by cases hk);have aq:=ext R N;have y:=hHeld;clear hHeld;refine hK.out _ _ (zl ((ze aq)) (fun hB=>xD hB L z)) (fun hHeld=>?_);clear y hK K
       try simp only [Act.put,xST]
       have U:=ze ae;have aI:zV (wd.alloc (.cells #[str s] 9)).drew (wd.alloc (.cells #[str s] 9)).drew.heap.size 1 (some ⟨wd.heap.size,0,none⟩) 1 [str s]:=zV.more (zV.drew ab) (by show _<=(wd.alloc (.cells #[str s] 9)).heap.size;rw [World.size_alloc];exact Nat.le_refl _);have Y:=ze ((zV.below aI N).more N.size);have G:=ze aq;clear R N aq ae aa ax ab aI;refine HH.ready (rs:=[10]) (by kernel_rfl) (by simp) (by kernel_rfl) ?_;refine yV.cons (o:=_) rfl (fun K hK=>?_) yV.nil;rw [if_pos (by rfl)];refine yD (P:=Tryz.prog) (w:=wA) (.tmp 50) (.tmp 56) _ rfl wd.heap.size 9 Z _ 1 16 XS T Q O M rfl (by omega) v1 (0+p) _ rfl U.o _ (some ⟨wd.heap.size,0,none⟩) 1 1 [str s] rfl Y.o (by intro u hu;rw [List.mem_singleton] at hu;subst hu;rfl) (by have:=D.o;unfold maxLen;omega) (by have:=D.o;omega) G.o.size ?_;intro v2 wB I af ar;have E:Below wd.heap.size wd wB:=G.o.grown af G.o.size (fun k e=>(U.o.lt k e).1);have y:=hHeld;clear hHeld;refine hK.out _ _ (zl ((ze E)) (fun hB=>xD hB L z)) (fun hHeld=>?_);clear y hK K
       try simp only [Act.put,xST]
       refine HH.ready (rs:=[14]) (by kernel_rfl) (by simp) (by kernel_rfl) ?_;refine yV.cons (o:=_) rfl (fun K hK=>?_) yV.nil;rw [if_pos (by rfl)];refine yD (P:=Tryz.prog) (w:=wB) (.tmp 57) (.tmp 60) _ rfl wd.heap.size 9 Z _ 1 16 XS T Q O M rfl (by omega) v2 (0+p+1) _ rfl I _ _ (l.length - p) (cl - p) _ rfl (ai.o _ E) (Xa _) (by have:=D.o;unfold maxLen;omega) (by have:=D.o;omega) E.size ?_;intro v3 wC V ag aw;have J:Below wd.heap.size wd wC:=E.grown ag E.size (fun k e=>(I.lt k e).1);have y:=hHeld;clear hHeld;refine hK.out _ _ (zl ((ze J)) (fun hB=>xD hB L z)) (fun hHeld=>?_);clear y hK K
       try simp only [Act.put,xST]
       have ap:=(hHeld.1).out;clear ap hHeld;refine HH.done (by kernel_rfl) ?_;simp only [List.drop_succ_cons,List.drop_zero];rw [aC.o, <- ak.o] at V;have ac:=Z5 V (by rw [ak.o];have:=D.o;omega) aH.o;have an:=ze ac;have au:=ze (zk.below' m.o (J.mono (Nat.le_trans HB.o b.o.size)));have av:=ze (b.o.trans (J.mono b.o.size));clear E J I V af ag ar aw ac U Y G al ai T Q O M;go_wp2_with fail;go_roundw
       case rel=>exact ⟨i+1,_,by omega,by go_num,aB,an,au,av⟩
       case measure=>simp [intOf];omega
     skip
     rw [if_pos (by rfl)];refine yD (P:=Tryz.prog) (w:=wd.drew) (.const (.slice none 0 0)) (.tmp 49) _ rfl wd.heap.size 9 Z _ 1 16 XS T Q O M rfl (by omega) (.slice none 0 0) 0 [] rfl (World.ownsRow_nil _ _ _ _) _ AL p cl _ rfl (al.o wd.drew (zu wd).out) (Xa _) (by have:=D.o;unfold maxLen;omega) (by have:=D.o;omega) (Nat.le_refl _) ?_;intro v1 w1 ae aa ax;have R:Below wd.heap.size wd w1:=(zu wd).out.grown aa (Nat.le_refl _) (fun k hk=>by cases hk);have y:=hHeld;clear hHeld;refine hK.out _ _ (zl ((ze R)) (fun hB=>xD hB L z)) (fun hHeld=>?_);clear y hK K
     try simp only [Act.put,xST]
     refine HH.rd 9 (fun K hK=>?_)
     go_simp
     have N:Below wd.heap.size wd (w1.alloc (.cells #[str s] 9)):=ext R (zf w1 _);have y:=hHeld;clear hHeld;refine hK.out _ _ (zl ((ze N)) (fun hB=>xD hB L z)) (fun hHeld=>?_);clear y hK K
     try simp only [Act.put,xST]
     have I:=World.ownsRow.alloc ae (.cells #[str s] 9);have ab:=xJ w1 9 (str s);have U:=ze I;have Y:=ze ab;have G:=ze N;clear R N ae I aa ax ab;generalize w1.alloc (.cells #[str s] 9)=wA at U Y G hHeld |-;generalize w1.heap.size=gs at Y |-;refine HH.ready (rs:=[10]) (by kernel_rfl) (by simp) (by kernel_rfl) ?_;refine yV.cons (o:=_) rfl (fun K hK=>?_) yV.nil;rw [if_pos (by rfl)];refine yD (P:=Tryz.prog) (w:=wA) (.tmp 50) (.tmp 56) _ rfl wd.heap.size 9 Z _ 1 16 XS T Q O M rfl (by omega) v1 (0+p) _ rfl U.o _ (some ⟨gs,0,none⟩) 1 1 [str s] rfl Y.o (by intro u hu;rw [List.mem_singleton] at hu;subst hu;rfl) (by have:=D.o;unfold maxLen;omega) (by have:=D.o;omega) G.o.size ?_;intro v2 wB I af ar;have E:Below wd.heap.size wd wB:=G.o.grown af G.o.size (fun k e=>(U.o.lt k e).1);have y:=hHeld;clear hHeld;refine hK.out _ _ (zl ((ze E)) (fun hB=>xD hB L z)) (fun hHeld=>?_);clear y hK K
     try simp only [Act.put,xST]
     refine HH.ready (rs:=[14]) (by kernel_rfl) (by simp) (by kernel_rfl) ?_;refine yV.cons (o:=_) rfl (fun K hK=>?_) yV.nil;rw [if_pos (by rfl)];refine yD (P:=Tryz.prog) (w:=wB) (.tmp 57) (.tmp 60) _ rfl wd.heap.size 9 Z _ 1 16 XS T Q O M rfl (by omega) v2 (0+p+1) _ rfl I _ _ (l.length - p) (cl - p) _ rfl (ai.o _ E) (Xa _) (by have:=D.o;unfold maxLen;omega) (by have:=D.o;omega) E.size ?_;intro v3 wC V ag aw;have J:Below wd.heap.size wd wC:=E.grown ag E.size (fun k e=>(I.lt k e).1);have y:=hHeld;clear hHeld;refine hK.out _ _ (zl ((ze J)) (fun hB=>xD hB L z)) (fun hHeld=>?_);clear y hK K
     try simp only [Act.put,xST]
     have ap:=(hHeld.1).out;clear ap hHeld;refine HH.done (by kernel_rfl) ?_;simp only [List.drop_succ_cons,List.drop_zero];rw [aC.o, <- ak.o] at V;have ac:=Z5 V (by rw [ak.o];have:=D.o;omega) aH.o;have an:=ze ac;have au:=ze (zk.below' m.o (J.mono (Nat.le_trans HB.o b.o.size)));have av:=ze (b.o.trans (J.mono b.o.size));clear E J I V af ag ar aw ac U Y G al ai T Q O M;go_wp2_with fail;go_roundw
     case rel=>exact ⟨i+1,_,by omega,by go_num,aB,an,au,av⟩
     case measure=>simp [intOf];omega
   have aW:(p:Int)<(l.length:Int):=by omega
   obtain ⟨aE,eL,aM,c1⟩:=r.o.at_ aG;subst eL;obtain ⟨x,F⟩:∃ x,l[p]=x:=⟨_,rfl⟩;rw [F] at c1;have aN:=Xo x s;have bb:decide ((p:Int)<(l.length:Int))=true:=decide_eq_true aW
   by_cases ay:x<s
   . rw [decide_eq_true ay] at aN
     have aY:Hid (∀ j (h:j<l.length),j<p+1->l[j]<s):=ze (fun j h hj=>by
      by_cases e:j=p
      . subst e;rw [F];exact ay
      exact aT.o j h (by omega))
     clear F ay p1 aM;go_wp2_with fail
     go_quiet (fail)
     have C:=zD wr nq;replace r:=ze (V5 r.o C);replace m:=ze (zk.below m.o C);replace b:=eb_ b C;clear C;generalize wr.drewN nq=wa at r m b |-;clear nq;go_wp2_with fail;go_roundw
     case rel=>exact ⟨p+1,by omega,by go_num,aY,r,m,b⟩
     case measure=>simp [intOf];omega
   rw [decide_eq_false ay] at aN
   have HX:=ze F;have a1:=ze ay;clear F ay p1 aM;go_wp2_with fail
   go_quiet (fail)
   have C:=zD wr nq;replace r:=ze (V5 r.o C);replace m:=ze (zk.below m.o C);replace b:=eb_ b C;clear C;generalize wr.drewN nq=wa at r m b |-;clear nq;clear c1 z aN ah;obtain ⟨aS,X,ah,z,p1,_,_⟩:=m.o.at_ aA;injection X with X
   subst X;rw [aK.o] at z;obtain ⟨bc,aR,aM,c1⟩:=r.o.at_ aG;injection aR with aR
   subst aR;rw [HX.o] at c1;have aQ:((p:Int) == (l.length:Int))=false:=by rw [beq_eq_false_iff_ne];omega
   have he:(x == s)=decide (x=s):=by by_cases h:x=s<;>simp [h]
   clear p1 aM
   by_cases az:x=s
   . rw [decide_eq_true az] at he
     have aZ:Hid (xC l (ns ++ (t.take (i+1)).map (·.name))):=ze (by
      rw [aJ.o]
      exact zt5 aj.o (by rw [<- az, <- HX.o];exact List.getElem_mem _))
     clear az;go_wp2_with fail
     go_quiet (fail)
     have C:=zD wa nq;replace r:=ze (V5 r.o C);replace m:=ze (zk.below m.o C);replace b:=eb_ b C;clear C;generalize wa.drewN nq=wd at r m b |-;clear nq;go_wp2_with fail;go_roundw
     case rel=>exact ⟨i+1,l,by omega,by go_num,aZ,r,m,b⟩
     case measure=>simp [intOf];omega
   rw [decide_eq_false az] at he
   have aP:Hid (∀ hp:p<l.length,¬ l[p]<s/\l[p]≠s):=ze (fun _=>⟨by rw [HX.o];exact a1.o,by rw [HX.o];exact az⟩);clear az;go_wp2_with fail
   go_quiet (fail)
   have C:=zD wa nq;replace r:=ze (V5 r.o C);replace m:=ze (zk.below m.o C);replace b:=eb_ b C;clear C;generalize wa.drewN nq=wd at r m b |-;clear nq;clear c1 z he aQ ah
   go_upto_region 8 with fail
   obtain ⟨Z,T,Q,O,M⟩:=info_parts zli;have a4:(p:Int)<=(l.length:Int):=by omega
   have a5:(p:Int)<=(cl:Int):=by omega
   obtain ⟨aS,X,ah,z,p1,_,_⟩:=m.o.at_ aA;injection X with X
   subst X;rw [aK.o] at z;clear p1;obtain ⟨A',c',e',a2,_,_,ao,am⟩:=id r.o;injection e' with e1 e2 e3
   subst e1;subst e3;have aD:=ze ao;have aF:=ze am;clear e2 ao am;have L:ad.block<wd.heap.size:=Nat.lt_of_lt_of_le ah (Nat.le_trans HB.o b.o.size)
   have al:Hid (∀ w',Below wd.heap.size wd w' ->zV w' wd.heap.size 1 (some aE) p ((l.take p).map str)):=ze (fun w' hb=>by
    have h:=(aD.o.below hb).head hp;rw [Nat.mul_one, <- List.map_take] at h
    exact h)
   have ai:Hid (∀ w',Below wd.heap.size wd w' ->zV w' wd.heap.size 1 (if cl=p then (some aE) else (some (aE.add p))) (l.length - p) ((l.drop p).map str)):=ze (fun w' hb=>by
    have h:=(aD.o.below hb).cut hp aV;rw [Nat.mul_one, <- List.map_drop] at h
    exact h)
   have aB:Hid (xC (l.take p ++ s :: l.drop p) (ns ++ (t.take (i+1)).map (·.name))):=ze (by
    rw [aJ.o]
    exact zqu aj.o aT.o aP.o)
   have ak:Hid ((l.take p ++ s :: l.drop p).length=0+p+1+(l.length - p)):=ze (by
    rw [List.length_append,List.length_cons,List.length_take,List.length_drop];omega)
   have aH:Hid (∀ x∈l.take p ++ s :: l.drop p,zN x):=ze (fun x F=>by
    rcases List.mem_append.1 F with F | F
    . exact aF.o x (List.mem_of_mem_take F)
    . rcases List.mem_cons.1 F with rfl | F
      . exact aU.o
      . exact aF.o x (List.mem_of_mem_drop F))
   have aC:Hid (((([]:List Value) ++ (l.take p).map str) ++ [str s]) ++ (l.drop p).map str=(l.take p ++ s :: l.drop p).map str):=ze (by simp);refine zJ (S:=fun w' =>Hid (Below wd.heap.size wd w')/\w'.cell? (ad.add (i*2))=some (str s)) 15 (by kernel_rfl) (by kernel_rfl) (zl (zu wd) (fun hB=>xD hB L z)) (fun hHeld=>?_);refine HH.tk 0 ?_;refine HH.tk 1 ?_;refine HH.tk 2 ?_;refine HH.tk 4 ?_;refine HH.tk 5 ?_;refine HH.tk 6 ?_;refine HH.tk 7 ?_;refine HH.tk 8 ?_;refine HH.tk 11 ?_;refine HH.tk 12 ?_;refine HH.tk 13 ?_;refine HH.ready (rs:=[3,9]) (by kernel_rfl) (by simp) (by kernel_rfl) ?_;refine yV.cons (o:=_) rfl (fun K hK=>?_) (yV.cons (o:=_) rfl (fun K hK=>?_) yV.nil)
   rotate_left
   . skip
     go_simp
     have R:Below wd.heap.size wd (wd.alloc (.cells #[str s] 9)).drew:=(yU wd _).out;have y:=hHeld;clear hHeld;refine hK.out _ _ (zl (yU wd _) (fun hB=>xD hB L z)) (fun hHeld=>?_);clear y hK K
     try simp only [Act.put,xST]
     have ab:=xJ wd 9 (str s);refine HH.ready (rs:=[3]) (by kernel_rfl) (by simp) (by kernel_rfl) ?_;refine yV.cons (o:=_) rfl (fun K hK=>?_) yV.nil;rw [if_pos (by rfl)];refine yD (P:=Tryz.prog) (w:=(wd.alloc (.cells #[str s] 9)).drew) (.const (.slice none 0 0)) (.tmp 49) _ rfl wd.heap.size 9 Z _ 1 16 XS T Q O M rfl (by omega) (.slice none 0 0) 0 [] rfl (World.ownsRow_nil _ _ _ _) _ (some aE) p cl _ rfl (al.o _ R) (Xa _) (by have:=D.o;unfold maxLen;omega) (by have:=D.o;omega) R.size ?_;intro v1 wA ae aa ax;have N:Below (wd.alloc (.cells #[str s] 9)).drew.heap.size (wd.alloc (.cells #[str s] 9)).drew wA:=(Below.refl _ _).grown aa (Nat.le_refl _) (fun k hk=>by cases hk);have aq:=ext R N;have y:=hHeld;clear hHeld;refine hK.out _ _ (zl ((ze aq)) (fun hB=>xD hB L z)) (fun hHeld=>?_);clear y hK K
     try simp only [Act.put,xST]
     have U:=ze ae;have aI:zV (wd.alloc (.cells #[str s] 9)).drew (wd.alloc (.cells #[str s] 9)).drew.heap.size 1 (some ⟨wd.heap.size,0,none⟩) 1 [str s]:=zV.more (zV.drew ab) (by show _<=(wd.alloc (.cells #[str s] 9)).heap.size;rw [World.size_alloc];exact Nat.le_refl _);have Y:=ze ((zV.below aI N).more N.size);have G:=ze aq;clear R N aq ae aa ax ab aI;refine HH.ready (rs:=[10]) (by kernel_rfl) (by simp) (by kernel_rfl) ?_;refine yV.cons (o:=_) rfl (fun K hK=>?_) yV.nil;rw [if_pos (by rfl)];refine yD (P:=Tryz.prog) (w:=wA) (.tmp 50) (.tmp 56) _ rfl wd.heap.size 9 Z _ 1 16 XS T Q O M rfl (by omega) v1 (0+p) _ rfl U.o _ (some ⟨wd.heap.size,0,none⟩) 1 1 [str s] rfl Y.o (by intro u hu;rw [List.mem_singleton] at hu;subst hu;rfl) (by have:=D.o;unfold maxLen;omega) (by have:=D.o;omega) G.o.size ?_;intro v2 wB I af ar;have E:Below wd.heap.size wd wB:=G.o.grown af G.o.size (fun k e=>(U.o.lt k e).1);have y:=hHeld;clear hHeld;refine hK.out _ _ (zl ((ze E)) (fun hB=>xD hB L z)) (fun hHeld=>?_);clear y hK K
     try simp only [Act.put,xST]
     refine HH.ready (rs:=[14]) (by kernel_rfl) (by simp) (by kernel_rfl) ?_;refine yV.cons (o:=_) rfl (fun K hK=>?_) yV.nil;rw [if_pos (by rfl)];refine yD (P:=Tryz.prog) (w:=wB) (.tmp 57) (.tmp 60) _ rfl wd.heap.size 9 Z _ 1 16 XS T Q O M rfl (by omega) v2 (0+p+1) _ rfl I _ _ (l.length - p) (cl - p) _ rfl (ai.o _ E) (Xa _) (by have:=D.o;unfold maxLen;omega) (by have:=D.o;omega) E.size ?_;intro v3 wC V ag aw;have J:Below wd.heap.size wd wC:=E.grown ag E.size (fun k e=>(I.lt k e).1);have y:=hHeld;clear hHeld;refine hK.out _ _ (zl ((ze J)) (fun hB=>xD hB L z)) (fun hHeld=>?_);clear y hK K
     try simp only [Act.put,xST]
     have ap:=(hHeld.1).out;clear ap hHeld;refine HH.done (by kernel_rfl) ?_;simp only [List.drop_succ_cons,List.drop_zero];rw [aC.o, <- ak.o] at V;have ac:=Z5 V (by rw [ak.o];have:=D.o;omega) aH.o;have an:=ze ac;have au:=ze (zk.below' m.o (J.mono (Nat.le_trans HB.o b.o.size)));have av:=ze (b.o.trans (J.mono b.o.size));clear E J I V af ag ar aw ac U Y G al ai T Q O M;go_wp2_with fail;go_roundw
     case rel=>exact ⟨i+1,_,by omega,by go_num,aB,an,au,av⟩
     case measure=>simp [intOf];omega
   skip
   rw [if_pos (by rfl)];refine yD (P:=Tryz.prog) (w:=wd.drew) (.const (.slice none 0 0)) (.tmp 49) _ rfl wd.heap.size 9 Z _ 1 16 XS T Q O M rfl (by omega) (.slice none 0 0) 0 [] rfl (World.ownsRow_nil _ _ _ _) _ (some aE) p cl _ rfl (al.o wd.drew (zu wd).out) (Xa _) (by have:=D.o;unfold maxLen;omega) (by have:=D.o;omega) (Nat.le_refl _) ?_;intro v1 w1 ae aa ax;have R:Below wd.heap.size wd w1:=(zu wd).out.grown aa (Nat.le_refl _) (fun k hk=>by cases hk);have y:=hHeld;clear hHeld;refine hK.out _ _ (zl ((ze R)) (fun hB=>xD hB L z)) (fun hHeld=>?_);clear y hK K
   try simp only [Act.put,xST]
   refine HH.rd 9 (fun K hK=>?_)
   go_simp
   have N:Below wd.heap.size wd (w1.alloc (.cells #[str s] 9)):=ext R (zf w1 _);have y:=hHeld;clear hHeld;refine hK.out _ _ (zl ((ze N)) (fun hB=>xD hB L z)) (fun hHeld=>?_);clear y hK K
   try simp only [Act.put,xST]
   have I:=World.ownsRow.alloc ae (.cells #[str s] 9);have ab:=xJ w1 9 (str s);have U:=ze I;have Y:=ze ab;have G:=ze N;clear R N ae I aa ax ab;generalize w1.alloc (.cells #[str s] 9)=wA at U Y G hHeld |-;generalize w1.heap.size=gs at Y |-;refine HH.ready (rs:=[10]) (by kernel_rfl) (by simp) (by kernel_rfl) ?_;refine yV.cons (o:=_) rfl (fun K hK=>?_) yV.nil;rw [if_pos (by rfl)];refine yD (P:=Tryz.prog) (w:=wA) (.tmp 50) (.tmp 56) _ rfl wd.heap.size 9 Z _ 1 16 XS T Q O M rfl (by omega) v1 (0+p) _ rfl U.o _ (some ⟨gs,0,none⟩) 1 1 [str s] rfl Y.o (by intro u hu;rw [List.mem_singleton] at hu;subst hu;rfl) (by have:=D.o;unfold maxLen;omega) (by have:=D.o;omega) G.o.size ?_;intro v2 wB I af ar;have E:Below wd.heap.size wd wB:=G.o.grown af G.o.size (fun k e=>(U.o.lt k e).1);have y:=hHeld;clear hHeld;refine hK.out _ _ (zl ((ze E)) (fun hB=>xD hB L z)) (fun hHeld=>?_);clear y hK K
   try simp only [Act.put,xST]
   refine HH.ready (rs:=[14]) (by kernel_rfl) (by simp) (by kernel_rfl) ?_;refine yV.cons (o:=_) rfl (fun K hK=>?_) yV.nil;rw [if_pos (by rfl)];refine yD (P:=Tryz.prog) (w:=wB) (.tmp 57) (.tmp 60) _ rfl wd.heap.size 9 Z _ 1 16 XS T Q O M rfl (by omega) v2 (0+p+1) _ rfl I _ _ (l.length - p) (cl - p) _ rfl (ai.o _ E) (Xa _) (by have:=D.o;unfold maxLen;omega) (by have:=D.o;omega) E.size ?_;intro v3 wC V ag aw;have J:Below wd.heap.size wd wC:=E.grown ag E.size (fun k e=>(I.lt k e).1);have y:=hHeld;clear hHeld;refine hK.out _ _ (zl ((ze J)) (fun hB=>xD hB L z)) (fun hHeld=>?_);clear y hK K
   try simp only [Act.put,xST]
   have ap:=(hHeld.1).out;clear ap hHeld;refine HH.done (by kernel_rfl) ?_;simp only [List.drop_succ_cons,List.drop_zero];rw [aC.o, <- ak.o] at V;have ac:=Z5 V (by rw [ak.o];have:=D.o;omega) aH.o;have an:=ze ac;have au:=ze (zk.below' m.o (J.mono (Nat.le_trans HB.o b.o.size)));have av:=ze (b.o.trans (J.mono b.o.size));clear E J I V af ag ar aw ac U Y G al ai T Q O M;go_wp2_with fail;go_roundw
   case rel=>exact ⟨i+1,_,by omega,by go_num,aB,an,au,av⟩
   case measure=>simp [intOf];omega
theorem zdt (L:List (List zR)) (k:Nat):(yg (L.take k)).length<=(yg L).length:=by
 conv=>rhs;rw [<- List.take_append_drop k L]
 unfold yg
 rw [List.flatMap_append,List.length_append]
 omega
def UnwR (w0:World) (rv:Value) (rows:List zQ) (ov iv:Value) (wr:World):Prop:=
 ∃ (i:Nat) (l:List (List UInt8)),i<=rows.length/\iv= .int .i64 i/\Hid (xC l (yg ((rows.map (·.terms)).take i)))/\Hid (zF wr wr.heap.size ov l)/\Hid (zT wr w0.heap.size rv rows)/\Hid (Below w0.heap.size w0 wr)
theorem zg8 (A:Option Addr) (n c:Nat) (rows:List zQ) (w:World) (hr:yN w (.slice A n c) rows) (r:(yg (rows.map (·.terms))).length<=50000):
 Calls Tryz.prog 45 #[.slice A n c] w (zo7 w (yg (rows.map (·.terms)))):=by
 obtain rfl:=hr.len
 have ab:rows.length<=100000:=by obtain ⟨_,_,_,_,_,_,h,_⟩:=hr;exact h
 have u:=ze hr
 have b:=ze (Below.refl w.heap.size w)
 have aa:=ze r
 have m:Hid (xC [] (yg ((rows.map (·.terms)).take 0))):=ze ⟨List.Pairwise.nil,fun x=>by simp [yg]⟩
 have j:=ze (zpp w w.heap.size)
 clear hr r
 go_enter func45,ntmps45
 go_wp2_with fail
 go_loopw [3,4] (UnwR w (.slice A rows.length c) rows) (fun _ iv _=>rows.length - (intOf iv).toNat)
 case atStart=>exact ⟨0,[],Nat.zero_le _,rfl,m,j,u,b⟩
 case round=>
  clear m j u b
  obtain ⟨i,l,hi,rfl,m,j,u,b⟩:=hrel
  obtain ⟨AL,cl,rfl,_⟩:=id j.o
  by_cases I:i<rows.length
  rotate_left
  . obtain rfl:rows.length=i:=by omega
    rw [List.take_of_length_le (by rw [List.length_map];exact Nat.le_refl _)] at m;go_wp2_with fail;go_ret;exact ⟨_,l,rfl,m.o,j.o,b.o⟩
  have ac:(i:Int)<(rows.length:Int):=by omega
  obtain ⟨ad,U,R,M,N,Y,T,O,F,J⟩:=u.o.at_ I;subst N;have K:i<(rows.map (·.terms)).length:=by rw [List.length_map];exact I
  have D:Hid (yg ((rows.map (·.terms)).take (i+1))=yg ((rows.map (·.terms)).take i) ++ rows[i].terms.map (·.name)):=ze (by
   rw [zca K,List.getElem_map])
  have r:(yg ((rows.map (·.terms)).take i)).length+rows[i].terms.length<=100000:=by
   have X:=zdt (rows.map (·.terms)) (i+1);rw [D.o,List.length_append,List.length_map] at X;have:=aa.o
   omega
  have y:=zkt AL U l.length cl R M w.heap.size l _ rows[i].terms wr j.o m.o F b.o.size r;rw [<- D.o] at y;have B:=ze y;clear F J r y O;go_wp2_with fail;refine B.o.mono ?_;rintro e w2 ⟨v,V,rfl,C,E,G⟩;have z:=G.mono b.o.size;have S:=ze (zT.below' u.o z);have Q:=ze (b.o.trans z);have Z:=ze C;have L:=ze E;clear G z C E B T Y;go_wp2_with fail;go_roundw
  case rel=>exact ⟨i+1,V,by omega,by go_num,Z,L,S,Q⟩
  case measure=>simp [intOf];omega
def RckR (w0:World) (rv:Value) (rows:List zQ) (iv:Value) (wr:World):Prop:=
 ∃ i:Nat,i<=rows.length/\iv= .int .i64 i/\Hid (∀ j,j<i->xa (rows.getD j default)=0)/\Hid (zT wr w0.heap.size rv rows)/\Hid (Below w0.heap.size w0 wr)
theorem zol (A:Option Addr) (n c:Nat) (rows:List zQ) (w:World) (hr:yN w (.slice A n c) rows) (hcnt:rows.length<=800->(yg (rows.map (·.terms))).length<=50000):
 Calls Tryz.prog 17 #[.slice A n c] w (zfq w (.int .i64 (yA rows))):=by
 obtain rfl:=hr.len
 have u:=ze hr
 have b:=ze (Below.refl w.heap.size w)
 by_cases Y:800<rows.length
 . have d0:decide ((rows.length:Int)>800)=true:=by rw [decide_eq_true_iff];omega
   have HE:=ze (Ve Y);clear hr hcnt
   go_enter func17,ntmps17
   go_wp2_with fail;go_ret;exact ⟨by rw [HE.o];rfl,b.o⟩
 have d0:decide ((rows.length:Int)>800)=false:=by rw [decide_eq_false_iff_not];omega
 have O:=ze Y
 have Z:=ze (hcnt (by omega))
 clear hr hcnt
 go_enter func17,ntmps17
 go_wp2_with fail
 go_loopw [3] (RckR w (.slice A rows.length c) rows) (fun iv _=>rows.length - (intOf iv).toNat)
 case atStart=>exact ⟨0,Nat.zero_le _,rfl,(fun j h=>by omega),u,b⟩
 case round=>
  clear u b d0
  obtain ⟨i,hi,rfl,D,u,b⟩:=hrel
  by_cases I:i<rows.length
  . have ae:(i:Int)<(rows.length:Int):=by omega
    obtain ⟨ad,AT,nt,ct,eA,U,T,M,R,J⟩:=u.o.at_ I;subst eA;have S:=zq9 AT nt ct rows[i] wr (R.more b.o.size) J;have Q:rows.getD i default=rows[i]:=by simp [List.getD,List.getElem?_eq_getElem I]
    have F:=ze Q;have y:=ze S;clear R J S Q
    by_cases m:xa rows[i]=0
    . rw [m] at y
      have aa:Hid (∀ j,j<i+1->xa (rows.getD j default)=0):=by
       intro j hj
       by_cases e:j=i
       . subst e;rw [F.o];exact m
       . exact D.o j (by omega)
      clear m;go_wp2_with fail;refine y.o.mono ?_;rintro e w3 ⟨rfl,C⟩;have B:=C.mono b.o.size;have ab:=ze (zT.below' u.o B);have G:=ze (b.o.trans B);clear C B y T M U;go_wp2_with fail;go_roundw
      case rel=>exact ⟨i+1,by omega,by go_num,aa,ab,G⟩
      case measure=>simp [intOf];omega
    . have r:Hid (yA rows=xa rows[i]):=by
       have:=zeb O.o I D.o (by rw [F.o];exact m);rw [F.o] at this;exact this
      obtain ⟨z,X⟩:∃ z,xa rows[i]=z:=⟨_,rfl⟩;rw [X] at y r m;have ac:(z == 0)=false:=beq_eq_false_iff_ne.2 m;clear X m;go_wp2_with fail;refine y.o.mono ?_;rintro e w3 ⟨rfl,C⟩;have G:=ze (b.o.trans (C.mono b.o.size));clear C y T M U;go_wp2_with fail;go_ret;exact ⟨by rw [r.o];rfl,G.o⟩
  . obtain rfl:rows.length=i:=by omega
    have N:=zg8 A rows.length c rows wr (u.o.more b.o.size) Z.o;have K:=ze N;clear N u;go_wp2_with fail;refine K.o.mono ?_;rintro e w3 ⟨v,l,rfl,L,hn,B⟩;have V:l.length=(vS rows []).length:=by rw [L.eq];rfl
    have r:Hid (yA rows=if 80<l.length then 3 else 0):=by
     show _=_
     rw [V];exact VN O.o D.o
    obtain ⟨A3,c3,rfl,_⟩:=hn;replace b:=eb_ b B;clear B K L V D Z
    by_cases E:80<l.length
    . rw [if_pos E] at r
      have d8:(80:Int)<(l.length:Int):=by omega
      clear E;go_wp2_with fail;go_ret;exact ⟨by rw [r.o];rfl,b.o⟩
    . rw [if_neg E] at r
      have d8:¬ (80:Int)<(l.length:Int):=by omega
      clear E;go_wp2_with fail;go_ret;exact ⟨by rw [r.o];rfl,b.o⟩
def Vd (l:List zR):Prop:=∀ t∈l,(zp t.coef).isSome=true
theorem zad (A:Option Addr) (n c B:Nat) (l:List zR) (bd s:List UInt8) (w:World) (ht:zk w B (.slice A n c) l) (hB:B<=w.heap.size) (hg:Vd l):
 Calls Tryz.prog 19 #[.agg #[.slice A n c,str bd],str s] w (Vc w (xU l s)):=by
 obtain rfl:=ht.len
 have hl:=ht.bound
 have M:=ext (zf w (.cells #[.slice A l.length c,str bd] 33)) (zf (w.alloc (.cells #[.slice A l.length c,str bd] 33)) (.cells #[.bool false,.slice none 0 0,.slice none 0 0] 64))
 have ag:=ze ((Blk.new w 33 #[.slice A l.length c,str bd]).alloc (.cells #[.bool false,.slice none 0 0,.slice none 0 0] 64))
 have S:=Blk.new (w.alloc (.cells #[.slice A l.length c,str bd] 33)) 64 #[.bool false,.slice none 0 0,.slice none 0 0]
 simp only [World.size_alloc] at S
 have L:=ze S
 have HT:=ze (zk.below ht M)
 have Q:=ze M
 have HG:=ze hg
 have aj:Hid (B<=((w.alloc (.cells #[.slice A l.length c,str bd] 33)).alloc (.cells #[.bool false,.slice none 0 0,.slice none 0 0] 64)).heap.size):=ze (Nat.le_trans hB M.size)
 have ah:Hid (w.heap.size<=w.heap.size+1):=Nat.le_succ _
 clear ht hB M hg S
 go_enter func19,ntmps19
 go_upto_region 1 with fail
 generalize (w.alloc (.cells #[.slice A l.length c,str bd] 33)).alloc (.cells #[.bool false,.slice none 0 0,.slice none 0 0] 64)=W at L ag HT Q aj |-
 have b0:=ag.o.cell 0
 simp at b0
 go_wp2_with fail
 go_loopw [5] (RatR W B w.heap.size (.slice A l.length c) l s) (fun kv _=>l.length - (intOf kv).toNat)
 case atStart=>exact ⟨0,Nat.zero_le _,rfl,ze (fun j hj h=>by omega),rfl⟩
 case round=>
  obtain ⟨k,hk,rfl,J,rfl⟩:=hrel
  by_cases aa:k<l.length
  rotate_left
  . obtain rfl:l.length=k:=by omega
    have U:Hid (xU l s=0):=ze (zct l s (fun j hj=>J.o j hj hj));clear J;go_wp2_with fail;refine (zgl _).mono ?_;rintro e w1 ⟨v,rfl,V,r⟩;obtain ⟨ng,X,n1,F,Y,n2,E,rfl,K,I,G⟩:=V;have b:=ze (L.o.below r L.o.lt);have ab:=ze (ext Q.o r);have Z:=ze K;have H1:=ze I;have H2:=ze G;have T:=b.o.cell 0;have r1:=b.o.cell 1;have R:=b.o.cell 2;have f0:=b.o.frozen 0;have f1:=b.o.frozen 1;have f2:=b.o.frozen 2;have lR:=b.o.lt;simp at T r1 R;clear r K I G;go_wp2_with fail;have z:=yT (ng:=ng) (A:=X) (n:=n1) (c:=F) (B:=Y) (m:=n2) (d:=E) b.o;have y:=z.cell 0;have C:=z.cell 1;have u:=z.cell 2;simp only [World.ref] at y C u;simp at y C u;refine bodyPost_ret (v:=.agg #[.bool ng,.slice X n1 F,.slice Y n2 E]) (by simp [results,results19,go_sem,y,C,u]) rfl ?_;rw [U.o];exact ⟨_,rfl,⟨_,_,_,_,_,_,_,rfl,Z.o,yf H1.o b.o,yf H2.o b.o⟩,yK (w:=w) (g:=w.heap.size+1) ab.o ah.o⟩
  have ak:(k:Int)<(l.length:Int):=by omega
  obtain ⟨ad,eA,al,p0,p1,af,N⟩:=HT.o.at_ aa;subst eA;have he:(l[k].name == s)=decide (l[k].name=s):=by by_cases h:l[k].name=s<;>simp [h]
  by_cases D:l[k].name=s
  . rw [decide_eq_true D] at he
    obtain ⟨q,O⟩:=Option.isSome_iff_exists.1 (HG.o _ (List.getElem_mem aa));have U:Hid (xU l s=q):=ze (by rw [zjd l k s aa J.o D,O];rfl);have ae:=fun w=>Yx l[k].coef q w N O
    have ac:=ze ae;clear O ae af N D J;go_wp2_with fail;refine (ac.o _).mono ?_;rintro e w1 ⟨v,rfl,V,r⟩;obtain ⟨ng,X,n1,F,Y,n2,E,rfl,K,I,G⟩:=V;have b:=ze (L.o.below r L.o.lt);have ab:=ze (ext Q.o r);have Z:=ze K;have H1:=ze I;have H2:=ze G;have T:=b.o.cell 0;have r1:=b.o.cell 1;have R:=b.o.cell 2;have f0:=b.o.frozen 0;have f1:=b.o.frozen 1;have f2:=b.o.frozen 2;have lR:=b.o.lt;simp at T r1 R;clear r K I G p0 p1 ac;go_wp2_with fail;have z:=yT (ng:=ng) (A:=X) (n:=n1) (c:=F) (B:=Y) (m:=n2) (d:=E) b.o;have y:=z.cell 0;have C:=z.cell 1;have u:=z.cell 2;simp only [World.ref] at y C u;simp at y C u;refine bodyPost_ret (v:=.agg #[.bool ng,.slice X n1 F,.slice Y n2 E]) (by simp [results,results19,go_sem,y,C,u]) rfl ?_;rw [U.o];exact ⟨_,rfl,⟨_,_,_,_,_,_,_,rfl,Z.o,yf H1.o b.o,yf H2.o b.o⟩,yK (w:=w) (g:=w.heap.size+1) ab.o ah.o⟩
  rw [decide_eq_false D] at he
  have ai:Hid (∀ j (hj:j<l.length),j<k+1->l[j].name≠s):=ze (fun j hj h=>by
   by_cases e:j=k
   . subst e;exact D
   exact J.o j hj (by omega))
  clear D af N;go_wp2_with fail;go_roundw
  case rel=>exact ⟨k+1,by omega,by go_num,ai,rfl⟩
  case measure=>simp [intOf];omega
def CoeR (w0:World) (b B gR:Nat) (tv:Value) (l:List zR) (s:List UInt8) (kv:Value) (wr:World):Prop:=
 ∃ k:Nat,k<=l.length/\kv= .int .i64 k/\Hid (∀ j (hj:j<l.length),j<k->l[j].name≠s)/\Hid (zB wr b)/\Hid (zk wr B tv l)/\Hid (Blk wr gR 55 #[.int .i64 0,.slice none 0 0,.bool false,.int .i64 0,.slice none 0 0,.bool false])/\Hid (Chg (· =b) w0 wr)
theorem zc0 (b:Nat) (A:Option Addr) (n c B:Nat) (l:List zR) (bd s:List UInt8) (w:World) (hB:zB w b) (ht:zk w B (.slice A n c) l) (hBB:B<=w.heap.size) (hg:Vd l):
 Calls Tryz.prog 13 #[.map (some b),.agg #[.slice A n c,str bd],str s] w (zxd w b (xU l s)):=by
 obtain rfl:=ht.len
 have hl:=ht.bound
 have hz:=ext (zf w (.cells #[.slice A l.length c,str bd] 33)) (zf (w.alloc (.cells #[.slice A l.length c,str bd] 33)) (.cells #[.int .i64 0,.slice none 0 0,.bool false,.int .i64 0,.slice none 0 0,.bool false] 55))
 have ag:=ze ((Blk.new w 33 #[.slice A l.length c,str bd]).alloc (.cells #[.int .i64 0,.slice none 0 0,.bool false,.int .i64 0,.slice none 0 0,.bool false] 55))
 have ae:=Blk.new (w.alloc (.cells #[.slice A l.length c,str bd] 33)) 55 #[.int .i64 0,.slice none 0 0,.bool false,.int .i64 0,.slice none 0 0,.bool false]
 simp only [World.size_alloc] at ae
 have m:=ze ae
 have u:=ze (hB.below hz)
 have aj:=ze hB.lt
 have F:=ze ((zk.below (ht.more hBB) hz))
 have r:Hid (Chg (· =b) w ((w.alloc (.cells #[.slice A l.length c,str bd] 33)).alloc (.cells #[.int .i64 0,.slice none 0 0,.bool false,.int .i64 0,.slice none 0 0,.bool false] 55))):=Chg.of_below hz
 have HG:=ze hg
 have al:Hid (w.heap.size<=w.heap.size+1):=Nat.le_succ _
 have aw:Hid (b<w.heap.size):=hB.lt
 clear hB ht hBB hg hz ae
 go_enter func13,ntmps13
 go_upto_region 1 with fail
 generalize (w.alloc (.cells #[.slice A l.length c,str bd] 33)).alloc (.cells #[.int .i64 0,.slice none 0 0,.bool false,.int .i64 0,.slice none 0 0,.bool false] 55)=W at m ag u F r |-
 have b0:=ag.o.cell 0
 simp at b0
 go_wp2_with fail
 go_loopw [14] (CoeR w b w.heap.size (w.heap.size+1) (.slice A l.length c) l s) (fun kv _=>l.length - (intOf kv).toNat)
 case atStart=>exact ⟨0,Nat.zero_le _,rfl,ze (fun j hj h=>by omega),u,F,m,r⟩
 case round=>
  clear b0 ag m u F r
  obtain ⟨k,hk,rfl,V,u,F,m,r⟩:=hrel
  by_cases af:k<l.length
  rotate_left
  . obtain rfl:l.length=k:=by omega
    have HV:Hid (xU l s=0):=ze (zct l s (fun j hj=>V.o j hj hj));clear V;go_wp2_with fail;refine (YC 0 _ (by omega) (by omega)).mono ?_;rintro e X ⟨v,rfl,hv,aa⟩;obtain ⟨E,I,k1,c1,s1,L,G,K,J,C,rfl⟩:=hv.agg;have Z:=ze hv;replace u:=ze (u.o.below aa);replace m:=kb_ m aa;replace r:=ze (yh r.o aa);have a0:=m.o.cell 0;have a1:=m.o.cell 1;have a2:=m.o.cell 2;have a3:=m.o.cell 3;have a4:=m.o.cell 4;have a5:=m.o.cell 5;have f0:=m.o.frozen 0;have f1:=m.o.frozen 1;have f2:=m.o.frozen 2;have f3:=m.o.frozen 3;have f4:=m.o.frozen 4;have f5:=m.o.frozen 5;simp at a0 a1 a2 a3 a4 a5;clear aa hv;go_wp2_with fail;have z:=yx (x:=E) (A:=I) (k:=k1) (c:=c1) (s:=s1) (y:=L) (B:=G) (k' :=K) (c' :=J) (t:=C) m.o;have Q:=z.cell 0;have S:=z.cell 1;have O:=z.cell 2;have R:=z.cell 3;have T:=z.cell 4;have N:=z.cell 5;simp only [World.rat] at Q S O R T N;simp at Q S O R T N
    refine bodyPost_ret (v:=.agg #[.int .i64 E,.slice I k1 c1,.bool s1,.int .i64 L,.slice G K J,.bool C]) (by simp [results,results13,go_sem,Q,S,O,R,T,N]) rfl ?_;obtain ⟨z1,z2,z3⟩:=zq4 (x:=E) (A:=I) (k:=k1) (c:=c1) (s:=s1) (y:=L) (B:=G) (k' :=K) (c' :=J) (t:=C) al.o aj.o u.o r.o m.o Z.o;exact ⟨_,rfl,by rw [HV.o];exact z1,z2,z3⟩
  have av:(k:Int)<(l.length:Int):=by omega
  obtain ⟨ad,eA,au,p0,p1,aq,ah⟩:=F.o.at_ af;subst eA;have he:(l[k].name == s)=decide (l[k].name=s):=by by_cases h:l[k].name=s<;>simp [h]
  have D:=zf wr (.cells #[str l[k].name,str l[k].coef] 35);have Y:=ze (Blk.new wr 35 #[str l[k].name,str l[k].coef]);replace u:=ze (u.o.below D);have ar:Hid (w.heap.size<=wr.heap.size):=r.o.size;replace F:=ze (zk.below F.o D);replace m:=kb_ m D;replace r:=ze (yh r.o D);have ap:=ze ah;clear D aq ah
  go_upto_region 4 with fail
  clear p0 p1 au;generalize wr.alloc (.cells #[str l[k].name,str l[k].coef] 35)=W2 at Y u F m r |-;generalize wr.heap.size=gt at Y ar |-;have t0:=Y.o.cell 0;have C:=Y.o.cell 1;simp at t0 C
  by_cases U:l[k].name=s
  . rw [decide_eq_true U] at he
    obtain ⟨q,am⟩:=Option.isSome_iff_exists.1 (HG.o _ (List.getElem_mem af));have HV:Hid (xU l s=(zp l[k].coef).getD 0):=ze (zjd l k s af V.o U);have ab:=ZG b ⟨l[k].coef.toArray⟩ W2 u.o (by rw [<- zm,xR];exact ap.o);rw [xR] at ab;have ak:=ze ab;have HQ:=ze am;clear U ab am V F;go_wp2_with fail;refine ak.o.mono ?_;rintro e X ⟨v,ok,rfl,⟨E,I,k1,c1,s1,L,G,K,J,C,rfl⟩,ao,hq,ai,ac⟩;clear ak;replace m:=ze (u.o.keepBlk ac m.o);replace r:=ze (vm r.o ac);replace u:=ze ai;have D:=zf X (.cells #[.int .i64 E,.slice I k1 c1,.bool s1,.int .i64 L,.slice G K J,.bool C] 55);have M:=ze (Blk.new X 55 #[.int .i64 E,.slice I k1 c1,.bool s1,.int .i64 L,.slice G K J,.bool C]);have Z:=ze ((hq q HQ.o).below D);replace u:=ze (u.o.below D);replace m:=kb_ m D;replace r:=ze (yh r.o D);clear ai ac D hq ao
    go_upto_region 6 with fail
    generalize X.alloc (.cells #[.int .i64 E,.slice I k1 c1,.bool s1,.int .i64 L,.slice G K J,.bool C] 55)=W3 at M Z u m r |-;generalize X.heap.size=gx at M |-;have e0:=M.o.cell 0;have e1:=M.o.cell 1;have e2:=M.o.cell 2;have e3:=M.o.cell 3;have e4:=M.o.cell 4;have e5:=M.o.cell 5;have a0:=m.o.cell 0;have a1:=m.o.cell 1;have a2:=m.o.cell 2;have a3:=m.o.cell 3;have a4:=m.o.cell 4;have a5:=m.o.cell 5;have f0:=m.o.frozen 0;have f1:=m.o.frozen 1;have f2:=m.o.frozen 2;have f3:=m.o.frozen 3;have f4:=m.o.frozen 4;have f5:=m.o.frozen 5;simp at a0 a1 a2 a3 a4 a5 e0 e1 e2 e3 e4 e5;go_wp2_with fail;have z:=yx (x:=E) (A:=I) (k:=k1) (c:=c1) (s:=s1) (y:=L) (B:=G) (k' :=K) (c' :=J) (t:=C) m.o;have Q:=z.cell 0;have S:=z.cell 1;have O:=z.cell 2;have R:=z.cell 3;have T:=z.cell 4;have N:=z.cell 5;simp only [World.rat] at Q S O R T N;simp at Q S O R T N
    refine bodyPost_ret (v:=.agg #[.int .i64 E,.slice I k1 c1,.bool s1,.int .i64 L,.slice G K J,.bool C]) (by simp [results,results13,go_sem,Q,S,O,R,T,N]) rfl ?_;obtain ⟨z1,z2,z3⟩:=zq4 (x:=E) (A:=I) (k:=k1) (c:=c1) (s:=s1) (y:=L) (B:=G) (k' :=K) (c' :=J) (t:=C) al.o aj.o u.o r.o m.o Z.o;exact ⟨_,rfl,by rw [HV.o,HQ.o];exact z1,z2,z3⟩
  rw [decide_eq_false U] at he
  have an:Hid (∀ j (hj:j<l.length),j<k+1->l[j].name≠s):=ze (fun j hj h=>by
   by_cases e:j=k
   . subst e;exact U
   exact V.o j hj (by omega))
  clear U V;go_wp2_with fail;go_roundw
  case rel=>exact ⟨k+1,by omega,by go_num,an,u,F,m,r⟩
  case measure=>simp [intOf];omega
end Go.Proofs.YthbmhkiphmcogaaGreatDoor
namespace Go.Proofs.YthbmhkiphmcogaaGreatDoor
open Proofs.Tryz Go.RowKit Go.Deep
theorem zij {s:List UInt8}:∀ {D:List (List UInt8×Value)} {i:Nat},za5 s D i=none↔∀ p∈D,p.1≠s
 | [],i=>by simp [za5]
 | p :: D,i=>by
   unfold za5
   by_cases h:p.1=s
   . rw [if_pos h]
     constructor
     . intro e;cases e
     intro e;exact absurd h (e p List.mem_cons_self)
   rw [if_neg h,zij]
   constructor
   rotate_left
   . intro e q b
     exact e q (List.mem_cons_of_mem _ b)
   intro e q b
   rcases List.mem_cons.1 b with rfl | b
   . exact h
   . exact e q b
theorem Zy (s:List UInt8) (p:List UInt8×Value) (D:List (List UInt8×Value)):za6 s (p :: D)=if p.1=s then some p.2 else za6 s D:=by
 unfold za6
 conv=>lhs;unfold za5
 by_cases h:p.1=s
 . rw [if_pos h,if_pos h];rfl
 rw [if_neg h,if_neg h,zag s D 1,Option.map_map];rfl
theorem zcv (s:List UInt8) (v:Value) (p:List UInt8×Value) (D:List (List UInt8×Value)):zi6 s v (p :: D)=if p.1=s then (s,v) :: D else p :: zi6 s v D:=by
 unfold zi6
 conv=>lhs;unfold za5
 by_cases h:p.1=s
 . rw [if_pos h,if_pos h];rfl
 rw [if_neg h,if_neg h,zag s D 1]
 cases za5 s D 0 with
 | none=>rfl
 | some q=>rfl
theorem zlo (s:List UInt8) (v:Value):∀ D:List (List UInt8×Value),za6 s (zi6 s v D)=some v
 | []=>by simp [zi6,za5,za6]
 | p :: D=>by
   rw [zcv]
   by_cases h:p.1=s
   . rw [if_pos h,Zy,if_pos rfl]
   rw [if_neg h,Zy,if_neg h]
   exact zlo s v D
theorem zdn {s s' :List UInt8} (hne:s' ≠s) (v:Value):∀ D:List (List UInt8×Value),za6 s' (zi6 s v D)=za6 s' D
 | []=>by
   have:¬ s=s' :=fun e=>hne e.symm
   simp [zi6,za5,za6,this]
 | p :: D=>by
   rw [zcv]
   by_cases h:p.1=s
   . rw [if_pos h,Zy,Zy,if_neg (fun e=>hne e.symm),if_neg (fun e=>hne (e.symm.trans h))]
   rw [if_neg h,Zy,Zy,zdn hne v D]
theorem zh0 (s:List UInt8) (v:Value):∀ D:List (List UInt8×Value),(zi6 s v D).map (·.1)=if s∈D.map (·.1) then D.map (·.1) else D.map (·.1) ++ [s]
 | []=>by simp [zi6,za5]
 | p :: D=>by
   rw [zcv]
   by_cases h:p.1=s
   . rw [if_pos h,List.map_cons,List.map_cons,if_pos (by rw [h];exact List.mem_cons_self),h]
   rw [if_neg h,List.map_cons,zh0 s v D,List.map_cons]
   by_cases b:s∈D.map (·.1)
   . rw [if_pos b,if_pos (List.mem_cons_of_mem _ b)]
   rw [if_neg b,if_neg (fun e=>by rcases List.mem_cons.1 e with e | e;exact h e.symm;exact b e)]
   rfl
theorem zm3 {s:List UInt8} {v:Value} {D:List (List UInt8×Value)} (h:(D.map (·.1)).Nodup):((zi6 s v D).map (·.1)).Nodup:=by
 rw [zh0]
 by_cases j:s∈D.map (·.1)
 . rw [if_pos j];exact h
 rw [if_neg j,List.nodup_append]
 refine ⟨h,by simp,fun a ha b hb e=>?_⟩;simp at hb;subst hb;subst e;exact j ha
def Yi (w:World) (g:Nat) (F:List UInt8->Option Rat):Prop:=
 ∃ D,ZM w g D/\(D.map (·.1)).Nodup/\∀ s,match za6 s D with | none=>F s=none | some v=>∃ q,F s=some q/\yc w v q
theorem Yi.lt {w:World} {g:Nat} {F:List UInt8->Option Rat} (h:Yi w g F):g<w.heap.size:=by obtain ⟨D,h,_⟩:=h;exact h.lt
theorem Yi.noDig {w:World} {g:Nat} {F:List UInt8->Option Rat} (h:Yi w g F):zZ w g:=by obtain ⟨D,h,_⟩:=h;exact h.noDig
theorem Yi.new (w:World):Yi (w.alloc (.map #[] 0)) w.heap.size (fun _=>none):=⟨[],ZM.new w,by simp,fun s=>rfl⟩
theorem Yi.chg {S:Nat->Prop} {w w' :World} {g:Nat} {F:List UInt8->Option Rat} (h:Yi w g F) (hc:Chg S w w') (hb:¬ S g) (hS:∀ b,S b->zZ w b):Yi w' g F:=by
 obtain ⟨D,m,l,e⟩:=h
 refine ⟨D,hc.map m hb,l,fun s=>?_⟩
 have:=e s
 split at this
 . exact this
 obtain ⟨q,r,j⟩:=this
 exact ⟨q,r,hc.rat j hS⟩
theorem Yi.below {w w' :World} {g:Nat} {F:List UInt8->Option Rat} (h:Yi w g F) (hb:Below w.heap.size w w'):Yi w' g F:=h.chg (S:=fun _=>False) (Chg.of_below hb) (fun h=>h) (fun _ h=>h.elim)
theorem Yi.book {w w' :World} {g b:Nat} {F:List UInt8->Option Rat} (h:Yi w g F) (hB:zB w b) (hc:Chg (· =b) w w') (hne:g≠b):Yi w' g F:=h.chg hc hne (fun _ e=>by subst e;exact hB.noDig)
def zt8 (F:List UInt8->Option Rat) (s:List UInt8) (q:Rat):List UInt8->Option Rat:=fun t=>if t=s then some q else F t
theorem Yi.put {P:Program} {w:World} {g:Nat} {F:List UInt8->Option Rat} {s:List UInt8} {v:Value} {q:Rat} {t k e:TypeId} (ht:P.underlying t=some (.map k e)) (hk:P.underlying k=some .string) (h:Yi w g F) (hv:yc w v q):
 ∃ w',(Instr.mapUpdate t (.map (some g)) (str s) v).run P w= .ok () w' /\Yi w' g (zt8 F s q)/\Chg (· =g) w w' :=by
 obtain ⟨D,j,C,l⟩:=h
 obtain ⟨w',r,y,B,_⟩:=Xn ht hk j s v
 have b:Chg (· =g) w w' :=Chg.of_grown B rfl
 have hS:∀ z,z=g->zZ w z:=fun z e=>by subst e;exact j.noDig
 refine ⟨w',r,⟨_,y,zm3 C,fun s' =>?_⟩,b⟩
 unfold zt8
 by_cases e:s' =s
 . subst e
   rw [zlo,if_pos rfl];exact ⟨q,rfl,b.rat hv hS⟩
 rw [zdn e,if_neg e]
 have:=l s'
 split at this
 . exact this
 obtain ⟨u,E,m⟩:=this
 exact ⟨u,E,b.rat m hS⟩
theorem Yi.look {P:Program} {w:World} {g:Nat} {F:List UInt8->Option Rat} {t k e:TypeId} {z:Value} (ht:P.underlying t=some (.map k e)) (hk:P.underlying k=some .string) (hz:(zeroValue e).run P w= .ok z w) (h:Yi w g F) (s:List UInt8) (c:Bool):
 ∃ v,(Instr.lookup t (.map (some g)) (str s) c).run P w= .ok (if c then .tuple #[v,.bool (F s).isSome] else v) w/\((F s=none/\v=z)\/∃ q,F s=some q/\yc w v q):=by
 obtain ⟨D,u,_,m⟩:=h
 have b:=ZZ (w:=w) ht hk hz u s c
 have:=m s
 split at this
 . rename_i j
   rw [j] at b;exact ⟨z,by rw [this];exact b,.inl ⟨this,rfl⟩⟩
 rename_i v j
 obtain ⟨q,l,r⟩:=this;rw [j] at b;exact ⟨v,by rw [l];exact b,.inr ⟨q,l,r⟩⟩
theorem Yi.noCells {w:World} {g:Nat} {F:List UInt8->Option Rat} (h:Yi w g F):Z1 w g:=by obtain ⟨D,h,_⟩:=h;exact h.noCells
theorem Yi.keepR {w w' :World} {g:Nat} {F:List UInt8->Option Rat} {v:Value} {q:Rat} (h:Yi w g F) (hc:Chg (· =g) w w') (hv:yc w v q):yc w' v q:=hc.rat hv (fun _ e=>by subst e;exact h.noDig)
theorem Yi.keepT {w w' :World} {g B:Nat} {F:List UInt8->Option Rat} {v:Value} {l:List zR} (h:Yi w g F) (hc:Chg (· =g) w w') (hv:zk w B v l):zk w' B v l:=hv.chg hc (fun _ _ e=>by subst e;exact h.noCells)
theorem Yi.keepBlk {w w' :World} {g x:Nat} {F:List UInt8->Option Rat} {t:TypeId} {cs:Array Value} (h:Yi w g F) (hc:Chg (· =g) w w') (hk:Blk w x t cs):Blk w' x t cs:=hc.blk hk (fun e=>by
 subst e
 obtain ⟨D,⟨b,c,hb,_⟩,_⟩:=h
 unfold Blk at hk
 rw [hb] at hk;cases hk)
theorem zB.neB {w:World} {b x:Nat} {t:TypeId} {cs:Array Value} (h:zB w b) (hk:Blk w x t cs):b≠x:=fun e=>by
 subst e
 obtain ⟨D,⟨j,c,hb,_⟩,_⟩:=h
 unfold Blk at hk
 rw [hb] at hk;cases hk
theorem Yi.ne {w:World} {g x:Nat} {F:List UInt8->Option Rat} {t:TypeId} {cs:Array Value} (h:Yi w g F) (hk:Blk w x t cs):g≠x:=fun e=>by
 subst e
 obtain ⟨D,⟨b,c,hb,_⟩,_⟩:=h
 unfold Blk at hk
 rw [hb] at hk;cases hk
theorem Yi.keepB {w w' :World} {g b:Nat} {F:List UInt8->Option Rat} (h:Yi w g F) (hc:Chg (· =g) w w') (hB:zB w b) (hne:b≠g):zB w' b:=hB.chg hc hne (fun _ e=>by subst e;exact h.noDig)
end Go.Proofs.YthbmhkiphmcogaaGreatDoor
namespace Go.Proofs.YthbmhkiphmcogaaGreatDoor
open Proofs.Tryz Go.RowKit Go.Deep
attribute [local go_sem ↓] Go.wp_at_zero Go.wp_at_succ
theorem YE:Tryz.prog.underlying 92=some (.map 9 55):=by kernel_rfl
theorem Vv:Tryz.prog.underlying 9=some .string:=by kernel_rfl
def zs9 (wt:Rat) (F:List UInt8->Option Rat) (t:zR):List UInt8->Option Rat:=zt8 F t.name ((F t.name).getD 0+XV t*wt)
def V6 (wt:Rat) (F:List UInt8->Option Rat) (l:List zR):List UInt8->Option Rat:=l.foldl (zs9 wt) F
theorem zpk {wt:Rat} {F:List UInt8->Option Rat} {l:List zR} {k:Nat} (h:k<l.length):V6 wt F (l.take (k+1))=zs9 wt (V6 wt F (l.take k)) l[k]:=by
 unfold V6
 rw [List.take_add_one,List.getElem?_eq_getElem h,List.foldl_append]
 rfl
def VT (r:zQ):Rat:=(zp r.bound).getD 0
structure zwk (wt q0:Rat) (F:List UInt8->Option Rat) (r:zQ):Prop where
 coef:∀ t∈r.terms,∃ q,zp t.coef=some q/\Z9 8388608 q/\Z9 8388608 (q*wt)
 wtl:Z9 8388608 wt
 part:∀ k,k<=r.terms.length->∀ s,Z9 8388608 (((V6 wt F (r.terms.take k)) s).getD 0)
 bound:∃ q,zp r.bound=some q/\Z9 8388608 q/\Z9 8388608 (q*wt)
 small:zN r.bound
 sum:Z9 8388608 q0
def xp (w:World) (gs gm:Nat) (q:Rat):Prop:=∃ (x:Int) (A:Option Addr) (k c:Nat) (s:Bool) (y:Int) (B:Option Addr) (k' c' :Nat) (t:Bool),Blk w gs 94 #[.map (some gm),.int .i64 x,.slice A k c,.bool s,.int .i64 y,.slice B k' c',.bool t]/\yc w (.agg #[.int .i64 x,.slice A k c,.bool s,.int .i64 y,.slice B k' c',.bool t]) q
theorem xp.below {w w' :World} {gs gm:Nat} {q:Rat} (h:xp w gs gm q) (hb:Below w.heap.size w w'):xp w' gs gm q:=by
 obtain ⟨_,_,_,_,_,_,_,_,_,_,b,e⟩:=h
 exact ⟨_,_,_,_,_,_,_,_,_,_,b.below hb b.lt,e.below hb⟩
theorem xp.map {w:World} {gs gm:Nat} {q:Rat} (h:xp w gs gm q):w.cell? ⟨gs,0,none⟩=some (.map (some gm))/\gs<w.heap.size:=by
 obtain ⟨_,_,_,_,_,_,_,_,_,_,b,e⟩:=h
 have:=b.cell 0
 simp at this
 exact ⟨this,b.lt⟩
theorem zf6 (g:Option Nat) (x:Int) (A:Option Addr) (k c:Nat) (s:Bool) (y:Int) (B:Option Addr) (k' c' :Nat) (t:Bool):Ze #[.map g,.int .i64 x,.slice A k c,.bool s,.int .i64 y,.slice B k' c',.bool t]:=by
 intro i d h
 match i with
 | 0=>simp at h
 | 1=>simp at h
 | 2=>simp at h
 | 3=>simp at h
 | 4=>simp at h
 | 5=>simp at h
 | 6=>simp at h
 | n+7=>simp at h
def World.rat1 (w:World) (g:Nat) (x:Int) (A:Option Addr) (k c:Nat) (s:Bool) (y:Int) (B:Option Addr) (k' c' :Nat) (t:Bool):World:=
 (((((w.setCell ⟨g,1,none⟩ (.int .i64 x)).setCell ⟨g,2,none⟩ (.slice A k c)).setCell ⟨g,3,none⟩ (.bool s)).setCell ⟨g,4,none⟩ (.int .i64 y)).setCell ⟨g,5,none⟩ (.slice B k' c')).setCell ⟨g,6,none⟩ (.bool t)
theorem xp.noDig {w:World} {gs gm:Nat} {q:Rat} (h:xp w gs gm q):zZ w gs:=by
 obtain ⟨_,_,_,_,_,_,_,_,_,_,b,e⟩:=h
 exact b.noDig (zf6 _ _ _ _ _ _ _ _ _ _ _)
theorem zfx {w:World} {g:Nat} {x:Int} {A:Option Addr} {k c:Nat} {s:Bool} {y:Int} {B:Option Addr} {k' c' :Nat} {t:Bool}:Chg (· =g) w (World.rat1 w g x A k c s y B k' c' t):=by
 simp only [World.rat1]
 apply Chg.setCell (S:=fun b=>b=g) ?_ (by rfl)
 apply Chg.setCell (S:=fun b=>b=g) ?_ (by rfl)
 apply Chg.setCell (S:=fun b=>b=g) ?_ (by rfl)
 apply Chg.setCell (S:=fun b=>b=g) ?_ (by rfl)
 apply Chg.setCell (S:=fun b=>b=g) ?_ (by rfl)
 apply Chg.setCell (S:=fun b=>b=g) ?_ (by rfl)
 exact Chg.refl w
theorem xp.put {w:World} {gs gm:Nat} {q q' :Rat} {x:Int} {A:Option Addr} {k c:Nat} {s:Bool} {y:Int} {B:Option Addr} {k' c' :Nat} {t:Bool} (h:xp w gs gm q) (hv:yc w (.agg #[.int .i64 x,.slice A k c,.bool s,.int .i64 y,.slice B k' c',.bool t]) q'):xp (World.rat1 w gs x A k c s y B k' c' t) gs gm q' :=by
 have hS:∀ z,z=gs->zZ w z:=fun z e=>by subst e;exact h.noDig
 have b:=(zfx (w:=w) (g:=gs) (x:=x) (A:=A) (k:=k) (c:=c) (s:=s) (y:=y) (B:=B) (k' :=k') (c' :=c') (t:=t)).rat hv hS
 obtain ⟨_,_,_,_,_,_,_,_,_,_,j,l⟩:=h
 exact ⟨_,_,_,_,_,_,_,_,_,_,(((((j.set_ 1 _).set_ 2 _).set_ 3 _).set_ 4 _).set_ 5 _).set_ 6 _,b⟩
def ScaR (w0:World) (b gs gm gw:Nat) (gv:Value) (gr:Nat) (bd:List UInt8) (wt q0:Rat) (F:List UInt8->Option Rat) (tv:Value) (l:List zR) (kv:Value) (wr:World):Prop:=
 ∃ k:Nat,k<=l.length/\kv= .int .i64 k/\Hid (Yi wr gm (V6 wt F (l.take k)))/\Hid (xp wr gs gm q0)/\Hid (zcg wr gw wt)/\Hid (Blk wr gr 33 #[tv,str bd])/\Hid (zB wr b)/\Hid (zk wr w0.heap.size tv l)/\Hid (Chg (fun x=>x=b\/x=gm) w0 wr)
theorem zmf (b gs gm:Nat) (A:Option Addr) (n c:Nat) (r:zQ) (va:Value) (wt q0:Rat) (F:List UInt8->Option Rat) (w:World) (hB:zB w b) (hm:Yi w gm F) (hs:xp w gs gm q0) (hbm:gm≠b) (hv:yc w va wt) (ht:vr w (.slice A n c) r.terms) (ho:zwk wt q0 F r):
 Calls Tryz.prog 73 #[.pointer (some ⟨gs,0,none⟩),.map (some b),.agg #[.slice A n c,str r.bound],va] w fun e w' =>e= .returned (.tuple #[])/\zB w' b/\Yi w' gm (V6 wt F r.terms)/\xp w' gs gm (q0+VT r*wt)/\Chg (fun x=>x=b\/x=gm\/x=gs) w w' :=by
 obtain rfl:=ht.len
 have ca:r.terms.length<=100000:=by obtain ⟨_,_,_,_,_,h,_⟩:=id ht;exact h
 obtain ⟨x9,A9,k9,c9,s9,y9,B9,bk,bm,t9,rfl⟩:=hv.agg
 obtain ⟨W,hW⟩:∃ W,W=(w.alloc (.cells #[.slice A r.terms.length c,str r.bound] 33)).alloc (.cells #[.int .i64 x9,.slice A9 k9 c9,.bool s9,.int .i64 y9,.slice B9 bk bm,.bool t9] 55):=⟨_,rfl⟩
 have hz:=ext (zf w (.cells #[.slice A r.terms.length c,str r.bound] 33)) (zf (w.alloc (.cells #[.slice A r.terms.length c,str r.bound] 33)) (.cells #[.int .i64 x9,.slice A9 k9 c9,.bool s9,.int .i64 y9,.slice B9 bk bm,.bool t9] 55))
 have bE:=(Blk.new w 33 #[.slice A r.terms.length c,str r.bound]).alloc (.cells #[.int .i64 x9,.slice A9 k9 c9,.bool s9,.int .i64 y9,.slice B9 bk bm,.bool t9] 55)
 have bi:=Blk.new (w.alloc (.cells #[.slice A r.terms.length c,str r.bound] 33)) 55 #[.int .i64 x9,.slice A9 k9 c9,.bool s9,.int .i64 y9,.slice B9 bk bm,.bool t9]
 simp only [World.size_alloc] at bi
 rw [<- hW] at hz bE bi
 have M:=ze bE
 have J:Hid (zcg W (w.heap.size+1) wt):=⟨_,_,_,_,_,_,_,_,_,_,bi,hv.below hz⟩
 have C:=ze (hB.below hz)
 have u:=ze (hm.below hz)
 have N:=ze (zk.below ht hz)
 have I:Hid (xp W gs gm q0):=by
  obtain ⟨_,_,_,_,_,_,_,_,_,_,Q,X⟩:=hs
  exact ⟨_,_,_,_,_,_,_,_,_,_,Q.below hz Q.lt,X.below hz⟩
 have L:Hid (Chg (fun x=>x=b\/x=gm) w W):=Chg.of_below hz
 have HO:=ze ho
 have bh:=ze hbm
 clear hB hm hs hbm hv ht ho hz bE bi
 go_enter func73,ntmps73
 go_upto_region 1 with fail
 rw [<- hW]
 clear hW
 have r0:=M.o.cell 0
 simp at r0
 go_wp2_with fail
 go_loopw [19] (ScaR w b gs gm (w.heap.size+1) (.slice A r.terms.length c) w.heap.size r.bound wt q0 F (.slice A r.terms.length c) r.terms) (fun kv _=>r.terms.length - (intOf kv).toNat)
 case atStart=>exact ⟨0,Nat.zero_le _,rfl,u,I,J,M,C,N,L⟩
 case round=>
  clear u I J M C N L r0
  obtain ⟨k,hk,rfl,u,I,J,M,C,N,L⟩:=hrel
  by_cases bv:k<r.terms.length
  rotate_left
  . obtain rfl:r.terms.length=k:=by omega
    rw [List.take_length] at u;obtain ⟨q,hq,aY,aS⟩:=HO.o.bound;have b3:Hid (VT r=q):=ze (by unfold VT;rw [hq];rfl);have HQ:=ze hq;have bl:=ze aY;have bf:=ze aS;have bd:=ze HO.o.wtl;have b0:=ze HO.o.small;have b1:=ze HO.o.sum;clear hq aY aS N;have r1:=M.o.cell 1;simp at r1;have aK:=ZG b ⟨r.bound.toArray⟩ wr C.o (by rw [<- zm,xR];exact b0.o);rw [xR] at aK;have aR:=ze aK;clear aK;go_wp2_with fail;refine aR.o.mono ?_;rintro e w2 ⟨v,ok,rfl,⟨x2,A2,k2,c2,s2,y2,B2,av,am,t2,rfl⟩,bD,aU,a8,aT⟩;have hx:=zf w2 (.cells #[.int .i64 x2,.slice A2 k2 c2,.bool s2,.int .i64 y2,.slice B2 av am,.bool t2] 55);have ag:Chg (· =b) wr (w2.alloc (.cells #[.int .i64 x2,.slice A2 k2 c2,.bool s2,.int .i64 y2,.slice B2 av am,.bool t2] 55)):=yh aT hx;replace u:=ze (u.o.book C.o ag bh.o)
    replace I:Hid (xp (w2.alloc (.cells #[.int .i64 x2,.slice A2 k2 c2,.bool s2,.int .i64 y2,.slice B2 av am,.bool t2] 55)) gs gm q0):=by
     obtain ⟨_,_,_,_,_,_,_,_,_,_,Q,X⟩:=I.o;exact ⟨_,_,_,_,_,_,_,_,_,_,C.o.keepBlk ag Q,C.o.keepR ag X⟩
    replace J:=ze (C.o.keepRB ag J.o);replace L:=ze (L.o.trans (S:=fun x=>x=b\/x=gm) (T:=fun x=>x=b) ag (fun x _ h=>.inl h));replace C:=ze (a8.below hx);have G:=ze (Blk.new w2 55 #[.int .i64 x2,.slice A2 k2 c2,.bool s2,.int .i64 y2,.slice B2 av am,.bool t2]);have ah:=ze ((aU q HQ.o).below hx);clear a8 aT hx ag aU bD aR r1 M
    go_upto_region 11 with fail
    generalize w2.alloc (.cells #[.int .i64 x2,.slice A2 k2 c2,.bool s2,.int .i64 y2,.slice B2 av am,.bool t2] 55)=U at G ah C u I J L |-;generalize w2.heap.size=gx at G |-;obtain ⟨x4,A4,k4,c4,Z,y4,Y,aa,ab,t4,aC,bg⟩:=I.o;obtain ⟨xw,Aw,kw,cw,sw,yw,Bw,aZ,a7,tw,O,aH⟩:=J.o;have a9:=ze aH;have ay:=ze bg;have o1:=aC.cell 1;have o2:=aC.cell 2;have o3:=aC.cell 3;have o4:=aC.cell 4;have o5:=aC.cell 5;have o6:=aC.cell 6;have m:=aC.lt;have aj :=G.o.cell 0;have aw :=G.o.cell 1;have ar :=G.o.cell 2;have ap :=G.o.cell 3;have aq :=G.o.cell 4;have al :=G.o.cell 5;have j:=G.o.lt;have au :=O.cell 0;have ai :=O.cell 1;have ax :=O.cell 2;have an :=O.cell 3;have ak :=O.cell 4;have ao :=O.cell 5;have l:=O.lt;simp at o1 o2 o3 o4 o5 o6 aj aw ar ap aq al au ai ax an ak ao;have ac:=ze aC;clear aC O aH bg
    refine zJ (S:=fun w' =>Hid (Below U.heap.size U w')/\w'.cell? ⟨gs,1,none⟩=some (.int .i64 x4)/\w'.cell? ⟨gs,2,none⟩=some (.slice A4 k4 c4)/\w'.cell? ⟨gs,3,none⟩=some (.bool Z)/\w'.cell? ⟨gs,4,none⟩=some (.int .i64 y4)/\w'.cell? ⟨gs,5,none⟩=some (.slice Y aa ab)/\w'.cell? ⟨gs,6,none⟩=some (.bool t4)/\w'.cell? ⟨gx,0,none⟩=some (.int .i64 x2)/\w'.cell? ⟨gx,1,none⟩=some (.slice A2 k2 c2)/\w'.cell? ⟨gx,2,none⟩=some (.bool s2)/\w'.cell? ⟨gx,3,none⟩=some (.int .i64 y2)/\w'.cell? ⟨gx,4,none⟩=some (.slice B2 av am)/\w'.cell? ⟨gx,5,none⟩=some (.bool t2)/\w'.cell? ⟨w.heap.size+1,0,none⟩=some (.int .i64 xw)/\w'.cell? ⟨w.heap.size+1,1,none⟩=some (.slice Aw kw cw)/\w'.cell? ⟨w.heap.size+1,2,none⟩=some (.bool sw)/\w'.cell? ⟨w.heap.size+1,3,none⟩=some (.int .i64 yw)/\w'.cell? ⟨w.heap.size+1,4,none⟩=some (.slice Bw aZ a7)/\w'.cell? ⟨w.heap.size+1,5,none⟩=some (.bool tw)) 11 (by kernel_rfl) (by kernel_rfl) (zl (zu U) (fun hB=>⟨zh hB m o1,zh hB m o2,zh hB m o3,zh hB m o4,zh hB m o5,zh hB m o6,zh hB j aj,zh hB j aw,zh hB j ar,zh hB j ap,zh hB j aq,zh hB j al,zh hB l au,zh hB l ai,zh hB l ax,zh hB l an,zh hB l ak,zh hB l ao⟩)) (fun hHeld=>?_)
    refine HH.tk 0 ?_;refine HH.tk 1 ?_;refine HH.tk 2 ?_;refine HH.tk 3 ?_;refine HH.tk 4 ?_;refine HH.tk 5 ?_;refine HH.tk 6 ?_;refine HH.rd 7 (fun K hK=>?_)
    go_simp
    go_at_call 123;refine (VQ _ _ q wt _ (ah.o.below hHeld.1.out) (a9.o.below hHeld.1.out) bl.o bd.o).mono ?_;rintro e w6 ⟨v6,rfl,aI,aJ⟩;have aG:=ze aI;have ae:=hHeld;clear hHeld;refine hK.out _ _ (zl (zr aJ ae.1) (fun hB=>⟨zh hB m o1,zh hB m o2,zh hB m o3,zh hB m o4,zh hB m o5,zh hB m o6,zh hB j aj,zh hB j aw,zh hB j ar,zh hB j ap,zh hB j aq,zh hB j al,zh hB l au,zh hB l ai,zh hB l ax,zh hB l an,zh hB l ak,zh hB l ao⟩)) (fun hHeld=>?_);clear ae hK K
    try simp only [Act.put,xST]
    clear aJ aI;refine HH.rd 8 (fun K hK=>?_)
    go_simp
    go_at_call 24;refine (YA _ _ q0 (q*wt) _ (ay.o.below hHeld.1.out) aG.o b1.o bf.o).mono ?_;rintro e w7 ⟨v7,rfl,aE,aF⟩;obtain ⟨x7,A7,k7,c7,s7,y7,B7,b2,b6,t7,rfl⟩:=aE.agg;have aQ:=ze aE;have ae:=hHeld;clear hHeld;refine hK.out _ _ (zl (zr aF ae.1) (fun hB=>⟨zh hB m o1,zh hB m o2,zh hB m o3,zh hB m o4,zh hB m o5,zh hB m o6,zh hB j aj,zh hB j aw,zh hB j ar,zh hB j ap,zh hB j aq,zh hB j al,zh hB l au,zh hB l ai,zh hB l ax,zh hB l an,zh hB l ak,zh hB l ao⟩)) (fun hHeld=>?_);clear ae hK K
    try simp only [Act.put,xST]
    clear aF aE aG;refine HH.tk 9 ?_;refine HH.tk 10 ?_;have R:=(hHeld.1).out
    try clear z0 z1 z2 z3 z4 z5 z6 zL
    replace u:=ze (u.o.below R);replace C:=ze (C.o.below R);replace I:=ze (xp.below I.o R);replace L:=ze (yh L.o R);replace ac:=kb_ ac R;clear R hHeld;refine HH.done (by kernel_rfl) ?_;simp only [List.drop_succ_cons,List.drop_zero];obtain ⟨z0,z1,z2,z3,z4,z5,z6,zL⟩:=bkc7 ac.o;clear z0 z1 z2 z3 z4 z5 z6 zL;have a1:=ac.o.cell 1;have a2:=ac.o.cell 2;have a3:=ac.o.cell 3;have a4:=ac.o.cell 4;have a5:=ac.o.cell 5;have a6:=ac.o.cell 6;have f1:=ac.o.frozen 1;have f2:=ac.o.frozen 2;have f3:=ac.o.frozen 3;have f4:=ac.o.frozen 4;have f5:=ac.o.frozen 5;have f6:=ac.o.frozen 6;simp at a1 a2 a3 a4 a5 a6;go_wp2_with fail
    go_end0
    have bA:Chg (· =gs) w7 (World.rat1 w7 gs x7 A7 k7 c7 s7 y7 B7 b2 b6 t7):=zfx;have bR:∀ z,z=gs->zZ w7 z:=fun z e=>by subst e;exact I.o.noDig
    refine ⟨rfl,C.o.chg bA (C.o.neB ac.o) bR,u.o.chg bA (u.o.ne ac.o) bR,by rw [b3.o];exact I.o.put aQ.o,(L.o.mono (T:=fun x=>x=b\/x=gm\/x=gs) (fun x _ h=>h.elim .inl (fun h=>.inr (.inl h)))).trans (T:=fun x=>x=gs) bA (fun x _ h=>.inr (.inr h))⟩
  have b8:(k:Int)<(r.terms.length:Int):=by omega
  obtain ⟨ad,eA,b4,p0,p1,bZ,bL⟩:=N.o.at_ bv;subst eA;obtain ⟨q,hq,aY,aS⟩:=HO.o.coef r.terms[k] (List.getElem_mem bv)
  have bY:V6 wt F (r.terms.take (k+1))=zt8 (V6 wt F (r.terms.take k)) r.terms[k].name (((V6 wt F (r.terms.take k)) r.terms[k].name).getD 0+q*wt):=by
   rw [zpk bv];unfold zs9 XV;rw [hq];rfl
  have bN:=HO.o.part k hk r.terms[k].name;have bG:=ze bY;have bz:=ze bN;have HQ:=ze hq;have bl:=ze aY;have bf:=ze aS;have bd:=ze HO.o.wtl;have bM:=ze bL;obtain ⟨t,bT⟩:∃ t,t=r.terms[k]:=⟨_,rfl⟩;rw [<- bT] at p0 p1 bG bz HQ bM;have hx:=zf wr (.cells #[str t.name,str t.coef] 35);have V:=ze (Blk.new wr 35 #[str t.name,str t.coef])
  have bH (w' :World) (hb:Below wr.heap.size wr w'):xp w' gs gm q0:=by
   obtain ⟨_,_,_,_,_,_,_,_,_,_,Q,X⟩:=I.o;exact ⟨_,_,_,_,_,_,_,_,_,_,Q.below hb Q.lt,X.below hb⟩
  replace u:=ze (u.o.below hx);replace I:=ze (bH _ hx);replace J:=ze (J.o.below hx);replace M:=kb_ M hx;replace C:=ze (C.o.below hx);replace N:=ze (zk.below N.o hx);replace L:=ze (L.o.trans (Chg.of_below (S:=fun x=>x=b\/x=gm) hx) (fun _ _ h=>h));clear bY bN hq aY aS bZ bL bT hx bH
  go_upto_region 4 with fail
  clear p0 p1 b4;generalize wr.alloc (.cells #[str t.name,str t.coef] 35)=W2 at V u I J M C N L |-;generalize wr.heap.size=gt at V |-;have t1:=V.o.cell 1;simp at t1;have aK:=ZG b ⟨t.coef.toArray⟩ W2 C.o (by rw [<- zm,xR];exact bM.o);rw [xR] at aK;have aR:=ze aK;clear aK;go_wp2_with fail;refine aR.o.mono ?_;rintro e w2 ⟨v,ok,rfl,⟨x2,A2,k2,c2,s2,y2,B2,av,am,t2,rfl⟩,bD,aU,a8,aT⟩;have hx:=zf w2 (.cells #[.int .i64 x2,.slice A2 k2 c2,.bool s2,.int .i64 y2,.slice B2 av am,.bool t2] 55);have ag:Chg (· =b) W2 (w2.alloc (.cells #[.int .i64 x2,.slice A2 k2 c2,.bool s2,.int .i64 y2,.slice B2 av am,.bool t2] 55)):=yh aT hx;replace u:=ze (u.o.book C.o ag bh.o)
  replace I:Hid (xp (w2.alloc (.cells #[.int .i64 x2,.slice A2 k2 c2,.bool s2,.int .i64 y2,.slice B2 av am,.bool t2] 55)) gs gm q0):=by
   obtain ⟨_,_,_,_,_,_,_,_,_,_,Q,X⟩:=I.o;exact ⟨_,_,_,_,_,_,_,_,_,_,C.o.keepBlk ag Q,C.o.keepR ag X⟩
  replace N:=ze (C.o.keepT ag N.o);replace V:=ze (C.o.keepBlk ag V.o);replace M:=ze (C.o.keepBlk ag M.o);replace J:=ze (C.o.keepRB ag J.o);replace L:=ze (L.o.trans (S:=fun x=>x=b\/x=gm) (T:=fun x=>x=b) ag (fun x _ h=>.inl h));replace C:=ze (a8.below hx);have G:=ze (Blk.new w2 55 #[.int .i64 x2,.slice A2 k2 c2,.bool s2,.int .i64 y2,.slice B2 av am,.bool t2]);have ah:=ze ((aU q HQ.o).below hx);clear a8 aT hx ag aU bD aR t1
  go_upto_region 5 with fail
  generalize w2.alloc (.cells #[.int .i64 x2,.slice A2 k2 c2,.bool s2,.int .i64 y2,.slice B2 av am,.bool t2] 55)=U at G ah C N u I V M J L |-;generalize w2.heap.size=gx at G |-;obtain ⟨x3,A3,k3,c3,s3,y3,B3,b9,b7,t3,bc,bg⟩:=I.o;have g0:=bc.cell 0;have n0:=V.o.cell 0;simp at g0 n0;obtain ⟨D,aL,_,bJ⟩:=id u.o;have bj:=bJ t.name;have aO (w' :World) (h:ZM w' gm D):=ZZ (w:=w') YE Vv (zcq _) h t.name true;simp only [if_true] at aO;obtain ⟨vo,aD⟩:∃ vo,vo=(za6 t.name D).getD (.agg #[.int .i64 0,.slice none 0 0,.bool false,.int .i64 0,.slice none 0 0,.bool false]):=⟨_,rfl⟩;obtain ⟨bo,bC⟩:∃ bo,bo=(za6 t.name D).isSome:=⟨_,rfl⟩
  have ay:Hid ((bo=false/\(V6 wt F (r.terms.take k)) t.name=none/\vo=(.agg #[.int .i64 0,.slice none 0 0,.bool false,.int .i64 0,.slice none 0 0,.bool false]))\/(bo=true/\∃ q,(V6 wt F (r.terms.take k)) t.name=some q/\yc U vo q)):=by
   rw [aD,bC]
   split at bj
   . rename_i e;rw [e];exact .inl ⟨rfl,bj,rfl⟩
   rename_i v e;rw [e];exact .inr ⟨rfl,bj⟩
  rw [<- aD, <- bC] at aO
  obtain ⟨x4,A4,k4,c4,Z,y4,Y,aa,ab,t4,ev⟩:∃ (x:Int) (A:Option Addr) (k c:Nat) (s:Bool) (y:Int) (B:Option Addr) (k' c' :Nat) (t:Bool),vo= .agg #[.int .i64 x,.slice A k c,.bool s,.int .i64 y,.slice B k' c',.bool t]:=by
   rcases ay.o with ⟨_,_,e⟩ | ⟨_,q,_,h⟩
   . exact ⟨_,_,_,_,_,_,_,_,_,_,e⟩
   . exact h.agg
  rw [ev] at aO ay;have bI:=(zu U).out;have aW:=zf U (.cells #[.int .i64 0,.slice none 0 0,.bool false,.int .i64 0,.slice none 0 0,.bool false] 55);have l1:=aO U.drew (aL.below bI aL.lt);have l2:=aO (U.alloc (.cells #[.int .i64 0,.slice none 0 0,.bool false,.int .i64 0,.slice none 0 0,.bool false] 55)).drew ((aL.below aW aL.lt).below (zu _).out (aL.below aW aL.lt).lt);have g1:=(bc.below aW bc.lt).cell 0;have n1:=(V.o.below aW V.o.lt).cell 0;simp at g1 n1;clear bj aO aD bC bJ bI aW aL ev;have bU:Hid (w.heap.size<=U.heap.size):=L.o.size;have bQ:Hid (gx<U.heap.size):=G.o.lt;have bO:Hid (w.heap.size+1<U.heap.size):=J.o.lt;go_wp2_with fail
  go_region
  all_goals
   have aB:=ext (zf U (.cells #[.int .i64 x4,.slice A4 k4 c4,.bool Z,.int .i64 y4,.slice Y aa ab,.bool t4] 55)) (zu (U.alloc (.cells #[.int .i64 x4,.slice A4 k4 c4,.bool Z,.int .i64 y4,.slice Y aa ab,.bool t4] 55))).out;have E:Hid (Blk (U.alloc (.cells #[.int .i64 x4,.slice A4 k4 c4,.bool Z,.int .i64 y4,.slice Y aa ab,.bool t4] 55)).drew U.heap.size 55 #[.int .i64 x4,.slice A4 k4 c4,.bool Z,.int .i64 y4,.slice Y aa ab,.bool t4]):=Blk.new U 55 #[.int .i64 x4,.slice A4 k4 c4,.bool Z,.int .i64 y4,.slice Y aa ab,.bool t4];replace I:=ze (I.o.below aB);replace u:=ze (u.o.below aB);replace C:=ze (C.o.below aB);replace N:=ze (zk.below N.o aB);replace V:=kb_ V aB;replace M:=kb_ M aB;replace G:=kb_ G aB;replace J:=ze (J.o.below aB);replace ah:=ze (ah.o.below aB);replace L:=ze (yh L.o aB)
   have bn:Hid ((bo=false/\(V6 wt F (r.terms.take k)) t.name=none)\/(bo=true/\∃ q,(V6 wt F (r.terms.take k)) t.name=some q/\yc (U.alloc (.cells #[.int .i64 x4,.slice A4 k4 c4,.bool Z,.int .i64 y4,.slice Y aa ab,.bool t4] 55)).drew (.agg #[.int .i64 x4,.slice A4 k4 c4,.bool Z,.int .i64 y4,.slice Y aa ab,.bool t4]) q)):=by
    rcases ay.o with ⟨Q,X,_⟩ | ⟨Q,q,X,h3⟩
    . exact .inl ⟨Q,X⟩
    . exact .inr ⟨Q,q,X,h3.below aB⟩
   clear aB ay bc bg g0 n0 l1 l2 g1 n1;generalize (U.alloc (.cells #[.int .i64 x4,.slice A4 k4 c4,.bool Z,.int .i64 y4,.slice Y aa ab,.bool t4] 55)).drew=W4 at E I u C N V M G J ah L bn |-;have bs:Hid (w.heap.size<=U.heap.size):=bU;have bK:Hid (gx<U.heap.size):=bQ;have bS:Hid (w.heap.size+1<U.heap.size):=bO;clear bU bQ bO;generalize U.heap.size=gO at E bs bK bS |-
   rcases bn.o with ⟨rfl,hn⟩ | ⟨rfl,fo,hn,aD⟩
   . have aN:Hid (((V6 wt F (r.terms.take k)) t.name).getD 0=0):=ze (by rw [hn];rfl)
     clear hn bn;have ba:Hid (Z9 8388608 0):=by rw [<- aN.o];exact bz.o
     go_wp2_with fail;refine (YC 0 _ (by omega) (by omega)).mono ?_;rintro e w5 ⟨v,rfl,hv,aA⟩;obtain ⟨x4,A4,k4,c4,Z,y4,Y,aa,ab,t4,rfl⟩:=hv.agg;have bW:=ze hv;replace I:=ze (I.o.below aA);replace u:=ze (u.o.below aA);replace C:=ze (C.o.below aA);replace N:=ze (zk.below N.o aA);replace V:=kb_ V aA;replace M:=kb_ M aA;replace G:=kb_ G aA;replace E:=kb_ E aA;replace J:=ze (J.o.below aA);replace ah:=ze (ah.o.below aA);replace L:=ze (yh L.o aA);clear aA hv;have a0:=E.o.cell 0;have a1:=E.o.cell 1;have a2:=E.o.cell 2;have a3:=E.o.cell 3;have a4:=E.o.cell 4;have a5:=E.o.cell 5;have f0:=E.o.frozen 0;have f1:=E.o.frozen 1;have f2:=E.o.frozen 2;have f3:=E.o.frozen 3;have f4:=E.o.frozen 4;have f5:=E.o.frozen 5;simp at a0 a1 a2 a3 a4 a5;go_wp2_with fail;clear a0 a1 a2 a3 a4 a5 f0 f1 f2 f3 f4 f5;have aP:∀ z,z=gO->zZ w5 z:=fun z hz=>by subst hz;exact E.o.noDig (XJ _ _ _ _ _ _ _ _ _ _)
     have az:=Chg.ratSet (w:=w5) (g:=gO) (x:=x4) (A:=A4) (k:=k4) (c:=c4) (s:=Z) (y:=y4) (B:=Y) (k' :=aa) (c' :=ab) (t:=t4);have bP:=yx (x:=x4) (A:=A4) (k:=k4) (c:=c4) (s:=Z) (y:=y4) (B:=Y) (k' :=aa) (c' :=ab) (t:=t4) E.o;have aD:=yc.stored (x:=x4) (A:=A4) (k:=k4) (c:=c4) (s:=Z) (y:=y4) (B:=Y) (k' :=aa) (c' :=ab) (t:=t4) bW.o E.o
     have bV:xp (World.rat w5 gO x4 A4 k4 c4 Z y4 Y aa ab t4) gs gm q0:=by
      obtain ⟨_,_,_,_,_,_,_,_,_,_,Q,X⟩:=I.o;exact ⟨_,_,_,_,_,_,_,_,_,_,az.blk Q (fun e=>yX Q E.o (by decide) e),az.rat X aP⟩
     have bX:zcg (World.rat w5 gO x4 A4 k4 c4 Z y4 Y aa ab t4) (w.heap.size+1) wt:=by
      obtain ⟨_,_,_,_,_,_,_,_,_,_,Q,X⟩:=J.o;exact ⟨_,_,_,_,_,_,_,_,_,_,az.blk Q (fun e=>by have:=bS.o;omega),az.rat X aP⟩
     replace u:=ze (u.o.chg az (u.o.ne E.o) aP);replace C:=ze (C.o.chg az (C.o.neB E.o) aP);replace N:=ze (N.o.chg az (fun x hx e=>absurd hx (by have:=bs.o;omega)));replace V:=ze (az.blk V.o (fun e=>yX V.o E.o (by decide) e));replace M:=ze (az.blk M.o (fun e=>yX M.o E.o (by decide) e));replace G:=ze (az.blk G.o (fun e=>by have:=bK.o;omega));replace ah:=ze (az.rat ah.o aP);replace L:Hid (Chg (fun x=>x=b\/x=gm) w (World.rat w5 gO x4 A4 k4 c4 Z y4 Y aa ab t4)):=ze (L.o.trans (S:=fun x=>x=b\/x=gm) (T:=fun x=>x=gO) az (fun x hx e=>absurd hx (by have:=bs.o;omega)));have I:=ze bV;have J:=ze bX;have E:=ze bP;have ay:=ze aD;clear az bP aD bV bX aP bW;obtain ⟨fo,bb⟩:∃ fo:Rat,fo=0:=⟨_,rfl⟩;have aN:Hid (((V6 wt F (r.terms.take k)) t.name).getD 0=fo):=by rw [bb];exact aN
     have ba:Hid (Z9 8388608 fo):=by rw [bb];exact ba
     have ay:Hid (yc (World.rat w5 gO x4 A4 k4 c4 Z y4 Y aa ab t4) (.agg #[.int .i64 x4,.slice A4 k4 c4,.bool Z,.int .i64 y4,.slice Y aa ab,.bool t4]) fo):=by rw [bb];exact ay
     clear bb;obtain ⟨W5,be⟩:∃ W5,W5=World.rat w5 gO x4 A4 k4 c4 Z y4 Y aa ab t4:=⟨_,rfl⟩;rw [<- be] at u C N V M G ah L I J E ay;simp only [World.rat] at be;rw [<- be];clear be;obtain ⟨xw,Aw,kw,cw,sw,yw,Bw,aZ,a7,tw,O,aH⟩:=J.o;have a9:=ze aH;have aM:=I.o.map;have g0:=aM.1;have sL:=aM.2;have n0:=V.o.cell 0;have nL:=V.o.lt;have o0:=E.o.cell 0;have o1:=E.o.cell 1;have o2:=E.o.cell 2;have o3:=E.o.cell 3;have o4:=E.o.cell 4;have o5:=E.o.cell 5;have m:=E.o.lt;have aj :=G.o.cell 0;have aw :=G.o.cell 1;have ar :=G.o.cell 2;have ap :=G.o.cell 3;have aq :=G.o.cell 4;have al :=G.o.cell 5;have j:=G.o.lt;have au :=O.cell 0;have ai :=O.cell 1;have ax :=O.cell 2;have an :=O.cell 3;have ak :=O.cell 4;have ao :=O.cell 5;have l:=O.lt;simp at n0 o0 o1 o2 o3 o4 o5 aj aw ar ap aq al au ai ax an ak ao;clear aM O aH
     refine zJ (S:=fun w' =>Hid (Below W5.heap.size W5 w')/\w'.cell? ⟨gs,0,none⟩=some (.map (some gm))/\w'.cell? ⟨gt,0,none⟩=some (str t.name)/\w'.cell? ⟨gO,0,none⟩=some (.int .i64 x4)/\w'.cell? ⟨gO,1,none⟩=some (.slice A4 k4 c4)/\w'.cell? ⟨gO,2,none⟩=some (.bool Z)/\w'.cell? ⟨gO,3,none⟩=some (.int .i64 y4)/\w'.cell? ⟨gO,4,none⟩=some (.slice Y aa ab)/\w'.cell? ⟨gO,5,none⟩=some (.bool t4)/\w'.cell? ⟨gx,0,none⟩=some (.int .i64 x2)/\w'.cell? ⟨gx,1,none⟩=some (.slice A2 k2 c2)/\w'.cell? ⟨gx,2,none⟩=some (.bool s2)/\w'.cell? ⟨gx,3,none⟩=some (.int .i64 y2)/\w'.cell? ⟨gx,4,none⟩=some (.slice B2 av am)/\w'.cell? ⟨gx,5,none⟩=some (.bool t2)/\w'.cell? ⟨w.heap.size+1,0,none⟩=some (.int .i64 xw)/\w'.cell? ⟨w.heap.size+1,1,none⟩=some (.slice Aw kw cw)/\w'.cell? ⟨w.heap.size+1,2,none⟩=some (.bool sw)/\w'.cell? ⟨w.heap.size+1,3,none⟩=some (.int .i64 yw)/\w'.cell? ⟨w.heap.size+1,4,none⟩=some (.slice Bw aZ a7)/\w'.cell? ⟨w.heap.size+1,5,none⟩=some (.bool tw)) 11 (by kernel_rfl) (by kernel_rfl) (zl (zu W5) (fun hB=>⟨zh hB sL g0,zh hB nL n0,zh hB m o0,zh hB m o1,zh hB m o2,zh hB m o3,zh hB m o4,zh hB m o5,zh hB j aj,zh hB j aw,zh hB j ar,zh hB j ap,zh hB j aq,zh hB j al,zh hB l au,zh hB l ai,zh hB l ax,zh hB l an,zh hB l ak,zh hB l ao⟩)) (fun hHeld=>?_)
     refine HH.tk 0 ?_;refine HH.tk 1 ?_;refine HH.tk 2 ?_;refine HH.tk 3 ?_;refine HH.tk 4 ?_;refine HH.tk 5 ?_;refine HH.tk 6 ?_;refine HH.tk 7 ?_;refine HH.tk 8 ?_;refine HH.rd 9 (fun K hK=>?_)
     go_simp
     go_at_call 123;refine (VQ _ _ q wt _ (ah.o.below hHeld.1.out) (a9.o.below hHeld.1.out) bl.o bd.o).mono ?_;rintro e w6 ⟨v6,rfl,aI,aJ⟩;have aG:=ze aI;have ae:=hHeld;clear hHeld;refine hK.out _ _ (zl (zr aJ ae.1) (fun hB=>⟨zh hB sL g0,zh hB nL n0,zh hB m o0,zh hB m o1,zh hB m o2,zh hB m o3,zh hB m o4,zh hB m o5,zh hB j aj,zh hB j aw,zh hB j ar,zh hB j ap,zh hB j aq,zh hB j al,zh hB l au,zh hB l ai,zh hB l ax,zh hB l an,zh hB l ak,zh hB l ao⟩)) (fun hHeld=>?_);clear ae hK K
     try simp only [Act.put,xST]
     clear aJ aI;refine HH.rd 10 (fun K hK=>?_)
     go_simp
     go_at_call 24;refine (YA _ _ fo (q*wt) _ (ay.o.below hHeld.1.out) aG.o ba.o bf.o).mono ?_;rintro e w7 ⟨v7,rfl,aE,aF⟩;have aQ:=ze aE;have ae:=hHeld;clear hHeld;refine hK.out _ _ (zl (zr aF ae.1) (fun hB=>⟨zh hB sL g0,zh hB nL n0,zh hB m o0,zh hB m o1,zh hB m o2,zh hB m o3,zh hB m o4,zh hB m o5,zh hB j aj,zh hB j aw,zh hB j ar,zh hB j ap,zh hB j aq,zh hB j al,zh hB l au,zh hB l ai,zh hB l ax,zh hB l an,zh hB l ak,zh hB l ao⟩)) (fun hHeld=>?_);clear ae hK K
     try simp only [Act.put,xST]
     clear aF aE aG;have R:=(hHeld.1).out
     try clear z0 z1 zL
     replace u:=ze (u.o.below R);replace C:=ze (C.o.below R);replace J:=ze (J.o.below R);replace I:=ze (xp.below I.o R);replace N:=ze (zk.below N.o R);replace M:=kb_ M R;replace L:=ze (yh L.o R);clear R hHeld;refine HH.done (by kernel_rfl) ?_;simp only [List.drop_succ_cons,List.drop_zero];obtain ⟨z0,z1,zL⟩:=zxb M.o;obtain ⟨w8,hu,aX,aV⟩:=Yi.put (s:=t.name) YE Vv u.o aQ.o;have bq:=ze aX;have af:=ze aV;clear aX aV;go_wp2_with fail;have bx:=u.o.keepB af.o C.o (fun e=>bh.o e.symm)
     have bB:xp w8 gs gm q0:=by
      obtain ⟨_,_,_,_,_,_,_,_,_,_,Q,X⟩:=I.o;exact ⟨_,_,_,_,_,_,_,_,_,_,u.o.keepBlk af.o Q,u.o.keepR af.o X⟩
     have bF:zcg w8 (w.heap.size+1) wt:=by
      obtain ⟨_,_,_,_,_,_,_,_,_,_,Q,X⟩:=J.o;exact ⟨_,_,_,_,_,_,_,_,_,_,u.o.keepBlk af.o Q,u.o.keepR af.o X⟩
     have bw:=u.o.keepBlk af.o M.o;have br:=u.o.keepT af.o N.o;have bp:Chg (fun x=>x=b\/x=gm) w w8:=L.o.trans (S:=fun x=>x=b\/x=gm) (T:=fun x=>x=gm) af.o (fun x _ h=>.inr h);have bu:Yi w8 gm (V6 wt F (r.terms.take (k+1))):=by rw [bG.o,aN.o];exact bq.o
     have b5:IntKind.i64.wrap ((k:Int)+1)=((k+1:Nat):Int):=by rw [IntKind.wrap_i64];omega
     go_roundw
     case rel=>exact ⟨k+1,by omega,by go_num,bu,bB,bF,bw,bx,br,bp⟩
     case measure=>simp [intOf];omega
   . have aN:Hid (((V6 wt F (r.terms.take k)) t.name).getD 0=fo):=ze (by rw [hn];rfl)
     have ay:=ze aD;have ba:Hid (Z9 8388608 fo):=by rw [<- aN.o];exact bz.o
     clear hn aD bn;generalize W4=W5 at E I u C N V M G J ah L ay |-;go_wp2_with fail;obtain ⟨xw,Aw,kw,cw,sw,yw,Bw,aZ,a7,tw,O,aH⟩:=J.o;have a9:=ze aH;have aM:=I.o.map;have g0:=aM.1;have sL:=aM.2;have n0:=V.o.cell 0;have nL:=V.o.lt;have o0:=E.o.cell 0;have o1:=E.o.cell 1;have o2:=E.o.cell 2;have o3:=E.o.cell 3;have o4:=E.o.cell 4;have o5:=E.o.cell 5;have m:=E.o.lt;have aj :=G.o.cell 0;have aw :=G.o.cell 1;have ar :=G.o.cell 2;have ap :=G.o.cell 3;have aq :=G.o.cell 4;have al :=G.o.cell 5;have j:=G.o.lt;have au :=O.cell 0;have ai :=O.cell 1;have ax :=O.cell 2;have an :=O.cell 3;have ak :=O.cell 4;have ao :=O.cell 5;have l:=O.lt;simp at n0 o0 o1 o2 o3 o4 o5 aj aw ar ap aq al au ai ax an ak ao;clear aM O aH
     refine zJ (S:=fun w' =>Hid (Below W5.heap.size W5 w')/\w'.cell? ⟨gs,0,none⟩=some (.map (some gm))/\w'.cell? ⟨gt,0,none⟩=some (str t.name)/\w'.cell? ⟨gO,0,none⟩=some (.int .i64 x4)/\w'.cell? ⟨gO,1,none⟩=some (.slice A4 k4 c4)/\w'.cell? ⟨gO,2,none⟩=some (.bool Z)/\w'.cell? ⟨gO,3,none⟩=some (.int .i64 y4)/\w'.cell? ⟨gO,4,none⟩=some (.slice Y aa ab)/\w'.cell? ⟨gO,5,none⟩=some (.bool t4)/\w'.cell? ⟨gx,0,none⟩=some (.int .i64 x2)/\w'.cell? ⟨gx,1,none⟩=some (.slice A2 k2 c2)/\w'.cell? ⟨gx,2,none⟩=some (.bool s2)/\w'.cell? ⟨gx,3,none⟩=some (.int .i64 y2)/\w'.cell? ⟨gx,4,none⟩=some (.slice B2 av am)/\w'.cell? ⟨gx,5,none⟩=some (.bool t2)/\w'.cell? ⟨w.heap.size+1,0,none⟩=some (.int .i64 xw)/\w'.cell? ⟨w.heap.size+1,1,none⟩=some (.slice Aw kw cw)/\w'.cell? ⟨w.heap.size+1,2,none⟩=some (.bool sw)/\w'.cell? ⟨w.heap.size+1,3,none⟩=some (.int .i64 yw)/\w'.cell? ⟨w.heap.size+1,4,none⟩=some (.slice Bw aZ a7)/\w'.cell? ⟨w.heap.size+1,5,none⟩=some (.bool tw)) 11 (by kernel_rfl) (by kernel_rfl) (zl (zu W5) (fun hB=>⟨zh hB sL g0,zh hB nL n0,zh hB m o0,zh hB m o1,zh hB m o2,zh hB m o3,zh hB m o4,zh hB m o5,zh hB j aj,zh hB j aw,zh hB j ar,zh hB j ap,zh hB j aq,zh hB j al,zh hB l au,zh hB l ai,zh hB l ax,zh hB l an,zh hB l ak,zh hB l ao⟩)) (fun hHeld=>?_)
     refine HH.tk 0 ?_;refine HH.tk 1 ?_;refine HH.tk 2 ?_;refine HH.tk 3 ?_;refine HH.tk 4 ?_;refine HH.tk 5 ?_;refine HH.tk 6 ?_;refine HH.tk 7 ?_;refine HH.tk 8 ?_;refine HH.rd 9 (fun K hK=>?_)
     go_simp
     go_at_call 123;refine (VQ _ _ q wt _ (ah.o.below hHeld.1.out) (a9.o.below hHeld.1.out) bl.o bd.o).mono ?_;rintro e w6 ⟨v6,rfl,aI,aJ⟩;have aG:=ze aI;have ae:=hHeld;clear hHeld;refine hK.out _ _ (zl (zr aJ ae.1) (fun hB=>⟨zh hB sL g0,zh hB nL n0,zh hB m o0,zh hB m o1,zh hB m o2,zh hB m o3,zh hB m o4,zh hB m o5,zh hB j aj,zh hB j aw,zh hB j ar,zh hB j ap,zh hB j aq,zh hB j al,zh hB l au,zh hB l ai,zh hB l ax,zh hB l an,zh hB l ak,zh hB l ao⟩)) (fun hHeld=>?_);clear ae hK K
     try simp only [Act.put,xST]
     clear aJ aI;refine HH.rd 10 (fun K hK=>?_)
     go_simp
     go_at_call 24;refine (YA _ _ fo (q*wt) _ (ay.o.below hHeld.1.out) aG.o ba.o bf.o).mono ?_;rintro e w7 ⟨v7,rfl,aE,aF⟩;have aQ:=ze aE;have ae:=hHeld;clear hHeld;refine hK.out _ _ (zl (zr aF ae.1) (fun hB=>⟨zh hB sL g0,zh hB nL n0,zh hB m o0,zh hB m o1,zh hB m o2,zh hB m o3,zh hB m o4,zh hB m o5,zh hB j aj,zh hB j aw,zh hB j ar,zh hB j ap,zh hB j aq,zh hB j al,zh hB l au,zh hB l ai,zh hB l ax,zh hB l an,zh hB l ak,zh hB l ao⟩)) (fun hHeld=>?_);clear ae hK K
     try simp only [Act.put,xST]
     clear aF aE aG;have R:=(hHeld.1).out
     try clear z0 z1 zL
     replace u:=ze (u.o.below R);replace C:=ze (C.o.below R);replace J:=ze (J.o.below R);replace I:=ze (xp.below I.o R);replace N:=ze (zk.below N.o R);replace M:=kb_ M R;replace L:=ze (yh L.o R);clear R hHeld;refine HH.done (by kernel_rfl) ?_;simp only [List.drop_succ_cons,List.drop_zero];obtain ⟨z0,z1,zL⟩:=zxb M.o;obtain ⟨w8,hu,aX,aV⟩:=Yi.put (s:=t.name) YE Vv u.o aQ.o;have bq:=ze aX;have af:=ze aV;clear aX aV;go_wp2_with fail;have bx:=u.o.keepB af.o C.o (fun e=>bh.o e.symm)
     have bB:xp w8 gs gm q0:=by
      obtain ⟨_,_,_,_,_,_,_,_,_,_,Q,X⟩:=I.o;exact ⟨_,_,_,_,_,_,_,_,_,_,u.o.keepBlk af.o Q,u.o.keepR af.o X⟩
     have bF:zcg w8 (w.heap.size+1) wt:=by
      obtain ⟨_,_,_,_,_,_,_,_,_,_,Q,X⟩:=J.o;exact ⟨_,_,_,_,_,_,_,_,_,_,u.o.keepBlk af.o Q,u.o.keepR af.o X⟩
     have bw:=u.o.keepBlk af.o M.o;have br:=u.o.keepT af.o N.o;have bp:Chg (fun x=>x=b\/x=gm) w w8:=L.o.trans (S:=fun x=>x=b\/x=gm) (T:=fun x=>x=gm) af.o (fun x _ h=>.inr h);have bu:Yi w8 gm (V6 wt F (r.terms.take (k+1))):=by rw [bG.o,aN.o];exact bq.o
     have b5:IntKind.i64.wrap ((k:Int)+1)=((k+1:Nat):Int):=by rw [IntKind.wrap_i64];omega
     go_roundw
     case rel=>exact ⟨k+1,by omega,by go_num,bu,bB,bF,bw,bx,br,bp⟩
     case measure=>simp [intOf];omega
end Go.Proofs.YthbmhkiphmcogaaGreatDoor
