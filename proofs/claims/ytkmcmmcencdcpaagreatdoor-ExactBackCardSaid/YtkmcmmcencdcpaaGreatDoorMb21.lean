/- Parts of the proof: memory, numbers, walks of the functions that are called. -/
import Derived.Carry
import Derived.Test.YtkmcmmcencdcpaaGreatDoorMb18
import Derived.Test.YtkmcmmcencdcpaaGreatDoorMb20
set_option linter.unusedVariables false
set_option linter.unusedSimpArgs false
namespace Go.Proofs.YtkmcmmcencdcpaaGreatDoor
open Go.RowKit Go.Deep Go.Maps Go.Sort
attribute [local go_sem ↓] Go.wp_at_zero Go.wp_at_succ
def Vd (w:World) (B:Nat) (hs:List Value) (L:List (List zR)):Prop:=hs.length=L.length/\∀ j,j<L.length->zo w B (hs.getD j undef) (L.getD j [])
theorem Vd.below {w w' :World} {B:Nat} {hs:List Value} {L:List (List zR)} (h:Vd w B hs L) (hb:Below B w w'):Vd w' B hs L:=by
 refine ⟨h.1,fun j hj=>?_⟩
 obtain ⟨A,c,h1,h2,h3,h4,h5,h6⟩:=h.2 j hj
 exact ⟨A,c,h1,h2,h3,h4,h5.below hb,h6⟩
theorem zP.below' {w w' :World} {B:Nat} {v:Value} {l:List yv} (h:zP w B v l) (hb:Below B w w'):zP w' B v l:=by
 obtain ⟨A,c,H,h1,h2,h3,h4,h5,h6,h7⟩:=h
 refine ⟨A,c,H,h1,h2,h3,h4,h5.below hb,fun i hi=>?_,h7⟩
 obtain ⟨A,c,h1,h2,h3,h4,h5,h6⟩:=h6 i hi
 exact ⟨A,c,h1,h2,h3,h4,h5.below hb,h6⟩
theorem zo.below' {w w' :World} {B:Nat} {v:Value} {l:List zR} (h:zo w B v l) (hb:Below B w w'):zo w' B v l:=by
 obtain ⟨A,c,h1,h2,h3,h4,h5,h6⟩:=h
 exact ⟨A,c,h1,h2,h3,h4,h5.below hb,h6⟩
theorem Vd.push {w:World} {B:Nat} {hs:List Value} {L:List (List zR)} {v:Value} {l:List zR} (h:Vd w B hs L) (hv:zo w B v l):Vd w B (hs ++ [v]) (L ++ [l]):=by
 refine ⟨by rw [List.length_append,List.length_append,h.1];rfl,fun j hj=>?_⟩
 rw [List.length_append,List.length_singleton] at hj
 by_cases e:j<L.length
 . have:=h.2 j e
   unfold List.getD at this |-;rw [List.getElem?_append_left e,List.getElem?_append_left (by rw [h.1];exact e)];exact this
 . obtain rfl:j=L.length:=by omega
   unfold List.getD;rw [List.getElem?_append_right (Nat.le_refl _),List.getElem?_append_right (by rw [h.1];exact Nat.le_refl _),h.1,Nat.sub_self];exact hv
theorem zjq:Keyed Tryz.prog 9:=string_keyed Tryz.underlying9
theorem zbp:Tryz.prog.underlying zkl=some (.map 9 4):=by kernel_rfl
def Zg (w:World) (g:Nat) (ns:List (List UInt8)):Prop:=
 ∃ (n:Nat) (D:DataW Unit),w.ownsMap Tryz.prog 9 (plainElem (H:=Unit) Tryz.prog 4) g n D/\n<=ns.length/\∀ x,Maps.has D (.string x)=true↔x∈ns
theorem Zg.lt {w:World} {g:Nat} {ns:List (List UInt8)} (h:Zg w g ns):g<w.heap.size:=by
 obtain ⟨n,D,h,_⟩:=h
 exact World.ownsMap.lt h
theorem Zg.keep {w w' :World} {g:Nat} {ns:List (List UInt8)} (h:Zg w g ns) (hk:w'.heap[g]?=w.heap[g]?):Zg w' g ns:=by
 obtain ⟨n,D,⟨es,clock,hb,F,hs,hD⟩,h2⟩:=h
 exact ⟨n,D,⟨es,clock,hk.trans hb,F,hs,hD⟩,h2⟩
theorem Zg.below {w w' :World} {g:Nat} {ns:List (List UInt8)} (h:Zg w g ns) (hb:Below w.heap.size w w'):Zg w' g ns:=h.keep (hb.block g h.lt)
theorem Zg.new (w:World):Zg (w.alloc (.map #[] 0)) w.heap.size []:=
 ⟨0,.map [],World.ownsMap_made w Tryz.prog 9 (plainElem (H:=Unit) Tryz.prog 4),Nat.le_refl _,fun x=>by simp [Maps.has]⟩
theorem Zg.put {w:World} {g:Nat} {ns:List (List UInt8)} {s:List UInt8} (h:Zg w g ns) (hs:s.length<=1073741824) (hn:ns.length<maxLen):
 ∃ w',(Instr.mapUpdate zkl (.map (some g)) (str s) (.bool true)).run Tryz.prog w= .ok () w' /\Zg w' g (ns ++ [s])/\w.grownBy w' (some g):=by
 obtain ⟨n,D,h,hle,hh⟩:=h
 have hk:keyOf Tryz.prog 9 (str s)=some (.string s):=WideMaps.keyOf_string_mk Tryz.underlying9 (by
  show s.toArray.size<=maxLen
  rw [List.size_toArray]
  unfold maxLen;omega)
 obtain ⟨w',h1,h2,h3⟩:=World.ownsMap.update h zjq zbp (by omega) hk (plainElem_bool Tryz.underlying4 true)
 refine ⟨w',h1,⟨n+1,_,h2,by rw [List.length_append];simpa using hle,fun x=>?_⟩,h3⟩
 rw [List.mem_append,List.mem_singleton]
 by_cases e:x=s
 . subst e
   rw [has_put_same h.isMap (k:=.string x) (show WideAt.IsKeyLit (.string x) from trivial)];exact ⟨fun _=>.inr rfl,fun _=>rfl⟩
 . rw [has_put_other (by intro h;injection h with h;exact e h),hh x]
   exact ⟨fun h=>.inl h,fun h=>h.elim id (fun h=>absurd h e)⟩
theorem zet {w:World} {g n:Nat} {D:DataW Unit} (h:w.ownsMap Tryz.prog 9 (plainElem (H:=Unit) Tryz.prog 4) g n D):(strKeys D).Nodup/\∀ x,x∈strKeys D↔Maps.has D (.string x)=true:=by
 obtain ⟨es,hD,hpw,_⟩:=h.entries zjq
 obtain ⟨es',hD',hko⟩:=h.keysOf
 obtain rfl:es=es' :=by rw [hD] at hD';simpa using hD'
 subst hD
 have hk:∀ p∈es,∃ x,p.1= .string x:=fun p hp=>by obtain ⟨v,hv⟩:=hko p hp;obtain ⟨x,_,hx,_⟩:=Maps.keyOf_str Tryz.underlying9 hv;exact ⟨x,hx⟩
 refine ⟨?_,fun x=>?_⟩
 . show (es.map fun p=>strOf p.1).Nodup
   refine List.pairwise_map.2 (hpw.imp_of_mem fun {p q} hp' hq' hne e=>hne ?_);obtain ⟨a,ha⟩:=hk p hp';obtain ⟨b,hb⟩:=hk q hq';rw [ha,hb] at e |-;exact congrArg _ e
 . rw [has_eq,List.any_eq_true]
   show (x∈es.map fun p=>strOf p.1)↔_
   rw [List.mem_map]
   constructor
   . rintro ⟨p,hp',rfl⟩
     obtain ⟨a,ha⟩:=hk p hp';exact ⟨p,hp',by rw [ha];simp [Lit.sameKey,strOf]⟩
   . rintro ⟨p,hp',hs⟩
     obtain ⟨a,ha⟩:=hk p hp';rw [ha] at hs;exact ⟨p,hp',by rw [ha];simpa [Lit.sameKey,strOf] using hs⟩
theorem zbc {w:World} {base:Nat} {v:Value} {l:List (List UInt8)} (h:w.ownsRow base 9 1 v l.length (l.map str)) (hl:l.length<=100000) (hs:∀ x∈l,yb x):ya w w.heap.size v l:=by
 have h0:=h
 rcases h.2 with ⟨e,hx⟩ | ⟨g,cap,cur,e,hb,hc,hm,hz,ht⟩
 . have:l=[]:=List.eq_nil_of_length_eq_zero hx
   subst this;subst e;exact ⟨none,0,rfl,Nat.le_refl _,by unfold maxLen;omega,by simp,yd.none_,fun x hx=>by cases hx⟩
 . subst e
   refine ⟨_,cap,rfl,?_,?_,hl,yd.of_own h0,hs⟩
   . omega
   . omega
theorem zij {w:World} {base size n:Nat} {e:TypeId} {v:Value} {xs:List Value} (h:w.ownsRow base e size v n xs):∃ am cap,v= .slice am n cap/\(0<n->∃ gm,am=some ⟨gm,0,none⟩):=by
 rcases h.2 with ⟨e,hx⟩ | ⟨gm,cap,cur,e,_⟩
 . exact ⟨none,0,by rw [hx];exact e,fun h=>by omega⟩
 . exact ⟨_,cap,e,fun _=>⟨gm,rfl⟩⟩
theorem V1 {L:List (List zR)} {M:Nat} (h:∀ l∈L,l.length<=M):(zY L).length<=L.length*M:=by
 induction L with
 | nil=>simp [zY]
 | cons a L ih=>
   have h1:=ih (fun l hl=>h l (List.mem_cons_of_mem _ hl));have h2:=h a (List.mem_cons_self ..);unfold zY at h1 |-;rw [List.flatMap_cons,List.length_append,List.length_map,List.length_cons,Nat.succ_mul]
   omega
theorem zbd {L:List (List zR)} {j:Nat} (h:j<L.length):zY (L.take (j+1))=zY (L.take j) ++ L[j].map (·.name):=by
 unfold zY
 rw [List.take_add_one,List.getElem?_eq_getElem h,List.flatMap_append]
 simp
theorem zef {l:List zR} {t:Nat} (h:t<l.length):(l.take (t+1)).map (·.name)=(l.take t).map (·.name) ++ [l[t].name]:=by
 rw [List.take_add_one,List.getElem?_eq_getElem h,List.map_append]
 rfl
theorem zhh:(Tryz.prog.info? 30).map (fun i=>(i.zero,i.size,i.bytes))=some (some (.slice none 0 0),1,24):=by kernel_rfl
theorem Tryz.underlying202:Tryz.prog.underlying 202=some (.slice 30):=by kernel_rfl
def UnkA (w0:World) (B g k:Nat) (rv:Value) (rows:List yv) (more:List (List zR)) (iv mv:Value) (wr:World):Prop:=
 ∃ (i:Nat) (hs:List Value) (mv' :Value),i<=rows.length/\iv= .int .i64 i/\mv=mv' /\Hid (xI wr B 30 1 mv' (k+i) hs)/\Hid (Vd wr B hs (more ++ (rows.take i).map (·.terms)))/\Hid (zP wr B rv rows)/\Hid (Zg wr g [])/\Hid (Below B w0 wr)
def UnkB (w0:World) (B g n:Nat) (mv:Value) (hs:List Value) (L:List (List zR)) (jv:Value) (wr:World):Prop:=
 ∃ (j:Nat),j<=n/\jv= .int .i64 j/\Hid (xI wr B 30 1 mv n hs)/\Hid (Vd wr B hs L)/\Hid (Zg wr g (zY (L.take j)))/\Hid (Below B w0 wr)
def UnkC (w0:World) (B g n:Nat) (mv:Value) (hs:List Value) (L:List (List zR)) (l:List zR) (tv:Value) (ns:List (List UInt8)) (jv:Value) (wr:World):Prop:=
 ∃ (j:Nat),j<=l.length/\jv= .int .i64 j/\Hid (xI wr B 30 1 mv n hs)/\Hid (Vd wr B hs L)/\Hid (zo wr B tv l)/\Hid (Zg wr g (ns ++ (l.take j).map (·.name)))/\Hid (Below B w0 wr)
def zmi (w:World) (B:Nat) (ns:List (List UInt8)) (e:Ending) (w' :World):Prop:=∃ v l,e= .returned v/\Yl l ns/\ya w' w'.heap.size v l/\Below B w w'
set_option maxRecDepth 100000 in
set_option maxHeartbeats 4000000 in
theorem Xj (B k:Nat) (A:Option Addr) (n c:Nat) (mv:Value) (hs:List Value) (rows:List yv) (more:List (List zR)) (w:World) (hr:zP w B (.slice A n c) rows) (hm:xI w B 30 1 mv k hs) (hh:Vd w B hs more) (hk:k=more.length) (hkm:k<=100000)
 (hB:B<=w.heap.size) (hcnt:∀ l,Yl l (zY (more ++ rows.map (·.terms)))->l.length<=100000):
 Calls Tryz.prog 88 #[.slice A n c,mv] w (zmi w B (zY (more ++ rows.map (·.terms)))):=by
 obtain rfl:=hr.len
 subst hk
 have hrb:rows.length<=100000:=by obtain ⟨_,_,_,_,_,_,h,_⟩:=hr;exact h
 have HS:Hid (Zg (w.alloc (.map #[] 0)) w.heap.size []):=Zg.new w
 have hx:Below B w (w.alloc (.map #[] 0)):=(zh w (.map #[] 0)).mono hB
 have HR:=ze (zP.below' hr hx)
 have HM:=ze (hm.below (zh w (.map #[] 0)))
 have HH:=ze (hh.below hx)
 have HW:=ze hx
 have HCN:=ze hcnt
 have HG:Hid (B<=w.heap.size):=hB
 have hmm:=@run_makeMap Tryz.prog
 clear hr hm hh hx hcnt hB
 go_enter Tryz.func88,Tryz.ntmps88
 go_upto_region 2 with fail
 generalize w.alloc (.map #[] 0)=W at HS HR HM HH HW |-
 generalize w.heap.size=g at HS HG |-
 clear hmm
 go_wp2_with fail
 go_loopw [15,1] (UnkA w B g more.length (.slice A rows.length c) rows more) (fun iv _ _=>rows.length - (intOf iv).toNat)
 case atStart=>exact ⟨0,hs,mv,Nat.zero_le _,rfl,rfl,HM,by rw [List.take_zero,List.map_nil,List.append_nil];exact HH,HR,HS,HW⟩
 case round=>
  clear HR HM HH HS HW
  obtain ⟨i,hs,mv,hi,rfl,rfl,HM,HH,HR,HS,HW⟩:=hrel
  by_cases hil:i<rows.length
  . have hii:(i:Int)<(rows.length:Int):=by omega
    obtain ⟨ad,AT,nt,ct,eA,hbb,p0,p1,ht,hsb⟩:=HR.out.at_ hil;subst eA;have hx:=zh wr (.cells #[.slice AT nt ct,str rows[i].bound] 49);have HK:=ze (Blk.new wr 49 #[.slice AT nt ct,str rows[i].bound]);have HBS:Hid (B<=wr.heap.size):=Nat.le_trans HG.out (Nat.le_of_lt (Zg.lt HS.out));have hxB:=hx.mono HBS.out;have HT:=ze (zo.below' ht hxB);replace HM:=ze (HM.out.below hx);replace HH:=ze (HH.out.below hxB);replace HR:=ze (zP.below' HR.out hxB);replace HS:=ze (HS.out.below hx);replace HW:=ze (HW.out.trans hxB);clear hx ht hsb hxB
    go_upto_region 5 with fail
    clear p0 p1 hbb;replace HBS:Hid (B<=(wr.alloc (.cells #[.slice AT nt ct,str rows[i].bound] 49)).heap.size):=by have:=HBS.out;show B<=_;simp only [World.size_alloc];omega
    generalize wr.alloc (.cells #[.slice AT nt ct,str rows[i].bound] 49)=W2 at HK HT HM HH HR HS HW HBS |-;generalize wr.heap.size=gr at HK |-;have r0:=HK.out.cell 0;simp at r0;have hx:=zh W2 (.cells #[.slice AT nt ct] 30);have hxB:=hx.mono HBS.out;have hone:∀ u∈[Value.slice AT nt ct],u.oneCell' =true:=by intro u hu;rw [List.mem_singleton] at hu;subst hu;rfl
    have hnoi:∀ u∈[Value.slice AT nt ct],vO u:=by intro u hu;rw [List.mem_singleton] at hu;subst hu;exact zO _ _ _
    have hzn:∀ u∈(Value.slice none 0 0).cells,vO u:=by intro u hu;simp [Value.cells] at hu;subst hu;exact zO _ _ _
    obtain ⟨i0,hi0,hz0,hz1,hz2⟩:=info_parts zhh;have hnew:=Blk.new W2 30 #[.slice AT nt ct]
    have hcell:∀ (j:Nat) (u:Value),[Value.slice AT nt ct][j]?=some u->(W2.alloc (.cells #[.slice AT nt ct] 30)).cell? ((⟨W2.heap.size,0,none⟩:Addr).add j)=some u:=by
     intro j u hu
     match j with
     | 0=>
       simp at hu;subst hu;have:=hnew.cell 0
       simp [Addr.add]
     | j+1=>simp at hu
    replace HM:=ze (HM.out.below hx);replace HH:=ze (HH.out.below hxB);replace HR:=ze (zP.below' HR.out hxB);replace HT:=ze (zo.below' HT.out hxB);replace HS:=ze (HS.out.below hx);replace HW:=ze (HW.out.trans hxB);have HOX:=ze (show B<=(W2.alloc (.cells #[.slice AT nt ct] 30)).heap.size by have:=HBS.out;simp only [World.size_alloc];omega);clear hx hxB hnew HK;go_wp2_with (at_builtin;go_must (refine zW (P:=Tryz.prog) rfl (.tmp 19) (.tmp 22) _ rfl B 30 i0 _ 1 24 Tryz.underlying202 hi0 hz0 hz1 hz2 rfl (by omega) _ (more.length+i) hs rfl HM.out ⟨W2.heap.size,0,none⟩ 1 1 [.slice AT nt ct] rfl rfl (by omega) hcell hone hnoi hzn ?o4 ?o5 ?o6 ?_))
    case o4=>unfold maxLen;omega
    case o5=>omega
    case o6=>exact HOX.out
    intro v3 w3 hown3 hgr3 hat3;clear hcell hone hnoi hzn r0;have hge:=fun b hb=>(HM.out.1.lt b hb).1
    have hB3:Below B (W2.alloc (.cells #[.slice AT nt ct] 30)) w3:=(Below.refl _ _).grown hgr3 HOX.out hge;have HMX:=ze hown3
    have HSX:Hid (Zg w3 g []):=HS.out.keep (hgr3.block g HS.out.lt (fun e=>by
     obtain ⟨cs,k1⟩:=HM.out.heap e.symm;obtain ⟨_,_,⟨es,clock,k2,_⟩,_⟩:=HS.out
     rw [k1] at k2;cases k2))
    have HHX:=ze ((HH.out.below hB3).push (zo.below' HT.out hB3));have HRX:=ze (zP.below' HR.out hB3);have HWX:=ze (HW.out.trans hB3)
    have HTK:Hid ((rows.take i).map (·.terms) ++ [rows[i].terms]=(rows.take (i+1)).map (·.terms)):=by
     show _=_
     rw [List.take_add_one,List.getElem?_eq_getElem hil,List.map_append]
     rfl
    clear HM HH HR HS HW HT hown3 hgr3 hat3 hge hB3 HOX HBS;go_wp2_with fail;go_roundw
    case rel=>exact ⟨i+1,_,_,by omega,by go_num,rfl,HMX,by rw [<- HTK.out, <- List.append_assoc];exact HHX,HRX,HSX,HWX⟩
    case measure=>simp [intOf];omega
  . obtain rfl:rows.length=i:=by omega
    rw [List.take_length] at HH;obtain ⟨L,hL⟩:∃ L,L=more ++ rows.map (·.terms):=⟨_,rfl⟩;rw [<- hL] at HH HCN;have HLE:=ze hL;have hLl:L.length=more.length+rows.length:=by rw [hL,List.length_append,List.length_map]
    rw [<- hLl] at HM;have hLb:L.length<=200000:=by omega
    clear hL hLl HR;generalize hn:L.length=n at HM hLb;have HN:Hid (L.length=n):=hn;clear hn;obtain ⟨am,cap,eam,hgm⟩:=zij HM.out.1;subst eam
    skip
    go_wp2_with fail
    go_loopw [27] (UnkB w B g n (.slice am n cap) hs L) (fun iv _=>n - (intOf iv).toNat)
    case atStart=>exact ⟨0,Nat.zero_le _,rfl,HM,HH,HS,HW⟩
    case round=>
     clear HM HH HS HW;obtain ⟨j,hj,rfl,HM,HH,HS,HW⟩:=hrel
     by_cases hjl:j<n
     . obtain ⟨gm,rfl⟩:=hgm (by omega)
       have hji:(j:Int)<(n:Int):=by omega
       have hjL:j<L.length:=by rw [HN.out];exact hjl
       have hE:=HH.out.2 j hjL;obtain ⟨At,ct,eH,_⟩:=id hE
       have c1:wr.cell? ⟨gm,j,none⟩=some (.slice At (L.getD j []).length ct):=by
        rw [HM.out.1.cellAt j (by omega)];have h1:=HH.out.1;rw [<- eH]
        simp [List.getD,List.getElem?_eq_getElem (show j<hs.length by omega)]
       rw [eH] at hE
       have HNX:Hid (zY (L.take (j+1))=zY (L.take j) ++ (L.getD j []).map (·.name)):=by
        show _=_
        rw [zbd hjL]
        simp [List.getD,List.getElem?_eq_getElem hjL]
       have HNL:Hid ((zY (L.take j)).length<=20000000000):=by
        have h1:(zY (L.take j)).length<=(L.take j).length*100000:=V1 (fun l hl=>by
         obtain ⟨i,hi,rfl⟩:=List.mem_iff_getElem.1 (List.mem_of_mem_take hl);have:=(HH.out.2 i hi).bound
         simpa [List.getD,List.getElem?_eq_getElem hi] using this)
        have h2:(L.take j).length<=200000:=by rw [List.length_take];omega
        show _<=_
        omega
       have HTT:=ze hE;have hlb:=hE.bound;obtain ⟨l,HLD⟩:∃ l,Hid (L.getD j []=l):=⟨_,rfl⟩;rw [HLD.out] at c1 HNX HTT hlb;obtain ⟨ns,HNS⟩:∃ ns,Hid (zY (L.take j)=ns):=⟨_,rfl⟩;rw [HNS.out] at HNX HNL HS;clear hE eH;go_wp2_with fail
       go_loopw [33] (UnkC w B g n (.slice (some ⟨gm,0,none⟩) n cap) hs L l (.slice At l.length ct) ns) (fun iv _=>l.length - (intOf iv).toNat)
       case atStart=>exact ⟨0,Nat.zero_le _,rfl,HM,HH,HTT,by rw [List.take_zero,List.map_nil,List.append_nil];exact HS,HW⟩
       case round=>
        clear HM HH HS HW HTT c1;obtain ⟨t,ht,rfl,HM,HH,HTT,HS,HW⟩:=hrel
        by_cases htl:t<l.length
        . have hti:(t:Int)<(l.length:Int):=by omega
          obtain ⟨ad,eA,hbb,p0,p1,hs2,hs3⟩:=HTT.out.at_ htl;subst eA;have HNT:=ze (zef htl);have hx:=zh wr (.cells #[str l[t].name,str l[t].coef] 60);have HK:=ze (Blk.new wr 60 #[str l[t].name,str l[t].coef]);have HBS:Hid (B<=wr.heap.size):=Nat.le_trans HG.out (Nat.le_of_lt (Zg.lt HS.out));have hxB:=hx.mono HBS.out;replace HM:=ze (HM.out.below hx);replace HH:=ze (HH.out.below hxB);replace HTT:=ze (zo.below' HTT.out hxB);replace HS:=ze (HS.out.below hx);replace HW:=ze (HW.out.trans hxB);have HS2:=ze hs2;clear hx hxB hs2 hs3
          go_upto_region 13 with fail
          clear p0 p1 hbb;replace HBS:Hid (B<=(wr.alloc (.cells #[str l[t].name,str l[t].coef] 60)).heap.size):=by have:=HBS.out;show B<=_;simp only [World.size_alloc];omega
          generalize wr.alloc (.cells #[str l[t].name,str l[t].coef] 60)=W2 at HK HTT HM HH HS HW HBS |-;generalize wr.heap.size=gr at HK |-;have r0:=HK.out.cell 0;simp at r0;obtain ⟨w3,hu,hS3,hg3⟩:=HS.out.put HS2.out (by rw [List.length_append,List.length_map,List.length_take];have:=HNL.out;unfold maxLen;omega);rw [List.append_assoc, <- HNT.out] at hS3;have hB3:Below B W2 w3:=(Below.refl _ _).grown hg3 HBS.out (fun c e=>by injection e with e;have:=HG.out;omega)
          have HMX:=ze (HM.out.chg (Chg.of_grown (S:=(· =g)) hg3 rfl) (fun c e e2=>by
           subst e2;obtain ⟨cs,k1⟩:=HM.out.heap e;obtain ⟨_,_,⟨es,clock,k2,_⟩,_⟩:=HS.out
           rw [k1] at k2;cases k2))
          have HHX:=ze (HH.out.below hB3);have HTX:=ze (zo.below' HTT.out hB3);have HSX:=ze hS3;have HWX:=ze (HW.out.trans hB3);clear HM HH HTT HS HW hS3 hg3 hB3 HK HBS HNT HS2;go_wp2_with fail;go_roundw
          case rel=>exact ⟨t+1,by omega,by go_num,HMX,HHX,HTX,HSX,HWX⟩
          case measure=>simp [intOf];omega
        . obtain rfl:l.length=t:=by omega
          rw [List.take_length, <- HNX.out] at HS;clear HLD HNX HNS;go_wp2_with fail;go_roundw
          case rel=>exact ⟨j+1,by omega,by go_num,HM,HH,HS,HW⟩
          case measure=>simp [intOf];omega
     . obtain rfl:n=j:=by omega
       have hLn:L.take n=L:=List.take_of_length_le (by rw [HN.out];exact Nat.le_refl _)
       have hsm:∀ x∈zY L,yb x:=by
        intro x hx;unfold zY at hx;rw [List.mem_flatMap] at hx;obtain ⟨l,hl,hx⟩:=hx;obtain ⟨t,ht,rfl⟩:=List.mem_map.1 hx;obtain ⟨i,hi,rfl⟩:=List.mem_iff_getElem.1 hl;obtain ⟨_,_,_,_,_,_,_,h6⟩:=HH.out.2 i hi;exact (h6 t (by simpa [List.getD,List.getElem?_eq_getElem hi] using ht)).1
       have hnl:(zY L).length<=20000000000:=by
        have h1:(zY L).length<=L.length*100000:=V1 (fun l hl=>by
         obtain ⟨i,hi,rfl⟩:=List.mem_iff_getElem.1 hl;have:=(HH.out.2 i hi).bound
         simpa [List.getD,List.getElem?_eq_getElem hi] using this)
        rw [HN.out] at h1
        omega
       rw [hLn] at HS;obtain ⟨ns,HNS⟩:∃ ns,Hid (zY L=ns):=⟨_,rfl⟩;rw [HNS.out] at HS hsm hnl HCN;have HNE:Hid (zY (more ++ rows.map (·.terms))=ns):=ze (by rw [<- HLE.out,HNS.out]);obtain ⟨m,D,hS,hmn,hhas⟩:=HS.out;have hkn:=zet hS;have hsz:=hS.size_le;have hkc:=zgu (some g) wr;have hsc:=zc6 g m D (plainElem (H:=Unit) Tryz.prog 4) wr hS (by unfold maxLen;omega) (by omega);have HKC:=ze hkc;have HSC:=ze hsc;have HKN:Hid ((strKeys D).Nodup/\∀ x,x∈strKeys D↔x∈ns):=⟨hkn.1,fun x=>(hkn.2 x).trans (hhas x)⟩;have HSM:=ze hsm;have HBS:Hid (B<=wr.heap.size):=Nat.le_trans HG.out (Nat.le_of_lt (World.ownsMap.lt hS));clear hS hkc hsc HM HH HS HN HNS hLn hsm hnl hmn hhas hkn hsz hgm;go_wp2_with fail;refine HKC.out.mono ?_;rintro e w1 ⟨rfl,rfl⟩;clear HKC;go_wp2_with fail;refine HSC.out.mono ?_;rintro e w2 ⟨v,ss,rfl,hperm,hrow,hnil,hb2⟩;have HPERM:=ze hperm;have HROW:=ze hrow;have HB2:=ze hb2;clear hperm hrow hnil hb2 HSC;go_wp2_with fail;go_ret
       have hin:Yl (ss.mergeSort (fun x y=>decide (x<=y))) ns:=
        ⟨XL (HPERM.out.nodup_iff.2 HKN.out.1),fun x=>by rw [(List.mergeSort_perm ss _).mem_iff,HPERM.out.mem_iff];exact HKN.out.2 x⟩
       rw [HNE.out];refine ⟨v,_,rfl,hin,?_,HW.out.trans (((zh wr _).mono HBS.out).trans (HB2.out.mono (by have:=HBS.out;simp only [World.size_alloc];omega)))⟩;refine zbc (base:=(wr.alloc (.cells #[.map (some g)] zkl)).heap.size) ?_ (HCN.out _ hin) (fun x hx=>HSM.out x ((hin.2 x).1 hx));rw [List.length_mergeSort];exact HROW.out
theorem zab {ns l:List (List UInt8)} {s:List UInt8} (hall:∀ x∈ns,x=s) (hex:ns≠[]) (h:Yl l ns):l=[s]:=by
 refine Yh l [s] h.1 (List.pairwise_singleton _ _) (fun x=>?_)
 rw [h.2 x,List.mem_singleton]
 refine ⟨hall x,fun e=>?_⟩
 subst e
 obtain ⟨y,r,rfl⟩:=List.exists_cons_of_ne_nil hex
 rw [<- hall y (List.mem_cons_self ..)]
 exact List.mem_cons_self ..
def zlr (w:World) (B:Nat) (s:List UInt8) (e:Ending) (w' :World):Prop:=∃ v,e= .returned v/\ya w' w'.heap.size v [s]/\Below B w w'
theorem zaq (B k:Nat) (A:Option Addr) (n c:Nat) (mv:Value) (hs:List Value) (rows:List yv) (more:List (List zR)) (s:List UInt8) (w:World) (hr:zP w B (.slice A n c) rows) (hm:xI w B 30 1 mv k hs) (hh:Vd w B hs more) (hk:k=more.length) (hkm:k<=100000)
 (hB:B<=w.heap.size) (hs1:s.length<=1073741824) (hall:∀ l∈more ++ rows.map (·.terms),∀ t∈l,t.name=s) (hex:∃ l∈more ++ rows.map (·.terms),l≠[]):
 Calls Tryz.prog 88 #[.slice A n c,mv] w (zlr w B s):=by
 have ha:∀ x∈zY (more ++ rows.map (·.terms)),x=s:=by
  intro x hx
  unfold zY at hx
  rw [List.mem_flatMap] at hx
  obtain ⟨l,hl,hx⟩:=hx
  obtain ⟨t,ht,rfl⟩:=List.mem_map.1 hx
  exact hall l hl t ht
 have he:zY (more ++ rows.map (·.terms))≠[]:=by
  obtain ⟨l,hl,hne⟩:=hex
  obtain ⟨t,r,rfl⟩:=List.exists_cons_of_ne_nil hne
  intro h0
  have:t.name∈zY (more ++ rows.map (·.terms)):=by
   unfold zY;exact List.mem_flatMap.2 ⟨_,hl,List.mem_map.2 ⟨t,List.mem_cons_self ..,rfl⟩⟩
  rw [h0] at this
  cases this
 refine (Xj B k A n c mv hs rows more w hr hm hh hk hkm hB (fun l hl=>by rw [zab ha he hl];simp)).mono ?_
 rintro e w' ⟨v,l,rfl,hin,hn,hb⟩
 rw [zab ha he hin] at hn
 exact ⟨v,rfl,hn,hb⟩
end Go.Proofs.YtkmcmmcencdcpaaGreatDoor
