/- Parts of the proof: memory, numbers, walks of the functions that are called. -/
import Derived.Carry
import Derived.Test.YtnpbflhjglkokaaGreatDoorMr20
import Derived.Test.YtnpbflhjglkokaaGreatDoorMr22
import Derived.Test.YtnpbflhjglkokaaGreatDoorMr16
set_option linter.unusedVariables false
set_option linter.unusedSimpArgs false
set_option maxRecDepth 100000
set_option maxHeartbeats 32000000
namespace Go.Proofs.YtnpbflhjglkokaaGreatDoor
open Go.RowKit Go.Deep Go.Maps Go.Sort
attribute [local go_sem ↓] Go.wp_at_zero Go.wp_at_succ
def V3 (w:World) (B:Nat) (hs:List Value) (L:List (List yc)):Prop:=hs.length=L.length/\∀ j,j<L.length->zp w B (hs.getD j undef) (L.getD j [])
theorem V3.below {w w' :World} {B:Nat} {hs:List Value} {L:List (List yc)} (h:V3 w B hs L) (hb:Below B w w'):V3 w' B hs L:=by
 refine ⟨h.1,fun j hj=>?_⟩
 obtain ⟨A,c,h1,h2,h3,h4,h5,h6⟩:=h.2 j hj
 exact ⟨A,c,h1,h2,h3,h4,h5.below hb,h6⟩
theorem zV.below' {w w' :World} {B:Nat} {v:Value} {l:List xe} (h:zV w B v l) (hb:Below B w w'):zV w' B v l:=by
 obtain ⟨A,c,H,h1,h2,h3,h4,h5,h6,h7⟩:=h
 refine ⟨A,c,H,h1,h2,h3,h4,h5.below hb,fun i hi=>?_,h7⟩
 obtain ⟨A,c,h1,h2,h3,h4,h5,h6⟩:=h6 i hi
 exact ⟨A,c,h1,h2,h3,h4,h5.below hb,h6⟩
theorem zp.below' {w w' :World} {B:Nat} {v:Value} {l:List yc} (h:zp w B v l) (hb:Below B w w'):zp w' B v l:=by
 obtain ⟨A,c,h1,h2,h3,h4,h5,h6⟩:=h
 exact ⟨A,c,h1,h2,h3,h4,h5.below hb,h6⟩
theorem V3.push {w:World} {B:Nat} {hs:List Value} {L:List (List yc)} {v:Value} {l:List yc} (h:V3 w B hs L) (hv:zp w B v l):V3 w B (hs ++ [v]) (L ++ [l]):=by
 refine ⟨by rw [List.length_append,List.length_append,h.1];rfl,fun j hj=>?_⟩
 rw [List.length_append,List.length_singleton] at hj
 by_cases e:j<L.length
 . have:=h.2 j e
   unfold List.getD at this |-;rw [List.getElem?_append_left e,List.getElem?_append_left (by rw [h.1];exact e)];exact this
 . obtain rfl:j=L.length:=by omega
   unfold List.getD;rw [List.getElem?_append_right (Nat.le_refl _),List.getElem?_append_right (by rw [h.1];exact Nat.le_refl _),h.1,Nat.sub_self];exact hv
theorem zmk:Keyed Tryz.prog 9:=string_keyed Tryz.underlying9
theorem zda:Tryz.prog.underlying zn4=some (.map 9 4):=by kernel_rfl
def ZF (w:World) (g:Nat) (ns:List (List UInt8)):Prop:=
 ∃ (n:Nat) (D:DataW Unit),w.ownsMap Tryz.prog 9 (plainElem (H:=Unit) Tryz.prog 4) g n D/\n<=ns.length/\∀ x,Maps.has D (.string x)=true↔x∈ns
theorem ZF.lt {w:World} {g:Nat} {ns:List (List UInt8)} (h:ZF w g ns):g<w.heap.size:=by
 obtain ⟨n,D,h,_⟩:=h
 exact World.ownsMap.lt h
theorem ZF.keep {w w' :World} {g:Nat} {ns:List (List UInt8)} (h:ZF w g ns) (hk:w'.heap[g]?=w.heap[g]?):ZF w' g ns:=by
 obtain ⟨n,D,⟨es,clock,hb,F,hs,hD⟩,h2⟩:=h
 exact ⟨n,D,⟨es,clock,hk.trans hb,F,hs,hD⟩,h2⟩
theorem ZF.below {w w' :World} {g:Nat} {ns:List (List UInt8)} (h:ZF w g ns) (hb:Below w.heap.size w w'):ZF w' g ns:=h.keep (hb.block g h.lt)
theorem ZF.new (w:World):ZF (w.alloc (.map #[] 0)) w.heap.size []:=
 ⟨0,.map [],World.ownsMap_made w Tryz.prog 9 (plainElem (H:=Unit) Tryz.prog 4),Nat.le_refl _,fun x=>by simp [Maps.has]⟩
theorem ZF.put {w:World} {g:Nat} {ns:List (List UInt8)} {s:List UInt8} (h:ZF w g ns) (hs:s.length<=1073741824) (hn:ns.length<maxLen):
 ∃ w',(Instr.mapUpdate zn4 (.map (some g)) (str s) (.bool true)).run Tryz.prog w= .ok () w' /\ZF w' g (ns ++ [s])/\w.grownBy w' (some g):=by
 obtain ⟨n,D,h,hle,hh⟩:=h
 have hk:keyOf Tryz.prog 9 (str s)=some (.string s):=WideMaps.keyOf_string_mk Tryz.underlying9 (by
  show s.toArray.size<=maxLen
  rw [List.size_toArray]
  unfold maxLen;omega)
 obtain ⟨w',h1,h2,h3⟩:=World.ownsMap.update h zmk zda (by omega) hk (plainElem_bool Tryz.underlying4 true)
 refine ⟨w',h1,⟨n+1,_,h2,by rw [List.length_append];simpa using hle,fun x=>?_⟩,h3⟩
 rw [List.mem_append,List.mem_singleton]
 by_cases e:x=s
 . subst e
   rw [has_put_same h.isMap (k:=.string x) (show WideAt.IsKeyLit (.string x) from trivial)];exact ⟨fun _=>.inr rfl,fun _=>rfl⟩
 . rw [has_put_other (by intro h;injection h with h;exact e h),hh x]
   exact ⟨fun h=>.inl h,fun h=>h.elim id (fun h=>absurd h e)⟩
theorem zhn {w:World} {g n:Nat} {D:DataW Unit} (h:w.ownsMap Tryz.prog 9 (plainElem (H:=Unit) Tryz.prog 4) g n D):(strKeys D).Nodup/\∀ x,x∈strKeys D↔Maps.has D (.string x)=true:=by
 obtain ⟨es,hD,hpw,_⟩:=h.entries zmk
 obtain ⟨es',hD',hko⟩:=h.keysOf
 obtain rfl:es=es' :=by rw [hD] at hD';simpa using hD'
 subst hD
 have hk:∀ p∈es,∃ x,p.1= .string x:=fun p hp=>by obtain ⟨v,hv⟩:=hko p hp;obtain ⟨x,_,hx,_⟩:=Maps.keyOf_str Tryz.underlying9 hv;exact ⟨x,hx⟩
 refine ⟨?_,fun x=>?_⟩
 . show (es.map fun p=>strOf p.1).Nodup
   refine List.pairwise_map.2 (hpw.imp_of_mem fun {p q} hp' hq' hne e=>hne ?_);obtain ⟨a,ha⟩:=hk p hp';obtain ⟨b,hb⟩:=hk q hq';rw [ha,hb] at e |-;exact congrArg _ e
 . rw [has_eq,List.any_eq_true]
   show (x∈es.map fun p=>strOf p.1)↔_
   rw [List.mem_map]
   constructor
   . rintro ⟨p,hp',rfl⟩
     obtain ⟨a,ha⟩:=hk p hp';exact ⟨p,hp',by rw [ha];simp [Lit.sameKey,strOf]⟩
   . rintro ⟨p,hp',hs⟩
     obtain ⟨a,ha⟩:=hk p hp';rw [ha] at hs;exact ⟨p,hp',by rw [ha];simpa [Lit.sameKey,strOf] using hs⟩
theorem vO {w:World} {base:Nat} {v:Value} {l:List (List UInt8)} (h:w.ownsRow base 9 1 v l.length (l.map str)) (hl:l.length<=100000) (hs:∀ x∈l,yh x):zP w w.heap.size v l:=by
 have h0:=h
 rcases h.2 with ⟨e,hx⟩ | ⟨g,cap,cur,e,hb,hc,hm,hz,ht⟩
 . have:l=[]:=List.eq_nil_of_length_eq_zero hx
   subst this;subst e;exact ⟨none,0,rfl,Nat.le_refl _,by unfold maxLen;omega,by simp,zR.none_,fun x hx=>by cases hx⟩
 . subst e
   refine ⟨_,cap,rfl,?_,?_,hl,zR.of_own h0,hs⟩
   . omega
   . omega
theorem zky {w:World} {base size n:Nat} {e:TypeId} {v:Value} {xs:List Value} (h:w.ownsRow base e size v n xs):∃ am cap,v= .slice am n cap/\(0<n->∃ gm,am=some ⟨gm,0,none⟩):=by
 rcases h.2 with ⟨e,hx⟩ | ⟨gm,cap,cur,e,_⟩
 . exact ⟨none,0,by rw [hx];exact e,fun h=>by omega⟩
 . exact ⟨_,cap,e,fun _=>⟨gm,rfl⟩⟩
theorem zas {L:List (List yc)} {M:Nat} (h:∀ l∈L,l.length<=M):(zS L).length<=L.length*M:=by
 induction L with
 | nil=>simp [zS]
 | cons a L ih=>
   have h1:=ih (fun l hl=>h l (List.mem_cons_of_mem _ hl));have h2:=h a (List.mem_cons_self ..);unfold zS at h1 |-;rw [List.flatMap_cons,List.length_append,List.length_map,List.length_cons,Nat.succ_mul]
   omega
theorem XY {L:List (List yc)} {j:Nat} (h:j<L.length):zS (L.take (j+1))=zS (L.take j) ++ L[j].map (·.name):=by
 unfold zS
 rw [List.take_add_one,List.getElem?_eq_getElem h,List.flatMap_append]
 simp
theorem zaz {l:List yc} {t:Nat} (h:t<l.length):(l.take (t+1)).map (·.name)=(l.take t).map (·.name) ++ [l[t].name]:=by
 rw [List.take_add_one,List.getElem?_eq_getElem h,List.map_append]
 rfl
theorem zi3:(Tryz.prog.info? 35).map (fun i=>(i.zero,i.size,i.bytes))=some (some (.slice none 0 0),1,24):=by kernel_rfl
theorem Tryz.underlying176:Tryz.prog.underlying 176=some (.slice 35):=by kernel_rfl
def UnkA (w0:World) (B g k:Nat) (rv:Value) (rows:List xe) (more:List (List yc)) (iv mv:Value) (wr:World):Prop:=
 ∃ (i:Nat) (hs:List Value) (mv' :Value),i<=rows.length/\iv= .int .i64 i/\mv=mv' /\Hid (vp wr B 35 1 mv' (k+i) hs)/\Hid (V3 wr B hs (more ++ (rows.take i).map (·.terms)))/\Hid (zV wr B rv rows)/\Hid (ZF wr g [])/\Hid (Below B w0 wr)
def UnkB (w0:World) (B g n:Nat) (mv:Value) (hs:List Value) (L:List (List yc)) (jv:Value) (wr:World):Prop:=
 ∃ (j:Nat),j<=n/\jv= .int .i64 j/\Hid (vp wr B 35 1 mv n hs)/\Hid (V3 wr B hs L)/\Hid (ZF wr g (zS (L.take j)))/\Hid (Below B w0 wr)
def UnkC (w0:World) (B g n:Nat) (mv:Value) (hs:List Value) (L:List (List yc)) (l:List yc) (tv:Value) (ns:List (List UInt8)) (jv:Value) (wr:World):Prop:=
 ∃ (j:Nat),j<=l.length/\jv= .int .i64 j/\Hid (vp wr B 35 1 mv n hs)/\Hid (V3 wr B hs L)/\Hid (zp wr B tv l)/\Hid (ZF wr g (ns ++ (l.take j).map (·.name)))/\Hid (Below B w0 wr)
def zow (w:World) (B:Nat) (ns:List (List UInt8)) (e:Ending) (w' :World):Prop:=∃ v l,e= .returned v/\yZ l ns/\zP w' w'.heap.size v l/\Below B w w'
theorem Y6 (B k:Nat) (A:Option Addr) (n c:Nat) (mv:Value) (hs:List Value) (rows:List xe) (more:List (List yc)) (w:World) (hr:zV w B (.slice A n c) rows) (hm:vp w B 35 1 mv k hs) (hh:V3 w B hs more) (hk:k=more.length) (hkm:k<=100000)
 (hB:B<=w.heap.size) (hcnt:∀ l,yZ l (zS (more ++ rows.map (·.terms)))->l.length<=100000):
 Calls Tryz.prog 52 #[.slice A n c,mv] w (zow w B (zS (more ++ rows.map (·.terms)))):=by
 obtain rfl:=hr.len
 subst hk
 have hrb:rows.length<=100000:=by obtain ⟨_,_,_,_,_,_,h,_⟩:=hr;exact h
 have HS:Hid (ZF (w.alloc (.map #[] 0)) w.heap.size []):=ZF.new w
 have hx:Below B w (w.alloc (.map #[] 0)):=(zf w (.map #[] 0)).mono hB
 have HR:=ze (zV.below' hr hx)
 have HM:=ze (hm.below (zf w (.map #[] 0)))
 have HH:=ze (hh.below hx)
 have HW:=ze hx
 have HCN:=ze hcnt
 have HG:Hid (B<=w.heap.size):=hB
 have hmm:=@run_makeMap Tryz.prog
 clear hr hm hh hx hcnt hB
 go_enter Tryz.func52,Tryz.ntmps52
 go_upto_region 2 with fail
 generalize w.alloc (.map #[] 0)=W at HS HR HM HH HW |-
 generalize w.heap.size=g at HS HG |-
 clear hmm
 go_wp2_with fail
 go_loopw [15,1] (UnkA w B g more.length (.slice A rows.length c) rows more) (fun iv _ _=>rows.length - (intOf iv).toNat)
 case atStart=>exact ⟨0,hs,mv,Nat.zero_le _,rfl,rfl,HM,by rw [List.take_zero,List.map_nil,List.append_nil];exact HH,HR,HS,HW⟩
 case round=>
  clear HR HM HH HS HW
  obtain ⟨i,hs,mv,hi,rfl,rfl,HM,HH,HR,HS,HW⟩:=hrel
  by_cases hil:i<rows.length
  . have hii:(i:Int)<(rows.length:Int):=by omega
    obtain ⟨ad,AT,nt,ct,eA,hbb,p0,p1,ht,hsb⟩:=HR.out.at_ hil;subst eA;have hx:=zf wr (.cells #[.slice AT nt ct,str rows[i].bound] 57);have HK:=ze (Blk.new wr 57 #[.slice AT nt ct,str rows[i].bound]);have HBS:Hid (B<=wr.heap.size):=Nat.le_trans HG.out (Nat.le_of_lt (ZF.lt HS.out));have hxB:=hx.mono HBS.out;have HT:=ze (zp.below' ht hxB);replace HM:=ze (HM.out.below hx);replace HH:=ze (HH.out.below hxB);replace HR:=ze (zV.below' HR.out hxB);replace HS:=ze (HS.out.below hx);replace HW:=ze (HW.out.trans hxB);clear hx ht hsb hxB
    go_upto_region 5 with fail
    clear p0 p1 hbb;replace HBS:Hid (B<=(wr.alloc (.cells #[.slice AT nt ct,str rows[i].bound] 57)).heap.size):=by have:=HBS.out;show B<=_;simp only [World.size_alloc];omega
    generalize wr.alloc (.cells #[.slice AT nt ct,str rows[i].bound] 57)=W2 at HK HT HM HH HR HS HW HBS |-;generalize wr.heap.size=gr at HK |-;have r0:=HK.out.cell 0;simp at r0;have hx:=zf W2 (.cells #[.slice AT nt ct] 35);have hxB:=hx.mono HBS.out;have hone:∀ u∈[Value.slice AT nt ct],u.oneCell' =true:=by intro u hu;rw [List.mem_singleton] at hu;subst hu;rfl
    have hnoi:∀ u∈[Value.slice AT nt ct],Zw u:=by intro u hu;rw [List.mem_singleton] at hu;subst hu;exact yf _ _ _
    have hzn:∀ u∈(Value.slice none 0 0).cells,Zw u:=by intro u hu;simp [Value.cells] at hu;subst hu;exact yf _ _ _
    obtain ⟨i0,hi0,hz0,hz1,hz2⟩:=info_parts zi3;have hnew:=Blk.new W2 35 #[.slice AT nt ct]
    have hcell:∀ (j:Nat) (u:Value),[Value.slice AT nt ct][j]?=some u->(W2.alloc (.cells #[.slice AT nt ct] 35)).cell? ((⟨W2.heap.size,0,none⟩:Addr).add j)=some u:=by
     intro j u hu
     match j with
     | 0=>
       simp at hu;subst hu;have:=hnew.cell 0
       simp [Addr.add]
     | j+1=>simp at hu
    replace HM:=ze (HM.out.below hx);replace HH:=ze (HH.out.below hxB);replace HR:=ze (zV.below' HR.out hxB);replace HT:=ze (zp.below' HT.out hxB);replace HS:=ze (HS.out.below hx);replace HW:=ze (HW.out.trans hxB);have HOX:=ze (show B<=(W2.alloc (.cells #[.slice AT nt ct] 35)).heap.size by have:=HBS.out;simp only [World.size_alloc];omega);clear hx hxB hnew HK;go_wp2_with (at_builtin;go_must (refine yn (P:=Tryz.prog) rfl (.tmp 19) (.tmp 22) _ rfl B 35 i0 _ 1 24 Tryz.underlying176 hi0 hz0 hz1 hz2 rfl (by omega) _ (more.length+i) hs rfl HM.out ⟨W2.heap.size,0,none⟩ 1 1 [.slice AT nt ct] rfl rfl (by omega) hcell hone hnoi hzn ?o4 ?o5 ?o6 ?_))
    case o4=>unfold maxLen;omega
    case o5=>omega
    case o6=>exact HOX.out
    intro v3 w3 hown3 hgr3 hat3;clear hcell hone hnoi hzn r0;have hge:=fun b hb=>(HM.out.1.lt b hb).1
    have hB3:Below B (W2.alloc (.cells #[.slice AT nt ct] 35)) w3:=(Below.refl _ _).grown hgr3 HOX.out hge;have HMX:=ze hown3
    have HSX:Hid (ZF w3 g []):=HS.out.keep (hgr3.block g HS.out.lt (fun e=>by
     obtain ⟨cs,k1⟩:=HM.out.heap e.symm;obtain ⟨_,_,⟨es,clock,k2,_⟩,_⟩:=HS.out
     rw [k1] at k2;cases k2))
    have HHX:=ze ((HH.out.below hB3).push (zp.below' HT.out hB3));have HRX:=ze (zV.below' HR.out hB3);have HWX:=ze (HW.out.trans hB3)
    have HTK:Hid ((rows.take i).map (·.terms) ++ [rows[i].terms]=(rows.take (i+1)).map (·.terms)):=by
     show _=_
     rw [List.take_add_one,List.getElem?_eq_getElem hil,List.map_append]
     rfl
    clear HM HH HR HS HW HT hown3 hgr3 hat3 hge hB3 HOX HBS;go_wp2_with fail;go_roundw
    case rel=>exact ⟨i+1,_,_,by omega,by go_num,rfl,HMX,by rw [<- HTK.out, <- List.append_assoc];exact HHX,HRX,HSX,HWX⟩
    case measure=>simp [intOf];omega
  . obtain rfl:rows.length=i:=by omega
    rw [List.take_length] at HH;obtain ⟨L,hL⟩:∃ L,L=more ++ rows.map (·.terms):=⟨_,rfl⟩;rw [<- hL] at HH HCN;have HLE:=ze hL;have hLl:L.length=more.length+rows.length:=by rw [hL,List.length_append,List.length_map]
    rw [<- hLl] at HM;have hLb:L.length<=200000:=by omega
    clear hL hLl HR;generalize hn:L.length=n at HM hLb;have HN:Hid (L.length=n):=hn;clear hn;obtain ⟨am,cap,eam,hgm⟩:=zky HM.out.1;subst eam
    skip
    go_wp2_with fail
    go_loopw [27] (UnkB w B g n (.slice am n cap) hs L) (fun iv _=>n - (intOf iv).toNat)
    case atStart=>exact ⟨0,Nat.zero_le _,rfl,HM,HH,HS,HW⟩
    case round=>
     clear HM HH HS HW;obtain ⟨j,hj,rfl,HM,HH,HS,HW⟩:=hrel
     by_cases hjl:j<n
     . obtain ⟨gm,rfl⟩:=hgm (by omega)
       have hji:(j:Int)<(n:Int):=by omega
       have hjL:j<L.length:=by rw [HN.out];exact hjl
       have hE:=HH.out.2 j hjL;obtain ⟨At,ct,eH,_⟩:=id hE
       have c1:wr.cell? ⟨gm,j,none⟩=some (.slice At (L.getD j []).length ct):=by
        rw [HM.out.1.cellAt j (by omega)];have h1:=HH.out.1;rw [<- eH]
        simp [List.getD,List.getElem?_eq_getElem (show j<hs.length by omega)]
       rw [eH] at hE
       have HNX:Hid (zS (L.take (j+1))=zS (L.take j) ++ (L.getD j []).map (·.name)):=by
        show _=_
        rw [XY hjL]
        simp [List.getD,List.getElem?_eq_getElem hjL]
       have HNL:Hid ((zS (L.take j)).length<=20000000000):=by
        have h1:(zS (L.take j)).length<=(L.take j).length*100000:=zas (fun l hl=>by
         obtain ⟨i,hi,rfl⟩:=List.mem_iff_getElem.1 (List.mem_of_mem_take hl);have:=(HH.out.2 i hi).bound
         simpa [List.getD,List.getElem?_eq_getElem hi] using this)
        have h2:(L.take j).length<=200000:=by rw [List.length_take];omega
        show _<=_
        omega
       have HTT:=ze hE;have hlb:=hE.bound;obtain ⟨l,HLD⟩:∃ l,Hid (L.getD j []=l):=⟨_,rfl⟩;rw [HLD.out] at c1 HNX HTT hlb;obtain ⟨ns,HNS⟩:∃ ns,Hid (zS (L.take j)=ns):=⟨_,rfl⟩;rw [HNS.out] at HNX HNL HS;clear hE eH;go_wp2_with fail
       go_loopw [33] (UnkC w B g n (.slice (some ⟨gm,0,none⟩) n cap) hs L l (.slice At l.length ct) ns) (fun iv _=>l.length - (intOf iv).toNat)
       case atStart=>exact ⟨0,Nat.zero_le _,rfl,HM,HH,HTT,by rw [List.take_zero,List.map_nil,List.append_nil];exact HS,HW⟩
       case round=>
        clear HM HH HS HW HTT c1;obtain ⟨t,ht,rfl,HM,HH,HTT,HS,HW⟩:=hrel
        by_cases htl:t<l.length
        . have hti:(t:Int)<(l.length:Int):=by omega
          obtain ⟨ad,eA,hbb,p0,p1,hs2,hs3⟩:=HTT.out.at_ htl;subst eA;have HNT:=ze (zaz htl);have hx:=zf wr (.cells #[str l[t].name,str l[t].coef] 68);have HK:=ze (Blk.new wr 68 #[str l[t].name,str l[t].coef]);have HBS:Hid (B<=wr.heap.size):=Nat.le_trans HG.out (Nat.le_of_lt (ZF.lt HS.out));have hxB:=hx.mono HBS.out;replace HM:=ze (HM.out.below hx);replace HH:=ze (HH.out.below hxB);replace HTT:=ze (zp.below' HTT.out hxB);replace HS:=ze (HS.out.below hx);replace HW:=ze (HW.out.trans hxB);have HS2:=ze hs2;clear hx hxB hs2 hs3
          go_upto_region 13 with fail
          clear p0 p1 hbb;replace HBS:Hid (B<=(wr.alloc (.cells #[str l[t].name,str l[t].coef] 68)).heap.size):=by have:=HBS.out;show B<=_;simp only [World.size_alloc];omega
          generalize wr.alloc (.cells #[str l[t].name,str l[t].coef] 68)=W2 at HK HTT HM HH HS HW HBS |-;generalize wr.heap.size=gr at HK |-;have r0:=HK.out.cell 0;simp at r0;obtain ⟨w3,hu,hS3,hg3⟩:=HS.out.put HS2.out (by rw [List.length_append,List.length_map,List.length_take];have:=HNL.out;unfold maxLen;omega);rw [List.append_assoc, <- HNT.out] at hS3;have hB3:Below B W2 w3:=(Below.refl _ _).grown hg3 HBS.out (fun c e=>by injection e with e;have:=HG.out;omega)
          have HMX:=ze (HM.out.chg (Chg.of_grown (S:=(· =g)) hg3 rfl) (fun c e e2=>by
           subst e2;obtain ⟨cs,k1⟩:=HM.out.heap e;obtain ⟨_,_,⟨es,clock,k2,_⟩,_⟩:=HS.out
           rw [k1] at k2;cases k2))
          have HHX:=ze (HH.out.below hB3);have HTX:=ze (zp.below' HTT.out hB3);have HSX:=ze hS3;have HWX:=ze (HW.out.trans hB3);clear HM HH HTT HS HW hS3 hg3 hB3 HK HBS HNT HS2;go_wp2_with fail;go_roundw
          case rel=>exact ⟨t+1,by omega,by go_num,HMX,HHX,HTX,HSX,HWX⟩
          case measure=>simp [intOf];omega
        . obtain rfl:l.length=t:=by omega
          rw [List.take_length, <- HNX.out] at HS;clear HLD HNX HNS;go_wp2_with fail;go_roundw
          case rel=>exact ⟨j+1,by omega,by go_num,HM,HH,HS,HW⟩
          case measure=>simp [intOf];omega
     . obtain rfl:n=j:=by omega
       have hLn:L.take n=L:=List.take_of_length_le (by rw [HN.out];exact Nat.le_refl _)
       have hsm:∀ x∈zS L,yh x:=by
        intro x hx;unfold zS at hx;rw [List.mem_flatMap] at hx;obtain ⟨l,hl,hx⟩:=hx;obtain ⟨t,ht,rfl⟩:=List.mem_map.1 hx;obtain ⟨i,hi,rfl⟩:=List.mem_iff_getElem.1 hl;obtain ⟨_,_,_,_,_,_,_,h6⟩:=HH.out.2 i hi;exact (h6 t (by simpa [List.getD,List.getElem?_eq_getElem hi] using ht)).1
       have hnl:(zS L).length<=20000000000:=by
        have h1:(zS L).length<=L.length*100000:=zas (fun l hl=>by
         obtain ⟨i,hi,rfl⟩:=List.mem_iff_getElem.1 hl;have:=(HH.out.2 i hi).bound
         simpa [List.getD,List.getElem?_eq_getElem hi] using this)
        rw [HN.out] at h1
        omega
       rw [hLn] at HS;obtain ⟨ns,HNS⟩:∃ ns,Hid (zS L=ns):=⟨_,rfl⟩;rw [HNS.out] at HS hsm hnl HCN;have HNE:Hid (zS (more ++ rows.map (·.terms))=ns):=ze (by rw [<- HLE.out,HNS.out]);obtain ⟨m,D,hS,hmn,hhas⟩:=HS.out;have hkn:=zhn hS;have hsz:=hS.size_le;have hkc:=zje (some g) wr;have hsc:=zfq g m D (plainElem (H:=Unit) Tryz.prog 4) wr hS (by unfold maxLen;omega) (by omega);have HKC:=ze hkc;have HSC:=ze hsc;have HKN:Hid ((strKeys D).Nodup/\∀ x,x∈strKeys D↔x∈ns):=⟨hkn.1,fun x=>(hkn.2 x).trans (hhas x)⟩;have HSM:=ze hsm;have HBS:Hid (B<=wr.heap.size):=Nat.le_trans HG.out (Nat.le_of_lt (World.ownsMap.lt hS));clear hS hkc hsc HM HH HS HN HNS hLn hsm hnl hmn hhas hkn hsz hgm;go_wp2_with fail;refine HKC.out.mono ?_;rintro e w1 ⟨rfl,rfl⟩;clear HKC;go_wp2_with fail;refine HSC.out.mono ?_;rintro e w2 ⟨v,ss,rfl,hperm,hrow,hnil,hb2⟩;have HPERM:=ze hperm;have HROW:=ze hrow;have HB2:=ze hb2;clear hperm hrow hnil hb2 HSC;go_wp2_with fail;go_ret
       have hin:yZ (ss.mergeSort (fun x y=>decide (x<=y))) ns:=
        ⟨VO (HPERM.out.nodup_iff.2 HKN.out.1),fun x=>by rw [(List.mergeSort_perm ss _).mem_iff,HPERM.out.mem_iff];exact HKN.out.2 x⟩
       rw [HNE.out];refine ⟨v,_,rfl,hin,?_,HW.out.trans (((zf wr _).mono HBS.out).trans (HB2.out.mono (by have:=HBS.out;simp only [World.size_alloc];omega)))⟩;refine vO (base:=(wr.alloc (.cells #[.map (some g)] zn4)).heap.size) ?_ (HCN.out _ hin) (fun x hx=>HSM.out x ((hin.2 x).1 hx));rw [List.length_mergeSort];exact HROW.out
theorem zb4 {ns l:List (List UInt8)} {s:List UInt8} (hall:∀ x∈ns,x=s) (hex:ns≠[]) (h:yZ l ns):l=[s]:=by
 refine Xd l [s] h.1 (List.pairwise_singleton _ _) (fun x=>?_)
 rw [h.2 x,List.mem_singleton]
 refine ⟨hall x,fun e=>?_⟩
 subst e
 obtain ⟨y,r,rfl⟩:=List.exists_cons_of_ne_nil hex
 rw [<- hall y (List.mem_cons_self ..)]
 exact List.mem_cons_self ..
def zpc (w:World) (B:Nat) (s:List UInt8) (e:Ending) (w' :World):Prop:=∃ v,e= .returned v/\zP w' w'.heap.size v [s]/\Below B w w'
theorem zci (B k:Nat) (A:Option Addr) (n c:Nat) (mv:Value) (hs:List Value) (rows:List xe) (more:List (List yc)) (s:List UInt8) (w:World) (hr:zV w B (.slice A n c) rows) (hm:vp w B 35 1 mv k hs) (hh:V3 w B hs more) (hk:k=more.length) (hkm:k<=100000)
 (hB:B<=w.heap.size) (hs1:s.length<=1073741824) (hall:∀ l∈more ++ rows.map (·.terms),∀ t∈l,t.name=s) (hex:∃ l∈more ++ rows.map (·.terms),l≠[]):
 Calls Tryz.prog 52 #[.slice A n c,mv] w (zpc w B s):=by
 have ha:∀ x∈zS (more ++ rows.map (·.terms)),x=s:=by
  intro x hx
  unfold zS at hx
  rw [List.mem_flatMap] at hx
  obtain ⟨l,hl,hx⟩:=hx
  obtain ⟨t,ht,rfl⟩:=List.mem_map.1 hx
  exact hall l hl t ht
 have he:zS (more ++ rows.map (·.terms))≠[]:=by
  obtain ⟨l,hl,hne⟩:=hex
  obtain ⟨t,r,rfl⟩:=List.exists_cons_of_ne_nil hne
  intro h0
  have:t.name∈zS (more ++ rows.map (·.terms)):=by
   unfold zS;exact List.mem_flatMap.2 ⟨_,hl,List.mem_map.2 ⟨t,List.mem_cons_self ..,rfl⟩⟩
  rw [h0] at this
  cases this
 refine (Y6 B k A n c mv hs rows more w hr hm hh hk hkm hB (fun l hl=>by rw [zb4 ha he hl];simp)).mono ?_
 rintro e w' ⟨v,l,rfl,hin,hn,hb⟩
 rw [zb4 ha he hin] at hn
 exact ⟨v,rfl,hn,hb⟩
end Go.Proofs.YtnpbflhjglkokaaGreatDoor
namespace Go.Proofs.YtnpbflhjglkokaaGreatDoor
open Go.RowKit Go.Deep
attribute [local go_sem ↓] Go.wp_at_zero Go.wp_at_succ
theorem zir (s:ByteArray) (w:World) (hs:s.size<=1073741824):
 Calls Tryz.prog 128 #[.string s] w (zca w (.int .i64 (yu (bts s)))):=by
 have hnum:=zhx s w hs
 cases hr:zr (bts s) with
 | none=>
   have HE:=ze (show yu (bts s)=4 by unfold yu;rw [hr]);have HR:=ze hr;clear hr
   go_enter Tryz.func128,Tryz.ntmps128
   go_wp2_with fail;refine hnum.mono ?_;rintro e w1 ⟨v,b,rfl,⟨ng,A,n,c,B,m,d,rfl⟩,hb,_,hb1⟩;rw [HR.out] at hb;subst hb;have HB:=ze (ext hb1 (zf w1 (.cells #[.bool ng,.slice A n c,.slice B m d] 78)));clear hb1 hnum;go_wp2_with fail;go_ret;exact ⟨ZB HE.out,HB.out⟩
 | some q=>
   have HR:=ze hr;have HQL:=ze (zii.mono (zid hr) (show 50000<=33554432 by omega))
   have HE:=ze (show yu (bts s)=if (!decide (y6 12 q))=true then 3 else 0 by
    unfold yu;rw [hr];by_cases h:y6 12 q<;>simp [h])
   clear hr
   go_enter Tryz.func128,Tryz.ntmps128
   go_wp2_with fail;refine hnum.mono ?_;rintro e w1 ⟨v,b,rfl,⟨ng,A,n,c,B,m,d,rfl⟩,hb,hq,hb1⟩;rw [HR.out] at hb;subst hb;have hx:=zf w1 (.cells #[.bool ng,.slice A n c,.slice B m d] 78);have HB:=ze (ext hb1 hx);have HQ:=ze (VI.below (hq q HR.out) hx);clear hb1 hnum hq hx;go_wp2_with fail;refine (zkq _ q 12 _ HQ.out HQL.out (by omega)).mono ?_;rintro e w2 ⟨rfl,hb2⟩;have HB2:=ze (ext HB.out hb2);clear hb2
   cases hsh:(!decide (y6 12 q)) with
   | true=>
     have HE2:=ze (HE.out.trans (by rw [hsh];rfl:_=(3:Int)));clear hsh HE;go_wp2_with fail;go_ret;exact ⟨ZB HE2.out,HB2.out⟩
   | false=>
     have HE2:=ze (HE.out.trans (by rw [hsh];rfl:_=(0:Int)));clear hsh HE;go_wp2_with fail;go_ret;exact ⟨ZB HE2.out,HB2.out⟩
theorem YS (s:List UInt8) (w:World) (hs:yh s):Calls Tryz.prog 128 #[str s] w (zca w (.int .i64 (yu s))):=by
 have h:=zir ⟨s.toArray⟩ w (by rw [<- zk,xR];exact hs)
 rw [xR] at h
 exact h
theorem zbf (s:List UInt8) (w:World) (hs:yh s):Calls Tryz.prog 139 #[str s] w (XT w (.bool (x9 s))):=by
 have h:=zk2 ⟨s.toArray⟩ w (by rw [<- zk,xR];exact hs)
 rw [xR] at h
 exact h
theorem zi4:zr [48]=some 0:=by
 have h3:([48]:List UInt8)=zT 0:=by
  have h:=congrArg bts zgb
  rw [ze3] at h
  exact h
 have d1:dec 1=[49]:=by simp [dec,digs];rfl
 rw [h3]
 exact Xu ⟨by show (dec 0).length<=_;rw [xt];decide,by show (dec 1).length<=_;rw [d1];decide⟩
theorem zc4 {l:List UInt8} {q:Rat} (h:zr l=some q):(l=[48])↔q=0:=by
 constructor
 . intro e
   subst e;rw [zi4] at h;injection h with h;exact h.symm
 . intro e
   subst e;have:=zn0 (a:=⟨l.toArray⟩) (q:=0) (by rw [xR];exact h);have h2:=congrArg bts this;rw [xR,ze3] at h2;have h3:=congrArg bts zgb;rw [ze3] at h3;rw [h2, <- h3]
   rfl
theorem zg1 {l:List UInt8} {q:Rat} (h:zr l=some q) (h0:q≠0):yX l=yu l:=by
 unfold yX yu
 rw [h]
 simp [h0]
def RtmR (w0:World) (tv:Value) (l:List yc) (kv:Value) (wr:World):Prop:=
 ∃ k:Nat,k<=l.length/\kv= .int .i64 k/\Hid (∀ j,j<k->yo l j=0)/\Hid (zp wr w0.heap.size tv l)/\Hid (Below w0.heap.size w0 wr)
theorem zj8 (A:Option Addr) (n c:Nat) (l:List yc) (w:World) (ht:vh w (.slice A n c) l):Calls Tryz.prog 65 #[.slice A n c] w (zca w (.int .i64 (yk l))):=by
 obtain rfl:=ht.len
 have hbl:=ht.bound
 have HT:=ze ht
 have HW:=ze (Below.refl w.heap.size w)
 clear ht
 go_enter Tryz.func65,Tryz.ntmps65
 go_wp2_with fail
 go_loopw [3] (RtmR w (.slice A l.length c) l) (fun kv _=>l.length - (intOf kv).toNat)
 case atStart=>exact ⟨0,Nat.zero_le _,rfl,(fun j h=>by omega),HT,HW⟩
 case round=>
  clear HT HW
  obtain ⟨k,hk,rfl,HJ,HT,HW⟩:=hrel
  by_cases hkl:k<l.length
  . have hki:(k:Int)<(l.length:Int):=by omega
    obtain ⟨ad,eA,hbb,p0,p1,hs1,hs2⟩:=HT.out.at_ hkl;subst eA;have hgd:l.getD k default=l[k]:=by simp [List.getD,List.getElem?_eq_getElem hkl]
    have HGD:=ze hgd;have hen:=fun w=>YS l[k].coef w hs2
    have hnm:=fun w=>zbf l[k].name w hs1
    have hco:x9 l[k].name=true->yX l[k].coef≠0->yo l k=yX l[k].coef:=fun h1 h2=>by
     unfold yo;rw [HGD.out,h1,if_neg (by decide),if_pos h2]
    have HNM:=ze hnm;clear hgd hs1 hs2 hbb hnm;obtain ⟨zi,hzi⟩:∃ z,yu l[k].coef=z:=⟨_,rfl⟩;rw [hzi] at hen
    cases hin:x9 l[k].name with
    | false=>
      have HE:Hid (yo l k=5):=by show yo l k=5;unfold yo;rw [HGD.out,hin];rfl
      have HER:Hid (yk l=5):=(yG hkl HJ.out (by rw [HE.out];decide)).trans HE.out;rw [hin] at HNM;clear hin hco hzi HE;go_wp2_with fail;refine (hen _).mono ?_;rintro e w2 ⟨rfl,hb2⟩;have hb2' :=hb2.mono HW.out.size;replace HT:=ze (zp.below' HT.out hb2');replace HW:=ze (HW.out.trans hb2');obtain ⟨ad',eA',_,p0',p1',_,_⟩:=HT.out.at_ hkl;injection eA' with eA'
      subst eA';clear hb2 hb2' p0 p1 hen;go_wp2_with fail;refine (HNM.out _).mono ?_;rintro e w3 ⟨rfl,rfl⟩;clear p0' p1';go_wp2_with fail;go_ret;exact ⟨by rw [HER.out];rfl,HW.out⟩
    | true=>
      rw [hin] at HNM;have HIN:=ze hin;clear hin
      cases hr:zr l[k].coef with
      | none=>
        have e4:yX l[k].coef=4:=by unfold yX;rw [hr]
        have HE:Hid (yo l k=4):=(hco HIN.out (by rw [e4];decide)).trans e4;have HER:Hid (yk l=4):=(yG hkl HJ.out (by rw [HE.out];decide)).trans HE.out;have ez:zi=4:=by rw [<- hzi];unfold yu;rw [hr]
        subst ez;clear hr hco e4 hzi HE;go_wp2_with fail;refine (hen _).mono ?_;rintro e w2 ⟨rfl,hb2⟩;have hb2' :=hb2.mono HW.out.size;replace HT:=ze (zp.below' HT.out hb2');replace HW:=ze (HW.out.trans hb2');obtain ⟨ad',eA',_,p0',p1',_,_⟩:=HT.out.at_ hkl;injection eA' with eA'
        subst eA';clear hb2 hb2' p0 p1 hen;go_wp2_with fail;refine (HNM.out _).mono ?_;rintro e w3 ⟨rfl,rfl⟩;clear p0' p1';go_wp2_with fail;go_ret;exact ⟨by rw [HER.out];rfl,HW.out⟩
      | some q=>
        have ez4:¬ zi=4:=by
         rw [<- hzi];unfold yu;rw [hr];intro h;simp at h
         split at h<;>omega
        have d4:(zi == 4)=false:=beq_eq_false_iff_ne.2 ez4
        by_cases h0:q=0
        . have ecz:l[k].coef=[48]:=(zc4 hr).2 h0
          have e1:yX l[k].coef=1:=by unfold yX;rw [hr];exact if_pos h0
          have HE:Hid (yo l k=1):=(hco HIN.out (by rw [e1];decide)).trans e1;have HER:Hid (yk l=1):=(yG hkl HJ.out (by rw [HE.out];decide)).trans HE.out;have HEC:=ze ecz;clear hr hco e1 hzi HE ez4 ecz h0;go_wp2_with fail;refine (hen _).mono ?_;rintro e w2 ⟨rfl,hb2⟩;have hb2' :=hb2.mono HW.out.size;replace HT:=ze (zp.below' HT.out hb2');replace HW:=ze (HW.out.trans hb2');obtain ⟨ad',eA',_,p0',p1',_,_⟩:=HT.out.at_ hkl;injection eA' with eA'
          subst eA';rw [HEC.out] at p1';clear hb2 hb2' p0 p1 hen;go_wp2_with fail;refine (HNM.out _).mono ?_;rintro e w3 ⟨rfl,rfl⟩;clear p0';go_wp2_with fail;go_ret;exact ⟨by rw [HER.out];rfl,HW.out⟩
        . have ecz:¬ l[k].coef=[48]:=fun e=>h0 ((zc4 hr).1 e)
          have dcz:(l[k].coef == [48])=false:=beq_eq_false_iff_ne.2 ecz;have eco:yX l[k].coef=zi:=(zg1 hr h0).trans hzi
          by_cases hz0:zi=0
          . subst hz0
            have htb:x9 l[k].name=true->yo l k=y7 (l.getD (k - 1) default).name l[k].name (decide (k=0)):=fun h1=>by
             unfold yo;rw [HGD.out,h1,if_neg (by decide),if_neg (by rw [eco];exact fun h=>h rfl)]
            have HTB:=ze (htb HIN.out);clear hr hco hzi ez4 ecz h0 eco htb
            by_cases hk0:k=0
            . have hkpi:decide ((0:Int)<(k:Int))=false:=decide_eq_false (by omega)
              have hkpn:decide (0<k)=false:=decide_eq_false (by omega);have HE:Hid (yo l k=0):=by show _=_;rw [HTB.out,decide_eq_true hk0];unfold y7;exact if_pos (.inl rfl)
              have HJ2:Hid (∀ j,j<k+1->yo l j=0):=fun j hj=>by
               obtain rfl:j=k:=by omega
               exact HE.out
              clear HTB hk0;go_wp2_with fail;refine (hen _).mono ?_;rintro e w2 ⟨rfl,hb2⟩;have hb2' :=hb2.mono HW.out.size;replace HT:=ze (zp.below' HT.out hb2');replace HW:=ze (HW.out.trans hb2');obtain ⟨ad',eA',_,p0',p1',_,_⟩:=HT.out.at_ hkl;injection eA' with eA'
              subst eA';clear hb2 hb2' p0 p1 hen;go_wp2_with fail;refine (HNM.out _).mono ?_;rintro e w3 ⟨rfl,rfl⟩;clear p0';go_wp2_with fail
              go_quiet (fail)
              go_wp2_with fail
              go_quiet (fail)
              go_wp2_with fail;go_roundw
              case rel=>exact ⟨k+1,by omega,by go_num,HJ2,HT,ze (by first | exact zm HW.out _ | exact zm (zm HW.out _) _)⟩
              case measure=>simp [intOf];omega
            . have hkp:0<k:=by omega
              have hkpi:(0:Int)<(k:Int):=by omega
              obtain ⟨kp,hkp2⟩:∃ kp,kp=k - 1:=⟨_,rfl⟩;have hkpl:kp<l.length:=by omega
              have hwr:IntKind.i64.wrap ((k:Int) - 1)=(kp:Int):=by rw [IntKind.wrap_i64];omega
              have hkpi2:(kp:Int)<(l.length:Int):=by omega
              have hgp:l.getD (k - 1) default=l[kp]:=by rw [<- hkp2];simp [List.getD,List.getElem?_eq_getElem hkpl]
              have HTB2:Hid (yo l k=y7 l[kp].name l[k].name false):=by
               show _=_
               rw [HTB.out,hgp,decide_eq_false hk0]
              clear HTB hgp hkp2;go_wp2_with fail;refine (hen _).mono ?_;rintro e w2 ⟨rfl,hb2⟩;have hb2' :=hb2.mono HW.out.size;replace HT:=ze (zp.below' HT.out hb2');replace HW:=ze (HW.out.trans hb2');obtain ⟨ad',eA',_,p0',p1',_,_⟩:=HT.out.at_ hkl;injection eA' with eA'
              subst eA';obtain ⟨ad',eA',_,q0,q1,_,_⟩:=HT.out.at_ hkpl;injection eA' with eA'
              subst eA';clear hb2 hb2' p0 p1 hen q1;have HTW:=HT;obtain ⟨a,ha⟩:∃ a,l[kp].name=a:=⟨_,rfl⟩;obtain ⟨b,hb⟩:∃ b,l[k].name=b:=⟨_,rfl⟩;rw [ha,hb] at HTB2;rw [ha] at q0;rw [hb] at p0' HNM;clear ha hb;have hl:=ZL a b;have he:(a == b)=decide (a=b):=by by_cases h:a=b<;>simp [h]
              by_cases h2:a=b
              . have HE:Hid (yo l k=6):=by show _=_;rw [HTB2.out];unfold y7;rw [if_neg (by rintro (h | h);cases h;rw [h2] at h;exact YG _ h),if_pos h2]
                have HER:Hid (yk l=6):=(yG hkl HJ.out (by rw [HE.out];decide)).trans HE.out;rw [decide_eq_true h2] at he;clear hl h2 HTB2 HE;go_wp2_with fail;refine (HNM.out _).mono ?_;rintro e w3 ⟨rfl,rfl⟩;go_wp2_with fail
                go_quiet (fail)
                go_wp2_with fail;go_ret;exact ⟨by rw [HER.out];rfl,by first | exact zm HW.out _ | exact zm (zm HW.out _) _⟩
              . rw [decide_eq_false h2] at he
                by_cases h3:b<a
                . have HE:Hid (yo l k=1):=by show _=_;rw [HTB2.out];unfold y7;rw [if_neg (by rintro (h | h);cases h;exact zac h3 h),if_neg h2]
                  have HER:Hid (yk l=1):=(yG hkl HJ.out (by rw [HE.out];decide)).trans HE.out;rw [decide_eq_false (zac h3)] at hl;clear h2 h3 HTB2 HE;go_wp2_with fail;refine (HNM.out _).mono ?_;rintro e w3 ⟨rfl,rfl⟩;go_wp2_with fail
                  go_quiet (fail)
                  go_wp2_with fail
                  go_quiet (fail)
                  go_wp2_with fail;go_ret;exact ⟨by rw [HER.out];rfl,by first | exact zm HW.out _ | exact zm (zm HW.out _) _⟩
                . skip
                  have hlt:a<b:=by
                   rcases Decidable.em (a<b) with h | h
                   . exact h
                   . exact absurd (ze9 _ _ h h3) h2
                  have HE:Hid (yo l k=0):=by show _=_;rw [HTB2.out];unfold y7;exact if_pos (.inr hlt)
                  have HJ2:Hid (∀ j,j<k+1->yo l j=0):=fun j hj=>by
                   by_cases e:j=k
                   . subst e;exact HE.out
                   . exact HJ.out j (by omega)
                  rw [decide_eq_true hlt] at hl;clear h2 h3 hlt HTB2 HE;go_wp2_with fail;refine (HNM.out _).mono ?_;rintro e w3 ⟨rfl,rfl⟩;go_wp2_with fail
                  go_quiet (fail)
                  go_wp2_with fail
                  go_quiet (fail)
                  go_wp2_with fail;go_roundw
                  case rel=>exact ⟨k+1,by omega,by go_num,HJ2,HT,ze (by first | exact zm HW.out _ | exact zm (zm HW.out _) _)⟩
                  case measure=>simp [intOf];omega
          . have HE:Hid (yo l k=zi):=(hco HIN.out (by rw [eco];exact hz0)).trans eco
            have HER:Hid (yk l=zi):=(yG hkl HJ.out (by rw [HE.out];exact hz0)).trans HE.out;have d0:(zi == 0)=false:=beq_eq_false_iff_ne.2 hz0;clear hr hco hzi ez4 ecz h0 eco HE hz0;go_wp2_with fail;refine (hen _).mono ?_;rintro e w2 ⟨rfl,hb2⟩;have hb2' :=hb2.mono HW.out.size;replace HT:=ze (zp.below' HT.out hb2');replace HW:=ze (HW.out.trans hb2');obtain ⟨ad',eA',_,p0',p1',_,_⟩:=HT.out.at_ hkl;injection eA' with eA'
            subst eA';clear hb2 hb2' p0 p1 hen;go_wp2_with fail;refine (HNM.out _).mono ?_;rintro e w3 ⟨rfl,rfl⟩;clear p0';go_wp2_with fail;go_ret;exact ⟨by rw [HER.out];rfl,HW.out⟩
  . obtain rfl:l.length=k:=by omega
    have HER:Hid (yk l=0):=vS.2 HJ.out;clear HT HJ;go_wp2_with fail;go_ret;exact ⟨by rw [HER.out];rfl,HW.out⟩
theorem zkx (A:Option Addr) (n c:Nat) (r:xe) (w:World) (ht:vh w (.slice A n c) r.terms) (hs:yh r.bound):Calls Tryz.prog 55 #[.agg #[.slice A n c,str r.bound]] w (zca w (.int .i64 (yQ r))):=by
 have hx:=zf w (.cells #[.slice A n c,str r.bound] 57)
 have HK:=ze (Blk.new w 57 #[.slice A n c,str r.bound])
 have HB:=ze hx
 have htm:=zj8 A n c r.terms _ ((zp.below ht hx).more hx.size)
 have hin:=fun w=>YS r.bound w hs
 have HIN:=ze hin
 clear ht hs hx hin
 by_cases h0:yk r.terms=0
 . have HE:Hid (yQ r=yu r.bound):=by show _=_;unfold yQ;rw [h0];rfl
   rw [h0] at htm;have HTM:=ze htm;clear h0 htm;have r1:=HK.out.cell 1;simp at r1
   go_enter Tryz.func55,Tryz.ntmps55
   go_wp2_with fail;refine HTM.out.mono ?_;rintro e w1 ⟨rfl,hb1⟩;have k1:=HK.out.below hb1 HK.out.lt;replace HB:=eb_ HB hb1;have c1:=k1.cell 1;simp at c1;clear hb1 HTM HK k1 r1;go_wp2_with fail;refine (HIN.out _).mono ?_;rintro e w2 ⟨rfl,hb2⟩;replace HB:=eb_ HB hb2;clear hb2;go_wp2_with fail;go_ret;exact ⟨by rw [HE.out];rfl,HB.out⟩
 . have HE:Hid (yQ r=yk r.terms):=by show _=_;unfold yQ;rw [if_pos h0]
   obtain ⟨z,hz⟩:∃ z,yk r.terms=z:=⟨_,rfl⟩;rw [hz] at htm HE h0;have hzb:(z == 0)=false:=beq_eq_false_iff_ne.2 h0;have HTM:=ze htm;clear h0 htm hz
   go_enter Tryz.func55,Tryz.ntmps55
   go_wp2_with fail;refine HTM.out.mono ?_;rintro e w1 ⟨rfl,hb1⟩;replace HB:=eb_ HB hb1;clear hb1 HTM HK;go_wp2_with fail;go_ret;exact ⟨by rw [HE.out];rfl,HB.out⟩
end Go.Proofs.YtnpbflhjglkokaaGreatDoor
