/- Parts of the proof: memory, numbers, walks of the functions that are called. -/
import Derived.Carry
import Derived.Test.YtnpbflhjglkokaaGreatDoorMg21
import Derived.Test.YtnpbflhjglkokaaGreatDoorMg34
set_option linter.unusedVariables false
set_option linter.unusedSimpArgs false
namespace Go.Proofs.YtnpbflhjglkokaaGreatDoor
open Go.RowKit Go.Deep Go.Maps Go.Sort
attribute [local go_sem ↓] Go.wp_at_zero Go.wp_at_succ
def VJ (w:World) (B:Nat) (hs:List Value) (L:List (List y8)):Prop:=hs.length=L.length/\∀ j,j<L.length->zt w B (hs.getD j undef) (L.getD j [])
theorem VJ.below {w w' :World} {B:Nat} {hs:List Value} {L:List (List y8)} (h:VJ w B hs L) (hb:Below B w w'):VJ w' B hs L:=by
 refine ⟨h.1,fun j hj=>?_⟩
 obtain ⟨A,c,h1,h2,h3,h4,h5,h6⟩:=h.2 j hj
 exact ⟨A,c,h1,h2,h3,h4,h5.below hb,h6⟩
theorem yd.below' {w w' :World} {B:Nat} {v:Value} {l:List vW} (h:yd w B v l) (hb:Below B w w'):yd w' B v l:=by
 obtain ⟨A,c,H,h1,h2,h3,h4,h5,h6,h7⟩:=h
 refine ⟨A,c,H,h1,h2,h3,h4,h5.below hb,fun i hi=>?_,h7⟩
 obtain ⟨A,c,h1,h2,h3,h4,h5,h6⟩:=h6 i hi
 exact ⟨A,c,h1,h2,h3,h4,h5.below hb,h6⟩
theorem zt.below' {w w' :World} {B:Nat} {v:Value} {l:List y8} (h:zt w B v l) (hb:Below B w w'):zt w' B v l:=by
 obtain ⟨A,c,h1,h2,h3,h4,h5,h6⟩:=h
 exact ⟨A,c,h1,h2,h3,h4,h5.below hb,h6⟩
theorem VJ.push {w:World} {B:Nat} {hs:List Value} {L:List (List y8)} {v:Value} {l:List y8} (h:VJ w B hs L) (hv:zt w B v l):VJ w B (hs ++ [v]) (L ++ [l]):=by
 refine ⟨by rw [List.length_append,List.length_append,h.1];rfl,fun j hj=>?_⟩
 rw [List.length_append,List.length_singleton] at hj
 by_cases e:j<L.length
 . have:=h.2 j e
   unfold List.getD at this |-;rw [List.getElem?_append_left e,List.getElem?_append_left (by rw [h.1];exact e)];exact this
 . obtain rfl:j=L.length:=by omega
   unfold List.getD;rw [List.getElem?_append_right (Nat.le_refl _),List.getElem?_append_right (by rw [h.1];exact Nat.le_refl _),h.1,Nat.sub_self];exact hv
abbrev zng (s:List UInt8):DataW Unit:=.map [(.string s,.lit (.bool true))]
abbrev zot:DataW Unit:=.map []
theorem znm:Keyed Tryz.prog 9:=string_keyed Tryz.underlying9
theorem VZ {w:World} {P:Program} {k:TypeId} {R:Value->Option (DataW Unit×List MemPlace)} {b n:Nat} {l:List (Lit×DataW Unit)} (h:w.ownsMap P k R b n (.map l)):w.ownsMap P k R b l.length (.map l):=by
 obtain ⟨es,clock,hb,F,hs,hD⟩:=h
 refine ⟨es,clock,hb,F,?_,hD⟩
 injection hD with e
 rw [e,length_sorted]
 simp
theorem zfy (s:List UInt8):zot.put (.string s) (.lit (.bool true))=zng s:=rfl
theorem zi7 (s:List UInt8):(zng s).put (.string s) (.lit (.bool true))=zng s:=by
 rw [DataW.put_eq]
 unfold ChangeMaps.putKey
 have e:([((Lit.string s:Lit),(DataW.lit (.bool true):DataW Unit))].filter (ChangeMaps.notKey (.string s)))=[]:=by
  simp [ChangeMaps.notKey,Lit.sameKey]
 rw [e]
 rfl
theorem zbt:Tryz.prog.underlying znp=some (.map 9 4):=by kernel_rfl
def Z8 (w:World) (g:Nat) (s:List UInt8) (b:Bool):Prop:=w.ownsMap Tryz.prog 9 (plainElem (H:=Unit) Tryz.prog 4) g 1 (if b=true then zng s else zot)
theorem Z8.lt {w:World} {g:Nat} {s:List UInt8} {b:Bool} (h:Z8 w g s b):g<w.heap.size:=World.ownsMap.lt h
theorem Z8.keep {w w' :World} {g:Nat} {s:List UInt8} {b:Bool} (h:Z8 w g s b) (hk:w'.heap[g]?=w.heap[g]?):Z8 w' g s b:=by
 obtain ⟨es,clock,hb,F,hs,hD⟩:=h
 exact ⟨es,clock,hk.trans hb,F,hs,hD⟩
theorem Z8.below {w w' :World} {g:Nat} {s:List UInt8} {b:Bool} (h:Z8 w g s b) (hb:Below w.heap.size w w'):Z8 w' g s b:=h.keep (hb.block g h.lt)
theorem Z8.new (w:World) (s:List UInt8):Z8 (w.alloc (.map #[] 0)) w.heap.size s false:=(World.ownsMap_made w Tryz.prog 9 (plainElem (H:=Unit) Tryz.prog 4)).mono (Nat.zero_le _)
theorem Z8.put {w:World} {g:Nat} {s:List UInt8} {b:Bool} (h:Z8 w g s b) (hs:s.length<=1073741824):∃ w',(Instr.mapUpdate znp (.map (some g)) (str s) (.bool true)).run Tryz.prog w= .ok () w' /\Z8 w' g s true/\w.grownBy w' (some g):=by
 have hk:keyOf Tryz.prog 9 (str s)=some (.string s):=WideMaps.keyOf_string_mk Tryz.underlying9 (by
  show s.toArray.size<=maxLen
  rw [List.size_toArray]
  unfold maxLen;omega)
 obtain ⟨w',h1,h2,h3⟩:=World.ownsMap.update h znm zbt (by unfold maxLen;omega) hk (plainElem_bool Tryz.underlying4 true)
 refine ⟨w',h1,?_,h3⟩
 cases b with
 | false=>exact VZ (l:=[(.string s,.lit (.bool true))]) (by rw [if_neg (by decide),zfy] at h2;exact h2)
 | true=>exact VZ (l:=[(.string s,.lit (.bool true))]) (by rw [if_pos rfl,zi7] at h2;exact h2)
theorem zhx:(Tryz.prog.info? 35).map (fun i=>(i.zero,i.size,i.bytes))=some (some (.slice none 0 0),1,24):=by kernel_rfl
theorem Tryz.underlying176:Tryz.prog.underlying 176=some (.slice 35):=by kernel_rfl
def UnkA (w0:World) (B g k:Nat) (rv:Value) (rows:List vW) (more:List (List y8)) (s:List UInt8) (iv mv:Value) (wr:World):Prop:=
 ∃ (i:Nat) (hs:List Value) (mv' :Value),i<=rows.length/\iv= .int .i64 i/\mv=mv' /\Hid (xX wr B 35 1 mv' (k+i) hs)/\Hid (VJ wr B hs (more ++ (rows.take i).map (·.terms)))/\Hid (yd wr B rv rows)/\Hid (Z8 wr g s false)/\Hid (Below B w0 wr)
def UnkB (w0:World) (B g n:Nat) (mv:Value) (hs:List Value) (L:List (List y8)) (s:List UInt8) (jv:Value) (wr:World):Prop:=
 ∃ (j:Nat) (b:Bool),j<=n/\jv= .int .i64 j/\Hid ((∃ i,i<j/\L.getD i []≠[])->b=true)/\Hid (xX wr B 35 1 mv n hs)/\Hid (VJ wr B hs L)/\Hid (Z8 wr g s b)/\Hid (Below B w0 wr)
def UnkC (w0:World) (B g n:Nat) (mv:Value) (hs:List Value) (L:List (List y8)) (s:List UInt8) (l:List y8) (tv:Value) (b0:Bool) (jv:Value) (wr:World):Prop:=
 ∃ (j:Nat) (b:Bool),j<=l.length/\jv= .int .i64 j/\Hid ((b0=true\/0<j)->b=true)/\Hid (xX wr B 35 1 mv n hs)/\Hid (VJ wr B hs L)/\Hid (zt wr B tv l)/\Hid (Z8 wr g s b)/\Hid (Below B w0 wr)
def zno (w:World) (B:Nat) (s:List UInt8) (e:Ending) (w' :World):Prop:=∃ v,e= .returned v/\yi w' w'.heap.size v [s]/\Below B w w'
set_option maxRecDepth 100000 in
set_option maxHeartbeats 4000000 in
theorem XA (B k:Nat) (A:Option Addr) (n c:Nat) (mv:Value) (hs:List Value) (rows:List vW) (more:List (List y8)) (s:List UInt8) (w:World) (hr:yd w B (.slice A n c) rows) (hm:xX w B 35 1 mv k hs) (hh:VJ w B hs more) (hk:k=more.length) (hkm:k<=100000)
 (hB:B<=w.heap.size) (hs1:s.length<=1073741824) (hall:∀ l∈more ++ rows.map (·.terms),∀ t∈l,t.name=s) (hex:∃ l∈more ++ rows.map (·.terms),l≠[]):
 Calls Tryz.prog 52 #[.slice A n c,mv] w (zno w B s):=by
 obtain rfl:=hr.len
 subst hk
 have hrb:rows.length<=100000:=by obtain ⟨_,_,_,_,_,_,h,_⟩:=hr;exact h
 have HS:Hid (Z8 (w.alloc (.map #[] 0)) w.heap.size s false):=Z8.new w s
 have hx:Below B w (w.alloc (.map #[] 0)):=(zf w (.map #[] 0)).mono hB
 have HR:=ze (yd.below' hr hx)
 have HM:=ze (hm.below (zf w (.map #[] 0)))
 have HH:=ze (hh.below hx)
 have HW:=ze hx
 have HALL:=ze hall
 have HEX:=ze hex
 have HG:Hid (B<=w.heap.size):=hB
 have hmm:=@run_makeMap Tryz.prog
 clear hr hm hh hx hall hex hB
 go_enter Tryz.func52,Tryz.ntmps52
 go_upto_region 2 with fail
 generalize w.alloc (.map #[] 0)=W at HS HR HM HH HW |-
 generalize w.heap.size=g at HS HG |-
 clear hmm
 go_wp2_with fail
 go_loopw [15,1] (UnkA w B g more.length (.slice A rows.length c) rows more s) (fun iv _ _=>rows.length - (intOf iv).toNat)
 case atStart=>exact ⟨0,hs,mv,Nat.zero_le _,rfl,rfl,HM,by rw [List.take_zero,List.map_nil,List.append_nil];exact HH,HR,HS,HW⟩
 case round=>
  clear HR HM HH HS HW
  obtain ⟨i,hs,mv,hi,rfl,rfl,HM,HH,HR,HS,HW⟩:=hrel
  by_cases hil:i<rows.length
  . have hii:(i:Int)<(rows.length:Int):=by omega
    obtain ⟨ad,AT,nt,ct,eA,hbb,p0,p1,ht,hsb⟩:=HR.out.at_ hil;subst eA;have hx:=zf wr (.cells #[.slice AT nt ct,str rows[i].bound] 57);have HK:=ze (Blk.new wr 57 #[.slice AT nt ct,str rows[i].bound]);have HBS:Hid (B<=wr.heap.size):=Nat.le_trans HG.out (Nat.le_of_lt (World.ownsMap.lt HS.out));have hxB:=hx.mono HBS.out;have HT:=ze (zt.below' ht hxB);replace HM:=ze (HM.out.below hx);replace HH:=ze (HH.out.below hxB);replace HR:=ze (yd.below' HR.out hxB);replace HS:=ze (HS.out.below hx);replace HW:=ze (HW.out.trans hxB);clear hx ht hsb hxB
    go_upto_region 5 with fail
    clear p0 p1 hbb;replace HBS:Hid (B<=(wr.alloc (.cells #[.slice AT nt ct,str rows[i].bound] 57)).heap.size):=by have:=HBS.out;show B<=_;simp only [World.size_alloc];omega
    generalize wr.alloc (.cells #[.slice AT nt ct,str rows[i].bound] 57)=W2 at HK HT HM HH HR HS HW HBS |-;generalize wr.heap.size=gr at HK |-;have r0:=HK.out.cell 0;simp at r0;have hx:=zf W2 (.cells #[.slice AT nt ct] 35);have hxB:=hx.mono HBS.out;have hone:∀ u∈[Value.slice AT nt ct],u.oneCell' =true:=by intro u hu;rw [List.mem_singleton] at hu;subst hu;rfl
    have hnoi:∀ u∈[Value.slice AT nt ct],Zw u:=by intro u hu;rw [List.mem_singleton] at hu;subst hu;exact yc _ _ _
    have hzn:∀ u∈(Value.slice none 0 0).cells,Zw u:=by intro u hu;simp [Value.cells] at hu;subst hu;exact yc _ _ _
    obtain ⟨i0,hi0,hz0,hz1,hz2⟩:=info_parts zhx;have hnew:=Blk.new W2 35 #[.slice AT nt ct]
    have hcell:∀ (j:Nat) (u:Value),[Value.slice AT nt ct][j]?=some u->(W2.alloc (.cells #[.slice AT nt ct] 35)).cell? ((⟨W2.heap.size,0,none⟩:Addr).add j)=some u:=by
     intro j u hu
     match j with
     | 0=>
       simp at hu;subst hu;have:=hnew.cell 0
       simp [Addr.add]
     | j+1=>simp at hu
    replace HM:=ze (HM.out.below hx);replace HH:=ze (HH.out.below hxB);replace HR:=ze (yd.below' HR.out hxB);replace HT:=ze (zt.below' HT.out hxB);replace HS:=ze (HS.out.below hx);replace HW:=ze (HW.out.trans hxB);have HOX:=ze (show B<=(W2.alloc (.cells #[.slice AT nt ct] 35)).heap.size by have:=HBS.out;simp only [World.size_alloc];omega);clear hx hxB hnew HK;go_wp2_with (at_builtin;go_must (refine yj (P:=Tryz.prog) rfl (.tmp 19) (.tmp 22) _ rfl B 35 i0 _ 1 24 Tryz.underlying176 hi0 hz0 hz1 hz2 rfl (by omega) _ (more.length+i) hs rfl HM.out ⟨W2.heap.size,0,none⟩ 1 1 [.slice AT nt ct] rfl rfl (by omega) hcell hone hnoi hzn ?o4 ?o5 ?o6 ?_))
    case o4=>unfold maxLen;omega
    case o5=>omega
    case o6=>exact HOX.out
    intro v3 w3 hown3 hgr3 hat3;clear hcell hone hnoi hzn r0;have hge:=fun b hb=>(HM.out.1.lt b hb).1
    have hB3:Below B (W2.alloc (.cells #[.slice AT nt ct] 35)) w3:=(Below.refl _ _).grown hgr3 HOX.out hge;have HMX:=ze hown3
    have HSX:Hid (Z8 w3 g s false):=HS.out.keep (hgr3.block g HS.out.lt (fun e=>by
     obtain ⟨cs,k1⟩:=HM.out.heap e.symm;obtain ⟨es,clock,k2,_⟩:=HS.out
     rw [k1] at k2;cases k2))
    have HHX:=ze ((HH.out.below hB3).push (zt.below' HT.out hB3));have HRX:=ze (yd.below' HR.out hB3);have HWX:=ze (HW.out.trans hB3)
    have HTK:Hid ((rows.take i).map (·.terms) ++ [rows[i].terms]=(rows.take (i+1)).map (·.terms)):=by
     show _=_
     rw [List.take_add_one,List.getElem?_eq_getElem hil,List.map_append]
     rfl
    clear HM HH HR HS HW HT hown3 hgr3 hat3 hge hB3 HOX HBS;go_wp2_with fail;go_roundw
    case rel=>exact ⟨i+1,_,_,by omega,by go_num,rfl,HMX,by rw [<- HTK.out, <- List.append_assoc];exact HHX,HRX,HSX,HWX⟩
    case measure=>simp [intOf];omega
  . obtain rfl:rows.length=i:=by omega
    rw [List.take_length] at HH;obtain ⟨L,hL⟩:∃ L,L=more ++ rows.map (·.terms):=⟨_,rfl⟩;rw [<- hL] at HH HALL HEX;have hLl:L.length=more.length+rows.length:=by rw [hL,List.length_append,List.length_map]
    have hn0:0<L.length:=by
     obtain ⟨l,hl,_⟩:=HEX.out;exact List.length_pos_of_mem hl
    rw [<- hLl] at HM;have hLb:L.length<=200000:=by omega
    clear hL hLl HR;generalize hn:L.length=n at HM hn0 hLb;have HN:Hid (L.length=n):=hn;clear hn;obtain ⟨gm,cap,emv,hnc,hgm⟩:=HM.out.1.form hn0;subst emv;clear hgm
    skip
    go_wp2_with fail
    go_loopw [27] (UnkB w B g n (.slice (some ⟨gm,0,none⟩) n cap) hs L s) (fun iv _=>n - (intOf iv).toNat)
    case atStart=>exact ⟨0,false,Nat.zero_le _,rfl,(fun ⟨i,h,_⟩=>by omega),HM,HH,HS,HW⟩
    case round=>
     clear HM HH HS HW;obtain ⟨j,b,hj,rfl,HBB,HM,HH,HS,HW⟩:=hrel
     by_cases hjl:j<n
     . have hji:(j:Int)<(n:Int):=by omega
       have hjL:j<L.length:=by rw [HN.out];exact hjl
       have hE:=HH.out.2 j hjL;obtain ⟨At,ct,eH,_⟩:=id hE
       have c1:wr.cell? ⟨gm,j,none⟩=some (.slice At (L.getD j []).length ct):=by
        rw [HM.out.1.cellAt j (by omega)];have h1:=HH.out.1;rw [<- eH]
        simp [List.getD,List.getElem?_eq_getElem (show j<hs.length by omega)]
       rw [eH] at hE
       have HLL:Hid (∀ t∈L.getD j [],t.name=s):=by
        have:=HALL.out (L.getD j []) (by simp [List.getD,List.getElem?_eq_getElem hjL]);exact this
       have HTT:=ze hE;have hlb:=hE.bound;obtain ⟨l,HLD⟩:∃ l,Hid (L.getD j []=l):=⟨_,rfl⟩;rw [HLD.out] at c1 HLL HTT hlb;clear hE eH;go_wp2_with fail
       go_loopw [33] (UnkC w B g n (.slice (some ⟨gm,0,none⟩) n cap) hs L s l (.slice At l.length ct) b) (fun iv _=>l.length - (intOf iv).toNat)
       case atStart=>exact ⟨0,b,Nat.zero_le _,rfl,(fun h=>h.elim id (fun h=>by omega)),HM,HH,HTT,HS,HW⟩
       case round=>
        clear HM HH HS HW HTT c1;obtain ⟨t,b1,ht,rfl,HB1,HM,HH,HTT,HS,HW⟩:=hrel
        by_cases htl:t<l.length
        . have hti:(t:Int)<(l.length:Int):=by omega
          obtain ⟨ad,eA,hbb,p0,p1,hs2,hs3⟩:=HTT.out.at_ htl;subst eA;rw [HLL.out _ (List.getElem_mem htl)] at p0;have hx:=zf wr (.cells #[str s,str l[t].coef] 68);have HK:=ze (Blk.new wr 68 #[str s,str l[t].coef]);have HBS:Hid (B<=wr.heap.size):=Nat.le_trans HG.out (Nat.le_of_lt (World.ownsMap.lt HS.out));have hxB:=hx.mono HBS.out;replace HM:=ze (HM.out.below hx);replace HH:=ze (HH.out.below hxB);replace HTT:=ze (zt.below' HTT.out hxB);replace HS:=ze (HS.out.below hx);replace HW:=ze (HW.out.trans hxB);clear hx hxB hs2 hs3
          go_upto_region 13 with fail
          clear p0 p1 hbb;replace HBS:Hid (B<=(wr.alloc (.cells #[str s,str l[t].coef] 68)).heap.size):=by have:=HBS.out;show B<=_;simp only [World.size_alloc];omega
          generalize wr.alloc (.cells #[str s,str l[t].coef] 68)=W2 at HK HTT HM HH HS HW HBS |-;generalize wr.heap.size=gr at HK |-;have r0:=HK.out.cell 0;simp at r0;obtain ⟨w3,hu,hS3,hg3⟩:=HS.out.put hs1;have hB3:Below B W2 w3:=(Below.refl _ _).grown hg3 HBS.out (fun c e=>by injection e with e;have:=HG.out;omega)
          have HMX:=ze (HM.out.chg (Chg.of_grown (S:=(· =g)) hg3 rfl) (fun c e e2=>by
           subst e2;obtain ⟨cs,k1⟩:=HM.out.heap e;obtain ⟨es,clock,k2,_⟩:=HS.out
           rw [k1] at k2;cases k2))
          have HHX:=ze (HH.out.below hB3);have HTX:=ze (zt.below' HTT.out hB3);have HSX:=ze hS3;have HWX:=ze (HW.out.trans hB3);clear HM HH HTT HS HW hS3 hg3 hB3 HK HBS;go_wp2_with fail;go_roundw
          case rel=>exact ⟨t+1,true,by omega,by go_num,(fun _=>rfl),HMX,HHX,HTX,HSX,HWX⟩
          case measure=>simp [intOf];omega
        . obtain rfl:l.length=t:=by omega
          have HB2:Hid ((∃ i,i<j+1/\L.getD i []≠[])->b1=true):=by
           rintro ⟨i,h1,h2⟩
           by_cases e:i=j
           . subst e
             rw [HLD.out] at h2;exact HB1.out (.inr (List.length_pos_iff.2 h2))
           . exact HB1.out (.inl (HBB.out ⟨i,by omega,h2⟩))
          clear HBB HB1 HLD HLL;go_wp2_with fail;go_roundw
          case rel=>exact ⟨j+1,b1,by omega,by go_num,HB2,HM,HH,HS,HW⟩
          case measure=>simp [intOf];omega
     . obtain rfl:n=j:=by omega
       have hb:b=true:=HBB.out (by
        obtain ⟨l,hl,hne⟩:=HEX.out;obtain ⟨i,hi,e⟩:=List.mem_iff_getElem.1 hl
        exact ⟨i,by rw [<- HN.out];exact hi,by simp [List.getD,List.getElem?_eq_getElem hi,e,hne]⟩)
       subst hb;have hS:=HS.out;unfold Z8 at hS;rw [if_pos rfl] at hS;have hkc:=zik (some g) wr;have hsc:=zdh g 1 (zng s) (plainElem (H:=Unit) Tryz.prog 4) wr hS (by simp [Maps.size,maxLen]) (by simp [Maps.size]);have HKC:=ze hkc;have HSC:=ze hsc;have HBS:Hid (B<=wr.heap.size):=Nat.le_trans HG.out (Nat.le_of_lt (World.ownsMap.lt HS.out));clear hS hkc hsc HM HH HBB HS HEX HALL HN;go_wp2_with fail;refine HKC.out.mono ?_;rintro e w1 ⟨rfl,rfl⟩;clear HKC;go_wp2_with fail;refine HSC.out.mono ?_;rintro e w2 ⟨v,ss,rfl,hperm,hrow,hnil,hb2⟩
       have hss:ss=[s]:=by
        have:strKeys (zng s)=[s]:=rfl;rw [this] at hperm;exact List.perm_singleton.1 hperm
       subst hss;have HROW:=ze hrow;have HB2:=ze hb2;clear hperm hrow hnil hb2 HSC;go_wp2_with fail;go_ret;refine ⟨v,rfl,?_,HW.out.trans (((zf wr _).mono HBS.out).trans (HB2.out.mono (by have:=HBS.out;simp only [World.size_alloc];omega)))⟩;have hrow:=HROW.out
       have e1:(([s]:List (List UInt8)).mergeSort (fun x y=>decide (x<=y))).map encStr=[str s]:=by
        rw [List.mergeSort_singleton]
        rfl
       rw [e1] at hrow
       obtain ⟨g',cap',cur,e2,_,hg',hnc',hcm,hcs,htake⟩:∃ g cap cur,v= .slice (some ⟨g,0,none⟩) 1 cap/\_/\w2.heap[g]?=some (.cells cur 9 (0,0))/\1<=cap/\cap<=maxLen/\cur.size=cap*1/\cur.toList.take (1*1)=[str s]:=by
        rcases hrow.2 with ⟨_,h0⟩ | ⟨g,cap,cur,h1,h2,h3,h4,h5,h6,h7⟩
        . exact absurd h0 (by simp)
        . exact ⟨g,cap,cur,h1,h2,h3,h4,h5,h6,h7⟩
       subst e2;refine ⟨_,_,rfl,hnc',hcm,by simp,zZ.of_own hrow,fun x hx=>?_⟩;rw [List.mem_singleton] at hx;subst hx;exact hs1
end Go.Proofs.YtnpbflhjglkokaaGreatDoor
