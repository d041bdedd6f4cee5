/- Parts of the proof: memory, numbers, walks of the functions that are called. -/
import Derived.Carry
import Derived.Test.YtkmcmmcencdcpaaGreatDoorMt25
import Derived.Test.YtkmcmmcencdcpaaGreatDoorMt24
import Derived.Test.YtkmcmmcencdcpaaGreatDoorMt22
set_option linter.unusedVariables false
set_option linter.unusedSimpArgs false
set_option maxRecDepth 100000
set_option maxHeartbeats 32000000
namespace Go.Proofs.YtkmcmmcencdcpaaGreatDoor
open Go.RowKit Go.Deep Go.Maps Go.Sort
attribute [local go_sem ↓] Go.wp_at_zero Go.wp_at_succ
def zbc (w:World) (B:Nat) (hs:List Value) (L:List (List zG)):Prop:=hs.length=L.length/\∀ j,j<L.length->zk w B (hs.getD j undef) (L.getD j [])
theorem zbc.below {w w' :World} {B:Nat} {hs:List Value} {L:List (List zG)} (h:zbc w B hs L) (hb:Below B w w'):zbc w' B hs L:=by
 refine ⟨h.1,fun j hj=>?_⟩
 obtain ⟨A,c,h1,h2,h3,h4,h5,h6⟩:=h.2 j hj
 exact ⟨A,c,h1,h2,h3,h4,h5.below hb,h6⟩
theorem zV.below' {w w' :World} {B:Nat} {v:Value} {l:List yU} (h:zV w B v l) (hb:Below B w w'):zV w' B v l:=by
 obtain ⟨A,c,H,h1,h2,h3,h4,h5,h6,h7⟩:=h
 refine ⟨A,c,H,h1,h2,h3,h4,h5.below hb,fun i hi=>?_,h7⟩
 obtain ⟨A,c,h1,h2,h3,h4,h5,h6⟩:=h6 i hi
 exact ⟨A,c,h1,h2,h3,h4,h5.below hb,h6⟩
theorem zk.below' {w w' :World} {B:Nat} {v:Value} {l:List zG} (h:zk w B v l) (hb:Below B w w'):zk w' B v l:=by
 obtain ⟨A,c,h1,h2,h3,h4,h5,h6⟩:=h
 exact ⟨A,c,h1,h2,h3,h4,h5.below hb,h6⟩
theorem zbc.push {w:World} {B:Nat} {hs:List Value} {L:List (List zG)} {v:Value} {l:List zG} (h:zbc w B hs L) (hv:zk w B v l):zbc w B (hs ++ [v]) (L ++ [l]):=by
 refine ⟨by rw [List.length_append,List.length_append,h.1];rfl,fun j hj=>?_⟩
 rw [List.length_append,List.length_singleton] at hj
 by_cases e:j<L.length
 . have:=h.2 j e
   unfold List.getD at this |-;rw [List.getElem?_append_left e,List.getElem?_append_left (by rw [h.1];exact e)];exact this
 . obtain rfl:j=L.length:=by omega
   unfold List.getD;rw [List.getElem?_append_right (Nat.le_refl _),List.getElem?_append_right (by rw [h.1];exact Nat.le_refl _),h.1,Nat.sub_self];exact hv
theorem zo5:Keyed Tryz.prog 9:=string_keyed Tryz.underlying9
theorem zeo:Tryz.prog.underlying zp1=some (.map 9 4):=by kernel_rfl
def Yf (w:World) (g:Nat) (ns:List (List UInt8)):Prop:=
 ∃ (n:Nat) (D:DataW Unit),w.ownsMap Tryz.prog 9 (plainElem (H:=Unit) Tryz.prog 4) g n D/\n<=ns.length/\∀ x,Maps.has D (.string x)=true↔x∈ns
theorem Yf.lt {w:World} {g:Nat} {ns:List (List UInt8)} (h:Yf w g ns):g<w.heap.size:=by
 obtain ⟨n,D,h,_⟩:=h
 exact World.ownsMap.lt h
theorem Yf.keep {w w' :World} {g:Nat} {ns:List (List UInt8)} (h:Yf w g ns) (hk:w'.heap[g]?=w.heap[g]?):Yf w' g ns:=by
 obtain ⟨n,D,⟨es,clock,hb,F,hs,hD⟩,h2⟩:=h
 exact ⟨n,D,⟨es,clock,hk.trans hb,F,hs,hD⟩,h2⟩
theorem Yf.below {w w' :World} {g:Nat} {ns:List (List UInt8)} (h:Yf w g ns) (hb:Below w.heap.size w w'):Yf w' g ns:=h.keep (hb.block g h.lt)
theorem Yf.new (w:World):Yf (w.alloc (.map #[] 0)) w.heap.size []:=
 ⟨0,.map [],World.ownsMap_made w Tryz.prog 9 (plainElem (H:=Unit) Tryz.prog 4),Nat.le_refl _,fun x=>by simp [Maps.has]⟩
theorem Yf.put {w:World} {g:Nat} {ns:List (List UInt8)} {s:List UInt8} (h:Yf w g ns) (hs:s.length<=1073741824) (hn:ns.length<maxLen):
 ∃ w',(Instr.mapUpdate zp1 (.map (some g)) (str s) (.bool true)).run Tryz.prog w= .ok () w' /\Yf w' g (ns ++ [s])/\w.grownBy w' (some g):=by
 obtain ⟨n,D,h,hle,hh⟩:=h
 have hk:keyOf Tryz.prog 9 (str s)=some (.string s):=WideMaps.keyOf_string_mk Tryz.underlying9 (by
  show s.toArray.size<=maxLen
  rw [List.size_toArray]
  unfold maxLen;omega)
 obtain ⟨w',h1,h2,h3⟩:=World.ownsMap.update h zo5 zeo (by omega) hk (plainElem_bool Tryz.underlying4 true)
 refine ⟨w',h1,⟨n+1,_,h2,by rw [List.length_append];simpa using hle,fun x=>?_⟩,h3⟩
 rw [List.mem_append,List.mem_singleton]
 by_cases e:x=s
 . subst e
   rw [has_put_same h.isMap (k:=.string x) (show WideAt.IsKeyLit (.string x) from trivial)];exact ⟨fun _=>.inr rfl,fun _=>rfl⟩
 . rw [has_put_other (by intro h;injection h with h;exact e h),hh x]
   exact ⟨fun h=>.inl h,fun h=>h.elim id (fun h=>absurd h e)⟩
theorem zii {w:World} {g n:Nat} {D:DataW Unit} (h:w.ownsMap Tryz.prog 9 (plainElem (H:=Unit) Tryz.prog 4) g n D):(strKeys D).Nodup/\∀ x,x∈strKeys D↔Maps.has D (.string x)=true:=by
 obtain ⟨es,hD,hpw,_⟩:=h.entries zo5
 obtain ⟨es',hD',hko⟩:=h.keysOf
 obtain rfl:es=es' :=by rw [hD] at hD';simpa using hD'
 subst hD
 have hk:∀ p∈es,∃ x,p.1= .string x:=fun p hp=>by obtain ⟨v,hv⟩:=hko p hp;obtain ⟨x,_,hx,_⟩:=Maps.keyOf_str Tryz.underlying9 hv;exact ⟨x,hx⟩
 refine ⟨?_,fun x=>?_⟩
 . show (es.map fun p=>strOf p.1).Nodup
   refine List.pairwise_map.2 (hpw.imp_of_mem fun {p q} hp' hq' hne e=>hne ?_);obtain ⟨a,ha⟩:=hk p hp';obtain ⟨b,hb⟩:=hk q hq';rw [ha,hb] at e |-;exact congrArg _ e
 . rw [has_eq,List.any_eq_true]
   show (x∈es.map fun p=>strOf p.1)↔_
   rw [List.mem_map]
   constructor
   . rintro ⟨p,hp',rfl⟩
     obtain ⟨a,ha⟩:=hk p hp';exact ⟨p,hp',by rw [ha];simp [Lit.sameKey,strOf]⟩
   . rintro ⟨p,hp',hs⟩
     obtain ⟨a,ha⟩:=hk p hp';rw [ha] at hs;exact ⟨p,hp',by rw [ha];simpa [Lit.sameKey,strOf] using hs⟩
theorem Zo {w:World} {base:Nat} {v:Value} {l:List (List UInt8)} (h:w.ownsRow base 9 1 v l.length (l.map str)) (hl:l.length<=100000) (hs:∀ x∈l,yo x):yg w w.heap.size v l:=by
 have h0:=h
 rcases h.2 with ⟨e,hx⟩ | ⟨g,cap,cur,e,hb,hc,hm,hz,ht⟩
 . have:l=[]:=List.eq_nil_of_length_eq_zero hx
   subst this;subst e;exact ⟨none,0,rfl,Nat.le_refl _,by unfold maxLen;omega,by simp,zY.none_,fun x hx=>by cases hx⟩
 . subst e
   refine ⟨_,cap,rfl,?_,?_,hl,zY.of_own h0,hs⟩
   . omega
   . omega
theorem zof {w:World} {base size n:Nat} {e:TypeId} {v:Value} {xs:List Value} (h:w.ownsRow base e size v n xs):∃ am cap,v= .slice am n cap/\(0<n->∃ gm,am=some ⟨gm,0,none⟩):=by
 rcases h.2 with ⟨e,hx⟩ | ⟨gm,cap,cur,e,_⟩
 . exact ⟨none,0,by rw [hx];exact e,fun h=>by omega⟩
 . exact ⟨_,cap,e,fun _=>⟨gm,rfl⟩⟩
theorem zcb {L:List (List zG)} {M:Nat} (h:∀ l∈L,l.length<=M):(zZ L).length<=L.length*M:=by
 induction L with
 | nil=>simp [zZ]
 | cons a L ih=>
   have h1:=ih (fun l hl=>h l (List.mem_cons_of_mem _ hl));have h2:=h a (List.mem_cons_self ..);unfold zZ at h1 |-;rw [List.flatMap_cons,List.length_append,List.length_map,List.length_cons,Nat.succ_mul]
   omega
theorem VH {L:List (List zG)} {j:Nat} (h:j<L.length):zZ (L.take (j+1))=zZ (L.take j) ++ L[j].map (·.name):=by
 unfold zZ
 rw [List.take_add_one,List.getElem?_eq_getElem h,List.flatMap_append]
 simp
theorem zcd {l:List zG} {t:Nat} (h:t<l.length):(l.take (t+1)).map (·.name)=(l.take t).map (·.name) ++ [l[t].name]:=by
 rw [List.take_add_one,List.getElem?_eq_getElem h,List.map_append]
 rfl
theorem zkv:(Tryz.prog.info? 30).map (fun i=>(i.zero,i.size,i.bytes))=some (some (.slice none 0 0),1,24):=by kernel_rfl
theorem Tryz.underlying202:Tryz.prog.underlying 202=some (.slice 30):=by kernel_rfl
def UnkA (w0:World) (B g k:Nat) (rv:Value) (rows:List yU) (more:List (List zG)) (iv mv:Value) (wr:World):Prop:=
 ∃ (i:Nat) (hs:List Value) (mv' :Value),i<=rows.length/\iv= .int .i64 i/\mv=mv' /\Hid (vJ wr B 30 1 mv' (k+i) hs)/\Hid (zbc wr B hs (more ++ (rows.take i).map (·.terms)))/\Hid (zV wr B rv rows)/\Hid (Yf wr g [])/\Hid (Below B w0 wr)
def UnkB (w0:World) (B g n:Nat) (mv:Value) (hs:List Value) (L:List (List zG)) (jv:Value) (wr:World):Prop:=
 ∃ (j:Nat),j<=n/\jv= .int .i64 j/\Hid (vJ wr B 30 1 mv n hs)/\Hid (zbc wr B hs L)/\Hid (Yf wr g (zZ (L.take j)))/\Hid (Below B w0 wr)
def UnkC (w0:World) (B g n:Nat) (mv:Value) (hs:List Value) (L:List (List zG)) (l:List zG) (tv:Value) (ns:List (List UInt8)) (jv:Value) (wr:World):Prop:=
 ∃ (j:Nat),j<=l.length/\jv= .int .i64 j/\Hid (vJ wr B 30 1 mv n hs)/\Hid (zbc wr B hs L)/\Hid (zk wr B tv l)/\Hid (Yf wr g (ns ++ (l.take j).map (·.name)))/\Hid (Below B w0 wr)
def zru (w:World) (B:Nat) (ns:List (List UInt8)) (e:Ending) (w' :World):Prop:=∃ v l,e= .returned v/\xt l ns/\yg w' w'.heap.size v l/\Below B w w'
theorem VO (B k:Nat) (A:Option Addr) (n c:Nat) (mv:Value) (hs:List Value) (rows:List yU) (more:List (List zG)) (w:World) (hr:zV w B (.slice A n c) rows) (hm:vJ w B 30 1 mv k hs) (hh:zbc w B hs more) (hk:k=more.length) (hkm:k<=100000)
 (hB:B<=w.heap.size) (hcnt:∀ l,xt l (zZ (more ++ rows.map (·.terms)))->l.length<=100000):
 Calls Tryz.prog 88 #[.slice A n c,mv] w (zru w B (zZ (more ++ rows.map (·.terms)))):=by
 obtain rfl:=hr.len
 subst hk
 have hrb:rows.length<=100000:=by obtain ⟨_,_,_,_,_,_,h,_⟩:=hr;exact h
 have HS:Hid (Yf (w.alloc (.map #[] 0)) w.heap.size []):=Yf.new w
 have hx:Below B w (w.alloc (.map #[] 0)):=(zf w (.map #[] 0)).mono hB
 have HR:=ze (zV.below' hr hx)
 have HM:=ze (hm.below (zf w (.map #[] 0)))
 have HH:=ze (hh.below hx)
 have HW:=ze hx
 have HCN:=ze hcnt
 have HG:Hid (B<=w.heap.size):=hB
 have hmm:=@run_makeMap Tryz.prog
 clear hr hm hh hx hcnt hB
 go_enter Tryz.func88,Tryz.ntmps88
 go_upto_region 2 with fail
 generalize w.alloc (.map #[] 0)=W at HS HR HM HH HW |-
 generalize w.heap.size=g at HS HG |-
 clear hmm
 go_wp2_with fail
 go_loopw [15,1] (UnkA w B g more.length (.slice A rows.length c) rows more) (fun iv _ _=>rows.length - (intOf iv).toNat)
 case atStart=>exact ⟨0,hs,mv,Nat.zero_le _,rfl,rfl,HM,by rw [List.take_zero,List.map_nil,List.append_nil];exact HH,HR,HS,HW⟩
 case round=>
  clear HR HM HH HS HW
  obtain ⟨i,hs,mv,hi,rfl,rfl,HM,HH,HR,HS,HW⟩:=hrel
  by_cases hil:i<rows.length
  . have hii:(i:Int)<(rows.length:Int):=by omega
    obtain ⟨ad,AT,nt,ct,eA,hbb,p0,p1,ht,hsb⟩:=HR.out.at_ hil;subst eA;have hx:=zf wr (.cells #[.slice AT nt ct,str rows[i].bound] 49);have HK:=ze (Blk.new wr 49 #[.slice AT nt ct,str rows[i].bound]);have HBS:Hid (B<=wr.heap.size):=Nat.le_trans HG.out (Nat.le_of_lt (Yf.lt HS.out));have hxB:=hx.mono HBS.out;have HT:=ze (zk.below' ht hxB);replace HM:=ze (HM.out.below hx);replace HH:=ze (HH.out.below hxB);replace HR:=ze (zV.below' HR.out hxB);replace HS:=ze (HS.out.below hx);replace HW:=ze (HW.out.trans hxB);clear hx ht hsb hxB
    go_upto_region 5 with fail
    clear p0 p1 hbb;replace HBS:Hid (B<=(wr.alloc (.cells #[.slice AT nt ct,str rows[i].bound] 49)).heap.size):=by have:=HBS.out;show B<=_;simp only [World.size_alloc];omega
    generalize wr.alloc (.cells #[.slice AT nt ct,str rows[i].bound] 49)=W2 at HK HT HM HH HR HS HW HBS |-;generalize wr.heap.size=gr at HK |-;have r0:=HK.out.cell 0;simp at r0;have hx:=zf W2 (.cells #[.slice AT nt ct] 30);have hxB:=hx.mono HBS.out;have hone:∀ u∈[Value.slice AT nt ct],u.oneCell' =true:=by intro u hu;rw [List.mem_singleton] at hu;subst hu;rfl
    have hnoi:∀ u∈[Value.slice AT nt ct],ZO u:=by intro u hu;rw [List.mem_singleton] at hu;subst hu;exact ys _ _ _
    have hzn:∀ u∈(Value.slice none 0 0).cells,ZO u:=by intro u hu;simp [Value.cells] at hu;subst hu;exact ys _ _ _
    obtain ⟨i0,hi0,hz0,hz1,hz2⟩:=info_parts zkv;have hnew:=Blk.new W2 30 #[.slice AT nt ct]
    have hcell:∀ (j:Nat) (u:Value),[Value.slice AT nt ct][j]?=some u->(W2.alloc (.cells #[.slice AT nt ct] 30)).cell? ((⟨W2.heap.size,0,none⟩:Addr).add j)=some u:=by
     intro j u hu
     match j with
     | 0=>
       simp at hu;subst hu;have:=hnew.cell 0
       simp [Addr.add]
     | j+1=>simp at hu
    replace HM:=ze (HM.out.below hx);replace HH:=ze (HH.out.below hxB);replace HR:=ze (zV.below' HR.out hxB);replace HT:=ze (zk.below' HT.out hxB);replace HS:=ze (HS.out.below hx);replace HW:=ze (HW.out.trans hxB);have HOX:=ze (show B<=(W2.alloc (.cells #[.slice AT nt ct] 30)).heap.size by have:=HBS.out;simp only [World.size_alloc];omega);clear hx hxB hnew HK;go_wp2_with (at_builtin;go_must (refine yz (P:=Tryz.prog) rfl (.tmp 19) (.tmp 22) _ rfl B 30 i0 _ 1 24 Tryz.underlying202 hi0 hz0 hz1 hz2 rfl (by omega) _ (more.length+i) hs rfl HM.out ⟨W2.heap.size,0,none⟩ 1 1 [.slice AT nt ct] rfl rfl (by omega) hcell hone hnoi hzn ?o4 ?o5 ?o6 ?_))
    case o4=>unfold maxLen;omega
    case o5=>omega
    case o6=>exact HOX.out
    intro v3 w3 hown3 hgr3 hat3;clear hcell hone hnoi hzn r0;have hge:=fun b hb=>(HM.out.1.lt b hb).1
    have hB3:Below B (W2.alloc (.cells #[.slice AT nt ct] 30)) w3:=(Below.refl _ _).grown hgr3 HOX.out hge;have HMX:=ze hown3
    have HSX:Hid (Yf w3 g []):=HS.out.keep (hgr3.block g HS.out.lt (fun e=>by
     obtain ⟨cs,k1⟩:=HM.out.heap e.symm;obtain ⟨_,_,⟨es,clock,k2,_⟩,_⟩:=HS.out
     rw [k1] at k2;cases k2))
    have HHX:=ze ((HH.out.below hB3).push (zk.below' HT.out hB3));have HRX:=ze (zV.below' HR.out hB3);have HWX:=ze (HW.out.trans hB3)
    have HTK:Hid ((rows.take i).map (·.terms) ++ [rows[i].terms]=(rows.take (i+1)).map (·.terms)):=by
     show _=_
     rw [List.take_add_one,List.getElem?_eq_getElem hil,List.map_append]
     rfl
    clear HM HH HR HS HW HT hown3 hgr3 hat3 hge hB3 HOX HBS;go_wp2_with fail;go_roundw
    case rel=>exact ⟨i+1,_,_,by omega,by go_num,rfl,HMX,by rw [<- HTK.out, <- List.append_assoc];exact HHX,HRX,HSX,HWX⟩
    case measure=>simp [intOf];omega
  . obtain rfl:rows.length=i:=by omega
    rw [List.take_length] at HH;obtain ⟨L,hL⟩:∃ L,L=more ++ rows.map (·.terms):=⟨_,rfl⟩;rw [<- hL] at HH HCN;have HLE:=ze hL;have hLl:L.length=more.length+rows.length:=by rw [hL,List.length_append,List.length_map]
    rw [<- hLl] at HM;have hLb:L.length<=200000:=by omega
    clear hL hLl HR;generalize hn:L.length=n at HM hLb;have HN:Hid (L.length=n):=hn;clear hn;obtain ⟨am,cap,eam,hgm⟩:=zof HM.out.1;subst eam
    skip
    go_wp2_with fail
    go_loopw [27] (UnkB w B g n (.slice am n cap) hs L) (fun iv _=>n - (intOf iv).toNat)
    case atStart=>exact ⟨0,Nat.zero_le _,rfl,HM,HH,HS,HW⟩
    case round=>
     clear HM HH HS HW;obtain ⟨j,hj,rfl,HM,HH,HS,HW⟩:=hrel
     by_cases hjl:j<n
     . obtain ⟨gm,rfl⟩:=hgm (by omega)
       have hji:(j:Int)<(n:Int):=by omega
       have hjL:j<L.length:=by rw [HN.out];exact hjl
       have hE:=HH.out.2 j hjL;obtain ⟨At,ct,eH,_⟩:=id hE
       have c1:wr.cell? ⟨gm,j,none⟩=some (.slice At (L.getD j []).length ct):=by
        rw [HM.out.1.cellAt j (by omega)];have h1:=HH.out.1;rw [<- eH]
        simp [List.getD,List.getElem?_eq_getElem (show j<hs.length by omega)]
       rw [eH] at hE
       have HNX:Hid (zZ (L.take (j+1))=zZ (L.take j) ++ (L.getD j []).map (·.name)):=by
        show _=_
        rw [VH hjL]
        simp [List.getD,List.getElem?_eq_getElem hjL]
       have HNL:Hid ((zZ (L.take j)).length<=20000000000):=by
        have h1:(zZ (L.take j)).length<=(L.take j).length*100000:=zcb (fun l hl=>by
         obtain ⟨i,hi,rfl⟩:=List.mem_iff_getElem.1 (List.mem_of_mem_take hl);have:=(HH.out.2 i hi).bound
         simpa [List.getD,List.getElem?_eq_getElem hi] using this)
        have h2:(L.take j).length<=200000:=by rw [List.length_take];omega
        show _<=_
        omega
       have HTT:=ze hE;have hlb:=hE.bound;obtain ⟨l,HLD⟩:∃ l,Hid (L.getD j []=l):=⟨_,rfl⟩;rw [HLD.out] at c1 HNX HTT hlb;obtain ⟨ns,HNS⟩:∃ ns,Hid (zZ (L.take j)=ns):=⟨_,rfl⟩;rw [HNS.out] at HNX HNL HS;clear hE eH;go_wp2_with fail
       go_loopw [33] (UnkC w B g n (.slice (some ⟨gm,0,none⟩) n cap) hs L l (.slice At l.length ct) ns) (fun iv _=>l.length - (intOf iv).toNat)
       case atStart=>exact ⟨0,Nat.zero_le _,rfl,HM,HH,HTT,by rw [List.take_zero,List.map_nil,List.append_nil];exact HS,HW⟩
       case round=>
        clear HM HH HS HW HTT c1;obtain ⟨t,ht,rfl,HM,HH,HTT,HS,HW⟩:=hrel
        by_cases htl:t<l.length
        . have hti:(t:Int)<(l.length:Int):=by omega
          obtain ⟨ad,eA,hbb,p0,p1,hs2,hs3⟩:=HTT.out.at_ htl;subst eA;have HNT:=ze (zcd htl);have hx:=zf wr (.cells #[str l[t].name,str l[t].coef] 60);have HK:=ze (Blk.new wr 60 #[str l[t].name,str l[t].coef]);have HBS:Hid (B<=wr.heap.size):=Nat.le_trans HG.out (Nat.le_of_lt (Yf.lt HS.out));have hxB:=hx.mono HBS.out;replace HM:=ze (HM.out.below hx);replace HH:=ze (HH.out.below hxB);replace HTT:=ze (zk.below' HTT.out hxB);replace HS:=ze (HS.out.below hx);replace HW:=ze (HW.out.trans hxB);have HS2:=ze hs2;clear hx hxB hs2 hs3
          go_upto_region 13 with fail
          clear p0 p1 hbb;replace HBS:Hid (B<=(wr.alloc (.cells #[str l[t].name,str l[t].coef] 60)).heap.size):=by have:=HBS.out;show B<=_;simp only [World.size_alloc];omega
          generalize wr.alloc (.cells #[str l[t].name,str l[t].coef] 60)=W2 at HK HTT HM HH HS HW HBS |-;generalize wr.heap.size=gr at HK |-;have r0:=HK.out.cell 0;simp at r0;obtain ⟨w3,hu,hS3,hg3⟩:=HS.out.put HS2.out (by rw [List.length_append,List.length_map,List.length_take];have:=HNL.out;unfold maxLen;omega);rw [List.append_assoc, <- HNT.out] at hS3;have hB3:Below B W2 w3:=(Below.refl _ _).grown hg3 HBS.out (fun c e=>by injection e with e;have:=HG.out;omega)
          have HMX:=ze (HM.out.chg (Chg.of_grown (S:=(· =g)) hg3 rfl) (fun c e e2=>by
           subst e2;obtain ⟨cs,k1⟩:=HM.out.heap e;obtain ⟨_,_,⟨es,clock,k2,_⟩,_⟩:=HS.out
           rw [k1] at k2;cases k2))
          have HHX:=ze (HH.out.below hB3);have HTX:=ze (zk.below' HTT.out hB3);have HSX:=ze hS3;have HWX:=ze (HW.out.trans hB3);clear HM HH HTT HS HW hS3 hg3 hB3 HK HBS HNT HS2;go_wp2_with fail;go_roundw
          case rel=>exact ⟨t+1,by omega,by go_num,HMX,HHX,HTX,HSX,HWX⟩
          case measure=>simp [intOf];omega
        . obtain rfl:l.length=t:=by omega
          rw [List.take_length, <- HNX.out] at HS;clear HLD HNX HNS;go_wp2_with fail;go_roundw
          case rel=>exact ⟨j+1,by omega,by go_num,HM,HH,HS,HW⟩
          case measure=>simp [intOf];omega
     . obtain rfl:n=j:=by omega
       have hLn:L.take n=L:=List.take_of_length_le (by rw [HN.out];exact Nat.le_refl _)
       have hsm:∀ x∈zZ L,yo x:=by
        intro x hx;unfold zZ at hx;rw [List.mem_flatMap] at hx;obtain ⟨l,hl,hx⟩:=hx;obtain ⟨t,ht,rfl⟩:=List.mem_map.1 hx;obtain ⟨i,hi,rfl⟩:=List.mem_iff_getElem.1 hl;obtain ⟨_,_,_,_,_,_,_,h6⟩:=HH.out.2 i hi;exact (h6 t (by simpa [List.getD,List.getElem?_eq_getElem hi] using ht)).1
       have hnl:(zZ L).length<=20000000000:=by
        have h1:(zZ L).length<=L.length*100000:=zcb (fun l hl=>by
         obtain ⟨i,hi,rfl⟩:=List.mem_iff_getElem.1 hl;have:=(HH.out.2 i hi).bound
         simpa [List.getD,List.getElem?_eq_getElem hi] using this)
        rw [HN.out] at h1
        omega
       rw [hLn] at HS;obtain ⟨ns,HNS⟩:∃ ns,Hid (zZ L=ns):=⟨_,rfl⟩;rw [HNS.out] at HS hsm hnl HCN;have HNE:Hid (zZ (more ++ rows.map (·.terms))=ns):=ze (by rw [<- HLE.out,HNS.out]);obtain ⟨m,D,hS,hmn,hhas⟩:=HS.out;have hkn:=zii hS;have hsz:=hS.size_le;have hkc:=zma (some g) wr;have hsc:=zfr g m D (plainElem (H:=Unit) Tryz.prog 4) wr hS (by unfold maxLen;omega) (by omega);have HKC:=ze hkc;have HSC:=ze hsc;have HKN:Hid ((strKeys D).Nodup/\∀ x,x∈strKeys D↔x∈ns):=⟨hkn.1,fun x=>(hkn.2 x).trans (hhas x)⟩;have HSM:=ze hsm;have HBS:Hid (B<=wr.heap.size):=Nat.le_trans HG.out (Nat.le_of_lt (World.ownsMap.lt hS));clear hS hkc hsc HM HH HS HN HNS hLn hsm hnl hmn hhas hkn hsz hgm;go_wp2_with fail;refine HKC.out.mono ?_;rintro e w1 ⟨rfl,rfl⟩;clear HKC;go_wp2_with fail;refine HSC.out.mono ?_;rintro e w2 ⟨v,ss,rfl,hperm,hrow,hnil,hb2⟩;have HPERM:=ze hperm;have HROW:=ze hrow;have HB2:=ze hb2;clear hperm hrow hnil hb2 HSC;go_wp2_with fail;go_ret
       have hin:xt (ss.mergeSort (fun x y=>decide (x<=y))) ns:=
        ⟨zaf (HPERM.out.nodup_iff.2 HKN.out.1),fun x=>by rw [(List.mergeSort_perm ss _).mem_iff,HPERM.out.mem_iff];exact HKN.out.2 x⟩
       rw [HNE.out];refine ⟨v,_,rfl,hin,?_,HW.out.trans (((zf wr _).mono HBS.out).trans (HB2.out.mono (by have:=HBS.out;simp only [World.size_alloc];omega)))⟩;refine Zo (base:=(wr.alloc (.cells #[.map (some g)] zp1)).heap.size) ?_ (HCN.out _ hin) (fun x hx=>HSM.out x ((hin.2 x).1 hx));rw [List.length_mergeSort];exact HROW.out
theorem zcv {ns l:List (List UInt8)} {s:List UInt8} (hall:∀ x∈ns,x=s) (hex:ns≠[]) (h:xt l ns):l=[s]:=by
 refine X3 l [s] h.1 (List.pairwise_singleton _ _) (fun x=>?_)
 rw [h.2 x,List.mem_singleton]
 refine ⟨hall x,fun e=>?_⟩
 subst e
 obtain ⟨y,r,rfl⟩:=List.exists_cons_of_ne_nil hex
 rw [<- hall y (List.mem_cons_self ..)]
 exact List.mem_cons_self ..
def zrq (w:World) (B:Nat) (s:List UInt8) (e:Ending) (w' :World):Prop:=∃ v,e= .returned v/\yg w' w'.heap.size v [s]/\Below B w w'
theorem ze3 (B k:Nat) (A:Option Addr) (n c:Nat) (mv:Value) (hs:List Value) (rows:List yU) (more:List (List zG)) (s:List UInt8) (w:World) (hr:zV w B (.slice A n c) rows) (hm:vJ w B 30 1 mv k hs) (hh:zbc w B hs more) (hk:k=more.length) (hkm:k<=100000)
 (hB:B<=w.heap.size) (hs1:s.length<=1073741824) (hall:∀ l∈more ++ rows.map (·.terms),∀ t∈l,t.name=s) (hex:∃ l∈more ++ rows.map (·.terms),l≠[]):
 Calls Tryz.prog 88 #[.slice A n c,mv] w (zrq w B s):=by
 have ha:∀ x∈zZ (more ++ rows.map (·.terms)),x=s:=by
  intro x hx
  unfold zZ at hx
  rw [List.mem_flatMap] at hx
  obtain ⟨l,hl,hx⟩:=hx
  obtain ⟨t,ht,rfl⟩:=List.mem_map.1 hx
  exact hall l hl t ht
 have he:zZ (more ++ rows.map (·.terms))≠[]:=by
  obtain ⟨l,hl,hne⟩:=hex
  obtain ⟨t,r,rfl⟩:=List.exists_cons_of_ne_nil hne
  intro h0
  have:t.name∈zZ (more ++ rows.map (·.terms)):=by
   unfold zZ;exact List.mem_flatMap.2 ⟨_,hl,List.mem_map.2 ⟨t,List.mem_cons_self ..,rfl⟩⟩
  rw [h0] at this
  cases this
 refine (VO B k A n c mv hs rows more w hr hm hh hk hkm hB (fun l hl=>by rw [zcv ha he hl];simp)).mono ?_
 rintro e w' ⟨v,l,rfl,hin,hn,hb⟩
 rw [zcv ha he hin] at hn
 exact ⟨v,rfl,hn,hb⟩
end Go.Proofs.YtkmcmmcencdcpaaGreatDoor
namespace Go.Proofs.YtkmcmmcencdcpaaGreatDoor
open Go.RowKit Go.Deep
attribute [local go_sem ↓] Go.wp_at_zero Go.wp_at_succ
theorem zmg (s:ByteArray) (w:World) (hs:s.size<=1073741824):
 Calls Tryz.prog 95 #[.string s] w (Vc w (.int .i64 (y9 (bts s)))):=by
 have hnum:=Vk s w hs
 cases hr:zp (bts s) with
 | none=>
   have HE:=ze (show y9 (bts s)=4 by unfold y9;rw [hr]);have HR:=ze hr;clear hr
   go_enter Tryz.func95,Tryz.ntmps95
   go_wp2_with fail;refine hnum.mono ?_;rintro e w1 ⟨v,b,rfl,⟨ng,A,n,c,B,m,d,rfl⟩,hb,_,hb1⟩;rw [HR.out] at hb;subst hb;have HB:=ze (ext hb1 (zf w1 (.cells #[.bool ng,.slice A n c,.slice B m d] 98)));clear hb1 hnum;go_wp2_with fail;go_ret;exact ⟨vI HE.out,HB.out⟩
 | some q=>
   have HR:=ze hr;have HQL:=ze (VQ.mono (zl0 hr) (show 50000<=33554432 by omega))
   have HE:=ze (show y9 (bts s)=if (!decide (yE 12 q))=true then 3 else 0 by
    unfold y9;rw [hr];by_cases h:yE 12 q<;>simp [h])
   clear hr
   go_enter Tryz.func95,Tryz.ntmps95
   go_wp2_with fail;refine hnum.mono ?_;rintro e w1 ⟨v,b,rfl,⟨ng,A,n,c,B,m,d,rfl⟩,hb,hq,hb1⟩;rw [HR.out] at hb;subst hb;have hx:=zf w1 (.cells #[.bool ng,.slice A n c,.slice B m d] 98);have HB:=ze (ext hb1 hx);have HQ:=ze (vV.below (hq q HR.out) hx);clear hb1 hnum hq hx;go_wp2_with fail;refine (zh3 _ q 12 _ HQ.out HQL.out (by omega)).mono ?_;rintro e w2 ⟨rfl,hb2⟩;have HB2:=ze (ext HB.out hb2);clear hb2
   cases hsh:(!decide (yE 12 q)) with
   | true=>
     have HE2:=ze (HE.out.trans (by rw [hsh];rfl:_=(3:Int)));clear hsh HE;go_wp2_with fail;go_ret;exact ⟨vI HE2.out,HB2.out⟩
   | false=>
     have HE2:=ze (HE.out.trans (by rw [hsh];rfl:_=(0:Int)));clear hsh HE;go_wp2_with fail;go_ret;exact ⟨vI HE2.out,HB2.out⟩
theorem Xq (s:List UInt8) (w:World) (hs:yo s):Calls Tryz.prog 95 #[str s] w (Vc w (.int .i64 (y9 s))):=by
 have h:=zmg ⟨s.toArray⟩ w (by rw [<- zo,yR];exact hs)
 rw [yR] at h
 exact h
theorem XW (s:List UInt8) (w:World) (hs:yo s):Calls Tryz.prog 96 #[str s] w (Vd w (.bool (x8 s))):=by
 have h:=zoq ⟨s.toArray⟩ w (by rw [<- zo,yR];exact hs)
 rw [yR] at h
 exact h
theorem zl1:zp [48]=some 0:=by
 have h3:([48]:List UInt8)=zT 0:=by
  have h:=congrArg bts zhr
  rw [zfl] at h
  exact h
 have d1:dec 1=[49]:=by simp [dec,digs];rfl
 rw [h3]
 exact XC ⟨by show (dec 0).length<=_;rw [xV];decide,by show (dec 1).length<=_;rw [d1];decide⟩
theorem zeb {l:List UInt8} {q:Rat} (h:zp l=some q):(l=[48])↔q=0:=by
 constructor
 . intro e
   subst e;rw [zl1] at h;injection h with h;exact h.symm
 . intro e
   subst e;have:=zpd (a:=⟨l.toArray⟩) (q:=0) (by rw [yR];exact h);have h2:=congrArg bts this;rw [yR,zfl] at h2;have h3:=congrArg bts zhr;rw [zfl] at h3;rw [h2, <- h3]
   rfl
theorem zjb {l:List UInt8} {q:Rat} (h:zp l=some q) (h0:q≠0):yV l=y9 l:=by
 unfold yV y9
 rw [h]
 simp [h0]
def RtmR (w0:World) (tv:Value) (l:List zG) (kv:Value) (wr:World):Prop:=
 ∃ k:Nat,k<=l.length/\kv= .int .i64 k/\Hid (∀ j,j<k->yw l j=0)/\Hid (zk wr w0.heap.size tv l)/\Hid (Below w0.heap.size w0 wr)
theorem ze4 (A:Option Addr) (n c:Nat) (l:List zG) (w:World) (ht:ya w (.slice A n c) l):Calls Tryz.prog 45 #[.slice A n c] w (Vc w (.int .i64 (zQ l))):=by
 obtain rfl:=ht.len
 have hbl:=ht.bound
 have HT:=ze ht
 have HW:=ze (Below.refl w.heap.size w)
 clear ht
 go_enter Tryz.func45,Tryz.ntmps45
 go_wp2_with fail
 go_loopw [3] (RtmR w (.slice A l.length c) l) (fun kv _=>l.length - (intOf kv).toNat)
 case atStart=>exact ⟨0,Nat.zero_le _,rfl,(fun j h=>by omega),HT,HW⟩
 case round=>
  clear HT HW
  obtain ⟨k,hk,rfl,HJ,HT,HW⟩:=hrel
  by_cases hkl:k<l.length
  . have hki:(k:Int)<(l.length:Int):=by omega
    obtain ⟨ad,eA,hbb,p0,p1,hs1,hs2⟩:=HT.out.at_ hkl;subst eA;have hgd:l.getD k default=l[k]:=by simp [List.getD,List.getElem?_eq_getElem hkl]
    have HGD:=ze hgd;have hen:=fun w=>Xq l[k].coef w hs2
    have hnm:=fun w=>XW l[k].name w hs1
    have hco:x8 l[k].name=true->yV l[k].coef≠0->yw l k=yV l[k].coef:=fun h1 h2=>by
     unfold yw;rw [HGD.out,h1,if_neg (by decide),if_pos h2]
    have HNM:=ze hnm;clear hgd hs1 hs2 hbb hnm;obtain ⟨zi,hzi⟩:∃ z,y9 l[k].coef=z:=⟨_,rfl⟩;rw [hzi] at hen
    cases hin:x8 l[k].name with
    | false=>
      have HE:Hid (yw l k=5):=by show yw l k=5;unfold yw;rw [HGD.out,hin];rfl
      have HER:Hid (zQ l=5):=(yk hkl HJ.out (by rw [HE.out];decide)).trans HE.out;rw [hin] at HNM;clear hin hco hzi HE;go_wp2_with fail;refine (hen _).mono ?_;rintro e w2 ⟨rfl,hb2⟩;have hb2' :=hb2.mono HW.out.size;replace HT:=ze (zk.below' HT.out hb2');replace HW:=ze (HW.out.trans hb2');obtain ⟨ad',eA',_,p0',p1',_,_⟩:=HT.out.at_ hkl;injection eA' with eA'
      subst eA';clear hb2 hb2' p0 p1 hen;go_wp2_with fail;refine (HNM.out _).mono ?_;rintro e w3 ⟨rfl,rfl⟩;clear p0' p1';go_wp2_with fail;go_ret;exact ⟨by rw [HER.out];rfl,HW.out⟩
    | true=>
      rw [hin] at HNM;have HIN:=ze hin;clear hin
      cases hr:zp l[k].coef with
      | none=>
        have e4:yV l[k].coef=4:=by unfold yV;rw [hr]
        have HE:Hid (yw l k=4):=(hco HIN.out (by rw [e4];decide)).trans e4;have HER:Hid (zQ l=4):=(yk hkl HJ.out (by rw [HE.out];decide)).trans HE.out;have ez:zi=4:=by rw [<- hzi];unfold y9;rw [hr]
        subst ez;clear hr hco e4 hzi HE;go_wp2_with fail;refine (hen _).mono ?_;rintro e w2 ⟨rfl,hb2⟩;have hb2' :=hb2.mono HW.out.size;replace HT:=ze (zk.below' HT.out hb2');replace HW:=ze (HW.out.trans hb2');obtain ⟨ad',eA',_,p0',p1',_,_⟩:=HT.out.at_ hkl;injection eA' with eA'
        subst eA';clear hb2 hb2' p0 p1 hen;go_wp2_with fail;refine (HNM.out _).mono ?_;rintro e w3 ⟨rfl,rfl⟩;clear p0' p1';go_wp2_with fail;go_ret;exact ⟨by rw [HER.out];rfl,HW.out⟩
      | some q=>
        have ez4:¬ zi=4:=by
         rw [<- hzi];unfold y9;rw [hr];intro h;simp at h
         split at h<;>omega
        have d4:(zi == 4)=false:=beq_eq_false_iff_ne.2 ez4
        by_cases h0:q=0
        . have ecz:l[k].coef=[48]:=(zeb hr).2 h0
          have e1:yV l[k].coef=1:=by unfold yV;rw [hr];exact if_pos h0
          have HE:Hid (yw l k=1):=(hco HIN.out (by rw [e1];decide)).trans e1;have HER:Hid (zQ l=1):=(yk hkl HJ.out (by rw [HE.out];decide)).trans HE.out;have HEC:=ze ecz;clear hr hco e1 hzi HE ez4 ecz h0;go_wp2_with fail;refine (hen _).mono ?_;rintro e w2 ⟨rfl,hb2⟩;have hb2' :=hb2.mono HW.out.size;replace HT:=ze (zk.below' HT.out hb2');replace HW:=ze (HW.out.trans hb2');obtain ⟨ad',eA',_,p0',p1',_,_⟩:=HT.out.at_ hkl;injection eA' with eA'
          subst eA';rw [HEC.out] at p1';clear hb2 hb2' p0 p1 hen;go_wp2_with fail;refine (HNM.out _).mono ?_;rintro e w3 ⟨rfl,rfl⟩;clear p0';go_wp2_with fail;go_ret;exact ⟨by rw [HER.out];rfl,HW.out⟩
        . have ecz:¬ l[k].coef=[48]:=fun e=>h0 ((zeb hr).1 e)
          have dcz:(l[k].coef == [48])=false:=beq_eq_false_iff_ne.2 ecz;have eco:yV l[k].coef=zi:=(zjb hr h0).trans hzi
          by_cases hz0:zi=0
          . subst hz0
            have htb:x8 l[k].name=true->yw l k=yh (l.getD (k - 1) default).name l[k].name (decide (k=0)):=fun h1=>by
             unfold yw;rw [HGD.out,h1,if_neg (by decide),if_neg (by rw [eco];exact fun h=>h rfl)]
            have HTB:=ze (htb HIN.out);clear hr hco hzi ez4 ecz h0 eco htb
            by_cases hk0:k=0
            . have hkpi:decide ((0:Int)<(k:Int))=false:=decide_eq_false (by omega)
              have hkpn:decide (0<k)=false:=decide_eq_false (by omega);have HE:Hid (yw l k=0):=by show _=_;rw [HTB.out,decide_eq_true hk0];unfold yh;exact if_pos (.inl rfl)
              have HJ2:Hid (∀ j,j<k+1->yw l j=0):=fun j hj=>by
               obtain rfl:j=k:=by omega
               exact HE.out
              clear HTB hk0;go_wp2_with fail;refine (hen _).mono ?_;rintro e w2 ⟨rfl,hb2⟩;have hb2' :=hb2.mono HW.out.size;replace HT:=ze (zk.below' HT.out hb2');replace HW:=ze (HW.out.trans hb2');obtain ⟨ad',eA',_,p0',p1',_,_⟩:=HT.out.at_ hkl;injection eA' with eA'
              subst eA';clear hb2 hb2' p0 p1 hen;go_wp2_with fail;refine (HNM.out _).mono ?_;rintro e w3 ⟨rfl,rfl⟩;clear p0';go_wp2_with fail
              go_quiet (fail)
              go_wp2_with fail
              go_quiet (fail)
              go_wp2_with fail;go_roundw
              case rel=>exact ⟨k+1,by omega,by go_num,HJ2,HT,ze (by first | exact zl HW.out _ | exact zl (zl HW.out _) _)⟩
              case measure=>simp [intOf];omega
            . have hkp:0<k:=by omega
              have hkpi:(0:Int)<(k:Int):=by omega
              obtain ⟨kp,hkp2⟩:∃ kp,kp=k - 1:=⟨_,rfl⟩;have hkpl:kp<l.length:=by omega
              have hwr:IntKind.i64.wrap ((k:Int) - 1)=(kp:Int):=by rw [IntKind.wrap_i64];omega
              have hkpi2:(kp:Int)<(l.length:Int):=by omega
              have hgp:l.getD (k - 1) default=l[kp]:=by rw [<- hkp2];simp [List.getD,List.getElem?_eq_getElem hkpl]
              have HTB2:Hid (yw l k=yh l[kp].name l[k].name false):=by
               show _=_
               rw [HTB.out,hgp,decide_eq_false hk0]
              clear HTB hgp hkp2;go_wp2_with fail;refine (hen _).mono ?_;rintro e w2 ⟨rfl,hb2⟩;have hb2' :=hb2.mono HW.out.size;replace HT:=ze (zk.below' HT.out hb2');replace HW:=ze (HW.out.trans hb2');obtain ⟨ad',eA',_,p0',p1',_,_⟩:=HT.out.at_ hkl;injection eA' with eA'
              subst eA';obtain ⟨ad',eA',_,q0,q1,_,_⟩:=HT.out.at_ hkpl;injection eA' with eA'
              subst eA';clear hb2 hb2' p0 p1 hen q1;have HTW:=HT;obtain ⟨a,ha⟩:∃ a,l[kp].name=a:=⟨_,rfl⟩;obtain ⟨b,hb⟩:∃ b,l[k].name=b:=⟨_,rfl⟩;rw [ha,hb] at HTB2;rw [ha] at q0;rw [hb] at p0' HNM;clear ha hb;have hl:=vS a b;have he:(a == b)=decide (a=b):=by by_cases h:a=b<;>simp [h]
              by_cases h2:a=b
              . have HE:Hid (yw l k=6):=by show _=_;rw [HTB2.out];unfold yh;rw [if_neg (by rintro (h | h);cases h;rw [h2] at h;exact xK _ h),if_pos h2]
                have HER:Hid (zQ l=6):=(yk hkl HJ.out (by rw [HE.out];decide)).trans HE.out;rw [decide_eq_true h2] at he;clear hl h2 HTB2 HE;go_wp2_with fail;refine (HNM.out _).mono ?_;rintro e w3 ⟨rfl,rfl⟩;go_wp2_with fail
                go_quiet (fail)
                go_wp2_with fail;go_ret;exact ⟨by rw [HER.out];rfl,by first | exact zl HW.out _ | exact zl (zl HW.out _) _⟩
              . rw [decide_eq_false h2] at he
                by_cases h3:b<a
                . have HE:Hid (yw l k=1):=by show _=_;rw [HTB2.out];unfold yh;rw [if_neg (by rintro (h | h);cases h;exact YH h3 h),if_neg h2]
                  have HER:Hid (zQ l=1):=(yk hkl HJ.out (by rw [HE.out];decide)).trans HE.out;rw [decide_eq_false (YH h3)] at hl;clear h2 h3 HTB2 HE;go_wp2_with fail;refine (HNM.out _).mono ?_;rintro e w3 ⟨rfl,rfl⟩;go_wp2_with fail
                  go_quiet (fail)
                  go_wp2_with fail
                  go_quiet (fail)
                  go_wp2_with fail;go_ret;exact ⟨by rw [HER.out];rfl,by first | exact zl HW.out _ | exact zl (zl HW.out _) _⟩
                . skip
                  have hlt:a<b:=by
                   rcases Decidable.em (a<b) with h | h
                   . exact h
                   . exact absurd (Vt _ _ h h3) h2
                  have HE:Hid (yw l k=0):=by show _=_;rw [HTB2.out];unfold yh;exact if_pos (.inr hlt)
                  have HJ2:Hid (∀ j,j<k+1->yw l j=0):=fun j hj=>by
                   by_cases e:j=k
                   . subst e;exact HE.out
                   . exact HJ.out j (by omega)
                  rw [decide_eq_true hlt] at hl;clear h2 h3 hlt HTB2 HE;go_wp2_with fail;refine (HNM.out _).mono ?_;rintro e w3 ⟨rfl,rfl⟩;go_wp2_with fail
                  go_quiet (fail)
                  go_wp2_with fail
                  go_quiet (fail)
                  go_wp2_with fail;go_roundw
                  case rel=>exact ⟨k+1,by omega,by go_num,HJ2,HT,ze (by first | exact zl HW.out _ | exact zl (zl HW.out _) _)⟩
                  case measure=>simp [intOf];omega
          . have HE:Hid (yw l k=zi):=(hco HIN.out (by rw [eco];exact hz0)).trans eco
            have HER:Hid (zQ l=zi):=(yk hkl HJ.out (by rw [HE.out];exact hz0)).trans HE.out;have d0:(zi == 0)=false:=beq_eq_false_iff_ne.2 hz0;clear hr hco hzi ez4 ecz h0 eco HE hz0;go_wp2_with fail;refine (hen _).mono ?_;rintro e w2 ⟨rfl,hb2⟩;have hb2' :=hb2.mono HW.out.size;replace HT:=ze (zk.below' HT.out hb2');replace HW:=ze (HW.out.trans hb2');obtain ⟨ad',eA',_,p0',p1',_,_⟩:=HT.out.at_ hkl;injection eA' with eA'
            subst eA';clear hb2 hb2' p0 p1 hen;go_wp2_with fail;refine (HNM.out _).mono ?_;rintro e w3 ⟨rfl,rfl⟩;clear p0';go_wp2_with fail;go_ret;exact ⟨by rw [HER.out];rfl,HW.out⟩
  . obtain rfl:l.length=k:=by omega
    have HER:Hid (zQ l=0):=xb.2 HJ.out;clear HT HJ;go_wp2_with fail;go_ret;exact ⟨by rw [HER.out];rfl,HW.out⟩
theorem zn2 (A:Option Addr) (n c:Nat) (r:yU) (w:World) (ht:ya w (.slice A n c) r.terms) (hs:yo r.bound):Calls Tryz.prog 105 #[.agg #[.slice A n c,str r.bound]] w (Vc w (.int .i64 (yS r))):=by
 have hx:=zf w (.cells #[.slice A n c,str r.bound] 49)
 have HK:=ze (Blk.new w 49 #[.slice A n c,str r.bound])
 have HB:=ze hx
 have htm:=ze4 A n c r.terms _ ((zk.below ht hx).more hx.size)
 have hin:=fun w=>Xq r.bound w hs
 have HIN:=ze hin
 clear ht hs hx hin
 by_cases h0:zQ r.terms=0
 . have HE:Hid (yS r=y9 r.bound):=by show _=_;unfold yS;rw [h0];rfl
   rw [h0] at htm;have HTM:=ze htm;clear h0 htm;have r1:=HK.out.cell 1;simp at r1
   go_enter Tryz.func105,Tryz.ntmps105
   go_wp2_with fail;refine HTM.out.mono ?_;rintro e w1 ⟨rfl,hb1⟩;have k1:=HK.out.below hb1 HK.out.lt;replace HB:=eb_ HB hb1;have c1:=k1.cell 1;simp at c1;clear hb1 HTM HK k1 r1;go_wp2_with fail;refine (HIN.out _).mono ?_;rintro e w2 ⟨rfl,hb2⟩;replace HB:=eb_ HB hb2;clear hb2;go_wp2_with fail;go_ret;exact ⟨by rw [HE.out];rfl,HB.out⟩
 . have HE:Hid (yS r=zQ r.terms):=by show _=_;unfold yS;rw [if_pos h0]
   obtain ⟨z,hz⟩:∃ z,zQ r.terms=z:=⟨_,rfl⟩;rw [hz] at htm HE h0;have hzb:(z == 0)=false:=beq_eq_false_iff_ne.2 h0;have HTM:=ze htm;clear h0 htm hz
   go_enter Tryz.func105,Tryz.ntmps105
   go_wp2_with fail;refine HTM.out.mono ?_;rintro e w1 ⟨rfl,hb1⟩;replace HB:=eb_ HB hb1;clear hb1 HTM HK;go_wp2_with fail;go_ret;exact ⟨by rw [HE.out];rfl,HB.out⟩
def vM (l:List zG) (i:Nat):Int:=
 if x8 (l.getD i default).name=false then 5
 else if (zp (l.getD i default).coef).isSome=false then 4
 else yh (l.getD (i - 1) default).name (l.getD i default).name (decide (i=0))
def yd (l:List zG):Int:=xO l.length (vM l)
def PntR (w0:World) (b B:Nat) (tv:Value) (l:List zG) (kv:Value) (wr:World):Prop:=
 ∃ k:Nat,k<=l.length/\kv= .int .i64 k/\Hid (∀ j,j<k->vM l j=0)/\Hid (zB wr b)/\Hid (zk wr B tv l)/\Hid (Chg (· =b) w0 wr)
theorem zbz (b:Nat) (A:Option Addr) (n c:Nat) (l:List zG) (w:World) (hB:zB w b) (ht:ya w (.slice A n c) l):Calls Tryz.prog 42 #[.map (some b),.slice A n c] w (X8 b (yd l) w):=by
 obtain rfl:=ht.len
 have hbl:=ht.bound
 have HB:=ze hB
 have HT:=ze ht
 have HC:=ze (Chg.refl (S:=(· =b)) w)
 clear hB ht
 go_enter Tryz.func42,Tryz.ntmps42
 go_wp2_with fail
 go_loopw [12] (PntR w b w.heap.size (.slice A l.length c) l) (fun kv _=>l.length - (intOf kv).toNat)
 case atStart=>exact ⟨0,Nat.zero_le _,rfl,(fun j h=>by omega),HB,HT,HC⟩
 case round=>
  clear HB HT HC
  obtain ⟨k,hk,rfl,HJ,HB,HT,HC⟩:=hrel
  by_cases hkl:k<l.length
  . have hki:(k:Int)<(l.length:Int):=by omega
    obtain ⟨ad,eA,hbb,p0,p1,hs1,hs2⟩:=HT.out.at_ hkl;subst eA;have hx:=zf wr (.cells #[str l[k].name,str l[k].coef] 84);have HKT:=ze (Blk.new wr 84 #[str l[k].name,str l[k].coef]);replace HB:=ze (HB.out.below hx);replace HT:=ze (zk.below HT.out hx);replace HC:=ze (zX HC.out hx);have hgd:l.getD k default=l[k]:=by simp [List.getD,List.getElem?_eq_getElem hkl]
    have HGD:=ze hgd;have HS2:=ze hs2;have hnm:=fun w=>zao l[k].name w hs1
    clear hx hgd hs1 hs2
    go_upto_region 4 with fail
    clear p0 p1 hbb;generalize wr.alloc (.cells #[str l[k].name,str l[k].coef] 84)=WL at HKT HB HT HC |-;generalize wr.heap.size=gt at HKT |-;have p0:=HKT.out.cell 0;simp at p0
    cases hin:x8 l[k].name with
    | false=>
      rw [hin] at hnm;have HE:Hid (vM l k=5):=by show vM l k=5;unfold vM;rw [HGD.out,hin];rfl
      have HER:Hid (yd l=5):=(yk hkl HJ.out (by rw [HE.out];decide)).trans HE.out;clear hin;go_wp2_with fail;refine (hnm _).mono ?_;rintro e w1 ⟨rfl,rfl⟩;go_wp2_with fail;go_ret;exact ⟨by rw [HER.out];rfl,HB.out,HC.out⟩
    | true=>
      rw [hin] at hnm;have HIN:=ze hin;have hrd:=vD b ⟨l[k].coef.toArray⟩ WL HB.out (by rw [<- zo,yR];exact HS2.out);rw [yR] at hrd;have HRD:=ze hrd;have p1:=HKT.out.cell 1;simp at p1;clear hin hrd;go_wp2_with fail;refine (hnm _).mono ?_;rintro e w1 ⟨rfl,rfl⟩;clear hnm;go_wp2_with fail;refine HRD.out.mono ?_;rintro e w2 ⟨v,ok,rfl,⟨x1,A1,k1,c1,s1,y1,B1,k1x,c1x,t1,rfl⟩,hok,hq,hB1,hc1⟩;clear HRD p0 p1;replace HT:=ze (HB.out.keepT hc1 HT.out);replace HKT:=ze (HB.out.keepBlk hc1 HKT.out);replace HC:=ze (yq HC.out hc1);replace HB:=ze hB1;have hx:=zf w2 (.cells #[.int .i64 x1,.slice A1 k1 c1,.bool s1,.int .i64 y1,.slice B1 k1x c1x,.bool t1] 93);replace HB:=ze (HB.out.below hx);replace HT:=ze (zk.below HT.out hx);replace HKT:=kb_ HKT hx;replace HC:=ze (zX HC.out hx);clear hB1 hc1 hx
      cases hr:zp l[k].coef with
      | none=>
        rw [hr] at hok;subst hok;have HE:Hid (vM l k=4):=by show vM l k=4;unfold vM;rw [HGD.out,HIN.out,hr];rfl
        have HER:Hid (yd l=4):=(yk hkl HJ.out (by rw [HE.out];decide)).trans HE.out;clear hq hr;go_wp2_with fail;go_ret;exact ⟨by rw [HER.out];rfl,HB.out,HC.out⟩
      | some q=>
        rw [hr] at hok;subst hok
        have HPE:Hid (vM l k=yh (l.getD (k - 1) default).name l[k].name (decide (k=0))):=by
         show _=_
         unfold vM;rw [HGD.out,HIN.out,hr]
         rfl
        clear hq hr
        go_upto_region 9 with fail
        generalize w2.alloc (.cells #[.int .i64 x1,.slice A1 k1 c1,.bool s1,.int .i64 y1,.slice B1 k1x c1x,.bool t1] 93)=w4 at HB HT HKT HC |-;obtain ⟨kp,hkp⟩:∃ kp,kp=k - 1:=⟨_,rfl⟩;have hkpl:kp<l.length:=by omega
        obtain ⟨ad2,eA2,hbb,p0,p1,hs1,_⟩:=HT.out.at_ hkpl;injection eA2 with eA2
        subst eA2;have hmax:max ((k:Int) - 1) 0=(kp:Int):=by omega
        have hwr:IntKind.i64.wrap ((k:Int) - 1)=(k:Int) - 1:=by rw [IntKind.wrap_i64];omega
        have hkpi:(kp:Int)<(l.length:Int):=by omega
        have t0:=HKT.out.cell 0;simp at t0;have tL:=HKT.out.lt;have aL:ad.block<w4.heap.size:=Nat.lt_of_lt_of_le hbb HC.out.size;obtain ⟨bz,hbz⟩:∃ bz,yh l[kp].name l[k].name (decide (k=0))=bz:=⟨_,rfl⟩;have hbe:=fun w=>zcg l[kp].name l[k].name (decide (k=0)) w
        rw [hbz] at hbe;have dk:((k:Int) == 0)=decide (k=0):=by by_cases h:k=0<;>simp [h]
        have HE:Hid (vM l k=bz):=by
         show vM l k=bz
         rw [HPE.out, <- hbz];have hg2:l.getD (k - 1) default=l[kp]:=by rw [<- hkp];simp [List.getD,List.getElem?_eq_getElem hkpl]
         rw [hg2]
        have HBE:=ze hbe;clear hbz hbe p1 hs1 hbb hkp HPE;refine zr (S:=fun w' =>Hid (Below w4.heap.size w4 w')/\w'.cell? (ad.add (kp*2))=some (str l[kp].name)/\w'.cell? ⟨gt,0,none⟩=some (str l[k].name)) 11 1 12 rfl (by kernel_rfl) (by kernel_rfl) (by kernel_rfl) rfl (zm (zv w4) (fun hB=>⟨xl hB aL p0,zh hB tL t0⟩)) ?_ (fun hHeld=>?_)
        . intro _ _ _ _ _ h9;exact h9
        simp only [List.take_succ_cons,List.take_zero]
        iterate 11 refine zW ?_
        refine zM ?_;refine HH.rd 11 (fun K hK=>?_)
        go_simp
        go_at_call 91;refine (HBE.out _).mono ?_;rintro e w5 ⟨rfl,rfl⟩;have hH0:=hHeld;clear hHeld;refine hK.out _ _ (zm (hH0.1) (fun hB=>⟨xl hB aL p0,zh hB tL t0⟩)) (fun hHeld=>?_);clear hH0 hK K
        try simp only [Act.put,List.setIfInBounds_toArray,List.set_cons_zero,List.set_cons_succ]
        have HBY:=(hHeld.1).out;replace HB:=ze (zB.below HB.out HBY);replace HT:=ze (zk.below HT.out HBY);replace HC:=ze (zX HC.out HBY);clear HBY hHeld;refine HH.done (by kernel_rfl) ?_;simp only [List.drop_succ_cons,List.drop_zero];clear p0 t0 tL aL HBE
        by_cases hz:bz=0
        . have d1:(bz != 0)=false:=by rw [bne_eq_false_iff_eq];exact hz
          have HJ2:Hid (∀ j,j<k+1->vM l j=0):=fun j hj=>by
           by_cases e:j=k
           . subst e;exact HE.out.trans hz
           . exact HJ.out j (by omega)
          clear hz HJ;go_wp2_with fail;go_roundw
          case rel=>exact ⟨k+1,by omega,by go_num,HJ2,HB,HT,HC⟩
          case measure=>simp [intOf];omega
        . have d1:(bz != 0)=true:=by rw [bne_iff_ne];exact hz
          have HER:Hid (yd l=bz):=(yk hkl HJ.out (by rw [HE.out];exact hz)).trans HE.out;clear hz HJ;go_wp2_with fail;go_ret;exact ⟨by rw [HER.out];rfl,HB.out,HC.out⟩
  . obtain rfl:l.length=k:=by omega
    have HER:Hid (yd l=0):=xb.2 HJ.out;go_wp2_with fail;go_ret;exact ⟨by rw [HER.out];rfl,HB.out,HC.out⟩
theorem zbp (s:List UInt8) (w:World) (hs:yo s):Calls Tryz.prog 97 #[str s] w (Vc w (.bool (zp s).isSome)):=by
 have h:=zdj ⟨s.toArray⟩ w (by rw [<- zo,yR];exact hs)
 rw [yR] at h
 exact h
def RptR (w0:World) (tv:Value) (l:List zG) (kv:Value) (wr:World):Prop:=
 ∃ k:Nat,k<=l.length/\kv= .int .i64 k/\Hid (∀ j,j<k->vM l j=0)/\Hid (zk wr w0.heap.size tv l)/\Hid (Below w0.heap.size w0 wr)
theorem zef (A:Option Addr) (n c:Nat) (l:List zG) (w:World) (ht:ya w (.slice A n c) l):Calls Tryz.prog 46 #[.slice A n c] w (Vc w (.int .i64 (yd l))):=by
 obtain rfl:=ht.len
 have hbl:=ht.bound
 have HT:=ze ht
 have HW:=ze (Below.refl w.heap.size w)
 clear ht
 go_enter Tryz.func46,Tryz.ntmps46
 go_wp2_with fail
 go_loopw [3] (RptR w (.slice A l.length c) l) (fun kv _=>l.length - (intOf kv).toNat)
 case atStart=>exact ⟨0,Nat.zero_le _,rfl,(fun j h=>by omega),HT,HW⟩
 case round=>
  clear HT HW
  obtain ⟨k,hk,rfl,HJ,HT,HW⟩:=hrel
  by_cases hkl:k<l.length
  . have hki:(k:Int)<(l.length:Int):=by omega
    obtain ⟨ad,eA,hbb,p0,p1,hs1,hs2⟩:=HT.out.at_ hkl;subst eA;have hgd:l.getD k default=l[k]:=by simp [List.getD,List.getElem?_eq_getElem hkl]
    have HGD:=ze hgd;have hvl:=fun w=>zbp l[k].coef w hs2
    have hnm:=fun w=>XW l[k].name w hs1
    have HNM:=ze hnm;have HVL:=ze hvl;clear hgd hs1 hs2 hbb hnm hvl
    cases hin:x8 l[k].name with
    | false=>
      have HE:Hid (vM l k=5):=by show vM l k=5;unfold vM;rw [HGD.out,hin];rfl
      have HER:Hid (yd l=5):=(yk hkl HJ.out (by rw [HE.out];decide)).trans HE.out;rw [hin] at HNM;clear hin HE;go_wp2_with fail;refine (HNM.out _).mono ?_;rintro e w3 ⟨rfl,rfl⟩;go_wp2_with fail;go_ret;exact ⟨by rw [HER.out];rfl,HW.out⟩
    | true=>
      rw [hin] at HNM;have HIN:=ze hin;clear hin
      cases hr:(zp l[k].coef).isSome with
      | false=>
        have HE:Hid (vM l k=4):=by show vM l k=4;unfold vM;rw [HGD.out,HIN.out,hr];rfl
        have HER:Hid (yd l=4):=(yk hkl HJ.out (by rw [HE.out];decide)).trans HE.out;rw [hr] at HVL;clear hr HE;go_wp2_with fail;refine (HNM.out _).mono ?_;rintro e w3 ⟨rfl,rfl⟩;go_wp2_with fail;refine (HVL.out _).mono ?_;rintro e w2 ⟨rfl,hb2⟩;replace HW:=ze (HW.out.trans (hb2.mono HW.out.size));clear hb2;go_wp2_with fail;go_ret;exact ⟨by rw [HER.out];rfl,HW.out⟩
      | true=>
        rw [hr] at HVL
        have HPE:Hid (vM l k=yh (l.getD (k - 1) default).name l[k].name (decide (k=0))):=by
         show _=_
         unfold vM;rw [HGD.out,HIN.out,hr]
         rfl
        clear hr
        by_cases hk0:k=0
        . have hkpi:decide ((0:Int)<(k:Int))=false:=decide_eq_false (by omega)
          have hkpn:decide (0<k)=false:=decide_eq_false (by omega);have HE:Hid (vM l k=0):=by show _=_;rw [HPE.out,decide_eq_true hk0];unfold yh;exact if_pos (.inl rfl)
          have HJ2:Hid (∀ j,j<k+1->vM l j=0):=fun j hj=>by
           obtain rfl:j=k:=by omega
           exact HE.out
          clear HPE hk0;go_wp2_with fail;refine (HNM.out _).mono ?_;rintro e w3 ⟨rfl,rfl⟩;go_wp2_with fail;refine (HVL.out _).mono ?_;rintro e w2 ⟨rfl,hb2⟩;have hb2' :=hb2.mono HW.out.size;replace HT:=ze (zk.below' HT.out hb2');replace HW:=ze (HW.out.trans hb2');clear hb2 hb2' p0 p1;go_wp2_with fail
          go_quiet (fail)
          go_wp2_with fail
          go_quiet (fail)
          go_wp2_with fail;go_roundw
          case rel=>exact ⟨k+1,by omega,by go_num,HJ2,HT,ze (by first | exact zl HW.out _ | exact zl (zl HW.out _) _)⟩
          case measure=>simp [intOf];omega
        . have hkp:0<k:=by omega
          have hkpi:(0:Int)<(k:Int):=by omega
          obtain ⟨kp,hkp2⟩:∃ kp,kp=k - 1:=⟨_,rfl⟩;have hkpl:kp<l.length:=by omega
          have hwr:IntKind.i64.wrap ((k:Int) - 1)=(kp:Int):=by rw [IntKind.wrap_i64];omega
          have hkpi2:(kp:Int)<(l.length:Int):=by omega
          have hgp:l.getD (k - 1) default=l[kp]:=by rw [<- hkp2];simp [List.getD,List.getElem?_eq_getElem hkpl]
          have HPE2:Hid (vM l k=yh l[kp].name l[k].name false):=by
           show _=_
           rw [HPE.out,hgp,decide_eq_false hk0]
          clear HPE hgp hkp2;go_wp2_with fail;refine (HNM.out _).mono ?_;rintro e w3 ⟨rfl,rfl⟩;go_wp2_with fail;refine (HVL.out _).mono ?_;rintro e w2 ⟨rfl,hb2⟩;have hb2' :=hb2.mono HW.out.size;replace HT:=ze (zk.below' HT.out hb2');replace HW:=ze (HW.out.trans hb2');obtain ⟨ad',eA',_,p0',p1',_,_⟩:=HT.out.at_ hkl;injection eA' with eA'
          subst eA';obtain ⟨ad',eA',_,q0,q1,_,_⟩:=HT.out.at_ hkpl;injection eA' with eA'
          subst eA';clear hb2 hb2' p0 p1 q1 p1';obtain ⟨a,ha⟩:∃ a,l[kp].name=a:=⟨_,rfl⟩;obtain ⟨b,hb⟩:∃ b,l[k].name=b:=⟨_,rfl⟩;rw [ha,hb] at HPE2;rw [ha] at q0;rw [hb] at p0';clear ha hb;have hl:=vS a b;have he:(a == b)=decide (a=b):=by by_cases h:a=b<;>simp [h]
          by_cases h2:a=b
          . have HE:Hid (vM l k=6):=by show _=_;rw [HPE2.out];unfold yh;rw [if_neg (by rintro (h | h);cases h;rw [h2] at h;exact xK _ h),if_pos h2]
            have HER:Hid (yd l=6):=(yk hkl HJ.out (by rw [HE.out];decide)).trans HE.out;rw [decide_eq_true h2] at he;clear hl h2 HPE2 HE;go_wp2_with fail
            go_quiet (fail)
            go_wp2_with fail;go_ret;exact ⟨by rw [HER.out];rfl,by first | exact zl HW.out _ | exact zl (zl HW.out _) _⟩
          . rw [decide_eq_false h2] at he
            by_cases h3:b<a
            . have HE:Hid (vM l k=1):=by show _=_;rw [HPE2.out];unfold yh;rw [if_neg (by rintro (h | h);cases h;exact YH h3 h),if_neg h2]
              have HER:Hid (yd l=1):=(yk hkl HJ.out (by rw [HE.out];decide)).trans HE.out;rw [decide_eq_false (YH h3)] at hl;clear h2 h3 HPE2 HE;go_wp2_with fail
              go_quiet (fail)
              go_wp2_with fail
              go_quiet (fail)
              go_wp2_with fail;go_ret;exact ⟨by rw [HER.out];rfl,by first | exact zl HW.out _ | exact zl (zl HW.out _) _⟩
            . skip
              have hlt:a<b:=by
               rcases Decidable.em (a<b) with h | h
               . exact h
               . exact absurd (Vt _ _ h h3) h2
              have HE:Hid (vM l k=0):=by show _=_;rw [HPE2.out];unfold yh;exact if_pos (.inr hlt)
              have HJ2:Hid (∀ j,j<k+1->vM l j=0):=fun j hj=>by
               by_cases e:j=k
               . subst e;exact HE.out
               . exact HJ.out j (by omega)
              rw [decide_eq_true hlt] at hl;clear h2 h3 hlt HPE2 HE;go_wp2_with fail
              go_quiet (fail)
              go_wp2_with fail
              go_quiet (fail)
              go_wp2_with fail;go_roundw
              case rel=>exact ⟨k+1,by omega,by go_num,HJ2,HT,ze (by first | exact zl HW.out _ | exact zl (zl HW.out _) _)⟩
              case measure=>simp [intOf];omega
  . obtain rfl:l.length=k:=by omega
    have HER:Hid (yd l=0):=xb.2 HJ.out;clear HT HJ;go_wp2_with fail;go_ret;exact ⟨by rw [HER.out];rfl,HW.out⟩
def zhn (a b:List UInt8):Int:=if a<b then -1 else if b<a then 1 else 0
theorem zm2 (a b:List UInt8):zhn a b<0↔a<b:=by
 unfold zhn
 split
 . exact ⟨fun _=>‹_›,fun _=>by omega⟩
 . split<;>exact ⟨fun h=>by omega,fun h=>absurd h ‹_›⟩
theorem zl6 (a b:List UInt8):zhn a b=0↔a=b:=by
 unfold zhn
 constructor
 . intro h
   split at h
   . omega
   . split at h
     . omega
     . exact Vt a b ‹_› ‹_›
 . intro h
   subst h;rw [if_neg (xK a),if_neg (xK a)]
theorem zez (a b:List UInt8) (w:World):Calls Tryz.prog 153 #[str a,str b] w (Vd w (.int .i64 (zhn a b))):=by
 have h1:=fun w=>zba ⟨a.toArray⟩ w
 have h2:=fun w=>zba ⟨b.toArray⟩ w
 have hl:=vS a b
 have hg:=vS b a
 by_cases hab:a<b
 . have HE:Hid (zhn a b= -1):=by show _=_;unfold zhn;exact if_pos hab
   rw [decide_eq_true hab] at hl;clear hab hg
   go_enter Tryz.func153,Tryz.ntmps153
   go_wp2_with fail;refine (h1 _).mono ?_;rintro e w1 ⟨rfl,rfl⟩;go_wp2_with fail;refine (h2 _).mono ?_;rintro e w1 ⟨rfl,rfl⟩;go_wp2_with fail;go_ret;exact ⟨by rw [HE.out];rfl,rfl⟩
 . rw [decide_eq_false hab] at hl
   by_cases hba:b<a
   . have HE:Hid (zhn a b=1):=by show _=_;unfold zhn;rw [if_neg hab,if_pos hba]
     rw [decide_eq_true hba] at hg;have he:(a == b)=false:=by rw [beq_eq_false_iff_ne];intro e;subst e;exact xK _ hba
     clear hab hba
     go_enter Tryz.func153,Tryz.ntmps153
     go_wp2_with fail;refine (h1 _).mono ?_;rintro e w1 ⟨rfl,rfl⟩;go_wp2_with fail;refine (h2 _).mono ?_;rintro e w1 ⟨rfl,rfl⟩;go_wp2_with fail;go_ret;exact ⟨by rw [HE.out];rfl,rfl⟩
   . have HE:Hid (zhn a b=0):=by show _=_;unfold zhn;rw [if_neg hab,if_neg hba]
     rw [decide_eq_false hba] at hg;have he:(a == b)=true:=by rw [beq_iff_eq];exact Vt a b hab hba
     clear hab hba
     go_enter Tryz.func153,Tryz.ntmps153
     go_wp2_with fail;refine (h1 _).mono ?_;rintro e w1 ⟨rfl,rfl⟩;go_wp2_with fail;refine (h2 _).mono ?_;rintro e w1 ⟨rfl,rfl⟩;go_wp2_with fail;go_ret;exact ⟨by rw [HE.out];rfl,rfl⟩
theorem zsc (a c b:List UInt8) (w:World):Calls Tryz.prog 152 #[.agg #[str a,str c],str b] w (Vc w (.int .i64 (zhn a b))):=by
 have hx:=zf w (.cells #[str a,str c] 84)
 have hk:=Blk.new w 84 #[str a,str c]
 have c0:=hk.cell 0
 simp at c0
 have HX:=ze hx
 have hc:=fun w=>zez a b w
 clear hk hx
 go_enter Tryz.func152,Tryz.ntmps152
 go_wp2_with fail
 refine (hc _).mono ?_
 rintro e w1 ⟨rfl,rfl⟩
 clear c0
 go_wp2_with fail
 go_ret
 exact ⟨rfl,HX.out⟩
def BnvR (w0:World) (B:Nat) (tv:Value) (l:List zG) (s:List UInt8) (iv jv:Value) (wr:World):Prop:=
 ∃ i j:Nat,i<=j/\j<=l.length/\iv= .int .i64 i/\jv= .int .i64 j/\Hid (∀ k (h:k<l.length),k<i->l[k].name<s)/\Hid (∀ k (h:k<l.length),j<=k->¬ l[k].name<s)/\Hid (zk wr B tv l)/\Hid (Below w0.heap.size w0 wr)
def zpm (w:World) (l:List zG) (s:List UInt8) (e:Ending) (w' :World):Prop:=
 ∃ (k:Nat) (f:Bool),e= .returned (.tuple #[.int .i64 k,.bool f])/\k<=l.length/\(f=true->∃ h:k<l.length,l[k].name=s)/\(f=false->∀ i (h:i<l.length),l[i].name≠s)/\Below w.heap.size w w'
abbrev atFn:Value:=.func (.func 152) #[] #[]
theorem zdo (A:Option Addr) (n c B:Nat) (l:List zG) (s:List UInt8) (w:World) (ht:zk w B (.slice A n c) l) (hB:B<=w.heap.size) (hinc:∀ i j (hi:i<l.length) (hj:j<l.length),i<j->l[i].name<l[j].name):
 Calls Tryz.prog 151 #[.slice A n c,str s,atFn] w (zpm w l s):=by
 obtain rfl:=ht.len
 have hl:=ht.bound
 have HT:=ze ht
 have HB:=ze hB
 have HI:=ze hinc
 have HW:=ze (Below.refl w.heap.size w)
 have hcm:=fun a c w=>zsc a c s w
 have HCM:=ze hcm
 clear ht hB hinc hcm
 go_enter Tryz.func151,Tryz.ntmps151
 go_wp2_with fail
 go_loopw [9,10] (BnvR w B (.slice A l.length c) l s) (fun iv jv _=>(intOf jv).toNat - (intOf iv).toNat)
 case atStart=>exact ⟨0,l.length,Nat.zero_le _,Nat.le_refl _,rfl,rfl,ze (fun k h hk=>by omega),ze (fun k h hk=>by omega),HT,HW⟩
 case round=>
  clear HT HW
  obtain ⟨i,j,hij,hjl,rfl,rfl,HLO,HHI,HT,HW⟩:=hrel
  by_cases hlt:i<j
  . have hii:(i:Int)<(j:Int):=by omega
    obtain ⟨h,hh⟩:∃ h,h=(i+j) / 2:=⟨_,rfl⟩;have hhl:h<l.length:=by omega
    have hhi:(h:Int)<(l.length:Int):=by omega
    have e1:IntKind.i64.wrap ((i:Int)+(j:Int))=(i:Int)+(j:Int):=by rw [IntKind.wrap_i64];omega
    have e2:((i:Int)+(j:Int)) / 2=(h:Int):=by omega
    obtain ⟨ad,eA,hbb,c0,c1,_,_⟩:=HT.out.at_ hhl;subst eA;have h1:i<=h:=by omega
    have h2:h<j:=by omega
    have hcall:=HCM.out l[h].name l[h].coef wr;have HH:=ze hh;clear hh hbb;obtain ⟨z,hz⟩:∃ z,zhn l[h].name s=z:=⟨_,rfl⟩;have hzn:=zm2 l[h].name s;rw [hz] at hcall hzn;have HC:=ze hcall
    by_cases hz0:z<0
    . have HLO2:Hid (∀ k (hk:k<l.length),k<h+1->l[k].name<s):=ze (fun k hk hkh=>by
       by_cases e:k=h
       . subst e;exact hzn.1 hz0
       . have h3:=HI.out k h hk hhl (by omega)
         exact YS h3 (hzn.1 hz0))
      have d0:decide (z<0)=true:=decide_eq_true hz0;clear hz hcall hzn;go_wp2_with fail;refine HC.out.mono ?_;rintro e w1 ⟨rfl,hb1⟩;have HT2:=ze (zk.below' HT.out (hb1.mono (Nat.le_trans HB.out HW.out.size)));have HW2:=ze (ext HW.out hb1);clear hb1 HC c0 c1;go_wp2_with fail;go_roundw
      case rel=>exact ⟨h+1,j,by omega,by omega,by go_num,rfl,HLO2,HHI,HT2,HW2⟩
      case measure=>simp [intOf];omega
    . have HHI2:Hid (∀ k (hk:k<l.length),h<=k->¬ l[k].name<s):=ze (fun k hk hkh hl=>by
       by_cases e:k=h
       . subst e;exact hz0 (hzn.2 hl)
       . have h3:=HI.out h k hhl hk (by omega)
         exact hz0 (hzn.2 (YS h3 hl)))
      have d0:decide (z<0)=false:=decide_eq_false hz0;clear hz hcall hzn;go_wp2_with fail;refine HC.out.mono ?_;rintro e w1 ⟨rfl,hb1⟩;have HT2:=ze (zk.below' HT.out (hb1.mono (Nat.le_trans HB.out HW.out.size)));have HW2:=ze (ext HW.out hb1);clear hb1 HC c0 c1;go_wp2_with fail;go_roundw
      case rel=>exact ⟨i,h,by omega,by omega,rfl,by go_num,HLO,HHI2,HT2,HW2⟩
      case measure=>simp [intOf];omega
  . obtain rfl:i=j:=by omega
    by_cases hil:i<l.length
    . have hii:(i:Int)<(l.length:Int):=by omega
      obtain ⟨ad,eA,hbb,c0,c1,_,_⟩:=HT.out.at_ hil;subst eA;have hcall:=HCM.out l[i].name l[i].coef wr;obtain ⟨z,hz⟩:∃ z,zhn l[i].name s=z:=⟨_,rfl⟩;have hzz:=zl6 l[i].name s;rw [hz] at hcall hzz;have HC:=ze hcall
      have HF:Hid (decide (z=0)=false->∀ k (h:k<l.length),l[k].name≠s):=ze (fun hf k hk he=>by
       have hf:=of_decide_eq_false hf
       rcases Nat.lt_or_ge k i with h | h
       . exact xK s (by have:=HLO.out k hk h;rw [he] at this;exact this)
       . by_cases e:k=i
         . subst e;exact hf (hzz.2 he)
         . have h3:=HI.out i k hil hk (by omega)
           rw [he] at h3
           exact HHI.out i hil (Nat.le_refl _) h3)
      have HTR:Hid (decide (z=0)=true->∃ h:i<l.length,l[i].name=s):=ze (fun hf=>⟨hil,hzz.1 (of_decide_eq_true hf)⟩);have dz:(z == 0)=decide (z=0):=by by_cases h:z=0<;>simp [h]
      obtain ⟨f,hf⟩:∃ f,decide (z=0)=f:=⟨_,rfl⟩;rw [hf] at HF HTR dz;clear hz hcall hzz hbb hf;go_wp2_with fail;refine HC.out.mono ?_;rintro e w1 ⟨rfl,hb1⟩;have HW2:=ze (ext HW.out hb1);clear hb1 HC c0 c1;go_wp2_with fail;go_ret2;exact ⟨i,f,rfl,hjl,HTR.out,HF.out,HW2.out⟩
    . obtain rfl:l.length=i:=by omega
      have HF:Hid (∀ k (h:k<l.length),l[k].name≠s):=ze (fun k hk he=>xK s (by have:=HLO.out k hk hk;rw [he] at this;exact this));have hnl:¬ (l.length:Int)<(l.length:Int):=by omega
      go_wp2_with fail;go_ret2;exact ⟨l.length,false,rfl,Nat.le_refl _,(fun h=>by cases h),(fun _=>HF.out),HW.out⟩
def VV:List zG->List UInt8->Rat
 | [],_=>0
 | t :: l,s=>if t.name=s then (zp t.coef).getD 0 else VV l s
theorem zf6:∀ (l:List zG) (k:Nat) (s:List UInt8) (h:k<l.length),(∀ j (hj:j<l.length),j<k->l[j].name≠s)->l[k].name=s->VV l s=(zp l[k].coef).getD 0
 | [],k,s,h,_,_=>absurd h (Nat.not_lt_zero _)
 | t :: l,0,s,h,_,h2=>by
   unfold VV;rw [if_pos (by simpa using h2)]
   rfl
 | t :: l,k+1,s,h,h1,h2=>by
   unfold VV;rw [if_neg (show ¬ t.name=s from h1 0 (Nat.succ_pos _) (Nat.succ_pos _))];exact zf6 l k s (by simpa using h) (fun j hj hjk=>h1 (j+1) (Nat.succ_lt_succ hj) (Nat.succ_lt_succ hjk)) h2
theorem zak:∀ (l:List zG) (s:List UInt8),(∀ j (hj:j<l.length),l[j].name≠s)->VV l s=0
 | [],s,_=>rfl
 | t :: l,s,h=>by
   unfold VV;rw [if_neg (show ¬ t.name=s from h 0 (Nat.succ_pos _))];exact zak l s (fun j hj=>h (j+1) (Nat.succ_lt_succ hj))
structure zb9 (l:List zG):Prop where
 inc:∀ i j (hi:i<l.length) (hj:j<l.length),i<j->l[i].name<l[j].name
 val:∀ i (hi:i<l.length),(zp l[i].coef).isSome=true
theorem zb9.of {l:List zG} (h:yd l=0):zb9 l:=by
 have h0:=xb.1 h
 have hb:∀ i (hi:i+1<l.length),l[i].name<l[i+1].name:=fun i hi=>by
  have:=h0 (i+1) hi
  unfold vM at this
  have e1:l.getD (i+1) default=l[i+1]:=by simp [List.getD,List.getElem?_eq_getElem hi]
  have e2:l.getD (i+1 - 1) default=l[i]:=by rw [Nat.add_sub_cancel];simp [List.getD,List.getElem?_eq_getElem (show i<l.length by omega)]
  rw [e1,e2] at this
  split at this
  . omega
  . split at this
    . omega
    . unfold yh at this
      split at this
      . rename_i h9
        rcases h9 with h9 | h9
        . simp at h9
        . exact h9
      . split at this<;>omega
 refine ⟨fun i j hi hj hij=>?_,fun i hi=>?_⟩
 . obtain ⟨d,rfl⟩:∃ d,j=i+1+d:=⟨j - i - 1,by omega⟩
   clear hij
   induction d with
   | zero=>exact hb i hj
   | succ d ih=>exact YS (ih (by omega)) (hb (i+1+d) hj)
 . have:=h0 i hi
   unfold vM at this;have e1:l.getD i default=l[i]:=by simp [List.getD,List.getElem?_eq_getElem hi]
   rw [e1] at this
   split at this
   . omega
   . split at this
     . omega
     . rename_i h9
       cases h8:(zp l[i].coef).isSome with
       | false=>exact absurd h8 h9
       | true=>rfl
def zor (w:World) (b:Nat) (q:Rat) (e:Ending) (w' :World):Prop:=∃ v,e= .returned v/\yC w' v q/\zB w' b/\Chg (· =b) w w'
theorem zgb {w W:World} {b g:Nat} {q:Rat} {x y x0 y0:Int} {A B A0 B0:Option Addr} {k c k' c' k0 c0 k1 c1:Nat} {s t s0 t0:Bool} {t' :TypeId} (hg:w.heap.size<=g) (hbl:b<w.heap.size) (hb:zB W b) (hc:Chg (· =b) w W)
 (hk:Blk W g t' #[.int .i64 x0,.slice A0 k0 c0,.bool s0,.int .i64 y0,.slice B0 k1 c1,.bool t0]) (hv:yC W (.agg #[.int .i64 x,.slice A k c,.bool s,.int .i64 y,.slice B k' c',.bool t]) q):
 yC (World.rat W g x A k c s y B k' c' t) (.agg #[.int .i64 x,.slice A k c,.bool s,.int .i64 y,.slice B k' c',.bool t]) q/\zB (World.rat W g x A k c s y B k' c' t) b/\Chg (· =b) w (World.rat W g x A k c s y B k' c' t):=by
 have hS:∀ z,z=g->yn W z:=fun z hz=>by subst hz;exact hk.noDig (Xd _ _ _ _ _ _ _ _ _ _)
 have hcr:=Chg.ratSet (w:=W) (g:=g) (x:=x) (A:=A) (k:=k) (c:=c) (s:=s) (y:=y) (B:=B) (k' :=k') (c' :=c') (t:=t)
 exact ⟨hcr.rat hv hS,hb.chg hcr (by omega) hS,Chg.trans (S:=fun z=>z=b) (T:=fun z=>z=g) hc hcr (fun z hz h=>absurd hz (by omega))⟩
theorem zp9 (b:Nat) (A:Option Addr) (n c B:Nat) (l:List zG) (s:List UInt8) (w:World) (hB:zB w b) (ht:zk w B (.slice A n c) l) (hBB:B<=w.heap.size) (hg:zb9 l):
 Calls Tryz.prog 94 #[.map (some b),.slice A n c,str s] w (zor w b (VV l s)):=by
 obtain rfl:=ht.len
 have hl:=ht.bound
 have hz:=zf w (.cells #[.int .i64 0,.slice none 0 0,.bool false,.int .i64 0,.slice none 0 0,.bool false] 93)
 have HKR:=ze (Blk.new w 93 #[.int .i64 0,.slice none 0 0,.bool false,.int .i64 0,.slice none 0 0,.bool false])
 have hsr:=zdo A l.length c B l s _ (zk.below ht hz) (Nat.le_trans hBB hz.size) hg.inc
 have HB:=ze (hB.below hz)
 have HBL:=ze hB.lt
 have HT:=ze (zk.below ht hz)
 have HC:Hid (Chg (· =b) w (w.alloc (.cells #[.int .i64 0,.slice none 0 0,.bool false,.int .i64 0,.slice none 0 0,.bool false] 93))):=Chg.of_below hz
 have HG:=ze hg
 have HLE:Hid (w.heap.size<=w.heap.size):=Nat.le_refl _
 have HSR:=ze hsr
 clear hB ht hBB hg hz hsr
 go_enter Tryz.func94,Tryz.ntmps94
 go_wp2_with fail
 refine HSR.out.mono ?_
 rintro e w1 ⟨k,f,rfl,hk,hf1,hf2,hb1⟩
 clear HSR
 replace HB:=ze (HB.out.below hb1)
 replace HT:=ze (zk.below HT.out hb1)
 replace HKR:=kb_ HKR hb1
 replace HC:=ze (zX HC.out hb1)
 clear hb1
 cases f with
 | false=>
   have HV:Hid (VV l s=0):=ze (zak l s (hf2 rfl));clear hf1 hf2 hk;go_wp2_with fail;refine (XZ 0 _ (by omega) (by omega)).mono ?_;rintro e w2 ⟨v,rfl,hv,hb2⟩;obtain ⟨x1,A1,k1,c1,s1,y1,B1,k1x,c1x,t1,rfl⟩:=hv.agg;have HVR:=ze hv;replace HB:=ze (HB.out.below hb2);replace HKR:=kb_ HKR hb2;replace HC:=ze (zX HC.out hb2);have a0:=HKR.out.cell 0;have a1:=HKR.out.cell 1;have a2:=HKR.out.cell 2;have a3:=HKR.out.cell 3;have a4:=HKR.out.cell 4;have a5:=HKR.out.cell 5;have f0:=HKR.out.frozen 0;have f1:=HKR.out.frozen 1;have f2:=HKR.out.frozen 2;have f3:=HKR.out.frozen 3;have f4:=HKR.out.frozen 4;have f5:=HKR.out.frozen 5;simp at a0 a1 a2 a3 a4 a5;clear hb2 hv;go_wp2_with fail;have kR4:=yu (x:=x1) (A:=A1) (k:=k1) (c:=c1) (s:=s1) (y:=y1) (B:=B1) (k' :=k1x) (c' :=c1x) (t:=t1) HKR.out;have r0:=kR4.cell 0;have r1:=kR4.cell 1;have r2:=kR4.cell 2;have r3:=kR4.cell 3;have r4:=kR4.cell 4;have r5:=kR4.cell 5;simp only [World.rat] at r0 r1 r2 r3 r4 r5;simp at r0 r1 r2 r3 r4 r5
   refine bodyPost_ret (v:=.agg #[.int .i64 x1,.slice A1 k1 c1,.bool s1,.int .i64 y1,.slice B1 k1x c1x,.bool t1]) (by simp [results,Tryz.results94,go_sem,r0,r1,r2,r3,r4,r5]) rfl ?_;obtain ⟨z1,z2,z3⟩:=zgb (x:=x1) (A:=A1) (k:=k1) (c:=c1) (s:=s1) (y:=y1) (B:=B1) (k' :=k1x) (c' :=c1x) (t:=t1) HLE.out HBL.out HB.out HC.out HKR.out HVR.out;exact ⟨_,rfl,by rw [HV.out];exact z1,z2,z3⟩
 | true=>
   obtain ⟨hkl,hks⟩:=hf1 rfl;have HV:Hid (VV l s=(zp l[k].coef).getD 0):=ze (zf6 l k s hkl (fun j hj hjk he=>xK s (by have:=HG.out.inc j k hj hkl hjk;rw [he,hks] at this;exact this)) hks);have hki:(k:Int)<(l.length:Int):=by omega
   obtain ⟨ad,eA,hbb,p0,p1,hs1,hs2⟩:=HT.out.at_ hkl;subst eA;have hrs:=HG.out.val k hkl;obtain ⟨q,hq0⟩:=Option.isSome_iff_exists.1 hrs;have hrd:=vD b ⟨l[k].coef.toArray⟩ w1 HB.out (by rw [<- zo,yR];exact hs2);rw [yR] at hrd;have HRD:=ze hrd;have HQ:=ze hq0;clear hf1 hf2 hks hs1 hs2 hrs hrd hq0 p0 hbb;go_wp2_with fail;refine HRD.out.mono ?_;rintro e w2 ⟨v,ok,rfl,⟨x1,A1,k1,c1,s1,y1,B1,k1x,c1x,t1,rfl⟩,hok,hq,hB1,hc1⟩;clear HRD p1;replace HKR:=ze (HB.out.keepBlk hc1 HKR.out);replace HC:=ze (yq HC.out hc1);replace HB:=ze hB1;have hx:=zf w2 (.cells #[.int .i64 x1,.slice A1 k1 c1,.bool s1,.int .i64 y1,.slice B1 k1x c1x,.bool t1] 93);have HKX:=ze (Blk.new w2 93 #[.int .i64 x1,.slice A1 k1 c1,.bool s1,.int .i64 y1,.slice B1 k1x c1x,.bool t1]);have HVR:=ze ((hq q HQ.out).below hx);replace HB:=ze (HB.out.below hx);replace HKR:=kb_ HKR hx;replace HC:=ze (zX HC.out hx);clear hB1 hc1 hx hq hok
   go_upto_region 5 with fail
   generalize w2.alloc (.cells #[.int .i64 x1,.slice A1 k1 c1,.bool s1,.int .i64 y1,.slice B1 k1x c1x,.bool t1] 93)=W3 at HKX HVR HB HKR HC |-;generalize w2.heap.size=gx at HKX |-;have e0:=HKX.out.cell 0;have e1:=HKX.out.cell 1;have e2:=HKX.out.cell 2;have e3:=HKX.out.cell 3;have e4:=HKX.out.cell 4;have e5:=HKX.out.cell 5;have a0:=HKR.out.cell 0;have a1:=HKR.out.cell 1;have a2:=HKR.out.cell 2;have a3:=HKR.out.cell 3;have a4:=HKR.out.cell 4;have a5:=HKR.out.cell 5;have f0:=HKR.out.frozen 0;have f1:=HKR.out.frozen 1;have f2:=HKR.out.frozen 2;have f3:=HKR.out.frozen 3;have f4:=HKR.out.frozen 4;have f5:=HKR.out.frozen 5;simp at a0 a1 a2 a3 a4 a5 e0 e1 e2 e3 e4 e5;go_wp2_with fail;have kR4:=yu (x:=x1) (A:=A1) (k:=k1) (c:=c1) (s:=s1) (y:=y1) (B:=B1) (k' :=k1x) (c' :=c1x) (t:=t1) HKR.out;have r0:=kR4.cell 0;have r1:=kR4.cell 1;have r2:=kR4.cell 2;have r3:=kR4.cell 3;have r4:=kR4.cell 4;have r5:=kR4.cell 5;simp only [World.rat] at r0 r1 r2 r3 r4 r5;simp at r0 r1 r2 r3 r4 r5
   refine bodyPost_ret (v:=.agg #[.int .i64 x1,.slice A1 k1 c1,.bool s1,.int .i64 y1,.slice B1 k1x c1x,.bool t1]) (by simp [results,Tryz.results94,go_sem,r0,r1,r2,r3,r4,r5]) rfl ?_;obtain ⟨z1,z2,z3⟩:=zgb (x:=x1) (A:=A1) (k:=k1) (c:=c1) (s:=s1) (y:=y1) (B:=B1) (k' :=k1x) (c' :=c1x) (t:=t1) HLE.out HBL.out HB.out HC.out HKR.out HVR.out;exact ⟨_,rfl,by rw [HV.out,HQ.out];exact z1,z2,z3⟩
def zfy (t:zG):Rat:=(zp t.coef).getD 0
def Vi (p l:List zG):Nat->Rat
 | 0=>0
 | k+1=>Vi p l k+zfy (l.getD k default)*VV p (l.getD k default).name
structure XG (l p:List zG):Prop where
 few:l.length<=400
 coef:∀ k,k<l.length->∃ q,zp (l.getD k default).coef=some q/\Dz 8000 q
 pt:zb9 p
 val:∀ s,Dz 1000 (VV p s)
theorem XG.tot {l p:List zG} (h:XG l p):∀ k,k<=l.length->Dz (k*9001+1) (Vi p l k)
 | 0,_=>Dz.zero _
 | k+1,hk=>by
   obtain ⟨q,hq,hd⟩:=h.coef k (by omega);have e:zfy (l.getD k default)=q:=by unfold zfy;rw [hq];rfl
   unfold Vi;rw [e];exact Dz.add (XG.tot h k (by omega)) (Dz.mul hd (h.val _) (Nat.le_refl _)) (by omega)
theorem XG.rlen {l p:List zG} (h:XG l p) {k:Nat} (hk:k<=l.length):ZW 8388608 (Vi p l k):=(ZW.of_dz (h.tot k hk)).more (by have:=h.few;omega)
def zmq (w:World) (g:Nat) (q:Rat):Prop:=∃ (x:Int) (A:Option Addr) (k c:Nat) (s:Bool) (y:Int) (B:Option Addr) (k' c' :Nat) (t:Bool),Blk w g 93 #[.int .i64 x,.slice A k c,.bool s,.int .i64 y,.slice B k' c',.bool t]/\yC w (.agg #[.int .i64 x,.slice A k c,.bool s,.int .i64 y,.slice B k' c',.bool t]) q
theorem zmq.lt {w:World} {g:Nat} {q:Rat} (h:zmq w g q):g<w.heap.size:=by obtain ⟨_,_,_,_,_,_,_,_,_,_,hk,_⟩:=h;exact hk.lt
theorem zmq.below {w w' :World} {g:Nat} {q:Rat} (h:zmq w g q) (hb:Below w.heap.size w w'):zmq w' g q:=by
 obtain ⟨_,_,_,_,_,_,_,_,_,_,hk,hv⟩:=h
 exact ⟨_,_,_,_,_,_,_,_,_,_,hk.below hb hk.lt,hv.below hb⟩
theorem zB.keepRB {w w' :World} {b g:Nat} {q:Rat} (h:zB w b) (hc:Chg (· =b) w w') (hk:zmq w g q):zmq w' g q:=by
 obtain ⟨_,_,_,_,_,_,_,_,_,_,hk,hv⟩:=hk
 exact ⟨_,_,_,_,_,_,_,_,_,_,h.keepBlk hc hk,h.keepR hc hv⟩
def BsmR (w0:World) (b g go:Nat) (tv pv:Value) (l p:List zG) (kv:Value) (wr:World):Prop:=
 ∃ k:Nat,k<=l.length/\kv= .int .i64 k/\Hid (zmq wr go (Vi p l k))/\Hid (zB wr b)/\Hid (zk wr w0.heap.size tv l)/\Hid (zk wr w0.heap.size pv p)/\Hid (Blk wr g 93 #[.int .i64 0,.slice none 0 0,.bool false,.int .i64 0,.slice none 0 0,.bool false])/\Hid (Chg (· =b) w0 wr)
theorem zhk (b:Nat) (A AP:Option Addr) (n c np cp:Nat) (l p:List zG) (w:World) (hB:zB w b) (ht:ya w (.slice A n c) l) (hp:ya w (.slice AP np cp) p) (ho:XG l p):
 Calls Tryz.prog 44 #[.map (some b),.slice A n c,.slice AP np cp] w (zor w b (Vi p l l.length)):=by
 obtain rfl:=ht.len
 have hz:=zf w (.cells #[.int .i64 0,.slice none 0 0,.bool false,.int .i64 0,.slice none 0 0,.bool false] 93)
 have HKR:=ze (Blk.new w 93 #[.int .i64 0,.slice none 0 0,.bool false,.int .i64 0,.slice none 0 0,.bool false])
 have HB:=ze (hB.below hz)
 have HBL:=ze hB.lt
 have HT:=ze (zk.below ht hz)
 have HP:=ze (zk.below hp hz)
 have HC:Hid (Chg (· =b) w (w.alloc (.cells #[.int .i64 0,.slice none 0 0,.bool false,.int .i64 0,.slice none 0 0,.bool false] 93))):=Chg.of_below hz
 have HO:=ze ho
 have hl:=ho.few
 clear hB ht hp ho hz
 go_enter Tryz.func44,Tryz.ntmps44
 go_wp2_with fail
 refine (XZ 0 _ (by omega) (by omega)).mono ?_
 rintro e w1 ⟨v,rfl,hv,hb1⟩
 obtain ⟨x1,A1,k1,c1,s1,y1,B1,k1x,c1x,t1,rfl⟩:=hv.agg
 have hx:=zf w1 (.cells #[.int .i64 x1,.slice A1 k1 c1,.bool s1,.int .i64 y1,.slice B1 k1x c1x,.bool t1] 93)
 have HRB:Hid (zmq (w1.alloc (.cells #[.int .i64 x1,.slice A1 k1 c1,.bool s1,.int .i64 y1,.slice B1 k1x c1x,.bool t1] 93)) w1.heap.size (Vi p l 0)):=⟨_,_,_,_,_,_,_,_,_,_,Blk.new w1 _ _,hv.below hx⟩
 have hb2:=hb1.trans (hx.mono hb1.size)
 replace HB:=ze (HB.out.below hb2)
 replace HT:=ze (zk.below HT.out hb2)
 replace HP:=ze (zk.below HP.out hb2)
 have HGO:Hid (w.heap.size<w1.heap.size):=ze (by have:=HKR.out.lt;have:=hb1.size;omega)
 replace HKR:=kb_ HKR hb2
 replace HC:=ze (zX HC.out hb2)
 clear hb1 hx hb2 hv
 go_upto_region 2 with fail
 generalize w1.alloc (.cells #[.int .i64 x1,.slice A1 k1 c1,.bool s1,.int .i64 y1,.slice B1 k1x c1x,.bool t1] 93)=W at HRB HB HT HP HKR HC |-
 generalize w1.heap.size=go at HRB HGO |-
 go_wp2_with fail
 go_loopw [15] (BsmR w b w.heap.size go (.slice A l.length c) (.slice AP np cp) l p) (fun kv _=>l.length - (intOf kv).toNat)
 case atStart=>exact ⟨0,Nat.zero_le _,rfl,HRB,HB,HT,HP,HKR,HC⟩
 case round=>
  clear HRB HB HT HP HKR HC
  obtain ⟨k,hk,rfl,HRB,HB,HT,HP,HKR,HC⟩:=hrel
  by_cases hkl:k<l.length
  . have hki:(k:Int)<(l.length:Int):=by omega
    obtain ⟨ad,eA,hbb,p0,p1,hs1,hs2⟩:=HT.out.at_ hkl;subst eA;have hx:=zf wr (.cells #[str l[k].name,str l[k].coef] 60);have HKT:=ze (Blk.new wr 60 #[str l[k].name,str l[k].coef]);have HGT:Hid (go<wr.heap.size):=HRB.out.lt;replace HB:=ze (HB.out.below hx);replace HT:=ze (zk.below HT.out hx);replace HP:=ze (zk.below HP.out hx);replace HRB:=ze (HRB.out.below hx);replace HKR:=kb_ HKR hx;replace HC:=ze (zX HC.out hx);have hgd:l.getD k default=l[k]:=by simp [List.getD,List.getElem?_eq_getElem hkl]
    obtain ⟨q,hq,hd⟩:=HO.out.coef k hkl;rw [hgd] at hq
    have HTS:Hid (Vi p l (k+1)=Vi p l k+q*VV p l[k].name):=ze (by
     show Vi p l k+zfy (l.getD k default)*VV p (l.getD k default).name=_
     rw [hgd];unfold zfy;rw [hq];rfl)
    have HQ:=ze hq;have HDQ:=ze ((ZW.of_dz hd).more (show 8001<=8388608 by omega));have HDV:=ze ((ZW.of_dz (HO.out.val l[k].name)).more (show 1001<=8388608 by omega));have HDM:=ze ((ZW.of_dz (Dz.mul hd (HO.out.val l[k].name) (Nat.le_refl _))).more (show 9001<=8388608 by omega));have HDT:=ze (HO.out.rlen hk);have HS2:=ze hs2;clear hx hgd hs1 hs2 hq hd
    go_upto_region 5 with fail
    clear p0 p1 hbb;generalize wr.alloc (.cells #[str l[k].name,str l[k].coef] 60)=WL at HKT HB HT HP HRB HKR HC |-;generalize wr.heap.size=gt at HKT HGT |-;obtain ⟨nm,hnm⟩:∃ nm,l[k].name=nm:=⟨_,rfl⟩;rw [hnm] at HKT HTS HDV HDM;have hrd:=vD b ⟨l[k].coef.toArray⟩ WL HB.out (by rw [<- zo,yR];exact HS2.out);rw [yR] at hrd;have HRD:=ze hrd;have p1:=HKT.out.cell 1;simp at p1;clear hrd hnm;go_wp2_with fail;refine HRD.out.mono ?_;rintro e w2 ⟨v,ok,rfl,⟨x2,A2,k2,c2,s2,y2,B2,k2x,c2x,t2,rfl⟩,hok,hqv,hB1,hc1⟩;clear HRD p1;have hx:=zf w2 (.cells #[.int .i64 x2,.slice A2 k2 c2,.bool s2,.int .i64 y2,.slice B2 k2x c2x,.bool t2] 93);have hcg:Chg (· =b) WL (w2.alloc (.cells #[.int .i64 x2,.slice A2 k2 c2,.bool s2,.int .i64 y2,.slice B2 k2x c2x,.bool t2] 93)):=zX hc1 hx;have HGX:Hid (gt<w2.heap.size):=ze (Nat.lt_of_lt_of_le HKT.out.lt hc1.size);replace HT:=ze (HB.out.keepT hcg HT.out);replace HP:=ze (HB.out.keepT hcg HP.out);replace HKT:=ze (HB.out.keepBlk hcg HKT.out);replace HKR:=ze (HB.out.keepBlk hcg HKR.out);replace HRB:=ze (HB.out.keepRB hcg HRB.out);replace HC:=ze (yq HC.out hcg)
    replace HB:=ze (hB1.below hx);have HKX:=ze (Blk.new w2 93 #[.int .i64 x2,.slice A2 k2 c2,.bool s2,.int .i64 y2,.slice B2 k2x c2x,.bool t2]);have HVX:=ze ((hqv q HQ.out).below hx);clear hB1 hc1 hx hcg hqv hok
    go_upto_region 6 with fail
    generalize w2.alloc (.cells #[.int .i64 x2,.slice A2 k2 c2,.bool s2,.int .i64 y2,.slice B2 k2x c2x,.bool t2] 93)=W3 at HKX HVX HB HT HP HKT HKR HRB HC |-;generalize w2.heap.size=gx at HKX HGX |-;obtain ⟨x1,A1,k1,c1,s1,y1,B1,k1x,c1x,t1,hkO,hvO⟩:=HRB.out;have HKO:=ze hkO;have HVO:=ze hvO;clear hkO hvO HRB;have o0:=HKO.out.cell 0;have o1:=HKO.out.cell 1;have o2:=HKO.out.cell 2;have o3:=HKO.out.cell 3;have o4:=HKO.out.cell 4;have o5:=HKO.out.cell 5;have q0:=HKX.out.cell 0;have q1:=HKX.out.cell 1;have q2:=HKX.out.cell 2;have q3:=HKX.out.cell 3;have q4:=HKX.out.cell 4;have q5:=HKX.out.cell 5;have p0:=HKT.out.cell 0;simp at o0 o1 o2 o3 o4 o5 q0 q1 q2 q3 q4 q5 p0;have hbO:¬ go=b:=fun e=>by have:=HBL.out;have:=HGO.out;omega
    have hbT:¬ gt=b:=fun e=>by have:=HBL.out;have:=HGO.out;have:=HGT.out;omega
    have hbX:¬ gx=b:=fun e=>by have:=HBL.out;have:=HGO.out;have:=HGT.out;have:=HGX.out;omega
    refine yA (S:=fun w' =>Hid (Chg (fun x=>x=b) W3 w')/\w'.cell? ⟨go,0,none⟩=some (.int .i64 x1)/\w'.cell? ⟨go,1,none⟩=some (.slice A1 k1 c1)/\w'.cell? ⟨go,2,none⟩=some (.bool s1)/\w'.cell? ⟨go,3,none⟩=some (.int .i64 y1)/\w'.cell? ⟨go,4,none⟩=some (.slice B1 k1x c1x)/\w'.cell? ⟨go,5,none⟩=some (.bool t1)/\w'.cell? ⟨gx,0,none⟩=some (.int .i64 x2)/\w'.cell? ⟨gx,1,none⟩=some (.slice A2 k2 c2)/\w'.cell? ⟨gx,2,none⟩=some (.bool s2)/\w'.cell? ⟨gx,3,none⟩=some (.int .i64 y2)/\w'.cell? ⟨gx,4,none⟩=some (.slice B2 k2x c2x)/\w'.cell? ⟨gx,5,none⟩=some (.bool t2)/\w'.cell? ⟨gt,0,none⟩=some (str nm)) 9 (by kernel_rfl) (by kernel_rfl) (zm (vT W3) (fun hB=>⟨zH hB o0 hbO,zH hB o1 hbO,zH hB o2 hbO,zH hB o3 hbO,zH hB o4 hbO,zH hB o5 hbO,zH hB q0 hbX,zH hB q1 hbX,zH hB q2 hbX,zH hB q3 hbX,zH hB q4 hbX,zH hB q5 hbX,zH hB p0 hbT⟩)) (fun hHeld=>?_);refine HH.tk 0 ?_;refine HH.tk 1 ?_;refine HH.tk 2 ?_;refine HH.tk 3 ?_;refine HH.tk 4 ?_;refine HH.tk 5 ?_;refine HH.rd 6 (fun K hK=>?_)
    go_simp
    go_at_call 94;have hbd:=(zv W3).out;replace HB:=ze (HB.out.below hbd);replace HT:=ze (zk.below HT.out hbd);replace HP:=ze (zk.below HP.out hbd);replace HKR:=kb_ HKR hbd;replace HKO:=kb_ HKO hbd;replace HVO:=ze (HVO.out.below hbd);replace HVX:=ze (HVX.out.below hbd);replace HC:=ze (zX HC.out hbd);clear hbd;refine (zp9 b _ _ _ w.heap.size p nm _ HB.out HP.out HC.out.size HO.out.pt).mono ?_;rintro e w4 ⟨v4,rfl,hv4,hB4,hc4⟩;replace HT:=ze (HB.out.keepT hc4 HT.out);replace HP:=ze (HB.out.keepT hc4 HP.out);replace HKR:=ze (HB.out.keepBlk hc4 HKR.out);replace HKO:=ze (HB.out.keepBlk hc4 HKO.out);replace HVO:=ze (HB.out.keepR hc4 HVO.out);replace HVX:=ze (HB.out.keepR hc4 HVX.out);replace HC:=ze (yq HC.out hc4);replace HB:=ze hB4;have HV4:=ze hv4;have hH0:=hHeld;clear hHeld;refine hK.out _ _ (zm (Z7 hc4 hH0.1) (fun hB=>⟨zH hB o0 hbO,zH hB o1 hbO,zH hB o2 hbO,zH hB o3 hbO,zH hB o4 hbO,zH hB o5 hbO,zH hB q0 hbX,zH hB q1 hbX,zH hB q2 hbX,zH hB q3 hbX,zH hB q4 hbX,zH hB q5 hbX,zH hB p0 hbT⟩)) (fun hHeld=>?_);clear hH0 hK K
    try simp only [Act.put,List.setIfInBounds_toArray,List.set_cons_zero,List.set_cons_succ]
    clear hc4 hB4 hv4;refine HH.rd 7 (fun K hK=>?_)
    go_simp
    go_at_call 93;refine (zgs _ _ q (VV p nm) _ HVX.out HV4.out HDQ.out HDV.out).mono ?_;rintro e w5 ⟨v5,rfl,hv5,hb5⟩;replace HB:=ze (HB.out.below hb5);replace HT:=ze (zk.below HT.out hb5);replace HP:=ze (zk.below HP.out hb5);replace HKR:=kb_ HKR hb5;replace HKO:=kb_ HKO hb5;replace HVO:=ze (HVO.out.below hb5);replace HC:=ze (zX HC.out hb5);have HV5:=ze hv5;have hH0:=hHeld;clear hHeld;refine hK.out _ _ (zm (vP hb5 hH0.1) (fun hB=>⟨zH hB o0 hbO,zH hB o1 hbO,zH hB o2 hbO,zH hB o3 hbO,zH hB o4 hbO,zH hB o5 hbO,zH hB q0 hbX,zH hB q1 hbX,zH hB q2 hbX,zH hB q3 hbX,zH hB q4 hbX,zH hB q5 hbX,zH hB p0 hbT⟩)) (fun hHeld=>?_);clear hH0 hK K
    try simp only [Act.put,List.setIfInBounds_toArray,List.set_cons_zero,List.set_cons_succ]
    clear hb5 hv5 HV4 HVX;refine HH.rd 8 (fun K hK=>?_)
    go_simp
    go_at_call 77;refine (Xz _ _ (Vi p l k) (q*VV p nm) _ HVO.out HV5.out HDT.out HDM.out).mono ?_;rintro e w6 ⟨v6,rfl,hv6,hb6⟩;replace HB:=ze (HB.out.below hb6);replace HT:=ze (zk.below HT.out hb6);replace HP:=ze (zk.below HP.out hb6);replace HKR:=kb_ HKR hb6;replace HKO:=kb_ HKO hb6;replace HC:=ze (zX HC.out hb6);obtain ⟨x3,A3,k3,c3,s3,y3,B3,k3x,c3x,t3,rfl⟩:=hv6.agg;rw [<- HTS.out] at hv6;have HV6:=ze hv6;have f0:=HKO.out.frozen 0;have f1:=HKO.out.frozen 1;have f2:=HKO.out.frozen 2;have f3:=HKO.out.frozen 3;have f4:=HKO.out.frozen 4;have f5:=HKO.out.frozen 5;have g0:=HKO.out.cell 0;have g1:=HKO.out.cell 1;have g2:=HKO.out.cell 2;have g3:=HKO.out.cell 3;have g4:=HKO.out.cell 4;have g5:=HKO.out.cell 5;simp at g0 g1 g2 g3 g4 g5;have hH0:=hHeld;clear hHeld;refine hK.out _ _ (zm (vP hb6 hH0.1) (fun hB=>⟨zH hB o0 hbO,zH hB o1 hbO,zH hB o2 hbO,zH hB o3 hbO,zH hB o4 hbO,zH hB o5 hbO,zH hB q0 hbX,zH hB q1 hbX,zH hB q2 hbX,zH hB q3 hbX,zH hB q4 hbX,zH hB q5 hbX,zH hB p0 hbT⟩)) (fun hHeld=>?_);clear hH0 hK K
    try simp only [Act.put,List.setIfInBounds_toArray,List.set_cons_zero,List.set_cons_succ]
    clear hb6 hv6 HV5 HVO;have HBY:=(hHeld.1).out;clear HBY hHeld;refine HH.done (by kernel_rfl) ?_;simp only [List.drop_succ_cons,List.drop_zero];go_wp2_with fail;have HRB3:Hid (zmq (World.rat w6 go x3 A3 k3 c3 s3 y3 B3 k3x c3x t3) go (Vi p l (k+1))):=⟨_,_,_,_,_,_,_,_,_,_,yu HKO.out,yC.stored HV6.out HKO.out⟩;have hS:∀ z,z=go->yn w6 z:=fun z hz=>by subst hz;exact HKO.out.noDig (Xd _ _ _ _ _ _ _ _ _ _)
    have hcr:=Chg.ratSet (w:=w6) (g:=go) (x:=x3) (A:=A3) (k:=k3) (c:=c3) (s:=s3) (y:=y3) (B:=B3) (k' :=k3x) (c' :=c3x) (t:=t3);have hnc:∀ z,z<w.heap.size->z=go->X1 w6 z:=fun z hz e=>by have:=HGO.out;omega
    have HB3:=ze (HB.out.chg hcr (by have:=HBL.out;have:=HGO.out;omega) hS);have HT3:=ze (zk.chg HT.out hcr hnc);have HP3:=ze (zk.chg HP.out hcr hnc);have HKR3:=ze (hcr.blk HKR.out (by have:=HGO.out;omega));have HC3:=ze (Chg.trans (S:=fun z=>z=b) (T:=fun z=>z=go) HC.out hcr (fun z hz h=>absurd hz (by have:=HGO.out;omega)));clear hS hcr hnc;go_roundw
    case rel=>exact ⟨k+1,by omega,by go_num,HRB3,HB3,HT3,HP3,HKR3,HC3⟩
    case measure=>simp [intOf];omega
  . obtain rfl:l.length=k:=by omega
    obtain ⟨x1,A1,k1,c1,s1,y1,B1,k1x,c1x,t1,hkO,hvO⟩:=HRB.out;have HKO:=ze hkO;have HVO:=ze hvO;have HLE:Hid (w.heap.size<=w.heap.size):=Nat.le_refl _;clear hkO hvO HRB;have e0:=HKO.out.cell 0;have e1:=HKO.out.cell 1;have e2:=HKO.out.cell 2;have e3:=HKO.out.cell 3;have e4:=HKO.out.cell 4;have e5:=HKO.out.cell 5;have a0:=HKR.out.cell 0;have a1:=HKR.out.cell 1;have a2:=HKR.out.cell 2;have a3:=HKR.out.cell 3;have a4:=HKR.out.cell 4;have a5:=HKR.out.cell 5;have f0:=HKR.out.frozen 0;have f1:=HKR.out.frozen 1;have f2:=HKR.out.frozen 2;have f3:=HKR.out.frozen 3;have f4:=HKR.out.frozen 4;have f5:=HKR.out.frozen 5;simp at a0 a1 a2 a3 a4 a5 e0 e1 e2 e3 e4 e5;go_wp2_with fail;have kR4:=yu (x:=x1) (A:=A1) (k:=k1) (c:=c1) (s:=s1) (y:=y1) (B:=B1) (k' :=k1x) (c' :=c1x) (t:=t1) HKR.out;have r0:=kR4.cell 0;have r1:=kR4.cell 1;have r2:=kR4.cell 2;have r3:=kR4.cell 3;have r4:=kR4.cell 4;have r5:=kR4.cell 5;simp only [World.rat] at r0 r1 r2 r3 r4 r5;simp at r0 r1 r2 r3 r4 r5
    refine bodyPost_ret (v:=.agg #[.int .i64 x1,.slice A1 k1 c1,.bool s1,.int .i64 y1,.slice B1 k1x c1x,.bool t1]) (by simp [results,Tryz.results44,go_sem,r0,r1,r2,r3,r4,r5]) rfl ?_;obtain ⟨z1,z2,z3⟩:=zgb (x:=x1) (A:=A1) (k:=k1) (c:=c1) (s:=s1) (y:=y1) (B:=B1) (k' :=k1x) (c' :=c1x) (t:=t1) HLE.out HBL.out HB.out HC.out HKR.out HVO.out;exact ⟨_,rfl,z1,z2,z3⟩
theorem zl3 (s:ByteArray) (q:Rat) (w:World) (hs:s.size<=1073741824) (hq:zp (bts s)=some q):
 Calls Tryz.prog 60 #[.string s] w (Xo w q):=by
 have hWR:=zf w (.cells #[.bool false,.slice none 0 0,.slice none 0 0] 98)
 have kR:=Blk.new w 98 #[.bool false,.slice none 0 0,.slice none 0 0]
 have HWR:=ze hWR
 have HKR:=ze kR
 have HQ:=ze hq
 have hnum:=fun w=>Vk s w hs
 clear hq hWR kR hs
 go_enter Tryz.func60,Tryz.ntmps60
 go_wp2_with fail
 refine (hnum _).mono ?_
 rintro e w1 ⟨v,b,rfl,⟨ng,A,n,c,B,m,d,rfl⟩,hb,hq,hb1⟩
 have hx:=zf w1 (.cells #[.bool ng,.slice A n c,.slice B m d] 98)
 have hr:=vV.below (hq q HQ.out) hx
 have hxx:=ext hb1 hx
 have HK:=ze (HKR.out.below hxx HKR.out.lt)
 have HW:=ze (ext HWR.out hxx)
 obtain ⟨ng',A',n',c',B',m',d',e,h0,h1,h2⟩:=hr
 injection e with e
 have e0:=congrArg (fun a=>a.toList) e
 simp at e0
 obtain ⟨rfl,⟨rfl,rfl,rfl⟩,rfl,rfl,rfl⟩:=e0
 have H0:=ze h0
 have H1:=ze h1
 have H2:=ze h2
 have r0:=HK.out.cell 0
 have r1:=HK.out.cell 1
 have r2:=HK.out.cell 2
 have f0:=HK.out.frozen 0
 have f1:=HK.out.frozen 1
 have f2:=HK.out.frozen 2
 have lR:=HK.out.lt
 simp at r0 r1 r2
 clear hb1 hnum hq hx hxx h0 h1 h2 e hb
 go_wp2_with fail
 have kR2:=yN (ng:=ng) (A:=A) (n:=n) (c:=c) (B:=B) (m:=m) (d:=d) HK.out
 have e0:=kR2.cell 0
 have e1:=kR2.cell 1
 have e2:=kR2.cell 2
 simp only [World.ref] at e0 e1 e2
 simp at e0 e1 e2
 refine bodyPost_ret (v:=.agg #[.bool ng,.slice A n c,.slice B m d]) (by simp [results,Tryz.results60,go_sem,e0,e1,e2]) rfl ?_
 exact ⟨_,rfl,⟨_,_,_,_,_,_,_,rfl,H0.out,ye H1.out HK.out,ye H2.out HK.out⟩,y8 (w:=w) (g:=w.heap.size) HW.out (Nat.le_refl _)⟩
theorem Yv (s:List UInt8) (q:Rat) (w:World) (hs:yo s) (hq:zp s=some q):Calls Tryz.prog 60 #[str s] w (Xo w q):=
 zl3 ⟨s.toArray⟩ q w (by rw [<- zo,yR];exact hs) (by rw [yR];exact hq)
theorem zh6 (w:World):Calls Tryz.prog 99 #[.int .i64 0] w (Xo w 0):=by
 have h:=zil 0 w (by omega)
 have e:((0:Nat):Rat)=0:=rfl
 rw [e] at h
 exact h
def RatR (w0:World) (B g:Nat) (tv:Value) (l:List zG) (s:List UInt8) (kv:Value) (wr:World):Prop:=
 ∃ k:Nat,k<=l.length/\kv= .int .i64 k/\Hid (∀ j (hj:j<l.length),j<k->l[j].name≠s)/\w0=wr
theorem zr4 (A:Option Addr) (n c B:Nat) (l:List zG) (s:List UInt8) (w:World) (ht:zk w B (.slice A n c) l) (hB:B<=w.heap.size) (hg:zb9 l):
 Calls Tryz.prog 102 #[.slice A n c,str s] w (Xo w (VV l s)):=by
 obtain rfl:=ht.len
 have hl:=ht.bound
 have hz:=zf w (.cells #[.bool false,.slice none 0 0,.slice none 0 0] 98)
 have HKR:=ze (Blk.new w 98 #[.bool false,.slice none 0 0,.slice none 0 0])
 have HT:=ze (zk.below ht hz)
 have HW:=ze hz
 have HG:=ze hg
 have HBS:Hid (B<=(w.alloc (.cells #[.bool false,.slice none 0 0,.slice none 0 0] 98)).heap.size):=ze (Nat.le_trans hB hz.size)
 have HLE:Hid (w.heap.size<=w.heap.size):=Nat.le_refl _
 clear ht hB hz hg
 go_enter Tryz.func102,Tryz.ntmps102
 go_upto_region 1 with fail
 generalize w.alloc (.cells #[.bool false,.slice none 0 0,.slice none 0 0] 98)=W at HKR HT HW HBS |-
 go_wp2_with fail
 go_loopw [5] (RatR W B w.heap.size (.slice A l.length c) l s) (fun kv _=>l.length - (intOf kv).toNat)
 case atStart=>exact ⟨0,Nat.zero_le _,rfl,ze (fun j hj h=>by omega),rfl⟩
 case round=>
  obtain ⟨k,hk,rfl,HN,rfl⟩:=hrel
  by_cases hkl:k<l.length
  . have hki:(k:Int)<(l.length:Int):=by omega
    obtain ⟨ad,eA,hbb,p0,p1,hs1,hs2⟩:=HT.out.at_ hkl;subst eA;have he:(l[k].name == s)=decide (l[k].name=s):=by by_cases h:l[k].name=s<;>simp [h]
    by_cases hks:l[k].name=s
    . rw [decide_eq_true hks] at he
      obtain ⟨q,hq⟩:=Option.isSome_iff_exists.1 (HG.out.val k hkl);have HV:Hid (VV l s=q):=ze (by rw [zf6 l k s hkl HN.out hks,hq];rfl);have hmu:=fun w=>Yv l[k].coef q w hs2 hq
      have HMU:=ze hmu;clear hq hmu hs1 hs2 hks HN;go_wp2_with fail;refine (HMU.out _).mono ?_;rintro e w1 ⟨v,rfl,hv,hb1⟩;obtain ⟨ng,X,n1,c8,Y,n2,c9,rfl,hng,h1,h2⟩:=hv;have HK:=ze (HKR.out.below hb1 HKR.out.lt);have HW1:=ze (ext HW.out hb1);have H0:=ze hng;have H1:=ze h1;have H2:=ze h2;have r0:=HK.out.cell 0;have r1:=HK.out.cell 1;have r2:=HK.out.cell 2;have f0:=HK.out.frozen 0;have f1:=HK.out.frozen 1;have f2:=HK.out.frozen 2;have lR:=HK.out.lt;simp at r0 r1 r2;clear hb1 hng h1 h2 p0 p1 HMU;go_wp2_with fail;have kR2:=yN (ng:=ng) (A:=X) (n:=n1) (c:=c8) (B:=Y) (m:=n2) (d:=c9) HK.out;have e0:=kR2.cell 0;have e1:=kR2.cell 1;have e2:=kR2.cell 2;simp only [World.ref] at e0 e1 e2;simp at e0 e1 e2;refine bodyPost_ret (v:=.agg #[.bool ng,.slice X n1 c8,.slice Y n2 c9]) (by simp [results,Tryz.results102,go_sem,e0,e1,e2]) rfl ?_;rw [HV.out];exact ⟨_,rfl,⟨_,_,_,_,_,_,_,rfl,H0.out,ye H1.out HK.out,ye H2.out HK.out⟩,y8 (w:=w) (g:=w.heap.size) HW1.out (Nat.le_refl _)⟩
    . rw [decide_eq_false hks] at he
      have HN2:Hid (∀ j (hj:j<l.length),j<k+1->l[j].name≠s):=ze (fun j hj h=>by
       by_cases e:j=k
       . subst e;exact hks
       . exact HN.out j hj (by omega))
      clear hks hs1 hs2;go_wp2_with fail;go_roundw
      case rel=>exact ⟨k+1,by omega,by go_num,HN2,rfl⟩
      case measure=>simp [intOf];omega
  . obtain rfl:l.length=k:=by omega
    have HV:Hid (VV l s=0):=ze (zak l s (fun j hj=>HN.out j hj hj));clear HN;go_wp2_with fail;refine (zh6 _).mono ?_;rintro e w1 ⟨v,rfl,hv,hb1⟩;obtain ⟨ng,X,n1,c8,Y,n2,c9,rfl,hng,h1,h2⟩:=hv;have HK:=ze (HKR.out.below hb1 HKR.out.lt);have HW1:=ze (ext HW.out hb1);have H0:=ze hng;have H1:=ze h1;have H2:=ze h2;have r0:=HK.out.cell 0;have r1:=HK.out.cell 1;have r2:=HK.out.cell 2;have f0:=HK.out.frozen 0;have f1:=HK.out.frozen 1;have f2:=HK.out.frozen 2;have lR:=HK.out.lt;simp at r0 r1 r2;clear hb1 hng h1 h2;go_wp2_with fail;have kR2:=yN (ng:=ng) (A:=X) (n:=n1) (c:=c8) (B:=Y) (m:=n2) (d:=c9) HK.out;have e0:=kR2.cell 0;have e1:=kR2.cell 1;have e2:=kR2.cell 2;simp only [World.ref] at e0 e1 e2;simp at e0 e1 e2;refine bodyPost_ret (v:=.agg #[.bool ng,.slice X n1 c8,.slice Y n2 c9]) (by simp [results,Tryz.results102,go_sem,e0,e1,e2]) rfl ?_;rw [HV.out];exact ⟨_,rfl,⟨_,_,_,_,_,_,_,rfl,H0.out,ye H1.out HK.out,ye H2.out HK.out⟩,y8 (w:=w) (g:=w.heap.size) HW1.out (Nat.le_refl _)⟩
theorem XG.nlen {l p:List zG} (h:XG l p) {k:Nat} (hk:k<=l.length):VQ 8388608 (Vi p l k):=(Dz.nlen (h.tot k hk)).mono (by have:=h.few;omega)
def NBx (w:World) (g:Nat) (q:Rat):Prop:=∃ (ng:Bool) (X:Option Addr) (n1 c8:Nat) (Y:Option Addr) (n2 c9:Nat),Blk w g 98 #[.bool ng,.slice X n1 c8,.slice Y n2 c9]/\vV w (.agg #[.bool ng,.slice X n1 c8,.slice Y n2 c9]) q
def RttR (w0:World) (g go:Nat) (l p:List zG) (kv:Value) (wr:World):Prop:=
 ∃ k:Nat,k<=l.length/\kv= .int .i64 k/\Hid (NBx wr go (Vi p l k))/\Hid (Blk wr g 98 #[.bool false,.slice none 0 0,.slice none 0 0])/\Hid (Below w0.heap.size w0 wr)
theorem zd9 (A AP:Option Addr) (n c np cp B:Nat) (l p:List zG) (w:World) (ht:zk w B (.slice A n c) l) (hp:zk w B (.slice AP np cp) p) (hB:B<=w.heap.size) (ho:XG l p):
 Calls Tryz.prog 48 #[.slice A n c,.slice AP np cp] w (Xo w (Vi p l l.length)):=by
 obtain rfl:=ht.len
 have hz:=zf w (.cells #[.bool false,.slice none 0 0,.slice none 0 0] 98)
 have HKR:=ze (Blk.new w 98 #[.bool false,.slice none 0 0,.slice none 0 0])
 have HT0:=ze (ht.more hB)
 have HP0:=ze (hp.more hB)
 have HW:=ze hz
 have HO:=ze ho
 have hl:=ho.few
 clear ht hp hB ho hz
 go_enter Tryz.func48,Tryz.ntmps48
 go_wp2_with fail
 refine (zh6 _).mono ?_
 rintro e w1 ⟨v,rfl,hv,hb1⟩
 obtain ⟨ng,X,n1,c8,Y,n2,c9,rfl⟩:zsp v:=by obtain ⟨ng,X,n1,c8,Y,n2,c9,h6,_⟩:=hv;exact ⟨_,_,_,_,_,_,_,h6⟩
 have hx:=zf w1 (.cells #[.bool ng,.slice X n1 c8,.slice Y n2 c9] 98)
 have HRB:Hid (NBx (w1.alloc (.cells #[.bool ng,.slice X n1 c8,.slice Y n2 c9] 98)) w1.heap.size (Vi p l 0)):=⟨_,_,_,_,_,_,_,Blk.new w1 _ _,hv.below hx⟩
 have hb2:=hb1.trans (hx.mono hb1.size)
 have HGO:Hid (w.heap.size<w1.heap.size):=ze (by have:=HKR.out.lt;have:=hb1.size;omega)
 replace HKR:=kb_ HKR hb2
 replace HW:=eb_ HW hb2
 clear hb1 hx hb2 hv
 go_upto_region 2 with fail
 generalize w1.alloc (.cells #[.bool ng,.slice X n1 c8,.slice Y n2 c9] 98)=W at HRB HKR HW |-
 generalize w1.heap.size=go at HRB HGO |-
 go_wp2_with fail
 go_loopw [6] (RttR w w.heap.size go l p) (fun kv _=>l.length - (intOf kv).toNat)
 case atStart=>exact ⟨0,Nat.zero_le _,rfl,HRB,HKR,HW⟩
 case round=>
  clear HRB HKR HW
  obtain ⟨k,hk,rfl,HRB,HKR,HW⟩:=hrel
  by_cases hkl:k<l.length
  . have hki:(k:Int)<(l.length:Int):=by omega
    have HT:=ze (zk.below' HT0.out HW.out);have HP:=ze (zk.below' HP0.out HW.out);obtain ⟨ad,eA,hbb,p0,p1,hs1,hs2⟩:=HT.out.at_ hkl;subst eA;have hgd:l.getD k default=l[k]:=by simp [List.getD,List.getElem?_eq_getElem hkl]
    obtain ⟨q,hq,hd⟩:=HO.out.coef k hkl;rw [hgd] at hq
    have HTS:Hid (Vi p l (k+1)=Vi p l k+q*VV p l[k].name):=ze (by
     show Vi p l k+zfy (l.getD k default)*VV p (l.getD k default).name=_
     rw [hgd];unfold zfy;rw [hq];rfl)
    have HDQ:=ze ((Dz.nlen hd).mono (show 8001<=8388608 by omega));have HDV:=ze ((Dz.nlen (HO.out.val l[k].name)).mono (show 1001<=8388608 by omega));have HDM:=ze ((Dz.nlen (Dz.mul hd (HO.out.val l[k].name) (Nat.le_refl _))).mono (show 9001<=8388608 by omega));have HDT:=ze (HO.out.nlen hk);have hmu:=fun w=>Yv l[k].coef q w hs2 hq
    have HMU:=ze hmu;have aL:ad.block<wr.heap.size:=Nat.lt_of_lt_of_le hbb HW.out.size;obtain ⟨nm,hnm⟩:∃ nm,l[k].name=nm:=⟨_,rfl⟩;obtain ⟨cf,hcf⟩:∃ cf,l[k].coef=cf:=⟨_,rfl⟩;rw [hnm] at HTS HDV HDM p0;rw [hcf] at HMU p1;clear hgd hs1 hs2 hq hd hmu hnm hcf hbb;obtain ⟨ng,X,n1,c8,Y,n2,c9,hkO,hvO⟩:=HRB.out;have HKO:=ze hkO;have HVO:=ze hvO;clear hkO hvO HRB;obtain ⟨o0,o1,o2,oL⟩:=bkc3 HKO.out
    go_upto_region 5 with fail
    refine yA (S:=fun w' =>Hid (Below wr.heap.size wr w')/\w'.cell? ⟨go,0,none⟩=some (.bool ng)/\w'.cell? ⟨go,1,none⟩=some (.slice X n1 c8)/\w'.cell? ⟨go,2,none⟩=some (.slice Y n2 c9)/\w'.cell? (ad.add (k*2))=some (str nm)/\w'.cell? ⟨(ad.add (k*2)).block,(ad.add (k*2)).off+1,none⟩=some (str cf)) 16 (by kernel_rfl) (by kernel_rfl) (zm (zv wr) (fun hB=>⟨zh hB oL o0,zh hB oL o1,zh hB oL o2,xl hB aL p0,X9 hB aL p1⟩)) (fun hHeld=>?_);refine HH.tk 0 ?_;refine HH.tk 1 ?_;refine HH.tk 2 ?_;refine HH.tk 3 ?_;refine HH.tk 4 ?_;refine HH.tk 5 ?_;refine HH.tk 7 ?_;refine HH.tk 8 ?_;refine HH.tk 9 ?_;refine HH.tk 10 ?_;refine HH.tk 11 ?_;refine HH.tk 12 ?_;refine HH.rd 6 (fun K hK=>?_)
    go_simp
    go_at_call 60;have hbd:=(zv wr).out;replace HKR:=kb_ HKR hbd;replace HKO:=kb_ HKO hbd;replace HVO:=ze (HVO.out.below hbd);replace HW:=eb_ HW hbd;clear hbd;refine (HMU.out _).mono ?_;rintro e w4 ⟨v4,rfl,hv4,hb4⟩;replace HKR:=kb_ HKR hb4;replace HKO:=kb_ HKO hb4;replace HVO:=ze (HVO.out.below hb4);replace HW:=eb_ HW hb4;have HV4:=ze hv4;have hH0:=hHeld;clear hHeld;refine hK.out _ _ (zm (zt hb4 (zv wr)) (fun hB=>⟨zh hB oL o0,zh hB oL o1,zh hB oL o2,xl hB aL p0,X9 hB aL p1⟩)) (fun hHeld=>?_);clear hH0 hK K
    try simp only [Act.put,List.setIfInBounds_toArray,List.set_cons_zero,List.set_cons_succ]
    clear hb4 hv4;refine HH.rd 13 (fun K hK=>?_)
    go_simp
    go_at_call 102;refine (zr4 _ _ _ w.heap.size p nm _ (zk.below' HP0.out HW.out) HW.out.size HO.out.pt).mono ?_;rintro e w5 ⟨v5,rfl,hv5,hb5⟩;replace HKR:=kb_ HKR hb5;replace HKO:=kb_ HKO hb5;replace HVO:=ze (HVO.out.below hb5);replace HV4:=ze (HV4.out.below hb5);replace HW:=eb_ HW hb5;have HV5:=ze hv5;have hH0:=hHeld;clear hHeld;refine hK.out _ _ (zm (zt hb5 hH0.1) (fun hB=>⟨zh hB oL o0,zh hB oL o1,zh hB oL o2,xl hB aL p0,X9 hB aL p1⟩)) (fun hHeld=>?_);clear hH0 hK K
    try simp only [Act.put,List.setIfInBounds_toArray,List.set_cons_zero,List.set_cons_succ]
    clear hb5 hv5;refine HH.rd 14 (fun K hK=>?_)
    go_simp
    go_at_call 101;refine (zc2 _ _ q (VV p nm) _ HV4.out HV5.out HDQ.out HDV.out).mono ?_;rintro e w6 ⟨v6,rfl,hv6,hb6⟩;replace HKR:=kb_ HKR hb6;replace HKO:=kb_ HKO hb6;replace HVO:=ze (HVO.out.below hb6);replace HW:=eb_ HW hb6;have HV6:=ze hv6;have hH0:=hHeld;clear hHeld;refine hK.out _ _ (zm (zt hb6 hH0.1) (fun hB=>⟨zh hB oL o0,zh hB oL o1,zh hB oL o2,xl hB aL p0,X9 hB aL p1⟩)) (fun hHeld=>?_);clear hH0 hK K
    try simp only [Act.put,List.setIfInBounds_toArray,List.set_cons_zero,List.set_cons_succ]
    clear hb6 hv6 HV4 HV5;refine HH.rd 15 (fun K hK=>?_)
    go_simp
    go_at_call 100;refine (VC _ _ (Vi p l k) (q*VV p nm) _ HVO.out HV6.out HDT.out HDM.out).mono ?_;rintro e w7 ⟨v7,rfl,hv7,hb7⟩;replace HKR:=kb_ HKR hb7;replace HKO:=kb_ HKO hb7;replace HW:=eb_ HW hb7;obtain ⟨g7,X7,a7,b7,Y7,d7,f7,rfl⟩:zsp v7:=by obtain ⟨g7,X7,a7,b7,Y7,d7,f7,h6,_⟩:=hv7;exact ⟨_,_,_,_,_,_,_,h6⟩
    rw [<- HTS.out] at hv7;have HV7:=ze hv7;have f0:=HKO.out.frozen 0;have f1:=HKO.out.frozen 1;have f2:=HKO.out.frozen 2;have g0:=HKO.out.cell 0;have g1:=HKO.out.cell 1;have g2:=HKO.out.cell 2;simp at g0 g1 g2;have hH0:=hHeld;clear hHeld;refine hK.out _ _ (zm (zt hb7 hH0.1) (fun hB=>⟨zh hB oL o0,zh hB oL o1,zh hB oL o2,xl hB aL p0,X9 hB aL p1⟩)) (fun hHeld=>?_);clear hH0 hK K
    try simp only [Act.put,List.setIfInBounds_toArray,List.set_cons_zero,List.set_cons_succ]
    clear hb7 hv7 HV6 HVO;have HBY:=(hHeld.1).out;clear HBY hHeld;refine HH.done (by kernel_rfl) ?_;simp only [List.drop_succ_cons,List.drop_zero];clear o0 o1 o2 oL p0 p1 aL;go_wp2_with fail;have HRB3:Hid (NBx (World.ref w7 go g7 X7 a7 b7 Y7 d7 f7) go (Vi p l (k+1))):=⟨_,_,_,_,_,_,_,yN HKO.out,vV.stored HV7.out HKO.out⟩;have HKR3:=ze (zpw (ng:=g7) (A:=X7) (n:=a7) (c:=b7) (B:=Y7) (m:=d7) (d:=f7) HKR.out (show w.heap.size≠go by have:=HGO.out;omega));have HW3:=ze (y8 (ng:=g7) (A:=X7) (n:=a7) (c:=b7) (B:=Y7) (m:=d7) (d:=f7) HW.out (Nat.le_of_lt HGO.out));go_roundw
    case rel=>exact ⟨k+1,by omega,by go_num,HRB3,HKR3,HW3⟩
    case measure=>simp [intOf];omega
  . obtain rfl:l.length=k:=by omega
    obtain ⟨ng,X,n1,c8,Y,n2,c9,hkO,hvO⟩:=HRB.out;have HKO:=ze hkO;have HVO:=ze hvO;clear hkO hvO HRB;have e0:=HKO.out.cell 0;have e1:=HKO.out.cell 1;have e2:=HKO.out.cell 2;have r0:=HKR.out.cell 0;have r1:=HKR.out.cell 1;have r2:=HKR.out.cell 2;have f0:=HKR.out.frozen 0;have f1:=HKR.out.frozen 1;have f2:=HKR.out.frozen 2;have lR:=HKR.out.lt;simp at r0 r1 r2 e0 e1 e2;go_wp2_with fail;have kR2:=yN (ng:=ng) (A:=X) (n:=n1) (c:=c8) (B:=Y) (m:=n2) (d:=c9) HKR.out;have z0:=kR2.cell 0;have z1:=kR2.cell 1;have z2:=kR2.cell 2;simp only [World.ref] at z0 z1 z2;simp at z0 z1 z2;refine bodyPost_ret (v:=.agg #[.bool ng,.slice X n1 c8,.slice Y n2 c9]) (by simp [results,Tryz.results48,go_sem,z0,z1,z2]) rfl ?_;exact ⟨_,rfl,vV.stored HVO.out HKR.out,y8 (w:=w) (g:=w.heap.size) HW.out (Nat.le_refl _)⟩
def Xk (l p:List zG):List UInt8×Int:=if zQ l≠0 then ([],zQ l) else if yd p≠0 then ([],yd p) else Zn (Vi p l l.length)
theorem zp0 (A AP:Option Addr) (n c np cp:Nat) (l p:List zG) (w:World) (ht:ya w (.slice A n c) l) (hp:ya w (.slice AP np cp) p) (ho:zQ l=0->yd p=0->XG l p):
 Calls Tryz.prog 15 #[.slice A n c,.slice AP np cp] w (zoy w (Xk l p)):=by
 have h1:=ze4 A n c l w ht
 have HT:=ze ht
 have HP:=ze hp
 have HO:=ze ho
 by_cases h0:zQ l=0
 . rw [h0] at h1
   have H1:=ze h1;have H0:=ze h0;clear ht hp ho h1 h0
   go_enter Tryz.func15,Tryz.ntmps15
   go_wp2_with fail;refine H1.out.mono ?_;rintro e w1 ⟨rfl,hb1⟩;replace HT:=ze (zk.below HT.out hb1);replace HP:=ze (zk.below HP.out hb1);have HW:=ze hb1;clear hb1 H1;have h2:=zef AP np cp p w1 (HP.out.more HW.out.size)
   by_cases h3:yd p=0
   . rw [h3] at h2
     have H2:=ze h2;have HSE:Hid (Xk l p=Zn (Vi p l l.length)):=ze (by unfold Xk;rw [if_neg (by rw [H0.out];exact fun h=>h rfl),if_neg (by rw [h3];exact fun h=>h rfl)]);have hok:=HO.out H0.out h3;have HOK:=ze hok;have HNL:=ze ((hok.nlen (Nat.le_refl _)).mono (show 8388608<=33554432 by omega));clear h2 h3 hok;go_wp2_with fail;refine H2.out.mono ?_;rintro e w2 ⟨rfl,hb2⟩;replace HT:=ze (zk.below' HT.out (hb2.mono HW.out.size));replace HP:=ze (zk.below' HP.out (hb2.mono HW.out.size));replace HW:=eb_ HW hb2;clear hb2 H2;go_wp2_with fail;refine (zd9 A AP n c np cp w.heap.size l p _ HT.out HP.out HW.out.size HOK.out).mono ?_;rintro e w3 ⟨v,rfl,hv,hb3⟩;replace HW:=eb_ HW hb3;have HV:=ze hv;clear hb3 hv;go_wp2_with fail;refine (zns v _ _ HV.out HNL.out).mono ?_;rintro e w4 ⟨rfl,hb4⟩;replace HW:=eb_ HW hb4;clear hb4;go_wp2_with fail;go_ret2;rw [HSE.out];exact ⟨rfl,HW.out⟩
   . have HSE:Hid (Xk l p=([],yd p)):=ze (by unfold Xk;rw [if_neg (by rw [H0.out];exact fun h=>h rfl),if_pos h3])
     obtain ⟨z,hz⟩:∃ z,yd p=z:=⟨_,rfl⟩;rw [hz] at h2 h3 HSE;have H2:=ze h2;have hzb:(z == 0)=false:=beq_eq_false_iff_ne.2 h3;clear h2 h3 hz HO;go_wp2_with fail;refine H2.out.mono ?_;rintro e w2 ⟨rfl,hb2⟩;replace HW:=eb_ HW hb2;clear hb2 H2;go_wp2_with fail;go_ret2;rw [HSE.out];exact ⟨rfl,HW.out⟩
 . have HSE:Hid (Xk l p=([],zQ l)):=ze (by unfold Xk;rw [if_pos h0])
   obtain ⟨z,hz⟩:∃ z,zQ l=z:=⟨_,rfl⟩;rw [hz] at h1 h0 HSE;have H1:=ze h1;have hzb:(z == 0)=false:=beq_eq_false_iff_ne.2 h0;clear ht hp ho h1 h0 hz HO
   go_enter Tryz.func15,Tryz.ntmps15
   go_wp2_with fail;refine H1.out.mono ?_;rintro e w1 ⟨rfl,hb1⟩;have HW:=ze hb1;clear hb1 H1;go_wp2_with fail;go_ret2;rw [HSE.out];exact ⟨rfl,HW.out⟩
theorem zko (A AP:Option Addr) (n c np cp:Nat) (l p:List zG) (w:World) (ht:ya w (.slice A n c) l) (hp:ya w (.slice AP np cp) p) (ho:zQ l=0->yd p=0->XG l p):
 Calls Tryz.prog 14 #[.slice A n c,.slice AP np cp] w (zoy w (Xk l p)):=by
 have hmm:=@run_makeMap Tryz.prog
 have hx:=zf w (.map #[] 0)
 have HB:=ze (zB.new w)
 have HT:=ze (zk.below ht hx)
 have HP:=ze (zk.below hp hx)
 have HC:Hid (Chg (· =w.heap.size) w (w.alloc (.map #[] 0))):=Chg.of_below hx
 have HO:=ze ho
 clear ht hp ho hx
 go_enter Tryz.func14,Tryz.ntmps14
 go_upto_region 2 with fail
 clear hmm
 generalize w.alloc (.map #[] 0)=W at HB HT HP HC |-
 obtain ⟨b,hb⟩:∃ b,b=w.heap.size:=⟨_,rfl⟩
 have HLE:Hid (w.heap.size<=b):=Nat.le_of_eq hb.symm
 have HBW:Hid (w.heap.size<=W.heap.size):=HC.out.size
 rw [<- hb] at HB HC |-
 clear hb
 have h1:=Vp b A n c l W HB.out (HT.out.more HBW.out)
 by_cases h0:zQ l=0
 . rw [h0] at h1
   have H1:=ze h1;have H0:=ze h0;clear h1 h0;go_wp2_with fail;refine H1.out.mono ?_;rintro e w1 ⟨rfl,hB1,hc1⟩;replace HT:=ze (HB.out.keepT hc1 HT.out);replace HP:=ze (HB.out.keepT hc1 HP.out);replace HC:=ze (yq HC.out hc1);replace HB:=ze hB1;clear hB1 hc1 H1 HBW;have h2:=zbz b AP np cp p w1 HB.out (HP.out.more HC.out.size)
   by_cases h3:yd p=0
   . rw [h3] at h2
     have H2:=ze h2;have HSE:Hid (Xk l p=Zn (Vi p l l.length)):=ze (by unfold Xk;rw [if_neg (by rw [H0.out];exact fun h=>h rfl),if_neg (by rw [h3];exact fun h=>h rfl)]);have hok:=HO.out H0.out h3;have HOK:=ze hok;have HNL:=ze ((hok.rlen (Nat.le_refl _)).more (show 8388608<=67108864 by omega));clear h2 h3 hok;go_wp2_with fail;refine H2.out.mono ?_;rintro e w2 ⟨rfl,hB1,hc1⟩;replace HT:=ze (HB.out.keepT hc1 HT.out);replace HP:=ze (HB.out.keepT hc1 HP.out);replace HC:=ze (yq HC.out hc1);replace HB:=ze hB1;clear hB1 hc1 H2;go_wp2_with fail;refine (zhk b A AP n c np cp l p _ HB.out (HT.out.more HC.out.size) (HP.out.more HC.out.size) HOK.out).mono ?_;rintro e w3 ⟨v,rfl,hv,hB1,hc1⟩;replace HC:=ze (yq HC.out hc1);have HV:=ze hv;clear hB1 hc1 hv HB HT HP;go_wp2_with fail;refine (zie v _ _ HV.out HNL.out).mono ?_;rintro e w4 ⟨rfl,hb4⟩;replace HC:=ze (zX HC.out hb4);clear hb4;go_wp2_with fail;go_ret2;rw [HSE.out];exact ⟨rfl,HC.out.below (Nat.le_refl _) (fun x e=>by subst e;exact HLE.out)⟩
   . have HSE:Hid (Xk l p=([],yd p)):=ze (by unfold Xk;rw [if_neg (by rw [H0.out];exact fun h=>h rfl),if_pos h3])
     obtain ⟨z,hz⟩:∃ z,yd p=z:=⟨_,rfl⟩;rw [hz] at h2 h3 HSE;have H2:=ze h2;have hzb:(z == 0)=false:=beq_eq_false_iff_ne.2 h3;clear h2 h3 hz HO;go_wp2_with fail;refine H2.out.mono ?_;rintro e w2 ⟨rfl,hB1,hc1⟩;replace HC:=ze (yq HC.out hc1);clear hB1 hc1 H2 HB HT HP;go_wp2_with fail;go_ret2;rw [HSE.out];exact ⟨rfl,HC.out.below (Nat.le_refl _) (fun x e=>by subst e;exact HLE.out)⟩
 . have HSE:Hid (Xk l p=([],zQ l)):=ze (by unfold Xk;rw [if_pos h0])
   obtain ⟨z,hz⟩:∃ z,zQ l=z:=⟨_,rfl⟩;rw [hz] at h1 h0 HSE;have H1:=ze h1;have hzb:(z == 0)=false:=beq_eq_false_iff_ne.2 h0;clear h1 h0 hz HO;go_wp2_with fail;refine H1.out.mono ?_;rintro e w1 ⟨rfl,hB1,hc1⟩;replace HC:=ze (yq HC.out hc1);clear hB1 hc1 H1 HB HT HP HBW;go_wp2_with fail;go_ret2;rw [HSE.out];exact ⟨rfl,HC.out.below (Nat.le_refl _) (fun x e=>by subst e;exact HLE.out)⟩
def ChkR (w0:World) (b B:Nat) (rv:Value) (rows:List yU) (iv:Value) (wr:World):Prop:=
 ∃ i:Nat,i<=rows.length/\iv= .int .i64 i/\Hid (∀ j,j<i->yS (rows.getD j default)=0)/\Hid (zB wr b)/\Hid (zV wr B rv rows)/\Hid (Chg (· =b) w0 wr)
theorem VJ {rows:List yU} (h:800<rows.length):yM rows=3:=by unfold yM;rw [if_pos h]
theorem zax {rows:List yU} {i:Nat} (h:¬ 800<rows.length) (hi:i<rows.length) (h0:∀ j,j<i->yS (rows.getD j default)=0) (hne:yS (rows.getD i default)≠0):yM rows=yS (rows.getD i default):=by
 have e:=yk (f:=fun i=>yS (rows.getD i default)) hi h0 hne
 unfold yM
 rw [if_neg h,if_pos (by rw [e];exact hne),e]
theorem Xy {rows:List yU} (h:¬ 800<rows.length) (h0:∀ j,j<rows.length->yS (rows.getD j default)=0):yM rows=if 80<(xE rows []).length then 3 else 0:=by
 have e:=xb (f:=fun i=>yS (rows.getD i default)).2 h0
 unfold yM
 rw [if_neg h,if_neg (by rw [e];exact fun h=>h rfl)]
theorem Xu (b:Nat) (A:Option Addr) (n c:Nat) (rows:List yU) (w:World) (hB:zB w b) (hr:xD w (.slice A n c) rows) (hcnt:rows.length<=800->(xE rows []).length<=100000):
 Calls Tryz.prog 40 #[.map (some b),.slice A n c] w (X8 b (yM rows) w):=by
 obtain rfl:=hr.len
 have HB:=ze hB
 have HR:=ze hr
 have HC:=ze (Chg.refl (S:=(· =b)) w)
 by_cases hlen:800<rows.length
 . have d0:decide ((rows.length:Int)>800)=true:=by rw [decide_eq_true_iff];omega
   have HE:=ze (VJ hlen);clear hB hr hcnt
   go_enter Tryz.func40,Tryz.ntmps40
   go_wp2_with fail;go_ret;exact ⟨by rw [HE.out];rfl,HB.out,HC.out⟩
 have d0:decide ((rows.length:Int)>800)=false:=by rw [decide_eq_false_iff_not];omega
 have HL:=ze hlen
 have HCN:=ze (hcnt (by omega))
 clear hB hr hcnt
 go_enter Tryz.func40,Tryz.ntmps40
 go_wp2_with fail
 go_loopw [13] (ChkR w b w.heap.size (.slice A rows.length c) rows) (fun iv _=>rows.length - (intOf iv).toNat)
 case atStart=>exact ⟨0,Nat.zero_le _,rfl,(fun j h=>by omega),HB,HR,HC⟩
 case round=>
  clear HB HR HC d0
  obtain ⟨i,hi,rfl,HJ,HB,HR,HC⟩:=hrel
  by_cases hil:i<rows.length
  . have hii:(i:Int)<(rows.length:Int):=by omega
    obtain ⟨ad,AT,nt,ct,eA,hbb,p0,p1,ht,hsb⟩:=HR.out.at_ hil;subst eA;have hx:=zf wr (.cells #[.slice AT nt ct,str rows[i].bound] 49);have HK:=ze (Blk.new wr 49 #[.slice AT nt ct,str rows[i].bound]);have hrow:=fun w' (k:zB w' b) (t:ya w' (.slice AT nt ct) rows[i].terms)=>zn7 b AT nt ct rows[i] w' k t hsb
    have hgd:rows.getD i default=rows[i]:=by simp [List.getD,List.getElem?_eq_getElem hil]
    have HRW:=ze hrow;have HT:Hid (ya (wr.alloc (.cells #[.slice AT nt ct,str rows[i].bound] 49)) (.slice AT nt ct) rows[i].terms):=(zk.below ht hx).more (Nat.le_trans HC.out.size hx.size);replace HB:=ze (HB.out.below hx);replace HR:=ze (zV.below HR.out hx);replace HC:=ze (zX HC.out hx);have HGD:=ze hgd;clear hx ht hsb hrow hgd
    go_upto_region 6 with fail
    clear p0 p1 hbb;generalize wr.alloc (.cells #[.slice AT nt ct,str rows[i].bound] 49)=W2 at HK HT HB HR HC |-;generalize wr.heap.size=gr at HK |-;have r0:=HK.out.cell 0;have r1:=HK.out.cell 1;simp at r0 r1
    by_cases hre:yS rows[i]=0
    . rw [hre] at HRW
      have HJ2:Hid (∀ j,j<i+1->yS (rows.getD j default)=0):=by
       intro j hj
       by_cases e:j=i
       . subst e;rw [HGD.out];exact hre
       . exact HJ.out j (by omega)
      clear hre;go_wp2_with fail;refine (HRW.out _ HB.out HT.out).mono ?_;rintro e w3 ⟨rfl,hB1,hc1⟩;replace HR:=ze (HB.out.keepRows hc1 HR.out);replace HC:=ze (yq HC.out hc1);replace HB:=ze hB1;clear hB1 hc1 HRW HT HK r0 r1;go_wp2_with fail;go_roundw
      case rel=>exact ⟨i+1,by omega,by go_num,HJ2,HB,HR,HC⟩
      case measure=>simp [intOf];omega
    . have HER:Hid (yM rows=yS rows[i]):=by
       have:=zax HL.out hil HJ.out (by rw [HGD.out];exact hre);rw [HGD.out] at this;exact this
      obtain ⟨z,hz⟩:∃ z,yS rows[i]=z:=⟨_,rfl⟩;rw [hz] at HRW HER hre;have hzb:(z == 0)=false:=beq_eq_false_iff_ne.2 hre;clear hz hre;go_wp2_with fail;refine (HRW.out _ HB.out HT.out).mono ?_;rintro e w3 ⟨rfl,hB1,hc1⟩;replace HC:=ze (yq HC.out hc1);replace HB:=ze hB1;clear hB1 hc1 HRW HT HK r0 r1;go_wp2_with fail;go_ret;exact ⟨by rw [HER.out];rfl,HB.out,HC.out⟩
  . obtain rfl:rows.length=i:=by omega
    have hun:=VO wr.heap.size 0 A rows.length c (.slice none 0 0) [] rows [] wr (HR.out.more HC.out.size) (Z2 _ _ _ _) ⟨rfl,fun j hj=>by cases hj⟩ rfl (by omega) (Nat.le_refl _)
     (fun l hl=>by rw [hl.eq];exact HCN.out)
    have HUN:=ze hun;clear hun HR;go_wp2_with fail;refine HUN.out.mono ?_;rintro e w3 ⟨v,l,rfl,hin,hn,hb3⟩;have hll:l.length=(xE rows []).length:=by rw [hin.eq];rfl
    have HER:Hid (yM rows=if 80<l.length then 3 else 0):=by
     show _=_
     rw [hll];exact Xy HL.out HJ.out
    obtain ⟨A3,c3,rfl,_⟩:=hn;replace HB:=ze (HB.out.below hb3);replace HC:=ze (zX HC.out hb3);clear hb3 HUN hin hll HJ HCN
    by_cases h8:80<l.length
    . rw [if_pos h8] at HER
      have d8:(80:Int)<(l.length:Int):=by omega
      clear h8;go_wp2_with fail;go_ret;exact ⟨by rw [HER.out];rfl,HB.out,HC.out⟩
    . rw [if_neg h8] at HER
      have d8:¬ (80:Int)<(l.length:Int):=by omega
      clear h8;go_wp2_with fail;go_ret;exact ⟨by rw [HER.out];rfl,HB.out,HC.out⟩
structure X4 (rows:List yU) (s:List UInt8):Prop where
 err:∀ r∈rows,yS r=0
 len:rows.length<=800
 all:∀ r∈rows,∀ t∈r.terms,t.name=s
 ex:∃ r∈rows,r.terms≠[]
 small:s.length<=1073741824
theorem X4.err0 {rows:List yU} {s:List UInt8} (h:X4 rows s):yM rows=0/\(xE rows []).length=1:=by
 have ha:∀ x∈zZ ([] ++ rows.map (·.terms)),x=s:=by
  intro x hx
  unfold zZ at hx
  rw [List.nil_append,List.mem_flatMap] at hx
  obtain ⟨l,hl,hx⟩:=hx
  obtain ⟨t,ht,rfl⟩:=List.mem_map.1 hx
  obtain ⟨r,hr,rfl⟩:=List.mem_map.1 hl
  exact h.all r hr t ht
 have he:zZ ([] ++ rows.map (·.terms))≠[]:=by
  obtain ⟨r,hr,hne⟩:=h.ex
  obtain ⟨t,q,e⟩:=List.exists_cons_of_ne_nil hne
  intro h0
  have:t.name∈zZ ([] ++ rows.map (·.terms)):=by
   unfold zZ;exact List.mem_flatMap.2 ⟨_,List.mem_map.2 ⟨r,hr,rfl⟩,List.mem_map.2 ⟨t,by rw [e];exact List.mem_cons_self ..,rfl⟩⟩
  rw [h0] at this
  cases this
 have h1:(xE rows []).length=1:=by
  have e:xE rows []=[s]:=zcv ha he (Ye _)
  rw [e];rfl
 refine ⟨?_,h1⟩
 rw [Xy (by have:=h.len;omega) (fun j hj=>by
  have e:rows.getD j default=rows[j]:=by simp [List.getD,List.getElem?_eq_getElem hj]
  rw [e];exact h.err _ (List.getElem_mem hj)),h1]
 rfl
theorem zb3 (b:Nat) (A:Option Addr) (n c:Nat) (rows:List yU) (s:List UInt8) (w:World) (hB:zB w b) (hr:xD w (.slice A n c) rows) (h1:X4 rows s):
 Calls Tryz.prog 40 #[.map (some b),.slice A n c] w (X8 b 0 w):=by
 have h:=Xu b A n c rows w hB hr (fun _=>by rw [h1.err0.2];omega)
 rw [h1.err0.1] at h
 exact h
theorem zkp (w:World) (B:Nat):yg w B (.slice none 0 0) []:=⟨none,0,rfl,Nat.le_refl _,by unfold maxLen;omega,by simp,zY.none_,fun x hx=>by cases hx⟩
def XS (r:yU):Rat:=(zp r.bound).getD 0
def zb6 (p:List zG) (r:yU):Bool:=decide (XS r<Vi p r.terms r.terms.length)
structure zbl (p:List zG) (r:yU):Prop where
 sum:XG r.terms p
 bnd:∃ q,zp r.bound=some q/\Dz 8000 q
theorem zbl.rlen {p:List zG} {r:yU} (h:zbl p r):zp r.bound=some (XS r)/\ZW 8388608 (XS r)/\VQ 8388608 (XS r):=by
 obtain ⟨q,hq,hd⟩:=h.bnd
 have e:XS r=q:=by unfold XS;rw [hq];rfl
 rw [e]
 exact ⟨hq,(ZW.of_dz hd).more (by omega),(Dz.nlen hd).mono (by omega)⟩
theorem zhm (x y:Rat):decide (zgi x y>0)=decide (y<x):=by
 unfold zgi
 by_cases h1:x<y
 . rw [if_pos h1,decide_eq_false (by omega),decide_eq_false (Rat.not_lt.2 (Rat.le_of_lt h1))]
 . rw [if_neg h1]
   by_cases h2:y<x
   . rw [if_pos h2,decide_eq_true h2,decide_eq_true (by omega)]
   . rw [if_neg h2,decide_eq_false h2,decide_eq_false (by omega)]
def Xl (n:Nat) (p:Nat->Bool):Int:=match (List.range n).find? p with
 | some k=>k
 | none=> -1
theorem zhc {n k:Nat} {p:Nat->Bool} (hk:k<n) (h:p k=true) (h0:∀ j,j<k->p j=false):Xl n p=k:=by
 have:(List.range n).find? p=some k:=by
  rw [List.find?_eq_some_iff_getElem]
  refine ⟨h,k,by simpa using hk,by simp,?_⟩
  intro j hj
  simp [h0 j hj]
 unfold Xl
 rw [this]
theorem zb5 {n:Nat} {p:Nat->Bool} (h0:∀ j,j<n->p j=false):Xl n p= -1:=by
 have:(List.range n).find? p=none:=by
  rw [List.find?_eq_none]
  intro j hj
  rw [h0 j (by simpa using hj)];decide
 unfold Xl
 rw [this]
theorem zjp (b gb gp:Nat) (AT AP:Option Addr) (nt ct np cp:Nat) (r:yU) (p:List zG) (w:World) (hB:zB w b) (hkb:Blk w gb 80 #[.map (some b)]) (hkp:Blk w gp 31 #[.slice AP np cp])
 (ht:ya w (.slice AT nt ct) r.terms) (hp:ya w (.slice AP np cp) p) (hs:yo r.bound) (ho:zbl p r):
 Calls Tryz.prog 104 #[.agg #[.slice AT nt ct,str r.bound],.pointer (some ⟨gb,0,none⟩),.pointer (some ⟨gp,0,none⟩)] w (fun e w' =>e= .returned (.bool (zb6 p r))/\zB w' b/\Chg (· =b) w w'):=by
 have hx:=zf w (.cells #[.slice AT nt ct,str r.bound] 49)
 have HKR:=ze (Blk.new w 49 #[.slice AT nt ct,str r.bound])
 have HB:=ze (hB.below hx)
 have HBL:=ze hB.lt
 have HKB:=ze (hkb.below hx hkb.lt)
 have HKP:=ze (hkp.below hx hkp.lt)
 have HT:=ze ((zk.below ht hx).more hx.size)
 have HP:=ze ((zk.below hp hx).more hx.size)
 have HC:Hid (Chg (· =b) w (w.alloc (.cells #[.slice AT nt ct,str r.bound] 49))):=Chg.of_below hx
 obtain ⟨hbq,hbl,_⟩:=ho.rlen
 have HBQ:=ze hbq
 have HBR:=ze hbl
 have HO:=ze ho.sum
 have HRL:=ze (ho.sum.rlen (Nat.le_refl _))
 obtain ⟨z,hz⟩:∃ z,zgi (Vi p r.terms r.terms.length) (XS r)=z:=⟨_,rfl⟩
 have HBK:Hid (zb6 p r=decide (z>0)):=ze (by rw [<- hz];exact (zhm _ _).symm)
 have HZ:=ze hz
 have hnb:¬ gb=b:=fun e=>by
  subst e
  have h1:=hkb.cell 0
  rw [hB.noCells ⟨gb,0,none⟩ rfl] at h1
  simp at h1
 have hnp:¬ gp=b:=fun e=>by
  subst e
  have h1:=hkp.cell 0
  rw [hB.noCells ⟨gp,0,none⟩ rfl] at h1
  simp at h1
 have HNR:Hid (¬ w.heap.size=b):=ze (fun e=>by have:=hB.lt;omega)
 have HS:=ze hs
 clear hB hkb hkp ht hp hs ho hx hbq hbl hz
 go_enter Tryz.func104,Tryz.ntmps104
 go_upto_region 1 with fail
 generalize w.alloc (.cells #[.slice AT nt ct,str r.bound] 49)=W at HKR HB HKB HKP HT HP HC |-
 generalize w.heap.size=gr at HKR HNR |-
 have hrd:=vD b ⟨r.bound.toArray⟩ W HB.out (by rw [<- zo,yR];exact HS.out)
 rw [yR] at hrd
 have HRD:=ze hrd
 have r0:=HKR.out.cell 0
 have r1:=HKR.out.cell 1
 have d0:=HKB.out.cell 0
 simp at r0 r1 d0
 clear hrd
 go_wp2_with fail
 refine HRD.out.mono ?_
 rintro e w2 ⟨v,ok,rfl,⟨x1,A1,k1,c1,s1,y1,B1,k1x,c1x,t1,rfl⟩,hok,hqv,hB1,hc1⟩
 clear HRD r0 r1 d0
 have hx:=zf w2 (.cells #[.int .i64 x1,.slice A1 k1 c1,.bool s1,.int .i64 y1,.slice B1 k1x c1x,.bool t1] 93)
 have hcg:Chg (· =b) W (w2.alloc (.cells #[.int .i64 x1,.slice A1 k1 c1,.bool s1,.int .i64 y1,.slice B1 k1x c1x,.bool t1] 93)):=zX hc1 hx
 have HNX:Hid (¬ w2.heap.size=b):=ze (fun e=>by have:=hB1.lt;omega)
 replace HT:=ze ((HB.out.keepT hcg HT.out).more hcg.size)
 replace HP:=ze ((HB.out.keepT hcg HP.out).more hcg.size)
 replace HKR:=ze (HB.out.keepBlk hcg HKR.out)
 replace HKB:=ze (HB.out.keepBlk hcg HKB.out)
 replace HKP:=ze (HB.out.keepBlk hcg HKP.out)
 replace HC:=ze (yq HC.out hcg)
 replace HB:=ze (hB1.below hx)
 have HKX:=ze (Blk.new w2 93 #[.int .i64 x1,.slice A1 k1 c1,.bool s1,.int .i64 y1,.slice B1 k1x c1x,.bool t1])
 have HVX:=ze ((hqv _ HBQ.out).below hx)
 clear hB1 hc1 hx hcg hqv hok
 go_upto_region 2 with fail
 generalize w2.alloc (.cells #[.int .i64 x1,.slice A1 k1 c1,.bool s1,.int .i64 y1,.slice B1 k1x c1x,.bool t1] 93)=W3 at HKX HVX HB HT HP HKR HKB HKP HC |-
 generalize w2.heap.size=gx at HKX HNX |-
 have q0:=HKX.out.cell 0
 have q1:=HKX.out.cell 1
 have q2:=HKX.out.cell 2
 have q3:=HKX.out.cell 3
 have q4:=HKX.out.cell 4
 have q5:=HKX.out.cell 5
 have r0:=HKR.out.cell 0
 have d0:=HKB.out.cell 0
 have z0:=HKP.out.cell 0
 simp at q0 q1 q2 q3 q4 q5 r0 d0 z0
 have hgx:=HNX.out
 have hgr:=HNR.out
 refine yA (S:=fun w' =>Hid (Chg (fun x=>x=b) W3 w')/\w'.cell? ⟨gx,0,none⟩=some (.int .i64 x1)/\w'.cell? ⟨gx,1,none⟩=some (.slice A1 k1 c1)/\w'.cell? ⟨gx,2,none⟩=some (.bool s1)/\w'.cell? ⟨gx,3,none⟩=some (.int .i64 y1)/\w'.cell? ⟨gx,4,none⟩=some (.slice B1 k1x c1x)/\w'.cell? ⟨gx,5,none⟩=some (.bool t1)/\w'.cell? ⟨gr,0,none⟩=some (.slice AT nt ct)/\w'.cell? ⟨gb,0,none⟩=some (.map (some b))/\w'.cell? ⟨gp,0,none⟩=some (.slice AP np cp)) 7 (by kernel_rfl) (by kernel_rfl) (zm (vT W3) (fun hB=>⟨zH hB q0 hgx,zH hB q1 hgx,zH hB q2 hgx,zH hB q3 hgx,zH hB q4 hgx,zH hB q5 hgx,zH hB r0 hgr,zH hB d0 hnb,zH hB z0 hnp⟩)) (fun hHeld=>?_)
 refine HH.tk 0 ?_
 refine HH.tk 1 ?_
 refine HH.tk 2 ?_
 refine HH.tk 3 ?_
 refine HH.tk 5 ?_
 refine HH.rd 4 (fun K hK=>?_)
 go_simp
 go_at_call 44
 have hbd:=(zv W3).out
 replace HB:=ze (HB.out.below hbd)
 replace HT:=ze ((zk.below HT.out hbd).more hbd.size)
 replace HP:=ze ((zk.below HP.out hbd).more hbd.size)
 replace HVX:=ze (HVX.out.below hbd)
 replace HC:=ze (zX HC.out hbd)
 clear hbd
 refine (zhk b _ _ _ _ _ _ r.terms p _ HB.out HT.out HP.out HO.out).mono ?_
 rintro e w4 ⟨v4,rfl,hv4,hB4,hc4⟩
 replace HVX:=ze (HB.out.keepR hc4 HVX.out)
 replace HC:=ze (yq HC.out hc4)
 replace HB:=ze hB4
 have HV4:=ze hv4
 have hH0:=hHeld
 clear hHeld
 refine hK.out _ _ (zm (Z7 hc4 hH0.1) (fun hB=>⟨zH hB q0 hgx,zH hB q1 hgx,zH hB q2 hgx,zH hB q3 hgx,zH hB q4 hgx,zH hB q5 hgx,zH hB r0 hgr,zH hB d0 hnb,zH hB z0 hnp⟩)) (fun hHeld=>?_)
 clear hH0 hK K
 try simp only [Act.put,List.setIfInBounds_toArray,List.set_cons_zero,List.set_cons_succ]
 clear hc4 hB4 hv4
 refine HH.rd 6 (fun K hK=>?_)
 go_simp
 go_at_call 68
 refine (zgz _ _ _ _ _ HV4.out HVX.out HRL.out HBR.out).mono ?_
 rintro e w5 ⟨rfl,hb5⟩
 rw [HZ.out]
 replace HB:=ze (HB.out.below hb5)
 replace HC:=ze (zX HC.out hb5)
 have hH0:=hHeld
 clear hHeld
 refine hK.out _ _ (zm (vP hb5 hH0.1) (fun hB=>⟨zH hB q0 hgx,zH hB q1 hgx,zH hB q2 hgx,zH hB q3 hgx,zH hB q4 hgx,zH hB q5 hgx,zH hB r0 hgr,zH hB d0 hnb,zH hB z0 hnp⟩)) (fun hHeld=>?_)
 clear hH0 hK K
 try simp only [Act.put,List.setIfInBounds_toArray,List.set_cons_zero,List.set_cons_succ]
 clear hb5
 have HBY:=(hHeld.1).out
 clear HBY hHeld
 refine HH.done (by kernel_rfl) ?_
 simp only [List.drop_succ_cons,List.drop_zero]
 clear q0 q1 q2 q3 q4 q5 r0 d0 z0
 go_wp2_with fail
 go_ret
 exact ⟨by rw [HBK.out];rfl,HB.out,HC.out⟩
def Yg (p:List zG) (rows:List yU) (k:Nat):Bool:=zb6 p (rows.getD k default)
def IfnR (w0:World) (b gb gp B:Nat) (rv pv:Value) (rows:List yU) (p:List zG) (kv:Value) (wr:World):Prop:=
 ∃ k:Nat,k<=rows.length/\kv= .int .i64 k/\Hid (∀ j,j<k->Yg p rows j=false)/\Hid (zB wr b)/\Hid (zV wr B rv rows)/\Hid (zk wr B pv p)/\
  Hid (Blk wr gb 80 #[.map (some b)])/\Hid (Blk wr gp 31 #[pv])/\Hid (Chg (· =b) w0 wr)
theorem zjj (b gb gp B:Nat) (A AP:Option Addr) (n c np cp:Nat) (rows:List yU) (p:List zG) (w:World) (hB:zB w b) (hkb:Blk w gb 80 #[.map (some b)]) (hkp:Blk w gp 31 #[.slice AP np cp])
 (hr:zV w B (.slice A n c) rows) (hp:zk w B (.slice AP np cp) p) (hBB:B<=w.heap.size) (ho:∀ k,k<rows.length->zbl p (rows.getD k default)):
 Calls Tryz.prog 103 #[.slice A n c,.func (.func 104) #[] #[.pointer (some ⟨gb,0,none⟩),.pointer (some ⟨gp,0,none⟩)]] w
  (fun e w' =>e= .returned (.int .i64 (Xl rows.length (Yg p rows)))/\zB w' b/\Chg (· =b) w w'):=by
 obtain rfl:=hr.len
 have hrl:rows.length<=100000:=by obtain ⟨_,_,_,_,_,_,h,_⟩:=hr;exact h
 have HB:=ze hB
 have HR:=ze hr
 have HP:=ze hp
 have HKB:=ze hkb
 have HKP:=ze hkp
 have HC:=ze (Chg.refl (S:=(· =b)) w)
 have HO:=ze ho
 have HBB:=ze hBB
 clear hB hkb hkp hr hp hBB ho
 go_enter Tryz.func103,Tryz.ntmps103
 go_wp2_with fail
 go_loopw [8] (IfnR w b gb gp B (.slice A rows.length c) (.slice AP np cp) rows p) (fun kv _=>rows.length - (intOf kv).toNat)
 case atStart=>exact ⟨0,Nat.zero_le _,rfl,ze (fun j h=>by omega),HB,HR,HP,HKB,HKP,HC⟩
 case round=>
  clear HB HR HP HKB HKP HC
  obtain ⟨k,hk,rfl,HJ,HB,HR,HP,HKB,HKP,HC⟩:=hrel
  by_cases hkl:k<rows.length
  . have hki:(k:Int)<(rows.length:Int):=by omega
    obtain ⟨ad,AT,nt,ct,eA,hbb,p0,p1,ht,hsb⟩:=HR.out.at_ hkl;subst eA;have hgd:rows.getD k default=rows[k]:=by simp [List.getD,List.getElem?_eq_getElem hkl]
    have hok:=HO.out k hkl;rw [hgd] at hok;have hle:B<=wr.heap.size:=Nat.le_trans HBB.out HC.out.size;have hcall:=zjp b gb gp AT AP nt ct np cp rows[k] p wr HB.out HKB.out HKP.out (ht.more hle) (HP.out.more hle) hsb hok;have HBA:Hid (Yg p rows k=zb6 p rows[k]):=ze (by unfold Yg;rw [hgd]);obtain ⟨z,hz⟩:∃ z,zb6 p rows[k]=z:=⟨_,rfl⟩;rw [hz] at hcall HBA;have HCA:=ze hcall;clear ht hsb hgd hok hle hcall hz hbb
    cases z with
    | true=>
      have HF:Hid (Xl rows.length (Yg p rows)=k):=ze (zhc hkl HBA.out HJ.out);go_wp2_with fail;refine HCA.out.mono ?_;rintro e w1 ⟨rfl,hB1,hc1⟩;replace HC:=ze (yq HC.out hc1);replace HB:=ze hB1;clear hB1 hc1 HCA p0 p1;go_wp2_with fail;go_ret;exact ⟨by rw [HF.out];rfl,HB.out,HC.out⟩
    | false=>
      have HJ2:Hid (∀ j,j<k+1->Yg p rows j=false):=ze (fun j hj=>by
       by_cases e:j=k
       . subst e;exact HBA.out
       . exact HJ.out j (by omega))
      go_wp2_with fail;refine HCA.out.mono ?_;rintro e w1 ⟨rfl,hB1,hc1⟩;replace HR:=ze (HB.out.keepRows hc1 HR.out);replace HP:=ze (HB.out.keepT hc1 HP.out);replace HKB:=ze (HB.out.keepBlk hc1 HKB.out);replace HKP:=ze (HB.out.keepBlk hc1 HKP.out);replace HC:=ze (yq HC.out hc1);replace HB:=ze hB1;clear hB1 hc1 HCA p0 p1;go_wp2_with fail;go_roundw
      case rel=>exact ⟨k+1,by omega,by go_num,HJ2,HB,HR,HP,HKB,HKP,HC⟩
      case measure=>simp [intOf];omega
  . obtain rfl:rows.length=k:=by omega
    have HF:Hid (Xl rows.length (Yg p rows)= -1):=ze (zb5 HJ.out);go_wp2_with fail;go_ret;exact ⟨by rw [HF.out];rfl,HB.out,HC.out⟩
theorem zgd (b:Nat) (A AP:Option Addr) (n c np cp:Nat) (rows:List yU) (p:List zG) (w:World) (hB:zB w b) (hr:xD w (.slice A n c) rows) (hp:ya w (.slice AP np cp) p) (ho:∀ k,k<rows.length->zbl p (rows.getD k default)):
 Calls Tryz.prog 49 #[.map (some b),.slice A n c,.slice AP np cp] w (X8 b (Xl rows.length (Yg p rows)) w):=by
 have hx1:=zf w (.cells #[.map (some b)] 80)
 have hx2:=zf (w.alloc (.cells #[.map (some b)] 80)) (.cells #[.slice AP np cp] 31)
 have hx:=ext hx1 hx2
 have hkb:=(Blk.new w 80 #[.map (some b)]).alloc (.cells #[.slice AP np cp] 31)
 have hkp:=Blk.new (w.alloc (.cells #[.map (some b)] 80)) 31 #[.slice AP np cp]
 rw [World.size_alloc] at hkp
 have hin:=zjj b w.heap.size (w.heap.size+1) w.heap.size A AP n c np cp rows p _ (hB.below hx) hkb hkp (zV.below hr hx) (zk.below hp hx) hx.size ho
 have HIN:=ze hin
 have HC:Hid (Chg (· =b) w ((w.alloc (.cells #[.map (some b)] 80)).alloc (.cells #[.slice AP np cp] 31))):=Chg.of_below hx
 clear hB hr hp ho hx1 hx2 hx hkb hkp hin
 go_enter Tryz.func49,Tryz.ntmps49
 go_wp2_with fail
 refine HIN.out.mono ?_
 rintro e w1 ⟨rfl,hB1,hc1⟩
 have HB:=ze hB1
 replace HC:=ze (yq HC.out hc1)
 clear hB1 hc1 HIN
 go_wp2_with fail
 go_ret
 exact ⟨rfl,HB.out,HC.out⟩
def Zy (rows:List yU) (p:List zG):Int×Int:=if yM rows≠0 then (0,yM rows) else if yd p≠0 then (0,yd p) else (Xl rows.length (Yg p rows),0)
theorem zf4 (A AP:Option Addr) (n c np cp:Nat) (rows:List yU) (p:List zG) (w:World) (hr:xD w (.slice A n c) rows) (hp:ya w (.slice AP np cp) p) (hcnt:rows.length<=800->(xE rows []).length<=100000)
 (ho:yM rows=0->yd p=0->∀ k,k<rows.length->zbl p (rows.getD k default)):
 Calls Tryz.prog 16 #[.slice A n c,.slice AP np cp] w (zoh w (Zy rows p)):=by
 have hmm:=@run_makeMap Tryz.prog
 have hx:=zf w (.map #[] 0)
 have HB:=ze (zB.new w)
 have HT:=ze (zV.below hr hx)
 have HP:=ze (zk.below hp hx)
 have HC:Hid (Chg (· =w.heap.size) w (w.alloc (.map #[] 0))):=Chg.of_below hx
 have HO:=ze ho
 have HCN:=ze hcnt
 clear hr hp ho hx hcnt
 go_enter Tryz.func16,Tryz.ntmps16
 go_upto_region 2 with fail
 clear hmm
 generalize w.alloc (.map #[] 0)=W at HB HT HP HC |-
 obtain ⟨b,hb⟩:∃ b,b=w.heap.size:=⟨_,rfl⟩
 have HLE:Hid (w.heap.size<=b):=Nat.le_of_eq hb.symm
 have HBW:Hid (w.heap.size<=W.heap.size):=HC.out.size
 rw [<- hb] at HB HC |-
 clear hb
 have h1:=Xu b A n c rows W HB.out (HT.out.more HBW.out) HCN.out
 by_cases h0:yM rows=0
 . rw [h0] at h1
   have H1:=ze h1;have H0:=ze h0;clear h1 h0;go_wp2_with fail;refine H1.out.mono ?_;rintro e w1 ⟨rfl,hB1,hc1⟩;replace HT:=ze (HB.out.keepRows hc1 HT.out);replace HP:=ze (HB.out.keepT hc1 HP.out);replace HC:=ze (yq HC.out hc1);replace HB:=ze hB1;clear hB1 hc1 H1 HBW;have h2:=zbz b AP np cp p w1 HB.out (HP.out.more HC.out.size)
   by_cases h3:yd p=0
   . rw [h3] at h2
     have H2:=ze h2;have HSE:Hid (Zy rows p=(Xl rows.length (Yg p rows),0)):=ze (by unfold Zy;rw [if_neg (by rw [H0.out];exact fun h=>h rfl),if_neg (by rw [h3];exact fun h=>h rfl)]);have HOK:=ze (HO.out H0.out h3);clear h2 h3;go_wp2_with fail;refine H2.out.mono ?_;rintro e w2 ⟨rfl,hB1,hc1⟩;replace HT:=ze (HB.out.keepRows hc1 HT.out);replace HP:=ze (HB.out.keepT hc1 HP.out);replace HC:=ze (yq HC.out hc1);replace HB:=ze hB1;clear hB1 hc1 H2;have h4:=zgd b A AP n c np cp rows p w2 HB.out (HT.out.more HC.out.size) (HP.out.more HC.out.size) HOK.out;obtain ⟨z,hz⟩:∃ z,Xl rows.length (Yg p rows)=z:=⟨_,rfl⟩;rw [hz] at h4 HSE;have H4:=ze h4;clear h4 hz;go_wp2_with fail;refine H4.out.mono ?_;rintro e w3 ⟨rfl,hB1,hc1⟩;replace HC:=ze (yq HC.out hc1);clear hB1 hc1 HB HT HP H4;go_wp2_with fail;go_ret2;rw [HSE.out];exact ⟨rfl,HC.out.below (Nat.le_refl _) (fun x e=>by subst e;exact HLE.out)⟩
   . have HSE:Hid (Zy rows p=(0,yd p)):=ze (by unfold Zy;rw [if_neg (by rw [H0.out];exact fun h=>h rfl),if_pos h3])
     obtain ⟨z,hz⟩:∃ z,yd p=z:=⟨_,rfl⟩;rw [hz] at h2 h3 HSE;have H2:=ze h2;have hzb:(z == 0)=false:=beq_eq_false_iff_ne.2 h3;clear h2 h3 hz HO;go_wp2_with fail;refine H2.out.mono ?_;rintro e w2 ⟨rfl,hB1,hc1⟩;replace HC:=ze (yq HC.out hc1);clear hB1 hc1 H2 HB HT HP;go_wp2_with fail;go_ret2;rw [HSE.out];exact ⟨rfl,HC.out.below (Nat.le_refl _) (fun x e=>by subst e;exact HLE.out)⟩
 . have HSE:Hid (Zy rows p=(0,yM rows)):=ze (by unfold Zy;rw [if_pos h0])
   obtain ⟨z,hz⟩:∃ z,yM rows=z:=⟨_,rfl⟩;rw [hz] at h1 h0 HSE;have H1:=ze h1;have hzb:(z == 0)=false:=beq_eq_false_iff_ne.2 h0;clear h1 h0 hz HO;go_wp2_with fail;refine H1.out.mono ?_;rintro e w1 ⟨rfl,hB1,hc1⟩;replace HC:=ze (yq HC.out hc1);clear hB1 hc1 H1 HB HT HP HBW;go_wp2_with fail;go_ret2;rw [HSE.out];exact ⟨rfl,HC.out.below (Nat.le_refl _) (fun x e=>by subst e;exact HLE.out)⟩
structure zfu (goal:List zG) (s:List UInt8):Prop where
 err:zQ goal=0
 all:∀ t∈goal,t.name=s
def zrg (w:World) (s:List UInt8) (e:Ending) (w' :World):Prop:=
 ∃ b v,e= .returned (.tuple #[.map (some b),v,.int .i64 0])/\zB w' b/\yg w' w'.heap.size v [s]/\w.heap.size<=b/\Below w.heap.size w w'
theorem zg1 (A A2:Option Addr) (n c n2 c2:Nat) (rows:List yU) (goal:List zG) (s:List UInt8) (w:World) (hr:xD w (.slice A n c) rows) (hg:ya w (.slice A2 n2 c2) goal) (h1:X4 rows s) (h2:zfu goal s):
 Calls Tryz.prog 66 #[.slice A n c,.slice A2 n2 c2] w (zrg w s):=by
 have hmm:=@run_makeMap Tryz.prog
 have hx:=zf w (.map #[] 0)
 have HB:=ze (zB.new w)
 have HR:=ze (zV.below hr hx)
 have HG:=ze (zk.below hg hx)
 have HC:Hid (Chg (· =w.heap.size) w (w.alloc (.map #[] 0))):=Chg.of_below hx
 have H1:=ze h1
 have H2:=ze h2
 clear hr hg h1 h2 hx
 go_enter Tryz.func66,Tryz.ntmps66
 go_upto_region 2 with fail
 clear hmm
 have HLT:Hid (w.heap.size<=w.heap.size):=Nat.le_refl _
 generalize w.alloc (.map #[] 0)=W at HB HR HG HC |-
 obtain ⟨b,hb⟩:∃ b,b=w.heap.size:=⟨_,rfl⟩
 have HLE:Hid (w.heap.size<=b):=Nat.le_of_eq hb.symm
 have hbs:=HB.out.lt
 have HBW:Hid (w.heap.size<=W.heap.size):=HC.out.size
 rw [<- hb] at HB HC |-
 clear hb HLT hbs
 have hck:=zb3 b A n c rows s W HB.out (HR.out.more HBW.out) H1.out
 have HCK:=ze hck
 clear hck
 go_wp2_with fail
 refine HCK.out.mono ?_
 rintro e w1 ⟨rfl,hB1,hc1⟩
 replace HR:=ze (HB.out.keepRows hc1 HR.out)
 replace HG:=ze (HB.out.keepT hc1 HG.out)
 replace HC:=ze (yq HC.out hc1)
 replace HB:=ze hB1
 clear hB1 hc1 HCK HBW
 have htm:=Vp b A2 n2 c2 goal w1 HB.out (HG.out.more HC.out.size)
 rw [H2.out.err] at htm
 have HTM:=ze htm
 clear htm
 go_wp2_with fail
 refine HTM.out.mono ?_
 rintro e w2 ⟨rfl,hB1,hc1⟩
 replace HR:=ze (HB.out.keepRows hc1 HR.out)
 replace HG:=ze (HB.out.keepT hc1 HG.out)
 replace HC:=ze (yq HC.out hc1)
 replace HB:=ze hB1
 clear hB1 hc1 HTM
 have hx:=zf w2 (.cells #[.slice A2 n2 c2] 30)
 have hnew:=Blk.new w2 30 #[.slice A2 n2 c2]
 have HO:Hid (vJ (w2.alloc (.cells #[.slice A2 n2 c2] 30)) w2.heap.size 30 1 (.slice (some ⟨w2.heap.size,0,none⟩) 1 1) 1 [.slice A2 n2 c2]):=by
  refine ⟨⟨rfl,.inr ⟨_,1,_,rfl,Nat.le_refl _,hnew,Nat.le_refl _,by unfold maxLen;omega,rfl,rfl⟩⟩,fun g hg=>?_⟩
  injection hg with hg
  subst hg
  exact hnew.noDig (ZC (by intro u hu;simp at hu;subst hu;exact ys _ _ _))
 have hun:=ze3 w2.heap.size 1 A n c (.slice (some ⟨w2.heap.size,0,none⟩) 1 1) [.slice A2 n2 c2] rows [goal] s (w2.alloc (.cells #[.slice A2 n2 c2] 30)) ((zV.below HR.out hx).more HC.out.size) HO.out
  ⟨rfl,fun j hj=>by
   have:j=0:=by simp at hj;omega
   subst this
   exact (zk.below HG.out hx).more HC.out.size⟩ rfl (by omega) hx.size H1.out.small
  (by
    intro l hl t ht
    rcases List.mem_append.1 hl with hl | hl
    . rw [List.mem_singleton] at hl;subst hl;exact H2.out.all t ht
    . rw [List.mem_map] at hl
      obtain ⟨r,hr,rfl⟩:=hl
      exact H1.out.all r hr t ht)
  (by
    obtain ⟨r,hr,hne⟩:=H1.out.ex
    exact ⟨r.terms,List.mem_append.2 (.inr (by rw [List.mem_map];exact ⟨r,hr,rfl⟩)),hne⟩)
 have HUN:=ze hun
 have HX:=ze hx
 clear hun hx hnew HO HR HG
 go_wp2_with fail
 refine HUN.out.mono ?_
 rintro e w3 ⟨v,rfl,hn,hb3⟩
 have hb4:Below w2.heap.size w2 w3:=HX.out.trans hb3
 replace HB:=ze (HB.out.below hb4)
 replace HC:=ze (zX HC.out hb4)
 have HN:=ze hn
 obtain ⟨A3,c3,rfl,_⟩:=hn
 clear hb3 hb4 HUN HX
 go_wp2_with fail
 go_ret3
 exact ⟨b,_,rfl,HB.out,HN.out,HLE.out,HC.out.below (Nat.le_refl _) (fun x e=>by subst e;exact HLE.out)⟩
end Go.Proofs.YtkmcmmcencdcpaaGreatDoor
