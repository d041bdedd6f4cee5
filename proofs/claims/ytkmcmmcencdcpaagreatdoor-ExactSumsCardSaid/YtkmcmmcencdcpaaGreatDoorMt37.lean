/- Parts of the proof: memory, numbers, walks of the functions that are called. -/
import Derived.Test.YtkmcmmcencdcpaaGreatDoorMt26
import Derived.Test.YtkmcmmcencdcpaaGreatDoorMt36
set_option linter.unusedVariables false
set_option linter.unusedSimpArgs false
namespace Go.Proofs.YtkmcmmcencdcpaaGreatDoor
open Go.RowKit Go.Deep
attribute [local go_sem ↓] Go.wp_at_zero Go.wp_at_succ
def zlo (l:List UInt8):List (List UInt8):=spl 10 (l.count 10) l
theorem zni:(Tryz.prog.info? 49).map (fun i=>(i.zero,i.size,i.bytes))=some (some (.agg #[.slice none 0 0,.string ⟨#[]⟩]),2,40):=by kernel_rfl
theorem Tryz.underlying22:Tryz.prog.underlying 22=some (.slice 49):=by kernel_rfl
structure zov (text:List UInt8) (ls:List (List UInt8)) (rows:List yU):Prop where
 lines:zlo text=ls ++ [[]]
 len:ls.length=rows.length
 ok:∀ i,i<rows.length->zox (ls.getD i []) (rows.getD i default)
 small:text.length<=65536
 m0:0<rows.length
 mm:rows.length<=800
def zf8 (w:World) (base:Nat) (rows:List yU) (v:Value) (i:Nat) (H:Nat->Value):Prop:=
 vJ w base 49 2 v i (v8 i H (Yy rows))/\∀ j,j<i->zk w w.heap.size (H j) (rows.getD j default).terms/\TyT w (H j)
theorem zf8.chg {S:Nat->Prop} {w w' :World} {base:Nat} {rows:List yU} {v:Value} {i:Nat} {H:Nat->Value} (h:zf8 w base rows v i H) (hc:Chg S w w') (h1:∀ g,v.ownBlock=some g->¬ S g) (hS:∀ x,S x->(∀ cs,w.heap[x]?≠some (.cells cs 60 (0,0)))):zf8 w' base rows v i H:=
 ⟨h.1.chg hc h1,fun j hj=>⟨((h.2 j hj).1.off (h.2 j hj).2 hc hS).more hc.size,(h.2 j hj).2.chg hc hS⟩⟩
theorem zmx {w:World} {base m:Nat} {rows:List yU} {v:Value} {H:Nat->Value} (h:zf8 w base rows v m H) (hm:m=rows.length) (h0:0<rows.length) (hb:m<=800) (ht:∀ j,j<rows.length->yo (rows.getD j default).bound):xD w v rows:=by
 subst hm
 rcases h.1.1.2 with ⟨_,h0⟩ | ⟨g,cap,cur,ev,_,hg,hnc,hcm,hcs,htake⟩
 . omega
 . subst ev
   refine ⟨some ⟨g,0,none⟩,cap,H,rfl,by omega,hcm,by omega,zY.of_own h.1.1,fun j hj=>(h.2 j hj).1,fun x hx=>?_⟩;obtain ⟨j,hj,ex⟩:=List.mem_iff_getElem.1 hx;have:=ht j hj;rw [<- ex]
   simpa [List.getD,List.getElem?_eq_getElem hj] using this
def PrsR (w0:World) (b gw:Nat) (ws:List (List UInt8)) (rows:List yU) (iv rv:Value) (wr:World):Prop:=
 ∃ (i:Nat) (v:Value) (H:Nat->Value),i<=rows.length/\iv= .int .i64 i/\rv=v/\Hid (zf8 wr w0.heap.size rows v i H)/\Hid (zB wr b)/\Hid (Blk wr gw 9 (ws.map str).toArray)/\Hid (Chg (· =b) w0 wr)
theorem zB.ne' {w:World} {b x:Nat} {cs:Array Value} {t:TypeId} {fr:Nat×Nat} (h:zB w b) (k:w.heap[x]?=some (.cells cs t fr)):x≠b:=by
 intro e
 subst e
 obtain ⟨D,⟨es,c,hb,_⟩,_⟩:=h
 rw [k] at hb;cases hb
theorem zpe {w:World} {g:Nat} {t:TypeId} {a b:Value} (h:Blk w g t #[a,b]):∀ (j:Nat) (u:Value),[a,b][j]?=some u->w.cell? ((⟨g,0,none⟩:Addr).add j)=some u:=by
 intro j u hu
 have e:((⟨g,0,none⟩:Addr).add j)=⟨g,j,none⟩:=by
  unfold Addr.add
  by_cases h:j=0
  . subst h;rfl
  . simp [h]
 rw [e,h.cell j, <- hu]
 simp
theorem zdv {w:World} {b:Nat} (h:zB w b):∀ x,x=b->(∀ cs,w.heap[x]?≠some (.cells cs 60 (0,0))):=fun x e cs h1=>h.ne' h1 e
def zrl (rows:List yU) (w:World) (e:Ending) (w' :World):Prop:=
 ∃ A c,e= .returned (.tuple #[.slice A rows.length c,.int .i64 0,.int .i64 0])/\xD w' (.slice A rows.length c) rows/\Below w.heap.size w w'
set_option maxRecDepth 100000 in
set_option maxHeartbeats 8000000 in
theorem zfm (text:List UInt8) (ls:List (List UInt8)) (rows:List yU) (s:List UInt8) (w:World) (hok:zov text ls rows) (h1:X4 rows s):
 Calls Tryz.prog 11 #[str text] w (zrl rows w):=by
 obtain ⟨m,hm⟩:∃ m,m=rows.length:=⟨_,rfl⟩
 obtain ⟨N,hN⟩:∃ N,N=m+1:=⟨_,rfl⟩
 have hbts:bts ⟨text.toArray⟩=text:=yR text
 have hsp:=fun w=>ze0 ⟨text.toArray⟩ 10 w (by rw [<- zo,hbts];have:=hok.small;omega)
 rw [hbts] at hsp
 change ∀ w,Calls _ _ _ w (zh8 w (zlo text)) at hsp
 rw [hok.lines] at hsp
 have hlen:(ls ++ [[]]).length=N:=by rw [List.length_append,hok.len,hN,hm];rfl
 have hsm:=hok.small
 have hmm:=hok.mm
 rw [<- hm] at hmm
 have d1:decide (((⟨text.toArray⟩:ByteArray).size:Int)>65536)=false:=by
  rw [decide_eq_false_iff_not, <- zo,hbts];omega
 have d2:decide ((text.length:Int)>65536)=false:=by rw [decide_eq_false_iff_not];omega
 have HOK:=ze hok
 have H1:=ze h1
 have HSP:=ze hsp
 have HLN:=ze hlen
 have HM:=ze hm
 have HN:=ze hN
 have hmk:=@run_makeMap Tryz.prog
 have e1:IntKind.i64.wrap ((N:Int) - 1)=(m:Int):=by rw [IntKind.wrap_i64];omega
 have e2:(m:Int)<(N:Int):=by omega
 have e3:(m:Int)<=(N:Int):=by omega
 clear hok h1 hsp hlen hm hN hbts hsm
 go_enter Tryz.func11,Tryz.ntmps11
 go_wp2_with fail
 refine (HSP.out _).mono ?_
 rintro e w1 ⟨gw,rfl,hkw,hgw,hb1⟩
 rw [HLN.out]
 clear HSP d1 d2
 have HKW:=ze hkw
 have HW1:=ze hb1
 clear hkw hb1
 have p1:w1.cell? ⟨gw,m,none⟩=some (str []):=by
  rw [HKW.out.cell]
  have h1:ls.length=m:=by rw [HOK.out.len,HM.out]
  simp [<- h1]
 have e4:IntKind.i64.wrap (m:Int)=(m:Int):=by rw [IntKind.wrap_i64];omega
 go_upto_region 6 with fail
 clear p1 e1 e2 e3 e4
 have hx:=zf w1 (.map #[] 0)
 have HB:=ze (zB.new w1)
 have HC:Hid (Chg (· =w1.heap.size) w1 (w1.alloc (.map #[] 0))):=Chg.of_below hx
 replace HKW:=kb_ HKW hx
 clear hx
 go_upto_region 7 with fail
 clear hmk
 have HRS:Hid (zf8 (w1.alloc (.map #[] 0)) w1.heap.size rows (.slice none 0 0) 0 (fun _=>undef)):=⟨Z2 _ _ _ _,fun j hj=>by omega⟩
 generalize w1.alloc (.map #[] 0)=W2 at HB HC HKW HRS |-
 obtain ⟨b,hb⟩:∃ b,b=w1.heap.size:=⟨_,rfl⟩
 rw [<- hb] at HB HC |-
 have HBE:=ze hb
 clear hb
 go_wp2_with fail
 go_loopw [32,2] (PrsR w1 b gw (ls ++ [[]]) rows) (fun iv _ _=>m - (intOf iv).toNat)
 case atStart=>exact ⟨0,_,_,Nat.zero_le _,rfl,rfl,HRS,HB,HKW,HC⟩
 case round=>
  clear HRS HB HKW HC
  obtain ⟨i,v,H,hi,rfl,rfl,HRS,HB,HKW,HC⟩:=hrel
  by_cases him:i<m
  . have hii:(i:Int)<(m:Int):=by omega
    have him2:i<rows.length:=by rw [<- HM.out];exact him
    have hlk:=HOK.out.ok i him2;obtain ⟨l,hl⟩:∃ l,l=ls.getD i []:=⟨_,rfl⟩;obtain ⟨r,hr⟩:∃ r,r=rows.getD i default:=⟨_,rfl⟩
    have p1:wr.cell? ⟨gw,i,none⟩=some (str l):=by
     have h1:i<ls.length:=by rw [HOK.out.len];exact him2
     rw [HKW.out.cell,hl,List.getElem?_toArray,List.map_append,List.getElem?_append_left (by rw [List.length_map];exact h1),List.getElem?_map]
     simp [List.getD,List.getElem?_eq_getElem h1]
    rw [<- hl, <- hr] at hlk;have hbl:=zl4 b l r wr HB.out hlk;have HBL:=ze hbl;have HR:=ze hr;clear hlk hl hr hbl;go_wp2_with fail;refine HBL.out.mono ?_;rintro e w4 ⟨g,tA,tc,cs,rfl,hkg,ecs,hte,hty,hB1,hc1⟩;subst ecs;have hrs:=HRS.out.chg hc1 (fun c hc e=>by obtain ⟨cs,q⟩:=HRS.out.1.heap hc;exact HB.out.ne' q e) (zdv HB.out);replace HKW:=ze (HB.out.keepBlk hc1 HKW.out);replace HC:=ze (yq HC.out hc1);replace HB:=ze hB1;replace HRS:=ze hrs;have HKG:=ze hkg;have HTE:=ze hte;have HTY:=ze hty;have hcell:=zpe hkg;have hone:=XU (a:=.slice tA r.terms.length tc) (b:=str r.bound) (p:=fun u=>u.oneCell' =true) rfl rfl;have hnoi:=XU (a:=.slice tA r.terms.length tc) (b:=str r.bound) (p:=ZO) (ys _ _ _) (vY _)
    have hzn:∀ u∈(Value.agg #[.slice none 0 0,.string ⟨#[]⟩]).cells,ZO u:=by
     intro u hu;simp [Value.cells] at hu;rcases hu with rfl | rfl
     . exact ys _ _ _
     . exact vY _
    obtain ⟨i1,hi0,hz0,hz1,hz2⟩:=info_parts zni;clear hB1 hc1 hrs hkg hte hty p1 HBL;go_wp2_with (at_builtin;go_must (refine yz (P:=Tryz.prog) rfl (.tmp 47) (.tmp 48) _ rfl w1.heap.size 49 i1 _ 2 40 Tryz.underlying22 hi0 hz0 hz1 hz2 rfl (by omega) _ i _ rfl HRS.out.1 ⟨g,0,none⟩ 1 1 [.slice tA r.terms.length tc,str r.bound] rfl rfl (by omega) hcell hone hnoi hzn ?o4 ?o5 ?o6 ?_))
    case o4=>unfold maxLen;omega
    case o5=>omega
    case o6=>exact HC.out.size
    intro v3 w6 hown hgr hat;obtain ⟨g3,cap3,ev,_,_⟩:=hown.1.form (by omega);subst ev;have hcg:=vH hgr;have hge:=fun c hc=>(HRS.out.1.1.lt c hc).1
    have hD:=fun x e=>HRS.out.1.2 x e
    have hnt:∀ x,Value.ownBlock _=some x->(∀ cs,w4.heap[x]?≠some (.cells cs 60 (0,0))):=fun x e cs q=>by
     obtain ⟨cs2,q2⟩:=HRS.out.1.heap e;rw [q2] at q;injection q with q
     injection q with _ q _
     exact absurd q (by decide)
    have HBX:Hid (zB w6 b):=HB.out.chg hcg (fun e=>by
     obtain ⟨cs,q⟩:=HRS.out.1.heap e
     exact HB.out.ne' q rfl) hD
    have HKWX:=ze (hcg.blk HKW.out (fun e=>by
     obtain ⟨cs,q⟩:=HRS.out.1.heap e
     exact xM HKW.out q (by decide) rfl))
    have HCX:Hid (Chg (· =b) w1 w6):=HC.out.trans hcg (fun x hx e=>by have:=hge _ e;omega)
    have HRX:Hid (zf8 w6 w1.heap.size rows (.slice (some ⟨g3,0,none⟩) (i+1) cap3) (i+1) (fun j=>if j=i then .slice tA r.terms.length tc else H j)):=by
     refine ⟨?_,fun j hj=>?_⟩
     . have e:v8 i H (Yy rows) ++ [.slice tA r.terms.length tc,str r.bound]=v8 (i+1) (fun j=>if j=i then .slice tA r.terms.length tc else H j) (Yy rows):=by
        rw [Zg]
        congr 1
        . exact VA (fun k hk=>⟨by rw [if_neg (by omega)],rfl⟩)
        . rw [if_pos rfl]
          unfold Yy;rw [<- HR.out]
       rw [e] at hown;exact hown
     . by_cases ej:j=i
       . subst ej
         simp only [if_pos];rw [<- HR.out];exact ⟨(HTE.out.off HTY.out hcg hnt).more hcg.size,HTY.out.chg hcg hnt⟩
       . simp only [if_neg ej]
         exact ⟨((HRS.out.2 j (by omega)).1.off (HRS.out.2 j (by omega)).2 hcg hnt).more hcg.size,(HRS.out.2 j (by omega)).2.chg hcg hnt⟩
    clear hown hgr hat hcg hge hD hnt HB HKW HC HRS HKG HTE HTY hcell hone hnoi hzn;go_wp2_with fail;go_roundw
    case rel=>exact ⟨i+1,_,_,by omega,by go_num,rfl,HRX,HBX,HKWX,HCX⟩
    case measure=>simp [intOf];omega
  . obtain rfl:m=i:=by have:=HM.out;omega
    have her:=zmx HRS.out HM.out HOK.out.m0 (by omega) (fun j hj=>(HOK.out.ok j hj).tinyb);obtain ⟨A,c,H2,ev,_⟩:=id her;subst ev;have hck:=zb3 b A rows.length c rows s wr HB.out her H1.out;have HCK:=ze hck;have HER:=ze her;clear hck her HRS;go_wp2_with fail;refine HCK.out.mono ?_;rintro e w2 ⟨rfl,hB1,hc1⟩;have HER2:=ze (HB.out.keepRows hc1 HER.out);replace HC:=ze (yq HC.out hc1);clear hB1 HCK;go_wp2_with fail;go_ret3;exact ⟨A,c,rfl,HER2.out.more hc1.size,ext HW1.out (HC.out.below (Nat.le_refl _) (fun x e=>by have:=HBE.out;omega))⟩
end Go.Proofs.YtkmcmmcencdcpaaGreatDoor
