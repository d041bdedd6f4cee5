/- Parts of the proof. -/
import Derived.Test.YtofmkndhocinmaaGreatDoorMs31
import Derived.Test.YtofmkndhocinmaaGreatDoorMs40
set_option linter.all false
set_option maxHeartbeats 32000000
namespace Go.Proofs.YtofmkndhocinmaaGreatDoor
open Proofs.Tryz Go.RowKit
def zaw (s v:List UInt8):zm:={ name:=s,coef:=v }
def zg0 (s v:List UInt8) (t:zm) (st:List zm×Bool):List zm×Bool:=
 if st.2=false/\¬ t.name<s then (if t.name=s then st.1 ++ [zaw s v] else (st.1 ++ [zaw s v]) ++ [t],true)
 else (if t.name=s then st.1 else st.1 ++ [t],st.2)
def Z5 (p:List zm) (s v:List UInt8):Nat->List zm×Bool
 | 0=>([],false)
 | k+1=>zg0 s v (p.getD k default) (Z5 p s v k)
def yE (p:List zm) (s v:List UInt8):List zm:=if (Z5 p s v p.length).2=false then (Z5 p s v p.length).1 ++ [zaw s v] else (Z5 p s v p.length).1
theorem ZU {t:zm} {x:List UInt8}:∀ {L:List zm},(∀ u∈L,u.name≠t.name)->yd (L ++ [t]) x=yd L x+if t.name=x then ZY t else 0
 | [],_=>by
   show (if t.name=x then (zj t.coef).getD 0 else 0)=0+(if t.name=x then ZY t else 0)
   rw [Rat.zero_add];rfl
 | u :: L,h=>by
   show (if u.name=x then (zj u.coef).getD 0 else yd (L ++ [t]) x)=(if u.name=x then (zj u.coef).getD 0 else yd L x)+_
   by_cases e:u.name=x
   . rw [if_pos e,if_pos e,if_neg (fun e2=>h u uP (by rw [e,e2])),Rat.add_zero]
   rw [if_neg e,if_neg e,ZU (fun v hv=>h v (List.mem_cons_of_mem _ hv))]
theorem Xl {L:List zm} {t:zm} (h:zek (L.map (·.name))) (hl:∀ u∈L,u.name<t.name):zek ((L ++ [t]).map (·.name)):=by
 unfold zek at*
 rw [List.map_append,List.pairwise_append]
 refine ⟨h,by simp,fun a ha b hb=>?_⟩
 obtain ⟨u,hu,rfl⟩:=List.mem_map.1 ha
 obtain rfl:b=t.name:=by simpa using hb
 exact hl u hu
structure zde (p:List zm) (s v:List UInt8) (k:Nat) (L:List zm) (d:Bool):Prop where
 inc:zek (L.map (·.name))
 mem:∀ t∈L,(d=true/\t=zaw s v)\/t∈p.take k
 lo:d=false->∀ t∈p.take k,t.name<s
 hi:d=true->∃ t∈p.take k,¬ t.name<s
 val:∀ x,yd L x=if x=s then (if d=true then (zj v).getD 0 else 0) else yd (p.take k) x
 len:L.length<=k+if d=true then 1 else 0
theorem ze0 {a b:List UInt8} (h:¬ a<b):a=b\/b<a:=by
 rcases Classical.em (a=b) with e | e
 . exact .inl e
 . refine .inr (Classical.byContradiction fun h2=>e ?_)
   exact List.le_antisymm (List.not_lt.1 h2) (List.not_lt.1 h)
section
variable {p:List zm} {s v:List UInt8}
theorem zmg (hp:Zr p):∀ k,k<=p.length->zde p s v k (Z5 p s v k).1 (Z5 p s v k).2
 | 0,_=>{
   inc:=List.Pairwise.nil
   mem:=fun t l=>by cases l
   lo:=fun _ t l=>by cases l
   hi:=fun h=>by cases h
   val:=fun x=>by
    show (0:Rat)=if x=s then (if false=true then (zj v).getD 0 else 0) else 0
    rw [if_neg (show ¬ false=true by decide),ite_self]
   len:=uB }
 | k+1,z=>by
   have b:=zmg hp k (by omega);have z:k<p.length:=z;have e:=xGD (d:=default) z;have B:p.take (k+1)=p.take k ++ [p[k]]:=by rw [List.take_add_one,List.getElem?_eq_getElem z];rfl
   have y:∀ t∈p.take k,t.name<p[k].name:=fun t l=>by
    obtain ⟨i,hi,rfl⟩:=List.mem_iff_getElem.1 l;have V:i<k:=by rw [List.length_take] at hi;omega
    rw [List.getElem_take];exact hp.inc i k (by omega) z V
   have I:∀ t∈p.take k,t.name≠p[k].name:=fun t l h=>by have:=y t l;rw [h] at this;exact yz _ this
   unfold Z5;rw [e];generalize Z5 p s v k=st at b |-;obtain ⟨L,d⟩:=st;have b:zde p s v k L d:=b;generalize l:p[k]=t at B y I |-;have C:∀ x,yd (p.take (k+1)) x=yd (p.take k) x+if t.name=x then ZY t else 0:=fun x=>by rw [B,ZU I]
   have D:∀ u∈p.take k,u∈p.take (k+1):=fun u hu=>by rw [B];exact List.mem_append_left _ hu
   have hit:t∈p.take (k+1):=by rw [B];exact List.mem_append_right _ (List.mem_singleton.2 rfl)
   unfold zg0
   cases d with
   | true=>
     rw [if_neg (by rintro ⟨h,_⟩;cases h)];obtain ⟨u,hu,K⟩:=b.hi rfl
     have F:s<t.name:=by
      rcases ze0 K with h | h
      . rw [<- h];exact y u hu
      . exact Yz h (y u hu)
     have r:t.name≠s:=fun h=>by rw [h] at F;exact yz _ F
     have N:∀ w∈L,w.name<t.name:=fun w hw=>by
      rcases b.mem w hw with ⟨_,rfl⟩ | h
      . exact F
      . exact y w h
     show zde p s v (k+1) (if t.name=s then L else L ++ [t]) true
     rw [if_neg r];refine ⟨Xl b.inc N,fun w hw=>?_,fun h=>(by cases h),fun _=>⟨u,D u hu,K⟩,fun x=>?_,?_⟩
     . rcases List.mem_append.1 hw with h | h
       . exact (b.mem w h).imp id (D w)
       . obtain rfl:=List.mem_singleton.1 h
         exact .inr hit
     . rw [ZU (fun w hw h=>by have:=N w hw;rw [h] at this;exact yz _ this),b.val x,C x]
       by_cases ex:x=s
       . rw [if_pos ex,if_pos ex,if_neg (show ¬ t.name=x from fun h=>r (h.trans ex)),Rat.add_zero]
       rw [if_neg ex,if_neg ex]
     . have:=b.len
       rw [List.length_append,List.length_singleton];rw [if_pos rfl] at this |-
       omega
   | false=>
     have T:=b.lo rfl;have E:∀ w∈L,w∈p.take k:=fun w hw=>(b.mem w hw).resolve_left (fun h=>by cases h.1)
     have O:∀ w∈L,w.name<s:=fun w hw=>T w (E w hw)
     have G:∀ w∈L,w.name<t.name:=fun w hw=>y w (E w hw)
     have X:=b.len;rw [if_neg (by decide),Nat.add_zero] at X;have J:∀ x,yd L x=if x=s then 0 else yd (p.take k) x:=fun x=>by rw [b.val x,if_neg (show ¬ false=true by decide)]
     by_cases m:t.name<s
     . rw [if_neg (fun h=>h.2 m)]
       have r:t.name≠s:=fun h=>by rw [h] at m;exact yz _ m
       show zde p s v (k+1) (if t.name=s then L else L ++ [t]) false
       rw [if_neg r];refine ⟨Xl b.inc G,fun w hw=>?_,fun _ w hw=>?_,fun h=>(by cases h),fun x=>?_,?_⟩
       . rcases List.mem_append.1 hw with h | h
         . exact .inr (D w (E w h))
         . obtain rfl:=List.mem_singleton.1 h
           exact .inr hit
       . rw [B] at hw
         rcases List.mem_append.1 hw with h | h
         . exact T w h
         . obtain rfl:=List.mem_singleton.1 h
           exact m
       . rw [ZU (fun w hw h=>by have:=G w hw;rw [h] at this;exact yz _ this),J x,C x]
         by_cases ex:x=s
         . rw [if_pos ex,if_pos ex,if_neg (fun h=>r (h.trans ex)),if_neg (by decide),Rat.add_zero]
         rw [if_neg ex,if_neg ex]
       . rw [List.length_append,List.length_singleton,if_neg (by decide)]
         omega
     rw [if_pos ⟨rfl,m⟩]
     have Q:∀ x,yd (L ++ [zaw s v]) x=if x=s then (zj v).getD 0 else yd (p.take k) x:=fun x=>by
      rw [ZU (fun w hw h=>by have j:=O w hw;rw [h] at j;exact yz _ j),J x]
      by_cases ex:x=s
      . rw [if_pos ex,if_pos ex,if_pos (show (zaw s v).name=x from ex.symm),Rat.zero_add];rfl
      rw [if_neg ex,if_neg ex,if_neg (show ¬ (zaw s v).name=x from fun h=>ex h.symm),Rat.add_zero]
     have S:zek ((L ++ [zaw s v]).map (·.name)):=Xl b.inc O
     have M:∀ w∈L ++ [zaw s v],(true=true/\w=zaw s v)\/w∈p.take (k+1):=fun w hw=>by
      rcases List.mem_append.1 hw with h | h
      . exact .inr (D w (E w h))
      . exact .inl ⟨rfl,List.mem_singleton.1 h⟩
     show zde p s v (k+1) (if t.name=s then L ++ [zaw s v] else (L ++ [zaw s v]) ++ [t]) true
     rcases ze0 m with j | j
     . rw [if_pos j]
       refine ⟨S,M,fun h=>(by cases h),fun _=>⟨t,hit,m⟩,fun x=>?_,?_⟩
       rotate_left
       . rw [List.length_append,List.length_singleton,if_pos rfl];omega
       rw [Q x,C x,if_pos rfl]
       by_cases ex:x=s
       . rw [if_pos ex,if_pos ex]
       rw [if_neg ex,if_neg ex,if_neg (fun h=>ex (h.symm.trans j)),Rat.add_zero]
     . have r:t.name≠s:=fun h=>by rw [h] at j;exact yz _ j
       rw [if_neg r]
       have U:∀ w∈L ++ [zaw s v],w.name<t.name:=fun w hw=>by
        rcases List.mem_append.1 hw with h | h
        . exact G w h
        . rw [List.mem_singleton.1 h];exact j
       refine ⟨Xl S U,fun w hw=>?_,fun h=>(by cases h),fun _=>⟨t,hit,m⟩,fun x=>?_,?_⟩
       . rcases List.mem_append.1 hw with h | h
         . exact M w h
         . obtain rfl:=List.mem_singleton.1 h
           exact .inr hit
       . rw [ZU (fun w hw h=>by have R:=U w hw;rw [h] at R;exact yz _ R),Q x,C x,if_pos rfl]
         by_cases ex:x=s
         . rw [if_pos ex,if_pos ex,if_neg (show ¬ t.name=x from fun h=>r (h.trans ex)),Rat.add_zero]
         rw [if_neg ex,if_neg ex]
       . simp only [List.length_append,List.length_singleton]
         rw [if_pos trivial];omega
structure zmt (p:List zm) (s v:List UInt8) (L:List zm):Prop where
 inc:zek (L.map (·.name))
 mem:∀ t∈L,t=zaw s v\/t∈p
 val:∀ x,yd L x=if x=s then (zj v).getD 0 else yd p x
 len:L.length<=p.length+1
theorem zdz (hp:Zr p):zmt p s v (yE p s v):=by
 have h:=zmg (s:=s) (v:=v) hp p.length (uA)
 unfold yE
 generalize Z5 p s v p.length=st at*
 obtain ⟨L,d⟩:=st
 have h:zde p s v p.length L d:=h
 have hi:=h.inc
 have b:=h.mem
 have e:=h.val
 have l:=h.len
 rw [List.take_length] at b e
 show zmt p s v (if d=false then L ++ [zaw s v] else L)
 cases d with
 | true=>
   rw [if_neg (by decide)];refine ⟨hi,fun t ht=>(b t ht).imp And.right id,fun x=>?_,by rw [if_pos rfl] at l;exact l⟩;rw [e x,if_pos rfl]
 | false=>
   rw [if_pos rfl];have j:=h.lo rfl;rw [List.take_length] at j;have m:∀ w∈L,w∈p:=fun w hw=>(b w hw).resolve_left (fun h=>by cases h.1)
   refine ⟨Xl hi (fun w hw=>j w (m w hw)),fun t ht=>?_,fun x=>?_,?_⟩
   . rcases List.mem_append.1 ht with h | h
     . exact .inr (m t h)
     . exact .inl (List.mem_singleton.1 h)
   . rw [ZU (fun w hw h=>by have r:=j w (m w hw);rw [h] at r;exact yz _ r),e x]
     by_cases ex:x=s
     . rw [if_pos ex,if_pos ex,if_neg (by decide),if_pos (show (zaw s v).name=x from ex.symm),Rat.zero_add];rfl
     rw [if_neg ex,if_neg ex,if_neg (show ¬ (zaw s v).name=x from fun h=>ex h.symm),Rat.add_zero]
   . rw [List.length_append,List.length_singleton]
     rw [if_neg (by decide)] at l
     omega
theorem zi0 (hp:Zr p) {q:Rat} (hq:zj v=some q):zgz p s q (yE p s v):=⟨fun x=>by rw [(zdz hp).val x,hq];rfl⟩
theorem zb9 {l:List zm} (h:zek (l.map (·.name))) {i:Nat} (hi:i<l.length):yH (l.getD (i - 1) default).name (l.getD i default).name (decide (i=0))=0:=by
 unfold yH
 refine if_pos ?_
 rcases uN i with b | b
 . exact .inl (by rw [b];rfl)
 . refine .inr ?_
   unfold zek at h;rw [List.pairwise_iff_getElem] at h;have:=h (i - 1) i (by rw [List.length_map];omega) (by rw [List.length_map];exact hi) (by omega);rw [List.getElem_map,List.getElem_map] at this;rw [show l.getD i default=l[i] by simp [List.getD,List.getElem?_eq_getElem hi],show l.getD (i - 1) default=l[i - 1]'(by omega) by simp [List.getD,List.getElem?_eq_getElem (show i - 1<l.length by omega)]];exact this
theorem zj0 {l:List zm} (h:zek (l.map (·.name))) (ht:∀ t∈l,vr t.name=true/\(zj t.coef).isSome=true):yb l=0:=by
 refine ys.2 fun i hi=>?_
 have e:=xGD (d:=default) hi
 obtain ⟨b,j⟩:=ht _ (uO hi)
 unfold YZ
 rw [zb9 h hi,e,b,j]
 rfl
theorem zk2 {l:List zm} (h:zek (l.map (·.name))) (ht:∀ t∈l,vr t.name=true/\xF t.coef=0):ya l=0:=by
 refine ys.2 fun i hi=>?_
 have e:=xGD (d:=default) hi
 obtain ⟨b,j⟩:=ht _ (uO hi)
 unfold xT
 rw [zb9 h hi,e,b,j]
 rfl
theorem zkw {l:List zm} (h:yb l=0) {t:zm} (ht:t∈l):vr t.name=true/\(zj t.coef).isSome=true:=by
 obtain ⟨i,hi,rfl⟩:=List.mem_iff_getElem.1 ht
 have:=ys.1 h i hi
 have e:=xGD (d:=default) hi
 unfold YZ at this
 rw [e] at this
 split at this
 . cases this
 rename_i b
 split at this
 . cases this
 rename_i j
 exact ⟨by simpa using b,Bool.of_not_eq_false j⟩
theorem zbl {l:List zm} (h:ya l=0) {t:zm} (ht:t∈l):vr t.name=true/\xF t.coef=0:=by
 obtain ⟨i,hi,rfl⟩:=List.mem_iff_getElem.1 ht
 have:=ys.1 h i hi
 have e:=xGD (d:=default) hi
 unfold xT at this
 rw [e] at this
 split at this
 . cases this
 rename_i j
 split at this
 . rename_i b;exact absurd this b
 rename_i b
 exact ⟨by simpa using j,by simpa using b⟩
theorem zi4 (hp:yb p=0) (hs:vr s=true) (hv:(zj v).isSome=true):yb (yE p s v)=0:=by
 have h:=zdz (s:=s) (v:=v) (Zr.of hp)
 refine zj0 h.inc fun t ht=>?_
 rcases h.mem t ht with rfl | b
 . exact ⟨hs,hv⟩
 . exact zkw hp b
end
section
variable {rows:List zF} {s:List UInt8} {p q:zF}
theorem XS (h:zY rows=0) {r:zF} (hr:r∈rows):yN r=0:=by
 obtain ⟨k,e,rfl⟩:=zd3 hr
 unfold zY at h
 split at h
 . cases h
 split at h
 . rename_i b;exact absurd h b
 rename_i b
 exact ys.1 (by simpa using b) k e
theorem zln (h1:rows.length<=800) (h2:∀ r∈rows,yN r=0) (h3:(ye rows []).length<=80):zY rows=0:=by
 unfold zY
 have b:xq rows.length (fun i=>yN (rows.getD i default))=0:=ys.2 (fun i hi=>h2 _ (Yk hi))
 rw [if_neg (by omega),b,if_neg (by decide),if_neg (by omega)]
theorem zjt (h:zY rows=0):(ye rows []).length<=80:=by
 unfold zY at h
 split at h
 . cases h
 split at h
 . rename_i b;exact absurd h b
 split at h
 . cases h
 omega
theorem zi3 (x:List UInt8):x∈ye rows []↔∃ r∈rows,∃ t∈r.terms,t.name=x:=by
 unfold ye
 rw [(yx _).2 x]
 unfold yt
 rw [List.nil_append,List.mem_flatMap]
 constructor
 . rintro ⟨l,m,u⟩
   obtain ⟨r,j,rfl⟩:=List.mem_map.1 m;obtain ⟨t,b,e⟩:=List.mem_map.1 u;exact ⟨r,j,t,b,e⟩
 rintro ⟨r,j,t,b,e⟩
 exact ⟨r.terms,List.mem_map.2 ⟨r,j,rfl⟩,List.mem_map.2 ⟨t,b,e⟩⟩
theorem vD.names (h:vD p q s) {t:zm} (ht:t∈(Z2 p q s).terms):(∃ u∈p.terms ++ q.terms,u.name=t.name)/\t.name∈zbd p q s/\t.coef=zu ((X4 p q s t.name).getD 0)/\(X4 p q s t.name).getD 0≠0/\Dz 100 ((X4 p q s t.name).getD 0):=by
 obtain ⟨x,j,rfl⟩:=List.mem_map.1 (show t∈yu (zbd p q s) (X4 p q s) from ht)
 have l:(X4 p q s x).isSome=true:=(List.mem_filter.1 (show x∈List.filter _ _ from j)).2
 have b:=(h.met_some x).1.1 l
 have e:=(h.met_some x).2 l
 refine ⟨List.mem_map.1 b.1,j,rfl,?_,?_⟩
 . show (X4 p q s x).getD 0≠0
   rw [e];exact b.2
 show Dz 100 ((X4 p q s x).getD 0)
 rw [e];exact h.cd x
theorem vD.err (h:vD p q s) (hp:yN p=0) (hq:yN q=0) (hm:YI p q s=true):yN (Z2 p q s)=0:=by
 unfold YI Zz at hm
 rw [Bool.and_eq_true,decide_eq_true_eq,decide_eq_true_eq] at hm
 have j:ya (Z2 p q s).terms=0:=by
  refine zk2 ?_ fun t j=>?_
  . have e:(Z2 p q s).terms.map (·.name)=zbd p q s:=by
     show (yu (zbd p q s) (X4 p q s)).map (·.name)=_
     unfold yu;rw [List.map_map];exact (List.map_congr_left (fun x _=>rfl)).trans (List.map_id _)
    rw [e];unfold zbd;exact (yx _).1.sublist List.filter_sublist
  obtain ⟨⟨u,hu,l⟩,y,r,m,hd⟩:=h.names j
  refine ⟨?_,?_⟩
  . rw [<- l]
    rcases List.mem_append.1 hu with b | b
    . exact (zbl (Xc hp).1 b).1
    . exact (zbl (Xc hq).1 b).1
  rw [r]
  unfold xF;rw [(XW (x:=[]) hd).1]
  show (if _ then _ else _)=_
  rw [if_neg m,if_pos (hm.1 _ y)]
 have hb:xt (Z2 p q s).bound=0:=by
  show xt (zu (Vq [p,q] (yS p q s) 2))=0
  unfold xt
  rw [(XW (x:=[]) h.bd).1]
  exact if_pos hm.2
 unfold yN
 rw [j,if_neg (by decide),hb]
theorem Xu (h:Zj rows s=0):zY rows=0/\0<(upQ s rows).length+(dnQ s rows).length/\(XE s rows).length+(upQ s rows).length*(dnQ s rows).length<=800/\∀ p∈upQ s rows,∀ q∈dnQ s rows,YI p q s=true:=by
 unfold Zj at h
 split at h
 . rename_i b;exact absurd h b
 rename_i b
 split at h
 . cases h
 split at h
 . cases h
 split at h
 rotate_left
 . cases h
 rename_i e
 refine ⟨by simpa using b,by omega,by omega,fun p hp q hq=>?_⟩;exact List.all_eq_true.1 e (p,q) (List.mem_flatMap.2 ⟨p,hp,List.mem_map.2 ⟨q,hq,rfl⟩⟩)
theorem VI {r:zF} (hr:r∈yi rows s):r∈rows\/∃ p∈upQ s rows,∃ q∈dnQ s rows,r=Z2 p q s:=by
 unfold yi at hr
 rcases List.mem_append.1 hr with h | h
 . exact .inl (List.mem_filter.1 h).1
 . obtain ⟨x,j,rfl⟩:=List.mem_map.1 h
   obtain ⟨p,b,l⟩:=List.mem_flatMap.1 j;obtain ⟨q,e,rfl⟩:=List.mem_map.1 l;exact .inr ⟨p,b,q,e,rfl⟩
theorem zo5 (h:Zj rows s=0):zY (yi rows s)=0:=by
 obtain ⟨j,_,C,D⟩:=Xu h
 refine zln ?_ (fun r m=>?_) ?_
 . unfold yi
   rw [List.length_append,List.length_map,zli];exact C
 . rcases VI m with l | ⟨p,b,q,e,rfl⟩
   . exact XS j l
   . exact (Y9 j b e).err (XS j (YX b).1) (XS j (YY e).1) (D p b q e)
 . refine uC (zak (VG (yx _).1) (fun x hx=>?_)) (zjt j)
   obtain ⟨r,m,t,z,rfl⟩:=(zi3 x).1 hx
   rcases VI m with l | ⟨p,b,q,e,rfl⟩
   . exact (zi3 _).2 ⟨r,l,t,z,rfl⟩
   . obtain ⟨⟨u,hu,B⟩,_⟩:=(Y9 j b e).names z
     rw [<- B]
     rcases List.mem_append.1 hu with y | y
     . exact (zi3 _).2 ⟨p,(YX b).1,u,y,rfl⟩
     . exact (zi3 _).2 ⟨q,(YY e).1,u,y,rfl⟩
theorem zgq (h:Zj rows s=0):vr s=true:=by
 obtain ⟨m,y,_⟩:=Xu h
 have:∃ r∈rows,yd r.terms s≠0:=by
  rcases uN (upQ s rows).length with j | j
  . obtain ⟨r,b⟩:=List.exists_mem_of_length_pos (show 0<(dnQ s rows).length by omega)
    exact ⟨r,(YY b).1,fun e=>by have:=(YY b).2;rw [e] at this;exact Rat.lt_irrefl this⟩
  . obtain ⟨r,b⟩:=List.exists_mem_of_length_pos j
    exact ⟨r,(YX b).1,fun e=>by have:=(YX b).2;rw [e] at this;exact Rat.lt_irrefl this⟩
 obtain ⟨r,b,l⟩:=this
 have:s∈r.terms.map (·.name):=Classical.byContradiction fun hn=>l (zax hn)
 obtain ⟨t,u,rfl⟩:=List.mem_map.1 this
 exact (zbl (Xc (XS m b)).1 u).1
end
open Go.Deep
section
variable {rows:List zF} {s:List UInt8} {p:List zm} {r:zF}
theorem zbz (hg:Zf r) {t:zm} (ht:t∈r.terms):zj t.coef=some (ZY t)/\Dz 12 (ZY t):=by
 obtain ⟨q,b,_,j⟩:=hg.coef t ht
 have e:ZY t=q:=by unfold ZY;rw [b];rfl
 rw [e];exact ⟨b,j.sz⟩
theorem zbv {l:List UInt8} {q:Rat} (h:zj l=some q):str l= .string (txt q):=by rw [(yR.1 h).1];rfl
theorem zq9 {pt:List zm} {M:Nat} (hM:∀ x,Dz M (yd pt x)) (hg:Zf r):∀ k,k<=r.terms.length->Dz (k*(M+13)+1) (zae pt r.terms k)
 | 0,_=>Dz.zero _
 | k+1,b=>by
   have b:k<r.terms.length:=b;have e:=xGD (d:=default) b;unfold zae;exact Dz.add (zq9 hM hg k (by omega)) (Dz.mul (by rw [e];exact (zbz hg (uO b)).2) (hM _) (uA)) (by rw [Nat.add_mul];omega)
theorem zuz {pt:List zm} (hM:∀ x,Dz 1000 (yd pt x)) (hg:Zf r) (hl:r.terms.length<=40):Dz 40521 (zbh pt r):=(zq9 hM hg _ (uA)).more (by omega)
theorem V9 {pt:List zm} (hg:Zf r) {M:Nat} (h1:M<=60000) (hl:r.terms.length<=80) (hp:Zr pt) (hM:∀ x,Dz M (yd pt x)):zfe pt r where
 sum:={
  few:=by omega
  coef:=fun k hk=>by
   have e:=xGD (d:=default) hk;rw [e];obtain ⟨b,j⟩:=zbz hg (uO hk);exact ⟨_,b,j.more (by omega)⟩
  pt:=hp
  val:=⟨M,h1,uC (Nat.mul_le_mul hl (show M+8001<=68001 by omega)) (by omega),hM⟩ }
 bnd:=⟨_,(xG hg).1,Dz.more (xG hg).2.sz (by omega)⟩
theorem XQ (hs:xJ rows) (h0:zY rows=0) (hr:r∈rows):r.terms.length<=40:=by
 have e:=xH (fun r:zF=>r.terms.length) rows r hr
 have b:=(hs.2.2.2.2 (Zi h0).1).1
 unfold yT at b
 omega
theorem vD.few {p q:zF} (h:vD p q s):(Z2 p q s).terms.length<=p.terms.length+q.terms.length:=by
 show ((zbd p q s).map _).length<=_
 rw [List.length_map]
 unfold zbd
 refine uC (List.length_filter_le _ _) (uC (Yl _) ?_)
 rw [List.length_map,List.length_append]
 exact uA
theorem zpg (hs:xJ rows) (h0:zY rows=0) (hr:r∈yi rows s):r.terms.length<=80:=by
 rcases VI hr with h | ⟨p,b,q,e,rfl⟩
 . have:=XQ hs h0 h;omega
 . have l:=XQ hs h0 (YX b).1
   have j:=XQ hs h0 (YY e).1;have m:=(Y9 h0 b e).few
   omega
theorem zau {pt:List zm}:Yf rows.length (Xh pt rows)<0↔∀ r∈rows,Xw pt r:=by
 unfold Yf
 cases h:(List.range rows.length).find? (Xh pt rows) with
 | none=>
   refine ⟨fun _ r hr=>?_,fun _=>by show (-1:Int)<0;decide⟩;obtain ⟨k,j,rfl⟩:=zd3 hr;have:=List.find?_eq_none.1 h k (by simpa using j);exact ziz.1 (by simpa [Xh] using this)
 | some k=>
   refine ⟨fun b=>?_,fun b=>?_⟩
   . have b:(k:Int)<0:=b;omega
   have e:=List.find?_some h
   have l:k<rows.length:=by simpa using List.mem_of_find?_eq_some h
   have:=ziz.2 (b _ (Yk l));unfold Xh at e;rw [this] at e;cases e
theorem zpj {l:List zm} (hn:(l.map (·.name)).Nodup) {k:Nat} (hk:k<l.length):yd (l.take (k+1)) s=if l[k].name=s then ZY l[k] else yd (l.take k) s:=by
 rw [zb5 hn hk]
 by_cases e:l[k].name=s
 rotate_left
 . rw [if_neg e,if_neg e,Rat.add_zero]
 rw [if_pos e,if_pos e,zax,Rat.zero_add]
 intro j;have m:l.take (k+1)=l.take k ++ [l[k]]:=by rw [List.take_add_one,List.getElem?_eq_getElem hk];rfl
 have b:((l.take (k+1)).map (·.name)).Nodup:=hn.sublist ((List.take_sublist _ _).map _);rw [m,List.map_append,List.nodup_append] at b;exact b.2.2 s j s (by simp [e]) rfl
structure Yd (rows:List zF) (p:List zm) (s:List UInt8):Prop where
 small:xJ rows
 e0:Zj rows s=0
 pe:yb p=0
 pl:p.length<=70
 pb:zV p<=1000
 keep:∀ r∈yi rows s,Xw p r
theorem Yd.r0 (h:Yd rows p s):zY rows=0:=(Xu h.e0).1
theorem Yd.good (h:Yd rows p s) {i:Nat} (hi:i<rows.length):Zf (rows.getD i default):=(Zi h.r0).2 _ (Yk hi)
theorem Yd.few (h:Yd rows p s) {i:Nat} (hi:i<rows.length):(rows.getD i default).terms.length<=40:=XQ h.small h.r0 (Yk hi)
theorem Yd.zero (h:Yd rows p s):zgz p s 0 (yE p s [48]):=zi0 (Zr.of h.pe) zgh
theorem Yd.qz (h:Yd rows p s):yb (yE p s [48])=0:=zi4 h.pe (zgq h.e0) (by rw [zgh];rfl)
theorem Yd.qd (h:Yd rows p s) (x:List UInt8):Dz 1000 (yd (yE p s [48]) x):=by
 rw [h.zero.at_ x]
 by_cases e:x=s
 . rw [if_pos e];exact Dz.zero _
 rw [if_neg e];exact zd8 h.pb x
theorem Yd.say (h:Yd rows p s) {i:Nat} (hi:i<rows.length):Dz 40521 (zbh (yE p s [48]) (rows.getD i default)):=zuz h.qd (h.good hi) (h.few hi)
theorem Yd.rest (h:Yd rows p s) {i:Nat} (hi:i<rows.length):Dz 40534 (vV (rows.getD i default) - zbh (yE p s [48]) (rows.getD i default)):=Dz.sub (xG (h.good hi)).2.sz (h.say hi) (by omega)
theorem Yd.ratio (h:Yd rows p s) {i:Nat} (hi:i<rows.length) (h0:yd (rows.getD i default).terms s≠0):Dz 40546 (vK (yE p s [48]) s (rows.getD i default)):=Dz.more (zi5 (h.rest hi) (Z9 (h.good hi) s) h0) (by omega)
theorem Yd.low (h:Yd rows p s) {k:Nat} (hk:k<=rows.length) {m:Rat} (hm:(fmN (yE p s [48]) s rows k).1=some m):Dz 40546 m:=by
 obtain ⟨j,l,b,rfl⟩:=(zqj k).1.is m hm
 exact h.ratio (by omega) (fun e=>by rw [e] at b;exact Rat.lt_irrefl b)
theorem Yd.high (h:Yd rows p s) {k:Nat} (hk:k<=rows.length) {m:Rat} (hm:(fmN (yE p s [48]) s rows k).2=some m):Dz 40546 m:=by
 obtain ⟨j,l,b,rfl⟩:=(zqj k).2.is m hm
 exact h.ratio (by omega) (fun e=>by rw [e] at b;exact Rat.lt_irrefl b)
theorem Yd.take (h:Yd rows p s):Dz 40546 (X7 (fmN (yE p s [48]) s rows rows.length)):=by
 unfold X7
 cases e1:(fmN (yE p s [48]) s rows rows.length).1 with
 | some m=>exact h.low (uA) e1
 | none=>
   cases e2:(fmN (yE p s [48]) s rows rows.length).2 with
   | some m=>exact h.high (uA) e2
   | none=>exact Dz.zero _
def shT (rows:List zF) (p:List zm) (s:List UInt8):List UInt8:=zu (X7 (fmN (yE p s [48]) s rows rows.length))
theorem Yd.read (h:Yd rows p s):zj (shT rows p s)=some (X7 (fmN (yE p s [48]) s rows rows.length)):=yO (h.take.short (by omega))
theorem Yd.set (h:Yd rows p s):zgz p s (X7 (fmN (yE p s [48]) s rows rows.length)) (yE p s (shT rows p s)):=zi0 (Zr.of h.pe) h.read
theorem Yd.uz (h:Yd rows p s):yb (yE p s (shT rows p s))=0:=zi4 h.pe (zgq h.e0) (by rw [h.read];rfl)
theorem Yd.ud (h:Yd rows p s) (x:List UInt8):Dz 40546 (yd (yE p s (shT rows p s)) x):=by
 rw [h.set.at_ x]
 by_cases e:x=s
 . rw [if_pos e];exact h.take
 rw [if_neg e];exact (zd8 h.pb x).more (by omega)
theorem Yd.usm (h:Yd rows p s):∀ k,k<rows.length->zfe (yE p s (shT rows p s)) (rows.getD k default):=fun k hk=>V9 (h.good hk) (show 40546<=60000 by omega) (by have:=h.few hk;omega) (Zr.of h.uz) h.ud
theorem Yd.last (h:Yd rows p s):Yc rows (yE p s (shT rows p s))=(-1,0):=by
 have b:=zau.2 (zko h.r0 h.zero h.set h.keep)
 have e:Yf rows.length (Xh (yE p s (shT rows p s)) rows)= -1:=by
  unfold Yf at b |-
  cases hf:(List.range rows.length).find? (Xh (yE p s (shT rows p s)) rows) with
  | none=>rfl
  | some k=>rw [hf] at b;have b:(k:Int)<0:=b;omega
 unfold Yc
 rw [if_neg (by rw [h.r0];decide),if_neg (by rw [h.uz];decide),e]
theorem zqh (q:Rat) {e:Nat} (h:Dz e q) (he:e<50000):zB (zu q):=by
 have:=Yi (h.short he)
 rw [<- zq,ZA] at this
 exact this
def zts:Option Rat->ByteArray
 | none=>⟨#[]⟩
 | some q=>txt q
theorem zbq (o:Option Rat):((zts o).toList == [])=o.isNone:=by
 cases o with
 | none=>rw [Lib.toList_data];rfl
 | some q=>
   refine Bool.eq_false_iff.2 fun h=>?_
   have e:bts (txt q)=[]:=by
    have:=eq_of_beq h
    rwa [Lib.toList_data] at this
   rw [ZA] at e;have b:(zu q).length=0:=by rw [e];rfl
   unfold zu at b;rw [List.length_append,List.length_append] at b;have:=zc0 q.num.natAbs
   omega
theorem zrx (c:Rat):((txt c).toList == [48])=decide (c=0):=by
 rw [Xo]
 refine decide_eq_decide.2 ⟨fun h=>?_,fun h=>?_⟩
 rotate_left
 . rw [h, <- Xr];rfl
 have b:bts (txt c)=bts (txt 0):=by rw [h, <- Xr];rfl
 rw [ZA,ZA] at b;exact zfa b
end
def ztq (w:World) (v:Rat) (o:Option Rat) (e:Ending) (w' :World):Prop:=∃ n z:Int,e= .returned (.tuple #[.int .i64 n,.int .i64 z])/\Below w.heap.size w w' /\∀ m,o=some m->n=Y7 v m
theorem zqr (v:Rat) (o:Option Rat) (hv:Dz 40546 v) (ho:∀ m,o=some m->Dz 40546 m) (w:World):Calls prog 13 #[.string (txt v),.string (zts o)] w (ztq w v o):=by
 cases o with
 | some m=>
   refine (zl5 v m hv (ho m rfl) (by omega) (by omega) w).mono ?_;rintro e w' ⟨rfl,hb⟩;exact ⟨_,_,rfl,hb,fun m2 e=>by injection e with e;rw [e]⟩
 | none=>
   refine (znn (txt v) ⟨#[]⟩ w (Yi (hv.s (by omega))) (by decide)).mono ?_;rintro e w' ⟨rfl,hb⟩;exact ⟨_,_,rfl,hb,fun m2 e=>by cases e⟩
section
variable {rows:List zF} {s:List UInt8} {p:List zm}
theorem Yd.csum (h:Yd rows p s) {i:Nat} (hi:i<rows.length) (A AP:Option Addr) (n c np cp:Nat) (w:World) (ht:zZ w (.slice A n c) (rows.getD i default).terms) (hq:zZ w (.slice AP np cp) (yE p s [48])):
 Calls prog 10 #[.slice A n c,.slice AP np cp] w (zmk w (txt (zbh (yE p s [48]) (rows.getD i default)))):=by
 have b:=znp A AP n c np cp (rows.getD i default).terms (yE p s [48]) w ht hq (fun _ _=>(V9 (h.good hi) (show 1000<=60000 by omega) (by have:=h.few hi;omega) (Zr.of h.qz) h.qd).sum)
 have e:zec (rows.getD i default).terms (yE p s [48])=(zu (zbh (yE p s [48]) (rows.getD i default)),0):=by
  unfold zec
  rw [if_neg (by rw [(Xc (XS h.r0 (Yk hi))).1];decide),if_neg (by rw [h.qz];decide)]
  exact Vt ((h.say hi).short (by omega))
 rw [e] at b
 exact b
theorem Yd.csub (h:Yd rows p s) {i:Nat} (hi:i<rows.length) (w:World):
 Calls prog 11 #[.string (txt (vV (rows.getD i default))),.string (txt (zbh (yE p s [48]) (rows.getD i default)))] w (zmk w (txt (vV (rows.getD i default) - zbh (yE p s [48]) (rows.getD i default)))):=
 zsk _ _ _ (xG (h.good hi)).2.sz (h.say hi) rfl (by omega) w
theorem Yd.cdiv (h:Yd rows p s) {i:Nat} (hi:i<rows.length) (h0:yd (rows.getD i default).terms s≠0) (w:World):
 Calls prog 12 #[.string (txt (vV (rows.getD i default) - zbh (yE p s [48]) (rows.getD i default))),.string (txt (yd (rows.getD i default).terms s))] w (zmk w (txt (vK (yE p s [48]) s (rows.getD i default)))):=
 zrg _ _ _ (h.rest hi) (Z9 (h.good hi) s) h0 rfl (h.ratio hi h0) (by omega) (by omega) (by omega) w
theorem Yd.cup (h:Yd rows p s) {i:Nat} (hi:i<rows.length) (w:World):
 Calls prog 13 #[.string (txt (yd (rows.getD i default).terms s)),.string ⟨#[48]⟩] w (zt3 w (Y7 (yd (rows.getD i default).terms s) 0)):=by
 rw [Xr]
 exact zl5 _ _ (Z9 (h.good hi) s) (Dz.zero 1) (by omega) (by omega) w
end
attribute [local go_sem ↓] Go.wp_at_zero Go.wp_at_succ
theorem zn0:(prog.info? 45).map (fun i=>(i.zero,i.size,i.bytes))=some (some (.agg #[.string ⟨#[]⟩,.string ⟨#[]⟩]),2,32):=by kernel_rfl
def zqq (w:World) (base:Nat) (v:Value) (L:List zm):Prop:=w.ownsRow base 45 2 v L.length (yG L.length (vw L) (vq L))
theorem zfj (L:List zm) (t:zm):yG (L ++ [t]).length (vw (L ++ [t])) (vq (L ++ [t]))=yG L.length (vw L) (vq L) ++ [str t.name,str t.coef]:=by
 rw [List.length_append,List.length_singleton,xX]
 congr 1
 . exact Yg (fun k hk=>⟨by unfold vw;simp [List.getD,List.getElem?_append_left hk],by unfold vq;simp [List.getD,List.getElem?_append_left hk]⟩)
 unfold vw vq;simp [List.getD]
theorem ztd {w:World} {base:Nat} {v:Value} {L:List zm} (h:zqq w base v L):∀ k,v.ownBlock=some k->base<=k:=by
 intro k b
 rcases h.2 with ⟨rfl,_⟩ | ⟨g,j,e,rfl,hb,_⟩
 . simp [Value.ownBlock] at b
 . simp [Value.ownBlock] at b
   omega
theorem XZ {w0 w:World} {ops:Array Oper} {rest:List Oper} {o:Oper} {a:Act} {Q:Exit->Act->World->Prop} (hgd:o.guard=none) (s x:Operand)
 (ho:o.op= .call { callee:=.builtin .append,args:=#[s,x],argTypes:=#[23,23] }) (v:Value) (L:List zm) (t:zm) (hs:a.eval s=v) (hown:zqq w w0.heap.size v L) (hL:L.length<=1000) (hB:Below w0.heap.size w0 w)
 (hx:a.eval x= .slice (some ⟨w.heap.size,0,none⟩) 1 1)
 (h:∀ v' w',zqq w' w0.heap.size v' (L ++ [t])->Below w0.heap.size w0 w' ->wpList prog ops Q rest (a.put o.dst v') w'):wpList prog ops Q (o :: rest) a (w.alloc (.cells #[str t.name,str t.coef] 45)):=by
 obtain ⟨l,B,u,y,j⟩:=info_parts zn0
 have b:=zf w (.cells #[str t.name,str t.coef] 45)
 have r:(w.alloc (.cells #[str t.name,str t.coef] 45)).ownsRow w0.heap.size 45 2 v L.length (yG L.length (vw L) (vq L)):=zgk hown b
 have e:=ztd hown
 refine xI _ hgd s x _ ho w0.heap.size 45 l _ 2 32 underlying23 B u y j rfl (by omega) v L.length _ hs r (w.heap.size+1) (some ⟨w.heap.size,0,none⟩) 1 1 [str t.name,str t.coef] hx ⟨rfl,fun _=>⟨_,rfl,Nat.lt_succ_self _,Z3⟩⟩ (xh rfl rfl) (by unfold maxLen;omega) (by omega) (by have:=hB.size;simp;omega) ?_
 intro v3 w3 z m _
 refine h v3 w3 ?_ ((ext hB b).grown m (ext hB b).size (fun k hk=>by have:=e k hk;omega))
 unfold zqq
 rw [zfj,List.length_append,List.length_singleton]
 exact z
theorem Vi {w:World} {base:Nat} {v:Value} {L:List zm} (h:zqq w base v L) (hl:L.length<=100000) (ht:∀ x∈L,zB x.name/\zB x.coef):zi w w.heap.size v L:=by
 rcases h.2 with ⟨rfl,m⟩ | ⟨g,l,r,rfl,hb,z,j,b,y,u⟩
 . have e:L=[]:=List.length_eq_zero_iff.1 m
   subst e;exact ⟨none,0,rfl,uA,by unfold maxLen;omega,by simp,ym.none_,ht⟩
 . exact ⟨some ⟨g,0,none⟩,l,rfl,j,b,hl,ym.of_own h,ht⟩
theorem zcm (p:List zm) (s v:List UInt8):∀ k,(Z5 p s v k).1.length<=2*k
 | 0=>uB
 | k+1=>by
   have b:=zcm p s v k;unfold Z5 zg0
   split<;>split<;>simp only [List.length_append,List.length_singleton]<;>omega
def WitR (w0:World) (p:List zm) (s v:List UInt8) (ov dv iv:Value) (wr:World):Prop:=
 ∃ k:Nat,k<=p.length/\iv= .int .i64 k/\dv= .bool (Z5 p s v k).2/\Hid (zqq wr w0.heap.size ov (Z5 p s v k).1)/\Hid (Below w0.heap.size w0 wr)
def zlx (w:World) (L:List zm) (e:Ending) (w' :World):Prop:=∃ A c,e= .returned (.slice A L.length c)/\zZ w' (.slice A L.length c) L/\Below w.heap.size w w'
theorem zfq {w:World} {base:Nat} {v:Value} {L:List zm} (h:zqq w base v L):∃ A c,v= .slice A L.length c:=by
 rcases h.2 with ⟨rfl,b⟩ | ⟨g,j,e,rfl,_⟩
 . exact ⟨none,0,by rw [b]⟩
 . exact ⟨_,_,rfl⟩
set_option maxRecDepth 100000 in
theorem zjn (A:Option Addr) (n c:Nat) (p:List zm) (s v:List UInt8) (w:World) (C:zZ w (.slice A n c) p) (hl:p.length<=70) (hg:Zr p) (hs:zB s) (hv:zB v):
 Calls prog 9 #[.slice A n c,str s,str v] w (zlx w (yE p s v)):=by
 obtain rfl:=C.len
 have aa:=zdz (s:=s) (v:=v) hg
 have ao:∀ t∈p,zB t.name/\zB t.coef:=by obtain ⟨_,_,_,_,_,_,_,h⟩:=id C;exact h
 have ah:∀ t∈yE p s v,zB t.name/\zB t.coef:=fun t h=>by
  rcases aa.mem t h with rfl | h
  . exact ⟨hs,hv⟩
  . exact ao t h
 have an:(yE p s v).length<=100000:=by have:=aa.len;omega
 obtain ⟨HT,HS,HL⟩:=hz3 C ah an
 have am:Hid (zqq w w.heap.size (.slice none 0 0) (Z5 p s v 0).1):=World.ownsRow_nil w _ _ _
 have ac:Hid (Below w.heap.size w w):=Below.refl _ _
 clear C hg hs hv aa ao ah an
 go_in
 go_wp2
 go_loopw [7,8,9] (WitR w p s v) (fun _ _ iv _=>p.length - (intOf iv).toNat)
 case atStart=>exact ⟨0,uB,rfl,rfl,am,ac⟩
 case round=>
  clear am ac
  obtain ⟨k,hk,rfl,rfl,y,m⟩:=hrel
  by_cases ae:k<p.length
  rotate_left
  . obtain rfl:k=p.length:=by omega
    have E:=zcm p s v p.length;have Z:Hid (yE p s v=if (Z5 p s v p.length).2=false then (Z5 p s v p.length).1 ++ [zaw s v] else (Z5 p s v p.length).1):=ze rfl;generalize Z5 p s v p.length=st at y E Z |-;obtain ⟨L,d⟩:=st;have hL:L.length<=140:=by have:L.length<=2*p.length:=E;omega
    cases d with
    | true=>
      have HP:Hid (yE p s v=L):=by rw [Z.o];exact if_neg (fun h=>by cases h)
      go_wp2;go_ret;have G:=y.o;obtain ⟨Y,c1,rfl⟩:=zfq G;have F:=HL.o;have I:=HS.o;rw [HP.o] at F I |-;exact ⟨Y,c1,rfl,Vi G F I,m.o⟩
    | false=>
      have HP:Hid (yE p s v=L ++ [zaw s v]):=by rw [Z.o,if_pos rfl];exact rfl
      go_wp2_with (at_builtin;go_must (refine XZ (w0:=w) rfl (.tmp 49) (.tmp 53) rfl _ L (zaw s v) rfl y.o ?o1 m.o rfl ?_))
      case o1=>omega
      intro v4 w4 r z;have J:=ze r;have K:=ze z;clear r z;go_wp2;go_ret;have G:=J.o;obtain ⟨Y,c1,rfl⟩:=zfq G;have F:=HL.o;have I:=HS.o;rw [HP.o] at F I |-;exact ⟨Y,c1,rfl,Vi G F I,K.o⟩
  have aq:(k:Int)<(p.length:Int):=by omega
  have hd:=xGD (d:=default) ae;have O:Z5 p s v (k+1)=zg0 s v p[k] (Z5 p s v k):=by rw [<- hd];rfl
  have E:=zcm p s v k;obtain ⟨S,eA,al,l,B,-,-⟩:=(zi.below HT.o m.o).at_ ae;subst eA;have N:=ZO p[k].name s;have M:(p[k].name == s)=decide (p[k].name=s):=by by_cases h:p[k].name=s<;>simp [h]
  generalize C:p[k]=t at O l B N M;generalize Z5 p s v k=st at O y E |-;obtain ⟨L,d⟩:=st;have U:=ze O;have hL:L.length<=140:=by have:L.length<=2*k:=E;omega
  clear O hd C E;have V:=ze l;have ap:=ze B;have ai:Hid ((S.add (k*2)).block<w.heap.size):=by show (S.add (k*2)).block<_;rw [zG];exact al
  clear l B al
  by_cases T:d=false/\¬ t.name<s
  . obtain ⟨rfl,D⟩:=T
    rw [uF D] at N;have l:=V.o;go_wp2_with (at_builtin;go_must (refine XZ (w0:=w) rfl (.tmp 27) (.tmp 31) rfl _ L (zaw s v) rfl y.o ?o1 m.o rfl ?_))
    case o1=>omega
    intro v3 w3 af ab;have aj:=ze af;have ag:=ze ab
    have X:∀ a u,a.block<w.heap.size->wr.cell? a=some u->w3.cell? a=some u:=fun a u D b=>by
     rw [ab.cell D, <- m.o.cell D];exact b
    have l:=X _ _ ai.o V.o;have B:=X _ _ (show (⟨(S.add (k*2)).block,(S.add (k*2)).off+1,none⟩:Addr).block<w.heap.size from ai.o) ap.o;clear af ab X y m
    by_cases b:t.name=s
    . rw [uE b] at M
      have j:Z5 p s v (k+1)=(L ++ [zaw s v],true):=by rw [U.o];unfold zg0;rw [if_pos ⟨rfl,D⟩,if_pos b]
      have e:=ze j;clear j b;go_wp2;go_roundw
      case rel=>exact ⟨k+1,by omega,by go_num,by rw [e.o],by rw [e.o];exact aj,ag⟩
      case measure=>simp [intOf];omega
    rw [uF b] at M
    have j:Z5 p s v (k+1)=((L ++ [zaw s v]) ++ [t],true):=by rw [U.o];unfold zg0;rw [if_pos ⟨rfl,D⟩,if_neg b]
    have e:=ze j;clear j b;go_wp2_with (at_builtin;go_must (refine XZ (w0:=w) rfl (.tmp 40) (.tmp 45) rfl _ (L ++ [zaw s v]) t rfl aj.o ?o1 ag.o rfl ?_))
    case o1=>rw [List.length_append,List.length_singleton];omega
    intro v4 w4 r z;have J:=ze r;have K:=ze z;clear r z l B;go_wp2;go_roundw
    case rel=>exact ⟨k+1,by omega,by go_num,by rw [e.o],by rw [e.o];exact (by simpa using J),K⟩
    case measure=>simp [intOf];omega
  have ak:Z5 p s v (k+1)=(if t.name=s then L else L ++ [t],d):=by rw [U.o];unfold zg0;rw [if_neg T]
  have Q:=ze ak;have l:=V.o;have B:=ap.o;clear U ak
  have R:d=true\/(d=false/\Op.bytesLess t.name s=true):=by
   cases d with
   | true=>exact .inl rfl
   | false=>exact .inr ⟨rfl,by rw [N];exact uE (Classical.byContradiction fun h=>T ⟨rfl,h⟩)⟩
  clear N T
  by_cases b:t.name=s
  . rw [uE b] at M
    have j:Z5 p s v (k+1)=(L,d):=by rw [Q.o,if_pos b]
    have e:=ze j;clear j Q b
    rcases R with rfl | ⟨rfl,R⟩
    all_goals
     go_wp2;go_roundw
     case rel=>exact ⟨k+1,by omega,by go_num,by rw [e.o],by rw [e.o];exact y,m⟩
     case measure=>simp [intOf];omega
  rw [uF b] at M
  have j:Z5 p s v (k+1)=(L ++ [t],d):=by rw [Q.o,if_neg b]
  have e:=ze j;clear j Q b
  rcases R with rfl | ⟨rfl,R⟩
  all_goals
   go_wp2_with (at_builtin;go_must (refine XZ (w0:=w) rfl (.tmp 40) (.tmp 45) rfl _ L t rfl y.o ?o1 m.o rfl ?_))
   case o1=>omega
   intro v4 w4 r z;have J:=ze r;have K:=ze z;clear r z l B;go_wp2;go_roundw
   case rel=>exact ⟨k+1,by omega,by go_num,by rw [e.o],by rw [e.o];exact J,K⟩
   case measure=>simp [intOf];omega
def ShR (w0:World) (rows:List zF) (q:List zm) (s:List UInt8) (lv hv iv:Value) (wr:World):Prop:=
 ∃ k:Nat,k<=rows.length/\iv= .int .i64 k/\lv= .string (zts (fmN q s rows k).1)/\hv= .string (zts (fmN q s rows k).2)/\Hid (Below w0.heap.size w0 wr)
def ShI (w0:World) (l:List zm) (s:List UInt8) (cv kv:Value) (wr:World):Prop:=
 ∃ k:Nat,k<=l.length/\kv= .int .i64 k/\cv= .string (txt (yd (l.take k) s))/\∃ m,wr=w0.drewN m
theorem zrl {q:List zm} {s:List UInt8} {rows:List zF} {k:Nat} (h:yd (rows.getD k default).terms s=0):fmN q s rows (k+1)=fmN q s rows k:=by
 show zaa q s _ _=_
 unfold zaa;rw [if_pos h]
theorem zve {q:List zm} {s:List UInt8} {rows:List zF} {k:Nat} (h:0<yd (rows.getD k default).terms s):fmN q s rows (k+1)=((fmN q s rows k).1,some (zne (vK q s (rows.getD k default)) (fmN q s rows k).2)):=by
 show zaa q s _ _=_
 unfold zaa;rw [if_neg (fun e=>by rw [e] at h;exact Rat.lt_irrefl h),if_pos h]
theorem zvk {q:List zm} {s:List UInt8} {rows:List zF} {k:Nat} (h:yd (rows.getD k default).terms s<0):fmN q s rows (k+1)=(some (znj (vK q s (rows.getD k default)) (fmN q s rows k).1),(fmN q s rows k).2):=by
 show zaa q s _ _=_
 unfold zaa;rw [if_neg (fun e=>by rw [e] at h;exact Rat.lt_irrefl h),if_neg (Rat.not_lt.2 (Rat.le_of_lt h))]
theorem zp6 (x y:Rat):Y7 x y<0↔x<y:=by
 unfold Y7
 by_cases b:x<y
 . rw [if_pos b];exact ⟨fun _=>b,fun _=>by omega⟩
 rw [if_neg b]
 refine ⟨fun h=>?_,fun h=>absurd h b⟩
 split at h<;>omega
theorem ztc (x y:Rat):0<Y7 x y↔y<x:=by
 have:=zi2 x y
 exact ⟨fun h=>uG (this.symm.trans (uE h)),fun h=>uG (this.trans (uE h))⟩
theorem zqg {v:Rat} {o:Option Rat} {n:Int} (h:∀ m,o=some m->n=Y7 v m):((o.isNone=true\/(o.isNone=false/\n<0))/\zne v o=v)\/((o.isNone=false/\¬ n<0)/\some (zne v o)=o):=by
 cases o with
 | none=>exact .inl ⟨.inl rfl,rfl⟩
 | some m=>
   rw [h m rfl,zp6]
   by_cases b:v<m
   . exact .inl ⟨.inr ⟨rfl,b⟩,if_pos b⟩
   exact .inr ⟨⟨rfl,b⟩,congrArg some (if_neg b)⟩
theorem zpd {v:Rat} {o:Option Rat} {n:Int} (h:∀ m,o=some m->n=Y7 v m):((o.isNone=true\/(o.isNone=false/\0<n))/\znj v o=v)\/((o.isNone=false/\¬ 0<n)/\some (znj v o)=o):=by
 cases o with
 | none=>exact .inl ⟨.inl rfl,rfl⟩
 | some m=>
   rw [h m rfl,ztc]
   by_cases b:m<v
   . exact .inl ⟨.inr ⟨rfl,b⟩,if_pos b⟩
   exact .inr ⟨⟨rfl,b⟩,congrArg some (if_neg b)⟩
theorem zmn {w:World} {A:Option Addr} {c:Nat} {rows:List zF} (hr:yM w (.slice A rows.length c) rows) {k:Nat} (hk:k<rows.length) (hg:Zf (rows.getD k default)):
 ∃ b l j m,A=some b/\j=(rows.getD k default).terms.length/\∀ w',Below w.heap.size w w' ->w'.cell? (b.add (k*2))=some (.slice l j m)/\w'.cell? ⟨(b.add (k*2)).block,(b.add (k*2)).off+1,none⟩=some (.string (txt (vV (rows.getD k default))))/\zZ w' (.slice l j m) (rows.getD k default).terms:=by
 obtain ⟨b,l,j,m,y,r,p0,p1,u,-⟩:=hr.at_ hk
 have e:=xGD (d:=default) hk
 rw [e] at hg |-
 rw [zbv (xG hg).1] at p1
 refine ⟨b,l,j,m,y,u.len,fun w' hb=>⟨(hb.cell (by rw [zG];exact r)).trans p0,(hb.cell (by show (b.add (k*2)).block<_;rw [zG];exact r)).trans p1,(u.below hb).more hb.size⟩⟩
set_option maxRecDepth 100000 in
theorem zj5 (A:Option Addr) (n c:Nat) (rows:List zF) (A3:Option Addr) (n3 c3:Nat) (p:List zm) (s:List UInt8) (w:World) (hr:VC w w.heap.size (.slice A n c) rows) (hp:Zd w w.heap.size (.slice A3 n3 c3) p) (hs:s.length<=reachBytes):
 Calls prog 3 #[.slice A n c,.slice A3 n3 c3,str s] w (zij w (.bool true)):=by
 obtain rfl:=hr.len
 obtain rfl:=hp.len
 have hg:=znm A rows.length c rows w _ hr
 have br:(str s)= .string ⟨s.toArray⟩:=rfl
 obtain ⟨HG,HR,HP,bf⟩:=hz4 hg hr hp hs
 clear hg hr hp hs
 go_in
 go_wp2_with fail
 refine HG.o.mono ?_
 rintro e w1 ⟨g,rfl,⟨m,rfl⟩,aM⟩
 have l:Hid (Below w.heap.size w (w.drewN m)):=zt (vG w) m
 have G:=zk5 A3 p.length c3 w.heap.size p (w.drewN m) HP.o
 have H2:=ze G
 clear HG G
 cases g with
 | true=>
   clear aM HR HP H2;generalize w.drewN m=W at l |-;go_wp2_with fail;refine (ZT _).mono ?_;rintro e O ⟨rfl,y⟩;have I:=ze (ext l.o y);clear y;go_wp2;go_ret;exact ⟨rfl,I.o⟩
 | false=>
   have N:=ze (aM rfl);clear aM;go_wp2_with fail;refine H2.o.mono ?_;rintro e w1 ⟨g,rfl,⟨m2,rfl⟩,a0⟩;replace l:Hid (Below w.heap.size w ((w.drewN m).drewN m2)):=zt l.o m2;generalize (w.drewN m).drewN m2=W at l |-;clear H2
   cases g with
   | true=>
     clear a0 HR HP N;go_wp2_with fail;refine (ZT _).mono ?_;rintro e O ⟨rfl,y⟩;have I:=ze (ext l.o y);clear y;go_wp2;go_ret;exact ⟨rfl,I.o⟩
   | false=>
     have Q:=ze (a0 rfl);clear a0;have bz:=bf.o
     by_cases bq:(100:Int)<(s.length:Int)
     . clear HR HP N Q
       go_wp2_with fail;refine (ZT _).mono ?_;rintro e O ⟨rfl,y⟩;have I:=ze (ext l.o y);clear y;go_wp2;go_ret;exact ⟨rfl,I.o⟩
     have aK:=N.o.each
     have C:Hid (yM W (.slice A rows.length c) rows):=((HR.o.small aK.1 aK.2).below l.o).more l.o.size;have F:Hid (zZ W (.slice A3 p.length c3) p):=((HP.o.few Q.o.1 Q.o.2).below l.o).more l.o.size;have ak:Hid (rows.length<=800->(ye rows []).length<=100000):=fun _=>uC (zk4 rows) (uC N.o.names (by omega))
     have an:Hid (zB s):=by show s.length<=1073741824;omega
     clear aK HR HP bf;go_wp2_with fail;refine (zcn A rows.length c rows s W C.o ak.o (zrv N.o)).mono ?_;rintro e w1 ⟨v,rfl,aF,aG,ap⟩;have am:=ze ap;replace l:=eb_ l ap;clear ap;obtain ⟨z,T⟩:=uQ (Zj rows s);rw [<- T] at aF aG |-
     by_cases aN:z=0
     rotate_left
     . obtain rfl:=aG aN
       have bx:decide (z=0)=false:=uF aN;clear aF aG T C F ak N Q am an;go_wp2_with fail;refine (ZT _).mono ?_;rintro e O ⟨rfl,y⟩;have I:=ze (ext l.o y);clear y;go_wp2;go_ret;exact ⟨rfl,I.o⟩
     subst aN
     obtain ⟨hL,A1,c1,rfl⟩:=aF rfl;have aI:=ze hL;have aH:Hid (Zj rows s=0):=T.symm;clear aF aG T hL;replace C:Hid (yM w1 (.slice A rows.length c) rows):=(C.o.below am.o).more am.o.size;replace F:Hid (zZ w1 (.slice A3 p.length c3) p):=(F.o.below am.o).more am.o.size;clear am;have H0:Hid (zY rows=0):=(Xu aH.o).1;have aJ:Hid (zY (yi rows s)=0):=zo5 aH.o;have B:Yc rows p=(if yb p≠0 then (0,yb p) else (Yf rows.length (Xh p rows),0)):=by unfold Yc;rw [if_neg (by rw [H0.o];decide)]
     have D:Yc (yi rows s) p=(if yb p≠0 then (0,yb p) else (Yf (yi rows s).length (Xh p (yi rows s)),0)):=by unfold Yc;rw [if_neg (by rw [aJ.o];decide)]
     have ae:Yf rows.length (Xh p rows)<0->Yf (yi rows s).length (Xh p (yi rows s))<0:=fun h=>zau.2 (zoi H0.o (zau.1 h))
     have ag:yb p=0->Yf (yi rows s).length (Xh p (yi rows s))<0->Yd rows p s:=fun K h=>⟨N.o,aH.o,K,Q.o.1,Q.o.2,zau.1 h⟩
     obtain ⟨a,b,z,hh⟩:∃ a b z,(Yc rows p=(a,z)/\Yc (yi rows s) p=(b,z))/\(z=0->yb p=0/\(a<0->b<0)/\(b<0->Yd rows p s)):=by
      by_cases K:yb p=0
      . refine ⟨Yf rows.length (Xh p rows),Yf (yi rows s).length (Xh p (yi rows s)),0,⟨?_,?_⟩,fun _=>⟨K,ae,ag K⟩⟩
        . rw [B,if_neg (fun h=>h K)]
        rw [D,if_neg (fun h=>h K)]
      refine ⟨0,0,yb p,⟨?_,?_⟩,fun h=>absurd h K⟩
      . rw [B,if_pos K]
      rw [D,if_pos K]
     obtain ⟨⟨a3,a2⟩,ba⟩:=hh;have a9:=ze a2;have aY:=ze ba;have aV:Hid (p.length<=70):=Q.o.1;have M:=XD A A3 rows.length c p.length c3 rows p w1 C.o F.o ak.o (fun D G=>zpy N.o D Q.o.2 G);rw [a3] at M;have aa:=ze M;clear M B D ae ag a3 a2 ba;go_wp2_with fail;refine aa.o.mono ?_;rintro e w2 ⟨rfl,aQ⟩;have ab:=ze aQ;replace l:=eb_ l aQ;clear aQ aa;replace C:Hid (yM w2 (.slice A rows.length c) rows):=(C.o.below ab.o).more ab.o.size;replace F:Hid (zZ w2 (.slice A3 p.length c3) p):=(F.o.below ab.o).more ab.o.size;replace aI:Hid (yM w2 (.slice A1 (yi rows s).length c1) (yi rows s)):=(aI.o.below ab.o).more ab.o.size;clear ab;have M:=XD A1 A3 (yi rows s).length c1 p.length c3 (yi rows s) p w2 aI.o F.o (fun _=>uC (zjt aJ.o) (by omega)) (fun D G k hk=>V9 ((Zi aJ.o).2 _ (Yk hk)) (show 1000<=60000 by omega) (zpg N.o H0.o (Yk hk)) (Zr.of G) (zd8 Q.o.2));rw [a9.o] at M;have aa:=ze M;clear M aI a9 N Q aH H0 aJ;go_wp2_with fail;refine aa.o.mono ?_
     rintro e w3 ⟨rfl,aR⟩;have ax:=ze aR;replace l:=eb_ l aR;clear aR aa;replace C:Hid (yM w3 (.slice A rows.length c) rows):=(C.o.below ax.o).more ax.o.size;replace F:Hid (zZ w3 (.slice A3 p.length c3) p):=(F.o.below ax.o).more ax.o.size;clear ax;have d1:(z == z)=true:=beq_self_eq_true z
     by_cases K:z=0
     rotate_left
     . have d2:decide (z=0)=false:=uF K
       clear C F aY ak an;go_wp2_with fail;refine (ZT _).mono ?_;rintro e O ⟨rfl,y⟩;have I:=ze (ext l.o y);clear y;go_wp2;go_ret;exact ⟨rfl,I.o⟩
     subst K
     obtain ⟨bg,ae,ag⟩:=aY.o rfl;clear aY d1
     by_cases aO:b<0
     rotate_left
     . have ap:(0:Int)<=b:=by omega
       have bp:¬ a<0:=fun h=>aO (ae h)
       clear ae ag C F ak an bg;go_wp2_with fail;refine (ZT _).mono ?_;rintro e O ⟨rfl,y⟩;have I:=ze (ext l.o y);clear y;go_wp2;go_ret;exact ⟨rfl,I.o⟩
     have E:=ze (ag aO)
     have ap:¬ (0:Int)<=b:=by omega
     clear ag ae bg;have aU:Hid (Zr p):=Zr.of E.o.pe;have bu:=(Zi E.o.r0).1
     go_upto_region 12 with fail
     go_cut [80] from 75 to 80 (fun sv wc=>sv= .bool false/\w3=wc)
     case first=>
      by_cases ha:a<0
      all_goals
       go_wp2;go_meet
       case rel=>first | exact ⟨rfl,rfl⟩ | exact ⟨congrArg Value.bool (uF (by omega)),rfl⟩
     case rest=>
      obtain ⟨rfl,rfl⟩:=hcut;have R:Calls prog 9 #[.slice A3 p.length c3,str s,.string ⟨#[48]⟩] w3 (zlx w3 (yE p s [48])):=zjn A3 p.length c3 p s [48] w3 F.o aV.o aU.o an.o (by unfold zB;decide);have az:=ze R;clear R;go_wp2_with fail;refine az.o.mono ?_;rintro e w4 ⟨A4,c4,rfl,hq,a1⟩;have aB:=ze a1;replace l:=eb_ l a1;have HQ:=ze hq;clear a1 hq az aO ap;replace C:Hid (yM w4 (.slice A rows.length c) rows):=(C.o.below aB.o).more aB.o.size;replace F:Hid (zZ w4 (.slice A3 p.length c3) p):=(F.o.below aB.o).more aB.o.size;have a7:Hid (Below w4.heap.size w4 w4):=Below.refl _ _;clear aB;go_wp2
      go_loopw [13,14,16] (ShR w4 rows (yE p s [48]) s) (fun _ _ iv _=>rows.length - (intOf iv).toNat)
      case atStart=>exact ⟨0,uB,rfl,rfl,rfl,a7⟩
      case round=>
       clear a7;obtain ⟨k,hk,rfl,rfl,rfl,Y⟩:=hrel
       by_cases X:k<rows.length
       rotate_left
       . obtain rfl:k=rows.length:=by omega
         have HT:Hid (shT rows p s=zu (X7 (fmN (yE p s [48]) s rows rows.length))):=ze rfl;have bd:Hid (zB (shT rows p s)):=zqh _ E.o.take (by omega);have aS:=ze E.o.last;have aP:=ze E.o.usm;have ac:=ze Xr;generalize fmN (yE p s [48]) s rows rows.length=st at HT |-;obtain ⟨lo,hi⟩:=st;have ho:=zbq lo;have a6:=zbq hi;have R:=zjn A3 p.length c3 p s (shT rows p s) wr ((F.o.below Y.o).more Y.o.size) aV.o aU.o an.o bd.o;replace C:Hid (yM wr (.slice A rows.length c) rows):=(C.o.below Y.o).more Y.o.size;replace l:=ze (ext l.o Y.o);generalize yE p s (shT rows p s)=L at R aS aP;rw [HT.o] at R;clear HQ E bd HT F aV aU an Y
         have bn:∃ o:Option Rat,(lo=o/\o.isNone=false\/lo=none/\hi=o/\o.isNone=false\/lo=none/\hi=none/\o=none)/\Hid (Calls prog 9 #[.slice A3 p.length c3,str s,.string (match o with | some m=>zts (some m) | none=>⟨#[48]⟩)] wr (zlx wr L)):=by
          cases lo with
          | some m=>exact ⟨some m,.inl ⟨rfl,rfl⟩,R⟩
          | none=>
            cases hi with
            | some m=>exact ⟨some m,.inr (.inl ⟨rfl,rfl,rfl⟩),R⟩
            | none=>
              refine ⟨none,.inr (.inr ⟨rfl,rfl,rfl⟩),?_⟩;have e:str (zu (X7 (none,none)))= .string ⟨#[48]⟩:=congrArg Value.string ac.o.symm;rw [e] at R;exact R
         clear R ac;obtain ⟨o,hc,az⟩:=bn;have be:=zbq o
         rcases hc with ⟨rfl,S⟩ | ⟨rfl,rfl,S⟩ | ⟨rfl,rfl,rfl⟩
         all_goals
          first
          | (obtain ⟨m,rfl⟩:∃ m,lo=some m:=by
              cases lo with
              | some m=>exact ⟨m,rfl⟩
              | none=>cases S)
          | (obtain ⟨m,rfl⟩:∃ m,hi=some m:=by
              cases hi with
              | some m=>exact ⟨m,rfl⟩
              | none=>cases S)
          | skip
          try clear S
          try rw [show (some m).isNone=false from rfl] at ho
          try rw [show (some m).isNone=false from rfl] at a6
          try rw [show (some m).isNone=false from rfl] at be
          try rw [show (none:Option Rat).isNone=true from rfl] at ho
          try rw [show (none:Option Rat).isNone=true from rfl] at a6
          try clear be
          go_wp2_with fail;refine az.o.mono ?_;rintro e w5 ⟨A5,c5,rfl,bh,aZ⟩;have u:=ze aZ;have a4:=ze bh;replace l:=eb_ l aZ;clear aZ bh az;replace C:Hid (yM w5 (.slice A rows.length c) rows):=(C.o.below u.o).more u.o.size;have M:=XD A A5 rows.length c L.length c5 rows L w5 C.o a4.o ak.o (fun D G=>aP.o);rw [aS.o] at M;have aa:=ze M;clear M aP aS u;go_wp2_with fail;refine aa.o.mono ?_;rintro e w6 ⟨rfl,ay⟩;replace l:=eb_ l ay;clear ay aa a4 C;go_wp2_with fail;refine (ZT _).mono ?_;rintro e O ⟨rfl,y⟩;have I:=ze (ext l.o y);clear y;go_wp2;go_ret;exact ⟨rfl,I.o⟩
       have bs:(k:Int)<(rows.length:Int):=by omega
       obtain ⟨ad,AT,nt,ct,eA,bl,bc⟩:=zmn C.o X (E.o.good X);subst eA;subst bl;have aj:=ze (E.o.good X);have bk:=E.o.few X;have al:Hid (yd (rows.getD k default).terms s=0->fmN (yE p s [48]) s rows (k+1)=fmN (yE p s [48]) s rows k):=zrl;have ah:Hid (0<yd (rows.getD k default).terms s->fmN (yE p s [48]) s rows (k+1)=((fmN (yE p s [48]) s rows k).1,some (zne (vK (yE p s [48]) s (rows.getD k default)) (fmN (yE p s [48]) s rows k).2))):=zve;have ao:Hid (yd (rows.getD k default).terms s<0->fmN (yE p s [48]) s rows (k+1)=(some (znj (vK (yE p s [48]) s (rows.getD k default)) (fmN (yE p s [48]) s rows k).1),(fmN (yE p s [48]) s rows k).2)):=zvk;have av:Hid (∀ m,(fmN (yE p s [48]) s rows k).1=some m->Dz 40546 m):=fun m hm=>E.o.low hk hm
       have aE:Hid (∀ m,(fmN (yE p s [48]) s rows k).2=some m->Dz 40546 m):=fun m hm=>E.o.high hk hm
       have ai:Hid (yd (rows.getD k default).terms s≠0->Dz 40546 (vK (yE p s [48]) s (rows.getD k default))):=E.o.ratio X;have aW:=ze (fun w ht hq=>E.o.csum X AT A4 (rows.getD k default).terms.length ct (yE p s [48]).length c4 w ht hq);have aT:=ze (E.o.csub X);have aq:=ze (E.o.cdiv X);have Z:=ze (E.o.cup X);have au:=ze bc;clear bc;generalize rows.getD k default=r at aj al ah ao ai aW aT aq Z au bk;generalize fmN (yE p s [48]) s rows k=st at al ah ao av aE |-;obtain ⟨lo,hi⟩:=st;obtain ⟨q0,q1,qt⟩:=au.o wr Y.o;have a8:=ze qt;clear qt q1;have bb:(⟨#[48]⟩:ByteArray)=txt 0:=Xr;have ac:=ze bb;clear bb;go_wp2
       go_loopw [17,18] (ShI wr r.terms s) (fun _ kv _=>r.terms.length - (intOf kv).toNat)
       case atStart=>exact ⟨0,uB,rfl,congrArg Value.string ac.o,0,rfl⟩
       case round=>
        obtain ⟨j,hj,rfl,rfl,m,rfl⟩:=hrel
        by_cases aL:j<r.terms.length
        . have bw:(j:Int)<(r.terms.length:Int):=by omega
          obtain ⟨bv,bj,bm,t0,t1,-,-⟩:=a8.o.at_ aL;subst bj;rw [zbv (zbz aj.o (uO aL)).1] at t1;have he:(r.terms[j].name == s)=decide (r.terms[j].name=s):=by by_cases h:r.terms[j].name=s<;>simp [h]
          have J:=zpj (s:=s) aj.o.name aL;clear bm
          by_cases af:r.terms[j].name=s
          . rw [uE af] at he
            rw [if_pos af] at J;have HV:=ze J;clear J af;generalize r.terms[j]=tj at t0 t1 he HV;go_wp2;go_roundw
            case rel=>exact ⟨j+1,by omega,by go_num,by rw [HV.o],_,rfl⟩
            case measure=>simp [intOf];omega
          rw [uF af] at he
          rw [if_neg af] at J;have HV:=ze J;clear J af;generalize r.terms[j]=tj at t0 t1 he HV;go_wp2;go_roundw
          case rel=>exact ⟨j+1,by omega,by go_num,by rw [HV.o],_,rfl⟩
          case measure=>simp [intOf];omega
        obtain rfl:j=r.terms.length:=by omega
        rw [List.take_length];have u:Hid (Below w4.heap.size w4 (wr.drewN m)):=zt Y.o m;clear a8 q0 Y hj;generalize wr.drewN m=W5 at u |-;obtain ⟨q0,q1,qt⟩:=au.o W5 u.o;have a5:=aW.o W5 qt ((HQ.o.below u.o).more u.o.size);have H1:=ze a5;clear a5 qt q1;go_wp2_with fail;refine H1.o.mono ?_;rintro e w6 ⟨rfl,ay⟩;replace u:=eb_ u ay;clear ay H1 q0;obtain ⟨-,q1,-⟩:=au.o w6 u.o;go_wp2_with fail;refine (aT.o w6).mono ?_;rintro e w7 ⟨rfl,bi⟩;replace u:=eb_ u bi;have T:=zrx (yd r.terms s);clear bi q1 aT au aW
        rcases zd1 (yd r.terms s) with B | B | B
        . have U:yd r.terms s≠0:=fun e=>by rw [e] at B;exact Rat.lt_irrefl B
          have aA:Y7 (yd r.terms s) 0= -1:=if_pos B;have V:=ze (ao.o B);have HD:=ze (aq.o U);have J:=ai.o U;have aw:=fun w=>zqr (vK (yE p s [48]) s r) lo J av.o w
          have aD:=ze aw;rw [uF U] at T;rw [aA] at Z;clear J aw B U aA al ah ao aq ai av aE aj ac;go_wp2_with fail;refine (HD.o w7).mono ?_;rintro e w8 ⟨rfl,ar⟩;replace u:=eb_ u ar;clear ar HD;go_wp2_with fail;refine (Z.o w8).mono ?_;rintro e O ⟨rfl,y⟩;replace u:=eb_ u y;clear y Z;go_wp2_with fail;refine (aD.o O).mono ?_;rintro e bo ⟨n1,z1,rfl,aC,S⟩;replace u:=eb_ u aC;have ho:=zbq lo;clear aC aD
          rcases zpd S with ⟨D | ⟨D,aX⟩,G⟩ | ⟨⟨D,aX⟩,G⟩
          all_goals
           rw [D] at ho;rw [G] at V;clear D G S;go_wp2;go_roundw
           case rel=>exact ⟨k+1,by omega,by go_num,by first | (rw [V.o];done) | (rw [V.o];rfl),by rw [V.o],u⟩
           case measure=>simp [intOf];omega
        . have HK:=ze (al.o B)
          rw [B] at T |-;rw [uE rfl] at T;clear B al ah ao aq Z ai av aE aj ac;go_wp2;go_roundw
          case rel=>exact ⟨k+1,by omega,by go_num,by rw [HK.o],by rw [HK.o],u⟩
          case measure=>simp [intOf];omega
        . have U:yd r.terms s≠0:=fun e=>by rw [e] at B;exact Rat.lt_irrefl B
          have aA:Y7 (yd r.terms s) 0=1:=by unfold Y7;rw [if_neg (Rat.not_lt.2 (Rat.le_of_lt B)),if_pos B]
          have V:=ze (ah.o B);have HD:=ze (aq.o U);have J:=ai.o U;have aw:=fun w=>zqr (vK (yE p s [48]) s r) hi J aE.o w
          have aD:=ze aw;rw [uF U] at T;rw [aA] at Z;clear J aw B U aA al ah ao aq ai av aE aj ac;go_wp2_with fail;refine (HD.o w7).mono ?_;rintro e w8 ⟨rfl,ar⟩;replace u:=eb_ u ar;clear ar HD;go_wp2_with fail;refine (Z.o w8).mono ?_;rintro e O ⟨rfl,y⟩;replace u:=eb_ u y;clear y Z;go_wp2_with fail;refine (aD.o O).mono ?_;rintro e bo ⟨n1,z1,rfl,aC,S⟩;replace u:=eb_ u aC;have ho:=zbq hi;clear aC aD
          rcases zqg S with ⟨D | ⟨D,aX⟩,G⟩ | ⟨⟨D,aX⟩,G⟩
          all_goals
           rw [D] at ho;rw [G] at V;clear D G S;go_wp2;go_roundw
           case rel=>exact ⟨k+1,by omega,by go_num,by rw [V.o],by first | (rw [V.o];done) | (rw [V.o];rfl),u⟩
           case measure=>simp [intOf];omega
theorem zhy (A:Option Addr) (n c:Nat) (rows:List zF) (A3:Option Addr) (n3 c3:Nat) (p:List zm) (s:ByteArray) (w:World) (hs:s.size<=reachBytes) (hr:VC w w.heap.size (.slice A n c) rows) (hp:Zd w w.heap.size (.slice A3 n3 c3) p):
 Calls prog 3 #[.slice A n c,.slice A3 n3 c3,.string s] w (zij w (.bool true)):=by
 have h:=zj5 A n c rows A3 n3 c3 p s.data.toList w hr hp (by simpa using hs)
 have e:str s.data.toList= .string s:=by cases s;rfl
 rwa [e] at h
end Go.Proofs.YtofmkndhocinmaaGreatDoor
