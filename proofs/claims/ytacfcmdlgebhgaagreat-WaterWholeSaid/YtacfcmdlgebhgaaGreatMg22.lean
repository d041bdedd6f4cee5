/- Parts of the proof: memory, numbers, walks of the functions that are called. -/
import Derived.Deep.MidRow
import Derived.Test.YtacfcmdlgebhgaaGreatMg21
set_option linter.unusedVariables false
set_option linter.unusedSimpArgs false
namespace Go.Proofs.YtacfcmdlgebhgaaGreat
open Go.RowKit
def zih (R:Nat->Nat->List UInt8) (j:Nat):Value:=str (R (j / 25) (j % 25))
def vE (M:Nat) (R:Nat->Nat->List UInt8):List Value:=(List.range (M*25)).map (zih R)
theorem ZM (M:Nat) (R:Nat->Nat->List UInt8):(vE M R).length=M*25:=by simp [vE]
theorem zb7 {M:Nat} {R:Nat->Nat->List UInt8} {j:Nat} (hj:j<M*25):(vE M R)[j]?=some (zih R j):=by
 unfold vE
 rw [List.getElem?_map,List.getElem?_range hj]
 rfl
theorem zt1 {R:Nat->Nat->List UInt8} {i c:Nat} (hc:c<25):zih R (i*25+c)=str (R i c):=by
 unfold zih
 rw [show (i*25+c) / 25=i by omega,show (i*25+c) % 25=c by omega]
theorem zzv {M i c:Nat} (hi:i<M) (hc:c<25):i*25+c<M*25:=by omega
def upd (R:Nat->Nat->List UInt8) (i c:Nat) (x:List UInt8):Nat->Nat->List UInt8:=fun i' c' =>if i' =i/\c' =c then x else R i' c'
def zgr (R:Nat->Nat->List UInt8) (i:Nat) (r:Nat->List UInt8):Nat->Nat->List UInt8:=fun i' =>if i' =i then r else R i'
def Zq (r:Nat->List UInt8):List Value:=(List.range 25).map fun c=>str (r c)
theorem ve (r:Nat->List UInt8):(Zq r).length=25:=by simp [Zq]
theorem zcw {r:Nat->List UInt8} {c:Nat} (hc:c<25):(Zq r)[c]?=some (str (r c)):=by
 unfold Zq
 rw [List.getElem?_map,List.getElem?_range hc]
 rfl
theorem zcq (r:Nat->List UInt8):∀ v∈Zq r,v.oneCell' =true:=by
 intro v hv
 obtain ⟨c,_,rfl⟩:=List.mem_map.1 hv
 rfl
def yI (w:World) (g M:Nat) (R:Nat->Nat->List UInt8):Prop:=Blk w g 79 (vE M R).toArray
section
variable {w w' :World} {g M:Nat} {R:Nat->Nat->List UInt8}
theorem yI.lt (h:yI w g M R):g<w.heap.size:=Blk.lt h
theorem yI.frozen (h:yI w g M R) (j:Nat):w.frozen? ⟨g,j,none⟩=false:=Blk.frozen h j
theorem yI.below (h:yI w g M R) (hb:Below w.heap.size w w'):yI w' g M R:=Blk.below h hb h.lt
theorem yI.cell (h:yI w g M R) {i c:Nat} (hi:i<M) (hc:c<25):w.cell? ⟨g,i*25+c,none⟩=some (str (R i c)):=by
 unfold yI at h
 rw [h.cell,List.getElem?_toArray,zb7 (zzv hi hc),zt1 hc]
theorem zp9 {i c:Nat} {x:List UInt8} (hc:c<25):(vE M R).set (i*25+c) (str x)=vE M (upd R i c x):=by
 apply List.ext_getElem
 . simp [vE]
 intro j h1 h2
 rw [List.getElem_set];have hj:j<M*25:=by rw [List.length_set,ZM] at h1;exact h1
 have e1:(vE M R)[j]'(by rw [ZM];exact hj)=zih R j:=by simp [vE]
 have e2:(vE M (upd R i c x))[j]=zih (upd R i c x) j:=by simp [vE]
 rw [e1,e2];unfold zih upd
 by_cases h:i*25+c=j
 . rw [if_pos h,if_pos (by omega)]
 rw [if_neg h,if_neg (by omega)]
theorem yI.set_ (h:yI w g M R) {i c:Nat} (hc:c<25) (x:List UInt8):yI (w.setCell ⟨g,i*25+c,none⟩ (str x)) g M (upd R i c x):=by
 unfold yI at h |-
 have:=h.set_ (i*25+c) (str x)
 rw [List.setIfInBounds_toArray,zp9 hc] at this
 exact this
theorem yI.range (h:yI w g M R) {i:Nat} (hi:i<M):w.rangeAt g (i*25) (Zq (R i)):=by
 intro j v hv
 have hj:j<25:=by have:=(List.getElem?_eq_some_iff.1 hv).1;rw [ve] at this;exact this
 rw [zcw hj] at hv
 injection hv with hv
 rw [<- hv]
 exact h.cell hi hj
theorem yI.there_ (h:yI w g M R) {i:Nat} (hi:i<M):w.there g (i*25) 25:=fun j hj=>⟨by rw [h.cell hi hj];rfl,h.frozen _⟩
def zin (cs:List Value) (o:Nat):List Value->List Value
 | []=>cs
 | v :: r=>zin (cs.set o v) (o+1) r
theorem zmx (vs:List Value):∀ (cs:List Value) (o:Nat),(zin cs o vs).length=cs.length:=by
 induction vs with
 | nil=>intro cs o;rfl
 | cons v r ih=>intro cs o;unfold zin;rw [ih];simp
theorem zvp (vs:List Value):∀ (cs:List Value) (o j:Nat),j<cs.length->(zin cs o vs)[j]?=if o<=j/\j<o+vs.length then vs[j - o]? else cs[j]?:=by
 induction vs with
 | nil=>intro cs o j hj;unfold zin;rw [if_neg (by simp)]
 | cons v r ih=>
   intro cs o j hj;unfold zin;rw [ih _ _ _ (by simpa using hj),List.getElem?_set];simp only [List.length_cons]
   by_cases h1:o=j
   . subst h1
     rw [if_neg (by omega),if_pos rfl,if_pos hj,if_pos (by omega)];simp
   rw [if_neg h1]
   by_cases h2:o+1<=j/\j<o+1+r.length
   . rw [if_pos h2,if_pos (by omega),show j - o=(j - (o+1))+1 by omega];simp
   rw [if_neg h2,if_neg (by omega)]
theorem Blk.setCells {t:TypeId} (vs:List Value):∀ {w:World} {cs:List Value} (o:Nat),Blk w g t cs.toArray->Blk (w.setCells g o vs) g t (zin cs o vs).toArray:=by
 induction vs with
 | nil=>intro w cs o h;exact h
 | cons v r ih=>
   intro w cs o h;unfold zin;have h2:=h.set_ o v;rw [List.setIfInBounds_toArray] at h2;exact ih (o+1) h2
theorem yI.setRow (h:yI w g M R) {i:Nat} (hi:i<M) (r:Nat->List UInt8):yI (w.setCells g (i*25) (Zq r)) g M (zgr R i r):=by
 unfold yI at h |-
 have h2:=Blk.setCells (Zq r) (i*25) h
 have e:zin (vE M R) (i*25) (Zq r)=vE M (zgr R i r):=by
  apply List.ext_getElem?
  intro j
  rcases Nat.lt_or_ge j (M*25) with hj | hj
  . rw [zvp _ _ _ _ (by rw [ZM];exact hj),zb7 hj,zb7 hj,ve]
    unfold zih zgr
    by_cases h3:i*25<=j/\j<i*25+25
    . rw [if_pos h3,zcw (by omega),if_pos (by omega),show j - i*25=j % 25 by omega]
    rw [if_neg h3,if_neg (by omega)]
  . rw [List.getElem?_eq_none (by rw [zmx,ZM];exact hj),List.getElem?_eq_none (by rw [ZM];exact hj)]
 rw [e] at h2
 exact h2
end
end Go.Proofs.YtacfcmdlgebhgaaGreat
