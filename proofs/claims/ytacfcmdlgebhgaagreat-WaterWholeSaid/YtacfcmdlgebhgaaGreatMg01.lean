/- Parts of the proof: memory, numbers, walks of the functions that are called. -/
import Init.Data.List.Lemmas
set_option linter.unusedVariables false
set_option linter.unusedSimpArgs false
namespace Go.Proofs.YtacfcmdlgebhgaaGreat
def val (β:Nat):List Nat->Nat
 | []=>0
 | d :: ds=>d+β*val β ds
def zE (β:Nat) (ds:List Nat):Prop:=∀ d∈ds,d<β
def yW (β:Nat) (ds:List Nat):Prop:=zE β ds/\ds.getLast?≠some 0
theorem Zg (β:Nat):val β []=0:=rfl
theorem YR (β d:Nat) (ds:List Nat):val β (d :: ds)=d+β*val β ds:=rfl
theorem YF (β d:Nat):val β [d]=d:=by simp [val]
theorem Y8 (β:Nat) (a b:List Nat):val β (a ++ b)=val β a+β ^ a.length*val β b:=by
 induction a with
 | nil=>simp [val]
 | cons d a ih=>simp only [List.cons_append,YR,ih,List.length_cons,Nat.pow_succ,Nat.mul_add,Nat.add_assoc];rw [Nat.mul_comm (β ^ a.length) β,Nat.mul_assoc]
theorem Yc (β:Nat) (a:List Nat) (d:Nat):val β (a ++ [d])=val β a+β ^ a.length*d:=by rw [Y8,YF]
theorem zbo (β n:Nat):val β (List.replicate n 0)=0:=by
 induction n with
 | zero=>rfl
 | succ n ih=>rw [List.replicate_succ,YR,ih];simp
theorem zE.nil (β:Nat):zE β []:=fun _ h=>by cases h
theorem zE.append {β:Nat} {a b:List Nat} (ha:zE β a) (hb:zE β b):zE β (a ++ b):=fun d h=>by
 rcases List.mem_append.1 h with h | h
 . exact ha d h
 . exact hb d h
theorem zE.cons {β d:Nat} {a:List Nat} (hd:d<β) (ha:zE β a):zE β (d :: a):=fun x h=>by
 rcases List.mem_cons.1 h with h | h
 . omega
 . exact ha x h
theorem zE.tail {β d:Nat} {a:List Nat} (h:zE β (d :: a)):zE β a:=fun x hx=>h x (List.mem_cons_of_mem _ hx)
theorem zE.head {β d:Nat} {a:List Nat} (h:zE β (d :: a)):d<β:=h d List.mem_cons_self
theorem zE.take {β:Nat} {a:List Nat} (h:zE β a) (k:Nat):zE β (a.take k):=fun d hd=>h d (List.mem_of_mem_take hd)
theorem zE.drop {β:Nat} {a:List Nat} (h:zE β a) (k:Nat):zE β (a.drop k):=fun d hd=>h d (List.mem_of_mem_drop hd)
theorem zE.getD {β:Nat} {a:List Nat} (h:zE β a) (hβ:0<β) (k:Nat):a.getD k 0<β:=by
 rw [List.getD_eq_getElem?_getD]
 by_cases hk:k<a.length
 . rw [List.getElem?_eq_getElem hk];exact h _ (List.getElem_mem hk)
 rw [List.getElem?_eq_none (by omega)];exact hβ
theorem zE.get {β:Nat} {a:List Nat} (h:zE β a) (k:Nat) (hk:k<a.length):a[k]<β:=h _ (List.getElem_mem hk)
theorem zE.replicate {β:Nat} (hβ:0<β) (n:Nat):zE β (List.replicate n 0):=fun d hd=>by rw [(List.mem_replicate.1 hd).2];exact hβ
theorem zE.set {β:Nat} {a:List Nat} (h:zE β a) (k d:Nat) (hd:d<β):zE β (a.set k d):=fun x hx=>by
 rcases List.mem_or_eq_of_mem_set hx with hx | hx
 . exact h x hx
 . omega
theorem Xu {β:Nat} {ds:List Nat} (h:zE β ds):val β ds<β ^ ds.length:=by
 induction ds with
 | nil=>simp [val]
 | cons d ds ih=>
   have h1:=ih h.tail;have h2:=h.head;rw [YR,List.length_cons,Nat.pow_succ];have h3:β*(val β ds+1)<=β*β ^ ds.length:=Nat.mul_le_mul_left _ h1;rw [Nat.mul_add,Nat.mul_one] at h3;rw [Nat.mul_comm (β ^ ds.length) β]
   omega
theorem xJ (β:Nat) (ds:List Nat) (k:Nat) (hk:k<=ds.length):val β ds=val β (ds.take k)+β ^ k*val β (ds.drop k):=by
 conv=>lhs;rw [<- List.take_append_drop k ds,Y8,List.length_take,Nat.min_eq_left hk]
theorem Ve {α:Type} (ds:List α) (k:Nat) (hk:k<ds.length):ds.take (k+1)=ds.take k ++ [ds[k]]:=by
 rw [List.take_succ_eq_append_getElem hk]
theorem yQ (β:Nat) (ds:List Nat) (k:Nat) (hk:k<ds.length):val β (ds.take (k+1))=val β (ds.take k)+β ^ k*ds[k]:=by
 rw [Ve ds k hk,Yc,List.length_take,Nat.min_eq_left (by omega)]
theorem Yw (β:Nat) (ds:List Nat) (k:Nat) (hk:k<ds.length):val β (ds.drop k)=ds[k]+β*val β (ds.drop (k+1)):=by
 rw [List.drop_eq_getElem_cons hk,YR]
theorem yW.nil (β:Nat):yW β []:=⟨zE.nil β,by simp⟩
theorem yW.last {β:Nat} {ds:List Nat} (h:yW β ds) (hne:ds≠[]):ds[ds.length - 1]'(by have:=List.length_pos_iff.2 hne;omega)≠0:=by
 intro h0
 apply h.2
 rw [List.getLast?_eq_getElem?,List.getElem?_eq_getElem (by have:=List.length_pos_iff.2 hne;omega),h0]
theorem yW.mk_ {β:Nat} {ds:List Nat} (h:zE β ds) (hl:∀ hne:0<ds.length,ds[ds.length - 1]≠0):yW β ds:=by
 refine ⟨h,?_⟩
 intro h0
 rw [List.getLast?_eq_getElem?] at h0
 obtain ⟨hlt,e⟩:=List.getElem?_eq_some_iff.1 h0
 exact hl (by omega) e
theorem yW.ge {β:Nat} {ds:List Nat} (h:yW β ds) (hne:ds≠[]):β ^ (ds.length - 1)<=val β ds:=by
 have hp:=List.length_pos_iff.2 hne
 have hl:=h.last hne
 have e:val β ds=val β (ds.take (ds.length - 1))+β ^ (ds.length - 1)*ds[ds.length - 1]:=by
  rw [<- yQ β ds (ds.length - 1) (by omega),show ds.length - 1+1=ds.length by omega,List.take_length]
 rw [e]
 have:β ^ (ds.length - 1)*1<=β ^ (ds.length - 1)*ds[ds.length - 1]:=Nat.mul_le_mul_left _ (by omega)
 omega
theorem yW.zero_iff {β:Nat} {ds:List Nat} (hβ:0<β) (h:yW β ds):val β ds=0↔ds=[]:=by
 constructor
 rotate_left
 . rintro rfl;rfl
 intro h0
 by_cases hne:ds=[]
 . exact hne
 have:=h.ge hne
 have:=Nat.pow_pos (n:=ds.length - 1) hβ
 omega
theorem yW.lt_of_length {β:Nat} {a b:List Nat} (hβ:0<β) (ha:zE β a) (hb:yW β b) (h:a.length<b.length):val β a<val β b:=by
 have h1:=Xu ha
 have h2:=hb.ge (by intro e;subst e;simp at h)
 have h3:β ^ a.length<=β ^ (b.length - 1):=Nat.pow_le_pow_right hβ (by omega)
 omega
theorem yW.length_le {β:Nat} {a b:List Nat} (hβ:0<β) (ha:yW β a) (hb:yW β b) (h:val β a<=val β b):a.length<=b.length:=by
 rcases Nat.lt_or_ge b.length a.length with h1 | h1
 . have:=yW.lt_of_length hβ hb.1 ha h1;omega
 . exact h1
theorem yW.length_lt_pow {β:Nat} {a:List Nat} {k:Nat} (hβ:1<β) (ha:yW β a) (h:val β a<β ^ k):a.length<=k:=by
 rcases Nat.lt_or_ge k a.length with h1 | h1
 . have h2:=ha.ge (by intro e;subst e;simp at h1)
   have h3:β ^ k<=β ^ (a.length - 1):=Nat.pow_le_pow_right (by omega) (by omega)
   omega
 . exact h1
theorem zwr {β:Nat} {a b:List Nat} (hl:a.length=b.length) (ha:zE β a) (hb:zE β b) (h:val β a=val β b):a=b:=by
 induction a generalizing b with
 | nil=>exact (List.eq_nil_of_length_eq_zero hl.symm).symm
 | cons d a ih=>
   cases b with
   | nil=>simp at hl
   | cons c b=>
     rw [YR,YR] at h;have h1:=ha.head;have h2:=hb.head
     have e1:d=c:=by
      have q1:(d+β*val β a) % β=d:=by rw [Nat.add_mul_mod_self_left,Nat.mod_eq_of_lt h1]
      have q2:(c+β*val β b) % β=c:=by rw [Nat.add_mul_mod_self_left,Nat.mod_eq_of_lt h2]
      rw [<- q1, <- q2,h]
     subst e1
     have e2:val β a=val β b:=by
      have:β*val β a=β*val β b:=by omega
      exact Nat.eq_of_mul_eq_mul_left (by omega) this
     rw [ih (by simpa using hl) ha.tail hb.tail e2]
theorem yW.inj {β:Nat} {a b:List Nat} (hβ:0<β) (ha:yW β a) (hb:yW β b) (h:val β a=val β b):a=b:=
 zwr (Nat.le_antisymm (ha.length_le hβ hb (by omega)) (hb.length_le hβ ha (by omega))) ha.1 hb.1 h
theorem zbh {β:Nat} {a b:List Nat} (hl:a.length=b.length) (ha:zE β a) (k:Nat) (hk:k<a.length)
 (hsame:∀ j (h1:j<a.length) (h2:j<b.length),k<j->a[j]=b[j]) (hlt:a[k]<b[k]'(by omega)):val β a<val β b:=by
 have e1:=xJ β a k (by omega)
 have e2:=xJ β b k (by omega)
 rw [Yw β a k hk] at e1
 rw [Yw β b k (by omega)] at e2
 have e3:a.drop (k+1)=b.drop (k+1):=by
  apply List.ext_getElem (by simp [hl])
  intro i h1 h2
  rw [List.getElem_drop,List.getElem_drop]
  exact hsame _ _ _ (by omega)
 rw [e3] at e1
 have h1:val β (a.take k)<β ^ k:=by
  have:=Xu (ha.take k)
  rwa [List.length_take,Nat.min_eq_left (by omega)] at this
 have h2:β ^ k*(a[k]+β*val β (b.drop (k+1))+1)<=β ^ k*(b[k]'(by omega)+β*val β (b.drop (k+1))):=Nat.mul_le_mul_left _ (by omega)
 rw [Nat.mul_add _ _ 1,Nat.mul_one] at h2
 omega
def digs (β:Nat) (n:Nat):List Nat:=if _h:β<=1\/n=0 then [] else (n % β) :: digs β (n / β)
termination_by n
decreasing_by exact Nat.div_lt_self (by omega) (by omega)
theorem ZN (β:Nat):digs β 0=[]:=by rw [digs];simp
theorem ZY {β n:Nat} (hβ:1<β) (hn:0<n):digs β n=(n % β) :: digs β (n / β):=by rw [digs];rw [dif_neg (by omega)]
theorem YB {β:Nat} (hβ:1<β) (n:Nat):yW β (digs β n)/\val β (digs β n)=n:=by
 induction n using Nat.strongRecOn with
 | _ n ih=>
   by_cases hn:n=0
   . subst hn;rw [ZN];exact ⟨yW.nil β,rfl⟩
   rw [ZY hβ (by omega)]
   obtain ⟨h1,h2⟩:=ih (n / β) (Nat.div_lt_self (by omega) hβ);refine ⟨⟨zE.cons (Nat.mod_lt _ (by omega)) h1.1,?_⟩,?_⟩
   rotate_left
   . rw [YR,h2,Nat.mod_add_div]
   by_cases hd:digs β (n / β)=[]
   rotate_left
   . rw [List.getLast?_cons_of_ne_nil hd]
     exact h1.2
   rw [hd] at h2 |-
   have h3:n / β=0:=h2.symm
   have h4:n<β:=by
    rcases Nat.lt_or_ge n β with h | h
    . exact h
    . have:=Nat.div_pos h (by omega);omega
   rw [Nat.mod_eq_of_lt h4]
   simpa using hn
theorem yW.digs {β:Nat} {ds:List Nat} (hβ:1<β) (h:yW β ds):digs β (val β ds)=ds:=
 yW.inj (by omega) (YB hβ _).1 h (YB hβ _).2
def len (β n:Nat):Nat:=(digs β n).length
theorem yW.length_eq {β:Nat} {ds:List Nat} (hβ:1<β) (h:yW β ds):ds.length=len β (val β ds):=by rw [len,h.digs hβ]
theorem vq {β:Nat} (hβ:1<β) (n:Nat):n<β ^ len β n:=by
 have h:=YB hβ n
 have:=Xu h.1.1
 rwa [h.2] at this
theorem yo {β n k:Nat} (hβ:1<β) (h:n<β ^ k):len β n<=k:=by
 have hs:=YB hβ n
 exact hs.1.length_lt_pow hβ (by rw [hs.2];exact h)
theorem vV {β m n:Nat} (hβ:1<β) (h:m<=n):len β m<=len β n:=yo hβ (Nat.lt_of_le_of_lt h (vq hβ n))
theorem zai {β:Nat} (hβ:1<β) (m n:Nat):len β (m*n)<=len β m+len β n:=by
 apply yo hβ
 rw [Nat.pow_add]
 exact Nat.mul_lt_mul'' (vq hβ m) (vq hβ n)
theorem zse {β:Nat} (hβ:1<β) (m n:Nat):len β (m+n)<=max (len β m) (len β n)+1:=by
 apply yo hβ
 rw [Nat.pow_succ]
 have h1:=vq hβ m
 have h2:=vq hβ n
 have h3:β ^ len β m<=β ^ max (len β m) (len β n):=Nat.pow_le_pow_right (by omega) (by omega)
 have h4:β ^ len β n<=β ^ max (len β m) (len β n):=Nat.pow_le_pow_right (by omega) (by omega)
 have h5:β ^ max (len β m) (len β n)*2<=β ^ max (len β m) (len β n)*β:=Nat.mul_le_mul_left _ hβ
 omega
theorem za6 (β:Nat):len β 0=0:=by rw [len,ZN];rfl
theorem zcp {β n:Nat} (hβ:1<β) (h:0<n):0<len β n:=by rw [len,ZY hβ h];simp
theorem zpu {β v1 v2 u2 top d r p ul vl u v:Nat} (ht:top=d*v1+r) (hu:u=(top*β+u2)*p+ul) (hv:v=(v1*β+v2)*p+vl) (hul:ul<p) (hlt:u<β*v)
 (h:β<=d\/r*β+u2<d*v2):u / v<d:=by
 have hvp:0<v:=by
  rcases Nat.eq_zero_or_pos v with e | e
  . rw [e] at hlt;simp at hlt
  . exact e
 rcases h with h | h
 . have:=(Nat.div_lt_iff_lt_mul hvp).2 hlt
   omega
 . rw [Nat.div_lt_iff_lt_mul hvp]
   have h1:top*β+u2+1<=d*(v1*β+v2):=by
    rw [ht,Nat.add_mul,Nat.mul_add,Nat.mul_assoc];omega
   have h2:(top*β+u2+1)*p<=d*(v1*β+v2)*p:=Nat.mul_le_mul_right _ h1;rw [Nat.add_mul _ 1 p,Nat.one_mul] at h2;have h3:d*v=d*(v1*β+v2)*p+d*vl:=by rw [hv,Nat.mul_add,Nat.mul_assoc]
   rw [h3,hu]
   omega
theorem zrh {β v1 v2 u2 top d r p ul vl u v:Nat} (ht:top=d*v1+r) (hu:u=(top*β+u2)*p+ul) (hv:v=(v1*β+v2)*p+vl) (hvl:vl<p) (hlt:u<β*v)
 (hv1:1<=v1) (h:d*v2<=r*β+u2):d<=u / v+1:=by
 have hvp:0<v:=by
  rcases Nat.eq_zero_or_pos v with e | e
  . rw [e] at hlt;simp at hlt
  . exact e
 have hq:u / v<β:=(Nat.div_lt_iff_lt_mul hvp).2 hlt
 rcases Nat.lt_or_ge (u / v+1) d with hd | hd
 . exfalso
   have h1:d*(v1*β+v2)<=top*β+u2:=by
    rw [ht,Nat.add_mul,Nat.mul_add,Nat.mul_assoc];omega
   have h2:d*(v1*β+v2)*p<=(top*β+u2)*p:=Nat.mul_le_mul_right _ h1
   have h3:u<(u / v+1)*v:=by
    have:=Nat.div_add_mod u v;have:=Nat.mod_lt u hvp;rw [Nat.add_mul,Nat.one_mul,Nat.mul_comm]
    omega
   have h4:(u / v+1)*v<=(u / v+1)*((v1*β+v2+1)*p):=by
    apply Nat.mul_le_mul_left
    rw [hv,Nat.add_mul _ 1 p,Nat.one_mul];omega
   have h5:d*(v1*β+v2)*p<(u / v+1)*(v1*β+v2+1)*p:=by
    rw [Nat.mul_assoc (u / v+1)];omega
   have h6:d*(v1*β+v2)<(u / v+1)*(v1*β+v2+1):=Nat.lt_of_mul_lt_mul_right h5;have h7:(u / v+1+1)*(v1*β+v2)<=d*(v1*β+v2):=Nat.mul_le_mul_right _ (by omega);rw [Nat.add_mul (u / v+1) 1,Nat.one_mul] at h7;rw [Nat.mul_add (u / v+1) _ 1,Nat.mul_one] at h6;have h8:1*β<=v1*β:=Nat.mul_le_mul_right _ hv1
   omega
 . exact hd
theorem zmb {β v1 um un d r:Nat} (hv1:β<=2*v1) (hum:um<=v1) (hun:un<β) (hd:um*β+un=d*v1+r) (hr:r<v1):d<=β+1:=by
 rcases Nat.lt_or_ge (β+1) d with h | h
 . exfalso
   have h1:(β+2)*v1<=d*v1:=Nat.mul_le_mul_right _ (by omega);have h2:um*β<=v1*β:=Nat.mul_le_mul_right _ hum;rw [Nat.add_mul,Nat.mul_comm β v1] at h1
   omega
 . exact h
theorem zky {β v2 u2 d r:Nat} (hv2:v2<β) (hd:d<=β) (hr:β<=r):d*v2<=r*β+u2:=by
 have h1:d*v2<=β*v2:=Nat.mul_le_mul_right _ hd
 have h2:β*v2<=β*β:=Nat.mul_le_mul_left _ (by omega)
 have h3:β*β<=r*β:=Nat.mul_le_mul_right _ hr
 omega
theorem zef {u v d u' B:Nat} (hd1:u / v<=d) (hd2:d<=u / v+1) (hv:0<v) (h:u' +d*v=u+0*B):d=u / v/\u' =u % v:=by
 have h1:=Nat.div_add_mod u v
 have h2:=Nat.mod_lt u hv
 rw [Nat.zero_mul,Nat.add_zero] at h
 have e:d=u / v:=by
  rcases Nat.lt_or_ge (u / v) d with h3 | h3
  . have e:d=u / v+1:=by omega
    rw [e,Nat.add_mul,Nat.one_mul,Nat.mul_comm] at h
    omega
  . omega
 refine ⟨e,?_⟩
 rw [e,Nat.mul_comm] at h
 omega
theorem zjq {u v d u' B:Nat} (hd1:u / v<=d) (hd2:d<=u / v+1) (hv:0<v) (hB:u' <B) (h:u' +d*v=u+1*B):d=u / v+1/\u' +v=u % v+B:=by
 have h1:=Nat.div_add_mod u v
 have h2:=Nat.mod_lt u hv
 rw [Nat.one_mul] at h
 have e:d=u / v+1:=by
  rcases Nat.lt_or_ge (u / v) d with h3 | h3
  . omega
  . have e:d=u / v:=by omega
    rw [e,Nat.mul_comm] at h
    omega
 refine ⟨e,?_⟩
 rw [e,Nat.add_mul,Nat.one_mul,Nat.mul_comm] at h
 omega
theorem zug {β lo un cy bo d x y s bo' P:Nat} (hβ:0<β) (hs:s+y+bo=x+bo' *β) (hy:y=(cy+d*un) % β) {L O:Nat} (hL:L+d*lo=O+(cy+bo)*P):
 (L+P*s)+d*(lo+P*un)=(O+P*x)+((cy+d*un) / β+bo')*(P*β):=by
 have h1:=Nat.div_add_mod (cy+d*un) β
 rw [<- hy] at h1
 have h2:P*(s+y+bo)=P*(x+bo' *β):=by rw [hs]
 have h3:P*(cy+d*un)=P*(β*((cy+d*un) / β)+y):=by rw [h1]
 generalize (cy+d*un) / β=q at*
 simp only [Nat.mul_add,Nat.add_mul,Nat.mul_assoc,Nat.mul_comm,Nat.mul_left_comm] at h2 h3 hL |-
 omega
theorem zmf {β v1 v2 u2 top p ul vl u v:Nat} (hu:u=(top*β+u2)*p+ul) (hv:v=(v1*β+v2)*p+vl) (hu2:u2<β) (hul:ul<p) (hv1:0<v1):u / v<=top / v1:=by
 rw [Nat.le_div_iff_mul_le hv1]
 have h1:u<(top+1)*(β*p):=by
  have h2:(top*β+u2+1)*p<=(top+1)*β*p:=Nat.mul_le_mul_right _ (by rw [Nat.add_mul,Nat.one_mul];omega)
  rw [Nat.add_mul _ 1,Nat.one_mul] at h2
  rw [hu, <- Nat.mul_assoc];omega
 have h3:u / v*v<=u:=Nat.div_mul_le_self u v
 have h4:u / v*(v1*(β*p))<=u / v*v:=by
  apply Nat.mul_le_mul_left
  rw [hv,Nat.add_mul,Nat.mul_assoc];omega
 have h5:u / v*v1*(β*p)<(top+1)*(β*p):=by rw [Nat.mul_assoc];omega
 have:=Nat.lt_of_mul_lt_mul_right h5
 omega
theorem zu9 {β v1 v2 um un u2 p ul vl u v:Nat} (hu:u=((um*β+un)*β+u2)*p+ul) (hv:v=(v1*β+v2)*p+vl) (hv2:v2<β) (hvl:vl<p) (hlt:u<β*v):um<=v1:=by
 rcases Nat.lt_or_ge v1 um with h | h
 . exfalso
   have h1:v<(v1+1)*(β*p):=by
    have h2:(v1*β+v2+1)*p<=(v1+1)*β*p:=Nat.mul_le_mul_right _ (by rw [Nat.add_mul,Nat.one_mul];omega);rw [Nat.add_mul _ 1,Nat.one_mul] at h2;rw [hv, <- Nat.mul_assoc];omega
   have h3:(v1+1)*(β*p)<=um*(β*p):=Nat.mul_le_mul_right _ h;have h4:β*v<=β*(um*(β*p)):=Nat.mul_le_mul_left _ (by omega)
   have h5:β*(um*(β*p))<=u:=by
    have e:β*(um*(β*p))=um*β*β*p:=by simp only [Nat.mul_assoc,Nat.mul_comm,Nat.mul_left_comm]
    have h6:um*β*β*p<=((um*β+un)*β+u2)*p:=Nat.mul_le_mul_right _ (by rw [Nat.add_mul];omega);rw [e,hu];omega
   omega
 . exact h
theorem zz {ds:List Nat} {k:Nat} (hk:k<ds.length):ds.getD k 0=ds[k]:=by
 rw [List.getD_eq_getElem?_getD,List.getElem?_eq_getElem hk];rfl
theorem xm {ds:List Nat} {k:Nat} (hk:ds.length<=k):ds.getD k 0=0:=by
 rw [List.getD_eq_getElem?_getD,List.getElem?_eq_none hk];rfl
theorem zH (β:Nat) (ds:List Nat) (k:Nat):val β (ds.take (k+1))=val β (ds.take k)+β ^ k*ds.getD k 0:=by
 rcases Nat.lt_or_ge k ds.length with h | h
 . rw [zz h,yQ β ds k h]
 . rw [xm h,List.take_of_length_le (by omega),List.take_of_length_le h];simp
theorem zmg (β:Nat) (ds:List Nat) (k d:Nat) (hk:k<ds.length):val β (ds.set k d)+β ^ k*ds[k]=val β ds+β ^ k*d:=by
 have e1:=xJ β ds k (by omega)
 have e2:=xJ β (ds.set k d) k (by simp;omega)
 rw [Yw β ds k hk] at e1
 rw [Yw β (ds.set k d) k (by simpa using hk)] at e2
 have e3:(ds.set k d).take k=ds.take k:=by rw [List.take_set_of_le (by omega)]
 have e4:(ds.set k d).drop (k+1)=ds.drop (k+1):=by rw [List.drop_set_of_lt (by omega)]
 rw [e3,e4] at e2
 simp only [List.getElem_set_self] at e2
 rw [e1,e2,Nat.mul_add,Nat.mul_add];omega
theorem zhg {β i D A B c x y:Nat} (h:D+c*β ^ i=A+B):(D+β ^ i*((c+x+y) % β))+(c+x+y) / β*β ^ (i+1)=(A+β ^ i*x)+(B+β ^ i*y):=by
 have h1:=Nat.div_add_mod (c+x+y) β
 have h2:β ^ i*(c+x+y)=β ^ i*(β*((c+x+y) / β)+(c+x+y) % β):=by rw [h1]
 generalize (c+x+y) / β=q at*
 generalize (c+x+y) % β=r at*
 rw [Nat.pow_succ]
 simp only [Nat.mul_add,Nat.add_mul,Nat.mul_assoc,Nat.mul_comm,Nat.mul_left_comm] at h2 h |-
 omega
theorem zrf {β i D A B b x y s b' :Nat} (h:D+B=A+b*β ^ i) (hs:s+y+b=x+b' *β):(D+β ^ i*s)+(B+β ^ i*y)=(A+β ^ i*x)+b' *β ^ (i+1):=by
 have h2:β ^ i*(s+y+b)=β ^ i*(x+b' *β):=by rw [hs]
 rw [Nat.pow_succ]
 simp only [Nat.mul_add,Nat.add_mul,Nat.mul_assoc,Nat.mul_comm,Nat.mul_left_comm] at h2 h |-
 omega
theorem znh {β P k O O' c x y o Y Z:Nat} (h:O+c*(P*β ^ k)=Z+x*P*Y) (hs:O' +P*β ^ k*o=O+P*β ^ k*((c+x*y+o) % β)):
 O' +(c+x*y+o) / β*(P*β ^ (k+1))=Z+x*P*(Y+β ^ k*y):=by
 have h1:=Nat.div_add_mod (c+x*y+o) β
 have h2:P*β ^ k*(c+x*y+o)=P*β ^ k*(β*((c+x*y+o) / β)+(c+x*y+o) % β):=by rw [h1]
 generalize (c+x*y+o) / β=q at*
 generalize (c+x*y+o) % β=r at*
 rw [Nat.pow_succ]
 simp only [Nat.mul_add,Nat.add_mul,Nat.mul_assoc,Nat.mul_comm,Nat.mul_left_comm] at h2 h hs |-
 omega
theorem zj0 {β c x y o:Nat} (hc:c<β) (hx:x<β) (hy:y<β) (ho:o<β):c+x*y+o<β*β:=by
 have h1:x*y<=(β - 1)*(β - 1):=Nat.mul_le_mul (by omega) (by omega)
 obtain ⟨g,rfl⟩:∃ g,β=g+1:=⟨β - 1,by omega⟩
 simp only [Nat.add_sub_cancel] at h1
 rw [Nat.add_mul,Nat.mul_add]
 omega
theorem zod {β d x r:Nat} (hd:0<d) (hr:r<d) (hx:x<β):(r*β+x) / d<β/\(r*β+x) % d<d:=by
 refine ⟨(Nat.div_lt_iff_lt_mul hd).2 ?_,Nat.mod_lt _ hd⟩
 have:(r+1)*β<=d*β:=Nat.mul_le_mul_right _ (by omega)
 rw [Nat.add_mul,Nat.one_mul] at this
 rw [Nat.mul_comm β d]
 omega
theorem zxm {β d x r Q A:Nat} (h:A=Q*d+r):x+β*A=((r*β+x) / d+β*Q)*d+(r*β+x) % d:=by
 have h1:=Nat.div_add_mod (r*β+x) d
 have h2:(r*β+x) / d*d+(r*β+x) % d=r*β+x:=by rw [Nat.mul_comm];exact h1
 rw [h,Nat.add_mul]
 simp only [Nat.mul_add,Nat.add_mul,Nat.mul_assoc,Nat.mul_comm,Nat.mul_left_comm] at h2 |-
 omega
theorem Vu (β:Nat) (ds:List Nat) (k d:Nat) (hk:k<ds.length):val β ((ds.set k d).drop k)=d+β*val β (ds.drop (k+1)):=by
 rw [Yw β (ds.set k d) k (by simpa using hk),List.drop_set_of_lt (by omega)]
 simp only [List.getElem_set_self]
theorem zxt {β s i D A x:Nat} {o:Nat} (h:D+β ^ i*o=A*s):(D+β ^ i*(o+x*s % β))+β ^ (i+1)*(x*s / β)=(A+β ^ i*x)*s:=by
 have h1:=Nat.div_add_mod (x*s) β
 have h2:β ^ i*(x*s)=β ^ i*(β*(x*s / β)+x*s % β):=by rw [h1]
 generalize x*s / β=q at*
 generalize x*s % β=r at*
 rw [Nat.pow_succ,Nat.add_mul]
 simp only [Nat.mul_add,Nat.add_mul,Nat.mul_assoc,Nat.mul_comm,Nat.mul_left_comm] at h2 h |-
 omega
theorem zkc {n a b:Nat} (hb:b<2 ^ n):(2 ^ n*a) ||| b=2 ^ n*a+b:=(Nat.two_pow_add_eq_or_of_lt hb a).symm
theorem zb2 {n a b:Nat} (hb:b<2 ^ n):b ||| (2 ^ n*a)=b+2 ^ n*a:=by rw [Nat.or_comm,zkc hb,Nat.add_comm]
theorem zlc {s t x:Nat} (hs:0<s):x*s % (s*t)=s*(x % t):=by rw [Nat.mul_comm x s,Nat.mul_mod_mul_left]
theorem zrj {s t i A x:Nat} (hs:0<s) (ht:0<t):(A+(s*t) ^ (i+1)*x) / s=A / s+(s*t) ^ i*(t*x):=by
 have e:(s*t) ^ (i+1)*x=s*((s*t) ^ i*(t*x)):=by
  rw [Nat.pow_succ];simp only [Nat.mul_assoc,Nat.mul_comm,Nat.mul_left_comm]
 rw [e,Nat.add_mul_div_left _ _ hs]
theorem zoo {s t x:Nat} (ht:0<t):t*x=t*(x % s)+s*t*(x / s):=by
 conv=>lhs;rw [<- Nat.mod_add_div x s]
 rw [Nat.mul_add]
 simp only [Nat.mul_assoc,Nat.mul_comm,Nat.mul_left_comm]
def chr (d:Nat):UInt8:=UInt8.ofNat (48+d)
def dig (c:UInt8):Nat:=c.toNat - 48
def xh (c:UInt8):Bool:=decide (48<=c.toNat) && decide (c.toNat<=57)
def xo (l:List UInt8):Bool:=l.all xh && !l.isEmpty
def zD (l:List UInt8):Nat:=l.foldl (fun n c=>10*n+dig c) 0
def dec (n:Nat):List UInt8:=if n=0 then [48] else (digs 10 n).reverse.map chr
theorem zwn {d:Nat} (h:d<10):dig (chr d)=d:=by
 unfold dig chr
 rw [UInt8.toNat_ofNat']
 have:(48+d) % 2 ^ 8=48+d:=Nat.mod_eq_of_lt (by omega)
 omega
theorem zsg {d:Nat} (h:d<10):xh (chr d)=true:=by
 unfold xh chr
 rw [UInt8.toNat_ofNat']
 have:(48+d) % 2 ^ 8=48+d:=Nat.mod_eq_of_lt (by omega)
 simp [this];omega
theorem zht {c:UInt8} (h:xh c=true):chr (dig c)=c:=by
 simp [xh] at h
 unfold chr dig
 apply UInt8.toNat_inj.1
 rw [UInt8.toNat_ofNat']
 have:c.toNat<2 ^ 8:=UInt8.toNat_lt c
 have:(48+(c.toNat - 48)) % 2 ^ 8=48+(c.toNat - 48):=Nat.mod_eq_of_lt (by omega)
 omega
theorem zv9 {c:UInt8} (h:xh c=true):dig c<10:=by
 simp [xh] at h;unfold dig;omega
theorem zkg {d:Nat} (h:d<10):(chr d).toNat=48+d:=by
 unfold chr;rw [UInt8.toNat_ofNat'];exact Nat.mod_eq_of_lt (by omega)
theorem zhb:zD []=0:=rfl
theorem zcs (l:List UInt8):∀ n:Nat,l.foldl (fun n c=>10*n+dig c) n=n*10 ^ l.length+zD l:=by
 induction l with
 | nil=>intro n;simp [zD]
 | cons c l ih=>
   intro n
   have e:zD (c :: l)=(10*0+dig c)*10 ^ l.length+zD l:=by
    show List.foldl (fun n c=>10*n+dig c) (10*0+dig c) l=_
    exact ih _
   rw [List.foldl_cons,ih,e,List.length_cons,Nat.pow_succ];simp only [Nat.mul_add,Nat.add_mul,Nat.mul_assoc,Nat.mul_comm,Nat.mul_left_comm,Nat.mul_zero,Nat.zero_add]
   omega
theorem X4 (a b:List UInt8):zD (a ++ b)=zD a*10 ^ b.length+zD b:=by
 rw [zD,List.foldl_append,zcs b];rfl
theorem zl2 (a:List UInt8) (c:UInt8):zD (a ++ [c])=10*zD a+dig c:=by
 rw [X4];simp [zD];omega
theorem zel (c:UInt8) (l:List UInt8):zD (c :: l)=dig c*10 ^ l.length+zD l:=by
 rw [zD,List.foldl_cons,zcs];simp
theorem XJ (l:List UInt8):zD l=val 10 (l.reverse.map dig):=by
 induction l with
 | nil=>rfl
 | cons c l ih=>rw [zel,List.reverse_cons,List.map_append,Y8,ih];simp [val];rw [Nat.mul_comm];omega
theorem Vq {l:List UInt8} (h:l.all xh=true):zD l<10 ^ l.length:=by
 rw [XJ]
 have hs:zE 10 (l.reverse.map dig):=by
  intro d hd
  simp at hd
  obtain ⟨c,hc,rfl⟩:=hd
  exact zv9 (List.all_eq_true.1 h c hc)
 simpa using Xu hs
theorem zge (n:Nat):zE 10 (digs 10 n):=(YB (by omega) n).1.1
theorem ze8 (n:Nat):(dec n).all xh=true:=by
 unfold dec
 split
 . rfl
 rw [List.all_eq_true]
 intro c hc;simp only [List.mem_map,List.mem_reverse] at hc;obtain ⟨d,hd,rfl⟩:=hc;exact zsg (zge n d hd)
theorem zwd (n:Nat):dec n≠[]:=by
 unfold dec
 split
 . simp
 rename_i h
 rw [ZY (by omega) (by omega)];simp
theorem V2 (n:Nat):xo (dec n)=true:=by
 unfold xo;rw [ze8];simp [zwd]
theorem Z9 (n:Nat):zD (dec n)=n:=by
 unfold dec
 split
 . rename_i h;subst h;decide
 rw [XJ, <- List.map_reverse,List.reverse_reverse,List.map_map]
 have e:(digs 10 n).map (dig ∘ chr)=digs 10 n:=by
  have:∀ l:List Nat,zE 10 l->l.map (dig ∘ chr)=l:=by
   intro l
   induction l with
   | nil=>intro _;rfl
   | cons d l ih=>intro h;rw [List.map_cons,ih h.tail];simp [zwn h.head]
  exact this _ (zge n)
 rw [e];exact (YB (by omega) n).2
theorem ze6 {m n:Nat} (h:dec m=dec n):m=n:=by rw [<- Z9 m,h,Z9]
theorem vD:dec 0=[48]:=by simp [dec]
theorem zvb (n:Nat) (hn:n≠0):∀ c,(dec n).head?=some c->c≠48:=by
 intro c hc
 unfold dec at hc
 rw [if_neg hn,List.head?_map,List.head?_reverse] at hc
 have hs:=YB (β:=10) (by omega) n
 cases hl:(digs 10 n).getLast? with
 | none=>rw [hl] at hc;cases hc
 | some d=>
   rw [hl] at hc;simp at hc;subst hc;have h1:d<10:=hs.1.1 d (List.mem_of_getLast? hl);have h2:d≠0:=fun e=>hs.1.2 (by rw [hl,e])
   intro e;have:=congrArg UInt8.toNat e;rw [zkg h1] at this;simp at this
   omega
theorem zos {l:List UInt8} (h:xo l=true) (h0:l.head?≠some 48\/l.length=1):dec (zD l)=l:=by
 simp [xo] at h
 obtain ⟨ha,hne⟩:=h
 have hs:zE 10 (l.reverse.map dig):=by
  intro d hd
  simp at hd
  obtain ⟨c,hc,rfl⟩:=hd
  exact zv9 (ha c hc)
 have hm:∀ l:List UInt8,(∀ c∈l,xh c=true)->l.map (chr ∘ dig)=l:=by
  intro l
  induction l with
  | nil=>intro _;rfl
  | cons c l ih=>intro h;rw [List.map_cons,ih (fun c hc=>h c (List.mem_cons_of_mem _ hc))];simp [zht (h c List.mem_cons_self)]
 by_cases hz:zD l=0
 rotate_left
 . have hc:yW 10 (l.reverse.map dig):=by
    refine ⟨hs,?_⟩;rw [List.getLast?_map,List.getLast?_reverse]
    cases l with
    | nil=>exact absurd rfl hne
    | cons c l=>
      simp only [List.head?_cons,Option.map_some];intro e;injection e with e
      have h2:=zht (ha c List.mem_cons_self);rw [e] at h2
      rcases h0 with h0 | h0
      . apply h0;rw [<- h2];rfl
      . have:l=[]:=List.eq_nil_of_length_eq_zero (by simpa using h0)
        subst this
        apply hz
        simp [zD,e]
   unfold dec;rw [if_neg hz,XJ,hc.digs (by omega), <- List.map_reverse,List.reverse_reverse,List.map_map,hm l ha]
 unfold dec
 rw [if_pos hz]
 rcases h0 with h0 | h0
 . exfalso
   cases l with
   | nil=>exact hne rfl
   | cons c l=>
     simp at h0;rw [zel] at hz;have hc:=ha c List.mem_cons_self
     have h1:dig c=0:=by
      rcases Nat.eq_zero_or_pos (dig c) with e | e
      . exact e
      . have:=Nat.mul_pos e (Nat.pow_pos (n:=l.length) (show 0<10 by omega));omega
     have h2:=zht hc;rw [h1] at h2;exact h0 h2.symm
 . match l,h0 with
   | [c],_=>
     have h1:dig c=0:=by simpa [zD] using hz
     have h2:=zht (ha c List.mem_cons_self);rw [h1] at h2;rw [<- h2];rfl
theorem zgc (n:Nat) (hn:n≠0):(dec n).length=len 10 n:=by unfold dec;rw [if_neg hn];simp [len]
theorem XM {n k:Nat} (h:n<10 ^ k) (hk:0<k):(dec n).length<=k:=by
 by_cases hn:n=0
 . subst hn;rw [vD];exact hk
 rw [zgc n hn];exact yo (by omega) h
theorem vL {n k:Nat} (h:(dec n).length<=k):n<10 ^ k:=by
 have h1:=Vq (ze8 n)
 rw [Z9] at h1
 exact Nat.lt_of_lt_of_le h1 (Nat.pow_le_pow_right (by omega) h)
theorem Xv {β n:Nat} (hβ:10<=β):len β n<=(dec n).length:=by
 apply yo (by omega)
 exact Nat.lt_of_lt_of_le (vL (Nat.le_refl _)) (Nat.pow_le_pow_left hβ _)
theorem zq4 {n m:Nat} {b:List Nat} (h:b ++ digs 10 m=digs 10 n) (hm:0<m):(b ++ [m % 10]) ++ digs 10 (m / 10)=digs 10 n:=by
 rw [<- h,ZY (by omega) hm];simp
def zcn (β:Int):List Int->Int
 | []=>0
 | d :: ds=>d+β*zcn β ds
theorem zey (β:Int) (a b:List Int):zcn β (a ++ b)=zcn β a+β ^ a.length*zcn β b:=by
 induction a with
 | nil=>simp [zcn]
 | cons d a ih=>simp only [List.cons_append,zcn,ih,List.length_cons,Int.pow_succ];rw [Int.mul_add,Int.mul_comm (β ^ a.length) β,Int.mul_assoc];omega
theorem zfn (β:Nat) (ds:List Nat):zcn β (ds.map fun (d:Nat)=>(d:Int))=(val β ds:Int):=by
 induction ds with
 | nil=>rfl
 | cons d ds ih=>simp only [List.map_cons,zcn,val,ih];push_cast;rfl
theorem znn (β:Int) (zs:List Int) (k:Nat) (d:Int) (hk:k<zs.length):zcn β (zs.set k d)=zcn β zs+β ^ k*(d - zs[k]):=by
 induction zs generalizing k with
 | nil=>simp at hk
 | cons z zs ih=>
   cases k with
   | zero=>simp [zcn];omega
   | succ k=>
     simp only [List.set_cons_succ,zcn,List.getElem_cons_succ];rw [ih k (by simpa using hk),Int.mul_add,Int.pow_succ, <- Int.mul_assoc,Int.mul_comm β (β ^ k)]
     omega
def zv1 (lo hi:Int) (zs:List Int):Prop:=∀ z∈zs,lo<=z/\z<hi
theorem zv1.get {lo hi:Int} {zs:List Int} (h:zv1 lo hi zs) {k:Nat} (hk:k<zs.length):lo<=zs[k]/\zs[k]<hi:=h _ (List.getElem_mem hk)
theorem zxa {β:Int} (hβ:0<β) {zs:List Int} (h:zv1 0 β zs):0<=zcn β zs/\zcn β zs<β ^ zs.length:=by
 induction zs with
 | nil=>simp [zcn]
 | cons z zs ih=>
   obtain ⟨h1,h2⟩:=h z List.mem_cons_self;obtain ⟨h3,h4⟩:=ih (fun x hx=>h x (List.mem_cons_of_mem _ hx));simp only [zcn,List.length_cons,Int.pow_succ];have h5:=Int.mul_nonneg (Int.le_of_lt hβ) h3;have h6:β*(zcn β zs+1)<=β*β ^ zs.length:=Int.mul_le_mul_of_nonneg_left (by omega) (Int.le_of_lt hβ);rw [Int.mul_add,Int.mul_one] at h6;rw [Int.mul_comm (β ^ zs.length)]
   omega
theorem ztx {β:Nat} {zs:List Int} (h:zv1 0 β zs):∃ ds:List Nat,zs=(ds.map fun (d:Nat)=>(d:Int))/\zE β ds/\ds.length=zs.length:=by
 refine ⟨zs.map Int.toNat,?_,?_,by simp⟩
 rotate_left
 . intro d hd
   obtain ⟨z,hz,rfl⟩:=List.mem_map.1 hd;have:=h z hz
   omega
 rw [List.map_map]
 conv=>lhs;rw [<- List.map_id zs]
 apply List.map_congr_left
 intro z hz;have:=(h z hz).1
 simp;omega
def Zm (da db:List Nat) (k:Nat):List Int:=(List.range da.length).map fun j=>if j<k then (da.getD j 0:Int) - db.getD j 0 else da.getD j 0
theorem vQ (da db:List Nat) (k:Nat):(Zm da db k).length=da.length:=by simp [Zm]
theorem Y9 (da db:List Nat) (k j:Nat) (hj:j<da.length):(Zm da db k)[j]'(by rw [vQ];exact hj)=if j<k then (da.getD j 0:Int) - db.getD j 0 else da.getD j 0:=by simp [Zm]
theorem zi3 (da db:List Nat):Zm da db 0=da.map fun (d:Nat)=>(d:Int):=by
 apply List.ext_getElem
 . simp [Zm]
 intro j h1 h2
 rw [Y9 _ _ _ _ (by simpa using h2)];simp at h2
 simp [h2]
theorem zmc (da db:List Nat) (k:Nat) (hk:k<da.length):(Zm da db k).set k ((da.getD k 0:Int) - db.getD k 0)=Zm da db (k+1):=by
 apply List.ext_getElem
 . simp [Zm]
 intro j h1 h2
 rw [vQ] at h2;rw [Y9 _ _ _ _ h2,List.getElem_set]
 by_cases h:k=j
 . subst h;simp
 rw [if_neg h,Y9 _ _ _ _ h2]
 by_cases h3:j<k
 . rw [if_pos h3,if_pos (by omega)]
 rw [if_neg h3,if_neg (by omega)]
theorem zi0 (β:Int) (f g:Nat->Int):∀ l:List Nat,zcn β (l.map fun j=>f j - g j)=zcn β (l.map f) - zcn β (l.map g):=by
 intro l
 induction l with
 | nil=>rfl
 | cons x l ih=>simp only [List.map_cons,zcn,ih];rw [Int.mul_sub];omega
theorem zpa (da:List Nat):((List.range da.length).map fun j=>((da.getD j 0:Nat):Int))=da.map fun (d:Nat)=>(d:Int):=by
 apply List.ext_getElem
 . simp
 intro j h1 h2
 simp at h1
 simp [h1]
theorem zoq (β:Int):∀ n,zcn β (List.replicate n 0)=0:=by
 intro n
 induction n with
 | zero=>rfl
 | succ n ih=>rw [List.replicate_succ,zcn,ih];simp
theorem zqf (β:Nat) (db:List Nat) (n:Nat) (h:db.length<=n):zcn β ((List.range n).map fun j=>((db.getD j 0:Nat):Int))=val β db:=by
 obtain ⟨m,rfl⟩:∃ m,n=db.length+m:=⟨n - db.length,by omega⟩
 have e:((List.range (db.length+m)).map fun j=>((db.getD j 0:Nat):Int))=(db.map fun (d:Nat)=>(d:Int)) ++ List.replicate m 0:=by
  apply List.ext_getElem
  . simp
  intro j h1 h2
  simp at h1;rw [List.getElem_append]
  by_cases hj:j<db.length
  . simp [hj]
  simp [hj]
 rw [e,zey,zoq,zfn];simp
theorem zi7 (β:Nat) (da db:List Nat) (h:db.length<=da.length):zcn β (Zm da db db.length)=(val β da:Int) - val β db:=by
 have e:Zm da db db.length=(List.range da.length).map fun j=>((da.getD j 0:Nat):Int) - ((db.getD j 0:Nat):Int):=by
  unfold Zm
  apply List.map_congr_left
  intro j _
  by_cases hj:j<db.length
  . rw [if_pos hj]
  rw [if_neg hj,xm (ds:=db) (by omega)];simp
 rw [e,zi0,zpa,zfn,zqf _ _ _ h]
theorem zj7 {β:Nat} {da db:List Nat} (hβ:0<β) (ha:zE β da) (hb:zE β db) (k:Nat):zv1 (-(β:Int)) β (Zm da db k):=by
 intro z hz
 obtain ⟨j,hj,rfl⟩:=List.mem_map.1 hz
 have h1:=ha.getD hβ j
 have h2:=hb.getD hβ j
 split<;>omega
def YV (β:Int) (zs:List Int) (k:Nat) (V:Int):Prop:=
 zcn β zs=V/\zv1 0 β (zs.take k)/\(∀ h:k<zs.length,-β<=zs[k]/\zs[k]<β)/\∀ j (h:j<zs.length),k<j-> -β<zs[j]/\zs[j]<β
theorem YV.start {β:Nat} {da db:List Nat} (hβ:0<β) (ha:zE β da) (hb:zE β db) (h:db.length<=da.length):YV β (Zm da db db.length) 0 ((val β da:Int) - val β db):=by
 refine ⟨zi7 β da db h,by intro z hz;simp at hz,fun h0=>(zj7 hβ ha hb _).get h0,fun j hj _=>?_⟩
 rw [vQ] at hj
 rw [Y9 _ _ _ _ hj]
 have h1:=ha.getD hβ j
 have h2:=hb.getD hβ j
 split<;>omega
theorem zkr {lo hi:Int} {zs:List Int} {k:Nat} (hk:k<zs.length) (h:zv1 lo hi (zs.take k)) (h1:lo<=zs[k]) (h2:zs[k]<hi):zv1 lo hi (zs.take (k+1)):=by
 intro z hz
 rw [Ve _ _ hk] at hz
 rcases List.mem_append.1 hz with h3 | h3
 . exact h z h3
 . simp at h3;subst h3;exact ⟨h1,h2⟩
theorem YV.keep {β:Int} {zs:List Int} {k:Nat} {V:Int} (h:YV β zs k V) (hk:k<zs.length) (h0:0<=zs[k]):YV β zs (k+1) V:=by
 obtain ⟨h1,h2,h3,h4⟩:=h
 refine ⟨h1,zkr hk h2 h0 (h3 hk).2,fun hk' =>?_,fun j hj hlt=>h4 j hj (by omega)⟩
 have:=h4 (k+1) hk' (by omega)
 omega
theorem YV.more {β:Int} (hβ:0<β) {zs:List Int} {k:Nat} {V:Int} (h:YV β zs k V) (hV:0<=V) (hk:k<zs.length) (h0:zs[k]<0):k+1<zs.length:=by
 rcases Nat.lt_or_ge (k+1) zs.length with h5 | h5
 . exact h5
 . exfalso
   obtain ⟨h1,h2,h3,h4⟩:=h;have e:zs=zs.take k ++ [zs[k]]:=by rw [<- Ve _ _ hk,List.take_of_length_le h5]
   have h6:=zey β (zs.take k) [zs[k]];rw [<- e,h1] at h6;simp only [zcn,Int.mul_zero,Int.add_zero] at h6;have h7:=(zxa hβ h2).2;have h8:β ^ (zs.take k).length*zs[k]<=β ^ (zs.take k).length*(-1):=Int.mul_le_mul_of_nonneg_left (by omega) (Int.le_of_lt (Int.pow_pos hβ))
   omega
theorem YV.back {β:Int} (hβ:0<β) {zs:List Int} {k:Nat} {V:Int} (h:YV β zs k V) (hk:k+1<zs.length) (h0:zs[k]<0):
 YV β ((zs.set k (zs[k]+β)).set (k+1) (zs[k+1] - 1)) (k+1) V:=by
 obtain ⟨h1,h2,h3,h4⟩:=h
 have hb:=h3 (by omega)
 have hb1:=h4 (k+1) hk (by omega)
 refine ⟨?_,?_,?_,?_⟩
 . rw [znn _ _ _ _ (by simpa using hk),znn _ _ _ _ (by omega),List.getElem_set_ne (by omega),h1,Int.pow_succ]
   have e1:zs[k]+β - zs[k]=β:=by omega
   have e2:zs[k+1] - 1 - zs[k+1]= -1:=by omega
   rw [e1,e2]
   omega
 . rw [List.take_set_of_le (by omega)]
   apply zkr (by simpa using (by omega:k<zs.length))
   . rw [List.take_set_of_le (by omega)];exact h2
   . rw [List.getElem_set_self];omega
   . rw [List.getElem_set_self];omega
 . intro h5
   rw [List.getElem_set_self]
   omega
 . intro j hj hlt
   simp at hj;rw [List.getElem_set_ne (by omega),List.getElem_set_ne (by omega)];exact h4 j hj (by omega)
theorem YV.done {β:Nat} {zs:List Int} {k:Nat} {V:Nat} (h:YV β zs k (V:Int)) (hk:zs.length<=k):∃ ds:List Nat,zs=(ds.map fun (d:Nat)=>(d:Int))/\zE β ds/\ds.length=zs.length/\val β ds=V:=by
 obtain ⟨h1,h2,_,_⟩:=h
 rw [List.take_of_length_le hk] at h2
 obtain ⟨ds,rfl,hs,hl⟩:=ztx h2
 refine ⟨ds,rfl,hs,hl,?_⟩
 rw [zfn] at h1
 omega
def zh (q:Rat):List UInt8:=(if q.num<0 then [45] else []) ++ dec q.num.natAbs ++ (if q.den=1 then [] else 47 :: dec q.den)
def zG (M:Nat) (q:Rat):Prop:=(dec q.num.natAbs).length<=M/\(dec q.den).length<=M
instance (M:Nat) (q:Rat):Decidable (zG M q):=inferInstanceAs (Decidable (_/\_))
def zjy (l:List UInt8) (q:Rat):Prop:=l=zh q/\zG 50000 q
def yJ (l:List UInt8):Bool:=l.head? == some 45
def zq (l:List UInt8):List UInt8:=if yJ l then l.tail else l
def yC (c:UInt8) (l:List UInt8):List UInt8:=l.takeWhile (· != c)
def ys (c:UInt8) (l:List UInt8):List UInt8:=(l.dropWhile (· != c)).tail
def has (c:UInt8) (l:List UInt8):Bool:=l.contains c
def xS (neg:Bool) (n d:Nat):Rat:=Rat.divInt (if neg then -(n:Int) else n) d
theorem XK {neg:Bool} {n d:Nat} (hc:Nat.Coprime n d) (hd:d≠0):(xS neg n d).num=(if neg then -(n:Int) else n)/\(xS neg n d).den=d:=by
 have hc' :Nat.Coprime (if neg then -(n:Int) else n).natAbs d:=by cases neg<;>simpa using hc
 have e:xS neg n d=⟨if neg then -(n:Int) else n,d,hd,hc'⟩:=by rw [Rat.mk_eq_divInt];rfl
 rw [e];exact ⟨rfl,rfl⟩
theorem XR {l:List UInt8} (h:l.all xh=true) {c:UInt8} (hc:xh c=false):∀ x∈l,(x != c)=true:=by
 intro x hx
 have h1:=List.all_eq_true.1 h x hx
 rw [bne_iff_ne]
 rintro rfl
 rw [h1] at hc;cases hc
theorem zab:xh 47=false:=by decide
theorem zlx:xh 45=false:=by decide
theorem zbb {l t:List UInt8} {p:UInt8->Bool} (h:∀ x∈l,p x=true):(l ++ t).takeWhile p=l ++ t.takeWhile p:=by
 induction l with
 | nil=>rfl
 | cons c l ih=>simp [List.takeWhile_cons,h c List.mem_cons_self,ih (fun x hx=>h x (List.mem_cons_of_mem _ hx))]
theorem zhq {l t:List UInt8} {p:UInt8->Bool} (h:∀ x∈l,p x=true):(l ++ t).dropWhile p=t.dropWhile p:=by
 induction l with
 | nil=>rfl
 | cons c l ih=>simp [List.dropWhile_cons,h c List.mem_cons_self,ih (fun x hx=>h x (List.mem_cons_of_mem _ hx))]
theorem zso {c:UInt8} {l:List UInt8} (h:l.all xh=true) (hc:xh c=false) (t:List UInt8):yC c (l ++ c :: t)=l:=by
 unfold yC
 rw [zbb (XR h hc)];simp [List.takeWhile_cons]
theorem zpb {c:UInt8} {l:List UInt8} (h:l.all xh=true) (hc:xh c=false) (t:List UInt8):ys c (l ++ c :: t)=t:=by
 unfold ys
 rw [zhq (XR h hc)];simp [List.dropWhile_cons]
theorem zw8 (c:UInt8) (l t:List UInt8):has c (l ++ c :: t)=true:=by unfold has;simp
theorem V3 {c:UInt8} {l:List UInt8} (h:has c l=false):yC c l=l:=by
 unfold has at h;unfold yC
 have h' :c ∉ l:=by simpa using h
 have:=zbb (l:=l) (t:=[]) (p:=(· != c)) (by
  intro a ha
  rw [bne_iff_ne]
  rintro rfl
  exact h' ha)
 simpa using this
theorem zp1 {c:UInt8} {l:List UInt8} (h:l.all xh=true) (hc:xh c=false):has c l=false:=by
 unfold has
 rw [Bool.eq_false_iff]
 intro h1
 have h2:=List.contains_iff_mem.1 h1
 have:=List.all_eq_true.1 h c h2
 rw [this] at hc;cases hc
theorem zv5 {c:UInt8} {l:List UInt8} (h:has c l=true):l=yC c l ++ c :: ys c l:=by
 unfold has at h;unfold yC ys
 have h1:c∈l:=List.contains_iff_mem.1 h
 have e:(l.dropWhile (· != c)).head?=some c:=by
  cases hd:l.dropWhile (· != c) with
  | nil=>
    have h2:=List.takeWhile_append_dropWhile (p:=(· != c)) (l:=l);rw [hd,List.append_nil] at h2;rw [<- h2] at h1;have:=List.all_eq_true.1 (List.all_takeWhile (p:=(· != c)) (l:=l)) c h1;simp at this
  | cons a t=>
    have:=List.head?_dropWhile_not (· != c) l;rw [hd] at this;simp at this;rw [this];rfl
 cases hd:l.dropWhile (· != c) with
 | nil=>rw [hd] at e;cases e
 | cons a t=>
   rw [hd] at e;injection e with e
   subst e;have:=List.takeWhile_append_dropWhile (p:=(· != a)) (l:=l);rw [hd] at this;exact this.symm
theorem Yf {l:List UInt8} (h:yJ l=false):zq l=l:=by unfold zq;rw [h];rfl
theorem Vs {l:List UInt8} (h:yJ l=true):l=45 :: zq l:=by
 unfold zq;rw [h]
 unfold yJ at h
 cases l with
 | nil=>simp at h
 | cons c l=>simp at h;subst h;rfl
theorem zw4 (l:List UInt8):l=(if yJ l then [45] else []) ++ zq l:=by
 by_cases h:yJ l=true
 . rw [if_pos h];exact Vs h
 rw [if_neg h,Yf (by simpa using h)];rfl
theorem zhr {l t:List UInt8} (h:xo l=true):yJ (l ++ t)=false:=by
 simp [xo] at h
 unfold yJ
 cases l with
 | nil=>simp at h
 | cons c l=>
   have hc:=h.1 c List.mem_cons_self
   simp
   rintro rfl
   simp [zlx] at hc
theorem V1 {l:List UInt8} {q:Rat} (h:l=zh q):yJ l=decide (q.num<0)/\yC 47 (zq l)=dec q.num.natAbs/\has 47 (zq l)=decide (q.den≠1)/\
 (q.den≠1->ys 47 (zq l)=dec q.den):=by
 have hn:yJ (dec q.num.natAbs ++ (if q.den=1 then [] else 47 :: dec q.den))=false:=zhr (V2 _)
 have hs:yJ l=decide (q.num<0):=by
  rw [h,zh,List.append_assoc]
  by_cases h0:q.num<0
  . rw [if_pos h0];simp [yJ,h0]
  rw [if_neg h0,List.nil_append,hn];simp [h0]
 have hu:zq l=dec q.num.natAbs ++ (if q.den=1 then [] else 47 :: dec q.den):=by
  by_cases h0:q.num<0
  rotate_left
  . rw [Yf (by rw [hs];simpa using h0),h,zh,if_neg h0,List.nil_append]
  have:=Vs (l:=l) (by rw [hs];simpa using h0)
  rw [h,zh,if_pos h0] at this;simp only [List.cons_append,List.nil_append,List.cons.injEq,true_and] at this;rw [h,zh,if_pos h0];simp only [List.cons_append,List.nil_append];rw [<- this]
 refine ⟨hs,?_⟩
 rw [hu]
 by_cases hd:q.den=1
 . rw [if_pos hd,List.append_nil]
   have hh:=zp1 (ze8 q.num.natAbs) zab;refine ⟨V3 hh,?_,fun h=>absurd hd h⟩;rw [hh];simp [hd]
 rw [if_neg hd]
 exact ⟨zso (ze8 _) zab _,by rw [zw8];simp [hd],fun _=>zpb (ze8 _) zab _⟩
theorem vZ {p q:Rat} (h:zh p=zh q):p=q:=by
 have h1:=V1 (l:=zh p) rfl
 have h2:=V1 (l:=zh p) h
 have e1:dec p.num.natAbs=dec q.num.natAbs:=h1.2.1.symm.trans h2.2.1
 have e2:=ze6 e1
 have e3:decide (p.num<0)=decide (q.num<0):=h1.1.symm.trans h2.1
 have e4:decide (p.den≠1)=decide (q.den≠1):=h1.2.2.1.symm.trans h2.2.2.1
 have e5:(p.num<0)↔(q.num<0):=by simpa using e3
 have e6:(p.den=1)↔(q.den=1):=by
  have:(p.den≠1)↔(q.den≠1):=decide_eq_decide.1 e4
  omega
 apply Rat.ext
 . by_cases h0:p.num<0
   . have:=e5.1 h0;omega
   have:¬ q.num<0:=fun h=>h0 (e5.2 h)
   omega
 by_cases hd:p.den=1
 . rw [hd,e6.1 hd]
 have hd' :q.den≠1:=fun h=>hd (e6.2 h)
 exact ze6 ((h1.2.2.2 hd).symm.trans (h2.2.2.2 hd'))
def ye (l:List UInt8):Bool:=xo l && (l.head? != some 48 || l.length == 1) && decide (l.length<=50000)
theorem zkd {n:Nat} (h:(dec n).length<=50000):ye (dec n)=true:=by
 unfold ye
 rw [V2]
 by_cases hn:n=0
 . subst hn;rw [vD];decide
 have h1:((dec n).head? != some 48)=true:=by
  rw [bne_iff_ne];intro h2;exact zvb n hn 48 h2 rfl
 rw [h1];simp [h]
theorem Y3 {l:List UInt8} (h:ye l=true):dec (zD l)=l/\l.length<=50000/\xo l=true:=by
 unfold ye at h
 simp only [Bool.and_eq_true,Bool.or_eq_true,bne_iff_ne,ne_eq,beq_iff_eq,decide_eq_true_eq] at h
 exact ⟨zos h.1.1 h.1.2,h.2,h.1.1⟩
theorem zbe {l:List UInt8} (hn:ye (yC 47 (zq l))=true) (h0:yJ l=true->yC 47 (zq l)≠[48])
 (hd:has 47 (zq l)=true->ye (ys 47 (zq l))=true/\ys 47 (zq l)≠[48]/\ys 47 (zq l)≠[49]/\
   Nat.Coprime (zD (yC 47 (zq l))) (zD (ys 47 (zq l)))):
 zjy l (xS (yJ l) (zD (yC 47 (zq l))) (if has 47 (zq l) then zD (ys 47 (zq l)) else 1)):=by
 obtain ⟨e1,l1,_⟩:=Y3 hn
 have hl:=zw4 l
 generalize hs:yJ l=s at*
 generalize hu:zq l=u at*
 have hneg:s=true->zD (yC 47 u)≠0:=by
  intro hs' h
  rw [h,vD] at e1
  exact h0 hs' e1.symm
 by_cases hh:has 47 u=true
 rotate_left
 . rw [if_neg hh]
   have hh' :has 47 u=false:=by simpa using hh
   have eu:=V3 hh';obtain ⟨p1,p2⟩:=XK (neg:=s) (n:=zD (yC 47 u)) (d:=1) (by simp) (by omega);have p3:(xS s (zD (yC 47 u)) 1).num.natAbs=zD (yC 47 u):=by rw [p1];cases s<;>simp
   refine ⟨?_,by
    unfold zG;rw [p2,p3,e1]
    exact ⟨l1,by simp [dec,ZY (β:=10) (n:=1) (by omega) (by omega),ZN]⟩⟩
   unfold zh;rw [p2,p3,e1,p1,hl,if_pos rfl,List.append_nil,eu]
   congr 1
   cases s with
   | false=>rw [if_neg (by simp),if_neg (by simp)]
   | true=>rw [if_pos rfl,if_pos rfl,if_pos (by have:=hneg rfl;rw [eu] at this;omega)]
 obtain ⟨hd1,hd2,hd3,hc⟩:=hd hh
 obtain ⟨e2,l2,_⟩:=Y3 hd1
 have hz:zD (ys 47 u)≠0:=by
  intro h;rw [h,vD] at e2;exact hd2 e2.symm
 have h1:zD (ys 47 u)≠1:=by
  intro h;rw [h] at e2;exact hd3 (by rw [<- e2];simp [dec,ZY (β:=10) (n:=1) (by omega) (by omega),ZN];decide)
 rw [if_pos hh];obtain ⟨p1,p2⟩:=XK (neg:=s) hc hz;have p3:(xS s (zD (yC 47 u)) (zD (ys 47 u))).num.natAbs=zD (yC 47 u):=by rw [p1];cases s<;>simp
 refine ⟨?_,by unfold zG;rw [p2,p3,e1,e2];exact ⟨l1,l2⟩⟩;unfold zh;rw [p2,p3,e1,e2,if_neg h1,p1,hl];rw [List.append_assoc]
 congr 1
 rotate_left
 . exact zv5 hh
 cases s with
 | false=>rw [if_neg (by simp),if_neg (by simp)]
 | true=>rw [if_pos rfl,if_pos rfl,if_pos (by have:=hneg rfl;omega)]
theorem zen:dec 1=[49]:=by simp [dec,ZY (β:=10) (n:=1) (by omega) (by omega),ZN];decide
theorem ZH {l:List UInt8} {q:Rat} (h:zjy l q):
 ye (yC 47 (zq l))=true/\(yJ l=true->yC 47 (zq l)≠[48])/\
 (has 47 (zq l)=true->ye (ys 47 (zq l))=true/\ys 47 (zq l)≠[48]/\ys 47 (zq l)≠[49]/\
   yC 47 (zq l)≠[48]/\Nat.Coprime (zD (yC 47 (zq l))) (zD (ys 47 (zq l))))/\
 q=xS (yJ l) (zD (yC 47 (zq l))) (if has 47 (zq l) then zD (ys 47 (zq l)) else 1):=by
 obtain ⟨h1,h2,h3,h4⟩:=V1 h.1
 have hsh:=h.2
 have hz:dec q.num.natAbs=[48]->q.num=0:=by
  intro e
  have:q.num.natAbs=0:=ze6 (e.trans vD.symm)
  omega
 have hnum:q.num=if decide (q.num<0)=true then -(q.num.natAbs:Int) else q.num.natAbs:=by
  by_cases h0:q.num<0
  . simp [h0];omega
  simp [h0];omega
 refine ⟨by rw [h2];exact zkd hsh.1,?_,?_,?_⟩
 . rw [h1,h2]
   intro h0 e;have:=hz e;simp at h0
   omega
 . rw [h3]
   intro hd;have hd' :q.den≠1:=by simpa using hd
   rw [h2,h4 hd',Z9,Z9];refine ⟨zkd hsh.2,?_,?_,?_,q.reduced⟩
   . intro e;exact q.den_nz (ze6 (e.trans vD.symm))
   . intro e;exact hd' (ze6 (e.trans zen.symm))
   . intro e
     have h0:=hz e;have:=q.reduced;rw [h0] at this;simp at this;exact hd' this
 . rw [h1,h2,h3,Z9]
   by_cases hd:q.den=1
   rotate_left
   . have:decide (q.den≠1)=true:=by simp [hd]
     rw [this,if_pos rfl,h4 hd,Z9,xS, <- hnum,Rat.num_divInt_den]
   have:decide (q.den≠1)=false:=by simp [hd]
   rw [this,if_neg (by simp),xS, <- hnum]
   conv=>lhs;rw [<- Rat.num_divInt_den q,hd]
def zp (l:List UInt8):Option Rat:=
 let q:=xS (yJ l) (zD (yC 47 (zq l))) (if has 47 (zq l) then zD (ys 47 (zq l)) else 1)
 if l=zh q/\zG 50000 q then some q else none
theorem yR {l:List UInt8} {q:Rat}:zp l=some q↔zjy l q:=by
 unfold zp
 constructor
 rotate_left
 . intro h
   have e:=(ZH h).2.2.2
   simp only
   rw [<- e];exact if_pos h
 intro h
 simp only at h;generalize xS (yJ l) (zD (yC 47 (zq l))) (if has 47 (zq l) then zD (ys 47 (zq l)) else 1)=r at h
 split at h
 . rename_i h1;injection h with h;subst h;exact h1
 cases h
theorem Zr {l:List UInt8}:zp l=none↔∀ q,¬ zjy l q:=by
 constructor
 . intro h q hq;rw [yR.2 hq] at h;cases h
 intro h
 cases hr:zp l with
 | none=>rfl
 | some q=>exact absurd (yR.1 hr) (h q)
theorem yv {q:Rat} (h:zG 50000 q):zp (zh q)=some q:=yR.2 ⟨rfl,h⟩
theorem zvd {l:List UInt8} (h:ye (yC 47 (zq l))=false):zp l=none:=by
 rw [Zr]
 intro q hq
 have:=(ZH hq).1
 rw [h] at this;cases this
theorem zub {l:List UInt8} (h:yJ l=true) (h0:yC 47 (zq l)=[48]):zp l=none:=by
 rw [Zr]
 intro q hq
 exact (ZH hq).2.1 h h0
theorem Yd {l:List UInt8} (h:has 47 (zq l)=true) (h0:ye (ys 47 (zq l))=false\/ys 47 (zq l)=[48]\/ys 47 (zq l)=[49]\/yC 47 (zq l)=[48]):zp l=none:=by
 rw [Zr]
 intro q hq
 obtain ⟨h1,h2,h3,h4,_⟩:=(ZH hq).2.2.1 h
 rcases h0 with h0 | h0 | h0 | h0
 . rw [h0] at h1;cases h1
 . exact h2 h0
 . exact h3 h0
 . exact h4 h0
theorem Xt (s:Bool) (n:Nat):(xS s n 1).num=(if s then -(n:Int) else n)/\(xS s n 1).den=1:=XK (by simp) (by omega)
theorem zb8 {l:List UInt8} (h:ye (yC 47 (zq l))=true) (h0:yJ l=true->yC 47 (zq l)≠[48]) (hh:has 47 (zq l)=false):zp l=some (xS (yJ l) (zD (yC 47 (zq l))) 1):=by
 rw [yR]
 have:=zbe h h0 (by rw [hh];intro h;cases h)
 rw [hh] at this
 simpa using this
theorem zf2 {s:Bool} {n d:Nat} (hd:d≠0) (h:(xS s n d).den=d):Nat.Coprime n d:=by
 unfold xS at h
 rw [Rat.den_divInt,if_neg (by omega)] at h
 have hg:(d:Int).gcd (if s then -(n:Int) else n)=Nat.gcd n d:=by
  cases s<;>simp [Int.gcd,Nat.gcd_comm]
 rw [hg] at h
 have h1:0<Nat.gcd n d:=Nat.gcd_pos_of_pos_right _ (by omega)
 have h2:Nat.gcd n d ∣ d:=Nat.gcd_dvd_right n d
 obtain ⟨k,hk⟩:=h2
 have h3:d / Nat.gcd n d=k:=by
  conv=>lhs;lhs;rw [hk]
  exact Nat.mul_div_cancel_left _ h1
 have h4:(d:Int).natAbs=d:=Int.natAbs_natCast d
 rw [h4,h3] at h
 have h5:Nat.gcd n d*d=1*d:=by rw [Nat.one_mul];conv=>lhs;rhs;rw [<- h]
                               exact hk.symm
 exact Nat.eq_of_mul_eq_mul_right (by omega) h5
theorem zjf {l:List UInt8} (h:ye (yC 47 (zq l))=true) (h0:yJ l=true->yC 47 (zq l)≠[48]) (hh:has 47 (zq l)=true)
 (h1:ye (ys 47 (zq l))=true) (h2:ys 47 (zq l)≠[48]) (h3:ys 47 (zq l)≠[49]):
 zp l=if (xS (yJ l) (zD (yC 47 (zq l))) (zD (ys 47 (zq l)))).den=zD (ys 47 (zq l)) then some (xS (yJ l) (zD (yC 47 (zq l))) (zD (ys 47 (zq l)))) else none:=by
 have hz:zD (ys 47 (zq l))≠0:=by
  intro e
  have:=(Y3 h1).1
  rw [e,vD] at this
  exact h2 this.symm
 split
 . rename_i hd
   rw [yR];have:=zbe h h0 (fun _=>⟨h1,h2,h3,zf2 hz hd⟩);rw [hh] at this
   simpa using this
 rename_i hd
 rw [Zr];intro q hq
 apply hd
 exact (XK ((ZH hq).2.2.1 hh).2.2.2.2 hz).2
theorem zan {l:List UInt8} (h1:ye l=true) (h2:l≠[48]):zD l≠0:=by
 intro e
 have:=(Y3 h1).1
 rw [e,vD] at this
 exact h2 this.symm
theorem zaq {l:List UInt8} (h:ye l=true):len 4294967296 (zD l)<=50000:=by
 obtain ⟨h1,h2,h3⟩:=Y3 h
 have h4:=Xv (β:=4294967296) (n:=zD l) (by omega)
 rw [h1] at h4
 omega
theorem YI {l:List UInt8} (h:ye l=true):l.all xh=true/\l.length<=50000:=by
 obtain ⟨h1,h2,h3⟩:=Y3 h
 unfold xo at h3
 rw [Bool.and_eq_true] at h3
 exact ⟨h3.1,h2⟩
theorem zG.len {M:Nat} {q:Rat} (h:zG M q):Go.Proofs.YtacfcmdlgebhgaaGreat.len 4294967296 q.num.natAbs<=M/\Go.Proofs.YtacfcmdlgebhgaaGreat.len 4294967296 (q.den:Int).natAbs<=M:=
 ⟨Nat.le_trans (Xv (by omega)) h.1,by rw [Int.natAbs_natCast];exact Nat.le_trans (Xv (by omega)) h.2⟩
def vi (l:List UInt8):List UInt8:=if has 47 (zq l) then ys 47 (zq l) else [49]
theorem YT {q:Rat} (h:zG 50000 q):(zh q).length<=100002:=by
 obtain ⟨h1,h2⟩:=h
 unfold zh
 rw [List.length_append,List.length_append]
 have e1:(if q.num<0 then ([45]:List UInt8) else []).length<=1:=by split<;>simp
 have e2:(if q.den=1 then ([]:List UInt8) else 47 :: dec q.den).length<=50001:=by split<;>simp;omega
 omega
theorem zqo {l:List UInt8} (h:100002<l.length):zp l=none:=by
 rw [Zr]
 rintro q ⟨rfl,h2⟩
 have:=YT h2
 omega
theorem zpr {l:List UInt8} {q:Rat} (h:zjy l q):yC 47 (zq l)=dec q.num.natAbs/\vi l=dec q.den:=by
 obtain ⟨h1,h2,h3,h4⟩:=V1 h.1
 refine ⟨h2,?_⟩
 unfold vi
 rw [h3]
 by_cases hd:q.den=1
 . rw [hd,zen];simp
 rw [if_pos (by simpa using hd),h4 hd]
theorem Xh {l:List UInt8} (h:xo (yC 47 (zq l))=false\/xo (vi l)=false\/50000<(yC 47 (zq l)).length\/50000<(vi l).length\/zD (vi l)=0):zp l=none:=by
 rw [Zr]
 intro q hq
 obtain ⟨h1,h2⟩:=zpr hq
 rw [h1,h2] at h
 obtain ⟨_,h3,h4⟩:=hq
 rcases h with h | h | h | h | h
 . rw [V2] at h;cases h
 . rw [V2] at h;cases h
 . omega
 . omega
 . rw [Z9] at h;exact q.den_nz h
theorem zt8 (l:List UInt8):(if has 47 (zq l) then zD (ys 47 (zq l)) else 1)=zD (vi l):=by
 unfold vi
 split
 . rfl
 rfl
theorem zri {l:List UInt8} (h1:xo (yC 47 (zq l))=true) (h2:xo (vi l)=true) (h3:(yC 47 (zq l)).length<=50000) (h4:(vi l).length<=50000):
 zp l=if zh (xS (yJ l) (zD (yC 47 (zq l))) (zD (vi l)))=l then some (xS (yJ l) (zD (yC 47 (zq l))) (zD (vi l))) else none:=by
 unfold zp
 rw [zt8]
 simp only
 generalize hq:xS (yJ l) (zD (yC 47 (zq l))) (zD (vi l))=q
 by_cases he:zh q=l
 rotate_left
 . rw [if_neg he,if_neg (fun h=>he h.1.symm)]
 rw [if_pos he]
 have hs:zG 50000 q:=by
  obtain ⟨e1,e2,e3,e4⟩:=V1 he.symm
  constructor
  . rw [<- e2];exact h3
  by_cases hd:q.den=1
  . rw [hd,zen];decide
  rw [<- e4 hd]
  unfold vi at h4;rw [e3,if_pos (by simpa using hd)] at h4;exact h4
 rw [if_pos ⟨he.symm,hs⟩]
def zim (b:Bool) (n:Nat):Int:=if b then -(n:Int) else n
theorem X2 (b:Bool) (n d:Nat):xS b n d=Rat.divInt (zim b n) d:=rfl
theorem zbi (x:Rat):x.num=zim (decide (x.num<0)) x.num.natAbs:=by
 unfold zim
 by_cases h:x.num<0
 . rw [decide_eq_true h,if_pos rfl];omega
 rw [decide_eq_false h,if_neg (by decide)];omega
theorem ZA (x:Rat):Rat.divInt x.num x.den=x:=Rat.num_divInt_den x
theorem zul (x:Rat):x=Rat.divInt (zim (decide (x.num<0)) x.num.natAbs) x.den:=by
 rw [<- zbi]
 exact (ZA x).symm
theorem zm2 (a b:Bool) (n m:Nat):zim a n*zim b m=zim (a != b) (n*m):=by
 unfold zim
 cases a<;>cases b<;>simp [Int.neg_mul,Int.mul_neg]
theorem zx1 (x y:Rat):x*y=xS (decide (x.num<0) != decide (y.num<0)) (x.num.natAbs*y.num.natAbs) (x.den*y.den):=by
 rw [X2, <- zm2, <- zbi, <- zbi,Int.natCast_mul, <- Rat.divInt_mul_divInt,ZA,ZA]
theorem zxo (y:Rat):y⁻¹=Rat.divInt (zim (decide (y.num<0)) y.den) y.num.natAbs:=by
 conv=>lhs;rw [<- ZA y,Rat.inv_divInt]
 unfold zim
 by_cases h:y.num<0
 . rw [decide_eq_true h,if_pos rfl]
   have:y.num= -((y.num.natAbs:Nat):Int):=by omega
   conv=>lhs;rw [this,Rat.divInt_neg']
 rw [decide_eq_false h,if_neg (by decide)]
 have:y.num=((y.num.natAbs:Nat):Int):=by omega
 conv=>lhs;rw [this]
theorem zxf (x y:Rat):x / y=xS (decide (x.num<0) != decide (y.num<0)) (x.num.natAbs*y.den) (x.den*y.num.natAbs):=by
 rw [Rat.div_def,zxo,X2, <- zm2,Int.natCast_mul, <- Rat.divInt_mul_divInt, <- zul]
theorem zk7 (x y:Rat):x+y=Rat.divInt (zim (decide (x.num<0)) (x.num.natAbs*y.den)+zim (decide (y.num<0)) (y.num.natAbs*x.den)) ((x.den*y.den:Nat):Int):=by
 have e1:zim (decide (x.num<0)) (x.num.natAbs*y.den)=x.num*y.den:=by
  conv=>rhs;rw [zbi x]
  unfold zim;split<;>simp [Int.neg_mul]
 have e2:zim (decide (y.num<0)) (y.num.natAbs*x.den)=y.num*x.den:=by
  conv=>rhs;rw [zbi y]
  unfold zim;split<;>simp [Int.neg_mul]
 rw [e1,e2]
 conv=>lhs;rw [<- ZA x, <- ZA y]
 rw [Rat.divInt_add_divInt _ _ (by have:=x.den_nz;omega) (by have:=y.den_nz;omega),Int.natCast_mul]
theorem zjn {x y:Rat} (h:decide (x.num<0)=decide (y.num<0)):x+y=xS (decide (x.num<0)) (x.num.natAbs*y.den+y.num.natAbs*x.den) (x.den*y.den):=by
 rw [zk7,X2, <- h]
 congr 1
 unfold zim;split<;>push_cast<;>omega
theorem zqh {x y:Rat} (h:decide (x.num<0)≠decide (y.num<0)) (hle:y.num.natAbs*x.den<=x.num.natAbs*y.den):x+y=xS (decide (x.num<0)) (x.num.natAbs*y.den - y.num.natAbs*x.den) (x.den*y.den):=by
 rw [zk7,X2]
 congr 1
 generalize x.num.natAbs*y.den=a at*
 generalize y.num.natAbs*x.den=b at*
 cases hx:decide (x.num<0)<;>cases hy:decide (y.num<0)<;>simp [hx,hy] at h<;>simp [zim]<;>omega
theorem zo9 {x y:Rat} (h:decide (x.num<0)≠decide (y.num<0)) (hle:x.num.natAbs*y.den<y.num.natAbs*x.den):x+y=xS (decide (y.num<0)) (y.num.natAbs*x.den - x.num.natAbs*y.den) (x.den*y.den):=by
 rw [zk7,X2]
 congr 1
 generalize x.num.natAbs*y.den=a at*
 generalize y.num.natAbs*x.den=b at*
 cases hx:decide (x.num<0)<;>cases hy:decide (y.num<0)<;>simp [hx,hy] at h<;>simp [zim]<;>omega
def yi (n:Nat) (f:Nat->Rat):Rat:=match n with
 | 0=>0
 | n+1=>yi n f+f n
theorem xk (f:Nat->Rat):yi 0 f=0:=rfl
theorem ym (n:Nat) (f:Nat->Rat):yi (n+1) f=yi n f+f n:=rfl
theorem zJ {n:Nat} {f g:Nat->Rat} (h:∀ k,k<n->f k=g k):yi n f=yi n g:=by
 induction n with
 | zero=>rfl
 | succ n ih=>rw [ym,ym,ih (fun k hk=>h k (by omega)),h n (by omega)]
theorem vY (n:Nat):yi n (fun _=>0)=0:=by
 induction n with
 | zero=>rfl
 | succ n ih=>rw [ym,ih];grind
theorem ZK (n:Nat) (f g:Nat->Rat):yi n (fun k=>f k+g k)=yi n f+yi n g:=by
 induction n with
 | zero=>rw [xk,xk,xk];grind
 | succ n ih=>rw [ym,ym,ym,ih];grind
theorem zbq (n:Nat) (f g:Nat->Rat):yi n (fun k=>f k - g k)=yi n f - yi n g:=by
 induction n with
 | zero=>rw [xk,xk,xk];grind
 | succ n ih=>rw [ym,ym,ym,ih];grind
theorem Xq (n:Nat) (a:Rat) (f:Nat->Rat):yi n (fun k=>a*f k)=a*yi n f:=by
 induction n with
 | zero=>rw [xk,xk];grind
 | succ n ih=>rw [ym,ym,ih];grind
theorem zq0 (n:Nat) (f:Nat->Rat):yi n (fun k=> -(f k))= -(yi n f):=by
 induction n with
 | zero=>rw [xk,xk];grind
 | succ n ih=>rw [ym,ym,ih];grind
theorem zpd (n m:Nat) (f:Nat->Nat->Rat):yi n (fun i=>yi m (f i))=yi m (fun j=>yi n (fun i=>f i j)):=by
 induction n with
 | zero=>simp only [xk];rw [vY]
 | succ n ih=>rw [ym,ih, <- ZK];rfl
theorem zc6 {n:Nat} {f:Nat->Rat} (h:∀ k,k<n->0<=f k):0<=yi n f:=by
 induction n with
 | zero=>rw [xk];grind
 | succ n ih=>rw [ym];have:=ih (fun k hk=>h k (by omega));have:=h n (by omega);grind
theorem zum {n:Nat} {f g:Nat->Rat} (h:∀ k,k<n->f k<=g k):yi n f<=yi n g:=by
 induction n with
 | zero=>rw [xk,xk];grind
 | succ n ih=>rw [ym,ym];have:=ih (fun k hk=>h k (by omega));have:=h n (by omega);grind
theorem zhm {n:Nat} {f:Nat->Rat} (h:∀ k,k<n->0<=f k) (h0:yi n f=0):∀ k,k<n->f k=0:=by
 induction n with
 | zero=>intro k hk;omega
 | succ n ih=>
   rw [ym] at h0;have h1:=zc6 (n:=n) (f:=f) (fun k hk=>h k (by omega));have h2:=h n (by omega);intro k hk
   rcases Nat.lt_or_ge k n with h3 | h3
   . exact ih (fun k hk=>h k (by omega)) (by grind) k h3
   . obtain rfl:k=n:=by omega
     grind
theorem vH {n:Nat} {f:Nat->Rat} {j:Nat} (hj:j<n) (h:∀ k,k<n->k≠j->f k=0):yi n f=f j:=by
 induction n with
 | zero=>omega
 | succ n ih=>
   rw [ym]
   rcases Nat.lt_or_ge j n with h3 | h3
   . rw [ih h3 (fun k hk hne=>h k (by omega) hne),h n (by omega) (by omega)];grind
   . obtain rfl:j=n:=by omega
     rw [zJ (g:=fun _=>0) (fun k hk=>h k (by omega) (by omega)),vY];grind
theorem zke {n:Nat} {f:Nat->Rat} {i j:Nat} (hi:i<n) (hj:j<n) (hne:i≠j) (h:∀ k,k<n->k≠i->k≠j->f k=0):yi n f=f i+f j:=by
 have e:yi n f=yi n (fun k=>(if k=i then f i else 0)+(if k=j then f j else 0)):=by
  apply zJ
  intro k hk
  by_cases h1:k=i
  . subst h1;rw [if_pos rfl,if_neg hne];grind
  by_cases h2:k=j
  . subst h2;rw [if_neg h1,if_pos rfl];grind
  rw [if_neg h1,if_neg h2,h k hk h1 h2];grind
 rw [e,ZK,vH hi (fun k _ hk=>if_neg hk),vH hj (fun k _ hk=>if_neg hk),if_pos rfl,if_pos rfl]
abbrev Tab:=Nat->Nat->Rat
def vG (m:Nat) (A:Tab) (x:Nat->Rat):Prop:=∀ i,i<m->yi m (fun c=>A i c*x c)=A i m
def zip (m:Nat) (A:Tab):Prop:=∀ x:Nat->Rat,(∀ i,i<m->yi m (fun c=>A i c*x c)=0)->∀ c,c<m->x c=0
def zf1 (m k:Nat) (A:Tab):Prop:=∀ j,j<k->A j j≠0/\∀ i,i<m->i≠j->A i j=0
def swapped (A:Tab) (k p:Nat):Tab:=fun i=>if i=k then A p else if i=p then A k else A i
def freed (A:Tab) (k n:Nat):Tab:=fun i c=>if i<n/\i≠k then A i c - A i k / A k k*A k c else A i c
theorem pivot {m k:Nat} {A:Tab} (hO:zip m A) (hC:zf1 m k A) (hk:k<m):∃ p,k<=p/\p<m/\A p k≠0:=by
 apply Classical.byContradiction
 intro hno
 have h0:∀ p,k<=p->p<m->A p k=0:=fun p h1 h2=>Classical.byContradiction fun h3=>hno ⟨p,h1,h2,h3⟩
 have:=hO (fun c=>if c<k then -(A c k / A c c) else if c=k then 1 else 0) (fun i hi=>by
  by_cases hik:i<k
  . rw [zke (i:=i) (j:=k) hi hk (by omega)]
    . rw [if_pos hik,if_neg (by omega),if_pos rfl]
      have:=(hC i hik).1
      grind
    intro c hc h1 h2
    by_cases hck:c<k
    . rw [(hC c hck).2 i hi (by omega)];grind
    rw [if_neg hck,if_neg h2];grind
  . rw [vH (j:=k) hk]
    . rw [h0 i (by omega) hi];grind
    intro c hc h1
    by_cases hck:c<k
    . rw [(hC c hck).2 i hi (by omega)];grind
    rw [if_neg hck,if_neg h1];grind) k hk
 rw [if_neg (by omega),if_pos rfl] at this
 exact absurd this (by grind)
theorem zip.swapped {m k p:Nat} {A:Tab} (h:zip m A) (hk:k<m) (hp:p<m):zip m (swapped A k p):=by
 intro x hx
 apply h x
 intro i hi
 by_cases h1:i=k
 . subst h1
   have:=hx p hp;unfold Go.Proofs.YtacfcmdlgebhgaaGreat.swapped at this
   by_cases h2:p=i
   . subst h2;simpa using this
   simpa [h2] using this
 by_cases h2:i=p
 rotate_left
 . have:=hx i hi
   simpa [Go.Proofs.YtacfcmdlgebhgaaGreat.swapped,h1,h2] using this
 subst h2
 have:=hx k hk
 simpa [Go.Proofs.YtacfcmdlgebhgaaGreat.swapped] using this
theorem vG.unswap {m k p:Nat} {A:Tab} {x:Nat->Rat} (hx:vG m (swapped A k p) x) (hk:k<m) (hp:p<m):vG m A x:=by
 intro i hi
 by_cases h1:i=k
 . subst h1
   have:=hx p hp;unfold swapped at this
   by_cases h2:p=i
   . subst h2;simpa using this
   simpa [h2] using this
 by_cases h2:i=p
 rotate_left
 . have:=hx i hi
   simpa [swapped,h1,h2] using this
 subst h2
 have:=hx k hk
 simpa [swapped] using this
theorem zf1.swapped {m k p:Nat} {A:Tab} (h:zf1 m k A) (hp:k<=p) (hpm:p<m):zf1 m k (swapped A k p):=by
 intro j hj
 unfold Go.Proofs.YtacfcmdlgebhgaaGreat.swapped
 refine ⟨?_,fun i hi hne=>?_⟩
 . rw [if_neg (by omega),if_neg (by omega)];exact (h j hj).1
 by_cases h1:i=k
 . rw [if_pos h1];exact (h j hj).2 p hpm (by omega)
 rw [if_neg h1]
 by_cases h2:i=p
 . rw [if_pos h2];exact (h j hj).2 k (by omega) (by omega)
 rw [if_neg h2];exact (h j hj).2 i hi hne
theorem zj6 {m k n:Nat} {A:Tab} (x:Nat->Rat) (i:Nat) (h:i<n/\i≠k):
 yi m (fun c=>freed A k n i c*x c)=yi m (fun c=>A i c*x c) - A i k / A k k*yi m (fun c=>A k c*x c):=by
 rw [<- Xq, <- zbq]
 apply zJ
 intro c _
 unfold freed
 rw [if_pos h];grind
theorem Y5 {k n:Nat} {A:Tab} (i:Nat) (h:¬ (i<n/\i≠k)):freed A k n i=A i:=by
 funext c;unfold freed;rw [if_neg h]
theorem zip.freed {m k n:Nat} {A:Tab} (h:zip m A) (hk:k<m):zip m (freed A k n):=by
 intro x hx
 apply h x
 intro i hi
 have h1:=hx k hk
 rw [Y5 k (by omega)] at h1
 have h2:=hx i hi
 by_cases h3:i<n/\i≠k
 rotate_left
 . rwa [Y5 i h3] at h2
 rw [zj6 x i h3,h1] at h2
 grind
theorem vG.unfree {m k n:Nat} {A:Tab} {x:Nat->Rat} (hx:vG m (freed A k n) x) (hk:k<m):vG m A x:=by
 intro i hi
 have h1:=hx k hk
 rw [Y5 k (by omega)] at h1
 have h2:=hx i hi
 by_cases h3:i<n/\i≠k
 rotate_left
 . rwa [Y5 i h3] at h2
 rw [zj6 x i h3,h1] at h2
 unfold freed at h2;rw [if_pos h3] at h2
 grind
theorem zf1.freed {m k:Nat} {A:Tab} (h:zf1 m k A) (hk:k<m) (h0:A k k≠0):zf1 m (k+1) (freed A k m):=by
 intro j hj
 unfold Go.Proofs.YtacfcmdlgebhgaaGreat.freed
 refine ⟨?_,fun i hi hne=>?_⟩
 . by_cases h1:j=k
   . subst h1;rw [if_neg (by omega)];exact h0
   rw [if_pos ⟨by omega,h1⟩,(h j (by omega)).2 k hk (by omega)]
   have:=(h j (by omega)).1
   grind
 by_cases h1:i=k
 . subst h1
   rw [if_neg (by omega)];exact (h j (by omega)).2 i hi hne
 rw [if_pos ⟨hi,h1⟩]
 by_cases h2:j=k
 . subst h2;grind
 rw [(h j (by omega)).2 i hi hne,(h j (by omega)).2 k hk (by omega)];grind
theorem zf1.solves {m:Nat} {A:Tab} (h:zf1 m m A):vG m A (fun c=>A c m / A c c):=by
 intro i hi
 rw [vH (j:=i) hi]
 . have:=(h i hi).1
   grind
 intro c hc hne
 rw [(h c hc).2 i hi (by omega)];grind
def zqm (m:Nat) (A:Tab) (C S:Nat):Prop:=∃ (M:Nat->Nat->Int) (s:Nat->Int),∀ i,i<m->s i≠0/\(s i).natAbs<=S/\∀ c,c<=m->A i c*s i=M i c/\(M i c).natAbs<=C
theorem zqm.swapped {m k p C S:Nat} {A:Tab} (h:zqm m A C S) (hk:k<m) (hp:p<m):zqm m (swapped A k p) C S:=by
 obtain ⟨M,s,h⟩:=h
 refine ⟨fun i=>if i=k then M p else if i=p then M k else M i,fun i=>if i=k then s p else if i=p then s k else s i,fun i hi=>?_⟩
 unfold Go.Proofs.YtacfcmdlgebhgaaGreat.swapped
 by_cases h1:i=k
 . simp only [h1,if_true];exact h p hp
 by_cases h2:i=p
 rotate_left
 . simp only [h1,h2,if_false];exact h i hi
 by_cases h3:p=k
 . omega
 simp only [h2,h3,if_true,if_false];exact h k hk
theorem Zx {a:Int} (h:a≠0):(a:Rat)≠0:=by
 intro e
 exact h (by exact_mod_cast e)
theorem zt3 {a b c d:Rat} {s t m1 m2 m3 m4:Int} (ht:t≠0) (h1:a*s=m1) (h2:b*s=m2) (h3:c*t=m3) (h4:d*t=m4) (h0:c≠0):
 (a - b / c*d)*((s*m3:Int):Rat)=((m3*m1 - m2*m4:Int):Rat):=by
 have:=Zx ht
 push_cast
 rw [<- h1, <- h2, <- h3, <- h4]
 grind
theorem zqm.freed {m k n C S:Nat} {A:Tab} (h:zqm m A C S) (hk:k<m) (h0:A k k≠0) (hn:n<=m):zqm m (freed A k n) (2*C*C) (S*C+S):=by
 obtain ⟨M,s,h⟩:=h
 obtain ⟨k1,k2,k3⟩:=h k hk
 obtain ⟨k4,k5⟩:=k3 k (by omega)
 have hMk:M k k≠0:=by
  intro e
  rw [e] at k4
  have:=Zx k1
  have e0:((0:Int):Rat)=0:=rfl
  rw [e0] at k4
  grind
 have hC:0<C:=by omega
 have hCC:C<=2*C*C:=by
  calc C<=C*C:=Nat.le_mul_of_pos_left _ hC
   _<=2*C*C:=by rw [Nat.mul_assoc];omega
 refine ⟨fun i c=>if i<n/\i≠k then M k k*M i c - M i k*M k c else M i c,fun i=>if i<n/\i≠k then s i*M k k else s i,fun i hi=>?_⟩
 obtain ⟨j1,j2,j3⟩:=h i hi
 unfold Go.Proofs.YtacfcmdlgebhgaaGreat.freed
 by_cases hc:i<n/\i≠k
 rotate_left
 . simp only [hc,if_false]
   refine ⟨j1,by omega,fun c hcm=>⟨(j3 c hcm).1,?_⟩⟩;have:=(j3 c hcm).2
   omega
 simp only [hc,if_true,not_false_eq_true,and_self,ne_eq]
 refine ⟨Int.mul_ne_zero j1 hMk,?_,fun c hcm=>⟨?_,?_⟩⟩
 . rw [Int.natAbs_mul]
   have:=Nat.mul_le_mul j2 k5
   omega
 . exact zt3 k1 (j3 c hcm).1 (j3 k (by omega)).1 k4 (k3 c hcm).1 h0
 . have e1:(M k k*M i c - M i k*M k c).natAbs<=(M k k).natAbs*(M i c).natAbs+(M i k).natAbs*(M k c).natAbs:=by
    rw [<- Int.natAbs_mul, <- Int.natAbs_mul];omega
   have e2:=Nat.mul_le_mul k5 (j3 c hcm).2;have e3:=Nat.mul_le_mul (j3 k (by omega)).2 (k3 c hcm).2;rw [Nat.mul_assoc]
   omega
def yA (n:Nat) (pf pt:Nat->Nat) (c:Nat->Rat) (h:Nat->Rat) (k:Nat):Rat:=
 yi n (fun i=>(if pf i=k then c i*(h (pf i) - h (pt i)) else 0)+(if pt i=k then c i*(h (pt i) - h (pf i)) else 0))
theorem zaf (pf pt:Nat->Nat) (c h:Nat->Rat) (k:Nat):yA 0 pf pt c h k=0:=rfl
theorem YH (n:Nat) (pf pt:Nat->Nat) (c h:Nat->Rat) (k:Nat):yA (n+1) pf pt c h k=yA n pf pt c h k+((if pf n=k then c n*(h (pf n) - h (pt n)) else 0)+(if pt n=k then c n*(h (pt n) - h (pf n)) else 0)):=rfl
theorem zgu (n:Nat) (pf pt:Nat->Nat) (c g h:Nat->Rat) (k:Nat):yA n pf pt c (fun j=>g j - h j) k=yA n pf pt c g k - yA n pf pt c h k:=by
 unfold yA
 rw [<- zbq]
 apply zJ
 intro i _
 by_cases h1:pf i=k<;>by_cases h2:pt i=k<;>simp only [h1,h2,if_true,if_false]<;>grind
theorem zpc (n:Nat) (pf pt:Nat->Nat) (c g:Nat->Rat) (k:Nat):yA n pf pt c (fun j=> -(g j)) k= -(yA n pf pt c g k):=by
 unfold yA
 rw [<- zq0]
 apply zJ
 intro i _
 by_cases h1:pf i=k<;>by_cases h2:pt i=k<;>simp only [h1,h2,if_true,if_false]<;>grind
theorem zjt {n:Nat} {pf pt:Nat->Nat} {c g h:Nat->Rat} {k:Nat} (e:∀ i,i<n->g (pf i)=h (pf i)/\g (pt i)=h (pt i)):yA n pf pt c g k=yA n pf pt c h k:=by
 unfold yA
 apply zJ
 intro i hi
 rw [(e i hi).1,(e i hi).2]
inductive xg (np:Nat) (pf pt:Nat->Nat) (S:Nat->Prop):Nat->Prop
 | base {k:Nat}:S k->xg np pf pt S k
 | right {i:Nat}:i<np->xg np pf pt S (pf i)->xg np pf pt S (pt i)
 | left {i:Nat}:i<np->xg np pf pt S (pt i)->xg np pf pt S (pf i)
theorem zyk (g:Nat->Rat) (N:Nat) (hN:0<N):∃ k,k<N/\∀ j,j<N->g j<=g k:=by
 induction N with
 | zero=>omega
 | succ N ih=>
   rcases Nat.eq_zero_or_pos N with h0 | h0
   . subst h0
     exact ⟨0,by omega,fun j hj=>by obtain rfl:j=0:=by omega
                                    grind⟩
   . obtain ⟨k,hk,h⟩:=ih h0
     by_cases h1:g N<=g k
     . refine ⟨k,by omega,fun j hj=>?_⟩
       rcases Nat.lt_or_ge j N with h2 | h2
       . exact h j h2
       . obtain rfl:j=N:=by omega
         exact h1
     refine ⟨N,by omega,fun j hj=>?_⟩
     rcases Nat.lt_or_ge j N with h2 | h2
     . have:=h j h2;grind
     . obtain rfl:j=N:=by omega
       grind
structure YN (N np:Nat) (pf pt:Nat->Nat) (c:Nat->Rat):Prop where
 from_lt:∀ i,i<np->pf i<N
 to_lt:∀ i,i<np->pt i<N
 ne:∀ i,i<np->pf i≠pt i
 pos:∀ i,i<np->0<c i
theorem zgt {np:Nat} {pf pt:Nat->Nat} {c g:Nat->Rat} {N j:Nat} (hp:YN N np pf pt c) (hmax:∀ k,k<N->g k<=g j) (hf:yA np pf pt c g j=0):
 ∀ i,i<np->(pf i=j->g (pt i)=g j)/\(pt i=j->g (pf i)=g j):=by
 intro i hi
 have hz:=zhm (fun k hk=>?_) hf i hi
 . have hc:=hp.pos i hi
   have hne:=hp.ne i hi;refine ⟨fun h=>?_,fun h=>?_⟩
   . subst h
     rw [if_pos rfl,if_neg (by omega)] at hz
     grind
   subst h
   rw [if_neg (by omega),if_pos rfl] at hz
   grind
 have hc:=hp.pos k hk
 have h1:=hmax _ (hp.from_lt k hk);have h2:=hmax _ (hp.to_lt k hk);have hne:=hp.ne k hk
 by_cases h3:pf k=j
 . rw [if_pos h3,if_neg (by omega),h3]
   have:=Rat.mul_nonneg (a:=c k) (b:=g j - g (pt k)) (by grind) (by grind)
   grind
 rw [if_neg h3]
 by_cases h4:pt k=j
 rotate_left
 . rw [if_neg h4];grind
 rw [if_pos h4,h4]
 have:=Rat.mul_nonneg (a:=c k) (b:=g j - g (pf k)) (by grind) (by grind)
 grind
theorem ze9 {N np:Nat} {pf pt:Nat->Nat} {c g:Nat->Rat} {S F:Nat->Prop} (hp:YN N np pf pt c) (hS:∀ k,S k->¬ F k)
 (h0:∀ k,k<N->¬ F k->g k=0) (hf:∀ k,k<N->F k->yA np pf pt c g k=0) (hj:∀ k,k<N->F k->xg np pf pt S k) (hSN:∀ k,S k->k<N):
 ∀ k,k<N->g k<=0:=by
 intro k hk
 obtain ⟨m,hm,hmax⟩:=zyk g N (by omega)
 apply Classical.byContradiction
 intro hpos
 have hM:0<g m:=by have:=hmax k hk;grind
 have hmF:F m:=Classical.byContradiction fun h=>by have:=h0 m hm h;grind
 have hne:∀ j,xg np pf pt S j->g j≠g m:=by
  intro j hJ
  induction hJ with
  | base hs=>
    intro e;have:=h0 _ (hSN _ hs) (hS _ hs)
    grind
  | @right i hi hJ ih=>
    intro e;have hF:F (pt i):=Classical.byContradiction fun h=>by have:=h0 _ (hp.to_lt i hi) h;grind
    have h1:=zgt hp (j:=pt i) (fun k hk=>by rw [e];exact hmax k hk) (hf _ (hp.to_lt i hi) hF) i hi;exact ih ((h1.2 rfl).trans e)
  | @left i hi hJ ih=>
    intro e;have hF:F (pf i):=Classical.byContradiction fun h=>by have:=h0 _ (hp.from_lt i hi) h;grind
    have h1:=zgt hp (j:=pf i) (fun k hk=>by rw [e];exact hmax k hk) (hf _ (hp.from_lt i hi) hF) i hi;exact ih ((h1.1 rfl).trans e)
 exact hne m (hj m hm hmF) rfl
theorem zbg {N np:Nat} {pf pt:Nat->Nat} {c g:Nat->Rat} {S F:Nat->Prop} (hp:YN N np pf pt c) (hS:∀ k,S k->¬ F k)
 (h0:∀ k,k<N->¬ F k->g k=0) (hf:∀ k,k<N->F k->yA np pf pt c g k=0) (hj:∀ k,k<N->F k->xg np pf pt S k) (hSN:∀ k,S k->k<N):
 ∀ k,k<N->g k=0:=by
 intro k hk
 have h1:=ze9 hp hS h0 hf hj hSN k hk
 have h2:=ze9 (g:=fun j=> -(g j)) hp hS (fun k hk h=>by rw [h0 k hk h];rfl) (fun k hk h=>by rw [zpc,hf k hk h];rfl) hj hSN k hk
 grind
def Yp (N np:Nat) (pf pt:Nat->Nat) (c:Nat->Rat) (fx:Nat->Option Rat) (wl:Nat->Rat) (asked:Nat->Bool) (h:Nat->Rat):Prop:=
 ∀ k,k<N->match fx k with
  | some v=>h k=v
  | none=>if asked k=true then yA np pf pt c h k= -(wl k) else h k=0
def zyf (fx:Nat->Option Rat) (asked:Nat->Bool) (k:Nat):Prop:=fx k=none/\asked k=true
def zzp (N np:Nat) (pf pt:Nat->Nat) (fx:Nat->Option Rat) (asked:Nat->Bool):Prop:=∀ k,k<N->zyf fx asked k->xg np pf pt (fun j=>j<N/\fx j≠none) k
def lin (m:Nat) (A:Tab) (i:Nat) (x:Nat->Rat):Rat:=yi m (fun c=>A i c*x c) - A i m
def xx (A:Tab) (i c:Nat) (d:Rat):Tab:=fun i' c' =>if i' =i/\c' =c then A i c+d else A i' c'
theorem V7 {m:Nat} {A:Tab} {i c:Nat} {d:Rat} (i' :Nat) (x:Nat->Rat) (hc:c<=m):
 lin m (xx A i c d) i' x=lin m A i' x+(if i' =i then (if c=m then -d else d*x c) else 0):=by
 unfold lin xx
 by_cases h1:i' =i
 rotate_left
 . have e:yi m (fun c' =>(if i' =i/\c' =c then A i c+d else A i' c')*x c')=yi m (fun c' =>A i' c' *x c'):=zJ (fun k hk=>by rw [if_neg (fun h=>h1 h.1)])
   rw [e,if_neg (fun h=>h1 h.1),if_neg h1]
   grind
 subst h1
 by_cases h2:c=m
 . subst h2
   have e:yi c (fun c' =>(if i' =i' /\c' =c then A i' c+d else A i' c')*x c')=yi c (fun c' =>A i' c' *x c'):=zJ (fun k hk=>by rw [if_neg (by omega)]);rw [e];simp only [and_self,if_true]
   grind
 have e:yi m (fun c' =>(if i' =i' /\c' =c then A i' c+d else A i' c')*x c')=yi m (fun c' =>A i' c' *x c' +(if c' =c then d*x c else 0)):=by
  apply zJ
  intro k hk
  by_cases h3:k=c
  . subst h3;simp only [and_self,if_true];grind
  rw [if_neg (fun h=>h3 h.2),if_neg h3];grind
 have e2:yi m (fun c' =>if c' =c then d*x c else 0)=d*x c:=by rw [vH (j:=c) (by omega) (fun k _ hk=>if_neg hk),if_pos rfl]
 rw [e,ZK,e2,if_neg (fun h=>h2 h.2.symm),if_pos rfl,if_neg h2]
 grind
theorem Xk {m:Nat} {A:Tab} {x:Nat->Rat}:vG m A x↔∀ i,i<m->lin m A i x=0:=by
 unfold vG lin
 constructor
 . intro h i hi
   rw [h i hi];grind
 intro h i hi
 have:=h i hi
 grind
theorem zea {m:Nat} {A:Tab} (h:∀ x y:Nat->Rat,(∀ i,i<m->lin m A i x=lin m A i y)->∀ c,c<m->x c=y c):zip m A:=by
 intro x hx c hc
 refine h x (fun _=>0) (fun i hi=>?_) c hc
 unfold lin
 rw [hx i hi]
 have e:yi m (fun c=>A i c*0)=yi m (fun _=>0):=zJ (fun k _=>by grind)
 rw [e,vY]
def Sz (X:Nat) (q:Rat):Prop:=q.num.natAbs<=X/\q.den<=X
theorem Sz.mono {X Y:Nat} {q:Rat} (h:Sz X q) (hXY:X<=Y):Sz Y q:=⟨Nat.le_trans h.1 hXY,Nat.le_trans h.2 hXY⟩
theorem zkk {X:Nat} {q:Rat} {s M:Int} (hs:s≠0) (h:q*s=M) (h1:M.natAbs<=X) (h2:s.natAbs<=X):Sz X q:=by
 have e:q=Rat.divInt M s:=by
  have h3:=Zx hs
  rw [Rat.divInt_eq_div, <- h]
  grind
 have hg:(s.gcd M:Int) ∣ s.sign*M:=Int.dvd_trans (Int.gcd_dvd_right s M) (Int.dvd_mul_left _ _)
 have hg0:0<s.gcd M:=Int.gcd_pos_of_ne_zero_left _ hs
 have hsn:(s.sign*M).natAbs<=M.natAbs:=by
  rw [Int.natAbs_mul,Int.natAbs_sign,if_neg hs];omega
 constructor
 rotate_left
 . rw [e,Rat.den_divInt,if_neg hs]
   exact Nat.le_trans (Nat.div_le_self _ _) h2
 rw [e,Rat.num_divInt]
 obtain ⟨t,ht⟩:=hg;rw [ht,Int.mul_ediv_cancel_left _ (by omega)];rw [ht,Int.natAbs_mul] at hsn;have h3:t.natAbs<=(s.gcd M:Int).natAbs*t.natAbs:=Nat.le_mul_of_pos_left _ (by simpa using hg0)
 omega
theorem zln (q:Rat):((q.den:Int):Rat)≠0:=Zx (by have:=q.den_nz;omega)
theorem VZ (q:Rat):q*((q.den:Int):Rat)=(q.num:Rat):=by
 have h:=zln q
 conv=>lhs;lhs;rw [<- Rat.num_divInt_den q]
 rw [Rat.divInt_eq_div]
 grind
theorem Sz.zero:Sz 1 0:=⟨by decide,by decide⟩
theorem Sz.one:Sz 1 1:=⟨by decide,by decide⟩
theorem Sz.neg {X:Nat} {q:Rat} (h:Sz X q):Sz X (-q):=⟨by rw [Rat.neg_num,Int.natAbs_neg];exact h.1,by rw [Rat.neg_den];exact h.2⟩
theorem Sz.mul {X Y:Nat} {p q:Rat} (hp:Sz X p) (hq:Sz Y q):Sz (X*Y) (p*q):=by
 refine zkk (s:=(p.den:Int)*q.den) (M:=p.num*q.num) (Int.mul_ne_zero (by have:=p.den_nz;omega) (by have:=q.den_nz;omega)) ?_ ?_ ?_
 . have h1:=VZ p
   have h2:=VZ q
   push_cast at h1 h2 |-
   rw [<- h1, <- h2];grind
 . rw [Int.natAbs_mul];exact Nat.mul_le_mul hp.1 hq.1
 . rw [Int.natAbs_mul];exact Nat.mul_le_mul (by simpa using hp.2) (by simpa using hq.2)
theorem Sz.add {X Y:Nat} {p q:Rat} (hp:Sz X p) (hq:Sz Y q):Sz (2*(X*Y)) (p+q):=by
 refine zkk (s:=(p.den:Int)*q.den) (M:=p.num*q.den+q.num*p.den) (Int.mul_ne_zero (by have:=p.den_nz;omega) (by have:=q.den_nz;omega)) ?_ ?_ ?_
 . have h1:=VZ p
   have h2:=VZ q
   push_cast at h1 h2 |-
   rw [<- h1, <- h2];grind
 . have h1:(p.num*q.den+q.num*p.den).natAbs<=(p.num*q.den).natAbs+(q.num*p.den).natAbs:=by omega
   rw [Int.natAbs_mul,Int.natAbs_mul] at h1;have h2:=Nat.mul_le_mul hp.1 (show (q.den:Int).natAbs<=Y by simpa using hq.2);have h3:=Nat.mul_le_mul hq.1 (show (p.den:Int).natAbs<=X by simpa using hp.2);rw [Nat.mul_comm Y X] at h3
   omega
 . rw [Int.natAbs_mul]
   have:=Nat.mul_le_mul (show (p.den:Int).natAbs<=X by simpa using hp.2) (show (q.den:Int).natAbs<=Y by simpa using hq.2)
   omega
theorem Sz.short {X e:Nat} {q:Rat} (h:Sz X q) (hX:X<10 ^ e) (he:0<e):zG e q:=⟨XM (by have:=h.1;omega) he,XM (by have:=h.2;omega) he⟩
theorem zG.sz {e:Nat} {q:Rat} (h:zG e q):Sz (10 ^ e) q:=⟨Nat.le_of_lt (vL h.1),Nat.le_of_lt (vL h.2)⟩
abbrev Dz (e:Nat) (q:Rat):Prop:=Sz (10 ^ e) q
theorem Dz.add {e f g:Nat} {p q:Rat} (hp:Dz e p) (hq:Dz f q) (hg:e+f+1<=g):Dz g (p+q):=by
 refine (Sz.add hp hq).mono ?_
 have h1:10 ^ (e+f+1)<=10 ^ g:=Nat.pow_le_pow_right (by omega) hg
 rw [Nat.pow_succ,Nat.pow_add] at h1
 omega
theorem Dz.sub {e f g:Nat} {p q:Rat} (hp:Dz e p) (hq:Dz f q) (hg:e+f+1<=g):Dz g (p - q):=by rw [Rat.sub_eq_add_neg];exact Dz.add hp (Sz.neg hq) hg
theorem Dz.mul {e f g:Nat} {p q:Rat} (hp:Dz e p) (hq:Dz f q) (hg:e+f<=g):Dz g (p*q):=by
 refine (Sz.mul hp hq).mono ?_
 rw [<- Nat.pow_add]
 exact Nat.pow_le_pow_right (by omega) hg
theorem Dz.more {e f:Nat} {q:Rat} (h:Dz e q) (hf:e<=f):Dz f q:=h.mono (Nat.pow_le_pow_right (by omega) hf)
theorem Dz.short {e f:Nat} {q:Rat} (h:Dz e q) (hf:e<f):zG f q:=Sz.short h (Nat.pow_lt_pow_right (by omega) hf) (by omega)
theorem Dz.zero (e:Nat):Dz e 0:=Sz.zero.mono (Nat.pow_pos (by omega))
theorem Dz.one (e:Nat):Dz e 1:=Sz.one.mono (Nat.pow_pos (by omega))
def vT (n:Nat) (f:Nat->Nat):Nat:=match n with
 | 0=>1
 | n+1=>vT n f*f n
theorem zqb {n k:Nat} {f:Nat->Nat} (hk:k<n):f k ∣ vT n f:=by
 induction n with
 | zero=>omega
 | succ n ih=>
   unfold vT
   rcases Nat.lt_or_ge k n with h | h
   . exact Nat.dvd_trans (ih h) (Nat.dvd_mul_right _ _)
   . obtain rfl:k=n:=by omega
     exact Nat.dvd_mul_left _ _
theorem zf9 {n:Nat} {f:Nat->Nat} (h:∀ k,k<n->0<f k):0<vT n f:=by
 induction n with
 | zero=>exact Nat.one_pos
 | succ n ih=>unfold vT;exact Nat.mul_pos (ih fun k hk=>h k (by omega)) (h n (by omega))
theorem zez {n X:Nat} {f:Nat->Nat} (h:∀ k,k<n->f k<=X):vT n f<=X ^ n:=by
 induction n with
 | zero=>exact Nat.le_refl _
 | succ n ih=>unfold vT;rw [Nat.pow_succ];exact Nat.mul_le_mul (ih fun k hk=>h k (by omega)) (h n (by omega))
theorem zxy {m e f:Nat} {A:Tab} (h1:∀ i,i<m->∀ c,c<m->Dz e (A i c)) (h2:∀ i,i<m->Dz f (A i m)) (hef:e<=f):zqm m A (10 ^ (m*e+2*f)) (10 ^ (m*e+f)):=by
 have hden:∀ q:Rat,0<q.den:=fun q=>Nat.pos_of_ne_zero q.den_nz
 have hs:∀ i,i<m->vT (m+1) (fun c=>(A i c).den)<=10 ^ (m*e+f):=by
  intro i hi
  unfold vT
  rw [Nat.pow_add,Nat.mul_comm m e,Nat.pow_mul]
  exact Nat.mul_le_mul (zez fun c hc=>(h1 i hi c hc).2) (h2 i hi).2
 refine ⟨fun i c=>(A i c).num*((vT (m+1) (fun c=>(A i c).den) / (A i c).den:Nat):Int),fun i=>(vT (m+1) (fun c=>(A i c).den):Int),fun i hi=>⟨?_,?_,fun c hc=>⟨?_,?_⟩⟩⟩
 . have:=zf9 (n:=m+1) (f:=fun c=>(A i c).den) (fun c _=>hden _)
   exact Int.natCast_ne_zero.2 (by omega)
 . have:=hs i hi
   simpa using this
 . obtain ⟨d,hd⟩:=zqb (n:=m+1) (k:=c) (f:=fun c=>(A i c).den) (by omega)
   show A i c*((((vT (m+1) (fun c=>(A i c).den):Nat):Int):Int):Rat)=(((A i c).num*((vT (m+1) (fun c=>(A i c).den) / (A i c).den:Nat):Int):Int):Rat)
   rw [hd,Nat.mul_div_cancel_left _ (hden _)];have:=VZ (A i c)
   push_cast at this |-
   rw [<- this];grind
 . rw [Int.natAbs_mul]
   have hf:(A i c).num.natAbs<=10 ^ f:=by
    rcases Nat.lt_or_ge c m with h | h
    . exact ((h1 i hi c h).more hef).1
    . obtain rfl:c=m:=by omega
      exact (h2 i hi).1
   have hq:(vT (m+1) (fun c=>(A i c).den) / (A i c).den:Nat)<=10 ^ (m*e+f):=Nat.le_trans (Nat.div_le_self _ _) (hs i hi);have e2:m*e+2*f=f+(m*e+f):=by omega
   rw [e2,Nat.pow_add];exact Nat.mul_le_mul hf (by rw [Int.natAbs_natCast];exact hq)
theorem zqm.mono {m C S C' S' :Nat} {A:Tab} (h:zqm m A C S) (hC:C<=C') (hS:S<=S'):zqm m A C' S' :=by
 obtain ⟨M,s,h⟩:=h
 exact ⟨M,s,fun i hi=>⟨(h i hi).1,Nat.le_trans (h i hi).2.1 hS,fun c hc=>⟨((h i hi).2.2 c hc).1,Nat.le_trans ((h i hi).2.2 c hc).2 hC⟩⟩⟩
def XW (m:Nat) (A:Tab) (Z:Nat):Prop:=∃ X,2*X<=Z/\zqm m A X X
theorem XW.swapped {m k p Z:Nat} {A:Tab} (h:XW m A Z) (hk:k<m) (hp:p<m):XW m (swapped A k p) Z:=by
 obtain ⟨X,h1,h2⟩:=h
 exact ⟨X,h1,h2.swapped hk hp⟩
theorem XW.freed {m k n Z:Nat} {A:Tab} (h:XW m A Z) (hk:k<m) (h0:A k k≠0) (hn:n<=m):XW m (freed A k n) (Z*Z):=by
 obtain ⟨X,h1,h2⟩:=h
 have hX:0<X:=by
  obtain ⟨M,s,h3⟩:=h2
  have:=(h3 k hk).1
  have:=(h3 k hk).2.1
  omega
 refine ⟨2*X*X,?_,(h2.freed hk h0 hn).mono (Nat.le_refl _) ?_⟩
 rotate_left
 . have:=Nat.le_mul_of_pos_left X hX
   rw [Nat.mul_assoc];omega
 have:=Nat.mul_le_mul h1 h1
 have e:2*X*(2*X)=2*(2*X*X):=by simp only [Nat.mul_assoc,Nat.mul_left_comm X 2 X]
 omega
theorem XW.sz {m Z:Nat} {A:Tab} (h:XW m A Z) {i c:Nat} (hi:i<m) (hc:c<=m):Sz Z (A i c):=by
 obtain ⟨X,h1,M,s,h2⟩:=h
 obtain ⟨a1,a2,a3⟩:=h2 i hi
 exact zkk a1 (a3 c hc).1 (by have:=(a3 c hc).2;omega) (by omega)
theorem XW.quot {m Z:Nat} {A:Tab} (h:XW m A Z) {i k:Nat} (hi:i<m) (hk:k<m) {c:Nat} (hc:c<=m) (h0:A k k≠0):Sz (Z*Z) (A i c / A k k):=by
 obtain ⟨X,h1,M,s,h2⟩:=h
 obtain ⟨a1,a2,a3⟩:=h2 i hi
 obtain ⟨b1,b2,b3⟩:=h2 k hk
 obtain ⟨b4,b5⟩:=b3 k (by omega)
 have hMk:M k k≠0:=by
  intro e
  rw [e] at b4
  have:=Zx b1
  have e0:((0:Int):Rat)=0:=rfl
  rw [e0] at b4
  grind
 have h3:=Zx a1
 have h4:=Zx b1
 have h5:=Zx hMk
 refine zkk (s:=s i*M k k) (M:=M i c*s k) (Int.mul_ne_zero a1 hMk) ?_ ?_ ?_
 . push_cast
   rw [<- (a3 c hc).1, <- b4];rw [<- b4] at h5
   grind
 . rw [Int.natAbs_mul];exact Nat.mul_le_mul (by have:=(a3 c hc).2;omega) (by omega)
 . rw [Int.natAbs_mul];exact Nat.mul_le_mul (by omega) (by omega)
theorem XW.prod {m Z:Nat} {A:Tab} (h:XW m A Z) {i k:Nat} (hi:i<m) (hk:k<m) {c:Nat} (hc:c<=m) (h0:A k k≠0):Sz (Z*Z) (A i k / A k k*A k c):=by
 obtain ⟨X,h1,M,s,h2⟩:=h
 obtain ⟨a1,a2,a3⟩:=h2 i hi
 obtain ⟨b1,b2,b3⟩:=h2 k hk
 obtain ⟨b4,b5⟩:=b3 k (by omega)
 have hMk:M k k≠0:=by
  intro e
  rw [e] at b4
  have:=Zx b1
  have e0:((0:Int):Rat)=0:=rfl
  rw [e0] at b4
  grind
 have h3:=Zx a1
 have h4:=Zx b1
 have h5:=Zx hMk
 refine zkk (s:=s i*M k k) (M:=M i k*M k c) (Int.mul_ne_zero a1 hMk) ?_ ?_ ?_
 . push_cast
   rw [<- (a3 k (by omega)).1, <- b4, <- (b3 c hc).1];rw [<- b4] at h5
   grind
 . rw [Int.natAbs_mul];exact Nat.mul_le_mul (by have:=(a3 k (by omega)).2;omega) (by have:=(b3 c hc).2;omega)
 . rw [Int.natAbs_mul];exact Nat.mul_le_mul (by omega) (by omega)
def zah (m:Nat) (A0:Tab) (k:Nat) (A:Tab) (Z:Nat):Prop:=zip m A/\zf1 m k A/\XW m A Z/\∀ x,vG m A x->vG m A0 x
theorem zah.start {m Z:Nat} {A:Tab} (h1:zip m A) (h2:XW m A Z):zah m A 0 A Z:=⟨h1,fun j hj=>by omega,h2,fun x h=>h⟩
theorem zah.pivot {m k Z:Nat} {A0 A:Tab} (h:zah m A0 k A Z) (hk:k<m):∃ p,k<=p/\p<m/\A p k≠0:=Go.Proofs.YtacfcmdlgebhgaaGreat.pivot h.1 h.2.1 hk
theorem zah.swapped {m k p Z:Nat} {A0 A:Tab} (h:zah m A0 k A Z) (hk:k<=p) (hp:p<m):zah m A0 k (swapped A k p) Z:=
 ⟨h.1.swapped (by omega) hp,h.2.1.swapped hk hp,h.2.2.1.swapped (by omega) hp,fun x hx=>h.2.2.2 x (hx.unswap (by omega) hp)⟩
theorem zah.freed {m k Z:Nat} {A0 A:Tab} (h:zah m A0 k A Z) (hk:k<m) (h0:A k k≠0):zah m A0 (k+1) (freed A k m) (Z*Z):=
 ⟨h.1.freed hk,h.2.1.freed hk h0,h.2.2.1.freed hk h0 (Nat.le_refl _),fun x hx=>h.2.2.2 x (hx.unfree hk)⟩
theorem zah.done {m Z:Nat} {A0 A:Tab} (h:zah m A0 m A Z):vG m A0 (fun c=>A c m / A c c):=h.2.2.2 _ h.2.1.solves
def xZ (P:Nat->Bool) (n:Nat):List Nat:=(List.range n).filter P
def yS (P:Nat->Bool) (k:Nat):Nat:=(xZ P k).length
theorem Y2 (P:Nat->Bool) (n:Nat):xZ P (n+1)=xZ P n ++ (if P n=true then [n] else []):=by
 unfold xZ
 rw [List.range_succ,List.filter_append]
 by_cases h:P n=true
 . simp [h]
 simp [h]
theorem Xw (P:Nat->Bool) (n:Nat):yS P (n+1)=yS P n+(if P n=true then 1 else 0):=by
 unfold yS
 rw [Y2,List.length_append]
 by_cases h:P n=true<;>simp [h]
theorem zs2 (P:Nat->Bool) {k n:Nat} (h:k<=n):yS P k<=yS P n:=by
 induction n with
 | zero=>obtain rfl:k=0:=by omega
         exact Nat.le_refl _
 | succ n ih=>
   rcases Nat.lt_or_ge k (n+1) with h1 | h1
   . have:=ih (by omega);rw [Xw];omega
   . obtain rfl:k=n+1:=by omega
     exact Nat.le_refl _
theorem rank_le (P:Nat->Bool) (n:Nat):yS P n<=n:=by
 unfold yS xZ
 have:=List.length_filter_le P (List.range n)
 simpa using this
theorem Yn (P:Nat->Bool) {k n:Nat} (h:k<n) (hP:P k=true):yS P k<yS P n:=by
 have h1:=zs2 P (show k+1<=n by omega)
 rw [Xw,if_pos hP] at h1
 omega
theorem Vm (P:Nat->Bool) {k n:Nat} (h:k<n) (hP:P k=true):(xZ P n).getD (yS P k) 0=k:=by
 induction n with
 | zero=>omega
 | succ n ih=>
   rw [Y2,List.getD_eq_getElem?_getD]
   rcases Nat.lt_or_ge k n with h1 | h1
   . rw [List.getElem?_append_left (Yn P h1 hP), <- List.getD_eq_getElem?_getD]
     exact ih h1
   . obtain rfl:k=n:=by omega
     rw [if_pos hP,show yS P k=(xZ P k).length from rfl,List.getElem?_append_right (Nat.le_refl _)]
     simp
theorem Z2 (P:Nat->Bool) {n i:Nat} (hi:i<yS P n):(xZ P n).getD i 0<n/\P ((xZ P n).getD i 0)=true/\yS P ((xZ P n).getD i 0)=i:=by
 induction n with
 | zero=>simp [yS,xZ] at hi
 | succ n ih=>
   rw [Xw] at hi;rw [Y2]
   rcases Nat.lt_or_ge i (yS P n) with h1 | h1
   . obtain ⟨h2,h3,h4⟩:=ih h1
     rw [List.getD_eq_getElem?_getD,List.getElem?_append_left h1, <- List.getD_eq_getElem?_getD];exact ⟨by omega,h3,h4⟩
   . by_cases hP:P n=true
     rotate_left
     . rw [if_neg hP] at hi;omega
     rw [if_pos hP] at hi
     obtain rfl:i=yS P n:=by omega
     rw [if_pos hP,List.getD_eq_getElem?_getD,show (xZ P n ++ [n])[yS P n]?=some n by rw [show yS P n=(xZ P n).length from rfl,List.getElem?_append_right (Nat.le_refl _)];simp];exact ⟨Nat.lt_succ_self n,hP,rfl⟩
section
variable {N:Nat} (pf pt:Nat->Nat) (c:Nat->Rat) (fx:Nat->Option Rat) (wl:Nat->Rat) (asked:Nat->Bool)
def zt (k:Nat):Bool:=(fx k).isNone && asked k
theorem vj {k:Nat}:zt fx asked k=true↔zyf fx asked k:=by
 unfold zt zyf
 cases fx k<;>simp
def xL (k:Nat):Rat:=(fx k).getD 0
def zkt (x:Nat->Rat) (k:Nat):Rat:=match fx k with
 | some v=>v
 | none=>if asked k=true then x (yS (zt fx asked) k) else 0
theorem Ys {x:Nat->Rat} {k:Nat} (h:zt fx asked k=true):zkt fx asked x k=x (yS (zt fx asked) k):=by
 obtain ⟨h1,h2⟩:=(vj fx asked).1 h
 unfold zkt;rw [h1];simp [h2]
theorem zac {x:Nat->Rat} {k:Nat} (h:¬ zt fx asked k=true):zkt fx asked x k=xL fx k:=by
 unfold zkt xL
 cases hx:fx k with
 | some v=>rfl
 | none=>
   have:¬ asked k=true:=fun e=>h ((vj fx asked).2 ⟨hx,e⟩)
   simp [this]
def Vi (m:Nat) (A:Tab) (k o:Nat) (d:Rat):Tab:=
 if zt fx asked k=true then
  (if zt fx asked o=true then xx (xx A (yS (zt fx asked) k) (yS (zt fx asked) k) d) (yS (zt fx asked) k) (yS (zt fx asked) o) (-d)
   else xx (xx A (yS (zt fx asked) k) (yS (zt fx asked) k) d) (yS (zt fx asked) k) m (d*xL fx o))
 else A
def ZD (N:Nat):Nat->Tab
 | 0=>fun i j=>if j=yS (zt fx asked) N then -(wl ((xZ (zt fx asked) N).getD i 0)) else 0
 | n+1=>Vi fx asked (yS (zt fx asked) N) (Vi fx asked (yS (zt fx asked) N) (ZD N n) (pf n) (pt n) (c n)) (pt n) (pf n) (c n)
theorem zgs {A:Tab} {k o i:Nat} {d:Rat} (x:Nat->Rat) (hk:k<N) (ho:o<N) (hi:i<yS (zt fx asked) N):
 lin (yS (zt fx asked) N) (Vi fx asked (yS (zt fx asked) N) A k o d) i x=lin (yS (zt fx asked) N) A i x+(if (xZ (zt fx asked) N).getD i 0=k then d*(zkt fx asked x k - zkt fx asked x o) else 0):=by
 obtain ⟨m1,m2,m3⟩:=Z2 _ hi
 unfold Vi
 by_cases hP:zt fx asked k=true
 rotate_left
 . rw [if_neg hP,if_neg (fun h=>hP (by rw [<- h];exact m2))];grind
 rw [if_pos hP]
 have hrk:=Yn _ hk hP
 have e:(i=yS (zt fx asked) k)↔((xZ (zt fx asked) N).getD i 0=k):=by
  constructor
  . intro h;rw [h];exact Vm _ hk hP
  intro h;rw [<- h];exact m3.symm
 by_cases hQ:zt fx asked o=true
 . rw [if_pos hQ]
   have hro:=Yn _ ho hQ;rw [V7 _ _ (by omega),V7 _ _ (by omega),Ys _ _ hP,Ys _ _ hQ,if_neg (show ¬ yS (zt fx asked) k=yS (zt fx asked) N by omega),if_neg (show ¬ yS (zt fx asked) o=yS (zt fx asked) N by omega)]
   by_cases h:i=yS (zt fx asked) k
   . rw [if_pos h,if_pos h,if_pos (e.1 h)];grind
   rw [if_neg h,if_neg h,if_neg (fun h2=>h (e.2 h2))];grind
 rw [if_neg hQ]
 rw [V7 _ _ (Nat.le_refl _),V7 _ _ (by omega),Ys _ _ hP,zac _ _ hQ,if_neg (show ¬ yS (zt fx asked) k=yS (zt fx asked) N by omega),if_pos rfl]
 by_cases h:i=yS (zt fx asked) k
 . rw [if_pos h,if_pos h,if_pos (e.1 h)];grind
 rw [if_neg h,if_neg h,if_neg (fun h2=>h (e.2 h2))];grind
theorem zau {np:Nat} (hp:YN N np pf pt c) (x:Nat->Rat) {i:Nat} (hi:i<yS (zt fx asked) N):∀ n,n<=np->
 lin (yS (zt fx asked) N) (ZD pf pt c fx wl asked N n) i x=yA n pf pt c (zkt fx asked x) ((xZ (zt fx asked) N).getD i 0)+wl ((xZ (zt fx asked) N).getD i 0):=by
 intro n
 induction n with
 | zero=>
   intro _;unfold lin ZD;rw [zaf,if_pos rfl]
   have e:yi (yS (zt fx asked) N) (fun j=>(if j=yS (zt fx asked) N then -(wl ((xZ (zt fx asked) N).getD i 0)) else 0)*x j)=yi (yS (zt fx asked) N) (fun _=>0):=
    zJ fun k hk=>by rw [if_neg (by omega)];grind
   rw [e,vY];grind
 | succ n ih=>
   intro hn;unfold ZD;rw [zgs fx asked x (hp.to_lt n (by omega)) (hp.from_lt n (by omega)) hi,zgs fx asked x (hp.from_lt n (by omega)) (hp.to_lt n (by omega)) hi,ih (by omega),YH];have h1:((xZ (zt fx asked) N).getD i 0=pf n)↔(pf n=(xZ (zt fx asked) N).getD i 0):=⟨Eq.symm,Eq.symm⟩;have h2:((xZ (zt fx asked) N).getD i 0=pt n)↔(pt n=(xZ (zt fx asked) N).getD i 0):=⟨Eq.symm,Eq.symm⟩;simp only [h1,h2]
   grind
theorem zn4 {np:Nat} (hp:YN N np pf pt c) (ht:zzp N np pf pt fx asked):zip (yS (zt fx asked) N) (ZD pf pt c fx wl asked N np):=by
 apply zea
 intro x y h
 have hz:=zbg (g:=fun j=>zkt fx asked x j - zkt fx asked y j) (S:=fun j=>j<N/\fx j≠none) (F:=zyf fx asked) hp (fun j hj hf=>hj.2 hf.1)
  (fun j hj hf=>by
    have:¬ zt fx asked j=true:=fun e=>hf ((vj fx asked).1 e)
    rw [zac _ _ this,zac _ _ this];grind)
  (fun j hj hf=>by
    have hf' :=(vj fx asked).2 hf;have hi:=Yn _ hj hf';have:=h _ hi;rw [zau pf pt c fx wl asked hp x hi np (Nat.le_refl _),zau pf pt c fx wl asked hp y hi np (Nat.le_refl _),Vm _ hj hf'] at this
    rw [zgu];grind) ht (fun j hj=>hj.1)
 intro i hi
 obtain ⟨m1,m2,m3⟩:=Z2 _ hi
 have:=hz _ m1
 rw [Ys _ _ m2,Ys _ _ m2,m3] at this
 grind
theorem zro {np:Nat} (hp:YN N np pf pt c) {x:Nat->Rat} (hx:vG (yS (zt fx asked) N) (ZD pf pt c fx wl asked N np) x):
 Yp N np pf pt c fx wl asked (zkt fx asked x):=by
 intro k hk
 cases hf:fx k with
 | some v=>simp only;unfold zkt;rw [hf]
 | none=>
   simp only
   by_cases ha:asked k=true
   rotate_left
   . rw [if_neg ha]
     unfold zkt;rw [hf];simp [ha]
   rw [if_pos ha]
   have hF:=(vj fx asked).2 ⟨hf,ha⟩;have hi:=Yn _ hk hF;have:=Xk.1 hx _ hi;rw [zau pf pt c fx wl asked hp x hi np (Nat.le_refl _),Vm _ hk hF] at this
   grind
def yn (i:Nat):Nat->Nat->Rat
 | 0=>fun _=>0
 | n+1=>fun j=>
   if pf n=i then (if j=pt n then yn i n (pt n) - c n else if j=i then yn i n i+c n else yn i n j)
   else if pt n=i then (if j=pf n then yn i n (pf n) - c n else if j=i then yn i n i+c n else yn i n j)
   else yn i n j
def VO (N np:Nat):Tab:=fun i j=>
 if zt fx asked i=true then (if j=N then -(wl i) else yn pf pt c i np j) else (if j=N then xL fx i else if j=i then 1 else 0)
theorem zrs {np:Nat} (hp:YN N np pf pt c) (x:Nat->Rat) {i:Nat} (hi:i<N):∀ n,n<=np->yi N (fun j=>yn pf pt c i n j*x j)=yA n pf pt c x i:=by
 intro n
 induction n with
 | zero=>
   intro _;rw [zaf];have e:yi N (fun j=>yn pf pt c i 0 j*x j)=yi N (fun _=>0):=zJ fun k _=>by show (0:Rat)*_=0;grind
   rw [e,vY]
 | succ n ih=>
   intro hn;have hne:=hp.ne n (by omega);have hf:=hp.from_lt n (by omega);have ht:=hp.to_lt n (by omega);rw [YH, <- ih (by omega)]
   by_cases h1:pf n=i
   . rw [if_pos h1,if_neg (by omega)]
     have e:yi N (fun j=>yn pf pt c i (n+1) j*x j)=yi N (fun j=>yn pf pt c i n j*x j+((if j=pt n then -(c n*x (pt n)) else 0)+(if j=i then c n*x i else 0))):=by
      apply zJ
      intro j _
      show (if pf n=i then (if j=pt n then yn pf pt c i n (pt n) - c n else if j=i then yn pf pt c i n i+c n else yn pf pt c i n j)
       else if pt n=i then (if j=pf n then yn pf pt c i n (pf n) - c n else if j=i then yn pf pt c i n i+c n else yn pf pt c i n j)
       else yn pf pt c i n j)*x j=_
      rw [if_pos h1]
      by_cases h2:j=pt n
      . rw [if_pos h2,if_pos h2,if_neg (by omega),h2];grind
      rw [if_neg h2,if_neg h2]
      by_cases h3:j=i
      . rw [if_pos h3,if_pos h3,h3];grind
      rw [if_neg h3,if_neg h3];grind
     rw [e,ZK,ZK,vH (j:=pt n) ht (fun k _ hk=>if_neg hk),vH (j:=i) hi (fun k _ hk=>if_neg hk),if_pos rfl,if_pos rfl,h1]
     grind
   rw [if_neg h1]
   by_cases h1' :pt n=i
   rotate_left
   . rw [if_neg h1']
     have e:yi N (fun j=>yn pf pt c i (n+1) j*x j)=yi N (fun j=>yn pf pt c i n j*x j):=by
      apply zJ
      intro j _
      show (if pf n=i then (if j=pt n then yn pf pt c i n (pt n) - c n else if j=i then yn pf pt c i n i+c n else yn pf pt c i n j)
       else if pt n=i then (if j=pf n then yn pf pt c i n (pf n) - c n else if j=i then yn pf pt c i n i+c n else yn pf pt c i n j)
       else yn pf pt c i n j)*x j=_
      rw [if_neg h1,if_neg h1']
     rw [e];grind
   rw [if_pos h1']
   have e:yi N (fun j=>yn pf pt c i (n+1) j*x j)=yi N (fun j=>yn pf pt c i n j*x j+((if j=pf n then -(c n*x (pf n)) else 0)+(if j=i then c n*x i else 0))):=by
    apply zJ
    intro j _
    show (if pf n=i then (if j=pt n then yn pf pt c i n (pt n) - c n else if j=i then yn pf pt c i n i+c n else yn pf pt c i n j)
     else if pt n=i then (if j=pf n then yn pf pt c i n (pf n) - c n else if j=i then yn pf pt c i n i+c n else yn pf pt c i n j)
     else yn pf pt c i n j)*x j=_
    rw [if_neg h1,if_pos h1']
    by_cases h2:j=pf n
    . rw [if_pos h2,if_pos h2,if_neg (by omega),h2];grind
    rw [if_neg h2,if_neg h2]
    by_cases h3:j=i
    . rw [if_pos h3,if_pos h3,h3];grind
    rw [if_neg h3,if_neg h3];grind
   rw [e,ZK,ZK,vH (j:=pf n) hf (fun k _ hk=>if_neg hk),vH (j:=i) hi (fun k _ hk=>if_neg hk),if_pos rfl,if_pos rfl,h1']
   grind
theorem Xx {np:Nat} (hp:YN N np pf pt c) (x:Nat->Rat) {i:Nat} (hi:i<N):
 lin N (VO pf pt c fx wl asked N np) i x=if zt fx asked i=true then yA np pf pt c x i+wl i else x i - xL fx i:=by
 unfold lin VO
 by_cases h:zt fx asked i=true
 . simp only [h,if_true]
   have e:yi N (fun j=>(if j=N then -(wl i) else yn pf pt c i np j)*x j)=yi N (fun j=>yn pf pt c i np j*x j):=zJ fun k hk=>by rw [if_neg (by omega)]
   rw [e,zrs pf pt c hp x hi np (Nat.le_refl _)];grind
 rw [if_neg h]
 have e:yi N (fun j=>(if zt fx asked i=true then (if j=N then -(wl i) else yn pf pt c i np j) else (if j=N then xL fx i else if j=i then 1 else 0))*x j)=yi N (fun j=>if j=i then x i else 0):=by
  apply zJ
  intro k hk;rw [if_neg h,if_neg (show ¬ k=N by omega)]
  by_cases h2:k=i
  . rw [if_pos h2,if_pos h2,h2];grind
  rw [if_neg h2,if_neg h2];grind
 rw [e,vH (j:=i) hi (fun k hk hne=>if_neg hne),if_pos rfl,if_neg h,if_pos rfl]
theorem zu6 {np:Nat} (hp:YN N np pf pt c) (ht:zzp N np pf pt fx asked):zip N (VO pf pt c fx wl asked N np):=by
 apply zea
 intro x y h
 have hz:=zbg (g:=fun j=>x j - y j) (S:=fun j=>j<N/\fx j≠none) (F:=zyf fx asked) hp (fun j hj hf=>hj.2 hf.1)
  (fun j hj hf=>by
    have h0:¬ zt fx asked j=true:=fun e=>hf ((vj fx asked).1 e)
    have:=h j hj;rw [Xx pf pt c fx wl asked hp x hj,Xx pf pt c fx wl asked hp y hj,if_neg h0,if_neg h0] at this
    grind)
  (fun j hj hf=>by
    have h0:=(vj fx asked).2 hf;have:=h j hj;rw [Xx pf pt c fx wl asked hp x hj,Xx pf pt c fx wl asked hp y hj,if_pos h0,if_pos h0] at this
    rw [zgu];grind) ht (fun j hj=>hj.1)
 intro i hi
 have:=hz i hi
 grind
theorem zsc {np:Nat} (hp:YN N np pf pt c) {x:Nat->Rat} (hx:vG N (VO pf pt c fx wl asked N np) x):Yp N np pf pt c fx wl asked x:=by
 intro k hk
 have h:=Xk.1 hx k hk
 rw [Xx pf pt c fx wl asked hp x hk] at h
 by_cases hF:zt fx asked k=true
 . rw [if_pos hF] at h
   obtain ⟨h1,h2⟩:=(vj fx asked).1 hF;rw [h1];simp only;rw [if_pos h2];grind
 rw [if_neg hF] at h
 unfold xL at h
 cases hf:fx k with
 | some v=>rw [hf] at h;simp at h;simp only;grind
 | none=>
   rw [hf] at h;simp at h;have:¬ asked k=true:=fun e=>hF ((vj fx asked).2 ⟨hf,e⟩)
   simp only [this];simp;grind
theorem zhv {np:Nat} (hp:YN N np pf pt c) (hc:∀ i,i<np->Dz 12 (c i)) (i:Nat):∀ n,n<=np->∀ j,Dz (13*n) (yn pf pt c i n j):=by
 intro n
 induction n with
 | zero=>intro _ j;exact Dz.zero _
 | succ n ih=>
   intro hn j;have h:=ih (by omega);unfold yn
   split
   . split
     . exact Dz.sub (h _) (hc n (by omega)) (by omega)
     split
     . exact Dz.add (h _) (hc n (by omega)) (by omega)
     exact (h j).more (by omega)
   split
   rotate_left
   . exact (h j).more (by omega)
   split
   . exact Dz.sub (h _) (hc n (by omega)) (by omega)
   split
   . exact Dz.add (h _) (hc n (by omega)) (by omega)
   exact (h j).more (by omega)
end
theorem zvq {m e f:Nat} {A:Tab} (h1:∀ i,i<m->∀ c,c<m->Dz e (A i c)) (h2:∀ i,i<m->Dz f (A i m)) (hef:e<=f):XW m A (10 ^ (m*e+2*f+1)):=by
 refine ⟨10 ^ (m*e+2*f),?_,(zxy h1 h2 hef).mono (Nat.le_refl _) (Nat.pow_le_pow_right (by omega) (by omega))⟩
 rw [Nat.pow_succ];omega
def xq (s:Int) (B:Nat) (q:Rat):Prop:=∃ z:Int,q*(s:Rat)=(z:Rat)/\z.natAbs<=B
theorem xq.mono {s:Int} {B C:Nat} {q:Rat} (h:xq s B q) (hBC:B<=C):xq s C q:=by
 obtain ⟨z,h1,h2⟩:=h
 exact ⟨z,h1,by omega⟩
theorem xq.zero (s:Int) (B:Nat):xq s B 0:=⟨0,by rw [Rat.zero_mul];rfl,by simp⟩
theorem xq.neg {s:Int} {B:Nat} {q:Rat} (h:xq s B q):xq s B (-q):=by
 obtain ⟨z,h1,h2⟩:=h
 exact ⟨-z,by push_cast;rw [<- h1];grind,by omega⟩
theorem xq.add {s:Int} {B C:Nat} {p q:Rat} (hp:xq s B p) (hq:xq s C q):xq s (B+C) (p+q):=by
 obtain ⟨z,h1,h2⟩:=hp
 obtain ⟨y,h3,h4⟩:=hq
 exact ⟨z+y,by push_cast;rw [<- h1, <- h3];grind,by omega⟩
theorem xq.sub {s:Int} {B C:Nat} {p q:Rat} (hp:xq s B p) (hq:xq s C q):xq s (B+C) (p - q):=by rw [Rat.sub_eq_add_neg];exact hp.add hq.neg
theorem xq.mul {s t:Int} {B C:Nat} {p q:Rat} (hp:xq s B p) (hq:xq t C q):xq (s*t) (B*C) (p*q):=by
 obtain ⟨z,h1,h2⟩:=hp
 obtain ⟨y,h3,h4⟩:=hq
 refine ⟨z*y,by push_cast;rw [<- h1, <- h3];grind,?_⟩
 rw [Int.natAbs_mul];exact Nat.mul_le_mul h2 h4
theorem xq.scale {s:Int} {B:Nat} {q:Rat} (h:xq s B q) (t:Int):xq (s*t) (B*t.natAbs) q:=by
 obtain ⟨z,h1,h2⟩:=h
 refine ⟨z*t,by push_cast;rw [<- h1];grind,?_⟩
 rw [Int.natAbs_mul];exact Nat.mul_le_mul h2 (Nat.le_refl _)
theorem xq.scale' {s:Int} {B:Nat} {q:Rat} (h:xq s B q) (t:Int):xq (t*s) (t.natAbs*B) q:=by
 rw [Int.mul_comm,Nat.mul_comm];exact h.scale t
theorem xq.sum {s:Int} {B n:Nat} {f:Nat->Rat} (h:∀ k,k<n->xq s B (f k)):xq s (n*B) (yi n f):=by
 induction n with
 | zero=>exact (xq.zero s _)
 | succ n ih=>rw [ym,Nat.succ_mul];exact (ih fun k hk=>h k (by omega)).add (h n (by omega))
theorem xq.sz {s:Int} {B X:Nat} {q:Rat} (h:xq s B q) (hs:s≠0) (h1:B<=X) (h2:s.natAbs<=X):Sz X q:=by
 obtain ⟨z,h3,h4⟩:=h
 exact zkk hs h3 (by omega) h2
theorem xq.den (q:Rat):xq (q.den:Int) q.num.natAbs q:=⟨q.num,VZ q,Nat.le_refl _⟩
theorem xq.prod {n k:Nat} {q:Nat->Rat} {e:Nat} (h:∀ k,k<n->Dz e (q k)) (hk:k<n):xq (vT n (fun k=>(q k).den):Int) (10 ^ (e*n)) (q k):=by
 induction n with
 | zero=>omega
 | succ n ih=>
   unfold vT;rw [Nat.mul_succ,Nat.pow_add]
   push_cast
   rcases Nat.lt_or_ge k n with h1 | h1
   . refine ((ih (fun k hk=>h k (by omega)) h1).scale _).mono ?_
     exact Nat.mul_le_mul (Nat.le_refl _) (by rw [Int.natAbs_natCast];exact (h n (by omega)).2)
   . obtain rfl:k=n:=by omega
     refine ((xq.den (q k)).scale' _).mono ?_;refine Nat.mul_le_mul ?_ (h k (by omega)).1;rw [Int.natAbs_natCast,Nat.pow_mul];exact zez fun j hj=>(h j (by omega)).2
theorem XG {n e:Nat} {q:Nat->Rat} (h:∀ k,k<n->Dz e (q k)):vT n (fun k=>(q k).den)<=10 ^ (e*n)/\0<vT n (fun k=>(q k).den):=by
 refine ⟨?_,zf9 fun k _=>Nat.pos_of_ne_zero (q k).den_nz⟩
 rw [Nat.pow_mul]
 exact zez fun j hj=>(h j hj).2
section
variable {N:Nat} (pf pt:Nat->Nat) (c:Nat->Rat) (fx:Nat->Option Rat) (wl:Nat->Rat) (asked:Nat->Bool)
theorem ZV {A:Tab} {i' c' i j:Nat} {d:Rat} {s:Int} {B b:Nat} (h:∀ j,xq s B (A i j)) (hd:xq s b d):xq s (B+b) (xx A i' c' d i j):=by
 unfold xx
 by_cases h1:i=i' /\j=c'
 . rw [if_pos h1, <- h1.1];exact (h _).add hd
 rw [if_neg h1];exact (h j).mono (by omega)
theorem zca {A:Tab} {m k o i:Nat} {d:Rat} {s:Int} {B b:Nat} (h:∀ j,xq s B (A i j)) (hd:xq s b d) (ho:xq s b (d*xL fx o)) (j:Nat):
 xq s (B+b+b) (Vi fx asked m A k o d i j):=by
 unfold Vi
 split
 rotate_left
 . exact (h j).mono (by omega)
 split
 . exact ZV (fun j=>ZV h hd) hd.neg
 exact ZV (fun j=>ZV h hd) ho
theorem zkh {np b:Nat} {s:Nat->Int} (hp:YN N np pf pt c) (hc:∀ i,i<yS (zt fx asked) N->∀ j,j<np->xq (s i) b (c j)) (ho:∀ i,i<yS (zt fx asked) N->∀ j,j<np->∀ k,k<N->xq (s i) b (c j*xL fx k))
 (hw:∀ i,i<yS (zt fx asked) N->xq (s i) b (wl ((xZ (zt fx asked) N).getD i 0))) {i:Nat} (hi:i<yS (zt fx asked) N):∀ n,n<=np->∀ j,xq (s i) (b+4*n*b) (ZD pf pt c fx wl asked N n i j):=by
 intro n
 induction n with
 | zero=>
   intro _ j;unfold ZD
   split
   . exact (hw i hi).neg.mono (by omega)
   exact xq.zero _ _
 | succ n ih=>
   intro hn j;unfold ZD;refine (zca fx asked (zca fx asked (ih (by omega)) (hc i hi n (by omega)) (ho i hi n (by omega) _ (hp.to_lt n (by omega)))) (hc i hi n (by omega)) (ho i hi n (by omega) _ (hp.from_lt n (by omega))) j).mono ?_;rw [Nat.mul_add,Nat.add_mul];omega
theorem zsf {np b X:Nat} {s:Nat->Int} (hp:YN N np pf pt c) (hc:∀ i,i<yS (zt fx asked) N->∀ j,j<np->xq (s i) b (c j)) (ho:∀ i,i<yS (zt fx asked) N->∀ j,j<np->∀ k,k<N->xq (s i) b (c j*xL fx k))
 (hw:∀ i,i<yS (zt fx asked) N->xq (s i) b (wl ((xZ (zt fx asked) N).getD i 0))) (hs:∀ i,i<yS (zt fx asked) N->s i≠0/\(s i).natAbs<=X) (hX:b+4*np*b<=X):
 XW (yS (zt fx asked) N) (ZD pf pt c fx wl asked N np) (2*X):=by
 refine ⟨X,Nat.le_refl _,?_⟩
 have h:∀ i j:Nat,∃ z:Int,i<yS (zt fx asked) N->(ZD pf pt c fx wl asked N np i j*(s i:Rat)=(z:Rat)/\z.natAbs<=X):=by
  intro i j
  by_cases hi:i<yS (zt fx asked) N
  rotate_left
  . exact ⟨0,fun h=>absurd h hi⟩
  obtain ⟨z,h1,h2⟩:=zkh pf pt c fx wl asked hp hc ho hw (i:=i) hi np (Nat.le_refl _) j
  exact ⟨z,fun _=>⟨h1,by omega⟩⟩
 exact ⟨fun i j=>Classical.choose (h i j),s,fun i hi=>⟨(hs i hi).1,(hs i hi).2,fun j hj=>Classical.choose_spec (h i j) hi⟩⟩
end
theorem XW.diag {m Z:Nat} {A:Tab} (h:XW m A Z) {i:Nat} (hi:i<m) (h0:A i i≠0):∃ t:Int,t≠0/\t.natAbs<=Z/\xq t Z (A i m / A i i):=by
 obtain ⟨X,h1,M,s,h2⟩:=h
 obtain ⟨a1,a2,a3⟩:=h2 i hi
 obtain ⟨b1,b2⟩:=a3 i (by omega)
 obtain ⟨c1,c2⟩:=a3 m (Nat.le_refl _)
 have h3:=Zx a1
 have hMk:M i i≠0:=by
  intro e
  rw [e] at b1
  have e0:((0:Int):Rat)=0:=rfl
  rw [e0] at b1
  grind
 have h5:=Zx hMk
 refine ⟨M i i,hMk,by omega,M i m,?_,by omega⟩
 rw [<- b1, <- c1]
 rw [<- b1] at h5
 grind
def xB (n:Nat) (h:Nat->Rat) (E:Nat):Prop:=∃ T:Int,T≠0/\T.natAbs<=10 ^ E/\∀ k,k<n->xq T (10 ^ E) (h k)
theorem xB.get {n E:Nat} {h:Nat->Rat} (hc:xB n h E) {k:Nat} (hk:k<n):Dz E (h k):=by
 obtain ⟨T,h1,h2,h3⟩:=hc
 exact (h3 k hk).sz h1 (Nat.le_refl _) h2
theorem zph {N E F:Nat} {fx:Nat->Option Rat} {asked:Nat->Bool} {x:Nat->Rat} (hx:xB (yS (zt fx asked) N) x E) (hf:∀ k,k<N->Dz F (xL fx k)):xB N (zkt fx asked x) (E+F*N):=by
 obtain ⟨T,h1,h2,h3⟩:=hx
 obtain ⟨d1,d2⟩:=XG hf
 refine ⟨T*(vT N (fun k=>(xL fx k).den):Int),Int.mul_ne_zero h1 (by omega),?_,fun k hk=>?_⟩
 . rw [Int.natAbs_mul,Nat.pow_add];exact Nat.mul_le_mul h2 (by rw [Int.natAbs_natCast];exact d1)
 rw [Nat.pow_add]
 by_cases hF:zt fx asked k=true
 . rw [Ys _ _ hF]
   exact ((h3 _ (Yn _ hk hF)).scale _).mono (Nat.mul_le_mul (Nat.le_refl _) (by rw [Int.natAbs_natCast];exact d1))
 rw [zac _ _ hF]
 exact ((xq.prod hf hk).scale' T).mono (Nat.mul_le_mul h2 (Nat.le_refl _))
def cross (np:Nat) (pf pt:Nat->Nat) (c g h:Nat->Rat):Rat:=yi np fun i=>c i*(g (pf i) - g (pt i))*(h (pf i) - h (pt i))
def yN (np:Nat) (pf pt:Nat->Nat) (f:Nat->Rat) (k:Nat):Rat:=yi np fun i=>(if pf i=k then f i else 0)+(if pt i=k then -(f i) else 0)
theorem zh5 (np:Nat) (pf pt:Nat->Nat) (c h:Nat->Rat) (k:Nat):yN np pf pt (fun i=>c i*(h (pf i) - h (pt i))) k=yA np pf pt c h k:=by
 unfold yN yA
 apply zJ
 intro i _
 by_cases h1:pf i=k<;>by_cases h2:pt i=k<;>simp only [h1,h2,if_true,if_false]<;>grind
theorem zwb {N j:Nat} (g:Nat->Rat) (v:Rat) (hj:j<N):yi N (fun k=>g k*(if j=k then v else 0))=g j*v:=by
 rw [vH (j:=j) hj]
 . rw [if_pos rfl]
 intro k _ hk;rw [if_neg (fun e=>hk e.symm)];grind
theorem zva {N np:Nat} {pf pt:Nat->Nat} (h1:∀ i,i<np->pf i<N) (h2:∀ i,i<np->pt i<N) (g f:Nat->Rat):
 yi N (fun k=>g k*yN np pf pt f k)=yi np fun i=>f i*(g (pf i) - g (pt i)):=by
 have e:yi N (fun k=>g k*yN np pf pt f k)=yi N (fun k=>yi np fun i=>g k*(if pf i=k then f i else 0)+g k*(if pt i=k then -(f i) else 0)):=by
  apply zJ
  intro k _
  unfold yN
  rw [<- Xq]
  apply zJ
  intro i _
  grind
 rw [e,zpd]
 apply zJ
 intro i hi
 rw [ZK,zwb g _ (h1 i hi),zwb g _ (h2 i hi)]
 grind
theorem zyc {N a b:Nat} {f:Nat->Rat} (ha:a<N) (hb:b<N) (hne:a≠b) (h:∀ k,k<N->k≠a->k≠b->f k=0):yi N f=f a+f b:=zke ha hb hne h
structure Eff (N np:Nat) (pf pt:Nat->Nat) (c:Nat->Rat) (a b:Nat) (h:Nat->Rat):Prop where
 piped:YN N np pf pt c
 ha:a<N
 hb:b<N
 hne:a≠b
 ea:h a=1
 eb:h b=0
 flow:∀ k,k<N->k≠a->k≠b->yA np pf pt c h k=0
section
variable {N np:Nat} {pf pt:Nat->Nat} {c c' :Nat->Rat} {a b:Nat} {h h' g:Nat->Rat}
def XT (np:Nat) (pf pt:Nat->Nat) (c:Nat->Rat) (a:Nat) (h:Nat->Rat):Rat:=yA np pf pt c h a
theorem Eff.cross (e:Eff N np pf pt c a b h) (ga:g a=1) (gb:g b=0):cross np pf pt c g h=XT np pf pt c a h:=by
 have h1:=zva e.piped.from_lt e.piped.to_lt g (fun i=>c i*(h (pf i) - h (pt i)))
 have h2:yi N (fun k=>g k*yN np pf pt (fun i=>c i*(h (pf i) - h (pt i))) k)=XT np pf pt c a h:=by
  rw [zyc e.ha e.hb e.hne (fun k hk h1 h2=>by rw [zh5,e.flow k hk h1 h2];grind),zh5,zh5,ga,gb]
  unfold XT;grind
 rw [<- h2,h1]
 unfold Go.Proofs.YtacfcmdlgebhgaaGreat.cross
 apply zJ
 intro i _
 grind
theorem Eff.energy (e:Eff N np pf pt c a b h):Go.Proofs.YtacfcmdlgebhgaaGreat.cross np pf pt c h h=XT np pf pt c a h:=e.cross e.ea e.eb
theorem zjs (hc:∀ i,i<np->0<=c i):0<=cross np pf pt c g g:=by
 apply zc6
 intro i hi
 have h1:=hc i hi
 have h2:0<=(g (pf i) - g (pt i))*(g (pf i) - g (pt i)):=by
  rcases Rat.le_total (a:=0) (b:=g (pf i) - g (pt i)) with h | h
  . exact Rat.mul_nonneg h h
  . have:=Rat.mul_nonneg (a:= -(g (pf i) - g (pt i))) (b:= -(g (pf i) - g (pt i))) (by grind) (by grind)
    grind
 have:=Rat.mul_nonneg h1 h2
 grind
theorem VC (x:Rat):0<=x*x:=by
 rcases Rat.le_total (a:=0) (b:=x) with h | h
 . exact Rat.mul_nonneg h h
 . have:=Rat.mul_nonneg (a:= -x) (b:= -x) (by grind) (by grind)
   grind
theorem zsw:cross np pf pt c (fun k=>g k - h k) (fun k=>g k - h k)=cross np pf pt c g g - 2*cross np pf pt c g h+cross np pf pt c h h:=by
 unfold cross
 rw [<- Xq, <- zbq, <- ZK]
 apply zJ
 intro i _
 grind
theorem Eff.least (e:Eff N np pf pt c a b h) (ga:g a=1) (gb:g b=0):XT np pf pt c a h<=Go.Proofs.YtacfcmdlgebhgaaGreat.cross np pf pt c g g:=by
 have h1:=zjs (np:=np) (pf:=pf) (pt:=pt) (c:=c) (g:=fun k=>g k - h k) (fun i hi=>by have:=e.piped.pos i hi;grind)
 rw [zsw,e.cross ga gb,e.energy] at h1
 grind
theorem zpe (hc:∀ i,i<np->c i<=c' i):cross np pf pt c g g<=cross np pf pt c' g g:=by
 apply zum
 intro i hi
 have h1:=VC (g (pf i) - g (pt i))
 have h2:=Rat.mul_nonneg (a:=c' i - c i) (by have:=hc i hi;grind) h1
 grind
theorem Eff.above (e:Eff N np pf pt c a b h) (ga:g a=1) (gb:g b=0) (hc:∀ i,i<np->c i<=c' i):XT np pf pt c a h<=Go.Proofs.YtacfcmdlgebhgaaGreat.cross np pf pt c' g g:=by
 have:=e.least ga gb
 have:=zpe (np:=np) (pf:=pf) (pt:=pt) (g:=g) hc
 grind
theorem Eff.mono (e:Eff N np pf pt c a b h) (e' :Eff N np pf pt c' a b h') (hc:∀ i,i<np->c i<=c' i):XT np pf pt c a h<=XT np pf pt c' a h' :=by
 rw [<- e'.energy];exact e.above e'.ea e'.eb hc
theorem Eff.same (e:Eff N np pf pt c a b h) (e' :Eff N np pf pt c a b h'):XT np pf pt c a h=XT np pf pt c a h' :=by
 have h1:=e.mono e' (fun i _=>by grind)
 have h2:=e'.mono e (fun i _=>by grind)
 grind
def Yb (N np:Nat) (pf pt:Nat->Nat) (a b:Nat) (f:Nat->Rat):Prop:=∀ k,k<N->yN np pf pt f k=if k=a then 1 else if k=b then -1 else 0
theorem Eff.of_heads {fx:Nat->Option Rat} {wl:Nat->Rat} {asked:Nat->Bool} (hp:YN N np pf pt c) (ha:a<N) (hb:b<N) (hne:a≠b) (fa:fx a=some 1) (fb:fx b=some 0) (fo:∀ k,k<N->k≠a->k≠b->fx k=none)
 (hw:∀ k,k<N->wl k=0) (has:∀ k,k<N->(asked k=true↔xg np pf pt (fun k=>k=a) k)) (hj:xg np pf pt (fun k=>k=a) b) (hh:Yp N np pf pt c fx wl asked h):Eff N np pf pt c a b h:=by
 refine { piped:=hp,ha:=ha,hb:=hb,hne:=hne,ea:=by have:=hh a ha;rw [fa] at this;exact this,eb:=by have:=hh b hb;rw [fb] at this;exact this,flow:=fun k hk h1 h2=>?_ }
 have h3:=hh k hk
 rw [fo k hk h1 h2] at h3
 simp only at h3
 by_cases hk2:asked k=true
 . rw [if_pos hk2,hw k hk] at h3
   rw [h3];grind
 rw [if_neg hk2] at h3
 have hz:∀ j,j<N->¬ xg np pf pt (fun k=>k=a) j->h j=0:=by
  intro j hjN hjj;have h4:=hh j hjN;rw [fo j hjN (fun e=>hjj (by rw [e];exact .base rfl)) (fun e=>hjj (by rw [e];exact hj))] at h4;simp only at h4;rw [if_neg (fun e=>hjj ((has j hjN).1 e))] at h4;exact h4
 have hkj:¬ xg np pf pt (fun k=>k=a) k:=fun e=>hk2 ((has k hk).2 e)
 have h0:=hz k hk hkj;unfold yA;rw [zJ (g:=fun _=>0) (fun i hi=>?_),vY]
 by_cases e1:pf i=k
 . have e2:pt i≠k:=fun e2=>hp.ne i hi (e1.trans e2.symm)
   have h5:=hz (pt i) (hp.to_lt i hi) (fun hJ=>hkj (by rw [<- e1];exact .left hi hJ));rw [if_pos e1,if_neg e2,e1,h0,h5];grind
 by_cases e2:pt i=k
 rotate_left
 . rw [if_neg e1,if_neg e2];grind
 have h5:=hz (pf i) (hp.from_lt i hi) (fun hJ=>hkj (by rw [<- e2];exact .right hi hJ))
 rw [if_neg e1,if_pos e2,e2,h0,h5];grind
end
end Go.Proofs.YtacfcmdlgebhgaaGreat
