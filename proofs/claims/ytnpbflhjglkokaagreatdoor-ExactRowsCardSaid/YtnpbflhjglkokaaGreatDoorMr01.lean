/- Parts of the proof: memory, numbers, walks of the functions that are called. -/
import Init.Data.List.Lemmas
set_option linter.unusedVariables false
set_option linter.unusedSimpArgs false
namespace Go.Proofs.YtnpbflhjglkokaaGreatDoor
def val (β:Nat):List Nat->Nat
 | []=>0
 | d :: ds=>d+β*val β ds
def zC (β:Nat) (ds:List Nat):Prop:=∀ d∈ds,d<β
def yD (β:Nat) (ds:List Nat):Prop:=zC β ds/\ds.getLast?≠some 0
theorem xM (β:Nat):val β []=0:=rfl
theorem Z4 (β d:Nat) (ds:List Nat):val β (d :: ds)=d+β*val β ds:=rfl
theorem Zp (β d:Nat):val β [d]=d:=by simp [val]
theorem Zi (β:Nat) (a b:List Nat):val β (a ++ b)=val β a+β ^ a.length*val β b:=by
 induction a with
 | nil=>simp [val]
 | cons d a ih=>simp only [List.cons_append,Z4,ih,List.length_cons,Nat.pow_succ,Nat.mul_add,Nat.add_assoc];rw [Nat.mul_comm (β ^ a.length) β,Nat.mul_assoc]
theorem Z5 (β:Nat) (a:List Nat) (d:Nat):val β (a ++ [d])=val β a+β ^ a.length*d:=by rw [Zi,Zp]
theorem Xo (β n:Nat):val β (List.replicate n 0)=0:=by
 induction n with
 | zero=>rfl
 | succ n ih=>rw [List.replicate_succ,Z4,ih];simp
theorem zC.nil (β:Nat):zC β []:=fun _ h=>by cases h
theorem zC.append {β:Nat} {a b:List Nat} (ha:zC β a) (hb:zC β b):zC β (a ++ b):=fun d h=>by
 rcases List.mem_append.1 h with h | h
 . exact ha d h
 . exact hb d h
theorem zC.cons {β d:Nat} {a:List Nat} (hd:d<β) (ha:zC β a):zC β (d :: a):=fun x h=>by
 rcases List.mem_cons.1 h with h | h
 . omega
 . exact ha x h
theorem zC.tail {β d:Nat} {a:List Nat} (h:zC β (d :: a)):zC β a:=fun x hx=>h x (List.mem_cons_of_mem _ hx)
theorem zC.head {β d:Nat} {a:List Nat} (h:zC β (d :: a)):d<β:=h d List.mem_cons_self
theorem zC.take {β:Nat} {a:List Nat} (h:zC β a) (k:Nat):zC β (a.take k):=fun d hd=>h d (List.mem_of_mem_take hd)
theorem zC.drop {β:Nat} {a:List Nat} (h:zC β a) (k:Nat):zC β (a.drop k):=fun d hd=>h d (List.mem_of_mem_drop hd)
theorem zC.getD {β:Nat} {a:List Nat} (h:zC β a) (hβ:0<β) (k:Nat):a.getD k 0<β:=by
 rw [List.getD_eq_getElem?_getD]
 by_cases hk:k<a.length
 . rw [List.getElem?_eq_getElem hk];exact h _ (List.getElem_mem hk)
 . rw [List.getElem?_eq_none (by omega)];exact hβ
theorem zC.get {β:Nat} {a:List Nat} (h:zC β a) (k:Nat) (hk:k<a.length):a[k]<β:=h _ (List.getElem_mem hk)
theorem zC.replicate {β:Nat} (hβ:0<β) (n:Nat):zC β (List.replicate n 0):=fun d hd=>by rw [(List.mem_replicate.1 hd).2];exact hβ
theorem zC.set {β:Nat} {a:List Nat} (h:zC β a) (k d:Nat) (hd:d<β):zC β (a.set k d):=fun x hx=>by
 rcases List.mem_or_eq_of_mem_set hx with hx | hx
 . exact h x hx
 . omega
theorem ZK {β:Nat} {ds:List Nat} (h:zC β ds):val β ds<β ^ ds.length:=by
 induction ds with
 | nil=>simp [val]
 | cons d ds ih=>
   have h1:=ih h.tail;have h2:=h.head;rw [Z4,List.length_cons,Nat.pow_succ];have h3:β*(val β ds+1)<=β*β ^ ds.length:=Nat.mul_le_mul_left _ h1;rw [Nat.mul_add,Nat.mul_one] at h3;rw [Nat.mul_comm (β ^ ds.length) β]
   omega
theorem xd (β:Nat) (ds:List Nat) (k:Nat) (hk:k<=ds.length):val β ds=val β (ds.take k)+β ^ k*val β (ds.drop k):=by
 conv=>lhs;rw [<- List.take_append_drop k ds,Zi,List.length_take,Nat.min_eq_left hk]
theorem Yy {α:Type} (ds:List α) (k:Nat) (hk:k<ds.length):ds.take (k+1)=ds.take k ++ [ds[k]]:=by
 rw [List.take_succ_eq_append_getElem hk]
theorem yw (β:Nat) (ds:List Nat) (k:Nat) (hk:k<ds.length):val β (ds.take (k+1))=val β (ds.take k)+β ^ k*ds[k]:=by
 rw [Yy ds k hk,Z5,List.length_take,Nat.min_eq_left (by omega)]
theorem Za (β:Nat) (ds:List Nat) (k:Nat) (hk:k<ds.length):val β (ds.drop k)=ds[k]+β*val β (ds.drop (k+1)):=by
 rw [List.drop_eq_getElem_cons hk,Z4]
theorem yD.nil (β:Nat):yD β []:=⟨zC.nil β,by simp⟩
theorem yD.last {β:Nat} {ds:List Nat} (h:yD β ds) (hne:ds≠[]):ds[ds.length - 1]'(by have:=List.length_pos_iff.2 hne;omega)≠0:=by
 intro h0
 apply h.2
 rw [List.getLast?_eq_getElem?,List.getElem?_eq_getElem (by have:=List.length_pos_iff.2 hne;omega),h0]
theorem yD.mk_ {β:Nat} {ds:List Nat} (h:zC β ds) (hl:∀ hne:0<ds.length,ds[ds.length - 1]≠0):yD β ds:=by
 refine ⟨h,?_⟩
 intro h0
 rw [List.getLast?_eq_getElem?] at h0
 obtain ⟨hlt,e⟩:=List.getElem?_eq_some_iff.1 h0
 exact hl (by omega) e
theorem yD.ge {β:Nat} {ds:List Nat} (h:yD β ds) (hne:ds≠[]):β ^ (ds.length - 1)<=val β ds:=by
 have hp:=List.length_pos_iff.2 hne
 have hl:=h.last hne
 have e:val β ds=val β (ds.take (ds.length - 1))+β ^ (ds.length - 1)*ds[ds.length - 1]:=by
  rw [<- yw β ds (ds.length - 1) (by omega),show ds.length - 1+1=ds.length by omega,List.take_length]
 rw [e]
 have:β ^ (ds.length - 1)*1<=β ^ (ds.length - 1)*ds[ds.length - 1]:=Nat.mul_le_mul_left _ (by omega)
 omega
theorem yD.zero_iff {β:Nat} {ds:List Nat} (hβ:0<β) (h:yD β ds):val β ds=0↔ds=[]:=by
 constructor
 . intro h0
   by_cases hne:ds=[]
   . exact hne
   . have:=h.ge hne
     have:=Nat.pow_pos (n:=ds.length - 1) hβ
     omega
 . rintro rfl;rfl
theorem yD.lt_of_length {β:Nat} {a b:List Nat} (hβ:0<β) (ha:zC β a) (hb:yD β b) (h:a.length<b.length):val β a<val β b:=by
 have h1:=ZK ha
 have h2:=hb.ge (by intro e;subst e;simp at h)
 have h3:β ^ a.length<=β ^ (b.length - 1):=Nat.pow_le_pow_right hβ (by omega)
 omega
theorem yD.length_le {β:Nat} {a b:List Nat} (hβ:0<β) (ha:yD β a) (hb:yD β b) (h:val β a<=val β b):a.length<=b.length:=by
 rcases Nat.lt_or_ge b.length a.length with h1 | h1
 . have:=yD.lt_of_length hβ hb.1 ha h1;omega
 . exact h1
theorem yD.length_lt_pow {β:Nat} {a:List Nat} {k:Nat} (hβ:1<β) (ha:yD β a) (h:val β a<β ^ k):a.length<=k:=by
 rcases Nat.lt_or_ge k a.length with h1 | h1
 . have h2:=ha.ge (by intro e;subst e;simp at h1)
   have h3:β ^ k<=β ^ (a.length - 1):=Nat.pow_le_pow_right (by omega) (by omega)
   omega
 . exact h1
theorem zna {β:Nat} {a b:List Nat} (hl:a.length=b.length) (ha:zC β a) (hb:zC β b) (h:val β a=val β b):a=b:=by
 induction a generalizing b with
 | nil=>exact (List.eq_nil_of_length_eq_zero hl.symm).symm
 | cons d a ih=>
   cases b with
   | nil=>simp at hl
   | cons c b=>
     rw [Z4,Z4] at h;have h1:=ha.head;have h2:=hb.head
     have e1:d=c:=by
      have q1:(d+β*val β a) % β=d:=by rw [Nat.add_mul_mod_self_left,Nat.mod_eq_of_lt h1]
      have q2:(c+β*val β b) % β=c:=by rw [Nat.add_mul_mod_self_left,Nat.mod_eq_of_lt h2]
      rw [<- q1, <- q2,h]
     subst e1
     have e2:val β a=val β b:=by
      have:β*val β a=β*val β b:=by omega
      exact Nat.eq_of_mul_eq_mul_left (by omega) this
     rw [ih (by simpa using hl) ha.tail hb.tail e2]
theorem yD.inj {β:Nat} {a b:List Nat} (hβ:0<β) (ha:yD β a) (hb:yD β b) (h:val β a=val β b):a=b:=
 zna (Nat.le_antisymm (ha.length_le hβ hb (by omega)) (hb.length_le hβ ha (by omega))) ha.1 hb.1 h
theorem Xm {β:Nat} {a b:List Nat} (hl:a.length=b.length) (ha:zC β a) (k:Nat) (hk:k<a.length)
 (hsame:∀ j (h1:j<a.length) (h2:j<b.length),k<j->a[j]=b[j]) (hlt:a[k]<b[k]'(by omega)):val β a<val β b:=by
 have e1:=xd β a k (by omega)
 have e2:=xd β b k (by omega)
 rw [Za β a k hk] at e1
 rw [Za β b k (by omega)] at e2
 have e3:a.drop (k+1)=b.drop (k+1):=by
  apply List.ext_getElem (by simp [hl])
  intro i h1 h2
  rw [List.getElem_drop,List.getElem_drop]
  exact hsame _ _ _ (by omega)
 rw [e3] at e1
 have h1:val β (a.take k)<β ^ k:=by
  have:=ZK (ha.take k)
  rwa [List.length_take,Nat.min_eq_left (by omega)] at this
 have h2:β ^ k*(a[k]+β*val β (b.drop (k+1))+1)<=β ^ k*(b[k]'(by omega)+β*val β (b.drop (k+1))):=Nat.mul_le_mul_left _ (by omega)
 rw [Nat.mul_add _ _ 1,Nat.mul_one] at h2
 omega
def digs (β:Nat) (n:Nat):List Nat:=if _h:β<=1\/n=0 then [] else (n % β) :: digs β (n / β)
termination_by n
decreasing_by exact Nat.div_lt_self (by omega) (by omega)
theorem v8 (β:Nat):digs β 0=[]:=by rw [digs];simp
theorem vN {β n:Nat} (hβ:1<β) (hn:0<n):digs β n=(n % β) :: digs β (n / β):=by rw [digs];rw [dif_neg (by omega)]
theorem Zu {β:Nat} (hβ:1<β) (n:Nat):yD β (digs β n)/\val β (digs β n)=n:=by
 induction n using Nat.strongRecOn with
 | _ n ih=>
   by_cases hn:n=0
   . subst hn;rw [v8];exact ⟨yD.nil β,rfl⟩
   . rw [vN hβ (by omega)]
     obtain ⟨h1,h2⟩:=ih (n / β) (Nat.div_lt_self (by omega) hβ);refine ⟨⟨zC.cons (Nat.mod_lt _ (by omega)) h1.1,?_⟩,?_⟩
     . by_cases hd:digs β (n / β)=[]
       . rw [hd] at h2 |-
         have h3:n / β=0:=h2.symm
         have h4:n<β:=by
          rcases Nat.lt_or_ge n β with h | h
          . exact h
          . have:=Nat.div_pos h (by omega);omega
         rw [Nat.mod_eq_of_lt h4]
         simpa using hn
       . rw [List.getLast?_cons_of_ne_nil hd]
         exact h1.2
     . rw [Z4,h2,Nat.mod_add_div]
theorem yD.digs {β:Nat} {ds:List Nat} (hβ:1<β) (h:yD β ds):digs β (val β ds)=ds:=
 yD.inj (by omega) (Zu hβ _).1 h (Zu hβ _).2
def len (β n:Nat):Nat:=(digs β n).length
theorem yD.length_eq {β:Nat} {ds:List Nat} (hβ:1<β) (h:yD β ds):ds.length=len β (val β ds):=by rw [len,h.digs hβ]
theorem xk {β:Nat} (hβ:1<β) (n:Nat):n<β ^ len β n:=by
 have h:=Zu hβ n
 have:=ZK h.1.1
 rwa [h.2] at this
theorem yg {β n k:Nat} (hβ:1<β) (h:n<β ^ k):len β n<=k:=by
 have hs:=Zu hβ n
 exact hs.1.length_lt_pow hβ (by rw [hs.2];exact h)
theorem xT {β m n:Nat} (hβ:1<β) (h:m<=n):len β m<=len β n:=yg hβ (Nat.lt_of_le_of_lt h (xk hβ n))
theorem XA {β:Nat} (hβ:1<β) (m n:Nat):len β (m*n)<=len β m+len β n:=by
 apply yg hβ
 rw [Nat.pow_add]
 exact Nat.mul_lt_mul'' (xk hβ m) (xk hβ n)
theorem zmy {β:Nat} (hβ:1<β) (m n:Nat):len β (m+n)<=max (len β m) (len β n)+1:=by
 apply yg hβ
 rw [Nat.pow_succ]
 have h1:=xk hβ m
 have h2:=xk hβ n
 have h3:β ^ len β m<=β ^ max (len β m) (len β n):=Nat.pow_le_pow_right (by omega) (by omega)
 have h4:β ^ len β n<=β ^ max (len β m) (len β n):=Nat.pow_le_pow_right (by omega) (by omega)
 have h5:β ^ max (len β m) (len β n)*2<=β ^ max (len β m) (len β n)*β:=Nat.mul_le_mul_left _ hβ
 omega
theorem Vo (β:Nat):len β 0=0:=by rw [len,v8];rfl
theorem zbl {β n:Nat} (hβ:1<β) (h:0<n):0<len β n:=by rw [len,vN hβ h];simp
theorem zgs {β v1 v2 u2 top d r p ul vl u v:Nat} (ht:top=d*v1+r) (hu:u=(top*β+u2)*p+ul) (hv:v=(v1*β+v2)*p+vl) (hul:ul<p) (hlt:u<β*v)
 (h:β<=d\/r*β+u2<d*v2):u / v<d:=by
 have hvp:0<v:=by
  rcases Nat.eq_zero_or_pos v with e | e
  . rw [e] at hlt;simp at hlt
  . exact e
 rcases h with h | h
 . have:=(Nat.div_lt_iff_lt_mul hvp).2 hlt
   omega
 . rw [Nat.div_lt_iff_lt_mul hvp]
   have h1:top*β+u2+1<=d*(v1*β+v2):=by
    rw [ht,Nat.add_mul,Nat.mul_add,Nat.mul_assoc];omega
   have h2:(top*β+u2+1)*p<=d*(v1*β+v2)*p:=Nat.mul_le_mul_right _ h1;rw [Nat.add_mul _ 1 p,Nat.one_mul] at h2;have h3:d*v=d*(v1*β+v2)*p+d*vl:=by rw [hv,Nat.mul_add,Nat.mul_assoc]
   rw [h3,hu]
   omega
theorem zkg {β v1 v2 u2 top d r p ul vl u v:Nat} (ht:top=d*v1+r) (hu:u=(top*β+u2)*p+ul) (hv:v=(v1*β+v2)*p+vl) (hvl:vl<p) (hlt:u<β*v)
 (hv1:1<=v1) (h:d*v2<=r*β+u2):d<=u / v+1:=by
 have hvp:0<v:=by
  rcases Nat.eq_zero_or_pos v with e | e
  . rw [e] at hlt;simp at hlt
  . exact e
 have hq:u / v<β:=(Nat.div_lt_iff_lt_mul hvp).2 hlt
 rcases Nat.lt_or_ge (u / v+1) d with hd | hd
 . exfalso
   have h1:d*(v1*β+v2)<=top*β+u2:=by
    rw [ht,Nat.add_mul,Nat.mul_add,Nat.mul_assoc];omega
   have h2:d*(v1*β+v2)*p<=(top*β+u2)*p:=Nat.mul_le_mul_right _ h1
   have h3:u<(u / v+1)*v:=by
    have:=Nat.div_add_mod u v;have:=Nat.mod_lt u hvp;rw [Nat.add_mul,Nat.one_mul,Nat.mul_comm]
    omega
   have h4:(u / v+1)*v<=(u / v+1)*((v1*β+v2+1)*p):=by
    apply Nat.mul_le_mul_left
    rw [hv,Nat.add_mul _ 1 p,Nat.one_mul];omega
   have h5:d*(v1*β+v2)*p<(u / v+1)*(v1*β+v2+1)*p:=by
    rw [Nat.mul_assoc (u / v+1)];omega
   have h6:d*(v1*β+v2)<(u / v+1)*(v1*β+v2+1):=Nat.lt_of_mul_lt_mul_right h5;have h7:(u / v+1+1)*(v1*β+v2)<=d*(v1*β+v2):=Nat.mul_le_mul_right _ (by omega);rw [Nat.add_mul (u / v+1) 1,Nat.one_mul] at h7;rw [Nat.mul_add (u / v+1) _ 1,Nat.mul_one] at h6;have h8:1*β<=v1*β:=Nat.mul_le_mul_right _ hv1
   omega
 . exact hd
theorem zee {β v1 um un d r:Nat} (hv1:β<=2*v1) (hum:um<=v1) (hun:un<β) (hd:um*β+un=d*v1+r) (hr:r<v1):d<=β+1:=by
 rcases Nat.lt_or_ge (β+1) d with h | h
 . exfalso
   have h1:(β+2)*v1<=d*v1:=Nat.mul_le_mul_right _ (by omega);have h2:um*β<=v1*β:=Nat.mul_le_mul_right _ hum;rw [Nat.add_mul,Nat.mul_comm β v1] at h1
   omega
 . exact h
theorem zfc {β v2 u2 d r:Nat} (hv2:v2<β) (hd:d<=β) (hr:β<=r):d*v2<=r*β+u2:=by
 have h1:d*v2<=β*v2:=Nat.mul_le_mul_right _ hd
 have h2:β*v2<=β*β:=Nat.mul_le_mul_left _ (by omega)
 have h3:β*β<=r*β:=Nat.mul_le_mul_right _ hr
 omega
theorem zai {u v d u' B:Nat} (hd1:u / v<=d) (hd2:d<=u / v+1) (hv:0<v) (h:u' +d*v=u+0*B):d=u / v/\u' =u % v:=by
 have h1:=Nat.div_add_mod u v
 have h2:=Nat.mod_lt u hv
 rw [Nat.zero_mul,Nat.add_zero] at h
 have e:d=u / v:=by
  rcases Nat.lt_or_ge (u / v) d with h3 | h3
  . have e:d=u / v+1:=by omega
    rw [e,Nat.add_mul,Nat.one_mul,Nat.mul_comm] at h
    omega
  . omega
 refine ⟨e,?_⟩
 rw [e,Nat.mul_comm] at h
 omega
theorem zd6 {u v d u' B:Nat} (hd1:u / v<=d) (hd2:d<=u / v+1) (hv:0<v) (hB:u' <B) (h:u' +d*v=u+1*B):d=u / v+1/\u' +v=u % v+B:=by
 have h1:=Nat.div_add_mod u v
 have h2:=Nat.mod_lt u hv
 rw [Nat.one_mul] at h
 have e:d=u / v+1:=by
  rcases Nat.lt_or_ge (u / v) d with h3 | h3
  . omega
  . have e:d=u / v:=by omega
    rw [e,Nat.mul_comm] at h
    omega
 refine ⟨e,?_⟩
 rw [e,Nat.add_mul,Nat.one_mul,Nat.mul_comm] at h
 omega
theorem zma {β lo un cy bo d x y s bo' P:Nat} (hβ:0<β) (hs:s+y+bo=x+bo' *β) (hy:y=(cy+d*un) % β) {L O:Nat} (hL:L+d*lo=O+(cy+bo)*P):
 (L+P*s)+d*(lo+P*un)=(O+P*x)+((cy+d*un) / β+bo')*(P*β):=by
 have h1:=Nat.div_add_mod (cy+d*un) β
 rw [<- hy] at h1
 have h2:P*(s+y+bo)=P*(x+bo' *β):=by rw [hs]
 have h3:P*(cy+d*un)=P*(β*((cy+d*un) / β)+y):=by rw [h1]
 generalize (cy+d*un) / β=q at*
 simp only [Nat.mul_add,Nat.add_mul,Nat.mul_assoc,Nat.mul_comm,Nat.mul_left_comm] at h2 h3 hL |-
 omega
theorem ze6 {β v1 v2 u2 top p ul vl u v:Nat} (hu:u=(top*β+u2)*p+ul) (hv:v=(v1*β+v2)*p+vl) (hu2:u2<β) (hul:ul<p) (hv1:0<v1):u / v<=top / v1:=by
 rw [Nat.le_div_iff_mul_le hv1]
 have h1:u<(top+1)*(β*p):=by
  have h2:(top*β+u2+1)*p<=(top+1)*β*p:=Nat.mul_le_mul_right _ (by rw [Nat.add_mul,Nat.one_mul];omega)
  rw [Nat.add_mul _ 1,Nat.one_mul] at h2
  rw [hu, <- Nat.mul_assoc];omega
 have h3:u / v*v<=u:=Nat.div_mul_le_self u v
 have h4:u / v*(v1*(β*p))<=u / v*v:=by
  apply Nat.mul_le_mul_left
  rw [hv,Nat.add_mul,Nat.mul_assoc];omega
 have h5:u / v*v1*(β*p)<(top+1)*(β*p):=by rw [Nat.mul_assoc];omega
 have:=Nat.lt_of_mul_lt_mul_right h5
 omega
theorem zl0 {β v1 v2 um un u2 p ul vl u v:Nat} (hu:u=((um*β+un)*β+u2)*p+ul) (hv:v=(v1*β+v2)*p+vl) (hv2:v2<β) (hvl:vl<p) (hlt:u<β*v):um<=v1:=by
 rcases Nat.lt_or_ge v1 um with h | h
 . exfalso
   have h1:v<(v1+1)*(β*p):=by
    have h2:(v1*β+v2+1)*p<=(v1+1)*β*p:=Nat.mul_le_mul_right _ (by rw [Nat.add_mul,Nat.one_mul];omega);rw [Nat.add_mul _ 1,Nat.one_mul] at h2;rw [hv, <- Nat.mul_assoc];omega
   have h3:(v1+1)*(β*p)<=um*(β*p):=Nat.mul_le_mul_right _ h;have h4:β*v<=β*(um*(β*p)):=Nat.mul_le_mul_left _ (by omega)
   have h5:β*(um*(β*p))<=u:=by
    have e:β*(um*(β*p))=um*β*β*p:=by simp only [Nat.mul_assoc,Nat.mul_comm,Nat.mul_left_comm]
    have h6:um*β*β*p<=((um*β+un)*β+u2)*p:=Nat.mul_le_mul_right _ (by rw [Nat.add_mul];omega);rw [e,hu];omega
   omega
 . exact h
theorem zv {ds:List Nat} {k:Nat} (hk:k<ds.length):ds.getD k 0=ds[k]:=by
 rw [List.getD_eq_getElem?_getD,List.getElem?_eq_getElem hk];rfl
theorem vf {ds:List Nat} {k:Nat} (hk:ds.length<=k):ds.getD k 0=0:=by
 rw [List.getD_eq_getElem?_getD,List.getElem?_eq_none hk];rfl
theorem zJ (β:Nat) (ds:List Nat) (k:Nat):val β (ds.take (k+1))=val β (ds.take k)+β ^ k*ds.getD k 0:=by
 rcases Nat.lt_or_ge k ds.length with h | h
 . rw [zv h,yw β ds k h]
 . rw [vf h,List.take_of_length_le (by omega),List.take_of_length_le h];simp
theorem zeu (β:Nat) (ds:List Nat) (k d:Nat) (hk:k<ds.length):val β (ds.set k d)+β ^ k*ds[k]=val β ds+β ^ k*d:=by
 have e1:=xd β ds k (by omega)
 have e2:=xd β (ds.set k d) k (by simp;omega)
 rw [Za β ds k hk] at e1
 rw [Za β (ds.set k d) k (by simpa using hk)] at e2
 have e3:(ds.set k d).take k=ds.take k:=by rw [List.take_set_of_le (by omega)]
 have e4:(ds.set k d).drop (k+1)=ds.drop (k+1):=by rw [List.drop_set_of_lt (by omega)]
 rw [e3,e4] at e2
 simp only [List.getElem_set_self] at e2
 rw [e1,e2,Nat.mul_add,Nat.mul_add];omega
theorem zf7 {β i D A B c x y:Nat} (h:D+c*β ^ i=A+B):(D+β ^ i*((c+x+y) % β))+(c+x+y) / β*β ^ (i+1)=(A+β ^ i*x)+(B+β ^ i*y):=by
 have h1:=Nat.div_add_mod (c+x+y) β
 have h2:β ^ i*(c+x+y)=β ^ i*(β*((c+x+y) / β)+(c+x+y) % β):=by rw [h1]
 generalize (c+x+y) / β=q at*
 generalize (c+x+y) % β=r at*
 rw [Nat.pow_succ]
 simp only [Nat.mul_add,Nat.add_mul,Nat.mul_assoc,Nat.mul_comm,Nat.mul_left_comm] at h2 h |-
 omega
theorem zh7 {β i D A B b x y s b' :Nat} (h:D+B=A+b*β ^ i) (hs:s+y+b=x+b' *β):(D+β ^ i*s)+(B+β ^ i*y)=(A+β ^ i*x)+b' *β ^ (i+1):=by
 have h2:β ^ i*(s+y+b)=β ^ i*(x+b' *β):=by rw [hs]
 rw [Nat.pow_succ]
 simp only [Nat.mul_add,Nat.add_mul,Nat.mul_assoc,Nat.mul_comm,Nat.mul_left_comm] at h2 h |-
 omega
theorem zf2 {β P k O O' c x y o Y Z:Nat} (h:O+c*(P*β ^ k)=Z+x*P*Y) (hs:O' +P*β ^ k*o=O+P*β ^ k*((c+x*y+o) % β)):
 O' +(c+x*y+o) / β*(P*β ^ (k+1))=Z+x*P*(Y+β ^ k*y):=by
 have h1:=Nat.div_add_mod (c+x*y+o) β
 have h2:P*β ^ k*(c+x*y+o)=P*β ^ k*(β*((c+x*y+o) / β)+(c+x*y+o) % β):=by rw [h1]
 generalize (c+x*y+o) / β=q at*
 generalize (c+x*y+o) % β=r at*
 rw [Nat.pow_succ]
 simp only [Nat.mul_add,Nat.add_mul,Nat.mul_assoc,Nat.mul_comm,Nat.mul_left_comm] at h2 h hs |-
 omega
theorem zdv {β c x y o:Nat} (hc:c<β) (hx:x<β) (hy:y<β) (ho:o<β):c+x*y+o<β*β:=by
 have h1:x*y<=(β - 1)*(β - 1):=Nat.mul_le_mul (by omega) (by omega)
 obtain ⟨g,rfl⟩:∃ g,β=g+1:=⟨β - 1,by omega⟩
 simp only [Nat.add_sub_cancel] at h1
 rw [Nat.add_mul,Nat.mul_add]
 omega
theorem zgl {β d x r:Nat} (hd:0<d) (hr:r<d) (hx:x<β):(r*β+x) / d<β/\(r*β+x) % d<d:=by
 refine ⟨(Nat.div_lt_iff_lt_mul hd).2 ?_,Nat.mod_lt _ hd⟩
 have:(r+1)*β<=d*β:=Nat.mul_le_mul_right _ (by omega)
 rw [Nat.add_mul,Nat.one_mul] at this
 rw [Nat.mul_comm β d]
 omega
theorem znu {β d x r Q A:Nat} (h:A=Q*d+r):x+β*A=((r*β+x) / d+β*Q)*d+(r*β+x) % d:=by
 have h1:=Nat.div_add_mod (r*β+x) d
 have h2:(r*β+x) / d*d+(r*β+x) % d=r*β+x:=by rw [Nat.mul_comm];exact h1
 rw [h,Nat.add_mul]
 simp only [Nat.mul_add,Nat.add_mul,Nat.mul_assoc,Nat.mul_comm,Nat.mul_left_comm] at h2 |-
 omega
theorem Y2 (β:Nat) (ds:List Nat) (k d:Nat) (hk:k<ds.length):val β ((ds.set k d).drop k)=d+β*val β (ds.drop (k+1)):=by
 rw [Za β (ds.set k d) k (by simpa using hk),List.drop_set_of_lt (by omega)]
 simp only [List.getElem_set_self]
theorem zm1 {β s i D A x:Nat} {o:Nat} (h:D+β ^ i*o=A*s):(D+β ^ i*(o+x*s % β))+β ^ (i+1)*(x*s / β)=(A+β ^ i*x)*s:=by
 have h1:=Nat.div_add_mod (x*s) β
 have h2:β ^ i*(x*s)=β ^ i*(β*(x*s / β)+x*s % β):=by rw [h1]
 generalize x*s / β=q at*
 generalize x*s % β=r at*
 rw [Nat.pow_succ,Nat.add_mul]
 simp only [Nat.mul_add,Nat.add_mul,Nat.mul_assoc,Nat.mul_comm,Nat.mul_left_comm] at h2 h |-
 omega
theorem zdi {n a b:Nat} (hb:b<2 ^ n):(2 ^ n*a) ||| b=2 ^ n*a+b:=(Nat.two_pow_add_eq_or_of_lt hb a).symm
theorem XF {n a b:Nat} (hb:b<2 ^ n):b ||| (2 ^ n*a)=b+2 ^ n*a:=by rw [Nat.or_comm,zdi hb,Nat.add_comm]
theorem zea {s t x:Nat} (hs:0<s):x*s % (s*t)=s*(x % t):=by rw [Nat.mul_comm x s,Nat.mul_mod_mul_left]
theorem zji {s t i A x:Nat} (hs:0<s) (ht:0<t):(A+(s*t) ^ (i+1)*x) / s=A / s+(s*t) ^ i*(t*x):=by
 have e:(s*t) ^ (i+1)*x=s*((s*t) ^ i*(t*x)):=by
  rw [Nat.pow_succ];simp only [Nat.mul_assoc,Nat.mul_comm,Nat.mul_left_comm]
 rw [e,Nat.add_mul_div_left _ _ hs]
theorem zgv {s t x:Nat} (ht:0<t):t*x=t*(x % s)+s*t*(x / s):=by
 conv=>lhs;rw [<- Nat.mod_add_div x s]
 rw [Nat.mul_add]
 simp only [Nat.mul_assoc,Nat.mul_comm,Nat.mul_left_comm]
def chr (d:Nat):UInt8:=UInt8.ofNat (48+d)
def dig (c:UInt8):Nat:=c.toNat - 48
def yI (c:UInt8):Bool:=decide (48<=c.toNat) && decide (c.toNat<=57)
def yM (l:List UInt8):Bool:=l.all yI && !l.isEmpty
def zy (l:List UInt8):Nat:=l.foldl (fun n c=>10*n+dig c) 0
def dec (n:Nat):List UInt8:=if n=0 then [48] else (digs 10 n).reverse.map chr
theorem zm4 {d:Nat} (h:d<10):dig (chr d)=d:=by
 unfold dig chr
 rw [UInt8.toNat_ofNat']
 have:(48+d) % 2 ^ 8=48+d:=Nat.mod_eq_of_lt (by omega)
 omega
theorem zjw {d:Nat} (h:d<10):yI (chr d)=true:=by
 unfold yI chr
 rw [UInt8.toNat_ofNat']
 have:(48+d) % 2 ^ 8=48+d:=Nat.mod_eq_of_lt (by omega)
 simp [this];omega
theorem zbr {c:UInt8} (h:yI c=true):chr (dig c)=c:=by
 simp [yI] at h
 unfold chr dig
 apply UInt8.toNat_inj.1
 rw [UInt8.toNat_ofNat']
 have:c.toNat<2 ^ 8:=UInt8.toNat_lt c
 have:(48+(c.toNat - 48)) % 2 ^ 8=48+(c.toNat - 48):=Nat.mod_eq_of_lt (by omega)
 omega
theorem zmj {c:UInt8} (h:yI c=true):dig c<10:=by
 simp [yI] at h;unfold dig;omega
theorem zdr {d:Nat} (h:d<10):(chr d).toNat=48+d:=by
 unfold chr;rw [UInt8.toNat_ofNat'];exact Nat.mod_eq_of_lt (by omega)
theorem zay:zy []=0:=rfl
theorem XW (l:List UInt8):∀ n:Nat,l.foldl (fun n c=>10*n+dig c) n=n*10 ^ l.length+zy l:=by
 induction l with
 | nil=>intro n;simp [zy]
 | cons c l ih=>
   intro n
   have e:zy (c :: l)=(10*0+dig c)*10 ^ l.length+zy l:=by
    show List.foldl (fun n c=>10*n+dig c) (10*0+dig c) l=_
    exact ih _
   rw [List.foldl_cons,ih,e,List.length_cons,Nat.pow_succ];simp only [Nat.mul_add,Nat.add_mul,Nat.mul_assoc,Nat.mul_comm,Nat.mul_left_comm,Nat.mul_zero,Nat.zero_add]
   omega
theorem Yi (a b:List UInt8):zy (a ++ b)=zy a*10 ^ b.length+zy b:=by
 rw [zy,List.foldl_append,XW b];rfl
theorem zfo (a:List UInt8) (c:UInt8):zy (a ++ [c])=10*zy a+dig c:=by
 rw [Yi];simp [zy];omega
theorem zaf (c:UInt8) (l:List UInt8):zy (c :: l)=dig c*10 ^ l.length+zy l:=by
 rw [zy,List.foldl_cons,XW];simp
theorem ZW (l:List UInt8):zy l=val 10 (l.reverse.map dig):=by
 induction l with
 | nil=>rfl
 | cons c l ih=>rw [zaf,List.reverse_cons,List.map_append,Zi,ih];simp [val];rw [Nat.mul_comm];omega
theorem Y8 {l:List UInt8} (h:l.all yI=true):zy l<10 ^ l.length:=by
 rw [ZW]
 have hs:zC 10 (l.reverse.map dig):=by
  intro d hd
  simp at hd
  obtain ⟨c,hc,rfl⟩:=hd
  exact zmj (List.all_eq_true.1 h c hc)
 simpa using ZK hs
theorem za5 (n:Nat):zC 10 (digs 10 n):=(Zu (by omega) n).1.1
theorem VL (n:Nat):(dec n).all yI=true:=by
 unfold dec
 split
 . rfl
 . rw [List.all_eq_true]
   intro c hc;simp only [List.mem_map,List.mem_reverse] at hc;obtain ⟨d,hd,rfl⟩:=hc;exact zjw (za5 n d hd)
theorem zpk (n:Nat):dec n≠[]:=by
 unfold dec
 split
 . simp
 . rename_i h
   rw [vN (by omega) (by omega)];simp
theorem YD (n:Nat):yM (dec n)=true:=by
 unfold yM;rw [VL];simp [zpk]
theorem vy (n:Nat):zy (dec n)=n:=by
 unfold dec
 split
 . rename_i h;subst h;decide
 . rw [ZW, <- List.map_reverse,List.reverse_reverse,List.map_map]
   have e:(digs 10 n).map (dig ∘ chr)=digs 10 n:=by
    have:∀ l:List Nat,zC 10 l->l.map (dig ∘ chr)=l:=by
     intro l
     induction l with
     | nil=>intro _;rfl
     | cons d l ih=>intro h;rw [List.map_cons,ih h.tail];simp [zm4 h.head]
    exact this _ (za5 n)
   rw [e];exact (Zu (by omega) n).2
theorem zfl {m n:Nat} (h:dec m=dec n):m=n:=by rw [<- vy m,h,vy]
theorem xt:dec 0=[48]:=by simp [dec]
theorem zl2 (n:Nat) (hn:n≠0):∀ c,(dec n).head?=some c->c≠48:=by
 intro c hc
 unfold dec at hc
 rw [if_neg hn,List.head?_map,List.head?_reverse] at hc
 have hs:=Zu (β:=10) (by omega) n
 cases hl:(digs 10 n).getLast? with
 | none=>rw [hl] at hc;cases hc
 | some d=>
   rw [hl] at hc;simp at hc;subst hc;have h1:d<10:=hs.1.1 d (List.mem_of_getLast? hl);have h2:d≠0:=fun e=>hs.1.2 (by rw [hl,e])
   intro e;have:=congrArg UInt8.toNat e;rw [zdr h1] at this;simp at this
   omega
theorem zhb {l:List UInt8} (h:yM l=true) (h0:l.head?≠some 48\/l.length=1):dec (zy l)=l:=by
 simp [yM] at h
 obtain ⟨ha,hne⟩:=h
 have hs:zC 10 (l.reverse.map dig):=by
  intro d hd
  simp at hd
  obtain ⟨c,hc,rfl⟩:=hd
  exact zmj (ha c hc)
 have hm:∀ l:List UInt8,(∀ c∈l,yI c=true)->l.map (chr ∘ dig)=l:=by
  intro l
  induction l with
  | nil=>intro _;rfl
  | cons c l ih=>intro h;rw [List.map_cons,ih (fun c hc=>h c (List.mem_cons_of_mem _ hc))];simp [zbr (h c List.mem_cons_self)]
 by_cases hz:zy l=0
 . unfold dec
   rw [if_pos hz]
   rcases h0 with h0 | h0
   . exfalso
     cases l with
     | nil=>exact hne rfl
     | cons c l=>
       simp at h0;rw [zaf] at hz;have hc:=ha c List.mem_cons_self
       have h1:dig c=0:=by
        rcases Nat.eq_zero_or_pos (dig c) with e | e
        . exact e
        . have:=Nat.mul_pos e (Nat.pow_pos (n:=l.length) (show 0<10 by omega));omega
       have h2:=zbr hc;rw [h1] at h2;exact h0 h2.symm
   . match l,h0 with
     | [c],_=>
       have h1:dig c=0:=by simpa [zy] using hz
       have h2:=zbr (ha c List.mem_cons_self);rw [h1] at h2;rw [<- h2];rfl
 . have hc:yD 10 (l.reverse.map dig):=by
    refine ⟨hs,?_⟩;rw [List.getLast?_map,List.getLast?_reverse]
    cases l with
    | nil=>exact absurd rfl hne
    | cons c l=>
      simp only [List.head?_cons,Option.map_some];intro e;injection e with e
      have h2:=zbr (ha c List.mem_cons_self);rw [e] at h2
      rcases h0 with h0 | h0
      . apply h0;rw [<- h2];rfl
      . have:l=[]:=List.eq_nil_of_length_eq_zero (by simpa using h0)
        subst this
        apply hz
        simp [zy,e]
   unfold dec;rw [if_neg hz,ZW,hc.digs (by omega), <- List.map_reverse,List.reverse_reverse,List.map_map,hm l ha]
theorem zau (n:Nat) (hn:n≠0):(dec n).length=len 10 n:=by unfold dec;rw [if_neg hn];simp [len]
theorem ZV {n k:Nat} (h:n<10 ^ k) (hk:0<k):(dec n).length<=k:=by
 by_cases hn:n=0
 . subst hn;rw [xt];exact hk
 . rw [zau n hn];exact yg (by omega) h
theorem vV {n k:Nat} (h:(dec n).length<=k):n<10 ^ k:=by
 have h1:=Y8 (VL n)
 rw [vy] at h1
 exact Nat.lt_of_lt_of_le h1 (Nat.pow_le_pow_right (by omega) h)
theorem ZU {β n:Nat} (hβ:10<=β):len β n<=(dec n).length:=by
 apply yg (by omega)
 exact Nat.lt_of_lt_of_le (vV (Nat.le_refl _)) (Nat.pow_le_pow_left hβ _)
theorem zix {n m:Nat} {b:List Nat} (h:b ++ digs 10 m=digs 10 n) (hm:0<m):(b ++ [m % 10]) ++ digs 10 (m / 10)=digs 10 n:=by
 rw [<- h,vN (by omega) hm];simp
def X6 (β:Int):List Int->Int
 | []=>0
 | d :: ds=>d+β*X6 β ds
theorem VD (β:Int) (a b:List Int):X6 β (a ++ b)=X6 β a+β ^ a.length*X6 β b:=by
 induction a with
 | nil=>simp [X6]
 | cons d a ih=>simp only [List.cons_append,X6,ih,List.length_cons,Int.pow_succ];rw [Int.mul_add,Int.mul_comm (β ^ a.length) β,Int.mul_assoc];omega
theorem zae (β:Nat) (ds:List Nat):X6 β (ds.map fun (d:Nat)=>(d:Int))=(val β ds:Int):=by
 induction ds with
 | nil=>rfl
 | cons d ds ih=>simp only [List.map_cons,X6,val,ih];push_cast;rfl
theorem zgg (β:Int) (zs:List Int) (k:Nat) (d:Int) (hk:k<zs.length):X6 β (zs.set k d)=X6 β zs+β ^ k*(d - zs[k]):=by
 induction zs generalizing k with
 | nil=>simp at hk
 | cons z zs ih=>
   cases k with
   | zero=>simp [X6];omega
   | succ k=>
     simp only [List.set_cons_succ,X6,List.getElem_cons_succ];rw [ih k (by simpa using hk),Int.mul_add,Int.pow_succ, <- Int.mul_assoc,Int.mul_comm β (β ^ k)]
     omega
def Fits (lo hi:Int) (zs:List Int):Prop:=∀ z∈zs,lo<=z/\z<hi
theorem Fits.get {lo hi:Int} {zs:List Int} (h:Fits lo hi zs) {k:Nat} (hk:k<zs.length):lo<=zs[k]/\zs[k]<hi:=h _ (List.getElem_mem hk)
theorem znz {β:Int} (hβ:0<β) {zs:List Int} (h:Fits 0 β zs):0<=X6 β zs/\X6 β zs<β ^ zs.length:=by
 induction zs with
 | nil=>simp [X6]
 | cons z zs ih=>
   obtain ⟨h1,h2⟩:=h z List.mem_cons_self;obtain ⟨h3,h4⟩:=ih (fun x hx=>h x (List.mem_cons_of_mem _ hx));simp only [X6,List.length_cons,Int.pow_succ];have h5:=Int.mul_nonneg (Int.le_of_lt hβ) h3;have h6:β*(X6 β zs+1)<=β*β ^ zs.length:=Int.mul_le_mul_of_nonneg_left (by omega) (Int.le_of_lt hβ);rw [Int.mul_add,Int.mul_one] at h6;rw [Int.mul_comm (β ^ zs.length)]
   omega
theorem zku {β:Nat} {zs:List Int} (h:Fits 0 β zs):∃ ds:List Nat,zs=(ds.map fun (d:Nat)=>(d:Int))/\zC β ds/\ds.length=zs.length:=by
 refine ⟨zs.map Int.toNat,?_,?_,by simp⟩
 . rw [List.map_map]
   conv=>lhs;rw [<- List.map_id zs]
   apply List.map_congr_left
   intro z hz;have:=(h z hz).1
   simp;omega
 . intro d hd
   obtain ⟨z,hz,rfl⟩:=List.mem_map.1 hd;have:=h z hz
   omega
def xP (da db:List Nat) (k:Nat):List Int:=(List.range da.length).map fun j=>if j<k then (da.getD j 0:Int) - db.getD j 0 else da.getD j 0
theorem xC (da db:List Nat) (k:Nat):(xP da db k).length=da.length:=by simp [xP]
theorem Zm (da db:List Nat) (k j:Nat) (hj:j<da.length):(xP da db k)[j]'(by rw [xC];exact hj)=if j<k then (da.getD j 0:Int) - db.getD j 0 else da.getD j 0:=by simp [xP]
theorem zcj (da db:List Nat):xP da db 0=da.map fun (d:Nat)=>(d:Int):=by
 apply List.ext_getElem
 . simp [xP]
 . intro j h1 h2
   rw [Zm _ _ _ _ (by simpa using h2)];simp at h2
   simp [h2]
theorem zew (da db:List Nat) (k:Nat) (hk:k<da.length):(xP da db k).set k ((da.getD k 0:Int) - db.getD k 0)=xP da db (k+1):=by
 apply List.ext_getElem
 . simp [xP]
 . intro j h1 h2
   rw [xC] at h2;rw [Zm _ _ _ _ h2,List.getElem_set]
   by_cases h:k=j
   . subst h;simp
   . rw [if_neg h,Zm _ _ _ _ h2]
     by_cases h3:j<k
     . rw [if_pos h3,if_pos (by omega)]
     . rw [if_neg h3,if_neg (by omega)]
theorem zc7 (β:Int) (f g:Nat->Int):∀ l:List Nat,X6 β (l.map fun j=>f j - g j)=X6 β (l.map f) - X6 β (l.map g):=by
 intro l
 induction l with
 | nil=>rfl
 | cons x l ih=>simp only [List.map_cons,X6,ih];rw [Int.mul_sub];omega
theorem zg4 (da:List Nat):((List.range da.length).map fun j=>((da.getD j 0:Nat):Int))=da.map fun (d:Nat)=>(d:Int):=by
 apply List.ext_getElem
 . simp
 . intro j h1 h2
   simp at h1
   simp [h1]
theorem zgu (β:Int):∀ n,X6 β (List.replicate n 0)=0:=by
 intro n
 induction n with
 | zero=>rfl
 | succ n ih=>rw [List.replicate_succ,X6,ih];simp
theorem zhp (β:Nat) (db:List Nat) (n:Nat) (h:db.length<=n):X6 β ((List.range n).map fun j=>((db.getD j 0:Nat):Int))=val β db:=by
 obtain ⟨m,rfl⟩:∃ m,n=db.length+m:=⟨n - db.length,by omega⟩
 have e:((List.range (db.length+m)).map fun j=>((db.getD j 0:Nat):Int))=(db.map fun (d:Nat)=>(d:Int)) ++ List.replicate m 0:=by
  apply List.ext_getElem
  . simp
  . intro j h1 h2
    simp at h1;rw [List.getElem_append]
    by_cases hj:j<db.length
    . simp [hj]
    . simp [hj]
 rw [e,VD,zgu,zae];simp
theorem zc0 (β:Nat) (da db:List Nat) (h:db.length<=da.length):X6 β (xP da db db.length)=(val β da:Int) - val β db:=by
 have e:xP da db db.length=(List.range da.length).map fun j=>((da.getD j 0:Nat):Int) - ((db.getD j 0:Nat):Int):=by
  unfold xP
  apply List.map_congr_left
  intro j _
  by_cases hj:j<db.length
  . rw [if_pos hj]
  . rw [if_neg hj,vf (ds:=db) (by omega)];simp
 rw [e,zc7,zg4,zae,zhp _ _ _ h]
theorem zcc {β:Nat} {da db:List Nat} (hβ:0<β) (ha:zC β da) (hb:zC β db) (k:Nat):Fits (-(β:Int)) β (xP da db k):=by
 intro z hz
 obtain ⟨j,hj,rfl⟩:=List.mem_map.1 hz
 have h1:=ha.getD hβ j
 have h2:=hb.getD hβ j
 split<;>omega
def Z9 (β:Int) (zs:List Int) (k:Nat) (V:Int):Prop:=
 X6 β zs=V/\Fits 0 β (zs.take k)/\(∀ h:k<zs.length,-β<=zs[k]/\zs[k]<β)/\∀ j (h:j<zs.length),k<j-> -β<zs[j]/\zs[j]<β
theorem Z9.start {β:Nat} {da db:List Nat} (hβ:0<β) (ha:zC β da) (hb:zC β db) (h:db.length<=da.length):Z9 β (xP da db db.length) 0 ((val β da:Int) - val β db):=by
 refine ⟨zc0 β da db h,by intro z hz;simp at hz,fun h0=>(zcc hβ ha hb _).get h0,fun j hj _=>?_⟩
 rw [xC] at hj
 rw [Zm _ _ _ _ hj]
 have h1:=ha.getD hβ j
 have h2:=hb.getD hβ j
 split<;>omega
theorem zdf {lo hi:Int} {zs:List Int} {k:Nat} (hk:k<zs.length) (h:Fits lo hi (zs.take k)) (h1:lo<=zs[k]) (h2:zs[k]<hi):Fits lo hi (zs.take (k+1)):=by
 intro z hz
 rw [Yy _ _ hk] at hz
 rcases List.mem_append.1 hz with h3 | h3
 . exact h z h3
 . simp at h3;subst h3;exact ⟨h1,h2⟩
theorem Z9.keep {β:Int} {zs:List Int} {k:Nat} {V:Int} (h:Z9 β zs k V) (hk:k<zs.length) (h0:0<=zs[k]):Z9 β zs (k+1) V:=by
 obtain ⟨h1,h2,h3,h4⟩:=h
 refine ⟨h1,zdf hk h2 h0 (h3 hk).2,fun hk' =>?_,fun j hj hlt=>h4 j hj (by omega)⟩
 have:=h4 (k+1) hk' (by omega)
 omega
theorem Z9.more {β:Int} (hβ:0<β) {zs:List Int} {k:Nat} {V:Int} (h:Z9 β zs k V) (hV:0<=V) (hk:k<zs.length) (h0:zs[k]<0):k+1<zs.length:=by
 rcases Nat.lt_or_ge (k+1) zs.length with h5 | h5
 . exact h5
 . exfalso
   obtain ⟨h1,h2,h3,h4⟩:=h;have e:zs=zs.take k ++ [zs[k]]:=by rw [<- Yy _ _ hk,List.take_of_length_le h5]
   have h6:=VD β (zs.take k) [zs[k]];rw [<- e,h1] at h6;simp only [X6,Int.mul_zero,Int.add_zero] at h6;have h7:=(znz hβ h2).2;have h8:β ^ (zs.take k).length*zs[k]<=β ^ (zs.take k).length*(-1):=Int.mul_le_mul_of_nonneg_left (by omega) (Int.le_of_lt (Int.pow_pos hβ))
   omega
theorem Z9.back {β:Int} (hβ:0<β) {zs:List Int} {k:Nat} {V:Int} (h:Z9 β zs k V) (hk:k+1<zs.length) (h0:zs[k]<0):
 Z9 β ((zs.set k (zs[k]+β)).set (k+1) (zs[k+1] - 1)) (k+1) V:=by
 obtain ⟨h1,h2,h3,h4⟩:=h
 have hb:=h3 (by omega)
 have hb1:=h4 (k+1) hk (by omega)
 refine ⟨?_,?_,?_,?_⟩
 . rw [zgg _ _ _ _ (by simpa using hk),zgg _ _ _ _ (by omega),List.getElem_set_ne (by omega),h1,Int.pow_succ]
   have e1:zs[k]+β - zs[k]=β:=by omega
   have e2:zs[k+1] - 1 - zs[k+1]= -1:=by omega
   rw [e1,e2]
   omega
 . rw [List.take_set_of_le (by omega)]
   apply zdf (by simpa using (by omega:k<zs.length))
   . rw [List.take_set_of_le (by omega)];exact h2
   . rw [List.getElem_set_self];omega
   . rw [List.getElem_set_self];omega
 . intro h5
   rw [List.getElem_set_self]
   omega
 . intro j hj hlt
   simp at hj;rw [List.getElem_set_ne (by omega),List.getElem_set_ne (by omega)];exact h4 j hj (by omega)
theorem Z9.done {β:Nat} {zs:List Int} {k:Nat} {V:Nat} (h:Z9 β zs k (V:Int)) (hk:zs.length<=k):∃ ds:List Nat,zs=(ds.map fun (d:Nat)=>(d:Int))/\zC β ds/\ds.length=zs.length/\val β ds=V:=by
 obtain ⟨h1,h2,_,_⟩:=h
 rw [List.take_of_length_le hk] at h2
 obtain ⟨ds,rfl,hs,hl⟩:=zku h2
 refine ⟨ds,rfl,hs,hl,?_⟩
 rw [zae] at h1
 omega
def zT (q:Rat):List UInt8:=(if q.num<0 then [45] else []) ++ dec q.num.natAbs ++ (if q.den=1 then [] else 47 :: dec q.den)
def y6 (M:Nat) (q:Rat):Prop:=(dec q.num.natAbs).length<=M/\(dec q.den).length<=M
instance (M:Nat) (q:Rat):Decidable (y6 M q):=inferInstanceAs (Decidable (_/\_))
def zch (l:List UInt8) (q:Rat):Prop:=l=zT q/\y6 50000 q
def yv (l:List UInt8):Bool:=l.head? == some 45
def zo (l:List UInt8):List UInt8:=if yv l then l.tail else l
def ahead (c:UInt8) (l:List UInt8):List UInt8:=l.takeWhile (· != c)
def yb (c:UInt8) (l:List UInt8):List UInt8:=(l.dropWhile (· != c)).tail
def has (c:UInt8) (l:List UInt8):Bool:=l.contains c
def xG (neg:Bool) (n d:Nat):Rat:=Rat.divInt (if neg then -(n:Int) else n) d
theorem Yk {neg:Bool} {n d:Nat} (hc:Nat.Coprime n d) (hd:d≠0):(xG neg n d).num=(if neg then -(n:Int) else n)/\(xG neg n d).den=d:=by
 have hc' :Nat.Coprime (if neg then -(n:Int) else n).natAbs d:=by cases neg<;>simpa using hc
 have e:xG neg n d=⟨if neg then -(n:Int) else n,d,hd,hc'⟩:=by rw [Rat.mk_eq_divInt];rfl
 rw [e];exact ⟨rfl,rfl⟩
theorem Yp {l:List UInt8} (h:l.all yI=true) {c:UInt8} (hc:yI c=false):∀ x∈l,(x != c)=true:=by
 intro x hx
 have h1:=List.all_eq_true.1 h x hx
 rw [bne_iff_ne]
 rintro rfl
 rw [h1] at hc;cases hc
theorem YY:yI 47=false:=by decide
theorem ze4:yI 45=false:=by decide
theorem Xq {l t:List UInt8} {p:UInt8->Bool} (h:∀ x∈l,p x=true):(l ++ t).takeWhile p=l ++ t.takeWhile p:=by
 induction l with
 | nil=>rfl
 | cons c l ih=>simp [List.takeWhile_cons,h c List.mem_cons_self,ih (fun x hx=>h x (List.mem_cons_of_mem _ hx))]
theorem zb7 {l t:List UInt8} {p:UInt8->Bool} (h:∀ x∈l,p x=true):(l ++ t).dropWhile p=t.dropWhile p:=by
 induction l with
 | nil=>rfl
 | cons c l ih=>simp [List.dropWhile_cons,h c List.mem_cons_self,ih (fun x hx=>h x (List.mem_cons_of_mem _ hx))]
theorem zh2 {c:UInt8} {l:List UInt8} (h:l.all yI=true) (hc:yI c=false) (t:List UInt8):ahead c (l ++ c :: t)=l:=by
 unfold ahead
 rw [Xq (Yp h hc)];simp [List.takeWhile_cons]
theorem zhs {c:UInt8} {l:List UInt8} (h:l.all yI=true) (hc:yI c=false) (t:List UInt8):yb c (l ++ c :: t)=t:=by
 unfold yb
 rw [zb7 (Yp h hc)];simp [List.dropWhile_cons]
theorem zne (c:UInt8) (l t:List UInt8):has c (l ++ c :: t)=true:=by unfold has;simp
theorem YE {c:UInt8} {l:List UInt8} (h:has c l=false):ahead c l=l:=by
 unfold has at h;unfold ahead
 have h' :c ∉ l:=by simpa using h
 have:=Xq (l:=l) (t:=[]) (p:=(· != c)) (by
  intro a ha
  rw [bne_iff_ne]
  rintro rfl
  exact h' ha)
 simpa using this
theorem zg9 {c:UInt8} {l:List UInt8} (h:l.all yI=true) (hc:yI c=false):has c l=false:=by
 unfold has
 rw [Bool.eq_false_iff]
 intro h1
 have h2:=List.contains_iff_mem.1 h1
 have:=List.all_eq_true.1 h c h2
 rw [this] at hc;cases hc
theorem zjz {c:UInt8} {l:List UInt8} (h:has c l=true):l=ahead c l ++ c :: yb c l:=by
 unfold has at h;unfold ahead yb
 have h1:c∈l:=List.contains_iff_mem.1 h
 have e:(l.dropWhile (· != c)).head?=some c:=by
  cases hd:l.dropWhile (· != c) with
  | nil=>
    have h2:=List.takeWhile_append_dropWhile (p:=(· != c)) (l:=l);rw [hd,List.append_nil] at h2;rw [<- h2] at h1;have:=List.all_eq_true.1 (List.all_takeWhile (p:=(· != c)) (l:=l)) c h1;simp at this
  | cons a t=>
    have:=List.head?_dropWhile_not (· != c) l;rw [hd] at this;simp at this;rw [this];rfl
 cases hd:l.dropWhile (· != c) with
 | nil=>rw [hd] at e;cases e
 | cons a t=>
   rw [hd] at e;injection e with e
   subst e;have:=List.takeWhile_append_dropWhile (p:=(· != a)) (l:=l);rw [hd] at this;exact this.symm
theorem Z2 {l:List UInt8} (h:yv l=false):zo l=l:=by unfold zo;rw [h];rfl
theorem YB {l:List UInt8} (h:yv l=true):l=45 :: zo l:=by
 unfold zo;rw [h]
 unfold yv at h
 cases l with
 | nil=>simp at h
 | cons c l=>simp at h;subst h;rfl
theorem zmw (l:List UInt8):l=(if yv l then [45] else []) ++ zo l:=by
 by_cases h:yv l=true
 . rw [if_pos h];exact YB h
 . rw [if_neg h,Z2 (by simpa using h)];rfl
theorem zbn {l t:List UInt8} (h:yM l=true):yv (l ++ t)=false:=by
 simp [yM] at h
 unfold yv
 cases l with
 | nil=>simp at h
 | cons c l=>
   have hc:=h.1 c List.mem_cons_self
   simp
   rintro rfl
   simp [ze4] at hc
theorem zbh {l:List UInt8} {q:Rat} (h:l=zT q):yv l=decide (q.num<0)/\ahead 47 (zo l)=dec q.num.natAbs/\has 47 (zo l)=decide (q.den≠1)/\
 (q.den≠1->yb 47 (zo l)=dec q.den):=by
 have hn:yv (dec q.num.natAbs ++ (if q.den=1 then [] else 47 :: dec q.den))=false:=zbn (YD _)
 have hs:yv l=decide (q.num<0):=by
  rw [h,zT,List.append_assoc]
  by_cases h0:q.num<0
  . rw [if_pos h0];simp [yv,h0]
  . rw [if_neg h0,List.nil_append,hn];simp [h0]
 have hu:zo l=dec q.num.natAbs ++ (if q.den=1 then [] else 47 :: dec q.den):=by
  by_cases h0:q.num<0
  . have:=YB (l:=l) (by rw [hs];simpa using h0)
    rw [h,zT,if_pos h0] at this;simp only [List.cons_append,List.nil_append,List.cons.injEq,true_and] at this;rw [h,zT,if_pos h0];simp only [List.cons_append,List.nil_append];rw [<- this]
  . rw [Z2 (by rw [hs];simpa using h0),h,zT,if_neg h0,List.nil_append]
 refine ⟨hs,?_⟩
 rw [hu]
 by_cases hd:q.den=1
 . rw [if_pos hd,List.append_nil]
   have hh:=zg9 (VL q.num.natAbs) YY;refine ⟨YE hh,?_,fun h=>absurd hd h⟩;rw [hh];simp [hd]
 . rw [if_neg hd]
   exact ⟨zh2 (VL _) YY _,by rw [zne];simp [hd],fun _=>zhs (VL _) YY _⟩
def zX (l:List UInt8):Bool:=yM l && (l.head? != some 48 || l.length == 1) && decide (l.length<=50000)
theorem zcv {n:Nat} (h:(dec n).length<=50000):zX (dec n)=true:=by
 unfold zX
 rw [YD]
 by_cases hn:n=0
 . subst hn;rw [xt];decide
 . have h1:((dec n).head? != some 48)=true:=by
    rw [bne_iff_ne];intro h2;exact zl2 n hn 48 h2 rfl
   rw [h1];simp [h]
theorem Zk {l:List UInt8} (h:zX l=true):dec (zy l)=l/\l.length<=50000/\yM l=true:=by
 unfold zX at h
 simp only [Bool.and_eq_true,Bool.or_eq_true,bne_iff_ne,ne_eq,beq_iff_eq,decide_eq_true_eq] at h
 exact ⟨zhb h.1.1 h.1.2,h.2,h.1.1⟩
theorem Xr {l:List UInt8} (hn:zX (ahead 47 (zo l))=true) (h0:yv l=true->ahead 47 (zo l)≠[48])
 (hd:has 47 (zo l)=true->zX (yb 47 (zo l))=true/\yb 47 (zo l)≠[48]/\yb 47 (zo l)≠[49]/\
   Nat.Coprime (zy (ahead 47 (zo l))) (zy (yb 47 (zo l)))):
 zch l (xG (yv l) (zy (ahead 47 (zo l))) (if has 47 (zo l) then zy (yb 47 (zo l)) else 1)):=by
 obtain ⟨e1,l1,_⟩:=Zk hn
 have hl:=zmw l
 generalize hs:yv l=s at*
 generalize hu:zo l=u at*
 have hneg:s=true->zy (ahead 47 u)≠0:=by
  intro hs' h
  rw [h,xt] at e1
  exact h0 hs' e1.symm
 by_cases hh:has 47 u=true
 . obtain ⟨hd1,hd2,hd3,hc⟩:=hd hh
   obtain ⟨e2,l2,_⟩:=Zk hd1
   have hz:zy (yb 47 u)≠0:=by
    intro h;rw [h,xt] at e2;exact hd2 e2.symm
   have h1:zy (yb 47 u)≠1:=by
    intro h;rw [h] at e2;exact hd3 (by rw [<- e2];simp [dec,vN (β:=10) (n:=1) (by omega) (by omega),v8];decide)
   rw [if_pos hh];obtain ⟨p1,p2⟩:=Yk (neg:=s) hc hz;have p3:(xG s (zy (ahead 47 u)) (zy (yb 47 u))).num.natAbs=zy (ahead 47 u):=by rw [p1];cases s<;>simp
   refine ⟨?_,by unfold y6;rw [p2,p3,e1,e2];exact ⟨l1,l2⟩⟩;unfold zT;rw [p2,p3,e1,e2,if_neg h1,p1,hl];rw [List.append_assoc]
   congr 1
   . cases s with
     | false=>rw [if_neg (by simp),if_neg (by simp)]
     | true=>rw [if_pos rfl,if_pos rfl,if_pos (by have:=hneg rfl;omega)]
   . exact zjz hh
 . rw [if_neg hh]
   have hh' :has 47 u=false:=by simpa using hh
   have eu:=YE hh';obtain ⟨p1,p2⟩:=Yk (neg:=s) (n:=zy (ahead 47 u)) (d:=1) (by simp) (by omega);have p3:(xG s (zy (ahead 47 u)) 1).num.natAbs=zy (ahead 47 u):=by rw [p1];cases s<;>simp
   refine ⟨?_,by
    unfold y6;rw [p2,p3,e1]
    exact ⟨l1,by simp [dec,vN (β:=10) (n:=1) (by omega) (by omega),v8]⟩⟩
   unfold zT;rw [p2,p3,e1,p1,hl,if_pos rfl,List.append_nil,eu]
   congr 1
   cases s with
   | false=>rw [if_neg (by simp),if_neg (by simp)]
   | true=>rw [if_pos rfl,if_pos rfl,if_pos (by have:=hneg rfl;rw [eu] at this;omega)]
theorem zfg:dec 1=[49]:=by simp [dec,vN (β:=10) (n:=1) (by omega) (by omega),v8];decide
theorem vC {l:List UInt8} {q:Rat} (h:zch l q):
 zX (ahead 47 (zo l))=true/\(yv l=true->ahead 47 (zo l)≠[48])/\
 (has 47 (zo l)=true->zX (yb 47 (zo l))=true/\yb 47 (zo l)≠[48]/\yb 47 (zo l)≠[49]/\
   ahead 47 (zo l)≠[48]/\Nat.Coprime (zy (ahead 47 (zo l))) (zy (yb 47 (zo l))))/\
 q=xG (yv l) (zy (ahead 47 (zo l))) (if has 47 (zo l) then zy (yb 47 (zo l)) else 1):=by
 obtain ⟨h1,h2,h3,h4⟩:=zbh h.1
 have hsh:=h.2
 have hz:dec q.num.natAbs=[48]->q.num=0:=by
  intro e
  have:q.num.natAbs=0:=zfl (e.trans xt.symm)
  omega
 have hnum:q.num=if decide (q.num<0)=true then -(q.num.natAbs:Int) else q.num.natAbs:=by
  by_cases h0:q.num<0
  . simp [h0];omega
  . simp [h0];omega
 refine ⟨by rw [h2];exact zcv hsh.1,?_,?_,?_⟩
 . rw [h1,h2]
   intro h0 e;have:=hz e;simp at h0
   omega
 . rw [h3]
   intro hd;have hd' :q.den≠1:=by simpa using hd
   rw [h2,h4 hd',vy,vy];refine ⟨zcv hsh.2,?_,?_,?_,q.reduced⟩
   . intro e;exact q.den_nz (zfl (e.trans xt.symm))
   . intro e;exact hd' (zfl (e.trans zfg.symm))
   . intro e
     have h0:=hz e;have:=q.reduced;rw [h0] at this;simp at this;exact hd' this
 . rw [h1,h2,h3,vy]
   by_cases hd:q.den=1
   . have:decide (q.den≠1)=false:=by simp [hd]
     rw [this,if_neg (by simp),xG, <- hnum]
     conv=>lhs;rw [<- Rat.num_divInt_den q,hd]
   . have:decide (q.den≠1)=true:=by simp [hd]
     rw [this,if_pos rfl,h4 hd,vy,xG, <- hnum,Rat.num_divInt_den]
def zr (l:List UInt8):Option Rat:=
 let q:=xG (yv l) (zy (ahead 47 (zo l))) (if has 47 (zo l) then zy (yb 47 (zo l)) else 1)
 if l=zT q/\y6 50000 q then some q else none
theorem yB {l:List UInt8} {q:Rat}:zr l=some q↔zch l q:=by
 unfold zr
 constructor
 . intro h
   simp only at h;generalize xG (yv l) (zy (ahead 47 (zo l))) (if has 47 (zo l) then zy (yb 47 (zo l)) else 1)=r at h
   split at h
   . rename_i h1;injection h with h;subst h;exact h1
   . cases h
 . intro h
   have e:=(vC h).2.2.2
   simp only
   rw [<- e];exact if_pos h
theorem xU {l:List UInt8}:zr l=none↔∀ q,¬ zch l q:=by
 constructor
 . intro h q hq;rw [yB.2 hq] at h;cases h
 . intro h
   cases hr:zr l with
   | none=>rfl
   | some q=>exact absurd (yB.1 hr) (h q)
theorem Xu {q:Rat} (h:y6 50000 q):zr (zT q)=some q:=yB.2 ⟨rfl,h⟩
theorem zk1 {l:List UInt8} (h:zX (ahead 47 (zo l))=false):zr l=none:=by
 rw [xU]
 intro q hq
 have:=(vC hq).1
 rw [h] at this;cases this
theorem zlr {l:List UInt8} (h:yv l=true) (h0:ahead 47 (zo l)=[48]):zr l=none:=by
 rw [xU]
 intro q hq
 exact (vC hq).2.1 h h0
theorem vM {l:List UInt8} (h:has 47 (zo l)=true) (h0:zX (yb 47 (zo l))=false\/yb 47 (zo l)=[48]\/yb 47 (zo l)=[49]\/ahead 47 (zo l)=[48]):zr l=none:=by
 rw [xU]
 intro q hq
 obtain ⟨h1,h2,h3,h4,_⟩:=(vC hq).2.2.1 h
 rcases h0 with h0 | h0 | h0 | h0
 . rw [h0] at h1;cases h1
 . exact h2 h0
 . exact h3 h0
 . exact h4 h0
theorem ZI (s:Bool) (n:Nat):(xG s n 1).num=(if s then -(n:Int) else n)/\(xG s n 1).den=1:=Yk (by simp) (by omega)
theorem X8 {l:List UInt8} (h:zX (ahead 47 (zo l))=true) (h0:yv l=true->ahead 47 (zo l)≠[48]) (hh:has 47 (zo l)=false):zr l=some (xG (yv l) (zy (ahead 47 (zo l))) 1):=by
 rw [yB]
 have:=Xr h h0 (by rw [hh];intro h;cases h)
 rw [hh] at this
 simpa using this
theorem zaq {s:Bool} {n d:Nat} (hd:d≠0) (h:(xG s n d).den=d):Nat.Coprime n d:=by
 unfold xG at h
 rw [Rat.den_divInt,if_neg (by omega)] at h
 have hg:(d:Int).gcd (if s then -(n:Int) else n)=Nat.gcd n d:=by
  cases s<;>simp [Int.gcd,Nat.gcd_comm]
 rw [hg] at h
 have h1:0<Nat.gcd n d:=Nat.gcd_pos_of_pos_right _ (by omega)
 have h2:Nat.gcd n d ∣ d:=Nat.gcd_dvd_right n d
 obtain ⟨k,hk⟩:=h2
 have h3:d / Nat.gcd n d=k:=by
  conv=>lhs;lhs;rw [hk]
  exact Nat.mul_div_cancel_left _ h1
 have h4:(d:Int).natAbs=d:=Int.natAbs_natCast d
 rw [h4,h3] at h
 have h5:Nat.gcd n d*d=1*d:=by rw [Nat.one_mul];conv=>lhs;rhs;rw [<- h]
                               exact hk.symm
 exact Nat.eq_of_mul_eq_mul_right (by omega) h5
theorem zc9 {l:List UInt8} (h:zX (ahead 47 (zo l))=true) (h0:yv l=true->ahead 47 (zo l)≠[48]) (hh:has 47 (zo l)=true)
 (h1:zX (yb 47 (zo l))=true) (h2:yb 47 (zo l)≠[48]) (h3:yb 47 (zo l)≠[49]):
 zr l=if (xG (yv l) (zy (ahead 47 (zo l))) (zy (yb 47 (zo l)))).den=zy (yb 47 (zo l)) then some (xG (yv l) (zy (ahead 47 (zo l))) (zy (yb 47 (zo l)))) else none:=by
 have hz:zy (yb 47 (zo l))≠0:=by
  intro e
  have:=(Zk h1).1
  rw [e,xt] at this
  exact h2 this.symm
 split
 . rename_i hd
   rw [yB];have:=Xr h h0 (fun _=>⟨h1,h2,h3,zaq hz hd⟩);rw [hh] at this
   simpa using this
 . rename_i hd
   rw [xU];intro q hq
   apply hd
   exact (Yk ((vC hq).2.2.1 hh).2.2.2.2 hz).2
theorem X0 {l:List UInt8} (h1:zX l=true) (h2:l≠[48]):zy l≠0:=by
 intro e
 have:=(Zk h1).1
 rw [e,xt] at this
 exact h2 this.symm
theorem X1 {l:List UInt8} (h:zX l=true):len 4294967296 (zy l)<=50000:=by
 obtain ⟨h1,h2,h3⟩:=Zk h
 have h4:=ZU (β:=4294967296) (n:=zy l) (by omega)
 rw [h1] at h4
 omega
theorem Zn {l:List UInt8} (h:zX l=true):l.all yI=true/\l.length<=50000:=by
 obtain ⟨h1,h2,h3⟩:=Zk h
 unfold yM at h3
 rw [Bool.and_eq_true] at h3
 exact ⟨h3.1,h2⟩
theorem y6.len {M:Nat} {q:Rat} (h:y6 M q):Go.Proofs.YtnpbflhjglkokaaGreatDoor.len 4294967296 q.num.natAbs<=M/\Go.Proofs.YtnpbflhjglkokaaGreatDoor.len 4294967296 (q.den:Int).natAbs<=M:=
 ⟨Nat.le_trans (ZU (by omega)) h.1,by rw [Int.natAbs_natCast];exact Nat.le_trans (ZU (by omega)) h.2⟩
def xm (l:List UInt8):List UInt8:=if has 47 (zo l) then yb 47 (zo l) else [49]
theorem zde {q:Rat} (h:y6 50000 q):(zT q).length<=100002:=by
 obtain ⟨h1,h2⟩:=h
 unfold zT
 rw [List.length_append,List.length_append]
 have e1:(if q.num<0 then ([45]:List UInt8) else []).length<=1:=by split<;>simp
 have e2:(if q.den=1 then ([]:List UInt8) else 47 :: dec q.den).length<=50001:=by split<;>simp;omega
 omega
theorem zjn {l:List UInt8} (h:100002<l.length):zr l=none:=by
 rw [xU]
 rintro q ⟨rfl,h2⟩
 have:=zde h2
 omega
theorem zg7 {l:List UInt8} {q:Rat} (h:zch l q):ahead 47 (zo l)=dec q.num.natAbs/\xm l=dec q.den:=by
 obtain ⟨h1,h2,h3,h4⟩:=zbh h.1
 refine ⟨h2,?_⟩
 unfold xm
 rw [h3]
 by_cases hd:q.den=1
 . rw [hd,zfg];simp
 . rw [if_pos (by simpa using hd),h4 hd]
theorem ZD {l:List UInt8} (h:yM (ahead 47 (zo l))=false\/yM (xm l)=false\/50000<(ahead 47 (zo l)).length\/50000<(xm l).length\/zy (xm l)=0):zr l=none:=by
 rw [xU]
 intro q hq
 obtain ⟨h1,h2⟩:=zg7 hq
 rw [h1,h2] at h
 obtain ⟨_,h3,h4⟩:=hq
 rcases h with h | h | h | h | h
 . rw [YD] at h;cases h
 . rw [YD] at h;cases h
 . omega
 . omega
 . rw [vy] at h;exact q.den_nz h
theorem zk9 (l:List UInt8):(if has 47 (zo l) then zy (yb 47 (zo l)) else 1)=zy (xm l):=by
 unfold xm
 split
 . rfl
 . rfl
theorem zjq {l:List UInt8} (h1:yM (ahead 47 (zo l))=true) (h2:yM (xm l)=true) (h3:(ahead 47 (zo l)).length<=50000) (h4:(xm l).length<=50000):
 zr l=if zT (xG (yv l) (zy (ahead 47 (zo l))) (zy (xm l)))=l then some (xG (yv l) (zy (ahead 47 (zo l))) (zy (xm l))) else none:=by
 unfold zr
 rw [zk9]
 simp only
 generalize hq:xG (yv l) (zy (ahead 47 (zo l))) (zy (xm l))=q
 by_cases he:zT q=l
 . rw [if_pos he]
   have hs:y6 50000 q:=by
    obtain ⟨e1,e2,e3,e4⟩:=zbh he.symm
    constructor
    . rw [<- e2];exact h3
    . by_cases hd:q.den=1
      . rw [hd,zfg];decide
      . rw [<- e4 hd]
        unfold xm at h4;rw [e3,if_pos (by simpa using hd)] at h4;exact h4
   rw [if_pos ⟨he.symm,hs⟩]
 . rw [if_neg he,if_neg (fun h=>he h.1.symm)]
structure ym where
 den:Int
 cell:Nat->Nat->Int
 basic:Nat->Nat
 other:Nat->Nat
def ym.bare (T:ym) (r c:Nat):Nat->Nat->Int:=fun i k=>
 if i=r then (if k=c then T.den else -(T.cell r k)) else if k=c then T.cell i c else (T.cell i k*T.cell r c - T.cell i c*T.cell r k).tdiv T.den
def ym.pivot (T:ym) (r c:Nat):ym:=
 { den:=if T.cell r c<0 then -(T.cell r c) else T.cell r c,
      cell:=fun i k=>if T.cell r c<0 then -(T.bare r c i k) else T.bare r c i k,
      basic:=fun i=>if i=r then T.other (c - 1) else T.basic i,
      other:=fun k=>if k=c - 1 then T.basic r else T.other k }
def ym.enter (T:ym) (m:Nat) (but:Int):Nat->Nat
 | 0=>0
 | n+1=>if (T.other n:Int)≠but/\0<T.cell m (n+1)/\(T.enter m but n=0\/T.other n<T.other (T.enter m but n - 1)) then n+1 else T.enter m but n
def ym.ahead (T:ym) (room c i j:Nat):Prop:=
 T.cell i 0* -(T.cell j c)<T.cell j 0* -(T.cell i c)\/(T.cell i 0* -(T.cell j c)=T.cell j 0* -(T.cell i c)/\(T.basic i=room\/(T.basic j≠room/\T.basic i<T.basic j)))
instance (T:ym) (room c i j:Nat):Decidable (T.ahead room c i j):=by unfold ym.ahead;exact inferInstance
def ym.leave (T:ym) (room c:Nat):Nat->Option Nat
 | 0=>none
 | n+1=>if T.cell n c ≥ 0 then T.leave room c n else match T.leave room c n with
   | none=>some n
   | some j=>if T.ahead room c n j then some n else some j
def Fit (z:Int):Prop:=len 4294967296 z.natAbs<=8388608
structure ym.Fits (T:ym) (m L:Nat):Prop where
 den:0<T.den
 fden:Fit T.den
 cell:∀ i k,i<=m->k<L->Fit (T.cell i k)
theorem ym.enter_le (T:ym) (m:Nat) (but:Int) (n:Nat):T.enter m but n<=n:=by
 induction n with
 | zero=>exact Nat.le_refl 0
 | succ n ih=>
   unfold ym.enter
   split
   . exact Nat.le_refl _
   . omega
theorem ym.leave_lt (T:ym) (room c:Nat):∀ (n j:Nat),T.leave room c n=some j->j<n/\T.cell j c<0
 | 0,j,h=>by cases h
 | n+1,j,h=>by
   unfold ym.leave at h
   split at h
   . have:=ym.leave_lt T room c n j h;exact ⟨by omega,this.2⟩
   . rename_i hc
     split at h
     . injection h with h;subst h;exact ⟨by omega,by omega⟩
     . rename_i j' hj
       split at h
       . injection h with h;subst h;exact ⟨by omega,by omega⟩
       . injection h with h;subst h
         have:=ym.leave_lt T room c n j' hj;exact ⟨by omega,this.2⟩
theorem zin {a:Int} (h:a≠0):(a:Rat)≠0:=by
 intro e
 exact h (by exact_mod_cast e)
def Sz (X:Nat) (q:Rat):Prop:=q.num.natAbs<=X/\q.den<=X
theorem Sz.mono {X Y:Nat} {q:Rat} (h:Sz X q) (hXY:X<=Y):Sz Y q:=⟨Nat.le_trans h.1 hXY,Nat.le_trans h.2 hXY⟩
theorem zp5 {X:Nat} {q:Rat} {s M:Int} (hs:s≠0) (h:q*s=M) (h1:M.natAbs<=X) (h2:s.natAbs<=X):Sz X q:=by
 have e:q=Rat.divInt M s:=by
  have h3:=zin hs
  rw [Rat.divInt_eq_div, <- h]
  grind
 have hg:(s.gcd M:Int) ∣ s.sign*M:=Int.dvd_trans (Int.gcd_dvd_right s M) (Int.dvd_mul_left _ _)
 have hg0:0<s.gcd M:=Int.gcd_pos_of_ne_zero_left _ hs
 have hsn:(s.sign*M).natAbs<=M.natAbs:=by
  rw [Int.natAbs_mul,Int.natAbs_sign,if_neg hs];omega
 constructor
 . rw [e,Rat.num_divInt]
   obtain ⟨t,ht⟩:=hg;rw [ht,Int.mul_ediv_cancel_left _ (by omega)];rw [ht,Int.natAbs_mul] at hsn;have h3:t.natAbs<=(s.gcd M:Int).natAbs*t.natAbs:=Nat.le_mul_of_pos_left _ (by simpa using hg0)
   omega
 . rw [e,Rat.den_divInt,if_neg hs]
   exact Nat.le_trans (Nat.div_le_self _ _) h2
theorem zej (q:Rat):((q.den:Int):Rat)≠0:=zin (by have:=q.den_nz;omega)
theorem zjo (q:Rat):q*((q.den:Int):Rat)=(q.num:Rat):=by
 have h:=zej q
 conv=>lhs;lhs;rw [<- Rat.num_divInt_den q]
 rw [Rat.divInt_eq_div]
 grind
theorem Sz.add {X Y:Nat} {p q:Rat} (hp:Sz X p) (hq:Sz Y q):Sz (2*(X*Y)) (p+q):=by
 refine zp5 (s:=(p.den:Int)*q.den) (M:=p.num*q.den+q.num*p.den) (Int.mul_ne_zero (by have:=p.den_nz;omega) (by have:=q.den_nz;omega)) ?_ ?_ ?_
 . have h1:=zjo p
   have h2:=zjo q
   push_cast at h1 h2 |-
   rw [<- h1, <- h2];grind
 . have h1:(p.num*q.den+q.num*p.den).natAbs<=(p.num*q.den).natAbs+(q.num*p.den).natAbs:=by omega
   rw [Int.natAbs_mul,Int.natAbs_mul] at h1;have h2:=Nat.mul_le_mul hp.1 (show (q.den:Int).natAbs<=Y by simpa using hq.2);have h3:=Nat.mul_le_mul hq.1 (show (p.den:Int).natAbs<=X by simpa using hp.2);rw [Nat.mul_comm Y X] at h3
   omega
 . rw [Int.natAbs_mul]
   have:=Nat.mul_le_mul (show (p.den:Int).natAbs<=X by simpa using hp.2) (show (q.den:Int).natAbs<=Y by simpa using hq.2)
   omega
theorem Sz.short {X e:Nat} {q:Rat} (h:Sz X q) (hX:X<10 ^ e) (he:0<e):y6 e q:=⟨ZV (by have:=h.1;omega) he,ZV (by have:=h.2;omega) he⟩
theorem y6.sz {e:Nat} {q:Rat} (h:y6 e q):Sz (10 ^ e) q:=⟨Nat.le_of_lt (vV h.1),Nat.le_of_lt (vV h.2)⟩
abbrev Dz (e:Nat) (q:Rat):Prop:=Sz (10 ^ e) q
theorem Dz.add {e f g:Nat} {p q:Rat} (hp:Dz e p) (hq:Dz f q) (hg:e+f+1<=g):Dz g (p+q):=by
 refine (Sz.add hp hq).mono ?_
 have h1:10 ^ (e+f+1)<=10 ^ g:=Nat.pow_le_pow_right (by omega) hg
 rw [Nat.pow_succ,Nat.pow_add] at h1
 omega
theorem Dz.short {e f:Nat} {q:Rat} (h:Dz e q) (hf:e<f):y6 f q:=Sz.short h (Nat.pow_lt_pow_right (by omega) hf) (by omega)
def ym.stA (T:ym) (r c i k:Nat):Nat->Nat->Int:=fun i' k' =>if i' ≠r/\(i' <i\/(i' =i/\k' <k)) then T.bare r c i' k' else T.cell i' k'
def ym.stB (T:ym) (r c k:Nat):Nat->Nat->Int:=fun i' k' =>if i' =r then (if k' <k/\k' ≠c then -(T.cell r k') else T.cell r k') else T.bare r c i' k'
def stD (A:Nat->Nat->Int) (i k:Nat):Nat->Nat->Int:=fun i' k' =>if i' <i\/(i' =i/\k' <k) then -(A i' k') else A i' k'
section
variable (T:ym) (r c i k m L:Nat)
theorem ym.bare_col (h:i≠r):T.bare r c i c=T.cell i c:=by unfold ym.bare;rw [if_neg h,if_pos rfl]
theorem ym.stA_start (i' k' :Nat):T.stA r c 0 0 i' k' =T.cell i' k' :=by unfold ym.stA;rw [if_neg (by omega)]
theorem ym.stA_skip (i' k' :Nat):T.stA r c (r+1) 0 i' k' =T.stA r c r 0 i' k' :=by
 unfold ym.stA
 by_cases h:i' ≠r/\(i' <r\/(i' =r/\k' <0))
 . rw [if_pos h,if_pos (by omega)]
 . rw [if_neg h,if_neg (by omega)]
theorem ym.stA_here:T.stA r c i k i k=T.cell i k:=by unfold ym.stA;rw [if_neg (by omega)]
theorem ym.stA_row (k' :Nat):T.stA r c i k r k' =T.cell r k' :=by unfold ym.stA;rw [if_neg (by omega)]
theorem ym.stA_col0:T.stA r c i 0 i c=T.cell i c:=by unfold ym.stA;rw [if_neg (by omega)]
theorem ym.stA_next (hi:i≠r) (hk:k≠c) (i' k' :Nat):T.stA r c i (k+1) i' k' =if i' =i/\k' =k then (T.cell i k*T.cell r c - T.cell i c*T.cell r k).tdiv T.den else T.stA r c i k i' k' :=by
 unfold ym.stA
 by_cases h:i' =i/\k' =k
 . obtain ⟨rfl,rfl⟩:=h
   rw [if_pos (by omega),if_pos ⟨rfl,rfl⟩];unfold ym.bare;rw [if_neg hi,if_neg hk]
 . rw [if_neg h]
   by_cases h2:i' ≠r/\(i' <i\/(i' =i/\k' <k))
   . rw [if_pos h2,if_pos (by omega)]
   . rw [if_neg h2,if_neg (by omega)]
theorem ym.stA_col (hi:i≠r) (i' k' :Nat):T.stA r c i (c+1) i' k' =T.stA r c i c i' k' :=by
 unfold ym.stA
 by_cases h:i' =i/\k' =c
 . obtain ⟨rfl,rfl⟩:=h
   rw [if_pos (by omega),if_neg (by omega),ym.bare_col T r k' i' hi]
 . by_cases h2:i' ≠r/\(i' <i\/(i' =i/\k' <c))
   . rw [if_pos h2,if_pos (by omega)]
   . rw [if_neg h2,if_neg (by omega)]
theorem ym.stA_end (hi:i≠r) (i' k' :Nat) (hk:k' <L):T.stA r c (i+1) 0 i' k' =if i' =i/\k' =c then T.cell i c else T.stA r c i L i' k' :=by
 unfold ym.stA
 by_cases h:i' =i/\k' =c
 . obtain ⟨rfl,rfl⟩:=h
   rw [if_pos (by omega),if_pos ⟨rfl,rfl⟩,ym.bare_col T r k' i' hi]
 . rw [if_neg h]
   by_cases h2:i' ≠r/\(i' <i\/(i' =i/\k' <L))
   . rw [if_pos h2,if_pos (by omega)]
   . rw [if_neg h2,if_neg (by omega)]
theorem ym.stB_start (i' k' :Nat) (h:i' <=m):T.stB r c 0 i' k' =T.stA r c (m+1) 0 i' k' :=by
 unfold ym.stB ym.stA
 by_cases h1:i' =r
 . subst h1;rw [if_pos rfl,if_neg (by omega),if_neg (by omega)]
 . rw [if_neg h1,if_pos (by omega)]
theorem ym.stB_here:T.stB r c k r k=T.cell r k:=by unfold ym.stB;rw [if_pos rfl,if_neg (by omega)]
theorem ym.stB_next (hk:k≠c) (i' k' :Nat):T.stB r c (k+1) i' k' =if i' =r/\k' =k then -(T.cell r k) else T.stB r c k i' k' :=by
 unfold ym.stB
 by_cases h1:i' =r
 . subst h1
   by_cases h2:k' =k
   . subst h2;rw [if_pos rfl,if_pos (by omega),if_pos ⟨rfl,rfl⟩]
   . rw [if_pos rfl,if_neg (show ¬ (i' =i' /\k' =k) from fun h=>h2 h.2),if_pos rfl]
     by_cases h3:k' <k/\k' ≠c
     . rw [if_pos h3,if_pos (by omega)]
     . rw [if_neg h3,if_neg (by omega)]
 . rw [if_neg h1,if_neg (show ¬ (i' =r/\k' =k) from fun h=>h1 h.1),if_neg h1]
theorem ym.stB_col (i' k' :Nat):T.stB r c (c+1) i' k' =T.stB r c c i' k' :=by
 unfold ym.stB
 by_cases h1:i' =r
 . rw [if_pos h1,if_pos h1]
   by_cases h3:k' <c/\k' ≠c
   . rw [if_pos h3,if_pos (by omega)]
   . rw [if_neg h3,if_neg (by omega)]
 . rw [if_neg h1,if_neg h1]
theorem ym.stB_end (i' k' :Nat) (hk:k' <L):T.bare r c i' k' =if i' =r/\k' =c then T.den else T.stB r c L i' k' :=by
 unfold ym.stB ym.bare
 by_cases h1:i' =r
 . subst h1
   by_cases h2:k' =c
   . subst h2;rw [if_pos rfl,if_pos rfl,if_pos ⟨rfl,rfl⟩]
   . rw [if_pos rfl,if_neg h2,if_neg (show ¬ (i' =i' /\k' =c) from fun h=>h2 h.2),if_pos rfl,if_pos ⟨hk,h2⟩]
 . rw [if_neg h1,if_neg (show ¬ (i' =r/\k' =c) from fun h=>h1 h.1),if_neg h1]
end
section
variable (A:Nat->Nat->Int) (i k m L:Nat)
theorem zi9 (i' k' :Nat):stD A 0 0 i' k' =A i' k' :=by unfold stD;rw [if_neg (by omega)]
theorem zlh:stD A i k i k=A i k:=by unfold stD;rw [if_neg (by omega)]
theorem zk5 (i' k' :Nat):stD A i (k+1) i' k' =if i' =i/\k' =k then -(A i k) else stD A i k i' k' :=by
 unfold stD
 by_cases h:i' =i/\k' =k
 . obtain ⟨rfl,rfl⟩:=h
   rw [if_pos (by omega),if_pos ⟨rfl,rfl⟩]
 . rw [if_neg h]
   by_cases h2:i' <i\/(i' =i/\k' <k)
   . rw [if_pos h2,if_pos (by omega)]
   . rw [if_neg h2,if_neg (by omega)]
theorem znd (i' k' :Nat) (hk:k' <L):stD A (i+1) 0 i' k' =stD A i L i' k' :=by
 unfold stD
 by_cases h2:i' <i\/(i' =i/\k' <L)
 . rw [if_pos h2,if_pos (by omega)]
 . rw [if_neg h2,if_neg (by omega)]
theorem zn2 (i' k' :Nat) (hi:i' <=m):stD A (m+1) 0 i' k' = -(A i' k'):=by unfold stD;rw [if_pos (by omega)]
end
end Go.Proofs.YtnpbflhjglkokaaGreatDoor
