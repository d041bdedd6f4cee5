/- Parts of the proof: memory, numbers, walks of the functions that are called. -/
import Init.Data.List.Lemmas
set_option linter.unusedVariables false
set_option linter.unusedSimpArgs false
namespace Go.Proofs.YtkmcmmcencdcpaaGreatDoor
def val (β:Nat):List Nat->Nat
 | []=>0
 | d :: ds=>d+β*val β ds
def zD (β:Nat) (ds:List Nat):Prop:=∀ d∈ds,d<β
def yJ (β:Nat) (ds:List Nat):Prop:=zD β ds/\ds.getLast?≠some 0
theorem vk (β:Nat):val β []=0:=rfl
theorem ZU (β d:Nat) (ds:List Nat):val β (d :: ds)=d+β*val β ds:=rfl
theorem ZH (β d:Nat):val β [d]=d:=by simp [val]
theorem ZA (β:Nat) (a b:List Nat):val β (a ++ b)=val β a+β ^ a.length*val β b:=by
 induction a with
 | nil=>simp [val]
 | cons d a ih=>simp only [List.cons_append,ZU,ih,List.length_cons,Nat.pow_succ,Nat.mul_add,Nat.add_assoc];rw [Nat.mul_comm (β ^ a.length) β,Nat.mul_assoc]
theorem Zk (β:Nat) (a:List Nat) (d:Nat):val β (a ++ [d])=val β a+β ^ a.length*d:=by rw [ZA,ZH]
theorem XQ (β n:Nat):val β (List.replicate n 0)=0:=by
 induction n with
 | zero=>rfl
 | succ n ih=>rw [List.replicate_succ,ZU,ih];simp
theorem zD.nil (β:Nat):zD β []:=fun _ h=>by cases h
theorem zD.append {β:Nat} {a b:List Nat} (ha:zD β a) (hb:zD β b):zD β (a ++ b):=fun d h=>by
 rcases List.mem_append.1 h with h | h
 . exact ha d h
 . exact hb d h
theorem zD.cons {β d:Nat} {a:List Nat} (hd:d<β) (ha:zD β a):zD β (d :: a):=fun x h=>by
 rcases List.mem_cons.1 h with h | h
 . omega
 . exact ha x h
theorem zD.tail {β d:Nat} {a:List Nat} (h:zD β (d :: a)):zD β a:=fun x hx=>h x (List.mem_cons_of_mem _ hx)
theorem zD.head {β d:Nat} {a:List Nat} (h:zD β (d :: a)):d<β:=h d List.mem_cons_self
theorem zD.take {β:Nat} {a:List Nat} (h:zD β a) (k:Nat):zD β (a.take k):=fun d hd=>h d (List.mem_of_mem_take hd)
theorem zD.drop {β:Nat} {a:List Nat} (h:zD β a) (k:Nat):zD β (a.drop k):=fun d hd=>h d (List.mem_of_mem_drop hd)
theorem zD.getD {β:Nat} {a:List Nat} (h:zD β a) (hβ:0<β) (k:Nat):a.getD k 0<β:=by
 rw [List.getD_eq_getElem?_getD]
 by_cases hk:k<a.length
 . rw [List.getElem?_eq_getElem hk];exact h _ (List.getElem_mem hk)
 . rw [List.getElem?_eq_none (by omega)];exact hβ
theorem zD.get {β:Nat} {a:List Nat} (h:zD β a) (k:Nat) (hk:k<a.length):a[k]<β:=h _ (List.getElem_mem hk)
theorem zD.replicate {β:Nat} (hβ:0<β) (n:Nat):zD β (List.replicate n 0):=fun d hd=>by rw [(List.mem_replicate.1 hd).2];exact hβ
theorem zD.set {β:Nat} {a:List Nat} (h:zD β a) (k d:Nat) (hd:d<β):zD β (a.set k d):=fun x hx=>by
 rcases List.mem_or_eq_of_mem_set hx with hx | hx
 . exact h x hx
 . omega
theorem Yh {β:Nat} {ds:List Nat} (h:zD β ds):val β ds<β ^ ds.length:=by
 induction ds with
 | nil=>simp [val]
 | cons d ds ih=>
   have h1:=ih h.tail;have h2:=h.head;rw [ZU,List.length_cons,Nat.pow_succ];have h3:β*(val β ds+1)<=β*β ^ ds.length:=Nat.mul_le_mul_left _ h1;rw [Nat.mul_add,Nat.mul_one] at h3;rw [Nat.mul_comm (β ^ ds.length) β]
   omega
theorem xu (β:Nat) (ds:List Nat) (k:Nat) (hk:k<=ds.length):val β ds=val β (ds.take k)+β ^ k*val β (ds.drop k):=by
 conv=>lhs;rw [<- List.take_append_drop k ds,ZA,List.length_take,Nat.min_eq_left hk]
theorem YQ {α:Type} (ds:List α) (k:Nat) (hk:k<ds.length):ds.take (k+1)=ds.take k ++ [ds[k]]:=by
 rw [List.take_succ_eq_append_getElem hk]
theorem yH (β:Nat) (ds:List Nat) (k:Nat) (hk:k<ds.length):val β (ds.take (k+1))=val β (ds.take k)+β ^ k*ds[k]:=by
 rw [YQ ds k hk,Zk,List.length_take,Nat.min_eq_left (by omega)]
theorem Z5 (β:Nat) (ds:List Nat) (k:Nat) (hk:k<ds.length):val β (ds.drop k)=ds[k]+β*val β (ds.drop (k+1)):=by
 rw [List.drop_eq_getElem_cons hk,ZU]
theorem yJ.nil (β:Nat):yJ β []:=⟨zD.nil β,by simp⟩
theorem yJ.last {β:Nat} {ds:List Nat} (h:yJ β ds) (hne:ds≠[]):ds[ds.length - 1]'(by have:=List.length_pos_iff.2 hne;omega)≠0:=by
 intro h0
 apply h.2
 rw [List.getLast?_eq_getElem?,List.getElem?_eq_getElem (by have:=List.length_pos_iff.2 hne;omega),h0]
theorem yJ.mk_ {β:Nat} {ds:List Nat} (h:zD β ds) (hl:∀ hne:0<ds.length,ds[ds.length - 1]≠0):yJ β ds:=by
 refine ⟨h,?_⟩
 intro h0
 rw [List.getLast?_eq_getElem?] at h0
 obtain ⟨hlt,e⟩:=List.getElem?_eq_some_iff.1 h0
 exact hl (by omega) e
theorem yJ.ge {β:Nat} {ds:List Nat} (h:yJ β ds) (hne:ds≠[]):β ^ (ds.length - 1)<=val β ds:=by
 have hp:=List.length_pos_iff.2 hne
 have hl:=h.last hne
 have e:val β ds=val β (ds.take (ds.length - 1))+β ^ (ds.length - 1)*ds[ds.length - 1]:=by
  rw [<- yH β ds (ds.length - 1) (by omega),show ds.length - 1+1=ds.length by omega,List.take_length]
 rw [e]
 have:β ^ (ds.length - 1)*1<=β ^ (ds.length - 1)*ds[ds.length - 1]:=Nat.mul_le_mul_left _ (by omega)
 omega
theorem yJ.zero_iff {β:Nat} {ds:List Nat} (hβ:0<β) (h:yJ β ds):val β ds=0↔ds=[]:=by
 constructor
 . intro h0
   by_cases hne:ds=[]
   . exact hne
   . have:=h.ge hne
     have:=Nat.pow_pos (n:=ds.length - 1) hβ
     omega
 . rintro rfl;rfl
theorem yJ.lt_of_length {β:Nat} {a b:List Nat} (hβ:0<β) (ha:zD β a) (hb:yJ β b) (h:a.length<b.length):val β a<val β b:=by
 have h1:=Yh ha
 have h2:=hb.ge (by intro e;subst e;simp at h)
 have h3:β ^ a.length<=β ^ (b.length - 1):=Nat.pow_le_pow_right hβ (by omega)
 omega
theorem yJ.length_le {β:Nat} {a b:List Nat} (hβ:0<β) (ha:yJ β a) (hb:yJ β b) (h:val β a<=val β b):a.length<=b.length:=by
 rcases Nat.lt_or_ge b.length a.length with h1 | h1
 . have:=yJ.lt_of_length hβ hb.1 ha h1;omega
 . exact h1
theorem yJ.length_lt_pow {β:Nat} {a:List Nat} {k:Nat} (hβ:1<β) (ha:yJ β a) (h:val β a<β ^ k):a.length<=k:=by
 rcases Nat.lt_or_ge k a.length with h1 | h1
 . have h2:=ha.ge (by intro e;subst e;simp at h1)
   have h3:β ^ k<=β ^ (a.length - 1):=Nat.pow_le_pow_right (by omega) (by omega)
   omega
 . exact h1
theorem zqg {β:Nat} {a b:List Nat} (hl:a.length=b.length) (ha:zD β a) (hb:zD β b) (h:val β a=val β b):a=b:=by
 induction a generalizing b with
 | nil=>exact (List.eq_nil_of_length_eq_zero hl.symm).symm
 | cons d a ih=>
   cases b with
   | nil=>simp at hl
   | cons c b=>
     rw [ZU,ZU] at h;have h1:=ha.head;have h2:=hb.head
     have e1:d=c:=by
      have q1:(d+β*val β a) % β=d:=by rw [Nat.add_mul_mod_self_left,Nat.mod_eq_of_lt h1]
      have q2:(c+β*val β b) % β=c:=by rw [Nat.add_mul_mod_self_left,Nat.mod_eq_of_lt h2]
      rw [<- q1, <- q2,h]
     subst e1
     have e2:val β a=val β b:=by
      have:β*val β a=β*val β b:=by omega
      exact Nat.eq_of_mul_eq_mul_left (by omega) this
     rw [ih (by simpa using hl) ha.tail hb.tail e2]
theorem yJ.inj {β:Nat} {a b:List Nat} (hβ:0<β) (ha:yJ β a) (hb:yJ β b) (h:val β a=val β b):a=b:=
 zqg (Nat.le_antisymm (ha.length_le hβ hb (by omega)) (hb.length_le hβ ha (by omega))) ha.1 hb.1 h
theorem XH {β:Nat} {a b:List Nat} (hl:a.length=b.length) (ha:zD β a) (k:Nat) (hk:k<a.length)
 (hsame:∀ j (h1:j<a.length) (h2:j<b.length),k<j->a[j]=b[j]) (hlt:a[k]<b[k]'(by omega)):val β a<val β b:=by
 have e1:=xu β a k (by omega)
 have e2:=xu β b k (by omega)
 rw [Z5 β a k hk] at e1
 rw [Z5 β b k (by omega)] at e2
 have e3:a.drop (k+1)=b.drop (k+1):=by
  apply List.ext_getElem (by simp [hl])
  intro i h1 h2
  rw [List.getElem_drop,List.getElem_drop]
  exact hsame _ _ _ (by omega)
 rw [e3] at e1
 have h1:val β (a.take k)<β ^ k:=by
  have:=Yh (ha.take k)
  rwa [List.length_take,Nat.min_eq_left (by omega)] at this
 have h2:β ^ k*(a[k]+β*val β (b.drop (k+1))+1)<=β ^ k*(b[k]'(by omega)+β*val β (b.drop (k+1))):=Nat.mul_le_mul_left _ (by omega)
 rw [Nat.mul_add _ _ 1,Nat.mul_one] at h2
 omega
def digs (β:Nat) (n:Nat):List Nat:=if _h:β<=1\/n=0 then [] else (n % β) :: digs β (n / β)
termination_by n
decreasing_by exact Nat.div_lt_self (by omega) (by omega)
theorem Za (β:Nat):digs β 0=[]:=by rw [digs];simp
theorem Zm {β n:Nat} (hβ:1<β) (hn:0<n):digs β n=(n % β) :: digs β (n / β):=by rw [digs];rw [dif_neg (by omega)]
theorem ZL {β:Nat} (hβ:1<β) (n:Nat):yJ β (digs β n)/\val β (digs β n)=n:=by
 induction n using Nat.strongRecOn with
 | _ n ih=>
   by_cases hn:n=0
   . subst hn;rw [Za];exact ⟨yJ.nil β,rfl⟩
   . rw [Zm hβ (by omega)]
     obtain ⟨h1,h2⟩:=ih (n / β) (Nat.div_lt_self (by omega) hβ);refine ⟨⟨zD.cons (Nat.mod_lt _ (by omega)) h1.1,?_⟩,?_⟩
     . by_cases hd:digs β (n / β)=[]
       . rw [hd] at h2 |-
         have h3:n / β=0:=h2.symm
         have h4:n<β:=by
          rcases Nat.lt_or_ge n β with h | h
          . exact h
          . have:=Nat.div_pos h (by omega);omega
         rw [Nat.mod_eq_of_lt h4]
         simpa using hn
       . rw [List.getLast?_cons_of_ne_nil hd]
         exact h1.2
     . rw [ZU,h2,Nat.mod_add_div]
theorem yJ.digs {β:Nat} {ds:List Nat} (hβ:1<β) (h:yJ β ds):digs β (val β ds)=ds:=
 yJ.inj (by omega) (ZL hβ _).1 h (ZL hβ _).2
def len (β n:Nat):Nat:=(digs β n).length
theorem yJ.length_eq {β:Nat} {ds:List Nat} (hβ:1<β) (h:yJ β ds):ds.length=len β (val β ds):=by rw [len,h.digs hβ]
theorem xH {β:Nat} (hβ:1<β) (n:Nat):n<β ^ len β n:=by
 have h:=ZL hβ n
 have:=Yh h.1.1
 rwa [h.2] at this
theorem yt {β n k:Nat} (hβ:1<β) (h:n<β ^ k):len β n<=k:=by
 have hs:=ZL hβ n
 exact hs.1.length_lt_pow hβ (by rw [hs.2];exact h)
theorem xS {β m n:Nat} (hβ:1<β) (h:m<=n):len β m<=len β n:=yt hβ (Nat.lt_of_le_of_lt h (xH hβ n))
theorem X6 {β:Nat} (hβ:1<β) (m n:Nat):len β (m*n)<=len β m+len β n:=by
 apply yt hβ
 rw [Nat.pow_add]
 exact Nat.mul_lt_mul'' (xH hβ m) (xH hβ n)
theorem zlf {β:Nat} (hβ:1<β) (m n:Nat):len β (m+n)<=max (len β m) (len β n)+1:=by
 apply yt hβ
 rw [Nat.pow_succ]
 have h1:=xH hβ m
 have h2:=xH hβ n
 have h3:β ^ len β m<=β ^ max (len β m) (len β n):=Nat.pow_le_pow_right (by omega) (by omega)
 have h4:β ^ len β n<=β ^ max (len β m) (len β n):=Nat.pow_le_pow_right (by omega) (by omega)
 have h5:β ^ max (len β m) (len β n)*2<=β ^ max (len β m) (len β n)*β:=Nat.mul_le_mul_left _ hβ
 omega
theorem YV (β:Nat):len β 0=0:=by rw [len,Za];rfl
theorem Vo {β n:Nat} (hβ:1<β) (h:0<n):0<len β n:=by rw [len,Zm hβ h];simp
theorem zit {β v1 v2 u2 top d r p ul vl u v:Nat} (ht:top=d*v1+r) (hu:u=(top*β+u2)*p+ul) (hv:v=(v1*β+v2)*p+vl) (hul:ul<p) (hlt:u<β*v)
 (h:β<=d\/r*β+u2<d*v2):u / v<d:=by
 have hvp:0<v:=by
  rcases Nat.eq_zero_or_pos v with e | e
  . rw [e] at hlt;simp at hlt
  . exact e
 rcases h with h | h
 . have:=(Nat.div_lt_iff_lt_mul hvp).2 hlt
   omega
 . rw [Nat.div_lt_iff_lt_mul hvp]
   have h1:top*β+u2+1<=d*(v1*β+v2):=by
    rw [ht,Nat.add_mul,Nat.mul_add,Nat.mul_assoc];omega
   have h2:(top*β+u2+1)*p<=d*(v1*β+v2)*p:=Nat.mul_le_mul_right _ h1;rw [Nat.add_mul _ 1 p,Nat.one_mul] at h2;have h3:d*v=d*(v1*β+v2)*p+d*vl:=by rw [hv,Nat.mul_add,Nat.mul_assoc]
   rw [h3,hu]
   omega
theorem zkx {β v1 v2 u2 top d r p ul vl u v:Nat} (ht:top=d*v1+r) (hu:u=(top*β+u2)*p+ul) (hv:v=(v1*β+v2)*p+vl) (hvl:vl<p) (hlt:u<β*v)
 (hv1:1<=v1) (h:d*v2<=r*β+u2):d<=u / v+1:=by
 have hvp:0<v:=by
  rcases Nat.eq_zero_or_pos v with e | e
  . rw [e] at hlt;simp at hlt
  . exact e
 have hq:u / v<β:=(Nat.div_lt_iff_lt_mul hvp).2 hlt
 rcases Nat.lt_or_ge (u / v+1) d with hd | hd
 . exfalso
   have h1:d*(v1*β+v2)<=top*β+u2:=by
    rw [ht,Nat.add_mul,Nat.mul_add,Nat.mul_assoc];omega
   have h2:d*(v1*β+v2)*p<=(top*β+u2)*p:=Nat.mul_le_mul_right _ h1
   have h3:u<(u / v+1)*v:=by
    have:=Nat.div_add_mod u v;have:=Nat.mod_lt u hvp;rw [Nat.add_mul,Nat.one_mul,Nat.mul_comm]
    omega
   have h4:(u / v+1)*v<=(u / v+1)*((v1*β+v2+1)*p):=by
    apply Nat.mul_le_mul_left
    rw [hv,Nat.add_mul _ 1 p,Nat.one_mul];omega
   have h5:d*(v1*β+v2)*p<(u / v+1)*(v1*β+v2+1)*p:=by
    rw [Nat.mul_assoc (u / v+1)];omega
   have h6:d*(v1*β+v2)<(u / v+1)*(v1*β+v2+1):=Nat.lt_of_mul_lt_mul_right h5;have h7:(u / v+1+1)*(v1*β+v2)<=d*(v1*β+v2):=Nat.mul_le_mul_right _ (by omega);rw [Nat.add_mul (u / v+1) 1,Nat.one_mul] at h7;rw [Nat.mul_add (u / v+1) _ 1,Nat.mul_one] at h6;have h8:1*β<=v1*β:=Nat.mul_le_mul_right _ hv1
   omega
 . exact hd
theorem zgo {β v1 um un d r:Nat} (hv1:β<=2*v1) (hum:um<=v1) (hun:un<β) (hd:um*β+un=d*v1+r) (hr:r<v1):d<=β+1:=by
 rcases Nat.lt_or_ge (β+1) d with h | h
 . exfalso
   have h1:(β+2)*v1<=d*v1:=Nat.mul_le_mul_right _ (by omega);have h2:um*β<=v1*β:=Nat.mul_le_mul_right _ hum;rw [Nat.add_mul,Nat.mul_comm β v1] at h1
   omega
 . exact h
theorem zha {β v2 u2 d r:Nat} (hv2:v2<β) (hd:d<=β) (hr:β<=r):d*v2<=r*β+u2:=by
 have h1:d*v2<=β*v2:=Nat.mul_le_mul_right _ hd
 have h2:β*v2<=β*β:=Nat.mul_le_mul_left _ (by omega)
 have h3:β*β<=r*β:=Nat.mul_le_mul_right _ hr
 omega
theorem za4 {u v d u' B:Nat} (hd1:u / v<=d) (hd2:d<=u / v+1) (hv:0<v) (h:u' +d*v=u+0*B):d=u / v/\u' =u % v:=by
 have h1:=Nat.div_add_mod u v
 have h2:=Nat.mod_lt u hv
 rw [Nat.zero_mul,Nat.add_zero] at h
 have e:d=u / v:=by
  rcases Nat.lt_or_ge (u / v) d with h3 | h3
  . have e:d=u / v+1:=by omega
    rw [e,Nat.add_mul,Nat.one_mul,Nat.mul_comm] at h
    omega
  . omega
 refine ⟨e,?_⟩
 rw [e,Nat.mul_comm] at h
 omega
theorem ze7 {u v d u' B:Nat} (hd1:u / v<=d) (hd2:d<=u / v+1) (hv:0<v) (hB:u' <B) (h:u' +d*v=u+1*B):d=u / v+1/\u' +v=u % v+B:=by
 have h1:=Nat.div_add_mod u v
 have h2:=Nat.mod_lt u hv
 rw [Nat.one_mul] at h
 have e:d=u / v+1:=by
  rcases Nat.lt_or_ge (u / v) d with h3 | h3
  . omega
  . have e:d=u / v:=by omega
    rw [e,Nat.mul_comm] at h
    omega
 refine ⟨e,?_⟩
 rw [e,Nat.add_mul,Nat.one_mul,Nat.mul_comm] at h
 omega
theorem znn {β lo un cy bo d x y s bo' P:Nat} (hβ:0<β) (hs:s+y+bo=x+bo' *β) (hy:y=(cy+d*un) % β) {L O:Nat} (hL:L+d*lo=O+(cy+bo)*P):
 (L+P*s)+d*(lo+P*un)=(O+P*x)+((cy+d*un) / β+bo')*(P*β):=by
 have h1:=Nat.div_add_mod (cy+d*un) β
 rw [<- hy] at h1
 have h2:P*(s+y+bo)=P*(x+bo' *β):=by rw [hs]
 have h3:P*(cy+d*un)=P*(β*((cy+d*un) / β)+y):=by rw [h1]
 generalize (cy+d*un) / β=q at*
 simp only [Nat.mul_add,Nat.add_mul,Nat.mul_assoc,Nat.mul_comm,Nat.mul_left_comm] at h2 h3 hL |-
 omega
theorem zgx {β v1 v2 u2 top p ul vl u v:Nat} (hu:u=(top*β+u2)*p+ul) (hv:v=(v1*β+v2)*p+vl) (hu2:u2<β) (hul:ul<p) (hv1:0<v1):u / v<=top / v1:=by
 rw [Nat.le_div_iff_mul_le hv1]
 have h1:u<(top+1)*(β*p):=by
  have h2:(top*β+u2+1)*p<=(top+1)*β*p:=Nat.mul_le_mul_right _ (by rw [Nat.add_mul,Nat.one_mul];omega)
  rw [Nat.add_mul _ 1,Nat.one_mul] at h2
  rw [hu, <- Nat.mul_assoc];omega
 have h3:u / v*v<=u:=Nat.div_mul_le_self u v
 have h4:u / v*(v1*(β*p))<=u / v*v:=by
  apply Nat.mul_le_mul_left
  rw [hv,Nat.add_mul,Nat.mul_assoc];omega
 have h5:u / v*v1*(β*p)<(top+1)*(β*p):=by rw [Nat.mul_assoc];omega
 have:=Nat.lt_of_mul_lt_mul_right h5
 omega
theorem zng {β v1 v2 um un u2 p ul vl u v:Nat} (hu:u=((um*β+un)*β+u2)*p+ul) (hv:v=(v1*β+v2)*p+vl) (hv2:v2<β) (hvl:vl<p) (hlt:u<β*v):um<=v1:=by
 rcases Nat.lt_or_ge v1 um with h | h
 . exfalso
   have h1:v<(v1+1)*(β*p):=by
    have h2:(v1*β+v2+1)*p<=(v1+1)*β*p:=Nat.mul_le_mul_right _ (by rw [Nat.add_mul,Nat.one_mul];omega);rw [Nat.add_mul _ 1,Nat.one_mul] at h2;rw [hv, <- Nat.mul_assoc];omega
   have h3:(v1+1)*(β*p)<=um*(β*p):=Nat.mul_le_mul_right _ h;have h4:β*v<=β*(um*(β*p)):=Nat.mul_le_mul_left _ (by omega)
   have h5:β*(um*(β*p))<=u:=by
    have e:β*(um*(β*p))=um*β*β*p:=by simp only [Nat.mul_assoc,Nat.mul_comm,Nat.mul_left_comm]
    have h6:um*β*β*p<=((um*β+un)*β+u2)*p:=Nat.mul_le_mul_right _ (by rw [Nat.add_mul];omega);rw [e,hu];omega
   omega
 . exact h
theorem zu {ds:List Nat} {k:Nat} (hk:k<ds.length):ds.getD k 0=ds[k]:=by
 rw [List.getD_eq_getElem?_getD,List.getElem?_eq_getElem hk];rfl
theorem yX {ds:List Nat} {k:Nat} (hk:ds.length<=k):ds.getD k 0=0:=by
 rw [List.getD_eq_getElem?_getD,List.getElem?_eq_none hk];rfl
theorem zJ (β:Nat) (ds:List Nat) (k:Nat):val β (ds.take (k+1))=val β (ds.take k)+β ^ k*ds.getD k 0:=by
 rcases Nat.lt_or_ge k ds.length with h | h
 . rw [zu h,yH β ds k h]
 . rw [yX h,List.take_of_length_le (by omega),List.take_of_length_le h];simp
theorem zfo (β:Nat) (ds:List Nat) (k d:Nat) (hk:k<ds.length):val β (ds.set k d)+β ^ k*ds[k]=val β ds+β ^ k*d:=by
 have e1:=xu β ds k (by omega)
 have e2:=xu β (ds.set k d) k (by simp;omega)
 rw [Z5 β ds k hk] at e1
 rw [Z5 β (ds.set k d) k (by simpa using hk)] at e2
 have e3:(ds.set k d).take k=ds.take k:=by rw [List.take_set_of_le (by omega)]
 have e4:(ds.set k d).drop (k+1)=ds.drop (k+1):=by rw [List.drop_set_of_lt (by omega)]
 rw [e3,e4] at e2
 simp only [List.getElem_set_self] at e2
 rw [e1,e2,Nat.mul_add,Nat.mul_add];omega
theorem zda {β i D A B c x y:Nat} (h:D+c*β ^ i=A+B):(D+β ^ i*((c+x+y) % β))+(c+x+y) / β*β ^ (i+1)=(A+β ^ i*x)+(B+β ^ i*y):=by
 have h1:=Nat.div_add_mod (c+x+y) β
 have h2:β ^ i*(c+x+y)=β ^ i*(β*((c+x+y) / β)+(c+x+y) % β):=by rw [h1]
 generalize (c+x+y) / β=q at*
 generalize (c+x+y) % β=r at*
 rw [Nat.pow_succ]
 simp only [Nat.mul_add,Nat.add_mul,Nat.mul_assoc,Nat.mul_comm,Nat.mul_left_comm] at h2 h |-
 omega
theorem zkt {β i D A B b x y s b' :Nat} (h:D+B=A+b*β ^ i) (hs:s+y+b=x+b' *β):(D+β ^ i*s)+(B+β ^ i*y)=(A+β ^ i*x)+b' *β ^ (i+1):=by
 have h2:β ^ i*(s+y+b)=β ^ i*(x+b' *β):=by rw [hs]
 rw [Nat.pow_succ]
 simp only [Nat.mul_add,Nat.add_mul,Nat.mul_assoc,Nat.mul_comm,Nat.mul_left_comm] at h2 h |-
 omega
theorem zhs {β P k O O' c x y o Y Z:Nat} (h:O+c*(P*β ^ k)=Z+x*P*Y) (hs:O' +P*β ^ k*o=O+P*β ^ k*((c+x*y+o) % β)):
 O' +(c+x*y+o) / β*(P*β ^ (k+1))=Z+x*P*(Y+β ^ k*y):=by
 have h1:=Nat.div_add_mod (c+x*y+o) β
 have h2:P*β ^ k*(c+x*y+o)=P*β ^ k*(β*((c+x*y+o) / β)+(c+x*y+o) % β):=by rw [h1]
 generalize (c+x*y+o) / β=q at*
 generalize (c+x*y+o) % β=r at*
 rw [Nat.pow_succ]
 simp only [Nat.mul_add,Nat.add_mul,Nat.mul_assoc,Nat.mul_comm,Nat.mul_left_comm] at h2 h hs |-
 omega
theorem zfa {β c x y o:Nat} (hc:c<β) (hx:x<β) (hy:y<β) (ho:o<β):c+x*y+o<β*β:=by
 have h1:x*y<=(β - 1)*(β - 1):=Nat.mul_le_mul (by omega) (by omega)
 obtain ⟨g,rfl⟩:∃ g,β=g+1:=⟨β - 1,by omega⟩
 simp only [Nat.add_sub_cancel] at h1
 rw [Nat.add_mul,Nat.mul_add]
 omega
theorem zid {β d x r:Nat} (hd:0<d) (hr:r<d) (hx:x<β):(r*β+x) / d<β/\(r*β+x) % d<d:=by
 refine ⟨(Nat.div_lt_iff_lt_mul hd).2 ?_,Nat.mod_lt _ hd⟩
 have:(r+1)*β<=d*β:=Nat.mul_le_mul_right _ (by omega)
 rw [Nat.add_mul,Nat.one_mul] at this
 rw [Nat.mul_comm β d]
 omega
theorem zqt {β d x r Q A:Nat} (h:A=Q*d+r):x+β*A=((r*β+x) / d+β*Q)*d+(r*β+x) % d:=by
 have h1:=Nat.div_add_mod (r*β+x) d
 have h2:(r*β+x) / d*d+(r*β+x) % d=r*β+x:=by rw [Nat.mul_comm];exact h1
 rw [h,Nat.add_mul]
 simp only [Nat.mul_add,Nat.add_mul,Nat.mul_assoc,Nat.mul_comm,Nat.mul_left_comm] at h2 |-
 omega
theorem YO (β:Nat) (ds:List Nat) (k d:Nat) (hk:k<ds.length):val β ((ds.set k d).drop k)=d+β*val β (ds.drop (k+1)):=by
 rw [Z5 β (ds.set k d) k (by simpa using hk),List.drop_set_of_lt (by omega)]
 simp only [List.getElem_set_self]
theorem zql {β s i D A x:Nat} {o:Nat} (h:D+β ^ i*o=A*s):(D+β ^ i*(o+x*s % β))+β ^ (i+1)*(x*s / β)=(A+β ^ i*x)*s:=by
 have h1:=Nat.div_add_mod (x*s) β
 have h2:β ^ i*(x*s)=β ^ i*(β*(x*s / β)+x*s % β):=by rw [h1]
 generalize x*s / β=q at*
 generalize x*s % β=r at*
 rw [Nat.pow_succ,Nat.add_mul]
 simp only [Nat.mul_add,Nat.add_mul,Nat.mul_assoc,Nat.mul_comm,Nat.mul_left_comm] at h2 h |-
 omega
theorem zfj {n a b:Nat} (hb:b<2 ^ n):(2 ^ n*a) ||| b=2 ^ n*a+b:=(Nat.two_pow_add_eq_or_of_lt hb a).symm
theorem V5 {n a b:Nat} (hb:b<2 ^ n):b ||| (2 ^ n*a)=b+2 ^ n*a:=by rw [Nat.or_comm,zfj hb,Nat.add_comm]
theorem zg0 {s t x:Nat} (hs:0<s):x*s % (s*t)=s*(x % t):=by rw [Nat.mul_comm x s,Nat.mul_mod_mul_left]
theorem zlm {s t i A x:Nat} (hs:0<s) (ht:0<t):(A+(s*t) ^ (i+1)*x) / s=A / s+(s*t) ^ i*(t*x):=by
 have e:(s*t) ^ (i+1)*x=s*((s*t) ^ i*(t*x)):=by
  rw [Nat.pow_succ];simp only [Nat.mul_assoc,Nat.mul_comm,Nat.mul_left_comm]
 rw [e,Nat.add_mul_div_left _ _ hs]
theorem zik {s t x:Nat} (ht:0<t):t*x=t*(x % s)+s*t*(x / s):=by
 conv=>lhs;rw [<- Nat.mod_add_div x s]
 rw [Nat.mul_add]
 simp only [Nat.mul_assoc,Nat.mul_comm,Nat.mul_left_comm]
def chr (d:Nat):UInt8:=UInt8.ofNat (48+d)
def dig (c:UInt8):Nat:=c.toNat - 48
def yY (c:UInt8):Bool:=decide (48<=c.toNat) && decide (c.toNat<=57)
def xd (l:List UInt8):Bool:=l.all yY && !l.isEmpty
def zC (l:List UInt8):Nat:=l.foldl (fun n c=>10*n+dig c) 0
def dec (n:Nat):List UInt8:=if n=0 then [48] else (digs 10 n).reverse.map chr
theorem zqf {d:Nat} (h:d<10):dig (chr d)=d:=by
 unfold dig chr
 rw [UInt8.toNat_ofNat']
 have:(48+d) % 2 ^ 8=48+d:=Nat.mod_eq_of_lt (by omega)
 omega
theorem zlv {d:Nat} (h:d<10):yY (chr d)=true:=by
 unfold yY chr
 rw [UInt8.toNat_ofNat']
 have:(48+d) % 2 ^ 8=48+d:=Nat.mod_eq_of_lt (by omega)
 simp [this];omega
theorem zcz {c:UInt8} (h:yY c=true):chr (dig c)=c:=by
 simp [yY] at h
 unfold chr dig
 apply UInt8.toNat_inj.1
 rw [UInt8.toNat_ofNat']
 have:c.toNat<2 ^ 8:=UInt8.toNat_lt c
 have:(48+(c.toNat - 48)) % 2 ^ 8=48+(c.toNat - 48):=Nat.mod_eq_of_lt (by omega)
 omega
theorem zos {c:UInt8} (h:yY c=true):dig c<10:=by
 simp [yY] at h;unfold dig;omega
theorem ze8 {d:Nat} (h:d<10):(chr d).toNat=48+d:=by
 unfold chr;rw [UInt8.toNat_ofNat'];exact Nat.mod_eq_of_lt (by omega)
theorem zci:zC []=0:=rfl
theorem VN (l:List UInt8):∀ n:Nat,l.foldl (fun n c=>10*n+dig c) n=n*10 ^ l.length+zC l:=by
 induction l with
 | nil=>intro n;simp [zC]
 | cons c l ih=>
   intro n
   have e:zC (c :: l)=(10*0+dig c)*10 ^ l.length+zC l:=by
    show List.foldl (fun n c=>10*n+dig c) (10*0+dig c) l=_
    exact ih _
   rw [List.foldl_cons,ih,e,List.length_cons,Nat.pow_succ];simp only [Nat.mul_add,Nat.add_mul,Nat.mul_assoc,Nat.mul_comm,Nat.mul_left_comm,Nat.mul_zero,Nat.zero_add]
   omega
theorem Yx (a b:List UInt8):zC (a ++ b)=zC a*10 ^ b.length+zC b:=by
 rw [zC,List.foldl_append,VN b];rfl
theorem zgj (a:List UInt8) (c:UInt8):zC (a ++ [c])=10*zC a+dig c:=by
 rw [Yx];simp [zC];omega
theorem zbf (c:UInt8) (l:List UInt8):zC (c :: l)=dig c*10 ^ l.length+zC l:=by
 rw [zC,List.foldl_cons,VN];simp
theorem Yp (l:List UInt8):zC l=val 10 (l.reverse.map dig):=by
 induction l with
 | nil=>rfl
 | cons c l ih=>rw [zbf,List.reverse_cons,List.map_append,ZA,ih];simp [val];rw [Nat.mul_comm];omega
theorem YR {l:List UInt8} (h:l.all yY=true):zC l<10 ^ l.length:=by
 rw [Yp]
 have hs:zD 10 (l.reverse.map dig):=by
  intro d hd
  simp at hd
  obtain ⟨c,hc,rfl⟩:=hd
  exact zos (List.all_eq_true.1 h c hc)
 simpa using Yh hs
theorem zbx (n:Nat):zD 10 (digs 10 n):=(ZL (by omega) n).1.1
theorem zau (n:Nat):(dec n).all yY=true:=by
 unfold dec
 split
 . rfl
 . rw [List.all_eq_true]
   intro c hc;simp only [List.mem_map,List.mem_reverse] at hc;obtain ⟨d,hd,rfl⟩:=hc;exact zlv (zbx n d hd)
theorem zr8 (n:Nat):dec n≠[]:=by
 unfold dec
 split
 . simp
 . rename_i h
   rw [Zm (by omega) (by omega)];simp
theorem YX (n:Nat):xd (dec n)=true:=by
 unfold xd;rw [zau];simp [zr8]
theorem vU (n:Nat):zC (dec n)=n:=by
 unfold dec
 split
 . rename_i h;subst h;decide
 . rw [Yp, <- List.map_reverse,List.reverse_reverse,List.map_map]
   have e:(digs 10 n).map (dig ∘ chr)=digs 10 n:=by
    have:∀ l:List Nat,zD 10 l->l.map (dig ∘ chr)=l:=by
     intro l
     induction l with
     | nil=>intro _;rfl
     | cons d l ih=>intro h;rw [List.map_cons,ih h.tail];simp [zqf h.head]
    exact this _ (zbx n)
   rw [e];exact (ZL (by omega) n).2
theorem zgu {m n:Nat} (h:dec m=dec n):m=n:=by rw [<- vU m,h,vU]
theorem xV:dec 0=[48]:=by simp [dec]
theorem zok (n:Nat) (hn:n≠0):∀ c,(dec n).head?=some c->c≠48:=by
 intro c hc
 unfold dec at hc
 rw [if_neg hn,List.head?_map,List.head?_reverse] at hc
 have hs:=ZL (β:=10) (by omega) n
 cases hl:(digs 10 n).getLast? with
 | none=>rw [hl] at hc;cases hc
 | some d=>
   rw [hl] at hc;simp at hc;subst hc;have h1:d<10:=hs.1.1 d (List.mem_of_getLast? hl);have h2:d≠0:=fun e=>hs.1.2 (by rw [hl,e])
   intro e;have:=congrArg UInt8.toNat e;rw [ze8 h1] at this;simp at this
   omega
theorem zi8 {l:List UInt8} (h:xd l=true) (h0:l.head?≠some 48\/l.length=1):dec (zC l)=l:=by
 simp [xd] at h
 obtain ⟨ha,hne⟩:=h
 have hs:zD 10 (l.reverse.map dig):=by
  intro d hd
  simp at hd
  obtain ⟨c,hc,rfl⟩:=hd
  exact zos (ha c hc)
 have hm:∀ l:List UInt8,(∀ c∈l,yY c=true)->l.map (chr ∘ dig)=l:=by
  intro l
  induction l with
  | nil=>intro _;rfl
  | cons c l ih=>intro h;rw [List.map_cons,ih (fun c hc=>h c (List.mem_cons_of_mem _ hc))];simp [zcz (h c List.mem_cons_self)]
 by_cases hz:zC l=0
 . unfold dec
   rw [if_pos hz]
   rcases h0 with h0 | h0
   . exfalso
     cases l with
     | nil=>exact hne rfl
     | cons c l=>
       simp at h0;rw [zbf] at hz;have hc:=ha c List.mem_cons_self
       have h1:dig c=0:=by
        rcases Nat.eq_zero_or_pos (dig c) with e | e
        . exact e
        . have:=Nat.mul_pos e (Nat.pow_pos (n:=l.length) (show 0<10 by omega));omega
       have h2:=zcz hc;rw [h1] at h2;exact h0 h2.symm
   . match l,h0 with
     | [c],_=>
       have h1:dig c=0:=by simpa [zC] using hz
       have h2:=zcz (ha c List.mem_cons_self);rw [h1] at h2;rw [<- h2];rfl
 . have hc:yJ 10 (l.reverse.map dig):=by
    refine ⟨hs,?_⟩;rw [List.getLast?_map,List.getLast?_reverse]
    cases l with
    | nil=>exact absurd rfl hne
    | cons c l=>
      simp only [List.head?_cons,Option.map_some];intro e;injection e with e
      have h2:=zcz (ha c List.mem_cons_self);rw [e] at h2
      rcases h0 with h0 | h0
      . apply h0;rw [<- h2];rfl
      . have:l=[]:=List.eq_nil_of_length_eq_zero (by simpa using h0)
        subst this
        apply hz
        simp [zC,e]
   unfold dec;rw [if_neg hz,Yp,hc.digs (by omega), <- List.map_reverse,List.reverse_reverse,List.map_map,hm l ha]
theorem zca (n:Nat) (hn:n≠0):(dec n).length=len 10 n:=by unfold dec;rw [if_neg hn];simp [len]
theorem Y2 {n k:Nat} (h:n<10 ^ k) (hk:0<k):(dec n).length<=k:=by
 by_cases hn:n=0
 . subst hn;rw [xV];exact hk
 . rw [zca n hn];exact yt (by omega) h
theorem Zu {n k:Nat} (h:(dec n).length<=k):n<10 ^ k:=by
 have h1:=YR (zau n)
 rw [vU] at h1
 exact Nat.lt_of_lt_of_le h1 (Nat.pow_le_pow_right (by omega) h)
theorem Zh {β n:Nat} (hβ:10<=β):len β n<=(dec n).length:=by
 apply yt (by omega)
 exact Nat.lt_of_lt_of_le (Zu (Nat.le_refl _)) (Nat.pow_le_pow_left hβ _)
theorem zk0 {n m:Nat} {b:List Nat} (h:b ++ digs 10 m=digs 10 n) (hm:0<m):(b ++ [m % 10]) ++ digs 10 (m / 10)=digs 10 n:=by
 rw [<- h,Zm (by omega) hm];simp
def zT (q:Rat):List UInt8:=(if q.num<0 then [45] else []) ++ dec q.num.natAbs ++ (if q.den=1 then [] else 47 :: dec q.den)
def yE (M:Nat) (q:Rat):Prop:=(dec q.num.natAbs).length<=M/\(dec q.den).length<=M
instance (M:Nat) (q:Rat):Decidable (yE M q):=inferInstanceAs (Decidable (_/\_))
def zeq (l:List UInt8) (q:Rat):Prop:=l=zT q/\yE 50000 q
def yD (l:List UInt8):Bool:=l.head? == some 45
def zq (l:List UInt8):List UInt8:=if yD l then l.tail else l
def ahead (c:UInt8) (l:List UInt8):List UInt8:=l.takeWhile (· != c)
def ym (c:UInt8) (l:List UInt8):List UInt8:=(l.dropWhile (· != c)).tail
def has (c:UInt8) (l:List UInt8):Bool:=l.contains c
def x9 (neg:Bool) (n d:Nat):Rat:=Rat.divInt (if neg then -(n:Int) else n) d
theorem Y0 {neg:Bool} {n d:Nat} (hc:Nat.Coprime n d) (hd:d≠0):(x9 neg n d).num=(if neg then -(n:Int) else n)/\(x9 neg n d).den=d:=by
 have hc' :Nat.Coprime (if neg then -(n:Int) else n).natAbs d:=by cases neg<;>simpa using hc
 have e:x9 neg n d=⟨if neg then -(n:Int) else n,d,hd,hc'⟩:=by rw [Rat.mk_eq_divInt];rfl
 rw [e];exact ⟨rfl,rfl⟩
theorem YA {l:List UInt8} (h:l.all yY=true) {c:UInt8} (hc:yY c=false):∀ x∈l,(x != c)=true:=by
 intro x hx
 have h1:=List.all_eq_true.1 h x hx
 rw [bne_iff_ne]
 rintro rfl
 rw [h1] at hc;cases hc
theorem Xv:yY 47=false:=by decide
theorem zfz:yY 45=false:=by decide
theorem XX {l t:List UInt8} {p:UInt8->Bool} (h:∀ x∈l,p x=true):(l ++ t).takeWhile p=l ++ t.takeWhile p:=by
 induction l with
 | nil=>rfl
 | cons c l ih=>simp [List.takeWhile_cons,h c List.mem_cons_self,ih (fun x hx=>h x (List.mem_cons_of_mem _ hx))]
theorem zcw {l t:List UInt8} {p:UInt8->Bool} (h:∀ x∈l,p x=true):(l ++ t).dropWhile p=t.dropWhile p:=by
 induction l with
 | nil=>rfl
 | cons c l ih=>simp [List.dropWhile_cons,h c List.mem_cons_self,ih (fun x hx=>h x (List.mem_cons_of_mem _ hx))]
theorem zkl {c:UInt8} {l:List UInt8} (h:l.all yY=true) (hc:yY c=false) (t:List UInt8):ahead c (l ++ c :: t)=l:=by
 unfold ahead
 rw [XX (YA h hc)];simp [List.takeWhile_cons]
theorem zi2 {c:UInt8} {l:List UInt8} (h:l.all yY=true) (hc:yY c=false) (t:List UInt8):ym c (l ++ c :: t)=t:=by
 unfold ym
 rw [zcw (YA h hc)];simp [List.dropWhile_cons]
theorem zp2 (c:UInt8) (l t:List UInt8):has c (l ++ c :: t)=true:=by unfold has;simp
theorem Xg {c:UInt8} {l:List UInt8} (h:has c l=false):ahead c l=l:=by
 unfold has at h;unfold ahead
 have h' :c ∉ l:=by simpa using h
 have:=XX (l:=l) (t:=[]) (p:=(· != c)) (by
  intro a ha
  rw [bne_iff_ne]
  rintro rfl
  exact h' ha)
 simpa using this
theorem zi7 {c:UInt8} {l:List UInt8} (h:l.all yY=true) (hc:yY c=false):has c l=false:=by
 unfold has
 rw [Bool.eq_false_iff]
 intro h1
 have h2:=List.contains_iff_mem.1 h1
 have:=List.all_eq_true.1 h c h2
 rw [this] at hc;cases hc
theorem zle {c:UInt8} {l:List UInt8} (h:has c l=true):l=ahead c l ++ c :: ym c l:=by
 unfold has at h;unfold ahead ym
 have h1:c∈l:=List.contains_iff_mem.1 h
 have e:(l.dropWhile (· != c)).head?=some c:=by
  cases hd:l.dropWhile (· != c) with
  | nil=>
    have h2:=List.takeWhile_append_dropWhile (p:=(· != c)) (l:=l);rw [hd,List.append_nil] at h2;rw [<- h2] at h1;have:=List.all_eq_true.1 (List.all_takeWhile (p:=(· != c)) (l:=l)) c h1;simp at this
  | cons a t=>
    have:=List.head?_dropWhile_not (· != c) l;rw [hd] at this;simp at this;rw [this];rfl
 cases hd:l.dropWhile (· != c) with
 | nil=>rw [hd] at e;cases e
 | cons a t=>
   rw [hd] at e;injection e with e
   subst e;have:=List.takeWhile_append_dropWhile (p:=(· != a)) (l:=l);rw [hd] at this;exact this.symm
theorem ZP {l:List UInt8} (h:yD l=false):zq l=l:=by unfold zq;rw [h];rfl
theorem YJ {l:List UInt8} (h:yD l=true):l=45 :: zq l:=by
 unfold zq;rw [h]
 unfold yD at h
 cases l with
 | nil=>simp at h
 | cons c l=>simp at h;subst h;rfl
theorem zpt (l:List UInt8):l=(if yD l then [45] else []) ++ zq l:=by
 by_cases h:yD l=true
 . rw [if_pos h];exact YJ h
 . rw [if_neg h,ZP (by simpa using h)];rfl
theorem zcx {l t:List UInt8} (h:xd l=true):yD (l ++ t)=false:=by
 simp [xd] at h
 unfold yD
 cases l with
 | nil=>simp at h
 | cons c l=>
   have hc:=h.1 c List.mem_cons_self
   simp
   rintro rfl
   simp [zfz] at hc
theorem zdl {l:List UInt8} {q:Rat} (h:l=zT q):yD l=decide (q.num<0)/\ahead 47 (zq l)=dec q.num.natAbs/\has 47 (zq l)=decide (q.den≠1)/\
 (q.den≠1->ym 47 (zq l)=dec q.den):=by
 have hn:yD (dec q.num.natAbs ++ (if q.den=1 then [] else 47 :: dec q.den))=false:=zcx (YX _)
 have hs:yD l=decide (q.num<0):=by
  rw [h,zT,List.append_assoc]
  by_cases h0:q.num<0
  . rw [if_pos h0];simp [yD,h0]
  . rw [if_neg h0,List.nil_append,hn];simp [h0]
 have hu:zq l=dec q.num.natAbs ++ (if q.den=1 then [] else 47 :: dec q.den):=by
  by_cases h0:q.num<0
  . have:=YJ (l:=l) (by rw [hs];simpa using h0)
    rw [h,zT,if_pos h0] at this;simp only [List.cons_append,List.nil_append,List.cons.injEq,true_and] at this;rw [h,zT,if_pos h0];simp only [List.cons_append,List.nil_append];rw [<- this]
  . rw [ZP (by rw [hs];simpa using h0),h,zT,if_neg h0,List.nil_append]
 refine ⟨hs,?_⟩
 rw [hu]
 by_cases hd:q.den=1
 . rw [if_pos hd,List.append_nil]
   have hh:=zi7 (zau q.num.natAbs) Xv;refine ⟨Xg hh,?_,fun h=>absurd hd h⟩;rw [hh];simp [hd]
 . rw [if_neg hd]
   exact ⟨zkl (zau _) Xv _,by rw [zp2];simp [hd],fun _=>zi2 (zau _) Xv _⟩
def yf (l:List UInt8):Bool:=xd l && (l.head? != some 48 || l.length == 1) && decide (l.length<=50000)
theorem zeu {n:Nat} (h:(dec n).length<=50000):yf (dec n)=true:=by
 unfold yf
 rw [YX]
 by_cases hn:n=0
 . subst hn;rw [xV];decide
 . have h1:((dec n).head? != some 48)=true:=by
    rw [bne_iff_ne];intro h2;exact zok n hn 48 h2 rfl
   rw [h1];simp [h]
theorem Z9 {l:List UInt8} (h:yf l=true):dec (zC l)=l/\l.length<=50000/\xd l=true:=by
 unfold yf at h
 simp only [Bool.and_eq_true,Bool.or_eq_true,bne_iff_ne,ne_eq,beq_iff_eq,decide_eq_true_eq] at h
 exact ⟨zi8 h.1.1 h.1.2,h.2,h.1.1⟩
theorem XV {l:List UInt8} (hn:yf (ahead 47 (zq l))=true) (h0:yD l=true->ahead 47 (zq l)≠[48])
 (hd:has 47 (zq l)=true->yf (ym 47 (zq l))=true/\ym 47 (zq l)≠[48]/\ym 47 (zq l)≠[49]/\
   Nat.Coprime (zC (ahead 47 (zq l))) (zC (ym 47 (zq l)))):
 zeq l (x9 (yD l) (zC (ahead 47 (zq l))) (if has 47 (zq l) then zC (ym 47 (zq l)) else 1)):=by
 obtain ⟨e1,l1,_⟩:=Z9 hn
 have hl:=zpt l
 generalize hs:yD l=s at*
 generalize hu:zq l=u at*
 have hneg:s=true->zC (ahead 47 u)≠0:=by
  intro hs' h
  rw [h,xV] at e1
  exact h0 hs' e1.symm
 by_cases hh:has 47 u=true
 . obtain ⟨hd1,hd2,hd3,hc⟩:=hd hh
   obtain ⟨e2,l2,_⟩:=Z9 hd1
   have hz:zC (ym 47 u)≠0:=by
    intro h;rw [h,xV] at e2;exact hd2 e2.symm
   have h1:zC (ym 47 u)≠1:=by
    intro h;rw [h] at e2;exact hd3 (by rw [<- e2];simp [dec,Zm (β:=10) (n:=1) (by omega) (by omega),Za];decide)
   rw [if_pos hh];obtain ⟨p1,p2⟩:=Y0 (neg:=s) hc hz;have p3:(x9 s (zC (ahead 47 u)) (zC (ym 47 u))).num.natAbs=zC (ahead 47 u):=by rw [p1];cases s<;>simp
   refine ⟨?_,by unfold yE;rw [p2,p3,e1,e2];exact ⟨l1,l2⟩⟩;unfold zT;rw [p2,p3,e1,e2,if_neg h1,p1,hl];rw [List.append_assoc]
   congr 1
   . cases s with
     | false=>rw [if_neg (by simp),if_neg (by simp)]
     | true=>rw [if_pos rfl,if_pos rfl,if_pos (by have:=hneg rfl;omega)]
   . exact zle hh
 . rw [if_neg hh]
   have hh' :has 47 u=false:=by simpa using hh
   have eu:=Xg hh';obtain ⟨p1,p2⟩:=Y0 (neg:=s) (n:=zC (ahead 47 u)) (d:=1) (by simp) (by omega);have p3:(x9 s (zC (ahead 47 u)) 1).num.natAbs=zC (ahead 47 u):=by rw [p1];cases s<;>simp
   refine ⟨?_,by
    unfold yE;rw [p2,p3,e1]
    exact ⟨l1,by simp [dec,Zm (β:=10) (n:=1) (by omega) (by omega),Za]⟩⟩
   unfold zT;rw [p2,p3,e1,p1,hl,if_pos rfl,List.append_nil,eu]
   congr 1
   cases s with
   | false=>rw [if_neg (by simp),if_neg (by simp)]
   | true=>rw [if_pos rfl,if_pos rfl,if_pos (by have:=hneg rfl;rw [eu] at this;omega)]
theorem zc0:dec 1=[49]:=by simp [dec,Zm (β:=10) (n:=1) (by omega) (by omega),Za];decide
theorem Zb {l:List UInt8} {q:Rat} (h:zeq l q):
 yf (ahead 47 (zq l))=true/\(yD l=true->ahead 47 (zq l)≠[48])/\
 (has 47 (zq l)=true->yf (ym 47 (zq l))=true/\ym 47 (zq l)≠[48]/\ym 47 (zq l)≠[49]/\
   ahead 47 (zq l)≠[48]/\Nat.Coprime (zC (ahead 47 (zq l))) (zC (ym 47 (zq l))))/\
 q=x9 (yD l) (zC (ahead 47 (zq l))) (if has 47 (zq l) then zC (ym 47 (zq l)) else 1):=by
 obtain ⟨h1,h2,h3,h4⟩:=zdl h.1
 have hsh:=h.2
 have hz:dec q.num.natAbs=[48]->q.num=0:=by
  intro e
  have:q.num.natAbs=0:=zgu (e.trans xV.symm)
  omega
 have hnum:q.num=if decide (q.num<0)=true then -(q.num.natAbs:Int) else q.num.natAbs:=by
  by_cases h0:q.num<0
  . simp [h0];omega
  . simp [h0];omega
 refine ⟨by rw [h2];exact zeu hsh.1,?_,?_,?_⟩
 . rw [h1,h2]
   intro h0 e;have:=hz e;simp at h0
   omega
 . rw [h3]
   intro hd;have hd' :q.den≠1:=by simpa using hd
   rw [h2,h4 hd',vU,vU];refine ⟨zeu hsh.2,?_,?_,?_,q.reduced⟩
   . intro e;exact q.den_nz (zgu (e.trans xV.symm))
   . intro e;exact hd' (zgu (e.trans zc0.symm))
   . intro e
     have h0:=hz e;have:=q.reduced;rw [h0] at this;simp at this;exact hd' this
 . rw [h1,h2,h3,vU]
   by_cases hd:q.den=1
   . have:decide (q.den≠1)=false:=by simp [hd]
     rw [this,if_neg (by simp),x9, <- hnum]
     conv=>lhs;rw [<- Rat.num_divInt_den q,hd]
   . have:decide (q.den≠1)=true:=by simp [hd]
     rw [this,if_pos rfl,h4 hd,vU,x9, <- hnum,Rat.num_divInt_den]
def zp (l:List UInt8):Option Rat:=
 let q:=x9 (yD l) (zC (ahead 47 (zq l))) (if has 47 (zq l) then zC (ym 47 (zq l)) else 1)
 if l=zT q/\yE 50000 q then some q else none
theorem yG {l:List UInt8} {q:Rat}:zp l=some q↔zeq l q:=by
 unfold zp
 constructor
 . intro h
   simp only at h;generalize x9 (yD l) (zC (ahead 47 (zq l))) (if has 47 (zq l) then zC (ym 47 (zq l)) else 1)=r at h
   split at h
   . rename_i h1;injection h with h;subst h;exact h1
   . cases h
 . intro h
   have e:=(Zb h).2.2.2
   simp only
   rw [<- e];exact if_pos h
theorem vz {l:List UInt8}:zp l=none↔∀ q,¬ zeq l q:=by
 constructor
 . intro h q hq;rw [yG.2 hq] at h;cases h
 . intro h
   cases hr:zp l with
   | none=>rfl
   | some q=>exact absurd (yG.1 hr) (h q)
theorem XC {q:Rat} (h:yE 50000 q):zp (zT q)=some q:=yG.2 ⟨rfl,h⟩
theorem zoi {l:List UInt8} (h:yf (ahead 47 (zq l))=false):zp l=none:=by
 rw [vz]
 intro q hq
 have:=(Zb hq).1
 rw [h] at this;cases this
theorem zon {l:List UInt8} (h:yD l=true) (h0:ahead 47 (zq l)=[48]):zp l=none:=by
 rw [vz]
 intro q hq
 exact (Zb hq).2.1 h h0
theorem Zl {l:List UInt8} (h:has 47 (zq l)=true) (h0:yf (ym 47 (zq l))=false\/ym 47 (zq l)=[48]\/ym 47 (zq l)=[49]\/ahead 47 (zq l)=[48]):zp l=none:=by
 rw [vz]
 intro q hq
 obtain ⟨h1,h2,h3,h4,_⟩:=(Zb hq).2.2.1 h
 rcases h0 with h0 | h0 | h0 | h0
 . rw [h0] at h1;cases h1
 . exact h2 h0
 . exact h3 h0
 . exact h4 h0
theorem Yj (s:Bool) (n:Nat):(x9 s n 1).num=(if s then -(n:Int) else n)/\(x9 s n 1).den=1:=Y0 (by simp) (by omega)
theorem Vh {l:List UInt8} (h:yf (ahead 47 (zq l))=true) (h0:yD l=true->ahead 47 (zq l)≠[48]) (hh:has 47 (zq l)=false):zp l=some (x9 (yD l) (zC (ahead 47 (zq l))) 1):=by
 rw [yG]
 have:=XV h h0 (by rw [hh];intro h;cases h)
 rw [hh] at this
 simpa using this
theorem zbq {s:Bool} {n d:Nat} (hd:d≠0) (h:(x9 s n d).den=d):Nat.Coprime n d:=by
 unfold x9 at h
 rw [Rat.den_divInt,if_neg (by omega)] at h
 have hg:(d:Int).gcd (if s then -(n:Int) else n)=Nat.gcd n d:=by
  cases s<;>simp [Int.gcd,Nat.gcd_comm]
 rw [hg] at h
 have h1:0<Nat.gcd n d:=Nat.gcd_pos_of_pos_right _ (by omega)
 have h2:Nat.gcd n d ∣ d:=Nat.gcd_dvd_right n d
 obtain ⟨k,hk⟩:=h2
 have h3:d / Nat.gcd n d=k:=by
  conv=>lhs;lhs;rw [hk]
  exact Nat.mul_div_cancel_left _ h1
 have h4:(d:Int).natAbs=d:=Int.natAbs_natCast d
 rw [h4,h3] at h
 have h5:Nat.gcd n d*d=1*d:=by rw [Nat.one_mul];conv=>lhs;rhs;rw [<- h]
                               exact hk.symm
 exact Nat.eq_of_mul_eq_mul_right (by omega) h5
theorem zec {l:List UInt8} (h:yf (ahead 47 (zq l))=true) (h0:yD l=true->ahead 47 (zq l)≠[48]) (hh:has 47 (zq l)=true)
 (h1:yf (ym 47 (zq l))=true) (h2:ym 47 (zq l)≠[48]) (h3:ym 47 (zq l)≠[49]):
 zp l=if (x9 (yD l) (zC (ahead 47 (zq l))) (zC (ym 47 (zq l)))).den=zC (ym 47 (zq l)) then some (x9 (yD l) (zC (ahead 47 (zq l))) (zC (ym 47 (zq l)))) else none:=by
 have hz:zC (ym 47 (zq l))≠0:=by
  intro e
  have:=(Z9 h1).1
  rw [e,xV] at this
  exact h2 this.symm
 split
 . rename_i hd
   rw [yG];have:=XV h h0 (fun _=>⟨h1,h2,h3,zbq hz hd⟩);rw [hh] at this
   simpa using this
 . rename_i hd
   rw [vz];intro q hq
   apply hd
   exact (Y0 ((Zb hq).2.2.1 hh).2.2.2.2 hz).2
theorem XB {l:List UInt8} (h1:yf l=true) (h2:l≠[48]):zC l≠0:=by
 intro e
 have:=(Z9 h1).1
 rw [e,xV] at this
 exact h2 this.symm
theorem XR {l:List UInt8} (h:yf l=true):len 4294967296 (zC l)<=50000:=by
 obtain ⟨h1,h2,h3⟩:=Z9 h
 have h4:=Zh (β:=4294967296) (n:=zC l) (by omega)
 rw [h1] at h4
 omega
theorem ZM {l:List UInt8} (h:yf l=true):l.all yY=true/\l.length<=50000:=by
 obtain ⟨h1,h2,h3⟩:=Z9 h
 unfold xd at h3
 rw [Bool.and_eq_true] at h3
 exact ⟨h3.1,h2⟩
theorem yE.len {M:Nat} {q:Rat} (h:yE M q):Go.Proofs.YtkmcmmcencdcpaaGreatDoor.len 4294967296 q.num.natAbs<=M/\Go.Proofs.YtkmcmmcencdcpaaGreatDoor.len 4294967296 (q.den:Int).natAbs<=M:=
 ⟨Nat.le_trans (Zh (by omega)) h.1,by rw [Int.natAbs_natCast];exact Nat.le_trans (Zh (by omega)) h.2⟩
structure yy where
 den:Int
 cell:Nat->Nat->Int
 basic:Nat->Nat
 other:Nat->Nat
def yy.bare (T:yy) (r c:Nat):Nat->Nat->Int:=fun i k=>
 if i=r then (if k=c then T.den else -(T.cell r k)) else if k=c then T.cell i c else (T.cell i k*T.cell r c - T.cell i c*T.cell r k).tdiv T.den
def yy.pivot (T:yy) (r c:Nat):yy:=
 { den:=if T.cell r c<0 then -(T.cell r c) else T.cell r c,
      cell:=fun i k=>if T.cell r c<0 then -(T.bare r c i k) else T.bare r c i k,
      basic:=fun i=>if i=r then T.other (c - 1) else T.basic i,
      other:=fun k=>if k=c - 1 then T.basic r else T.other k }
def yy.enter (T:yy) (m:Nat) (but:Int):Nat->Nat
 | 0=>0
 | n+1=>if (T.other n:Int)≠but/\0<T.cell m (n+1)/\(T.enter m but n=0\/T.other n<T.other (T.enter m but n - 1)) then n+1 else T.enter m but n
def yy.ahead (T:yy) (room c i j:Nat):Prop:=
 T.cell i 0* -(T.cell j c)<T.cell j 0* -(T.cell i c)\/(T.cell i 0* -(T.cell j c)=T.cell j 0* -(T.cell i c)/\(T.basic i=room\/(T.basic j≠room/\T.basic i<T.basic j)))
instance (T:yy) (room c i j:Nat):Decidable (T.ahead room c i j):=by unfold yy.ahead;exact inferInstance
def yy.leave (T:yy) (room c:Nat):Nat->Option Nat
 | 0=>none
 | n+1=>if T.cell n c ≥ 0 then T.leave room c n else match T.leave room c n with
   | none=>some n
   | some j=>if T.ahead room c n j then some n else some j
def Fit (z:Int):Prop:=len 4294967296 z.natAbs<=8388608
structure yy.Fits (T:yy) (m L:Nat):Prop where
 den:0<T.den
 fden:Fit T.den
 cell:∀ i k,i<=m->k<L->Fit (T.cell i k)
theorem yy.enter_le (T:yy) (m:Nat) (but:Int) (n:Nat):T.enter m but n<=n:=by
 induction n with
 | zero=>exact Nat.le_refl 0
 | succ n ih=>
   unfold yy.enter
   split
   . exact Nat.le_refl _
   . omega
theorem yy.leave_lt (T:yy) (room c:Nat):∀ (n j:Nat),T.leave room c n=some j->j<n/\T.cell j c<0
 | 0,j,h=>by cases h
 | n+1,j,h=>by
   unfold yy.leave at h
   split at h
   . have:=yy.leave_lt T room c n j h;exact ⟨by omega,this.2⟩
   . rename_i hc
     split at h
     . injection h with h;subst h;exact ⟨by omega,by omega⟩
     . rename_i j' hj
       split at h
       . injection h with h;subst h;exact ⟨by omega,by omega⟩
       . injection h with h;subst h
         have:=yy.leave_lt T room c n j' hj;exact ⟨by omega,this.2⟩
def Vv (β:Int):List Int->Int
 | []=>0
 | d :: ds=>d+β*Vv β ds
theorem zbj (β:Int) (a b:List Int):Vv β (a ++ b)=Vv β a+β ^ a.length*Vv β b:=by
 induction a with
 | nil=>simp [Vv]
 | cons d a ih=>simp only [List.cons_append,Vv,ih,List.length_cons,Int.pow_succ];rw [Int.mul_add,Int.mul_comm (β ^ a.length) β,Int.mul_assoc];omega
theorem zaj (β:Nat) (ds:List Nat):Vv β (ds.map fun (d:Nat)=>(d:Int))=(val β ds:Int):=by
 induction ds with
 | nil=>rfl
 | cons d ds ih=>simp only [List.map_cons,Vv,val,ih];push_cast;rfl
theorem zhu (β:Int) (zs:List Int) (k:Nat) (d:Int) (hk:k<zs.length):Vv β (zs.set k d)=Vv β zs+β ^ k*(d - zs[k]):=by
 induction zs generalizing k with
 | nil=>simp at hk
 | cons z zs ih=>
   cases k with
   | zero=>simp [Vv];omega
   | succ k=>
     simp only [List.set_cons_succ,Vv,List.getElem_cons_succ];rw [ih k (by simpa using hk),Int.mul_add,Int.pow_succ, <- Int.mul_assoc,Int.mul_comm β (β ^ k)]
     omega
def Fits (lo hi:Int) (zs:List Int):Prop:=∀ z∈zs,lo<=z/\z<hi
theorem Fits.get {lo hi:Int} {zs:List Int} (h:Fits lo hi zs) {k:Nat} (hk:k<zs.length):lo<=zs[k]/\zs[k]<hi:=h _ (List.getElem_mem hk)
theorem zp6 {β:Int} (hβ:0<β) {zs:List Int} (h:Fits 0 β zs):0<=Vv β zs/\Vv β zs<β ^ zs.length:=by
 induction zs with
 | nil=>simp [Vv]
 | cons z zs ih=>
   obtain ⟨h1,h2⟩:=h z List.mem_cons_self;obtain ⟨h3,h4⟩:=ih (fun x hx=>h x (List.mem_cons_of_mem _ hx));simp only [Vv,List.length_cons,Int.pow_succ];have h5:=Int.mul_nonneg (Int.le_of_lt hβ) h3;have h6:β*(Vv β zs+1)<=β*β ^ zs.length:=Int.mul_le_mul_of_nonneg_left (by omega) (Int.le_of_lt hβ);rw [Int.mul_add,Int.mul_one] at h6;rw [Int.mul_comm (β ^ zs.length)]
   omega
theorem znt {β:Nat} {zs:List Int} (h:Fits 0 β zs):∃ ds:List Nat,zs=(ds.map fun (d:Nat)=>(d:Int))/\zD β ds/\ds.length=zs.length:=by
 refine ⟨zs.map Int.toNat,?_,?_,by simp⟩
 . rw [List.map_map]
   conv=>lhs;rw [<- List.map_id zs]
   apply List.map_congr_left
   intro z hz;have:=(h z hz).1
   simp;omega
 . intro d hd
   obtain ⟨z,hz,rfl⟩:=List.mem_map.1 hd;have:=h z hz
   omega
def vw (da db:List Nat) (k:Nat):List Int:=(List.range da.length).map fun j=>if j<k then (da.getD j 0:Int) - db.getD j 0 else da.getD j 0
theorem vf (da db:List Nat) (k:Nat):(vw da db k).length=da.length:=by simp [vw]
theorem ZN (da db:List Nat) (k j:Nat) (hj:j<da.length):(vw da db k)[j]'(by rw [vf];exact hj)=if j<k then (da.getD j 0:Int) - db.getD j 0 else da.getD j 0:=by simp [vw]
theorem zdp (da db:List Nat):vw da db 0=da.map fun (d:Nat)=>(d:Int):=by
 apply List.ext_getElem
 . simp [vw]
 . intro j h1 h2
   rw [ZN _ _ _ _ (by simpa using h2)];simp at h2
   simp [h2]
theorem zgh (da db:List Nat) (k:Nat) (hk:k<da.length):(vw da db k).set k ((da.getD k 0:Int) - db.getD k 0)=vw da db (k+1):=by
 apply List.ext_getElem
 . simp [vw]
 . intro j h1 h2
   rw [vf] at h2;rw [ZN _ _ _ _ h2,List.getElem_set]
   by_cases h:k=j
   . subst h;simp
   . rw [if_neg h,ZN _ _ _ _ h2]
     by_cases h3:j<k
     . rw [if_pos h3,if_pos (by omega)]
     . rw [if_neg h3,if_neg (by omega)]
theorem zet (β:Int) (f g:Nat->Int):∀ l:List Nat,Vv β (l.map fun j=>f j - g j)=Vv β (l.map f) - Vv β (l.map g):=by
 intro l
 induction l with
 | nil=>rfl
 | cons x l ih=>simp only [List.map_cons,Vv,ih];rw [Int.mul_sub];omega
theorem zip (da:List Nat):((List.range da.length).map fun j=>((da.getD j 0:Nat):Int))=da.map fun (d:Nat)=>(d:Int):=by
 apply List.ext_getElem
 . simp
 . intro j h1 h2
   simp at h1
   simp [h1]
theorem ziu (β:Int):∀ n,Vv β (List.replicate n 0)=0:=by
 intro n
 induction n with
 | zero=>rfl
 | succ n ih=>rw [List.replicate_succ,Vv,ih];simp
theorem zjl (β:Nat) (db:List Nat) (n:Nat) (h:db.length<=n):Vv β ((List.range n).map fun j=>((db.getD j 0:Nat):Int))=val β db:=by
 obtain ⟨m,rfl⟩:∃ m,n=db.length+m:=⟨n - db.length,by omega⟩
 have e:((List.range (db.length+m)).map fun j=>((db.getD j 0:Nat):Int))=(db.map fun (d:Nat)=>(d:Int)) ++ List.replicate m 0:=by
  apply List.ext_getElem
  . simp
  . intro j h1 h2
    simp at h1;rw [List.getElem_append]
    by_cases hj:j<db.length
    . simp [hj]
    . simp [hj]
 rw [e,zbj,ziu,zaj];simp
theorem zfg (β:Nat) (da db:List Nat) (h:db.length<=da.length):Vv β (vw da db db.length)=(val β da:Int) - val β db:=by
 have e:vw da db db.length=(List.range da.length).map fun j=>((da.getD j 0:Nat):Int) - ((db.getD j 0:Nat):Int):=by
  unfold vw
  apply List.map_congr_left
  intro j _
  by_cases hj:j<db.length
  . rw [if_pos hj]
  . rw [if_neg hj,yX (ds:=db) (by omega)];simp
 rw [e,zet,zip,zaj,zjl _ _ _ h]
theorem zd7 {β:Nat} {da db:List Nat} (hβ:0<β) (ha:zD β da) (hb:zD β db) (k:Nat):Fits (-(β:Int)) β (vw da db k):=by
 intro z hz
 obtain ⟨j,hj,rfl⟩:=List.mem_map.1 hz
 have h1:=ha.getD hβ j
 have h2:=hb.getD hβ j
 split<;>omega
def ZS (β:Int) (zs:List Int) (k:Nat) (V:Int):Prop:=
 Vv β zs=V/\Fits 0 β (zs.take k)/\(∀ h:k<zs.length,-β<=zs[k]/\zs[k]<β)/\∀ j (h:j<zs.length),k<j-> -β<zs[j]/\zs[j]<β
theorem ZS.start {β:Nat} {da db:List Nat} (hβ:0<β) (ha:zD β da) (hb:zD β db) (h:db.length<=da.length):ZS β (vw da db db.length) 0 ((val β da:Int) - val β db):=by
 refine ⟨zfg β da db h,by intro z hz;simp at hz,fun h0=>(zd7 hβ ha hb _).get h0,fun j hj _=>?_⟩
 rw [vf] at hj
 rw [ZN _ _ _ _ hj]
 have h1:=ha.getD hβ j
 have h2:=hb.getD hβ j
 split<;>omega
theorem zel {lo hi:Int} {zs:List Int} {k:Nat} (hk:k<zs.length) (h:Fits lo hi (zs.take k)) (h1:lo<=zs[k]) (h2:zs[k]<hi):Fits lo hi (zs.take (k+1)):=by
 intro z hz
 rw [YQ _ _ hk] at hz
 rcases List.mem_append.1 hz with h3 | h3
 . exact h z h3
 . simp at h3;subst h3;exact ⟨h1,h2⟩
theorem ZS.keep {β:Int} {zs:List Int} {k:Nat} {V:Int} (h:ZS β zs k V) (hk:k<zs.length) (h0:0<=zs[k]):ZS β zs (k+1) V:=by
 obtain ⟨h1,h2,h3,h4⟩:=h
 refine ⟨h1,zel hk h2 h0 (h3 hk).2,fun hk' =>?_,fun j hj hlt=>h4 j hj (by omega)⟩
 have:=h4 (k+1) hk' (by omega)
 omega
theorem ZS.more {β:Int} (hβ:0<β) {zs:List Int} {k:Nat} {V:Int} (h:ZS β zs k V) (hV:0<=V) (hk:k<zs.length) (h0:zs[k]<0):k+1<zs.length:=by
 rcases Nat.lt_or_ge (k+1) zs.length with h5 | h5
 . exact h5
 . exfalso
   obtain ⟨h1,h2,h3,h4⟩:=h;have e:zs=zs.take k ++ [zs[k]]:=by rw [<- YQ _ _ hk,List.take_of_length_le h5]
   have h6:=zbj β (zs.take k) [zs[k]];rw [<- e,h1] at h6;simp only [Vv,Int.mul_zero,Int.add_zero] at h6;have h7:=(zp6 hβ h2).2;have h8:β ^ (zs.take k).length*zs[k]<=β ^ (zs.take k).length*(-1):=Int.mul_le_mul_of_nonneg_left (by omega) (Int.le_of_lt (Int.pow_pos hβ))
   omega
theorem ZS.back {β:Int} (hβ:0<β) {zs:List Int} {k:Nat} {V:Int} (h:ZS β zs k V) (hk:k+1<zs.length) (h0:zs[k]<0):
 ZS β ((zs.set k (zs[k]+β)).set (k+1) (zs[k+1] - 1)) (k+1) V:=by
 obtain ⟨h1,h2,h3,h4⟩:=h
 have hb:=h3 (by omega)
 have hb1:=h4 (k+1) hk (by omega)
 refine ⟨?_,?_,?_,?_⟩
 . rw [zhu _ _ _ _ (by simpa using hk),zhu _ _ _ _ (by omega),List.getElem_set_ne (by omega),h1,Int.pow_succ]
   have e1:zs[k]+β - zs[k]=β:=by omega
   have e2:zs[k+1] - 1 - zs[k+1]= -1:=by omega
   rw [e1,e2]
   omega
 . rw [List.take_set_of_le (by omega)]
   apply zel (by simpa using (by omega:k<zs.length))
   . rw [List.take_set_of_le (by omega)];exact h2
   . rw [List.getElem_set_self];omega
   . rw [List.getElem_set_self];omega
 . intro h5
   rw [List.getElem_set_self]
   omega
 . intro j hj hlt
   simp at hj;rw [List.getElem_set_ne (by omega),List.getElem_set_ne (by omega)];exact h4 j hj (by omega)
theorem ZS.done {β:Nat} {zs:List Int} {k:Nat} {V:Nat} (h:ZS β zs k (V:Int)) (hk:zs.length<=k):∃ ds:List Nat,zs=(ds.map fun (d:Nat)=>(d:Int))/\zD β ds/\ds.length=zs.length/\val β ds=V:=by
 obtain ⟨h1,h2,_,_⟩:=h
 rw [List.take_of_length_le hk] at h2
 obtain ⟨ds,rfl,hs,hl⟩:=znt h2
 refine ⟨ds,rfl,hs,hl,?_⟩
 rw [zaj] at h1
 omega
def xJ (l:List UInt8):List UInt8:=if has 47 (zq l) then ym 47 (zq l) else [49]
theorem zfh {q:Rat} (h:yE 50000 q):(zT q).length<=100002:=by
 obtain ⟨h1,h2⟩:=h
 unfold zT
 rw [List.length_append,List.length_append]
 have e1:(if q.num<0 then ([45]:List UInt8) else []).length<=1:=by split<;>simp
 have e2:(if q.den=1 then ([]:List UInt8) else 47 :: dec q.den).length<=50001:=by split<;>simp;omega
 omega
theorem zk1 {l:List UInt8} (h:100002<l.length):zp l=none:=by
 rw [vz]
 rintro q ⟨rfl,h2⟩
 have:=zfh h2
 omega
theorem zis {l:List UInt8} {q:Rat} (h:zeq l q):ahead 47 (zq l)=dec q.num.natAbs/\xJ l=dec q.den:=by
 obtain ⟨h1,h2,h3,h4⟩:=zdl h.1
 refine ⟨h2,?_⟩
 unfold xJ
 rw [h3]
 by_cases hd:q.den=1
 . rw [hd,zc0];simp
 . rw [if_pos (by simpa using hd),h4 hd]
theorem Yb {l:List UInt8} (h:xd (ahead 47 (zq l))=false\/xd (xJ l)=false\/50000<(ahead 47 (zq l)).length\/50000<(xJ l).length\/zC (xJ l)=0):zp l=none:=by
 rw [vz]
 intro q hq
 obtain ⟨h1,h2⟩:=zis hq
 rw [h1,h2] at h
 obtain ⟨_,h3,h4⟩:=hq
 rcases h with h | h | h | h | h
 . rw [YX] at h;cases h
 . rw [YX] at h;cases h
 . omega
 . omega
 . rw [vU] at h;exact q.den_nz h
theorem znk (l:List UInt8):(if has 47 (zq l) then zC (ym 47 (zq l)) else 1)=zC (xJ l):=by
 unfold xJ
 split
 . rfl
 . rfl
theorem zl7 {l:List UInt8} (h1:xd (ahead 47 (zq l))=true) (h2:xd (xJ l)=true) (h3:(ahead 47 (zq l)).length<=50000) (h4:(xJ l).length<=50000):
 zp l=if zT (x9 (yD l) (zC (ahead 47 (zq l))) (zC (xJ l)))=l then some (x9 (yD l) (zC (ahead 47 (zq l))) (zC (xJ l))) else none:=by
 unfold zp
 rw [znk]
 simp only
 generalize hq:x9 (yD l) (zC (ahead 47 (zq l))) (zC (xJ l))=q
 by_cases he:zT q=l
 . rw [if_pos he]
   have hs:yE 50000 q:=by
    obtain ⟨e1,e2,e3,e4⟩:=zdl he.symm
    constructor
    . rw [<- e2];exact h3
    . by_cases hd:q.den=1
      . rw [hd,zc0];decide
      . rw [<- e4 hd]
        unfold xJ at h4;rw [e3,if_pos (by simpa using hd)] at h4;exact h4
   rw [if_pos ⟨he.symm,hs⟩]
 . rw [if_neg he,if_neg (fun h=>he h.1.symm)]
def zfk (b:Bool) (n:Nat):Int:=if b then -(n:Int) else n
theorem YZ (b:Bool) (n d:Nat):x9 b n d=Rat.divInt (zfk b n) d:=rfl
theorem VR (x:Rat):x.num=zfk (decide (x.num<0)) x.num.natAbs:=by
 unfold zfk
 by_cases h:x.num<0
 . rw [decide_eq_true h,if_pos rfl];omega
 . rw [decide_eq_false h,if_neg (by decide)];omega
theorem ZV (x:Rat):Rat.divInt x.num x.den=x:=Rat.num_divInt_den x
theorem zmz (a b:Bool) (n m:Nat):zfk a n*zfk b m=zfk (a != b) (n*m):=by
 unfold zfk
 cases a<;>cases b<;>simp [Int.neg_mul,Int.mul_neg]
theorem zpy (x y:Rat):x*y=x9 (decide (x.num<0) != decide (y.num<0)) (x.num.natAbs*y.num.natAbs) (x.den*y.den):=by
 rw [YZ, <- zmz, <- VR, <- VR,Int.natCast_mul, <- Rat.divInt_mul_divInt,ZV,ZV]
theorem zf3 (x y:Rat):x+y=Rat.divInt (zfk (decide (x.num<0)) (x.num.natAbs*y.den)+zfk (decide (y.num<0)) (y.num.natAbs*x.den)) ((x.den*y.den:Nat):Int):=by
 have e1:zfk (decide (x.num<0)) (x.num.natAbs*y.den)=x.num*y.den:=by
  conv=>rhs;rw [VR x]
  unfold zfk;split<;>simp [Int.neg_mul]
 have e2:zfk (decide (y.num<0)) (y.num.natAbs*x.den)=y.num*x.den:=by
  conv=>rhs;rw [VR y]
  unfold zfk;split<;>simp [Int.neg_mul]
 rw [e1,e2]
 conv=>lhs;rw [<- ZV x, <- ZV y]
 rw [Rat.divInt_add_divInt _ _ (by have:=x.den_nz;omega) (by have:=y.den_nz;omega),Int.natCast_mul]
theorem zd0 {x y:Rat} (h:decide (x.num<0)=decide (y.num<0)):x+y=x9 (decide (x.num<0)) (x.num.natAbs*y.den+y.num.natAbs*x.den) (x.den*y.den):=by
 rw [zf3,YZ, <- h]
 congr 1
 unfold zfk;split<;>push_cast<;>omega
theorem zih {x y:Rat} (h:decide (x.num<0)≠decide (y.num<0)) (hle:y.num.natAbs*x.den<=x.num.natAbs*y.den):x+y=x9 (decide (x.num<0)) (x.num.natAbs*y.den - y.num.natAbs*x.den) (x.den*y.den):=by
 rw [zf3,YZ]
 congr 1
 generalize x.num.natAbs*y.den=a at*
 generalize y.num.natAbs*x.den=b at*
 cases hx:decide (x.num<0)<;>cases hy:decide (y.num<0)<;>simp [hx,hy] at h<;>simp [zfk]<;>omega
theorem zjk {x y:Rat} (h:decide (x.num<0)≠decide (y.num<0)) (hle:x.num.natAbs*y.den<y.num.natAbs*x.den):x+y=x9 (decide (y.num<0)) (y.num.natAbs*x.den - x.num.natAbs*y.den) (x.den*y.den):=by
 rw [zf3,YZ]
 congr 1
 generalize x.num.natAbs*y.den=a at*
 generalize y.num.natAbs*x.den=b at*
 cases hx:decide (x.num<0)<;>cases hy:decide (y.num<0)<;>simp [hx,hy] at h<;>simp [zfk]<;>omega
theorem zke {a:Int} (h:a≠0):(a:Rat)≠0:=by
 intro e
 exact h (by exact_mod_cast e)
def Sz (X:Nat) (q:Rat):Prop:=q.num.natAbs<=X/\q.den<=X
theorem Sz.mono {X Y:Nat} {q:Rat} (h:Sz X q) (hXY:X<=Y):Sz Y q:=⟨Nat.le_trans h.1 hXY,Nat.le_trans h.2 hXY⟩
theorem zr6 {X:Nat} {q:Rat} {s M:Int} (hs:s≠0) (h:q*s=M) (h1:M.natAbs<=X) (h2:s.natAbs<=X):Sz X q:=by
 have e:q=Rat.divInt M s:=by
  have h3:=zke hs
  rw [Rat.divInt_eq_div, <- h]
  grind
 have hg:(s.gcd M:Int) ∣ s.sign*M:=Int.dvd_trans (Int.gcd_dvd_right s M) (Int.dvd_mul_left _ _)
 have hg0:0<s.gcd M:=Int.gcd_pos_of_ne_zero_left _ hs
 have hsn:(s.sign*M).natAbs<=M.natAbs:=by
  rw [Int.natAbs_mul,Int.natAbs_sign,if_neg hs];omega
 constructor
 . rw [e,Rat.num_divInt]
   obtain ⟨t,ht⟩:=hg;rw [ht,Int.mul_ediv_cancel_left _ (by omega)];rw [ht,Int.natAbs_mul] at hsn;have h3:t.natAbs<=(s.gcd M:Int).natAbs*t.natAbs:=Nat.le_mul_of_pos_left _ (by simpa using hg0)
   omega
 . rw [e,Rat.den_divInt,if_neg hs]
   exact Nat.le_trans (Nat.div_le_self _ _) h2
theorem zg4 (q:Rat):((q.den:Int):Rat)≠0:=zke (by have:=q.den_nz;omega)
theorem zc8 (q:Rat):q*((q.den:Int):Rat)=(q.num:Rat):=by
 have h:=zg4 q
 conv=>lhs;lhs;rw [<- Rat.num_divInt_den q]
 rw [Rat.divInt_eq_div]
 grind
theorem Sz.zero:Sz 1 0:=⟨by decide,by decide⟩
theorem Sz.mul {X Y:Nat} {p q:Rat} (hp:Sz X p) (hq:Sz Y q):Sz (X*Y) (p*q):=by
 refine zr6 (s:=(p.den:Int)*q.den) (M:=p.num*q.num) (Int.mul_ne_zero (by have:=p.den_nz;omega) (by have:=q.den_nz;omega)) ?_ ?_ ?_
 . have h1:=zc8 p
   have h2:=zc8 q
   push_cast at h1 h2 |-
   rw [<- h1, <- h2];grind
 . rw [Int.natAbs_mul];exact Nat.mul_le_mul hp.1 hq.1
 . rw [Int.natAbs_mul];exact Nat.mul_le_mul (by simpa using hp.2) (by simpa using hq.2)
theorem Sz.add {X Y:Nat} {p q:Rat} (hp:Sz X p) (hq:Sz Y q):Sz (2*(X*Y)) (p+q):=by
 refine zr6 (s:=(p.den:Int)*q.den) (M:=p.num*q.den+q.num*p.den) (Int.mul_ne_zero (by have:=p.den_nz;omega) (by have:=q.den_nz;omega)) ?_ ?_ ?_
 . have h1:=zc8 p
   have h2:=zc8 q
   push_cast at h1 h2 |-
   rw [<- h1, <- h2];grind
 . have h1:(p.num*q.den+q.num*p.den).natAbs<=(p.num*q.den).natAbs+(q.num*p.den).natAbs:=by omega
   rw [Int.natAbs_mul,Int.natAbs_mul] at h1;have h2:=Nat.mul_le_mul hp.1 (show (q.den:Int).natAbs<=Y by simpa using hq.2);have h3:=Nat.mul_le_mul hq.1 (show (p.den:Int).natAbs<=X by simpa using hp.2);rw [Nat.mul_comm Y X] at h3
   omega
 . rw [Int.natAbs_mul]
   have:=Nat.mul_le_mul (show (p.den:Int).natAbs<=X by simpa using hp.2) (show (q.den:Int).natAbs<=Y by simpa using hq.2)
   omega
theorem Sz.short {X e:Nat} {q:Rat} (h:Sz X q) (hX:X<10 ^ e) (he:0<e):yE e q:=⟨Y2 (by have:=h.1;omega) he,Y2 (by have:=h.2;omega) he⟩
theorem yE.sz {e:Nat} {q:Rat} (h:yE e q):Sz (10 ^ e) q:=⟨Nat.le_of_lt (Zu h.1),Nat.le_of_lt (Zu h.2)⟩
abbrev Dz (e:Nat) (q:Rat):Prop:=Sz (10 ^ e) q
theorem Dz.add {e f g:Nat} {p q:Rat} (hp:Dz e p) (hq:Dz f q) (hg:e+f+1<=g):Dz g (p+q):=by
 refine (Sz.add hp hq).mono ?_
 have h1:10 ^ (e+f+1)<=10 ^ g:=Nat.pow_le_pow_right (by omega) hg
 rw [Nat.pow_succ,Nat.pow_add] at h1
 omega
theorem Dz.mul {e f g:Nat} {p q:Rat} (hp:Dz e p) (hq:Dz f q) (hg:e+f<=g):Dz g (p*q):=by
 refine (Sz.mul hp hq).mono ?_
 rw [<- Nat.pow_add]
 exact Nat.pow_le_pow_right (by omega) hg
theorem Dz.short {e f:Nat} {q:Rat} (h:Dz e q) (hf:e<f):yE f q:=Sz.short h (Nat.pow_lt_pow_right (by omega) hf) (by omega)
theorem Dz.zero (e:Nat):Dz e 0:=Sz.zero.mono (Nat.pow_pos (by omega))
def yy.stA (T:yy) (r c i k:Nat):Nat->Nat->Int:=fun i' k' =>if i' ≠r/\(i' <i\/(i' =i/\k' <k)) then T.bare r c i' k' else T.cell i' k'
def yy.stB (T:yy) (r c k:Nat):Nat->Nat->Int:=fun i' k' =>if i' =r then (if k' <k/\k' ≠c then -(T.cell r k') else T.cell r k') else T.bare r c i' k'
def stD (A:Nat->Nat->Int) (i k:Nat):Nat->Nat->Int:=fun i' k' =>if i' <i\/(i' =i/\k' <k) then -(A i' k') else A i' k'
section
variable (T:yy) (r c i k m L:Nat)
theorem yy.bare_col (h:i≠r):T.bare r c i c=T.cell i c:=by unfold yy.bare;rw [if_neg h,if_pos rfl]
theorem yy.stA_start (i' k' :Nat):T.stA r c 0 0 i' k' =T.cell i' k' :=by unfold yy.stA;rw [if_neg (by omega)]
theorem yy.stA_skip (i' k' :Nat):T.stA r c (r+1) 0 i' k' =T.stA r c r 0 i' k' :=by
 unfold yy.stA
 by_cases h:i' ≠r/\(i' <r\/(i' =r/\k' <0))
 . rw [if_pos h,if_pos (by omega)]
 . rw [if_neg h,if_neg (by omega)]
theorem yy.stA_here:T.stA r c i k i k=T.cell i k:=by unfold yy.stA;rw [if_neg (by omega)]
theorem yy.stA_row (k' :Nat):T.stA r c i k r k' =T.cell r k' :=by unfold yy.stA;rw [if_neg (by omega)]
theorem yy.stA_col0:T.stA r c i 0 i c=T.cell i c:=by unfold yy.stA;rw [if_neg (by omega)]
theorem yy.stA_next (hi:i≠r) (hk:k≠c) (i' k' :Nat):T.stA r c i (k+1) i' k' =if i' =i/\k' =k then (T.cell i k*T.cell r c - T.cell i c*T.cell r k).tdiv T.den else T.stA r c i k i' k' :=by
 unfold yy.stA
 by_cases h:i' =i/\k' =k
 . obtain ⟨rfl,rfl⟩:=h
   rw [if_pos (by omega),if_pos ⟨rfl,rfl⟩];unfold yy.bare;rw [if_neg hi,if_neg hk]
 . rw [if_neg h]
   by_cases h2:i' ≠r/\(i' <i\/(i' =i/\k' <k))
   . rw [if_pos h2,if_pos (by omega)]
   . rw [if_neg h2,if_neg (by omega)]
theorem yy.stA_col (hi:i≠r) (i' k' :Nat):T.stA r c i (c+1) i' k' =T.stA r c i c i' k' :=by
 unfold yy.stA
 by_cases h:i' =i/\k' =c
 . obtain ⟨rfl,rfl⟩:=h
   rw [if_pos (by omega),if_neg (by omega),yy.bare_col T r k' i' hi]
 . by_cases h2:i' ≠r/\(i' <i\/(i' =i/\k' <c))
   . rw [if_pos h2,if_pos (by omega)]
   . rw [if_neg h2,if_neg (by omega)]
theorem yy.stA_end (hi:i≠r) (i' k' :Nat) (hk:k' <L):T.stA r c (i+1) 0 i' k' =if i' =i/\k' =c then T.cell i c else T.stA r c i L i' k' :=by
 unfold yy.stA
 by_cases h:i' =i/\k' =c
 . obtain ⟨rfl,rfl⟩:=h
   rw [if_pos (by omega),if_pos ⟨rfl,rfl⟩,yy.bare_col T r k' i' hi]
 . rw [if_neg h]
   by_cases h2:i' ≠r/\(i' <i\/(i' =i/\k' <L))
   . rw [if_pos h2,if_pos (by omega)]
   . rw [if_neg h2,if_neg (by omega)]
theorem yy.stB_start (i' k' :Nat) (h:i' <=m):T.stB r c 0 i' k' =T.stA r c (m+1) 0 i' k' :=by
 unfold yy.stB yy.stA
 by_cases h1:i' =r
 . subst h1;rw [if_pos rfl,if_neg (by omega),if_neg (by omega)]
 . rw [if_neg h1,if_pos (by omega)]
theorem yy.stB_here:T.stB r c k r k=T.cell r k:=by unfold yy.stB;rw [if_pos rfl,if_neg (by omega)]
theorem yy.stB_next (hk:k≠c) (i' k' :Nat):T.stB r c (k+1) i' k' =if i' =r/\k' =k then -(T.cell r k) else T.stB r c k i' k' :=by
 unfold yy.stB
 by_cases h1:i' =r
 . subst h1
   by_cases h2:k' =k
   . subst h2;rw [if_pos rfl,if_pos (by omega),if_pos ⟨rfl,rfl⟩]
   . rw [if_pos rfl,if_neg (show ¬ (i' =i' /\k' =k) from fun h=>h2 h.2),if_pos rfl]
     by_cases h3:k' <k/\k' ≠c
     . rw [if_pos h3,if_pos (by omega)]
     . rw [if_neg h3,if_neg (by omega)]
 . rw [if_neg h1,if_neg (show ¬ (i' =r/\k' =k) from fun h=>h1 h.1),if_neg h1]
theorem yy.stB_col (i' k' :Nat):T.stB r c (c+1) i' k' =T.stB r c c i' k' :=by
 unfold yy.stB
 by_cases h1:i' =r
 . rw [if_pos h1,if_pos h1]
   by_cases h3:k' <c/\k' ≠c
   . rw [if_pos h3,if_pos (by omega)]
   . rw [if_neg h3,if_neg (by omega)]
 . rw [if_neg h1,if_neg h1]
theorem yy.stB_end (i' k' :Nat) (hk:k' <L):T.bare r c i' k' =if i' =r/\k' =c then T.den else T.stB r c L i' k' :=by
 unfold yy.stB yy.bare
 by_cases h1:i' =r
 . subst h1
   by_cases h2:k' =c
   . subst h2;rw [if_pos rfl,if_pos rfl,if_pos ⟨rfl,rfl⟩]
   . rw [if_pos rfl,if_neg h2,if_neg (show ¬ (i' =i' /\k' =c) from fun h=>h2 h.2),if_pos rfl,if_pos ⟨hk,h2⟩]
 . rw [if_neg h1,if_neg (show ¬ (i' =r/\k' =c) from fun h=>h1 h.1),if_neg h1]
end
section
variable (A:Nat->Nat->Int) (i k m L:Nat)
theorem zlc (i' k' :Nat):stD A 0 0 i' k' =A i' k' :=by unfold stD;rw [if_neg (by omega)]
theorem zno:stD A i k i k=A i k:=by unfold stD;rw [if_neg (by omega)]
theorem zmv (i' k' :Nat):stD A i (k+1) i' k' =if i' =i/\k' =k then -(A i k) else stD A i k i' k' :=by
 unfold stD
 by_cases h:i' =i/\k' =k
 . obtain ⟨rfl,rfl⟩:=h
   rw [if_pos (by omega),if_pos ⟨rfl,rfl⟩]
 . rw [if_neg h]
   by_cases h2:i' <i\/(i' =i/\k' <k)
   . rw [if_pos h2,if_pos (by omega)]
   . rw [if_neg h2,if_neg (by omega)]
theorem zqo (i' k' :Nat) (hk:k' <L):stD A (i+1) 0 i' k' =stD A i L i' k' :=by
 unfold stD
 by_cases h2:i' <i\/(i' =i/\k' <L)
 . rw [if_pos h2,if_pos (by omega)]
 . rw [if_neg h2,if_neg (by omega)]
theorem zpx (i' k' :Nat) (hi:i' <=m):stD A (m+1) 0 i' k' = -(A i' k'):=by unfold stD;rw [if_pos (by omega)]
end
end Go.Proofs.YtkmcmmcencdcpaaGreatDoor
