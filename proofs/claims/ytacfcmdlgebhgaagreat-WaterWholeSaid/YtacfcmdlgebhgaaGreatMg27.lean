/- Parts of the proof: memory, numbers, walks of the functions that are called. -/
import Derived.Test.YtacfcmdlgebhgaaGreatMg26
set_option linter.unusedVariables false
set_option linter.unusedSimpArgs false
set_option maxRecDepth 100000
set_option maxHeartbeats 32000000
namespace Go.Proofs.YtacfcmdlgebhgaaGreat
open Go.RowKit Go.Deep
attribute [local go_sem ↓] Go.wp_at_zero Go.wp_at_succ
def ZO (l:List UInt8):Prop:=l.length<=140737488355328
def Vl (w:World) (v:Value) (n:Net):Prop:=
 ∃ A0 c0 A1 c1 A2 c2 A3 c3,v= .agg #[.slice A0 n.nodes.length c0,.slice A1 n.pipes.length c1,.slice A2 n.heads.length c2,.slice A3 n.wells.length c3]/\
  (n.nodes.length<=c0/\c0<=maxLen/\zK w w.heap.size 1 A0 n.nodes.length (n.nodes.map str)/\∀ x∈n.nodes,ZO x)/\
  (n.pipes.length<=c1/\c1<=maxLen/\zK w w.heap.size 5 A1 n.pipes.length (yM n.pipes)/\∀ x∈n.pipes,ZO x.name/\ZO x.low/\ZO x.high)/\
  (n.heads.length<=c2/\c2<=maxLen/\zK w w.heap.size 2 A2 n.heads.length (yF n.heads)/\∀ x∈n.heads,ZO x.value)/\
  (n.wells.length<=c3/\c3<=maxLen/\zK w w.heap.size 2 A3 n.wells.length (yF n.wells)/\∀ x∈n.wells,ZO x.value)
def zI {α:Type} (f:α->Nat) (l:List α):Nat:=(l.map f).sum
theorem Zi {α:Type} {f:α->Nat} {l:List α} {k:Nat} (hk:k<l.length):zI f (l.take (k+1))=zI f (l.take k)+f l[k]:=by
 unfold zI
 rw [List.take_succ_eq_append_getElem hk,List.map_append,List.sum_append]
 simp
theorem Z3 {α:Type} {f:α->Nat} {l:List α} {B:Nat} (h:∀ x∈l,f x<=B):∀ k,k<=l.length->zI f (l.take k)<=k*B:=by
 intro k
 induction k with
 | zero=>intro _;simp [zI]
 | succ k ih=>
   intro hk;rw [Zi (by omega),Nat.succ_mul];have:=ih (by omega);have:=h _ (List.getElem_mem (show k<l.length by omega))
   omega
theorem X3 {α:Type} {f:α->Nat} {l:List α} {x:α} (h:x∈l):f x<=zI f l:=by
 induction l with
 | nil=>cases h
 | cons a l ih=>
   unfold zI at ih |-;rw [List.map_cons,List.sum_cons]
   rcases List.mem_cons.1 h with rfl | h
   . omega
   . have:=ih h;omega
def xG (p:zee):Nat:=p.name.length+(p.low.length+p.high.length)
def zX (v:yU):Nat:=v.value.length
def zgh (n:Net):Nat:=zI List.length n.nodes+zI xG n.pipes+zI zX n.heads+zI zX n.wells
def VU (n:Net):Bool:=
 decide ((6<n.nodes.length/\n.nodes.length<=24)\/40<n.nodes.length\/(9<n.pipes.length/\n.pipes.length<=48)\/60<n.pipes.length\/30<n.heads.length\/30<n.wells.length\/1500<zgh n)
def zy6 (N:Nat) (f:Nat->Nat) (w:World) (nb:Array Value) (sv iv:Value) (wr:World):Prop:=
 ∃ i:Nat,i<=N/\iv= .int .i64 i/\sv= .int .i64 (f i)/\Hid (Blk wr w.heap.size 26 nb)/\Hid (Below w.heap.size w wr)
theorem zuq {w:World} {A:Option Addr} {n B:Nat} {l:List zee} (h4:zK w B 5 A n (yM l)) {k:Nat} (hk:k<l.length):
 ∃ ad,A=some ad/\ad.block<B/\w.cell? (ad.add (k*5))=some (str l[k].name)/\w.cell? ⟨(ad.add (k*5)).block,(ad.add (k*5)).off+1,none⟩=some (.int .i64 l[k].from_)/\
  w.cell? ⟨(ad.add (k*5)).block,(ad.add (k*5)).off+2,none⟩=some (.int .i64 l[k].to_)/\w.cell? ⟨(ad.add (k*5)).block,(ad.add (k*5)).off+3,none⟩=some (str l[k].low)/\
  w.cell? ⟨(ad.add (k*5)).block,(ad.add (k*5)).off+4,none⟩=some (str l[k].high):=by
 obtain ⟨g1,g2,g3,g4,g5⟩:=VJ hk
 have hn:0<n:=by
  rcases Nat.eq_zero_or_pos n with h0 | h0
  . subst h0
    have:=h4.1;rw [zce] at this
    omega
  . exact h0
 obtain ⟨ad,rfl,hb,hc⟩:=h4.2 hn
 rw [Nat.mul_comm] at g1 g2 g3 g4 g5
 exact ⟨ad,rfl,hb,hc _ _ g1,by rw [vP ad (k*5) 0];exact hc _ _ g2,by rw [vP ad (k*5) 1];exact hc _ _ g3,by rw [vP ad (k*5) 2];exact hc _ _ g4,by rw [vP ad (k*5) 3];exact hc _ _ g5⟩
theorem zec {w:World} {A:Option Addr} {n B:Nat} {l:List yU} (h4:zK w B 2 A n (yF l)) {k:Nat} (hk:k<l.length):
 ∃ ad,A=some ad/\ad.block<B/\w.cell? (ad.add (k*2))=some (.int .i64 l[k].node)/\w.cell? ⟨(ad.add (k*2)).block,(ad.add (k*2)).off+1,none⟩=some (str l[k].value):=by
 obtain ⟨g1,g2⟩:=Vn hk
 have hn:0<n:=by
  rcases Nat.eq_zero_or_pos n with h0 | h0
  . subst h0
    have:=h4.1;rw [za2] at this
    omega
  . exact h0
 obtain ⟨ad,rfl,hb,hc⟩:=h4.2 hn
 rw [Nat.mul_comm] at g1 g2
 exact ⟨ad,rfl,hb,hc _ _ g1,by rw [vP ad (k*2) 0];exact hc _ _ g2⟩
theorem zrk (v:Value) (n:Net) (w:World) (hn:Vl w v n):Calls Tryz.prog 4 #[v] w (vO w (.bool (VU n))):=by
 obtain ⟨A0,c0,A1,c1,A2,c2,A3,c3,rfl,⟨a1,a2,a3,a4⟩,⟨b1,b2,b3,b4⟩,⟨d1,d2,d3,d4⟩,⟨e1,e2,e3,e4⟩⟩:=hn
 have HW:=ze (zg w (.cells #[.slice A0 n.nodes.length c0,.slice A1 n.pipes.length c1,.slice A2 n.heads.length c2,.slice A3 n.wells.length c3] 26))
 have HK:=ze (Blk.new w 26 #[.slice A0 n.nodes.length c0,.slice A1 n.pipes.length c1,.slice A2 n.heads.length c2,.slice A3 n.wells.length c3])
 obtain ⟨r,HR⟩:∃ r,Hid (VU n=r):=⟨_,ze rfl⟩
 rw [HR.out]
 have HA:=ze a3
 have HB:=ze b3
 have HD:=ze d3
 have HE:=ze e3
 have HA4:=ze a4
 have HB4:=ze b4
 have HD4:=ze d4
 have HE4:=ze e4
 obtain ⟨k0,hk0⟩:∃ k,k=n.nodes.length:=⟨_,rfl⟩
 obtain ⟨k1,hk1⟩:∃ k,k=n.pipes.length:=⟨_,rfl⟩
 obtain ⟨k2,hk2⟩:∃ k,k=n.heads.length:=⟨_,rfl⟩
 obtain ⟨k3,hk3⟩:∃ k,k=n.wells.length:=⟨_,rfl⟩
 rw [<- hk0, <- hk1, <- hk2, <- hk3] at HW HK |-
 rw [<- hk0] at HA
 rw [<- hk1] at HB
 rw [<- hk2] at HD
 rw [<- hk3] at HE
 have HK0:=ze hk0
 have HK1:=ze hk1
 have HK2:=ze hk2
 have HK3:=ze hk3
 have HRD:Hid (decide ((6<k0/\k0<=24)\/40<k0\/(9<k1/\k1<=48)\/60<k1\/30<k2\/30<k3\/1500<zgh n)=r):=ze (by rw [<- HR.out,hk0,hk1,hk2,hk3];rfl)
 clear a1 a2 a3 a4 b1 b2 b3 b4 d1 d2 d3 d4 e1 e2 e3 e4 hk0 hk1 hk2 hk3 HR
 obtain ⟨r0,r1,r2,r3,rL⟩:=yG HK.out
 rcases (show (6<k0/\k0<=24)\/(6<k0/\24<k0/\40<k0)\/k0<=6\/(6<k0/\24<k0/\k0<=40) by omega) with g | g | g | g
 . obtain ⟨g1,g2⟩:=g
   have g3:(6:Int)<(k0:Int):=by omega
   have g4:(k0:Int)<=24:=by omega
   (have HF:Hid (r=true):=ze (by rw [<- HRD.out,decide_eq_true_iff];omega);clear HRD;go_enter Tryz.func4,Tryz.ntmps4;go_wp2_with fail;go_ret;exact ⟨z0 HF.out,HW.out⟩)
 . obtain ⟨g1,g2,g2'⟩:=g
   have g3:(6:Int)<(k0:Int):=by omega
   have g4:¬ (k0:Int)<=24:=by omega
   have g5:(40:Int)<(k0:Int):=by omega
   (have HF:Hid (r=true):=ze (by rw [<- HRD.out,decide_eq_true_iff];omega);clear HRD;go_enter Tryz.func4,Tryz.ntmps4;go_wp2_with fail;go_ret;exact ⟨z0 HF.out,HW.out⟩)
 all_goals
  first | (have g3:¬ (6:Int)<(k0:Int):=(by omega)) | (have g3:(6:Int)<(k0:Int):=(by omega);have g4:¬ (k0:Int)<=24:=(by omega))
  have g5:¬ (40:Int)<(k0:Int):=by omega
  have hN40:k0<=40:=by omega
  rcases (show (9<k1/\k1<=48)\/(9<k1/\48<k1/\60<k1)\/k1<=9\/(9<k1/\48<k1/\k1<=60) by omega) with q | q | q | q
  . obtain ⟨q1,q2⟩:=q
    have q3:(9:Int)<(k1:Int):=by omega
    have q4:(k1:Int)<=48:=by omega
    (have HF:Hid (r=true):=ze (by rw [<- HRD.out,decide_eq_true_iff];omega);clear HRD;go_enter Tryz.func4,Tryz.ntmps4;go_wp2_with fail;go_ret;exact ⟨z0 HF.out,HW.out⟩)
  . obtain ⟨q1,q2,q2'⟩:=q
    have q3:(9:Int)<(k1:Int):=by omega
    have q4:¬ (k1:Int)<=48:=by omega
    have q5:(60:Int)<(k1:Int):=by omega
    (have HF:Hid (r=true):=ze (by rw [<- HRD.out,decide_eq_true_iff];omega);clear HRD;go_enter Tryz.func4,Tryz.ntmps4;go_wp2_with fail;go_ret;exact ⟨z0 HF.out,HW.out⟩)
  all_goals
   first | (have q3:¬ (9:Int)<(k1:Int):=(by omega)) | (have q3:(9:Int)<(k1:Int):=(by omega);have q4:¬ (k1:Int)<=48:=(by omega))
   have q5:¬ (60:Int)<(k1:Int):=by omega
   have hP60:k1<=60:=by omega
   by_cases hh:30<k2
   . have u3:(30:Int)<(k2:Int):=by omega
     (have HF:Hid (r=true):=ze (by rw [<- HRD.out,decide_eq_true_iff];omega);clear HRD;go_enter Tryz.func4,Tryz.ntmps4;go_wp2_with fail;go_ret;exact ⟨z0 HF.out,HW.out⟩)
   have u3:¬ (30:Int)<(k2:Int):=by omega
   by_cases hw:30<k3
   . have t3:(30:Int)<(k3:Int):=by omega
     (have HF:Hid (r=true):=ze (by rw [<- HRD.out,decide_eq_true_iff];omega);clear HRD;go_enter Tryz.func4,Tryz.ntmps4;go_wp2_with fail;go_ret;exact ⟨z0 HF.out,HW.out⟩)
   have t3:¬ (30:Int)<(k3:Int):=by omega
   have HF:Hid (r=decide (1500<zgh n)):=ze (by
    rw [<- HRD.out]
    congr 1
    apply propext
    constructor
    . rintro (h | h | h | h | h | h | h)
      all_goals first | omega | exact h
    . intro h;omega)
   have hh30:k2<=30:=by omega
   have hw30:k3<=30:=by omega
   clear HRD g q hh hw
   go_enter Tryz.func4,Tryz.ntmps4
   go_wp2_with fail;clear r0 r1 r2 r3 rL g3 g5 q3 q5 u3 t3
   try clear g4
   try clear q4
   go_loopw [3,4] (zy6 k0 (fun i=>zI List.length (n.nodes.take i)) w #[.slice A0 k0 c0,.slice A1 k1 c1,.slice A2 k2 c2,.slice A3 k3 c3]) (fun _ iv _=>k0 - (intOf iv).toNat)
   case atStart=>exact ⟨0,Nat.zero_le _,rfl,rfl,HK,HW⟩
   case round=>
    clear HK HW;obtain ⟨i,hi,rfl,rfl,HK,HW⟩:=hrel;obtain ⟨r0,r1,r2,r3,rL⟩:=yG HK.out
    by_cases hlt:i<k0
    . have hin:i<n.nodes.length:=by have:=HK0.out;omega
      have hi1:(i:Int)<(k0:Int):=by omega
      obtain ⟨ad,ea,hb,qa⟩:∃ ad,A0=some ad/\ad.block<wr.heap.size/\wr.cell? (ad.add i)=some (str n.nodes[i]):=by
       obtain ⟨ad,e,hb,hc⟩:=(HA.out.below HW.out).2 (by omega);exact ⟨ad,e,Nat.lt_of_lt_of_le hb HW.out.size,hc i _ (by simp [hin])⟩
      subst ea;have hl:n.nodes[i].length<=140737488355328:=HA4.out _ (List.getElem_mem hin);have hs:=Z3 (B:=140737488355328) (f:=List.length) HA4.out i (by omega);have hs2:zI List.length (n.nodes.take i)<=40*140737488355328:=Nat.le_trans hs (Nat.mul_le_mul (by omega) (Nat.le_refl _));have HSU:=ze (Zi (f:=List.length) hin);clear hs;generalize n.nodes[i]=x at qa hl HSU;go_wp2_with fail;refine ⟨⟨i+1,by omega,by go_num,congrArg (Value.int .i64) (by show _=((zI List.length (n.nodes.take (i+1)):Nat):Int);have h:=HSU.out;omega),HK,HW⟩,by simp [intOf];omega⟩
    . obtain rfl:i=k0:=by omega
      have HT:Hid (zI List.length (n.nodes.take i)=zI List.length n.nodes):=ze (by rw [HK0.out,List.take_length])
      have hS:zI List.length n.nodes<=40*140737488355328:=by
       have h:=Z3 (B:=140737488355328) (f:=List.length) HA4.out i (by have:=HK0.out;omega);rw [HT.out] at h;exact Nat.le_trans h (Nat.mul_le_mul (by omega) (Nat.le_refl _))
      go_wp2_with fail;rw [HT.out];clear r0 r1 r2 r3 rL HT
      go_loopw [3,5] (zy6 k1 (fun i=>zI List.length n.nodes+zI xG (n.pipes.take i)) w #[.slice A0 i c0,.slice A1 k1 c1,.slice A2 k2 c2,.slice A3 k3 c3]) (fun _ iv _=>k1 - (intOf iv).toNat)
      case atStart=>exact ⟨0,Nat.zero_le _,rfl,rfl,HK,HW⟩
      case round=>
       clear HK HW;obtain ⟨j,hj,rfl,rfl,HK,HW⟩:=hrel;obtain ⟨r0,r1,r2,r3,rL⟩:=yG HK.out
       by_cases hlt2:j<k1
       . have hin:j<n.pipes.length:=by have:=HK1.out;omega
         have hj1:(j:Int)<(k1:Int):=by omega
         obtain ⟨ad,ea,hb,p0,p1,p2,p3,p4⟩:=zuq (HB.out.below HW.out) hin;subst ea;have hbw:=Nat.lt_of_lt_of_le hb HW.out.size;obtain ⟨l0,l3,l4⟩:=HB4.out _ (List.getElem_mem hin);unfold ZO at l0 l3 l4
         have hple:∀ x∈n.pipes,xG x<=3*140737488355328:=by
          intro x hx;obtain ⟨l0,l3,l4⟩:=HB4.out x hx;unfold ZO at l0 l3 l4;unfold xG;omega
         have hs:=Z3 (B:=3*140737488355328) (f:=xG) hple j (by omega);have hs2:zI xG (n.pipes.take j)<=60*(3*140737488355328):=Nat.le_trans hs (Nat.mul_le_mul (by omega) (Nat.le_refl _));have HSU:Hid (zI xG (n.pipes.take (j+1))=zI xG (n.pipes.take j)+(n.pipes[j].name.length+(n.pipes[j].low.length+n.pipes[j].high.length))):=ze (Zi (f:=xG) hin);clear hs hple p1 p2;generalize n.pipes[j].name=x0 at p0 l0 HSU;generalize n.pipes[j].low=x3 at p3 l3 HSU;generalize n.pipes[j].high=x4 at p4 l4 HSU;go_wp2_with fail
         go_quiet (fail)
         have hbB:=zw wr nq
         try clear r0 r1 r2 r3 rL
         replace HK:=kb_ HK hbB;replace HW:=eb_ HW hbB;clear hbB;generalize wr.drewN nq=WN at HK HW |-;clear nq;obtain ⟨r0,r1,r2,r3,rL⟩:=yG HK.out;go_wp2_with fail;refine ⟨⟨j+1,by omega,by go_num,congrArg (Value.int .i64) (by show _=((zI List.length n.nodes+zI xG (n.pipes.take (j+1)):Nat):Int);have h:=HSU.out;omega),HK,HW⟩,by simp [intOf];omega⟩
       . obtain rfl:j=k1:=by omega
         have HT:Hid (zI xG (n.pipes.take j)=zI xG n.pipes):=ze (by rw [HK1.out,List.take_length])
         have hS2:zI xG n.pipes<=60*(3*140737488355328):=by
          have hple:∀ x∈n.pipes,xG x<=3*140737488355328:=by
           intro x hx;obtain ⟨l0,l3,l4⟩:=HB4.out x hx;unfold ZO at l0 l3 l4;unfold xG;omega
          have h:=Z3 (B:=3*140737488355328) (f:=xG) hple j (by have:=HK1.out;omega);rw [HT.out] at h;exact Nat.le_trans h (Nat.mul_le_mul (by omega) (Nat.le_refl _))
         go_wp2_with fail;rw [HT.out];clear r0 r1 r2 r3 rL HT
         go_loopw [3,6] (zy6 k2 (fun t=>zI List.length n.nodes+zI xG n.pipes+zI zX (n.heads.take t)) w #[.slice A0 i c0,.slice A1 j c1,.slice A2 k2 c2,.slice A3 k3 c3]) (fun _ iv _=>k2 - (intOf iv).toNat)
         case atStart=>exact ⟨0,Nat.zero_le _,rfl,rfl,HK,HW⟩
         case round=>
          clear HK HW;obtain ⟨t,ht,rfl,rfl,HK,HW⟩:=hrel;obtain ⟨r0,r1,r2,r3,rL⟩:=yG HK.out
          by_cases hlt3:t<k2
          . have hin:t<n.heads.length:=by have:=HK2.out;omega
            have ht1:(t:Int)<(k2:Int):=by omega
            obtain ⟨ad,ea,hb,p0,p1⟩:=zec (HD.out.below HW.out) hin;subst ea;have hbw:=Nat.lt_of_lt_of_le hb HW.out.size;have l0:n.heads[t].value.length<=140737488355328:=HD4.out _ (List.getElem_mem hin);have hs:=Z3 (B:=140737488355328) (f:=zX) HD4.out t (by omega);have hs2:zI zX (n.heads.take t)<=30*140737488355328:=Nat.le_trans hs (Nat.mul_le_mul (by omega) (Nat.le_refl _));have HSU:Hid (zI zX (n.heads.take (t+1))=zI zX (n.heads.take t)+n.heads[t].value.length):=ze (Zi (f:=zX) hin);clear hs p0;generalize n.heads[t].value=x0 at p1 l0 HSU;go_wp2_with fail;refine ⟨⟨t+1,by omega,by go_num,congrArg (Value.int .i64) (by show _=((zI List.length n.nodes+zI xG n.pipes+zI zX (n.heads.take (t+1)):Nat):Int);have h:=HSU.out;omega),HK,HW⟩,by simp [intOf];omega⟩
          . obtain rfl:t=k2:=by omega
            have HT:Hid (zI zX (n.heads.take t)=zI zX n.heads):=ze (by rw [HK2.out,List.take_length])
            have hS3:zI zX n.heads<=30*140737488355328:=by
             have h:=Z3 (B:=140737488355328) (f:=zX) HD4.out t (by have:=HK2.out;omega);rw [HT.out] at h;exact Nat.le_trans h (Nat.mul_le_mul (by omega) (Nat.le_refl _))
            go_wp2_with fail;rw [HT.out];clear r0 r1 r2 r3 rL HT
            go_loopw [3,7] (zy6 k3 (fun u=>zI List.length n.nodes+zI xG n.pipes+zI zX n.heads+zI zX (n.wells.take u)) w #[.slice A0 i c0,.slice A1 j c1,.slice A2 t c2,.slice A3 k3 c3]) (fun _ iv _=>k3 - (intOf iv).toNat)
            case atStart=>exact ⟨0,Nat.zero_le _,rfl,rfl,HK,HW⟩
            case round=>
             clear HK HW;obtain ⟨u,hu,rfl,rfl,HK,HW⟩:=hrel;obtain ⟨r0,r1,r2,r3,rL⟩:=yG HK.out
             by_cases hlt4:u<k3
             . have hin:u<n.wells.length:=by have:=HK3.out;omega
               have hu1:(u:Int)<(k3:Int):=by omega
               obtain ⟨ad,ea,hb,p0,p1⟩:=zec (HE.out.below HW.out) hin;subst ea;have hbw:=Nat.lt_of_lt_of_le hb HW.out.size;have l0:n.wells[u].value.length<=140737488355328:=HE4.out _ (List.getElem_mem hin);have hs:=Z3 (B:=140737488355328) (f:=zX) HE4.out u (by omega);have hs2:zI zX (n.wells.take u)<=30*140737488355328:=Nat.le_trans hs (Nat.mul_le_mul (by omega) (Nat.le_refl _));have HSU:Hid (zI zX (n.wells.take (u+1))=zI zX (n.wells.take u)+n.wells[u].value.length):=ze (Zi (f:=zX) hin);clear hs p0;generalize n.wells[u].value=x0 at p1 l0 HSU;go_wp2_with fail;refine ⟨⟨u+1,by omega,by go_num,congrArg (Value.int .i64) (by show _=((zI List.length n.nodes+zI xG n.pipes+zI zX n.heads+zI zX (n.wells.take (u+1)):Nat):Int);have h:=HSU.out;omega),HK,HW⟩,by simp [intOf];omega⟩
             . obtain rfl:u=k3:=by omega
               have HT:Hid (zI zX (n.wells.take u)=zI zX n.wells):=ze (by rw [HK3.out,List.take_length]);go_wp2_with fail;go_ret;exact ⟨z0 (HF.out.trans (decide_eq_decide.2 (by have h:=HT.out;unfold zgh;omega))),HW.out⟩
end Go.Proofs.YtacfcmdlgebhgaaGreat
namespace Go.Proofs.YtacfcmdlgebhgaaGreat
open Go.RowKit Go.Deep
theorem Vl.below {w w' :World} {v:Value} {n:Net} (h:Vl w v n) (hb:Below w.heap.size w w'):Vl w' v n:=by
 obtain ⟨A0,c0,A1,c1,A2,c2,A3,c3,rfl,⟨a1,a2,a3,a4⟩,⟨b1,b2,b3,b4⟩,⟨d1,d2,d3,d4⟩,⟨e1,e2,e3,e4⟩⟩:=h
 exact ⟨A0,c0,A1,c1,A2,c2,A3,c3,rfl,⟨a1,a2,(a3.below hb).more hb.size,a4⟩,⟨b1,b2,(b3.below hb).more hb.size,b4⟩,⟨d1,d2,(d3.below hb).more hb.size,d4⟩,⟨e1,e2,(e3.below hb).more hb.size,e4⟩⟩
theorem Vl.small {w:World} {v:Value} {n:Net} (h:Vl w v n) (hg:VU n=false):Zw w v n:=by
 unfold VU at hg
 rw [decide_eq_false_iff_not] at hg
 obtain ⟨A0,c0,A1,c1,A2,c2,A3,c3,rfl,⟨a1,a2,a3,a4⟩,⟨b1,b2,b3,b4⟩,⟨d1,d2,d3,d4⟩,⟨e1,e2,e3,e4⟩⟩:=h
 have hl:zgh n<=1500:=by omega
 unfold zgh at hl
 refine ⟨A0,_,c0,A1,_,c1,A2,_,c2,A3,_,c3,rfl,⟨A0,c0,rfl,a1,a2,by omega,a3,fun x hx=>?_⟩,⟨A1,c1,rfl,b1,b2,by omega,b3,fun x hx=>?_⟩,⟨A2,c2,rfl,d1,d2,by omega,d3,fun x hx=>?_⟩,⟨A3,c3,rfl,e1,e2,by omega,e3,fun x hx=>?_⟩⟩
 . have:=X3 (f:=List.length) hx
   unfold zV;omega
 . have:x.name.length+(x.low.length+x.high.length)<=zI xG n.pipes:=X3 (f:=xG) hx
   unfold zV;omega
 . have:x.value.length<=zI zX n.heads:=X3 (f:=zX) hx
   unfold zV;omega
 . have:x.value.length<=zI zX n.wells:=X3 (f:=zX) hx
   unfold zV;omega
end Go.Proofs.YtacfcmdlgebhgaaGreat
namespace Go.Proofs.YtacfcmdlgebhgaaGreat
open Go.RowKit Go.Deep
attribute [local go_sem ↓] Go.wp_at_zero Go.wp_at_succ
structure Ask where
 cond:List (List UInt8)
 heads:List (List UInt8)
 flows:List (List UInt8)
 node:Int
 pipe:Int
 a:Int
 b:Int
 first:List UInt8
 second:List UInt8
 wells:List Int
 limits:List yU
def VS (w:World) (A:Option Addr) (c:Nat) (l:List (List UInt8)):Prop:=l.length<=c/\c<=maxLen/\zK w w.heap.size 1 A l.length (l.map str)/\∀ x∈l,ZO x
theorem VS.below {w w' :World} {A:Option Addr} {c:Nat} {l:List (List UInt8)} (h:VS w A c l) (hb:Below w.heap.size w w'):VS w' A c l:=⟨h.1,h.2.1,(h.2.2.1.below hb).more hb.size,h.2.2.2⟩
def zb5 (w:World) (v:Value) (x:Ask):Prop:=
 ∃ A0 c0 A1 c1 A2 c2 A3 c3 A4 c4,v= .agg #[.slice A0 x.cond.length c0,.slice A1 x.heads.length c1,.slice A2 x.flows.length c2,.int .i64 x.node,.int .i64 x.pipe,.int .i64 x.a,.int .i64 x.b,str x.first,str x.second,.slice A3 x.wells.length c3,.slice A4 x.limits.length c4]/\
  VS w A0 c0 x.cond/\VS w A1 c1 x.heads/\VS w A2 c2 x.flows/\(ZO x.first/\ZO x.second)/\
  (x.wells.length<=c3/\c3<=maxLen/\zK w w.heap.size 1 A3 x.wells.length (VD x.wells))/\
  (x.limits.length<=c4/\c4<=maxLen/\zK w w.heap.size 2 A4 x.limits.length (yF x.limits)/\∀ v∈x.limits,ZO v.value)
theorem zb5.below {w w' :World} {v:Value} {x:Ask} (h:zb5 w v x) (hb:Below w.heap.size w w'):zb5 w' v x:=by
 obtain ⟨A0,c0,A1,c1,A2,c2,A3,c3,A4,c4,rfl,h0,h1,h2,h3,⟨h4,h5,h6⟩,h7,h8,h9,h10⟩:=h
 exact ⟨A0,c0,A1,c1,A2,c2,A3,c3,A4,c4,rfl,h0.below hb,h1.below hb,h2.below hb,h3,⟨h4,h5,(h6.below hb).more hb.size⟩,h7,h8,(h9.below hb).more hb.size,h10⟩
def ZQ (l:List (List UInt8)):Bool:=decide (60<l.length\/1500<zI List.length (l.take 80))
theorem zc9 {l:List (List UInt8)} (h:ZQ l=false):l.length<=60/\∀ x∈l,x.length<=1500:=by
 unfold ZQ at h
 rw [decide_eq_false_iff_not] at h
 have h1:l.length<=60:=by omega
 refine ⟨h1,fun x hx=>?_⟩
 rw [List.take_of_length_le (by omega)] at h
 have:=X3 (f:=List.length) hx
 omega
theorem VS.small {w:World} {A:Option Addr} {c:Nat} {l:List (List UInt8)} (h:VS w A c l) (hl:ZQ l=false):yY w (.slice A l.length c) l:=by
 obtain ⟨h1,h2⟩:=zc9 hl
 exact ⟨A,c,rfl,h.1,h.2.1,by omega,h.2.2.1,fun x hx=>by have:=h2 x hx;unfold zV;omega⟩
theorem zid {w:World} {A:Option Addr} {l:List (List UInt8)} {B:Nat} (h:zK w B 1 A l.length (l.map str)) {i:Nat} (hi:i<l.length):∃ ad,A=some ad/\ad.block<B/\w.cell? (ad.add i)=some (str l[i]):=by
 obtain ⟨ad,e,hb,hc⟩:=h.2 (by omega)
 exact ⟨ad,e,hb,hc i _ (by simp [hi])⟩
theorem zhw (A:Option Addr) (c:Nat) (l:List (List UInt8)) (w:World) (hl:VS w A c l):Calls Tryz.prog 13 #[.slice A l.length c] w (vO w (.bool (ZQ l))):=by
 obtain ⟨h1,h2,h3,h4⟩:=hl
 have hmx:l.length<=maxLen:=by omega
 unfold maxLen at hmx
 have HR3:=ze h3
 have H4:=ze h4
 have HW:=ze (zP w)
 obtain ⟨r,HR⟩:∃ r,Hid (ZQ l=r):=⟨_,ze rfl⟩
 rw [HR.out]
 clear h1 h2 h3 h4
 go_enter Tryz.func13,Tryz.ntmps13
 go_wp2_with fail
 go_loop [3,4] (fun nv iv=>∃ i:Nat,i<=l.length/\i<=80/\iv= .int .i64 i/\nv= .int .i64 (zI List.length (l.take i):Nat)) (fun _ iv=>80 - (intOf iv).toNat)
 case atStart=>exact ⟨0,Nat.zero_le _,Nat.zero_le _,rfl,rfl⟩
 case round=>
  obtain ⟨i,hi,hi80,rfl,rfl⟩:=hrel
  have hs:=Z3 (B:=140737488355328) (f:=List.length) H4.out i hi
  have hs2:zI List.length (l.take i)<=80*140737488355328:=Nat.le_trans hs (Nat.mul_le_mul hi80 (Nat.le_refl _))
  clear hs
  by_cases hlt:i<l.length
  . have hi1:(i:Int)<(l.length:Int):=by omega
    by_cases h80:i<80
    rotate_left
    . have hi2:¬ (i:Int)<80:=by omega
      have hl60:(60:Int)<(l.length:Int):=by omega
      have HF:Hid (r=true):=ze (by rw [<- HR.out];unfold ZQ;rw [decide_eq_true_iff];omega);go_wp2_with fail;go_ret;exact ⟨z0 HF.out,HW.out⟩
    have hi2:(i:Int)<80:=by omega
    obtain ⟨ad,rfl,hb,hc⟩:=zid HR3.out hlt;have hx:l[i].length<=140737488355328:=H4.out _ (List.getElem_mem hlt);have HSU:=ze (Zi (f:=List.length) hlt);generalize l[i]=x at hc hx HSU;go_wp2_with fail;go_round
    case rel=>exact ⟨i+1,by omega,by omega,by go_num,congrArg (Value.int .i64) (by have h:=HSU.out;omega)⟩
    case measure=>simp [intOf];omega
  obtain rfl:i=l.length:=by omega
  have hi1:¬ (l.length:Int)<(l.length:Int):=by omega
  have HE:Hid (zI List.length (l.take l.length)=zI List.length (l.take 80)):=ze (by rw [List.take_length,List.take_of_length_le hi80]);rw [List.take_length] at HE
  by_cases h60:60<l.length
  . have hl60:(60:Int)<(l.length:Int):=by omega
    have HF:Hid (r=true):=ze (by rw [<- HR.out];unfold ZQ;rw [decide_eq_true_iff];omega);go_wp2_with fail;go_ret;exact ⟨z0 HF.out,HW.out⟩
  have hl60:¬ (60:Int)<(l.length:Int):=by omega
  have HF:Hid (r=decide (1500<((zI List.length l:Nat):Int))):=ze (by
   rw [<- HR.out,HE.out];unfold ZQ
   congr 1
   apply propext
   omega)
  go_wp2_with fail;go_ret;exact ⟨z0 HF.out,HW.out⟩
def zcd (l:List (List UInt8)):Bool:=decide (600<zI List.length l)
theorem zo4 (A:Option Addr) (c:Nat) (l:List (List UInt8)) (w:World) (hl:VS w A c l) (hs:l.length<=1000):Calls Tryz.prog 14 #[.slice A l.length c] w (vO w (.bool (zcd l))):=by
 obtain ⟨h1,h2,h3,h4⟩:=hl
 have HR3:=ze h3
 have H4:=ze h4
 have HW:=ze (zP w)
 obtain ⟨r,HR⟩:∃ r,Hid (zcd l=r):=⟨_,ze rfl⟩
 rw [HR.out]
 clear h1 h2 h3 h4
 go_enter Tryz.func14,Tryz.ntmps14
 go_wp2_with fail
 go_loop [3,4] (fun nv iv=>∃ i:Nat,i<=l.length/\iv= .int .i64 i/\nv= .int .i64 (zI List.length (l.take i):Nat)) (fun _ iv=>l.length - (intOf iv).toNat)
 case atStart=>exact ⟨0,Nat.zero_le _,rfl,rfl⟩
 case round=>
  obtain ⟨i,hi,rfl,rfl⟩:=hrel
  have hs2:=Z3 (B:=140737488355328) (f:=List.length) H4.out i hi
  have hs3:zI List.length (l.take i)<=1000*140737488355328:=Nat.le_trans hs2 (Nat.mul_le_mul (by omega) (Nat.le_refl _))
  clear hs2
  by_cases hlt:i<l.length
  . have hi1:(i:Int)<(l.length:Int):=by omega
    obtain ⟨ad,rfl,hb,hc⟩:=zid HR3.out hlt;have hx:l[i].length<=140737488355328:=H4.out _ (List.getElem_mem hlt);have HSU:=ze (Zi (f:=List.length) hlt);generalize l[i]=x at hc hx HSU;go_wp2_with fail;go_round
    case rel=>exact ⟨i+1,by omega,by go_num,congrArg (Value.int .i64) (by have h:=HSU.out;omega)⟩
    case measure=>simp [intOf];omega
  obtain rfl:i=l.length:=by omega
  have hi1:¬ (l.length:Int)<(l.length:Int):=by omega
  have HF:Hid (r=decide (600<((zI List.length l:Nat):Int))):=ze (by
   rw [<- HR.out];unfold zcd
   congr 1
   apply propext
   omega)
  go_wp2_with fail;go_ret;exact ⟨z0 HF.out,HW.out⟩
def zgl (x:Ask):Bool:=ZQ x.cond || ZQ x.heads || ZQ x.flows || zcd [x.first,x.second] || decide (40<x.wells.length) || decide (40<x.limits.length) || decide (1500<zI zX x.limits)
theorem zbl (w:World) (t:TypeId) (a b:Value):zK (w.alloc (.cells #[a,b] t)) (w.alloc (.cells #[a,b] t)).heap.size 1 (some ⟨w.heap.size,0,none⟩) 2 [a,b]:=
 Yl (size:=1) (n:=2) (Blk.new w t ([a,b]:List Value).toArray) rfl
def WidR (l:List yU) (w:World) (ab:Array Value) (nv iv:Value) (wr:World):Prop:=
 ∃ i:Nat,i<=l.length/\iv= .int .i64 i/\nv= .int .i64 (zI zX (l.take i):Nat)/\Hid (Blk wr w.heap.size 31 ab)/\Hid (Below w.heap.size w wr)
theorem zu3 (v:Value) (x:Ask) (w:World) (hx:zb5 w v x):Calls Tryz.prog 5 #[v] w (vO w (.bool (zgl x))):=by
 obtain ⟨A0,c0,A1,c1,A2,c2,A3,c3,A4,c4,rfl,h0,h1,h2,⟨h3,h3b⟩,⟨h4,h5,h6⟩,h7,h8,h9,h10⟩:=hx
 have H0:=ze (fun w' (hb:Below w.heap.size w w')=>zhw A0 c0 x.cond w' (h0.below hb))
 have H1:=ze (fun w' (hb:Below w.heap.size w w')=>zhw A1 c1 x.heads w' (h1.below hb))
 have H2:=ze (fun w' (hb:Below w.heap.size w w')=>zhw A2 c2 x.flows w' (h2.below hb))
 have H3:=ze (fun w' A (hr:zK w' w'.heap.size 1 A 2 [str x.first,str x.second])=>zo4 A 2 [x.first,x.second] w' ⟨Nat.le_refl _,by unfold maxLen;omega,hr,fun y hy=>by simp at hy;rcases hy with rfl | rfl;exact h3;exact h3b⟩ (by simp))
 have H9:=ze h9
 have H10:=ze h10
 obtain ⟨r,HR⟩:∃ r,Hid (zgl x=r):=⟨_,ze rfl⟩
 rw [HR.out]
 unfold zgl at HR
 obtain ⟨b0,e0⟩:∃ b,ZQ x.cond=b:=⟨_,rfl⟩
 obtain ⟨b1,e1⟩:∃ b,ZQ x.heads=b:=⟨_,rfl⟩
 obtain ⟨b2,e2⟩:∃ b,ZQ x.flows=b:=⟨_,rfl⟩
 obtain ⟨b3,e3⟩:∃ b,zcd [x.first,x.second]=b:=⟨_,rfl⟩
 rw [e0] at H0
 rw [e1] at H1
 rw [e2] at H2
 rw [e3] at H3
 rw [e0,e1,e2,e3] at HR
 have hm4:=h8
 unfold maxLen at hm4
 clear h0 h1 h2 h3 h3b h4 h5 h6 h8 h9 h10 e0 e1 e2 e3
 obtain ⟨n0,k0⟩:∃ n,n=x.cond.length:=⟨_,rfl⟩
 obtain ⟨n1,k1⟩:∃ n,n=x.heads.length:=⟨_,rfl⟩
 obtain ⟨n2,k2⟩:∃ n,n=x.flows.length:=⟨_,rfl⟩
 obtain ⟨n9,k9⟩:∃ n,n=x.wells.length:=⟨_,rfl⟩
 obtain ⟨n10,k10⟩:∃ n,n=x.limits.length:=⟨_,rfl⟩
 rw [<- k0, <- k1, <- k2, <- k9, <- k10]
 rw [<- k0] at H0
 rw [<- k1] at H1
 rw [<- k2] at H2
 rw [<- k10] at h7 H9
 rw [<- k9, <- k10] at HR
 have HK10:=ze k10
 clear k0 k1 k2 k9 k10
 generalize x.node=z3
 generalize x.pipe=z4
 generalize x.a=z5
 generalize x.b=z6
 generalize x.first=s7 at H3 |-
 generalize x.second=s8 at H3 |-
 generalize x.limits=lim at HR H9 H10 HK10
 have HW:=ze (zg w (.cells #[.slice A0 n0 c0,.slice A1 n1 c1,.slice A2 n2 c2,.int .i64 z3,.int .i64 z4,.int .i64 z5,.int .i64 z6,str s7,str s8,.slice A3 n9 c3,.slice A4 n10 c4] 31))
 have HK:=ze (Blk.new w 31 #[.slice A0 n0 c0,.slice A1 n1 c1,.slice A2 n2 c2,.int .i64 z3,.int .i64 z4,.int .i64 z5,.int .i64 z6,str s7,str s8,.slice A3 n9 c3,.slice A4 n10 c4])
 have hways:b0=true\/(b0=false/\b1=true)\/(b0=false/\b1=false/\b2=true)\/(b0=false/\b1=false/\b2=false/\b3=true)\/(b0=false/\b1=false/\b2=false/\b3=false/\40<n9)\/(b0=false/\b1=false/\b2=false/\b3=false/\¬ 40<n9/\40<n10)\/(b0=false/\b1=false/\b2=false/\b3=false/\¬ 40<n9/\¬ 40<n10):=by
  cases b0<;>cases b1<;>cases b2<;>cases b3<;>simp<;>omega
 rcases hways with rfl | ⟨rfl,rfl⟩ | ⟨rfl,rfl,rfl⟩ | h
 . have HF:Hid (r=true):=ze (by rw [<- HR.out];simp)
   clear HR;obtain ⟨r0,r1,r2,r3,r4,r5,r6,r7,r8,r9,r10,rL⟩:=ZL HK.out
   go_enter Tryz.func5,Tryz.ntmps5
   go_wp2_with fail;refine (H0.out _ HW.out).mono ?_;rintro e WN ⟨rfl,hbB⟩
   try clear r0 r1 r2 r3 r4 r5 r6 r7 r8 r9 r10 rL
   replace HK:=kb_ HK hbB;replace HW:=eb_ HW hbB;clear hbB;obtain ⟨r0,r1,r2,r3,r4,r5,r6,r7,r8,r9,r10,rL⟩:=ZL HK.out;go_wp2_with fail;go_ret;exact ⟨z0 HF.out,HW.out⟩
 . have HF:Hid (r=true):=ze (by rw [<- HR.out];simp)
   clear HR;obtain ⟨r0,r1,r2,r3,r4,r5,r6,r7,r8,r9,r10,rL⟩:=ZL HK.out
   go_enter Tryz.func5,Tryz.ntmps5
   go_wp2_with fail;refine (H0.out _ HW.out).mono ?_;rintro e WN ⟨rfl,hbB⟩
   try clear r0 r1 r2 r3 r4 r5 r6 r7 r8 r9 r10 rL
   replace HK:=kb_ HK hbB;replace HW:=eb_ HW hbB;clear hbB;obtain ⟨r0,r1,r2,r3,r4,r5,r6,r7,r8,r9,r10,rL⟩:=ZL HK.out;go_wp2_with fail;refine (H1.out _ HW.out).mono ?_;rintro e WN ⟨rfl,hbB⟩
   try clear r0 r1 r2 r3 r4 r5 r6 r7 r8 r9 r10 rL
   replace HK:=kb_ HK hbB;replace HW:=eb_ HW hbB;clear hbB;obtain ⟨r0,r1,r2,r3,r4,r5,r6,r7,r8,r9,r10,rL⟩:=ZL HK.out;go_wp2_with fail;go_ret;exact ⟨z0 HF.out,HW.out⟩
 . have HF:Hid (r=true):=ze (by rw [<- HR.out];simp)
   clear HR;obtain ⟨r0,r1,r2,r3,r4,r5,r6,r7,r8,r9,r10,rL⟩:=ZL HK.out
   go_enter Tryz.func5,Tryz.ntmps5
   go_wp2_with fail;refine (H0.out _ HW.out).mono ?_;rintro e WN ⟨rfl,hbB⟩
   try clear r0 r1 r2 r3 r4 r5 r6 r7 r8 r9 r10 rL
   replace HK:=kb_ HK hbB;replace HW:=eb_ HW hbB;clear hbB;obtain ⟨r0,r1,r2,r3,r4,r5,r6,r7,r8,r9,r10,rL⟩:=ZL HK.out;go_wp2_with fail;refine (H1.out _ HW.out).mono ?_;rintro e WN ⟨rfl,hbB⟩
   try clear r0 r1 r2 r3 r4 r5 r6 r7 r8 r9 r10 rL
   replace HK:=kb_ HK hbB;replace HW:=eb_ HW hbB;clear hbB;obtain ⟨r0,r1,r2,r3,r4,r5,r6,r7,r8,r9,r10,rL⟩:=ZL HK.out;go_wp2_with fail;refine (H2.out _ HW.out).mono ?_;rintro e WN ⟨rfl,hbB⟩
   try clear r0 r1 r2 r3 r4 r5 r6 r7 r8 r9 r10 rL
   replace HK:=kb_ HK hbB;replace HW:=eb_ HW hbB;clear hbB;obtain ⟨r0,r1,r2,r3,r4,r5,r6,r7,r8,r9,r10,rL⟩:=ZL HK.out;go_wp2_with fail;go_ret;exact ⟨z0 HF.out,HW.out⟩
 . obtain ⟨rfl,rfl,rfl⟩:b0=false/\b1=false/\b2=false:=by rcases h with h | h | h | h<;>exact ⟨h.1,h.2.1,h.2.2.1⟩
   simp only [true_and] at h;have HH:=ze h;clear h;obtain ⟨r0,r1,r2,r3,r4,r5,r6,r7,r8,r9,r10,rL⟩:=ZL HK.out
   go_enter Tryz.func5,Tryz.ntmps5
   go_wp2_with fail;refine (H0.out _ HW.out).mono ?_;rintro e WN ⟨rfl,hbB⟩
   try clear r0 r1 r2 r3 r4 r5 r6 r7 r8 r9 r10 rL
   replace HK:=kb_ HK hbB;replace HW:=eb_ HW hbB;clear hbB;obtain ⟨r0,r1,r2,r3,r4,r5,r6,r7,r8,r9,r10,rL⟩:=ZL HK.out;go_wp2_with fail;refine (H1.out _ HW.out).mono ?_;rintro e WN ⟨rfl,hbB⟩
   try clear r0 r1 r2 r3 r4 r5 r6 r7 r8 r9 r10 rL
   replace HK:=kb_ HK hbB;replace HW:=eb_ HW hbB;clear hbB;obtain ⟨r0,r1,r2,r3,r4,r5,r6,r7,r8,r9,r10,rL⟩:=ZL HK.out;go_wp2_with fail;refine (H2.out _ HW.out).mono ?_;rintro e WN ⟨rfl,hbB⟩
   try clear r0 r1 r2 r3 r4 r5 r6 r7 r8 r9 r10 rL
   replace HK:=kb_ HK hbB;replace HW:=eb_ HW hbB;clear hbB;obtain ⟨r0,r1,r2,r3,r4,r5,r6,r7,r8,r9,r10,rL⟩:=ZL HK.out;have h:=HH.out;clear HH H0 H1 H2
   rcases h with rfl | ⟨rfl,g9⟩ | ⟨rfl,g9,g10⟩ | ⟨rfl,g9,g10⟩
   . have HF:Hid (r=true):=ze (by rw [<- HR.out];simp)
     clear HR;go_wp2_with fail;have hx:=zg WN (.cells #[str s7,str s8] 28);replace HK:=kb_ HK hx;replace HW:=eb_ HW hx;refine (H3.out _ _ (zbl _ _ _ _)).mono ?_;rintro e WM ⟨rfl,hbB⟩;replace HK:=kb_ HK hbB;replace HW:=eb_ HW hbB;clear hx hbB;go_wp2_with fail;go_ret;exact ⟨z0 HF.out,HW.out⟩
   . have HF:Hid (r=true):=ze (by rw [<- HR.out];simp [g9])
     have g9i:(40:Int)<(n9:Int):=by omega
     clear HR;go_wp2_with fail;have hx:=zg WN (.cells #[str s7,str s8] 28);replace HK:=kb_ HK hx;replace HW:=eb_ HW hx;refine (H3.out _ _ (zbl _ _ _ _)).mono ?_;rintro e WM ⟨rfl,hbB⟩;clear r0 r1 r2 r3 r4 r5 r6 r7 r8 r9 r10 rL;replace HK:=kb_ HK hbB;replace HW:=eb_ HW hbB;obtain ⟨r0,r1,r2,r3,r4,r5,r6,r7,r8,r9,r10,rL⟩:=ZL HK.out;clear hx hbB;go_wp2_with fail;go_ret;exact ⟨z0 HF.out,HW.out⟩
   . have HF:Hid (r=true):=ze (by rw [<- HR.out];simp [g9,g10])
     have g9i:¬ (40:Int)<(n9:Int):=by omega
     have g10i:(40:Int)<(n10:Int):=by omega
     clear HR;go_wp2_with fail;have hx:=zg WN (.cells #[str s7,str s8] 28);replace HK:=kb_ HK hx;replace HW:=eb_ HW hx;refine (H3.out _ _ (zbl _ _ _ _)).mono ?_;rintro e WM ⟨rfl,hbB⟩;clear r0 r1 r2 r3 r4 r5 r6 r7 r8 r9 r10 rL;replace HK:=kb_ HK hbB;replace HW:=eb_ HW hbB;obtain ⟨r0,r1,r2,r3,r4,r5,r6,r7,r8,r9,r10,rL⟩:=ZL HK.out;clear hx hbB;go_wp2_with fail;go_ret;exact ⟨z0 HF.out,HW.out⟩
   . have HF:Hid (r=decide (1500<((zI zX lim:Nat):Int))):=ze (by
      rw [<- HR.out];simp only [g9,g10,decide_false,Bool.or_false,Bool.false_or]
      congr 1
      apply propext
      omega)
     have g9i:¬ (40:Int)<(n9:Int):=by omega
     have g10i:¬ (40:Int)<(n10:Int):=by omega
     clear HR;go_wp2_with fail;have hx:=zg WN (.cells #[str s7,str s8] 28);replace HK:=kb_ HK hx;replace HW:=eb_ HW hx;refine (H3.out _ _ (zbl _ _ _ _)).mono ?_;rintro e WM ⟨rfl,hbB⟩;clear r0 r1 r2 r3 r4 r5 r6 r7 r8 r9 r10 rL;replace HK:=kb_ HK hbB;replace HW:=eb_ HW hbB;obtain ⟨r0,r1,r2,r3,r4,r5,r6,r7,r8,r9,r10,rL⟩:=ZL HK.out;clear hx hbB;go_wp2_with fail;clear r0 r1 r2 r3 r4 r5 r6 r7 r8 r9 r10 rL;clear g9i
     go_loopw [3,4] (WidR lim w #[.slice A0 n0 c0,.slice A1 n1 c1,.slice A2 n2 c2,.int .i64 z3,.int .i64 z4,.int .i64 z5,.int .i64 z6,str s7,str s8,.slice A3 n9 c3,.slice A4 n10 c4]) (fun _ iv _=>n10 - (intOf iv).toNat)
     case atStart=>exact ⟨0,Nat.zero_le _,rfl,rfl,HK,HW⟩
     case round=>
      clear HK HW;obtain ⟨i,hi,rfl,rfl,HK,HW⟩:=hrel;obtain ⟨r0,r1,r2,r3,r4,r5,r6,r7,r8,r9,r10,rL⟩:=ZL HK.out;have hs:=Z3 (B:=140737488355328) (f:=zX) H10.out i hi;have hs2:zI zX (lim.take i)<=40*140737488355328:=Nat.le_trans hs (Nat.mul_le_mul (by have:=HK10.out;omega) (Nat.le_refl _));clear hs
      by_cases hlt:i<n10
      rotate_left
      . obtain rfl:i=n10:=by have:=HK10.out;omega
        have HE:Hid (zI zX (lim.take i)=zI zX lim):=ze (by rw [HK10.out,List.take_length]);go_wp2_with fail;go_ret;exact ⟨z0 (by rw [HE.out];exact HF.out),HW.out⟩
      have hin:i<lim.length:=by have:=HK10.out;omega
      have hi1:(i:Int)<(n10:Int):=by omega
      obtain ⟨ad,ea,hb,q0,q1⟩:=zec (H9.out.below HW.out) hin;subst ea;have hx:lim[i].value.length<=140737488355328:=H10.out _ (List.getElem_mem hin);have HSU:Hid (zI zX (lim.take (i+1))=zI zX (lim.take i)+lim[i].value.length):=ze (Zi (f:=zX) hin);clear q0;generalize lim[i].value=y at q1 hx HSU;go_wp2_with fail;refine ⟨⟨i+1,by have:=HK10.out;omega,by go_num,congrArg (Value.int .i64) (by have h:=HSU.out;omega),HK,HW⟩,by simp [intOf];omega⟩
theorem Vw {w:World} {A:Option Addr} {m c:Nat} {l:List (List UInt8)} (h:yY w (.slice A m c) l) {i:Nat} (hi:i<l.length):∃ ad,A=some ad/\ad.block<w.heap.size/\w.cell? (ad.add i)=some (str l[i]):=by
 obtain ⟨A',c',e,_,_,_,hr,_⟩:=h
 injection e with e1 e2 e3
 subst e1
 exact zid hr hi
theorem zyl {w:World} {A:Option Addr} {N B:Nat} {f:Nat->Value} (h:zK w B 1 A N (row N f)) {i:Nat} (hi:i<N):∃ ad,A=some ad/\ad.block<B/\∀ j,j<N->w.cell? (ad.add j)=some (f j):=by
 obtain ⟨ad,e,hb,hc⟩:=h.2 (by omega)
 exact ⟨ad,e,hb,fun j hj=>hc j _ (by simp [row,hj])⟩
theorem zi1 (gs:List (List UInt8)):XU gs.length (fun k=> !(zp (gs.getD k [])).isSome)=decide (∃ g∈gs,(zp g).isSome=false):=by
 rw [Bool.eq_iff_iff,Z7,decide_eq_true_iff]
 constructor
 rotate_left
 . rintro ⟨g,hg,h⟩
   obtain ⟨k,hk,rfl⟩:=List.mem_iff_getElem.1 hg;exact ⟨k,hk,by simpa [List.getD,List.getElem?_eq_getElem hk] using h⟩
 rintro ⟨k,hk,h⟩
 refine ⟨gs[k],List.getElem_mem hk,?_⟩
 simpa [List.getD,List.getElem?_eq_getElem hk] using h
end Go.Proofs.YtacfcmdlgebhgaaGreat
namespace Go.Proofs.YtacfcmdlgebhgaaGreat
open Go.RowKit Go.Deep
def zxq (w:World) (A:Option Addr) (N:Nat) (f:Nat->Value):Prop:=zK w w.heap.size 1 A N (row N f)
theorem zxq.below {w w' :World} {A:Option Addr} {N:Nat} {f:Nat->Value} (h:zxq w A N f) (hb:Below w.heap.size w w'):zxq w' A N f:=(zK.below h hb).more hb.size
theorem zxq.at_ {w:World} {A:Option Addr} {N:Nat} {f:Nat->Value} (h:zxq w A N f) {i:Nat} (hi:i<N):∃ ad,A=some ad/\ad.block<w.heap.size/\∀ j,j<N->w.cell? (ad.add j)=some (f j):=zyl h hi
theorem zs1 {n:Net} (hg:VU n=false) (h:n.err=0):n.nodes.length<=6/\n.pipes.length<=9:=by
 unfold VU at hg
 rw [decide_eq_false_iff_not] at hg
 obtain ⟨h5,_⟩:=Net.err_zero h
 have h1:=h5.1.1.1.1
 have h3:=h5.1.1.2.1
 unfold Net.P1 at h1
 omega
theorem zvv {x:Ask} (h:zgl x=false):ZQ x.cond=false/\ZQ x.heads=false/\ZQ x.flows=false/\zcd [x.first,x.second]=false:=by
 unfold zgl at h
 simp only [Bool.or_eq_false_iff] at h
 exact ⟨h.1.1.1.1.1.1,h.1.1.1.1.1.2,h.1.1.1.1.2,h.1.1.1.2⟩
end Go.Proofs.YtacfcmdlgebhgaaGreat
namespace Go.Proofs.YtacfcmdlgebhgaaGreat
def zzd:Nat:=60000
theorem zwu:zzd=60000:=rfl
def zx7:Nat:=937
theorem zr8:zx7=937:=rfl
theorem zbx {e M:Nat} {q:Rat} (h:Dz e q) (he:e<9*M):Vz M q:=by
 have h1:10 ^ e<1000000000 ^ M:=by
  rw [show 1000000000=10 ^ 9 from rfl, <- Nat.pow_mul]
  exact Nat.pow_lt_pow_right (by omega) he
 exact ⟨yo (by omega) (Nat.lt_of_le_of_lt h.1 h1),yo (by omega) (Nat.lt_of_le_of_lt h.2 h1)⟩
section
variable {m E k:Nat} {A0 A:Tab}
theorem Vc.nl (h:Vc m A0 E k A) (hk:k<=m) (hE:E*2 ^ m<=60000) {i c:Nat} (hi:i<m) (hc:c<=m):Vz 8388608 (A i c):=
 zbx (h.1.2.2.1.sz hi hc) (by have:=zgw hk hE;omega)
theorem Vc.qnl (h:Vc m A0 E k A) (hk:k<m) (hE:E*2 ^ m<=60000) {i c:Nat} (hi:i<m) (hc:c<=m) (h0:A k k≠0):Vz 8388608 (A i c / A k k):=by
 have h1:=h.1.2.2.1.quot hi hk hc h0
 rw [zhp] at h1
 exact zbx h1 (by have:=zgw (show k+1<=m by omega) hE;omega)
theorem Vc.pnl (h:Vc m A0 E k A) (hk:k<m) (hE:E*2 ^ m<=60000) {i c:Nat} (hi:i<m) (hc:c<=m) (h0:A k k≠0):Vz 8388608 (A i k / A k k*A k c):=by
 have h1:=h.1.2.2.1.prod hi hk hc h0
 rw [zhp] at h1
 exact zbx h1 (by have:=zgw (show k+1<=m by omega) hE;omega)
theorem Vc.adz (h:Vc m A0 E m A) (hE:E*2 ^ m<=60000) {i:Nat} (hi:i<m):Dz zzd (A i m / A i i):=by
 obtain ⟨t,h1,h2,h3⟩:=h.1.2.2.1.diag hi (h.1.2.1 i hi).1
 exact (h3.sz h1 (Nat.le_refl _) h2).mono (Nat.pow_le_pow_right (by omega) (by rw [zwu];exact hE))
end
section
variable {N np:Nat} {pf pt:Nat->Nat} {c:Nat->Rat} {fx:Nat->Option Rat} {wl:Nat->Rat} {asked:Nat->Bool}
def zr2 (pf pt:Nat->Nat) (c:Nat->Rat) (fx:Nat->Option Rat) (wl:Nat->Rat) (asked:Nat->Bool) (N np:Nat):Tab:=fun i j=>if i<N/\j<=N then VO pf pt c fx wl asked N np i j else 0
theorem zew {i j:Nat} (hi:i<N) (hj:j<=N):zr2 pf pt c fx wl asked N np i j=VO pf pt c fx wl asked N np i j:=by unfold zr2;rw [if_pos ⟨hi,hj⟩]
theorem znq {i:Nat} (hi:i<N) (x:Nat->Rat):yi N (fun j=>zr2 pf pt c fx wl asked N np i j*x j)=yi N (fun j=>VO pf pt c fx wl asked N np i j*x j):=
 zJ fun j hj=>by rw [zew hi (Nat.le_of_lt hj)]
theorem zmr {x:Nat->Rat} (h:vG N (zr2 pf pt c fx wl asked N np) x):vG N (VO pf pt c fx wl asked N np) x:=by
 intro i hi
 have:=h i hi
 rw [znq hi,zew hi (Nat.le_refl _)] at this
 exact this
theorem zq8 (h:xP N np pf pt c fx wl asked):zip N (zr2 pf pt c fx wl asked N np):=by
 intro x hx
 exact zu6 pf pt c fx wl asked h.piped h.tied x fun i hi=>by rw [<- znq hi];exact hx i hi
theorem zi5 (h:xP N np pf pt c fx wl asked) {i j:Nat} (hi:i<N):Dz 117 (VO pf pt c fx wl asked N np i j):=by
 unfold VO
 have hp:=h.hp
 split
 . split
   . exact Dz.more (Sz.neg (h.wd i hi)) (by omega)
   exact (zhv pf pt c h.piped h.cd i np (Nat.le_refl _) j).more (by omega)
 split
 . exact (h.fd i hi).more (by omega)
 split
 . exact Dz.one _
 exact Dz.zero _
theorem xP.relim (h:xP N np pf pt c fx wl asked):Vc N (zr2 pf pt c fx wl asked N np) zx7 0 (zr2 pf pt c fx wl asked N np):=by
 refine ⟨zah.start (zq8 h) ?_,fun i j hj=>by unfold zr2;rw [if_neg (by omega)]⟩
 have h1:=h.hN
 obtain ⟨X,h2,h3⟩:=zvq (m:=N) (e:=117) (f:=117) (A:=zr2 pf pt c fx wl asked N np) (fun i hi j hj=>by rw [zew hi (Nat.le_of_lt hj)];exact zi5 h hi) (fun i hi=>by rw [zew hi (Nat.le_refl _)];exact zi5 h hi) (Nat.le_refl _)
 refine ⟨X,Nat.le_trans h2 (Nat.pow_le_pow_right (by omega) ?_),h3⟩
 simp only [Nat.pow_zero,Nat.mul_one]
 rw [zr8]
 omega
theorem xP.rfits (h:xP N np pf pt c fx wl asked):zx7*2 ^ N<=60000:=by
 have h2:2 ^ N<=2 ^ 6:=Nat.pow_le_pow_right (by omega) h.hN
 rw [zr8]
 omega
theorem xP.rdone (h:xP N np pf pt c fx wl asked) {A:Tab} (hA:Vc N (zr2 pf pt c fx wl asked N np) zx7 N A):Yp N np pf pt c fx wl asked (fun k=>A k N / A k k):=
 zsc pf pt c fx wl asked h.piped (zmr hA.1.done)
def YS (pf pt:Nat->Nat) (c:Nat->Rat) (i n:Nat):Nat->Rat:=fun j=>if j=i then yn pf pt c i n i+c n else yn pf pt c i n j
theorem zom {i n:Nat} (hn:n<np) (hp:YN N np pf pt c) (h:pf n=i) (j:Nat):yn pf pt c i (n+1) j=if j=pt n then YS pf pt c i n (pt n) - c n else YS pf pt c i n j:=by
 have hne:=hp.ne n hn
 have e:YS pf pt c i n (pt n)=yn pf pt c i n (pt n):=by unfold YS;rw [if_neg (by omega)]
 rw [e]
 show (if pf n=i then (if j=pt n then yn pf pt c i n (pt n) - c n else if j=i then yn pf pt c i n i+c n else yn pf pt c i n j)
  else if pt n=i then (if j=pf n then yn pf pt c i n (pf n) - c n else if j=i then yn pf pt c i n i+c n else yn pf pt c i n j) else yn pf pt c i n j)=_
 rw [if_pos h]
 rfl
theorem zt5 {i n:Nat} (hn:n<np) (hp:YN N np pf pt c) (h0:pf n≠i) (h:pt n=i) (j:Nat):yn pf pt c i (n+1) j=if j=pf n then YS pf pt c i n (pf n) - c n else YS pf pt c i n j:=by
 have hne:=hp.ne n hn
 have e:YS pf pt c i n (pf n)=yn pf pt c i n (pf n):=by unfold YS;rw [if_neg (by omega)]
 rw [e]
 show (if pf n=i then (if j=pt n then yn pf pt c i n (pt n) - c n else if j=i then yn pf pt c i n i+c n else yn pf pt c i n j)
  else if pt n=i then (if j=pf n then yn pf pt c i n (pf n) - c n else if j=i then yn pf pt c i n i+c n else yn pf pt c i n j) else yn pf pt c i n j)=_
 rw [if_neg h0,if_pos h]
 rfl
theorem zs4 {i n:Nat} (h0:pf n≠i) (h:pt n≠i):yn pf pt c i (n+1)=yn pf pt c i n:=by
 funext j
 show (if pf n=i then (if j=pt n then yn pf pt c i n (pt n) - c n else if j=i then yn pf pt c i n i+c n else yn pf pt c i n j)
  else if pt n=i then (if j=pf n then yn pf pt c i n (pf n) - c n else if j=i then yn pf pt c i n i+c n else yn pf pt c i n j) else yn pf pt c i n j)=_
 rw [if_neg h0,if_neg h]
theorem xP.row_nl (h:xP N np pf pt c fx wl asked) {i n:Nat} (hn:n<=np) (j:Nat):Vz 8388608 (yn pf pt c i n j):=
 zbx (zhv pf pt c h.piped h.cd i n hn j) (by have:=h.hp;omega)
theorem xP.mid_nl (h:xP N np pf pt c fx wl asked) {i n:Nat} (hn:n<np) (j:Nat):Vz 8388608 (YS pf pt c i n j):=by
 unfold YS
 split
 . exact zbx (Dz.add (g:=130) (zhv pf pt c h.piped h.cd i n (Nat.le_of_lt hn) _) (h.cd n hn) (by have:=h.hp;omega)) (by omega)
 exact h.row_nl (Nat.le_of_lt hn) _
theorem xP.c_nl (h:xP N np pf pt c fx wl asked) {n:Nat} (hn:n<np):Vz 8388608 (c n):=zbx (h.cd n hn) (by omega)
end
end Go.Proofs.YtacfcmdlgebhgaaGreat
namespace Go.Proofs.YtacfcmdlgebhgaaGreat
open Go.RowKit Go.Deep
attribute [local go_sem ↓] Go.wp_at_zero Go.wp_at_succ
theorem zbn (w:World) (t:TypeId) (a:Value):zK (w.alloc (.cells #[a] t)) (w.alloc (.cells #[a] t)).heap.size 1 (some ⟨w.heap.size,0,none⟩) 1 [a]:=
 Yl (size:=1) (n:=1) (Blk.new w t ([a]:List Value).toArray) rfl
open Classical in
noncomputable def xY (n:Net) (a b:Int):Int:=
 if a<0\/(n.nodes.length:Int)<=a\/b<0\/(n.nodes.length:Int)<=b then 7 else if a=b then 1 else if xg n.pipes.length n.pf n.pt (fun k=>(k:Int)∈[a]) b.toNat then 0 else 9
theorem zga (vn:Value) (n:Net) (a b:Int) (w:World) (hn:Zw w vn n) (h0:n.err=0):Calls Tryz.prog 19 #[vn,.int .i64 a,.int .i64 b] w (vO w (.int .i64 (xY n a b))):=by
 have hj:=fun w' (h:Below w.heap.size w w') A (hr:zK w' w'.heap.size 1 A 1 [.int .i64 a]) (ha:0<=a/\a<n.nodes.length)=>Vt vn (.slice A 1 1) n [a] w' (hn.below h) ⟨A,1,rfl,by simp,by unfold maxLen;omega,by simp,hr⟩ (Net.err_zero h0).1.1.1.ends (by omega) (fun z hz=>by simp at hz;subst hz;exact ha)
 have HJ:=ze hj
 obtain ⟨r,HR⟩:∃ r,Hid (xY n a b=r):=⟨_,ze rfl⟩
 rw [HR.out]
 unfold xY at HR
 obtain ⟨A0,k0,c0,A1,k1,c1,A2,k2,c2,A3,k3,c3,rfl,hn0,hn1,hn2,hn3⟩:=hn
 have hk0:k0=n.nodes.length:=by obtain ⟨A',c',e,_⟩:=hn0;injection e
 have hk1000:k0<=1000:=by obtain ⟨A',c',e,_,_,h6,_⟩:=hn0;omega
 rw [<- hk0] at HJ HR
 have HK0:=ze hk0
 clear hn0 hn1 hn2 hn3 hk0 hj h0
 have HW:=ze (zg w (.cells #[.slice A0 k0 c0,.slice A1 k1 c1,.slice A2 k2 c2,.slice A3 k3 c3] 26))
 have HK:=ze (Blk.new w 26 #[.slice A0 k0 c0,.slice A1 k1 c1,.slice A2 k2 c2,.slice A3 k3 c3])
 obtain ⟨r0,r1,r2,r3,rL⟩:=yG HK.out
 by_cases g:a<0\/(k0:Int)<=a\/b<0\/(k0:Int)<=b
 . have HF:Hid (r=7):=ze (by have:=HR.out;rw [if_pos g] at this;exact this.symm)
   clear HR HJ
   by_cases g1:a<0
   . clear g
     go_enter Tryz.func19,Tryz.ntmps19
     go_wp2_with fail;go_ret;exact ⟨zr HF.out,HW.out⟩
   by_cases g2:(k0:Int)<=a
   . clear g
     go_enter Tryz.func19,Tryz.ntmps19
     go_wp2_with fail;go_ret;exact ⟨zr HF.out,HW.out⟩
   by_cases g3:b<0
   . clear g
     go_enter Tryz.func19,Tryz.ntmps19
     go_wp2_with fail;go_ret;exact ⟨zr HF.out,HW.out⟩
   have g4:(k0:Int)<=b:=by omega
   clear g
   go_enter Tryz.func19,Tryz.ntmps19
   go_wp2_with fail;go_ret;exact ⟨zr HF.out,HW.out⟩
 have g1:¬ a<0:=by omega
 have g2:¬ (k0:Int)<=a:=by omega
 have g3:¬ b<0:=by omega
 have g4:¬ (k0:Int)<=b:=by omega
 have HR2:=HR.out;rw [if_neg g] at HR2;clear g HR
 by_cases hab:a=b
 . have HF:Hid (r=1):=ze (by rw [if_pos hab] at HR2;exact HR2.symm)
   have hI:(a == b)=true:=by rw [beq_iff_eq];exact hab
   clear hab HR2 HJ
   go_enter Tryz.func19,Tryz.ntmps19
   go_wp2_with fail;go_ret;exact ⟨zr HF.out,HW.out⟩
 have hI:(a == b)=false:=by rw [beq_eq_false_iff_ne];exact hab
 rw [if_neg hab] at HR2;have HR3:=ze HR2;have hb0:0<=b:=by omega
 have hbk:b<(k0:Int):=by omega
 clear hab HR2
 go_enter Tryz.func19,Tryz.ntmps19
 go_wp2_with fail;have hx:=zg (w.alloc (.cells #[.slice A0 k0 c0,.slice A1 k1 c1,.slice A2 k2 c2,.slice A3 k3 c3] 26)) (.cells #[.int .i64 a] 3);have hrd:=zbn (w.alloc (.cells #[.slice A0 k0 c0,.slice A1 k1 c1,.slice A2 k2 c2,.slice A3 k3 c3] 26)) 3 (.int .i64 a);have e1:(w.alloc (.cells #[.slice A0 k0 c0,.slice A1 k1 c1,.slice A2 k2 c2,.slice A3 k3 c3] 26)).heap.size=w.heap.size+1:=World.size_alloc _ _;rw [e1] at hrd;clear e1;replace HK:=kb_ HK hx;replace HW:=eb_ HW hx;refine (HJ.out _ HW.out _ hrd ⟨by omega,by omega⟩).mono ?_;rintro e WN ⟨v,l,rfl,⟨Al,cl,rfl,hl1,hl2,hlr⟩,hm,hbB⟩;have hlen:l.length=k0:=by rw [hm.len,HK0.out]
 have hbn:b.toNat<l.length:=by omega
 obtain ⟨ad,ea,lb,hc⟩:=hlr.2 (by omega);have hcb:=hc b.toNat (.bool l[b.toNat]) (by simp [xU,hbn]);subst ea;have hbi:((b.toNat:Nat):Int)=b:=by omega
 have hbl:b<(l.length:Int):=by omega
 have hbl' :((b.toNat:Nat):Int)<(l.length:Int):=by omega
 have hiff:=hm.iff b.toNat;rw [List.getElem?_eq_getElem hbn] at hiff;generalize l[b.toNat]=x at hcb hiff;clear r0 r1 r2 r3 rL hx hrd;replace HK:=kb_ HK hbB;replace HW:=eb_ HW hbB;clear hbB hm hlr hc HJ
 cases x with
 | true=>
   have HF:Hid (r=0):=ze (by have:=HR3.out;rw [if_pos (hiff.1 rfl)] at this;exact this.symm);clear HR3 hiff;go_wp2_with fail;go_ret;exact ⟨zr HF.out,HW.out⟩
 | false=>
   have HF:Hid (r=9):=ze (by have:=HR3.out;rw [if_neg (fun h=>by have:=hiff.2 h;cases this)] at this;exact this.symm);clear HR3 hiff;go_wp2_with fail;go_ret;exact ⟨zr HF.out,HW.out⟩
end Go.Proofs.YtacfcmdlgebhgaaGreat
