/- The walks of package strings at a separator of one byte: Cut, CutPrefix. · The walks of the texts of numbers (1): digits, plain ones. · Names: which texts are names. · Plain: terms and rows, their errors and their unknowns; no program in sight. -/
import Derived.Lib.Bytealg
import Derived.Lib.Index
import Derived.Test.YtnmkalocbfdecaaGreatDoorMg11
set_option linter.unusedVariables false
set_option linter.unusedSimpArgs false
namespace Go.Proofs.YtnmkalocbfdecaaGreatDoor
open Go.RowKit Go.Deep
abbrev str (l:List UInt8):Value:=.string ⟨l.toArray⟩
theorem str_bts (s:ByteArray):str (bts s)= .string s:=by unfold bts;rfl
theorem bts_mk (l:List UInt8):bts ⟨l.toArray⟩=l:=by unfold bts;simp
theorem indexByte_has {l:List UInt8} {c:UInt8} (h:has c l=true):Lib.indexByte l c=((ahead c l).length:Int):=by
 induction l with
 | nil=>simp [has] at h
 | cons b l ih=>
   unfold Lib.indexByte ahead
   by_cases hb:b=c
   · subst hb;simp
   · have h' :has c l=true:=by
      unfold has at h ⊢
      simp only [List.contains_cons,Bool.or_eq_true,beq_iff_eq] at h
      rcases h with h | h
      · exact absurd h.symm hb
      · exact h
     have:=ih h'
     have e1:(b == c)=false:=by simpa using hb
     have e2:(b != c)=true:=by simpa using hb
     rw [e1,List.takeWhile_cons_of_pos (by simpa using hb),this]
     unfold ahead
     have e3:(((List.takeWhile (fun x=>x != c) l).length:Int) == -1)=false:=by rw [beq_eq_false_iff_ne];omega
     rw [e3]
     simp
theorem indexByte_no {l:List UInt8} {c:UInt8} (h:has c l=false):Lib.indexByte l c= -1:=by
 induction l with
 | nil=>rfl
 | cons b l ih=>
   unfold has at h
   simp only [List.contains_cons,Bool.or_eq_false_iff,beq_eq_false_iff_ne] at h
   unfold Lib.indexByte
   have e1:(b == c)=false:=by rw [beq_eq_false_iff_ne];exact fun e=>h.1 e.symm
   rw [e1,ih h.2];rfl
set_option maxRecDepth 100000 in
theorem index_byte (s:ByteArray) (c:Int) (w:World):
 Calls Tryz.prog 185 #[.string s,.int .u8 c] w (Ret1 w (.int .i64 (Lib.indexByte s.data.toList c.toNat.toUInt8))):=by
 go_enter Tryz.func185,Tryz.ntmps185
 go_wp2
 rw [run_callFunc_extern Tryz.func201 (by kernel_rfl) (by kernel_rfl) (by kernel_rfl) (e:=Extern.BytealgIndexByte.indexByte) (by kernel_rfl),Lib.run_indexByteString]
 simp only [Result.andThen]
 rw [Oper.upon_value]
 go_wp2
 go_ret
 exact ⟨rfl,rfl⟩
set_option maxRecDepth 100000 in
theorem index_one (s:ByteArray) (c:UInt8) (w:World):
 Calls Tryz.prog 151 #[.string s,.string ⟨#[c]⟩] w (Ret1 w (.int .i64 (Lib.indexByte s.data.toList c))):=by
 have h:=fun w=>index_byte s (c.toNat:Int) w
 have e:((c.toNat:Int)).toNat.toUInt8=c:=by simp
 simp only [e] at h
 cases hb:([c] == s.toList) with
 | true=>
   have e2:s.data.toList=[c]:=by
    have:=beq_iff_eq.1 hb
    rw [← Lib.toList_data]
    exact this.symm
   have e3:Lib.indexByte s.data.toList c=0:=by rw [e2];simp [Lib.indexByte]
   rw [e3]
   clear e2 e3 h
   go_enter Tryz.func151,Tryz.ntmps151
   go_wp2
   go_ret
   exact ⟨rfl,rfl⟩
 | false=>
   go_enter Tryz.func151,Tryz.ntmps151
   go_wp2_with fail
   refine (h _).mono ?_
   rintro e w' ⟨rfl,rfl⟩
   go_wp2
   go_ret
   exact ⟨rfl,rfl⟩
def RetCut (w:World) (s:ByteArray) (c:UInt8) (e:Ending) (w' :World):Prop:=
 ∃ a b,e= .returned (.tuple #[.string a,.string b,.bool (has c (bts s))]) ∧ bts a=ahead c (bts s) ∧ bts b=(if has c (bts s)=true then behind c (bts s) else []) ∧ ∃ n,w' =w.drewN n
theorem cut_bytes {s:ByteArray} {c:UInt8} (h:has c (bts s)=true):(ahead c (bts s)).length<s.size ∧ bts (s.extract 0 (ahead c (bts s)).length)=ahead c (bts s) ∧ bts (s.extract ((ahead c (bts s)).length+1) s.size)=behind c (bts s):=by
 have e:=cut_eq h
 have hl:(bts s).length=(ahead c (bts s)).length+1+(behind c (bts s)).length:=by
  conv=>lhs;rw [e]
  rw [List.length_append,List.length_cons];omega
 rw [bts_length] at hl
 refine ⟨by omega,?_,?_⟩
 · rw [bts_extract,List.drop_zero]
   generalize ahead c (bts s)=A at e
   rw [e,List.take_append_of_le_length (Nat.le_refl _),List.take_length]
 · rw [bts_extract,List.take_of_length_le (by rw [bts_length];exact Nat.le_refl _)]
   generalize ahead c (bts s)=A at e
   generalize behind c (bts s)=B at e
   rw [e,List.drop_append]
   simp
set_option maxRecDepth 100000 in
theorem slite_cut (s:ByteArray) (c:UInt8) (w:World) (hs:s.size ≤ 1073741824):
 Calls Tryz.prog 112 #[.string s,.string ⟨#[c]⟩] w (RetCut w s c):=by
 have hx:=fun w=>index_one s c w
 by_cases hh:has c (bts s)=true
 · obtain ⟨h1,h2,h3⟩:=cut_bytes hh
   have hi:Lib.indexByte s.data.toList c=((ahead c (bts s)).length:Int):=indexByte_has hh
   rw [hi] at hx
   have HP:Hid (∀ n:Nat,RetCut w s c (.returned (.tuple #[.string (s.extract 0 (ahead c (bts s)).length),.string (s.extract ((ahead c (bts s)).length+1) s.size),.bool true])) (w.drewN n)):=by
    intro n
    exact ⟨_,_,by rw [hh],h2,by rw [if_pos hh];exact h3,n,rfl⟩
   clear hi h2 h3 hh
   generalize (ahead c (bts s)).length=k at h1 hx HP
   go_enter Tryz.func112,Tryz.ntmps112
   go_wp2_with fail
   refine (hx _).mono ?_
   rintro e w' ⟨rfl,rfl⟩
   go_wp2_with fail
   go_quiet (fail)
   go_wp2
   go_ret3
   exact HP.out _
 · have hh' :has c (bts s)=false:=by simpa using hh
   have hi:Lib.indexByte s.data.toList c= -1:=indexByte_no hh'
   rw [hi] at hx
   have HP:Hid (RetCut w s c (.returned (.tuple #[.string s,.string ⟨#[]⟩,.bool false])) w):=
    ⟨_,_,by rw [hh'],(ahead_none hh').symm,by rw [if_neg hh];rfl,0,rfl⟩
   clear hi hh hh'
   go_enter Tryz.func112,Tryz.ntmps112
   go_wp2_with fail
   refine (hx _).mono ?_
   rintro e w' ⟨rfl,rfl⟩
   go_wp2
   go_ret3
   exact HP.out
theorem str_cut (s:ByteArray) (c:UInt8) (w:World) (hs:s.size ≤ 1073741824):
 Calls Tryz.prog 65 #[.string s,.string ⟨#[c]⟩] w (RetCut w s c):=by
 have h:=fun w=>slite_cut s c w hs
 go_enter Tryz.func65,Tryz.ntmps65
 go_wp2_with fail
 refine (h _).mono ?_
 rintro e w' ⟨a,b,rfl,ha,hb,n,rfl⟩
 have HA:=hide ha
 have HB:=hide hb
 clear ha hb
 go_wp2
 go_ret3
 exact ⟨a,b,rfl,HA.out,HB.out,n,rfl⟩
theorem has_prefix (s:ByteArray) (c:UInt8) (w:World) (hs:s.size ≤ 1073741824):
 Calls Tryz.prog 148 #[.string s,.string ⟨#[c]⟩] w (Ret1 w (.bool ((bts s).head? == some c))):=by
 by_cases h0:1 ≤ s.size
 · have hI:decide (1 ≤ (s.size:Int))=true:=decide_eq_true (by omega)
   have e:((s.extract 0 1).toList == [c])=((bts s).head? == some c):=by
    rw [Lib.toList_data]
    have e1:(s.extract 0 1).data.toList=(bts s).take 1:=by
     have:=bts_extract s 0 1
     rw [List.drop_zero] at this
     exact this
    rw [e1]
    cases hl:bts s with
    | nil=>have:=bts_length s;rw [hl] at this;simp at this;omega
    | cons b l=>simp
   have HE:=hide e
   clear e
   generalize hb:((bts s).head? == some c)=b at HE
   clear hb
   cases hx:((s.extract 0 1).toList == [c]) with
   | true=>
     have hb:b=true:=by rw [← hx];exact HE.out.symm
     subst hb
     clear HE
     go_enter Tryz.func148,Tryz.ntmps148
     go_wp2
     go_ret
     exact ⟨rfl,rfl⟩
   | false=>
     have hb:b=false:=by rw [← hx];exact HE.out.symm
     subst hb
     clear HE
     go_enter Tryz.func148,Tryz.ntmps148
     go_wp2
     go_ret
     exact ⟨rfl,rfl⟩
 · have e:((bts s).head? == some c)=false:=by
    have:bts s=[]:=List.eq_nil_of_length_eq_zero (by rw [bts_length];omega)
    rw [this];rfl
   rw [e]
   have hI:decide (1 ≤ (s.size:Int))=false:=decide_eq_false (by omega)
   clear e
   go_enter Tryz.func148,Tryz.ntmps148
   go_wp2
   go_ret
   exact ⟨rfl,rfl⟩
def RetPre (w:World) (s:ByteArray) (e:Ending) (w' :World):Prop:=∃ u,e= .returned (.tuple #[.string u,.bool (signOf (bts s))]) ∧ bts u=unsigned (bts s) ∧ w=w'
theorem bts_tail (s:ByteArray) (h:signOf (bts s)=true):bts (s.extract 1 s.size)=unsigned (bts s):=by
 unfold unsigned
 rw [if_pos h,bts_extract,List.take_of_length_le (by rw [bts_length];exact Nat.le_refl _)]
 simp
theorem slite_cutprefix (s:ByteArray) (w:World) (hs:s.size ≤ 1073741824):
 Calls Tryz.prog 111 #[.string s,.string ⟨#[45]⟩] w (RetPre w s):=by
 have h:=fun w=>has_prefix s 45 w hs
 have e:((bts s).head? == some 45)=signOf (bts s):=rfl
 rw [e] at h
 clear e
 cases hb:signOf (bts s) with
 | true=>
   rw [hb] at h
   have h0:1 ≤ s.size:=by
    rcases Nat.eq_zero_or_pos s.size with h1 | h1
    · have:bts s=[]:=List.eq_nil_of_length_eq_zero (by rw [bts_length];exact h1)
      rw [this] at hb;cases hb
    · exact h1
   have HP:=hide (show RetPre w s (.returned (.tuple #[.string (s.extract 1 s.size),.bool true])) w from ⟨_,by rw [hb],bts_tail s hb,rfl⟩)
   clear hb
   go_enter Tryz.func111,Tryz.ntmps111
   go_wp2_with fail
   refine (h _).mono ?_
   rintro e w' ⟨rfl,rfl⟩
   go_wp2
   go_ret2
   exact HP.out
 | false=>
   rw [hb] at h
   have HP:=hide (show RetPre w s (.returned (.tuple #[.string s,.bool false])) w from ⟨_,by rw [hb],(unsigned_pos hb).symm,rfl⟩)
   clear hb
   go_enter Tryz.func111,Tryz.ntmps111
   go_wp2_with fail
   refine (h _).mono ?_
   rintro e w' ⟨rfl,rfl⟩
   go_wp2
   go_ret2
   exact HP.out
theorem str_cutprefix (s:ByteArray) (w:World) (hs:s.size ≤ 1073741824):
 Calls Tryz.prog 64 #[.string s,.string ⟨#[45]⟩] w (RetPre w s):=by
 have h:=fun w=>slite_cutprefix s w hs
 go_enter Tryz.func64,Tryz.ntmps64
 go_wp2_with fail
 refine (h _).mono ?_
 rintro e w' ⟨u,rfl,hu,rfl⟩
 have HU:=hide hu
 clear hu
 go_wp2
 go_ret2
 exact ⟨u,rfl,HU.out,rfl⟩
end Go.Proofs.YtnmkalocbfdecaaGreatDoor
namespace Go.Proofs.YtnmkalocbfdecaaGreatDoor
open Go.RowKit Go.Deep
theorem ret_bool {a b:Bool} (h:a=b):Ending.returned (.bool b)= .returned (.bool a):=by rw [h]
theorem not_dig {c:UInt8} (h:isDig c=false):c.toNat<48 ∨ 57<c.toNat:=by
 unfold isDig at h
 simp at h
 omega
theorem isDigs_false {s:ByteArray} {k:Nat} (hk:k<s.size) (h:isDig s[k]=false):isDigs (bts s)=false:=by
 unfold isDigs
 have:(bts s).all isDig=false:=by
  rw [List.all_eq_false]
  exact ⟨s[k],by rw [← bts_get s k hk];exact List.getElem_mem _,by rw [h];simp⟩
 rw [this];rfl
theorem digits_any (s:ByteArray) (w:World) (hs:s.size ≤ 1073741824):
 Calls Tryz.prog 66 #[.string s] w (Ret1 w (.bool (isDigs (bts s)))):=by
 go_enter Tryz.func66,Tryz.ntmps66
 go_wp2
 go_loop [6] (fun iv=>∃ k:Nat,k ≤ s.size ∧ iv= .int .i64 k ∧ Hid (∀ j (h:j<s.size),j<k → isDig s[j]=true)) (fun iv=>s.size - (intOf iv).toNat)
 case atStart=>exact ⟨0,Nat.zero_le _,rfl,fun j _ h=>by omega⟩
 case round=>
  obtain ⟨k,hk,rfl,HD⟩:=hrel
  by_cases hlt:k<s.size
  · cases hd:isDig s[k] with
    | true=>
      obtain ⟨h1,h2⟩:=isDig_bounds hd
      have HD1:=hide hd
      clear hd
      go_wp2
      go_round
      case rel=>
       refine ⟨k+1,by omega,by go_num,?_⟩
       intro j hj hlt2
       rcases Nat.lt_or_ge j k with h3 | h3
       · exact HD.out j hj h3
       · obtain rfl:j=k:=by omega
         exact HD1.out
      case measure=>simp [intOf];omega
    | false=>
      have HF:=hide (isDigs_false hlt hd)
      rcases not_dig hd with h1 | h1
      · clear hd
        go_wp2
        go_ret
        exact ⟨ret_bool HF.out,rfl⟩
      · have h2:¬ s[k].toNat<48:=by omega
        clear hd
        go_wp2
        go_ret
        exact ⟨ret_bool HF.out,rfl⟩
  · obtain rfl:k=s.size:=by omega
    have hall:(bts s).all isDig=true:=by
     rw [List.all_eq_true]
     intro c hc
     obtain ⟨j,hj,rfl⟩:=List.mem_iff_getElem.1 hc
     rw [bts_length] at hj
     rw [bts_get s j hj]
     exact HD.out j hj hj
    have HI:=hide (show isDigs (bts s)= !((s.toList).isEmpty) by unfold isDigs;rw [hall,Lib.toList_data];rfl)
    clear hall
    cases hb:(s.toList).isEmpty with
    | true=>
      have HI2:=hide (HI.out.trans (by rw [hb];rfl:_=false))
      have hb2:s.toList=[]:=by simpa using hb
      clear HI
      go_wp2
      go_ret
      exact ⟨ret_bool HI2.out,rfl⟩
    | false=>
      have HI2:=hide (HI.out.trans (by rw [hb];rfl:_=true))
      clear HI
      go_wp2
      go_ret
      exact ⟨ret_bool HI2.out,rfl⟩
theorem bts_head (s:ByteArray) (h:0<s.size):(bts s).head?=some s[0]:=by
 rw [List.head?_eq_getElem?,List.getElem?_eq_getElem (by rw [bts_length];exact h)]
 rfl
theorem plain_any (s:ByteArray) (w:World) (hs:s.size ≤ 1073741824):
 Calls Tryz.prog 92 #[.string s] w (Ret1 w (.bool (plainDigs (bts s)))):=by
 have h:=fun w=>digits_any s w hs
 cases hd:isDigs (bts s) with
 | false=>
   rw [hd] at h
   have HP:=hide (show plainDigs (bts s)=false by unfold plainDigs;rw [hd];rfl)
   clear hd
   go_enter Tryz.func92,Tryz.ntmps92
   go_wp2_with fail
   refine (h _).mono ?_
   rintro e w' ⟨rfl,rfl⟩
   go_wp2
   go_ret
   exact ⟨ret_bool HP.out,rfl⟩
 | true=>
   rw [hd] at h
   have h0:0<s.size:=by
    unfold isDigs at hd
    rw [Bool.and_eq_true] at hd
    rcases Nat.eq_zero_or_pos s.size with h1 | h1
    · have:bts s=[]:=List.eq_nil_of_length_eq_zero (by rw [bts_length];exact h1)
      rw [this] at hd;simp at hd
    · exact h1
   have hp:plainDigs (bts s)=((((s[0].toNat:Int) != 48) || ((s.size:Int) == 1)) && decide ((s.size:Int) ≤ 50000)):=by
    unfold plainDigs
    rw [hd,bts_head s h0,bts_length,Bool.true_and]
    congr 1
    · congr 1
      · rw [Bool.eq_iff_iff,bne_iff_ne,bne_iff_ne]
        constructor
        · intro h1 h2;apply h1;congr 1;apply UInt8.toNat_inj.1;have:(48:UInt8).toNat=48:=rfl;omega
        · intro h1 h2;apply h1;injection h2 with h2;rw [h2];rfl
      · rw [Bool.eq_iff_iff,beq_iff_eq,beq_iff_eq];omega
    · rw [Bool.eq_iff_iff,decide_eq_true_iff,decide_eq_true_iff];omega
   have HP:=hide hp
   clear hp hd
   cases b1:((s[0].toNat:Int) != 48) with
   | true=>
     cases b3:decide ((s.size:Int) ≤ 50000) with
     | true=>
       have HP2:=hide (show plainDigs (bts s)=true by rw [HP.out,b1,b3];rfl)
       clear HP
       go_enter Tryz.func92,Tryz.ntmps92
       go_wp2_with fail
       refine (h _).mono ?_
       rintro e w' ⟨rfl,rfl⟩
       go_wp2
       go_ret
       exact ⟨ret_bool HP2.out,rfl⟩
     | false=>
       have HP2:=hide (show plainDigs (bts s)=false by rw [HP.out,b1,b3];rfl)
       clear HP
       go_enter Tryz.func92,Tryz.ntmps92
       go_wp2_with fail
       refine (h _).mono ?_
       rintro e w' ⟨rfl,rfl⟩
       go_wp2
       go_ret
       exact ⟨ret_bool HP2.out,rfl⟩
   | false=>
     cases b2:((s.size:Int) == 1) with
     | true=>
       have b3:decide ((s.size:Int) ≤ 50000)=true:=decide_eq_true (by have:=beq_iff_eq.1 b2;omega)
       have HP2:=hide (show plainDigs (bts s)=true by rw [HP.out,b1,b2,b3];rfl)
       clear HP
       go_enter Tryz.func92,Tryz.ntmps92
       go_wp2_with fail
       refine (h _).mono ?_
       rintro e w' ⟨rfl,rfl⟩
       go_wp2
       go_ret
       exact ⟨ret_bool HP2.out,rfl⟩
     | false=>
       have HP2:=hide (show plainDigs (bts s)=false by rw [HP.out,b1,b2];rfl)
       clear HP
       go_enter Tryz.func92,Tryz.ntmps92
       go_wp2_with fail
       refine (h _).mono ?_
       rintro e w' ⟨rfl,rfl⟩
       go_wp2
       go_ret
       exact ⟨ret_bool HP2.out,rfl⟩
end Go.Proofs.YtnmkalocbfdecaaGreatDoor
namespace Go.Proofs.YtnmkalocbfdecaaGreatDoor
open Go.RowKit Go.Deep
def isLow (c:UInt8):Bool:=decide (97 ≤ c.toNat) && decide (c.toNat ≤ 122)
def isNameSign (c:UInt8):Bool:=isLow c || isDig c || c == 45
def isName (l:List UInt8):Bool:=decide (1 ≤ l.length) && decide (l.length ≤ 16) && isLow (l.headD 0) && l.all isNameSign
theorem nonempty_of_size {s:ByteArray} (h0:0<s.size):s.toList.isEmpty=false:=by
 rw [Bool.eq_false_iff]
 intro e
 have e:=List.isEmpty_iff.1 e
 have:=congrArg List.length e
 rw [Lib.toList_data] at this
 simp at this
 rw [this] at h0
 exact absurd h0 (by decide)
theorem isLow_iff {c:UInt8}:isLow c=true↔97 ≤ c.toNat ∧ c.toNat ≤ 122:=by
 unfold isLow;simp
theorem isSign_cases {c:UInt8} (h:isNameSign c=true):(97 ≤ c.toNat ∧ c.toNat ≤ 122) ∨ (48 ≤ c.toNat ∧ c.toNat ≤ 57 ∧ c.toNat<97) ∨ (c.toNat=45):=by
 unfold isNameSign at h
 simp only [Bool.or_eq_true] at h
 rcases h with (h | h) | h
 · exact .inl (isLow_iff.1 h)
 · obtain ⟨h1,h2⟩:=isDig_bounds h
   exact .inr (.inl ⟨h1,h2,by omega⟩)
 · refine .inr (.inr ?_)
   rw [beq_iff_eq] at h
   rw [h];rfl
theorem noSign_cases {c:UInt8} (h:isNameSign c=false):(c.toNat<48 ∧ c.toNat≠45) ∨ (57<c.toNat ∧ c.toNat<97) ∨ (122<c.toNat):=by
 have h1:¬ (97 ≤ c.toNat ∧ c.toNat ≤ 122):=by
  intro h2
  have:=isLow_iff.2 h2
  unfold isNameSign at h;rw [this] at h;simp at h
 have h2:¬ (48 ≤ c.toNat ∧ c.toNat ≤ 57):=by
  intro h2
  have:isDig c=true:=by unfold isDig;simp [h2]
  unfold isNameSign at h;rw [this] at h;simp at h
 have h3:c.toNat≠45:=by
  intro h3
  have:c=45:=UInt8.toNat_inj.1 h3
  unfold isNameSign at h;rw [this] at h;simp at h
 omega
theorem name_head {s:ByteArray} (h:0<s.size):(bts s).headD 0=s[0]:=by
 have h1:=bts_get s 0 h
 rw [List.headD_eq_head?_getD,List.head?_eq_getElem?,List.getElem?_eq_getElem (by rw [bts_length];exact h),h1];rfl
theorem name_no1 {s:ByteArray} (h:0<s.size) (h1:isLow s[0]=false):isName (bts s)=false:=by
 unfold isName;rw [name_head h,h1];simp
theorem name_no2 {s:ByteArray} {k:Nat} (h:k<s.size) (h1:isNameSign s[k]=false):isName (bts s)=false:=by
 have:(bts s).all isNameSign=false:=by
  rw [Bool.eq_false_iff]
  intro h2
  have h3:=List.all_eq_true.1 h2 ((bts s)[k]'(by rw [bts_length];exact h)) (List.getElem_mem _)
  rw [bts_get s k h,h1] at h3;cases h3
 unfold isName;rw [this];simp
theorem name_yes {s:ByteArray} (h:0<s.size) (h16:s.size ≤ 16) (h1:isLow s[0]=true) (h2:∀ j (hj:j<s.size),isNameSign s[j]=true):isName (bts s)=true:=by
 have:(bts s).all isNameSign=true:=by
  rw [List.all_eq_true]
  intro c hc
  obtain ⟨j,hj,rfl⟩:=List.mem_iff_getElem.1 hc
  rw [bts_length] at hj
  rw [bts_get s j hj]
  exact h2 j hj
 unfold isName;rw [this,name_head h,h1,bts_length,decide_eq_true (show 1 ≤ s.size from h),decide_eq_true h16];rfl
def firstErr (n:Nat) (f:Nat → Int):Int:=match n with
 | 0=>0
 | n+1=>if firstErr n f=0 then f n else firstErr n f
theorem firstErr_all {n:Nat} {f:Nat → Int}:firstErr n f=0↔∀ k,k<n → f k=0:=by
 induction n with
 | zero=>simp [firstErr]
 | succ n ih=>
   unfold firstErr
   constructor
   · intro h k hk
     by_cases h0:firstErr n f=0
     · rw [if_pos h0] at h
       rcases Nat.lt_or_ge k n with h1 | h1
       · exact ih.1 h0 k h1
       · obtain rfl:k=n:=by omega
         exact h
     · rw [if_neg h0] at h;exact absurd h h0
   · intro h
     rw [if_pos (ih.2 fun k hk=>h k (by omega))]
     exact h n (by omega)
theorem firstErr_at {n k:Nat} {f:Nat → Int} (hk:k<n) (h:∀ j,j<k → f j=0) (h0:f k≠0):firstErr n f=f k:=by
 induction n with
 | zero=>omega
 | succ n ih=>
   unfold firstErr
   rcases Nat.lt_or_ge k n with h1 | h1
   · rw [ih h1,if_neg h0]
   · obtain rfl:k=n:=by omega
     rw [if_pos (firstErr_all.2 h)]
end Go.Proofs.YtnmkalocbfdecaaGreatDoor
namespace Go.Proofs.YtnmkalocbfdecaaGreatDoor
structure ETerm where
 name:List UInt8
 coef:List UInt8
instance:Inhabited ETerm:=⟨⟨[],[]⟩⟩
structure ERow where
 terms:List ETerm
 bound:List UInt8
instance:Inhabited ERow:=⟨⟨[],[]⟩⟩
def inputErr (l:List UInt8):Int:=match readFrac l with
 | none=>4
 | some q=>if Short 12 q then 0 else 3
def coefErr (l:List UInt8):Int:=match readFrac l with
 | none=>4
 | some q=>if q=0 then 1 else if Short 12 q then 0 else 3
def behindErr (last s:List UInt8) (first:Bool):Int:=if first=true ∨ last<s then 0 else if last=s then 6 else 1
def termErr (l:List ETerm) (i:Nat):Int:=
 if isName (l.getD i default).name=false then 5
 else if coefErr (l.getD i default).coef≠0 then coefErr (l.getD i default).coef
 else behindErr (l.getD (i - 1) default).name (l.getD i default).name (decide (i=0))
def termsErr (l:List ETerm):Int:=firstErr l.length (termErr l)
def rowErr (r:ERow):Int:=if termsErr r.terms≠0 then termsErr r.terms else inputErr r.bound
end Go.Proofs.YtnmkalocbfdecaaGreatDoor
