/-
  Parts of the proof (rules, data, and what functions of the program and of the reference return), among them: PeerOk, in the program and in the reference; DeltaText, in the program and in the reference.
  Conditions: those that each theorem names.
-/
import Derived.Test.YtpmacgnmlmmojaaGreatDoorDDDgRowk13
import Derived.Test.YtpmacgnmlmmojaaGreatDoorDDDgRowk14
import Derived.Test.YtpmacgnmlmmojaaGreatDoorDDDgRowk16
import Derived.Test.YtpmacgnmlmmojaaGreatDoorDDDgRowk17
import Derived.Test.YtpmacgnmlmmojaaGreatDoorDDDgRowk20
import Derived.Test.YtpmacgnmlmmojaaGreatDoorDDDgRowk21
set_option linter.unusedSimpArgs false
set_option linter.unusedVariables false
set_option maxRecDepth 8000
set_option maxHeartbeats 8000000
namespace Go.Proofs.YtpmacgnmlmmojaaGreatDoor
section
open Go.RowKit

theorem upZ {s : ByteArray} {i q : Nat} (h : ∀ j,i ≤ j → j < q → byteAt s j = 0) (hq : byteAt s q = 0) : ∀ j,i ≤ j → j < q + 1 → byteAt s j = 0 := fun j h1 h2 => by
 by_cases e : j = q
 ·subst e; exact hq
 ·exact h j h1 (by omega)
theorem upN {s : ByteArray} {i q : Nat} (h : ∀ j,i ≤ j → j < q → byteAt s j ≠ 0) (hq : byteAt s q ≠ 0) : ∀ j,i ≤ j → j < q + 1 → byteAt s j ≠ 0 := fun j h1 h2 => by
 by_cases e : j = q
 ·subst e; exact hq
 ·exact h j h1 (by omega)
theorem text_len (t : ByteArray) : (packText t).data.toList.length ≤ t.size + 6 := by
 rw [text_list,List.length_append]
 have := Yq (t.size : Nat)
 have e : t.data.toList.length = t.size := by simp
 omega
theorem I_PackZeros (s : ByteArray) (hs : s.size ≤ 1099511627775) : Con Tryz.prog 131 [] [astr s] [] (S (bs (packZ s.data.toList))) := by
 refine Con.of Tryz.func131 J Tryz.ntmps131 J (fun E => ?_)
 refine Wz [11,11,11,20,13] ?_
 refine AWP.pre ?_ (W_nil 3 1 J)
 refine Xi (fun m__ st => ∃ (i : Nat) (acc : List UInt8),s.size - i = m__ ∧ (acc ++ packZ (s.data.toList.drop i) = packZ s.data.toList ∧ i ≤ s.size ∧ acc.length ≤ 14 * i) ∧ st = (⟨_,[(0,S s),(3,.o (.c (.ref 0))),(4,I i)],[.row 1 (bE acc)]⟩ : St)) _ ⟨_,⟨0,[],J,by simp,J⟩,X7 [0] (by kernel_rfl)⟩ ?_
 rintro m_A _ ⟨i,acc,hk_A,hp_A,rfl⟩
 obtain ⟨hp1,hp2,hp3⟩ := hp_A
 refine Wz [36,80,48,1] ?_
 refine Xb J (fun h5 => ?_) (fun h5 => ?_)
 ·have h5 : i < s.size := by have := of_decide_eq_true h5; omega
  have hb := Yc acc
  have hb1 := Yg acc
  refine Wz [68,13,7,22,13] ?_;refine Xi (fun m__ st => ∃ (q : Nat),s.size - q = m__ ∧ (i ≤ q ∧ q ≤ s.size ∧ (∀ j,i ≤ j → j < q → byteAt s j = 0)) ∧ st = (⟨_,[(0,S s),(3,.o (.c (.ref 0))),(4,I q),(5,I i)],[.row 1 (bE acc)]⟩ : St)) _ ⟨_,⟨i,J,⟨Nat.le_refl _,by omega,fun q h1 h2 => by omega⟩,J⟩,X7 [0] (by kernel_rfl)⟩ ?_
  rintro m_D _ ⟨q,hk_D,hp_D,rfl⟩
  obtain ⟨hd1,hd2,hd3⟩ := hp_D
  by_cases hq : q < s.size
  ·have f1 : decide ((q : Int) < s.size) = true := decide_eq_true (by omega)
   by_cases hz : byteAt s q = 0
   ·have f2 : decide (byteAt s (q : Int).toNat = 0) = true := decide_eq_true hz
    refine Wz [36,80,10,16,30,141,6] ?_;refine zx (Qv (b := true) J J J J (by decide)) J ?_;refine Wz [24,9,68,13,81,89,51,90] ?_
    refine ⟨_,(by omega),_,⟨q + 1,J,⟨by omega,by omega,upZ hd3 hz⟩,J⟩,X7 [0] (by kernel_rfl)⟩
   ·have f2 : decide (byteAt s (q : Int).toNat = 0) = false := decide_eq_false hz
    refine Wz [36,80,10,16,30,106,6,19,24,60,32,7,22,13] ?_;refine Xi (fun m__ st => ∃ (e : Nat),s.size - e = m__ ∧ (q ≤ e ∧ e ≤ s.size ∧ (∀ j,q ≤ j → j < e → byteAt s j ≠ 0)) ∧ st = (⟨_,[(0,S s),(3,.o (.c (.ref 0))),(4,I e),(5,I i),(6,I q)],[.row 1 (bE acc)]⟩ : St)) _ ⟨_,⟨q,J,⟨Nat.le_refl _,hd2,fun j h1 h2 => by omega⟩,J⟩,X7 [0] (by kernel_rfl)⟩ ?_
    rintro m_G _ ⟨e,hk_G,hp_G,rfl⟩
    obtain ⟨hg1,hg2,hg3⟩ := hp_G
    by_cases he : e < s.size
    ·have f3 : decide ((e : Int) < s.size) = true := decide_eq_true (by omega)
     by_cases hn : byteAt s e ≠ 0
     ·have f4 : decide (byteAt s (e : Int).toNat ≠ 0) = true := decide_eq_true hn
      refine Wz [36,80,10,16,30,106,6,69,24,9,68,13,81,89,51,90] ?_
      refine ⟨_,(by omega),_,⟨e + 1,J,⟨by omega,by omega,upN hg3 hn⟩,J⟩,X7 [0] (by kernel_rfl)⟩
     ·have hn := Classical.not_not.1 hn
      have f4 : decide (byteAt s (e : Int).toNat ≠ 0) = false := decide_eq_false (fun q => q hn)
      have hie : i < e := by
       rcases Nat.lt_or_ge i e with h6 | h6
       ·exact h6
       ·exact absurd hn (by have : e = q := (by omega); rw [this]; exact (fun _ => hz) (by omega))
      have hst := packZ_step hd1 hg1 hg2 hie hd3 (fun _ => hz) hg3 (fun _ => hn)
      have hl1 := Yq ((q - i : Nat) : Int)
      have hl2 := text_len (s.extract q e)
      have hl3 : (s.extract q e).size = e - q := by rw [ByteArray.size_extract]; omega
      have hl4 := Yg (encVar ((q - i : Nat) : Int))
      have hl5 := Zb (s.extract q e)
      have hl6 : (packText (s.extract q e)).data.toList.length = (packText (s.extract q e)).size := by simp
      have ee : (q : Int) - i = ((q - i : Nat) : Int) := by omega
      have hce := Xo ((q - i : Nat) : Int)
      have hct := I_PackText (s.extract q e) (by omega)
      have hst2 : (acc ++ encVar ((q - i : Nat) : Int) ++ (packText (s.extract q e)).data.toList) ++ packZ (s.data.toList.drop e) = packZ s.data.toList := by rw [← hp1,hst]; simp only [List.append_assoc]
      have hl1' := hl1
      rw [← ee] at hce hl1 hl4
      have hq1 : (bE (bs (encVar ((q : Int) - i))).data.toList).length = (encVar ((q : Int) - i)).length := by rw [Yc,Yf]
      have hq2 : (bE (encVar ((q : Int) - i))).length = (encVar ((q : Int) - i)).length := Yc _
      refine Wz [36,80,10,16,30,141,6,149,24,60,32,39,0,73] ?_;refine zx (Qj J J (hce) J) J ?_;refine X3 J J J J J J J (by omega) (by omega) ?_;refine Wz [2,49,0,0,0,155] ?_;refine zx (Qj J J (hct) J) J ?_
      refine X3 J J J J J J J (by simp only [List.length_append]; omega) (by simp only [List.length_append]; omega) ?_;refine z1 J ?_
      refine Wz [74,90] ?_
      refine ⟨_,(by omega),_,⟨e,acc ++ encVar ((q - i : Nat) : Int) ++ (packText (s.extract q e)).data.toList,J,⟨hst2,hg2,by simp only [List.length_append]; omega⟩,J⟩,(by rw [Yf,bE_app,bE_app,ee]; exact X7 [0] (by kernel_rfl))⟩
    ·have f3 : decide ((e : Int) < s.size) = false := decide_eq_false (by omega)
     have hst := packZ_step hd1 hg1 hg2 (by omega) hd3 (fun _ => hz) hg3 (fun h6 => absurd h6 he)
     have hl1 := Yq ((q - i : Nat) : Int)
     have hl2 := text_len (s.extract q e)
     have hl3 : (s.extract q e).size = e - q := by rw [ByteArray.size_extract]; omega
     have hl4 := Yg (encVar ((q - i : Nat) : Int))
     have hl5 := Zb (s.extract q e)
     have hl6 : (packText (s.extract q e)).data.toList.length = (packText (s.extract q e)).size := by simp
     have ee : (q : Int) - i = ((q - i : Nat) : Int) := by omega
     have hce := Xo ((q - i : Nat) : Int)
     have hct := I_PackText (s.extract q e) (by omega)
     have hst2 : (acc ++ encVar ((q - i : Nat) : Int) ++ (packText (s.extract q e)).data.toList) ++ packZ (s.data.toList.drop e) = packZ s.data.toList := by rw [← hp1,hst]; simp only [List.append_assoc]
     have hl1' := hl1
     rw [← ee] at hce hl1 hl4
     have hq1 : (bE (bs (encVar ((q : Int) - i))).data.toList).length = (encVar ((q : Int) - i)).length := by rw [Yc,Yf]
     have hq2 : (bE (encVar ((q : Int) - i))).length = (encVar ((q : Int) - i)).length := Yc _
     refine Wz [36,80,10,44,53,8,60,32,39,0,73] ?_;refine zx (Qj J J (hce) J) J ?_;refine X3 J J J J J J J (by omega) (by omega) ?_;refine Wz [2,49,0,0,0,155] ?_;refine zx (Qj J J (hct) J) J ?_
     refine X3 J J J J J J J (by simp only [List.length_append]; omega) (by simp only [List.length_append]; omega) ?_;refine z1 J ?_
     refine Wz [74,90] ?_
     refine ⟨_,(by omega),_,⟨e,acc ++ encVar ((q - i : Nat) : Int) ++ (packText (s.extract q e)).data.toList,J,⟨hst2,hg2,by simp only [List.length_append]; omega⟩,J⟩,(by rw [Yf,bE_app,bE_app,ee]; exact X7 [0] (by kernel_rfl))⟩
  ·have f1 : decide ((q : Int) < s.size) = false := decide_eq_false (by omega)
   refine Wz [36,80,10,44,53,8,60,32,7,22,13] ?_;refine Xi (fun m__ st => ∃ (e : Nat),s.size - e = m__ ∧ (q ≤ e ∧ e ≤ s.size ∧ (∀ j,q ≤ j → j < e → byteAt s j ≠ 0)) ∧ st = (⟨_,[(0,S s),(3,.o (.c (.ref 0))),(4,I e),(5,I i),(6,I q)],[.row 1 (bE acc)]⟩ : St)) _ ⟨_,⟨q,J,⟨Nat.le_refl _,hd2,fun j h1 h2 => by omega⟩,J⟩,X7 [0] (by kernel_rfl)⟩ ?_
   rintro m_G _ ⟨e,hk_G,hp_G,rfl⟩
   obtain ⟨hg1,hg2,hg3⟩ := hp_G
   by_cases he : e < s.size
   ·have f3 : decide ((e : Int) < s.size) = true := decide_eq_true (by omega)
    by_cases hn : byteAt s e ≠ 0
    ·have f4 : decide (byteAt s (e : Int).toNat ≠ 0) = true := decide_eq_true hn
     refine Wz [36,80,10,16,30,106,6,69,24,9,68,13,81,89,51,90] ?_
     refine ⟨_,(by omega),_,⟨e + 1,J,⟨by omega,by omega,upN hg3 hn⟩,J⟩,X7 [0] (by kernel_rfl)⟩
    ·have hn := Classical.not_not.1 hn
     have f4 : decide (byteAt s (e : Int).toNat ≠ 0) = false := decide_eq_false (fun q => q hn)
     have hie : i < e := by
      rcases Nat.lt_or_ge i e with h6 | h6
      ·exact h6
      ·exact absurd hn (by have : e = q := (by omega); rw [this]; exact (fun h6 => absurd h6 hq) (by omega))
     have hst := packZ_step hd1 hg1 hg2 hie hd3 (fun h6 => absurd h6 hq) hg3 (fun _ => hn)
     have hl1 := Yq ((q - i : Nat) : Int)
     have hl2 := text_len (s.extract q e)
     have hl3 : (s.extract q e).size = e - q := by rw [ByteArray.size_extract]; omega
     have hl4 := Yg (encVar ((q - i : Nat) : Int))
     have hl5 := Zb (s.extract q e)
     have hl6 : (packText (s.extract q e)).data.toList.length = (packText (s.extract q e)).size := by simp
     have ee : (q : Int) - i = ((q - i : Nat) : Int) := by omega
     have hce := Xo ((q - i : Nat) : Int)
     have hct := I_PackText (s.extract q e) (by omega)
     have hst2 : (acc ++ encVar ((q - i : Nat) : Int) ++ (packText (s.extract q e)).data.toList) ++ packZ (s.data.toList.drop e) = packZ s.data.toList := by rw [← hp1,hst]; simp only [List.append_assoc]
     have hl1' := hl1
     rw [← ee] at hce hl1 hl4
     have hq1 : (bE (bs (encVar ((q : Int) - i))).data.toList).length = (encVar ((q : Int) - i)).length := by rw [Yc,Yf]
     have hq2 : (bE (encVar ((q : Int) - i))).length = (encVar ((q : Int) - i)).length := Yc _
     refine Wz [36,80,10,16,30,141,6,149,24,60,32,39,0,73] ?_;refine zx (Qj J J (hce) J) J ?_;refine X3 J J J J J J J (by omega) (by omega) ?_;refine Wz [2,49,0,0,0,155] ?_;refine zx (Qj J J (hct) J) J ?_
     refine X3 J J J J J J J (by simp only [List.length_append]; omega) (by simp only [List.length_append]; omega) ?_;refine z1 J ?_
     refine Wz [74,90] ?_
     refine ⟨_,(by omega),_,⟨e,acc ++ encVar ((q - i : Nat) : Int) ++ (packText (s.extract q e)).data.toList,J,⟨hst2,hg2,by simp only [List.length_append]; omega⟩,J⟩,(by rw [Yf,bE_app,bE_app,ee]; exact X7 [0] (by kernel_rfl))⟩
   ·have f3 : decide ((e : Int) < s.size) = false := decide_eq_false (by omega)
    have hst := packZ_step hd1 hg1 hg2 (by omega) hd3 (fun h6 => absurd h6 hq) hg3 (fun h6 => absurd h6 he)
    have hl1 := Yq ((q - i : Nat) : Int)
    have hl2 := text_len (s.extract q e)
    have hl3 : (s.extract q e).size = e - q := by rw [ByteArray.size_extract]; omega
    have hl4 := Yg (encVar ((q - i : Nat) : Int))
    have hl5 := Zb (s.extract q e)
    have hl6 : (packText (s.extract q e)).data.toList.length = (packText (s.extract q e)).size := by simp
    have ee : (q : Int) - i = ((q - i : Nat) : Int) := by omega
    have hce := Xo ((q - i : Nat) : Int)
    have hct := I_PackText (s.extract q e) (by omega)
    have hst2 : (acc ++ encVar ((q - i : Nat) : Int) ++ (packText (s.extract q e)).data.toList) ++ packZ (s.data.toList.drop e) = packZ s.data.toList := by rw [← hp1,hst]; simp only [List.append_assoc]
    have hl1' := hl1
    rw [← ee] at hce hl1 hl4
    have hq1 : (bE (bs (encVar ((q : Int) - i))).data.toList).length = (encVar ((q : Int) - i)).length := by rw [Yc,Yf]
    have hq2 : (bE (encVar ((q : Int) - i))).length = (encVar ((q : Int) - i)).length := Yc _
    refine Wz [36,80,10,44,53,8,60,32,39,0,73] ?_;refine zx (Qj J J (hce) J) J ?_;refine X3 J J J J J J J (by omega) (by omega) ?_;refine Wz [2,49,0,0,0,155] ?_;refine zx (Qj J J (hct) J) J ?_
    refine X3 J J J J J J J (by simp only [List.length_append]; omega) (by simp only [List.length_append]; omega) ?_;refine z1 J ?_
    refine Wz [74,90] ?_
    refine ⟨_,(by omega),_,⟨e,acc ++ encVar ((q - i : Nat) : Int) ++ (packText (s.extract q e)).data.toList,J,⟨hst2,hg2,by simp only [List.length_append]; omega⟩,J⟩,(by rw [Yf,bE_app,bE_app,ee]; exact X7 [0] (by kernel_rfl))⟩
 ·have h5 : i = s.size := by have := of_decide_eq_false h5; omega
  have e : s.data.toList.length = s.size := by simp
  refine Wz [32,7] ?_;refine zx (q_bstr J J J J) J ?_;refine Wz [34] ?_
  exact Xn J J (X6 [] (by decide) J J (S_eq (congrArg bs (by rw [← hp1,h5,List.drop_eq_nil_of_le (by omega),packZ_nil,List.append_nil]))))
end
section
open Go.RowKit

def xorB (a : ByteArray) (i : Nat) (x : UInt8) : UInt8 := if i < a.size then UInt8.ofNat (x.toNat ^^^ (byteAt a i).toNat) else x
def xorL (a b : ByteArray) : List UInt8 := (List.range b.size).map fun i => xorB a i (b.data.toList.getD i 0)
def xorText (a b : ByteArray) : ByteArray := bs (xorL a b)
theorem xorL_len (a b : ByteArray) : (xorL a b).length = b.data.toList.length := by simp [xorL]
theorem xorL_at {a b : ByteArray} {i : Nat} (h : i < (xorL a b).length) (h' : i < b.data.toList.length) : (xorL a b)[i] = xorB a i b.data.toList[i] := by
 have h2 : b.data.toList.getD i 0 = b.data.toList[i] := by rw [List.getD_eq_getElem?_getD,List.getElem?_eq_getElem h']; rfl
 simp only [xorL,List.getElem_map,List.getElem_range,h2]
theorem mk_nextL {α : Type} {ms xs : List α} (hl : ms.length = xs.length) {i : Nat} (h : i < xs.length) : ms.take (i + 1) ++ xs.drop (i + 1) = (ms.take i ++ xs.drop i).set i (ms[i]'(by omega)) := by
 have h2 : i < ms.length := by omega
 have hi : (ms.take i).length = i := by simp; omega
 rw [List.take_succ_eq_append_getElem h2,List.set_append_right _ _ (by omega)]
 have : i - (ms.take i).length = 0 := by omega
 rw [this,List.drop_eq_getElem_cons h,List.set_cons_zero,List.append_assoc]
 rfl
theorem bE_set (l : List UInt8) (i : Nat) (x : UInt8) : bE (l.set i x) = (bE l).set i [.v (.int .u8 (x.toNat : Int))] := by simp [bE,List.map_set]
theorem bE_at {l : List UInt8} {i : Nat} (h : i < l.length) : (bE l)[(i : Int).toNat]? = some [.v (.int .u8 ((l[i]).toNat : Int))] := by
 rw [Int.toNat_natCast,bE,List.getElem?_map,List.getElem?_eq_getElem h]
 rfl
theorem xor_end {a b : ByteArray} {i : Nat} (hi : i ≤ b.data.toList.length) (h : b.data.toList.length ≤ i ∨ a.size ≤ i) : (xorL a b).take i ++ b.data.toList.drop i = xorL a b := by
 have hl := xorL_len a b
 have hml := mk_len hl hi
 apply List.ext_getElem?
 intro j
 by_cases hj : j < i
 ·by_cases hjl : j < (xorL a b).length
  ·rw [List.getElem?_append_left (by simp; omega),List.getElem?_take,if_pos hj]
  ·rw [List.getElem?_eq_none (by omega),List.getElem?_eq_none (by omega)]
 ·by_cases hjl : j < (xorL a b).length
  ·have ha : a.size ≤ i := by omega
   have hti : ((xorL a b).take i).length = i := by simp; omega
   rw [List.getElem?_append_right (by omega),hti,List.getElem?_drop,show i + (j - i) = j by omega,List.getElem?_eq_getElem (by omega),List.getElem?_eq_getElem hjl,xorL_at hjl (by omega),xorB,if_neg (by omega)]
  ·rw [List.getElem?_eq_none (by omega),List.getElem?_eq_none (by omega)]
theorem I_XorText (a b : ByteArray) (ha : a.size ≤ 1099511627776) (hb : b.size ≤ 1099511627776) : Con Tryz.prog 132 [] [astr a,astr b] [] (S (xorText a b)) := by
 have hl := xorL_len a b
 have hbl : b.data.toList.length = b.size := by simp
 refine Con.of Tryz.func132 J Tryz.ntmps132 J (fun E => ?_)
 refine Wz [11,7] ?_;refine M1 (q_strb J J J (by omega)) J J ?_;refine Wz [22,11,13] ?_;refine Xi (fun m__ st => ∃ (i : Nat),b.size - i = m__ ∧ (i ≤ b.size ∧ i ≤ a.size) ∧ st = (⟨_,[(0,S a),(5,.o (.c (.ref 0))),(6,I i)],[.row 1 (bE ((xorL a b).take i ++ b.data.toList.drop i))]⟩ : St)) _ ⟨_,⟨0,J,⟨Nat.zero_le _,Nat.zero_le _⟩,J⟩,X7 [0] (by kernel_rfl)⟩ ?_
 rintro m_A _ ⟨i,hk_A,hp_A,rfl⟩
 have hrow : (bE ((xorL a b).take i ++ b.data.toList.drop i)).length = b.size := by rw [Yc,mk_len hl (by omega)]; exact hbl
 refine Wz [36,112,48,0,129] ?_;refine zx (Qt.grdT J J J (.hit .stop) (fun hgrd => Qa J J J)) J ?_;refine zx (Qt.grdT J J J (.hit (.hit .stop)) (fun hgrd => Zt J J J)) J ?_;refine zx (Qt.grdT J J J (.hit (.hit (.hit .stop))) (fun hgrd => Zx J J J J)) J ?_;refine Wz [76,1] ?_
 refine Xb J (fun h => ?_) (fun h => ?_)
 ·simp only [Bool.and_eq_true,decide_eq_true_eq] at h
  have hib : i < b.data.toList.length := by omega
  have hil : i < ((xorL a b).take i ++ b.data.toList.drop i).length := by rw [mk_len hl (by omega)]; exact hib
  have hat := bE_at hil
  rw [mk_at hl hib] at hat
  obtain ⟨c,hc⟩ : ∃ c : UInt8,c = b.data.toList[i] := ⟨_,rfl⟩
  rw [← hc] at hat
  have hc2 := c.toNat_lt
  have hby := Yh a i
  have hy : (UInt8.ofNat (c.toNat ^^^ (byteAt a i).toNat)).toNat = c.toNat ^^^ (byteAt a i).toNat := by
   have : c.toNat ^^^ (byteAt a i).toNat < 2 ^ 8 := Nat.xor_lt_two_pow (by omega) (by omega)
   rw [UInt8.toNat_ofNat']
   exact Nat.mod_eq_of_lt this
  have hby2 : byteAt a (i : Int).toNat = byteAt a i := rfl
  have hend : bE ((xorL a b).take (i + 1) ++ b.data.toList.drop (i + 1)) = (bE ((xorL a b).take i ++ b.data.toList.drop i)).set (i : Int).toNat (splice [.v (.int .u8 (c.toNat : Int))] 0 [.v (.int .u8 (((c.toNat : Int).toNat ^^^ (byteAt a i).toNat : Nat) : Int))]) := by
   rw [mk_nextL hl hib,bE_set,xorL_at (by omega) hib,xorB,if_pos (by omega),← hc,hy]
   rfl
  refine Wz [29] ?_;refine Xh [[],[],[0,1],[0,1,2],[],[],[4,5],(u9 7),(u9 8),(u9 9)] [[],[],[21,22],[21,22,23],[],[],[25,26],[21,22,23,24,25,26,27],[21,22,23,24,25,26,27,28],[21,22,23,24,25,26,27,28,29]] [[22,25,26,27],[21,25,26,27],[25,26,27],[25,26,27],[21,22,23,24,26],[21,22,23,24,25],[21,22,23,24],[],[],[]] J ?_;refine Wz [3,3,146] ?_;refine DR.s (Q7 J J J J (by assumption) J) J J ?_;refine Wz [3,3] ?_;refine DR.s (Zj J J J J (by assumption) (by omega)) J J (DR.s (q_bxor8 J J J J (by omega)) J J ?_);refine Wz [146,31,139,74,50] ?_
  refine ⟨_,(by omega),(fun (i : Nat) => (⟨_,[(0,S a),(5,.o (.c (.ref 0))),(6,I i)],[.row 1 (bE ((xorL a b).take i ++ b.data.toList.drop i))]⟩ : St)) (i + 1),⟨i + 1,J,⟨by omega,by omega⟩,J⟩,X8 [0] (by decide) J (row_eq hend) (.c J (.c J (.c J (.nil))))⟩
 ·simp only [Bool.and_eq_false_iff,decide_eq_false_iff_not] at h
  have hend := xor_end (a := a) (b := b) (i := i) (by omega) (by omega)
  rw [hend]
  refine Wz [32,7] ?_;refine zx (q_bstr J J J J) J ?_;refine Wz [34] ?_
  exact Xn J J (X6 [] (by decide) J J J)
end
section
open Go.RowKit

section
variable {s : ByteArray} {b : Bool} {pos f j k : Nat} {acc : List UInt8} {n : Int} {t : ByteArray} (hp : pos < s.size)
include hp
end
def applyD (base delta : ByteArray) : Option ByteArray := match decVar delta 0 with
 | none => none
 | some (n,j) => match unpackZ true (delta.extract j delta.size) with
  | none => none
  | some x => if (x.size : Int) = n then some (xorText base x) else none
end
section
open Go.RowKit
end
section
open Go.RowKit
end
section
open Go.RowKit

def keyText (s : ByteArray) (keys : List ByteArray) : Nat → Option ByteArray
 | 0 => some s
 | n + 1 => match keyText s keys n with
  | none => none
  | some t => match keys[n]? with
   | none => none
   | some d => applyD t d
structure ROk (r : TReplay) : Prop where
 l : levelOk r.Level = true
 p : 1 ≤ r.Players ∧ r.Players ≤ 4
 s : inR r.Seed 0 65535 = true
 e : 1 ≤ r.Every ∧ r.Every ≤ 100
 k : r.Keys.length ≤ 400
theorem bytes_len (w : TWorld) : (worldBytes w).size ≤ 20000 := by
 unfold worldBytes
 split
 ·rename_i h
  have hw := Kh h
  have h1 := packInts_size (worldInts w)
  have h2 := flat_length w.Bodies
  have h3 : (worldInts w).length = 3 + w.Scores.length + 9 * w.Bodies.length := by
   simp only [worldInts,List.length_append,List.length_cons,List.length_nil]; omega
  have h4 := hw.2.2.2.1
  have h5 := hw.2.2.2.2.2.1
  omega
 ·decide
section
variable {r : TReplay} {n : Nat} {s : ByteArray} {w : TWorld}
variable (h : keyText (worldBytes (newWorld r.Level r.Players.toNat r.Seed)) r.Keys n = some s)
include h
end
end
section
open Go.RowKit

theorem I_WorldSum (w : TWorld) (g : Enc.gd w) : Con Tryz.prog 42 [] [ag w] [] (I (wsum w)) := by
 have c1 := I_WorldBytes w g
 have c2 := I_Checksum (worldBytes w) (by have := bytes_len w; omega)
 refine Con.of Tryz.func42 J Tryz.ntmps42 J (fun E => ?_)
 refine Wz [26,2,15] ?_;refine zx (Qj J J (c1) J) J ?_;refine zx (Qj J J (c2) J) J ?_;refine Wz [34] ?_
 exact Xn J J (X6 [] (by decide) J J J)
def inAt (t : Nat) (x : TTrack) : Int := x.Inputs.getD t 0
def rowAt (l : List TTrack) (t : Nat) : List Int := l.map (inAt t)
theorem all_at {l : List TTrack} (h : tracksOk l = true) {k : Nat} (hk : k < l.length) : trackOk l[k] = true := by
 unfold tracksOk at h
 rw [Bool.and_eq_true] at h
 exact List.all_eq_true.1 h.2 _ (List.getElem_mem hk)
theorem I_Predict (x : TTrack) (t : Nat) (g : Enc.gd x) (ho : trackOk x = true) (ht : t < x.Inputs.length) : Con Tryz.prog 129 [] [ag x,ai t] [] (I (inAt t x)) := by
 have hl := Ym x.Inputs
 have hat := Yl ht
 have c1 := I_TrackOk x g
 rw [ho] at c1
 have f1 : decide ((t : Int) < 0) = false := decide_eq_false (by omega)
 have f2 : decide ((t : Int) < ((els x.Inputs).length : Int)) = true := decide_eq_true (by omega)
 have e : inAt t x = x.Inputs[t] := by simp [inAt,List.getD_eq_getElem?_getD,ht]
 rw [e]
 refine Con.of Tryz.func129 J Tryz.ntmps129 J (fun E => ?_)
 refine Wz [26,22,15] ?_;refine zx (Qj J J (c1) J) J ?_;refine Wz [14,16,10,8,35,5,12,2,36,10,9,5,0,61,2,75,25] ?_
 exact Xn J J (X6 [] (by decide) J J J)
theorem rowAt_next {l : List TTrack} {t k : Nat} (h : k < l.length) : els ((rowAt l t).take (k + 1)) = els ((rowAt l t).take k) ++ [Enc.e (inAt t l[k])] := by
 rw [els_snoc (by simpa [rowAt] using h)]
 simp [rowAt]
theorem I_RowAt (l : List TTrack) (t : Nat) (g : Enc.gd l) (ho : tracksOk l = true) (ht : ∀ x ∈ l,t < x.Inputs.length) : Con Tryz.prog 47 [] [al l,ai t] [.row 1 (els (rowAt l t))] (.tu [.c (.ref 0),.c (bv true)]) := by
 have hl := Ym l
 have c1 := Xu l g
 rw [ho] at c1
 have h4 := Kf ho
 have f1 : decide ((t : Int) < 0) = false := decide_eq_false (by omega)
 have hrl : (rowAt l t).length = l.length := by simp [rowAt]
 refine Con.of Tryz.func47 J Tryz.ntmps47 J (fun E => ?_)
 refine Wz [4,72,56] ?_;refine zx (Qj J J (c1) J) J ?_;refine Wz [14,16,10,8,35,7,12] ?_;refine M1 (q_makec 1 J J J J (by omega) (by omega) (by omega) (by omega) J (by simp)) J J ?_;refine Wz [2,11,28,12,78,13] ?_;refine Xi (fun m st => ∃ k : Nat,k + m = l.length ∧ (True) ∧ st = (⟨_,[(1,I t),(6,.o (.c (.ref 0))),(7,B true),(20,L l),(21,I (els l).length),(22,I k)],[.row 1 (els ((rowAt l t).take k))]⟩ : St)) (l.length) ⟨_,⟨0,by omega,trivial,J⟩,X7 [0] (by kernel_rfl)⟩ ?_
 rintro m_A _ ⟨k,hk_A,hp_A,rfl⟩
 have hl2 : (els ((rowAt l t).take k)).length = k := by rw [Ym]; simp; omega
 by_cases h3 : k < l.length
 ·have f2 : decide ((k : Int) < ((els l).length : Int)) = true := decide_eq_true (by omega)
  have hat := Yl h3
  have hm := List.getElem_mem h3
  have htk := ht _ hm
  have hli := Ym l[k].Inputs
  have c2 := I_Predict l[k] t (g.2 _ hm) (all_at ho h3) htk
  have f3 : decide (((els l[k].Inputs).length : Int) ≤ (t : Int)) = false := decide_eq_false (by omega)
  refine Wz [4,10,21,46,29,4,77,107,18,37,7,27,0] ?_;refine zx (Qj J J (c2) J) J ?_;refine Wz [54,87,2,7,17,12,95,45,38] ?_
  exact ⟨l.length - (k + 1),by omega,(fun k : Nat => (⟨_,[(1,I t),(6,.o (.c (.ref 0))),(7,B true),(20,L l),(21,I (els l).length),(22,I k)],[.row 1 (els ((rowAt l t).take k))]⟩ : St)) (k + 1),⟨k + 1,by omega,trivial,J⟩,X8 [0] (by decide) J (row_eq (rowAt_next h3)) (.c J (.c J (.c J (.c J (.c J (.c J (.nil)))))))⟩
 have f2 : decide ((k : Int) < ((els l).length : Int)) = false := decide_eq_false (by omega)
 have hk : (rowAt l t).take k = rowAt l t := List.take_of_length_le (by omega)
 rw [hk]
 refine Wz [4,10,21,47,32,39,72,34] ?_
 exact E_tmp2 J J J (X6 [0] (by decide) J J J)
end
section
open Go.RowKit

theorem at_nat {α : Type} [Enc α] {xs : List α} {i : Int} (h : i.toNat < xs.length) : (els xs)[i.toNat]? = some (Enc.e (xs[i.toNat]'h)) := by simp [els,h]
theorem world_ticks {w : TWorld} (h : worldOk w = true) : 0 ≤ w.Tick ∧ w.Tick ≤ 100000 := by
 have h2 := (Kh h).2.1
 rwa [Y0] at h2
section
variable {p : TPeer}
theorem no1 (h : (((!tracksOk p.Tracks || !worldOk p.Base) || !worldOk p.Now) || !decide (p.Base.Level = p.Now.Level)) = true) : ¬ PeerP p := fun ⟨⟨q1,q2,q3,q4⟩,_⟩ => by
 rw [q1,q2,q3,decide_eq_true q4] at h; exact absurd h (by decide)
theorem no2 (h : ((decide ((p.Base.Scores.length : Int) ≠ p.Tracks.length) || decide ((p.Now.Scores.length : Int) ≠ p.Tracks.length)) || !faultOk p.Fault p.Tracks.length) = true) : ¬ PeerP p := fun ⟨_,⟨q1,q2,q3⟩,_⟩ => by
 rw [q3,decide_eq_false (by omega),decide_eq_false (by omega)] at h; exact absurd h (by decide)
theorem no3 (h : ((!inR p.Me 0 ((p.Tracks.length : Int) - 1) || !inR p.Delay 0 5) || !inR p.Ahead 1 8) = true) : ¬ PeerP p := fun ⟨_,_,⟨q1,q2,q3⟩,_⟩ => by
 rw [Y0.2 q1,Y0.2 q2,Y0.2 q3] at h; exact absurd h (by decide)
theorem no4 (h : ((!inR p.Seed 0 65535 || !inR p.Rolls 0 1000000) || !inR p.Again 0 1000000) = true) : ¬ PeerP p := fun ⟨_,_,_,⟨q1,q2,q3⟩,_⟩ => by
 rw [Y0.2 q1,Y0.2 q2,Y0.2 q3] at h; exact absurd h (by decide)
theorem no5 (h : ((!inR (p.Now.Tick - p.Base.Tick) 0 p.Ahead || decide ((p.Used.length : Int) ≠ p.Now.Tick - p.Base.Tick)) || decide ((p.Saves.length : Int) ≠ p.Now.Tick - p.Base.Tick)) = true) : ¬ PeerP p := fun ⟨_,_,_,_,⟨q1,q2,q3⟩,_⟩ => by
 rw [Y0.2 q1,decide_eq_false (by omega),decide_eq_false (by omega)] at h; exact absurd h (by decide)
theorem fin_eq (h1 : tracksOk p.Tracks = true ∧ worldOk p.Base = true ∧ worldOk p.Now = true ∧ p.Base.Level = p.Now.Level)
  (h2 : p.Base.Scores.length = p.Tracks.length ∧ p.Now.Scores.length = p.Tracks.length ∧ faultOk p.Fault p.Tracks.length = true)
  (h3 : (0 ≤ p.Me ∧ p.Me ≤ (p.Tracks.length : Int) - 1) ∧ (0 ≤ p.Delay ∧ p.Delay ≤ 5) ∧ (1 ≤ p.Ahead ∧ p.Ahead ≤ 8))
  (h4 : (0 ≤ p.Seed ∧ p.Seed ≤ 65535) ∧ (0 ≤ p.Rolls ∧ p.Rolls ≤ 1000000) ∧ (0 ≤ p.Again ∧ p.Again ≤ 1000000))
  (h5 : (0 ≤ p.Now.Tick - p.Base.Tick ∧ p.Now.Tick - p.Base.Tick ≤ p.Ahead) ∧ (p.Used.length : Int) = p.Now.Tick - p.Base.Tick ∧ (p.Saves.length : Int) = p.Now.Tick - p.Base.Tick)
  (h6 : (p.Used.all fun row => rowOk row p.Tracks.length) = true ∧ ∀ k (h : k < p.Saves.length),p.Saves[k].Tick = p.Base.Tick + k) :
  ((decide (p.Base.Tick ≤ (knownTicks p.Tracks : Nat)) && decide (p.Now.Tick ≤ (lenAt p.Tracks p.Me.toNat : Nat))) && decide ((p.Sums.length : Int) = p.Base.Tick + 1)) = peerOk p := by
 by_cases h7 : p.Base.Tick ≤ knownTicks p.Tracks ∧ p.Now.Tick ≤ lenAt p.Tracks p.Me.toNat ∧ (p.Sums.length : Int) = p.Base.Tick + 1
 ·rw [peer_T ⟨h1,h2,h3,h4,h5,h6,h7⟩,decide_eq_true h7.1,decide_eq_true h7.2.1,decide_eq_true h7.2.2]; rfl
 ·rw [peer_F fun ⟨_,_,_,_,_,_,h8⟩ => h7 h8]
  rw [← Bool.not_eq_true]
  simp only [Bool.and_eq_true,decide_eq_true_eq]
  exact fun ⟨⟨a,b⟩,c⟩ => h7 ⟨a,b,c⟩
end
theorem Xs (x : TPeer) (hg : Enc.gd x) : Con Tryz.prog 43 [] [ag x] [] (B (peerOk x)) := by
 obtain ⟨gMe,gDe,gAh,gSe,gTr,gBa,gNo,gUs,gSa,gSu,gFa,gRo,gAg⟩ := hg
 have hlt := Ym x.Tracks
 have hlu := Ym x.Used
 have hls := Ym x.Saves
 have hlm := Ym x.Sums
 have hlb := Ym x.Base.Scores
 have hln := Ym x.Now.Scores
 have c1 := Xu x.Tracks gTr
 have c2 := Xv x.Base gBa
 have c3 := Xv x.Now gNo
 have c4 := I_sameLevel x.Base.Level x.Now.Level gBa.1
 have c5 := I_FaultOk x.Fault (els x.Tracks).length (by omega)
 have c6 := Xq x.Tracks gTr
 refine Con.of Tryz.func43 J Tryz.ntmps43 J (fun E => ?_)
 refine Wz [26,2,5,12,22,5] ?_;refine zx (Qj J J (c1) J) J ?_;refine Wz [14,0,86] ?_;refine zx (Qt.grdF J J J (.hit .stop) (fun hgrd => Qu J J J J J J)) J ?_;refine zx (Qt.grdF J J J (.hit (.hit .stop)) (fun hgrd => Qj J J (c2) J)) J ?_;refine Wz [126,43,0,86] ?_;refine zx (Qt.grdF J J J (.hit .stop) (fun hgrd => Qu J J J J J J)) J ?_;refine zx (Qt.grdF J J J (.hit (.hit .stop)) (fun hgrd => Qj J J (c3) J)) J ?_;refine Wz [126,43,0,86] ?_;refine zx (Qt.grdF J J J (.hit .stop) (fun hgrd => Qf J J J J (by decide))) J ?_;refine zx (Qt.grdF J J J (.hit (.hit .stop)) (fun hgrd => Qu J J J J J J)) J ?_;refine zx (Qt.grdF J J J (.hit (.hit (.hit .stop))) (fun hgrd => Qf J J J J (by decide))) J ?_;refine zx (Qt.grdF J J J (.hit (.hit (.hit (.hit .stop)))) (fun hgrd => Qf J J J J (by decide))) J ?_;refine zx (Qt.grdF J J J (.hit (.hit (.hit (.hit (.hit .stop))))) (fun hgrd => Qu J J J J J J)) J ?_;refine zx (Qt.grdF J J J (.hit (.hit (.hit (.hit (.hit (.hit .stop)))))) (fun hgrd => Qj J J (c4) J)) J ?_;refine zx (Qt.grdF J J J (.hit (.hit (.hit (.hit (.hit (.hit (.hit .stop))))))) (fun hgrd => Q4 J J J)) J ?_;refine Wz [43,1] ?_
 refine Xb J (fun h1 => ?_) (fun h1 => ?_)
 ·rw [peer_F (no1 h1)]
  refine Wz [55] ?_
  exact Xn J J (X6 [] (by decide) J J J)
 simp only [Bool.or_eq_false_iff,Bool.not_eq_false',decide_eq_true_eq] at h1
 obtain ⟨⟨⟨q1,q2⟩,q3⟩,q4⟩ := h1
 have tB := world_ticks q2
 have tN := world_ticks q3
 have tL := Kf q1
 refine AWP.pre (st' := (⟨_,[(1,.o (.c (.ptr 0 0))),(3,I (els x.Tracks).length)],[.box ((Enc.e x).map (V1.rd []))]⟩ : St)) ?_ (X7 [0] (by kernel_rfl))
 refine Wz [70,4,64,17,12,0,114,0,86] ?_;refine zx (Qt.grdF J J J (.hit .stop) (fun hgrd => Qf J J J J (by decide))) J ?_;refine zx (Qt.grdF J J J (.hit (.hit .stop)) (fun hgrd => Qg J J J J J)) J ?_;refine zx (Qt.grdF J J J (.hit (.hit (.hit .stop))) (fun hgrd => Zr J J J)) J ?_;refine zx (Qt.grdF J J J (.hit (.hit (.hit (.hit .stop)))) (fun hgrd => Qa J J J)) J ?_;refine zx (Qt.grdF J J J (.hit (.hit (.hit (.hit (.hit .stop))))) (fun hgrd => Zz J J J J)) J ?_;refine Wz [43,0,86] ?_;refine zx (Qt.grdF J J J (.hit .stop) (fun hgrd => Qu J J J J J J)) J ?_;refine zx (Qt.grdF J J J (.hit (.hit .stop)) (fun hgrd => Qa J J J)) J ?_;refine zx (Qt.grdF J J J (.hit (.hit (.hit .stop))) (fun hgrd => Qj J J (c5) J)) J ?_;refine zx (Qt.grdF J J J (.hit (.hit (.hit (.hit .stop)))) (fun hgrd => Q4 J J J)) J ?_;refine Wz [43,1] ?_
 refine Xb J (fun h2 => ?_) (fun h2 => ?_)
 ·rw [hlt,hlb,hln] at h2
  rw [peer_F (no2 h2)]
  refine Wz [55] ?_
  exact Xn J J (X6 [] (by decide) J J J)
 rw [hlt,hlb,hln] at h2
 simp only [Bool.or_eq_false_iff,Bool.not_eq_false',decide_eq_false_iff_not,Classical.not_not] at h2
 obtain ⟨⟨q5,q6⟩,q7⟩ := h2
 refine AWP.pre (st' := (⟨_,[(1,.o (.c (.ptr 0 0))),(3,I (els x.Tracks).length)],[.box ((Enc.e x).map (V1.rd []))]⟩ : St)) ?_ (X7 [0] (by kernel_rfl))
 refine Wz [70,5,0,73] ?_;refine zx (Qj J J (Xw x.Me 0 (((els x.Tracks).length : Int) - 1)) J) J ?_;refine Wz [14,0,86,94] ?_;refine zx (Qt.grdF J J J (.hit (.hit .stop)) (fun hgrd => Qj J J (Xw x.Delay 0 5) J)) J ?_;refine Wz [126,43,0,86,94] ?_;refine zx (Qt.grdF J J J (.hit (.hit .stop)) (fun hgrd => Qj J J (Xw x.Ahead 1 8) J)) J ?_;refine Wz [126,43,1] ?_
 refine Xb J (fun h3 => ?_) (fun h3 => ?_)
 ·rw [hlt] at h3
  rw [peer_F (no3 h3)]
  refine Wz [55] ?_
  exact Xn J J (X6 [] (by decide) J J J)
 rw [hlt] at h3
 simp only [Bool.or_eq_false_iff,Bool.not_eq_false',Y0] at h3
 obtain ⟨⟨q8,q9⟩,q10⟩ := h3
 refine AWP.pre (st' := (⟨_,[(1,.o (.c (.ptr 0 0))),(3,I (els x.Tracks).length)],[.box ((Enc.e x).map (V1.rd []))]⟩ : St)) ?_ (X7 [0] (by kernel_rfl))
 refine Wz [70,5] ?_;refine zx (Qj J J (Xw x.Seed 0 65535) J) J ?_;refine Wz [14,0,86,94] ?_;refine zx (Qt.grdF J J J (.hit (.hit .stop)) (fun hgrd => Qj J J (Xw x.Rolls 0 1000000) J)) J ?_;refine Wz [126,43,0,86,94] ?_;refine zx (Qt.grdF J J J (.hit (.hit .stop)) (fun hgrd => Qj J J (Xw x.Again 0 1000000) J)) J ?_;refine Wz [126,43,1] ?_
 refine Xb J (fun h4 => ?_) (fun h4 => ?_)
 ·rw [peer_F (no4 h4)]
  refine Wz [55] ?_
  exact Xn J J (X6 [] (by decide) J J J)
 simp only [Bool.or_eq_false_iff,Bool.not_eq_false',Y0] at h4
 obtain ⟨⟨q11,q12⟩,q13⟩ := h4
 refine AWP.pre (st' := (⟨_,[(1,.o (.c (.ptr 0 0))),(3,I (els x.Tracks).length)],[.box ((Enc.e x).map (V1.rd []))]⟩ : St)) ?_ (X7 [0] (by kernel_rfl))
 refine Wz [68,4,64,17,64,17,73,56,17] ?_;refine zx (Qj J J (Xw (x.Now.Tick - x.Base.Tick) 0 x.Ahead) J) J ?_;refine Wz [14,0,86,94,159] ?_;refine zx (Qt.grdF J J J (.hit (.hit (.hit .stop))) (fun hgrd => Qa J J J)) J ?_;refine zx (Qt.grdF J J J (.hit (.hit (.hit (.hit .stop)))) (fun hgrd => Zz J J J J)) J ?_;refine Wz [43,0,86,94,159] ?_;refine zx (Qt.grdF J J J (.hit (.hit (.hit .stop))) (fun hgrd => Qa J J J)) J ?_;refine zx (Qt.grdF J J J (.hit (.hit (.hit (.hit .stop)))) (fun hgrd => Zz J J J J)) J ?_;refine Wz [43,1] ?_
 refine Xb J (fun h5 => ?_) (fun h5 => ?_)
 ·rw [hlu,hls] at h5
  rw [peer_F (no5 h5)]
  refine Wz [55] ?_
  exact Xn J J (X6 [] (by decide) J J J)
 rw [hlu,hls] at h5
 simp only [Bool.or_eq_false_iff,Bool.not_eq_false',decide_eq_false_iff_not,Classical.not_not,Y0] at h5
 obtain ⟨⟨q14,q15⟩,q16⟩ := h5
 refine AWP.pre (st' := (⟨_,[(1,.o (.c (.ptr 0 0))),(3,I (els x.Tracks).length)],[.box ((Enc.e x).map (V1.rd []))]⟩ : St)) ?_ (X7 [0] (by kernel_rfl))
 refine Wz [70,5,12,78,13] ?_;refine Xi (fun m st => ∃ k : Nat,k + m = x.Used.length ∧ ((x.Used.take k).all (fun row => rowOk row x.Tracks.length) = true) ∧ st = (⟨_,[(1,.o (.c (.ptr 0 0))),(3,I (els x.Tracks).length),(120,L x.Used),(121,I (els x.Used).length),(122,I k)],[.box ((Enc.e x).map (V1.rd []))]⟩ : St)) (x.Used.length) ⟨_,⟨0,by omega,by simp,J⟩,X7 [0] (by kernel_rfl)⟩ ?_
 rintro m_A _ ⟨k,hk_A,hp_A,rfl⟩
 refine Wz [4,48,21] ?_
 refine Xb J (fun h => ?_) (fun h => ?_)
 ·have h3 : k < x.Used.length := by have := of_decide_eq_true h; omega
  have hat := Yl h3
  have hc := I_rowOk x.Used[k] (els x.Tracks).length (gUs.2 _ (List.getElem_mem h3))
  rw [hlt] at hc
  cases ho : rowOk x.Used[k] x.Tracks.length with
  | false =>
   rw [ho,← hlt] at hc
   rw [peer_F (fun hp => by have := hp.2.2.2.2.2.1.1; rw [all_no h3 ho] at this; cases this)]
   refine Wz [29,4,61,2,39] ?_;refine zx (Qj J J (hc) J) J ?_;refine Wz [14,9,62,63,25] ?_
   exact Xn J J (X6 [] (by decide) J J J)
  | true =>
   rw [ho,← hlt] at hc
   refine Wz [29,4,61,2,39] ?_;refine zx (Qj J J (hc) J) J ?_;refine Wz [14,45,38] ?_
   exact ⟨x.Used.length - (k + 1),by omega,_,⟨k + 1,by omega,all_next hp_A h3 ho,J⟩,X7 [0] (by kernel_rfl)⟩
 have h3 : ¬ ((k : Int) < (els x.Used).length) := of_decide_eq_false h
 have hall := all_end hp_A (by omega)
 refine Wz [32,20,5,12,78,13] ?_;refine Xi (fun m st => ∃ j : Nat,j + m = x.Saves.length ∧ ((∀ i (h : i < x.Saves.length),i < j → x.Saves[i].Tick = x.Base.Tick + i)) ∧ st = (⟨_,[(1,.o (.c (.ptr 0 0))),(3,I (els x.Tracks).length),(132,L x.Saves),(133,I (els x.Saves).length),(134,I j)],[.box ((Enc.e x).map (V1.rd []))]⟩ : St)) (x.Saves.length) ⟨_,⟨0,by omega,fun i _ hi => absurd hi (Nat.not_lt_zero _),J⟩,X7 [0] (by kernel_rfl)⟩ ?_
 rintro m_D _ ⟨j,hk_D,hp_D,rfl⟩
 refine Wz [4,48,21] ?_
 refine Xb J (fun h => ?_) (fun h => ?_)
 ·have h4 : j < x.Saves.length := by have := of_decide_eq_true h; omega
  have hat := Yl h4
  by_cases ho : x.Saves[j].Tick = x.Base.Tick + j
  ·have hb : decide (x.Saves[j].Tick ≠ x.Base.Tick + j) = false := decide_eq_false (fun h => h ho)
   refine Wz [52,77,107,18,72,37,5,64,17,89,69,45,38] ?_
   exact ⟨x.Saves.length - (j + 1),by omega,_,⟨j + 1,by omega,fun i hi hij => by by_cases e : i = j; subst e; exact ho; exact hp_D i hi (by omega),J⟩,X7 [0] (by kernel_rfl)⟩
  ·have hb : decide (x.Saves[j].Tick ≠ x.Base.Tick + j) = true := decide_eq_true ho
   rw [peer_F (fun hp => ho (hp.2.2.2.2.2.1.2 j h4))]
   refine Wz [52,77,107,18,72,37,5,64,17,89,69,9,62,63,25] ?_
   exact Xn J J (X6 [] (by decide) J J J)
 have h4 : ¬ ((j : Int) < (els x.Saves).length) := of_decide_eq_false h
 have hme : x.Me.toNat < x.Tracks.length := by omega
 have hat := at_nat (xs := x.Tracks) hme
 have hti := Ym x.Tracks[x.Me.toNat].Inputs
 have hla := lenAt_is hme
 rw [← fin_eq ⟨q1,q2,q3,q4⟩ ⟨by omega,by omega,q7⟩ ⟨q8,q9,q10⟩ ⟨q11,q12,q13⟩ ⟨q14,q15,q16⟩ ⟨hall,fun i hi => hp_D i hi (by omega)⟩,← hlm]
 by_cases k1 : x.Base.Tick ≤ (knownTicks x.Tracks : Nat)
 ·have hb1 : decide (x.Base.Tick ≤ ((knownTicks x.Tracks : Nat) : Int)) = true := decide_eq_true k1
  by_cases k2 : x.Now.Tick ≤ (lenAt x.Tracks x.Me.toNat : Nat)
  ·have hb2 : decide (x.Now.Tick ≤ ((els x.Tracks[x.Me.toNat].Inputs).length : Int)) = true := decide_eq_true (by omega)
   rw [hb1,decide_eq_true k2]
   refine Wz [32,20] ?_;refine Xh u8_21 u8_22 u8_23 J ?_;refine Wz [140,33,33] ?_;refine DR.s (Qj J J (c6) J) J J ?_;refine DR.s (Zu J J J J (by assumption)) J J ?_;refine Wz [3,23,23,103] ?_;refine DR.s (Qt.yes J J J (q_fldr J J J J (by decide))) J J ?_;refine Wz [127,147,167,23] ?_;refine DR.s (Qt.yes J J J (Zp J J J J (by assumption))) J J ?_;refine Wz [65,3,23,147,167,23] ?_;refine DR.s (Qt.yes J J J (Qs J J J J (by omega))) J J (DR.s (Qt.yes J J J (Zm J J J J)) J J ?_);refine Wz [65,109,31,1,67] ?_
   exact Xn J J (X6 [] (by decide) J J J)
  ·have hb2 : decide (x.Now.Tick ≤ ((els x.Tracks[x.Me.toNat].Inputs).length : Int)) = false := decide_eq_false (by omega)
   rw [hb1,decide_eq_false k2]
   refine Wz [32,20] ?_;refine Xh u8_21 u8_22 u8_23 J ?_;refine Wz [140,33,33] ?_;refine DR.s (Qj J J (c6) J) J J ?_;refine DR.s (Zu J J J J (by assumption)) J J ?_;refine Wz [3,23,23,103] ?_;refine DR.s (Qt.yes J J J (q_fldr J J J J (by decide))) J J ?_;refine Wz [127,147,167,23] ?_;refine DR.s (Qt.yes J J J (Zp J J J J (by assumption))) J J ?_;refine Wz [65,3,58,58,59,109,31,1,67] ?_
   exact Xn J J (X6 [] (by decide) J J J)
 ·have hb1 : decide (x.Base.Tick ≤ ((knownTicks x.Tracks : Nat) : Int)) = false := decide_eq_false k1
  rw [hb1]
  refine Wz [32,20] ?_;refine Xh u8_21 u8_22 u8_23 J ?_;refine Wz [140,33,33] ?_;refine DR.s (Qj J J (c6) J) J J ?_;refine DR.s (Zu J J J J (by assumption)) J J ?_;refine Wz [3,58,58,58,59,3,58,58,59,109,31,1,67] ?_
  exact Xn J J (X6 [] (by decide) J J J)
end
section
open Go.RowKit

theorem split_len (l : List UInt8) : (l.takeWhile zeroB).length + ((l.dropWhile zeroB).takeWhile someB).length + ((l.dropWhile zeroB).dropWhile someB).length = l.length := by
 have h1 := congrArg List.length (List.takeWhile_append_dropWhile (p := zeroB) (l := l))
 have h2 := congrArg List.length (List.takeWhile_append_dropWhile (p := someB) (l := l.dropWhile zeroB))
 rw [List.length_append] at h1 h2
 omega
theorem packZ_len : ∀ (n : Nat) (l : List UInt8),l.length ≤ n → (packZ l).length ≤ 13 * l.length
 | 0,l,h => by
  have : l = [] := List.eq_nil_of_length_eq_zero (by omega)
  subst this
  rw [packZ_nil]
  simp
 | n + 1,[],h => by rw [packZ_nil]; simp
 | n + 1,x :: r,h => by
  have h1 := packZ_ne x r
  have h2 := split_len (x :: r)
  have h3 := Yq (((x :: r).takeWhile zeroB).length : Nat)
  have h4 := Yq ((((x :: r).dropWhile zeroB).takeWhile someB).length : Nat)
  have h5 := packZ_len n (((x :: r).dropWhile zeroB).dropWhile someB) (by omega)
  rw [packZ]
  simp only [List.length_append]
  omega
def deltaT (a b : ByteArray) : ByteArray := bs (encVar b.size) ++ bs (packZ (xorText a b).data.toList)
theorem deltaT_size (a b : ByteArray) : (deltaT a b).size ≤ 6 + 13 * b.size := by
 have h1 := Yq (b.size : Int)
 have h2 := packZ_len _ (xorText a b).data.toList (Nat.le_refl _)
 have h3 : (xorText a b).data.toList.length = b.size := by
  have := xorL_len a b
  have h4 : b.data.toList.length = b.size := by simp
  show ((xorL a b).toArray).toList.length = b.size
  simp
  omega
 rw [deltaT,ByteArray.size_append]
 show ((encVar b.size).toArray).size + ((packZ (xorText a b).data.toList).toArray).size ≤ _
 simp
 omega
theorem I_DeltaText (a b : ByteArray) (ha : a.size ≤ 1048576) (hb : b.size ≤ 1048576) : Con Tryz.prog 48 [] [astr a,astr b] [] (S (deltaT a b)) := by
 have c1 := Xo b.size
 have c2 := I_XorText a b (by omega) (by omega)
 have hx : (xorText a b).size = b.size := by
  have := xorL_len a b
  have h4 : b.data.toList.length = b.size := by simp
  show ((xorL a b).toArray).size = b.size
  simp
  omega
 have c3 := I_PackZeros (xorText a b) (by omega)
 have hsz := deltaT_size a b
 rw [deltaT,ByteArray.size_append] at hsz
 rw [deltaT]
 refine Con.of Tryz.func48 J Tryz.ntmps48 J (fun E => ?_)
 refine Wz [11,7,80] ?_;refine zx (Qj J J (c1) J) J ?_;refine Wz [0,0] ?_;refine zx (Qj J J (c2) J) J ?_;refine zx (Qj J J (c3) J) J ?_;refine zx (q_cat J J J J (by omega)) J ?_;refine Wz [34] ?_
 exact Xn J J (X6 [] (by decide) J J J)
end
end Go.Proofs.YtpmacgnmlmmojaaGreatDoor
