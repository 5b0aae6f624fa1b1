/-
  Parts of the proof (rules, data, and what functions of the program and of the reference return), among them: XorText, in the program and in the reference; UnpackZeros and ApplyDelta, in the program and in the reference.
  Conditions: those that each theorem names.
-/
import Derived.Test.YtbfhboakafjjgaaGreatDDReplRowk15
import Derived.Test.YtbfhboakafjjgaaGreatDDReplRowk22
import Derived.Test.YtbfhboakafjjgaaGreatDDReplRowk35
set_option linter.unusedSimpArgs false
set_option linter.unusedVariables false
set_option maxRecDepth 8000
set_option maxHeartbeats 8000000
namespace Go.Proofs.YtbfhboakafjjgaaGreat
section
open Go.RowKit

theorem upZ {s : ByteArray} {i q : Nat} (h : ∀ j,i ≤ j → j < q → byteAt s j = 0) (hq : byteAt s q = 0) : ∀ j,i ≤ j → j < q + 1 → byteAt s j = 0 := fun j h1 h2 => by
 by_cases e : j = q
 ·subst e; exact hq
 ·exact h j h1 (by omega)
theorem upN {s : ByteArray} {i q : Nat} (h : ∀ j,i ≤ j → j < q → byteAt s j ≠ 0) (hq : byteAt s q ≠ 0) : ∀ j,i ≤ j → j < q + 1 → byteAt s j ≠ 0 := fun j h1 h2 => by
 by_cases e : j = q
 ·subst e; exact hq
 ·exact h j h1 (by omega)
theorem text_len (t : ByteArray) : (packText t).data.toList.length ≤ t.size + 6 := by
 rw [text_list,List.length_append]
 have := Yt (t.size : Nat)
 have e : t.data.toList.length = t.size := by simp
 omega
theorem I_PackZeros (s : ByteArray) (hs : s.size ≤ 1099511627775) : Con Tryz.prog 60 [] [astr s] [] (S (bs (packZ s.data.toList))) := by
 refine Con.of Tryz.func60 J Tryz.ntmps60 J (fun E => ?_)
 refine zy (z1 J (zz (zy (z1 J (zz (zy ?_))))));refine z1 J (zz (Qd (Qk ?_)))
 refine AWP.pre ?_ (W_nil 3 1 J)
 refine A_lq (fun m__ st => ∃ (i : Nat) (acc : List UInt8),s.size - i = m__ ∧ (acc ++ packZ (s.data.toList.drop i) = packZ s.data.toList ∧ i ≤ s.size ∧ acc.length ≤ 14 * i) ∧ st = (⟨_,[(0,S s),(3,.o (.c (.ref 0))),(4,I i)],[.row 1 (bE acc)]⟩ : St)) _ ⟨_,⟨0,[],J,by simp,J⟩,W_gj [0] (by kernel_rfl)⟩ ?_
 rintro m_A _ ⟨i,acc,hk_A,hp_A,rfl⟩
 obtain ⟨hp1,hp2,hp3⟩ := hp_A
 refine Qd (zy (z0 J (z0 J (zx (Zy J J J) J (zx (Z1 J J J J) J (zz ?_))))))
 refine Xb J (fun h5 => ?_) (fun h5 => ?_)
 ·have h5 : i < s.size := by have := of_decide_eq_true h5; omega
  have hb := Yc acc
  have hb1 := Yg acc
  refine Qh (Q0 (Qk (zy (z0 J (z1 J (zz (Qd (Qk ?_))))))));refine A_lq (fun m__ st => ∃ (q : Nat),s.size - q = m__ ∧ (i ≤ q ∧ q ≤ s.size ∧ (∀ j,i ≤ j → j < q → byteAt s j = 0)) ∧ st = (⟨_,[(0,S s),(3,.o (.c (.ref 0))),(4,I q),(5,I i)],[.row 1 (bE acc)]⟩ : St)) _ ⟨_,⟨i,J,⟨Nat.le_refl _,by omega,fun q h1 h2 => by omega⟩,J⟩,W_gj [0] (by kernel_rfl)⟩ ?_
  rintro m_D _ ⟨q,hk_D,hp_D,rfl⟩
  obtain ⟨hd1,hd2,hd3⟩ := hp_D
  by_cases hq : q < s.size
  ·have f1 : decide ((q : Int) < s.size) = true := decide_eq_true (by omega)
   by_cases hz : byteAt s q = 0
   ·have f2 : decide (byteAt s (q : Int).toNat = 0) = true := decide_eq_true hz
    refine Qd (zy (z0 J (z0 J (zx (Zy J J J) J (z9a J (by assumption) (z0 J (z5 J (z0 J (z5 J (z0 J ?_))))))))));refine z5 J (zx (Zn J J J J (by assumption) (by omega)) J (z5 J ?_));refine zx (Qv (b := true) J J J J (by decide)) J ?_;refine zpT J (zz (Qm J (Qh (Q0 (Qk (Qc (z0 J (z7 J (by omega) (z1 J (Qe ?_))))))))));refine Q1 (Q0 ?_)
    refine ⟨_,(by omega),_,⟨q + 1,J,⟨by omega,by omega,upZ hd3 hz⟩,J⟩,W_gj [0] (by kernel_rfl)⟩
   ·have f2 : decide (byteAt s (q : Int).toNat = 0) = false := decide_eq_false hz
    refine Qd (zy (z0 J (z0 J (zx (Zy J J J) J (z9a J (by assumption) (z0 J (z5 J (z0 J (z5 J (z0 J ?_))))))))));refine z5 J (zx (Zm J J J J (by omega)) J (z5 J (z9e J (by assumption) (zpT J (zz (Ql J (Q9 (T_x (T_x (Xl ?_))))))))));refine Q0 (zy (z0 J (z1 J (zz (Qd (Qk ?_))))));refine A_lq (fun m__ st => ∃ (e : Nat),s.size - e = m__ ∧ (q ≤ e ∧ e ≤ s.size ∧ (∀ j,q ≤ j → j < e → byteAt s j ≠ 0)) ∧ st = (⟨_,[(0,S s),(3,.o (.c (.ref 0))),(4,I e),(5,I i),(6,I q)],[.row 1 (bE acc)]⟩ : St)) _ ⟨_,⟨q,J,⟨Nat.le_refl _,hd2,fun j h1 h2 => by omega⟩,J⟩,W_gj [0] (by kernel_rfl)⟩ ?_
    rintro m_G _ ⟨e,hk_G,hp_G,rfl⟩
    obtain ⟨hg1,hg2,hg3⟩ := hp_G
    by_cases he : e < s.size
    ·have f3 : decide ((e : Int) < s.size) = true := decide_eq_true (by omega)
     by_cases hn : byteAt s e ≠ 0
     ·have f4 : decide (byteAt s (e : Int).toNat ≠ 0) = true := decide_eq_true hn
      refine Qd (zy (z0 J (z0 J (zx (Zy J J J) J (z9a J (by assumption) (z0 J (z5 J (z0 J (z5 J (z0 J ?_))))))))));refine z5 J (zx (Zm J J J J (by omega)) J (z5 J (z9f J (by assumption) (zpT J (zz (Qm J (Qh (Q0 (Qk (Qc ?_))))))))));refine z0 J (z7 J (by omega) (z1 J (Qe (Q1 (Q0 ?_)))))
      refine ⟨_,(by omega),_,⟨e + 1,J,⟨by omega,by omega,upN hg3 hn⟩,J⟩,W_gj [0] (by kernel_rfl)⟩
     ·have hn := Classical.not_not.1 hn
      have f4 : decide (byteAt s (e : Int).toNat ≠ 0) = false := decide_eq_false (fun q => q hn)
      have hie : i < e := by
       rcases Nat.lt_or_ge i e with h6 | h6
       ·exact h6
       ·exact absurd hn (by have : e = q := (by omega); rw [this]; exact (fun _ => hz) (by omega))
      have hst := packZ_step hd1 hg1 hg2 hie hd3 (fun _ => hz) hg3 (fun _ => hn)
      have hl1 := Yt ((q - i : Nat) : Int)
      have hl2 := text_len (s.extract q e)
      have hl3 : (s.extract q e).size = e - q := by rw [ByteArray.size_extract]; omega
      have hl4 := Yg (encVar ((q - i : Nat) : Int))
      have hl5 := Ze (s.extract q e)
      have hl6 : (packText (s.extract q e)).data.toList.length = (packText (s.extract q e)).size := by simp
      have ee : (q : Int) - i = ((q - i : Nat) : Int) := by omega
      have hce := Xs ((q - i : Nat) : Int)
      have hct := I_PackText (s.extract q e) (by omega)
      have hst2 : (acc ++ encVar ((q - i : Nat) : Int) ++ (packText (s.extract q e)).data.toList) ++ packZ (s.data.toList.drop e) = packZ s.data.toList := by rw [← hp1,hst]; simp only [List.append_assoc]
      have hl1' := hl1
      rw [← ee] at hce hl1 hl4
      have hq1 : (bE (bs (encVar ((q : Int) - i))).data.toList).length = (encVar ((q : Int) - i)).length := by rw [Yc,Yf]
      have hq2 : (bE (encVar ((q : Int) - i))).length = (encVar ((q : Int) - i)).length := Yc _
      refine Qd (zy (z0 J (z0 J (zx (Zy J J J) J (z9a J (by assumption) (z0 J (z5 J (z0 J (z5 J (z0 J ?_))))))))));refine z5 J (zx (Zn J J J J (by assumption) (by omega)) J (z5 J ?_));refine zx (Qw (b := false) J J J J (by decide)) J ?_;refine zpT J (zz (Ql J (Q9 (T_x (T_x (Xl (Q0 (zy (z0 J ?_)))))))));refine z0 J (z0 J (z8 J (by omega) ?_));refine zx (Qj J J (hce) J) J ?_;refine X0 J J J J J J J (by omega) (by omega) ?_;refine z1 J (zz (Qc (z0 J (z0 J (z0 J (z0 J (zx (Z7 J J J J J (by omega)) J ?_)))))));refine zx (Qj J J (hct) J) J ?_
      refine X0 J J J J J J J (by simp only [List.length_append]; omega) (by simp only [List.length_append]; omega) ?_;refine z1 J ?_
      refine Qe (Q1 (Q0 ?_))
      refine ⟨_,(by omega),_,⟨e,acc ++ encVar ((q - i : Nat) : Int) ++ (packText (s.extract q e)).data.toList,J,⟨hst2,hg2,by simp only [List.length_append]; omega⟩,J⟩,(by rw [Yf,Yb,Yb,ee]; exact W_gj [0] (by kernel_rfl))⟩
    ·have f3 : decide ((e : Int) < s.size) = false := decide_eq_false (by omega)
     have hst := packZ_step hd1 hg1 hg2 (by omega) hd3 (fun _ => hz) hg3 (fun h6 => absurd h6 he)
     have hl1 := Yt ((q - i : Nat) : Int)
     have hl2 := text_len (s.extract q e)
     have hl3 : (s.extract q e).size = e - q := by rw [ByteArray.size_extract]; omega
     have hl4 := Yg (encVar ((q - i : Nat) : Int))
     have hl5 := Ze (s.extract q e)
     have hl6 : (packText (s.extract q e)).data.toList.length = (packText (s.extract q e)).size := by simp
     have ee : (q : Int) - i = ((q - i : Nat) : Int) := by omega
     have hce := Xs ((q - i : Nat) : Int)
     have hct := I_PackText (s.extract q e) (by omega)
     have hst2 : (acc ++ encVar ((q - i : Nat) : Int) ++ (packText (s.extract q e)).data.toList) ++ packZ (s.data.toList.drop e) = packZ s.data.toList := by rw [← hp1,hst]; simp only [List.append_assoc]
     have hl1' := hl1
     rw [← ee] at hce hl1 hl4
     have hq1 : (bE (bs (encVar ((q : Int) - i))).data.toList).length = (encVar ((q : Int) - i)).length := by rw [Yc,Yf]
     have hq2 : (bE (encVar ((q : Int) - i))).length = (encVar ((q : Int) - i)).length := Yc _
     refine Qd (zy (z0 J (z0 J (zx (Zy J J J) J (z9a J (by assumption) (z0 J (z6 J (z6 J (z6 J (z6 J ?_))))))))));refine zpF J (zz (Ql J (Q9 (T_x (T_x (Xl (Q0 (zy (z0 J ?_)))))))));refine z0 J (z0 J (z8 J (by omega) ?_));refine zx (Qj J J (hce) J) J ?_;refine X0 J J J J J J J (by omega) (by omega) ?_;refine z1 J (zz (Qc (z0 J (z0 J (z0 J (z0 J (zx (Z7 J J J J J (by omega)) J ?_)))))));refine zx (Qj J J (hct) J) J ?_
     refine X0 J J J J J J J (by simp only [List.length_append]; omega) (by simp only [List.length_append]; omega) ?_;refine z1 J ?_
     refine Qe (Q1 (Q0 ?_))
     refine ⟨_,(by omega),_,⟨e,acc ++ encVar ((q - i : Nat) : Int) ++ (packText (s.extract q e)).data.toList,J,⟨hst2,hg2,by simp only [List.length_append]; omega⟩,J⟩,(by rw [Yf,Yb,Yb,ee]; exact W_gj [0] (by kernel_rfl))⟩
  ·have f1 : decide ((q : Int) < s.size) = false := decide_eq_false (by omega)
   refine Qd (zy (z0 J (z0 J (zx (Zy J J J) J (z9a J (by assumption) (z0 J (z6 J (z6 J (z6 J (z6 J ?_))))))))));refine zpF J (zz (Ql J (Q9 (T_x (T_x (Xl (Q0 (zy (z0 J ?_)))))))));refine z1 J (zz (Qd (Qk ?_)));refine A_lq (fun m__ st => ∃ (e : Nat),s.size - e = m__ ∧ (q ≤ e ∧ e ≤ s.size ∧ (∀ j,q ≤ j → j < e → byteAt s j ≠ 0)) ∧ st = (⟨_,[(0,S s),(3,.o (.c (.ref 0))),(4,I e),(5,I i),(6,I q)],[.row 1 (bE acc)]⟩ : St)) _ ⟨_,⟨q,J,⟨Nat.le_refl _,hd2,fun j h1 h2 => by omega⟩,J⟩,W_gj [0] (by kernel_rfl)⟩ ?_
   rintro m_G _ ⟨e,hk_G,hp_G,rfl⟩
   obtain ⟨hg1,hg2,hg3⟩ := hp_G
   by_cases he : e < s.size
   ·have f3 : decide ((e : Int) < s.size) = true := decide_eq_true (by omega)
    by_cases hn : byteAt s e ≠ 0
    ·have f4 : decide (byteAt s (e : Int).toNat ≠ 0) = true := decide_eq_true hn
     refine Qd (zy (z0 J (z0 J (zx (Zy J J J) J (z9a J (by assumption) (z0 J (z5 J (z0 J (z5 J (z0 J ?_))))))))));refine z5 J (zx (Zm J J J J (by omega)) J (z5 J (z9f J (by assumption) (zpT J (zz (Qm J (Qh (Q0 (Qk (Qc ?_))))))))));refine z0 J (z7 J (by omega) (z1 J (Qe (Q1 (Q0 ?_)))))
     refine ⟨_,(by omega),_,⟨e + 1,J,⟨by omega,by omega,upN hg3 hn⟩,J⟩,W_gj [0] (by kernel_rfl)⟩
    ·have hn := Classical.not_not.1 hn
     have f4 : decide (byteAt s (e : Int).toNat ≠ 0) = false := decide_eq_false (fun q => q hn)
     have hie : i < e := by
      rcases Nat.lt_or_ge i e with h6 | h6
      ·exact h6
      ·exact absurd hn (by have : e = q := (by omega); rw [this]; exact (fun h6 => absurd h6 hq) (by omega))
     have hst := packZ_step hd1 hg1 hg2 hie hd3 (fun h6 => absurd h6 hq) hg3 (fun _ => hn)
     have hl1 := Yt ((q - i : Nat) : Int)
     have hl2 := text_len (s.extract q e)
     have hl3 : (s.extract q e).size = e - q := by rw [ByteArray.size_extract]; omega
     have hl4 := Yg (encVar ((q - i : Nat) : Int))
     have hl5 := Ze (s.extract q e)
     have hl6 : (packText (s.extract q e)).data.toList.length = (packText (s.extract q e)).size := by simp
     have ee : (q : Int) - i = ((q - i : Nat) : Int) := by omega
     have hce := Xs ((q - i : Nat) : Int)
     have hct := I_PackText (s.extract q e) (by omega)
     have hst2 : (acc ++ encVar ((q - i : Nat) : Int) ++ (packText (s.extract q e)).data.toList) ++ packZ (s.data.toList.drop e) = packZ s.data.toList := by rw [← hp1,hst]; simp only [List.append_assoc]
     have hl1' := hl1
     rw [← ee] at hce hl1 hl4
     have hq1 : (bE (bs (encVar ((q : Int) - i))).data.toList).length = (encVar ((q : Int) - i)).length := by rw [Yc,Yf]
     have hq2 : (bE (encVar ((q : Int) - i))).length = (encVar ((q : Int) - i)).length := Yc _
     refine Qd (zy (z0 J (z0 J (zx (Zy J J J) J (z9a J (by assumption) (z0 J (z5 J (z0 J (z5 J (z0 J ?_))))))))));refine z5 J (zx (Zn J J J J (by assumption) (by omega)) J (z5 J ?_));refine zx (Qw (b := false) J J J J (by decide)) J ?_;refine zpT J (zz (Ql J (Q9 (T_x (T_x (Xl (Q0 (zy (z0 J ?_)))))))));refine z0 J (z0 J (z8 J (by omega) ?_));refine zx (Qj J J (hce) J) J ?_;refine X0 J J J J J J J (by omega) (by omega) ?_;refine z1 J (zz (Qc (z0 J (z0 J (z0 J (z0 J (zx (Z7 J J J J J (by omega)) J ?_)))))));refine zx (Qj J J (hct) J) J ?_
     refine X0 J J J J J J J (by simp only [List.length_append]; omega) (by simp only [List.length_append]; omega) ?_;refine z1 J ?_
     refine Qe (Q1 (Q0 ?_))
     refine ⟨_,(by omega),_,⟨e,acc ++ encVar ((q - i : Nat) : Int) ++ (packText (s.extract q e)).data.toList,J,⟨hst2,hg2,by simp only [List.length_append]; omega⟩,J⟩,(by rw [Yf,Yb,Yb,ee]; exact W_gj [0] (by kernel_rfl))⟩
   ·have f3 : decide ((e : Int) < s.size) = false := decide_eq_false (by omega)
    have hst := packZ_step hd1 hg1 hg2 (by omega) hd3 (fun h6 => absurd h6 hq) hg3 (fun h6 => absurd h6 he)
    have hl1 := Yt ((q - i : Nat) : Int)
    have hl2 := text_len (s.extract q e)
    have hl3 : (s.extract q e).size = e - q := by rw [ByteArray.size_extract]; omega
    have hl4 := Yg (encVar ((q - i : Nat) : Int))
    have hl5 := Ze (s.extract q e)
    have hl6 : (packText (s.extract q e)).data.toList.length = (packText (s.extract q e)).size := by simp
    have ee : (q : Int) - i = ((q - i : Nat) : Int) := by omega
    have hce := Xs ((q - i : Nat) : Int)
    have hct := I_PackText (s.extract q e) (by omega)
    have hst2 : (acc ++ encVar ((q - i : Nat) : Int) ++ (packText (s.extract q e)).data.toList) ++ packZ (s.data.toList.drop e) = packZ s.data.toList := by rw [← hp1,hst]; simp only [List.append_assoc]
    have hl1' := hl1
    rw [← ee] at hce hl1 hl4
    have hq1 : (bE (bs (encVar ((q : Int) - i))).data.toList).length = (encVar ((q : Int) - i)).length := by rw [Yc,Yf]
    have hq2 : (bE (encVar ((q : Int) - i))).length = (encVar ((q : Int) - i)).length := Yc _
    refine Qd (zy (z0 J (z0 J (zx (Zy J J J) J (z9a J (by assumption) (z0 J (z6 J (z6 J (z6 J (z6 J ?_))))))))));refine zpF J (zz (Ql J (Q9 (T_x (T_x (Xl (Q0 (zy (z0 J ?_)))))))));refine z0 J (z0 J (z8 J (by omega) ?_));refine zx (Qj J J (hce) J) J ?_;refine X0 J J J J J J J (by omega) (by omega) ?_;refine z1 J (zz (Qc (z0 J (z0 J (z0 J (z0 J (zx (Z7 J J J J J (by omega)) J ?_)))))));refine zx (Qj J J (hct) J) J ?_
    refine X0 J J J J J J J (by simp only [List.length_append]; omega) (by simp only [List.length_append]; omega) ?_;refine z1 J ?_
    refine Qe (Q1 (Q0 ?_))
    refine ⟨_,(by omega),_,⟨e,acc ++ encVar ((q - i : Nat) : Int) ++ (packText (s.extract q e)).data.toList,J,⟨hst2,hg2,by simp only [List.length_append]; omega⟩,J⟩,(by rw [Yf,Yb,Yb,ee]; exact W_gj [0] (by kernel_rfl))⟩
 ·have h5 : i = s.size := by have := of_decide_eq_false h5; omega
  have e : s.data.toList.length = s.size := by simp
  refine Q9 (T_x (T_x (Xl (Q0 (zy (z0 J (zx (q_bstr J J J J) J (z1 J (zz ?_)))))))));refine Xa (F_r ?_)
  exact Xp J J (X5 [] (by decide) J J (S_eq (congrArg bs (by rw [← hp1,h5,List.drop_eq_nil_of_le (by omega),packZ_nil,List.append_nil]))))
end
section
open Go.RowKit

def xorB (a : ByteArray) (i : Nat) (x : UInt8) : UInt8 := if i < a.size then UInt8.ofNat (x.toNat ^^^ (byteAt a i).toNat) else x
def xorL (a b : ByteArray) : List UInt8 := (List.range b.size).map fun i => xorB a i (b.data.toList.getD i 0)
def xorText (a b : ByteArray) : ByteArray := bs (xorL a b)
theorem xorL_len (a b : ByteArray) : (xorL a b).length = b.data.toList.length := by simp [xorL]
theorem xorL_at {a b : ByteArray} {i : Nat} (h : i < (xorL a b).length) (h' : i < b.data.toList.length) : (xorL a b)[i] = xorB a i b.data.toList[i] := by
 have h2 : b.data.toList.getD i 0 = b.data.toList[i] := by rw [List.getD_eq_getElem?_getD,List.getElem?_eq_getElem h']; rfl
 simp only [xorL,List.getElem_map,List.getElem_range,h2]
theorem mk_nextL {α : Type} {ms xs : List α} (hl : ms.length = xs.length) {i : Nat} (h : i < xs.length) : ms.take (i + 1) ++ xs.drop (i + 1) = (ms.take i ++ xs.drop i).set i (ms[i]'(by omega)) := by
 have h2 : i < ms.length := by omega
 have hi : (ms.take i).length = i := by simp; omega
 rw [List.take_succ_eq_append_getElem h2,List.set_append_right _ _ (by omega)]
 have : i - (ms.take i).length = 0 := by omega
 rw [this,List.drop_eq_getElem_cons h,List.set_cons_zero,List.append_assoc]
 rfl
theorem bE_set (l : List UInt8) (i : Nat) (x : UInt8) : bE (l.set i x) = (bE l).set i [.v (.int .u8 (x.toNat : Int))] := by simp [bE,List.map_set]
theorem bE_at {l : List UInt8} {i : Nat} (h : i < l.length) : (bE l)[(i : Int).toNat]? = some [.v (.int .u8 ((l[i]).toNat : Int))] := by
 rw [Int.toNat_natCast,bE,List.getElem?_map,List.getElem?_eq_getElem h]
 rfl
theorem xor_end {a b : ByteArray} {i : Nat} (hi : i ≤ b.data.toList.length) (h : b.data.toList.length ≤ i ∨ a.size ≤ i) : (xorL a b).take i ++ b.data.toList.drop i = xorL a b := by
 have hl := xorL_len a b
 have hml := mk_len hl hi
 apply List.ext_getElem?
 intro j
 by_cases hj : j < i
 ·by_cases hjl : j < (xorL a b).length
  ·rw [List.getElem?_append_left (by simp; omega),List.getElem?_take,if_pos hj]
  ·rw [List.getElem?_eq_none (by omega),List.getElem?_eq_none (by omega)]
 ·by_cases hjl : j < (xorL a b).length
  ·have ha : a.size ≤ i := by omega
   have hti : ((xorL a b).take i).length = i := by simp; omega
   rw [List.getElem?_append_right (by omega),hti,List.getElem?_drop,show i + (j - i) = j by omega,List.getElem?_eq_getElem (by omega),List.getElem?_eq_getElem hjl,xorL_at hjl (by omega),xorB,if_neg (by omega)]
  ·rw [List.getElem?_eq_none (by omega),List.getElem?_eq_none (by omega)]
theorem I_XorText (a b : ByteArray) (ha : a.size ≤ 1099511627776) (hb : b.size ≤ 1099511627776) : Con Tryz.prog 61 [] [astr a,astr b] [] (S (xorText a b)) := by
 have hl := xorL_len a b
 have hbl : b.data.toList.length = b.size := by simp
 refine Con.of Tryz.func61 J Tryz.ntmps61 J (fun E => ?_)
 refine zy (z1 J (zz (zy (z0 J (M1 (q_strb J J J (by omega)) J J (z1 J (zz ?_)))))));refine Qd (zy (z1 J (zz (Qk ?_))));refine A_lq (fun m__ st => ∃ (i : Nat),b.size - i = m__ ∧ (i ≤ b.size ∧ i ≤ a.size) ∧ st = (⟨_,[(0,S a),(5,.o (.c (.ref 0))),(6,I i)],[.row 1 (bE ((xorL a b).take i ++ b.data.toList.drop i))]⟩ : St)) _ ⟨_,⟨0,J,⟨Nat.zero_le _,Nat.zero_le _⟩,J⟩,W_gj [0] (by kernel_rfl)⟩ ?_
 rintro m_A _ ⟨i,hk_A,hp_A,rfl⟩
 have hrow : (bE ((xorL a b).take i ++ b.data.toList.drop i)).length = b.size := by rw [Yc,mk_len hl (by omega)]; exact hbl
 refine Qd (zy (z0 J (z0 J (zx (Zx J J J J) J (zx (Z1 J J J J) J (z0 J ?_))))));refine zx (Qt.grdT J J J .stop (fun hgrd => Qa J J J)) J ?_;refine zx (Qt.grdT J J J (.hit .stop) (fun hgrd => Qa J J J)) J ?_;refine zx (Qt.grdT J J J (.hit (.hit .stop)) (fun hgrd => Zy J J J)) J ?_;refine zx (Qt.grdT J J J (.hit (.hit (.hit .stop))) (fun hgrd => Z1 J J J J)) J ?_;refine zx (Zg J J J J) J (zz ?_)
 refine Xb J (fun h => ?_) (fun h => ?_)
 ·simp only [Bool.and_eq_true,decide_eq_true_eq] at h
  have hib : i < b.data.toList.length := by omega
  have hil : i < ((xorL a b).take i ++ b.data.toList.drop i).length := by rw [mk_len hl (by omega)]; exact hib
  have hat := bE_at hil
  rw [mk_at hl hib] at hat
  obtain ⟨c,hc⟩ : ∃ c : UInt8,c = b.data.toList[i] := ⟨_,rfl⟩
  rw [← hc] at hat
  have hc2 := c.toNat_lt
  have hby := Yh a i
  have hy : (UInt8.ofNat (c.toNat ^^^ (byteAt a i).toNat)).toNat = c.toNat ^^^ (byteAt a i).toNat := by
   have : c.toNat ^^^ (byteAt a i).toNat < 2 ^ 8 := Nat.xor_lt_two_pow (by omega) (by omega)
   rw [UInt8.toNat_ofNat']
   exact Nat.mod_eq_of_lt this
  have hby2 : byteAt a (i : Int).toNat = byteAt a i := rfl
  have hend : bE ((xorL a b).take (i + 1) ++ b.data.toList.drop (i + 1)) = (bE ((xorL a b).take i ++ b.data.toList.drop i)).set (i : Int).toNat (splice [.v (.int .u8 (c.toNat : Int))] 0 [.v (.int .u8 (((c.toNat : Int).toNat ^^^ (byteAt a i).toNat : Nat) : Int))]) := by
   rw [mk_nextL hl hib,bE_set,xorL_at (by omega) hib,xorB,if_pos (by omega),← hc,hy]
   rfl
  refine Qh (Q0 (Qd (Qk (Xi [[],[],[0,1],[0,1,2],[],[],[4,5],(u9 7),(u9 8),(u9 9)] [[],[],[21,22],[21,22,23],[],[],[25,26],[21,22,23,24,25,26,27],[21,22,23,24,25,26,27,28],[21,22,23,24,25,26,27,28,29]] [[22,25,26,27],[21,25,26,27],[25,26,27],[25,26,27],[21,22,23,24,26],[21,22,23,24,25],[21,22,23,24],[],[],[]] J (DR.s (Qa J J J) J J (DR.s (Qa J J J) J J (DR.s (Q3 J J J J J (by omega) (by omega)) J J (DR.s (Q7 J J J J (by assumption) J) J J (DR.s (Qa J J J) J J (DR.s (Qa J J J) J J (DR.s (Zn J J J J (by assumption) (by omega)) J J ?_)))))))))));refine DR.s (q_bxor8 J J J J (by omega)) J J (DR.s (Q3 J J J J J (by omega) (by omega)) J J (DR.stop (by kernel_rfl) (by kernel_rfl) ?_));refine Xh J J J J J J J J J (by assumption) J J (Qe (Q1 (Q0 (Qc (z0 J (z7 J (by omega) (z1 J (zz ?_))))))))
  refine ⟨_,(by omega),(fun (i : Nat) => (⟨_,[(0,S a),(5,.o (.c (.ref 0))),(6,I i)],[.row 1 (bE ((xorL a b).take i ++ b.data.toList.drop i))]⟩ : St)) (i + 1),⟨i + 1,J,⟨by omega,by omega⟩,J⟩,X7 [0] (by decide) J (Kc hend) (.c J (.c J (.c J (.nil))))⟩
 ·simp only [Bool.and_eq_false_iff,decide_eq_false_iff_not] at h
  have hend := xor_end (a := a) (b := b) (i := i) (by omega) (by omega)
  rw [hend]
  refine Q9 (T_x (T_x (Xl (Q0 (zy (z0 J (zx (q_bstr J J J J) J (z1 J (zz ?_)))))))));refine Xa (F_r ?_)
  exact Xp J J (X5 [] (by decide) J J J)
end
section
open Go.RowKit

theorem uz_end {s : ByteArray} {b : Bool} {pos : Nat} (h : ¬ pos < s.size) (f : Nat) (acc : List UInt8) : uzGo s b f pos acc = some acc := by
 cases f with
 | zero => rw [uzGo,if_neg h]
 | succ f => rw [uzGo,if_neg h]
section
variable {s : ByteArray} {b : Bool} {pos f j k : Nat} {acc : List UInt8} {n : Int} {t : ByteArray} (hp : pos < s.size)
include hp
theorem uz_none1 (h : decVar s pos = none) : uzGo s b (f + 1) pos acc = none := by rw [uzGo,if_pos hp,h]
theorem uz_none2 (h : decVar s pos = some (n,j)) (h2 : unpackText s ((pos : Int) + (j : Int)) = none) : uzGo s b (f + 1) pos acc = none := by
 rw [uzGo,if_pos hp,h]
 simp only [h2]
theorem uz_big (h : decVar s pos = some (n,j)) (h2 : unpackText s ((pos : Int) + (j : Int)) = some (t,k)) (hb : (20000 : Int) - acc.length < n + t.size) : uzGo s b (f + 1) pos acc = none := by
 rw [uzGo,if_pos hp,h]
 simp only [h2]
 rw [if_pos hb]
theorem uz_big1 (h : decVar s pos = some (n,j)) (hb : (20000 : Int) - acc.length < n) : uzGo s b (f + 1) pos acc = none := by
 cases h2 : unpackText s ((pos : Int) + (j : Int)) with
 | none => exact uz_none2 hp h h2
 | some r => obtain ⟨t,k⟩ := r; exact uz_big hp h h2 (by omega)
theorem uz_emp (h : decVar s pos = some (n,j)) (h2 : unpackText s ((pos : Int) + (j : Int)) = some (t,k)) (he : n = 0 ∧ t.size = 0) : uzGo s true (f + 1) pos acc = none := by
 by_cases hb : (20000 : Int) - acc.length < n + t.size
 ·exact uz_big hp h h2 hb
 rw [uzGo,if_pos hp,h]
 simp only [h2]
 rw [if_neg hb,if_pos ⟨trivial,he⟩]
theorem uz_step (h : decVar s pos = some (n,j)) (h2 : unpackText s ((pos : Int) + (j : Int)) = some (t,k)) (hb : ¬ (20000 : Int) - acc.length < n + t.size) (he : b = true → ¬ (n = 0 ∧ t.size = 0)) : uzGo s b (f + 1) pos acc = uzGo s b f (pos + j + k) (acc ++ List.replicate n.toNat 0 ++ t.data.toList) := by
 rw [uzGo,if_pos hp,h]
 simp only [h2]
 rw [if_neg hb,if_neg (fun q => he q.1 q.2)]
end
theorem unpackZ_len {b : Bool} {s t : ByteArray} (h : unpackZ b s = some t) : t.size ≤ 20000 := by
 unfold unpackZ at h
 cases hu : uzGo s b s.size 0 [] with
 | none => rw [hu] at h; cases h
 | some out =>
  rw [hu] at h
  simp only at h
  split at h
  ·cases h; rw [Yg]; exact uz_len s b _ _ _ _ (by simp) hu
  ·cases h
theorem I_UnpackZeros (s : ByteArray) (hs : s.size ≤ 1099511627775) : Con Tryz.prog 111 [] [astr s] [] (otR (unpackZ true s)) := by
 refine Con.of Tryz.func111 J Tryz.ntmps111 J (fun E => ?_)
 refine zy (z1 J (z1 J (zz (zy (z1 J (zz (Qd ?_)))))));refine Qc (z1 J (zz (Qd (Qk ?_))))
 refine AWP.pre ?_ (W_nil 4 1 J)
 refine A_lq (fun m__ st => ∃ (pos : Nat) (acc : List UInt8) (f : Nat),s.size - pos = m__ ∧ (s.size ≤ pos + f ∧ pos ≤ s.size ∧ acc.length ≤ 20000 ∧ uzGo s true f pos acc = uzGo s true s.size 0 []) ∧ st = (⟨_,[(0,S s),(4,.o (.c (.ref 0))),(5,I pos)],[.row 1 (bE acc)]⟩ : St)) _ ⟨_,⟨0,[],s.size,J,⟨by omega,by omega,by simp,J⟩,J⟩,W_gj [0] (by kernel_rfl)⟩ ?_
 rintro m_A _ ⟨pos,acc,f,hk_A,hp_A,rfl⟩
 obtain ⟨hfu,hps,hal,hgo⟩ := hp_A
 have hla := Yc acc
 by_cases hlt : pos < s.size
 ·have hb : decide ((pos : Int) < s.size) = true := decide_eq_true (by omega)
  have hd := Xr s (pos : Int) (by omega) ⟨by omega,by omega⟩
  obtain ⟨g,rfl⟩ : ∃ g,f = g + 1 := ⟨f - 1,by omega⟩
  cases hv : decVar s (pos : Int) with
  | none =>
   rw [hv] at hd
   rw [show unpackZ true s = none by rw [unpackZ,← hgo,uz_none1 hlt hv]]
   refine Qd (zy (z0 J (z0 J (zx (Zy J J J) J (z9a J (by assumption) (zz (Qm J (Qh (Q0 ?_)))))))));refine Qk (zy (z0 J (z0 J ?_)));refine M1 (Zo J J (hd) J J J) J J ?_;refine zx (Q8 J J J) J (ze J (ze J (ze J (z1 J (z1 J (z1 J (zz (Qd (zy ?_)))))))));refine z0 J (zn J (z0 J (z6 J (z6 J (z6 J (z6 J (z6 J (zpT J (zz (Qm J ?_))))))))));refine zy (z1 J (z1 J (zz (Xa (T_r (B_r (T_r (B_r (T_r ?_)))))))));refine F_r ?_
   exact Xq J J J (X5 [] (by decide) J J J)
  | some r =>
   obtain ⟨n,j⟩ := r
   rw [hv] at hd
   have hm := Ym hv
   obtain ⟨z,rfl⟩ : ∃ z : Nat,n = z := ⟨n.toNat,by omega⟩
   by_cases hbig : (20000 : Int) - acc.length < z
   ·have hb2 : decide ((20000 : Int) - ((bE acc).length : Int) < z) = true := decide_eq_true (by omega)
    rw [show unpackZ true s = none by rw [unpackZ,← hgo,uz_big1 hlt hv hbig]]
    refine Qd (zy (z0 J (z0 J (zx (Zy J J J) J (z9a J (by assumption) (zz (Qm J (Qh (Q0 ?_)))))))));refine Qk (zy (z0 J (z0 J ?_)));refine M1 (Zo J J (hd) J J J) J J ?_;refine zx (Q8 J J J) J (ze J (ze J (ze J (z1 J (z1 J (z1 J (zz (Qd (zy ?_)))))))));refine z0 J (zn J (z0 J (z5 J (z0 J (z5 J (z0 J (z5 J (zx (Zx J J J J) J (z5 J (z8 J (by omega) (z5 J ?_)))))))))));refine z9c J (by assumption) (zpF J (zz (Qm J (zy (z1 J (z1 J (zz (Xa ?_))))))));refine T_r (B_r (T_r (B_r (T_r (F_r ?_)))))
    exact Xq J J J (X5 [] (by decide) J J J)
   have hb2 : decide ((20000 : Int) - ((bE acc).length : Int) < z) = false := decide_eq_false (by omega)
   have hut := I_UnpackText s ((pos : Int) + (j : Int)) (by omega) ⟨by omega,by omega⟩
   cases hu : unpackText s ((pos : Int) + (j : Int)) with
   | none =>
    rw [hu] at hut
    rw [show unpackZ true s = none by rw [unpackZ,← hgo,uz_none2 hlt hv hu]]
    refine Qd (zy (z0 J (z0 J (zx (Zy J J J) J (z9a J (by assumption) (zz (Qm J (Qh (Q0 ?_)))))))));refine Qk (zy (z0 J (z0 J ?_)));refine M1 (Zo J J (hd) J J J) J J ?_;refine zx (Q8 J J J) J (ze J (ze J (ze J (z1 J (z1 J (z1 J (zz (Qd (zy ?_)))))))));refine z0 J (zn J (z0 J (z5 J (z0 J (z5 J (z0 J (z5 J (zx (Zx J J J J) J (z5 J (z8 J (by omega) (z5 J ?_)))))))))));refine z9c J (by assumption) (zpF J (zz (Ql J (Qh (Q0 (zy (z0 J (z0 J (z7 J (by omega) ?_)))))))));refine z1 J (zz (zy (z0 J (z0 J ?_))));refine M1 (Zo J J (hut) J J J) J J ?_;refine zx (Q8 J J J) J (ze J (ze J (ze J (z1 J (z1 J (z1 J (zz (Qd (zy ?_)))))))));refine z0 J (zn J (z0 J (z6 J (z6 J (z6 J (z6 J (z6 J (z6 J (z6 J (z6 J (zpT J ?_)))))))))));refine zz (Qm J (zy (z1 J (z1 J (zz (Xa (T_r (B_r ?_))))))));refine T_r (B_r (T_r (F_r ?_)))
    exact Xq J J J (X5 [] (by decide) J J J)
   | some r =>
    obtain ⟨t,k⟩ := r
    rw [hu] at hut
    have hus := unpackText_some hu
    by_cases hbig2 : (20000 : Int) - acc.length < z + t.size
    ·have hb3 : decide ((20000 : Int) - ((bE acc).length : Int) - z < t.size) = true := decide_eq_true (by omega)
     rw [show unpackZ true s = none by rw [unpackZ,← hgo,uz_big hlt hv hu hbig2]]
     refine Qd (zy (z0 J (z0 J (zx (Zy J J J) J (z9a J (by assumption) (zz (Qm J (Qh (Q0 ?_)))))))));refine Qk (zy (z0 J (z0 J ?_)));refine M1 (Zo J J (hd) J J J) J J ?_;refine zx (Q8 J J J) J (ze J (ze J (ze J (z1 J (z1 J (z1 J (zz (Qd (zy ?_)))))))));refine z0 J (zn J (z0 J (z5 J (z0 J (z5 J (z0 J (z5 J (zx (Zx J J J J) J (z5 J (z8 J (by omega) (z5 J ?_)))))))))));refine z9c J (by assumption) (zpF J (zz (Ql J (Qh (Q0 (zy (z0 J (z0 J (z7 J (by omega) ?_)))))))));refine z1 J (zz (zy (z0 J (z0 J ?_))));refine M1 (Zo J J (hut) J J J) J J ?_;refine zx (Q8 J J J) J (ze J (ze J (ze J (z1 J (z1 J (z1 J (zz (Qd (zy ?_)))))))));refine z0 J (zn J (z0 J (z5 J (z0 J (z5 J (zx (Zy J J J) J (z5 J (z0 J (z5 J (zx (Zx J J J J) J (z5 J ?_)))))))))));refine z8 J (by omega) (z5 J (z0 J (z5 J (z8 J (by omega) (z5 J (z9c J (by assumption) (zpF J (zz (Qm J (Qd ?_))))))))));refine Qc (z1 J (z1 J (zz (Xa (T_r (B_r (T_r (B_r (T_r (F_r ?_))))))))))
     exact Xq J J J (X5 [] (by decide) J J J)
    have hb3 : decide ((20000 : Int) - ((bE acc).length : Int) - z < t.size) = false := decide_eq_false (by omega)
    have hz1 : (bE (List.replicate z 0)).length = z := by rw [Yc,List.length_replicate]
    have ht1 : t.data.toList.length = t.size := by simp
    by_cases hemp : (z : Int) = 0 ∧ t.size = 0
    ·have e1 : decide ((z : Int) = 0) = true := decide_eq_true hemp.1
     have e2 : decide ((t.size : Int) = 0) = true := decide_eq_true (by omega)
     rw [show unpackZ true s = none by rw [unpackZ,← hgo,uz_emp hlt hv hu hemp]]
     refine Qd (zy (z0 J (z0 J (zx (Zy J J J) J (z9a J (by assumption) (zz (Qm J (Qh (Q0 ?_)))))))));refine Qk (zy (z0 J (z0 J ?_)));refine M1 (Zo J J (hd) J J J) J J ?_;refine zx (Q8 J J J) J (ze J (ze J (ze J (z1 J (z1 J (z1 J (zz (Qd (zy ?_)))))))));refine z0 J (zn J (z0 J (z5 J (z0 J (z5 J (z0 J (z5 J (zx (Zx J J J J) J (z5 J (z8 J (by omega) (z5 J ?_)))))))))));refine z9c J (by assumption) (zpF J (zz (Ql J (Qh (Q0 (zy (z0 J (z0 J (z7 J (by omega) ?_)))))))));refine z1 J (zz (zy (z0 J (z0 J ?_))));refine M1 (Zo J J (hut) J J J) J J ?_;refine zx (Q8 J J J) J (ze J (ze J (ze J (z1 J (z1 J (z1 J (zz (Qd (zy ?_)))))))));refine z0 J (zn J (z0 J (z5 J (z0 J (z5 J (zx (Zy J J J) J (z5 J (z0 J (z5 J (zx (Zx J J J J) J (z5 J ?_)))))))))));refine z8 J (by omega) (z5 J (z0 J (z5 J (z8 J (by omega) (z5 J (z9c J (by assumption) (zpF J (zz (Ql J (Qh ?_))))))))));refine Q0 (zy (z0 J (z0 J (z7 J (by omega) (z1 J (zz (zy (z0 J ?_))))))));refine z0 J ?_;refine M_appz 9 J J J J J J J (by omega) ?_;refine z1 J (zz (zy (z0 J (z0 J ?_))))
     refine X0 J J J J J J J (by simp only [List.length_append]; omega) (by simp only [List.length_append]; omega) ?_;refine z1 J ?_
     refine zz (zy (z0 J (z9e J (by assumption) (z0 J (z5 J (z0 J (z5 J (zx (Zy J J J) J (z5 J ?_)))))))));refine z9e J (by assumption) (zpT J (zz (Qm J (zy (z1 J (z1 J (zz (Xa ?_))))))));refine B_r (T_r (B_r (T_r (F_r ?_))))
     exact Xq J J J (X5 [] (by decide) J J J)
    have hgo2 := uz_step (acc := acc) (f := g) (b := true) hlt hv hu hbig2 (fun _ => hemp)
    rw [hgo,show ((z : Int)).toNat = z by omega] at hgo2
    by_cases hz0 : (z : Int) = 0
    ·have e1 : decide ((z : Int) = 0) = true := decide_eq_true hz0
     have e2 : decide ((t.size : Int) = 0) = false := decide_eq_false (by omega)
     refine Qd (zy (z0 J (z0 J (zx (Zy J J J) J (z9a J (by assumption) (zz (Qm J (Qh (Q0 ?_)))))))));refine Qk (zy (z0 J (z0 J ?_)));refine M1 (Zo J J (hd) J J J) J J ?_;refine zx (Q8 J J J) J (ze J (ze J (ze J (z1 J (z1 J (z1 J (zz (Qd (zy ?_)))))))));refine z0 J (zn J (z0 J (z5 J (z0 J (z5 J (z0 J (z5 J (zx (Zx J J J J) J (z5 J (z8 J (by omega) (z5 J ?_)))))))))));refine z9c J (by assumption) (zpF J (zz (Ql J (Qh (Q0 (zy (z0 J (z0 J (z7 J (by omega) ?_)))))))));refine z1 J (zz (zy (z0 J (z0 J ?_))));refine M1 (Zo J J (hut) J J J) J J ?_;refine zx (Q8 J J J) J (ze J (ze J (ze J (z1 J (z1 J (z1 J (zz (Qd (zy ?_)))))))));refine z0 J (zn J (z0 J (z5 J (z0 J (z5 J (zx (Zy J J J) J (z5 J (z0 J (z5 J (zx (Zx J J J J) J (z5 J ?_)))))))))));refine z8 J (by omega) (z5 J (z0 J (z5 J (z8 J (by omega) (z5 J (z9c J (by assumption) (zpF J (zz (Ql J (Qh ?_))))))))));refine Q0 (zy (z0 J (z0 J (z7 J (by omega) (z1 J (zz (zy (z0 J ?_))))))));refine z0 J ?_;refine M_appz 9 J J J J J J J (by omega) ?_;refine z1 J (zz (zy (z0 J (z0 J ?_))))
     refine X0 J J J J J J J (by simp only [List.length_append]; omega) (by simp only [List.length_append]; omega) ?_;refine z1 J ?_
     refine zz (zy (z0 J (z9e J (by assumption) (z0 J (z5 J (z0 J (z5 J (zx (Zy J J J) J (z5 J ?_)))))))));refine z9e J (by assumption) (zpT J (zz (Ql J (Qh (Q1 (Q0 ?_))))))
     refine ⟨_,(by omega),_,⟨pos + j + k,acc ++ List.replicate z 0 ++ t.data.toList,g,J,⟨by omega,by omega,by simp only [List.length_append,List.length_replicate]; omega,hgo2.symm⟩,J⟩,(by rw [Yb,Yb]; exact W_gj [0] (by kernel_rfl))⟩
    ·have e1 : decide ((z : Int) = 0) = false := decide_eq_false hz0
     refine Qd (zy (z0 J (z0 J (zx (Zy J J J) J (z9a J (by assumption) (zz (Qm J (Qh (Q0 ?_)))))))));refine Qk (zy (z0 J (z0 J ?_)));refine M1 (Zo J J (hd) J J J) J J ?_;refine zx (Q8 J J J) J (ze J (ze J (ze J (z1 J (z1 J (z1 J (zz (Qd (zy ?_)))))))));refine z0 J (zn J (z0 J (z5 J (z0 J (z5 J (z0 J (z5 J (zx (Zx J J J J) J (z5 J (z8 J (by omega) (z5 J ?_)))))))))));refine z9c J (by assumption) (zpF J (zz (Ql J (Qh (Q0 (zy (z0 J (z0 J (z7 J (by omega) ?_)))))))));refine z1 J (zz (zy (z0 J (z0 J ?_))));refine M1 (Zo J J (hut) J J J) J J ?_;refine zx (Q8 J J J) J (ze J (ze J (ze J (z1 J (z1 J (z1 J (zz (Qd (zy ?_)))))))));refine z0 J (zn J (z0 J (z5 J (z0 J (z5 J (zx (Zy J J J) J (z5 J (z0 J (z5 J (zx (Zx J J J J) J (z5 J ?_)))))))))));refine z8 J (by omega) (z5 J (z0 J (z5 J (z8 J (by omega) (z5 J (z9c J (by assumption) (zpF J (zz (Ql J (Qh ?_))))))))));refine Q0 (zy (z0 J (z0 J (z7 J (by omega) (z1 J (zz (zy (z0 J ?_))))))));refine z0 J ?_;refine M_appz 9 J J J J J J J (by omega) ?_;refine z1 J (zz (zy (z0 J (z0 J ?_))))
     refine X0 J J J J J J J (by simp only [List.length_append]; omega) (by simp only [List.length_append]; omega) ?_;refine z1 J ?_
     refine zz (zy (z0 J (z9e J (by assumption) (z0 J (z6 J (z6 J (z6 J (zpF J (Qe ?_)))))))));refine Q0 (Ql J (Qh (Q1 (Q0 ?_))))
     refine ⟨_,(by omega),_,⟨pos + j + k,acc ++ List.replicate z 0 ++ t.data.toList,g,J,⟨by omega,by omega,by simp only [List.length_append,List.length_replicate]; omega,hgo2.symm⟩,J⟩,(by rw [Yb,Yb]; exact W_gj [0] (by kernel_rfl))⟩
 ·have hb : decide ((pos : Int) < s.size) = false := decide_eq_false (by omega)
  have hend := uz_end (b := true) hlt f acc
  have hpk := I_PackZeros (bs acc) (by rw [Yg]; omega)
  rw [Yf] at hpk
  by_cases heq : bs (packZ acc) = s
  ·have e1 : decide (bs (packZ acc) ≠ s) = false := decide_eq_false (fun q => q heq)
   rw [show unpackZ true s = some (bs acc) by rw [unpackZ,← hgo,hend]; simp only []; rw [if_pos heq]]
   refine Qd (zy (z0 J (z0 J (zx (Zy J J J) J (z9a J (by assumption) (zz (Ql J (Q9 (T_x ?_)))))))));refine T_x (Xl (Q0 (Qd (zy (z0 J (zx (q_bstr J J J J) J ?_))))));refine zx (Qj J J (hpk) J) J ?_;refine z0 J (zx (q_sneqK J J J J (by assumption)) J (zz (Ql J (Qh (Q0 (zy (z0 J (zx (q_bstr J J J J) J (z1 J ?_)))))))));refine z1 J (zz (Xa (F_r ?_)))
   exact Xq J J J (X5 [] (by decide) J J J)
  ·have e1 : decide (bs (packZ acc) ≠ s) = true := decide_eq_true heq
   rw [show unpackZ true s = none by rw [unpackZ,← hgo,hend]; simp only []; rw [if_neg heq]]
   refine Qd (zy (z0 J (z0 J (zx (Zy J J J) J (z9a J (by assumption) (zz (Ql J (Q9 (T_x ?_)))))))));refine T_x (Xl (Q0 (Qd (zy (z0 J (zx (q_bstr J J J J) J ?_))))));refine zx (Qj J J (hpk) J) J ?_;refine z0 J (zx (q_sneqK J J J J (by assumption)) J (zz (Qm J (zy (z1 J (z1 J (zz (Xa ?_))))))));refine T_r (F_r ?_)
   exact Xq J J J (X5 [] (by decide) J J J)
def applyD (base delta : ByteArray) : Option ByteArray := match decVar delta 0 with
 | none => none
 | some (n,j) => match unpackZ true (delta.extract j delta.size) with
  | none => none
  | some x => if (x.size : Int) = n then some (xorText base x) else none
theorem xor_size (a b : ByteArray) : (xorText a b).size = b.size := by
 rw [xorText,Yg,xorL_len]; simp
theorem applyD_len {a d t : ByteArray} (h : applyD a d = some t) : t.size ≤ 20000 := by
 unfold applyD at h
 split at h
 ·cases h
 ·split at h
  ·cases h
  ·rename_i x hx
   split at h
   ·cases h; rw [xor_size]; exact unpackZ_len hx
   ·cases h
theorem I_ApplyDelta (base delta : ByteArray) (hb : base.size ≤ 1099511627775) (hs : delta.size ≤ 1099511627775) : Con Tryz.prog 57 [] [astr base,astr delta] [] (otR (applyD base delta)) := by
 have hd := Xr delta 0 (by omega) ⟨by omega,by omega⟩
 cases hv : decVar delta 0 with
 | none =>
  rw [hv] at hd
  rw [show applyD base delta = none by rw [applyD,hv]]
  refine Con.of Tryz.func57 J Tryz.ntmps57 J (fun E => ?_)
  refine zy (z1 J (z1 J (zz (zy (z0 J ?_)))));refine M1 (Zo J J (hd) J J J) J J ?_;refine zx (Q8 J J J) J (ze J (ze J (ze J (z1 J (z1 J (z1 J (zz (Qd (zy ?_)))))))));refine z0 J (zn J (zz (Qm J (zy (z1 J (z1 J (zz (Xa ?_))))))));refine T_r (F_r ?_)
  exact Xq J J J (X5 [] (by decide) J J J)
 | some r =>
  obtain ⟨n,j⟩ := r
  rw [hv] at hd
  have hm := Ym hv
  have hz := I_UnpackZeros (delta.extract j delta.size) (by rw [ByteArray.size_extract]; omega)
  have he := unpackZ_eq (delta.extract j delta.size) (by rw [ByteArray.size_extract]; omega)
  try rw [← he] at hz
  cases hu : unpackZ true (delta.extract j delta.size) with
  | none =>
   rw [hu] at hz
   rw [show applyD base delta = none by rw [applyD,hv]; simp only [hu]]
   refine Con.of Tryz.func57 J Tryz.ntmps57 J (fun E => ?_)
   refine zy (z1 J (z1 J (zz (zy (z0 J ?_)))));refine M1 (Zo J J (hd) J J J) J J ?_;refine zx (Q8 J J J) J (ze J (ze J (ze J (z1 J (z1 J (z1 J (zz (Qd (zy ?_)))))))));refine z0 J (zn J (zz (Ql J (Qh (Q0 (zy (z0 J (z0 J (zx (q_sslice1 J J J J (by omega)) J ?_)))))))));refine M1 (Zo J J (hz) J J J) J J ?_;refine zx (Q8 J J J) J (ze J (ze J (z1 J (z1 J (zz (Qd (zy (z0 J (zn J ?_)))))))));refine z0 J (z6 J (z6 J (z6 J (z6 J (zpT J (zz (Qm J (zy (z1 J ?_)))))))));refine z1 J (zz (Xa (T_r (F_r ?_))))
   exact Xq J J J (X5 [] (by decide) J J J)
  | some x =>
   rw [hu] at hz
   have hx := I_XorText base x (by omega) (by have := unpackZ_len hu; omega)
   by_cases hn : (x.size : Int) = n
   ·have e1 : decide ((x.size : Int) ≠ n) = false := decide_eq_false (fun q => q hn)
    rw [show applyD base delta = some (xorText base x) by rw [applyD,hv]; simp only [hu]; rw [if_pos hn]]
    refine Con.of Tryz.func57 J Tryz.ntmps57 J (fun E => ?_)
    refine zy (z1 J (z1 J (zz (zy (z0 J ?_)))));refine M1 (Zo J J (hd) J J J) J J ?_;refine zx (Q8 J J J) J (ze J (ze J (ze J (z1 J (z1 J (z1 J (zz (Qd (zy ?_)))))))));refine z0 J (zn J (zz (Ql J (Qh (Q0 (zy (z0 J (z0 J (zx (q_sslice1 J J J J (by omega)) J ?_)))))))));refine M1 (Zo J J (hz) J J J) J J ?_;refine zx (Q8 J J J) J (ze J (ze J (z1 J (z1 J (zz (Qd (zy (z0 J (zn J ?_)))))))));refine z0 J (z5 J (z0 J (z5 J (zx (Zy J J J) J (z5 J (z0 J (z5 J (z9f J (by assumption) (zpF J (zz ?_))))))))));refine Ql J (Qh (Q0 (zy (z0 J (z0 J ?_)))));refine zx (Qj J J (hx) J) J ?_;refine z1 J (z1 J (zz (Xa (F_r ?_))))
    exact Xq J J J (X5 [] (by decide) J J J)
   ·have e1 : decide ((x.size : Int) ≠ n) = true := decide_eq_true hn
    rw [show applyD base delta = none by rw [applyD,hv]; simp only [hu]; rw [if_neg hn]]
    refine Con.of Tryz.func57 J Tryz.ntmps57 J (fun E => ?_)
    refine zy (z1 J (z1 J (zz (zy (z0 J ?_)))));refine M1 (Zo J J (hd) J J J) J J ?_;refine zx (Q8 J J J) J (ze J (ze J (ze J (z1 J (z1 J (z1 J (zz (Qd (zy ?_)))))))));refine z0 J (zn J (zz (Ql J (Qh (Q0 (zy (z0 J (z0 J (zx (q_sslice1 J J J J (by omega)) J ?_)))))))));refine M1 (Zo J J (hz) J J J) J J ?_;refine zx (Q8 J J J) J (ze J (ze J (z1 J (z1 J (zz (Qd (zy (z0 J (zn J ?_)))))))));refine z0 J (z5 J (z0 J (z5 J (zx (Zy J J J) J (z5 J (z0 J (z5 J (z9f J (by assumption) (zpF J (zz ?_))))))))));refine Qm J (zy (z1 J (z1 J (zz (Xa (T_r (F_r ?_)))))))
    exact Xq J J J (X5 [] (by decide) J J J)
end
end Go.Proofs.YtbfhboakafjjgaaGreat
