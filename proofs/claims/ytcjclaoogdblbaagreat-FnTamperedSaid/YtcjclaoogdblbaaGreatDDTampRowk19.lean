/-
  Parts of the proof (rules, data, and what functions of the program and of the reference return), among them: UnpackZeros and ApplyDelta, in the program and in the reference; ReadWorld of the program.
  Conditions: those that each theorem names.
-/
import Derived.Test.YtcjclaoogdblbaaGreatDDTampRowk11
import Derived.Test.YtcjclaoogdblbaaGreatDDTampRowk14
import Derived.Test.YtcjclaoogdblbaaGreatDDTampRowk18
set_option linter.unusedSimpArgs false
set_option linter.unusedVariables false
set_option maxRecDepth 8000
set_option maxHeartbeats 8000000
namespace Go.Proofs.YtcjclaoogdblbaaGreat
section
open Go.RowKit

theorem upZ {s : ByteArray} {i q : Nat} (h : ∀ j,i ≤ j → j < q → byteAt s j = 0) (hq : byteAt s q = 0) : ∀ j,i ≤ j → j < q + 1 → byteAt s j = 0 := fun j h1 h2 => by
 by_cases e : j = q
 ·subst e; exact hq
 ·exact h j h1 (by omega)
theorem upN {s : ByteArray} {i q : Nat} (h : ∀ j,i ≤ j → j < q → byteAt s j ≠ 0) (hq : byteAt s q ≠ 0) : ∀ j,i ≤ j → j < q + 1 → byteAt s j ≠ 0 := fun j h1 h2 => by
 by_cases e : j = q
 ·subst e; exact hq
 ·exact h j h1 (by omega)
theorem K3 (t : ByteArray) : (packText t).data.toList.length ≤ t.size + 6 := by
 rw [text_list,List.length_append]
 have := Y2 (t.size : Nat)
 have e : t.data.toList.length = t.size := by simp
 omega
theorem I_PackZeros (s : ByteArray) (hs : s.size ≤ 1099511627775) : Con Tryz.prog 21 [] [astr s] [] (S (bs (packZ s.data.toList))) := by
 refine Con.of Tryz.func21 J Tryz.ntmps21 J (fun E => ?_)
 refine zy (z1 J (zz (zy (z1 J (zz (zy ?_))))));refine z1 J (zz (Qd (Qk ?_)))
 refine AWP.pre ?_ (W_nil 3 1 J)
 refine Xi (fun m__ st => ∃ (i : Nat) (acc : List UInt8),s.size - i = m__ ∧ (acc ++ packZ (s.data.toList.drop i) = packZ s.data.toList ∧ i ≤ s.size ∧ acc.length ≤ 14 * i) ∧ st = (⟨_,[(0,S s),(3,.o (.c (.ref 0))),(4,I i)],[.row 1 (bE acc)]⟩ : St)) _ ⟨_,⟨0,[],J,by simp,J⟩,Uf [0]⟩ ?_
 rintro m_A _ ⟨i,acc,hk_A,hp_A,rfl⟩
 obtain ⟨hp1,hp2,hp3⟩ := hp_A
 refine Qd (zy (z0 J (z0 J (zx (Kd J J J) J (zx (Vi J) J (zz ?_))))))
 refine Xb J (fun h5 => ?_) (fun h5 => ?_)
 ·have h5 : i < s.size := by have := of_decide_eq_true h5; omega
  have hb := Yh acc
  have hb1 := Ym acc
  refine Qh (Q0 (Qk (zy (z0 J (z1 J (zz (Qd (Qk ?_))))))));refine Xi (fun m__ st => ∃ (q : Nat),s.size - q = m__ ∧ (i ≤ q ∧ q ≤ s.size ∧ (∀ j,i ≤ j → j < q → byteAt s j = 0)) ∧ st = (⟨_,[(0,S s),(3,.o (.c (.ref 0))),(4,I q),(5,I i)],[.row 1 (bE acc)]⟩ : St)) _ ⟨_,⟨i,J,⟨Nat.le_refl _,by omega,fun q h1 h2 => by omega⟩,J⟩,Uf [0]⟩ ?_
  rintro m_D _ ⟨q,hk_D,hp_D,rfl⟩
  obtain ⟨hd1,hd2,hd3⟩ := hp_D
  by_cases hq : q < s.size
  ·have f1 : decide ((q : Int) < s.size) = true := decide_eq_true (by omega)
   by_cases hz : byteAt s q = 0
   ·have f2 : decide (byteAt s (q : Int).toNat = 0) = true := decide_eq_true hz
    refine Qd (zy (z0 J (z0 J (zx (Kd J J J) J (U1 J (z0 J (z5 J (z0 J (z5 J (z0 J ?_))))))))));refine z5 J (zx (U3 J) J (z5 J ?_));refine zx (Qv (b := true) J J J J (by decide)) J ?_;refine zpT J (zz (Qm J (Qh (Q0 (Qk (Qc (z0 J (Uh J (z1 J (Qe ?_))))))))));refine Q1 (Q0 ?_)
    refine ⟨_,(by omega),_,⟨q + 1,J,⟨by omega,by omega,upZ hd3 hz⟩,J⟩,Uf [0]⟩
   ·have f2 : decide (byteAt s (q : Int).toNat = 0) = false := decide_eq_false hz
    refine Qd (zy (z0 J (z0 J (zx (Kd J J J) J (U1 J (z0 J (z5 J (z0 J (z5 J (z0 J ?_))))))))));refine z5 J (zx (V7 J) J (z5 J (Gr J (zpT J (zz (Ql J (Q9 (T_x (T_x (Xk ?_))))))))));refine Q0 (zy (z0 J (z1 J (zz (Qd (Qk ?_))))));refine Xi (fun m__ st => ∃ (e : Nat),s.size - e = m__ ∧ (q ≤ e ∧ e ≤ s.size ∧ (∀ j,q ≤ j → j < e → byteAt s j ≠ 0)) ∧ st = (⟨_,[(0,S s),(3,.o (.c (.ref 0))),(4,I e),(5,I i),(6,I q)],[.row 1 (bE acc)]⟩ : St)) _ ⟨_,⟨q,J,⟨Nat.le_refl _,hd2,fun j h1 h2 => by omega⟩,J⟩,Uf [0]⟩ ?_
    rintro m_G _ ⟨e,hk_G,hp_G,rfl⟩
    obtain ⟨hg1,hg2,hg3⟩ := hp_G
    by_cases he : e < s.size
    ·have f3 : decide ((e : Int) < s.size) = true := decide_eq_true (by omega)
     by_cases hn : byteAt s e ≠ 0
     ·have f4 : decide (byteAt s (e : Int).toNat ≠ 0) = true := decide_eq_true hn
      refine Qd (zy (z0 J (z0 J (zx (Kd J J J) J (U1 J (z0 J (z5 J (z0 J (z5 J (z0 J ?_))))))))));refine z5 J (zx (V7 J) J (z5 J (Gn J (zpT J (zz (Qm J (Qh (Q0 (Qk (Qc ?_))))))))));refine z0 J (Uh J (z1 J (Qe (Q1 (Q0 ?_)))))
      refine ⟨_,(by omega),_,⟨e + 1,J,⟨by omega,by omega,upN hg3 hn⟩,J⟩,Uf [0]⟩
     ·have hn := Classical.not_not.1 hn
      have f4 : decide (byteAt s (e : Int).toNat ≠ 0) = false := decide_eq_false (fun q => q hn)
      have hie : i < e := by
       rcases Nat.lt_or_ge i e with h6 | h6
       ·exact h6
       ·exact absurd hn (by have : e = q := (by omega); rw [this]; exact (fun _ => hz) (by omega))
      have hst := Zr hd1 hg1 hg2 hie hd3 (fun _ => hz) hg3 (fun _ => hn)
      have hl1 := Y2 ((q - i : Nat) : Int)
      have hl2 := K3 (s.extract q e)
      have hl3 : (s.extract q e).size = e - q := by rw [ByteArray.size_extract]; omega
      have hl4 := Ym (encVar ((q - i : Nat) : Int))
      have hl5 := Zq (s.extract q e)
      have hl6 : (packText (s.extract q e)).data.toList.length = (packText (s.extract q e)).size := by simp
      have ee : (q : Int) - i = ((q - i : Nat) : Int) := by omega
      have hce := Xs ((q - i : Nat) : Int)
      have hct := I_PackText (s.extract q e) (by omega)
      have hst2 : (acc ++ encVar ((q - i : Nat) : Int) ++ (packText (s.extract q e)).data.toList) ++ packZ (s.data.toList.drop e) = packZ s.data.toList := by rw [← hp1,hst]; simp only [List.append_assoc]
      have hl1' := hl1
      rw [← ee] at hce hl1 hl4
      have hq1 : (bE (bs (encVar ((q : Int) - i))).data.toList).length = (encVar ((q : Int) - i)).length := by rw [Yh,Yl]
      have hq2 : (bE (encVar ((q : Int) - i))).length = (encVar ((q : Int) - i)).length := Yh _
      refine Qd (zy (z0 J (z0 J (zx (Kd J J J) J (U1 J (z0 J (z5 J (z0 J (z5 J (z0 J ?_))))))))));refine z5 J (zx (U3 J) J (z5 J ?_));refine zx (Qw (b := false) J J J J (by decide)) J ?_;refine zpT J (zz (Ql J (Q9 (T_x (T_x (Xk (Q0 (zy (z0 J ?_)))))))));refine z0 J (z0 J (Ux J ?_));refine zx (Qj J J (hce) J) J ?_;refine Xy J J J J J J J (by omega) (by omega) ?_;refine z1 J (zz (Qc (z0 J (z0 J (z0 J (z0 J (zx (Kn J J J J J (by omega)) J ?_)))))));refine zx (Qj J J (hct) J) J ?_
      refine Xy J J J J J J J (by simp only [List.length_append]; omega) (by simp only [List.length_append]; omega) ?_;refine z1 J ?_
      refine Qe (Q1 (Q0 ?_))
      refine ⟨_,(by omega),_,⟨e,acc ++ encVar ((q - i : Nat) : Int) ++ (packText (s.extract q e)).data.toList,J,⟨hst2,hg2,by simp only [List.length_append]; omega⟩,J⟩,(by rw [Yl,Yg,Yg,ee]; exact Uf [0])⟩
    ·have f3 : decide ((e : Int) < s.size) = false := decide_eq_false (by omega)
     have hst := Zr hd1 hg1 hg2 (by omega) hd3 (fun _ => hz) hg3 (fun h6 => absurd h6 he)
     have hl1 := Y2 ((q - i : Nat) : Int)
     have hl2 := K3 (s.extract q e)
     have hl3 : (s.extract q e).size = e - q := by rw [ByteArray.size_extract]; omega
     have hl4 := Ym (encVar ((q - i : Nat) : Int))
     have hl5 := Zq (s.extract q e)
     have hl6 : (packText (s.extract q e)).data.toList.length = (packText (s.extract q e)).size := by simp
     have ee : (q : Int) - i = ((q - i : Nat) : Int) := by omega
     have hce := Xs ((q - i : Nat) : Int)
     have hct := I_PackText (s.extract q e) (by omega)
     have hst2 : (acc ++ encVar ((q - i : Nat) : Int) ++ (packText (s.extract q e)).data.toList) ++ packZ (s.data.toList.drop e) = packZ s.data.toList := by rw [← hp1,hst]; simp only [List.append_assoc]
     have hl1' := hl1
     rw [← ee] at hce hl1 hl4
     have hq1 : (bE (bs (encVar ((q : Int) - i))).data.toList).length = (encVar ((q : Int) - i)).length := by rw [Yh,Yl]
     have hq2 : (bE (encVar ((q : Int) - i))).length = (encVar ((q : Int) - i)).length := Yh _
     refine Qd (zy (z0 J (z0 J (zx (Kd J J J) J (U1 J (z0 J (z6 J (z6 J (z6 J (z6 J ?_))))))))));refine zpF J (zz (Ql J (Q9 (T_x (T_x (Xk (Q0 (zy (z0 J ?_)))))))));refine z0 J (z0 J (Ux J ?_));refine zx (Qj J J (hce) J) J ?_;refine Xy J J J J J J J (by omega) (by omega) ?_;refine z1 J (zz (Qc (z0 J (z0 J (z0 J (z0 J (zx (Kn J J J J J (by omega)) J ?_)))))));refine zx (Qj J J (hct) J) J ?_
     refine Xy J J J J J J J (by simp only [List.length_append]; omega) (by simp only [List.length_append]; omega) ?_;refine z1 J ?_
     refine Qe (Q1 (Q0 ?_))
     refine ⟨_,(by omega),_,⟨e,acc ++ encVar ((q - i : Nat) : Int) ++ (packText (s.extract q e)).data.toList,J,⟨hst2,hg2,by simp only [List.length_append]; omega⟩,J⟩,(by rw [Yl,Yg,Yg,ee]; exact Uf [0])⟩
  ·have f1 : decide ((q : Int) < s.size) = false := decide_eq_false (by omega)
   refine Qd (zy (z0 J (z0 J (zx (Kd J J J) J (U1 J (z0 J (z6 J (z6 J (z6 J (z6 J ?_))))))))));refine zpF J (zz (Ql J (Q9 (T_x (T_x (Xk (Q0 (zy (z0 J ?_)))))))));refine z1 J (zz (Qd (Qk ?_)));refine Xi (fun m__ st => ∃ (e : Nat),s.size - e = m__ ∧ (q ≤ e ∧ e ≤ s.size ∧ (∀ j,q ≤ j → j < e → byteAt s j ≠ 0)) ∧ st = (⟨_,[(0,S s),(3,.o (.c (.ref 0))),(4,I e),(5,I i),(6,I q)],[.row 1 (bE acc)]⟩ : St)) _ ⟨_,⟨q,J,⟨Nat.le_refl _,hd2,fun j h1 h2 => by omega⟩,J⟩,Uf [0]⟩ ?_
   rintro m_G _ ⟨e,hk_G,hp_G,rfl⟩
   obtain ⟨hg1,hg2,hg3⟩ := hp_G
   by_cases he : e < s.size
   ·have f3 : decide ((e : Int) < s.size) = true := decide_eq_true (by omega)
    by_cases hn : byteAt s e ≠ 0
    ·have f4 : decide (byteAt s (e : Int).toNat ≠ 0) = true := decide_eq_true hn
     refine Qd (zy (z0 J (z0 J (zx (Kd J J J) J (U1 J (z0 J (z5 J (z0 J (z5 J (z0 J ?_))))))))));refine z5 J (zx (V7 J) J (z5 J (Gn J (zpT J (zz (Qm J (Qh (Q0 (Qk (Qc ?_))))))))));refine z0 J (Uh J (z1 J (Qe (Q1 (Q0 ?_)))))
     refine ⟨_,(by omega),_,⟨e + 1,J,⟨by omega,by omega,upN hg3 hn⟩,J⟩,Uf [0]⟩
    ·have hn := Classical.not_not.1 hn
     have f4 : decide (byteAt s (e : Int).toNat ≠ 0) = false := decide_eq_false (fun q => q hn)
     have hie : i < e := by
      rcases Nat.lt_or_ge i e with h6 | h6
      ·exact h6
      ·exact absurd hn (by have : e = q := (by omega); rw [this]; exact (fun h6 => absurd h6 hq) (by omega))
     have hst := Zr hd1 hg1 hg2 hie hd3 (fun h6 => absurd h6 hq) hg3 (fun _ => hn)
     have hl1 := Y2 ((q - i : Nat) : Int)
     have hl2 := K3 (s.extract q e)
     have hl3 : (s.extract q e).size = e - q := by rw [ByteArray.size_extract]; omega
     have hl4 := Ym (encVar ((q - i : Nat) : Int))
     have hl5 := Zq (s.extract q e)
     have hl6 : (packText (s.extract q e)).data.toList.length = (packText (s.extract q e)).size := by simp
     have ee : (q : Int) - i = ((q - i : Nat) : Int) := by omega
     have hce := Xs ((q - i : Nat) : Int)
     have hct := I_PackText (s.extract q e) (by omega)
     have hst2 : (acc ++ encVar ((q - i : Nat) : Int) ++ (packText (s.extract q e)).data.toList) ++ packZ (s.data.toList.drop e) = packZ s.data.toList := by rw [← hp1,hst]; simp only [List.append_assoc]
     have hl1' := hl1
     rw [← ee] at hce hl1 hl4
     have hq1 : (bE (bs (encVar ((q : Int) - i))).data.toList).length = (encVar ((q : Int) - i)).length := by rw [Yh,Yl]
     have hq2 : (bE (encVar ((q : Int) - i))).length = (encVar ((q : Int) - i)).length := Yh _
     refine Qd (zy (z0 J (z0 J (zx (Kd J J J) J (U1 J (z0 J (z5 J (z0 J (z5 J (z0 J ?_))))))))));refine z5 J (zx (U3 J) J (z5 J ?_));refine zx (Qw (b := false) J J J J (by decide)) J ?_;refine zpT J (zz (Ql J (Q9 (T_x (T_x (Xk (Q0 (zy (z0 J ?_)))))))));refine z0 J (z0 J (Ux J ?_));refine zx (Qj J J (hce) J) J ?_;refine Xy J J J J J J J (by omega) (by omega) ?_;refine z1 J (zz (Qc (z0 J (z0 J (z0 J (z0 J (zx (Kn J J J J J (by omega)) J ?_)))))));refine zx (Qj J J (hct) J) J ?_
     refine Xy J J J J J J J (by simp only [List.length_append]; omega) (by simp only [List.length_append]; omega) ?_;refine z1 J ?_
     refine Qe (Q1 (Q0 ?_))
     refine ⟨_,(by omega),_,⟨e,acc ++ encVar ((q - i : Nat) : Int) ++ (packText (s.extract q e)).data.toList,J,⟨hst2,hg2,by simp only [List.length_append]; omega⟩,J⟩,(by rw [Yl,Yg,Yg,ee]; exact Uf [0])⟩
   ·have f3 : decide ((e : Int) < s.size) = false := decide_eq_false (by omega)
    have hst := Zr hd1 hg1 hg2 (by omega) hd3 (fun h6 => absurd h6 hq) hg3 (fun h6 => absurd h6 he)
    have hl1 := Y2 ((q - i : Nat) : Int)
    have hl2 := K3 (s.extract q e)
    have hl3 : (s.extract q e).size = e - q := by rw [ByteArray.size_extract]; omega
    have hl4 := Ym (encVar ((q - i : Nat) : Int))
    have hl5 := Zq (s.extract q e)
    have hl6 : (packText (s.extract q e)).data.toList.length = (packText (s.extract q e)).size := by simp
    have ee : (q : Int) - i = ((q - i : Nat) : Int) := by omega
    have hce := Xs ((q - i : Nat) : Int)
    have hct := I_PackText (s.extract q e) (by omega)
    have hst2 : (acc ++ encVar ((q - i : Nat) : Int) ++ (packText (s.extract q e)).data.toList) ++ packZ (s.data.toList.drop e) = packZ s.data.toList := by rw [← hp1,hst]; simp only [List.append_assoc]
    have hl1' := hl1
    rw [← ee] at hce hl1 hl4
    have hq1 : (bE (bs (encVar ((q : Int) - i))).data.toList).length = (encVar ((q : Int) - i)).length := by rw [Yh,Yl]
    have hq2 : (bE (encVar ((q : Int) - i))).length = (encVar ((q : Int) - i)).length := Yh _
    refine Qd (zy (z0 J (z0 J (zx (Kd J J J) J (U1 J (z0 J (z6 J (z6 J (z6 J (z6 J ?_))))))))));refine zpF J (zz (Ql J (Q9 (T_x (T_x (Xk (Q0 (zy (z0 J ?_)))))))));refine z0 J (z0 J (Ux J ?_));refine zx (Qj J J (hce) J) J ?_;refine Xy J J J J J J J (by omega) (by omega) ?_;refine z1 J (zz (Qc (z0 J (z0 J (z0 J (z0 J (zx (Kn J J J J J (by omega)) J ?_)))))));refine zx (Qj J J (hct) J) J ?_
    refine Xy J J J J J J J (by simp only [List.length_append]; omega) (by simp only [List.length_append]; omega) ?_;refine z1 J ?_
    refine Qe (Q1 (Q0 ?_))
    refine ⟨_,(by omega),_,⟨e,acc ++ encVar ((q - i : Nat) : Int) ++ (packText (s.extract q e)).data.toList,J,⟨hst2,hg2,by simp only [List.length_append]; omega⟩,J⟩,(by rw [Yl,Yg,Yg,ee]; exact Uf [0])⟩
 ·have h5 : i = s.size := by have := of_decide_eq_false h5; omega
  have e : s.data.toList.length = s.size := by simp
  refine Q9 (T_x (T_x (Xk (Q0 (zy (z0 J (zx (q_bstr J J J J) J (z1 J (zz ?_)))))))));refine Xa (F_r ?_)
  exact Ud J (Ue [] J J (S_eq (congrArg bs (by rw [← hp1,h5,List.drop_eq_nil_of_le (by omega),packZ_nil,List.append_nil]))))
theorem S_PackZeros (s : ByteArray) (hs : s.size ≤ 1099511627775) : Con Tryz.prog 89 [] [astr s] [] (S (bs (packZ s.data.toList))) := by
 refine Con.of Tryz.func89 J Tryz.ntmps89 J (fun E => ?_)
 refine zy (z1 J (zz (zy (z1 J (zz (Qd (Qd ?_)))))));refine Qc (z1 J (zz (Qk ?_)));refine Xi (fun m__ st => ∃ (i : Nat) (acc : List UInt8),s.size - i = m__ ∧ (acc ++ packZ (s.data.toList.drop i) = packZ s.data.toList ∧ i ≤ s.size ∧ acc.length ≤ 14 * i) ∧ st = (⟨_,[(0,S s),(3,S (bs acc)),(4,I i)],[]⟩ : St)) _ ⟨_,⟨0,[],J,by simp,J⟩,Uf []⟩ ?_
 rintro m_A _ ⟨i,acc,hk_A,hp_A,rfl⟩
 obtain ⟨hp1,hp2,hp3⟩ := hp_A
 refine Qd (zy (z0 J (z0 J (zx (Kd J J J) J (zx (Vi J) J (zz ?_))))))
 refine Xb J (fun h5 => ?_) (fun h5 => ?_)
 ·have h5 : i < s.size := by have := of_decide_eq_true h5; omega
  have hb := Yh acc
  have hb1 := Ym acc
  refine Qh (Q0 (Qk (zy (z0 J (z1 J (zz (Qd (Qk ?_))))))));refine Xi (fun m__ st => ∃ (q : Nat),s.size - q = m__ ∧ (i ≤ q ∧ q ≤ s.size ∧ (∀ j,i ≤ j → j < q → byteAt s j = 0)) ∧ st = (⟨_,[(0,S s),(3,S (bs acc)),(4,I q),(5,I i)],[]⟩ : St)) _ ⟨_,⟨i,J,⟨Nat.le_refl _,by omega,fun q h1 h2 => by omega⟩,J⟩,Uf []⟩ ?_
  rintro m_D _ ⟨q,hk_D,hp_D,rfl⟩
  obtain ⟨hd1,hd2,hd3⟩ := hp_D
  by_cases hq : q < s.size
  ·have f1 : decide ((q : Int) < s.size) = true := decide_eq_true (by omega)
   by_cases hz : byteAt s q = 0
   ·have f2 : decide (byteAt s (q : Int).toNat = 0) = true := decide_eq_true hz
    refine Qd (zy (z0 J (z0 J (zx (Kd J J J) J (U1 J (z0 J (z5 J (z0 J (z5 J (z0 J ?_))))))))));refine z5 J (zx (U3 J) J (z5 J ?_));refine zx (Qv (b := true) J J J J (by decide)) J ?_;refine zpT J (zz (Qm J (Qh (Q0 (Qk (Qc (z0 J (Uh J (z1 J (Qe ?_))))))))));refine Q1 (Q0 ?_)
    refine ⟨_,(by omega),_,⟨q + 1,J,⟨by omega,by omega,upZ hd3 hz⟩,J⟩,Uf []⟩
   ·have f2 : decide (byteAt s (q : Int).toNat = 0) = false := decide_eq_false hz
    refine Qd (zy (z0 J (z0 J (zx (Kd J J J) J (U1 J (z0 J (z5 J (z0 J (z5 J (z0 J ?_))))))))));refine z5 J (zx (V7 J) J (z5 J (Gr J (zpT J (zz (Ql J (Q9 (T_x (T_x (Xk ?_))))))))));refine Q0 (zy (z0 J (z0 J (Ux J (z1 J (zz (zy (z0 J ?_))))))));refine z1 J (zz (Qd (Qk ?_)));refine Xi (fun m__ st => ∃ (e : Nat),s.size - e = m__ ∧ (q ≤ e ∧ e ≤ s.size ∧ (∀ j,q ≤ j → j < e → byteAt s j ≠ 0)) ∧ st = (⟨_,[(0,S s),(3,S (bs acc)),(4,I e),(5,I q),(6,I ((q : Int) - i))],[]⟩ : St)) _ ⟨_,⟨q,J,⟨Nat.le_refl _,hd2,fun j h1 h2 => by omega⟩,J⟩,Uf []⟩ ?_
    rintro m_G _ ⟨e,hk_G,hp_G,rfl⟩
    obtain ⟨hg1,hg2,hg3⟩ := hp_G
    by_cases he : e < s.size
    ·have f3 : decide ((e : Int) < s.size) = true := decide_eq_true (by omega)
     by_cases hn : byteAt s e ≠ 0
     ·have f4 : decide (byteAt s (e : Int).toNat ≠ 0) = true := decide_eq_true hn
      refine Qd (zy (z0 J (z0 J (zx (Kd J J J) J (U1 J (z0 J (z5 J (z0 J (z5 J (z0 J ?_))))))))));refine z5 J (zx (V7 J) J (z5 J (Gn J (zpT J (zz (Qm J (Qh (Q0 (Qk (Qc ?_))))))))));refine z0 J (Uh J (z1 J (Qe (Q1 (Q0 ?_)))))
      refine ⟨_,(by omega),_,⟨e + 1,J,⟨by omega,by omega,upN hg3 hn⟩,J⟩,Uf []⟩
     ·have hn := Classical.not_not.1 hn
      have f4 : decide (byteAt s (e : Int).toNat ≠ 0) = false := decide_eq_false (fun q => q hn)
      have hie : i < e := by
       rcases Nat.lt_or_ge i e with h6 | h6
       ·exact h6
       ·exact absurd hn (by have : e = q := (by omega); rw [this]; exact (fun _ => hz) (by omega))
      have hst := Zr hd1 hg1 hg2 hie hd3 (fun _ => hz) hg3 (fun _ => hn)
      have hl1 := Y2 ((q - i : Nat) : Int)
      have hl2 := K3 (s.extract q e)
      have hl3 : (s.extract q e).size = e - q := by rw [ByteArray.size_extract]; omega
      have hl4 := Ym (encVar ((q - i : Nat) : Int))
      have hl5 := Zq (s.extract q e)
      have hl6 : (packText (s.extract q e)).data.toList.length = (packText (s.extract q e)).size := by simp
      have ee : (q : Int) - i = ((q - i : Nat) : Int) := by omega
      have hce := X3 ((q - i : Nat) : Int)
      have hct := S_PackText (s.extract q e) (by omega)
      have hst2 : (acc ++ encVar ((q - i : Nat) : Int) ++ (packText (s.extract q e)).data.toList) ++ packZ (s.data.toList.drop e) = packZ s.data.toList := by rw [← hp1,hst]; simp only [List.append_assoc]
      have hst3 : bs acc ++ bs (encVar ((q : Int) - i)) ++ packText (s.extract q e) = bs (acc ++ encVar ((q - i : Nat) : Int) ++ (packText (s.extract q e)).data.toList) := by rw [ee,← bs_app,← bs_app,bs_of (packText (s.extract q e))]
      have hl1' := hl1
      rw [← ee] at hce hl1 hl4
      have hq1 : (bE (bs (encVar ((q : Int) - i))).data.toList).length = (encVar ((q : Int) - i)).length := by rw [Yh,Yl]
      have hq2 : (bE (encVar ((q : Int) - i))).length = (encVar ((q : Int) - i)).length := Yh _
      refine Qd (zy (z0 J (z0 J (zx (Kd J J J) J (U1 J (z0 J (z5 J (z0 J (z5 J (z0 J ?_))))))))));refine z5 J (zx (U3 J) J (z5 J ?_));refine zx (Qw (b := false) J J J J (by decide)) J ?_;refine zpT J (zz (Ql J (Q9 (T_x (T_x (Xk (Q0 (Xh u8_35 u8_36 u8_37 J (Ve (Vo J) J (Ve (Vo J) J ?_))))))))));refine Ve (Qj J J (hce) J) J ?_;refine Ve (q_cat J J J J (by omega)) J (Ve (Vo J) J (Ve (Vo J) J (Ve (Vo J) J (Ve (Kn J J J J J (by omega)) J ?_))));refine Ve (Qj J J (hct) J) J ?_
      refine Ve (q_cat J J J J (by simp only [Ym,cat_size,List.length_cons,List.length_nil,List.length_append]; omega)) J ?_
      refine Ve (Qb J J J) J (Vd (Qe (Q1 (Q0 ?_))))
      refine ⟨_,(by omega),(fun (i : Nat) (acc : List UInt8) => (⟨_,[(0,S s),(3,S (bs acc)),(4,I i)],[]⟩ : St)) (e) (acc ++ encVar ((q - i : Nat) : Int) ++ (packText (s.extract q e)).data.toList),⟨e,acc ++ encVar ((q - i : Nat) : Int) ++ (packText (s.extract q e)).data.toList,J,⟨hst2,hg2,by simp only [List.length_append]; omega⟩,J⟩,V6 [] J (.c J (.cons (S_eq hst3) (.c J (.nil))))⟩
    ·have f3 : decide ((e : Int) < s.size) = false := decide_eq_false (by omega)
     have hst := Zr hd1 hg1 hg2 (by omega) hd3 (fun _ => hz) hg3 (fun h6 => absurd h6 he)
     have hl1 := Y2 ((q - i : Nat) : Int)
     have hl2 := K3 (s.extract q e)
     have hl3 : (s.extract q e).size = e - q := by rw [ByteArray.size_extract]; omega
     have hl4 := Ym (encVar ((q - i : Nat) : Int))
     have hl5 := Zq (s.extract q e)
     have hl6 : (packText (s.extract q e)).data.toList.length = (packText (s.extract q e)).size := by simp
     have ee : (q : Int) - i = ((q - i : Nat) : Int) := by omega
     have hce := X3 ((q - i : Nat) : Int)
     have hct := S_PackText (s.extract q e) (by omega)
     have hst2 : (acc ++ encVar ((q - i : Nat) : Int) ++ (packText (s.extract q e)).data.toList) ++ packZ (s.data.toList.drop e) = packZ s.data.toList := by rw [← hp1,hst]; simp only [List.append_assoc]
     have hst3 : bs acc ++ bs (encVar ((q : Int) - i)) ++ packText (s.extract q e) = bs (acc ++ encVar ((q - i : Nat) : Int) ++ (packText (s.extract q e)).data.toList) := by rw [ee,← bs_app,← bs_app,bs_of (packText (s.extract q e))]
     have hl1' := hl1
     rw [← ee] at hce hl1 hl4
     have hq1 : (bE (bs (encVar ((q : Int) - i))).data.toList).length = (encVar ((q : Int) - i)).length := by rw [Yh,Yl]
     have hq2 : (bE (encVar ((q : Int) - i))).length = (encVar ((q : Int) - i)).length := Yh _
     refine Qd (zy (z0 J (z0 J (zx (Kd J J J) J (U1 J (z0 J (z6 J (z6 J (z6 J (z6 J ?_))))))))));refine zpF J (zz (Ql J (Q9 (T_x (T_x (Xk (Q0 (Xh u8_35 u8_36 u8_37 J (Ve (Vo J) J (Ve (Vo J) J ?_))))))))));refine Ve (Qj J J (hce) J) J ?_;refine Ve (q_cat J J J J (by omega)) J (Ve (Vo J) J (Ve (Vo J) J (Ve (Vo J) J (Ve (Kn J J J J J (by omega)) J ?_))));refine Ve (Qj J J (hct) J) J ?_
     refine Ve (q_cat J J J J (by simp only [Ym,cat_size,List.length_cons,List.length_nil,List.length_append]; omega)) J ?_
     refine Ve (Qb J J J) J (Vd (Qe (Q1 (Q0 ?_))))
     refine ⟨_,(by omega),(fun (i : Nat) (acc : List UInt8) => (⟨_,[(0,S s),(3,S (bs acc)),(4,I i)],[]⟩ : St)) (e) (acc ++ encVar ((q - i : Nat) : Int) ++ (packText (s.extract q e)).data.toList),⟨e,acc ++ encVar ((q - i : Nat) : Int) ++ (packText (s.extract q e)).data.toList,J,⟨hst2,hg2,by simp only [List.length_append]; omega⟩,J⟩,V6 [] J (.c J (.cons (S_eq hst3) (.c J (.nil))))⟩
  ·have f1 : decide ((q : Int) < s.size) = false := decide_eq_false (by omega)
   refine Qd (zy (z0 J (z0 J (zx (Kd J J J) J (U1 J (z0 J (z6 J (z6 J (z6 J (z6 J ?_))))))))));refine zpF J (zz (Ql J (Q9 (T_x (T_x (Xk (Q0 (zy (z0 J ?_)))))))));refine z0 J (Ux J (z1 J (zz (zy (z0 J (z1 J (zz (Qd ?_))))))));refine Qk ?_;refine Xi (fun m__ st => ∃ (e : Nat),s.size - e = m__ ∧ (q ≤ e ∧ e ≤ s.size ∧ (∀ j,q ≤ j → j < e → byteAt s j ≠ 0)) ∧ st = (⟨_,[(0,S s),(3,S (bs acc)),(4,I e),(5,I q),(6,I ((q : Int) - i))],[]⟩ : St)) _ ⟨_,⟨q,J,⟨Nat.le_refl _,hd2,fun j h1 h2 => by omega⟩,J⟩,Uf []⟩ ?_
   rintro m_G _ ⟨e,hk_G,hp_G,rfl⟩
   obtain ⟨hg1,hg2,hg3⟩ := hp_G
   by_cases he : e < s.size
   ·have f3 : decide ((e : Int) < s.size) = true := decide_eq_true (by omega)
    by_cases hn : byteAt s e ≠ 0
    ·have f4 : decide (byteAt s (e : Int).toNat ≠ 0) = true := decide_eq_true hn
     refine Qd (zy (z0 J (z0 J (zx (Kd J J J) J (U1 J (z0 J (z5 J (z0 J (z5 J (z0 J ?_))))))))));refine z5 J (zx (V7 J) J (z5 J (Gn J (zpT J (zz (Qm J (Qh (Q0 (Qk (Qc ?_))))))))));refine z0 J (Uh J (z1 J (Qe (Q1 (Q0 ?_)))))
     refine ⟨_,(by omega),_,⟨e + 1,J,⟨by omega,by omega,upN hg3 hn⟩,J⟩,Uf []⟩
    ·have hn := Classical.not_not.1 hn
     have f4 : decide (byteAt s (e : Int).toNat ≠ 0) = false := decide_eq_false (fun q => q hn)
     have hie : i < e := by
      rcases Nat.lt_or_ge i e with h6 | h6
      ·exact h6
      ·exact absurd hn (by have : e = q := (by omega); rw [this]; exact (fun h6 => absurd h6 hq) (by omega))
     have hst := Zr hd1 hg1 hg2 hie hd3 (fun h6 => absurd h6 hq) hg3 (fun _ => hn)
     have hl1 := Y2 ((q - i : Nat) : Int)
     have hl2 := K3 (s.extract q e)
     have hl3 : (s.extract q e).size = e - q := by rw [ByteArray.size_extract]; omega
     have hl4 := Ym (encVar ((q - i : Nat) : Int))
     have hl5 := Zq (s.extract q e)
     have hl6 : (packText (s.extract q e)).data.toList.length = (packText (s.extract q e)).size := by simp
     have ee : (q : Int) - i = ((q - i : Nat) : Int) := by omega
     have hce := X3 ((q - i : Nat) : Int)
     have hct := S_PackText (s.extract q e) (by omega)
     have hst2 : (acc ++ encVar ((q - i : Nat) : Int) ++ (packText (s.extract q e)).data.toList) ++ packZ (s.data.toList.drop e) = packZ s.data.toList := by rw [← hp1,hst]; simp only [List.append_assoc]
     have hst3 : bs acc ++ bs (encVar ((q : Int) - i)) ++ packText (s.extract q e) = bs (acc ++ encVar ((q - i : Nat) : Int) ++ (packText (s.extract q e)).data.toList) := by rw [ee,← bs_app,← bs_app,bs_of (packText (s.extract q e))]
     have hl1' := hl1
     rw [← ee] at hce hl1 hl4
     have hq1 : (bE (bs (encVar ((q : Int) - i))).data.toList).length = (encVar ((q : Int) - i)).length := by rw [Yh,Yl]
     have hq2 : (bE (encVar ((q : Int) - i))).length = (encVar ((q : Int) - i)).length := Yh _
     refine Qd (zy (z0 J (z0 J (zx (Kd J J J) J (U1 J (z0 J (z5 J (z0 J (z5 J (z0 J ?_))))))))));refine z5 J (zx (U3 J) J (z5 J ?_));refine zx (Qw (b := false) J J J J (by decide)) J ?_;refine zpT J (zz (Ql J (Q9 (T_x (T_x (Xk (Q0 (Xh u8_35 u8_36 u8_37 J (Ve (Vo J) J (Ve (Vo J) J ?_))))))))));refine Ve (Qj J J (hce) J) J ?_;refine Ve (q_cat J J J J (by omega)) J (Ve (Vo J) J (Ve (Vo J) J (Ve (Vo J) J (Ve (Kn J J J J J (by omega)) J ?_))));refine Ve (Qj J J (hct) J) J ?_;refine Ve (q_cat J J J J (by omega)) J (Ve (Qb J J J) J (Vd (Qe (Q1 (Q0 ?_)))))
     refine ⟨_,(by omega),(fun (i : Nat) (acc : List UInt8) => (⟨_,[(0,S s),(3,S (bs acc)),(4,I i)],[]⟩ : St)) (e) (acc ++ encVar ((q - i : Nat) : Int) ++ (packText (s.extract q e)).data.toList),⟨e,acc ++ encVar ((q - i : Nat) : Int) ++ (packText (s.extract q e)).data.toList,J,⟨hst2,hg2,by simp only [List.length_append]; omega⟩,J⟩,V6 [] J (.c J (.cons (S_eq hst3) (.c J (.nil))))⟩
   ·have f3 : decide ((e : Int) < s.size) = false := decide_eq_false (by omega)
    have hst := Zr hd1 hg1 hg2 (by omega) hd3 (fun h6 => absurd h6 hq) hg3 (fun h6 => absurd h6 he)
    have hl1 := Y2 ((q - i : Nat) : Int)
    have hl2 := K3 (s.extract q e)
    have hl3 : (s.extract q e).size = e - q := by rw [ByteArray.size_extract]; omega
    have hl4 := Ym (encVar ((q - i : Nat) : Int))
    have hl5 := Zq (s.extract q e)
    have hl6 : (packText (s.extract q e)).data.toList.length = (packText (s.extract q e)).size := by simp
    have ee : (q : Int) - i = ((q - i : Nat) : Int) := by omega
    have hce := X3 ((q - i : Nat) : Int)
    have hct := S_PackText (s.extract q e) (by omega)
    have hst2 : (acc ++ encVar ((q - i : Nat) : Int) ++ (packText (s.extract q e)).data.toList) ++ packZ (s.data.toList.drop e) = packZ s.data.toList := by rw [← hp1,hst]; simp only [List.append_assoc]
    have hst3 : bs acc ++ bs (encVar ((q : Int) - i)) ++ packText (s.extract q e) = bs (acc ++ encVar ((q - i : Nat) : Int) ++ (packText (s.extract q e)).data.toList) := by rw [ee,← bs_app,← bs_app,bs_of (packText (s.extract q e))]
    have hl1' := hl1
    rw [← ee] at hce hl1 hl4
    have hq1 : (bE (bs (encVar ((q : Int) - i))).data.toList).length = (encVar ((q : Int) - i)).length := by rw [Yh,Yl]
    have hq2 : (bE (encVar ((q : Int) - i))).length = (encVar ((q : Int) - i)).length := Yh _
    refine Qd (zy (z0 J (z0 J (zx (Kd J J J) J (U1 J (z0 J (z6 J (z6 J (z6 J (z6 J ?_))))))))));refine zpF J (zz (Ql J (Q9 (T_x (T_x (Xk (Q0 (Xh u8_35 u8_36 u8_37 J (Ve (Vo J) J (Ve (Vo J) J ?_))))))))));refine Ve (Qj J J (hce) J) J ?_;refine Ve (q_cat J J J J (by omega)) J (Ve (Vo J) J (Ve (Vo J) J (Ve (Vo J) J (Ve (Kn J J J J J (by omega)) J ?_))));refine Ve (Qj J J (hct) J) J ?_
    refine Ve (q_cat J J J J (by simp only [Ym,cat_size,List.length_cons,List.length_nil,List.length_append]; omega)) J ?_
    refine Ve (Qb J J J) J (Vd (Qe (Q1 (Q0 ?_))))
    refine ⟨_,(by omega),(fun (i : Nat) (acc : List UInt8) => (⟨_,[(0,S s),(3,S (bs acc)),(4,I i)],[]⟩ : St)) (e) (acc ++ encVar ((q - i : Nat) : Int) ++ (packText (s.extract q e)).data.toList),⟨e,acc ++ encVar ((q - i : Nat) : Int) ++ (packText (s.extract q e)).data.toList,J,⟨hst2,hg2,by simp only [List.length_append]; omega⟩,J⟩,V6 [] J (.c J (.cons (S_eq hst3) (.c J (.nil))))⟩
 ·have h5 : i = s.size := by have := of_decide_eq_false h5; omega
  have e : s.data.toList.length = s.size := by simp
  refine Q9 (T_x (T_x (Xk (Q0 (zy (z0 J (z1 J (zz (Xa ?_)))))))));refine F_r ?_
  exact Ud J (Ue [] J J (S_eq (congrArg bs (by rw [← hp1,h5,List.drop_eq_nil_of_le (by omega),packZ_nil,List.append_nil]))))
end
section
open Go.RowKit

def xorB (a : ByteArray) (i : Nat) (x : UInt8) : UInt8 := if i < a.size then UInt8.ofNat (x.toNat ^^^ (byteAt a i).toNat) else x
def xorL (a b : ByteArray) : List UInt8 := (List.range b.size).map fun i => xorB a i (b.data.toList.getD i 0)
def xorText (a b : ByteArray) : ByteArray := bs (xorL a b)
theorem Vc (a b : ByteArray) : (xorL a b).length = b.data.toList.length := by simp [xorL]
theorem xorL_at {a b : ByteArray} {i : Nat} (h : i < (xorL a b).length) (h' : i < b.data.toList.length) : (xorL a b)[i] = xorB a i b.data.toList[i] := by
 have h2 : b.data.toList.getD i 0 = b.data.toList[i] := by rw [List.getD_eq_getElem?_getD,List.getElem?_eq_getElem h']; rfl
 simp only [xorL,List.getElem_map,List.getElem_range,h2]
theorem mk_nextL {α : Type} {ms xs : List α} (hl : ms.length = xs.length) {i : Nat} (h : i < xs.length) : ms.take (i + 1) ++ xs.drop (i + 1) = (ms.take i ++ xs.drop i).set i (ms[i]'(by omega)) := by
 have h2 : i < ms.length := by omega
 have hi : (ms.take i).length = i := by simp; omega
 rw [List.take_succ_eq_append_getElem h2,List.set_append_right _ _ (by omega)]
 have : i - (ms.take i).length = 0 := by omega
 rw [this,List.drop_eq_getElem_cons h,List.set_cons_zero,List.append_assoc]
 rfl
theorem bE_set (l : List UInt8) (i : Nat) (x : UInt8) : bE (l.set i x) = (bE l).set i [.v (.int .u8 (x.toNat : Int))] := by simp [bE,List.map_set]
theorem bE_at {l : List UInt8} {i : Nat} (h : i < l.length) : (bE l)[(i : Int).toNat]? = some [.v (.int .u8 ((l[i]).toNat : Int))] := by
 rw [Int.toNat_natCast,bE,List.getElem?_map,List.getElem?_eq_getElem h]
 rfl
theorem xor_end {a b : ByteArray} {i : Nat} (hi : i ≤ b.data.toList.length) (h : b.data.toList.length ≤ i ∨ a.size ≤ i) : (xorL a b).take i ++ b.data.toList.drop i = xorL a b := by
 have hl := Vc a b
 have hml := mk_len hl hi
 apply List.ext_getElem?
 intro j
 by_cases hj : j < i
 ·by_cases hjl : j < (xorL a b).length
  ·rw [List.getElem?_append_left (by simp; omega),List.getElem?_take,if_pos hj]
  ·rw [List.getElem?_eq_none (by omega),List.getElem?_eq_none (by omega)]
 ·by_cases hjl : j < (xorL a b).length
  ·have ha : a.size ≤ i := by omega
   have hti : ((xorL a b).take i).length = i := by simp; omega
   rw [List.getElem?_append_right (by omega),hti,List.getElem?_drop,show i + (j - i) = j by omega,List.getElem?_eq_getElem (by omega),List.getElem?_eq_getElem hjl,xorL_at hjl (by omega),xorB,if_neg (by omega)]
  ·rw [List.getElem?_eq_none (by omega),List.getElem?_eq_none (by omega)]
theorem I_XorText (a b : ByteArray) (ha : a.size ≤ 1099511627776) (hb : b.size ≤ 1099511627776) : Con Tryz.prog 22 [] [astr a,astr b] [] (S (xorText a b)) := by
 have hl := Vc a b
 have hbl : b.data.toList.length = b.size := by simp
 refine Con.of Tryz.func22 J Tryz.ntmps22 J (fun E => ?_)
 refine zy (z1 J (zz (zy (z0 J (Un (q_strb J J J (by omega)) J (z1 J (zz ?_)))))));refine Qd (zy (z1 J (zz (Qk ?_))));refine Xi (fun m__ st => ∃ (i : Nat),b.size - i = m__ ∧ (i ≤ b.size ∧ i ≤ a.size) ∧ st = (⟨_,[(0,S a),(5,.o (.c (.ref 0))),(6,I i)],[.row 1 (bE ((xorL a b).take i ++ b.data.toList.drop i))]⟩ : St)) _ ⟨_,⟨0,J,⟨Nat.zero_le _,Nat.zero_le _⟩,J⟩,Uf [0]⟩ ?_
 rintro m_A _ ⟨i,hk_A,hp_A,rfl⟩
 have hrow : (bE ((xorL a b).take i ++ b.data.toList.drop i)).length = b.size := by rw [Yh,mk_len hl (by omega)]; exact hbl
 refine Qd (zy (z0 J (z0 J (zx (Kc J J J J) J (zx (Vi J) J (z0 J ?_))))));refine zx (Qt.grdT J J J .stop (fun hgrd => Vo J)) J ?_;refine zx (Ub J (.hit .stop) (fun hgrd => Vo J)) J ?_;refine zx (Ub J (.hit (.hit .stop)) (fun hgrd => Kd J J J)) J ?_;refine zx (Ub J (.hit (.hit (.hit .stop))) (fun hgrd => Vi J)) J ?_;refine zx (Zt J J J J) J (zz ?_)
 refine Xb J (fun h => ?_) (fun h => ?_)
 ·simp only [Bool.and_eq_true,decide_eq_true_eq] at h
  have hib : i < b.data.toList.length := by omega
  have hil : i < ((xorL a b).take i ++ b.data.toList.drop i).length := by rw [mk_len hl (by omega)]; exact hib
  have hat := bE_at hil
  rw [mk_at hl hib] at hat
  obtain ⟨c,hc⟩ : ∃ c : UInt8,c = b.data.toList[i] := ⟨_,rfl⟩
  rw [← hc] at hat
  have hc2 := c.toNat_lt
  have hby := Yn a i
  have hy : (UInt8.ofNat (c.toNat ^^^ (byteAt a i).toNat)).toNat = c.toNat ^^^ (byteAt a i).toNat := by
   have : c.toNat ^^^ (byteAt a i).toNat < 2 ^ 8 := Nat.xor_lt_two_pow (by omega) (by omega)
   rw [UInt8.toNat_ofNat']
   exact Nat.mod_eq_of_lt this
  have hby2 : byteAt a (i : Int).toNat = byteAt a i := rfl
  have hend : bE ((xorL a b).take (i + 1) ++ b.data.toList.drop (i + 1)) = (bE ((xorL a b).take i ++ b.data.toList.drop i)).set (i : Int).toNat (splice [.v (.int .u8 (c.toNat : Int))] 0 [.v (.int .u8 (((c.toNat : Int).toNat ^^^ (byteAt a i).toNat : Nat) : Int))]) := by
   rw [mk_nextL hl hib,bE_set,xorL_at (by omega) hib,xorB,if_pos (by omega),← hc,hy]
   rfl
  refine Qh (Q0 (Qd (Qk (Xh [[],[],[0,1],[0,1,2],[],[],[4,5],(u9 7),(u9 8),(u9 9)] [[],[],[21,22],[21,22,23],[],[],[25,26],[21,22,23,24,25,26,27],[21,22,23,24,25,26,27,28],[21,22,23,24,25,26,27,28,29]] [[22,25,26,27],[21,25,26,27],[25,26,27],[25,26,27],[21,22,23,24,26],[21,22,23,24,25],[21,22,23,24],[],[],[]] J (Ve (Vo J) J (Ve (Vo J) J (Ve (Q3 J J J J J (by omega) (by omega)) J (Ve (qk J (by assumption) J) J (Ve (Vo J) J (Ve (Vo J) J (Ve (U3 J) J ?_)))))))))));refine Ve (q_bxor8 J J J J (by omega)) J (Ve (Q3 J J J J J (by omega) (by omega)) J (Vd ?_));refine Xg J J J J J J J J J (by assumption) J J (Qe (Q1 (Q0 (Qc (z0 J (Uh J (z1 J (zz ?_))))))))
  refine ⟨_,(by omega),(fun (i : Nat) => (⟨_,[(0,S a),(5,.o (.c (.ref 0))),(6,I i)],[.row 1 (bE ((xorL a b).take i ++ b.data.toList.drop i))]⟩ : St)) (i + 1),⟨i + 1,J,⟨by omega,by omega⟩,J⟩,Yb [0] (by decide) J (row_eq hend) (.c J (.c J (.c J (.nil))))⟩
 ·simp only [Bool.and_eq_false_iff,decide_eq_false_iff_not] at h
  have hend := xor_end (a := a) (b := b) (i := i) (by omega) (by omega)
  rw [hend]
  refine Q9 (T_x (T_x (Xk (Q0 (zy (z0 J (zx (q_bstr J J J J) J (z1 J (zz ?_)))))))));refine Xa (F_r ?_)
  exact Ud J (Ue [] J J J)
theorem S_XorText (a b : ByteArray) (ha : a.size ≤ 1099511627776) (hb : b.size ≤ 1099511627776) : Con Tryz.prog 90 [] [astr a,astr b] [] (S (xorText a b)) := by
 have hl := Vc a b
 have hbl : b.data.toList.length = b.size := by simp
 refine Con.of Tryz.func90 J Tryz.ntmps90 J (fun E => ?_)
 refine zy (z1 J (zz (zy (z0 J (Un (q_strb J J J (by omega)) J (z1 J (zz ?_)))))));refine Qd (zy (z1 J (zz (Qk ?_))));refine Xi (fun m__ st => ∃ (i : Nat),b.size - i = m__ ∧ (i ≤ b.size ∧ i ≤ a.size) ∧ st = (⟨_,[(0,S a),(5,.o (.c (.ref 0))),(6,I i)],[.row 1 (bE ((xorL a b).take i ++ b.data.toList.drop i))]⟩ : St)) _ ⟨_,⟨0,J,⟨Nat.zero_le _,Nat.zero_le _⟩,J⟩,Uf [0]⟩ ?_
 rintro m_A _ ⟨i,hk_A,hp_A,rfl⟩
 have hrow : (bE ((xorL a b).take i ++ b.data.toList.drop i)).length = b.size := by rw [Yh,mk_len hl (by omega)]; exact hbl
 refine Qd (zy (z0 J (z0 J (zx (Kc J J J J) J (zx (Vi J) J (z0 J ?_))))));refine zx (Qt.grdT J J J .stop (fun hgrd => Vo J)) J ?_;refine zx (Ub J (.hit .stop) (fun hgrd => Vo J)) J ?_;refine zx (Ub J (.hit (.hit .stop)) (fun hgrd => Kd J J J)) J ?_;refine zx (Ub J (.hit (.hit (.hit .stop))) (fun hgrd => Vi J)) J ?_;refine zx (Zt J J J J) J (zz ?_)
 refine Xb J (fun h => ?_) (fun h => ?_)
 ·simp only [Bool.and_eq_true,decide_eq_true_eq] at h
  have hib : i < b.data.toList.length := by omega
  have hil : i < ((xorL a b).take i ++ b.data.toList.drop i).length := by rw [mk_len hl (by omega)]; exact hib
  have hat := bE_at hil
  rw [mk_at hl hib] at hat
  obtain ⟨c,hc⟩ : ∃ c : UInt8,c = b.data.toList[i] := ⟨_,rfl⟩
  rw [← hc] at hat
  have hc2 := c.toNat_lt
  have hby := Yn a i
  have hy : (UInt8.ofNat (c.toNat ^^^ (byteAt a i).toNat)).toNat = c.toNat ^^^ (byteAt a i).toNat := by
   have : c.toNat ^^^ (byteAt a i).toNat < 2 ^ 8 := Nat.xor_lt_two_pow (by omega) (by omega)
   rw [UInt8.toNat_ofNat']
   exact Nat.mod_eq_of_lt this
  have hby2 : byteAt a (i : Int).toNat = byteAt a i := rfl
  have hend : bE ((xorL a b).take (i + 1) ++ b.data.toList.drop (i + 1)) = (bE ((xorL a b).take i ++ b.data.toList.drop i)).set (i : Int).toNat (splice [.v (.int .u8 (c.toNat : Int))] 0 [.v (.int .u8 (((c.toNat : Int).toNat ^^^ (byteAt a i).toNat : Nat) : Int))]) := by
   rw [mk_nextL hl hib,bE_set,xorL_at (by omega) hib,xorB,if_pos (by omega),← hc,hy]
   rfl
  refine Qh (Q0 (Qd (Qk (Xh [[],[],[],[],[2,3],[2,3,4],[],[],[6,7],[2,3,4,5,6,7,8],(u9 10),(u9 11)] [[],[],[],[],[23,24],[23,24,25],[],[],[27,28],[23,24,25,26,27,28,29],[21,22,23,24,25,26,27,28,29,30],[21,22,23,24,25,26,27,28,29,30,31]] [[22,23,24,25,26,27,28,29,30],[21,23,24,25,26,27,28,29,30],[21,22,24,27,28,29],[21,22,23,27,28,29],[21,22,27,28,29],[21,22,27,28,29],[21,22,23,24,25,26,28],[21,22,23,24,25,26,27],[21,22,23,24,25,26],[21,22],[],[]] J (Ve (Vo J) J (Ve (Vo J) J (Ve (Vo J) J (Ve (Vo J) J (Ve (Q3 J J J J J (by omega) (by omega)) J (Ve (qk J (by assumption) J) J (Ve (Vo J) J ?_)))))))))));refine Ve (Vo J) J (Ve (U3 J) J (Ve (q_bxor8 J J J J (by omega)) J (Ve (Q3 J J J J J (by omega) (by omega)) J (Vd ?_))));refine Xg J J J J J J J J J (by assumption) J J (Qe (Q1 (Q0 (Qc (z0 J (Uh J (z1 J (zz ?_))))))))
  refine ⟨_,(by omega),(fun (i : Nat) => (⟨_,[(0,S a),(5,.o (.c (.ref 0))),(6,I i)],[.row 1 (bE ((xorL a b).take i ++ b.data.toList.drop i))]⟩ : St)) (i + 1),⟨i + 1,J,⟨by omega,by omega⟩,J⟩,Yb [0] (by decide) J (row_eq hend) (.c J (.c J (.c J (.nil))))⟩
 ·simp only [Bool.and_eq_false_iff,decide_eq_false_iff_not] at h
  have hend := xor_end (a := a) (b := b) (i := i) (by omega) (by omega)
  rw [hend]
  refine Q9 (T_x (T_x (Xk (Q0 (zy (z0 J (zx (q_bstr J J J J) J (z1 J (zz ?_)))))))));refine Xa (F_r ?_)
  exact Ud J (Ue [] J J J)
end
section
open Go.RowKit

theorem uz_end {s : ByteArray} {b : Bool} {pos : Nat} (h : ¬ pos < s.size) (f : Nat) (acc : List UInt8) : uzGo s b f pos acc = some acc := by
 cases f with
 | zero => rw [uzGo,if_neg h]
 | succ f => rw [uzGo,if_neg h]
section
variable {s : ByteArray} {b : Bool} {pos f j k : Nat} {acc : List UInt8} {n : Int} {t : ByteArray} (hp : pos < s.size)
include hp
theorem uz_none1 (h : decVar s pos = none) : uzGo s b (f + 1) pos acc = none := by rw [uzGo,if_pos hp,h]
theorem uz_none2 (h : decVar s pos = some (n,j)) (h2 : unpackText s ((pos : Int) + (j : Int)) = none) : uzGo s b (f + 1) pos acc = none := by
 rw [uzGo,if_pos hp,h]
 simp only [h2]
theorem uz_big (h : decVar s pos = some (n,j)) (h2 : unpackText s ((pos : Int) + (j : Int)) = some (t,k)) (hb : (20000 : Int) - acc.length < n + t.size) : uzGo s b (f + 1) pos acc = none := by
 rw [uzGo,if_pos hp,h]
 simp only [h2]
 rw [if_pos hb]
theorem uz_big1 (h : decVar s pos = some (n,j)) (hb : (20000 : Int) - acc.length < n) : uzGo s b (f + 1) pos acc = none := by
 cases h2 : unpackText s ((pos : Int) + (j : Int)) with
 | none => exact uz_none2 hp h h2
 | some r => obtain ⟨t,k⟩ := r; exact uz_big hp h h2 (by omega)
theorem uz_emp (h : decVar s pos = some (n,j)) (h2 : unpackText s ((pos : Int) + (j : Int)) = some (t,k)) (he : n = 0 ∧ t.size = 0) : uzGo s true (f + 1) pos acc = none := by
 by_cases hb : (20000 : Int) - acc.length < n + t.size
 ·exact uz_big hp h h2 hb
 rw [uzGo,if_pos hp,h]
 simp only [h2]
 rw [if_neg hb,if_pos ⟨trivial,he⟩]
theorem uz_step (h : decVar s pos = some (n,j)) (h2 : unpackText s ((pos : Int) + (j : Int)) = some (t,k)) (hb : ¬ (20000 : Int) - acc.length < n + t.size) (he : b = true → ¬ (n = 0 ∧ t.size = 0)) : uzGo s b (f + 1) pos acc = uzGo s b f (pos + j + k) (acc ++ List.replicate n.toNat 0 ++ t.data.toList) := by
 rw [uzGo,if_pos hp,h]
 simp only [h2]
 rw [if_neg hb,if_neg (fun q => he q.1 q.2)]
end
theorem bE_rep (z : Nat) : bE (List.replicate z 0) = List.replicate z [.v (.int .u8 0)] := by simp [bE]
theorem unpackZ_len {b : Bool} {s t : ByteArray} (h : unpackZ b s = some t) : t.size ≤ 20000 := by
 unfold unpackZ at h
 cases hu : uzGo s b s.size 0 [] with
 | none => rw [hu] at h; cases h
 | some out =>
  rw [hu] at h
  simp only at h
  split at h
  ·cases h; rw [Ym]; exact uz_len s b _ _ _ _ (by simp) hu
  ·cases h
theorem I_UnpackZeros (s : ByteArray) (hs : s.size ≤ 1099511627775) : Con Tryz.prog 44 [] [astr s] [] (otR (unpackZ true s)) := by
 refine Con.of Tryz.func44 J Tryz.ntmps44 J (fun E => ?_)
 refine zy (z1 J (z1 J (zz (zy (z1 J (zz (Qd ?_)))))));refine Qc (z1 J (zz (Qd (Qk ?_))))
 refine AWP.pre ?_ (W_nil 4 1 J)
 refine Xi (fun m__ st => ∃ (pos : Nat) (acc : List UInt8) (f : Nat),s.size - pos = m__ ∧ (s.size ≤ pos + f ∧ pos ≤ s.size ∧ acc.length ≤ 20000 ∧ uzGo s true f pos acc = uzGo s true s.size 0 []) ∧ st = (⟨_,[(0,S s),(4,.o (.c (.ref 0))),(5,I pos)],[.row 1 (bE acc)]⟩ : St)) _ ⟨_,⟨0,[],s.size,J,⟨by omega,by omega,by simp,J⟩,J⟩,Uf [0]⟩ ?_
 rintro m_A _ ⟨pos,acc,f,hk_A,hp_A,rfl⟩
 obtain ⟨hfu,hps,hal,hgo⟩ := hp_A
 have hla := Yh acc
 by_cases hlt : pos < s.size
 ·have hb : decide ((pos : Int) < s.size) = true := decide_eq_true (by omega)
  have hd := Xr s (pos : Int) (by omega) ⟨by omega,by omega⟩
  obtain ⟨g,rfl⟩ : ∃ g,f = g + 1 := ⟨f - 1,by omega⟩
  cases hv : decVar s (pos : Int) with
  | none =>
   rw [hv] at hd
   rw [show unpackZ true s = none by rw [unpackZ,← hgo,uz_none1 hlt hv]]
   refine Qd (zy (z0 J (z0 J (zx (Kd J J J) J (U1 J (zz (Qm J (Qh (Q0 ?_)))))))));refine Qk (zy (z0 J (z0 J ?_)));refine Un (Z3 J J (hd) J J J) J ?_;refine zx (Ga J) J (ze J (ze J (ze J (z1 J (z1 J (z1 J (zz (Qd (zy ?_)))))))));refine z0 J (zn J (z0 J (z6 J (z6 J (z6 J (z6 J (z6 J (zpT J (zz (Qm J ?_))))))))));refine zy (z1 J (z1 J (zz (Xa (T_r (B_r (T_r (B_r (T_r ?_)))))))));refine F_r ?_
   exact Xp J J J (Ue [] J J J)
  | some r =>
   obtain ⟨n,j⟩ := r
   rw [hv] at hd
   have hm := Ys hv
   obtain ⟨z,rfl⟩ : ∃ z : Nat,n = z := ⟨n.toNat,by omega⟩
   by_cases hbig : (20000 : Int) - acc.length < z
   ·have hb2 : decide ((20000 : Int) - ((bE acc).length : Int) < z) = true := decide_eq_true (by omega)
    rw [show unpackZ true s = none by rw [unpackZ,← hgo,uz_big1 hlt hv hbig]]
    refine Qd (zy (z0 J (z0 J (zx (Kd J J J) J (U1 J (zz (Qm J (Qh (Q0 ?_)))))))));refine Qk (zy (z0 J (z0 J ?_)));refine Un (Z3 J J (hd) J J J) J ?_;refine zx (Ga J) J (ze J (ze J (ze J (z1 J (z1 J (z1 J (zz (Qd (zy ?_)))))))));refine z0 J (zn J (z0 J (z5 J (z0 J (z5 J (z0 J (z5 J (zx (Kc J J J J) J (z5 J (Ux J (z5 J ?_)))))))))));refine Gb J (zpF J (zz (Qm J (zy (z1 J (z1 J (zz (Xa ?_))))))));refine T_r (B_r (T_r (B_r (T_r (F_r ?_)))))
    exact Xp J J J (Ue [] J J J)
   have hb2 : decide ((20000 : Int) - ((bE acc).length : Int) < z) = false := decide_eq_false (by omega)
   have hut := I_UnpackText s ((pos : Int) + (j : Int)) (by omega) ⟨by omega,by omega⟩
   cases hu : unpackText s ((pos : Int) + (j : Int)) with
   | none =>
    rw [hu] at hut
    rw [show unpackZ true s = none by rw [unpackZ,← hgo,uz_none2 hlt hv hu]]
    refine Qd (zy (z0 J (z0 J (zx (Kd J J J) J (U1 J (zz (Qm J (Qh (Q0 ?_)))))))));refine Qk (zy (z0 J (z0 J ?_)));refine Un (Z3 J J (hd) J J J) J ?_;refine zx (Ga J) J (ze J (ze J (ze J (z1 J (z1 J (z1 J (zz (Qd (zy ?_)))))))));refine z0 J (zn J (z0 J (z5 J (z0 J (z5 J (z0 J (z5 J (zx (Kc J J J J) J (z5 J (Ux J (z5 J ?_)))))))))));refine Gb J (zpF J (zz (Ql J (Qh (Q0 (zy (z0 J (z0 J (Uh J ?_)))))))));refine z1 J (zz (zy (z0 J (z0 J ?_))));refine Un (Z3 J J (hut) J J J) J ?_;refine zx (Ga J) J (ze J (ze J (ze J (z1 J (z1 J (z1 J (zz (Qd (zy ?_)))))))));refine z0 J (zn J (z0 J (z6 J (z6 J (z6 J (z6 J (z6 J (z6 J (z6 J (z6 J (zpT J ?_)))))))))));refine zz (Qm J (zy (z1 J (z1 J (zz (Xa (T_r (B_r ?_))))))));refine T_r (B_r (T_r (F_r ?_)))
    exact Xp J J J (Ue [] J J J)
   | some r =>
    obtain ⟨t,k⟩ := r
    rw [hu] at hut
    have hus := unpackText_some hu
    by_cases hbig2 : (20000 : Int) - acc.length < z + t.size
    ·have hb3 : decide ((20000 : Int) - ((bE acc).length : Int) - z < t.size) = true := decide_eq_true (by omega)
     rw [show unpackZ true s = none by rw [unpackZ,← hgo,uz_big hlt hv hu hbig2]]
     refine Qd (zy (z0 J (z0 J (zx (Kd J J J) J (U1 J (zz (Qm J (Qh (Q0 ?_)))))))));refine Qk (zy (z0 J (z0 J ?_)));refine Un (Z3 J J (hd) J J J) J ?_;refine zx (Ga J) J (ze J (ze J (ze J (z1 J (z1 J (z1 J (zz (Qd (zy ?_)))))))));refine z0 J (zn J (z0 J (z5 J (z0 J (z5 J (z0 J (z5 J (zx (Kc J J J J) J (z5 J (Ux J (z5 J ?_)))))))))));refine Gb J (zpF J (zz (Ql J (Qh (Q0 (zy (z0 J (z0 J (Uh J ?_)))))))));refine z1 J (zz (zy (z0 J (z0 J ?_))));refine Un (Z3 J J (hut) J J J) J ?_;refine zx (Ga J) J (ze J (ze J (ze J (z1 J (z1 J (z1 J (zz (Qd (zy ?_)))))))));refine z0 J (zn J (z0 J (z5 J (z0 J (z5 J (zx (Kd J J J) J (z5 J (z0 J (z5 J (zx (Kc J J J J) J (z5 J ?_)))))))))));refine Ux J (z5 J (z0 J (z5 J (Ux J (z5 J (Gb J (zpF J (zz (Qm J (Qd ?_))))))))));refine Qc (z1 J (z1 J (zz (Xa (T_r (B_r (T_r (B_r (T_r (F_r ?_))))))))))
     exact Xp J J J (Ue [] J J J)
    have hb3 : decide ((20000 : Int) - ((bE acc).length : Int) - z < t.size) = false := decide_eq_false (by omega)
    have hz1 : (bE (List.replicate z 0)).length = z := by rw [Yh,List.length_replicate]
    have ht1 : t.data.toList.length = t.size := by simp
    by_cases hemp : (z : Int) = 0 ∧ t.size = 0
    ·have e1 : decide ((z : Int) = 0) = true := decide_eq_true hemp.1
     have e2 : decide ((t.size : Int) = 0) = true := decide_eq_true (by omega)
     rw [show unpackZ true s = none by rw [unpackZ,← hgo,uz_emp hlt hv hu hemp]]
     refine Qd (zy (z0 J (z0 J (zx (Kd J J J) J (U1 J (zz (Qm J (Qh (Q0 ?_)))))))));refine Qk (zy (z0 J (z0 J ?_)));refine Un (Z3 J J (hd) J J J) J ?_;refine zx (Ga J) J (ze J (ze J (ze J (z1 J (z1 J (z1 J (zz (Qd (zy ?_)))))))));refine z0 J (zn J (z0 J (z5 J (z0 J (z5 J (z0 J (z5 J (zx (Kc J J J J) J (z5 J (Ux J (z5 J ?_)))))))))));refine Gb J (zpF J (zz (Ql J (Qh (Q0 (zy (z0 J (z0 J (Uh J ?_)))))))));refine z1 J (zz (zy (z0 J (z0 J ?_))));refine Un (Z3 J J (hut) J J J) J ?_;refine zx (Ga J) J (ze J (ze J (ze J (z1 J (z1 J (z1 J (zz (Qd (zy ?_)))))))));refine z0 J (zn J (z0 J (z5 J (z0 J (z5 J (zx (Kd J J J) J (z5 J (z0 J (z5 J (zx (Kc J J J J) J (z5 J ?_)))))))))));refine Ux J (z5 J (z0 J (z5 J (Ux J (z5 J (Gb J (zpF J (zz (Ql J (Qh ?_))))))))));refine Q0 (zy (z0 J (z0 J (Uh J (z1 J (zz (zy (z0 J ?_))))))));refine z0 J ?_;refine M_appz 9 J J J J J J J (by omega) ?_;refine z1 J (zz (zy (z0 J (z0 J ?_))))
     refine Xy J J J J J J J (by simp only [List.length_append]; omega) (by simp only [List.length_append]; omega) ?_;refine z1 J ?_
     refine zz (zy (z0 J (Gr J (z0 J (z5 J (z0 J (z5 J (zx (Kd J J J) J (z5 J ?_)))))))));refine Gr J (zpT J (zz (Qm J (zy (z1 J (z1 J (zz (Xa ?_))))))));refine B_r (T_r (B_r (T_r (F_r ?_))))
     exact Xp J J J (Ue [] J J J)
    have hgo2 := uz_step (acc := acc) (f := g) (b := true) hlt hv hu hbig2 (fun _ => hemp)
    rw [hgo,show ((z : Int)).toNat = z by omega] at hgo2
    by_cases hz0 : (z : Int) = 0
    ·have e1 : decide ((z : Int) = 0) = true := decide_eq_true hz0
     have e2 : decide ((t.size : Int) = 0) = false := decide_eq_false (by omega)
     refine Qd (zy (z0 J (z0 J (zx (Kd J J J) J (U1 J (zz (Qm J (Qh (Q0 ?_)))))))));refine Qk (zy (z0 J (z0 J ?_)));refine Un (Z3 J J (hd) J J J) J ?_;refine zx (Ga J) J (ze J (ze J (ze J (z1 J (z1 J (z1 J (zz (Qd (zy ?_)))))))));refine z0 J (zn J (z0 J (z5 J (z0 J (z5 J (z0 J (z5 J (zx (Kc J J J J) J (z5 J (Ux J (z5 J ?_)))))))))));refine Gb J (zpF J (zz (Ql J (Qh (Q0 (zy (z0 J (z0 J (Uh J ?_)))))))));refine z1 J (zz (zy (z0 J (z0 J ?_))));refine Un (Z3 J J (hut) J J J) J ?_;refine zx (Ga J) J (ze J (ze J (ze J (z1 J (z1 J (z1 J (zz (Qd (zy ?_)))))))));refine z0 J (zn J (z0 J (z5 J (z0 J (z5 J (zx (Kd J J J) J (z5 J (z0 J (z5 J (zx (Kc J J J J) J (z5 J ?_)))))))))));refine Ux J (z5 J (z0 J (z5 J (Ux J (z5 J (Gb J (zpF J (zz (Ql J (Qh ?_))))))))));refine Q0 (zy (z0 J (z0 J (Uh J (z1 J (zz (zy (z0 J ?_))))))));refine z0 J ?_;refine M_appz 9 J J J J J J J (by omega) ?_;refine z1 J (zz (zy (z0 J (z0 J ?_))))
     refine Xy J J J J J J J (by simp only [List.length_append]; omega) (by simp only [List.length_append]; omega) ?_;refine z1 J ?_
     refine zz (zy (z0 J (Gr J (z0 J (z5 J (z0 J (z5 J (zx (Kd J J J) J (z5 J ?_)))))))));refine Gr J (zpT J (zz (Ql J (Qh (Q1 (Q0 ?_))))))
     refine ⟨_,(by omega),_,⟨pos + j + k,acc ++ List.replicate z 0 ++ t.data.toList,g,J,⟨by omega,by omega,by simp only [List.length_append,List.length_replicate]; omega,hgo2.symm⟩,J⟩,(by rw [Yg,Yg]; exact Uf [0])⟩
    ·have e1 : decide ((z : Int) = 0) = false := decide_eq_false hz0
     refine Qd (zy (z0 J (z0 J (zx (Kd J J J) J (U1 J (zz (Qm J (Qh (Q0 ?_)))))))));refine Qk (zy (z0 J (z0 J ?_)));refine Un (Z3 J J (hd) J J J) J ?_;refine zx (Ga J) J (ze J (ze J (ze J (z1 J (z1 J (z1 J (zz (Qd (zy ?_)))))))));refine z0 J (zn J (z0 J (z5 J (z0 J (z5 J (z0 J (z5 J (zx (Kc J J J J) J (z5 J (Ux J (z5 J ?_)))))))))));refine Gb J (zpF J (zz (Ql J (Qh (Q0 (zy (z0 J (z0 J (Uh J ?_)))))))));refine z1 J (zz (zy (z0 J (z0 J ?_))));refine Un (Z3 J J (hut) J J J) J ?_;refine zx (Ga J) J (ze J (ze J (ze J (z1 J (z1 J (z1 J (zz (Qd (zy ?_)))))))));refine z0 J (zn J (z0 J (z5 J (z0 J (z5 J (zx (Kd J J J) J (z5 J (z0 J (z5 J (zx (Kc J J J J) J (z5 J ?_)))))))))));refine Ux J (z5 J (z0 J (z5 J (Ux J (z5 J (Gb J (zpF J (zz (Ql J (Qh ?_))))))))));refine Q0 (zy (z0 J (z0 J (Uh J (z1 J (zz (zy (z0 J ?_))))))));refine z0 J ?_;refine M_appz 9 J J J J J J J (by omega) ?_;refine z1 J (zz (zy (z0 J (z0 J ?_))))
     refine Xy J J J J J J J (by simp only [List.length_append]; omega) (by simp only [List.length_append]; omega) ?_;refine z1 J ?_
     refine zz (zy (z0 J (Gr J (z0 J (z6 J (z6 J (z6 J (zpF J (Qe ?_)))))))));refine Q0 (Ql J (Qh (Q1 (Q0 ?_))))
     refine ⟨_,(by omega),_,⟨pos + j + k,acc ++ List.replicate z 0 ++ t.data.toList,g,J,⟨by omega,by omega,by simp only [List.length_append,List.length_replicate]; omega,hgo2.symm⟩,J⟩,(by rw [Yg,Yg]; exact Uf [0])⟩
 ·have hb : decide ((pos : Int) < s.size) = false := decide_eq_false (by omega)
  have hend := uz_end (b := true) hlt f acc
  have hpk := I_PackZeros (bs acc) (by rw [Ym]; omega)
  rw [Yl] at hpk
  by_cases heq : bs (packZ acc) = s
  ·have e1 : decide (bs (packZ acc) ≠ s) = false := decide_eq_false (fun q => q heq)
   rw [show unpackZ true s = some (bs acc) by rw [unpackZ,← hgo,hend]; simp only []; rw [if_pos heq]]
   refine Qd (zy (z0 J (z0 J (zx (Kd J J J) J (U1 J (zz (Ql J (Q9 (T_x ?_)))))))));refine T_x (Xk (Q0 (Qd (zy (z0 J (zx (q_bstr J J J J) J ?_))))));refine zx (Qj J J (hpk) J) J ?_;refine z0 J (zx (Km J J J J (by assumption)) J (zz (Ql J (Qh (Q0 (zy (z0 J (zx (q_bstr J J J J) J (z1 J ?_)))))))));refine z1 J (zz (Xa (F_r ?_)))
   exact Xp J J J (Ue [] J J J)
  ·have e1 : decide (bs (packZ acc) ≠ s) = true := decide_eq_true heq
   rw [show unpackZ true s = none by rw [unpackZ,← hgo,hend]; simp only []; rw [if_neg heq]]
   refine Qd (zy (z0 J (z0 J (zx (Kd J J J) J (U1 J (zz (Ql J (Q9 (T_x ?_)))))))));refine T_x (Xk (Q0 (Qd (zy (z0 J (zx (q_bstr J J J J) J ?_))))));refine zx (Qj J J (hpk) J) J ?_;refine z0 J (zx (Km J J J J (by assumption)) J (zz (Qm J (zy (z1 J (z1 J (zz (Xa ?_))))))));refine T_r (F_r ?_)
   exact Xp J J J (Ue [] J J J)
theorem S_UnpackZeros (s : ByteArray) (hs : s.size ≤ 1099511627775) : Con Tryz.prog 102 [] [astr s] [] (otR (unpackZ false s)) := by
 refine Con.of Tryz.func102 J Tryz.ntmps102 J (fun E => ?_)
 refine zy (z1 J (z1 J (zz (zy (z1 J (zz (Qd ?_)))))));refine zy (z1 J (zz (Qk ?_)));refine Xi (fun m__ st => ∃ (pos : Nat) (acc : List UInt8) (f : Nat),s.size - pos = m__ ∧ (s.size ≤ pos + f ∧ pos ≤ s.size ∧ acc.length ≤ 20000 ∧ uzGo s false f pos acc = uzGo s false s.size 0 []) ∧ st = (⟨_,[(0,S s),(4,S (bs acc)),(5,I pos)],[]⟩ : St)) _ ⟨_,⟨0,[],s.size,J,⟨by omega,by omega,by simp,J⟩,J⟩,Uf []⟩ ?_
 rintro m_A _ ⟨pos,acc,f,hk_A,hp_A,rfl⟩
 obtain ⟨hfu,hps,hal,hgo⟩ := hp_A
 have hla := Ym acc
 by_cases hlt : pos < s.size
 ·have hb : decide ((pos : Int) < s.size) = true := decide_eq_true (by omega)
  have hd := X0 s (pos : Int) (by omega) ⟨by omega,by omega⟩
  obtain ⟨g,rfl⟩ : ∃ g,f = g + 1 := ⟨f - 1,by omega⟩
  cases hv : decVar s (pos : Int) with
  | none =>
   rw [hv] at hd
   have hut := S_UnpackText s ((pos : Int) + (0 : Int)) (by omega) ⟨by omega,by omega⟩
   rw [show unpackText s ((pos : Int) + (0 : Int)) = none by rw [Int.add_zero,unpackText,hv]] at hut
   rw [show unpackZ false s = none by rw [unpackZ,← hgo,uz_none1 hlt hv]]
   refine Qd (zy (z0 J (z0 J (zx (Kd J J J) J (U1 J (zz (Qm J (Qh (Q0 ?_)))))))));refine Qk (zy (z0 J (z0 J ?_)));refine Un (Z3 J J (hd) J J J) J ?_;refine zx (Ga J) J (ze J (ze J (ze J (z1 J (z1 J (z1 J (zz (zy (z0 J ?_)))))))));refine z0 J (z0 J (Uh J ?_));refine Un (Z3 J J (hut) J J J) J ?_;refine zx (Ga J) J (ze J (ze J (ze J (z1 J (z1 J (z1 J (zz (Qd (zy ?_)))))))));refine z0 J (zn J (z0 J (z6 J (z6 J (zpT J (z0 J (z6 J (z6 J (z6 J (z6 J (z6 J ?_)))))))))));refine z6 J (z6 J (z6 J (zpT J (zz (Qm J (zy (z1 J (z1 J (Qe ?_)))))))));refine Q0 (Xa (T_r (B_r (T_r (B_r (T_r (F_r ?_)))))))
   exact Xp J J J (Ue [] J J J)
  | some r =>
   obtain ⟨n,j⟩ := r
   rw [hv] at hd
   have hm := Ys hv
   obtain ⟨z,rfl⟩ : ∃ z : Nat,n = z := ⟨n.toNat,by omega⟩
   have hut := S_UnpackText s ((pos : Int) + (j : Int)) (by omega) ⟨by omega,by omega⟩
   cases hu : unpackText s ((pos : Int) + (j : Int)) with
   | none =>
    rw [hu] at hut
    rw [show unpackZ false s = none by rw [unpackZ,← hgo,uz_none2 hlt hv hu]]
    refine Qd (zy (z0 J (z0 J (zx (Kd J J J) J (U1 J (zz (Qm J (Qh (Q0 ?_)))))))));refine Qk (zy (z0 J (z0 J ?_)));refine Un (Z3 J J (hd) J J J) J ?_;refine zx (Ga J) J (ze J (ze J (ze J (z1 J (z1 J (z1 J (zz (zy (z0 J ?_)))))))));refine z0 J (z0 J (Uh J ?_));refine Un (Z3 J J (hut) J J J) J ?_;refine zx (Ga J) J (ze J (ze J (ze J (z1 J (z1 J (z1 J (zz (Qd (zy ?_)))))))));refine z0 J (zn J (z0 J (z5 J (z0 J (z5 J (zn J (zpF J (z0 J (z6 J (z6 J (z6 J ?_)))))))))));refine z6 J (z6 J (z6 J (z6 J (z6 J (zpT J (zz (Qm J (zy (z1 J ?_)))))))));refine z1 J (zz (Xa (T_r (B_r (T_r (B_r (T_r (F_r ?_))))))))
    exact Xp J J J (Ue [] J J J)
   | some r =>
    obtain ⟨t,k⟩ := r
    rw [hu] at hut
    have hus := unpackText_some hu
    by_cases hbig2 : (20000 : Int) - acc.length < z + t.size
    ·have hb3 : decide ((20000 : Int) - ((bs acc).size : Int) < (z : Int) + (t.size : Int)) = true := decide_eq_true (by omega)
     rw [show unpackZ false s = none by rw [unpackZ,← hgo,uz_big hlt hv hu hbig2]]
     refine Qd (zy (z0 J (z0 J (zx (Kd J J J) J (U1 J (zz (Qm J (Qh (Q0 ?_)))))))));refine Qk (zy (z0 J (z0 J ?_)));refine Un (Z3 J J (hd) J J J) J ?_;refine zx (Ga J) J (ze J (ze J (ze J (z1 J (z1 J (z1 J (zz (zy (z0 J ?_)))))))));refine z0 J (z0 J (Uh J ?_));refine Un (Z3 J J (hut) J J J) J ?_;refine zx (Ga J) J (ze J (ze J (ze J (z1 J (z1 J (z1 J (zz (Qd (zy ?_)))))))));refine z0 J (zn J (z0 J (z5 J (z0 J (z5 J (zn J (zpF J (z0 J (z5 J (z0 J (z5 J ?_)))))))))));refine z0 J (z5 J (zx (Kd J J J) J (z5 J (Uh J (z5 J (z0 J (z5 J (zx (Kd J J J) J (z5 J (Ux J (z5 J ?_)))))))))));refine Gb J (zpF J (zz (Qm J (zy (z1 J (z1 J (zz (Xa ?_))))))));refine T_r (B_r (T_r (B_r (T_r (F_r ?_)))))
     exact Xp J J J (Ue [] J J J)
    have hb3 : decide ((20000 : Int) - ((bs acc).size : Int) < (z : Int) + (t.size : Int)) = false := decide_eq_false (by omega)
    have hgo2 := uz_step (acc := acc) (f := g) (b := false) hlt hv hu hbig2 (fun q => by cases q)
    rw [hgo,show ((z : Int)).toNat = z by omega] at hgo2
    have ht1 : t.data.toList.length = t.size := by simp
    have hz2 := Ym (List.replicate z (0 : UInt8))
    rw [List.length_replicate] at hz2
    have hz3 : (bs acc ++ bs (List.replicate z (0 : UInt8))).size = acc.length + z := by rw [bs_app,Ym,List.length_append,List.length_replicate]
    have hz4 : (⟨(List.replicate z (0 : UInt8)).toArray⟩ : ByteArray).size = z := hz2
    have hz5 : (bs acc ++ (⟨(List.replicate z (0 : UInt8)).toArray⟩ : ByteArray)).size = acc.length + z := hz3
    have hS : bs acc ++ bs (List.replicate z 0) ++ t = bs (acc ++ List.replicate z 0 ++ t.data.toList) := by rw [← bs_app,← bs_app,bs_of t]
    refine Qd (zy (z0 J (z0 J (zx (Kd J J J) J (U1 J (zz (Qm J (Qh (Q0 ?_)))))))));refine Qk (zy (z0 J (z0 J ?_)));refine Un (Z3 J J (hd) J J J) J ?_;refine zx (Ga J) J (ze J (ze J (ze J (z1 J (z1 J (z1 J (zz (zy (z0 J ?_)))))))));refine z0 J (z0 J (Uh J ?_));refine Un (Z3 J J (hut) J J J) J ?_;refine zx (Ga J) J (ze J (ze J (ze J (z1 J (z1 J (z1 J (zz (Qd (zy ?_)))))))));refine z0 J (zn J (z0 J (z5 J (z0 J (z5 J (zn J (zpF J (z0 J (z5 J (z0 J (z5 J ?_)))))))))));refine z0 J (z5 J (zx (Kd J J J) J (z5 J (Uh J (z5 J (z0 J (z5 J (zx (Kd J J J) J (z5 J (Ux J (z5 J ?_)))))))))));refine Gb J (zpF J (zz (Ql J (Qh (Q0 (zy (z0 J (z0 J ?_))))))));refine Un (q_make 0 J J J J (by omega) (by omega) (by omega) J (by decide)) J ?_;refine AL.weak (st' := (⟨_,[(0,S s),(5,I pos),(6,I z),(7,I j),(9,S t),(10,I k),(48,S (bs acc)),(50,.o (.c (.ref 0)))],[.row 1 (bE (List.replicate z 0))]⟩ : St)) (Yb [0] (by decide) J ((row_eq (bE_rep z))) (.c J (.c J (.c J (.c J (.c J (.c J (.c J (.c J (.nil)))))))))) ?_;refine zx (q_bstr J J J J) J (zx (q_cat J J J J (by omega)) J (z0 J (zx (q_cat J J J J (by omega)) J (z1 J (zz (Qc (z0 J (z0 J (Uh J (z0 J ?_))))))))));refine Uh J (z1 J (Qe (Q1 (Q0 ?_))))
    refine ⟨_,(by omega),(fun (pos : Nat) (acc : List UInt8) (f : Nat) => (⟨_,[(0,S s),(4,S (bs acc)),(5,I pos)],[]⟩ : St)) (pos + j + k) (acc ++ List.replicate z 0 ++ t.data.toList) (g),⟨pos + j + k,acc ++ List.replicate z 0 ++ t.data.toList,g,J,⟨by omega,by omega,by simp only [List.length_append,List.length_replicate]; omega,hgo2.symm⟩,J⟩,V6 [] J (.c J (.cons (S_eq hS) (.c J (.nil))))⟩
 ·have hb : decide ((pos : Int) < s.size) = false := decide_eq_false (by omega)
  have hend := uz_end (b := false) hlt f acc
  have hpk := S_PackZeros (bs acc) (by rw [Ym]; omega)
  rw [Yl] at hpk
  by_cases heq : bs (packZ acc) = s
  ·have e1 : decide (bs (packZ acc) ≠ s) = false := decide_eq_false (fun q => q heq)
   rw [show unpackZ false s = some (bs acc) by rw [unpackZ,← hgo,hend]; simp only []; rw [if_pos heq]]
   refine Qd (zy (z0 J (z0 J (zx (Kd J J J) J (U1 J (zz (Ql J (Q9 (T_x ?_)))))))));refine T_x (Xk (Q0 (Qd (zy (z0 J ?_)))));refine zx (Qj J J (hpk) J) J ?_;refine z0 J (zx (Km J J J J (by assumption)) J (zz (Ql J (Qh (Q0 (zy (z0 J (z1 J (z1 J ?_)))))))));refine zz (Xa (F_r ?_))
   exact Xp J J J (Ue [] J J J)
  ·have e1 : decide (bs (packZ acc) ≠ s) = true := decide_eq_true heq
   rw [show unpackZ false s = none by rw [unpackZ,← hgo,hend]; simp only []; rw [if_neg heq]]
   refine Qd (zy (z0 J (z0 J (zx (Kd J J J) J (U1 J (zz (Ql J (Q9 (T_x ?_)))))))));refine T_x (Xk (Q0 (Qd (zy (z0 J ?_)))));refine zx (Qj J J (hpk) J) J ?_;refine z0 J (zx (Km J J J J (by assumption)) J (zz (Qm J (zy (z1 J (z1 J (zz (Xa ?_))))))));refine T_r (F_r ?_)
   exact Xp J J J (Ue [] J J J)
def applyD (base delta : ByteArray) : Option ByteArray := match decVar delta 0 with
 | none => none
 | some (n,j) => match unpackZ true (delta.extract j delta.size) with
  | none => none
  | some x => if (x.size : Int) = n then some (xorText base x) else none
theorem xor_size (a b : ByteArray) : (xorText a b).size = b.size := by
 rw [xorText,Ym,Vc]; simp
theorem applyD_len {a d t : ByteArray} (h : applyD a d = some t) : t.size ≤ 20000 := by
 unfold applyD at h
 split at h
 ·cases h
 ·split at h
  ·cases h
  ·rename_i x hx
   split at h
   ·cases h; rw [xor_size]; exact unpackZ_len hx
   ·cases h
theorem I_ApplyDelta (base delta : ByteArray) (hb : base.size ≤ 1099511627775) (hs : delta.size ≤ 1099511627775) : Con Tryz.prog 18 [] [astr base,astr delta] [] (otR (applyD base delta)) := by
 have hd := Xr delta 0 (by omega) ⟨by omega,by omega⟩
 cases hv : decVar delta 0 with
 | none =>
  rw [hv] at hd
  rw [show applyD base delta = none by rw [applyD,hv]]
  refine Con.of Tryz.func18 J Tryz.ntmps18 J (fun E => ?_)
  refine zy (z1 J (z1 J (zz (zy (z0 J ?_)))));refine Un (Z3 J J (hd) J J J) J ?_;refine zx (Ga J) J (ze J (ze J (ze J (z1 J (z1 J (z1 J (zz (Qd (zy ?_)))))))));refine z0 J (zn J (zz (Qm J (zy (z1 J (z1 J (zz (Xa ?_))))))));refine T_r (F_r ?_)
  exact Xp J J J (Ue [] J J J)
 | some r =>
  obtain ⟨n,j⟩ := r
  rw [hv] at hd
  have hm := Ys hv
  have hz := I_UnpackZeros (delta.extract j delta.size) (by rw [ByteArray.size_extract]; omega)
  have he := unpackZ_eq (delta.extract j delta.size) (by rw [ByteArray.size_extract]; omega)
  try rw [← he] at hz
  cases hu : unpackZ true (delta.extract j delta.size) with
  | none =>
   rw [hu] at hz
   rw [show applyD base delta = none by rw [applyD,hv]; simp only [hu]]
   refine Con.of Tryz.func18 J Tryz.ntmps18 J (fun E => ?_)
   refine zy (z1 J (z1 J (zz (zy (z0 J ?_)))));refine Un (Z3 J J (hd) J J J) J ?_;refine zx (Ga J) J (ze J (ze J (ze J (z1 J (z1 J (z1 J (zz (Qd (zy ?_)))))))));refine z0 J (zn J (zz (Ql J (Qh (Q0 (zy (z0 J (z0 J (zx (Ko J J J J (by omega)) J ?_)))))))));refine Un (Z3 J J (hz) J J J) J ?_;refine zx (Ga J) J (ze J (ze J (z1 J (z1 J (zz (Qd (zy (z0 J (zn J ?_)))))))));refine z0 J (z6 J (z6 J (z6 J (z6 J (zpT J (zz (Qm J (zy (z1 J ?_)))))))));refine z1 J (zz (Xa (T_r (F_r ?_))))
   exact Xp J J J (Ue [] J J J)
  | some x =>
   rw [hu] at hz
   have hx := I_XorText base x (by omega) (by have := unpackZ_len hu; omega)
   by_cases hn : (x.size : Int) = n
   ·have e1 : decide ((x.size : Int) ≠ n) = false := decide_eq_false (fun q => q hn)
    rw [show applyD base delta = some (xorText base x) by rw [applyD,hv]; simp only [hu]; rw [if_pos hn]]
    refine Con.of Tryz.func18 J Tryz.ntmps18 J (fun E => ?_)
    refine zy (z1 J (z1 J (zz (zy (z0 J ?_)))));refine Un (Z3 J J (hd) J J J) J ?_;refine zx (Ga J) J (ze J (ze J (ze J (z1 J (z1 J (z1 J (zz (Qd (zy ?_)))))))));refine z0 J (zn J (zz (Ql J (Qh (Q0 (zy (z0 J (z0 J (zx (Ko J J J J (by omega)) J ?_)))))))));refine Un (Z3 J J (hz) J J J) J ?_;refine zx (Ga J) J (ze J (ze J (z1 J (z1 J (zz (Qd (zy (z0 J (zn J ?_)))))))));refine z0 J (z5 J (z0 J (z5 J (zx (Kd J J J) J (z5 J (z0 J (z5 J (Gn J (zpF J (zz ?_))))))))));refine Ql J (Qh (Q0 (zy (z0 J (z0 J ?_)))));refine zx (Qj J J (hx) J) J ?_;refine z1 J (z1 J (zz (Xa (F_r ?_))))
    exact Xp J J J (Ue [] J J J)
   ·have e1 : decide ((x.size : Int) ≠ n) = true := decide_eq_true hn
    rw [show applyD base delta = none by rw [applyD,hv]; simp only [hu]; rw [if_neg hn]]
    refine Con.of Tryz.func18 J Tryz.ntmps18 J (fun E => ?_)
    refine zy (z1 J (z1 J (zz (zy (z0 J ?_)))));refine Un (Z3 J J (hd) J J J) J ?_;refine zx (Ga J) J (ze J (ze J (ze J (z1 J (z1 J (z1 J (zz (Qd (zy ?_)))))))));refine z0 J (zn J (zz (Ql J (Qh (Q0 (zy (z0 J (z0 J (zx (Ko J J J J (by omega)) J ?_)))))))));refine Un (Z3 J J (hz) J J J) J ?_;refine zx (Ga J) J (ze J (ze J (z1 J (z1 J (zz (Qd (zy (z0 J (zn J ?_)))))))));refine z0 J (z5 J (z0 J (z5 J (zx (Kd J J J) J (z5 J (z0 J (z5 J (Gn J (zpF J (zz ?_))))))))));refine Qm J (zy (z1 J (z1 J (zz (Xa (T_r (F_r ?_)))))))
    exact Xp J J J (Ue [] J J J)
theorem S_ApplyDelta (base delta : ByteArray) (hb : base.size ≤ 1099511627775) (hs : delta.size ≤ 1099511627775) : Con Tryz.prog 86 [] [astr base,astr delta] [] (otR (applyD base delta)) := by
 have hd := X0 delta 0 (by omega) ⟨by omega,by omega⟩
 cases hv : decVar delta 0 with
 | none =>
  rw [hv] at hd
  rw [show applyD base delta = none by rw [applyD,hv]]
  refine Con.of Tryz.func86 J Tryz.ntmps86 J (fun E => ?_)
  refine zy (z1 J (z1 J (zz (zy (z0 J ?_)))));refine Un (Z3 J J (hd) J J J) J ?_;refine zx (Ga J) J (ze J (ze J (ze J (z1 J (z1 J (z1 J (zz (Qd (zy ?_)))))))));refine z0 J (zn J (zz (Qm J (zy (z1 J (z1 J (zz (Xa ?_))))))));refine T_r (F_r ?_)
  exact Xp J J J (Ue [] J J J)
 | some r =>
  obtain ⟨n,j⟩ := r
  rw [hv] at hd
  have hm := Ys hv
  have hz := S_UnpackZeros (delta.extract j delta.size) (by rw [ByteArray.size_extract]; omega)
  have he := unpackZ_eq (delta.extract j delta.size) (by rw [ByteArray.size_extract]; omega)
  try rw [← he] at hz
  cases hu : unpackZ true (delta.extract j delta.size) with
  | none =>
   rw [hu] at hz
   rw [show applyD base delta = none by rw [applyD,hv]; simp only [hu]]
   refine Con.of Tryz.func86 J Tryz.ntmps86 J (fun E => ?_)
   refine zy (z1 J (z1 J (zz (zy (z0 J ?_)))));refine Un (Z3 J J (hd) J J J) J ?_;refine zx (Ga J) J (ze J (ze J (ze J (z1 J (z1 J (z1 J (zz (Qd (zy ?_)))))))));refine z0 J (zn J (zz (Ql J (Qh (Q0 (zy (z0 J (z0 J (zx (Ko J J J J (by omega)) J ?_)))))))));refine Un (Z3 J J (hz) J J J) J ?_;refine zx (Ga J) J (ze J (ze J (z1 J (z1 J (zz (Qd (zy (z0 J (zn J ?_)))))))));refine z0 J (z6 J (z6 J (z6 J (z6 J (zpT J (zz (Qm J (zy (z1 J ?_)))))))));refine z1 J (zz (Xa (T_r (F_r ?_))))
   exact Xp J J J (Ue [] J J J)
  | some x =>
   rw [hu] at hz
   have hx := S_XorText base x (by omega) (by have := unpackZ_len hu; omega)
   by_cases hn : (x.size : Int) = n
   ·have e1 : decide ((x.size : Int) ≠ n) = false := decide_eq_false (fun q => q hn)
    rw [show applyD base delta = some (xorText base x) by rw [applyD,hv]; simp only [hu]; rw [if_pos hn]]
    refine Con.of Tryz.func86 J Tryz.ntmps86 J (fun E => ?_)
    refine zy (z1 J (z1 J (zz (zy (z0 J ?_)))));refine Un (Z3 J J (hd) J J J) J ?_;refine zx (Ga J) J (ze J (ze J (ze J (z1 J (z1 J (z1 J (zz (Qd (zy ?_)))))))));refine z0 J (zn J (zz (Ql J (Qh (Q0 (zy (z0 J (z0 J (zx (Ko J J J J (by omega)) J ?_)))))))));refine Un (Z3 J J (hz) J J J) J ?_;refine zx (Ga J) J (ze J (ze J (z1 J (z1 J (zz (Qd (zy (z0 J (zn J ?_)))))))));refine z0 J (z5 J (z0 J (z5 J (zx (Kd J J J) J (z5 J (z0 J (z5 J (Gn J (zpF J (zz ?_))))))))));refine Ql J (Qh (Q0 (zy (z0 J (z0 J ?_)))));refine zx (Qj J J (hx) J) J ?_;refine z1 J (z1 J (zz (Xa (F_r ?_))))
    exact Xp J J J (Ue [] J J J)
   ·have e1 : decide ((x.size : Int) ≠ n) = true := decide_eq_true hn
    rw [show applyD base delta = none by rw [applyD,hv]; simp only [hu]; rw [if_neg hn]]
    refine Con.of Tryz.func86 J Tryz.ntmps86 J (fun E => ?_)
    refine zy (z1 J (z1 J (zz (zy (z0 J ?_)))));refine Un (Z3 J J (hd) J J J) J ?_;refine zx (Ga J) J (ze J (ze J (ze J (z1 J (z1 J (z1 J (zz (Qd (zy ?_)))))))));refine z0 J (zn J (zz (Ql J (Qh (Q0 (zy (z0 J (z0 J (zx (Ko J J J J (by omega)) J ?_)))))))));refine Un (Z3 J J (hz) J J J) J ?_;refine zx (Ga J) J (ze J (ze J (z1 J (z1 J (zz (Qd (zy (z0 J (zn J ?_)))))))));refine z0 J (z5 J (z0 J (z5 J (zx (Kd J J J) J (z5 J (z0 J (z5 J (Gn J (zpF J (zz ?_))))))))));refine Qm J (zy (z1 J (z1 J (zz (Xa (T_r (F_r ?_)))))))
    exact Xp J J J (Ue [] J J J)
end
section
open Go.RowKit

theorem I_ReadWorld (lv : TLevel) (s : ByteArray) (hg : Enc.gd lv) (hL : lv.Rows.length ≤ 1048576) (hs : s.size ≤ 1099511627776) : Con Tryz.prog 19 [] [ag lv,astr s] (ownO (Enc.e (rwW (readWorld lv s)))) (.tu [.ag (ownV 0 (Enc.e (rwW (readWorld lv s)))),.c (bv (rwB (readWorld lv s)))]) := by
 have hui := I_UnpackInts s 0 hs ⟨by omega,by omega⟩
 cases hu : unpackInts s 0 with
 | none =>
  rw [hu] at hui
  rw [Kr hu]
  refine Con.of Tryz.func19 J Tryz.ntmps19 J (fun E => ?_)
  refine zy (Un (Gf J) J (Un (Gh J J) J (z1 J (zz (zy (z0 J ?_))))));refine Un (Z3 J J (hui) J J J) J ?_;refine zx (Ga J) J (ze J (ze J (ze J (z1 J (z1 J (z1 J (zz (Qd (zy ?_)))))))));refine z0 J (zn J (z0 J (z6 J (z6 J (z6 J (z6 J (zpT J (z0 J (z6 J (z6 J (z6 J ?_)))))))))));refine zpT J (zz (Qm J (zy (zx (Zz J J J J J) J ?_))));refine G1 J J (z1 J (zz (Xa (T_r (F_r ?_)))))
  exact G7 J J (X9 [1,1,9] [3,4,5] J J (by decide) J J J)
 | some r =>
  obtain ⟨l,pos⟩ := r
  rw [hu] at hui
  obtain ⟨_,hu1,hu2,hu3,hu4⟩ := K4 hu
  have hll := Yx l
  refine Con.of Tryz.func19 J Tryz.ntmps19 J (fun E => ?_)
  refine zy (Un (Gf J) J (Un (Gh J J) J (z1 J (zz (zy (z0 J ?_))))));refine Un (Z3 J J (hui) J J J) J ?_;refine zx (Ga J) J (ze J (ze J (ze J (z1 J (z1 J (z1 J (zz (Qd (zy ?_)))))))));refine z0 J (zn J (z0 J (z5 J (z0 J (z5 J (z0 J (z5 J (zx (Kd J J J) J (z5 J (zx (Kj J J J J) J (zpF J ?_)))))))))));refine z0 J ?_;refine zx (Qt.grdF J J J .stop (fun hgrd => Vo J)) J ?_;refine zx (Uj J (.hit .stop) (fun hgrd => Kc J J J J)) J ?_;refine zx (Uj J (.hit (.hit .stop)) (fun hgrd => Vi J)) J ?_;refine zx (Uk J) J (zz ?_)
  refine Xb J (fun h => ?_) (fun h => ?_)
  ·simp only [Bool.or_eq_true,decide_eq_true_eq] at h
   rw [Kq hu (fun hh => by have := hh.2.1.1; omega)]
   refine zy (zx (Zz J J J J J) J ?_);refine G1 J J (z1 J (zz (Xa (T_r (F_r ?_)))))
   exact G7 J J (X9 [1,1,9] [3,4,5] J J (by decide) J J J)
  simp only [Bool.or_eq_false_iff,decide_eq_false_iff_not] at h
  have ha0 := Yw (l := l) (j := 0) (by omega) 0 rfl
  have ha1 := Yw (l := l) (j := 1) (by omega) 1 rfl
  have ha2 := Yw (l := l) (j := 2) (by omega) 2 rfl
  obtain ⟨l2,hl2⟩ : ∃ l2,l.getD 2 0 = l2 := ⟨_,rfl⟩
  rw [hl2] at ha2
  have hl264 : I64 l2 := by
   rw [← hl2,List.getD_eq_getElem?_getD,List.getElem?_eq_getElem (by omega)]
   exact hu4 _ (List.getElem_mem _)
  have hl21 := hl264.1
  have hl22 := hl264.2
  have hbt := Xu l2 1 4
  by_cases hin : inR l2 1 4 = true
  case neg =>
   have hf : inR l2 1 4 = false := by simpa using hin
   rw [hf] at hbt
   rw [Kq hu (fun hh => by have := hh.2.1.2.1; rw [hl2,← Za] at this; exact hin this)]
   refine Qh (Q0 (zy (z0 J (zx (Q3 J J J J J (by omega) (by omega)) J (zx (qk J (by assumption) J) J (z1 J (zz (Qd (Qd ?_)))))))));refine Qc (z0 J ?_);refine zx (Qj J J (hbt) J) J ?_;refine zn J (z0 J (z6 J (z6 J (z6 J (z6 J (z6 J (zpT J (zz (Qm J (Qd ?_))))))))));refine Qc (zx (Zz J J J J J) J ?_);refine G1 J J (z1 J (zz (Xa (T_r (F_r ?_)))))
   exact G7 J J (X9 [1,1,9] [3,4,5] J J (by decide) J J J)
  rw [hin] at hbt
  have hin2 := Za.1 hin
  obtain ⟨p,rfl⟩ : ∃ p : Nat,l2 = p := ⟨l2.toNat,by omega⟩
  refine Qh (Q0 (zy (z0 J (zx (Q3 J J J J J (by omega) (by omega)) J (zx (qk J (by assumption) J) J (z1 J (zz (Qd (Qd ?_)))))))));refine Qc (z0 J ?_);refine zx (Qj J J (hbt) J) J ?_;refine zn J (z0 J (z5 J (z0 J (z5 J (zx (Kc J J J J) J (z5 J (z0 J (z5 J (Uh J (z5 J (zx (Vi J) J ?_)))))))))));refine zpF J (zz ?_)
  refine Xb J (fun h2 => ?_) (fun h2 => ?_)
  ·have h2 := of_decide_eq_true h2
   rw [Kq hu (fun hh => by have := hh.2.1.2.2.1; omega)]
   refine zy (zx (Zz J J J J J) J ?_);refine G1 J J (z1 J (zz (Xa (T_r (F_r ?_)))))
   exact G7 J J (X9 [1,1,9] [3,4,5] J J (by decide) J J J)
  have h2 := of_decide_eq_false h2
  refine Qh (Q0 (Qd (Xh [[],[0],[],[2],[2,3],[],[5],[5,6],(u9 8),[],(u9 10)] [[],[48],[],[50],[50,51],[],[53],[53,54],[48,49,50,51,52,53,54,55],[],[10,48,49,50,51,52,53,54,55,56]] [[10,50,51,52,53,54,55],[10,50,51,52,53,54,55],[10,48,49,53,54,55],[10,48,49,53,54,55],[10,48,49,53,54,55],[10,48,49,50,51,52],[10,48,49,50,51,52],[10,48,49,50,51,52],[10],[48,49,50,51,52,53,54,55,56],[]] J (Ve (Vs J J) J ?_))));refine Ve (Z3 J J (I_copyLevel lv hg hL) J J J) J ?_;refine Ve (Vo J) J (Ve (Q3 J J J J J (by omega) (by omega)) J (Ve (qk J (by assumption) J) J (Ve (Vo J) J (Ve (Q3 J J J J J (by omega) (by omega)) J (Ve (qk J (by assumption) J) J (Ve (Zz J J J J J) J (Ve (Gh J J) J (Vd ?_))))))));refine AL.weak (st' := (⟨_,[(4,.o (.c (.ptr 1 0))),(6,.o (.c (.ref 2))),(9,I p),(10,.o (.c (.ptr 4 0))),(56,.o (.ag [.ref 3,jv (l.getD 0 0),jv (l.getD 1 0),nilV,nilV]))],[.box ((Enc.e lv).map (V1.rd [])),.box [nilV,jv 0,jv 0,nilV,nilV],.row 1 (els l),.row 1 (els lv.Rows),.box [nilV,jv 0,jv 0,nilV,nilV]]⟩ : St)) (Uf [0,1,2,3,4]) ?_
  have hpl : (p : Int) ≤ 4 := hin2.2
  have hcl := Clone_ints ((l.drop 3).take p) (by simp; omega) (by simp; omega)
  rw [show al ((l.drop 3).take p) = .c (.rd [] (.sl 1 (((els l).take ((3 : Int) + (p : Int)).toNat).drop (3 : Int).toNat))) by
   rw [show ((3 : Int) + (p : Int)).toNat = 3 + p by omega,show (3 : Int).toNat = 3 from rfl,List.drop_take,← els_dropE,← Y0,show 3 + p - 3 = p by omega]; rfl] at hcl
  obtain ⟨rest,hrest⟩ : ∃ rest,rest = l.drop (3 + p) := ⟨_,rfl⟩
  have hre : (els l).drop ((3 : Int) + (p : Int)).toNat = els rest := by rw [show ((3 : Int) + (p : Int)).toNat = 3 + p by omega,← els_dropE,hrest]
  have hrl : rest.length = l.length - (3 + p) := by rw [hrest]; simp
  have hrl2 := Yx rest
  have hdl : ((els l).drop ((3 : Int) + (p : Int)).toNat).length = l.length - (3 + p) := by rw [List.length_drop,hll]; congr 1
  refine G1 J J (zz (zy (z0 J (z0 J (Uh J (zx (q_partr J J J J J J J (by omega)) J ?_))))));refine Un (Z3 J J (hcl) J J J) J ?_;refine Gg J J ?_;refine Gl J (zz (zy (z0 J (z0 J (Uh J (zx (q_partr1 J J J J J J (by omega)) J (z1 J (zz ?_))))))));refine Qd (zy (z0 J (zx (Kb J J J) J (zx (Ul J) J (zx (Kj J J J J) J (z0 J ?_))))));refine zx (Qt.grdF J J J .stop (fun hgrd => Vo J)) J ?_;refine zx (Uj J (.hit .stop) (fun hgrd => Kb J J J)) J ?_;refine zx (Uj J (.hit (.hit .stop)) (fun hgrd => q_quo J J J J (by omega))) J ?_;refine zx (Uj J (.hit (.hit (.hit .stop))) (fun hgrd => Z9 J J J J)) J ?_;refine zx (Uk J) J (zz ?_)
  refine Xb J (fun h3 => ?_) (fun h3 => ?_)
  ·simp only [Bool.or_eq_true,decide_eq_true_eq] at h3
   rw [Kq hu (fun hh => by
    have h8 := hh.2.1.2.2.2
    have h9 := (K8 hh.2.2).2.2.2.2.2.1.2
    have h10 : (worldOf lv l).Bodies.length = (l.length - 3 - (l.getD 2 0).toNat) / 9 := Yk _ _
    rw [hl2] at h8 h10
    omega)]
   refine zy (zx (Zz J J J J J) J ?_);refine G1 J J (z1 J (zz (Xa (T_r (F_r ?_)))))
   exact G7 J J (X9 [1,1,9] [6,7,8] J J (by decide) J J J)
  simp only [Bool.or_eq_false_iff,decide_eq_false_iff_not] at h3
  obtain ⟨nb,hn⟩ : ∃ nb,rest.length = 9 * nb := ⟨rest.length / 9,by omega⟩
  have hform : formOk l := ⟨by omega,by rw [hl2]; exact hin2,by rw [hl2]; omega,by rw [hl2]; omega⟩
  have hwo : worldOf lv l = ⟨lv,l.getD 0 0,l.getD 1 0,(l.drop 3).take p,bodiesOf rest nb⟩ := by
   rw [worldOf,hl2,Int.toNat_natCast,← hrest,show (l.length - 3 - p) / 9 = nb by omega]
  have hwg := worldOf_gd (lv := lv) hg hu4 (by omega)
  rw [hwo] at hwg
  refine AWP.pre (st' := (⟨_,[(4,.o (.c (.ptr 1 0))),(10,.o (.c (.ptr 4 0))),(11,.o (.c (.rd [2] (.sl 1 (els rest)))))],[.box ((Enc.e lv).map (V1.rd [])),.box [nilV,jv 0,jv 0,nilV,nilV],.row 1 (els l),.row 1 (els lv.Rows),.box [.ref 3,jv (l.getD 0 0),jv (l.getD 1 0),.ref 5,nilV],.row 1 (els ((l.drop 3).take p))]⟩ : St)) ?_ (V6 [0,1,2,3,4,5] J (.c J (.c J (.cons (rdE hre) (.nil)))))
  refine AWP.pre ?_ (Wk.nilbox (p := 4) (i := 4) 9 J J)
  refine Qh (Q0 (Qd (zy (z1 J (zz (Qk ?_))))));refine Xi (fun m st => ∃ k : Nat,k + m = nb ∧ (True) ∧ st = (⟨_,[(4,.o (.c (.ptr 1 0))),(10,.o (.c (.ptr 4 0))),(11,.o (.c (.rd [2] (.sl 1 (els rest))))),(12,I (9 * (k : Int)))],[.box ((Enc.e lv).map (V1.rd [])),.box [nilV,jv 0,jv 0,nilV,nilV],.row 1 (els l),.row 1 (els lv.Rows),.box [.ref 3,jv (l.getD 0 0),jv (l.getD 1 0),.ref 5,.ref 6],.row 1 (els ((l.drop 3).take p)),.row 9 (els (bodiesOf rest k))]⟩ : St)) (nb) ⟨(fun k : Nat => (⟨_,[(4,.o (.c (.ptr 1 0))),(10,.o (.c (.ptr 4 0))),(11,.o (.c (.rd [2] (.sl 1 (els rest))))),(12,I (9 * (k : Int)))],[.box ((Enc.e lv).map (V1.rd [])),.box [nilV,jv 0,jv 0,nilV,nilV],.row 1 (els l),.row 1 (els lv.Rows),.box [.ref 3,jv (l.getD 0 0),jv (l.getD 1 0),.ref 5,.ref 6],.row 1 (els ((l.drop 3).take p)),.row 9 (els (bodiesOf rest k))]⟩ : St)) 0,⟨0,by omega,trivial,J⟩,V6 [0,1,2,3,4,5,6] J (.c J (.c J (.c J (.cons (Xv (by simp)) (.nil)))))⟩ ?_
  rintro m_A _ ⟨k,hk_A,hp_A,rfl⟩
  have hlbk := Yx (bodiesOf rest k)
  have hlbk2 := Yk rest k
  refine Qd (zy (z0 J (z0 J (zx (Kb J J J) J (zx (Vi J) J (zz ?_))))))
  refine Xb J (fun h4 => ?_) (fun h4 => ?_)
  ·have h4 := of_decide_eq_true h4
   have hk9 : 9 * k + 9 ≤ rest.length := by omega
   have hc0 := Yq (rest := rest) (m := k) (by omega) (j := 0) (by omega) (9 * (k : Int) + 9) (9 * (k : Int)) J J 0 rfl
   have hc1 := Yq (rest := rest) (m := k) (by omega) (j := 1) (by omega) (9 * (k : Int) + 9) (9 * (k : Int)) J J 1 rfl
   have hc2 := Yq (rest := rest) (m := k) (by omega) (j := 2) (by omega) (9 * (k : Int) + 9) (9 * (k : Int)) J J 2 rfl
   have hc3 := Yq (rest := rest) (m := k) (by omega) (j := 3) (by omega) (9 * (k : Int) + 9) (9 * (k : Int)) J J 3 rfl
   have hc4 := Yq (rest := rest) (m := k) (by omega) (j := 4) (by omega) (9 * (k : Int) + 9) (9 * (k : Int)) J J 4 rfl
   have hc5 := Yq (rest := rest) (m := k) (by omega) (j := 5) (by omega) (9 * (k : Int) + 9) (9 * (k : Int)) J J 5 rfl
   have hc6 := Yq (rest := rest) (m := k) (by omega) (j := 6) (by omega) (9 * (k : Int) + 9) (9 * (k : Int)) J J 6 rfl
   have hc7 := Yq (rest := rest) (m := k) (by omega) (j := 7) (by omega) (9 * (k : Int) + 9) (9 * (k : Int)) J J 7 rfl
   have hc8 := Yq (rest := rest) (m := k) (by omega) (j := 8) (by omega) (9 * (k : Int) + 9) (9 * (k : Int)) J J 8 rfl
   have hlbk3 : (els (bodiesOf rest k)).length = k := by omega
   have hlt : (9 * (k : Int) + 9 ≤ (els rest).length) := by omega
   have hk24 : k ≤ 24 := by omega
   have hknb : k < nb := by omega
   clear hwg hwo hform hre hcl hdl h3 h2 hin2 hin hbt hl264 hl21 hl22 ha0 ha1 ha2 h hu1 hu2 hu3 hu4 hll hui hrl hrl2 hn hpl hlbk hlbk2 hp_A hk9 h4
   refine Qh (Q0 (Qd (Qk (zy (z0 J (z0 J (z0 J (Uh J (zx (q_part J J J J J J (by omega)) J (z1 J ?_))))))))));refine zz (Xh [[],[0],[],[2],[2,3],[],[5],[5,6],[],[8],[8,9],[],[11],[11,12],[],[14],[14,15],[],[17],[17,18],[],[20],[20,21],[],[23],[23,24],[],[26],[26,27],[2,3,4,5,6,7,8,9,10,11,12,13,14,15,16,17,18,19,20,21,22,23,24,25,26,27,28],[2,3,4,5,6,7,8,9,10,11,12,13,14,15,16,17,18,19,20,21,22,23,24,25,26,27,28,29],(u9 31),(u9 32),(u9 33)] [[],[89],[],[91],[91,92],[],[94],[94,95],[],[97],[97,98],[],[100],[100,101],[],[103],[103,104],[],[106],[106,107],[],[109],[109,110],[],[112],[112,113],[],[115],[115,116],[91,92,93,94,95,96,97,98,99,100,101,102,103,104,105,106,107,108,109,110,111,112,113,114,115,116,117],[91,92,93,94,95,96,97,98,99,100,101,102,103,104,105,106,107,108,109,110,111,112,113,114,115,116,117,118],[89,90,91,92,93,94,95,96,97,98,99,100,101,102,103,104,105,106,107,108,109,110,111,112,113,114,115,116,117,118,119],[89,90,91,92,93,94,95,96,97,98,99,100,101,102,103,104,105,106,107,108,109,110,111,112,113,114,115,116,117,118,119,120],[89,90,91,92,93,94,95,96,97,98,99,100,101,102,103,104,105,106,107,108,109,110,111,112,113,114,115,116,117,118,119,120,121]] [[91,92,93,94,95,96,97,98,99,100,101,102,103,104,105,106,107,108,109,110,111,112,113,114,115,116,117,118,119],[91,92,93,94,95,96,97,98,99,100,101,102,103,104,105,106,107,108,109,110,111,112,113,114,115,116,117,118,119],[89,90,94,95,96,97,98,99,100,101,102,103,104,105,106,107,108,109,110,111,112,113,114,115,116,117],[89,90,94,95,96,97,98,99,100,101,102,103,104,105,106,107,108,109,110,111,112,113,114,115,116,117],[89,90,94,95,96,97,98,99,100,101,102,103,104,105,106,107,108,109,110,111,112,113,114,115,116,117],[89,90,91,92,93,97,98,99,100,101,102,103,104,105,106,107,108,109,110,111,112,113,114,115,116,117],[89,90,91,92,93,97,98,99,100,101,102,103,104,105,106,107,108,109,110,111,112,113,114,115,116,117],[89,90,91,92,93,97,98,99,100,101,102,103,104,105,106,107,108,109,110,111,112,113,114,115,116,117],[89,90,91,92,93,94,95,96,100,101,102,103,104,105,106,107,108,109,110,111,112,113,114,115,116,117],[89,90,91,92,93,94,95,96,100,101,102,103,104,105,106,107,108,109,110,111,112,113,114,115,116,117],[89,90,91,92,93,94,95,96,100,101,102,103,104,105,106,107,108,109,110,111,112,113,114,115,116,117],[89,90,91,92,93,94,95,96,97,98,99,103,104,105,106,107,108,109,110,111,112,113,114,115,116,117],[89,90,91,92,93,94,95,96,97,98,99,103,104,105,106,107,108,109,110,111,112,113,114,115,116,117],[89,90,91,92,93,94,95,96,97,98,99,103,104,105,106,107,108,109,110,111,112,113,114,115,116,117],[89,90,91,92,93,94,95,96,97,98,99,100,101,102,106,107,108,109,110,111,112,113,114,115,116,117],[89,90,91,92,93,94,95,96,97,98,99,100,101,102,106,107,108,109,110,111,112,113,114,115,116,117],[89,90,91,92,93,94,95,96,97,98,99,100,101,102,106,107,108,109,110,111,112,113,114,115,116,117],[89,90,91,92,93,94,95,96,97,98,99,100,101,102,103,104,105,109,110,111,112,113,114,115,116,117],[89,90,91,92,93,94,95,96,97,98,99,100,101,102,103,104,105,109,110,111,112,113,114,115,116,117],[89,90,91,92,93,94,95,96,97,98,99,100,101,102,103,104,105,109,110,111,112,113,114,115,116,117],[89,90,91,92,93,94,95,96,97,98,99,100,101,102,103,104,105,106,107,108,112,113,114,115,116,117],[89,90,91,92,93,94,95,96,97,98,99,100,101,102,103,104,105,106,107,108,112,113,114,115,116,117],[89,90,91,92,93,94,95,96,97,98,99,100,101,102,103,104,105,106,107,108,112,113,114,115,116,117],[89,90,91,92,93,94,95,96,97,98,99,100,101,102,103,104,105,106,107,108,109,110,111,115,116,117],[89,90,91,92,93,94,95,96,97,98,99,100,101,102,103,104,105,106,107,108,109,110,111,115,116,117],[89,90,91,92,93,94,95,96,97,98,99,100,101,102,103,104,105,106,107,108,109,110,111,115,116,117],[89,90,91,92,93,94,95,96,97,98,99,100,101,102,103,104,105,106,107,108,109,110,111,112,113,114],[89,90,91,92,93,94,95,96,97,98,99,100,101,102,103,104,105,106,107,108,109,110,111,112,113,114],[89,90,91,92,93,94,95,96,97,98,99,100,101,102,103,104,105,106,107,108,109,110,111,112,113,114],[89,90],[89,90],[],[],[]] J (Ve (Vq J J) J (Ve (Vr J) J (Ve (Vo J) J (Ve (Q2 J J J J (by omega) (by assumption) J) J (Ve (Ug J) J (Ve (Vo J) J (Ve (Q2 J J J J (by omega) (by assumption) J) J (Ve (Ug J) J (Ve (Vo J) J ?_))))))))));refine Ve (Q2 J J J J (by omega) (by assumption) J) J (Ve (Ug J) J (Ve (Vo J) J (Ve (Q2 J J J J (by omega) (by assumption) J) J (Ve (Ug J) J (Ve (Vo J) J (Ve (Q2 J J J J (by omega) (by assumption) J) J (Ve (Ug J) J (Ve (Vo J) J (Ve (Q2 J J J J (by omega) (by assumption) J) J (Ve (Ug J) J (Ve (Vo J) J ?_)))))))))));refine Ve (Q2 J J J J (by omega) (by assumption) J) J (Ve (Ug J) J (Ve (Vo J) J (Ve (Q2 J J J J (by omega) (by assumption) J) J (Ve (Ug J) J (Ve (Vo J) J (Ve (Q2 J J J J (by omega) (by assumption) J) J (Ve (Ug J) J ?_)))))));refine DR.s (x := .o (.ag [jv ((rest.drop (9 * k)).getD 0 0),jv ((rest.drop (9 * k)).getD 1 0),jv ((rest.drop (9 * k)).getD 2 0),jv ((rest.drop (9 * k)).getD 3 0),jv ((rest.drop (9 * k)).getD 4 0),jv ((rest.drop (9 * k)).getD 5 0),jv ((rest.drop (9 * k)).getD 6 0),jv ((rest.drop (9 * k)).getD 7 0),jv ((rest.drop (9 * k)).getD 8 0)])) (Zz J J J J (by kernel_rfl)) J J ?_;refine Ve (Uo J J) J (Vd ?_);refine AL.weak (st' := (⟨_,[(4,.o (.c (.ptr 1 0))),(10,.o (.c (.ptr 4 0))),(11,.o (.c (.rd [2] (.sl 1 (els rest))))),(12,I (9 * (k : Int))),(90,.o (.c (.ref 6))),(119,.o (.c (.sb 7 1 9)))],[.box ((Enc.e lv).map (V1.rd [])),.box [nilV,jv 0,jv 0,nilV,nilV],.row 1 (els l),.row 1 (els lv.Rows),.box [.ref 3,jv (l.getD 0 0),jv (l.getD 1 0),.ref 5,.ref 6],.row 1 (els ((l.drop 3).take p)),.row 9 (els (bodiesOf rest k)),.box [jv ((rest.drop (9 * k)).getD 0 0),jv ((rest.drop (9 * k)).getD 1 0),jv ((rest.drop (9 * k)).getD 2 0),jv ((rest.drop (9 * k)).getD 3 0),jv ((rest.drop (9 * k)).getD 4 0),jv ((rest.drop (9 * k)).getD 5 0),jv ((rest.drop (9 * k)).getD 6 0),jv ((rest.drop (9 * k)).getD 7 0),jv ((rest.drop (9 * k)).getD 8 0)]]⟩ : St)) (Uf [0,1,2,3,4,5,6,7]) ?_;refine Xw J J J J J J J J J J J J J J (by omega) (by omega) ?_;refine Gg J J ?_;refine Gl J (Qe (Q1 (Q0 (Qc (z0 J (Uh J (z1 J (zz ?_))))))))
   exact ⟨nb - (k + 1),by omega,(fun k : Nat => (⟨_,[(4,.o (.c (.ptr 1 0))),(10,.o (.c (.ptr 4 0))),(11,.o (.c (.rd [2] (.sl 1 (els rest))))),(12,I (9 * (k : Int)))],[.box ((Enc.e lv).map (V1.rd [])),.box [nilV,jv 0,jv 0,nilV,nilV],.row 1 (els l),.row 1 (els lv.Rows),.box [.ref 3,jv (l.getD 0 0),jv (l.getD 1 0),.ref 5,.ref 6],.row 1 (els ((l.drop 3).take p)),.row 9 (els (bodiesOf rest k))]⟩ : St)) (k + 1),⟨k + 1,by omega,trivial,J⟩,Yb [0,1,2,3,4,5,6] (by decide) J (row7 (by rw [bodiesOf_snoc,Yu]; rfl)) (.c J (.c J (.c J (.cons (Xv (by omega)) (.nil)))))⟩
  ·have h4 := of_decide_eq_false h4
   have hkn : k = nb := by omega
   subst hkn
   have hwk := I_WorldOk ⟨lv,l.getD 0 0,l.getD 1 0,(l.drop 3).take p,bodiesOf rest k⟩ hwg
   cases ho : worldOk ⟨lv,l.getD 0 0,l.getD 1 0,(l.drop 3).take p,bodiesOf rest k⟩ with
   | false =>
    rw [ho] at hwk
    rw [Kq hu (fun hh => by have h9 := hh.2.2; rw [hwo,ho] at h9; cases h9)]
    refine Q9 (T_x (T_x (Xk (Q0 (Qd (zy (Gw J J ?_)))))));refine zx (Qj J J (hwk) J) J ?_;refine zn J (zz (Qm J (zy (zx (Zz J J J J J) J ?_))));refine G1 J J (z1 J (zz (Xa (T_r (F_r ?_)))))
    exact G7 J J (X9 [1,1,9] [7,8,9] J J (by decide) J J J)
   | true =>
    rw [ho] at hwk
    rw [Ks hu ⟨by omega,hform,by rw [hwo]; exact ho⟩,hwo]
    refine Q9 (T_x (T_x (Xk (Q0 (Qd (zy (Gw J J ?_)))))));refine zx (Qj J J (hwk) J) J ?_;refine zn J (zz (Ql J (Qh (Q0 (zy (Gw J J ?_))))));refine G1 J J (z1 J (zz (Xa (F_r ?_))))
    exact G7 J J (Ue [3,5,6] J J J)
end
end Go.Proofs.YtcjclaoogdblbaaGreat
