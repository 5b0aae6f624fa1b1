/-
  Numbers from text: ParseUint, in the program and in the reference.
  Conditions: texts of at most 2^40 bytes.
  Alarms as data, with the laws' counting, copying and comparing of them. No statement of the program is proved here.
  Conditions: none.
-/
import Derived.Test.YtcjclaoogdblbaaDoorDDAlTRowk12
set_option linter.unusedSimpArgs false
set_option linter.unusedVariables false
set_option maxRecDepth 8000
set_option maxHeartbeats 8000000
namespace Go.Proofs.YtcjclaoogdblbaaDoor
section
open Go.RowKit

def digB (s : ByteArray) (k : Nat) : Prop := 48 ≤ byteAt s k ∧ byteAt s k ≤ 57
def valK (s : ByteArray) : Nat → Nat
 | 0 => 0
 | k + 1 => 10 * valK s k + (byteAt s k - 48).toNat
def UintP (s : ByteArray) : Prop := 1 ≤ s.size ∧ s.size ≤ 10 ∧ ¬ (byteAt s 0 = 48 ∧ 1 < s.size) ∧ (∀ k,k < s.size → digB s k) ∧ valK s s.size ≤ 1000000000
noncomputable def uintB (s : ByteArray) : Bool := @decide (UintP s) (Classical.propDecidable _)
noncomputable def uintN (s : ByteArray) : Nat := if uintB s = true then valK s s.size else 0
theorem uint_T {s : ByteArray} (h : UintP s) : uintB s = true := @decide_eq_true _ (Classical.propDecidable _) h
theorem uint_F {s : ByteArray} (h : ¬ UintP s) : uintB s = false := @decide_eq_false _ (Classical.propDecidable _) h
theorem uintN_T {s : ByteArray} (h : UintP s) : uintN s = valK s s.size := if_pos (uint_T h)
theorem uintN_F {s : ByteArray} (h : ¬ UintP s) : uintN s = 0 := if_neg (by rw [uint_F h]; decide)
theorem valK_lt {s : ByteArray} : ∀ k,(∀ j,j < k → digB s j) → valK s k < 10 ^ k
 | 0,_ => by simp [valK]
 | k + 1,h => by
  have ih := valK_lt k (fun j hj => h j (by omega))
  have hd := h k (by omega)
  obtain ⟨h1,h2⟩ := hd
  rw [valK,Nat.pow_succ]
  omega
theorem valK_b {s : ByteArray} {k : Nat} (hk : k ≤ 10) (h : ∀ j,j < k → digB s j) : valK s k ≤ 9999999999 := by
 have h1 := valK_lt k h
 have h2 : 10 ^ k ≤ 10 ^ 10 := Nat.pow_le_pow_right (by decide) hk
 omega
theorem dec_head (m : Nat) : (Lib.decDigits m).head? = some 48 → m = 0 := by
 induction m using Nat.strongRecOn with
 | ind m ih =>
  intro h
  by_cases h1 : m < 10
  ·rw [Lib.decDigits_one h1] at h
   have h2 : UInt8.ofNat (48 + m) = 48 := Option.some.inj h
   have h3 := congrArg UInt8.toNat h2
   rw [UInt8.toNat_ofNat',Nat.mod_eq_of_lt (by omega)] at h3
   have : (48 : UInt8).toNat = 48 := rfl
   omega
  ·rw [Lib.decDigits,dif_neg h1] at h
   cases hm : Lib.decDigits (m / 10) with
   | nil =>
    have h5 := Lib.decDigits_length (m / 10)
    have h6 := Lib.nDigits_pos (m / 10)
    rw [hm] at h5
    simp at h5
    omega
   | cons c cs =>
    rw [hm,List.cons_append] at h
    have := ih (m / 10) (by omega) (by rw [hm]; exact h)
    omega
theorem byteAt_l {s : ByteArray} {i : Nat} (h : i < s.size) : ∃ b : UInt8,s.data.toList[i]? = some b ∧ byteAt s i = (b.toNat : Int) := by
 have h1 : i < s.data.size := h
 refine ⟨s.data[i],by simp [h1],?_⟩
 unfold byteAt
 have : s[i]? = some s.data[i] := by
  rw [getElem?_pos s i h]
  rfl
 rw [this]
 rfl
theorem dig_byte {b : UInt8} {s : ByteArray} {k : Nat} (hbe : byteAt s k = (b.toNat : Int)) (hd : digB s k) : UInt8.ofNat (48 + (byteAt s k - 48).toNat) = b := by
 obtain ⟨h1,h2⟩ := hd
 rw [show 48 + (byteAt s k - 48).toNat = b.toNat by omega,UInt8.ofNat_toNat]
theorem dec_val {s : ByteArray} (h0 : byteAt s 0 ≠ 48) : ∀ k,k + 1 ≤ s.size → (∀ j,j < k + 1 → digB s j) → 1 ≤ valK s (k + 1) ∧ Lib.decDigits (valK s (k + 1)) = s.data.toList.take (k + 1)
 | 0,hk,hd => by
  have h1 := hd 0 (by decide)
  obtain ⟨b,hb,hbe⟩ := byteAt_l (s := s) (i := 0) (by omega)
  have hby := dig_byte hbe h1
  obtain ⟨h2,h3⟩ := h1
  have e : valK s (0 + 1) = (byteAt s 0 - 48).toNat := by simp [valK]
  rw [e]
  refine ⟨by omega,?_⟩
  rw [Lib.decDigits_one (by omega),List.take_add_one,hb,hby]
  simp
 | k + 1,hk,hd => by
  obtain ⟨ih1,ih2⟩ := dec_val h0 k (by omega) (fun j hj => hd j (by omega))
  have h1 := hd (k + 1) (by omega)
  obtain ⟨b,hb,hbe⟩ := byteAt_l (s := s) (i := k + 1) (by omega)
  have hby := dig_byte hbe h1
  obtain ⟨h2,h3⟩ := h1
  have e : valK s (k + 1 + 1) = 10 * valK s (k + 1) + (byteAt s (k + 1) - 48).toNat := rfl
  refine ⟨by omega,?_⟩
  rw [e,Lib.decDigits,dif_neg (by omega),show (10 * valK s (k + 1) + (byteAt s (k + 1) - 48).toNat) / 10 = valK s (k + 1) by omega,show (10 * valK s (k + 1) + (byteAt s (k + 1) - 48).toNat) % 10 = (byteAt s (k + 1) - 48).toNat by omega,ih2,hby,List.take_add_one (i := k + 1),hb]
  rfl
theorem fmt_val {s : ByteArray} (hd : ∀ j,j < s.size → digB s j) : fmtN (valK s s.size) = s ↔ 1 ≤ s.size ∧ ¬ (byteAt s 0 = 48 ∧ 1 < s.size) := by
 rw [fmtN]
 constructor
 ·intro h
  have hl : Lib.decDigits (valK s s.size) = s.data.toList := by rw [← bs_list (Lib.decDigits (valK s s.size)),h]
  have hp := Lib.decDigits_length (valK s s.size)
  have hp2 := Lib.nDigits_pos (valK s s.size)
  have hsz : s.data.toList.length = s.size := by simp
  have h1 : 1 ≤ s.size := by rw [hl] at hp; omega
  refine ⟨h1,fun hc => ?_⟩
  obtain ⟨b,hb,hbe⟩ := byteAt_l (s := s) (i := 0) (by omega)
  have hb48 : b = 48 := by
   have : b.toNat = 48 := by omega
   rw [← UInt8.ofNat_toNat (x := b),this]; rfl
  have h0 := dec_head (valK s s.size) (by rw [hl,List.head?_eq_getElem?,hb,hb48])
  rw [h0,Lib.decDigits_one (by decide)] at hl
  rw [← hl] at hsz
  simp at hsz
  omega
 ·intro ⟨h1,h2⟩
  by_cases h0 : byteAt s 0 = 48
  ·have hs : s.size = 1 := by
    have := fun h => h2 ⟨h0,h⟩
    omega
   obtain ⟨b,hb,hbe⟩ := byteAt_l (s := s) (i := 0) (by omega)
   have hby := dig_byte hbe (hd 0 (by omega))
   have hsz : s.data.toList.length = 1 := by simp [hs]
   have e : valK s s.size = (byteAt s 0 - 48).toNat := by rw [hs]; simp [valK]
   rw [e,Lib.decDigits_one (by rw [h0]; decide),hby]
   match hm : s.data.toList,hsz with
   | [c],_ =>
    rw [hm] at hb
    simp at hb
    rw [← hb,← hm]
  ·obtain ⟨k,hk⟩ : ∃ k,s.size = k + 1 := ⟨s.size - 1,by omega⟩
   have h3 := (dec_val h0 k (by omega) (fun j hj => hd j (by omega))).2
   rw [hk,h3,List.take_of_length_le (by simp; omega)]
theorem I_ParseUint (s : ByteArray) (hs : s.size ≤ 1099511627776) : Con Tryd.prog 38 [] [astr s] [] (.tu [.c (.rd [] (.v (.int .i64 (uintN s)))),.c (.rd [] (.v (.bool (uintB s))))]) := by
 by_cases h0 : s.size = 0
 ·have hb0 : decide ((s.size : Int) = 0) = true := decide_eq_true (by omega)
  have hu : ¬ UintP s := fun h => by have := h.1; omega
  rw [uintN_F hu,uint_F hu]
  refine Con.of Tryd.func38 J Tryd.ntmps38 J (fun E => ?_)
  refine zy (z1 J (z1 J (zz (Qd (zy (z0 J (zx (Xq J J J) J (z9e J (by assumption) ?_))))))));refine z0 J (z6 J (z6 J (z6 J (zpT J (z0 J (z6 J (z6 J (z6 J (z6 J (zx (Qt.no2 J J J) J (zx (Qt.no2 J J J) J ?_)))))))))));refine zx (Qt.no2 J J J) J (z6 J (zpT J (zz (Qm J (zy (z1 J (z1 J (zz ?_))))))));refine Q6 (T_r (F_r ?_))
  exact E_tmp2 J J J (Q9 [] (by decide) J J J)
 have hb0 : decide ((s.size : Int) = 0) = false := decide_eq_false (by omega)
 by_cases h1 : 10 < s.size
 ·have hb1 : decide ((10 : Int) < s.size) = true := decide_eq_true (by omega)
  have hu : ¬ UintP s := fun h => by have := h.2.1; omega
  rw [uintN_F hu,uint_F hu]
  refine Con.of Tryd.func38 J Tryd.ntmps38 J (fun E => ?_)
  refine zy (z1 J (z1 J (zz (Qd (zy (z0 J (zx (Xq J J J) J (z9e J (by assumption) ?_))))))));refine z0 J (z5 J (z0 J (z5 J (zx (Xq J J J) J (z5 J (z9c J (by assumption) (zpF J (z0 J (z6 J (z6 J (z6 J ?_)))))))))));refine z6 J (zx (Qt.no2 J J J) J (zx (Qt.no2 J J J) J (zx (Qt.no2 J J J) J (z6 J (zpT J (zz (Qm J (zy (z1 J ?_)))))))));refine z1 J (zz (Q6 (T_r (F_r ?_))))
  exact E_tmp2 J J J (Q9 [] (by decide) J J J)
 have hb1 : decide ((10 : Int) < s.size) = false := decide_eq_false (by omega)
 by_cases h2 : byteAt s 0 = 48 ∧ 1 < s.size
 ·have hb2 : decide (byteAt s (0 : Int).toNat = 48) = true := decide_eq_true h2.1
  have hb3 : decide ((1 : Int) < s.size) = true := decide_eq_true (by omega)
  have hu : ¬ UintP s := fun h => h.2.2.1 h2
  rw [uintN_F hu,uint_F hu]
  refine Con.of Tryd.func38 J Tryd.ntmps38 J (fun E => ?_)
  refine zy (z1 J (z1 J (zz (Qd (zy (z0 J (zx (Xq J J J) J (z9e J (by assumption) ?_))))))));refine z0 J (z5 J (z0 J (z5 J (zx (Xq J J J) J (z5 J (z9c J (by assumption) (zpF J (z0 J (z5 J (z0 J (z5 J ?_)))))))))));refine zx (q_byte J J J J (by omega)) J (z5 J (z9e J (by assumption) (z5 J (z0 J (z5 J (z0 J (z5 J (zx (Xq J J J) J (z5 J (z9c J (by assumption) (z5 J ?_)))))))))));refine zpT J (zpF J (zz (Qm J (zy (z1 J (z1 J (zz (Q6 ?_))))))));refine T_r (F_r ?_)
  exact E_tmp2 J J J (Q9 [] (by decide) J J J)
 obtain ⟨h5⟩ : Nonempty (byteAt s 0 ≠ 48 ∨ (byteAt s 0 = 48 ∧ s.size = 1)) := ⟨by
  by_cases h3 : byteAt s 0 = 48
  ·exact .inr ⟨h3,by have := fun h => h2 ⟨h3,h⟩; omega⟩
  ·exact .inl h3⟩
 rcases h5 with h5 | h5
 ·have hb2 : decide (byteAt s (0 : Int).toNat = 48) = false := decide_eq_false h5
  refine Con.of Tryd.func38 J Tryd.ntmps38 J (fun E => ?_)
  refine zy (z1 J (z1 J (zz (Qd (zy (z0 J (zx (Xq J J J) J (z9e J (by assumption) ?_))))))));refine z0 J (z5 J (z0 J (z5 J (zx (Xq J J J) J (z5 J (z9c J (by assumption) (zpF J (z0 J (z5 J (z0 J (z5 J ?_)))))))))));refine zx (q_byte J J J J (by omega)) J (z5 J (z9e J (by assumption) (z5 J (z0 J (z6 J (z6 J (z6 J (z5 J (zpF J (zpF J (Qe ?_)))))))))));refine Qz (Ql J (Qh (Qz (zy (z1 J (zz (Qd (zy ?_))))))));refine z1 J (zz (Qk ?_));refine A_lq (fun m st => ∃ k : Nat,k + m = s.size ∧ (∀ j,j < k → digB s j) ∧ st = (⟨_,[(0,S s),(4,I (valK s k : Nat)),(5,I k)],[]⟩ : St)) (s.size) ⟨_,⟨0,by omega,fun j hj => absurd hj (Nat.not_lt_zero _),J⟩,X9 []⟩ ?_
  rintro m_A _ ⟨k,hk_A,hp_A,rfl⟩
  refine Qd (zy (z0 J (z0 J (zx (Xq J J J) J (zx (q_lss J J J J) J (zz ?_))))))
  refine Q7 J (fun h => ?_) (fun h => ?_)
  ·have h3 : k < s.size := by have := of_decide_eq_true h; omega
   have hvb := valK_b (k := k) (by omega) hp_A
   obtain ⟨t,ht⟩ : ∃ t,byteAt s (k : Int).toNat = t := ⟨_,rfl⟩
   have ht2 : byteAt s k = t := ht
   have htb : 0 ≤ t ∧ t ≤ 255 := ht ▸ byteAt_lt _ _
   by_cases hdg : 48 ≤ t ∧ t ≤ 57
   ·have g1 : decide (t < 48) = false := decide_eq_false (by omega)
    have g2 : decide (57 < t) = false := decide_eq_false (by omega)
    refine Qh (Qz (Qd (Qk (Qd (zy (z0 J (z0 J (zx (Ya J) J (z9a J (by assumption) (z0 J ?_))))))))));refine z5 J (z0 J (z5 J (z0 J (z5 J (zx (Ya J) J (z5 J (z9c J (by assumption) (zpF J (zz (Ql J ?_))))))))));refine Qh (Qz (Qc (z0 J (zx (q_mul J J J J (by omega)) J (z0 J (z0 J (zx (Ya J) J (zx (q_sub8 J J J J (by omega)) J (zx (q_convI J J J J (wrap_i64 (by omega))) J (z7 J (by omega) (z1 J ?_)))))))))));refine Qe (Q0 (Qz (Qc (z0 J (z7 J (by omega) (z1 J (zz ?_)))))))
    exact ⟨s.size - (k + 1),by omega,(fun k : Nat => (⟨_,[(0,S s),(4,I (valK s k : Nat)),(5,I k)],[]⟩ : St)) (k + 1),⟨k + 1,by omega,fun j hj => by by_cases e : j = k; subst e; exact ⟨by omega,by omega⟩; exact hp_A j (by omega),J⟩,W_go [] (by decide) J (by kernel_rfl) (.c J (.cons (I_eq (by rw [valK]; omega)) (.c J (.nil))))⟩
   ·have hu : ¬ UintP s := fun h => hdg (by have := h.2.2.2.1 k h3; obtain ⟨q1,q2⟩ := this; omega)
    rw [uintN_F hu,uint_F hu]
    by_cases g0 : t < 48
    ·have g1 : decide (t < 48) = true := decide_eq_true g0
     refine Qh (Qz (Qd (Qk (Qd (zy (z0 J (z0 J (zx (Ya J) J (z9a J (by assumption) (z0 J ?_))))))))));refine z6 J (z6 J (z6 J (z6 J (zpT J (zz (Qm J (zy (z1 J (z1 J ?_)))))))));refine zz (Q6 (T_r (B_r (T_r (T_r (B_r (T_r (F_r ?_))))))))
     exact E_tmp2 J J J (Q9 [] (by decide) J J J)
    ·have g1 : decide (t < 48) = false := decide_eq_false g0
     have g2 : decide (57 < t) = true := decide_eq_true (by omega)
     refine Qh (Qz (Qd (Qk (Qd (zy (z0 J (z0 J (zx (Ya J) J (z9a J (by assumption) (z0 J ?_))))))))));refine z5 J (z0 J (z5 J (z0 J (z5 J (zx (Ya J) J (z5 J (z9c J (by assumption) (zpF J (zz (Qm J ?_))))))))));refine zy (z1 J (z1 J (zz (Q6 (T_r (B_r (T_r (T_r (B_r ?_)))))))));refine T_r (F_r ?_)
     exact E_tmp2 J J J (Q9 [] (by decide) J J J)
  have h3 : ¬ k < s.size := by have := of_decide_eq_false h; omega
  have hk : k = s.size := by omega
  rw [hk] at hp_A ⊢
  have hv := valK_b (s := s) (k := s.size) (by omega) hp_A
  by_cases h6 : 1000000000 < valK s s.size
  ·have hb6 : decide ((1000000000 : Int) < (valK s s.size : Nat)) = true := decide_eq_true (by omega)
   have hu : ¬ UintP s := fun h => by have := h.2.2.2.2; omega
   rw [uintN_F hu,uint_F hu]
   refine Q5 (T_x (T_x (B_xs (Qz (Qd (zy (z0 J (z9c J (by assumption) (zz ?_)))))))));refine Qm J (zy (z1 J (z1 J (zz (Q6 (T_r (F_r ?_)))))))
   exact E_tmp2 J J J (Q9 [] (by decide) J J J)
  ·have hb6 : decide ((1000000000 : Int) < (valK s s.size : Nat)) = false := decide_eq_false (by omega)
   have hu : UintP s := ⟨by omega,by omega,h2,hp_A,by omega⟩
   rw [uintN_T hu,uint_T hu]
   refine Q5 (T_x (T_x (B_xs (Qz (Qd (zy (z0 J (z9c J (by assumption) (zz ?_)))))))));refine Ql J (Qh (Qz (zy (z0 J (z1 J (z1 J (zz (Q6 (F_r ?_)))))))))
   exact E_tmp2 J J J (Q9 [] (by decide) J J J)
 ·have hb2 : decide (byteAt s (0 : Int).toNat = 48) = true := decide_eq_true h5.1
  have hb3 : decide ((1 : Int) < s.size) = false := decide_eq_false (by omega)
  refine Con.of Tryd.func38 J Tryd.ntmps38 J (fun E => ?_)
  refine zy (z1 J (z1 J (zz (Qd (zy (z0 J (zx (Xq J J J) J (z9e J (by assumption) ?_))))))));refine z0 J (z5 J (z0 J (z5 J (zx (Xq J J J) J (z5 J (z9c J (by assumption) (zpF J (z0 J (z5 J (z0 J (z5 J ?_)))))))))));refine zx (q_byte J J J J (by omega)) J (z5 J (z9e J (by assumption) (z5 J (z0 J (z5 J (z0 J (z5 J (zx (Xq J J J) J (z5 J (z9c J (by assumption) (z5 J ?_)))))))))));refine zpT J (zpF J (zz (Ql J (Qh (Qz (zy (z1 J (zz ?_))))))));refine Qd (zy (z1 J (zz (Qk ?_))));refine A_lq (fun m st => ∃ k : Nat,k + m = s.size ∧ (∀ j,j < k → digB s j) ∧ st = (⟨_,[(0,S s),(4,I (valK s k : Nat)),(5,I k)],[]⟩ : St)) (s.size) ⟨_,⟨0,by omega,fun j hj => absurd hj (Nat.not_lt_zero _),J⟩,X9 []⟩ ?_
  rintro m_A _ ⟨k,hk_A,hp_A,rfl⟩
  refine Qd (zy (z0 J (z0 J (zx (Xq J J J) J (zx (q_lss J J J J) J (zz ?_))))))
  refine Q7 J (fun h => ?_) (fun h => ?_)
  ·have h3 : k < s.size := by have := of_decide_eq_true h; omega
   have hvb := valK_b (k := k) (by omega) hp_A
   obtain ⟨t,ht⟩ : ∃ t,byteAt s (k : Int).toNat = t := ⟨_,rfl⟩
   have ht2 : byteAt s k = t := ht
   have htb : 0 ≤ t ∧ t ≤ 255 := ht ▸ byteAt_lt _ _
   by_cases hdg : 48 ≤ t ∧ t ≤ 57
   ·have g1 : decide (t < 48) = false := decide_eq_false (by omega)
    have g2 : decide (57 < t) = false := decide_eq_false (by omega)
    refine Qh (Qz (Qd (Qk (Qd (zy (z0 J (z0 J (zx (Ya J) J (z9a J (by assumption) (z0 J ?_))))))))));refine z5 J (z0 J (z5 J (z0 J (z5 J (zx (Ya J) J (z5 J (z9c J (by assumption) (zpF J (zz (Ql J ?_))))))))));refine Qh (Qz (Qc (z0 J (zx (q_mul J J J J (by omega)) J (z0 J (z0 J (zx (Ya J) J (zx (q_sub8 J J J J (by omega)) J (zx (q_convI J J J J (wrap_i64 (by omega))) J (z7 J (by omega) (z1 J ?_)))))))))));refine Qe (Q0 (Qz (Qc (z0 J (z7 J (by omega) (z1 J (zz ?_)))))))
    exact ⟨s.size - (k + 1),by omega,(fun k : Nat => (⟨_,[(0,S s),(4,I (valK s k : Nat)),(5,I k)],[]⟩ : St)) (k + 1),⟨k + 1,by omega,fun j hj => by by_cases e : j = k; subst e; exact ⟨by omega,by omega⟩; exact hp_A j (by omega),J⟩,W_go [] (by decide) J (by kernel_rfl) (.c J (.cons (I_eq (by rw [valK]; omega)) (.c J (.nil))))⟩
   ·have hu : ¬ UintP s := fun h => hdg (by have := h.2.2.2.1 k h3; obtain ⟨q1,q2⟩ := this; omega)
    rw [uintN_F hu,uint_F hu]
    by_cases g0 : t < 48
    ·have g1 : decide (t < 48) = true := decide_eq_true g0
     refine Qh (Qz (Qd (Qk (Qd (zy (z0 J (z0 J (zx (Ya J) J (z9a J (by assumption) (z0 J ?_))))))))));refine z6 J (z6 J (z6 J (z6 J (zpT J (zz (Qm J (zy (z1 J (z1 J ?_)))))))));refine zz (Q6 (T_r (B_r (T_r (T_r (B_r (T_r (F_r ?_))))))))
     exact E_tmp2 J J J (Q9 [] (by decide) J J J)
    ·have g1 : decide (t < 48) = false := decide_eq_false g0
     have g2 : decide (57 < t) = true := decide_eq_true (by omega)
     refine Qh (Qz (Qd (Qk (Qd (zy (z0 J (z0 J (zx (Ya J) J (z9a J (by assumption) (z0 J ?_))))))))));refine z5 J (z0 J (z5 J (z0 J (z5 J (zx (Ya J) J (z5 J (z9c J (by assumption) (zpF J (zz (Qm J ?_))))))))));refine zy (z1 J (z1 J (zz (Q6 (T_r (B_r (T_r (T_r (B_r ?_)))))))));refine T_r (F_r ?_)
     exact E_tmp2 J J J (Q9 [] (by decide) J J J)
  have h3 : ¬ k < s.size := by have := of_decide_eq_false h; omega
  have hk : k = s.size := by omega
  rw [hk] at hp_A ⊢
  have hv := valK_b (s := s) (k := s.size) (by omega) hp_A
  by_cases h6 : 1000000000 < valK s s.size
  ·have hb6 : decide ((1000000000 : Int) < (valK s s.size : Nat)) = true := decide_eq_true (by omega)
   have hu : ¬ UintP s := fun h => by have := h.2.2.2.2; omega
   rw [uintN_F hu,uint_F hu]
   refine Q5 (T_x (T_x (B_xs (Qz (Qd (zy (z0 J (z9c J (by assumption) (zz ?_)))))))));refine Qm J (zy (z1 J (z1 J (zz (Q6 (T_r (F_r ?_)))))))
   exact E_tmp2 J J J (Q9 [] (by decide) J J J)
  ·have hb6 : decide ((1000000000 : Int) < (valK s s.size : Nat)) = false := decide_eq_false (by omega)
   have hu : UintP s := ⟨by omega,by omega,h2,hp_A,by omega⟩
   rw [uintN_T hu,uint_T hu]
   refine Q5 (T_x (T_x (B_xs (Qz (Qd (zy (z0 J (z9c J (by assumption) (zz ?_)))))))));refine Ql J (Qh (Qz (zy (z0 J (z1 J (z1 J (zz (Q6 (F_r ?_)))))))))
   exact E_tmp2 J J J (Q9 [] (by decide) J J J)
end
section
open Go.RowKit

structure TAlarm where
 Tick : Int
 Parts : (List ByteArray)
 deriving DecidableEq
instance : Enc TAlarm := ⟨2,by omega,fun x => [.v (.int .i64 x.Tick),sl x.Parts],fun _ => rfl,fun x => Enc.gd x.Tick ∧ Enc.gd x.Parts,fun x => Enc.wt x.Parts⟩
end
end Go.Proofs.YtcjclaoogdblbaaDoor
