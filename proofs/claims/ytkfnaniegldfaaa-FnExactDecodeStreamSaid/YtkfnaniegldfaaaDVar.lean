/-
  Numbers as bytes: EncodeVarint, Signless, PackInts, PackText, Checksum, SealText, in the program and in the reference.
  Conditions: lists of at most 2^30 elements.
-/
import Derived.Test.YtkfnaniegldfaaaDOk
set_option linter.unusedSimpArgs false
set_option linter.unusedVariables false
set_option maxRecDepth 8000
namespace Go.Proofs.Ytkfnaniegldfaaa
open Go.RowKit

def varN (n : Nat) : List UInt8 := if n < 128 then [UInt8.ofNat n] else UInt8.ofNat (n % 128 + 128) :: varN (n / 128)
termination_by n
decreasing_by omega
def encVar (n : Int) : List UInt8 := if 0 ≤ n ∧ n ≤ 1099511627775 then varN n.toNat else []
theorem varN_small {n : Nat} (h : n < 128) : varN n = [UInt8.ofNat n] := by rw [varN, if_pos h]
theorem varN_big {n : Nat} (h : ¬ n < 128) : varN n = UInt8.ofNat (n % 128 + 128) :: varN (n / 128) := by rw [varN, if_neg h]
theorem varN_len (n : Nat) : 1 ≤ (varN n).length ∧ (varN n).length ≤ n + 1 := by
  induction n using Nat.strongRecOn with
  | ind n ih =>
    by_cases h : n < 128
    · rw [varN_small h]; simp
    · rw [varN_big h]
      have := ih (n / 128) (by omega)
      simp only [List.length_cons]
      omega
theorem varN_step {acc : List UInt8} {m : Nat} {l : List UInt8} (h : acc ++ varN m = l) (hm : ¬ m < 128) {x : UInt8} (hx : x = UInt8.ofNat (m % 128 + 128)) : (acc ++ [x]) ++ varN (m / 128) = l := by
  rw [← h, varN_big hm, hx]; simp
theorem varN_end {acc : List UInt8} {m : Nat} {l : List UInt8} (h : acc ++ varN m = l) (hm : m < 128) {x : UInt8} (hx : x = UInt8.ofNat m) : acc ++ [x] = l := by
  rw [← h, varN_small hm, hx]

set_option maxHeartbeats 8000000 in
theorem I_EncodeVarint (n : Int) : Con Try.prog 112 [] [ai n] [] (S (bs (encVar n))) := by
  refine Con.of Try.func112 rfl Try.ntmps112 rfl (fun E => ?_)
  refine A_seq ?_; refine A_region ?_; refine M0 (q_assignC rfl rfl rfl) rfl rfl ?_; refine L_nil ?_; refine T_n ?_; refine A_seq ?_; refine A_seq ?_; refine A_region ?_
  refine M0 (q_moveC rfl rfl rfl) rfl rfl ?_; refine M0 (q_lss rfl rfl rfl rfl) rfl rfl ?_; refine M0 (q_moveC rfl rfl rfl) rfl rfl ?_
  refine M0 (Qt.grdF rfl rfl rfl .stop (fun hgrd => q_moveC rfl rfl rfl)) rfl rfl ?_; refine M0 (Qt.grdF rfl rfl rfl (.hit .stop) (fun hgrd => q_gtr rfl rfl rfl rfl)) rfl rfl ?_
  refine M0 (q_or rfl rfl rfl rfl) rfl rfl ?_; refine L_nil ?_; refine T_n ?_
  refine A_cond rfl (fun h => ?_) (fun h => ?_)
  · simp only [Bool.or_eq_true, decide_eq_true_eq] at h
    refine A_seq ?_; refine A_region ?_; refine M0 (q_assignC rfl rfl rfl) rfl rfl ?_; refine L_nil ?_; refine T_n ?_; refine A_ret ?_; refine T_r ?_; refine F_r ?_
    exact E_tmp rfl rfl (W_end [] (by decide) rfl rfl (S_eq (by rw [encVar, if_neg (by omega)])))
  simp only [Bool.or_eq_false_iff, decide_eq_false_iff_not] at h
  have he : encVar n = varN n.toNat := by rw [encVar, if_pos (by omega)]
  rw [he]
  refine A_skip ?_; refine T_n ?_; refine A_seq ?_; refine A_region ?_; refine M0 (q_assignC rfl rfl rfl) rfl rfl ?_; refine L_nil ?_; refine T_n ?_; refine A_seq ?_; refine A_block ?_
  refine AWP.pre ?_ (W_nil 3 1 rfl)
  refine A_loop (fun m__ st => ∃ (m : Nat) (acc : List UInt8), m = m__ ∧ (acc ++ varN m = varN n.toNat ∧ acc.length + m ≤ 1099511627775) ∧ st = (fun (m : Nat) (acc : List UInt8) => (⟨_, [(0, I m), (3, .o (.c (.ref 0)))], [.row 1 (bE acc)]⟩ : St)) (m) (acc)) ((fun (m : Nat) (acc : List UInt8) => m) (n.toNat) ([])) ⟨(fun (m : Nat) (acc : List UInt8) => (⟨_, [(0, I m), (3, .o (.c (.ref 0)))], [.row 1 (bE acc)]⟩ : St)) (n.toNat) ([]), W_go [0] (by decide) rfl (rfl) (.cons (I_eq (by omega)) (.cons rfl (.nil))), n.toNat, [], rfl, ⟨rfl, by simp <;> omega⟩, rfl⟩ ?_
  rintro m_A _ ⟨m, acc, hk_A, hp_A, rfl⟩
  refine A_seq ?_; refine A_seq ?_; refine A_region ?_; refine M0 (q_moveC rfl rfl rfl) rfl rfl ?_; refine M0 (q_geq rfl rfl rfl rfl) rfl rfl ?_; refine L_nil ?_; refine T_n ?_
  refine A_cond rfl (fun h5 => ?_) (fun h5 => ?_)
  · have h5 : ¬ m < 128 := by have := of_decide_eq_true h5; omega
    have hl := bE_len acc
    refine A_skip ?_; refine T_n ?_; refine A_block ?_; refine A_seq ?_; refine A_region ?_; refine M0 (q_moveC rfl rfl rfl) rfl rfl ?_; refine M0 (q_moveC rfl rfl rfl) rfl rfl ?_
    refine M0 (q_rem rfl rfl rfl rfl (by omega)) rfl rfl ?_; refine M0 (q_add rfl rfl rfl rfl (by omega)) rfl rfl ?_; refine M0 (q_convI rfl rfl rfl rfl (wrap_u8_in (by omega))) rfl rfl ?_
    refine M1 (q_bslice rfl rfl rfl rfl rfl rfl) rfl rfl ?_; refine M_appsb rfl rfl rfl rfl rfl rfl rfl rfl rfl rfl (by omega) (by omega) ?_; refine M0 (q_assignC rfl rfl rfl) rfl rfl ?_
    refine L_nil ?_; refine T_n ?_; refine A_region ?_; refine M0 (q_moveC rfl rfl rfl) rfl rfl ?_; refine M0 (q_quo rfl rfl rfl rfl (by omega)) rfl rfl ?_
    refine M0 (q_assignC rfl rfl rfl) rfl rfl ?_; refine L_nil ?_; refine B_n ?_; refine T_n ?_
    refine ⟨(m / 128), (by omega), (fun (m : Nat) (acc : List UInt8) => (⟨_, [(0, I m), (3, .o (.c (.ref 0)))], [.row 1 (bE acc)]⟩ : St)) (m / 128) (acc ++ [UInt8.ofNat ((m : Int) % 128 + 128).toNat]), W_go [0] (by decide) rfl (row_eq (bE_snoc _ _ (by omega)).symm) (.cons (I_eq (by omega)) (.cons rfl (.nil))), m / 128, acc ++ [UInt8.ofNat ((m : Int) % 128 + 128).toNat], rfl, ⟨varN_step hp_A.1 h5 (by congr 1 <;> omega), by have := hp_A.2; simp <;> omega⟩, rfl⟩
  · have h5 : m < 128 := by have := of_decide_eq_false h5; omega
    have hl := bE_len acc
    have hb := hp_A.2
    refine A_exit ?_; refine T_x ?_; refine T_x ?_; refine B_xs ?_; refine T_n ?_; refine A_seq ?_; refine A_region ?_; refine M0 (q_moveC rfl rfl rfl) rfl rfl ?_
    refine M0 (q_moveC rfl rfl rfl) rfl rfl ?_; refine M0 (q_convI rfl rfl rfl rfl (wrap_u8_in (by omega))) rfl rfl ?_; refine M1 (q_bslice rfl rfl rfl rfl rfl rfl) rfl rfl ?_
    refine M_appsb rfl rfl rfl rfl rfl rfl rfl rfl rfl rfl (by omega) (by omega) ?_; refine M0 (q_assignC rfl rfl rfl) rfl rfl ?_; refine L_nil ?_; refine T_n ?_; refine A_seq ?_
    refine A_region ?_; refine M0 (q_moveC rfl rfl rfl) rfl rfl ?_; refine M0 (q_bstr rfl rfl rfl rfl) rfl rfl ?_; refine M0 (q_assignC rfl rfl rfl) rfl rfl ?_; refine L_nil ?_; refine T_n ?_
    refine A_ret ?_; refine F_r ?_
    exact E_tmp rfl rfl (W_end [] (by decide) rfl rfl (S_eq (congrArg bs (varN_end hp_A.1 h5 (by congr 1)))))
set_option maxHeartbeats 8000000 in
theorem S_EncodeVarint (n : Int) : Con Try.prog 107 [] [ai n] [] (S (bs (encVar n))) := by
  refine Con.of Try.func107 rfl Try.ntmps107 rfl (fun E => ?_)
  refine A_seq ?_; refine A_region ?_; refine M0 (q_assignC rfl rfl rfl) rfl rfl ?_; refine L_nil ?_; refine T_n ?_; refine A_seq ?_; refine A_seq ?_; refine A_region ?_
  refine M0 (q_moveC rfl rfl rfl) rfl rfl ?_; refine M0 (q_call0 rfl rfl (S_in n 0 1099511627775) rfl) rfl rfl ?_; refine M0 (q_not rfl rfl rfl) rfl rfl ?_; refine L_nil ?_; refine T_n ?_
  refine A_cond rfl (fun h => ?_) (fun h => ?_)
  · have h : ¬ (0 ≤ n ∧ n ≤ 1099511627775) := by rw [← inR_iff]; simpa using h
    refine A_seq ?_; refine A_region ?_; refine M0 (q_assignC rfl rfl rfl) rfl rfl ?_; refine L_nil ?_; refine T_n ?_; refine A_ret ?_; refine T_r ?_; refine F_r ?_
    exact E_tmp rfl rfl (W_end [] (by decide) rfl rfl (S_eq (by rw [encVar, if_neg h])))
  have h : 0 ≤ n ∧ n ≤ 1099511627775 := by rw [← inR_iff]; simpa using h
  have he : encVar n = varN n.toNat := by rw [encVar, if_pos h]
  rw [he]
  refine A_skip ?_; refine T_n ?_; refine A_seq ?_; refine A_region ?_; refine M1 (q_bslice0 rfl rfl rfl) rfl rfl ?_; refine M0 (q_assignC rfl rfl rfl) rfl rfl ?_; refine L_nil ?_; refine T_n ?_
  refine A_seq ?_; refine A_block ?_
  refine A_loop (fun m__ st => ∃ (m : Nat) (acc : List UInt8), m = m__ ∧ (acc ++ varN m = varN n.toNat ∧ acc.length + m ≤ 1099511627775) ∧ st = (fun (m : Nat) (acc : List UInt8) => (⟨_, [(0, I m), (3, .o (.c (.ref 0)))], [.row 1 (bE acc)]⟩ : St)) (m) (acc)) ((fun (m : Nat) (acc : List UInt8) => m) (n.toNat) ([])) ⟨(fun (m : Nat) (acc : List UInt8) => (⟨_, [(0, I m), (3, .o (.c (.ref 0)))], [.row 1 (bE acc)]⟩ : St)) (n.toNat) ([]), W_go [0] (by decide) rfl (rfl) (.cons (I_eq (by omega)) (.cons rfl (.nil))), n.toNat, [], rfl, ⟨rfl, by simp <;> omega⟩, rfl⟩ ?_
  rintro m_A _ ⟨m, acc, hk_A, hp_A, rfl⟩
  refine A_seq ?_; refine A_seq ?_; refine A_region ?_; refine M0 (q_moveC rfl rfl rfl) rfl rfl ?_; refine M0 (q_gtr rfl rfl rfl rfl) rfl rfl ?_; refine L_nil ?_; refine T_n ?_
  refine A_cond rfl (fun h5 => ?_) (fun h5 => ?_)
  · have h5 : ¬ m < 128 := by have := of_decide_eq_true h5; omega
    have hl := bE_len acc
    have hb := hp_A.2
    have hb1 : (m : Int).toNat &&& (127 : Int).toNat = m % 128 := Nat.and_two_pow_sub_one_eq_mod m 7
    have hb2 : ((m % 128 : Nat) : Int).toNat ||| (128 : Int).toNat = m % 128 + 128 := by
      have := Nat.two_pow_add_eq_or_of_lt (i := 7) (b := m % 128) (by omega) 1
      rw [Nat.or_comm]
      show 128 ||| m % 128 = _
      rw [← this]; omega
    have hb3 : (m : Int) / 2 ^ (7 : Int).toNat = (m / 128 : Nat) := by
      show (m : Int) / 128 = _
      omega
    refine A_skip ?_; refine T_n ?_; refine A_block ?_; refine A_seq ?_; refine A_region ?_; refine M0 (q_moveC rfl rfl rfl) rfl rfl ?_; refine M0 (q_moveC rfl rfl rfl) rfl rfl ?_
    refine M0 (q_bandK rfl rfl rfl rfl (by assumption) (by omega)) rfl rfl ?_; refine M0 (q_borK rfl rfl rfl rfl (by assumption) (by omega)) rfl rfl ?_
    refine M0 (q_convI rfl rfl rfl rfl (wrap_u8_in (by omega))) rfl rfl ?_; refine M1 (q_bslice rfl rfl rfl rfl rfl rfl) rfl rfl ?_
    refine M_appsb rfl rfl rfl rfl rfl rfl rfl rfl rfl rfl (by omega) (by omega) ?_; refine M0 (q_assignC rfl rfl rfl) rfl rfl ?_; refine L_nil ?_; refine T_n ?_; refine A_region ?_
    refine M0 (q_moveC rfl rfl rfl) rfl rfl ?_; refine M0 (q_shrK rfl rfl rfl rfl (by assumption) ⟨by omega, by omega, by decide⟩) rfl rfl ?_; refine M0 (q_assignC rfl rfl rfl) rfl rfl ?_
    refine L_nil ?_; refine B_n ?_; refine T_n ?_
    refine ⟨(m / 128), (by omega), (fun (m : Nat) (acc : List UInt8) => (⟨_, [(0, I m), (3, .o (.c (.ref 0)))], [.row 1 (bE acc)]⟩ : St)) (m / 128) (acc ++ [UInt8.ofNat ((m % 128 + 128 : Nat) : Int).toNat]), W_go [0] (by decide) rfl (row_eq (bE_snoc _ _ (by omega)).symm) (.cons rfl (.cons rfl (.nil))), m / 128, acc ++ [UInt8.ofNat ((m % 128 + 128 : Nat) : Int).toNat], rfl, ⟨varN_step hp_A.1 h5 (by congr 1), by simp <;> omega⟩, rfl⟩
  · have h5 : m < 128 := by have := of_decide_eq_false h5; omega
    have hl := bE_len acc
    have hb := hp_A.2
    refine A_exit ?_; refine T_x ?_; refine T_x ?_; refine B_xs ?_; refine T_n ?_; refine A_seq ?_; refine A_region ?_; refine M0 (q_moveC rfl rfl rfl) rfl rfl ?_
    refine M0 (q_moveC rfl rfl rfl) rfl rfl ?_; refine M0 (q_convI rfl rfl rfl rfl (wrap_u8_in (by omega))) rfl rfl ?_; refine M1 (q_bslice rfl rfl rfl rfl rfl rfl) rfl rfl ?_
    refine M_appsb rfl rfl rfl rfl rfl rfl rfl rfl rfl rfl (by omega) (by omega) ?_; refine M0 (q_bstr rfl rfl rfl rfl) rfl rfl ?_; refine M0 (q_assignC rfl rfl rfl) rfl rfl ?_
    refine L_nil ?_; refine T_n ?_; refine A_ret ?_; refine F_r ?_
    exact E_tmp rfl rfl (W_end [] (by decide) rfl rfl (S_eq (congrArg bs (varN_end hp_A.1 h5 (by congr 1)))))

theorem varN_pow : ∀ (j n : Nat), n < 128 ^ (j + 1) → (varN n).length ≤ j + 1
  | 0, n, h => by rw [varN_small (by omega)]; simp
  | j + 1, n, h => by
    by_cases hn : n < 128
    · rw [varN_small hn]; simp
    · rw [varN_big hn, List.length_cons]
      have := varN_pow j (n / 128) (by rw [Nat.pow_succ] at h; omega)
      omega
theorem encVar_len (n : Int) : (encVar n).length ≤ 6 := by
  unfold encVar
  split
  · exact varN_pow 5 _ (by omega)
  · simp
def signless (n : Int) : Int := if -549755813888 ≤ n ∧ n ≤ 549755813887 then (if 0 ≤ n then 2 * n else -2 * n - 1) else -1
set_option maxHeartbeats 8000000 in
theorem I_Signless (n : Int) (hn : I64 n) : Con Try.prog 114 [] [ai n] [] (I (signless n)) := by
  obtain ⟨hn1, hn2⟩ := hn
  refine Con.of Try.func114 rfl Try.ntmps114 rfl (fun E => ?_)
  refine A_seq ?_; refine A_region ?_; refine M0 (q_assignC rfl rfl rfl) rfl rfl ?_; refine L_nil ?_; refine T_n ?_; refine A_seq ?_; refine A_seq ?_; refine A_region ?_
  refine M0 (q_moveC rfl rfl rfl) rfl rfl ?_; refine M0 (q_lss rfl rfl rfl rfl) rfl rfl ?_; refine M0 (q_moveC rfl rfl rfl) rfl rfl ?_
  refine M0 (Qt.grdF rfl rfl rfl .stop (fun hgrd => q_moveC rfl rfl rfl)) rfl rfl ?_; refine M0 (Qt.grdF rfl rfl rfl (.hit .stop) (fun hgrd => q_gtr rfl rfl rfl rfl)) rfl rfl ?_
  refine M0 (q_or rfl rfl rfl rfl) rfl rfl ?_; refine L_nil ?_; refine T_n ?_
  refine A_cond rfl (fun h => ?_) (fun h => ?_)
  · simp only [Bool.or_eq_true, decide_eq_true_eq] at h
    refine A_seq ?_; refine A_region ?_; refine M0 (q_assignC rfl rfl rfl) rfl rfl ?_; refine L_nil ?_; refine T_n ?_; refine A_ret ?_; refine T_r ?_; refine F_r ?_
    exact E_tmp rfl rfl (W_end [] (by decide) rfl rfl (I_eq (by rw [signless, if_neg (by omega)])))
  simp only [Bool.or_eq_false_iff, decide_eq_false_iff_not] at h
  refine A_skip ?_; refine T_n ?_; refine A_seq ?_; refine A_seq ?_; refine A_region ?_; refine M0 (q_moveC rfl rfl rfl) rfl rfl ?_; refine M0 (q_geq rfl rfl rfl rfl) rfl rfl ?_; refine L_nil ?_
  refine T_n ?_
  refine A_cond rfl (fun h1 => ?_) (fun h1 => ?_)
  · have h1 := of_decide_eq_true h1
    refine A_seq ?_; refine A_region ?_; refine M0 (q_moveC rfl rfl rfl) rfl rfl ?_; refine M0 (q_mul rfl rfl rfl rfl (by omega)) rfl rfl ?_; refine M0 (q_assignC rfl rfl rfl) rfl rfl ?_
    refine L_nil ?_; refine T_n ?_; refine A_ret ?_; refine T_r ?_; refine F_r ?_
    exact E_tmp rfl rfl (W_end [] (by decide) rfl rfl (I_eq (by rw [signless, if_pos (by omega), if_pos (by omega)])))
  · have h1 := of_decide_eq_false h1
    refine A_skip ?_; refine T_n ?_; refine A_seq ?_; refine A_region ?_; refine M0 (q_moveC rfl rfl rfl) rfl rfl ?_; refine M0 (q_mul rfl rfl rfl rfl (by omega)) rfl rfl ?_
    refine M0 (q_sub rfl rfl rfl rfl (by omega)) rfl rfl ?_; refine M0 (q_assignC rfl rfl rfl) rfl rfl ?_; refine L_nil ?_; refine T_n ?_; refine A_ret ?_; refine F_r ?_
    exact E_tmp rfl rfl (W_end [] (by decide) rfl rfl (I_eq (by rw [signless, if_pos (by omega), if_neg (by omega)])))
set_option maxHeartbeats 8000000 in
theorem S_Signless (n : Int) (hn : I64 n) : Con Try.prog 108 [] [ai n] [] (I (signless n)) := by
  obtain ⟨hn1, hn2⟩ := hn
  refine Con.of Try.func108 rfl Try.ntmps108 rfl (fun E => ?_)
  refine A_seq ?_; refine A_region ?_; refine M0 (q_assignC rfl rfl rfl) rfl rfl ?_; refine L_nil ?_; refine T_n ?_; refine A_seq ?_; refine A_seq ?_; refine A_region ?_
  refine M0 (q_moveC rfl rfl rfl) rfl rfl ?_; refine M0 (q_call0 rfl rfl (S_in n (-549755813888) 549755813887) rfl) rfl rfl ?_; refine M0 (q_not rfl rfl rfl) rfl rfl ?_; refine L_nil ?_
  refine T_n ?_
  refine A_cond rfl (fun h => ?_) (fun h => ?_)
  · have h : ¬ (-549755813888 ≤ n ∧ n ≤ 549755813887) := by rw [← inR_iff]; simpa using h
    refine A_seq ?_; refine A_region ?_; refine M0 (q_assignC rfl rfl rfl) rfl rfl ?_; refine L_nil ?_; refine T_n ?_; refine A_ret ?_; refine T_r ?_; refine F_r ?_
    exact E_tmp rfl rfl (W_end [] (by decide) rfl rfl (I_eq (by rw [signless, if_neg (by omega)])))
  have h : -549755813888 ≤ n ∧ n ≤ 549755813887 := by rw [← inR_iff]; simpa using h
  refine A_skip ?_; refine T_n ?_; refine A_seq ?_; refine A_seq ?_; refine A_region ?_; refine M0 (q_moveC rfl rfl rfl) rfl rfl ?_; refine M0 (q_geq rfl rfl rfl rfl) rfl rfl ?_; refine L_nil ?_
  refine T_n ?_
  refine A_cond rfl (fun h1 => ?_) (fun h1 => ?_)
  · have h1 := of_decide_eq_true h1
    refine A_seq ?_; refine A_region ?_; refine M0 (q_moveC rfl rfl rfl) rfl rfl ?_; refine M0 (q_mul rfl rfl rfl rfl (by omega)) rfl rfl ?_; refine M0 (q_assignC rfl rfl rfl) rfl rfl ?_
    refine L_nil ?_; refine T_n ?_; refine A_ret ?_; refine T_r ?_; refine F_r ?_
    exact E_tmp rfl rfl (W_end [] (by decide) rfl rfl (I_eq (by rw [signless, if_pos (by omega), if_pos (by omega)])))
  · have h1 := of_decide_eq_false h1
    refine A_skip ?_; refine T_n ?_; refine A_seq ?_; refine A_region ?_; refine M0 (q_moveC rfl rfl rfl) rfl rfl ?_; refine M0 (q_mul rfl rfl rfl rfl (by omega)) rfl rfl ?_
    refine M0 (q_sub rfl rfl rfl rfl (by omega)) rfl rfl ?_; refine M0 (q_assignC rfl rfl rfl) rfl rfl ?_; refine L_nil ?_; refine T_n ?_; refine A_ret ?_; refine F_r ?_
    exact E_tmp rfl rfl (W_end [] (by decide) rfl rfl (I_eq (by rw [signless, if_pos (by omega), if_neg (by omega)])))
def packText (s : ByteArray) : ByteArray := bs (encVar s.size) ++ s
theorem packText_size (s : ByteArray) : (packText s).size ≤ s.size + 6 := by
  unfold packText
  rw [cat_size, bs_size]
  have := encVar_len s.size
  omega
set_option maxHeartbeats 8000000 in
theorem I_PackText (s : ByteArray) (hs : s.size ≤ 1099511627776) : Con Try.prog 70 [] [astr s] [] (S (packText s)) := by
  have h1 := bs_size (encVar s.size)
  have h2 := encVar_len s.size
  refine Con.of Try.func70 rfl Try.ntmps70 rfl (fun E => ?_)
  refine A_seq ?_; refine A_region ?_; refine M0 (q_assignC rfl rfl rfl) rfl rfl ?_; refine L_nil ?_; refine T_n ?_; refine A_seq ?_; refine A_region ?_; refine M0 (q_moveC rfl rfl rfl) rfl rfl ?_
  refine M0 (q_lens rfl rfl rfl) rfl rfl ?_; refine M0 (q_call0 rfl rfl (I_EncodeVarint s.size) rfl) rfl rfl ?_; refine M0 (q_moveC rfl rfl rfl) rfl rfl ?_
  refine M0 (q_cat rfl rfl rfl rfl (by omega)) rfl rfl ?_; refine M0 (q_assignC rfl rfl rfl) rfl rfl ?_; refine L_nil ?_; refine T_n ?_; refine A_ret ?_; refine F_r ?_
  exact E_tmp rfl rfl (W_end [] (by decide) rfl rfl rfl)
set_option maxHeartbeats 8000000 in
theorem S_PackText (s : ByteArray) (hs : s.size ≤ 1099511627776) : Con Try.prog 63 [] [astr s] [] (S (packText s)) := by
  have h1 := bs_size (encVar s.size)
  have h2 := encVar_len s.size
  refine Con.of Try.func63 rfl Try.ntmps63 rfl (fun E => ?_)
  refine A_seq ?_; refine A_region ?_; refine M0 (q_assignC rfl rfl rfl) rfl rfl ?_; refine L_nil ?_; refine T_n ?_; refine A_seq ?_; refine A_region ?_; refine M0 (q_moveC rfl rfl rfl) rfl rfl ?_
  refine M0 (q_lens rfl rfl rfl) rfl rfl ?_; refine M0 (q_call0 rfl rfl (S_EncodeVarint s.size) rfl) rfl rfl ?_; refine M0 (q_moveC rfl rfl rfl) rfl rfl ?_
  refine M0 (q_cat rfl rfl rfl rfl (by omega)) rfl rfl ?_; refine M0 (q_assignC rfl rfl rfl) rfl rfl ?_; refine L_nil ?_; refine T_n ?_; refine A_ret ?_; refine F_r ?_
  exact E_tmp rfl rfl (W_end [] (by decide) rfl rfl rfl)
/-- The first k numbers of a list. -/
def packK (xs : List Int) (k : Nat) : List UInt8 := encVar xs.length ++ (xs.take k).flatMap fun x => encVar (signless x)
def packInts (xs : List Int) : ByteArray := if xs.all (fun x => decide (0 ≤ signless x)) then bs (packK xs xs.length) else bs []
theorem packK_succ {xs : List Int} {k : Nat} (h : k < xs.length) : packK xs (k + 1) = packK xs k ++ encVar (signless xs[k]) := by
  unfold packK
  rw [List.take_succ_eq_append_getElem h, List.flatMap_append, List.append_assoc]
  simp
theorem packK_len (xs : List Int) : ∀ k, k ≤ xs.length → (packK xs k).length ≤ 6 * k + 6
  | 0, _ => by simp [packK]; exact encVar_len _
  | k + 1, h => by
    rw [packK_succ (by omega), List.length_append]
    have := packK_len xs k (by omega)
    have := encVar_len (signless xs[k])
    omega
theorem packInts_size (xs : List Int) : (packInts xs).size ≤ 6 * xs.length + 6 := by
  unfold packInts
  split
  · rw [bs_size]; exact packK_len xs _ (Nat.le_refl _)
  · rw [bs_size]; simp
set_option maxHeartbeats 8000000 in
theorem I_PackInts (xs : List Int) (hg : Enc.gd xs) (hL : xs.length ≤ 1073741824) : Con Try.prog 72 [] [al xs] [] (S (packInts xs)) := by
  have hlx := els_len xs
  have h1 := bs_size (encVar (els xs).length)
  have h2 := encVar_len (els xs).length
  refine Con.of Try.func72 rfl Try.ntmps72 rfl (fun E => ?_)
  refine A_seq ?_; refine A_region ?_; refine M0 (q_assignC rfl rfl rfl) rfl rfl ?_; refine L_nil ?_; refine T_n ?_; refine A_seq ?_; refine A_region ?_; refine M0 (q_moveC rfl rfl rfl) rfl rfl ?_
  refine M0 (q_len rfl rfl rfl) rfl rfl ?_; refine M0 (q_call0 rfl rfl (I_EncodeVarint (els xs).length) rfl) rfl rfl ?_; refine M1 (q_strb rfl rfl rfl (by omega)) rfl rfl ?_
  refine M0 (q_assignC rfl rfl rfl) rfl rfl ?_; refine L_nil ?_; refine T_n ?_; refine A_seq ?_; refine A_seq ?_; refine A_region ?_; refine M0 (q_moveC rfl rfl rfl) rfl rfl ?_
  refine M0 (q_len rfl rfl rfl) rfl rfl ?_; refine M0 (q_moveC rfl rfl rfl) rfl rfl ?_; refine L_nil ?_; refine T_n ?_; refine A_block ?_
  refine A_loop (fun m st => ∃ k : Nat, k + m = xs.length ∧ ((xs.take k).all (fun x => decide (0 ≤ signless x)) = true) ∧ st = (fun k : Nat => (⟨_, [(3, .o (.c (.ref 0))), (11, L xs), (12, I (els xs).length), (13, I k)], [.row 1 (bE (packK xs k))]⟩ : St)) k) (xs.length) ⟨(fun k : Nat => (⟨_, [(3, .o (.c (.ref 0))), (11, L xs), (12, I (els xs).length), (13, I k)], [.row 1 (bE (packK xs k))]⟩ : St)) 0, W_go [0] (by decide) rfl (row_eq (by rw [bs_list, hlx]; simp [packK])) (.cons rfl (.cons rfl (.cons rfl (.cons rfl (.nil))))), 0, by omega, by simp, rfl⟩ ?_
  rintro m_A _ ⟨k, hk_A, hp_A, rfl⟩
  refine A_seq ?_; refine A_region ?_; refine M0 (q_lss rfl rfl rfl rfl) rfl rfl ?_; refine L_nil ?_; refine T_n ?_; refine A_seq ?_
  refine A_cond rfl (fun h => ?_) (fun h => ?_)
  · have h3 : k < xs.length := by have := of_decide_eq_true h; omega
    have hat := els_at h3
    have hb1 := bE_len (packK xs k)
    have hb2 := packK_len xs k (by omega)
    have hb3 := bs_size (encVar (signless xs[k]))
    have hb4 := encVar_len (signless xs[k])
    refine A_skip ?_; refine T_n ?_; refine A_seq ?_; refine A_block ?_; refine A_seq ?_; refine A_region ?_; refine M0 (q_at rfl rfl rfl rfl (by omega) (by assumption) rfl) rfl rfl ?_
    refine M0 (q_lr1 rfl rfl rfl rfl) rfl rfl ?_; refine M0 (q_assignC rfl rfl rfl) rfl rfl ?_; refine L_nil ?_; refine T_n ?_; refine A_seq ?_; refine A_region ?_
    refine M0 (q_moveC rfl rfl rfl) rfl rfl ?_; refine M0 (q_call0 rfl rfl (I_Signless xs[k] (hg.2 _ (List.getElem_mem h3))) rfl) rfl rfl ?_; refine M0 (q_assignC rfl rfl rfl) rfl rfl ?_
    refine L_nil ?_; refine T_n ?_; refine A_seq ?_; refine A_seq ?_; refine A_region ?_; refine M0 (q_moveC rfl rfl rfl) rfl rfl ?_; refine M0 (q_lss rfl rfl rfl rfl) rfl rfl ?_; refine L_nil ?_
    refine T_n ?_
    refine A_cond rfl (fun h4 => ?_) (fun h4 => ?_)
    · refine A_seq ?_; refine A_region ?_; refine M0 (q_assignC rfl rfl rfl) rfl rfl ?_; refine L_nil ?_; refine T_n ?_; refine A_ret ?_; refine T_r ?_; refine B_r ?_; refine T_r ?_; refine T_r ?_
      refine B_r ?_; refine T_r ?_; refine F_r ?_
      exact E_tmp rfl rfl (W_end [] (by decide) rfl rfl (S_eq (by rw [packInts, all_no h3 (by simpa using h4)]; rfl)))
    · refine A_skip ?_; refine T_n ?_; refine A_region ?_; refine M0 (q_moveC rfl rfl rfl) rfl rfl ?_; refine M0 (q_moveC rfl rfl rfl) rfl rfl ?_
      refine M0 (q_call0 rfl rfl (I_EncodeVarint (signless xs[k])) rfl) rfl rfl ?_; refine M_appstr rfl rfl rfl rfl rfl rfl rfl (by omega) (by omega) ?_
      refine M0 (q_assignC rfl rfl rfl) rfl rfl ?_; refine L_nil ?_; refine B_n ?_; refine T_n ?_; refine A_region ?_; refine M0 (q_add rfl rfl rfl rfl (by omega)) rfl rfl ?_
      refine M0 (q_moveC rfl rfl rfl) rfl rfl ?_; refine L_nil ?_; refine T_n ?_
      exact ⟨xs.length - (k + 1), by omega, (fun k : Nat => (⟨_, [(3, .o (.c (.ref 0))), (11, L xs), (12, I (els xs).length), (13, I k)], [.row 1 (bE (packK xs k))]⟩ : St)) (k + 1), W_go [0] (by decide) rfl (row_eq (by rw [bs_list, bE_app, packK_succ h3])) (.cons rfl (.cons rfl (.cons rfl (.cons rfl (.nil))))), k + 1, by omega, all_next hp_A h3 (by simpa using h4), rfl⟩
  · have h3 : ¬ ((k : Int) < (els xs).length) := of_decide_eq_false h
    have hk : k = xs.length := by omega
    refine A_exit ?_; refine T_x ?_; refine T_x ?_; refine B_xs ?_; refine T_n ?_; refine A_seq ?_; refine A_region ?_; refine M0 (q_moveC rfl rfl rfl) rfl rfl ?_
    refine M0 (q_bstr rfl rfl rfl rfl) rfl rfl ?_; refine M0 (q_assignC rfl rfl rfl) rfl rfl ?_; refine L_nil ?_; refine T_n ?_; refine A_ret ?_; refine F_r ?_
    exact E_tmp rfl rfl (W_end [] (by decide) rfl rfl (S_eq (by rw [packInts, all_end hp_A (by omega), hk]; rfl)))
set_option maxHeartbeats 8000000 in
theorem S_PackInts (xs : List Int) (hg : Enc.gd xs) (hL : xs.length ≤ 1073741824) : Con Try.prog 65 [] [al xs] [] (S (packInts xs)) := by
  have hlx := els_len xs
  refine Con.of Try.func65 rfl Try.ntmps65 rfl (fun E => ?_)
  refine A_seq ?_; refine A_region ?_; refine M0 (q_assignC rfl rfl rfl) rfl rfl ?_; refine L_nil ?_; refine T_n ?_; refine A_seq ?_; refine A_region ?_; refine M0 (q_moveC rfl rfl rfl) rfl rfl ?_
  refine M0 (q_len rfl rfl rfl) rfl rfl ?_; refine M0 (q_call0 rfl rfl (S_EncodeVarint (els xs).length) rfl) rfl rfl ?_; refine M0 (q_assignC rfl rfl rfl) rfl rfl ?_; refine L_nil ?_
  refine T_n ?_; refine A_seq ?_; refine A_seq ?_; refine A_region ?_; refine M0 (q_assignC rfl rfl rfl) rfl rfl ?_; refine L_nil ?_; refine T_n ?_; refine A_block ?_
  refine A_loop (fun m st => ∃ k : Nat, k + m = xs.length ∧ ((xs.take k).all (fun x => decide (0 ≤ signless x)) = true) ∧ st = (fun k : Nat => (⟨_, [(0, L xs), (3, S (bs (packK xs k))), (4, I k)], []⟩ : St)) k) (xs.length) ⟨(fun k : Nat => (⟨_, [(0, L xs), (3, S (bs (packK xs k))), (4, I k)], []⟩ : St)) 0, W_go [] (by decide) rfl (rfl) (.cons rfl (.cons (S_eq (by rw [hlx]; simp [packK])) (.cons rfl (.nil)))), 0, by omega, by simp, rfl⟩ ?_
  rintro m_A _ ⟨k, hk_A, hp_A, rfl⟩
  refine A_seq ?_; refine A_seq ?_; refine A_region ?_; refine M0 (q_moveC rfl rfl rfl) rfl rfl ?_; refine M0 (q_moveC rfl rfl rfl) rfl rfl ?_; refine M0 (q_len rfl rfl rfl) rfl rfl ?_
  refine M0 (q_lss rfl rfl rfl rfl) rfl rfl ?_; refine L_nil ?_; refine T_n ?_
  refine A_cond rfl (fun h => ?_) (fun h => ?_)
  · have h3 : k < xs.length := by have := of_decide_eq_true h; omega
    have hat := els_at h3
    have hb1 := bs_size (packK xs k)
    have hb2 := packK_len xs k (by omega)
    have hb3 := bs_size (encVar (signless xs[k]))
    have hb4 := encVar_len (signless xs[k])
    have hc := S_Signless xs[k] (hg.2 _ (List.getElem_mem h3))
    refine A_skip ?_; refine T_n ?_; refine A_seq ?_; refine A_block ?_; refine A_seq ?_; refine A_seq ?_; refine A_region ?_; refine M0 (q_moveC rfl rfl rfl) rfl rfl ?_
    refine M0 (q_moveC rfl rfl rfl) rfl rfl ?_; refine M0 (q_at rfl rfl rfl rfl (by omega) (by assumption) rfl) rfl rfl ?_; refine M0 (q_lr1 rfl rfl rfl rfl) rfl rfl ?_
    refine M0 (q_call0 rfl rfl (hc) rfl) rfl rfl ?_; refine M0 (q_lss rfl rfl rfl rfl) rfl rfl ?_; refine L_nil ?_; refine T_n ?_
    refine A_cond rfl (fun h4 => ?_) (fun h4 => ?_)
    · refine A_seq ?_; refine A_region ?_; refine M0 (q_assignC rfl rfl rfl) rfl rfl ?_; refine L_nil ?_; refine T_n ?_; refine A_ret ?_; refine T_r ?_; refine B_r ?_; refine T_r ?_; refine T_r ?_
      refine B_r ?_; refine T_r ?_; refine F_r ?_
      exact E_tmp rfl rfl (W_end [] (by decide) rfl rfl (S_eq (by rw [packInts, all_no h3 (by simpa using h4)]; rfl)))
    · refine A_skip ?_; refine T_n ?_; refine A_region ?_; refine M0 (q_moveC rfl rfl rfl) rfl rfl ?_; refine M0 (q_moveC rfl rfl rfl) rfl rfl ?_; refine M0 (q_moveC rfl rfl rfl) rfl rfl ?_
      refine M0 (q_at rfl rfl rfl rfl (by omega) (by assumption) rfl) rfl rfl ?_; refine M0 (q_lr1 rfl rfl rfl rfl) rfl rfl ?_; refine M0 (q_call0 rfl rfl (hc) rfl) rfl rfl ?_
      refine M0 (q_call0 rfl rfl (S_EncodeVarint (signless xs[k])) rfl) rfl rfl ?_; refine M0 (q_cat rfl rfl rfl rfl (by omega)) rfl rfl ?_; refine M0 (q_assignC rfl rfl rfl) rfl rfl ?_
      refine L_nil ?_; refine B_n ?_; refine T_n ?_; refine A_region ?_; refine M0 (q_moveC rfl rfl rfl) rfl rfl ?_; refine M0 (q_add rfl rfl rfl rfl (by omega)) rfl rfl ?_
      refine M0 (q_assignC rfl rfl rfl) rfl rfl ?_; refine L_nil ?_; refine T_n ?_
      exact ⟨xs.length - (k + 1), by omega, (fun k : Nat => (⟨_, [(0, L xs), (3, S (bs (packK xs k))), (4, I k)], []⟩ : St)) (k + 1), W_go [] (by decide) rfl (rfl) (.cons rfl (.cons (S_eq (by rw [bs_app, packK_succ h3])) (.cons rfl (.nil)))), k + 1, by omega, all_next hp_A h3 (by simpa using h4), rfl⟩
  · have h3 : ¬ ((k : Int) < (els xs).length) := of_decide_eq_false h
    have hk : k = xs.length := by omega
    refine A_exit ?_; refine T_x ?_; refine T_x ?_; refine B_xs ?_; refine T_n ?_; refine A_seq ?_; refine A_region ?_; refine M0 (q_moveC rfl rfl rfl) rfl rfl ?_
    refine M0 (q_assignC rfl rfl rfl) rfl rfl ?_; refine L_nil ?_; refine T_n ?_; refine A_ret ?_; refine F_r ?_
    exact E_tmp rfl rfl (W_end [] (by decide) rfl rfl (S_eq (by rw [packInts, all_end hp_A (by omega), hk]; rfl)))

def sumA (s : ByteArray) : Nat → Int
  | 0 => 0
  | k + 1 => (sumA s k + byteAt s k) % 65521
def sumB (s : ByteArray) : Nat → Int
  | 0 => 0
  | k + 1 => (sumB s k + byteAt s k * (((k : Int) + 1) % 65521)) % 65521
def checksum (s : ByteArray) : Int := sumA s s.size + 65536 * sumB s s.size
theorem sumA_lt (s : ByteArray) : ∀ k, 0 ≤ sumA s k ∧ sumA s k < 65521
  | 0 => by simp [sumA]
  | k + 1 => by simp only [sumA]; omega
theorem sumB_lt (s : ByteArray) : ∀ k, 0 ≤ sumB s k ∧ sumB s k < 65521
  | 0 => by simp [sumB]
  | k + 1 => by simp only [sumB]; omega
theorem checksum_lt (s : ByteArray) : 0 ≤ checksum s ∧ checksum s < 4294967296 := by
  have := sumA_lt s s.size
  have := sumB_lt s s.size
  unfold checksum
  omega
set_option maxHeartbeats 8000000 in
theorem I_Checksum (s : ByteArray) (hs : s.size ≤ 1099511627776) : Con Try.prog 116 [] [astr s] [] (I (checksum s)) := by
  refine Con.of Try.func116 rfl Try.ntmps116 rfl (fun E => ?_)
  refine A_seq ?_; refine A_region ?_; refine M0 (q_assignC rfl rfl rfl) rfl rfl ?_; refine L_nil ?_; refine T_n ?_; refine A_seq ?_; refine A_region ?_
  refine M0 (q_assignC rfl rfl rfl) rfl rfl ?_; refine L_nil ?_; refine T_n ?_; refine A_seq ?_; refine A_region ?_; refine M0 (q_assignC rfl rfl rfl) rfl rfl ?_; refine L_nil ?_; refine T_n ?_
  refine A_seq ?_; refine A_seq ?_; refine A_region ?_; refine M0 (q_assignC rfl rfl rfl) rfl rfl ?_; refine L_nil ?_; refine T_n ?_; refine A_block ?_
  refine A_loop (fun m st => ∃ k : Nat, k + m = s.size ∧ (True) ∧ st = (fun k : Nat => (⟨_, [(0, S s), (3, I (sumA s k)), (4, I (sumB s k)), (5, I k)], []⟩ : St)) k) (s.size) ⟨(fun k : Nat => (⟨_, [(0, S s), (3, I (sumA s k)), (4, I (sumB s k)), (5, I k)], []⟩ : St)) 0, W_go [] (by decide) rfl (rfl) (.cons rfl (.cons rfl (.cons rfl (.cons rfl (.nil))))), 0, by omega, trivial, rfl⟩ ?_
  rintro m_A _ ⟨k, hk_A, hp_A, rfl⟩
  refine A_seq ?_; refine A_seq ?_; refine A_region ?_; refine M0 (q_moveC rfl rfl rfl) rfl rfl ?_; refine M0 (q_moveC rfl rfl rfl) rfl rfl ?_; refine M0 (q_lens rfl rfl rfl) rfl rfl ?_
  refine M0 (q_lss rfl rfl rfl rfl) rfl rfl ?_; refine L_nil ?_; refine T_n ?_
  refine A_cond rfl (fun h => ?_) (fun h => ?_)
  · have h3 : k < s.size := by have := of_decide_eq_true h; omega
    have hb1 := sumA_lt s k
    have hb2 := sumB_lt s k
    obtain ⟨t, ht⟩ : ∃ t, byteAt s (k : Int).toNat = t := ⟨_, rfl⟩
    have htb : 0 ≤ t ∧ t ≤ 255 := ht ▸ byteAt_lt _ _
    have hmul : 0 ≤ t * (((k : Int) + 1) % 65521) ∧ t * (((k : Int) + 1) % 65521) ≤ 255 * 65520 := by
      have h5 : 0 ≤ ((k : Int) + 1) % 65521 ∧ ((k : Int) + 1) % 65521 ≤ 65520 := by omega
      exact ⟨Int.mul_nonneg htb.1 h5.1, Int.mul_le_mul htb.2 h5.2 h5.1 (by omega)⟩
    have e1 : sumA s (k + 1) = (sumA s k + t) % 65521 := by rw [sumA, ← ht]; rfl
    have e2 : sumB s (k + 1) = (sumB s k + t * (((k : Int) + 1) % 65521)) % 65521 := by rw [sumB, ← ht]; rfl
    refine A_skip ?_; refine T_n ?_; refine A_seq ?_; refine A_block ?_; refine A_seq ?_; refine A_region ?_; refine M0 (q_moveC rfl rfl rfl) rfl rfl ?_; refine M0 (q_moveC rfl rfl rfl) rfl rfl ?_
    refine M0 (q_moveC rfl rfl rfl) rfl rfl ?_; refine M0 (q_byteK rfl rfl rfl rfl (by assumption) (by omega)) rfl rfl ?_
    refine M0 (q_convI rfl rfl rfl rfl (wrap_i64 (by omega))) rfl rfl ?_; refine M0 (q_add rfl rfl rfl rfl (by omega)) rfl rfl ?_; refine M0 (q_rem rfl rfl rfl rfl (by omega)) rfl rfl ?_
    refine M0 (q_assignC rfl rfl rfl) rfl rfl ?_; refine L_nil ?_; refine T_n ?_; refine A_region ?_; refine M0 (q_moveC rfl rfl rfl) rfl rfl ?_; refine M0 (q_moveC rfl rfl rfl) rfl rfl ?_
    refine M0 (q_moveC rfl rfl rfl) rfl rfl ?_; refine M0 (q_byteK rfl rfl rfl rfl (by assumption) (by omega)) rfl rfl ?_
    refine M0 (q_convI rfl rfl rfl rfl (wrap_i64 (by omega))) rfl rfl ?_; refine M0 (q_moveC rfl rfl rfl) rfl rfl ?_; refine M0 (q_add rfl rfl rfl rfl (by omega)) rfl rfl ?_
    refine M0 (q_rem rfl rfl rfl rfl (by omega)) rfl rfl ?_; refine M0 (q_mul rfl rfl rfl rfl (by omega)) rfl rfl ?_; refine M0 (q_add rfl rfl rfl rfl (by omega)) rfl rfl ?_
    refine M0 (q_rem rfl rfl rfl rfl (by omega)) rfl rfl ?_; refine M0 (q_assignC rfl rfl rfl) rfl rfl ?_; refine L_nil ?_; refine B_n ?_; refine T_n ?_; refine A_region ?_
    refine M0 (q_moveC rfl rfl rfl) rfl rfl ?_; refine M0 (q_add rfl rfl rfl rfl (by omega)) rfl rfl ?_; refine M0 (q_assignC rfl rfl rfl) rfl rfl ?_; refine L_nil ?_; refine T_n ?_
    exact ⟨s.size - (k + 1), by omega, (fun k : Nat => (⟨_, [(0, S s), (3, I (sumA s k)), (4, I (sumB s k)), (5, I k)], []⟩ : St)) (k + 1), W_go [] (by decide) rfl (rfl) (.cons rfl (.cons (I_eq e1.symm) (.cons (I_eq e2.symm) (.cons rfl (.nil))))), k + 1, by omega, trivial, rfl⟩
  · have h3 : ¬ ((k : Int) < s.size) := of_decide_eq_false h
    have hk : k = s.size := by omega
    have hb1 := sumA_lt s k
    have hb2 := sumB_lt s k
    refine A_exit ?_; refine T_x ?_; refine T_x ?_; refine B_xs ?_; refine T_n ?_; refine A_seq ?_; refine A_region ?_; refine M0 (q_moveC rfl rfl rfl) rfl rfl ?_
    refine M0 (q_moveC rfl rfl rfl) rfl rfl ?_; refine M0 (q_mul rfl rfl rfl rfl (by omega)) rfl rfl ?_; refine M0 (q_add rfl rfl rfl rfl (by omega)) rfl rfl ?_
    refine M0 (q_assignC rfl rfl rfl) rfl rfl ?_; refine L_nil ?_; refine T_n ?_; refine A_ret ?_; refine F_r ?_
    exact E_tmp rfl rfl (W_end [] (by decide) rfl rfl (I_eq (by rw [checksum, hk])))
set_option maxHeartbeats 8000000 in
theorem S_Checksum (s : ByteArray) (hs : s.size ≤ 1099511627776) : Con Try.prog 110 [] [astr s] [] (I (checksum s)) := by
  refine Con.of Try.func110 rfl Try.ntmps110 rfl (fun E => ?_)
  refine A_seq ?_; refine A_region ?_; refine M0 (q_assignC rfl rfl rfl) rfl rfl ?_; refine L_nil ?_; refine T_n ?_; refine A_seq ?_; refine A_region ?_
  refine M0 (q_assignC rfl rfl rfl) rfl rfl ?_; refine L_nil ?_; refine T_n ?_; refine A_seq ?_; refine A_region ?_; refine M0 (q_assignC rfl rfl rfl) rfl rfl ?_; refine L_nil ?_; refine T_n ?_
  refine A_seq ?_; refine A_seq ?_; refine A_region ?_; refine M0 (q_assignC rfl rfl rfl) rfl rfl ?_; refine L_nil ?_; refine T_n ?_; refine A_block ?_
  refine A_loop (fun m st => ∃ k : Nat, k + m = s.size ∧ (True) ∧ st = (fun k : Nat => (⟨_, [(0, S s), (3, I (sumA s k)), (4, I (sumB s k)), (5, I k)], []⟩ : St)) k) (s.size) ⟨(fun k : Nat => (⟨_, [(0, S s), (3, I (sumA s k)), (4, I (sumB s k)), (5, I k)], []⟩ : St)) 0, W_go [] (by decide) rfl (rfl) (.cons rfl (.cons rfl (.cons rfl (.cons rfl (.nil))))), 0, by omega, trivial, rfl⟩ ?_
  rintro m_A _ ⟨k, hk_A, hp_A, rfl⟩
  refine A_seq ?_; refine A_seq ?_; refine A_region ?_; refine M0 (q_moveC rfl rfl rfl) rfl rfl ?_; refine M0 (q_moveC rfl rfl rfl) rfl rfl ?_; refine M0 (q_lens rfl rfl rfl) rfl rfl ?_
  refine M0 (q_lss rfl rfl rfl rfl) rfl rfl ?_; refine L_nil ?_; refine T_n ?_
  refine A_cond rfl (fun h => ?_) (fun h => ?_)
  · have h3 : k < s.size := by have := of_decide_eq_true h; omega
    have hb1 := sumA_lt s k
    have hb2 := sumB_lt s k
    obtain ⟨t, ht⟩ : ∃ t, byteAt s (k : Int).toNat = t := ⟨_, rfl⟩
    have htb : 0 ≤ t ∧ t ≤ 255 := ht ▸ byteAt_lt _ _
    have hmul : 0 ≤ t * (((k : Int) + 1) % 65521) ∧ t * (((k : Int) + 1) % 65521) ≤ 255 * 65520 := by
      have h5 : 0 ≤ ((k : Int) + 1) % 65521 ∧ ((k : Int) + 1) % 65521 ≤ 65520 := by omega
      exact ⟨Int.mul_nonneg htb.1 h5.1, Int.mul_le_mul htb.2 h5.2 h5.1 (by omega)⟩
    have e1 : sumA s (k + 1) = (sumA s k + t) % 65521 := by rw [sumA, ← ht]; rfl
    have e2 : sumB s (k + 1) = (sumB s k + t * (((k : Int) + 1) % 65521)) % 65521 := by rw [sumB, ← ht]; rfl
    refine A_skip ?_; refine T_n ?_; refine A_seq ?_; refine A_block ?_; refine A_seq ?_; refine A_region ?_; refine M0 (q_moveC rfl rfl rfl) rfl rfl ?_; refine M0 (q_moveC rfl rfl rfl) rfl rfl ?_
    refine M0 (q_moveC rfl rfl rfl) rfl rfl ?_; refine M0 (q_byteK rfl rfl rfl rfl (by assumption) (by omega)) rfl rfl ?_
    refine M0 (q_convI rfl rfl rfl rfl (wrap_i64 (by omega))) rfl rfl ?_; refine M0 (q_add rfl rfl rfl rfl (by omega)) rfl rfl ?_; refine M0 (q_rem rfl rfl rfl rfl (by omega)) rfl rfl ?_
    refine M0 (q_assignC rfl rfl rfl) rfl rfl ?_; refine L_nil ?_; refine T_n ?_; refine A_region ?_; refine M0 (q_moveC rfl rfl rfl) rfl rfl ?_; refine M0 (q_moveC rfl rfl rfl) rfl rfl ?_
    refine M0 (q_moveC rfl rfl rfl) rfl rfl ?_; refine M0 (q_byteK rfl rfl rfl rfl (by assumption) (by omega)) rfl rfl ?_
    refine M0 (q_convI rfl rfl rfl rfl (wrap_i64 (by omega))) rfl rfl ?_; refine M0 (q_moveC rfl rfl rfl) rfl rfl ?_; refine M0 (q_add rfl rfl rfl rfl (by omega)) rfl rfl ?_
    refine M0 (q_rem rfl rfl rfl rfl (by omega)) rfl rfl ?_; refine M0 (q_mul rfl rfl rfl rfl (by omega)) rfl rfl ?_; refine M0 (q_add rfl rfl rfl rfl (by omega)) rfl rfl ?_
    refine M0 (q_rem rfl rfl rfl rfl (by omega)) rfl rfl ?_; refine M0 (q_assignC rfl rfl rfl) rfl rfl ?_; refine L_nil ?_; refine B_n ?_; refine T_n ?_; refine A_region ?_
    refine M0 (q_moveC rfl rfl rfl) rfl rfl ?_; refine M0 (q_add rfl rfl rfl rfl (by omega)) rfl rfl ?_; refine M0 (q_assignC rfl rfl rfl) rfl rfl ?_; refine L_nil ?_; refine T_n ?_
    exact ⟨s.size - (k + 1), by omega, (fun k : Nat => (⟨_, [(0, S s), (3, I (sumA s k)), (4, I (sumB s k)), (5, I k)], []⟩ : St)) (k + 1), W_go [] (by decide) rfl (rfl) (.cons rfl (.cons (I_eq e1.symm) (.cons (I_eq e2.symm) (.cons rfl (.nil))))), k + 1, by omega, trivial, rfl⟩
  · have h3 : ¬ ((k : Int) < s.size) := of_decide_eq_false h
    have hk : k = s.size := by omega
    have hb1 := sumA_lt s k
    have hb2 := sumB_lt s k
    refine A_exit ?_; refine T_x ?_; refine T_x ?_; refine B_xs ?_; refine T_n ?_; refine A_seq ?_; refine A_region ?_; refine M0 (q_moveC rfl rfl rfl) rfl rfl ?_
    refine M0 (q_moveC rfl rfl rfl) rfl rfl ?_; refine M0 (q_mul rfl rfl rfl rfl (by omega)) rfl rfl ?_; refine M0 (q_add rfl rfl rfl rfl (by omega)) rfl rfl ?_
    refine M0 (q_assignC rfl rfl rfl) rfl rfl ?_; refine L_nil ?_; refine T_n ?_; refine A_ret ?_; refine F_r ?_
    exact E_tmp rfl rfl (W_end [] (by decide) rfl rfl (I_eq (by rw [checksum, hk])))

/-- The four bytes ahead of a sealed text. -/
def seal4 (x : Int) : List UInt8 := [UInt8.ofNat (x % 256).toNat, UInt8.ofNat (x / 256 % 256).toNat, UInt8.ofNat (x / 65536 % 256).toNat, UInt8.ofNat (x / 16777216 % 256).toNat]
def sealText (s : ByteArray) : ByteArray := bs (seal4 (checksum s)) ++ s
theorem sealText_size (s : ByteArray) : (sealText s).size = s.size + 4 := by
  unfold sealText
  rw [cat_size, bs_size]
  simp [seal4]
  omega
set_option maxHeartbeats 8000000 in
theorem I_SealText (s : ByteArray) (hs : s.size ≤ 1099511627776) : Con Try.prog 74 [] [astr s] [] (S (sealText s)) := by
  obtain ⟨x, hx⟩ : ∃ x, checksum s = x := ⟨_, rfl⟩
  have h1 := checksum_lt s
  have hc := I_Checksum s hs
  rw [hx] at h1 hc
  refine Con.of Try.func74 rfl Try.ntmps74 rfl (fun E => ?_)
  refine A_seq ?_; refine A_region ?_; refine M0 (q_assignC rfl rfl rfl) rfl rfl ?_; refine L_nil ?_; refine T_n ?_; refine A_seq ?_; refine A_region ?_; refine M0 (q_moveC rfl rfl rfl) rfl rfl ?_
  refine M0 (q_call0 rfl rfl (hc) rfl) rfl rfl ?_; refine M0 (q_assignC rfl rfl rfl) rfl rfl ?_; refine L_nil ?_; refine T_n ?_; refine A_seq ?_; refine A_region ?_
  refine M0 (q_moveC rfl rfl rfl) rfl rfl ?_; refine M0 (q_rem rfl rfl rfl rfl (by omega)) rfl rfl ?_; refine M0 (q_assignC rfl rfl rfl) rfl rfl ?_; refine L_nil ?_; refine T_n ?_
  refine A_seq ?_; refine A_region ?_; refine M0 (q_moveC rfl rfl rfl) rfl rfl ?_; refine M0 (q_quo rfl rfl rfl rfl (by omega)) rfl rfl ?_; refine M0 (q_assignC rfl rfl rfl) rfl rfl ?_
  refine L_nil ?_; refine T_n ?_; refine A_seq ?_; refine A_region ?_; refine M0 (q_moveC rfl rfl rfl) rfl rfl ?_; refine M0 (q_rem rfl rfl rfl rfl (by omega)) rfl rfl ?_
  refine M0 (q_convI rfl rfl rfl rfl (wrap_u8_in (by omega))) rfl rfl ?_; refine M0 (q_moveC rfl rfl rfl) rfl rfl ?_; refine M0 (q_quo rfl rfl rfl rfl (by omega)) rfl rfl ?_
  refine M0 (q_convI rfl rfl rfl rfl (wrap_u8_in (by omega))) rfl rfl ?_; refine M0 (q_moveC rfl rfl rfl) rfl rfl ?_; refine M0 (q_rem rfl rfl rfl rfl (by omega)) rfl rfl ?_
  refine M0 (q_convI rfl rfl rfl rfl (wrap_u8_in (by omega))) rfl rfl ?_; refine M0 (q_moveC rfl rfl rfl) rfl rfl ?_; refine M0 (q_quo rfl rfl rfl rfl (by omega)) rfl rfl ?_
  refine M0 (q_convI rfl rfl rfl rfl (wrap_u8_in (by omega))) rfl rfl ?_; refine M1 (q_bslice rfl rfl rfl rfl rfl rfl) rfl rfl ?_; refine M0 (q_assignC rfl rfl rfl) rfl rfl ?_
  refine L_nil ?_; refine T_n ?_; refine A_seq ?_; refine A_region ?_; refine M0 (q_moveC rfl rfl rfl) rfl rfl ?_; refine M0 (q_bstrb rfl rfl rfl rfl rfl) rfl rfl ?_
  refine M0 (q_moveC rfl rfl rfl) rfl rfl ?_
  refine M0 (q_cat rfl rfl rfl rfl (by simp only [bs_size, cat_size, List.length_cons, List.length_nil, List.length_append]; omega)) rfl rfl ?_
  refine M0 (q_assignC rfl rfl rfl) rfl rfl ?_; refine L_nil ?_; refine T_n ?_; refine A_ret ?_; refine F_r ?_
  exact E_tmp rfl rfl (W_end [] (by decide) rfl rfl (S_eq (by
    rw [sealText, hx, seal4]
    have e1 : x % 65536 % 256 = x % 256 := by omega
    have e2 : x % 65536 / 256 = x / 256 % 256 := by omega
    have e3 : x / 65536 / 256 = x / 16777216 % 256 := by omega
    rw [e1, e2, e3])))
set_option maxHeartbeats 8000000 in
theorem S_SealText (s : ByteArray) (hs : s.size ≤ 1099511627776) : Con Try.prog 68 [] [astr s] [] (S (sealText s)) := by
  obtain ⟨x, hx⟩ : ∃ x, checksum s = x := ⟨_, rfl⟩
  have h1 := checksum_lt s
  have hc := S_Checksum s hs
  rw [hx] at h1 hc
  have f1 : x / 2 ^ (8 : Int).toNat = x / 256 := rfl
  have f2 : x / 2 ^ (16 : Int).toNat = x / 65536 := rfl
  have f3 : x / 2 ^ (24 : Int).toNat = x / 16777216 := rfl
  refine Con.of Try.func68 rfl Try.ntmps68 rfl (fun E => ?_)
  refine A_seq ?_; refine A_region ?_; refine M0 (q_assignC rfl rfl rfl) rfl rfl ?_; refine L_nil ?_; refine T_n ?_; refine A_seq ?_; refine A_region ?_; refine M0 (q_moveC rfl rfl rfl) rfl rfl ?_
  refine M0 (q_call0 rfl rfl (hc) rfl) rfl rfl ?_; refine M0 (q_assignC rfl rfl rfl) rfl rfl ?_; refine L_nil ?_; refine T_n ?_; refine A_seq ?_; refine A_region ?_
  refine M0 (q_moveC rfl rfl rfl) rfl rfl ?_; refine M0 (q_conv8 rfl rfl rfl rfl) rfl rfl ?_; refine M0 (q_moveC rfl rfl rfl) rfl rfl ?_
  refine M0 (q_shrK rfl rfl rfl rfl (by assumption) ⟨by omega, by omega, by decide⟩) rfl rfl ?_; refine M0 (q_conv8 rfl rfl rfl rfl) rfl rfl ?_
  refine M0 (q_moveC rfl rfl rfl) rfl rfl ?_; refine M0 (q_shrK rfl rfl rfl rfl (by assumption) ⟨by omega, by omega, by decide⟩) rfl rfl ?_
  refine M0 (q_conv8 rfl rfl rfl rfl) rfl rfl ?_; refine M0 (q_moveC rfl rfl rfl) rfl rfl ?_
  refine M0 (q_shrK rfl rfl rfl rfl (by assumption) ⟨by omega, by omega, by decide⟩) rfl rfl ?_; refine M0 (q_convI rfl rfl rfl rfl (wrap_u8_in (by omega))) rfl rfl ?_
  refine M1 (q_bslice rfl rfl rfl rfl rfl rfl) rfl rfl ?_; refine M0 (q_bstrb rfl rfl rfl rfl rfl) rfl rfl ?_; refine M0 (q_moveC rfl rfl rfl) rfl rfl ?_
  refine M0 (q_cat rfl rfl rfl rfl (by simp only [bs_size, cat_size, List.length_cons, List.length_nil, List.length_append]; omega)) rfl rfl ?_
  refine M0 (q_assignC rfl rfl rfl) rfl rfl ?_; refine L_nil ?_; refine T_n ?_; refine A_ret ?_; refine F_r ?_
  exact E_tmp rfl rfl (W_end [] (by decide) rfl rfl (S_eq (by
    rw [sealText, hx, seal4]
    have e3 : x / 16777216 % 256 = x / 16777216 := by omega
    rw [e3])))
end Go.Proofs.Ytkfnaniegldfaaa
