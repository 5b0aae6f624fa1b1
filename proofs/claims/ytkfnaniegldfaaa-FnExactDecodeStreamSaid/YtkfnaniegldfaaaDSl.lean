/-
  What the laws' counting, copying and comparing functions return, over slices.
  Conditions: at most 2^20 of everything.
-/
import Derived.Test.YtkfnaniegldfaaaDFacts
import Derived.Test.YtkfnaniegldfaaaDEnc
set_option linter.unusedSimpArgs false
set_option linter.unusedVariables false
namespace Go.Proofs.Ytkfnaniegldfaaa
open Go.RowKit

theorem I_eq {a b : Int} (h : a = b) : I a = I b := by rw [h]
theorem B_eq {a b : Bool} (h : a = b) : B a = B b := by rw [h]
def szr (n : Nat) (left : Int) : Int := if left < n then -1 else left - n
theorem szr_neg {n : Nat} {left : Int} (h : left < n) : szr n left = -1 := if_pos h
theorem szr_pos {n : Nat} {left : Int} (h : (n : Int) ≤ left) : szr n left = left - n := if_neg (by omega)
theorem wts_int : ∀ xs : List Int, wts xs = 0
  | [] => rfl
  | x :: xs => by simp [wts, wts_int xs, Enc.wt]
theorem eq_ne {α : Type} [DecidableEq α] {xs ys : List α} {j : Nat} (h1 : j < xs.length) (h2 : j < ys.length) (h : ¬ xs[j] = ys[j]) : decide (xs = ys) = false := by
  rw [decide_eq_false_iff_not]
  intro e
  subst e
  exact h rfl
theorem eq_all {α : Type} [DecidableEq α] {xs ys : List α} {j : Nat} (h1 : xs.length ≤ j) (h2 : xs.length = ys.length) (h : xs.take j = ys.take j) : decide (xs = ys) = true := by
  rw [List.take_of_length_le h1, List.take_of_length_le (by omega)] at h
  simp [h]
theorem eq_len {α : Type} [DecidableEq α] {xs ys : List α} (h : xs.length ≠ ys.length) : decide (xs = ys) = false := by
  rw [decide_eq_false_iff_not]
  intro e
  subst e
  exact h rfl
theorem eq_next {α : Type} {xs ys : List α} {j : Nat} (h1 : j < xs.length) (h2 : j < ys.length) (h : xs.take j = ys.take j) (e : xs[j] = ys[j]) : xs.take (j + 1) = ys.take (j + 1) := by
  rw [List.take_succ_eq_append_getElem h1, List.take_succ_eq_append_getElem h2, h, e]

/-! ### Counting -/
set_option maxHeartbeats 8000000 in
theorem sz_IntS (xs : List Int) (left : Int) (hg : Enc.gd xs) (h0 : 0 ≤ left) (h1 : left ≤ 1048576) : Con Try.prog 89 [] [al xs, ai left] [] (I (szr (Enc.wt xs) left)) := by
  have hlen := els_len xs
  have hx := hg.1
  have hw : Enc.wt xs = xs.length := by simp [Enc.wt, wts_int]
  refine Con.of Try.func89 rfl Try.ntmps89 rfl (fun E => ?_)
  refine A_seq ?_; refine A_region ?_; refine M0 (q_assignC rfl rfl rfl) rfl rfl ?_; refine L_nil ?_; refine T_n ?_; refine A_seq ?_; refine A_region ?_; refine M0 (q_moveC rfl rfl rfl) rfl rfl ?_
  refine M0 (q_moveC rfl rfl rfl) rfl rfl ?_; refine M0 (q_len rfl rfl rfl) rfl rfl ?_; refine M0 (q_sub rfl rfl rfl rfl (by omega)) rfl rfl ?_
  refine M0 (q_assignC rfl rfl rfl) rfl rfl ?_; refine L_nil ?_; refine T_n ?_; refine A_seq ?_; refine A_seq ?_; refine A_region ?_; refine M0 (q_moveC rfl rfl rfl) rfl rfl ?_
  refine M0 (q_lss rfl rfl rfl rfl) rfl rfl ?_; refine L_nil ?_; refine T_n ?_
  refine A_cond rfl (fun h => ?_) (fun h => ?_)
  · refine A_seq ?_; refine A_region ?_; refine M0 (q_assignC rfl rfl rfl) rfl rfl ?_; refine L_nil ?_; refine T_n ?_; refine A_ret ?_; refine T_r ?_; refine F_r ?_
    have h2 := of_decide_eq_true (p := _) (by simpa using h)
    exact E_tmp rfl rfl (W_end [] (by decide) rfl rfl (I_eq (by rw [szr_neg (by omega)])))
  · refine A_skip ?_; refine T_n ?_; refine A_seq ?_; refine A_region ?_; refine M0 (q_moveC rfl rfl rfl) rfl rfl ?_; refine M0 (q_assignC rfl rfl rfl) rfl rfl ?_; refine L_nil ?_; refine T_n ?_
    refine A_ret ?_; refine F_r ?_
    have h2 := of_decide_eq_false h
    exact E_tmp rfl rfl (W_end [] (by decide) rfl rfl (I_eq (by rw [szr_pos (by omega)]; omega)))
set_option maxHeartbeats 1000000 in
theorem sz_StringS (xs : List ByteArray) (left : Int) (hg : Enc.gd xs) (h0 : 0 ≤ left) (h1 : left ≤ 1048576) : Con Try.prog 40 [] [al xs, ai left] [] (I (szr (Enc.wt xs) left)) := by
  have hlen := els_len xs
  have hx := hg.1
  have hw : Enc.wt xs = xs.length + wts xs := rfl
  refine Con.of Try.func40 rfl Try.ntmps40 rfl (fun E => ?_)
  refine A_seq ?_; refine A_region ?_; refine M0 (q_assignC rfl rfl rfl) rfl rfl ?_; refine L_nil ?_; refine T_n ?_; refine A_seq ?_; refine A_region ?_; refine M0 (q_moveC rfl rfl rfl) rfl rfl ?_
  refine M0 (q_moveC rfl rfl rfl) rfl rfl ?_; refine M0 (q_len rfl rfl rfl) rfl rfl ?_; refine M0 (q_sub rfl rfl rfl rfl (by omega)) rfl rfl ?_
  refine M0 (q_assignC rfl rfl rfl) rfl rfl ?_; refine L_nil ?_; refine T_n ?_; refine A_seq ?_; refine A_seq ?_; refine A_region ?_; refine M0 (q_moveC rfl rfl rfl) rfl rfl ?_
  refine M0 (q_lss rfl rfl rfl rfl) rfl rfl ?_; refine L_nil ?_; refine T_n ?_
  refine A_cond rfl (fun h => ?_) (fun h => ?_)
  · refine A_seq ?_; refine A_region ?_; refine M0 (q_assignC rfl rfl rfl) rfl rfl ?_; refine L_nil ?_; refine T_n ?_; refine A_ret ?_; refine T_r ?_; refine F_r ?_
    have h2 := of_decide_eq_true h
    exact E_tmp rfl rfl (W_end [] (by decide) rfl rfl (I_eq (by rw [szr_neg (by omega)])))
  have h2 : ¬ (left - ((els xs).length : Int) < 0) := of_decide_eq_false h
  refine A_skip ?_; refine T_n ?_; refine A_seq ?_; refine A_seq ?_; refine A_region ?_; refine M0 (q_assignC rfl rfl rfl) rfl rfl ?_; refine L_nil ?_; refine T_n ?_; refine A_block ?_
  refine A_loop (fun m st => ∃ k : Nat, k + m = xs.length ∧ (((xs.length : Int) + wts (xs.take k) ≤ left)) ∧ st = (fun k : Nat => (⟨_, [(0, L xs), (1, I (left - (xs.length + wts (xs.take k)))), (5, I k)], []⟩ : St)) k) (xs.length) ⟨(fun k : Nat => (⟨_, [(0, L xs), (1, I (left - (xs.length + wts (xs.take k)))), (5, I k)], []⟩ : St)) 0, W_go [] (by decide) rfl (rfl) (.cons rfl (.cons (I_eq (by simp [els, wts])) (.cons rfl (.nil)))), 0, by omega, by simp [wts]; omega, rfl⟩ ?_
  rintro m_A _ ⟨k, hk_A, hp_A, rfl⟩
  refine A_seq ?_; refine A_seq ?_; refine A_region ?_; refine M0 (q_moveC rfl rfl rfl) rfl rfl ?_; refine M0 (q_moveC rfl rfl rfl) rfl rfl ?_; refine M0 (q_len rfl rfl rfl) rfl rfl ?_
  refine M0 (q_lss rfl rfl rfl rfl) rfl rfl ?_; refine L_nil ?_; refine T_n ?_
  refine A_cond rfl (fun h => ?_) (fun h => ?_)
  · have h3 : k < xs.length := by have := of_decide_eq_true h; omega
    have hat := els_at h3
    have hstep := wts_take xs k h3
    have hle := wts_take_le xs (k + 1)
    have hws : Enc.wt xs[k] = xs[k].size := rfl
    have hgd : xs[k].size ≤ 9223372036854775807 := hg.2 _ (List.getElem_mem h3)
    by_cases h4 : left - ((xs.length : Int) + wts (xs.take k)) - xs[k].size < 0
    · have hb : decide (left - ((xs.length : Int) + wts (xs.take k)) - xs[k].size < 0) = true := decide_eq_true h4
      refine A_skip ?_; refine T_n ?_; refine A_seq ?_; refine A_block ?_; refine A_seq ?_; refine A_region ?_; refine M0 (q_moveC rfl rfl rfl) rfl rfl ?_; refine M0 (q_moveC rfl rfl rfl) rfl rfl ?_
      refine M0 (q_moveC rfl rfl rfl) rfl rfl ?_; refine M0 (q_at rfl rfl rfl rfl (by omega) (by assumption) rfl) rfl rfl ?_; refine M0 (q_lr1 rfl rfl rfl rfl) rfl rfl ?_
      refine M0 (q_lens rfl rfl rfl) rfl rfl ?_; refine M0 (q_sub rfl rfl rfl rfl (by omega)) rfl rfl ?_; refine M0 (q_assignC rfl rfl rfl) rfl rfl ?_; refine L_nil ?_; refine T_n ?_
      refine A_seq ?_; refine A_region ?_; refine M0 (q_moveC rfl rfl rfl) rfl rfl ?_; refine M0 (q_lssK rfl rfl rfl rfl (by assumption)) rfl rfl ?_; refine L_nil ?_; refine T_n ?_
      refine A_ifT rfl ?_; refine A_seq ?_; refine A_region ?_; refine M0 (q_assignC rfl rfl rfl) rfl rfl ?_; refine L_nil ?_; refine T_n ?_; refine A_ret ?_; refine B_r ?_; refine T_r ?_; refine T_r ?_
      refine B_r ?_; refine T_r ?_; refine F_r ?_
      exact E_tmp rfl rfl (W_end [] (by decide) rfl rfl (I_eq (by rw [szr_neg (by omega)])))
    · have hb : decide (left - ((xs.length : Int) + wts (xs.take k)) - xs[k].size < 0) = false := decide_eq_false h4
      refine A_skip ?_; refine T_n ?_; refine A_seq ?_; refine A_block ?_; refine A_seq ?_; refine A_region ?_; refine M0 (q_moveC rfl rfl rfl) rfl rfl ?_; refine M0 (q_moveC rfl rfl rfl) rfl rfl ?_
      refine M0 (q_moveC rfl rfl rfl) rfl rfl ?_; refine M0 (q_at rfl rfl rfl rfl (by omega) (by assumption) rfl) rfl rfl ?_; refine M0 (q_lr1 rfl rfl rfl rfl) rfl rfl ?_
      refine M0 (q_lens rfl rfl rfl) rfl rfl ?_; refine M0 (q_sub rfl rfl rfl rfl (by omega)) rfl rfl ?_; refine M0 (q_assignC rfl rfl rfl) rfl rfl ?_; refine L_nil ?_; refine T_n ?_
      refine A_seq ?_; refine A_region ?_; refine M0 (q_moveC rfl rfl rfl) rfl rfl ?_; refine M0 (q_lssK rfl rfl rfl rfl (by assumption)) rfl rfl ?_; refine L_nil ?_; refine T_n ?_
      refine A_ifF rfl ?_; refine A_skip ?_; refine B_n ?_; refine T_n ?_; refine A_region ?_; refine M0 (q_moveC rfl rfl rfl) rfl rfl ?_; refine M0 (q_add rfl rfl rfl rfl (by omega)) rfl rfl ?_
      refine M0 (q_assignC rfl rfl rfl) rfl rfl ?_; refine L_nil ?_; refine T_n ?_
      exact ⟨xs.length - (k + 1), by omega, (fun k : Nat => (⟨_, [(0, L xs), (1, I (left - (xs.length + wts (xs.take k)))), (5, I k)], []⟩ : St)) (k + 1), W_go [] (by decide) rfl (rfl) (.cons rfl (.cons (I_eq (by rw [hstep]; omega)) (.cons rfl (.nil)))), k + 1, by omega, by omega, rfl⟩
  · have h3 : ¬ ((k : Int) < (els xs).length) := of_decide_eq_false h
    have hk : wts (xs.take k) = wts xs := by rw [List.take_of_length_le (by omega)]
    refine A_exit ?_; refine T_x ?_; refine T_x ?_; refine B_xs ?_; refine T_n ?_; refine A_seq ?_; refine A_region ?_; refine M0 (q_moveC rfl rfl rfl) rfl rfl ?_
    refine M0 (q_assignC rfl rfl rfl) rfl rfl ?_; refine L_nil ?_; refine T_n ?_; refine A_ret ?_; refine F_r ?_
    exact E_tmp rfl rfl (W_end [] (by decide) rfl rfl (I_eq (by rw [szr_pos (by omega)]; omega)))
set_option maxHeartbeats 1000000 in
theorem sz_IntSS (xs : List (List Int)) (left : Int) (hg : Enc.gd xs) (h0 : 0 ≤ left) (h1 : left ≤ 1048576) : Con Try.prog 39 [] [al xs, ai left] [] (I (szr (Enc.wt xs) left)) := by
  have hlen := els_len xs
  have hx := hg.1
  have hw : Enc.wt xs = xs.length + wts xs := rfl
  refine Con.of Try.func39 rfl Try.ntmps39 rfl (fun E => ?_)
  refine A_seq ?_; refine A_region ?_; refine M0 (q_assignC rfl rfl rfl) rfl rfl ?_; refine L_nil ?_; refine T_n ?_; refine A_seq ?_; refine A_region ?_; refine M0 (q_moveC rfl rfl rfl) rfl rfl ?_
  refine M0 (q_moveC rfl rfl rfl) rfl rfl ?_; refine M0 (q_len rfl rfl rfl) rfl rfl ?_; refine M0 (q_sub rfl rfl rfl rfl (by omega)) rfl rfl ?_
  refine M0 (q_assignC rfl rfl rfl) rfl rfl ?_; refine L_nil ?_; refine T_n ?_; refine A_seq ?_; refine A_seq ?_; refine A_region ?_; refine M0 (q_moveC rfl rfl rfl) rfl rfl ?_
  refine M0 (q_lss rfl rfl rfl rfl) rfl rfl ?_; refine L_nil ?_; refine T_n ?_
  refine A_cond rfl (fun h => ?_) (fun h => ?_)
  · refine A_seq ?_; refine A_region ?_; refine M0 (q_assignC rfl rfl rfl) rfl rfl ?_; refine L_nil ?_; refine T_n ?_; refine A_ret ?_; refine T_r ?_; refine F_r ?_
    have h2 := of_decide_eq_true h
    exact E_tmp rfl rfl (W_end [] (by decide) rfl rfl (I_eq (by rw [szr_neg (by omega)])))
  have h2 : ¬ (left - ((els xs).length : Int) < 0) := of_decide_eq_false h
  refine A_skip ?_; refine T_n ?_; refine A_seq ?_; refine A_seq ?_; refine A_region ?_; refine M0 (q_assignC rfl rfl rfl) rfl rfl ?_; refine L_nil ?_; refine T_n ?_; refine A_block ?_
  refine A_loop (fun m st => ∃ k : Nat, k + m = xs.length ∧ (((xs.length : Int) + wts (xs.take k) ≤ left)) ∧ st = (fun k : Nat => (⟨_, [(0, L xs), (1, I (left - (xs.length + wts (xs.take k)))), (5, I k)], []⟩ : St)) k) (xs.length) ⟨(fun k : Nat => (⟨_, [(0, L xs), (1, I (left - (xs.length + wts (xs.take k)))), (5, I k)], []⟩ : St)) 0, W_go [] (by decide) rfl (rfl) (.cons rfl (.cons (I_eq (by simp [els, wts])) (.cons rfl (.nil)))), 0, by omega, by simp [wts]; omega, rfl⟩ ?_
  rintro m_A _ ⟨k, hk_A, hp_A, rfl⟩
  refine A_seq ?_; refine A_seq ?_; refine A_region ?_; refine M0 (q_moveC rfl rfl rfl) rfl rfl ?_; refine M0 (q_moveC rfl rfl rfl) rfl rfl ?_; refine M0 (q_len rfl rfl rfl) rfl rfl ?_
  refine M0 (q_lss rfl rfl rfl rfl) rfl rfl ?_; refine L_nil ?_; refine T_n ?_
  refine A_cond rfl (fun h => ?_) (fun h => ?_)
  · have h3 : k < xs.length := by have := of_decide_eq_true h; omega
    have hat := els_at h3
    have hstep := wts_take xs k h3
    have hle := wts_take_le xs (k + 1)
    have hc := sz_IntS xs[k] (left - ((xs.length : Int) + wts (xs.take k))) (hg.2 _ (List.getElem_mem h3)) (by omega) (by omega)
    by_cases h4 : left - ((xs.length : Int) + wts (xs.take k)) < Enc.wt xs[k]
    · rw [szr_neg h4] at hc
      have hb : decide ((-1 : Int) < 0) = true := rfl
      refine A_skip ?_; refine T_n ?_; refine A_seq ?_; refine A_block ?_; refine A_seq ?_; refine A_region ?_; refine M0 (q_moveC rfl rfl rfl) rfl rfl ?_; refine M0 (q_moveC rfl rfl rfl) rfl rfl ?_
      refine M0 (q_at rfl rfl rfl rfl (by omega) (by assumption) rfl) rfl rfl ?_; refine M0 (q_lr1 rfl rfl rfl rfl) rfl rfl ?_; refine M0 (q_moveC rfl rfl rfl) rfl rfl ?_
      refine M0 (q_call0 rfl rfl (hc) rfl) rfl rfl ?_; refine M0 (q_assignC rfl rfl rfl) rfl rfl ?_; refine L_nil ?_; refine T_n ?_; refine A_seq ?_; refine A_region ?_
      refine M0 (q_moveC rfl rfl rfl) rfl rfl ?_; refine M0 (q_lssK rfl rfl rfl rfl (by assumption)) rfl rfl ?_; refine L_nil ?_; refine T_n ?_; refine A_ifT rfl ?_; refine A_seq ?_
      refine A_region ?_; refine M0 (q_assignC rfl rfl rfl) rfl rfl ?_; refine L_nil ?_; refine T_n ?_; refine A_ret ?_; refine B_r ?_; refine T_r ?_; refine T_r ?_; refine B_r ?_; refine T_r ?_
      refine F_r ?_
      exact E_tmp rfl rfl (W_end [] (by decide) rfl rfl (I_eq (by rw [szr_neg (by omega)])))
    · rw [szr_pos (by omega)] at hc
      have hb : decide (left - ((xs.length : Int) + wts (xs.take k)) - Enc.wt xs[k] < 0) = false := decide_eq_false (by omega)
      refine A_skip ?_; refine T_n ?_; refine A_seq ?_; refine A_block ?_; refine A_seq ?_; refine A_region ?_; refine M0 (q_moveC rfl rfl rfl) rfl rfl ?_; refine M0 (q_moveC rfl rfl rfl) rfl rfl ?_
      refine M0 (q_at rfl rfl rfl rfl (by omega) (by assumption) rfl) rfl rfl ?_; refine M0 (q_lr1 rfl rfl rfl rfl) rfl rfl ?_; refine M0 (q_moveC rfl rfl rfl) rfl rfl ?_
      refine M0 (q_call0 rfl rfl (hc) rfl) rfl rfl ?_; refine M0 (q_assignC rfl rfl rfl) rfl rfl ?_; refine L_nil ?_; refine T_n ?_; refine A_seq ?_; refine A_region ?_
      refine M0 (q_moveC rfl rfl rfl) rfl rfl ?_; refine M0 (q_lssK rfl rfl rfl rfl (by assumption)) rfl rfl ?_; refine L_nil ?_; refine T_n ?_; refine A_ifF rfl ?_; refine A_skip ?_; refine B_n ?_
      refine T_n ?_; refine A_region ?_; refine M0 (q_moveC rfl rfl rfl) rfl rfl ?_; refine M0 (q_add rfl rfl rfl rfl (by omega)) rfl rfl ?_; refine M0 (q_assignC rfl rfl rfl) rfl rfl ?_
      refine L_nil ?_; refine T_n ?_
      exact ⟨xs.length - (k + 1), by omega, (fun k : Nat => (⟨_, [(0, L xs), (1, I (left - (xs.length + wts (xs.take k)))), (5, I k)], []⟩ : St)) (k + 1), W_go [] (by decide) rfl (rfl) (.cons rfl (.cons (I_eq (by rw [hstep]; omega)) (.cons rfl (.nil)))), k + 1, by omega, by omega, rfl⟩
  · have h3 : ¬ ((k : Int) < (els xs).length) := of_decide_eq_false h
    have hk : wts (xs.take k) = wts xs := by rw [List.take_of_length_le (by omega)]
    refine A_exit ?_; refine T_x ?_; refine T_x ?_; refine B_xs ?_; refine T_n ?_; refine A_seq ?_; refine A_region ?_; refine M0 (q_moveC rfl rfl rfl) rfl rfl ?_
    refine M0 (q_assignC rfl rfl rfl) rfl rfl ?_; refine L_nil ?_; refine T_n ?_; refine A_ret ?_; refine F_r ?_
    exact E_tmp rfl rfl (W_end [] (by decide) rfl rfl (I_eq (by rw [szr_pos (by omega)]; omega)))

/-! ### Copying -/
/-- The first k copied, the others still zero. -/
def part {α : Type} [Enc α] (xs : List α) (z : List T) (k : Nat) : List (List T) := els (xs.take k) ++ List.replicate (xs.length - k) z
theorem part_len {α : Type} [Enc α] (xs : List α) (z : List T) {k : Nat} (h : k ≤ xs.length) : (part xs z k).length = xs.length := by simp [part, els]; omega
theorem part_zero {α : Type} [Enc α] (xs : List α) (z : List T) : part xs z 0 = List.replicate (((els xs).length : Int)).toNat z := by simp [part, els]
theorem part_all {α : Type} [Enc α] (xs : List α) (z : List T) {k : Nat} (h : xs.length ≤ k) : part xs z k = els xs := by
  unfold part
  rw [List.take_of_length_le h, show xs.length - k = 0 by omega]
  simp
theorem part_at {α : Type} [Enc α] (xs : List α) (z : List T) {k : Nat} (h : k < xs.length) : (part xs z k)[(k : Int).toNat]? = some z := by
  have h1 : (els (xs.take k)).length = k := by simp [els]; omega
  unfold part
  rw [Int.toNat_natCast, List.getElem?_append_right (by omega), h1, Nat.sub_self, List.getElem?_replicate, if_pos (by omega)]
theorem part_set {α : Type} [Enc α] (xs : List α) (z : List T) {k : Nat} (h : k < xs.length) (ts : List T) (ht : ts = Enc.e xs[k]) (hz : z.length = ts.length) : (part xs z k).set (k : Int).toNat (splice z 0 ts) = part xs z (k + 1) := by
  have h1 : (els (xs.take k)).length = k := by simp [els]; omega
  have h2 : splice z 0 ts = ts := by simp [splice, hz]
  subst ht
  unfold part
  rw [h2, Int.toNat_natCast, List.set_append_right _ _ (by omega), h1, Nat.sub_self, show xs.length - k = (xs.length - (k + 1)) + 1 by omega, List.replicate_succ, List.set_cons_zero]
  have h3 : els (xs.take (k + 1)) = els (xs.take k) ++ [Enc.e xs[k]] := by
    rw [List.take_succ_eq_append_getElem h]
    simp only [els, List.map_append, List.map_cons, List.map_nil]
  rw [h3, List.append_assoc]
  rfl
theorem row_eq {k : Nat} {a b : List (List T)} (h : a = b) : [Ob.row k a] = [Ob.row k b] := by rw [h]

set_option maxHeartbeats 1000000 in
theorem to_IntS (xs : List Int) (hg : Enc.wt xs ≤ 1048576) : Con Try.prog 93 [] [al xs] [.row (Enc.k Int) (els xs)] (.o (.c (.ref 0))) := by
  have hlen := els_len xs
  have hw : Enc.wt xs = xs.length + wts xs := rfl
  refine Con.of Try.func93 rfl Try.ntmps93 rfl (fun E => ?_)
  refine A_seq ?_; refine A_region ?_; refine M0 (q_assignC rfl rfl rfl) rfl rfl ?_; refine L_nil ?_; refine T_n ?_; refine A_seq ?_; refine A_region ?_; refine M0 (q_moveC rfl rfl rfl) rfl rfl ?_
  refine M0 (q_len rfl rfl rfl) rfl rfl ?_; refine M1 (q_make 0 rfl rfl rfl rfl (by omega) (by omega) (by omega) rfl (by decide)) rfl rfl ?_; refine M0 (q_assignC rfl rfl rfl) rfl rfl ?_
  refine L_nil ?_; refine T_n ?_; refine A_seq ?_; refine A_seq ?_; refine A_region ?_; refine M0 (q_assignC rfl rfl rfl) rfl rfl ?_; refine L_nil ?_; refine T_n ?_; refine A_block ?_
  refine A_loop (fun m st => ∃ k : Nat, k + m = xs.length ∧ (True) ∧ st = (fun k : Nat => (⟨_, [(0, L xs), (3, .o (.c (.ref 0))), (4, I k)], [.row 1 (part xs [(.v (.int .i64 0))] k)]⟩ : St)) k) (xs.length) ⟨(fun k : Nat => (⟨_, [(0, L xs), (3, .o (.c (.ref 0))), (4, I k)], [.row 1 (part xs [(.v (.int .i64 0))] k)]⟩ : St)) 0, W_go [0] (by decide) rfl (row_eq (part_zero xs _)) (.cons rfl (.cons rfl (.cons rfl (.nil)))), 0, by omega, trivial, rfl⟩ ?_
  rintro m_A _ ⟨k, hk_A, hp_A, rfl⟩
  refine A_seq ?_; refine A_seq ?_; refine A_region ?_; refine M0 (q_moveC rfl rfl rfl) rfl rfl ?_; refine M0 (q_moveC rfl rfl rfl) rfl rfl ?_; refine M0 (q_len rfl rfl rfl) rfl rfl ?_
  refine M0 (q_lss rfl rfl rfl rfl) rfl rfl ?_; refine L_nil ?_; refine T_n ?_
  refine A_cond rfl (fun h => ?_) (fun h => ?_)
  · have h3 : k < xs.length := by have := of_decide_eq_true h; omega
    have hat := els_at h3
    have hz := part_at xs [(.v (.int .i64 0))] h3
    have hpl : (k : Int) < (part xs [(.v (.int .i64 0))] k).length := by rw [part_len xs _ (by omega)]; omega
    have hwt : Enc.wt xs[k] ≤ wts xs := wts_le xs _ (List.getElem_mem h3)
    refine A_skip ?_; refine T_n ?_; refine A_seq ?_; refine A_block ?_; refine A_region ?_; refine M0 (q_moveC rfl rfl rfl) rfl rfl ?_; refine M0 (q_moveC rfl rfl rfl) rfl rfl ?_
    refine M0 (q_moveC rfl rfl rfl) rfl rfl ?_; refine M0 (q_moveC rfl rfl rfl) rfl rfl ?_; refine M0 (q_at rfl rfl rfl rfl (by omega) (by assumption) rfl) rfl rfl ?_
    refine M0 (q_lr1 rfl rfl rfl rfl) rfl rfl ?_; refine M0 (q_ar rfl rfl rfl rfl rfl (by omega) (by assumption)) rfl rfl ?_
    refine M_ste1 rfl rfl rfl rfl rfl rfl rfl rfl rfl (by assumption) rfl rfl ?_; refine L_nil ?_; refine B_n ?_; refine T_n ?_; refine A_region ?_; refine M0 (q_moveC rfl rfl rfl) rfl rfl ?_
    refine M0 (q_add rfl rfl rfl rfl (by omega)) rfl rfl ?_; refine M0 (q_assignC rfl rfl rfl) rfl rfl ?_; refine L_nil ?_; refine T_n ?_
    exact ⟨xs.length - (k + 1), by omega, (fun k : Nat => (⟨_, [(0, L xs), (3, .o (.c (.ref 0))), (4, I k)], [.row 1 (part xs [(.v (.int .i64 0))] k)]⟩ : St)) (k + 1), W_go [0] (by decide) rfl (row_eq (part_set xs [(.v (.int .i64 0))] h3 _ (by rfl) (by rfl)).symm) (.cons rfl (.cons rfl (.cons rfl (.nil)))), k + 1, by omega, trivial, rfl⟩
  · have h3 : ¬ ((k : Int) < (els xs).length) := of_decide_eq_false h
    refine A_exit ?_; refine T_x ?_; refine T_x ?_; refine B_xs ?_; refine T_n ?_; refine A_seq ?_; refine A_region ?_; refine M0 (q_moveC rfl rfl rfl) rfl rfl ?_
    refine M0 (q_assignC rfl rfl rfl) rfl rfl ?_; refine L_nil ?_; refine T_n ?_; refine A_ret ?_; refine F_r ?_
    exact E_tmp rfl rfl (W_end [0] (by decide) rfl (row_eq (part_all xs _ (by omega)).symm) rfl)
set_option maxHeartbeats 1000000 in
theorem to_StringS (xs : List ByteArray) (hg : Enc.wt xs ≤ 1048576) : Con Try.prog 45 [] [al xs] [.row (Enc.k ByteArray) (els xs)] (.o (.c (.ref 0))) := by
  have hlen := els_len xs
  have hw : Enc.wt xs = xs.length + wts xs := rfl
  refine Con.of Try.func45 rfl Try.ntmps45 rfl (fun E => ?_)
  refine A_seq ?_; refine A_region ?_; refine M0 (q_assignC rfl rfl rfl) rfl rfl ?_; refine L_nil ?_; refine T_n ?_; refine A_seq ?_; refine A_region ?_; refine M0 (q_moveC rfl rfl rfl) rfl rfl ?_
  refine M0 (q_len rfl rfl rfl) rfl rfl ?_; refine M1 (q_make 0 rfl rfl rfl rfl (by omega) (by omega) (by omega) rfl (by decide)) rfl rfl ?_; refine M0 (q_assignC rfl rfl rfl) rfl rfl ?_
  refine L_nil ?_; refine T_n ?_; refine A_seq ?_; refine A_seq ?_; refine A_region ?_; refine M0 (q_assignC rfl rfl rfl) rfl rfl ?_; refine L_nil ?_; refine T_n ?_; refine A_block ?_
  refine A_loop (fun m st => ∃ k : Nat, k + m = xs.length ∧ (True) ∧ st = (fun k : Nat => (⟨_, [(0, L xs), (3, .o (.c (.ref 0))), (4, I k)], [.row 1 (part xs [(.v (.string ⟨#[]⟩))] k)]⟩ : St)) k) (xs.length) ⟨(fun k : Nat => (⟨_, [(0, L xs), (3, .o (.c (.ref 0))), (4, I k)], [.row 1 (part xs [(.v (.string ⟨#[]⟩))] k)]⟩ : St)) 0, W_go [0] (by decide) rfl (row_eq (part_zero xs _)) (.cons rfl (.cons rfl (.cons rfl (.nil)))), 0, by omega, trivial, rfl⟩ ?_
  rintro m_A _ ⟨k, hk_A, hp_A, rfl⟩
  refine A_seq ?_; refine A_seq ?_; refine A_region ?_; refine M0 (q_moveC rfl rfl rfl) rfl rfl ?_; refine M0 (q_moveC rfl rfl rfl) rfl rfl ?_; refine M0 (q_len rfl rfl rfl) rfl rfl ?_
  refine M0 (q_lss rfl rfl rfl rfl) rfl rfl ?_; refine L_nil ?_; refine T_n ?_
  refine A_cond rfl (fun h => ?_) (fun h => ?_)
  · have h3 : k < xs.length := by have := of_decide_eq_true h; omega
    have hat := els_at h3
    have hz := part_at xs [(.v (.string ⟨#[]⟩))] h3
    have hpl : (k : Int) < (part xs [(.v (.string ⟨#[]⟩))] k).length := by rw [part_len xs _ (by omega)]; omega
    have hwt : Enc.wt xs[k] ≤ wts xs := wts_le xs _ (List.getElem_mem h3)
    refine A_skip ?_; refine T_n ?_; refine A_seq ?_; refine A_block ?_; refine A_region ?_; refine M0 (q_moveC rfl rfl rfl) rfl rfl ?_; refine M0 (q_moveC rfl rfl rfl) rfl rfl ?_
    refine M0 (q_moveC rfl rfl rfl) rfl rfl ?_; refine M0 (q_moveC rfl rfl rfl) rfl rfl ?_; refine M0 (q_at rfl rfl rfl rfl (by omega) (by assumption) rfl) rfl rfl ?_
    refine M0 (q_lr1 rfl rfl rfl rfl) rfl rfl ?_; refine M0 (q_ar rfl rfl rfl rfl rfl (by omega) (by assumption)) rfl rfl ?_
    refine M_ste1 rfl rfl rfl rfl rfl rfl rfl rfl rfl (by assumption) rfl rfl ?_; refine L_nil ?_; refine B_n ?_; refine T_n ?_; refine A_region ?_; refine M0 (q_moveC rfl rfl rfl) rfl rfl ?_
    refine M0 (q_add rfl rfl rfl rfl (by omega)) rfl rfl ?_; refine M0 (q_assignC rfl rfl rfl) rfl rfl ?_; refine L_nil ?_; refine T_n ?_
    exact ⟨xs.length - (k + 1), by omega, (fun k : Nat => (⟨_, [(0, L xs), (3, .o (.c (.ref 0))), (4, I k)], [.row 1 (part xs [(.v (.string ⟨#[]⟩))] k)]⟩ : St)) (k + 1), W_go [0] (by decide) rfl (row_eq (part_set xs [(.v (.string ⟨#[]⟩))] h3 _ (by rfl) (by rfl)).symm) (.cons rfl (.cons rfl (.cons rfl (.nil)))), k + 1, by omega, trivial, rfl⟩
  · have h3 : ¬ ((k : Int) < (els xs).length) := of_decide_eq_false h
    refine A_exit ?_; refine T_x ?_; refine T_x ?_; refine B_xs ?_; refine T_n ?_; refine A_seq ?_; refine A_region ?_; refine M0 (q_moveC rfl rfl rfl) rfl rfl ?_
    refine M0 (q_assignC rfl rfl rfl) rfl rfl ?_; refine L_nil ?_; refine T_n ?_; refine A_ret ?_; refine F_r ?_
    exact E_tmp rfl rfl (W_end [0] (by decide) rfl (row_eq (part_all xs _ (by omega)).symm) rfl)
set_option maxHeartbeats 1000000 in
theorem to_IntSS (xs : List (List Int)) (hg : Enc.wt xs ≤ 1048576) : Con Try.prog 44 [] [al xs] [.row (Enc.k (List Int)) (els xs)] (.o (.c (.ref 0))) := by
  have hlen := els_len xs
  have hw : Enc.wt xs = xs.length + wts xs := rfl
  refine Con.of Try.func44 rfl Try.ntmps44 rfl (fun E => ?_)
  refine A_seq ?_; refine A_region ?_; refine M0 (q_assignC rfl rfl rfl) rfl rfl ?_; refine L_nil ?_; refine T_n ?_; refine A_seq ?_; refine A_region ?_; refine M0 (q_moveC rfl rfl rfl) rfl rfl ?_
  refine M0 (q_len rfl rfl rfl) rfl rfl ?_; refine M1 (q_make 1 rfl rfl rfl rfl (by omega) (by omega) (by omega) rfl (by decide)) rfl rfl ?_; refine M0 (q_assignC rfl rfl rfl) rfl rfl ?_
  refine L_nil ?_; refine T_n ?_; refine A_seq ?_; refine A_seq ?_; refine A_region ?_; refine M0 (q_assignC rfl rfl rfl) rfl rfl ?_; refine L_nil ?_; refine T_n ?_; refine A_block ?_
  refine A_loop (fun m st => ∃ k : Nat, k + m = xs.length ∧ (True) ∧ st = (fun k : Nat => (⟨_, [(0, L xs), (3, .o (.c (.ref 0))), (4, I k)], [.row 1 (part xs [(.sl 1 [])] k)]⟩ : St)) k) (xs.length) ⟨(fun k : Nat => (⟨_, [(0, L xs), (3, .o (.c (.ref 0))), (4, I k)], [.row 1 (part xs [(.sl 1 [])] k)]⟩ : St)) 0, W_go [0] (by decide) rfl (row_eq (part_zero xs _)) (.cons rfl (.cons rfl (.cons rfl (.nil)))), 0, by omega, trivial, rfl⟩ ?_
  rintro m_A _ ⟨k, hk_A, hp_A, rfl⟩
  refine A_seq ?_; refine A_seq ?_; refine A_region ?_; refine M0 (q_moveC rfl rfl rfl) rfl rfl ?_; refine M0 (q_moveC rfl rfl rfl) rfl rfl ?_; refine M0 (q_len rfl rfl rfl) rfl rfl ?_
  refine M0 (q_lss rfl rfl rfl rfl) rfl rfl ?_; refine L_nil ?_; refine T_n ?_
  refine A_cond rfl (fun h => ?_) (fun h => ?_)
  · have h3 : k < xs.length := by have := of_decide_eq_true h; omega
    have hat := els_at h3
    have hz := part_at xs [(.sl 1 [])] h3
    have hpl : (k : Int) < (part xs [(.sl 1 [])] k).length := by rw [part_len xs _ (by omega)]; omega
    have hwt : Enc.wt xs[k] ≤ wts xs := wts_le xs _ (List.getElem_mem h3)
    refine A_skip ?_; refine T_n ?_; refine A_seq ?_; refine A_block ?_; refine A_region ?_; refine M0 (q_moveC rfl rfl rfl) rfl rfl ?_; refine M0 (q_moveC rfl rfl rfl) rfl rfl ?_
    refine M0 (q_moveC rfl rfl rfl) rfl rfl ?_; refine M0 (q_moveC rfl rfl rfl) rfl rfl ?_; refine M0 (q_at rfl rfl rfl rfl (by omega) (by assumption) rfl) rfl rfl ?_
    refine M0 (q_lr1 rfl rfl rfl rfl) rfl rfl ?_; refine M1 (q_call rfl rfl (to_IntS _ (by omega)) rfl rfl rfl) rfl rfl ?_
    refine M0 (q_ar rfl rfl rfl rfl rfl (by omega) (by assumption)) rfl rfl ?_; refine M_ste1 rfl rfl rfl rfl rfl rfl rfl rfl rfl (by assumption) rfl rfl ?_; refine L_nil ?_; refine B_n ?_
    refine T_n ?_; refine A_region ?_; refine M0 (q_moveC rfl rfl rfl) rfl rfl ?_; refine M0 (q_add rfl rfl rfl rfl (by omega)) rfl rfl ?_; refine M0 (q_assignC rfl rfl rfl) rfl rfl ?_
    refine L_nil ?_; refine T_n ?_
    exact ⟨xs.length - (k + 1), by omega, (fun k : Nat => (⟨_, [(0, L xs), (3, .o (.c (.ref 0))), (4, I k)], [.row 1 (part xs [(.sl 1 [])] k)]⟩ : St)) (k + 1), W_go [0] (by decide) rfl (row_eq (part_set xs [(.sl 1 [])] h3 _ (by rfl) (by rfl)).symm) (.cons rfl (.cons rfl (.cons rfl (.nil)))), k + 1, by omega, trivial, rfl⟩
  · have h3 : ¬ ((k : Int) < (els xs).length) := of_decide_eq_false h
    refine A_exit ?_; refine T_x ?_; refine T_x ?_; refine B_xs ?_; refine T_n ?_; refine A_seq ?_; refine A_region ?_; refine M0 (q_moveC rfl rfl rfl) rfl rfl ?_
    refine M0 (q_assignC rfl rfl rfl) rfl rfl ?_; refine L_nil ?_; refine T_n ?_; refine A_ret ?_; refine F_r ?_
    exact E_tmp rfl rfl (W_end [0] (by decide) rfl (row_eq (part_all xs _ (by omega)).symm) rfl)

/-! ### Comparing -/
set_option maxHeartbeats 1000000 in
theorem eq_IntS (xs ys : List Int) (hn : Enc.gd xs) : Con Try.prog 60 [] [al xs, al ys] [] (B (decide (xs = ys))) := by
  have hn1 := hn.1
  have hlx := els_len xs
  have hly := els_len ys
  by_cases hl : xs.length = ys.length
  · have hb : decide (((els xs).length : Int) ≠ ((els ys).length : Int)) = false := by rw [hlx, hly, hl]; simp
    refine Con.of Try.func60 rfl Try.ntmps60 rfl (fun E => ?_)
    refine A_seq ?_; refine A_region ?_; refine M0 (q_assignC rfl rfl rfl) rfl rfl ?_; refine L_nil ?_; refine T_n ?_; refine A_seq ?_; refine A_seq ?_; refine A_region ?_
    refine M0 (q_moveC rfl rfl rfl) rfl rfl ?_; refine M0 (q_len rfl rfl rfl) rfl rfl ?_; refine M0 (q_moveC rfl rfl rfl) rfl rfl ?_; refine M0 (q_len rfl rfl rfl) rfl rfl ?_
    refine M0 (q_neqK rfl rfl rfl rfl (by assumption)) rfl rfl ?_; refine L_nil ?_; refine T_n ?_; refine A_ifF rfl ?_; refine A_skip ?_; refine T_n ?_; refine A_seq ?_; refine A_seq ?_
    refine A_region ?_; refine M0 (q_assignC rfl rfl rfl) rfl rfl ?_; refine L_nil ?_; refine T_n ?_; refine A_block ?_
    refine A_loop (fun m st => ∃ k : Nat, k + m = xs.length ∧ (xs.take k = ys.take k) ∧ st = (fun k : Nat => (⟨_, [(0, L xs), (1, L ys), (5, I k)], []⟩ : St)) k) (xs.length) ⟨(fun k : Nat => (⟨_, [(0, L xs), (1, L ys), (5, I k)], []⟩ : St)) 0, W_go [] (by decide) rfl (rfl) (.cons rfl (.cons rfl (.cons rfl (.nil)))), 0, by omega, by simp, rfl⟩ ?_
    rintro m_A _ ⟨k, hk_A, hp_A, rfl⟩
    refine A_seq ?_; refine A_seq ?_; refine A_region ?_; refine M0 (q_moveC rfl rfl rfl) rfl rfl ?_; refine M0 (q_moveC rfl rfl rfl) rfl rfl ?_; refine M0 (q_len rfl rfl rfl) rfl rfl ?_
    refine M0 (q_lss rfl rfl rfl rfl) rfl rfl ?_; refine L_nil ?_; refine T_n ?_
    refine A_cond rfl (fun h => ?_) (fun h => ?_)
    · have h3 : k < xs.length := by have := of_decide_eq_true h; omega
      have h4 : k < ys.length := by omega
      have hat := els_at h3
      have hat2 := els_at h4
      by_cases he : xs[k] = ys[k]
      · have hk : decide (xs[k] ≠ ys[k]) = false := by simp [he]
        refine A_skip ?_; refine T_n ?_; refine A_seq ?_; refine A_block ?_; refine A_seq ?_
        refine A_draw [[], [], [0, 1], [0, 1, 2], [], [], [4, 5], [4, 5, 6], [0, 1, 2, 3, 4, 5, 6, 7]] [[], [], [17, 18], [17, 18, 19], [], [], [21, 22], [21, 22, 23], [17, 18, 19, 20, 21, 22, 23, 24]] [[18, 21, 22, 23, 24], [17, 21, 22, 23, 24], [21, 22, 23, 24], [21, 22, 23, 24], [17, 18, 19, 20, 22], [17, 18, 19, 20, 21], [17, 18, 19, 20], [17, 18, 19, 20], []] rfl ?_
        refine DR.step (q_moveC rfl rfl rfl) rfl rfl ?_; refine DR.step (q_moveC rfl rfl rfl) rfl rfl ?_; refine DR.step (q_at rfl rfl rfl rfl (by omega) (by assumption) rfl) rfl rfl ?_
        refine DR.step (q_lr1 rfl rfl rfl rfl) rfl rfl ?_; refine DR.step (q_moveC rfl rfl rfl) rfl rfl ?_; refine DR.step (q_moveC rfl rfl rfl) rfl rfl ?_
        refine DR.step (q_at rfl rfl rfl rfl (by omega) (by assumption) rfl) rfl rfl ?_; refine DR.step (q_lr1 rfl rfl rfl rfl) rfl rfl ?_
        refine DR.step (q_neqK rfl rfl rfl rfl (by assumption)) rfl rfl ?_; refine DR.stop (by kernel_rfl) (by kernel_rfl) ?_
        refine L_nil ?_; refine T_n ?_; refine A_ifF rfl ?_; refine A_skip ?_; refine B_n ?_; refine T_n ?_; refine A_region ?_; refine M0 (q_moveC rfl rfl rfl) rfl rfl ?_
        refine M0 (q_add rfl rfl rfl rfl (by omega)) rfl rfl ?_; refine M0 (q_assignC rfl rfl rfl) rfl rfl ?_; refine L_nil ?_; refine T_n ?_
        exact ⟨xs.length - (k + 1), by omega, (fun k : Nat => (⟨_, [(0, L xs), (1, L ys), (5, I k)], []⟩ : St)) (k + 1), W_go [] (by decide) rfl (rfl) (.cons rfl (.cons rfl (.cons rfl (.nil)))), k + 1, by omega, eq_next h3 h4 hp_A he, rfl⟩
      · have hk : decide (xs[k] ≠ ys[k]) = true := by simp [he]
        refine A_skip ?_; refine T_n ?_; refine A_seq ?_; refine A_block ?_; refine A_seq ?_
        refine A_draw [[], [], [0, 1], [0, 1, 2], [], [], [4, 5], [4, 5, 6], [0, 1, 2, 3, 4, 5, 6, 7]] [[], [], [17, 18], [17, 18, 19], [], [], [21, 22], [21, 22, 23], [17, 18, 19, 20, 21, 22, 23, 24]] [[18, 21, 22, 23, 24], [17, 21, 22, 23, 24], [21, 22, 23, 24], [21, 22, 23, 24], [17, 18, 19, 20, 22], [17, 18, 19, 20, 21], [17, 18, 19, 20], [17, 18, 19, 20], []] rfl ?_
        refine DR.step (q_moveC rfl rfl rfl) rfl rfl ?_; refine DR.step (q_moveC rfl rfl rfl) rfl rfl ?_; refine DR.step (q_at rfl rfl rfl rfl (by omega) (by assumption) rfl) rfl rfl ?_
        refine DR.step (q_lr1 rfl rfl rfl rfl) rfl rfl ?_; refine DR.step (q_moveC rfl rfl rfl) rfl rfl ?_; refine DR.step (q_moveC rfl rfl rfl) rfl rfl ?_
        refine DR.step (q_at rfl rfl rfl rfl (by omega) (by assumption) rfl) rfl rfl ?_; refine DR.step (q_lr1 rfl rfl rfl rfl) rfl rfl ?_
        refine DR.step (q_neqK rfl rfl rfl rfl (by assumption)) rfl rfl ?_; refine DR.stop (by kernel_rfl) (by kernel_rfl) ?_
        refine L_nil ?_; refine T_n ?_; refine A_ifT rfl ?_; refine A_seq ?_; refine A_region ?_; refine M0 (q_assignC rfl rfl rfl) rfl rfl ?_; refine L_nil ?_; refine T_n ?_; refine A_ret ?_; refine B_r ?_
        refine T_r ?_; refine T_r ?_; refine B_r ?_; refine T_r ?_; refine F_r ?_
        exact E_tmp rfl rfl (W_end [] (by decide) rfl rfl (B_eq (eq_ne h3 h4 he).symm))
    · have h3 : ¬ ((k : Int) < (els xs).length) := of_decide_eq_false h
      refine A_exit ?_; refine T_x ?_; refine T_x ?_; refine B_xs ?_; refine T_n ?_; refine A_seq ?_; refine A_region ?_; refine M0 (q_assignC rfl rfl rfl) rfl rfl ?_; refine L_nil ?_; refine T_n ?_
      refine A_ret ?_; refine F_r ?_
      exact E_tmp rfl rfl (W_end [] (by decide) rfl rfl (B_eq (eq_all (by omega) hl hp_A).symm))
  · have hb : decide (((els xs).length : Int) ≠ ((els ys).length : Int)) = true := by rw [hlx, hly]; simp; omega
    refine Con.of Try.func60 rfl Try.ntmps60 rfl (fun E => ?_)
    refine A_seq ?_; refine A_region ?_; refine M0 (q_assignC rfl rfl rfl) rfl rfl ?_; refine L_nil ?_; refine T_n ?_; refine A_seq ?_; refine A_seq ?_; refine A_region ?_
    refine M0 (q_moveC rfl rfl rfl) rfl rfl ?_; refine M0 (q_len rfl rfl rfl) rfl rfl ?_; refine M0 (q_moveC rfl rfl rfl) rfl rfl ?_; refine M0 (q_len rfl rfl rfl) rfl rfl ?_
    refine M0 (q_neqK rfl rfl rfl rfl (by assumption)) rfl rfl ?_; refine L_nil ?_; refine T_n ?_; refine A_ifT rfl ?_; refine A_seq ?_; refine A_region ?_
    refine M0 (q_assignC rfl rfl rfl) rfl rfl ?_; refine L_nil ?_; refine T_n ?_; refine A_ret ?_; refine T_r ?_; refine F_r ?_
    exact E_tmp rfl rfl (W_end [] (by decide) rfl rfl (B_eq (eq_len hl).symm))
set_option maxHeartbeats 1000000 in
theorem eq_StringS (xs ys : List ByteArray) (hn : Enc.gd xs) : Con Try.prog 48 [] [al xs, al ys] [] (B (decide (xs = ys))) := by
  have hn1 := hn.1
  have hlx := els_len xs
  have hly := els_len ys
  by_cases hl : xs.length = ys.length
  · have hb : decide (((els xs).length : Int) ≠ ((els ys).length : Int)) = false := by rw [hlx, hly, hl]; simp
    refine Con.of Try.func48 rfl Try.ntmps48 rfl (fun E => ?_)
    refine A_seq ?_; refine A_region ?_; refine M0 (q_assignC rfl rfl rfl) rfl rfl ?_; refine L_nil ?_; refine T_n ?_; refine A_seq ?_; refine A_seq ?_; refine A_region ?_
    refine M0 (q_moveC rfl rfl rfl) rfl rfl ?_; refine M0 (q_len rfl rfl rfl) rfl rfl ?_; refine M0 (q_moveC rfl rfl rfl) rfl rfl ?_; refine M0 (q_len rfl rfl rfl) rfl rfl ?_
    refine M0 (q_neqK rfl rfl rfl rfl (by assumption)) rfl rfl ?_; refine L_nil ?_; refine T_n ?_; refine A_ifF rfl ?_; refine A_skip ?_; refine T_n ?_; refine A_seq ?_; refine A_seq ?_
    refine A_region ?_; refine M0 (q_assignC rfl rfl rfl) rfl rfl ?_; refine L_nil ?_; refine T_n ?_; refine A_block ?_
    refine A_loop (fun m st => ∃ k : Nat, k + m = xs.length ∧ (xs.take k = ys.take k) ∧ st = (fun k : Nat => (⟨_, [(0, L xs), (1, L ys), (5, I k)], []⟩ : St)) k) (xs.length) ⟨(fun k : Nat => (⟨_, [(0, L xs), (1, L ys), (5, I k)], []⟩ : St)) 0, W_go [] (by decide) rfl (rfl) (.cons rfl (.cons rfl (.cons rfl (.nil)))), 0, by omega, by simp, rfl⟩ ?_
    rintro m_A _ ⟨k, hk_A, hp_A, rfl⟩
    refine A_seq ?_; refine A_seq ?_; refine A_region ?_; refine M0 (q_moveC rfl rfl rfl) rfl rfl ?_; refine M0 (q_moveC rfl rfl rfl) rfl rfl ?_; refine M0 (q_len rfl rfl rfl) rfl rfl ?_
    refine M0 (q_lss rfl rfl rfl rfl) rfl rfl ?_; refine L_nil ?_; refine T_n ?_
    refine A_cond rfl (fun h => ?_) (fun h => ?_)
    · have h3 : k < xs.length := by have := of_decide_eq_true h; omega
      have h4 : k < ys.length := by omega
      have hat := els_at h3
      have hat2 := els_at h4
      by_cases he : xs[k] = ys[k]
      · have hk : decide (xs[k] ≠ ys[k]) = false := by simp [he]
        refine A_skip ?_; refine T_n ?_; refine A_seq ?_; refine A_block ?_; refine A_seq ?_
        refine A_draw [[], [], [0, 1], [0, 1, 2], [], [], [4, 5], [4, 5, 6], [0, 1, 2, 3, 4, 5, 6, 7]] [[], [], [17, 18], [17, 18, 19], [], [], [21, 22], [21, 22, 23], [17, 18, 19, 20, 21, 22, 23, 24]] [[18, 21, 22, 23, 24], [17, 21, 22, 23, 24], [21, 22, 23, 24], [21, 22, 23, 24], [17, 18, 19, 20, 22], [17, 18, 19, 20, 21], [17, 18, 19, 20], [17, 18, 19, 20], []] rfl ?_
        refine DR.step (q_moveC rfl rfl rfl) rfl rfl ?_; refine DR.step (q_moveC rfl rfl rfl) rfl rfl ?_; refine DR.step (q_at rfl rfl rfl rfl (by omega) (by assumption) rfl) rfl rfl ?_
        refine DR.step (q_lr1 rfl rfl rfl rfl) rfl rfl ?_; refine DR.step (q_moveC rfl rfl rfl) rfl rfl ?_; refine DR.step (q_moveC rfl rfl rfl) rfl rfl ?_
        refine DR.step (q_at rfl rfl rfl rfl (by omega) (by assumption) rfl) rfl rfl ?_; refine DR.step (q_lr1 rfl rfl rfl rfl) rfl rfl ?_
        refine DR.step (q_sneqK rfl rfl rfl rfl (by assumption)) rfl rfl ?_; refine DR.stop (by kernel_rfl) (by kernel_rfl) ?_
        refine L_nil ?_; refine T_n ?_; refine A_ifF rfl ?_; refine A_skip ?_; refine B_n ?_; refine T_n ?_; refine A_region ?_; refine M0 (q_moveC rfl rfl rfl) rfl rfl ?_
        refine M0 (q_add rfl rfl rfl rfl (by omega)) rfl rfl ?_; refine M0 (q_assignC rfl rfl rfl) rfl rfl ?_; refine L_nil ?_; refine T_n ?_
        exact ⟨xs.length - (k + 1), by omega, (fun k : Nat => (⟨_, [(0, L xs), (1, L ys), (5, I k)], []⟩ : St)) (k + 1), W_go [] (by decide) rfl (rfl) (.cons rfl (.cons rfl (.cons rfl (.nil)))), k + 1, by omega, eq_next h3 h4 hp_A he, rfl⟩
      · have hk : decide (xs[k] ≠ ys[k]) = true := by simp [he]
        refine A_skip ?_; refine T_n ?_; refine A_seq ?_; refine A_block ?_; refine A_seq ?_
        refine A_draw [[], [], [0, 1], [0, 1, 2], [], [], [4, 5], [4, 5, 6], [0, 1, 2, 3, 4, 5, 6, 7]] [[], [], [17, 18], [17, 18, 19], [], [], [21, 22], [21, 22, 23], [17, 18, 19, 20, 21, 22, 23, 24]] [[18, 21, 22, 23, 24], [17, 21, 22, 23, 24], [21, 22, 23, 24], [21, 22, 23, 24], [17, 18, 19, 20, 22], [17, 18, 19, 20, 21], [17, 18, 19, 20], [17, 18, 19, 20], []] rfl ?_
        refine DR.step (q_moveC rfl rfl rfl) rfl rfl ?_; refine DR.step (q_moveC rfl rfl rfl) rfl rfl ?_; refine DR.step (q_at rfl rfl rfl rfl (by omega) (by assumption) rfl) rfl rfl ?_
        refine DR.step (q_lr1 rfl rfl rfl rfl) rfl rfl ?_; refine DR.step (q_moveC rfl rfl rfl) rfl rfl ?_; refine DR.step (q_moveC rfl rfl rfl) rfl rfl ?_
        refine DR.step (q_at rfl rfl rfl rfl (by omega) (by assumption) rfl) rfl rfl ?_; refine DR.step (q_lr1 rfl rfl rfl rfl) rfl rfl ?_
        refine DR.step (q_sneqK rfl rfl rfl rfl (by assumption)) rfl rfl ?_; refine DR.stop (by kernel_rfl) (by kernel_rfl) ?_
        refine L_nil ?_; refine T_n ?_; refine A_ifT rfl ?_; refine A_seq ?_; refine A_region ?_; refine M0 (q_assignC rfl rfl rfl) rfl rfl ?_; refine L_nil ?_; refine T_n ?_; refine A_ret ?_; refine B_r ?_
        refine T_r ?_; refine T_r ?_; refine B_r ?_; refine T_r ?_; refine F_r ?_
        exact E_tmp rfl rfl (W_end [] (by decide) rfl rfl (B_eq (eq_ne h3 h4 he).symm))
    · have h3 : ¬ ((k : Int) < (els xs).length) := of_decide_eq_false h
      refine A_exit ?_; refine T_x ?_; refine T_x ?_; refine B_xs ?_; refine T_n ?_; refine A_seq ?_; refine A_region ?_; refine M0 (q_assignC rfl rfl rfl) rfl rfl ?_; refine L_nil ?_; refine T_n ?_
      refine A_ret ?_; refine F_r ?_
      exact E_tmp rfl rfl (W_end [] (by decide) rfl rfl (B_eq (eq_all (by omega) hl hp_A).symm))
  · have hb : decide (((els xs).length : Int) ≠ ((els ys).length : Int)) = true := by rw [hlx, hly]; simp; omega
    refine Con.of Try.func48 rfl Try.ntmps48 rfl (fun E => ?_)
    refine A_seq ?_; refine A_region ?_; refine M0 (q_assignC rfl rfl rfl) rfl rfl ?_; refine L_nil ?_; refine T_n ?_; refine A_seq ?_; refine A_seq ?_; refine A_region ?_
    refine M0 (q_moveC rfl rfl rfl) rfl rfl ?_; refine M0 (q_len rfl rfl rfl) rfl rfl ?_; refine M0 (q_moveC rfl rfl rfl) rfl rfl ?_; refine M0 (q_len rfl rfl rfl) rfl rfl ?_
    refine M0 (q_neqK rfl rfl rfl rfl (by assumption)) rfl rfl ?_; refine L_nil ?_; refine T_n ?_; refine A_ifT rfl ?_; refine A_seq ?_; refine A_region ?_
    refine M0 (q_assignC rfl rfl rfl) rfl rfl ?_; refine L_nil ?_; refine T_n ?_; refine A_ret ?_; refine T_r ?_; refine F_r ?_
    exact E_tmp rfl rfl (W_end [] (by decide) rfl rfl (B_eq (eq_len hl).symm))
set_option maxHeartbeats 1000000 in
theorem eq_IntSS (xs ys : List (List Int)) (hn : Enc.gd xs) : Con Try.prog 18 [] [al xs, al ys] [] (B (decide (xs = ys))) := by
  have hn1 := hn.1
  have hlx := els_len xs
  have hly := els_len ys
  by_cases hl : xs.length = ys.length
  · have hb : decide (((els xs).length : Int) ≠ ((els ys).length : Int)) = false := by rw [hlx, hly, hl]; simp
    refine Con.of Try.func18 rfl Try.ntmps18 rfl (fun E => ?_)
    refine A_seq ?_; refine A_region ?_; refine M0 (q_assignC rfl rfl rfl) rfl rfl ?_; refine L_nil ?_; refine T_n ?_; refine A_seq ?_; refine A_seq ?_; refine A_region ?_
    refine M0 (q_moveC rfl rfl rfl) rfl rfl ?_; refine M0 (q_len rfl rfl rfl) rfl rfl ?_; refine M0 (q_moveC rfl rfl rfl) rfl rfl ?_; refine M0 (q_len rfl rfl rfl) rfl rfl ?_
    refine M0 (q_neqK rfl rfl rfl rfl (by assumption)) rfl rfl ?_; refine L_nil ?_; refine T_n ?_; refine A_ifF rfl ?_; refine A_skip ?_; refine T_n ?_; refine A_seq ?_; refine A_seq ?_
    refine A_region ?_; refine M0 (q_assignC rfl rfl rfl) rfl rfl ?_; refine L_nil ?_; refine T_n ?_; refine A_block ?_
    refine A_loop (fun m st => ∃ k : Nat, k + m = xs.length ∧ (xs.take k = ys.take k) ∧ st = (fun k : Nat => (⟨_, [(0, L xs), (1, L ys), (5, I k)], []⟩ : St)) k) (xs.length) ⟨(fun k : Nat => (⟨_, [(0, L xs), (1, L ys), (5, I k)], []⟩ : St)) 0, W_go [] (by decide) rfl (rfl) (.cons rfl (.cons rfl (.cons rfl (.nil)))), 0, by omega, by simp, rfl⟩ ?_
    rintro m_A _ ⟨k, hk_A, hp_A, rfl⟩
    refine A_seq ?_; refine A_seq ?_; refine A_region ?_; refine M0 (q_moveC rfl rfl rfl) rfl rfl ?_; refine M0 (q_moveC rfl rfl rfl) rfl rfl ?_; refine M0 (q_len rfl rfl rfl) rfl rfl ?_
    refine M0 (q_lss rfl rfl rfl rfl) rfl rfl ?_; refine L_nil ?_; refine T_n ?_
    refine A_cond rfl (fun h => ?_) (fun h => ?_)
    · have h3 : k < xs.length := by have := of_decide_eq_true h; omega
      have h4 : k < ys.length := by omega
      have hat := els_at h3
      have hat2 := els_at h4
      by_cases he : xs[k] = ys[k]
      · have hc := eq_IntS xs[k] ys[k] (hn.2 _ (List.getElem_mem h3))
        rw [decide_eq_true he] at hc
        refine A_skip ?_; refine T_n ?_; refine A_seq ?_; refine A_block ?_; refine A_seq ?_
        refine A_draw [[], [], [0, 1], [0, 1, 2], [], [], [4, 5], [4, 5, 6], [0, 1, 2, 3, 4, 5, 6, 7], [0, 1, 2, 3, 4, 5, 6, 7, 8]] [[], [], [17, 18], [17, 18, 19], [], [], [21, 22], [21, 22, 23], [17, 18, 19, 20, 21, 22, 23, 24], [17, 18, 19, 20, 21, 22, 23, 24, 25]] [[18, 21, 22, 23, 24], [17, 21, 22, 23, 24], [21, 22, 23, 24], [21, 22, 23, 24], [17, 18, 19, 20, 22], [17, 18, 19, 20, 21], [17, 18, 19, 20], [17, 18, 19, 20], [], []] rfl ?_
        refine DR.step (q_moveC rfl rfl rfl) rfl rfl ?_; refine DR.step (q_moveC rfl rfl rfl) rfl rfl ?_; refine DR.step (q_at rfl rfl rfl rfl (by omega) (by assumption) rfl) rfl rfl ?_
        refine DR.step (q_lr1 rfl rfl rfl rfl) rfl rfl ?_; refine DR.step (q_moveC rfl rfl rfl) rfl rfl ?_; refine DR.step (q_moveC rfl rfl rfl) rfl rfl ?_
        refine DR.step (q_at rfl rfl rfl rfl (by omega) (by assumption) rfl) rfl rfl ?_; refine DR.step (q_lr1 rfl rfl rfl rfl) rfl rfl ?_; refine DR.step (q_call0 rfl rfl (hc) rfl) rfl rfl ?_
        refine DR.step (q_not rfl rfl rfl) rfl rfl ?_; refine DR.stop (by kernel_rfl) (by kernel_rfl) ?_
        refine L_nil ?_; refine T_n ?_; refine A_ifF rfl ?_; refine A_skip ?_; refine B_n ?_; refine T_n ?_; refine A_region ?_; refine M0 (q_moveC rfl rfl rfl) rfl rfl ?_
        refine M0 (q_add rfl rfl rfl rfl (by omega)) rfl rfl ?_; refine M0 (q_assignC rfl rfl rfl) rfl rfl ?_; refine L_nil ?_; refine T_n ?_
        exact ⟨xs.length - (k + 1), by omega, (fun k : Nat => (⟨_, [(0, L xs), (1, L ys), (5, I k)], []⟩ : St)) (k + 1), W_go [] (by decide) rfl (rfl) (.cons rfl (.cons rfl (.cons rfl (.nil)))), k + 1, by omega, eq_next h3 h4 hp_A he, rfl⟩
      · have hc := eq_IntS xs[k] ys[k] (hn.2 _ (List.getElem_mem h3))
        rw [decide_eq_false he] at hc
        refine A_skip ?_; refine T_n ?_; refine A_seq ?_; refine A_block ?_; refine A_seq ?_
        refine A_draw [[], [], [0, 1], [0, 1, 2], [], [], [4, 5], [4, 5, 6], [0, 1, 2, 3, 4, 5, 6, 7], [0, 1, 2, 3, 4, 5, 6, 7, 8]] [[], [], [17, 18], [17, 18, 19], [], [], [21, 22], [21, 22, 23], [17, 18, 19, 20, 21, 22, 23, 24], [17, 18, 19, 20, 21, 22, 23, 24, 25]] [[18, 21, 22, 23, 24], [17, 21, 22, 23, 24], [21, 22, 23, 24], [21, 22, 23, 24], [17, 18, 19, 20, 22], [17, 18, 19, 20, 21], [17, 18, 19, 20], [17, 18, 19, 20], [], []] rfl ?_
        refine DR.step (q_moveC rfl rfl rfl) rfl rfl ?_; refine DR.step (q_moveC rfl rfl rfl) rfl rfl ?_; refine DR.step (q_at rfl rfl rfl rfl (by omega) (by assumption) rfl) rfl rfl ?_
        refine DR.step (q_lr1 rfl rfl rfl rfl) rfl rfl ?_; refine DR.step (q_moveC rfl rfl rfl) rfl rfl ?_; refine DR.step (q_moveC rfl rfl rfl) rfl rfl ?_
        refine DR.step (q_at rfl rfl rfl rfl (by omega) (by assumption) rfl) rfl rfl ?_; refine DR.step (q_lr1 rfl rfl rfl rfl) rfl rfl ?_; refine DR.step (q_call0 rfl rfl (hc) rfl) rfl rfl ?_
        refine DR.step (q_not rfl rfl rfl) rfl rfl ?_; refine DR.stop (by kernel_rfl) (by kernel_rfl) ?_
        refine L_nil ?_; refine T_n ?_; refine A_ifT rfl ?_; refine A_seq ?_; refine A_region ?_; refine M0 (q_assignC rfl rfl rfl) rfl rfl ?_; refine L_nil ?_; refine T_n ?_; refine A_ret ?_; refine B_r ?_
        refine T_r ?_; refine T_r ?_; refine B_r ?_; refine T_r ?_; refine F_r ?_
        exact E_tmp rfl rfl (W_end [] (by decide) rfl rfl (B_eq (eq_ne h3 h4 he).symm))
    · have h3 : ¬ ((k : Int) < (els xs).length) := of_decide_eq_false h
      refine A_exit ?_; refine T_x ?_; refine T_x ?_; refine B_xs ?_; refine T_n ?_; refine A_seq ?_; refine A_region ?_; refine M0 (q_assignC rfl rfl rfl) rfl rfl ?_; refine L_nil ?_; refine T_n ?_
      refine A_ret ?_; refine F_r ?_
      exact E_tmp rfl rfl (W_end [] (by decide) rfl rfl (B_eq (eq_all (by omega) hl hp_A).symm))
  · have hb : decide (((els xs).length : Int) ≠ ((els ys).length : Int)) = true := by rw [hlx, hly]; simp; omega
    refine Con.of Try.func18 rfl Try.ntmps18 rfl (fun E => ?_)
    refine A_seq ?_; refine A_region ?_; refine M0 (q_assignC rfl rfl rfl) rfl rfl ?_; refine L_nil ?_; refine T_n ?_; refine A_seq ?_; refine A_seq ?_; refine A_region ?_
    refine M0 (q_moveC rfl rfl rfl) rfl rfl ?_; refine M0 (q_len rfl rfl rfl) rfl rfl ?_; refine M0 (q_moveC rfl rfl rfl) rfl rfl ?_; refine M0 (q_len rfl rfl rfl) rfl rfl ?_
    refine M0 (q_neqK rfl rfl rfl rfl (by assumption)) rfl rfl ?_; refine L_nil ?_; refine T_n ?_; refine A_ifT rfl ?_; refine A_seq ?_; refine A_region ?_
    refine M0 (q_assignC rfl rfl rfl) rfl rfl ?_; refine L_nil ?_; refine T_n ?_; refine A_ret ?_; refine T_r ?_; refine F_r ?_
    exact E_tmp rfl rfl (W_end [] (by decide) rfl rfl (B_eq (eq_len hl).symm))

end Go.Proofs.Ytkfnaniegldfaaa
