/-
  What the laws write into replays with rows, and what they read back.
  Conditions: at most 2^30 elements.
-/
import Derived.Test.YtkfnaniegldfaaaDMark
import Derived.Test.YtkfnaniegldfaaaDInner
import Derived.Test.YtkfnaniegldfaaaDLawKit
set_option linter.unusedSimpArgs false
set_option linter.unusedVariables false
namespace Go.Proofs.Ytkfnaniegldfaaa
open Go.RowKit

theorem mk_next {α : Type} [Enc α] {ms xs : List α} (hl : ms.length = xs.length) {i : Nat} (h : i < xs.length) {c : T} {e : List T} (hc : Enc.e (ms[i]'(by omega)) = [c]) (he : e.length = 1 := by rfl) : els (ms.take (i + 1) ++ xs.drop (i + 1)) = (els (ms.take i ++ xs.drop i)).set i (splice e 0 [c]) := by
  have h1 : splice e 0 [c] = Enc.e (ms[i]'(by omega)) := by
    rw [hc]
    match e, he with
    | [t], _ => rfl
  have h2 : i < ms.length := by omega
  rw [h1, ← els_set]
  congr 1
  have hi : (ms.take i).length = i := by simp; omega
  rw [List.take_succ_eq_append_getElem h2, List.set_append_right _ _ (by omega)]
  have : i - (ms.take i).length = 0 := by omega
  rw [this, List.drop_eq_getElem_cons h, List.set_cons_zero, List.append_assoc]
  rfl
theorem mk_at {α : Type} {ms xs : List α} (hl : ms.length = xs.length) {i : Nat} (h : i < xs.length) (h' : i < (ms.take i ++ xs.drop i).length := by simp; omega) : (ms.take i ++ xs.drop i)[i] = xs[i] := by
  have hi : (ms.take i).length = i := by simp; omega
  rw [List.getElem_append_right (by omega)]
  simp [hi]
theorem mk_len {α : Type} {ms xs : List α} (hl : ms.length = xs.length) {i : Nat} (h : i ≤ xs.length) : (ms.take i ++ xs.drop i).length = xs.length := by simp; omega
theorem mk_end {α : Type} {ms xs : List α} (hl : ms.length = xs.length) {i : Nat} (h : xs.length ≤ i) : ms.take i ++ xs.drop i = ms := by rw [List.take_of_length_le (by omega), List.drop_of_length_le h, List.append_nil]

def markI (xs : List Int) (k : Int) : List Int := (List.range xs.length).map fun (i : Nat) => k + i
theorem markI_len (xs : List Int) (k : Int) : (markI xs k).length = xs.length := by simp [markI]
theorem markI_at {xs : List Int} {k : Int} {i : Nat} (h : i < (markI xs k).length) : (markI xs k)[i] = k + i := by simp [markI]
set_option maxHeartbeats 8000000 in
theorem L_markIntS (xs : List Int) (k : Int) (hL : xs.length ≤ 1073741824) (h0 : 0 < k) (hk : k ≤ 4294967296) : Con Try.prog 61 [.row 1 (els xs), .gh 0 (.c (.ref 0))] [.c (.ref 0), ai k] [.row 1 (els (markI xs k)), .gh 0 (.c (.ref 0))] (I (k + xs.length)) := by
  have hml := markI_len xs k
  refine Con.of Try.func61 rfl Try.ntmps61 rfl (fun E => ?_)
  refine A_seq ?_; refine A_region ?_; refine M0 (q_assignC rfl rfl rfl) rfl rfl ?_; refine L_nil ?_; refine T_n ?_; refine A_seq ?_; refine A_seq ?_; refine A_region ?_
  refine M0 (q_assignC rfl rfl rfl) rfl rfl ?_; refine L_nil ?_; refine T_n ?_; refine A_block ?_
  refine A_loop (fun m st => ∃ i : Nat, i + m = xs.length ∧ (True) ∧ st = (fun i : Nat => (⟨_, [(0, .o (.c (.ref 0))), (1, I (k + i)), (5, I i)], [.row 1 (els ((markI xs k).take i ++ xs.drop i)), .gh 0 (.c (.ref 0))]⟩ : St)) i) (xs.length) ⟨(fun i : Nat => (⟨_, [(0, .o (.c (.ref 0))), (1, I (k + i)), (5, I i)], [.row 1 (els ((markI xs k).take i ++ xs.drop i)), .gh 0 (.c (.ref 0))]⟩ : St)) 0, W_go [0, 1] (by decide) rfl (rfl) (.cons rfl (.cons (I_eq (by omega)) (.cons rfl (.nil)))), 0, by omega, trivial, rfl⟩ ?_
  rintro m_A _ ⟨i, hk_A, hp_A, rfl⟩
  have hl2 : (els ((markI xs k).take i ++ xs.drop i)).length = xs.length := by rw [els_len, mk_len hml (by omega)]
  refine A_seq ?_; refine A_seq ?_; refine A_region ?_; refine M0 (q_moveC rfl rfl rfl) rfl rfl ?_; refine M0 (q_moveC rfl rfl rfl) rfl rfl ?_; refine M0 (q_lenr rfl rfl rfl rfl) rfl rfl ?_
  refine M0 (q_lss rfl rfl rfl rfl) rfl rfl ?_; refine L_nil ?_; refine T_n ?_
  refine A_cond rfl (fun h => ?_) (fun h => ?_)
  · have h3 : i < xs.length := by have := of_decide_eq_true h; omega
    have hi : i < ((markI xs k).take i ++ xs.drop i).length := by rw [mk_len hml (by omega)]; exact h3
    have hat := els_at hi
    refine A_skip ?_; refine T_n ?_; refine A_seq ?_; refine A_block ?_; refine A_seq ?_; refine A_region ?_; refine M0 (q_moveC rfl rfl rfl) rfl rfl ?_; refine M0 (q_moveC rfl rfl rfl) rfl rfl ?_
    refine M0 (q_moveC rfl rfl rfl) rfl rfl ?_; refine M0 (q_ar rfl rfl rfl rfl rfl (by omega) (by omega)) rfl rfl ?_
    refine M_ste1 rfl rfl rfl rfl rfl rfl rfl rfl rfl (by assumption) rfl rfl ?_; refine L_nil ?_; refine T_n ?_; refine A_region ?_; refine M0 (q_moveC rfl rfl rfl) rfl rfl ?_
    refine M0 (q_add rfl rfl rfl rfl (by omega)) rfl rfl ?_; refine M0 (q_assignC rfl rfl rfl) rfl rfl ?_; refine L_nil ?_; refine B_n ?_; refine T_n ?_; refine A_region ?_
    refine M0 (q_moveC rfl rfl rfl) rfl rfl ?_; refine M0 (q_add rfl rfl rfl rfl (by omega)) rfl rfl ?_; refine M0 (q_assignC rfl rfl rfl) rfl rfl ?_; refine L_nil ?_; refine T_n ?_
    exact ⟨xs.length - (i + 1), by omega, (fun i : Nat => (⟨_, [(0, .o (.c (.ref 0))), (1, I (k + i)), (5, I i)], [.row 1 (els ((markI xs k).take i ++ xs.drop i)), .gh 0 (.c (.ref 0))]⟩ : St)) (i + 1), W_go [0, 1] (by decide) rfl (row2 (mk_next hml h3 (by rw [markI_at]; rfl))) (.cons rfl (.cons (I_eq (by omega)) (.cons rfl (.nil)))), i + 1, by omega, trivial, rfl⟩
  · have h3 : ¬ ((i : Int) < (els ((markI xs k).take i ++ xs.drop i)).length) := of_decide_eq_false h
    have hi : i = xs.length := by omega
    refine A_exit ?_; refine T_x ?_; refine T_x ?_; refine B_xs ?_; refine T_n ?_; refine A_seq ?_; refine A_region ?_; refine M0 (q_moveC rfl rfl rfl) rfl rfl ?_
    refine M0 (q_assignC rfl rfl rfl) rfl rfl ?_; refine L_nil ?_; refine T_n ?_; refine A_ret ?_; refine F_r ?_
    exact E_tmp rfl rfl (W_end [0, 1] (by decide) rfl (row2 (by rw [mk_end hml (by omega)])) (I_eq (by omega)))
set_option maxHeartbeats 8000000 in
theorem L_heldIntS (xs : List Int) (k : Int) (hL : xs.length ≤ 1073741824) (h0 : 0 < k) (hk : k ≤ 4294967296) : Con Try.prog 62 [] [al (markI xs k), ai k] [] (I (k + xs.length)) := by
  have hlx := els_len (markI xs k)
  rw [markI_len] at hlx
  refine Con.of Try.func62 rfl Try.ntmps62 rfl (fun E => ?_)
  refine A_seq ?_; refine A_region ?_; refine M0 (q_assignC rfl rfl rfl) rfl rfl ?_; refine L_nil ?_; refine T_n ?_; refine A_seq ?_; refine A_seq ?_; refine A_region ?_
  refine M0 (q_assignC rfl rfl rfl) rfl rfl ?_; refine L_nil ?_; refine T_n ?_; refine A_block ?_
  refine A_loop (fun m st => ∃ i : Nat, i + m = xs.length ∧ (True) ∧ st = (fun i : Nat => (⟨_, [(0, L (markI xs k)), (1, I (k + i)), (5, I i)], []⟩ : St)) i) (xs.length) ⟨(fun i : Nat => (⟨_, [(0, L (markI xs k)), (1, I (k + i)), (5, I i)], []⟩ : St)) 0, W_go [] (by decide) rfl (rfl) (.cons rfl (.cons (I_eq (by omega)) (.cons rfl (.nil)))), 0, by omega, trivial, rfl⟩ ?_
  rintro m_A _ ⟨i, hk_A, hp_A, rfl⟩
  refine A_seq ?_; refine A_seq ?_; refine A_region ?_; refine M0 (q_moveC rfl rfl rfl) rfl rfl ?_; refine M0 (q_moveC rfl rfl rfl) rfl rfl ?_; refine M0 (q_len rfl rfl rfl) rfl rfl ?_
  refine M0 (q_lss rfl rfl rfl rfl) rfl rfl ?_; refine L_nil ?_; refine T_n ?_
  refine A_cond rfl (fun h => ?_) (fun h => ?_)
  · have h3 : i < xs.length := by have := of_decide_eq_true h; omega
    have hi : i < (markI xs k).length := by rw [markI_len]; exact h3
    have hat := els_at hi
    rw [markI_at] at hat
    refine A_skip ?_; refine T_n ?_; refine A_seq ?_; refine A_block ?_; refine A_seq ?_; refine A_seq ?_; refine A_region ?_; refine M0 (q_moveC rfl rfl rfl) rfl rfl ?_
    refine M0 (q_moveC rfl rfl rfl) rfl rfl ?_; refine M0 (q_at rfl rfl rfl rfl (by omega) (by assumption) rfl) rfl rfl ?_; refine M0 (q_lr1 rfl rfl rfl rfl) rfl rfl ?_
    refine M0 (q_moveC rfl rfl rfl) rfl rfl ?_; refine M0 (q_neqR rfl rfl rfl rfl) rfl rfl ?_; refine L_nil ?_; refine T_n ?_; refine A_ifF rfl ?_; refine A_skip ?_; refine T_n ?_
    refine A_region ?_; refine M0 (q_moveC rfl rfl rfl) rfl rfl ?_; refine M0 (q_add rfl rfl rfl rfl (by omega)) rfl rfl ?_; refine M0 (q_assignC rfl rfl rfl) rfl rfl ?_; refine L_nil ?_
    refine B_n ?_; refine T_n ?_; refine A_region ?_; refine M0 (q_moveC rfl rfl rfl) rfl rfl ?_; refine M0 (q_add rfl rfl rfl rfl (by omega)) rfl rfl ?_
    refine M0 (q_assignC rfl rfl rfl) rfl rfl ?_; refine L_nil ?_; refine T_n ?_
    exact ⟨xs.length - (i + 1), by omega, (fun i : Nat => (⟨_, [(0, L (markI xs k)), (1, I (k + i)), (5, I i)], []⟩ : St)) (i + 1), W_go [] (by decide) rfl (rfl) (.cons rfl (.cons (I_eq (by omega)) (.cons rfl (.nil)))), i + 1, by omega, trivial, rfl⟩
  · have h3 : ¬ ((i : Int) < (els (markI xs k)).length) := of_decide_eq_false h
    refine A_exit ?_; refine T_x ?_; refine T_x ?_; refine B_xs ?_; refine T_n ?_; refine A_seq ?_; refine A_region ?_; refine M0 (q_moveC rfl rfl rfl) rfl rfl ?_
    refine M0 (q_assignC rfl rfl rfl) rfl rfl ?_; refine L_nil ?_; refine T_n ?_; refine A_ret ?_; refine F_r ?_
    exact E_tmp rfl rfl (W_end [] (by decide) rfl rfl (I_eq (by omega)))

def tot (xs : List (List Int)) : Nat := (xs.map List.length).sum
theorem tot_next {xs : List (List Int)} {i : Nat} (h : i < xs.length) : tot (xs.take (i + 1)) = tot (xs.take i) + xs[i].length := by
  unfold tot
  rw [List.take_succ_eq_append_getElem h, List.map_append, List.sum_append]
  simp
theorem tot_le (xs : List (List Int)) (i : Nat) : tot (xs.take i) ≤ tot xs := by
  unfold tot
  conv => rhs; rw [← List.take_append_drop i xs, List.map_append, List.sum_append]
  omega
theorem tot_at {xs : List (List Int)} {i : Nat} (h : i < xs.length) : tot (xs.take i) + xs[i].length ≤ tot xs := by rw [← tot_next h]; exact tot_le _ _
theorem tot_end {xs : List (List Int)} {i : Nat} (h : xs.length ≤ i) : tot (xs.take i) = tot xs := by rw [List.take_of_length_le h]
def markII (xs : List (List Int)) (k : Int) : List (List Int) := (List.range xs.length).map fun (i : Nat) => markI (xs.getD i []) (k + tot (xs.take i))
theorem markII_len (xs : List (List Int)) (k : Int) : (markII xs k).length = xs.length := by simp [markII]
theorem markII_at {xs : List (List Int)} {k : Int} {i : Nat} (h : i < xs.length) (h' : i < (markII xs k).length := by rw [markII_len]; assumption) : (markII xs k)[i] = markI xs[i] (k + tot (xs.take i)) := by simp [markII, List.getD_eq_getElem?_getD, h]
set_option maxHeartbeats 8000000 in
theorem L_markIntSS (xs : List (List Int)) (k : Int) (hL : xs.length ≤ 1073741824) (ht : tot xs ≤ 1073741824) (h0 : 0 < k) (hk : k ≤ 2147483648) : Con Try.prog 19 [.row 1 (els xs), .gh 0 (.c (.ref 0))] [.c (.ref 0), ai k] [.row 1 (els (markII xs k)), .gh 0 (.c (.ref 0))] (I (k + tot xs)) := by
  have hml := markII_len xs k
  refine Con.of Try.func19 rfl Try.ntmps19 rfl (fun E => ?_)
  refine A_seq ?_; refine A_region ?_; refine M0 (q_assignC rfl rfl rfl) rfl rfl ?_; refine L_nil ?_; refine T_n ?_; refine A_seq ?_; refine A_seq ?_; refine A_region ?_
  refine M0 (q_assignC rfl rfl rfl) rfl rfl ?_; refine L_nil ?_; refine T_n ?_; refine A_block ?_
  refine A_loop (fun m st => ∃ i : Nat, i + m = xs.length ∧ (True) ∧ st = (fun i : Nat => (⟨_, [(0, .o (.c (.ref 0))), (1, I (k + tot (xs.take i))), (5, I i)], [.row 1 (els ((markII xs k).take i ++ xs.drop i)), .gh 0 (.c (.ref 0))]⟩ : St)) i) (xs.length) ⟨(fun i : Nat => (⟨_, [(0, .o (.c (.ref 0))), (1, I (k + tot (xs.take i))), (5, I i)], [.row 1 (els ((markII xs k).take i ++ xs.drop i)), .gh 0 (.c (.ref 0))]⟩ : St)) 0, W_go [0, 1] (by decide) rfl (rfl) (.cons rfl (.cons (I_eq (by simp [tot])) (.cons rfl (.nil)))), 0, by omega, trivial, rfl⟩ ?_
  rintro m_A _ ⟨i, hk_A, hp_A, rfl⟩
  have hl2 : (els ((markII xs k).take i ++ xs.drop i)).length = xs.length := by rw [els_len, mk_len hml (by omega)]
  refine A_seq ?_; refine A_seq ?_; refine A_region ?_; refine M0 (q_moveC rfl rfl rfl) rfl rfl ?_; refine M0 (q_moveC rfl rfl rfl) rfl rfl ?_; refine M0 (q_lenr rfl rfl rfl rfl) rfl rfl ?_
  refine M0 (q_lss rfl rfl rfl rfl) rfl rfl ?_; refine L_nil ?_; refine T_n ?_
  refine A_cond rfl (fun h => ?_) (fun h => ?_)
  · have h3 : i < xs.length := by have := of_decide_eq_true h; omega
    have hi : i < ((markII xs k).take i ++ xs.drop i).length := by rw [mk_len hml (by omega)]; exact h3
    have hat := els_at hi
    rw [mk_at hml h3] at hat
    have ht1 := tot_at h3
    have hc := L_markIntS xs[i] (k + tot (xs.take i)) (by omega) (by omega) (by omega)
    refine A_skip ?_; refine T_n ?_; refine A_seq ?_; refine A_block ?_; refine A_region ?_; refine M0 (q_moveC rfl rfl rfl) rfl rfl ?_; refine M0 (q_moveC rfl rfl rfl) rfl rfl ?_
    refine M0 (q_ar rfl rfl rfl rfl rfl (by omega) (by omega)) rfl rfl ?_; refine M0 (q_lee rfl rfl rfl rfl (by assumption) rfl) rfl rfl ?_; refine M0 (q_moveC rfl rfl rfl) rfl rfl ?_
    refine M_inner hc rfl rfl rfl rfl rfl rfl rfl rfl (by assumption) rfl ?_; refine M0 (q_assignC rfl rfl rfl) rfl rfl ?_; refine L_nil ?_; refine B_n ?_; refine T_n ?_; refine A_region ?_
    refine M0 (q_moveC rfl rfl rfl) rfl rfl ?_; refine M0 (q_add rfl rfl rfl rfl (by omega)) rfl rfl ?_; refine M0 (q_assignC rfl rfl rfl) rfl rfl ?_; refine L_nil ?_; refine T_n ?_
    exact ⟨xs.length - (i + 1), by omega, (fun i : Nat => (⟨_, [(0, .o (.c (.ref 0))), (1, I (k + tot (xs.take i))), (5, I i)], [.row 1 (els ((markII xs k).take i ++ xs.drop i)), .gh 0 (.c (.ref 0))]⟩ : St)) (i + 1), W_go [0, 1] (by decide) rfl (row2 (mk_next hml h3 (by rw [markII_at h3]; rfl))) (.cons rfl (.cons (I_eq (by rw [tot_next h3]; omega)) (.cons rfl (.nil)))), i + 1, by omega, trivial, rfl⟩
  · have h3 : ¬ ((i : Int) < (els ((markII xs k).take i ++ xs.drop i)).length) := of_decide_eq_false h
    have ht1 := tot_end (show xs.length ≤ i by omega)
    refine A_exit ?_; refine T_x ?_; refine T_x ?_; refine B_xs ?_; refine T_n ?_; refine A_seq ?_; refine A_region ?_; refine M0 (q_moveC rfl rfl rfl) rfl rfl ?_
    refine M0 (q_assignC rfl rfl rfl) rfl rfl ?_; refine L_nil ?_; refine T_n ?_; refine A_ret ?_; refine F_r ?_
    exact E_tmp rfl rfl (W_end [0, 1] (by decide) rfl (row2 (by rw [mk_end hml (by omega)])) (I_eq (by rw [ht1])))
set_option maxHeartbeats 8000000 in
theorem L_heldIntSS (xs : List (List Int)) (k : Int) (hL : xs.length ≤ 1073741824) (ht : tot xs ≤ 1073741824) (h0 : 0 < k) (hk : k ≤ 2147483648) : Con Try.prog 20 [] [al (markII xs k), ai k] [] (I (k + tot xs)) := by
  have hlx := els_len (markII xs k)
  rw [markII_len] at hlx
  refine Con.of Try.func20 rfl Try.ntmps20 rfl (fun E => ?_)
  refine A_seq ?_; refine A_region ?_; refine M0 (q_assignC rfl rfl rfl) rfl rfl ?_; refine L_nil ?_; refine T_n ?_; refine A_seq ?_; refine A_seq ?_; refine A_region ?_
  refine M0 (q_assignC rfl rfl rfl) rfl rfl ?_; refine L_nil ?_; refine T_n ?_; refine A_block ?_
  refine A_loop (fun m st => ∃ i : Nat, i + m = xs.length ∧ (True) ∧ st = (fun i : Nat => (⟨_, [(0, L (markII xs k)), (1, I (k + tot (xs.take i))), (5, I i)], []⟩ : St)) i) (xs.length) ⟨(fun i : Nat => (⟨_, [(0, L (markII xs k)), (1, I (k + tot (xs.take i))), (5, I i)], []⟩ : St)) 0, W_go [] (by decide) rfl (rfl) (.cons rfl (.cons (I_eq (by simp [tot])) (.cons rfl (.nil)))), 0, by omega, trivial, rfl⟩ ?_
  rintro m_A _ ⟨i, hk_A, hp_A, rfl⟩
  refine A_seq ?_; refine A_seq ?_; refine A_region ?_; refine M0 (q_moveC rfl rfl rfl) rfl rfl ?_; refine M0 (q_moveC rfl rfl rfl) rfl rfl ?_; refine M0 (q_len rfl rfl rfl) rfl rfl ?_
  refine M0 (q_lss rfl rfl rfl rfl) rfl rfl ?_; refine L_nil ?_; refine T_n ?_
  refine A_cond rfl (fun h => ?_) (fun h => ?_)
  · have h3 : i < xs.length := by have := of_decide_eq_true h; omega
    have hi : i < (markII xs k).length := by rw [markII_len]; exact h3
    have hat := els_at hi
    rw [markII_at h3] at hat
    have ht1 := tot_at h3
    have hc := L_heldIntS xs[i] (k + tot (xs.take i)) (by omega) (by omega) (by omega)
    have hn : decide (k + (tot (xs.take i) : Int) + xs[i].length < 0) = false := decide_eq_false (by omega)
    refine A_skip ?_; refine T_n ?_; refine A_seq ?_; refine A_block ?_; refine A_seq ?_; refine A_region ?_; refine M0 (q_moveC rfl rfl rfl) rfl rfl ?_; refine M0 (q_moveC rfl rfl rfl) rfl rfl ?_
    refine M0 (q_at rfl rfl rfl rfl (by omega) (by assumption) rfl) rfl rfl ?_; refine M0 (q_lr1 rfl rfl rfl rfl) rfl rfl ?_; refine M0 (q_moveC rfl rfl rfl) rfl rfl ?_
    refine M0 (q_call0 rfl rfl (hc) rfl) rfl rfl ?_; refine M0 (q_assignC rfl rfl rfl) rfl rfl ?_; refine L_nil ?_; refine T_n ?_; refine A_seq ?_; refine A_region ?_
    refine M0 (q_moveC rfl rfl rfl) rfl rfl ?_; refine M0 (q_lssK rfl rfl rfl rfl (by assumption)) rfl rfl ?_; refine L_nil ?_; refine T_n ?_; refine A_ifF rfl ?_; refine A_skip ?_; refine B_n ?_
    refine T_n ?_; refine A_region ?_; refine M0 (q_moveC rfl rfl rfl) rfl rfl ?_; refine M0 (q_add rfl rfl rfl rfl (by omega)) rfl rfl ?_; refine M0 (q_assignC rfl rfl rfl) rfl rfl ?_
    refine L_nil ?_; refine T_n ?_
    exact ⟨xs.length - (i + 1), by omega, (fun i : Nat => (⟨_, [(0, L (markII xs k)), (1, I (k + tot (xs.take i))), (5, I i)], []⟩ : St)) (i + 1), W_go [] (by decide) rfl (rfl) (.cons rfl (.cons (I_eq (by rw [tot_next h3]; omega)) (.cons rfl (.nil)))), i + 1, by omega, trivial, rfl⟩
  · have h3 : ¬ ((i : Int) < (els (markII xs k)).length) := of_decide_eq_false h
    have ht1 := tot_end (show xs.length ≤ i by omega)
    refine A_exit ?_; refine T_x ?_; refine T_x ?_; refine B_xs ?_; refine T_n ?_; refine A_seq ?_; refine A_region ?_; refine M0 (q_moveC rfl rfl rfl) rfl rfl ?_
    refine M0 (q_assignC rfl rfl rfl) rfl rfl ?_; refine L_nil ?_; refine T_n ?_; refine A_ret ?_; refine F_r ?_
    exact E_tmp rfl rfl (W_end [] (by decide) rfl rfl (I_eq (by rw [ht1])))
set_option maxHeartbeats 8000000 in
theorem L_markReplay (x : TReplay) (k : Int) (h1 : x.Level.Rows.length ≤ 1048576) (h2 : x.Keys.length ≤ 1048576) (h3 : x.Rows.length ≤ 1048576) (h4 : tot x.Rows ≤ 1048576) (h0 : 0 < k) (hk : k ≤ 1073741823) : Con Try.prog 14 [.row 1 (els x.Level.Rows), .row 1 (els x.Rows), .row 1 (els x.Keys), .gh 0 (.ag (ownV 0 (Enc.e x)))] [.ag (ownV 0 (Enc.e x)), ai k]
    [.row 1 (els (markS x.Level.Rows k)), .row 1 (els (markII x.Rows (k + x.Level.Rows.length))), .row 1 (els (markS x.Keys (k + x.Level.Rows.length + tot x.Rows))), .gh 0 (.ag (ownV 0 (Enc.e x)))] (I (k + x.Level.Rows.length + tot x.Rows + x.Keys.length)) := by
  refine Con.of Try.func14 rfl Try.ntmps14 rfl (fun E => ?_)
  refine A_seq ?_; refine A_region ?_; refine M1 (q_boxN rfl rfl rfl rfl) rfl rfl ?_; refine M0 (q_assignC rfl rfl rfl) rfl rfl ?_; refine L_nil ?_; refine T_n ?_; refine A_seq ?_
  refine A_region ?_; refine M0 (q_fldp rfl rfl rfl rfl (by decide)) rfl rfl ?_; refine M0 (q_ldN rfl rfl rfl rfl rfl rfl) rfl rfl ?_; refine M0 (q_moveC rfl rfl rfl) rfl rfl ?_
  refine M_lent (lo := [_]) (gs := [(0, .ag [.ref 0])]) (lo' := [_]) (new := []) [0] [(0, 0, .ref 0)] (L_markLevel x.Level.Rows k h1 h0 (by omega)) rfl rfl rfl rfl rfl rfl rfl rfl rfl rfl rfl rfl rfl rfl rfl rfl rfl ?_
  refine M0 (q_assignC rfl rfl rfl) rfl rfl ?_; refine L_nil ?_; refine T_n ?_; refine A_seq ?_; refine A_region ?_; refine M0 (q_fldp rfl rfl rfl rfl (by decide)) rfl rfl ?_
  refine M0 (q_ld1 rfl rfl rfl rfl rfl) rfl rfl ?_; refine M0 (q_moveC rfl rfl rfl) rfl rfl ?_
  refine M_lent (lo := [_]) (gs := [(0, .c (.ref 0))]) (lo' := [_]) (new := []) [1] [(0, 0, .ref 0)] (L_markIntSS x.Rows (k + x.Level.Rows.length) (by omega) (by omega) (by omega) (by omega)) rfl rfl rfl rfl rfl rfl rfl rfl rfl rfl rfl rfl rfl rfl rfl rfl rfl ?_
  refine M0 (q_assignC rfl rfl rfl) rfl rfl ?_; refine L_nil ?_; refine T_n ?_; refine A_seq ?_; refine A_region ?_; refine M0 (q_fldp rfl rfl rfl rfl (by decide)) rfl rfl ?_
  refine M0 (q_ld1 rfl rfl rfl rfl rfl) rfl rfl ?_; refine M0 (q_moveC rfl rfl rfl) rfl rfl ?_
  refine M_lent (lo := [_]) (gs := [(0, .c (.ref 0))]) (lo' := [_]) (new := []) [2] [(0, 0, .ref 0)] (L_markStringS x.Keys (k + x.Level.Rows.length + tot x.Rows) h2 (by omega) (by omega)) rfl rfl rfl rfl rfl rfl rfl rfl rfl rfl rfl rfl rfl rfl rfl rfl rfl ?_
  refine M0 (q_assignC rfl rfl rfl) rfl rfl ?_; refine L_nil ?_; refine T_n ?_; refine A_seq ?_; refine A_region ?_; refine M0 (q_moveC rfl rfl rfl) rfl rfl ?_
  refine M0 (q_assignC rfl rfl rfl) rfl rfl ?_; refine L_nil ?_; refine T_n ?_; refine A_ret ?_; refine F_r ?_
  exact E_tmp rfl rfl (W_end [0, 1, 2, 3] (by decide) rfl rfl rfl)
def markR (x : TReplay) (k : Int) : TReplay := ⟨⟨markS x.Level.Rows k⟩, x.Players, x.Seed, x.Every, markII x.Rows (k + x.Level.Rows.length), markS x.Keys (k + x.Level.Rows.length + tot x.Rows)⟩
set_option maxHeartbeats 8000000 in
theorem L_heldReplay (x : TReplay) (k : Int) (h1 : x.Level.Rows.length ≤ 1048576) (h2 : x.Keys.length ≤ 1048576) (h3 : x.Rows.length ≤ 1048576) (h4 : tot x.Rows ≤ 1048576) (h0 : 0 < k) (hk : k ≤ 1073741823) : Con Try.prog 15 [] [ag (markR x k), ai k] [] (I (k + x.Level.Rows.length + tot x.Rows + x.Keys.length)) := by
  have hn : decide (k + (x.Level.Rows.length : Int) < 0) = false := decide_eq_false (by omega)
  have hm : decide (k + (x.Level.Rows.length : Int) + tot x.Rows < 0) = false := decide_eq_false (by omega)
  have hm2 : decide (k + (x.Level.Rows.length : Int) + tot x.Rows + x.Keys.length < 0) = false := decide_eq_false (by omega)
  refine Con.of Try.func15 rfl Try.ntmps15 rfl (fun E => ?_)
  refine A_seq ?_; refine A_region ?_; refine M1 (q_boxN rfl rfl rfl rfl) rfl rfl ?_; refine M0 (q_assignC rfl rfl rfl) rfl rfl ?_; refine L_nil ?_; refine T_n ?_; refine A_seq ?_
  refine A_region ?_; refine M0 (q_fldp rfl rfl rfl rfl (by decide)) rfl rfl ?_; refine M0 (q_ldN rfl rfl rfl rfl rfl rfl) rfl rfl ?_; refine M0 (q_moveC rfl rfl rfl) rfl rfl ?_
  refine M0 (q_call0 rfl rfl (L_heldLevel x.Level.Rows k h1 h0 (by omega)) rfl) rfl rfl ?_; refine M0 (q_assignC rfl rfl rfl) rfl rfl ?_; refine L_nil ?_; refine T_n ?_; refine A_seq ?_
  refine A_seq ?_; refine A_region ?_; refine M0 (q_moveC rfl rfl rfl) rfl rfl ?_; refine M0 (q_lssK rfl rfl rfl rfl (by assumption)) rfl rfl ?_; refine L_nil ?_; refine T_n ?_
  refine A_ifF rfl ?_; refine A_skip ?_; refine T_n ?_; refine A_seq ?_; refine A_region ?_; refine M0 (q_fldp rfl rfl rfl rfl (by decide)) rfl rfl ?_
  refine M0 (q_ld1 rfl rfl rfl rfl rfl) rfl rfl ?_; refine M0 (q_moveC rfl rfl rfl) rfl rfl ?_
  refine M0 (q_call0 rfl rfl (L_heldIntSS x.Rows (k + x.Level.Rows.length) (by omega) (by omega) (by omega) (by omega)) rfl) rfl rfl ?_; refine M0 (q_assignC rfl rfl rfl) rfl rfl ?_
  refine L_nil ?_; refine T_n ?_; refine A_seq ?_; refine A_seq ?_; refine A_region ?_; refine M0 (q_moveC rfl rfl rfl) rfl rfl ?_; refine M0 (q_lssK rfl rfl rfl rfl (by assumption)) rfl rfl ?_
  refine L_nil ?_; refine T_n ?_; refine A_ifF rfl ?_; refine A_skip ?_; refine T_n ?_; refine A_seq ?_; refine A_region ?_; refine M0 (q_fldp rfl rfl rfl rfl (by decide)) rfl rfl ?_
  refine M0 (q_ld1 rfl rfl rfl rfl rfl) rfl rfl ?_; refine M0 (q_moveC rfl rfl rfl) rfl rfl ?_
  refine M0 (q_call0 rfl rfl (L_heldStringS x.Keys (k + x.Level.Rows.length + tot x.Rows) h2 (by omega) (by omega)) rfl) rfl rfl ?_; refine M0 (q_assignC rfl rfl rfl) rfl rfl ?_
  refine L_nil ?_; refine T_n ?_; refine A_seq ?_; refine A_seq ?_; refine A_region ?_; refine M0 (q_moveC rfl rfl rfl) rfl rfl ?_; refine M0 (q_lssK rfl rfl rfl rfl (by assumption)) rfl rfl ?_
  refine L_nil ?_; refine T_n ?_; refine A_ifF rfl ?_; refine A_skip ?_; refine T_n ?_; refine A_seq ?_; refine A_region ?_; refine M0 (q_moveC rfl rfl rfl) rfl rfl ?_
  refine M0 (q_assignC rfl rfl rfl) rfl rfl ?_; refine L_nil ?_; refine T_n ?_; refine A_ret ?_; refine F_r ?_
  exact E_tmp rfl rfl (W_end [] (by decide) rfl rfl rfl)
end Go.Proofs.Ytkfnaniegldfaaa
