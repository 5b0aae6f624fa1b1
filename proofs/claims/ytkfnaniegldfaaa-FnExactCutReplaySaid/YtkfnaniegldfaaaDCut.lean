/-
  Copies of replays in the program. (Under way: CutReplay.)
  Conditions: lists of at most 2^20 elements.
-/
import Derived.Test.YtkfnaniegldfaaaDMarkR
import Derived.Test.YtkfnaniegldfaaaDApp
import Derived.Test.YtkfnaniegldfaaaDNew
set_option linter.unusedSimpArgs false
set_option linter.unusedVariables false
namespace Go.Proofs.Ytkfnaniegldfaaa
open Go.RowKit

theorem els_snoc {α : Type} [Enc α] {xs : List α} {k : Nat} (h : k < xs.length) : els (xs.take (k + 1)) = els (xs.take k) ++ [Enc.e xs[k]] := by
  rw [List.take_succ_eq_append_getElem h]
  exact List.map_append
set_option maxHeartbeats 8000000 in
theorem I_copyInts (xs : List Int) (hL : xs.length ≤ 1048576) : Con Try.prog 133 [] [al xs] [.row 1 (els xs)] (.o (.c (.ref 0))) := by
  have hlx := els_len xs
  refine Con.of Try.func133 rfl Try.ntmps133 rfl (fun E => ?_)
  refine A_seq ?_; refine A_region ?_; refine M0 (q_assignC rfl rfl rfl) rfl rfl ?_; refine L_nil ?_; refine T_n ?_; refine A_seq ?_; refine A_region ?_; refine M0 (q_moveC rfl rfl rfl) rfl rfl ?_
  refine M_appnil rfl rfl rfl rfl rfl rfl rfl rfl (els_plain _) (els_k _) (by omega) (by omega) ?_; refine M0 (q_assignC rfl rfl rfl) rfl rfl ?_; refine L_nil ?_; refine T_n ?_
  refine A_ret ?_; refine F_r ?_
  exact E_tmp rfl rfl (W_end [0] (by decide) rfl rfl rfl)
set_option maxHeartbeats 8000000 in
theorem I_copyRows (xs : List (List Int)) (hg : Enc.gd xs) (hL : xs.length ≤ 1048576) (hr : ∀ r ∈ xs, r.length ≤ 1048576) : Con Try.prog 97 [] [al xs] [.row 1 (els xs)] (.o (.c (.ref 0))) := by
  have hlx := els_len xs
  refine Con.of Try.func97 rfl Try.ntmps97 rfl (fun E => ?_)
  refine A_seq ?_; refine A_region ?_; refine M0 (q_assignC rfl rfl rfl) rfl rfl ?_; refine L_nil ?_; refine T_n ?_; refine A_seq ?_; refine A_region ?_
  refine M0 (q_assignC rfl rfl rfl) rfl rfl ?_; refine L_nil ?_; refine T_n ?_; refine A_seq ?_; refine A_seq ?_; refine A_region ?_; refine M0 (q_moveC rfl rfl rfl) rfl rfl ?_
  refine M0 (q_len rfl rfl rfl) rfl rfl ?_; refine M0 (q_moveC rfl rfl rfl) rfl rfl ?_; refine L_nil ?_; refine T_n ?_; refine A_block ?_
  refine AWP.pre ?_ (W_nil 3 1 rfl)
  refine A_loop (fun m st => ∃ k : Nat, k + m = xs.length ∧ (True) ∧ st = (fun k : Nat => (⟨_, [(3, .o (.c (.ref 0))), (6, L xs), (7, I (els xs).length), (8, I k)], [.row 1 (els (xs.take k))]⟩ : St)) k) (xs.length) ⟨(fun k : Nat => (⟨_, [(3, .o (.c (.ref 0))), (6, L xs), (7, I (els xs).length), (8, I k)], [.row 1 (els (xs.take k))]⟩ : St)) 0, W_go [0] (by decide) rfl (rfl) (.cons rfl (.cons rfl (.cons rfl (.cons rfl (.nil))))), 0, by omega, trivial, rfl⟩ ?_
  rintro m_A _ ⟨k, hk_A, hp_A, rfl⟩
  have hl2 : (els (xs.take k)).length = k := by rw [els_len]; simp; omega
  refine A_seq ?_; refine A_region ?_; refine M0 (q_lss rfl rfl rfl rfl) rfl rfl ?_; refine L_nil ?_; refine T_n ?_; refine A_seq ?_
  refine A_cond rfl (fun h => ?_) (fun h => ?_)
  · have h3 : k < xs.length := by have := of_decide_eq_true h; omega
    have hat := els_at h3
    refine A_skip ?_; refine T_n ?_; refine A_seq ?_; refine A_block ?_; refine A_seq ?_; refine A_region ?_; refine M0 (q_at rfl rfl rfl rfl (by omega) (by assumption) rfl) rfl rfl ?_
    refine M0 (q_lr1 rfl rfl rfl rfl) rfl rfl ?_; refine M0 (q_assignC rfl rfl rfl) rfl rfl ?_; refine L_nil ?_; refine T_n ?_; refine A_region ?_; refine M0 (q_moveC rfl rfl rfl) rfl rfl ?_
    refine M0 (q_moveC rfl rfl rfl) rfl rfl ?_; refine M1 (q_call rfl rfl (I_copyInts xs[k] (hr _ (List.getElem_mem h3))) rfl rfl rfl) rfl rfl ?_
    refine M1 (q_bslice rfl rfl rfl rfl rfl rfl) rfl rfl ?_; refine M_appo rfl rfl rfl rfl rfl rfl rfl rfl rfl rfl rfl rfl rfl rfl (by omega) (by omega) ?_
    refine M0 (q_assignC rfl rfl rfl) rfl rfl ?_; refine L_nil ?_; refine B_n ?_; refine T_n ?_; refine A_region ?_; refine M0 (q_add rfl rfl rfl rfl (by omega)) rfl rfl ?_
    refine M0 (q_moveC rfl rfl rfl) rfl rfl ?_; refine L_nil ?_; refine T_n ?_
    exact ⟨xs.length - (k + 1), by omega, (fun k : Nat => (⟨_, [(3, .o (.c (.ref 0))), (6, L xs), (7, I (els xs).length), (8, I k)], [.row 1 (els (xs.take k))]⟩ : St)) (k + 1), W_go [0] (by decide) rfl (row_eq (els_snoc h3)) (.cons rfl (.cons rfl (.cons rfl (.cons rfl (.nil))))), k + 1, by omega, trivial, rfl⟩
  · have h3 : ¬ ((k : Int) < (els xs).length) := of_decide_eq_false h
    have hk : xs.take k = xs := List.take_of_length_le (by omega)
    refine A_exit ?_; refine T_x ?_; refine T_x ?_; refine B_xs ?_; refine T_n ?_; refine A_seq ?_; refine A_region ?_; refine M0 (q_moveC rfl rfl rfl) rfl rfl ?_
    refine M0 (q_assignC rfl rfl rfl) rfl rfl ?_; refine L_nil ?_; refine T_n ?_; refine A_ret ?_; refine F_r ?_
    exact E_tmp rfl rfl (W_end [0] (by decide) rfl (row_eq (by rw [hk])) rfl)
set_option maxHeartbeats 8000000 in
theorem I_copyReplay (x : TReplay) (hg : Enc.gd x) (h1 : x.Level.Rows.length ≤ 1048576) (h2 : x.Keys.length ≤ 1048576) (h3 : x.Rows.length ≤ 1048576) (hr : ∀ r ∈ x.Rows, r.length ≤ 1048576) : Con Try.prog 47 [] [ag x] (ownO (Enc.e x)) (.o (.ag (ownV 0 (Enc.e x)))) := by
  obtain ⟨g_Level, g_Players, g_Seed, g_Every, g_Rows, g_Keys⟩ := hg
  have hlx := els_len x.Keys
  refine Con.of Try.func47 rfl Try.ntmps47 rfl (fun E => ?_)
  refine A_seq ?_; refine A_region ?_; refine M1 (q_boxN rfl rfl rfl rfl) rfl rfl ?_; refine M1 (q_alloc rfl rfl rfl) rfl rfl ?_; refine L_nil ?_; refine T_n ?_; refine A_seq ?_
  refine A_region ?_; refine M0 (q_fldp rfl rfl rfl rfl (by decide)) rfl rfl ?_; refine M0 (q_ldN rfl rfl rfl rfl rfl rfl) rfl rfl ?_
  refine M1 (q_call rfl rfl (I_copyLevel x.Level g_Level h1) rfl rfl rfl) rfl rfl ?_; refine M0 (q_fldp rfl rfl rfl rfl (by decide)) rfl rfl ?_
  refine M_stN rfl rfl rfl rfl rfl rfl rfl rfl rfl ?_; refine L_nil ?_; refine T_n ?_; refine A_seq ?_; refine A_region ?_; refine M0 (q_fldp rfl rfl rfl rfl (by decide)) rfl rfl ?_
  refine M0 (q_ld1 rfl rfl rfl rfl rfl) rfl rfl ?_; refine M1 (q_call rfl rfl (I_copyRows x.Rows g_Rows h3 hr) rfl rfl rfl) rfl rfl ?_
  refine M0 (q_fldp rfl rfl rfl rfl (by decide)) rfl rfl ?_; refine M_st1 rfl rfl rfl rfl rfl rfl rfl rfl ?_; refine L_nil ?_; refine T_n ?_; refine A_seq ?_; refine A_region ?_
  refine M0 (q_fldp rfl rfl rfl rfl (by decide)) rfl rfl ?_; refine M0 (q_ld1 rfl rfl rfl rfl rfl) rfl rfl ?_
  refine M_appnil rfl rfl rfl rfl rfl rfl rfl rfl (els_plain _) (els_k _) (by omega) (by omega) ?_; refine M0 (q_fldp rfl rfl rfl rfl (by decide)) rfl rfl ?_
  refine M_st1 rfl rfl rfl rfl rfl rfl rfl rfl ?_; refine L_nil ?_; refine T_n ?_; refine A_seq ?_; refine A_region ?_; refine M0 (q_ldN rfl rfl rfl rfl rfl rfl) rfl rfl ?_
  refine M_stN rfl rfl rfl rfl rfl rfl rfl rfl rfl ?_; refine L_nil ?_; refine T_n ?_; refine A_ret ?_; refine F_r ?_
  exact E_cell rfl rfl rfl rfl (W_end [2, 3, 4] (by decide) rfl rfl rfl)
@[reducible] def jv (n : Int) : V1 := .rd [] (.v (.int .i64 n))
set_option maxHeartbeats 8000000 in
theorem S_copyReplay (x : TReplay) (hg : Enc.gd x) (h1 : x.Level.Rows.length ≤ 1048576) (h2 : x.Keys.length ≤ 1048576) (h3 : x.Rows.length ≤ 1048576) (hr : ∀ r ∈ x.Rows, 0 < r.length ∧ r.length ≤ 1048576) : Con Try.prog 43 [] [ag x] (ownO (Enc.e x)) (.o (.ag (ownV 0 (Enc.e x)))) := by
  obtain ⟨g_Level, g_Players, g_Seed, g_Every, g_Rows, g_Keys⟩ := hg
  have hlx := els_len x.Keys
  have hly := els_len x.Rows
  have h00 : ([] : List (List T)).length = 0 := rfl
  refine Con.of Try.func43 rfl Try.ntmps43 rfl (fun E => ?_)
  refine A_seq ?_; refine A_region ?_; refine M1 (q_boxN rfl rfl rfl rfl) rfl rfl ?_; refine M1 (q_alloc rfl rfl rfl) rfl rfl ?_; refine L_nil ?_; refine T_n ?_; refine A_seq ?_
  refine A_region ?_; refine M0 (q_ldN rfl rfl rfl rfl rfl rfl) rfl rfl ?_; refine M1 (q_alloc rfl rfl rfl) rfl rfl ?_; refine M_stN rfl rfl rfl rfl rfl rfl rfl rfl rfl ?_; refine L_nil ?_
  refine T_n ?_; refine A_seq ?_; refine A_region ?_; refine M0 (q_fldp rfl rfl rfl rfl (by decide)) rfl rfl ?_; refine M0 (q_ldN rfl rfl rfl rfl rfl rfl) rfl rfl ?_
  refine M1 (q_call rfl rfl (S_copyLevel x.Level g_Level h1) rfl rfl rfl) rfl rfl ?_; refine M0 (q_fldp rfl rfl rfl rfl (by decide)) rfl rfl ?_
  refine M_stN rfl rfl rfl rfl rfl rfl rfl rfl rfl ?_; refine L_nil ?_; refine T_n ?_; refine A_seq ?_; refine A_region ?_; refine M0 (q_fldp rfl rfl rfl rfl (by decide)) rfl rfl ?_
  refine M_st1 rfl rfl rfl rfl rfl rfl rfl rfl ?_; refine L_nil ?_; refine T_n ?_; refine A_seq ?_; refine A_seq ?_; refine A_region ?_; refine M0 (q_assignC rfl rfl rfl) rfl rfl ?_
  refine L_nil ?_; refine T_n ?_; refine A_block ?_
  refine AWP.pre ?_ (Wk.nilbox (p := 2) (i := 4) 1 rfl rfl)
  refine A_loop (fun m st => ∃ k : Nat, k + m = x.Rows.length ∧ (True) ∧ st = (fun k : Nat => (⟨_, [(1, .o (.c (.ptr 0 0))), (2, .o (.c (.ptr 1 0))), (3, .o (.c (.ptr 2 0))), (4, I k)], [.box ((Enc.e x).map (V1.rd [])), .box [nilV, jv 0, jv 0, jv 0, nilV, nilV], .box [.ref 3, jv x.Players, jv x.Seed, jv x.Every, .ref 4, .rd [] (sl x.Keys)], .row 1 (els x.Level.Rows), .row 1 (els (x.Rows.take k))]⟩ : St)) k) (x.Rows.length) ⟨(fun k : Nat => (⟨_, [(1, .o (.c (.ptr 0 0))), (2, .o (.c (.ptr 1 0))), (3, .o (.c (.ptr 2 0))), (4, I k)], [.box ((Enc.e x).map (V1.rd [])), .box [nilV, jv 0, jv 0, jv 0, nilV, nilV], .box [.ref 3, jv x.Players, jv x.Seed, jv x.Every, .ref 4, .rd [] (sl x.Keys)], .row 1 (els x.Level.Rows), .row 1 (els (x.Rows.take k))]⟩ : St)) 0, W_go [0, 1, 2, 3, 4] (by decide) rfl (rfl) (.cons rfl (.cons rfl (.cons rfl (.cons rfl (.nil))))), 0, by omega, trivial, rfl⟩ ?_
  rintro m_A _ ⟨k, hk_A, hp_A, rfl⟩
  have hl2 : (els (x.Rows.take k)).length = k := by rw [els_len]; simp; omega
  refine A_seq ?_; refine A_seq ?_; refine A_region ?_; refine M0 (q_moveC rfl rfl rfl) rfl rfl ?_; refine M0 (q_fldp rfl rfl rfl rfl (by decide)) rfl rfl ?_
  refine M0 (q_ld1 rfl rfl rfl rfl rfl) rfl rfl ?_; refine M0 (q_len rfl rfl rfl) rfl rfl ?_; refine M0 (q_lss rfl rfl rfl rfl) rfl rfl ?_; refine L_nil ?_; refine T_n ?_
  refine A_cond rfl (fun h => ?_) (fun h => ?_)
  · have h4 : k < x.Rows.length := by have := of_decide_eq_true h; omega
    have hat := els_at h4
    have hrk := hr _ (List.getElem_mem h4)
    have hlk := els_len x.Rows[k]
    refine A_skip ?_; refine T_n ?_; refine A_seq ?_; refine A_block ?_
    refine A_draw [[], [0], [], [], [3], [], [3, 4, 5], [3, 4, 5, 6], [2, 3, 4, 5, 6, 7], [2, 3, 4, 5, 6, 7, 8], [0, 1, 2, 3, 4, 5, 6, 7, 8, 9], [0, 1, 2, 3, 4, 5, 6, 7, 8, 9, 10], [0, 1, 2, 3, 4, 5, 6, 7, 8, 9, 10, 11]] [[], [18], [], [], [21], [], [21, 22, 23], [21, 22, 23, 24], [20, 21, 22, 23, 24, 25], [20, 21, 22, 23, 24, 25, 26], [18, 19, 20, 21, 22, 23, 24, 25, 26, 27], [18, 19, 20, 21, 22, 23, 24, 25, 26, 27, 28], [18, 19, 20, 21, 22, 23, 24, 25, 26, 27, 28, 29]] [[20, 21, 22, 23, 24, 25, 26, 27], [20, 21, 22, 23, 24, 25, 26, 27], [18, 19, 21, 22, 23, 24, 25], [18, 19, 20, 23], [18, 19, 20, 23], [18, 19, 20, 21, 22], [18, 19, 20], [18, 19, 20], [18, 19], [18, 19], [], [], []] rfl ?_
    refine DR.step (q_fldp rfl rfl rfl rfl (by decide)) rfl rfl ?_; refine DR.step (q_ld1 rfl rfl rfl rfl rfl) rfl rfl ?_; refine DR.step (q_bslicez rfl rfl rfl) rfl rfl ?_
    refine DR.step (q_fldp rfl rfl rfl rfl (by decide)) rfl rfl ?_; refine DR.step (q_ld1 rfl rfl rfl rfl rfl) rfl rfl ?_; refine DR.step (q_moveC rfl rfl rfl) rfl rfl ?_
    refine DR.step (q_at rfl rfl rfl rfl (by omega) (by assumption) rfl) rfl rfl ?_; refine DR.step (q_lr1 rfl rfl rfl rfl) rfl rfl ?_
    refine DR.step (q_appz rfl rfl rfl rfl rfl rfl (els_plain _) (els_k _) (by omega) (by omega) (by omega)) rfl rfl ?_; refine DR.step (q_bslice rfl rfl rfl rfl rfl rfl) rfl rfl ?_
    refine DR.stop (by kernel_rfl) (by kernel_rfl) ?_
    refine M_appo rfl rfl rfl rfl rfl rfl rfl rfl rfl rfl rfl rfl rfl rfl (by omega) (by omega) ?_; refine M0 (q_fldp rfl rfl rfl rfl (by decide)) rfl rfl ?_
    refine M_st1 rfl rfl rfl rfl rfl rfl rfl rfl ?_; refine L_nil ?_; refine B_n ?_; refine T_n ?_; refine A_region ?_; refine M0 (q_moveC rfl rfl rfl) rfl rfl ?_
    refine M0 (q_add rfl rfl rfl rfl (by omega)) rfl rfl ?_; refine M0 (q_assignC rfl rfl rfl) rfl rfl ?_; refine L_nil ?_; refine T_n ?_
    exact ⟨x.Rows.length - (k + 1), by omega, (fun k : Nat => (⟨_, [(1, .o (.c (.ptr 0 0))), (2, .o (.c (.ptr 1 0))), (3, .o (.c (.ptr 2 0))), (4, I k)], [.box ((Enc.e x).map (V1.rd [])), .box [nilV, jv 0, jv 0, jv 0, nilV, nilV], .box [.ref 3, jv x.Players, jv x.Seed, jv x.Every, .ref 4, .rd [] (sl x.Keys)], .row 1 (els x.Level.Rows), .row 1 (els (x.Rows.take k))]⟩ : St)) (k + 1), W_go [0, 1, 2, 3, 4] (by decide) rfl ((by rw [els_snoc h4]; rfl)) (.cons rfl (.cons rfl (.cons rfl (.cons rfl (.nil))))), k + 1, by omega, trivial, rfl⟩
  · have hk : x.Rows.take k = x.Rows := List.take_of_length_le (by have := of_decide_eq_false h; omega)
    rw [hk]
    refine A_exit ?_; refine T_x ?_; refine T_x ?_; refine B_xs ?_; refine T_n ?_; refine A_seq ?_; refine A_region ?_; refine M1 (q_bslice0 rfl rfl rfl) rfl rfl ?_
    refine M0 (q_fldp rfl rfl rfl rfl (by decide)) rfl rfl ?_; refine M0 (q_ld1 rfl rfl rfl rfl rfl) rfl rfl ?_
    refine M_app rfl rfl rfl rfl rfl rfl rfl rfl rfl rfl (els_plain _) (els_k _) (by omega) (by omega) ?_; refine M0 (q_fldp rfl rfl rfl rfl (by decide)) rfl rfl ?_
    refine M_st1 rfl rfl rfl rfl rfl rfl rfl rfl ?_; refine L_nil ?_; refine T_n ?_; refine A_seq ?_; refine A_region ?_; refine M0 (q_ldN rfl rfl rfl rfl rfl rfl) rfl rfl ?_
    refine M_stN rfl rfl rfl rfl rfl rfl rfl rfl rfl ?_; refine L_nil ?_; refine T_n ?_; refine A_ret ?_; refine F_r ?_
    exact E_cell rfl rfl rfl rfl (W_end [3, 4, 5] (by decide) rfl rfl rfl)
end Go.Proofs.Ytkfnaniegldfaaa
