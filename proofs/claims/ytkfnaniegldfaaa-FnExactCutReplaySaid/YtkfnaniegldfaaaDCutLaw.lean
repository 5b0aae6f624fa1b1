/-
  The law FnExactCutReplay returns true.
  Conditions: none.
-/
import Derived.Test.YtkfnaniegldfaaaDCutF
set_option linter.unusedSimpArgs false
set_option linter.unusedVariables false
namespace Go.Proofs.Ytkfnaniegldfaaa
open Go.RowKit

theorem tot_wts : ∀ xs : List (List Int), tot xs ≤ wts xs
  | [] => Nat.le_refl _
  | x :: xs => by
    have h1 := tot_wts xs
    have h2 : tot (x :: xs) = x.length + tot xs := by simp [tot]
    have h3 : wts (x :: xs) = (x.length + wts x) + wts xs := rfl
    omega
theorem wts_takes {α : Type} [Enc α] (xs : List α) (k : Nat) : wts (xs.take k) ≤ wts xs := wts_take_le xs k
theorem tot_take (xs : List (List Int)) (k : Nat) : tot (xs.take k) ≤ tot xs := tot_le xs k
theorem Enc.gd_take {α : Type} [Enc α] {xs : List α} (h : Enc.gd xs) (n : Nat) : Enc.gd (xs.take n) := ⟨Nat.le_trans (by simp; omega) h.1, fun x hx => h.2 x (List.mem_of_mem_take hx)⟩
structure RepIn (y : TReplay) : Prop where
  gd : Enc.gd y
  h1 : y.Level.Rows.length ≤ 1048576
  h2 : y.Keys.length ≤ 1048576
  h3 : y.Rows.length ≤ 1048576
  h4 : tot y.Rows ≤ 1048576
theorem rep_in {x : TReplay} (hg : Enc.gd x) (hw : Enc.wt x ≤ 1048576) : RepIn x := by
  have h0 : Enc.wt x = (x.Level.Rows.length + wts x.Level.Rows) + (x.Rows.length + wts x.Rows) + (x.Keys.length + wts x.Keys) := rfl
  have h1 := tot_wts x.Rows
  exact ⟨hg, by omega, by omega, by omega, by omega⟩
theorem rep_zero : RepIn zeroReplay := ⟨⟨⟨by simp [zeroReplay], fun x hx => by simp [zeroReplay] at hx⟩, ⟨by decide, by decide⟩, ⟨by decide, by decide⟩, ⟨by decide, by decide⟩, ⟨by simp [zeroReplay], fun x hx => by simp [zeroReplay] at hx⟩, ⟨by simp [zeroReplay], fun x hx => by simp [zeroReplay] at hx⟩⟩, by simp [zeroReplay], by simp [zeroReplay], by simp [zeroReplay], by simp [zeroReplay, tot]⟩
theorem cut_in {x : TReplay} (h : RepIn x) (n : Int) : RepIn (cutReplay x n) := by
  obtain ⟨⟨g1, g2, g3, g4, g5, g6⟩, h1, h2, h3, h4⟩ := h
  unfold cutReplay
  split
  · exact ⟨⟨g1, g2, g3, g4, Enc.gd_take g5 _, Enc.gd_take g6 _⟩, h1, by simp; omega, by simp; omega, Nat.le_trans (tot_take _ _) h4⟩
  · exact rep_zero
@[reducible] def iv (n : Int) : V1 := .rd [] (.v (.int .i64 n))
set_option maxHeartbeats 8000000 in
theorem law_CutReplay (x : TReplay) (n : Int) (hx : Enc.gd x) (hn : I64 n) : Con Try.prog 3 [] [ag x, ai n] [] (B true) := by
  have hz1 := sz_Replay x 1048576 hx (by omega) (by omega)
  by_cases n1 : (1048576 : Int) < Enc.wt x
  · rw [szr_neg n1] at hz1
    refine Con.of Try.func3 rfl Try.ntmps3 rfl (fun E => ?_)
    refine A_seq ?_; refine A_region ?_; refine M1 (q_boxN rfl rfl rfl rfl) rfl rfl ?_; refine M0 (q_assignC rfl rfl rfl) rfl rfl ?_; refine L_nil ?_; refine T_n ?_; refine A_seq ?_
    refine A_region ?_; refine M0 (q_assignC rfl rfl rfl) rfl rfl ?_; refine L_nil ?_; refine T_n ?_; refine A_seq ?_; refine A_region ?_; refine M0 (q_ldN rfl rfl rfl rfl rfl rfl) rfl rfl ?_
    refine M0 (q_moveC rfl rfl rfl) rfl rfl ?_; refine M0 (q_call0 rfl rfl (hz1) rfl) rfl rfl ?_; refine M0 (q_assignC rfl rfl rfl) rfl rfl ?_; refine L_nil ?_; refine T_n ?_; refine A_seq ?_
    refine A_seq ?_; refine A_region ?_; refine M0 (q_moveC rfl rfl rfl) rfl rfl ?_; refine M0 (q_lssK (b := true) rfl rfl rfl rfl (by decide)) rfl rfl ?_; refine L_nil ?_; refine T_n ?_
    refine A_ifT rfl ?_; refine A_seq ?_; refine A_region ?_; refine M0 (q_assignC rfl rfl rfl) rfl rfl ?_; refine L_nil ?_; refine T_n ?_; refine A_ret ?_; refine T_r ?_; refine F_r ?_
    exact E_tmp rfl rfl (W_end [] (by decide) rfl rfl rfl)
  rw [szr_pos (by omega)] at hz1
  have hb1 : decide ((1048576 : Int) - Enc.wt x < 0) = false := decide_eq_false (by omega)
  have ix := rep_in hx (by omega)
  have ht1 := to_Replay x (by omega)
  have hsp := S_CutReplay x n hx hn ix.h1 ix.h2 ix.h3
  have hip := I_CutReplay x n hx hn ix.h1 ix.h2 ix.h3
  have iy := cut_in ix n
  generalize cutReplay x n = y at hsp hip iy
  generalize cutOk x n = b at hsp hip
  have hq1 := eq_Replay y y iy.gd
  have hq2 := eq_Replay x x hx
  rw [decide_eq_true rfl] at hq1 hq2
  obtain ⟨ix1, ix2, ix3, ix4, ix5⟩ := ix
  obtain ⟨iy1, iy2, iy3, iy4, iy5⟩ := iy
  have hm_x := L_markReplay x 1 (by omega) (by omega) (by omega) (by omega) (by omega) (by omega)
  have hm_y := L_markReplay y 1 (by omega) (by omega) (by omega) (by omega) (by omega) (by omega)
  have hh := L_heldReplay y 1 (by omega) (by omega) (by omega) (by omega) (by omega) (by omega)
  have hk1 : decide ((1 : Int) + x.Level.Rows.length + tot x.Rows + x.Keys.length < 0) = false := decide_eq_false (by omega)
  have hk2 : decide ((1 : Int) + y.Level.Rows.length + tot y.Rows + y.Keys.length < 0) = false := decide_eq_false (by omega)
  refine Con.of Try.func3 rfl Try.ntmps3 rfl (fun E => ?_)
  refine A_seq ?_; refine A_region ?_; refine M1 (q_boxN rfl rfl rfl rfl) rfl rfl ?_; refine M0 (q_assignC rfl rfl rfl) rfl rfl ?_; refine L_nil ?_; refine T_n ?_; refine A_seq ?_
  refine A_region ?_; refine M0 (q_assignC rfl rfl rfl) rfl rfl ?_; refine L_nil ?_; refine T_n ?_; refine A_seq ?_; refine A_region ?_; refine M0 (q_ldN rfl rfl rfl rfl rfl rfl) rfl rfl ?_
  refine M0 (q_moveC rfl rfl rfl) rfl rfl ?_; refine M0 (q_call0 rfl rfl (hz1) rfl) rfl rfl ?_; refine M0 (q_assignC rfl rfl rfl) rfl rfl ?_; refine L_nil ?_; refine T_n ?_; refine A_seq ?_
  refine A_seq ?_; refine A_region ?_; refine M0 (q_moveC rfl rfl rfl) rfl rfl ?_; refine M0 (q_lssK rfl rfl rfl rfl (by assumption)) rfl rfl ?_; refine L_nil ?_; refine T_n ?_
  refine A_ifF rfl ?_; refine A_skip ?_; refine T_n ?_; refine A_seq ?_; refine A_region ?_; refine M0 (q_ldN rfl rfl rfl rfl rfl rfl) rfl rfl ?_
  refine M1 (q_call rfl rfl (ht1) rfl rfl rfl) rfl rfl ?_; refine M0 (q_moveC rfl rfl rfl) rfl rfl ?_; refine M1 (q_call rfl rfl (hsp) rfl rfl rfl) rfl rfl ?_
  refine M0 (q_moveT rfl rfl rfl) rfl rfl ?_; refine M0 (q_ext rfl rfl rfl rfl) rfl rfl ?_; refine M0 (q_ext rfl rfl rfl rfl) rfl rfl ?_; refine M1 (q_alloc rfl rfl rfl) rfl rfl ?_
  refine M_stN rfl rfl rfl rfl rfl rfl rfl rfl rfl ?_; refine M0 (q_assignC rfl rfl rfl) rfl rfl ?_; refine L_nil ?_; refine T_n ?_; refine A_seq ?_; refine A_region ?_
  refine M0 (q_ldN rfl rfl rfl rfl rfl rfl) rfl rfl ?_; refine M1 (q_call rfl rfl (ht1) rfl rfl rfl) rfl rfl ?_; refine M1 (q_alloc rfl rfl rfl) rfl rfl ?_
  refine M_stN rfl rfl rfl rfl rfl rfl rfl rfl rfl ?_; refine L_nil ?_; refine T_n ?_; refine A_seq ?_; refine A_region ?_; refine M0 (q_ldN rfl rfl rfl rfl rfl rfl) rfl rfl ?_
  refine M0 (q_moveC rfl rfl rfl) rfl rfl ?_; refine M1 (q_call rfl rfl (hip) rfl rfl rfl) rfl rfl ?_; refine M0 (q_moveT rfl rfl rfl) rfl rfl ?_
  refine M0 (q_ext rfl rfl rfl rfl) rfl rfl ?_; refine M0 (q_ext rfl rfl rfl rfl) rfl rfl ?_; refine M1 (q_alloc rfl rfl rfl) rfl rfl ?_
  refine M_stN rfl rfl rfl rfl rfl rfl rfl rfl rfl ?_; refine M0 (q_assignC rfl rfl rfl) rfl rfl ?_; refine L_nil ?_; refine T_n ?_; refine A_seq ?_; refine A_seq ?_; refine A_region ?_
  refine M0 (q_ldN rfl rfl rfl rfl rfl rfl) rfl rfl ?_; refine M0 (q_ldN rfl rfl rfl rfl rfl rfl) rfl rfl ?_; refine M0 (q_call0 rfl rfl (hq1) rfl) rfl rfl ?_
  refine M0 (q_not rfl rfl rfl) rfl rfl ?_; refine M0 (q_moveC rfl rfl rfl) rfl rfl ?_; refine M_yes rfl rfl rfl ?_; refine M0 (q_moveC rfl rfl rfl) rfl rfl ?_; refine M_yes rfl rfl rfl ?_
  refine M0 (q_moveC rfl rfl rfl) rfl rfl ?_; refine M_yes rfl rfl rfl ?_; refine M0 (q_bneqR rfl rfl rfl rfl) rfl rfl ?_; refine M0 (q_pickF rfl rfl rfl rfl) rfl rfl ?_; refine L_nil ?_
  refine T_n ?_; refine A_ifF rfl ?_; refine A_skip ?_; refine T_n ?_; refine A_seq ?_; refine A_seq ?_
  refine AWP.pre (st' := (⟨_, [(1, I n), (2, .o (.c (.ptr 0 0))), (6, .o (.c (.ptr 4 0))), (7, B b), (8, .o (.c (.ptr 8 0))), (9, .o (.c (.ptr 12 0))), (10, B b)], [.box ((Enc.e x).map (V1.rd [])), .row 1 (els y.Level.Rows), .row 1 (els y.Rows), .row 1 (els y.Keys), .box [.ref 1, iv y.Players, iv y.Seed, iv y.Every, .ref 2, .ref 3], .row 1 (els x.Level.Rows), .row 1 (els x.Rows), .row 1 (els x.Keys), .box [.ref 5, iv x.Players, iv x.Seed, iv x.Every, .ref 6, .ref 7], .row 1 (els y.Level.Rows), .row 1 (els y.Rows), .row 1 (els y.Keys), .box [.ref 9, iv y.Players, iv y.Seed, iv y.Every, .ref 10, .ref 11]]⟩ : St)) ?_ (W_go [0, 4, 5, 6, 7, 8, 9, 10, 11, 12, 13, 14, 15] (by decide) rfl (rfl) (.cons rfl (.cons rfl (.cons rfl (.cons rfl (.cons rfl (.cons rfl (.cons rfl (.nil)))))))))
  refine A_draw [[], [], [1], [0, 1, 2], [0, 1, 2, 3]] [[], [], [46], [45, 46, 47], [45, 46, 47, 48]] [[46, 47], [45], [45], [], []] rfl ?_
  refine DR.step (q_ldN rfl rfl rfl rfl rfl rfl) rfl rfl ?_; refine DR.step (q_ldN rfl rfl rfl rfl rfl rfl) rfl rfl ?_; refine DR.step (q_call rfl rfl (ht1) rfl rfl rfl) rfl rfl ?_
  refine DR.step (q_call0 rfl rfl (hq2) rfl) rfl rfl ?_; refine DR.step (q_not rfl rfl rfl) rfl rfl ?_; refine DR.stop (by kernel_rfl) (by kernel_rfl) ?_
  refine L_nil ?_; refine T_n ?_
  refine AWP.pre (st' := (⟨_, [(1, I n), (2, .o (.c (.ptr 0 0))), (6, .o (.c (.ptr 4 0))), (7, B b), (8, .o (.c (.ptr 8 0))), (9, .o (.c (.ptr 12 0))), (10, B b), (49, B false)], [.box ((Enc.e x).map (V1.rd [])), .row 1 (els y.Level.Rows), .row 1 (els y.Rows), .row 1 (els y.Keys), .box [.ref 1, iv y.Players, iv y.Seed, iv y.Every, .ref 2, .ref 3], .row 1 (els x.Level.Rows), .row 1 (els x.Rows), .row 1 (els x.Keys), .box [.ref 5, iv x.Players, iv x.Seed, iv x.Every, .ref 6, .ref 7], .row 1 (els y.Level.Rows), .row 1 (els y.Rows), .row 1 (els y.Keys), .box [.ref 9, iv y.Players, iv y.Seed, iv y.Every, .ref 10, .ref 11]]⟩ : St)) ?_ (W_go [0, 1, 2, 3, 4, 5, 6, 7, 8, 9, 10, 11, 12] (by decide) rfl (rfl) (.cons rfl (.cons rfl (.cons rfl (.cons rfl (.cons rfl (.cons rfl (.cons rfl (.cons rfl (.nil))))))))))
  refine A_ifF rfl ?_; refine A_skip ?_; refine T_n ?_; refine A_seq ?_; refine A_region ?_; refine M0 (q_assignC rfl rfl rfl) rfl rfl ?_; refine L_nil ?_; refine T_n ?_; refine A_seq ?_
  refine A_region ?_; refine M0 (q_ldN rfl rfl rfl rfl rfl rfl) rfl rfl ?_; refine M0 (q_moveC rfl rfl rfl) rfl rfl ?_
  refine M_lent (lo := [_, _, _]) (gs := [(0, .ag [.ref 0, iv x.Players, iv x.Seed, iv x.Every, .ref 1, .ref 2])]) (lo' := [_, _, _]) (new := []) [5, 6, 7] [(0, 0, .ref 0), (0, 4, .ref 1), (0, 5, .ref 2)] (hm_x) rfl rfl rfl rfl rfl rfl rfl rfl rfl rfl rfl rfl rfl rfl rfl rfl rfl ?_
  refine M0 (q_assignC rfl rfl rfl) rfl rfl ?_; refine L_nil ?_; refine T_n ?_; refine A_seq ?_; refine A_seq ?_; refine A_region ?_; refine M0 (q_moveC rfl rfl rfl) rfl rfl ?_
  refine M0 (q_lssK rfl rfl rfl rfl (by assumption)) rfl rfl ?_; refine M0 (q_moveC rfl rfl rfl) rfl rfl ?_; refine M_yes rfl rfl rfl ?_
  refine M0 (q_ldN rfl rfl rfl rfl rfl rfl) rfl rfl ?_; refine M_yes rfl rfl rfl ?_; refine M0 (q_ldN rfl rfl rfl rfl rfl rfl) rfl rfl ?_; refine M_yes rfl rfl rfl ?_
  refine AL.weak (st' := (⟨_, [(1, I n), (2, .o (.c (.ptr 0 0))), (6, .o (.c (.ptr 4 0))), (7, B b), (9, .o (.c (.ptr 8 0))), (10, B b), (55, B false), (56, .o (.ag [.ref 5, iv y.Players, iv y.Seed, iv y.Every, .ref 6, .ref 7])), (57, .o (.ag [.ref 1, iv y.Players, iv y.Seed, iv y.Every, .ref 2, .ref 3]))], [.box ((Enc.e x).map (V1.rd [])), .row 1 (els y.Level.Rows), .row 1 (els y.Rows), .row 1 (els y.Keys), .box [.ref 1, iv y.Players, iv y.Seed, iv y.Every, .ref 2, .ref 3], .row 1 (els y.Level.Rows), .row 1 (els y.Rows), .row 1 (els y.Keys), .box [.ref 5, iv y.Players, iv y.Seed, iv y.Every, .ref 6, .ref 7]]⟩ : St)) (W_go [0, 1, 2, 3, 4, 9, 10, 11, 12] (by decide) rfl (rfl) (.cons rfl (.cons rfl (.cons rfl (.cons rfl (.cons rfl (.cons rfl (.cons rfl (.cons rfl (.cons rfl (.nil))))))))))) ?_
  refine M0 (q_call0 rfl rfl (hq1) rfl) rfl rfl ?_; refine M_yes rfl rfl rfl ?_; refine M0 (q_not rfl rfl rfl) rfl rfl ?_; refine M0 (q_pickF rfl rfl rfl rfl) rfl rfl ?_
  refine M0 (q_moveC rfl rfl rfl) rfl rfl ?_; refine M_yes rfl rfl rfl ?_; refine M0 (q_moveC rfl rfl rfl) rfl rfl ?_; refine M_yes rfl rfl rfl ?_; refine M0 (q_moveC rfl rfl rfl) rfl rfl ?_
  refine M_yes rfl rfl rfl ?_; refine M0 (q_bneqR rfl rfl rfl rfl) rfl rfl ?_; refine M0 (q_pickF rfl rfl rfl rfl) rfl rfl ?_; refine L_nil ?_; refine T_n ?_; refine A_ifF rfl ?_
  refine A_skip ?_; refine T_n ?_; refine A_seq ?_; refine A_region ?_; refine M0 (q_assignC rfl rfl rfl) rfl rfl ?_; refine L_nil ?_; refine T_n ?_; refine A_seq ?_; refine A_region ?_
  refine M0 (q_ldN rfl rfl rfl rfl rfl rfl) rfl rfl ?_; refine M0 (q_moveC rfl rfl rfl) rfl rfl ?_
  refine AL.weak (st' := (⟨_, [(1, I n), (2, .o (.c (.ptr 0 0))), (6, .o (.c (.ptr 4 0))), (7, B b), (9, .o (.c (.ptr 8 0))), (66, .o (.ag [.ref 5, iv y.Players, iv y.Seed, iv y.Every, .ref 6, .ref 7])), (67, I 1)], [.box ((Enc.e x).map (V1.rd [])), .row 1 (els y.Level.Rows), .row 1 (els y.Rows), .row 1 (els y.Keys), .box [.ref 1, iv y.Players, iv y.Seed, iv y.Every, .ref 2, .ref 3], .row 1 (els y.Level.Rows), .row 1 (els y.Rows), .row 1 (els y.Keys), .box [.ref 5, iv y.Players, iv y.Seed, iv y.Every, .ref 6, .ref 7]]⟩ : St)) (W_go [0, 1, 2, 3, 4, 5, 6, 7, 8] (by decide) rfl (rfl) (.cons rfl (.cons rfl (.cons rfl (.cons rfl (.cons rfl (.cons rfl (.cons rfl (.nil))))))))) ?_
  refine M_lent (lo := [_, _, _]) (gs := [(0, .ag [.ref 0, iv y.Players, iv y.Seed, iv y.Every, .ref 1, .ref 2])]) (lo' := [_, _, _]) (new := []) [5, 6, 7] [(0, 0, .ref 0), (0, 4, .ref 1), (0, 5, .ref 2)] (hm_y) rfl rfl rfl rfl rfl rfl rfl rfl rfl rfl rfl rfl rfl rfl rfl rfl rfl ?_
  refine M0 (q_assignC rfl rfl rfl) rfl rfl ?_; refine L_nil ?_; refine T_n ?_; refine A_seq ?_; refine A_region ?_; refine M0 (q_assignC rfl rfl rfl) rfl rfl ?_; refine L_nil ?_; refine T_n ?_
  refine A_seq ?_; refine A_region ?_; refine M0 (q_ldN rfl rfl rfl rfl rfl rfl) rfl rfl ?_; refine M0 (q_moveC rfl rfl rfl) rfl rfl ?_
  refine AL.weak (st' := (⟨_, [(1, I n), (2, .o (.c (.ptr 0 0))), (6, .o (.c (.ptr 4 0))), (7, B b), (9, .o (.c (.ptr 8 0))), (12, I (1 + y.Level.Rows.length + tot y.Rows + y.Keys.length)), (69, .o (.ag [.ref 5, iv y.Players, iv y.Seed, iv y.Every, .ref 6, .ref 7])), (70, I 1)], [.box ((Enc.e x).map (V1.rd [])), .row 1 (els y.Level.Rows), .row 1 (els y.Rows), .row 1 (els y.Keys), .box [.ref 1, iv y.Players, iv y.Seed, iv y.Every, .ref 2, .ref 3], .row 1 (els (markS y.Level.Rows 1)), .row 1 (els (markII y.Rows (1 + y.Level.Rows.length))), .row 1 (els (markS y.Keys (1 + y.Level.Rows.length + tot y.Rows))), .box [.ref 5, iv y.Players, iv y.Seed, iv y.Every, .ref 6, .ref 7]]⟩ : St)) (W_go [0, 1, 2, 3, 4, 5, 6, 7, 8] (by decide) rfl (rfl) (.cons rfl (.cons rfl (.cons rfl (.cons rfl (.cons rfl (.cons rfl (.cons rfl (.cons rfl (.nil)))))))))) ?_
  refine M0 (q_call0 rfl rfl (hh) rfl) rfl rfl ?_; refine M0 (q_assignC rfl rfl rfl) rfl rfl ?_; refine L_nil ?_; refine T_n ?_; refine A_seq ?_; refine A_seq ?_; refine A_region ?_
  refine M0 (q_moveC rfl rfl rfl) rfl rfl ?_; refine M0 (q_lssK rfl rfl rfl rfl (by assumption)) rfl rfl ?_; refine L_nil ?_; refine T_n ?_; refine A_ifF rfl ?_; refine A_skip ?_; refine T_n ?_
  refine A_seq ?_; refine A_seq ?_; refine A_region ?_; refine M0 (q_moveC rfl rfl rfl) rfl rfl ?_; refine M0 (q_moveC rfl rfl rfl) rfl rfl ?_; refine M0 (q_neqR rfl rfl rfl rfl) rfl rfl ?_
  refine L_nil ?_; refine T_n ?_; refine A_ifF rfl ?_; refine A_skip ?_; refine T_n ?_; refine A_seq ?_; refine A_region ?_; refine M0 (q_ldN rfl rfl rfl rfl rfl rfl) rfl rfl ?_
  refine AL.weak (st' := (⟨_, [(1, I n), (6, .o (.c (.ptr 3 0))), (7, B b), (9, .o (.c (.ptr 7 0))), (12, I (1 + y.Level.Rows.length + tot y.Rows + y.Keys.length)), (78, .o (.ag ((Enc.e x).map (V1.rd []))))], [.row 1 (els y.Level.Rows), .row 1 (els y.Rows), .row 1 (els y.Keys), .box [.ref 0, iv y.Players, iv y.Seed, iv y.Every, .ref 1, .ref 2], .row 1 (els (markS y.Level.Rows 1)), .row 1 (els (markII y.Rows (1 + y.Level.Rows.length))), .row 1 (els (markS y.Keys (1 + y.Level.Rows.length + tot y.Rows))), .box [.ref 4, iv y.Players, iv y.Seed, iv y.Every, .ref 5, .ref 6]]⟩ : St)) (W_go [1, 2, 3, 4, 5, 6, 7, 8] (by decide) rfl (rfl) (.cons rfl (.cons rfl (.cons rfl (.cons rfl (.cons rfl (.cons rfl (.nil)))))))) ?_
  refine M1 (q_call rfl rfl (ht1) rfl rfl rfl) rfl rfl ?_; refine M0 (q_moveC rfl rfl rfl) rfl rfl ?_; refine M1 (q_call rfl rfl (hip) rfl rfl rfl) rfl rfl ?_
  refine M0 (q_moveT rfl rfl rfl) rfl rfl ?_; refine M0 (q_ext rfl rfl rfl rfl) rfl rfl ?_; refine M0 (q_ext rfl rfl rfl rfl) rfl rfl ?_; refine M1 (q_alloc rfl rfl rfl) rfl rfl ?_
  refine M_stN rfl rfl rfl rfl rfl rfl rfl rfl rfl ?_; refine M0 (q_assignC rfl rfl rfl) rfl rfl ?_; refine L_nil ?_; refine T_n ?_; refine A_seq ?_; refine A_seq ?_; refine A_region ?_
  refine M0 (q_ldN rfl rfl rfl rfl rfl rfl) rfl rfl ?_; refine M0 (q_ldN rfl rfl rfl rfl rfl rfl) rfl rfl ?_; refine M0 (q_call0 rfl rfl (hq1) rfl) rfl rfl ?_
  refine M0 (q_not rfl rfl rfl) rfl rfl ?_; refine M0 (q_moveC rfl rfl rfl) rfl rfl ?_; refine M_yes rfl rfl rfl ?_; refine M0 (q_moveC rfl rfl rfl) rfl rfl ?_; refine M_yes rfl rfl rfl ?_
  refine M0 (q_moveC rfl rfl rfl) rfl rfl ?_; refine M_yes rfl rfl rfl ?_; refine M0 (q_bneqR rfl rfl rfl rfl) rfl rfl ?_; refine M0 (q_pickF rfl rfl rfl rfl) rfl rfl ?_; refine L_nil ?_
  refine T_n ?_; refine A_ifF rfl ?_; refine A_skip ?_; refine T_n ?_; refine A_seq ?_; refine A_region ?_; refine M0 (q_assignC rfl rfl rfl) rfl rfl ?_; refine L_nil ?_; refine T_n ?_
  refine A_seq ?_; refine A_region ?_; refine M0 (q_ldN rfl rfl rfl rfl rfl rfl) rfl rfl ?_; refine M0 (q_moveC rfl rfl rfl) rfl rfl ?_
  refine AL.weak (st' := (⟨_, [(12, I (1 + y.Level.Rows.length + tot y.Rows + y.Keys.length)), (93, .o (.ag [.ref 0, iv y.Players, iv y.Seed, iv y.Every, .ref 1, .ref 2])), (94, I 1)], [.row 1 (els (markS y.Level.Rows 1)), .row 1 (els (markII y.Rows (1 + y.Level.Rows.length))), .row 1 (els (markS y.Keys (1 + y.Level.Rows.length + tot y.Rows)))]⟩ : St)) (W_go [4, 5, 6] (by decide) rfl (rfl) (.cons rfl (.cons rfl (.cons rfl (.nil))))) ?_
  refine M0 (q_call0 rfl rfl (hh) rfl) rfl rfl ?_; refine M0 (q_assignC rfl rfl rfl) rfl rfl ?_; refine L_nil ?_; refine T_n ?_; refine A_seq ?_; refine A_seq ?_; refine A_region ?_
  refine M0 (q_moveC rfl rfl rfl) rfl rfl ?_; refine M0 (q_lssK rfl rfl rfl rfl (by assumption)) rfl rfl ?_; refine L_nil ?_; refine T_n ?_; refine A_ifF rfl ?_; refine A_skip ?_; refine T_n ?_
  refine A_seq ?_; refine A_seq ?_; refine A_region ?_; refine M0 (q_moveC rfl rfl rfl) rfl rfl ?_; refine M0 (q_moveC rfl rfl rfl) rfl rfl ?_; refine M0 (q_neqR rfl rfl rfl rfl) rfl rfl ?_
  refine L_nil ?_; refine T_n ?_; refine A_ifF rfl ?_; refine A_skip ?_; refine T_n ?_; refine A_seq ?_; refine A_region ?_; refine M0 (q_assignC rfl rfl rfl) rfl rfl ?_; refine L_nil ?_
  refine T_n ?_; refine A_ret ?_; refine F_r ?_
  exact E_tmp rfl rfl (W_end [] (by decide) rfl rfl rfl)
end Go.Proofs.Ytkfnaniegldfaaa
