/-
  The program's structs as Lean data. No statement of the program is proved here.
  Conditions: none.
-/
import Derived.Test.YtkfnaniegldfaaaDSl
set_option linter.unusedVariables false
set_option linter.unusedSimpArgs false
namespace Go.Proofs.Ytkfnaniegldfaaa
open Go.RowKit

/-- Data as pieces of one's own: the slices, and the cells that name them. -/
def ownO : List T → List Ob
  | [] => []
  | .v _ :: ts => ownO ts
  | .sl k es :: ts => .row k es :: ownO ts
  | .un :: ts => ownO ts
def ownV : Nat → List T → List V1
  | _, [] => []
  | n, .v x :: ts => .rd [] (.v x) :: ownV n ts
  | n, .sl _ _ :: ts => .ref n :: ownV (n + 1) ts
  | n, .un :: ts => .un :: ownV n ts

structure TLevel where
  Rows : (List ByteArray)
  deriving DecidableEq
instance : Enc TLevel := ⟨1, by omega, fun x => [sl x.Rows], fun _ => rfl, fun x => Enc.gd x.Rows, fun x => Enc.wt x.Rows⟩
theorem TLevel.same {x y : TLevel} (h0 : x.Rows = y.Rows) : x = y := by cases x; cases y; simp_all
structure TReplay where
  Level : TLevel
  Players : Int
  Seed : Int
  Every : Int
  Rows : (List (List Int))
  Keys : (List ByteArray)
  deriving DecidableEq
instance : Enc TReplay := ⟨6, by omega, fun x => [sl x.Level.Rows, .v (.int .i64 x.Players), .v (.int .i64 x.Seed), .v (.int .i64 x.Every), sl x.Rows, sl x.Keys], fun _ => rfl, fun x => Enc.gd x.Level ∧ Enc.gd x.Players ∧ Enc.gd x.Seed ∧ Enc.gd x.Every ∧ Enc.gd x.Rows ∧ Enc.gd x.Keys, fun x => Enc.wt x.Level + Enc.wt x.Rows + Enc.wt x.Keys⟩
theorem TReplay.same {x y : TReplay} (h0 : x.Level = y.Level) (h1 : x.Players = y.Players) (h2 : x.Seed = y.Seed) (h3 : x.Every = y.Every) (h4 : x.Rows = y.Rows) (h5 : x.Keys = y.Keys) : x = y := by cases x; cases y; simp_all

set_option maxHeartbeats 2000000 in
theorem sz_Level (x : TLevel) (left : Int) (hg : Enc.gd x) (h0 : 0 ≤ left) (h1 : left ≤ 1048576) : Con Try.prog 23 [] [ag x, ai left] [] (I (szr (Enc.wt x) left)) := by
  have g_Rows : Enc.gd x.Rows := hg
  have hw : Enc.wt x = Enc.wt x.Rows := rfl
  have hm1 : decide ((-1 : Int) < 0) = true := rfl
  have hc_Rows := sz_StringS x.Rows (left) g_Rows (by omega) (by omega)
  by_cases n_Rows : left < Enc.wt x.Rows
  · rw [szr_neg n_Rows] at hc_Rows
    refine Con.of Try.func23 rfl Try.ntmps23 rfl (fun E => ?_)
    refine A_seq ?_; refine A_region ?_; refine M1 (q_boxN rfl rfl rfl rfl) rfl rfl ?_; refine M0 (q_assignC rfl rfl rfl) rfl rfl ?_; refine L_nil ?_; refine T_n ?_; refine A_seq ?_
    refine A_region ?_; refine M0 (q_fldp rfl rfl rfl rfl (by decide)) rfl rfl ?_; refine M0 (q_ld1 rfl rfl rfl rfl rfl) rfl rfl ?_; refine M0 (q_moveC rfl rfl rfl) rfl rfl ?_
    refine M0 (q_call0 rfl rfl (hc_Rows) rfl) rfl rfl ?_; refine M0 (q_assignC rfl rfl rfl) rfl rfl ?_; refine L_nil ?_; refine T_n ?_; refine A_seq ?_; refine A_seq ?_; refine A_region ?_
    refine M0 (q_moveC rfl rfl rfl) rfl rfl ?_; refine M0 (q_lssK rfl rfl rfl rfl (by assumption)) rfl rfl ?_; refine L_nil ?_; refine T_n ?_; refine A_ifT rfl ?_; refine A_seq ?_
    refine A_region ?_; refine M0 (q_assignC rfl rfl rfl) rfl rfl ?_; refine L_nil ?_; refine T_n ?_; refine A_ret ?_; refine T_r ?_; refine F_r ?_
    exact E_tmp rfl rfl (W_end [] (by decide) rfl rfl (I_eq (by rw [szr_neg (by omega)])))
  rw [szr_pos (by omega)] at hc_Rows
  have hb_Rows : decide (left - Enc.wt x.Rows < 0) = false := decide_eq_false (by omega)
  refine Con.of Try.func23 rfl Try.ntmps23 rfl (fun E => ?_)
  refine A_seq ?_; refine A_region ?_; refine M1 (q_boxN rfl rfl rfl rfl) rfl rfl ?_; refine M0 (q_assignC rfl rfl rfl) rfl rfl ?_; refine L_nil ?_; refine T_n ?_; refine A_seq ?_
  refine A_region ?_; refine M0 (q_fldp rfl rfl rfl rfl (by decide)) rfl rfl ?_; refine M0 (q_ld1 rfl rfl rfl rfl rfl) rfl rfl ?_; refine M0 (q_moveC rfl rfl rfl) rfl rfl ?_
  refine M0 (q_call0 rfl rfl (hc_Rows) rfl) rfl rfl ?_; refine M0 (q_assignC rfl rfl rfl) rfl rfl ?_; refine L_nil ?_; refine T_n ?_; refine A_seq ?_; refine A_seq ?_; refine A_region ?_
  refine M0 (q_moveC rfl rfl rfl) rfl rfl ?_; refine M0 (q_lssK rfl rfl rfl rfl (by assumption)) rfl rfl ?_; refine L_nil ?_; refine T_n ?_; refine A_ifF rfl ?_; refine A_skip ?_; refine T_n ?_
  refine A_seq ?_; refine A_region ?_; refine M0 (q_moveC rfl rfl rfl) rfl rfl ?_; refine M0 (q_assignC rfl rfl rfl) rfl rfl ?_; refine L_nil ?_; refine T_n ?_; refine A_ret ?_; refine F_r ?_
  exact E_tmp rfl rfl (W_end [] (by decide) rfl rfl (I_eq (by rw [szr_pos (by omega)]; omega)))
set_option maxHeartbeats 2000000 in
theorem to_Level (x : TLevel) (hg : Enc.wt x ≤ 1048576) : Con Try.prog 25 [] [ag x] (ownO (Enc.e x)) (.o (.ag (ownV 0 (Enc.e x)))) := by
  have hw : Enc.wt x = Enc.wt x.Rows := rfl
  refine Con.of Try.func25 rfl Try.ntmps25 rfl (fun E => ?_)
  refine A_seq ?_; refine A_region ?_; refine M1 (q_boxN rfl rfl rfl rfl) rfl rfl ?_; refine M1 (q_alloc rfl rfl rfl) rfl rfl ?_; refine L_nil ?_; refine T_n ?_; refine A_seq ?_
  refine A_region ?_; refine M1 (q_alloc rfl rfl rfl) rfl rfl ?_; refine L_nil ?_; refine T_n ?_; refine A_seq ?_; refine A_region ?_; refine M0 (q_fldp rfl rfl rfl rfl (by decide)) rfl rfl ?_
  refine M0 (q_ld1 rfl rfl rfl rfl rfl) rfl rfl ?_; refine M1 (q_call rfl rfl (to_StringS x.Rows (by omega)) rfl rfl rfl) rfl rfl ?_
  refine M0 (q_fldp rfl rfl rfl rfl (by decide)) rfl rfl ?_; refine M_st1 rfl rfl rfl rfl rfl rfl rfl rfl ?_; refine L_nil ?_; refine T_n ?_; refine A_seq ?_; refine A_region ?_
  refine M0 (q_ldN rfl rfl rfl rfl rfl rfl) rfl rfl ?_; refine M_stN rfl rfl rfl rfl rfl rfl rfl rfl rfl ?_; refine L_nil ?_; refine T_n ?_; refine A_ret ?_; refine F_r ?_
  exact E_cell rfl rfl rfl rfl (W_end [3] (by decide) rfl rfl rfl)
set_option maxHeartbeats 2000000 in
theorem eq_Level (x y : TLevel) (hg : Enc.gd x) : Con Try.prog 28 [] [ag x, ag y] [] (B (decide (x = y))) := by
  have g_Rows : Enc.gd x.Rows := hg
  by_cases e_Rows : ¬ x.Rows = y.Rows
  · have hc := eq_StringS x.Rows y.Rows g_Rows
    rw [decide_eq_false e_Rows] at hc
    refine Con.of Try.func28 rfl Try.ntmps28 rfl (fun E => ?_)
    refine A_seq ?_; refine A_region ?_; refine M1 (q_boxN rfl rfl rfl rfl) rfl rfl ?_; refine M1 (q_boxN rfl rfl rfl rfl) rfl rfl ?_; refine M0 (q_assignC rfl rfl rfl) rfl rfl ?_
    refine L_nil ?_; refine T_n ?_; refine A_seq ?_; refine A_seq ?_; refine A_region ?_; refine M0 (q_fldp rfl rfl rfl rfl (by decide)) rfl rfl ?_
    refine M0 (q_ld1 rfl rfl rfl rfl rfl) rfl rfl ?_; refine M0 (q_fldp rfl rfl rfl rfl (by decide)) rfl rfl ?_; refine M0 (q_ld1 rfl rfl rfl rfl rfl) rfl rfl ?_
    refine M0 (q_call0 rfl rfl (hc) rfl) rfl rfl ?_; refine M0 (q_not rfl rfl rfl) rfl rfl ?_; refine L_nil ?_; refine T_n ?_; refine A_ifT rfl ?_; refine A_seq ?_; refine A_region ?_
    refine M0 (q_assignC rfl rfl rfl) rfl rfl ?_; refine L_nil ?_; refine T_n ?_; refine A_ret ?_; refine T_r ?_; refine F_r ?_
    exact E_tmp rfl rfl (W_end [] (by decide) rfl rfl (B_eq (decide_eq_false fun e => e_Rows (by rw [e])).symm))
  have e_Rows := Classical.not_not.1 e_Rows
  have hc_Rows := eq_StringS x.Rows y.Rows g_Rows
  rw [decide_eq_true e_Rows] at hc_Rows
  refine Con.of Try.func28 rfl Try.ntmps28 rfl (fun E => ?_)
  refine A_seq ?_; refine A_region ?_; refine M1 (q_boxN rfl rfl rfl rfl) rfl rfl ?_; refine M1 (q_boxN rfl rfl rfl rfl) rfl rfl ?_; refine M0 (q_assignC rfl rfl rfl) rfl rfl ?_
  refine L_nil ?_; refine T_n ?_; refine A_seq ?_; refine A_seq ?_; refine A_region ?_; refine M0 (q_fldp rfl rfl rfl rfl (by decide)) rfl rfl ?_
  refine M0 (q_ld1 rfl rfl rfl rfl rfl) rfl rfl ?_; refine M0 (q_fldp rfl rfl rfl rfl (by decide)) rfl rfl ?_; refine M0 (q_ld1 rfl rfl rfl rfl rfl) rfl rfl ?_
  refine M0 (q_call0 rfl rfl (hc_Rows) rfl) rfl rfl ?_; refine M0 (q_not rfl rfl rfl) rfl rfl ?_; refine L_nil ?_; refine T_n ?_; refine A_ifF rfl ?_; refine A_skip ?_; refine T_n ?_
  refine A_seq ?_; refine A_region ?_; refine M0 (q_assignC rfl rfl rfl) rfl rfl ?_; refine L_nil ?_; refine T_n ?_; refine A_ret ?_; refine F_r ?_
  exact E_tmp rfl rfl (W_end [] (by decide) rfl rfl (B_eq (decide_eq_true (TLevel.same e_Rows)).symm))
set_option maxHeartbeats 2000000 in
theorem sz_Replay (x : TReplay) (left : Int) (hg : Enc.gd x) (h0 : 0 ≤ left) (h1 : left ≤ 1048576) : Con Try.prog 9 [] [ag x, ai left] [] (I (szr (Enc.wt x) left)) := by
  obtain ⟨g_Level, g_Players, g_Seed, g_Every, g_Rows, g_Keys⟩ := hg
  have hw : Enc.wt x = Enc.wt x.Level + Enc.wt x.Rows + Enc.wt x.Keys := rfl
  have hm1 : decide ((-1 : Int) < 0) = true := rfl
  have hc_Level := sz_Level x.Level (left) g_Level (by omega) (by omega)
  by_cases n_Level : left < Enc.wt x.Level
  · rw [szr_neg n_Level] at hc_Level
    refine Con.of Try.func9 rfl Try.ntmps9 rfl (fun E => ?_)
    refine A_seq ?_; refine A_region ?_; refine M1 (q_boxN rfl rfl rfl rfl) rfl rfl ?_; refine M0 (q_assignC rfl rfl rfl) rfl rfl ?_; refine L_nil ?_; refine T_n ?_; refine A_seq ?_
    refine A_region ?_; refine M0 (q_fldp rfl rfl rfl rfl (by decide)) rfl rfl ?_; refine M0 (q_ldN rfl rfl rfl rfl rfl rfl) rfl rfl ?_; refine M0 (q_moveC rfl rfl rfl) rfl rfl ?_
    refine M0 (q_call0 rfl rfl (hc_Level) rfl) rfl rfl ?_; refine M0 (q_assignC rfl rfl rfl) rfl rfl ?_; refine L_nil ?_; refine T_n ?_; refine A_seq ?_; refine A_seq ?_; refine A_region ?_
    refine M0 (q_moveC rfl rfl rfl) rfl rfl ?_; refine M0 (q_lssK rfl rfl rfl rfl (by assumption)) rfl rfl ?_; refine L_nil ?_; refine T_n ?_; refine A_ifT rfl ?_; refine A_seq ?_
    refine A_region ?_; refine M0 (q_assignC rfl rfl rfl) rfl rfl ?_; refine L_nil ?_; refine T_n ?_; refine A_ret ?_; refine T_r ?_; refine F_r ?_
    exact E_tmp rfl rfl (W_end [] (by decide) rfl rfl (I_eq (by rw [szr_neg (by omega)])))
  rw [szr_pos (by omega)] at hc_Level
  have hb_Level : decide (left - Enc.wt x.Level < 0) = false := decide_eq_false (by omega)
  have hc_Rows := sz_IntSS x.Rows (left - Enc.wt x.Level) g_Rows (by omega) (by omega)
  by_cases n_Rows : left - Enc.wt x.Level < Enc.wt x.Rows
  · rw [szr_neg n_Rows] at hc_Rows
    refine Con.of Try.func9 rfl Try.ntmps9 rfl (fun E => ?_)
    refine A_seq ?_; refine A_region ?_; refine M1 (q_boxN rfl rfl rfl rfl) rfl rfl ?_; refine M0 (q_assignC rfl rfl rfl) rfl rfl ?_; refine L_nil ?_; refine T_n ?_; refine A_seq ?_
    refine A_region ?_; refine M0 (q_fldp rfl rfl rfl rfl (by decide)) rfl rfl ?_; refine M0 (q_ldN rfl rfl rfl rfl rfl rfl) rfl rfl ?_; refine M0 (q_moveC rfl rfl rfl) rfl rfl ?_
    refine M0 (q_call0 rfl rfl (hc_Level) rfl) rfl rfl ?_; refine M0 (q_assignC rfl rfl rfl) rfl rfl ?_; refine L_nil ?_; refine T_n ?_; refine A_seq ?_; refine A_seq ?_; refine A_region ?_
    refine M0 (q_moveC rfl rfl rfl) rfl rfl ?_; refine M0 (q_lssK rfl rfl rfl rfl (by assumption)) rfl rfl ?_; refine L_nil ?_; refine T_n ?_; refine A_ifF rfl ?_; refine A_skip ?_; refine T_n ?_
    refine A_seq ?_; refine A_region ?_; refine M0 (q_fldp rfl rfl rfl rfl (by decide)) rfl rfl ?_; refine M0 (q_ld1 rfl rfl rfl rfl rfl) rfl rfl ?_; refine M0 (q_moveC rfl rfl rfl) rfl rfl ?_
    refine M0 (q_call0 rfl rfl (hc_Rows) rfl) rfl rfl ?_; refine M0 (q_assignC rfl rfl rfl) rfl rfl ?_; refine L_nil ?_; refine T_n ?_; refine A_seq ?_; refine A_seq ?_; refine A_region ?_
    refine M0 (q_moveC rfl rfl rfl) rfl rfl ?_; refine M0 (q_lssK rfl rfl rfl rfl (by assumption)) rfl rfl ?_; refine L_nil ?_; refine T_n ?_; refine A_ifT rfl ?_; refine A_seq ?_
    refine A_region ?_; refine M0 (q_assignC rfl rfl rfl) rfl rfl ?_; refine L_nil ?_; refine T_n ?_; refine A_ret ?_; refine T_r ?_; refine F_r ?_
    exact E_tmp rfl rfl (W_end [] (by decide) rfl rfl (I_eq (by rw [szr_neg (by omega)])))
  rw [szr_pos (by omega)] at hc_Rows
  have hb_Rows : decide (left - Enc.wt x.Level - Enc.wt x.Rows < 0) = false := decide_eq_false (by omega)
  have hc_Keys := sz_StringS x.Keys (left - Enc.wt x.Level - Enc.wt x.Rows) g_Keys (by omega) (by omega)
  by_cases n_Keys : left - Enc.wt x.Level - Enc.wt x.Rows < Enc.wt x.Keys
  · rw [szr_neg n_Keys] at hc_Keys
    refine Con.of Try.func9 rfl Try.ntmps9 rfl (fun E => ?_)
    refine A_seq ?_; refine A_region ?_; refine M1 (q_boxN rfl rfl rfl rfl) rfl rfl ?_; refine M0 (q_assignC rfl rfl rfl) rfl rfl ?_; refine L_nil ?_; refine T_n ?_; refine A_seq ?_
    refine A_region ?_; refine M0 (q_fldp rfl rfl rfl rfl (by decide)) rfl rfl ?_; refine M0 (q_ldN rfl rfl rfl rfl rfl rfl) rfl rfl ?_; refine M0 (q_moveC rfl rfl rfl) rfl rfl ?_
    refine M0 (q_call0 rfl rfl (hc_Level) rfl) rfl rfl ?_; refine M0 (q_assignC rfl rfl rfl) rfl rfl ?_; refine L_nil ?_; refine T_n ?_; refine A_seq ?_; refine A_seq ?_; refine A_region ?_
    refine M0 (q_moveC rfl rfl rfl) rfl rfl ?_; refine M0 (q_lssK rfl rfl rfl rfl (by assumption)) rfl rfl ?_; refine L_nil ?_; refine T_n ?_; refine A_ifF rfl ?_; refine A_skip ?_; refine T_n ?_
    refine A_seq ?_; refine A_region ?_; refine M0 (q_fldp rfl rfl rfl rfl (by decide)) rfl rfl ?_; refine M0 (q_ld1 rfl rfl rfl rfl rfl) rfl rfl ?_; refine M0 (q_moveC rfl rfl rfl) rfl rfl ?_
    refine M0 (q_call0 rfl rfl (hc_Rows) rfl) rfl rfl ?_; refine M0 (q_assignC rfl rfl rfl) rfl rfl ?_; refine L_nil ?_; refine T_n ?_; refine A_seq ?_; refine A_seq ?_; refine A_region ?_
    refine M0 (q_moveC rfl rfl rfl) rfl rfl ?_; refine M0 (q_lssK rfl rfl rfl rfl (by assumption)) rfl rfl ?_; refine L_nil ?_; refine T_n ?_; refine A_ifF rfl ?_; refine A_skip ?_; refine T_n ?_
    refine A_seq ?_; refine A_region ?_; refine M0 (q_fldp rfl rfl rfl rfl (by decide)) rfl rfl ?_; refine M0 (q_ld1 rfl rfl rfl rfl rfl) rfl rfl ?_; refine M0 (q_moveC rfl rfl rfl) rfl rfl ?_
    refine M0 (q_call0 rfl rfl (hc_Keys) rfl) rfl rfl ?_; refine M0 (q_assignC rfl rfl rfl) rfl rfl ?_; refine L_nil ?_; refine T_n ?_; refine A_seq ?_; refine A_seq ?_; refine A_region ?_
    refine M0 (q_moveC rfl rfl rfl) rfl rfl ?_; refine M0 (q_lssK rfl rfl rfl rfl (by assumption)) rfl rfl ?_; refine L_nil ?_; refine T_n ?_; refine A_ifT rfl ?_; refine A_seq ?_
    refine A_region ?_; refine M0 (q_assignC rfl rfl rfl) rfl rfl ?_; refine L_nil ?_; refine T_n ?_; refine A_ret ?_; refine T_r ?_; refine F_r ?_
    exact E_tmp rfl rfl (W_end [] (by decide) rfl rfl (I_eq (by rw [szr_neg (by omega)])))
  rw [szr_pos (by omega)] at hc_Keys
  have hb_Keys : decide (left - Enc.wt x.Level - Enc.wt x.Rows - Enc.wt x.Keys < 0) = false := decide_eq_false (by omega)
  refine Con.of Try.func9 rfl Try.ntmps9 rfl (fun E => ?_)
  refine A_seq ?_; refine A_region ?_; refine M1 (q_boxN rfl rfl rfl rfl) rfl rfl ?_; refine M0 (q_assignC rfl rfl rfl) rfl rfl ?_; refine L_nil ?_; refine T_n ?_; refine A_seq ?_
  refine A_region ?_; refine M0 (q_fldp rfl rfl rfl rfl (by decide)) rfl rfl ?_; refine M0 (q_ldN rfl rfl rfl rfl rfl rfl) rfl rfl ?_; refine M0 (q_moveC rfl rfl rfl) rfl rfl ?_
  refine M0 (q_call0 rfl rfl (hc_Level) rfl) rfl rfl ?_; refine M0 (q_assignC rfl rfl rfl) rfl rfl ?_; refine L_nil ?_; refine T_n ?_; refine A_seq ?_; refine A_seq ?_; refine A_region ?_
  refine M0 (q_moveC rfl rfl rfl) rfl rfl ?_; refine M0 (q_lssK rfl rfl rfl rfl (by assumption)) rfl rfl ?_; refine L_nil ?_; refine T_n ?_; refine A_ifF rfl ?_; refine A_skip ?_; refine T_n ?_
  refine A_seq ?_; refine A_region ?_; refine M0 (q_fldp rfl rfl rfl rfl (by decide)) rfl rfl ?_; refine M0 (q_ld1 rfl rfl rfl rfl rfl) rfl rfl ?_; refine M0 (q_moveC rfl rfl rfl) rfl rfl ?_
  refine M0 (q_call0 rfl rfl (hc_Rows) rfl) rfl rfl ?_; refine M0 (q_assignC rfl rfl rfl) rfl rfl ?_; refine L_nil ?_; refine T_n ?_; refine A_seq ?_; refine A_seq ?_; refine A_region ?_
  refine M0 (q_moveC rfl rfl rfl) rfl rfl ?_; refine M0 (q_lssK rfl rfl rfl rfl (by assumption)) rfl rfl ?_; refine L_nil ?_; refine T_n ?_; refine A_ifF rfl ?_; refine A_skip ?_; refine T_n ?_
  refine A_seq ?_; refine A_region ?_; refine M0 (q_fldp rfl rfl rfl rfl (by decide)) rfl rfl ?_; refine M0 (q_ld1 rfl rfl rfl rfl rfl) rfl rfl ?_; refine M0 (q_moveC rfl rfl rfl) rfl rfl ?_
  refine M0 (q_call0 rfl rfl (hc_Keys) rfl) rfl rfl ?_; refine M0 (q_assignC rfl rfl rfl) rfl rfl ?_; refine L_nil ?_; refine T_n ?_; refine A_seq ?_; refine A_seq ?_; refine A_region ?_
  refine M0 (q_moveC rfl rfl rfl) rfl rfl ?_; refine M0 (q_lssK rfl rfl rfl rfl (by assumption)) rfl rfl ?_; refine L_nil ?_; refine T_n ?_; refine A_ifF rfl ?_; refine A_skip ?_; refine T_n ?_
  refine A_seq ?_; refine A_region ?_; refine M0 (q_moveC rfl rfl rfl) rfl rfl ?_; refine M0 (q_assignC rfl rfl rfl) rfl rfl ?_; refine L_nil ?_; refine T_n ?_; refine A_ret ?_; refine F_r ?_
  exact E_tmp rfl rfl (W_end [] (by decide) rfl rfl (I_eq (by rw [szr_pos (by omega)]; omega)))
set_option maxHeartbeats 2000000 in
theorem to_Replay (x : TReplay) (hg : Enc.wt x ≤ 1048576) : Con Try.prog 11 [] [ag x] (ownO (Enc.e x)) (.o (.ag (ownV 0 (Enc.e x)))) := by
  have hw : Enc.wt x = Enc.wt x.Level + Enc.wt x.Rows + Enc.wt x.Keys := rfl
  refine Con.of Try.func11 rfl Try.ntmps11 rfl (fun E => ?_)
  refine A_seq ?_; refine A_region ?_; refine M1 (q_boxN rfl rfl rfl rfl) rfl rfl ?_; refine M1 (q_alloc rfl rfl rfl) rfl rfl ?_; refine L_nil ?_; refine T_n ?_; refine A_seq ?_
  refine A_region ?_; refine M1 (q_alloc rfl rfl rfl) rfl rfl ?_; refine L_nil ?_; refine T_n ?_; refine A_seq ?_; refine A_region ?_; refine M0 (q_fldp rfl rfl rfl rfl (by decide)) rfl rfl ?_
  refine M0 (q_ldN rfl rfl rfl rfl rfl rfl) rfl rfl ?_; refine M1 (q_call rfl rfl (to_Level x.Level (by omega)) rfl rfl rfl) rfl rfl ?_
  refine M0 (q_fldp rfl rfl rfl rfl (by decide)) rfl rfl ?_; refine M_stN rfl rfl rfl rfl rfl rfl rfl rfl rfl ?_; refine L_nil ?_; refine T_n ?_; refine A_seq ?_; refine A_region ?_
  refine M0 (q_fldp rfl rfl rfl rfl (by decide)) rfl rfl ?_; refine M0 (q_ld1 rfl rfl rfl rfl rfl) rfl rfl ?_; refine M0 (q_fldp rfl rfl rfl rfl (by decide)) rfl rfl ?_
  refine M_st1 rfl rfl rfl rfl rfl rfl rfl rfl ?_; refine L_nil ?_; refine T_n ?_; refine A_seq ?_; refine A_region ?_; refine M0 (q_fldp rfl rfl rfl rfl (by decide)) rfl rfl ?_
  refine M0 (q_ld1 rfl rfl rfl rfl rfl) rfl rfl ?_; refine M0 (q_fldp rfl rfl rfl rfl (by decide)) rfl rfl ?_; refine M_st1 rfl rfl rfl rfl rfl rfl rfl rfl ?_; refine L_nil ?_; refine T_n ?_
  refine A_seq ?_; refine A_region ?_; refine M0 (q_fldp rfl rfl rfl rfl (by decide)) rfl rfl ?_; refine M0 (q_ld1 rfl rfl rfl rfl rfl) rfl rfl ?_
  refine M0 (q_fldp rfl rfl rfl rfl (by decide)) rfl rfl ?_; refine M_st1 rfl rfl rfl rfl rfl rfl rfl rfl ?_; refine L_nil ?_; refine T_n ?_; refine A_seq ?_; refine A_region ?_
  refine M0 (q_fldp rfl rfl rfl rfl (by decide)) rfl rfl ?_; refine M0 (q_ld1 rfl rfl rfl rfl rfl) rfl rfl ?_
  refine M1 (q_call rfl rfl (to_IntSS x.Rows (by omega)) rfl rfl rfl) rfl rfl ?_; refine M0 (q_fldp rfl rfl rfl rfl (by decide)) rfl rfl ?_
  refine M_st1 rfl rfl rfl rfl rfl rfl rfl rfl ?_; refine L_nil ?_; refine T_n ?_; refine A_seq ?_; refine A_region ?_; refine M0 (q_fldp rfl rfl rfl rfl (by decide)) rfl rfl ?_
  refine M0 (q_ld1 rfl rfl rfl rfl rfl) rfl rfl ?_; refine M1 (q_call rfl rfl (to_StringS x.Keys (by omega)) rfl rfl rfl) rfl rfl ?_
  refine M0 (q_fldp rfl rfl rfl rfl (by decide)) rfl rfl ?_; refine M_st1 rfl rfl rfl rfl rfl rfl rfl rfl ?_; refine L_nil ?_; refine T_n ?_; refine A_seq ?_; refine A_region ?_
  refine M0 (q_ldN rfl rfl rfl rfl rfl rfl) rfl rfl ?_; refine M_stN rfl rfl rfl rfl rfl rfl rfl rfl rfl ?_; refine L_nil ?_; refine T_n ?_; refine A_ret ?_; refine F_r ?_
  exact E_cell rfl rfl rfl rfl (W_end [3, 4, 5] (by decide) rfl rfl rfl)
set_option maxHeartbeats 2000000 in
theorem eq_Replay (x y : TReplay) (hg : Enc.gd x) : Con Try.prog 13 [] [ag x, ag y] [] (B (decide (x = y))) := by
  obtain ⟨g_Level, g_Players, g_Seed, g_Every, g_Rows, g_Keys⟩ := hg
  by_cases e_Level : ¬ x.Level = y.Level
  · have hc := eq_Level x.Level y.Level g_Level
    rw [decide_eq_false e_Level] at hc
    refine Con.of Try.func13 rfl Try.ntmps13 rfl (fun E => ?_)
    refine A_seq ?_; refine A_region ?_; refine M1 (q_boxN rfl rfl rfl rfl) rfl rfl ?_; refine M1 (q_boxN rfl rfl rfl rfl) rfl rfl ?_; refine M0 (q_assignC rfl rfl rfl) rfl rfl ?_
    refine L_nil ?_; refine T_n ?_; refine A_seq ?_; refine A_seq ?_; refine A_region ?_; refine M0 (q_fldp rfl rfl rfl rfl (by decide)) rfl rfl ?_
    refine M0 (q_ldN rfl rfl rfl rfl rfl rfl) rfl rfl ?_; refine M0 (q_fldp rfl rfl rfl rfl (by decide)) rfl rfl ?_; refine M0 (q_ldN rfl rfl rfl rfl rfl rfl) rfl rfl ?_
    refine M0 (q_call0 rfl rfl (hc) rfl) rfl rfl ?_; refine M0 (q_not rfl rfl rfl) rfl rfl ?_; refine L_nil ?_; refine T_n ?_; refine A_ifT rfl ?_; refine A_seq ?_; refine A_region ?_
    refine M0 (q_assignC rfl rfl rfl) rfl rfl ?_; refine L_nil ?_; refine T_n ?_; refine A_ret ?_; refine T_r ?_; refine F_r ?_
    exact E_tmp rfl rfl (W_end [] (by decide) rfl rfl (B_eq (decide_eq_false fun e => e_Level (by rw [e])).symm))
  have e_Level := Classical.not_not.1 e_Level
  have hc_Level := eq_Level x.Level y.Level g_Level
  rw [decide_eq_true e_Level] at hc_Level
  by_cases e_Players : ¬ x.Players = y.Players
  · have hk : decide (x.Players ≠ y.Players) = true := by simp [e_Players]
    refine Con.of Try.func13 rfl Try.ntmps13 rfl (fun E => ?_)
    refine A_seq ?_; refine A_region ?_; refine M1 (q_boxN rfl rfl rfl rfl) rfl rfl ?_; refine M1 (q_boxN rfl rfl rfl rfl) rfl rfl ?_; refine M0 (q_assignC rfl rfl rfl) rfl rfl ?_
    refine L_nil ?_; refine T_n ?_; refine A_seq ?_; refine A_seq ?_; refine A_region ?_; refine M0 (q_fldp rfl rfl rfl rfl (by decide)) rfl rfl ?_
    refine M0 (q_ldN rfl rfl rfl rfl rfl rfl) rfl rfl ?_; refine M0 (q_fldp rfl rfl rfl rfl (by decide)) rfl rfl ?_; refine M0 (q_ldN rfl rfl rfl rfl rfl rfl) rfl rfl ?_
    refine M0 (q_call0 rfl rfl (hc_Level) rfl) rfl rfl ?_; refine M0 (q_not rfl rfl rfl) rfl rfl ?_; refine L_nil ?_; refine T_n ?_; refine A_ifF rfl ?_; refine A_skip ?_; refine T_n ?_
    refine A_seq ?_; refine A_seq ?_; refine A_region ?_; refine M0 (q_fldp rfl rfl rfl rfl (by decide)) rfl rfl ?_; refine M0 (q_ld1 rfl rfl rfl rfl rfl) rfl rfl ?_
    refine M0 (q_fldp rfl rfl rfl rfl (by decide)) rfl rfl ?_; refine M0 (q_ld1 rfl rfl rfl rfl rfl) rfl rfl ?_; refine M0 (q_neqK rfl rfl rfl rfl (by assumption)) rfl rfl ?_
    refine L_nil ?_; refine T_n ?_; refine A_ifT rfl ?_; refine A_seq ?_; refine A_region ?_; refine M0 (q_assignC rfl rfl rfl) rfl rfl ?_; refine L_nil ?_; refine T_n ?_; refine A_ret ?_; refine T_r ?_
    refine F_r ?_
    exact E_tmp rfl rfl (W_end [] (by decide) rfl rfl (B_eq (decide_eq_false fun e => e_Players (by rw [e])).symm))
  have e_Players := Classical.not_not.1 e_Players
  have k_Players : decide (x.Players ≠ y.Players) = false := by simp [e_Players]
  by_cases e_Seed : ¬ x.Seed = y.Seed
  · have hk : decide (x.Seed ≠ y.Seed) = true := by simp [e_Seed]
    refine Con.of Try.func13 rfl Try.ntmps13 rfl (fun E => ?_)
    refine A_seq ?_; refine A_region ?_; refine M1 (q_boxN rfl rfl rfl rfl) rfl rfl ?_; refine M1 (q_boxN rfl rfl rfl rfl) rfl rfl ?_; refine M0 (q_assignC rfl rfl rfl) rfl rfl ?_
    refine L_nil ?_; refine T_n ?_; refine A_seq ?_; refine A_seq ?_; refine A_region ?_; refine M0 (q_fldp rfl rfl rfl rfl (by decide)) rfl rfl ?_
    refine M0 (q_ldN rfl rfl rfl rfl rfl rfl) rfl rfl ?_; refine M0 (q_fldp rfl rfl rfl rfl (by decide)) rfl rfl ?_; refine M0 (q_ldN rfl rfl rfl rfl rfl rfl) rfl rfl ?_
    refine M0 (q_call0 rfl rfl (hc_Level) rfl) rfl rfl ?_; refine M0 (q_not rfl rfl rfl) rfl rfl ?_; refine L_nil ?_; refine T_n ?_; refine A_ifF rfl ?_; refine A_skip ?_; refine T_n ?_
    refine A_seq ?_; refine A_seq ?_; refine A_region ?_; refine M0 (q_fldp rfl rfl rfl rfl (by decide)) rfl rfl ?_; refine M0 (q_ld1 rfl rfl rfl rfl rfl) rfl rfl ?_
    refine M0 (q_fldp rfl rfl rfl rfl (by decide)) rfl rfl ?_; refine M0 (q_ld1 rfl rfl rfl rfl rfl) rfl rfl ?_; refine M0 (q_neqK rfl rfl rfl rfl (by assumption)) rfl rfl ?_
    refine L_nil ?_; refine T_n ?_; refine A_ifF rfl ?_; refine A_skip ?_; refine T_n ?_; refine A_seq ?_; refine A_seq ?_; refine A_region ?_
    refine M0 (q_fldp rfl rfl rfl rfl (by decide)) rfl rfl ?_; refine M0 (q_ld1 rfl rfl rfl rfl rfl) rfl rfl ?_; refine M0 (q_fldp rfl rfl rfl rfl (by decide)) rfl rfl ?_
    refine M0 (q_ld1 rfl rfl rfl rfl rfl) rfl rfl ?_; refine M0 (q_neqK rfl rfl rfl rfl (by assumption)) rfl rfl ?_; refine L_nil ?_; refine T_n ?_; refine A_ifT rfl ?_; refine A_seq ?_
    refine A_region ?_; refine M0 (q_assignC rfl rfl rfl) rfl rfl ?_; refine L_nil ?_; refine T_n ?_; refine A_ret ?_; refine T_r ?_; refine F_r ?_
    exact E_tmp rfl rfl (W_end [] (by decide) rfl rfl (B_eq (decide_eq_false fun e => e_Seed (by rw [e])).symm))
  have e_Seed := Classical.not_not.1 e_Seed
  have k_Seed : decide (x.Seed ≠ y.Seed) = false := by simp [e_Seed]
  by_cases e_Every : ¬ x.Every = y.Every
  · have hk : decide (x.Every ≠ y.Every) = true := by simp [e_Every]
    refine Con.of Try.func13 rfl Try.ntmps13 rfl (fun E => ?_)
    refine A_seq ?_; refine A_region ?_; refine M1 (q_boxN rfl rfl rfl rfl) rfl rfl ?_; refine M1 (q_boxN rfl rfl rfl rfl) rfl rfl ?_; refine M0 (q_assignC rfl rfl rfl) rfl rfl ?_
    refine L_nil ?_; refine T_n ?_; refine A_seq ?_; refine A_seq ?_; refine A_region ?_; refine M0 (q_fldp rfl rfl rfl rfl (by decide)) rfl rfl ?_
    refine M0 (q_ldN rfl rfl rfl rfl rfl rfl) rfl rfl ?_; refine M0 (q_fldp rfl rfl rfl rfl (by decide)) rfl rfl ?_; refine M0 (q_ldN rfl rfl rfl rfl rfl rfl) rfl rfl ?_
    refine M0 (q_call0 rfl rfl (hc_Level) rfl) rfl rfl ?_; refine M0 (q_not rfl rfl rfl) rfl rfl ?_; refine L_nil ?_; refine T_n ?_; refine A_ifF rfl ?_; refine A_skip ?_; refine T_n ?_
    refine A_seq ?_; refine A_seq ?_; refine A_region ?_; refine M0 (q_fldp rfl rfl rfl rfl (by decide)) rfl rfl ?_; refine M0 (q_ld1 rfl rfl rfl rfl rfl) rfl rfl ?_
    refine M0 (q_fldp rfl rfl rfl rfl (by decide)) rfl rfl ?_; refine M0 (q_ld1 rfl rfl rfl rfl rfl) rfl rfl ?_; refine M0 (q_neqK rfl rfl rfl rfl (by assumption)) rfl rfl ?_
    refine L_nil ?_; refine T_n ?_; refine A_ifF rfl ?_; refine A_skip ?_; refine T_n ?_; refine A_seq ?_; refine A_seq ?_; refine A_region ?_
    refine M0 (q_fldp rfl rfl rfl rfl (by decide)) rfl rfl ?_; refine M0 (q_ld1 rfl rfl rfl rfl rfl) rfl rfl ?_; refine M0 (q_fldp rfl rfl rfl rfl (by decide)) rfl rfl ?_
    refine M0 (q_ld1 rfl rfl rfl rfl rfl) rfl rfl ?_; refine M0 (q_neqK rfl rfl rfl rfl (by assumption)) rfl rfl ?_; refine L_nil ?_; refine T_n ?_; refine A_ifF rfl ?_; refine A_skip ?_
    refine T_n ?_; refine A_seq ?_; refine A_seq ?_; refine A_region ?_; refine M0 (q_fldp rfl rfl rfl rfl (by decide)) rfl rfl ?_; refine M0 (q_ld1 rfl rfl rfl rfl rfl) rfl rfl ?_
    refine M0 (q_fldp rfl rfl rfl rfl (by decide)) rfl rfl ?_; refine M0 (q_ld1 rfl rfl rfl rfl rfl) rfl rfl ?_; refine M0 (q_neqK rfl rfl rfl rfl (by assumption)) rfl rfl ?_
    refine L_nil ?_; refine T_n ?_; refine A_ifT rfl ?_; refine A_seq ?_; refine A_region ?_; refine M0 (q_assignC rfl rfl rfl) rfl rfl ?_; refine L_nil ?_; refine T_n ?_; refine A_ret ?_; refine T_r ?_
    refine F_r ?_
    exact E_tmp rfl rfl (W_end [] (by decide) rfl rfl (B_eq (decide_eq_false fun e => e_Every (by rw [e])).symm))
  have e_Every := Classical.not_not.1 e_Every
  have k_Every : decide (x.Every ≠ y.Every) = false := by simp [e_Every]
  by_cases e_Rows : ¬ x.Rows = y.Rows
  · have hc := eq_IntSS x.Rows y.Rows g_Rows
    rw [decide_eq_false e_Rows] at hc
    refine Con.of Try.func13 rfl Try.ntmps13 rfl (fun E => ?_)
    refine A_seq ?_; refine A_region ?_; refine M1 (q_boxN rfl rfl rfl rfl) rfl rfl ?_; refine M1 (q_boxN rfl rfl rfl rfl) rfl rfl ?_; refine M0 (q_assignC rfl rfl rfl) rfl rfl ?_
    refine L_nil ?_; refine T_n ?_; refine A_seq ?_; refine A_seq ?_; refine A_region ?_; refine M0 (q_fldp rfl rfl rfl rfl (by decide)) rfl rfl ?_
    refine M0 (q_ldN rfl rfl rfl rfl rfl rfl) rfl rfl ?_; refine M0 (q_fldp rfl rfl rfl rfl (by decide)) rfl rfl ?_; refine M0 (q_ldN rfl rfl rfl rfl rfl rfl) rfl rfl ?_
    refine M0 (q_call0 rfl rfl (hc_Level) rfl) rfl rfl ?_; refine M0 (q_not rfl rfl rfl) rfl rfl ?_; refine L_nil ?_; refine T_n ?_; refine A_ifF rfl ?_; refine A_skip ?_; refine T_n ?_
    refine A_seq ?_; refine A_seq ?_; refine A_region ?_; refine M0 (q_fldp rfl rfl rfl rfl (by decide)) rfl rfl ?_; refine M0 (q_ld1 rfl rfl rfl rfl rfl) rfl rfl ?_
    refine M0 (q_fldp rfl rfl rfl rfl (by decide)) rfl rfl ?_; refine M0 (q_ld1 rfl rfl rfl rfl rfl) rfl rfl ?_; refine M0 (q_neqK rfl rfl rfl rfl (by assumption)) rfl rfl ?_
    refine L_nil ?_; refine T_n ?_; refine A_ifF rfl ?_; refine A_skip ?_; refine T_n ?_; refine A_seq ?_; refine A_seq ?_; refine A_region ?_
    refine M0 (q_fldp rfl rfl rfl rfl (by decide)) rfl rfl ?_; refine M0 (q_ld1 rfl rfl rfl rfl rfl) rfl rfl ?_; refine M0 (q_fldp rfl rfl rfl rfl (by decide)) rfl rfl ?_
    refine M0 (q_ld1 rfl rfl rfl rfl rfl) rfl rfl ?_; refine M0 (q_neqK rfl rfl rfl rfl (by assumption)) rfl rfl ?_; refine L_nil ?_; refine T_n ?_; refine A_ifF rfl ?_; refine A_skip ?_
    refine T_n ?_; refine A_seq ?_; refine A_seq ?_; refine A_region ?_; refine M0 (q_fldp rfl rfl rfl rfl (by decide)) rfl rfl ?_; refine M0 (q_ld1 rfl rfl rfl rfl rfl) rfl rfl ?_
    refine M0 (q_fldp rfl rfl rfl rfl (by decide)) rfl rfl ?_; refine M0 (q_ld1 rfl rfl rfl rfl rfl) rfl rfl ?_; refine M0 (q_neqK rfl rfl rfl rfl (by assumption)) rfl rfl ?_
    refine L_nil ?_; refine T_n ?_; refine A_ifF rfl ?_; refine A_skip ?_; refine T_n ?_; refine A_seq ?_; refine A_seq ?_; refine A_region ?_
    refine M0 (q_fldp rfl rfl rfl rfl (by decide)) rfl rfl ?_; refine M0 (q_ld1 rfl rfl rfl rfl rfl) rfl rfl ?_; refine M0 (q_fldp rfl rfl rfl rfl (by decide)) rfl rfl ?_
    refine M0 (q_ld1 rfl rfl rfl rfl rfl) rfl rfl ?_; refine M0 (q_call0 rfl rfl (hc) rfl) rfl rfl ?_; refine M0 (q_not rfl rfl rfl) rfl rfl ?_; refine L_nil ?_; refine T_n ?_
    refine A_ifT rfl ?_; refine A_seq ?_; refine A_region ?_; refine M0 (q_assignC rfl rfl rfl) rfl rfl ?_; refine L_nil ?_; refine T_n ?_; refine A_ret ?_; refine T_r ?_; refine F_r ?_
    exact E_tmp rfl rfl (W_end [] (by decide) rfl rfl (B_eq (decide_eq_false fun e => e_Rows (by rw [e])).symm))
  have e_Rows := Classical.not_not.1 e_Rows
  have hc_Rows := eq_IntSS x.Rows y.Rows g_Rows
  rw [decide_eq_true e_Rows] at hc_Rows
  by_cases e_Keys : ¬ x.Keys = y.Keys
  · have hc := eq_StringS x.Keys y.Keys g_Keys
    rw [decide_eq_false e_Keys] at hc
    refine Con.of Try.func13 rfl Try.ntmps13 rfl (fun E => ?_)
    refine A_seq ?_; refine A_region ?_; refine M1 (q_boxN rfl rfl rfl rfl) rfl rfl ?_; refine M1 (q_boxN rfl rfl rfl rfl) rfl rfl ?_; refine M0 (q_assignC rfl rfl rfl) rfl rfl ?_
    refine L_nil ?_; refine T_n ?_; refine A_seq ?_; refine A_seq ?_; refine A_region ?_; refine M0 (q_fldp rfl rfl rfl rfl (by decide)) rfl rfl ?_
    refine M0 (q_ldN rfl rfl rfl rfl rfl rfl) rfl rfl ?_; refine M0 (q_fldp rfl rfl rfl rfl (by decide)) rfl rfl ?_; refine M0 (q_ldN rfl rfl rfl rfl rfl rfl) rfl rfl ?_
    refine M0 (q_call0 rfl rfl (hc_Level) rfl) rfl rfl ?_; refine M0 (q_not rfl rfl rfl) rfl rfl ?_; refine L_nil ?_; refine T_n ?_; refine A_ifF rfl ?_; refine A_skip ?_; refine T_n ?_
    refine A_seq ?_; refine A_seq ?_; refine A_region ?_; refine M0 (q_fldp rfl rfl rfl rfl (by decide)) rfl rfl ?_; refine M0 (q_ld1 rfl rfl rfl rfl rfl) rfl rfl ?_
    refine M0 (q_fldp rfl rfl rfl rfl (by decide)) rfl rfl ?_; refine M0 (q_ld1 rfl rfl rfl rfl rfl) rfl rfl ?_; refine M0 (q_neqK rfl rfl rfl rfl (by assumption)) rfl rfl ?_
    refine L_nil ?_; refine T_n ?_; refine A_ifF rfl ?_; refine A_skip ?_; refine T_n ?_; refine A_seq ?_; refine A_seq ?_; refine A_region ?_
    refine M0 (q_fldp rfl rfl rfl rfl (by decide)) rfl rfl ?_; refine M0 (q_ld1 rfl rfl rfl rfl rfl) rfl rfl ?_; refine M0 (q_fldp rfl rfl rfl rfl (by decide)) rfl rfl ?_
    refine M0 (q_ld1 rfl rfl rfl rfl rfl) rfl rfl ?_; refine M0 (q_neqK rfl rfl rfl rfl (by assumption)) rfl rfl ?_; refine L_nil ?_; refine T_n ?_; refine A_ifF rfl ?_; refine A_skip ?_
    refine T_n ?_; refine A_seq ?_; refine A_seq ?_; refine A_region ?_; refine M0 (q_fldp rfl rfl rfl rfl (by decide)) rfl rfl ?_; refine M0 (q_ld1 rfl rfl rfl rfl rfl) rfl rfl ?_
    refine M0 (q_fldp rfl rfl rfl rfl (by decide)) rfl rfl ?_; refine M0 (q_ld1 rfl rfl rfl rfl rfl) rfl rfl ?_; refine M0 (q_neqK rfl rfl rfl rfl (by assumption)) rfl rfl ?_
    refine L_nil ?_; refine T_n ?_; refine A_ifF rfl ?_; refine A_skip ?_; refine T_n ?_; refine A_seq ?_; refine A_seq ?_; refine A_region ?_
    refine M0 (q_fldp rfl rfl rfl rfl (by decide)) rfl rfl ?_; refine M0 (q_ld1 rfl rfl rfl rfl rfl) rfl rfl ?_; refine M0 (q_fldp rfl rfl rfl rfl (by decide)) rfl rfl ?_
    refine M0 (q_ld1 rfl rfl rfl rfl rfl) rfl rfl ?_; refine M0 (q_call0 rfl rfl (hc_Rows) rfl) rfl rfl ?_; refine M0 (q_not rfl rfl rfl) rfl rfl ?_; refine L_nil ?_; refine T_n ?_
    refine A_ifF rfl ?_; refine A_skip ?_; refine T_n ?_; refine A_seq ?_; refine A_seq ?_; refine A_region ?_; refine M0 (q_fldp rfl rfl rfl rfl (by decide)) rfl rfl ?_
    refine M0 (q_ld1 rfl rfl rfl rfl rfl) rfl rfl ?_; refine M0 (q_fldp rfl rfl rfl rfl (by decide)) rfl rfl ?_; refine M0 (q_ld1 rfl rfl rfl rfl rfl) rfl rfl ?_
    refine M0 (q_call0 rfl rfl (hc) rfl) rfl rfl ?_; refine M0 (q_not rfl rfl rfl) rfl rfl ?_; refine L_nil ?_; refine T_n ?_; refine A_ifT rfl ?_; refine A_seq ?_; refine A_region ?_
    refine M0 (q_assignC rfl rfl rfl) rfl rfl ?_; refine L_nil ?_; refine T_n ?_; refine A_ret ?_; refine T_r ?_; refine F_r ?_
    exact E_tmp rfl rfl (W_end [] (by decide) rfl rfl (B_eq (decide_eq_false fun e => e_Keys (by rw [e])).symm))
  have e_Keys := Classical.not_not.1 e_Keys
  have hc_Keys := eq_StringS x.Keys y.Keys g_Keys
  rw [decide_eq_true e_Keys] at hc_Keys
  refine Con.of Try.func13 rfl Try.ntmps13 rfl (fun E => ?_)
  refine A_seq ?_; refine A_region ?_; refine M1 (q_boxN rfl rfl rfl rfl) rfl rfl ?_; refine M1 (q_boxN rfl rfl rfl rfl) rfl rfl ?_; refine M0 (q_assignC rfl rfl rfl) rfl rfl ?_
  refine L_nil ?_; refine T_n ?_; refine A_seq ?_; refine A_seq ?_; refine A_region ?_; refine M0 (q_fldp rfl rfl rfl rfl (by decide)) rfl rfl ?_
  refine M0 (q_ldN rfl rfl rfl rfl rfl rfl) rfl rfl ?_; refine M0 (q_fldp rfl rfl rfl rfl (by decide)) rfl rfl ?_; refine M0 (q_ldN rfl rfl rfl rfl rfl rfl) rfl rfl ?_
  refine M0 (q_call0 rfl rfl (hc_Level) rfl) rfl rfl ?_; refine M0 (q_not rfl rfl rfl) rfl rfl ?_; refine L_nil ?_; refine T_n ?_; refine A_ifF rfl ?_; refine A_skip ?_; refine T_n ?_
  refine A_seq ?_; refine A_seq ?_; refine A_region ?_; refine M0 (q_fldp rfl rfl rfl rfl (by decide)) rfl rfl ?_; refine M0 (q_ld1 rfl rfl rfl rfl rfl) rfl rfl ?_
  refine M0 (q_fldp rfl rfl rfl rfl (by decide)) rfl rfl ?_; refine M0 (q_ld1 rfl rfl rfl rfl rfl) rfl rfl ?_; refine M0 (q_neqK rfl rfl rfl rfl (by assumption)) rfl rfl ?_
  refine L_nil ?_; refine T_n ?_; refine A_ifF rfl ?_; refine A_skip ?_; refine T_n ?_; refine A_seq ?_; refine A_seq ?_; refine A_region ?_
  refine M0 (q_fldp rfl rfl rfl rfl (by decide)) rfl rfl ?_; refine M0 (q_ld1 rfl rfl rfl rfl rfl) rfl rfl ?_; refine M0 (q_fldp rfl rfl rfl rfl (by decide)) rfl rfl ?_
  refine M0 (q_ld1 rfl rfl rfl rfl rfl) rfl rfl ?_; refine M0 (q_neqK rfl rfl rfl rfl (by assumption)) rfl rfl ?_; refine L_nil ?_; refine T_n ?_; refine A_ifF rfl ?_; refine A_skip ?_
  refine T_n ?_; refine A_seq ?_; refine A_seq ?_; refine A_region ?_; refine M0 (q_fldp rfl rfl rfl rfl (by decide)) rfl rfl ?_; refine M0 (q_ld1 rfl rfl rfl rfl rfl) rfl rfl ?_
  refine M0 (q_fldp rfl rfl rfl rfl (by decide)) rfl rfl ?_; refine M0 (q_ld1 rfl rfl rfl rfl rfl) rfl rfl ?_; refine M0 (q_neqK rfl rfl rfl rfl (by assumption)) rfl rfl ?_
  refine L_nil ?_; refine T_n ?_; refine A_ifF rfl ?_; refine A_skip ?_; refine T_n ?_; refine A_seq ?_; refine A_seq ?_; refine A_region ?_
  refine M0 (q_fldp rfl rfl rfl rfl (by decide)) rfl rfl ?_; refine M0 (q_ld1 rfl rfl rfl rfl rfl) rfl rfl ?_; refine M0 (q_fldp rfl rfl rfl rfl (by decide)) rfl rfl ?_
  refine M0 (q_ld1 rfl rfl rfl rfl rfl) rfl rfl ?_; refine M0 (q_call0 rfl rfl (hc_Rows) rfl) rfl rfl ?_; refine M0 (q_not rfl rfl rfl) rfl rfl ?_; refine L_nil ?_; refine T_n ?_
  refine A_ifF rfl ?_; refine A_skip ?_; refine T_n ?_; refine A_seq ?_; refine A_seq ?_; refine A_region ?_; refine M0 (q_fldp rfl rfl rfl rfl (by decide)) rfl rfl ?_
  refine M0 (q_ld1 rfl rfl rfl rfl rfl) rfl rfl ?_; refine M0 (q_fldp rfl rfl rfl rfl (by decide)) rfl rfl ?_; refine M0 (q_ld1 rfl rfl rfl rfl rfl) rfl rfl ?_
  refine M0 (q_call0 rfl rfl (hc_Keys) rfl) rfl rfl ?_; refine M0 (q_not rfl rfl rfl) rfl rfl ?_; refine L_nil ?_; refine T_n ?_; refine A_ifF rfl ?_; refine A_skip ?_; refine T_n ?_
  refine A_seq ?_; refine A_region ?_; refine M0 (q_assignC rfl rfl rfl) rfl rfl ?_; refine L_nil ?_; refine T_n ?_; refine A_ret ?_; refine F_r ?_
  exact E_tmp rfl rfl (W_end [] (by decide) rfl rfl (B_eq (decide_eq_true (TReplay.same e_Level e_Players e_Seed e_Every e_Rows e_Keys)).symm))

end Go.Proofs.Ytkfnaniegldfaaa
