/-
  CutReplay, of the program and of the reference, return the replay that cutReplay names.
  Conditions: the replay holds at most 2^20 values.
-/
import Derived.Test.YtkfnaniegldfaaaDCut
set_option linter.unusedSimpArgs false
set_option linter.unusedVariables false
namespace Go.Proofs.Ytkfnaniegldfaaa
open Go.RowKit

def cutOk (x : TReplay) (n : Int) : Bool := replayOk x && decide (0 ≤ n ∧ n ≤ x.Rows.length)
def cutReplay (x : TReplay) (n : Int) : TReplay := if cutOk x n = true then ⟨x.Level, x.Players, x.Seed, x.Every, x.Rows.take n.toNat, x.Keys.take (n / x.Every).toNat⟩ else zeroReplay
theorem els_takeE {α : Type} [Enc α] (xs : List α) (n : Nat) : els (xs.take n) = (els xs).take n := List.map_take
theorem cut_own (x : TReplay) (p s e : Int) (n m : Nat) : ownO (Enc.e (⟨x.Level, p, s, e, x.Rows.take n, x.Keys.take m⟩ : TReplay)) = [.row 1 (els x.Level.Rows), .row 1 ((els x.Rows).take n), .row 1 ((els x.Keys).take m)] := by
  rw [← els_takeE, ← els_takeE]
  rfl
theorem replay_facts {x : TReplay} (h : replayOk x = true) : 1 ≤ x.Players ∧ x.Players ≤ 4 ∧ 1 ≤ x.Every ∧ x.Every ≤ 100 ∧ x.Rows.length ≤ 400 ∧ (∀ r ∈ x.Rows, rowOk r x.Players = true) ∧ (x.Keys.length : Int) = (x.Rows.length : Int) / x.Every := by
  unfold replayOk at h
  simp only [Bool.and_eq_true, decide_eq_true_eq, List.all_eq_true] at h
  obtain ⟨⟨⟨⟨⟨⟨h1, h2⟩, h3⟩, h4⟩, h5⟩, h6⟩, h7⟩ := h
  exact ⟨(inR_iff.1 h2).1, (inR_iff.1 h2).2, (inR_iff.1 h4).1, (inR_iff.1 h4).2, h5, h6, h7⟩
theorem row_facts {r : List Int} {p : Int} (h : rowOk r p = true) : (r.length : Int) = p := by
  unfold rowOk at h
  simp only [Bool.and_eq_true, decide_eq_true_eq] at h
  exact h.1
theorem cut_keys {x : TReplay} (h : replayOk x = true) {n : Int} (h0 : 0 ≤ n) (h1 : n ≤ x.Rows.length) : 0 ≤ n / x.Every ∧ n / x.Every ≤ x.Keys.length := by
  obtain ⟨_, _, h3, _, _, _, h4⟩ := replay_facts h
  rw [h4]
  exact ⟨Int.ediv_nonneg h0 (by omega), Int.ediv_le_ediv (by omega) h1⟩
set_option maxHeartbeats 8000000 in
theorem I_CutReplay (x : TReplay) (n : Int) (hg : Enc.gd x) (hn : I64 n) (h1 : x.Level.Rows.length ≤ 1048576) (h2 : x.Keys.length ≤ 1048576) (h3 : x.Rows.length ≤ 1048576) : Con Try.prog 12 [] [ag x, ai n] (ownO (Enc.e (cutReplay x n))) (.tu [.ag (ownV 0 (Enc.e (cutReplay x n))), .c (.rd [] (.v (.bool (cutOk x n))))]) := by
  have hc := I_ReplayOk x hg
  have hlr := els_len x.Rows
  have hlk := els_len x.Keys
  have hn1 := hn.1
  have hn2 := hn.2
  cases hr : replayOk x with
  | false =>
    rw [hr] at hc
    have hco : cutOk x n = false := by rw [cutOk, hr]; rfl
    rw [show cutReplay x n = zeroReplay by rw [cutReplay, hco]; rfl, hco]
    refine Con.of Try.func12 rfl Try.ntmps12 rfl (fun E => ?_)
    refine A_seq ?_; refine A_region ?_; refine M1 (q_boxN rfl rfl rfl rfl) rfl rfl ?_; refine M1 (q_alloc rfl rfl rfl) rfl rfl ?_; refine M0 (q_assignC rfl rfl rfl) rfl rfl ?_; refine L_nil ?_
    refine T_n ?_; refine A_seq ?_; refine A_seq ?_; refine A_region ?_; refine M0 (q_ldN rfl rfl rfl rfl rfl rfl) rfl rfl ?_; refine M0 (q_call0 rfl rfl (hc) rfl) rfl rfl ?_
    refine M0 (q_not rfl rfl rfl) rfl rfl ?_; refine M0 (q_moveC rfl rfl rfl) rfl rfl ?_; refine M_no rfl rfl rfl rfl rfl rfl ?_; refine M_no rfl rfl rfl rfl rfl rfl ?_
    refine M0 (q_pickT rfl rfl rfl rfl) rfl rfl ?_; refine M0 (q_moveC rfl rfl rfl) rfl rfl ?_; refine M_no rfl rfl rfl rfl rfl rfl ?_; refine M_no rfl rfl rfl rfl rfl rfl ?_
    refine M_no rfl rfl rfl rfl rfl rfl ?_; refine M_no rfl rfl rfl rfl rfl rfl ?_; refine M_no rfl rfl rfl rfl rfl rfl ?_; refine M0 (q_pickT rfl rfl rfl rfl) rfl rfl ?_; refine L_nil ?_
    refine T_n ?_; refine A_ifT rfl ?_; refine A_seq ?_; refine A_region ?_; refine M0 (q_build rfl rfl rfl rfl rfl) rfl rfl ?_; refine M_stN rfl rfl rfl rfl rfl rfl rfl rfl rfl ?_
    refine M0 (q_assignC rfl rfl rfl) rfl rfl ?_; refine L_nil ?_; refine T_n ?_; refine A_ret ?_; refine T_r ?_; refine F_r ?_
    exact E_cellt rfl rfl rfl rfl rfl (W_fill [1, 1, 1] [2, 3, 4] rfl rfl (by decide) rfl rfl rfl)
  | true =>
    rw [hr] at hc
    obtain ⟨_, _, f3, f4, f5, f6, f7⟩ := replay_facts hr
    by_cases hin : ¬ (0 ≤ n ∧ n ≤ x.Rows.length)
    · have hco : cutOk x n = false := by rw [cutOk, hr, decide_eq_false hin]; rfl
      rw [show cutReplay x n = zeroReplay by rw [cutReplay, hco]; rfl, hco]
      by_cases hlt : n < 0
      · have hb1 : decide (n < 0) = true := decide_eq_true hlt
        refine Con.of Try.func12 rfl Try.ntmps12 rfl (fun E => ?_)
        refine A_seq ?_; refine A_region ?_; refine M1 (q_boxN rfl rfl rfl rfl) rfl rfl ?_; refine M1 (q_alloc rfl rfl rfl) rfl rfl ?_; refine M0 (q_assignC rfl rfl rfl) rfl rfl ?_; refine L_nil ?_
        refine T_n ?_; refine A_seq ?_; refine A_seq ?_; refine A_region ?_; refine M0 (q_ldN rfl rfl rfl rfl rfl rfl) rfl rfl ?_; refine M0 (q_call0 rfl rfl (hc) rfl) rfl rfl ?_
        refine M0 (q_not rfl rfl rfl) rfl rfl ?_; refine M0 (q_moveC rfl rfl rfl) rfl rfl ?_; refine M_yes rfl rfl rfl ?_; refine M0 (q_moveC rfl rfl rfl) rfl rfl ?_; refine M_yes rfl rfl rfl ?_
        refine M0 (q_lssK rfl rfl rfl rfl (by assumption)) rfl rfl ?_; refine M0 (q_pickF rfl rfl rfl rfl) rfl rfl ?_; refine M0 (q_moveC rfl rfl rfl) rfl rfl ?_
        refine M_no rfl rfl rfl rfl rfl rfl ?_; refine M_no rfl rfl rfl rfl rfl rfl ?_; refine M_no rfl rfl rfl rfl rfl rfl ?_; refine M_no rfl rfl rfl rfl rfl rfl ?_
        refine M_no rfl rfl rfl rfl rfl rfl ?_; refine M0 (q_pickT rfl rfl rfl rfl) rfl rfl ?_; refine L_nil ?_; refine T_n ?_; refine A_ifT rfl ?_; refine A_seq ?_; refine A_region ?_
        refine M0 (q_build rfl rfl rfl rfl rfl) rfl rfl ?_; refine M_stN rfl rfl rfl rfl rfl rfl rfl rfl rfl ?_; refine M0 (q_assignC rfl rfl rfl) rfl rfl ?_; refine L_nil ?_; refine T_n ?_
        refine A_ret ?_; refine T_r ?_; refine F_r ?_
        exact E_cellt rfl rfl rfl rfl rfl (W_fill [1, 1, 1] [2, 3, 4] rfl rfl (by decide) rfl rfl rfl)
      have hb1 : decide (n < 0) = false := decide_eq_false hlt
      have hb2 : decide (((els x.Rows).length : Int) < n) = true := decide_eq_true (by omega)
      refine Con.of Try.func12 rfl Try.ntmps12 rfl (fun E => ?_)
      refine A_seq ?_; refine A_region ?_; refine M1 (q_boxN rfl rfl rfl rfl) rfl rfl ?_; refine M1 (q_alloc rfl rfl rfl) rfl rfl ?_; refine M0 (q_assignC rfl rfl rfl) rfl rfl ?_; refine L_nil ?_
      refine T_n ?_; refine A_seq ?_; refine A_seq ?_; refine A_region ?_; refine M0 (q_ldN rfl rfl rfl rfl rfl rfl) rfl rfl ?_; refine M0 (q_call0 rfl rfl (hc) rfl) rfl rfl ?_
      refine M0 (q_not rfl rfl rfl) rfl rfl ?_; refine M0 (q_moveC rfl rfl rfl) rfl rfl ?_; refine M_yes rfl rfl rfl ?_; refine M0 (q_moveC rfl rfl rfl) rfl rfl ?_; refine M_yes rfl rfl rfl ?_
      refine M0 (q_lssK rfl rfl rfl rfl (by assumption)) rfl rfl ?_; refine M0 (q_pickF rfl rfl rfl rfl) rfl rfl ?_; refine M0 (q_moveC rfl rfl rfl) rfl rfl ?_; refine M_yes rfl rfl rfl ?_
      refine M0 (q_moveC rfl rfl rfl) rfl rfl ?_; refine M_yes rfl rfl rfl ?_; refine M0 (q_fldp rfl rfl rfl rfl (by decide)) rfl rfl ?_; refine M_yes rfl rfl rfl ?_
      refine M0 (q_ld1 rfl rfl rfl rfl rfl) rfl rfl ?_; refine M_yes rfl rfl rfl ?_; refine M0 (q_len rfl rfl rfl) rfl rfl ?_; refine M_yes rfl rfl rfl ?_
      refine M0 (q_gtrK rfl rfl rfl rfl (by assumption)) rfl rfl ?_; refine M0 (q_pickF rfl rfl rfl rfl) rfl rfl ?_; refine L_nil ?_; refine T_n ?_; refine A_ifT rfl ?_; refine A_seq ?_
      refine A_region ?_; refine M0 (q_build rfl rfl rfl rfl rfl) rfl rfl ?_; refine M_stN rfl rfl rfl rfl rfl rfl rfl rfl rfl ?_; refine M0 (q_assignC rfl rfl rfl) rfl rfl ?_; refine L_nil ?_
      refine T_n ?_; refine A_ret ?_; refine T_r ?_; refine F_r ?_
      exact E_cellt rfl rfl rfl rfl rfl (W_fill [1, 1, 1] [2, 3, 4] rfl rfl (by decide) rfl rfl rfl)
    have hin := Classical.not_not.1 hin
    have hco : cutOk x n = true := by rw [cutOk, hr, decide_eq_true hin]; rfl
    rw [show cutReplay x n = ⟨x.Level, x.Players, x.Seed, x.Every, x.Rows.take n.toNat, x.Keys.take (n / x.Every).toNat⟩ by rw [cutReplay, hco]; rfl, hco, cut_own]
    have hkk := cut_keys hr hin.1 hin.2
    have hrl : ∀ r ∈ x.Rows, 0 < r.length ∧ r.length ≤ 1048576 := fun r hm => by
      have h8 := row_facts (f6 r hm)
      omega
    have hcp := I_copyReplay x hg h1 h2 h3 (fun r hm => (hrl r hm).2)
    have hb1 : decide (n < 0) = false := decide_eq_false (by omega)
    have hb2 : decide (((els x.Rows).length : Int) < n) = false := decide_eq_false (by omega)
    refine Con.of Try.func12 rfl Try.ntmps12 rfl (fun E => ?_)
    refine A_seq ?_; refine A_region ?_; refine M1 (q_boxN rfl rfl rfl rfl) rfl rfl ?_; refine M1 (q_alloc rfl rfl rfl) rfl rfl ?_; refine M0 (q_assignC rfl rfl rfl) rfl rfl ?_; refine L_nil ?_
    refine T_n ?_; refine A_seq ?_; refine A_seq ?_; refine A_region ?_; refine M0 (q_ldN rfl rfl rfl rfl rfl rfl) rfl rfl ?_; refine M0 (q_call0 rfl rfl (hc) rfl) rfl rfl ?_
    refine M0 (q_not rfl rfl rfl) rfl rfl ?_; refine M0 (q_moveC rfl rfl rfl) rfl rfl ?_; refine M_yes rfl rfl rfl ?_; refine M0 (q_moveC rfl rfl rfl) rfl rfl ?_; refine M_yes rfl rfl rfl ?_
    refine M0 (q_lssK rfl rfl rfl rfl (by assumption)) rfl rfl ?_; refine M0 (q_pickF rfl rfl rfl rfl) rfl rfl ?_; refine M0 (q_moveC rfl rfl rfl) rfl rfl ?_; refine M_yes rfl rfl rfl ?_
    refine M0 (q_moveC rfl rfl rfl) rfl rfl ?_; refine M_yes rfl rfl rfl ?_; refine M0 (q_fldp rfl rfl rfl rfl (by decide)) rfl rfl ?_; refine M_yes rfl rfl rfl ?_
    refine M0 (q_ld1 rfl rfl rfl rfl rfl) rfl rfl ?_; refine M_yes rfl rfl rfl ?_; refine M0 (q_len rfl rfl rfl) rfl rfl ?_; refine M_yes rfl rfl rfl ?_
    refine M0 (q_gtrK rfl rfl rfl rfl (by assumption)) rfl rfl ?_; refine M0 (q_pickF rfl rfl rfl rfl) rfl rfl ?_; refine L_nil ?_; refine T_n ?_; refine A_ifF rfl ?_; refine A_skip ?_
    refine T_n ?_; refine A_seq ?_; refine A_region ?_; refine M0 (q_ldN rfl rfl rfl rfl rfl rfl) rfl rfl ?_; refine M1 (q_call rfl rfl (hcp) rfl rfl rfl) rfl rfl ?_
    refine M1 (q_alloc rfl rfl rfl) rfl rfl ?_; refine M_stN rfl rfl rfl rfl rfl rfl rfl rfl rfl ?_; refine L_nil ?_; refine T_n ?_; refine A_seq ?_; refine A_region ?_
    refine M0 (q_fldp rfl rfl rfl rfl (by decide)) rfl rfl ?_; refine M0 (q_ld1 rfl rfl rfl rfl rfl) rfl rfl ?_; refine M0 (q_moveC rfl rfl rfl) rfl rfl ?_
    refine M0 (q_hd rfl rfl rfl rfl rfl rfl (by omega)) rfl rfl ?_; refine M0 (q_fldp rfl rfl rfl rfl (by decide)) rfl rfl ?_; refine M_st1 rfl rfl rfl rfl rfl rfl rfl rfl ?_
    refine L_nil ?_; refine T_n ?_; refine A_seq ?_
    refine A_draw [[], [0], [], [], [3], [2, 3, 4], [0, 1, 2, 3, 4, 5], [0, 1, 2, 3, 4, 5, 6], [0, 1, 2, 3, 4, 5, 6, 7]] [[], [29], [], [], [32], [31, 32, 33], [29, 30, 31, 32, 33, 34], [29, 30, 31, 32, 33, 34, 35], [29, 30, 31, 32, 33, 34, 35, 36]] [[31, 32, 33, 34], [31, 32, 33, 34], [29, 30, 32, 33], [29, 30, 31], [29, 30, 31], [29, 30], [], [], []] rfl ?_
    refine DR.step (q_fldp rfl rfl rfl rfl (by decide)) rfl rfl ?_; refine DR.step (q_ld1 rfl rfl rfl rfl rfl) rfl rfl ?_; refine DR.step (q_moveC rfl rfl rfl) rfl rfl ?_
    refine DR.step (q_fldp rfl rfl rfl rfl (by decide)) rfl rfl ?_; refine DR.step (q_ld1 rfl rfl rfl rfl rfl) rfl rfl ?_; refine DR.step (q_quo rfl rfl rfl rfl (by omega)) rfl rfl ?_
    refine DR.step (q_hd rfl rfl rfl rfl rfl rfl (by omega)) rfl rfl ?_; refine DR.step (q_fldp rfl rfl rfl rfl (by decide)) rfl rfl ?_; refine DR.stop (by kernel_rfl) (by kernel_rfl) ?_
    refine AL.weak (Wk.head (p := 3) n.toNat rfl (by omega) (by repeat' (first | exact trivial | exact rfl | refine And.intro ?_ ?_)) (by repeat' (first | exact trivial | exact rfl | refine And.intro ?_ ?_))) ?_
    refine AL.weak (Wk.head (p := 4) (n / x.Every).toNat rfl (by omega) (by repeat' (first | exact trivial | exact rfl | refine And.intro ?_ ?_)) (by repeat' (first | exact trivial | exact rfl | refine And.intro ?_ ?_))) ?_
    refine M_st1 rfl rfl rfl rfl rfl rfl rfl rfl ?_; refine L_nil ?_; refine T_n ?_; refine A_seq ?_; refine A_region ?_; refine M0 (q_ldN rfl rfl rfl rfl rfl rfl) rfl rfl ?_
    refine M_stN rfl rfl rfl rfl rfl rfl rfl rfl rfl ?_; refine M0 (q_assignC rfl rfl rfl) rfl rfl ?_; refine L_nil ?_; refine T_n ?_; refine A_ret ?_; refine F_r ?_
    exact E_cellt rfl rfl rfl rfl rfl (W_end [2, 3, 4] (by decide) rfl rfl rfl)
set_option maxHeartbeats 8000000 in
theorem S_CutReplay (x : TReplay) (n : Int) (hg : Enc.gd x) (hn : I64 n) (h1 : x.Level.Rows.length ≤ 1048576) (h2 : x.Keys.length ≤ 1048576) (h3 : x.Rows.length ≤ 1048576) : Con Try.prog 10 [] [ag x, ai n] (ownO (Enc.e (cutReplay x n))) (.tu [.ag (ownV 0 (Enc.e (cutReplay x n))), .c (.rd [] (.v (.bool (cutOk x n))))]) := by
  have hc := S_ReplayOk x hg
  have hlr := els_len x.Rows
  have hlk := els_len x.Keys
  have hn1 := hn.1
  have hn2 := hn.2
  cases hr : replayOk x with
  | false =>
    rw [hr] at hc
    have hco : cutOk x n = false := by rw [cutOk, hr]; rfl
    rw [show cutReplay x n = zeroReplay by rw [cutReplay, hco]; rfl, hco]
    refine Con.of Try.func10 rfl Try.ntmps10 rfl (fun E => ?_)
    refine A_seq ?_; refine A_region ?_; refine M1 (q_boxN rfl rfl rfl rfl) rfl rfl ?_; refine M1 (q_alloc rfl rfl rfl) rfl rfl ?_; refine M0 (q_assignC rfl rfl rfl) rfl rfl ?_; refine L_nil ?_
    refine T_n ?_; refine A_seq ?_; refine A_seq ?_; refine A_region ?_; refine M0 (q_ldN rfl rfl rfl rfl rfl rfl) rfl rfl ?_; refine M0 (q_call0 rfl rfl (hc) rfl) rfl rfl ?_
    refine M0 (q_not rfl rfl rfl) rfl rfl ?_; refine M0 (q_moveC rfl rfl rfl) rfl rfl ?_; refine M_no rfl rfl rfl rfl rfl rfl ?_; refine M_no rfl rfl rfl rfl rfl rfl ?_
    refine M_no rfl rfl rfl rfl rfl rfl ?_; refine M_no rfl rfl rfl rfl rfl rfl ?_; refine M_no rfl rfl rfl rfl rfl rfl ?_; refine M_no rfl rfl rfl rfl rfl rfl ?_
    refine M0 (q_pickT rfl rfl rfl rfl) rfl rfl ?_; refine L_nil ?_; refine T_n ?_; refine A_ifT rfl ?_; refine A_seq ?_; refine A_region ?_; refine M0 (q_build rfl rfl rfl rfl rfl) rfl rfl ?_
    refine M_stN rfl rfl rfl rfl rfl rfl rfl rfl rfl ?_; refine M0 (q_assignC rfl rfl rfl) rfl rfl ?_; refine L_nil ?_; refine T_n ?_; refine A_ret ?_; refine T_r ?_; refine F_r ?_
    exact E_cellt rfl rfl rfl rfl rfl (W_fill [1, 1, 1] [2, 3, 4] rfl rfl (by decide) rfl rfl rfl)
  | true =>
    rw [hr] at hc
    obtain ⟨_, _, f3, f4, f5, f6, f7⟩ := replay_facts hr
    by_cases hin : ¬ (0 ≤ n ∧ n ≤ x.Rows.length)
    · have hco : cutOk x n = false := by rw [cutOk, hr, decide_eq_false hin]; rfl
      rw [show cutReplay x n = zeroReplay by rw [cutReplay, hco]; rfl, hco]
      have hin2 := S_in n 0 (els x.Rows).length
      rw [show inR n 0 (els x.Rows).length = false from by
        rw [hlr]
        cases h : inR n 0 x.Rows.length with
        | false => rfl
        | true => exact absurd (inR_iff.1 h) hin] at hin2
      refine Con.of Try.func10 rfl Try.ntmps10 rfl (fun E => ?_)
      refine A_seq ?_; refine A_region ?_; refine M1 (q_boxN rfl rfl rfl rfl) rfl rfl ?_; refine M1 (q_alloc rfl rfl rfl) rfl rfl ?_; refine M0 (q_assignC rfl rfl rfl) rfl rfl ?_; refine L_nil ?_
      refine T_n ?_; refine A_seq ?_; refine A_seq ?_; refine A_region ?_; refine M0 (q_ldN rfl rfl rfl rfl rfl rfl) rfl rfl ?_; refine M0 (q_call0 rfl rfl (hc) rfl) rfl rfl ?_
      refine M0 (q_not rfl rfl rfl) rfl rfl ?_; refine M0 (q_moveC rfl rfl rfl) rfl rfl ?_; refine M_yes rfl rfl rfl ?_; refine M0 (q_moveC rfl rfl rfl) rfl rfl ?_; refine M_yes rfl rfl rfl ?_
      refine M0 (q_fldp rfl rfl rfl rfl (by decide)) rfl rfl ?_; refine M_yes rfl rfl rfl ?_; refine M0 (q_ld1 rfl rfl rfl rfl rfl) rfl rfl ?_; refine M_yes rfl rfl rfl ?_
      refine M0 (q_len rfl rfl rfl) rfl rfl ?_; refine M_yes rfl rfl rfl ?_; refine M0 (q_call0 rfl rfl (hin2) rfl) rfl rfl ?_; refine M_yes rfl rfl rfl ?_
      refine M0 (q_not rfl rfl rfl) rfl rfl ?_; refine M0 (q_pickF rfl rfl rfl rfl) rfl rfl ?_; refine L_nil ?_; refine T_n ?_; refine A_ifT rfl ?_; refine A_seq ?_; refine A_region ?_
      refine M0 (q_build rfl rfl rfl rfl rfl) rfl rfl ?_; refine M_stN rfl rfl rfl rfl rfl rfl rfl rfl rfl ?_; refine M0 (q_assignC rfl rfl rfl) rfl rfl ?_; refine L_nil ?_; refine T_n ?_
      refine A_ret ?_; refine T_r ?_; refine F_r ?_
      exact E_cellt rfl rfl rfl rfl rfl (W_fill [1, 1, 1] [2, 3, 4] rfl rfl (by decide) rfl rfl rfl)
    have hin := Classical.not_not.1 hin
    have hco : cutOk x n = true := by rw [cutOk, hr, decide_eq_true hin]; rfl
    rw [show cutReplay x n = ⟨x.Level, x.Players, x.Seed, x.Every, x.Rows.take n.toNat, x.Keys.take (n / x.Every).toNat⟩ by rw [cutReplay, hco]; rfl, hco, cut_own]
    have hkk := cut_keys hr hin.1 hin.2
    have hrl : ∀ r ∈ x.Rows, 0 < r.length ∧ r.length ≤ 1048576 := fun r hm => by
      have h8 := row_facts (f6 r hm)
      omega
    have hcp := S_copyReplay x hg h1 h2 h3 hrl
    have hin2 := S_in n 0 (els x.Rows).length
    rw [show inR n 0 (els x.Rows).length = true from by rw [hlr]; exact inR_iff.2 hin] at hin2
    refine Con.of Try.func10 rfl Try.ntmps10 rfl (fun E => ?_)
    refine A_seq ?_; refine A_region ?_; refine M1 (q_boxN rfl rfl rfl rfl) rfl rfl ?_; refine M1 (q_alloc rfl rfl rfl) rfl rfl ?_; refine M0 (q_assignC rfl rfl rfl) rfl rfl ?_; refine L_nil ?_
    refine T_n ?_; refine A_seq ?_; refine A_seq ?_; refine A_region ?_; refine M0 (q_ldN rfl rfl rfl rfl rfl rfl) rfl rfl ?_; refine M0 (q_call0 rfl rfl (hc) rfl) rfl rfl ?_
    refine M0 (q_not rfl rfl rfl) rfl rfl ?_; refine M0 (q_moveC rfl rfl rfl) rfl rfl ?_; refine M_yes rfl rfl rfl ?_; refine M0 (q_moveC rfl rfl rfl) rfl rfl ?_; refine M_yes rfl rfl rfl ?_
    refine M0 (q_fldp rfl rfl rfl rfl (by decide)) rfl rfl ?_; refine M_yes rfl rfl rfl ?_; refine M0 (q_ld1 rfl rfl rfl rfl rfl) rfl rfl ?_; refine M_yes rfl rfl rfl ?_
    refine M0 (q_len rfl rfl rfl) rfl rfl ?_; refine M_yes rfl rfl rfl ?_; refine M0 (q_call0 rfl rfl (hin2) rfl) rfl rfl ?_; refine M_yes rfl rfl rfl ?_
    refine M0 (q_not rfl rfl rfl) rfl rfl ?_; refine M0 (q_pickF rfl rfl rfl rfl) rfl rfl ?_; refine L_nil ?_; refine T_n ?_; refine A_ifF rfl ?_; refine A_skip ?_; refine T_n ?_; refine A_seq ?_
    refine A_region ?_; refine M0 (q_ldN rfl rfl rfl rfl rfl rfl) rfl rfl ?_; refine M1 (q_call rfl rfl (hcp) rfl rfl rfl) rfl rfl ?_; refine M1 (q_alloc rfl rfl rfl) rfl rfl ?_
    refine M_stN rfl rfl rfl rfl rfl rfl rfl rfl rfl ?_; refine L_nil ?_; refine T_n ?_; refine A_seq ?_; refine A_region ?_; refine M0 (q_fldp rfl rfl rfl rfl (by decide)) rfl rfl ?_
    refine M0 (q_ld1 rfl rfl rfl rfl rfl) rfl rfl ?_; refine M0 (q_moveC rfl rfl rfl) rfl rfl ?_; refine M0 (q_hd rfl rfl rfl rfl rfl rfl (by omega)) rfl rfl ?_
    refine M0 (q_fldp rfl rfl rfl rfl (by decide)) rfl rfl ?_; refine M_st1 rfl rfl rfl rfl rfl rfl rfl rfl ?_; refine L_nil ?_; refine T_n ?_; refine A_seq ?_
    refine A_draw [[], [0], [], [], [3], [2, 3, 4], [0, 1, 2, 3, 4, 5], [0, 1, 2, 3, 4, 5, 6], [0, 1, 2, 3, 4, 5, 6, 7]] [[], [26], [], [], [29], [28, 29, 30], [26, 27, 28, 29, 30, 31], [26, 27, 28, 29, 30, 31, 32], [26, 27, 28, 29, 30, 31, 32, 33]] [[28, 29, 30, 31], [28, 29, 30, 31], [26, 27, 29, 30], [26, 27, 28], [26, 27, 28], [26, 27], [], [], []] rfl ?_
    refine DR.step (q_fldp rfl rfl rfl rfl (by decide)) rfl rfl ?_; refine DR.step (q_ld1 rfl rfl rfl rfl rfl) rfl rfl ?_; refine DR.step (q_moveC rfl rfl rfl) rfl rfl ?_
    refine DR.step (q_fldp rfl rfl rfl rfl (by decide)) rfl rfl ?_; refine DR.step (q_ld1 rfl rfl rfl rfl rfl) rfl rfl ?_; refine DR.step (q_quo rfl rfl rfl rfl (by omega)) rfl rfl ?_
    refine DR.step (q_hd rfl rfl rfl rfl rfl rfl (by omega)) rfl rfl ?_; refine DR.step (q_fldp rfl rfl rfl rfl (by decide)) rfl rfl ?_; refine DR.stop (by kernel_rfl) (by kernel_rfl) ?_
    refine AL.weak (Wk.head (p := 3) n.toNat rfl (by omega) (by repeat' (first | exact trivial | exact rfl | refine And.intro ?_ ?_)) (by repeat' (first | exact trivial | exact rfl | refine And.intro ?_ ?_))) ?_
    refine AL.weak (Wk.head (p := 4) (n / x.Every).toNat rfl (by omega) (by repeat' (first | exact trivial | exact rfl | refine And.intro ?_ ?_)) (by repeat' (first | exact trivial | exact rfl | refine And.intro ?_ ?_))) ?_
    refine M_st1 rfl rfl rfl rfl rfl rfl rfl rfl ?_; refine L_nil ?_; refine T_n ?_; refine A_seq ?_; refine A_region ?_; refine M0 (q_ldN rfl rfl rfl rfl rfl rfl) rfl rfl ?_
    refine M_stN rfl rfl rfl rfl rfl rfl rfl rfl rfl ?_; refine M0 (q_assignC rfl rfl rfl) rfl rfl ?_; refine L_nil ?_; refine T_n ?_; refine A_ret ?_; refine F_r ?_
    exact E_cellt rfl rfl rfl rfl rfl (W_end [2, 3, 4] (by decide) rfl rfl rfl)
end Go.Proofs.Ytkfnaniegldfaaa
