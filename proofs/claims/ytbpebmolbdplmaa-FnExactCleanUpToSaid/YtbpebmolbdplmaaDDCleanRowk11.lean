/-
  CleanUpTo, in the program and in the reference.
  Conditions: none.
  How the laws count, copy and compare packets and peers. No statement of the program is proved here.
  Conditions: lists of at most 2^20 elements.
  The law FnExactCleanUpTo returns true.
  Conditions: none.
  The kit's readings of the laws' structs as Lean data. No statement of the program is proved here.
  Conditions: none.
  The kit's readings of the laws' bodies and worlds as Lean data. No statement of the program is proved here.
  Conditions: none.
  The kit's readings of the laws' peers as Lean data. No statement of the program is proved here.
  Conditions: none.
-/
import Derived.Test.YtbpebmolbdplmaaDDCleanRowk8
import Derived.Test.YtbpebmolbdplmaaDDCleanRowk10
section
set_option linter.unusedSimpArgs false
set_option linter.unusedVariables false
set_option maxRecDepth 8000
namespace Go.Proofs.Ytbpebmolbdplmaa
open Go.RowKit

def firstDiff (a b : List Int) : Int := match (List.range (min a.length b.length)).find? (fun k => decide (a.getD k 0 ≠ b.getD k 0)) with
  | none => -1
  | some k => k
theorem fd_none {a b : List Int} (h : ∀ k (h1 : k < a.length) (h2 : k < b.length), a[k] = b[k]) : firstDiff a b = -1 := by
  have h1 : (List.range (min a.length b.length)).find? (fun k => decide (a.getD k 0 ≠ b.getD k 0)) = none := by
    rw [List.find?_eq_none]
    intro k hk
    rw [List.mem_range] at hk
    have h1 : k < a.length := by omega
    have h2 : k < b.length := by omega
    simpa [List.getD_eq_getElem?_getD, h1, h2] using h k h1 h2
  rw [firstDiff, h1]
theorem fd_hit {a b : List Int} {k : Nat} (h1 : k < a.length) (h2 : k < b.length) (h : ∀ j (h1 : j < a.length) (h2 : j < b.length), j < k → a[j] = b[j]) (hk : a[k] ≠ b[k]) : firstDiff a b = k := by
  have h3 : (List.range (min a.length b.length)).find? (fun k => decide (a.getD k 0 ≠ b.getD k 0)) = some k := by
    rw [List.find?_range_eq_some]
    refine ⟨by simpa [List.getD_eq_getElem?_getD, h1, h2] using hk, by rw [List.mem_range]; omega, fun j hj => ?_⟩
    have h4 : j < a.length := by omega
    have h5 : j < b.length := by omega
    simpa [List.getD_eq_getElem?_getD, h4, h5] using h j h4 h5 hj
  rw [firstDiff, h3]
theorem fd_range (a b : List Int) : -1 ≤ firstDiff a b ∧ firstDiff a b ≤ a.length := by
  unfold firstDiff
  split
  · omega
  · rename_i k hk
    have := List.mem_of_find?_eq_some hk
    rw [List.mem_range] at this
    omega
set_option maxHeartbeats 8000000 in
theorem I_FirstDifference (a b : List Int) (ga : Enc.gd a) (gb : Enc.gd b) : Con Try.prog 38 [] [al a, al b] [] (I (firstDiff a b)) := by
  have hla := els_len a
  have hlb := els_len b
  have g1 := ga.1
  refine Con.of Try.func38 rfl Try.ntmps38 rfl (fun E => ?_)
  refine A_seq ?_; refine A_region ?_; refine M0 (q_assignC rfl rfl rfl) rfl rfl ?_; refine L_nil ?_; refine T_n ?_; refine A_seq ?_; refine A_seq ?_; refine A_region ?_
  refine M0 (q_assignC rfl rfl rfl) rfl rfl ?_; refine L_nil ?_; refine T_n ?_; refine A_block ?_
  refine A_loop (fun m st => ∃ k : Nat, k + m = a.length ∧ ((k ≤ b.length ∧ ∀ j (h1 : j < a.length) (h2 : j < b.length), j < k → a[j] = b[j])) ∧ st = (fun k : Nat => (⟨_, [(0, L a), (1, L b), (5, I k)], []⟩ : St)) k) (a.length) ⟨(fun k : Nat => (⟨_, [(0, L a), (1, L b), (5, I k)], []⟩ : St)) 0, W_go [] (by decide) rfl (rfl) (.cons rfl (.cons rfl (.cons rfl (.nil)))), 0, by omega, ⟨Nat.zero_le _, fun j _ _ h => absurd h (Nat.not_lt_zero _)⟩, rfl⟩ ?_
  rintro m_A _ ⟨k, hk_A, hp_A, rfl⟩
  obtain ⟨hp1, hp2⟩ := hp_A
  refine A_seq ?_; refine A_seq ?_; refine A_region ?_; refine M0 (q_moveC rfl rfl rfl) rfl rfl ?_; refine M0 (q_moveC rfl rfl rfl) rfl rfl ?_; refine M0 (q_len rfl rfl rfl) rfl rfl ?_
  refine M0 (q_lss rfl rfl rfl rfl) rfl rfl ?_; refine M0 (q_moveC rfl rfl rfl) rfl rfl ?_; refine M0 (Qt.grdT rfl rfl rfl .stop (fun hgrd => q_moveC rfl rfl rfl)) rfl rfl ?_
  refine M0 (Qt.grdT rfl rfl rfl (.hit .stop) (fun hgrd => q_moveC rfl rfl rfl)) rfl rfl ?_
  refine M0 (Qt.grdT rfl rfl rfl (.hit (.hit .stop)) (fun hgrd => q_len rfl rfl rfl)) rfl rfl ?_
  refine M0 (Qt.grdT rfl rfl rfl (.hit (.hit (.hit .stop))) (fun hgrd => q_lss rfl rfl rfl rfl)) rfl rfl ?_; refine M0 (q_and rfl rfl rfl rfl) rfl rfl ?_; refine L_nil ?_; refine T_n ?_
  refine A_cond rfl (fun h => ?_) (fun h => ?_)
  · simp only [Bool.and_eq_true, decide_eq_true_eq] at h
    have h3 : k < a.length := by omega
    have h4 : k < b.length := by omega
    have hat := els_at h3
    have hat2 := els_at h4
    by_cases he : a[k] = b[k]
    · have hb : decide (a[k] ≠ b[k]) = false := decide_eq_false (fun h => h he)
      refine A_skip ?_; refine T_n ?_; refine A_seq ?_; refine A_block ?_; refine A_seq ?_
      refine A_draw [[], [], [0, 1], [0, 1, 2], [], [], [4, 5], [4, 5, 6], [0, 1, 2, 3, 4, 5, 6, 7]] [[], [], [18, 19], [18, 19, 20], [], [], [22, 23], [22, 23, 24], [18, 19, 20, 21, 22, 23, 24, 25]] [[19, 22, 23, 24, 25], [18, 22, 23, 24, 25], [22, 23, 24, 25], [22, 23, 24, 25], [18, 19, 20, 21, 23], [18, 19, 20, 21, 22], [18, 19, 20, 21], [18, 19, 20, 21], []] rfl ?_
      refine DR.step (q_moveC rfl rfl rfl) rfl rfl ?_; refine DR.step (q_moveC rfl rfl rfl) rfl rfl ?_; refine DR.step (q_at rfl rfl rfl rfl (by omega) (by assumption) rfl) rfl rfl ?_
      refine DR.step (q_lr1 rfl rfl rfl rfl) rfl rfl ?_; refine DR.step (q_moveC rfl rfl rfl) rfl rfl ?_; refine DR.step (q_moveC rfl rfl rfl) rfl rfl ?_
      refine DR.step (q_at rfl rfl rfl rfl (by omega) (by assumption) rfl) rfl rfl ?_; refine DR.step (q_lr1 rfl rfl rfl rfl) rfl rfl ?_
      refine DR.step (q_neqK rfl rfl rfl rfl (by assumption)) rfl rfl ?_; refine DR.stop (by kernel_rfl) (by kernel_rfl) ?_
      refine L_nil ?_; refine T_n ?_; refine A_ifF rfl ?_; refine A_skip ?_; refine B_n ?_; refine T_n ?_; refine A_region ?_; refine M0 (q_moveC rfl rfl rfl) rfl rfl ?_
      refine M0 (q_add rfl rfl rfl rfl (by omega)) rfl rfl ?_; refine M0 (q_assignC rfl rfl rfl) rfl rfl ?_; refine L_nil ?_; refine T_n ?_
      exact ⟨a.length - (k + 1), by omega, (fun k : Nat => (⟨_, [(0, L a), (1, L b), (5, I k)], []⟩ : St)) (k + 1), W_go [] (by decide) rfl (rfl) (.cons rfl (.cons rfl (.cons rfl (.nil)))), k + 1, by omega, ⟨by omega, fun j h1 h2 hj => by by_cases e : j = k; subst e; exact he; exact hp2 j h1 h2 (by omega)⟩, rfl⟩
    · have hb : decide (a[k] ≠ b[k]) = true := decide_eq_true he
      rw [fd_hit h3 h4 hp2 he]
      refine A_skip ?_; refine T_n ?_; refine A_seq ?_; refine A_block ?_; refine A_seq ?_
      refine A_draw [[], [], [0, 1], [0, 1, 2], [], [], [4, 5], [4, 5, 6], [0, 1, 2, 3, 4, 5, 6, 7]] [[], [], [18, 19], [18, 19, 20], [], [], [22, 23], [22, 23, 24], [18, 19, 20, 21, 22, 23, 24, 25]] [[19, 22, 23, 24, 25], [18, 22, 23, 24, 25], [22, 23, 24, 25], [22, 23, 24, 25], [18, 19, 20, 21, 23], [18, 19, 20, 21, 22], [18, 19, 20, 21], [18, 19, 20, 21], []] rfl ?_
      refine DR.step (q_moveC rfl rfl rfl) rfl rfl ?_; refine DR.step (q_moveC rfl rfl rfl) rfl rfl ?_; refine DR.step (q_at rfl rfl rfl rfl (by omega) (by assumption) rfl) rfl rfl ?_
      refine DR.step (q_lr1 rfl rfl rfl rfl) rfl rfl ?_; refine DR.step (q_moveC rfl rfl rfl) rfl rfl ?_; refine DR.step (q_moveC rfl rfl rfl) rfl rfl ?_
      refine DR.step (q_at rfl rfl rfl rfl (by omega) (by assumption) rfl) rfl rfl ?_; refine DR.step (q_lr1 rfl rfl rfl rfl) rfl rfl ?_
      refine DR.step (q_neqK rfl rfl rfl rfl (by assumption)) rfl rfl ?_; refine DR.stop (by kernel_rfl) (by kernel_rfl) ?_
      refine L_nil ?_; refine T_n ?_; refine A_ifT rfl ?_; refine A_seq ?_; refine A_region ?_; refine M0 (q_moveC rfl rfl rfl) rfl rfl ?_; refine M0 (q_assignC rfl rfl rfl) rfl rfl ?_
      refine L_nil ?_; refine T_n ?_; refine A_ret ?_; refine B_r ?_; refine T_r ?_; refine T_r ?_; refine B_r ?_; refine T_r ?_; refine F_r ?_
      exact E_tmp rfl rfl (W_end [] (by decide) rfl rfl rfl)
  · simp only [Bool.and_eq_false_iff, decide_eq_false_iff_not] at h
    rw [fd_none (fun j h1 h2 => hp2 j h1 h2 (by omega))]
    refine A_exit ?_; refine T_x ?_; refine T_x ?_; refine B_xs ?_; refine T_n ?_; refine A_seq ?_; refine A_region ?_; refine M0 (q_assignC rfl rfl rfl) rfl rfl ?_; refine L_nil ?_; refine T_n ?_
    refine A_ret ?_; refine F_r ?_
    exact E_tmp rfl rfl (W_end [] (by decide) rfl rfl rfl)
set_option maxHeartbeats 8000000 in
theorem S_FirstDifference (a b : List Int) (ga : Enc.gd a) (gb : Enc.gd b) : Con Try.prog 30 [] [al a, al b] [] (I (firstDiff a b)) := by
  have hla := els_len a
  have hlb := els_len b
  have g1 := ga.1
  refine Con.of Try.func30 rfl Try.ntmps30 rfl (fun E => ?_)
  refine A_seq ?_; refine A_region ?_; refine M0 (q_assignC rfl rfl rfl) rfl rfl ?_; refine L_nil ?_; refine T_n ?_; refine A_seq ?_; refine A_seq ?_; refine A_region ?_
  refine M0 (q_assignC rfl rfl rfl) rfl rfl ?_; refine L_nil ?_; refine T_n ?_; refine A_block ?_
  refine A_loop (fun m st => ∃ k : Nat, k + m = a.length ∧ ((k ≤ b.length ∧ ∀ j (h1 : j < a.length) (h2 : j < b.length), j < k → a[j] = b[j])) ∧ st = (fun k : Nat => (⟨_, [(0, L a), (1, L b), (5, I k)], []⟩ : St)) k) (a.length) ⟨(fun k : Nat => (⟨_, [(0, L a), (1, L b), (5, I k)], []⟩ : St)) 0, W_go [] (by decide) rfl (rfl) (.cons rfl (.cons rfl (.cons rfl (.nil)))), 0, by omega, ⟨Nat.zero_le _, fun j _ _ h => absurd h (Nat.not_lt_zero _)⟩, rfl⟩ ?_
  rintro m_A _ ⟨k, hk_A, hp_A, rfl⟩
  obtain ⟨hp1, hp2⟩ := hp_A
  refine A_seq ?_; refine A_seq ?_; refine A_region ?_; refine M0 (q_moveC rfl rfl rfl) rfl rfl ?_; refine M0 (q_moveC rfl rfl rfl) rfl rfl ?_; refine M0 (q_len rfl rfl rfl) rfl rfl ?_
  refine M0 (q_lss rfl rfl rfl rfl) rfl rfl ?_; refine M0 (q_moveC rfl rfl rfl) rfl rfl ?_; refine M0 (Qt.grdT rfl rfl rfl .stop (fun hgrd => q_moveC rfl rfl rfl)) rfl rfl ?_
  refine M0 (Qt.grdT rfl rfl rfl (.hit .stop) (fun hgrd => q_moveC rfl rfl rfl)) rfl rfl ?_
  refine M0 (Qt.grdT rfl rfl rfl (.hit (.hit .stop)) (fun hgrd => q_len rfl rfl rfl)) rfl rfl ?_
  refine M0 (Qt.grdT rfl rfl rfl (.hit (.hit (.hit .stop))) (fun hgrd => q_lss rfl rfl rfl rfl)) rfl rfl ?_; refine M0 (q_and rfl rfl rfl rfl) rfl rfl ?_; refine L_nil ?_; refine T_n ?_
  refine A_cond rfl (fun h => ?_) (fun h => ?_)
  · simp only [Bool.and_eq_true, decide_eq_true_eq] at h
    have h3 : k < a.length := by omega
    have h4 : k < b.length := by omega
    have hat := els_at h3
    have hat2 := els_at h4
    by_cases he : a[k] = b[k]
    · have hb : decide (a[k] ≠ b[k]) = false := decide_eq_false (fun h => h he)
      refine A_skip ?_; refine T_n ?_; refine A_seq ?_; refine A_block ?_; refine A_seq ?_
      refine A_draw [[], [], [0, 1], [0, 1, 2], [], [], [4, 5], [4, 5, 6], [0, 1, 2, 3, 4, 5, 6, 7]] [[], [], [18, 19], [18, 19, 20], [], [], [22, 23], [22, 23, 24], [18, 19, 20, 21, 22, 23, 24, 25]] [[19, 22, 23, 24, 25], [18, 22, 23, 24, 25], [22, 23, 24, 25], [22, 23, 24, 25], [18, 19, 20, 21, 23], [18, 19, 20, 21, 22], [18, 19, 20, 21], [18, 19, 20, 21], []] rfl ?_
      refine DR.step (q_moveC rfl rfl rfl) rfl rfl ?_; refine DR.step (q_moveC rfl rfl rfl) rfl rfl ?_; refine DR.step (q_at rfl rfl rfl rfl (by omega) (by assumption) rfl) rfl rfl ?_
      refine DR.step (q_lr1 rfl rfl rfl rfl) rfl rfl ?_; refine DR.step (q_moveC rfl rfl rfl) rfl rfl ?_; refine DR.step (q_moveC rfl rfl rfl) rfl rfl ?_
      refine DR.step (q_at rfl rfl rfl rfl (by omega) (by assumption) rfl) rfl rfl ?_; refine DR.step (q_lr1 rfl rfl rfl rfl) rfl rfl ?_
      refine DR.step (q_neqK rfl rfl rfl rfl (by assumption)) rfl rfl ?_; refine DR.stop (by kernel_rfl) (by kernel_rfl) ?_
      refine L_nil ?_; refine T_n ?_; refine A_ifF rfl ?_; refine A_skip ?_; refine B_n ?_; refine T_n ?_; refine A_region ?_; refine M0 (q_moveC rfl rfl rfl) rfl rfl ?_
      refine M0 (q_add rfl rfl rfl rfl (by omega)) rfl rfl ?_; refine M0 (q_assignC rfl rfl rfl) rfl rfl ?_; refine L_nil ?_; refine T_n ?_
      exact ⟨a.length - (k + 1), by omega, (fun k : Nat => (⟨_, [(0, L a), (1, L b), (5, I k)], []⟩ : St)) (k + 1), W_go [] (by decide) rfl (rfl) (.cons rfl (.cons rfl (.cons rfl (.nil)))), k + 1, by omega, ⟨by omega, fun j h1 h2 hj => by by_cases e : j = k; subst e; exact he; exact hp2 j h1 h2 (by omega)⟩, rfl⟩
    · have hb : decide (a[k] ≠ b[k]) = true := decide_eq_true he
      rw [fd_hit h3 h4 hp2 he]
      refine A_skip ?_; refine T_n ?_; refine A_seq ?_; refine A_block ?_; refine A_seq ?_
      refine A_draw [[], [], [0, 1], [0, 1, 2], [], [], [4, 5], [4, 5, 6], [0, 1, 2, 3, 4, 5, 6, 7]] [[], [], [18, 19], [18, 19, 20], [], [], [22, 23], [22, 23, 24], [18, 19, 20, 21, 22, 23, 24, 25]] [[19, 22, 23, 24, 25], [18, 22, 23, 24, 25], [22, 23, 24, 25], [22, 23, 24, 25], [18, 19, 20, 21, 23], [18, 19, 20, 21, 22], [18, 19, 20, 21], [18, 19, 20, 21], []] rfl ?_
      refine DR.step (q_moveC rfl rfl rfl) rfl rfl ?_; refine DR.step (q_moveC rfl rfl rfl) rfl rfl ?_; refine DR.step (q_at rfl rfl rfl rfl (by omega) (by assumption) rfl) rfl rfl ?_
      refine DR.step (q_lr1 rfl rfl rfl rfl) rfl rfl ?_; refine DR.step (q_moveC rfl rfl rfl) rfl rfl ?_; refine DR.step (q_moveC rfl rfl rfl) rfl rfl ?_
      refine DR.step (q_at rfl rfl rfl rfl (by omega) (by assumption) rfl) rfl rfl ?_; refine DR.step (q_lr1 rfl rfl rfl rfl) rfl rfl ?_
      refine DR.step (q_neqK rfl rfl rfl rfl (by assumption)) rfl rfl ?_; refine DR.stop (by kernel_rfl) (by kernel_rfl) ?_
      refine L_nil ?_; refine T_n ?_; refine A_ifT rfl ?_; refine A_seq ?_; refine A_region ?_; refine M0 (q_moveC rfl rfl rfl) rfl rfl ?_; refine M0 (q_assignC rfl rfl rfl) rfl rfl ?_
      refine L_nil ?_; refine T_n ?_; refine A_ret ?_; refine B_r ?_; refine T_r ?_; refine T_r ?_; refine B_r ?_; refine T_r ?_; refine F_r ?_
      exact E_tmp rfl rfl (W_end [] (by decide) rfl rfl rfl)
  · simp only [Bool.and_eq_false_iff, decide_eq_false_iff_not] at h
    rw [fd_none (fun j h1 h2 => hp2 j h1 h2 (by omega))]
    refine A_exit ?_; refine T_x ?_; refine T_x ?_; refine B_xs ?_; refine T_n ?_; refine A_seq ?_; refine A_region ?_; refine M0 (q_assignC rfl rfl rfl) rfl rfl ?_; refine L_nil ?_; refine T_n ?_
    refine A_ret ?_; refine F_r ?_
    exact E_tmp rfl rfl (W_end [] (by decide) rfl rfl rfl)
noncomputable def cleanUpTo (p q : TPeer) : Int := if peerOk p = true ∧ peerOk q = true then (if firstDiff p.Sums q.Sums < 0 then min (p.Sums.length : Int) q.Sums.length - 1 else firstDiff p.Sums q.Sums - 1) else -1
theorem clean_no {p q : TPeer} (h : ¬ (peerOk p = true ∧ peerOk q = true)) : cleanUpTo p q = -1 := if_neg h
theorem clean_neg {p q : TPeer} (h : peerOk p = true ∧ peerOk q = true) (hf : firstDiff p.Sums q.Sums < 0) : cleanUpTo p q = min (p.Sums.length : Int) q.Sums.length - 1 := by rw [cleanUpTo, if_pos h, if_pos hf]
theorem clean_pos {p q : TPeer} (h : peerOk p = true ∧ peerOk q = true) (hf : ¬ firstDiff p.Sums q.Sums < 0) : cleanUpTo p q = firstDiff p.Sums q.Sums - 1 := by rw [cleanUpTo, if_pos h, if_neg hf]
set_option maxHeartbeats 8000000 in
theorem I_CleanUpTo (p q : TPeer) (gp : Enc.gd p) (gq : Enc.gd q) : Con Try.prog 10 [] [ag p, ag q] [] (I (cleanUpTo p q)) := by
  have hcp := I_PeerOk p gp
  have hcq := I_PeerOk q gq
  have gSp : Enc.gd p.Sums := gp.2.2.2.2.2.2.2.2.2.1
  have gSq : Enc.gd q.Sums := gq.2.2.2.2.2.2.2.2.2.1
  have hlp := els_len p.Sums
  have hlq := els_len q.Sums
  have g1 := gSp.1
  have g2 := gSq.1
  cases hop : peerOk p with
  | false =>
    rw [hop] at hcp
    rw [clean_no (by simp [hop])]
    refine Con.of Try.func10 rfl Try.ntmps10 rfl (fun E => ?_)
    refine A_seq ?_; refine A_region ?_; refine M1 (q_boxN rfl rfl rfl rfl) rfl rfl ?_; refine M1 (q_boxN rfl rfl rfl rfl) rfl rfl ?_; refine M0 (q_assignC rfl rfl rfl) rfl rfl ?_
    refine L_nil ?_; refine T_n ?_; refine A_seq ?_; refine A_seq ?_; refine A_region ?_; refine M0 (q_ldN rfl rfl rfl rfl rfl rfl) rfl rfl ?_; refine M0 (q_call0 rfl rfl (hcp) rfl) rfl rfl ?_
    refine M0 (q_not rfl rfl rfl) rfl rfl ?_; refine M0 (q_moveC rfl rfl rfl) rfl rfl ?_; refine M_no rfl rfl rfl rfl rfl rfl ?_; refine M_no rfl rfl rfl rfl rfl rfl ?_
    refine M_no rfl rfl rfl rfl rfl rfl ?_; refine M0 (q_pickT rfl rfl rfl rfl) rfl rfl ?_; refine L_nil ?_; refine T_n ?_; refine A_ifT rfl ?_; refine A_seq ?_; refine A_region ?_
    refine M0 (q_assignC rfl rfl rfl) rfl rfl ?_; refine L_nil ?_; refine T_n ?_; refine A_ret ?_; refine T_r ?_; refine F_r ?_
    exact E_tmp rfl rfl (W_end [] (by decide) rfl rfl rfl)
  | true =>
  rw [hop] at hcp
  cases hoq : peerOk q with
  | false =>
    rw [hoq] at hcq
    rw [clean_no (by simp [hoq])]
    refine Con.of Try.func10 rfl Try.ntmps10 rfl (fun E => ?_)
    refine A_seq ?_; refine A_region ?_; refine M1 (q_boxN rfl rfl rfl rfl) rfl rfl ?_; refine M1 (q_boxN rfl rfl rfl rfl) rfl rfl ?_; refine M0 (q_assignC rfl rfl rfl) rfl rfl ?_
    refine L_nil ?_; refine T_n ?_; refine A_seq ?_; refine A_seq ?_; refine A_region ?_; refine M0 (q_ldN rfl rfl rfl rfl rfl rfl) rfl rfl ?_; refine M0 (q_call0 rfl rfl (hcp) rfl) rfl rfl ?_
    refine M0 (q_not rfl rfl rfl) rfl rfl ?_; refine M0 (q_moveC rfl rfl rfl) rfl rfl ?_; refine M_yes rfl rfl rfl ?_; refine M0 (q_ldN rfl rfl rfl rfl rfl rfl) rfl rfl ?_
    refine M_yes rfl rfl rfl ?_; refine M0 (q_call0 rfl rfl (hcq) rfl) rfl rfl ?_; refine M_yes rfl rfl rfl ?_; refine M0 (q_not rfl rfl rfl) rfl rfl ?_
    refine M0 (q_pickF rfl rfl rfl rfl) rfl rfl ?_; refine L_nil ?_; refine T_n ?_; refine A_ifT rfl ?_; refine A_seq ?_; refine A_region ?_; refine M0 (q_assignC rfl rfl rfl) rfl rfl ?_
    refine L_nil ?_; refine T_n ?_; refine A_ret ?_; refine T_r ?_; refine F_r ?_
    exact E_tmp rfl rfl (W_end [] (by decide) rfl rfl rfl)
  | true =>
  rw [hoq] at hcq
  have hf := I_FirstDifference p.Sums q.Sums gSp gSq
  have hr := fd_range p.Sums q.Sums
  by_cases hn : firstDiff p.Sums q.Sums < 0
  · rw [clean_neg ⟨hop, hoq⟩ hn]
    generalize firstDiff p.Sums q.Sums = d at hn hf hr
    have hb1 : decide (d < 0) = true := decide_eq_true hn
    have hb2 : decide (0 ≤ d) = false := decide_eq_false (by omega)
    refine Con.of Try.func10 rfl Try.ntmps10 rfl (fun E => ?_)
    refine A_seq ?_; refine A_region ?_; refine M1 (q_boxN rfl rfl rfl rfl) rfl rfl ?_; refine M1 (q_boxN rfl rfl rfl rfl) rfl rfl ?_; refine M0 (q_assignC rfl rfl rfl) rfl rfl ?_
    refine L_nil ?_; refine T_n ?_; refine A_seq ?_; refine A_seq ?_; refine A_region ?_; refine M0 (q_ldN rfl rfl rfl rfl rfl rfl) rfl rfl ?_; refine M0 (q_call0 rfl rfl (hcp) rfl) rfl rfl ?_
    refine M0 (q_not rfl rfl rfl) rfl rfl ?_; refine M0 (q_moveC rfl rfl rfl) rfl rfl ?_; refine M_yes rfl rfl rfl ?_; refine M0 (q_ldN rfl rfl rfl rfl rfl rfl) rfl rfl ?_
    refine M_yes rfl rfl rfl ?_; refine M0 (q_call0 rfl rfl (hcq) rfl) rfl rfl ?_; refine M_yes rfl rfl rfl ?_; refine M0 (q_not rfl rfl rfl) rfl rfl ?_
    refine M0 (q_pickF rfl rfl rfl rfl) rfl rfl ?_; refine L_nil ?_; refine T_n ?_; refine A_ifF rfl ?_; refine A_skip ?_; refine T_n ?_; refine A_seq ?_; refine A_region ?_
    refine M0 (q_fldp rfl rfl rfl rfl (by decide)) rfl rfl ?_; refine M0 (q_ld1 rfl rfl rfl rfl rfl) rfl rfl ?_; refine M0 (q_fldp rfl rfl rfl rfl (by decide)) rfl rfl ?_
    refine M0 (q_ld1 rfl rfl rfl rfl rfl) rfl rfl ?_; refine M0 (q_call0 rfl rfl (hf) rfl) rfl rfl ?_; refine M0 (q_assignC rfl rfl rfl) rfl rfl ?_; refine L_nil ?_; refine T_n ?_
    refine A_seq ?_; refine A_seq ?_; refine A_region ?_; refine M0 (q_moveC rfl rfl rfl) rfl rfl ?_; refine M0 (q_lssK rfl rfl rfl rfl (by assumption)) rfl rfl ?_; refine L_nil ?_; refine T_n ?_
    refine A_ifT rfl ?_; refine A_seq ?_; refine A_region ?_; refine M0 (q_fldp rfl rfl rfl rfl (by decide)) rfl rfl ?_; refine M0 (q_ld1 rfl rfl rfl rfl rfl) rfl rfl ?_
    refine M0 (q_len rfl rfl rfl) rfl rfl ?_; refine M0 (q_fldp rfl rfl rfl rfl (by decide)) rfl rfl ?_; refine M0 (q_ld1 rfl rfl rfl rfl rfl) rfl rfl ?_
    refine M0 (q_len rfl rfl rfl) rfl rfl ?_; refine M0 (q_min rfl rfl rfl rfl) rfl rfl ?_; refine M0 (q_sub rfl rfl rfl rfl (by omega)) rfl rfl ?_
    refine M0 (q_assignC rfl rfl rfl) rfl rfl ?_; refine L_nil ?_; refine T_n ?_; refine A_ret ?_; refine T_r ?_; refine F_r ?_
    exact E_tmp rfl rfl (W_end [] (by decide) rfl rfl (I_eq (by rw [hlp, hlq])))
  · rw [clean_pos ⟨hop, hoq⟩ hn]
    generalize firstDiff p.Sums q.Sums = d at hn hf hr
    have hb1 : decide (d < 0) = false := decide_eq_false hn
    have hb2 : decide (0 ≤ d) = true := decide_eq_true (by omega)
    refine Con.of Try.func10 rfl Try.ntmps10 rfl (fun E => ?_)
    refine A_seq ?_; refine A_region ?_; refine M1 (q_boxN rfl rfl rfl rfl) rfl rfl ?_; refine M1 (q_boxN rfl rfl rfl rfl) rfl rfl ?_; refine M0 (q_assignC rfl rfl rfl) rfl rfl ?_
    refine L_nil ?_; refine T_n ?_; refine A_seq ?_; refine A_seq ?_; refine A_region ?_; refine M0 (q_ldN rfl rfl rfl rfl rfl rfl) rfl rfl ?_; refine M0 (q_call0 rfl rfl (hcp) rfl) rfl rfl ?_
    refine M0 (q_not rfl rfl rfl) rfl rfl ?_; refine M0 (q_moveC rfl rfl rfl) rfl rfl ?_; refine M_yes rfl rfl rfl ?_; refine M0 (q_ldN rfl rfl rfl rfl rfl rfl) rfl rfl ?_
    refine M_yes rfl rfl rfl ?_; refine M0 (q_call0 rfl rfl (hcq) rfl) rfl rfl ?_; refine M_yes rfl rfl rfl ?_; refine M0 (q_not rfl rfl rfl) rfl rfl ?_
    refine M0 (q_pickF rfl rfl rfl rfl) rfl rfl ?_; refine L_nil ?_; refine T_n ?_; refine A_ifF rfl ?_; refine A_skip ?_; refine T_n ?_; refine A_seq ?_; refine A_region ?_
    refine M0 (q_fldp rfl rfl rfl rfl (by decide)) rfl rfl ?_; refine M0 (q_ld1 rfl rfl rfl rfl rfl) rfl rfl ?_; refine M0 (q_fldp rfl rfl rfl rfl (by decide)) rfl rfl ?_
    refine M0 (q_ld1 rfl rfl rfl rfl rfl) rfl rfl ?_; refine M0 (q_call0 rfl rfl (hf) rfl) rfl rfl ?_; refine M0 (q_assignC rfl rfl rfl) rfl rfl ?_; refine L_nil ?_; refine T_n ?_
    refine A_seq ?_; refine A_seq ?_; refine A_region ?_; refine M0 (q_moveC rfl rfl rfl) rfl rfl ?_; refine M0 (q_lssK rfl rfl rfl rfl (by assumption)) rfl rfl ?_; refine L_nil ?_; refine T_n ?_
    refine A_ifF rfl ?_; refine A_skip ?_; refine T_n ?_; refine A_seq ?_; refine A_region ?_; refine M0 (q_moveC rfl rfl rfl) rfl rfl ?_; refine M0 (q_sub rfl rfl rfl rfl (by omega)) rfl rfl ?_
    refine M0 (q_assignC rfl rfl rfl) rfl rfl ?_; refine L_nil ?_; refine T_n ?_; refine A_ret ?_; refine F_r ?_
    exact E_tmp rfl rfl (W_end [] (by decide) rfl rfl rfl)
set_option maxHeartbeats 8000000 in
theorem S_CleanUpTo (p q : TPeer) (gp : Enc.gd p) (gq : Enc.gd q) : Con Try.prog 8 [] [ag p, ag q] [] (I (cleanUpTo p q)) := by
  have hcp := S_PeerOk p gp
  have hcq := S_PeerOk q gq
  have gSp : Enc.gd p.Sums := gp.2.2.2.2.2.2.2.2.2.1
  have gSq : Enc.gd q.Sums := gq.2.2.2.2.2.2.2.2.2.1
  have hlp := els_len p.Sums
  have hlq := els_len q.Sums
  have g1 := gSp.1
  have g2 := gSq.1
  cases hop : peerOk p with
  | false =>
    rw [hop] at hcp
    rw [clean_no (by simp [hop])]
    refine Con.of Try.func8 rfl Try.ntmps8 rfl (fun E => ?_)
    refine A_seq ?_; refine A_region ?_; refine M1 (q_boxN rfl rfl rfl rfl) rfl rfl ?_; refine M1 (q_boxN rfl rfl rfl rfl) rfl rfl ?_; refine M0 (q_assignC rfl rfl rfl) rfl rfl ?_
    refine L_nil ?_; refine T_n ?_; refine A_seq ?_; refine A_seq ?_; refine A_region ?_; refine M0 (q_ldN rfl rfl rfl rfl rfl rfl) rfl rfl ?_; refine M0 (q_call0 rfl rfl (hcp) rfl) rfl rfl ?_
    refine M0 (q_not rfl rfl rfl) rfl rfl ?_; refine M0 (q_moveC rfl rfl rfl) rfl rfl ?_; refine M_no rfl rfl rfl rfl rfl rfl ?_; refine M_no rfl rfl rfl rfl rfl rfl ?_
    refine M_no rfl rfl rfl rfl rfl rfl ?_; refine M0 (q_pickT rfl rfl rfl rfl) rfl rfl ?_; refine L_nil ?_; refine T_n ?_; refine A_ifT rfl ?_; refine A_seq ?_; refine A_region ?_
    refine M0 (q_assignC rfl rfl rfl) rfl rfl ?_; refine L_nil ?_; refine T_n ?_; refine A_ret ?_; refine T_r ?_; refine F_r ?_
    exact E_tmp rfl rfl (W_end [] (by decide) rfl rfl rfl)
  | true =>
  rw [hop] at hcp
  cases hoq : peerOk q with
  | false =>
    rw [hoq] at hcq
    rw [clean_no (by simp [hoq])]
    refine Con.of Try.func8 rfl Try.ntmps8 rfl (fun E => ?_)
    refine A_seq ?_; refine A_region ?_; refine M1 (q_boxN rfl rfl rfl rfl) rfl rfl ?_; refine M1 (q_boxN rfl rfl rfl rfl) rfl rfl ?_; refine M0 (q_assignC rfl rfl rfl) rfl rfl ?_
    refine L_nil ?_; refine T_n ?_; refine A_seq ?_; refine A_seq ?_; refine A_region ?_; refine M0 (q_ldN rfl rfl rfl rfl rfl rfl) rfl rfl ?_; refine M0 (q_call0 rfl rfl (hcp) rfl) rfl rfl ?_
    refine M0 (q_not rfl rfl rfl) rfl rfl ?_; refine M0 (q_moveC rfl rfl rfl) rfl rfl ?_; refine M_yes rfl rfl rfl ?_; refine M0 (q_ldN rfl rfl rfl rfl rfl rfl) rfl rfl ?_
    refine M_yes rfl rfl rfl ?_; refine M0 (q_call0 rfl rfl (hcq) rfl) rfl rfl ?_; refine M_yes rfl rfl rfl ?_; refine M0 (q_not rfl rfl rfl) rfl rfl ?_
    refine M0 (q_pickF rfl rfl rfl rfl) rfl rfl ?_; refine L_nil ?_; refine T_n ?_; refine A_ifT rfl ?_; refine A_seq ?_; refine A_region ?_; refine M0 (q_assignC rfl rfl rfl) rfl rfl ?_
    refine L_nil ?_; refine T_n ?_; refine A_ret ?_; refine T_r ?_; refine F_r ?_
    exact E_tmp rfl rfl (W_end [] (by decide) rfl rfl rfl)
  | true =>
  rw [hoq] at hcq
  have hf := S_FirstDifference p.Sums q.Sums gSp gSq
  have hr := fd_range p.Sums q.Sums
  by_cases hn : firstDiff p.Sums q.Sums < 0
  · rw [clean_neg ⟨hop, hoq⟩ hn]
    generalize firstDiff p.Sums q.Sums = d at hn hf hr
    have hb1 : decide (d < 0) = true := decide_eq_true hn
    have hb2 : decide (0 ≤ d) = false := decide_eq_false (by omega)
    refine Con.of Try.func8 rfl Try.ntmps8 rfl (fun E => ?_)
    refine A_seq ?_; refine A_region ?_; refine M1 (q_boxN rfl rfl rfl rfl) rfl rfl ?_; refine M1 (q_boxN rfl rfl rfl rfl) rfl rfl ?_; refine M0 (q_assignC rfl rfl rfl) rfl rfl ?_
    refine L_nil ?_; refine T_n ?_; refine A_seq ?_; refine A_seq ?_; refine A_region ?_; refine M0 (q_ldN rfl rfl rfl rfl rfl rfl) rfl rfl ?_; refine M0 (q_call0 rfl rfl (hcp) rfl) rfl rfl ?_
    refine M0 (q_not rfl rfl rfl) rfl rfl ?_; refine M0 (q_moveC rfl rfl rfl) rfl rfl ?_; refine M_yes rfl rfl rfl ?_; refine M0 (q_ldN rfl rfl rfl rfl rfl rfl) rfl rfl ?_
    refine M_yes rfl rfl rfl ?_; refine M0 (q_call0 rfl rfl (hcq) rfl) rfl rfl ?_; refine M_yes rfl rfl rfl ?_; refine M0 (q_not rfl rfl rfl) rfl rfl ?_
    refine M0 (q_pickF rfl rfl rfl rfl) rfl rfl ?_; refine L_nil ?_; refine T_n ?_; refine A_ifF rfl ?_; refine A_skip ?_; refine T_n ?_; refine A_seq ?_; refine A_region ?_
    refine M0 (q_fldp rfl rfl rfl rfl (by decide)) rfl rfl ?_; refine M0 (q_ld1 rfl rfl rfl rfl rfl) rfl rfl ?_; refine M0 (q_fldp rfl rfl rfl rfl (by decide)) rfl rfl ?_
    refine M0 (q_ld1 rfl rfl rfl rfl rfl) rfl rfl ?_; refine M0 (q_call0 rfl rfl (hf) rfl) rfl rfl ?_; refine M0 (q_assignC rfl rfl rfl) rfl rfl ?_; refine L_nil ?_; refine T_n ?_
    refine A_seq ?_; refine A_seq ?_; refine A_region ?_; refine M0 (q_moveC rfl rfl rfl) rfl rfl ?_; refine M0 (q_geqK rfl rfl rfl rfl (by assumption)) rfl rfl ?_; refine L_nil ?_; refine T_n ?_
    refine A_ifF rfl ?_; refine A_skip ?_; refine T_n ?_; refine A_seq ?_; refine A_region ?_; refine M0 (q_fldp rfl rfl rfl rfl (by decide)) rfl rfl ?_
    refine M0 (q_ld1 rfl rfl rfl rfl rfl) rfl rfl ?_; refine M0 (q_len rfl rfl rfl) rfl rfl ?_; refine M0 (q_fldp rfl rfl rfl rfl (by decide)) rfl rfl ?_
    refine M0 (q_ld1 rfl rfl rfl rfl rfl) rfl rfl ?_; refine M0 (q_len rfl rfl rfl) rfl rfl ?_; refine M0 (q_min rfl rfl rfl rfl) rfl rfl ?_
    refine M0 (q_sub rfl rfl rfl rfl (by omega)) rfl rfl ?_; refine M0 (q_assignC rfl rfl rfl) rfl rfl ?_; refine L_nil ?_; refine T_n ?_; refine A_ret ?_; refine F_r ?_
    exact E_tmp rfl rfl (W_end [] (by decide) rfl rfl (I_eq (by rw [hlp, hlq])))
  · rw [clean_pos ⟨hop, hoq⟩ hn]
    generalize firstDiff p.Sums q.Sums = d at hn hf hr
    have hb1 : decide (d < 0) = false := decide_eq_false hn
    have hb2 : decide (0 ≤ d) = true := decide_eq_true (by omega)
    refine Con.of Try.func8 rfl Try.ntmps8 rfl (fun E => ?_)
    refine A_seq ?_; refine A_region ?_; refine M1 (q_boxN rfl rfl rfl rfl) rfl rfl ?_; refine M1 (q_boxN rfl rfl rfl rfl) rfl rfl ?_; refine M0 (q_assignC rfl rfl rfl) rfl rfl ?_
    refine L_nil ?_; refine T_n ?_; refine A_seq ?_; refine A_seq ?_; refine A_region ?_; refine M0 (q_ldN rfl rfl rfl rfl rfl rfl) rfl rfl ?_; refine M0 (q_call0 rfl rfl (hcp) rfl) rfl rfl ?_
    refine M0 (q_not rfl rfl rfl) rfl rfl ?_; refine M0 (q_moveC rfl rfl rfl) rfl rfl ?_; refine M_yes rfl rfl rfl ?_; refine M0 (q_ldN rfl rfl rfl rfl rfl rfl) rfl rfl ?_
    refine M_yes rfl rfl rfl ?_; refine M0 (q_call0 rfl rfl (hcq) rfl) rfl rfl ?_; refine M_yes rfl rfl rfl ?_; refine M0 (q_not rfl rfl rfl) rfl rfl ?_
    refine M0 (q_pickF rfl rfl rfl rfl) rfl rfl ?_; refine L_nil ?_; refine T_n ?_; refine A_ifF rfl ?_; refine A_skip ?_; refine T_n ?_; refine A_seq ?_; refine A_region ?_
    refine M0 (q_fldp rfl rfl rfl rfl (by decide)) rfl rfl ?_; refine M0 (q_ld1 rfl rfl rfl rfl rfl) rfl rfl ?_; refine M0 (q_fldp rfl rfl rfl rfl (by decide)) rfl rfl ?_
    refine M0 (q_ld1 rfl rfl rfl rfl rfl) rfl rfl ?_; refine M0 (q_call0 rfl rfl (hf) rfl) rfl rfl ?_; refine M0 (q_assignC rfl rfl rfl) rfl rfl ?_; refine L_nil ?_; refine T_n ?_
    refine A_seq ?_; refine A_seq ?_; refine A_region ?_; refine M0 (q_moveC rfl rfl rfl) rfl rfl ?_; refine M0 (q_geqK rfl rfl rfl rfl (by assumption)) rfl rfl ?_; refine L_nil ?_; refine T_n ?_
    refine A_ifT rfl ?_; refine A_seq ?_; refine A_region ?_; refine M0 (q_moveC rfl rfl rfl) rfl rfl ?_; refine M0 (q_sub rfl rfl rfl rfl (by omega)) rfl rfl ?_
    refine M0 (q_assignC rfl rfl rfl) rfl rfl ?_; refine L_nil ?_; refine T_n ?_; refine A_ret ?_; refine T_r ?_; refine F_r ?_
    exact E_tmp rfl rfl (W_end [] (by decide) rfl rfl rfl)
end Go.Proofs.Ytbpebmolbdplmaa
end

section
set_option linter.unusedVariables false
set_option linter.unusedSimpArgs false
set_option maxRecDepth 8000
namespace Go.Proofs.Ytbpebmolbdplmaa
open Go.RowKit

set_option maxHeartbeats 8000000 in
theorem to_Peer (x : TPeer) (hg : Enc.wt x ≤ 1048576) : Con Try.prog 9 [] [ag x] [.row 1 (els x.Tracks), .row 1 (els x.Base.Level.Rows), .row 1 (els x.Base.Scores), .row 9 (els x.Base.Bodies), .row 1 (els x.Now.Level.Rows), .row 1 (els x.Now.Scores), .row 9 (els x.Now.Bodies), .row 1 (els x.Used), .row 2 (els x.Saves), .row 1 (els x.Sums)] (.o (.ag [.rd [] (.v (.int .i64 x.Me)), .rd [] (.v (.int .i64 x.Delay)), .rd [] (.v (.int .i64 x.Ahead)), .rd [] (.v (.int .i64 x.Seed)), .ref 0, .ref 1, .rd [] (.v (.int .i64 x.Base.Tick)), .rd [] (.v (.int .i64 x.Base.Seed)), .ref 2, .ref 3, .ref 4, .rd [] (.v (.int .i64 x.Now.Tick)), .rd [] (.v (.int .i64 x.Now.Seed)), .ref 5, .ref 6, .ref 7, .ref 8, .ref 9, .rd [] (.v (.int .i64 x.Fault.Tick)), .rd [] (.v (.int .i64 x.Fault.Player)), .rd [] (.v (.int .i64 x.Fault.Add)), .rd [] (.v (.int .i64 x.Rolls)), .rd [] (.v (.int .i64 x.Again))])) := by
  have hw : Enc.wt x = Enc.wt x.Tracks + Enc.wt x.Base + Enc.wt x.Now + Enc.wt x.Used + Enc.wt x.Saves + Enc.wt x.Sums + Enc.wt x.Fault := rfl
  refine Con.of Try.func9 rfl Try.ntmps9 rfl (fun E => ?_)
  refine A_seq ?_; refine A_region ?_; refine M1 (q_boxN rfl rfl rfl rfl) rfl rfl ?_; refine M1 (q_alloc rfl rfl rfl) rfl rfl ?_; refine L_nil ?_; refine T_n ?_; refine A_seq ?_
  refine A_region ?_; refine M1 (q_alloc rfl rfl rfl) rfl rfl ?_; refine L_nil ?_; refine T_n ?_; refine A_seq ?_; refine A_region ?_; refine M0 (q_fldp rfl rfl rfl rfl (by decide)) rfl rfl ?_
  refine M0 (q_ld1 rfl rfl rfl rfl rfl) rfl rfl ?_; refine M0 (q_fldp rfl rfl rfl rfl (by decide)) rfl rfl ?_; refine M_st1 rfl rfl rfl rfl rfl rfl rfl rfl ?_; refine L_nil ?_; refine T_n ?_
  refine A_seq ?_; refine A_region ?_; refine M0 (q_fldp rfl rfl rfl rfl (by decide)) rfl rfl ?_; refine M0 (q_ld1 rfl rfl rfl rfl rfl) rfl rfl ?_
  refine M0 (q_fldp rfl rfl rfl rfl (by decide)) rfl rfl ?_; refine M_st1 rfl rfl rfl rfl rfl rfl rfl rfl ?_; refine L_nil ?_; refine T_n ?_; refine A_seq ?_; refine A_region ?_
  refine M0 (q_fldp rfl rfl rfl rfl (by decide)) rfl rfl ?_; refine M0 (q_ld1 rfl rfl rfl rfl rfl) rfl rfl ?_; refine M0 (q_fldp rfl rfl rfl rfl (by decide)) rfl rfl ?_
  refine M_st1 rfl rfl rfl rfl rfl rfl rfl rfl ?_; refine L_nil ?_; refine T_n ?_; refine A_seq ?_; refine A_region ?_; refine M0 (q_fldp rfl rfl rfl rfl (by decide)) rfl rfl ?_
  refine M0 (q_ld1 rfl rfl rfl rfl rfl) rfl rfl ?_; refine M0 (q_fldp rfl rfl rfl rfl (by decide)) rfl rfl ?_; refine M_st1 rfl rfl rfl rfl rfl rfl rfl rfl ?_; refine L_nil ?_; refine T_n ?_
  refine A_seq ?_; refine A_region ?_; refine M0 (q_fldp rfl rfl rfl rfl (by decide)) rfl rfl ?_; refine M0 (q_ld1 rfl rfl rfl rfl rfl) rfl rfl ?_
  refine AL.weak (st' := (⟨_, [(1, .o (.c (.ptr 0 0))), (2, .o (.c (.ptr 1 0))), (3, .o (.c (.ptr 2 0))), (17, L x.Tracks)], [.box ((Enc.e x).map (V1.rd [])), .box [.rd [] (.v (.int .i64 0)), .rd [] (.v (.int .i64 0)), .rd [] (.v (.int .i64 0)), .rd [] (.v (.int .i64 0)), .rd [] (.v (.slice none 0 0)), .rd [] (.v (.slice none 0 0)), .rd [] (.v (.int .i64 0)), .rd [] (.v (.int .i64 0)), .rd [] (.v (.slice none 0 0)), .rd [] (.v (.slice none 0 0)), .rd [] (.v (.slice none 0 0)), .rd [] (.v (.int .i64 0)), .rd [] (.v (.int .i64 0)), .rd [] (.v (.slice none 0 0)), .rd [] (.v (.slice none 0 0)), .rd [] (.v (.slice none 0 0)), .rd [] (.v (.slice none 0 0)), .rd [] (.v (.slice none 0 0)), .rd [] (.v (.int .i64 0)), .rd [] (.v (.int .i64 0)), .rd [] (.v (.int .i64 0)), .rd [] (.v (.int .i64 0)), .rd [] (.v (.int .i64 0))], .box [.rd [] (.v (.int .i64 x.Me)), .rd [] (.v (.int .i64 x.Delay)), .rd [] (.v (.int .i64 x.Ahead)), .rd [] (.v (.int .i64 x.Seed)), .rd [] (.v (.slice none 0 0)), .rd [] (.v (.slice none 0 0)), .rd [] (.v (.int .i64 0)), .rd [] (.v (.int .i64 0)), .rd [] (.v (.slice none 0 0)), .rd [] (.v (.slice none 0 0)), .rd [] (.v (.slice none 0 0)), .rd [] (.v (.int .i64 0)), .rd [] (.v (.int .i64 0)), .rd [] (.v (.slice none 0 0)), .rd [] (.v (.slice none 0 0)), .rd [] (.v (.slice none 0 0)), .rd [] (.v (.slice none 0 0)), .rd [] (.v (.slice none 0 0)), .rd [] (.v (.int .i64 0)), .rd [] (.v (.int .i64 0)), .rd [] (.v (.int .i64 0)), .rd [] (.v (.int .i64 0)), .rd [] (.v (.int .i64 0))]]⟩ : St)) (W_go [0, 1, 2] (by decide) rfl (rfl) (.cons rfl (.cons rfl (.cons rfl (.cons rfl (.nil)))))) ?_
  refine M1 (q_call rfl rfl (to_TrackS x.Tracks (by omega)) rfl rfl rfl) rfl rfl ?_; refine M0 (q_fldp rfl rfl rfl rfl (by decide)) rfl rfl ?_
  refine M_st1 rfl rfl rfl rfl rfl rfl rfl rfl ?_; refine L_nil ?_; refine T_n ?_; refine A_seq ?_; refine A_region ?_; refine M0 (q_fldp rfl rfl rfl rfl (by decide)) rfl rfl ?_
  refine M0 (q_ldN rfl rfl rfl rfl rfl rfl) rfl rfl ?_
  refine AL.weak (st' := (⟨_, [(1, .o (.c (.ptr 0 0))), (2, .o (.c (.ptr 1 0))), (3, .o (.c (.ptr 2 0))), (21, .o (.ag ((Enc.e x.Base).map (V1.rd []))))], [.box ((Enc.e x).map (V1.rd [])), .box [.rd [] (.v (.int .i64 0)), .rd [] (.v (.int .i64 0)), .rd [] (.v (.int .i64 0)), .rd [] (.v (.int .i64 0)), .rd [] (.v (.slice none 0 0)), .rd [] (.v (.slice none 0 0)), .rd [] (.v (.int .i64 0)), .rd [] (.v (.int .i64 0)), .rd [] (.v (.slice none 0 0)), .rd [] (.v (.slice none 0 0)), .rd [] (.v (.slice none 0 0)), .rd [] (.v (.int .i64 0)), .rd [] (.v (.int .i64 0)), .rd [] (.v (.slice none 0 0)), .rd [] (.v (.slice none 0 0)), .rd [] (.v (.slice none 0 0)), .rd [] (.v (.slice none 0 0)), .rd [] (.v (.slice none 0 0)), .rd [] (.v (.int .i64 0)), .rd [] (.v (.int .i64 0)), .rd [] (.v (.int .i64 0)), .rd [] (.v (.int .i64 0)), .rd [] (.v (.int .i64 0))], .box [.rd [] (.v (.int .i64 x.Me)), .rd [] (.v (.int .i64 x.Delay)), .rd [] (.v (.int .i64 x.Ahead)), .rd [] (.v (.int .i64 x.Seed)), .ref 3, .rd [] (.v (.slice none 0 0)), .rd [] (.v (.int .i64 0)), .rd [] (.v (.int .i64 0)), .rd [] (.v (.slice none 0 0)), .rd [] (.v (.slice none 0 0)), .rd [] (.v (.slice none 0 0)), .rd [] (.v (.int .i64 0)), .rd [] (.v (.int .i64 0)), .rd [] (.v (.slice none 0 0)), .rd [] (.v (.slice none 0 0)), .rd [] (.v (.slice none 0 0)), .rd [] (.v (.slice none 0 0)), .rd [] (.v (.slice none 0 0)), .rd [] (.v (.int .i64 0)), .rd [] (.v (.int .i64 0)), .rd [] (.v (.int .i64 0)), .rd [] (.v (.int .i64 0)), .rd [] (.v (.int .i64 0))], .row 1 (els x.Tracks)]⟩ : St)) (W_go [0, 1, 2, 3] (by decide) rfl (rfl) (.cons rfl (.cons rfl (.cons rfl (.cons rfl (.nil)))))) ?_
  refine M1 (q_call rfl rfl (to_World x.Base (by omega)) rfl rfl rfl) rfl rfl ?_; refine M0 (q_fldp rfl rfl rfl rfl (by decide)) rfl rfl ?_
  refine M_stN rfl rfl rfl rfl rfl rfl rfl rfl rfl ?_; refine L_nil ?_; refine T_n ?_; refine A_seq ?_; refine A_region ?_; refine M0 (q_fldp rfl rfl rfl rfl (by decide)) rfl rfl ?_
  refine M0 (q_ldN rfl rfl rfl rfl rfl rfl) rfl rfl ?_
  refine AL.weak (st' := (⟨_, [(1, .o (.c (.ptr 0 0))), (2, .o (.c (.ptr 1 0))), (3, .o (.c (.ptr 2 0))), (25, .o (.ag ((Enc.e x.Now).map (V1.rd []))))], [.box ((Enc.e x).map (V1.rd [])), .box [.rd [] (.v (.int .i64 0)), .rd [] (.v (.int .i64 0)), .rd [] (.v (.int .i64 0)), .rd [] (.v (.int .i64 0)), .rd [] (.v (.slice none 0 0)), .rd [] (.v (.slice none 0 0)), .rd [] (.v (.int .i64 0)), .rd [] (.v (.int .i64 0)), .rd [] (.v (.slice none 0 0)), .rd [] (.v (.slice none 0 0)), .rd [] (.v (.slice none 0 0)), .rd [] (.v (.int .i64 0)), .rd [] (.v (.int .i64 0)), .rd [] (.v (.slice none 0 0)), .rd [] (.v (.slice none 0 0)), .rd [] (.v (.slice none 0 0)), .rd [] (.v (.slice none 0 0)), .rd [] (.v (.slice none 0 0)), .rd [] (.v (.int .i64 0)), .rd [] (.v (.int .i64 0)), .rd [] (.v (.int .i64 0)), .rd [] (.v (.int .i64 0)), .rd [] (.v (.int .i64 0))], .box [.rd [] (.v (.int .i64 x.Me)), .rd [] (.v (.int .i64 x.Delay)), .rd [] (.v (.int .i64 x.Ahead)), .rd [] (.v (.int .i64 x.Seed)), .ref 3, .ref 4, .rd [] (.v (.int .i64 x.Base.Tick)), .rd [] (.v (.int .i64 x.Base.Seed)), .ref 5, .ref 6, .rd [] (.v (.slice none 0 0)), .rd [] (.v (.int .i64 0)), .rd [] (.v (.int .i64 0)), .rd [] (.v (.slice none 0 0)), .rd [] (.v (.slice none 0 0)), .rd [] (.v (.slice none 0 0)), .rd [] (.v (.slice none 0 0)), .rd [] (.v (.slice none 0 0)), .rd [] (.v (.int .i64 0)), .rd [] (.v (.int .i64 0)), .rd [] (.v (.int .i64 0)), .rd [] (.v (.int .i64 0)), .rd [] (.v (.int .i64 0))], .row 1 (els x.Tracks), .row 1 (els x.Base.Level.Rows), .row 1 (els x.Base.Scores), .row 9 (els x.Base.Bodies)]⟩ : St)) (W_go [0, 1, 2, 3, 4, 5, 6] (by decide) rfl (rfl) (.cons rfl (.cons rfl (.cons rfl (.cons rfl (.nil)))))) ?_
  refine M1 (q_call rfl rfl (to_World x.Now (by omega)) rfl rfl rfl) rfl rfl ?_; refine M0 (q_fldp rfl rfl rfl rfl (by decide)) rfl rfl ?_
  refine M_stN rfl rfl rfl rfl rfl rfl rfl rfl rfl ?_; refine L_nil ?_; refine T_n ?_; refine A_seq ?_; refine A_region ?_; refine M0 (q_fldp rfl rfl rfl rfl (by decide)) rfl rfl ?_
  refine M0 (q_ld1 rfl rfl rfl rfl rfl) rfl rfl ?_
  refine AL.weak (st' := (⟨_, [(1, .o (.c (.ptr 0 0))), (2, .o (.c (.ptr 1 0))), (3, .o (.c (.ptr 2 0))), (29, L x.Used)], [.box ((Enc.e x).map (V1.rd [])), .box [.rd [] (.v (.int .i64 0)), .rd [] (.v (.int .i64 0)), .rd [] (.v (.int .i64 0)), .rd [] (.v (.int .i64 0)), .rd [] (.v (.slice none 0 0)), .rd [] (.v (.slice none 0 0)), .rd [] (.v (.int .i64 0)), .rd [] (.v (.int .i64 0)), .rd [] (.v (.slice none 0 0)), .rd [] (.v (.slice none 0 0)), .rd [] (.v (.slice none 0 0)), .rd [] (.v (.int .i64 0)), .rd [] (.v (.int .i64 0)), .rd [] (.v (.slice none 0 0)), .rd [] (.v (.slice none 0 0)), .rd [] (.v (.slice none 0 0)), .rd [] (.v (.slice none 0 0)), .rd [] (.v (.slice none 0 0)), .rd [] (.v (.int .i64 0)), .rd [] (.v (.int .i64 0)), .rd [] (.v (.int .i64 0)), .rd [] (.v (.int .i64 0)), .rd [] (.v (.int .i64 0))], .box [.rd [] (.v (.int .i64 x.Me)), .rd [] (.v (.int .i64 x.Delay)), .rd [] (.v (.int .i64 x.Ahead)), .rd [] (.v (.int .i64 x.Seed)), .ref 3, .ref 4, .rd [] (.v (.int .i64 x.Base.Tick)), .rd [] (.v (.int .i64 x.Base.Seed)), .ref 5, .ref 6, .ref 7, .rd [] (.v (.int .i64 x.Now.Tick)), .rd [] (.v (.int .i64 x.Now.Seed)), .ref 8, .ref 9, .rd [] (.v (.slice none 0 0)), .rd [] (.v (.slice none 0 0)), .rd [] (.v (.slice none 0 0)), .rd [] (.v (.int .i64 0)), .rd [] (.v (.int .i64 0)), .rd [] (.v (.int .i64 0)), .rd [] (.v (.int .i64 0)), .rd [] (.v (.int .i64 0))], .row 1 (els x.Tracks), .row 1 (els x.Base.Level.Rows), .row 1 (els x.Base.Scores), .row 9 (els x.Base.Bodies), .row 1 (els x.Now.Level.Rows), .row 1 (els x.Now.Scores), .row 9 (els x.Now.Bodies)]⟩ : St)) (W_go [0, 1, 2, 3, 4, 5, 6, 7, 8, 9] (by decide) rfl (rfl) (.cons rfl (.cons rfl (.cons rfl (.cons rfl (.nil)))))) ?_
  refine M1 (q_call rfl rfl (to_IntSS x.Used (by omega)) rfl rfl rfl) rfl rfl ?_; refine M0 (q_fldp rfl rfl rfl rfl (by decide)) rfl rfl ?_
  refine M_st1 rfl rfl rfl rfl rfl rfl rfl rfl ?_; refine L_nil ?_; refine T_n ?_; refine A_seq ?_; refine A_region ?_; refine M0 (q_fldp rfl rfl rfl rfl (by decide)) rfl rfl ?_
  refine M0 (q_ld1 rfl rfl rfl rfl rfl) rfl rfl ?_
  refine AL.weak (st' := (⟨_, [(1, .o (.c (.ptr 0 0))), (2, .o (.c (.ptr 1 0))), (3, .o (.c (.ptr 2 0))), (33, L x.Saves)], [.box ((Enc.e x).map (V1.rd [])), .box [.rd [] (.v (.int .i64 0)), .rd [] (.v (.int .i64 0)), .rd [] (.v (.int .i64 0)), .rd [] (.v (.int .i64 0)), .rd [] (.v (.slice none 0 0)), .rd [] (.v (.slice none 0 0)), .rd [] (.v (.int .i64 0)), .rd [] (.v (.int .i64 0)), .rd [] (.v (.slice none 0 0)), .rd [] (.v (.slice none 0 0)), .rd [] (.v (.slice none 0 0)), .rd [] (.v (.int .i64 0)), .rd [] (.v (.int .i64 0)), .rd [] (.v (.slice none 0 0)), .rd [] (.v (.slice none 0 0)), .rd [] (.v (.slice none 0 0)), .rd [] (.v (.slice none 0 0)), .rd [] (.v (.slice none 0 0)), .rd [] (.v (.int .i64 0)), .rd [] (.v (.int .i64 0)), .rd [] (.v (.int .i64 0)), .rd [] (.v (.int .i64 0)), .rd [] (.v (.int .i64 0))], .box [.rd [] (.v (.int .i64 x.Me)), .rd [] (.v (.int .i64 x.Delay)), .rd [] (.v (.int .i64 x.Ahead)), .rd [] (.v (.int .i64 x.Seed)), .ref 3, .ref 4, .rd [] (.v (.int .i64 x.Base.Tick)), .rd [] (.v (.int .i64 x.Base.Seed)), .ref 5, .ref 6, .ref 7, .rd [] (.v (.int .i64 x.Now.Tick)), .rd [] (.v (.int .i64 x.Now.Seed)), .ref 8, .ref 9, .ref 10, .rd [] (.v (.slice none 0 0)), .rd [] (.v (.slice none 0 0)), .rd [] (.v (.int .i64 0)), .rd [] (.v (.int .i64 0)), .rd [] (.v (.int .i64 0)), .rd [] (.v (.int .i64 0)), .rd [] (.v (.int .i64 0))], .row 1 (els x.Tracks), .row 1 (els x.Base.Level.Rows), .row 1 (els x.Base.Scores), .row 9 (els x.Base.Bodies), .row 1 (els x.Now.Level.Rows), .row 1 (els x.Now.Scores), .row 9 (els x.Now.Bodies), .row 1 (els x.Used)]⟩ : St)) (W_go [0, 1, 2, 3, 4, 5, 6, 7, 8, 9, 10] (by decide) rfl (rfl) (.cons rfl (.cons rfl (.cons rfl (.cons rfl (.nil)))))) ?_
  refine M1 (q_call rfl rfl (to_SaveS x.Saves (by omega)) rfl rfl rfl) rfl rfl ?_; refine M0 (q_fldp rfl rfl rfl rfl (by decide)) rfl rfl ?_
  refine M_st1 rfl rfl rfl rfl rfl rfl rfl rfl ?_; refine L_nil ?_; refine T_n ?_; refine A_seq ?_; refine A_region ?_; refine M0 (q_fldp rfl rfl rfl rfl (by decide)) rfl rfl ?_
  refine M0 (q_ld1 rfl rfl rfl rfl rfl) rfl rfl ?_
  refine AL.weak (st' := (⟨_, [(1, .o (.c (.ptr 0 0))), (2, .o (.c (.ptr 1 0))), (3, .o (.c (.ptr 2 0))), (37, L x.Sums)], [.box ((Enc.e x).map (V1.rd [])), .box [.rd [] (.v (.int .i64 0)), .rd [] (.v (.int .i64 0)), .rd [] (.v (.int .i64 0)), .rd [] (.v (.int .i64 0)), .rd [] (.v (.slice none 0 0)), .rd [] (.v (.slice none 0 0)), .rd [] (.v (.int .i64 0)), .rd [] (.v (.int .i64 0)), .rd [] (.v (.slice none 0 0)), .rd [] (.v (.slice none 0 0)), .rd [] (.v (.slice none 0 0)), .rd [] (.v (.int .i64 0)), .rd [] (.v (.int .i64 0)), .rd [] (.v (.slice none 0 0)), .rd [] (.v (.slice none 0 0)), .rd [] (.v (.slice none 0 0)), .rd [] (.v (.slice none 0 0)), .rd [] (.v (.slice none 0 0)), .rd [] (.v (.int .i64 0)), .rd [] (.v (.int .i64 0)), .rd [] (.v (.int .i64 0)), .rd [] (.v (.int .i64 0)), .rd [] (.v (.int .i64 0))], .box [.rd [] (.v (.int .i64 x.Me)), .rd [] (.v (.int .i64 x.Delay)), .rd [] (.v (.int .i64 x.Ahead)), .rd [] (.v (.int .i64 x.Seed)), .ref 3, .ref 4, .rd [] (.v (.int .i64 x.Base.Tick)), .rd [] (.v (.int .i64 x.Base.Seed)), .ref 5, .ref 6, .ref 7, .rd [] (.v (.int .i64 x.Now.Tick)), .rd [] (.v (.int .i64 x.Now.Seed)), .ref 8, .ref 9, .ref 10, .ref 11, .rd [] (.v (.slice none 0 0)), .rd [] (.v (.int .i64 0)), .rd [] (.v (.int .i64 0)), .rd [] (.v (.int .i64 0)), .rd [] (.v (.int .i64 0)), .rd [] (.v (.int .i64 0))], .row 1 (els x.Tracks), .row 1 (els x.Base.Level.Rows), .row 1 (els x.Base.Scores), .row 9 (els x.Base.Bodies), .row 1 (els x.Now.Level.Rows), .row 1 (els x.Now.Scores), .row 9 (els x.Now.Bodies), .row 1 (els x.Used), .row 2 (els x.Saves)]⟩ : St)) (W_go [0, 1, 2, 3, 4, 5, 6, 7, 8, 9, 10, 11] (by decide) rfl (rfl) (.cons rfl (.cons rfl (.cons rfl (.cons rfl (.nil)))))) ?_
  refine M1 (q_call rfl rfl (to_IntS x.Sums (by omega)) rfl rfl rfl) rfl rfl ?_; refine M0 (q_fldp rfl rfl rfl rfl (by decide)) rfl rfl ?_
  refine M_st1 rfl rfl rfl rfl rfl rfl rfl rfl ?_; refine L_nil ?_; refine T_n ?_; refine A_seq ?_; refine A_region ?_; refine M0 (q_fldp rfl rfl rfl rfl (by decide)) rfl rfl ?_
  refine M0 (q_ldN rfl rfl rfl rfl rfl rfl) rfl rfl ?_
  refine AL.weak (st' := (⟨_, [(1, .o (.c (.ptr 0 0))), (2, .o (.c (.ptr 1 0))), (3, .o (.c (.ptr 2 0))), (41, .o (.ag ((Enc.e x.Fault).map (V1.rd []))))], [.box ((Enc.e x).map (V1.rd [])), .box [.rd [] (.v (.int .i64 0)), .rd [] (.v (.int .i64 0)), .rd [] (.v (.int .i64 0)), .rd [] (.v (.int .i64 0)), .rd [] (.v (.slice none 0 0)), .rd [] (.v (.slice none 0 0)), .rd [] (.v (.int .i64 0)), .rd [] (.v (.int .i64 0)), .rd [] (.v (.slice none 0 0)), .rd [] (.v (.slice none 0 0)), .rd [] (.v (.slice none 0 0)), .rd [] (.v (.int .i64 0)), .rd [] (.v (.int .i64 0)), .rd [] (.v (.slice none 0 0)), .rd [] (.v (.slice none 0 0)), .rd [] (.v (.slice none 0 0)), .rd [] (.v (.slice none 0 0)), .rd [] (.v (.slice none 0 0)), .rd [] (.v (.int .i64 0)), .rd [] (.v (.int .i64 0)), .rd [] (.v (.int .i64 0)), .rd [] (.v (.int .i64 0)), .rd [] (.v (.int .i64 0))], .box [.rd [] (.v (.int .i64 x.Me)), .rd [] (.v (.int .i64 x.Delay)), .rd [] (.v (.int .i64 x.Ahead)), .rd [] (.v (.int .i64 x.Seed)), .ref 3, .ref 4, .rd [] (.v (.int .i64 x.Base.Tick)), .rd [] (.v (.int .i64 x.Base.Seed)), .ref 5, .ref 6, .ref 7, .rd [] (.v (.int .i64 x.Now.Tick)), .rd [] (.v (.int .i64 x.Now.Seed)), .ref 8, .ref 9, .ref 10, .ref 11, .ref 12, .rd [] (.v (.int .i64 0)), .rd [] (.v (.int .i64 0)), .rd [] (.v (.int .i64 0)), .rd [] (.v (.int .i64 0)), .rd [] (.v (.int .i64 0))], .row 1 (els x.Tracks), .row 1 (els x.Base.Level.Rows), .row 1 (els x.Base.Scores), .row 9 (els x.Base.Bodies), .row 1 (els x.Now.Level.Rows), .row 1 (els x.Now.Scores), .row 9 (els x.Now.Bodies), .row 1 (els x.Used), .row 2 (els x.Saves), .row 1 (els x.Sums)]⟩ : St)) (W_go [0, 1, 2, 3, 4, 5, 6, 7, 8, 9, 10, 11, 12] (by decide) rfl (rfl) (.cons rfl (.cons rfl (.cons rfl (.cons rfl (.nil)))))) ?_
  first | refine M0 (q_call0 rfl rfl (to_Fault x.Fault (by omega)) rfl) rfl rfl ?_ | refine M1 (q_call rfl rfl (to_Fault x.Fault (by omega)) rfl rfl rfl) rfl rfl ?_
  refine AL.weak (st' := (⟨_, [(1, .o (.c (.ptr 0 0))), (2, .o (.c (.ptr 1 0))), (3, .o (.c (.ptr 2 0))), (42, .o (.ag ((Enc.e x.Fault).map (V1.rd []))))], [.box ((Enc.e x).map (V1.rd [])), .box [.rd [] (.v (.int .i64 0)), .rd [] (.v (.int .i64 0)), .rd [] (.v (.int .i64 0)), .rd [] (.v (.int .i64 0)), .rd [] (.v (.slice none 0 0)), .rd [] (.v (.slice none 0 0)), .rd [] (.v (.int .i64 0)), .rd [] (.v (.int .i64 0)), .rd [] (.v (.slice none 0 0)), .rd [] (.v (.slice none 0 0)), .rd [] (.v (.slice none 0 0)), .rd [] (.v (.int .i64 0)), .rd [] (.v (.int .i64 0)), .rd [] (.v (.slice none 0 0)), .rd [] (.v (.slice none 0 0)), .rd [] (.v (.slice none 0 0)), .rd [] (.v (.slice none 0 0)), .rd [] (.v (.slice none 0 0)), .rd [] (.v (.int .i64 0)), .rd [] (.v (.int .i64 0)), .rd [] (.v (.int .i64 0)), .rd [] (.v (.int .i64 0)), .rd [] (.v (.int .i64 0))], .box [.rd [] (.v (.int .i64 x.Me)), .rd [] (.v (.int .i64 x.Delay)), .rd [] (.v (.int .i64 x.Ahead)), .rd [] (.v (.int .i64 x.Seed)), .ref 3, .ref 4, .rd [] (.v (.int .i64 x.Base.Tick)), .rd [] (.v (.int .i64 x.Base.Seed)), .ref 5, .ref 6, .ref 7, .rd [] (.v (.int .i64 x.Now.Tick)), .rd [] (.v (.int .i64 x.Now.Seed)), .ref 8, .ref 9, .ref 10, .ref 11, .ref 12, .rd [] (.v (.int .i64 0)), .rd [] (.v (.int .i64 0)), .rd [] (.v (.int .i64 0)), .rd [] (.v (.int .i64 0)), .rd [] (.v (.int .i64 0))], .row 1 (els x.Tracks), .row 1 (els x.Base.Level.Rows), .row 1 (els x.Base.Scores), .row 9 (els x.Base.Bodies), .row 1 (els x.Now.Level.Rows), .row 1 (els x.Now.Scores), .row 9 (els x.Now.Bodies), .row 1 (els x.Used), .row 2 (els x.Saves), .row 1 (els x.Sums)]⟩ : St)) (W_go [0, 1, 2, 3, 4, 5, 6, 7, 8, 9, 10, 11, 12] (by decide) rfl (rfl) (.cons rfl (.cons rfl (.cons rfl (.cons rfl (.nil)))))) ?_
  refine M0 (q_fldp rfl rfl rfl rfl (by decide)) rfl rfl ?_; refine M_stN rfl rfl rfl rfl rfl rfl rfl rfl rfl ?_; refine L_nil ?_; refine T_n ?_; refine A_seq ?_; refine A_region ?_
  refine M0 (q_fldp rfl rfl rfl rfl (by decide)) rfl rfl ?_; refine M0 (q_ld1 rfl rfl rfl rfl rfl) rfl rfl ?_; refine M0 (q_fldp rfl rfl rfl rfl (by decide)) rfl rfl ?_
  refine M_st1 rfl rfl rfl rfl rfl rfl rfl rfl ?_; refine L_nil ?_; refine T_n ?_; refine A_seq ?_; refine A_region ?_; refine M0 (q_fldp rfl rfl rfl rfl (by decide)) rfl rfl ?_
  refine M0 (q_ld1 rfl rfl rfl rfl rfl) rfl rfl ?_; refine M0 (q_fldp rfl rfl rfl rfl (by decide)) rfl rfl ?_; refine M_st1 rfl rfl rfl rfl rfl rfl rfl rfl ?_; refine L_nil ?_; refine T_n ?_
  refine A_seq ?_; refine A_region ?_
  refine AL.weak (st' := (⟨_, [(2, .o (.c (.ptr 1 0))), (3, .o (.c (.ptr 2 0)))], [.box ((Enc.e x).map (V1.rd [])), .box [.rd [] (.v (.int .i64 0)), .rd [] (.v (.int .i64 0)), .rd [] (.v (.int .i64 0)), .rd [] (.v (.int .i64 0)), .rd [] (.v (.slice none 0 0)), .rd [] (.v (.slice none 0 0)), .rd [] (.v (.int .i64 0)), .rd [] (.v (.int .i64 0)), .rd [] (.v (.slice none 0 0)), .rd [] (.v (.slice none 0 0)), .rd [] (.v (.slice none 0 0)), .rd [] (.v (.int .i64 0)), .rd [] (.v (.int .i64 0)), .rd [] (.v (.slice none 0 0)), .rd [] (.v (.slice none 0 0)), .rd [] (.v (.slice none 0 0)), .rd [] (.v (.slice none 0 0)), .rd [] (.v (.slice none 0 0)), .rd [] (.v (.int .i64 0)), .rd [] (.v (.int .i64 0)), .rd [] (.v (.int .i64 0)), .rd [] (.v (.int .i64 0)), .rd [] (.v (.int .i64 0))], .box [.rd [] (.v (.int .i64 x.Me)), .rd [] (.v (.int .i64 x.Delay)), .rd [] (.v (.int .i64 x.Ahead)), .rd [] (.v (.int .i64 x.Seed)), .ref 3, .ref 4, .rd [] (.v (.int .i64 x.Base.Tick)), .rd [] (.v (.int .i64 x.Base.Seed)), .ref 5, .ref 6, .ref 7, .rd [] (.v (.int .i64 x.Now.Tick)), .rd [] (.v (.int .i64 x.Now.Seed)), .ref 8, .ref 9, .ref 10, .ref 11, .ref 12, .rd [] (.v (.int .i64 x.Fault.Tick)), .rd [] (.v (.int .i64 x.Fault.Player)), .rd [] (.v (.int .i64 x.Fault.Add)), .rd [] (.v (.int .i64 x.Rolls)), .rd [] (.v (.int .i64 x.Again))], .row 1 (els x.Tracks), .row 1 (els x.Base.Level.Rows), .row 1 (els x.Base.Scores), .row 9 (els x.Base.Bodies), .row 1 (els x.Now.Level.Rows), .row 1 (els x.Now.Scores), .row 9 (els x.Now.Bodies), .row 1 (els x.Used), .row 2 (els x.Saves), .row 1 (els x.Sums)]⟩ : St)) (W_go [0, 1, 2, 3, 4, 5, 6, 7, 8, 9, 10, 11, 12] (by decide) rfl (rfl) (.cons rfl (.cons rfl (.nil)))) ?_
  refine M0 (q_ldN rfl rfl rfl rfl rfl rfl) rfl rfl ?_
  refine AL.weak (st' := (⟨_, [(2, .o (.c (.ptr 1 0))), (50, .o (.ag [.rd [] (.v (.int .i64 x.Me)), .rd [] (.v (.int .i64 x.Delay)), .rd [] (.v (.int .i64 x.Ahead)), .rd [] (.v (.int .i64 x.Seed)), .ref 3, .ref 4, .rd [] (.v (.int .i64 x.Base.Tick)), .rd [] (.v (.int .i64 x.Base.Seed)), .ref 5, .ref 6, .ref 7, .rd [] (.v (.int .i64 x.Now.Tick)), .rd [] (.v (.int .i64 x.Now.Seed)), .ref 8, .ref 9, .ref 10, .ref 11, .ref 12, .rd [] (.v (.int .i64 x.Fault.Tick)), .rd [] (.v (.int .i64 x.Fault.Player)), .rd [] (.v (.int .i64 x.Fault.Add)), .rd [] (.v (.int .i64 x.Rolls)), .rd [] (.v (.int .i64 x.Again))]))], [.box ((Enc.e x).map (V1.rd [])), .box [.rd [] (.v (.int .i64 0)), .rd [] (.v (.int .i64 0)), .rd [] (.v (.int .i64 0)), .rd [] (.v (.int .i64 0)), .rd [] (.v (.slice none 0 0)), .rd [] (.v (.slice none 0 0)), .rd [] (.v (.int .i64 0)), .rd [] (.v (.int .i64 0)), .rd [] (.v (.slice none 0 0)), .rd [] (.v (.slice none 0 0)), .rd [] (.v (.slice none 0 0)), .rd [] (.v (.int .i64 0)), .rd [] (.v (.int .i64 0)), .rd [] (.v (.slice none 0 0)), .rd [] (.v (.slice none 0 0)), .rd [] (.v (.slice none 0 0)), .rd [] (.v (.slice none 0 0)), .rd [] (.v (.slice none 0 0)), .rd [] (.v (.int .i64 0)), .rd [] (.v (.int .i64 0)), .rd [] (.v (.int .i64 0)), .rd [] (.v (.int .i64 0)), .rd [] (.v (.int .i64 0))], .box [.rd [] (.v (.int .i64 x.Me)), .rd [] (.v (.int .i64 x.Delay)), .rd [] (.v (.int .i64 x.Ahead)), .rd [] (.v (.int .i64 x.Seed)), .ref 3, .ref 4, .rd [] (.v (.int .i64 x.Base.Tick)), .rd [] (.v (.int .i64 x.Base.Seed)), .ref 5, .ref 6, .ref 7, .rd [] (.v (.int .i64 x.Now.Tick)), .rd [] (.v (.int .i64 x.Now.Seed)), .ref 8, .ref 9, .ref 10, .ref 11, .ref 12, .rd [] (.v (.int .i64 x.Fault.Tick)), .rd [] (.v (.int .i64 x.Fault.Player)), .rd [] (.v (.int .i64 x.Fault.Add)), .rd [] (.v (.int .i64 x.Rolls)), .rd [] (.v (.int .i64 x.Again))], .row 1 (els x.Tracks), .row 1 (els x.Base.Level.Rows), .row 1 (els x.Base.Scores), .row 9 (els x.Base.Bodies), .row 1 (els x.Now.Level.Rows), .row 1 (els x.Now.Scores), .row 9 (els x.Now.Bodies), .row 1 (els x.Used), .row 2 (els x.Saves), .row 1 (els x.Sums)]⟩ : St)) (W_go [0, 1, 2, 3, 4, 5, 6, 7, 8, 9, 10, 11, 12] (by decide) rfl (rfl) (.cons rfl (.cons rfl (.nil)))) ?_
  refine M_stN rfl rfl rfl rfl rfl rfl rfl rfl rfl ?_
  refine AL.weak (st' := (⟨_, [(2, .o (.c (.ptr 1 0)))], [.box ((Enc.e x).map (V1.rd [])), .box [.rd [] (.v (.int .i64 x.Me)), .rd [] (.v (.int .i64 x.Delay)), .rd [] (.v (.int .i64 x.Ahead)), .rd [] (.v (.int .i64 x.Seed)), .ref 3, .ref 4, .rd [] (.v (.int .i64 x.Base.Tick)), .rd [] (.v (.int .i64 x.Base.Seed)), .ref 5, .ref 6, .ref 7, .rd [] (.v (.int .i64 x.Now.Tick)), .rd [] (.v (.int .i64 x.Now.Seed)), .ref 8, .ref 9, .ref 10, .ref 11, .ref 12, .rd [] (.v (.int .i64 x.Fault.Tick)), .rd [] (.v (.int .i64 x.Fault.Player)), .rd [] (.v (.int .i64 x.Fault.Add)), .rd [] (.v (.int .i64 x.Rolls)), .rd [] (.v (.int .i64 x.Again))], .box [.rd [] (.v (.int .i64 x.Me)), .rd [] (.v (.int .i64 x.Delay)), .rd [] (.v (.int .i64 x.Ahead)), .rd [] (.v (.int .i64 x.Seed)), .ref 3, .ref 4, .rd [] (.v (.int .i64 x.Base.Tick)), .rd [] (.v (.int .i64 x.Base.Seed)), .ref 5, .ref 6, .ref 7, .rd [] (.v (.int .i64 x.Now.Tick)), .rd [] (.v (.int .i64 x.Now.Seed)), .ref 8, .ref 9, .ref 10, .ref 11, .ref 12, .rd [] (.v (.int .i64 x.Fault.Tick)), .rd [] (.v (.int .i64 x.Fault.Player)), .rd [] (.v (.int .i64 x.Fault.Add)), .rd [] (.v (.int .i64 x.Rolls)), .rd [] (.v (.int .i64 x.Again))], .row 1 (els x.Tracks), .row 1 (els x.Base.Level.Rows), .row 1 (els x.Base.Scores), .row 9 (els x.Base.Bodies), .row 1 (els x.Now.Level.Rows), .row 1 (els x.Now.Scores), .row 9 (els x.Now.Bodies), .row 1 (els x.Used), .row 2 (els x.Saves), .row 1 (els x.Sums)]⟩ : St)) (W_go [0, 1, 2, 3, 4, 5, 6, 7, 8, 9, 10, 11, 12] (by decide) rfl ((by kernel_rfl)) (.cons rfl (.nil))) ?_
  refine L_nil ?_; refine T_n ?_; refine A_ret ?_
  refine F_r ?_
  refine E_cell (cs := [.rd [] (.v (.int .i64 x.Me)), .rd [] (.v (.int .i64 x.Delay)), .rd [] (.v (.int .i64 x.Ahead)), .rd [] (.v (.int .i64 x.Seed)), .ref 3, .ref 4, .rd [] (.v (.int .i64 x.Base.Tick)), .rd [] (.v (.int .i64 x.Base.Seed)), .ref 5, .ref 6, .ref 7, .rd [] (.v (.int .i64 x.Now.Tick)), .rd [] (.v (.int .i64 x.Now.Seed)), .ref 8, .ref 9, .ref 10, .ref 11, .ref 12, .rd [] (.v (.int .i64 x.Fault.Tick)), .rd [] (.v (.int .i64 x.Fault.Player)), .rd [] (.v (.int .i64 x.Fault.Add)), .rd [] (.v (.int .i64 x.Rolls)), .rd [] (.v (.int .i64 x.Again))]) rfl rfl rfl rfl ?_
  exact W_end [3, 4, 5, 6, 7, 8, 9, 10, 11, 12] (by decide) rfl (by kernel_rfl) (by kernel_rfl)
set_option maxHeartbeats 2000000 in
theorem sz_Peer (x : TPeer) (left : Int) (hg : Enc.gd x) (h0 : 0 ≤ left) (h1 : left ≤ 1048576) : Con Try.prog 7 [] [ag x, ai left] [] (I (szr (Enc.wt x) left)) := by
  obtain ⟨g_Me, g_Delay, g_Ahead, g_Seed, g_Tracks, g_Base, g_Now, g_Used, g_Saves, g_Sums, g_Fault, g_Rolls, g_Again⟩ := hg
  have hw : Enc.wt x = Enc.wt x.Tracks + Enc.wt x.Base + Enc.wt x.Now + Enc.wt x.Used + Enc.wt x.Saves + Enc.wt x.Sums + Enc.wt x.Fault := rfl
  have hm1 : decide ((-1 : Int) < 0) = true := rfl
  have hz_Fault : Enc.wt x.Fault = 0 := rfl
  have hc_Tracks := sz_TrackS x.Tracks (left) g_Tracks (by omega) (by omega)
  by_cases n_Tracks : left < Enc.wt x.Tracks
  · rw [szr_neg n_Tracks] at hc_Tracks
    refine Con.of Try.func7 rfl Try.ntmps7 rfl (fun E => ?_)
    refine A_seq ?_; refine A_region ?_; refine M1 (q_boxN rfl rfl rfl rfl) rfl rfl ?_; refine M0 (q_assignC rfl rfl rfl) rfl rfl ?_; refine L_nil ?_; refine T_n ?_; refine A_seq ?_
    refine A_region ?_; refine M0 (q_fldp rfl rfl rfl rfl (by decide)) rfl rfl ?_; refine M0 (q_ld1 rfl rfl rfl rfl rfl) rfl rfl ?_; refine M0 (q_moveC rfl rfl rfl) rfl rfl ?_
    refine M0 (q_call0 rfl rfl (hc_Tracks) rfl) rfl rfl ?_; refine M0 (q_assignC rfl rfl rfl) rfl rfl ?_; refine L_nil ?_; refine T_n ?_; refine A_seq ?_; refine A_seq ?_; refine A_region ?_
    refine M0 (q_moveC rfl rfl rfl) rfl rfl ?_; refine M0 (q_lssK rfl rfl rfl rfl (by assumption)) rfl rfl ?_; refine L_nil ?_; refine T_n ?_; refine A_ifT rfl ?_; refine A_seq ?_
    refine A_region ?_; refine M0 (q_assignC rfl rfl rfl) rfl rfl ?_; refine L_nil ?_; refine T_n ?_; refine A_ret ?_; refine T_r ?_; refine F_r ?_
    exact E_tmp rfl rfl (W_end [] (by decide) rfl rfl (I_eq (by rw [szr_neg (by omega)])))
  rw [szr_pos (by omega)] at hc_Tracks
  have hb_Tracks : decide (left - Enc.wt x.Tracks < 0) = false := decide_eq_false (by omega)
  have hc_Base := sz_World x.Base (left - Enc.wt x.Tracks) g_Base (by omega) (by omega)
  by_cases n_Base : left - Enc.wt x.Tracks < Enc.wt x.Base
  · rw [szr_neg n_Base] at hc_Base
    refine Con.of Try.func7 rfl Try.ntmps7 rfl (fun E => ?_)
    refine A_seq ?_; refine A_region ?_; refine M1 (q_boxN rfl rfl rfl rfl) rfl rfl ?_; refine M0 (q_assignC rfl rfl rfl) rfl rfl ?_; refine L_nil ?_; refine T_n ?_; refine A_seq ?_
    refine A_region ?_; refine M0 (q_fldp rfl rfl rfl rfl (by decide)) rfl rfl ?_; refine M0 (q_ld1 rfl rfl rfl rfl rfl) rfl rfl ?_; refine M0 (q_moveC rfl rfl rfl) rfl rfl ?_
    refine M0 (q_call0 rfl rfl (hc_Tracks) rfl) rfl rfl ?_; refine M0 (q_assignC rfl rfl rfl) rfl rfl ?_; refine L_nil ?_; refine T_n ?_; refine A_seq ?_; refine A_seq ?_; refine A_region ?_
    refine M0 (q_moveC rfl rfl rfl) rfl rfl ?_; refine M0 (q_lssK rfl rfl rfl rfl (by assumption)) rfl rfl ?_; refine L_nil ?_; refine T_n ?_; refine A_ifF rfl ?_; refine A_skip ?_; refine T_n ?_
    refine A_seq ?_; refine A_region ?_; refine M0 (q_fldp rfl rfl rfl rfl (by decide)) rfl rfl ?_; refine M0 (q_ldN rfl rfl rfl rfl rfl rfl) rfl rfl ?_
    refine M0 (q_moveC rfl rfl rfl) rfl rfl ?_; refine M0 (q_call0 rfl rfl (hc_Base) rfl) rfl rfl ?_; refine M0 (q_assignC rfl rfl rfl) rfl rfl ?_; refine L_nil ?_; refine T_n ?_
    refine A_seq ?_; refine A_seq ?_; refine A_region ?_; refine M0 (q_moveC rfl rfl rfl) rfl rfl ?_; refine M0 (q_lssK rfl rfl rfl rfl (by assumption)) rfl rfl ?_; refine L_nil ?_; refine T_n ?_
    refine A_ifT rfl ?_; refine A_seq ?_; refine A_region ?_; refine M0 (q_assignC rfl rfl rfl) rfl rfl ?_; refine L_nil ?_; refine T_n ?_; refine A_ret ?_; refine T_r ?_; refine F_r ?_
    exact E_tmp rfl rfl (W_end [] (by decide) rfl rfl (I_eq (by rw [szr_neg (by omega)])))
  rw [szr_pos (by omega)] at hc_Base
  have hb_Base : decide (left - Enc.wt x.Tracks - Enc.wt x.Base < 0) = false := decide_eq_false (by omega)
  have hc_Now := sz_World x.Now (left - Enc.wt x.Tracks - Enc.wt x.Base) g_Now (by omega) (by omega)
  by_cases n_Now : left - Enc.wt x.Tracks - Enc.wt x.Base < Enc.wt x.Now
  · rw [szr_neg n_Now] at hc_Now
    refine Con.of Try.func7 rfl Try.ntmps7 rfl (fun E => ?_)
    refine A_seq ?_; refine A_region ?_; refine M1 (q_boxN rfl rfl rfl rfl) rfl rfl ?_; refine M0 (q_assignC rfl rfl rfl) rfl rfl ?_; refine L_nil ?_; refine T_n ?_; refine A_seq ?_
    refine A_region ?_; refine M0 (q_fldp rfl rfl rfl rfl (by decide)) rfl rfl ?_; refine M0 (q_ld1 rfl rfl rfl rfl rfl) rfl rfl ?_; refine M0 (q_moveC rfl rfl rfl) rfl rfl ?_
    refine M0 (q_call0 rfl rfl (hc_Tracks) rfl) rfl rfl ?_; refine M0 (q_assignC rfl rfl rfl) rfl rfl ?_; refine L_nil ?_; refine T_n ?_; refine A_seq ?_; refine A_seq ?_; refine A_region ?_
    refine M0 (q_moveC rfl rfl rfl) rfl rfl ?_; refine M0 (q_lssK rfl rfl rfl rfl (by assumption)) rfl rfl ?_; refine L_nil ?_; refine T_n ?_; refine A_ifF rfl ?_; refine A_skip ?_; refine T_n ?_
    refine A_seq ?_; refine A_region ?_; refine M0 (q_fldp rfl rfl rfl rfl (by decide)) rfl rfl ?_; refine M0 (q_ldN rfl rfl rfl rfl rfl rfl) rfl rfl ?_
    refine M0 (q_moveC rfl rfl rfl) rfl rfl ?_; refine M0 (q_call0 rfl rfl (hc_Base) rfl) rfl rfl ?_; refine M0 (q_assignC rfl rfl rfl) rfl rfl ?_; refine L_nil ?_; refine T_n ?_
    refine A_seq ?_; refine A_seq ?_; refine A_region ?_; refine M0 (q_moveC rfl rfl rfl) rfl rfl ?_; refine M0 (q_lssK rfl rfl rfl rfl (by assumption)) rfl rfl ?_; refine L_nil ?_; refine T_n ?_
    refine A_ifF rfl ?_; refine A_skip ?_; refine T_n ?_; refine A_seq ?_; refine A_region ?_; refine M0 (q_fldp rfl rfl rfl rfl (by decide)) rfl rfl ?_
    refine M0 (q_ldN rfl rfl rfl rfl rfl rfl) rfl rfl ?_; refine M0 (q_moveC rfl rfl rfl) rfl rfl ?_; refine M0 (q_call0 rfl rfl (hc_Now) rfl) rfl rfl ?_
    refine M0 (q_assignC rfl rfl rfl) rfl rfl ?_; refine L_nil ?_; refine T_n ?_; refine A_seq ?_; refine A_seq ?_; refine A_region ?_; refine M0 (q_moveC rfl rfl rfl) rfl rfl ?_
    refine M0 (q_lssK rfl rfl rfl rfl (by assumption)) rfl rfl ?_; refine L_nil ?_; refine T_n ?_; refine A_ifT rfl ?_; refine A_seq ?_; refine A_region ?_
    refine M0 (q_assignC rfl rfl rfl) rfl rfl ?_; refine L_nil ?_; refine T_n ?_; refine A_ret ?_; refine T_r ?_; refine F_r ?_
    exact E_tmp rfl rfl (W_end [] (by decide) rfl rfl (I_eq (by rw [szr_neg (by omega)])))
  rw [szr_pos (by omega)] at hc_Now
  have hb_Now : decide (left - Enc.wt x.Tracks - Enc.wt x.Base - Enc.wt x.Now < 0) = false := decide_eq_false (by omega)
  have hc_Used := sz_IntSS x.Used (left - Enc.wt x.Tracks - Enc.wt x.Base - Enc.wt x.Now) g_Used (by omega) (by omega)
  by_cases n_Used : left - Enc.wt x.Tracks - Enc.wt x.Base - Enc.wt x.Now < Enc.wt x.Used
  · rw [szr_neg n_Used] at hc_Used
    refine Con.of Try.func7 rfl Try.ntmps7 rfl (fun E => ?_)
    refine A_seq ?_; refine A_region ?_; refine M1 (q_boxN rfl rfl rfl rfl) rfl rfl ?_; refine M0 (q_assignC rfl rfl rfl) rfl rfl ?_; refine L_nil ?_; refine T_n ?_; refine A_seq ?_
    refine A_region ?_; refine M0 (q_fldp rfl rfl rfl rfl (by decide)) rfl rfl ?_; refine M0 (q_ld1 rfl rfl rfl rfl rfl) rfl rfl ?_; refine M0 (q_moveC rfl rfl rfl) rfl rfl ?_
    refine M0 (q_call0 rfl rfl (hc_Tracks) rfl) rfl rfl ?_; refine M0 (q_assignC rfl rfl rfl) rfl rfl ?_; refine L_nil ?_; refine T_n ?_; refine A_seq ?_; refine A_seq ?_; refine A_region ?_
    refine M0 (q_moveC rfl rfl rfl) rfl rfl ?_; refine M0 (q_lssK rfl rfl rfl rfl (by assumption)) rfl rfl ?_; refine L_nil ?_; refine T_n ?_; refine A_ifF rfl ?_; refine A_skip ?_; refine T_n ?_
    refine A_seq ?_; refine A_region ?_; refine M0 (q_fldp rfl rfl rfl rfl (by decide)) rfl rfl ?_; refine M0 (q_ldN rfl rfl rfl rfl rfl rfl) rfl rfl ?_
    refine M0 (q_moveC rfl rfl rfl) rfl rfl ?_; refine M0 (q_call0 rfl rfl (hc_Base) rfl) rfl rfl ?_; refine M0 (q_assignC rfl rfl rfl) rfl rfl ?_; refine L_nil ?_; refine T_n ?_
    refine A_seq ?_; refine A_seq ?_; refine A_region ?_; refine M0 (q_moveC rfl rfl rfl) rfl rfl ?_; refine M0 (q_lssK rfl rfl rfl rfl (by assumption)) rfl rfl ?_; refine L_nil ?_; refine T_n ?_
    refine A_ifF rfl ?_; refine A_skip ?_; refine T_n ?_; refine A_seq ?_; refine A_region ?_; refine M0 (q_fldp rfl rfl rfl rfl (by decide)) rfl rfl ?_
    refine M0 (q_ldN rfl rfl rfl rfl rfl rfl) rfl rfl ?_; refine M0 (q_moveC rfl rfl rfl) rfl rfl ?_; refine M0 (q_call0 rfl rfl (hc_Now) rfl) rfl rfl ?_
    refine M0 (q_assignC rfl rfl rfl) rfl rfl ?_; refine L_nil ?_; refine T_n ?_; refine A_seq ?_; refine A_seq ?_; refine A_region ?_; refine M0 (q_moveC rfl rfl rfl) rfl rfl ?_
    refine M0 (q_lssK rfl rfl rfl rfl (by assumption)) rfl rfl ?_; refine L_nil ?_; refine T_n ?_; refine A_ifF rfl ?_; refine A_skip ?_; refine T_n ?_; refine A_seq ?_; refine A_region ?_
    refine M0 (q_fldp rfl rfl rfl rfl (by decide)) rfl rfl ?_; refine M0 (q_ld1 rfl rfl rfl rfl rfl) rfl rfl ?_; refine M0 (q_moveC rfl rfl rfl) rfl rfl ?_
    refine M0 (q_call0 rfl rfl (hc_Used) rfl) rfl rfl ?_; refine M0 (q_assignC rfl rfl rfl) rfl rfl ?_; refine L_nil ?_; refine T_n ?_; refine A_seq ?_; refine A_seq ?_; refine A_region ?_
    refine M0 (q_moveC rfl rfl rfl) rfl rfl ?_; refine M0 (q_lssK rfl rfl rfl rfl (by assumption)) rfl rfl ?_; refine L_nil ?_; refine T_n ?_; refine A_ifT rfl ?_; refine A_seq ?_
    refine A_region ?_; refine M0 (q_assignC rfl rfl rfl) rfl rfl ?_; refine L_nil ?_; refine T_n ?_; refine A_ret ?_; refine T_r ?_; refine F_r ?_
    exact E_tmp rfl rfl (W_end [] (by decide) rfl rfl (I_eq (by rw [szr_neg (by omega)])))
  rw [szr_pos (by omega)] at hc_Used
  have hb_Used : decide (left - Enc.wt x.Tracks - Enc.wt x.Base - Enc.wt x.Now - Enc.wt x.Used < 0) = false := decide_eq_false (by omega)
  have hc_Saves := sz_SaveS x.Saves (left - Enc.wt x.Tracks - Enc.wt x.Base - Enc.wt x.Now - Enc.wt x.Used) g_Saves (by omega) (by omega)
  by_cases n_Saves : left - Enc.wt x.Tracks - Enc.wt x.Base - Enc.wt x.Now - Enc.wt x.Used < Enc.wt x.Saves
  · rw [szr_neg n_Saves] at hc_Saves
    refine Con.of Try.func7 rfl Try.ntmps7 rfl (fun E => ?_)
    refine A_seq ?_; refine A_region ?_; refine M1 (q_boxN rfl rfl rfl rfl) rfl rfl ?_; refine M0 (q_assignC rfl rfl rfl) rfl rfl ?_; refine L_nil ?_; refine T_n ?_; refine A_seq ?_
    refine A_region ?_; refine M0 (q_fldp rfl rfl rfl rfl (by decide)) rfl rfl ?_; refine M0 (q_ld1 rfl rfl rfl rfl rfl) rfl rfl ?_; refine M0 (q_moveC rfl rfl rfl) rfl rfl ?_
    refine M0 (q_call0 rfl rfl (hc_Tracks) rfl) rfl rfl ?_; refine M0 (q_assignC rfl rfl rfl) rfl rfl ?_; refine L_nil ?_; refine T_n ?_; refine A_seq ?_; refine A_seq ?_; refine A_region ?_
    refine M0 (q_moveC rfl rfl rfl) rfl rfl ?_; refine M0 (q_lssK rfl rfl rfl rfl (by assumption)) rfl rfl ?_; refine L_nil ?_; refine T_n ?_; refine A_ifF rfl ?_; refine A_skip ?_; refine T_n ?_
    refine A_seq ?_; refine A_region ?_; refine M0 (q_fldp rfl rfl rfl rfl (by decide)) rfl rfl ?_; refine M0 (q_ldN rfl rfl rfl rfl rfl rfl) rfl rfl ?_
    refine M0 (q_moveC rfl rfl rfl) rfl rfl ?_; refine M0 (q_call0 rfl rfl (hc_Base) rfl) rfl rfl ?_; refine M0 (q_assignC rfl rfl rfl) rfl rfl ?_; refine L_nil ?_; refine T_n ?_
    refine A_seq ?_; refine A_seq ?_; refine A_region ?_; refine M0 (q_moveC rfl rfl rfl) rfl rfl ?_; refine M0 (q_lssK rfl rfl rfl rfl (by assumption)) rfl rfl ?_; refine L_nil ?_; refine T_n ?_
    refine A_ifF rfl ?_; refine A_skip ?_; refine T_n ?_; refine A_seq ?_; refine A_region ?_; refine M0 (q_fldp rfl rfl rfl rfl (by decide)) rfl rfl ?_
    refine M0 (q_ldN rfl rfl rfl rfl rfl rfl) rfl rfl ?_; refine M0 (q_moveC rfl rfl rfl) rfl rfl ?_; refine M0 (q_call0 rfl rfl (hc_Now) rfl) rfl rfl ?_
    refine M0 (q_assignC rfl rfl rfl) rfl rfl ?_; refine L_nil ?_; refine T_n ?_; refine A_seq ?_; refine A_seq ?_; refine A_region ?_; refine M0 (q_moveC rfl rfl rfl) rfl rfl ?_
    refine M0 (q_lssK rfl rfl rfl rfl (by assumption)) rfl rfl ?_; refine L_nil ?_; refine T_n ?_; refine A_ifF rfl ?_; refine A_skip ?_; refine T_n ?_; refine A_seq ?_; refine A_region ?_
    refine M0 (q_fldp rfl rfl rfl rfl (by decide)) rfl rfl ?_; refine M0 (q_ld1 rfl rfl rfl rfl rfl) rfl rfl ?_; refine M0 (q_moveC rfl rfl rfl) rfl rfl ?_
    refine M0 (q_call0 rfl rfl (hc_Used) rfl) rfl rfl ?_; refine M0 (q_assignC rfl rfl rfl) rfl rfl ?_; refine L_nil ?_; refine T_n ?_; refine A_seq ?_; refine A_seq ?_; refine A_region ?_
    refine M0 (q_moveC rfl rfl rfl) rfl rfl ?_; refine M0 (q_lssK rfl rfl rfl rfl (by assumption)) rfl rfl ?_; refine L_nil ?_; refine T_n ?_; refine A_ifF rfl ?_; refine A_skip ?_; refine T_n ?_
    refine A_seq ?_; refine A_region ?_; refine M0 (q_fldp rfl rfl rfl rfl (by decide)) rfl rfl ?_; refine M0 (q_ld1 rfl rfl rfl rfl rfl) rfl rfl ?_; refine M0 (q_moveC rfl rfl rfl) rfl rfl ?_
    refine M0 (q_call0 rfl rfl (hc_Saves) rfl) rfl rfl ?_; refine M0 (q_assignC rfl rfl rfl) rfl rfl ?_; refine L_nil ?_; refine T_n ?_; refine A_seq ?_; refine A_seq ?_; refine A_region ?_
    refine M0 (q_moveC rfl rfl rfl) rfl rfl ?_; refine M0 (q_lssK rfl rfl rfl rfl (by assumption)) rfl rfl ?_; refine L_nil ?_; refine T_n ?_; refine A_ifT rfl ?_; refine A_seq ?_
    refine A_region ?_; refine M0 (q_assignC rfl rfl rfl) rfl rfl ?_; refine L_nil ?_; refine T_n ?_; refine A_ret ?_; refine T_r ?_; refine F_r ?_
    exact E_tmp rfl rfl (W_end [] (by decide) rfl rfl (I_eq (by rw [szr_neg (by omega)])))
  rw [szr_pos (by omega)] at hc_Saves
  have hb_Saves : decide (left - Enc.wt x.Tracks - Enc.wt x.Base - Enc.wt x.Now - Enc.wt x.Used - Enc.wt x.Saves < 0) = false := decide_eq_false (by omega)
  have hc_Sums := sz_IntS x.Sums (left - Enc.wt x.Tracks - Enc.wt x.Base - Enc.wt x.Now - Enc.wt x.Used - Enc.wt x.Saves) g_Sums (by omega) (by omega)
  by_cases n_Sums : left - Enc.wt x.Tracks - Enc.wt x.Base - Enc.wt x.Now - Enc.wt x.Used - Enc.wt x.Saves < Enc.wt x.Sums
  · rw [szr_neg n_Sums] at hc_Sums
    refine Con.of Try.func7 rfl Try.ntmps7 rfl (fun E => ?_)
    refine A_seq ?_; refine A_region ?_; refine M1 (q_boxN rfl rfl rfl rfl) rfl rfl ?_; refine M0 (q_assignC rfl rfl rfl) rfl rfl ?_; refine L_nil ?_; refine T_n ?_; refine A_seq ?_
    refine A_region ?_; refine M0 (q_fldp rfl rfl rfl rfl (by decide)) rfl rfl ?_; refine M0 (q_ld1 rfl rfl rfl rfl rfl) rfl rfl ?_; refine M0 (q_moveC rfl rfl rfl) rfl rfl ?_
    refine M0 (q_call0 rfl rfl (hc_Tracks) rfl) rfl rfl ?_; refine M0 (q_assignC rfl rfl rfl) rfl rfl ?_; refine L_nil ?_; refine T_n ?_; refine A_seq ?_; refine A_seq ?_; refine A_region ?_
    refine M0 (q_moveC rfl rfl rfl) rfl rfl ?_; refine M0 (q_lssK rfl rfl rfl rfl (by assumption)) rfl rfl ?_; refine L_nil ?_; refine T_n ?_; refine A_ifF rfl ?_; refine A_skip ?_; refine T_n ?_
    refine A_seq ?_; refine A_region ?_; refine M0 (q_fldp rfl rfl rfl rfl (by decide)) rfl rfl ?_; refine M0 (q_ldN rfl rfl rfl rfl rfl rfl) rfl rfl ?_
    refine M0 (q_moveC rfl rfl rfl) rfl rfl ?_; refine M0 (q_call0 rfl rfl (hc_Base) rfl) rfl rfl ?_; refine M0 (q_assignC rfl rfl rfl) rfl rfl ?_; refine L_nil ?_; refine T_n ?_
    refine A_seq ?_; refine A_seq ?_; refine A_region ?_; refine M0 (q_moveC rfl rfl rfl) rfl rfl ?_; refine M0 (q_lssK rfl rfl rfl rfl (by assumption)) rfl rfl ?_; refine L_nil ?_; refine T_n ?_
    refine A_ifF rfl ?_; refine A_skip ?_; refine T_n ?_; refine A_seq ?_; refine A_region ?_; refine M0 (q_fldp rfl rfl rfl rfl (by decide)) rfl rfl ?_
    refine M0 (q_ldN rfl rfl rfl rfl rfl rfl) rfl rfl ?_; refine M0 (q_moveC rfl rfl rfl) rfl rfl ?_; refine M0 (q_call0 rfl rfl (hc_Now) rfl) rfl rfl ?_
    refine M0 (q_assignC rfl rfl rfl) rfl rfl ?_; refine L_nil ?_; refine T_n ?_; refine A_seq ?_; refine A_seq ?_; refine A_region ?_; refine M0 (q_moveC rfl rfl rfl) rfl rfl ?_
    refine M0 (q_lssK rfl rfl rfl rfl (by assumption)) rfl rfl ?_; refine L_nil ?_; refine T_n ?_; refine A_ifF rfl ?_; refine A_skip ?_; refine T_n ?_; refine A_seq ?_; refine A_region ?_
    refine M0 (q_fldp rfl rfl rfl rfl (by decide)) rfl rfl ?_; refine M0 (q_ld1 rfl rfl rfl rfl rfl) rfl rfl ?_; refine M0 (q_moveC rfl rfl rfl) rfl rfl ?_
    refine M0 (q_call0 rfl rfl (hc_Used) rfl) rfl rfl ?_; refine M0 (q_assignC rfl rfl rfl) rfl rfl ?_; refine L_nil ?_; refine T_n ?_; refine A_seq ?_; refine A_seq ?_; refine A_region ?_
    refine M0 (q_moveC rfl rfl rfl) rfl rfl ?_; refine M0 (q_lssK rfl rfl rfl rfl (by assumption)) rfl rfl ?_; refine L_nil ?_; refine T_n ?_; refine A_ifF rfl ?_; refine A_skip ?_; refine T_n ?_
    refine A_seq ?_; refine A_region ?_; refine M0 (q_fldp rfl rfl rfl rfl (by decide)) rfl rfl ?_; refine M0 (q_ld1 rfl rfl rfl rfl rfl) rfl rfl ?_; refine M0 (q_moveC rfl rfl rfl) rfl rfl ?_
    refine M0 (q_call0 rfl rfl (hc_Saves) rfl) rfl rfl ?_; refine M0 (q_assignC rfl rfl rfl) rfl rfl ?_; refine L_nil ?_; refine T_n ?_; refine A_seq ?_; refine A_seq ?_; refine A_region ?_
    refine M0 (q_moveC rfl rfl rfl) rfl rfl ?_; refine M0 (q_lssK rfl rfl rfl rfl (by assumption)) rfl rfl ?_; refine L_nil ?_; refine T_n ?_; refine A_ifF rfl ?_; refine A_skip ?_; refine T_n ?_
    refine A_seq ?_; refine A_region ?_; refine M0 (q_fldp rfl rfl rfl rfl (by decide)) rfl rfl ?_; refine M0 (q_ld1 rfl rfl rfl rfl rfl) rfl rfl ?_; refine M0 (q_moveC rfl rfl rfl) rfl rfl ?_
    refine M0 (q_call0 rfl rfl (hc_Sums) rfl) rfl rfl ?_; refine M0 (q_assignC rfl rfl rfl) rfl rfl ?_; refine L_nil ?_; refine T_n ?_; refine A_seq ?_; refine A_seq ?_; refine A_region ?_
    refine M0 (q_moveC rfl rfl rfl) rfl rfl ?_; refine M0 (q_lssK rfl rfl rfl rfl (by assumption)) rfl rfl ?_; refine L_nil ?_; refine T_n ?_; refine A_ifT rfl ?_; refine A_seq ?_
    refine A_region ?_; refine M0 (q_assignC rfl rfl rfl) rfl rfl ?_; refine L_nil ?_; refine T_n ?_; refine A_ret ?_; refine T_r ?_; refine F_r ?_
    exact E_tmp rfl rfl (W_end [] (by decide) rfl rfl (I_eq (by rw [szr_neg (by omega)])))
  rw [szr_pos (by omega)] at hc_Sums
  have hb_Sums : decide (left - Enc.wt x.Tracks - Enc.wt x.Base - Enc.wt x.Now - Enc.wt x.Used - Enc.wt x.Saves - Enc.wt x.Sums < 0) = false := decide_eq_false (by omega)
  refine Con.of Try.func7 rfl Try.ntmps7 rfl (fun E => ?_)
  refine A_seq ?_; refine A_region ?_; refine M1 (q_boxN rfl rfl rfl rfl) rfl rfl ?_; refine M0 (q_assignC rfl rfl rfl) rfl rfl ?_; refine L_nil ?_; refine T_n ?_; refine A_seq ?_
  refine A_region ?_; refine M0 (q_fldp rfl rfl rfl rfl (by decide)) rfl rfl ?_; refine M0 (q_ld1 rfl rfl rfl rfl rfl) rfl rfl ?_; refine M0 (q_moveC rfl rfl rfl) rfl rfl ?_
  refine M0 (q_call0 rfl rfl (hc_Tracks) rfl) rfl rfl ?_; refine M0 (q_assignC rfl rfl rfl) rfl rfl ?_; refine L_nil ?_; refine T_n ?_; refine A_seq ?_; refine A_seq ?_; refine A_region ?_
  refine M0 (q_moveC rfl rfl rfl) rfl rfl ?_; refine M0 (q_lssK rfl rfl rfl rfl (by assumption)) rfl rfl ?_; refine L_nil ?_; refine T_n ?_; refine A_ifF rfl ?_; refine A_skip ?_; refine T_n ?_
  refine A_seq ?_; refine A_region ?_; refine M0 (q_fldp rfl rfl rfl rfl (by decide)) rfl rfl ?_; refine M0 (q_ldN rfl rfl rfl rfl rfl rfl) rfl rfl ?_
  refine M0 (q_moveC rfl rfl rfl) rfl rfl ?_; refine M0 (q_call0 rfl rfl (hc_Base) rfl) rfl rfl ?_; refine M0 (q_assignC rfl rfl rfl) rfl rfl ?_; refine L_nil ?_; refine T_n ?_
  refine A_seq ?_; refine A_seq ?_; refine A_region ?_; refine M0 (q_moveC rfl rfl rfl) rfl rfl ?_; refine M0 (q_lssK rfl rfl rfl rfl (by assumption)) rfl rfl ?_; refine L_nil ?_; refine T_n ?_
  refine A_ifF rfl ?_; refine A_skip ?_; refine T_n ?_; refine A_seq ?_; refine A_region ?_; refine M0 (q_fldp rfl rfl rfl rfl (by decide)) rfl rfl ?_
  refine M0 (q_ldN rfl rfl rfl rfl rfl rfl) rfl rfl ?_; refine M0 (q_moveC rfl rfl rfl) rfl rfl ?_; refine M0 (q_call0 rfl rfl (hc_Now) rfl) rfl rfl ?_
  refine M0 (q_assignC rfl rfl rfl) rfl rfl ?_; refine L_nil ?_; refine T_n ?_; refine A_seq ?_; refine A_seq ?_; refine A_region ?_; refine M0 (q_moveC rfl rfl rfl) rfl rfl ?_
  refine M0 (q_lssK rfl rfl rfl rfl (by assumption)) rfl rfl ?_; refine L_nil ?_; refine T_n ?_; refine A_ifF rfl ?_; refine A_skip ?_; refine T_n ?_; refine A_seq ?_; refine A_region ?_
  refine M0 (q_fldp rfl rfl rfl rfl (by decide)) rfl rfl ?_; refine M0 (q_ld1 rfl rfl rfl rfl rfl) rfl rfl ?_; refine M0 (q_moveC rfl rfl rfl) rfl rfl ?_
  refine M0 (q_call0 rfl rfl (hc_Used) rfl) rfl rfl ?_; refine M0 (q_assignC rfl rfl rfl) rfl rfl ?_; refine L_nil ?_; refine T_n ?_; refine A_seq ?_; refine A_seq ?_; refine A_region ?_
  refine M0 (q_moveC rfl rfl rfl) rfl rfl ?_; refine M0 (q_lssK rfl rfl rfl rfl (by assumption)) rfl rfl ?_; refine L_nil ?_; refine T_n ?_; refine A_ifF rfl ?_; refine A_skip ?_; refine T_n ?_
  refine A_seq ?_; refine A_region ?_; refine M0 (q_fldp rfl rfl rfl rfl (by decide)) rfl rfl ?_; refine M0 (q_ld1 rfl rfl rfl rfl rfl) rfl rfl ?_; refine M0 (q_moveC rfl rfl rfl) rfl rfl ?_
  refine M0 (q_call0 rfl rfl (hc_Saves) rfl) rfl rfl ?_; refine M0 (q_assignC rfl rfl rfl) rfl rfl ?_; refine L_nil ?_; refine T_n ?_; refine A_seq ?_; refine A_seq ?_; refine A_region ?_
  refine M0 (q_moveC rfl rfl rfl) rfl rfl ?_; refine M0 (q_lssK rfl rfl rfl rfl (by assumption)) rfl rfl ?_; refine L_nil ?_; refine T_n ?_; refine A_ifF rfl ?_; refine A_skip ?_; refine T_n ?_
  refine A_seq ?_; refine A_region ?_; refine M0 (q_fldp rfl rfl rfl rfl (by decide)) rfl rfl ?_; refine M0 (q_ld1 rfl rfl rfl rfl rfl) rfl rfl ?_; refine M0 (q_moveC rfl rfl rfl) rfl rfl ?_
  refine M0 (q_call0 rfl rfl (hc_Sums) rfl) rfl rfl ?_; refine M0 (q_assignC rfl rfl rfl) rfl rfl ?_; refine L_nil ?_; refine T_n ?_; refine A_seq ?_; refine A_seq ?_; refine A_region ?_
  refine M0 (q_moveC rfl rfl rfl) rfl rfl ?_; refine M0 (q_lssK rfl rfl rfl rfl (by assumption)) rfl rfl ?_; refine L_nil ?_; refine T_n ?_; refine A_ifF rfl ?_; refine A_skip ?_; refine T_n ?_
  refine A_seq ?_; refine A_region ?_; refine M0 (q_moveC rfl rfl rfl) rfl rfl ?_; refine M0 (q_assignC rfl rfl rfl) rfl rfl ?_; refine L_nil ?_; refine T_n ?_; refine A_ret ?_; refine F_r ?_
  exact E_tmp rfl rfl (W_end [] (by decide) rfl rfl (I_eq (by rw [szr_pos (by omega)]; omega)))
set_option maxHeartbeats 2000000 in
theorem eq_Peer (x y : TPeer) (hg : Enc.gd x) : Con Try.prog 11 [] [ag x, ag y] [] (B (decide (x = y))) := by
  obtain ⟨g_Me, g_Delay, g_Ahead, g_Seed, g_Tracks, g_Base, g_Now, g_Used, g_Saves, g_Sums, g_Fault, g_Rolls, g_Again⟩ := hg
  by_cases e_Me : ¬ x.Me = y.Me
  · have hk : decide (x.Me ≠ y.Me) = true := by simp [e_Me]
    refine Con.of Try.func11 rfl Try.ntmps11 rfl (fun E => ?_)
    refine A_seq ?_; refine A_region ?_; refine M1 (q_boxN rfl rfl rfl rfl) rfl rfl ?_; refine M1 (q_boxN rfl rfl rfl rfl) rfl rfl ?_; refine M0 (q_assignC rfl rfl rfl) rfl rfl ?_
    refine L_nil ?_; refine T_n ?_; refine A_seq ?_; refine A_seq ?_; refine A_region ?_; refine M0 (q_fldp rfl rfl rfl rfl (by decide)) rfl rfl ?_
    refine M0 (q_ld1 rfl rfl rfl rfl rfl) rfl rfl ?_; refine M0 (q_fldp rfl rfl rfl rfl (by decide)) rfl rfl ?_; refine M0 (q_ld1 rfl rfl rfl rfl rfl) rfl rfl ?_
    refine M0 (q_neqK rfl rfl rfl rfl (by assumption)) rfl rfl ?_; refine L_nil ?_; refine T_n ?_; refine A_ifT rfl ?_; refine A_seq ?_; refine A_region ?_
    refine M0 (q_assignC rfl rfl rfl) rfl rfl ?_; refine L_nil ?_; refine T_n ?_; refine A_ret ?_; refine T_r ?_; refine F_r ?_
    exact E_tmp rfl rfl (W_end [] (by decide) rfl rfl (B_eq (decide_eq_false fun e => e_Me (by rw [e])).symm))
  have e_Me := Classical.not_not.1 e_Me
  have k_Me : decide (x.Me ≠ y.Me) = false := by simp [e_Me]
  by_cases e_Delay : ¬ x.Delay = y.Delay
  · have hk : decide (x.Delay ≠ y.Delay) = true := by simp [e_Delay]
    refine Con.of Try.func11 rfl Try.ntmps11 rfl (fun E => ?_)
    refine A_seq ?_; refine A_region ?_; refine M1 (q_boxN rfl rfl rfl rfl) rfl rfl ?_; refine M1 (q_boxN rfl rfl rfl rfl) rfl rfl ?_; refine M0 (q_assignC rfl rfl rfl) rfl rfl ?_
    refine L_nil ?_; refine T_n ?_; refine A_seq ?_; refine A_seq ?_; refine A_region ?_; refine M0 (q_fldp rfl rfl rfl rfl (by decide)) rfl rfl ?_
    refine M0 (q_ld1 rfl rfl rfl rfl rfl) rfl rfl ?_; refine M0 (q_fldp rfl rfl rfl rfl (by decide)) rfl rfl ?_; refine M0 (q_ld1 rfl rfl rfl rfl rfl) rfl rfl ?_
    refine M0 (q_neqK rfl rfl rfl rfl (by assumption)) rfl rfl ?_; refine L_nil ?_; refine T_n ?_; refine A_ifF rfl ?_; refine A_skip ?_; refine T_n ?_; refine A_seq ?_; refine A_seq ?_
    refine A_region ?_; refine M0 (q_fldp rfl rfl rfl rfl (by decide)) rfl rfl ?_; refine M0 (q_ld1 rfl rfl rfl rfl rfl) rfl rfl ?_; refine M0 (q_fldp rfl rfl rfl rfl (by decide)) rfl rfl ?_
    refine M0 (q_ld1 rfl rfl rfl rfl rfl) rfl rfl ?_; refine M0 (q_neqK rfl rfl rfl rfl (by assumption)) rfl rfl ?_; refine L_nil ?_; refine T_n ?_; refine A_ifT rfl ?_; refine A_seq ?_
    refine A_region ?_; refine M0 (q_assignC rfl rfl rfl) rfl rfl ?_; refine L_nil ?_; refine T_n ?_; refine A_ret ?_; refine T_r ?_; refine F_r ?_
    exact E_tmp rfl rfl (W_end [] (by decide) rfl rfl (B_eq (decide_eq_false fun e => e_Delay (by rw [e])).symm))
  have e_Delay := Classical.not_not.1 e_Delay
  have k_Delay : decide (x.Delay ≠ y.Delay) = false := by simp [e_Delay]
  by_cases e_Ahead : ¬ x.Ahead = y.Ahead
  · have hk : decide (x.Ahead ≠ y.Ahead) = true := by simp [e_Ahead]
    refine Con.of Try.func11 rfl Try.ntmps11 rfl (fun E => ?_)
    refine A_seq ?_; refine A_region ?_; refine M1 (q_boxN rfl rfl rfl rfl) rfl rfl ?_; refine M1 (q_boxN rfl rfl rfl rfl) rfl rfl ?_; refine M0 (q_assignC rfl rfl rfl) rfl rfl ?_
    refine L_nil ?_; refine T_n ?_; refine A_seq ?_; refine A_seq ?_; refine A_region ?_; refine M0 (q_fldp rfl rfl rfl rfl (by decide)) rfl rfl ?_
    refine M0 (q_ld1 rfl rfl rfl rfl rfl) rfl rfl ?_; refine M0 (q_fldp rfl rfl rfl rfl (by decide)) rfl rfl ?_; refine M0 (q_ld1 rfl rfl rfl rfl rfl) rfl rfl ?_
    refine M0 (q_neqK rfl rfl rfl rfl (by assumption)) rfl rfl ?_; refine L_nil ?_; refine T_n ?_; refine A_ifF rfl ?_; refine A_skip ?_; refine T_n ?_; refine A_seq ?_; refine A_seq ?_
    refine A_region ?_; refine M0 (q_fldp rfl rfl rfl rfl (by decide)) rfl rfl ?_; refine M0 (q_ld1 rfl rfl rfl rfl rfl) rfl rfl ?_; refine M0 (q_fldp rfl rfl rfl rfl (by decide)) rfl rfl ?_
    refine M0 (q_ld1 rfl rfl rfl rfl rfl) rfl rfl ?_; refine M0 (q_neqK rfl rfl rfl rfl (by assumption)) rfl rfl ?_; refine L_nil ?_; refine T_n ?_; refine A_ifF rfl ?_; refine A_skip ?_
    refine T_n ?_; refine A_seq ?_; refine A_seq ?_; refine A_region ?_; refine M0 (q_fldp rfl rfl rfl rfl (by decide)) rfl rfl ?_; refine M0 (q_ld1 rfl rfl rfl rfl rfl) rfl rfl ?_
    refine M0 (q_fldp rfl rfl rfl rfl (by decide)) rfl rfl ?_; refine M0 (q_ld1 rfl rfl rfl rfl rfl) rfl rfl ?_; refine M0 (q_neqK rfl rfl rfl rfl (by assumption)) rfl rfl ?_
    refine L_nil ?_; refine T_n ?_; refine A_ifT rfl ?_; refine A_seq ?_; refine A_region ?_; refine M0 (q_assignC rfl rfl rfl) rfl rfl ?_; refine L_nil ?_; refine T_n ?_; refine A_ret ?_; refine T_r ?_
    refine F_r ?_
    exact E_tmp rfl rfl (W_end [] (by decide) rfl rfl (B_eq (decide_eq_false fun e => e_Ahead (by rw [e])).symm))
  have e_Ahead := Classical.not_not.1 e_Ahead
  have k_Ahead : decide (x.Ahead ≠ y.Ahead) = false := by simp [e_Ahead]
  by_cases e_Seed : ¬ x.Seed = y.Seed
  · have hk : decide (x.Seed ≠ y.Seed) = true := by simp [e_Seed]
    refine Con.of Try.func11 rfl Try.ntmps11 rfl (fun E => ?_)
    refine A_seq ?_; refine A_region ?_; refine M1 (q_boxN rfl rfl rfl rfl) rfl rfl ?_; refine M1 (q_boxN rfl rfl rfl rfl) rfl rfl ?_; refine M0 (q_assignC rfl rfl rfl) rfl rfl ?_
    refine L_nil ?_; refine T_n ?_; refine A_seq ?_; refine A_seq ?_; refine A_region ?_; refine M0 (q_fldp rfl rfl rfl rfl (by decide)) rfl rfl ?_
    refine M0 (q_ld1 rfl rfl rfl rfl rfl) rfl rfl ?_; refine M0 (q_fldp rfl rfl rfl rfl (by decide)) rfl rfl ?_; refine M0 (q_ld1 rfl rfl rfl rfl rfl) rfl rfl ?_
    refine M0 (q_neqK rfl rfl rfl rfl (by assumption)) rfl rfl ?_; refine L_nil ?_; refine T_n ?_; refine A_ifF rfl ?_; refine A_skip ?_; refine T_n ?_; refine A_seq ?_; refine A_seq ?_
    refine A_region ?_; refine M0 (q_fldp rfl rfl rfl rfl (by decide)) rfl rfl ?_; refine M0 (q_ld1 rfl rfl rfl rfl rfl) rfl rfl ?_; refine M0 (q_fldp rfl rfl rfl rfl (by decide)) rfl rfl ?_
    refine M0 (q_ld1 rfl rfl rfl rfl rfl) rfl rfl ?_; refine M0 (q_neqK rfl rfl rfl rfl (by assumption)) rfl rfl ?_; refine L_nil ?_; refine T_n ?_; refine A_ifF rfl ?_; refine A_skip ?_
    refine T_n ?_; refine A_seq ?_; refine A_seq ?_; refine A_region ?_; refine M0 (q_fldp rfl rfl rfl rfl (by decide)) rfl rfl ?_; refine M0 (q_ld1 rfl rfl rfl rfl rfl) rfl rfl ?_
    refine M0 (q_fldp rfl rfl rfl rfl (by decide)) rfl rfl ?_; refine M0 (q_ld1 rfl rfl rfl rfl rfl) rfl rfl ?_; refine M0 (q_neqK rfl rfl rfl rfl (by assumption)) rfl rfl ?_
    refine L_nil ?_; refine T_n ?_; refine A_ifF rfl ?_; refine A_skip ?_; refine T_n ?_; refine A_seq ?_; refine A_seq ?_; refine A_region ?_
    refine M0 (q_fldp rfl rfl rfl rfl (by decide)) rfl rfl ?_; refine M0 (q_ld1 rfl rfl rfl rfl rfl) rfl rfl ?_; refine M0 (q_fldp rfl rfl rfl rfl (by decide)) rfl rfl ?_
    refine M0 (q_ld1 rfl rfl rfl rfl rfl) rfl rfl ?_; refine M0 (q_neqK rfl rfl rfl rfl (by assumption)) rfl rfl ?_; refine L_nil ?_; refine T_n ?_; refine A_ifT rfl ?_; refine A_seq ?_
    refine A_region ?_; refine M0 (q_assignC rfl rfl rfl) rfl rfl ?_; refine L_nil ?_; refine T_n ?_; refine A_ret ?_; refine T_r ?_; refine F_r ?_
    exact E_tmp rfl rfl (W_end [] (by decide) rfl rfl (B_eq (decide_eq_false fun e => e_Seed (by rw [e])).symm))
  have e_Seed := Classical.not_not.1 e_Seed
  have k_Seed : decide (x.Seed ≠ y.Seed) = false := by simp [e_Seed]
  by_cases e_Tracks : ¬ x.Tracks = y.Tracks
  · have hc := eq_TrackS x.Tracks y.Tracks g_Tracks
    rw [decide_eq_false e_Tracks] at hc
    refine Con.of Try.func11 rfl Try.ntmps11 rfl (fun E => ?_)
    refine A_seq ?_; refine A_region ?_; refine M1 (q_boxN rfl rfl rfl rfl) rfl rfl ?_; refine M1 (q_boxN rfl rfl rfl rfl) rfl rfl ?_; refine M0 (q_assignC rfl rfl rfl) rfl rfl ?_
    refine L_nil ?_; refine T_n ?_; refine A_seq ?_; refine A_seq ?_; refine A_region ?_; refine M0 (q_fldp rfl rfl rfl rfl (by decide)) rfl rfl ?_
    refine M0 (q_ld1 rfl rfl rfl rfl rfl) rfl rfl ?_; refine M0 (q_fldp rfl rfl rfl rfl (by decide)) rfl rfl ?_; refine M0 (q_ld1 rfl rfl rfl rfl rfl) rfl rfl ?_
    refine M0 (q_neqK rfl rfl rfl rfl (by assumption)) rfl rfl ?_; refine L_nil ?_; refine T_n ?_; refine A_ifF rfl ?_; refine A_skip ?_; refine T_n ?_; refine A_seq ?_; refine A_seq ?_
    refine A_region ?_; refine M0 (q_fldp rfl rfl rfl rfl (by decide)) rfl rfl ?_; refine M0 (q_ld1 rfl rfl rfl rfl rfl) rfl rfl ?_; refine M0 (q_fldp rfl rfl rfl rfl (by decide)) rfl rfl ?_
    refine M0 (q_ld1 rfl rfl rfl rfl rfl) rfl rfl ?_; refine M0 (q_neqK rfl rfl rfl rfl (by assumption)) rfl rfl ?_; refine L_nil ?_; refine T_n ?_; refine A_ifF rfl ?_; refine A_skip ?_
    refine T_n ?_; refine A_seq ?_; refine A_seq ?_; refine A_region ?_; refine M0 (q_fldp rfl rfl rfl rfl (by decide)) rfl rfl ?_; refine M0 (q_ld1 rfl rfl rfl rfl rfl) rfl rfl ?_
    refine M0 (q_fldp rfl rfl rfl rfl (by decide)) rfl rfl ?_; refine M0 (q_ld1 rfl rfl rfl rfl rfl) rfl rfl ?_; refine M0 (q_neqK rfl rfl rfl rfl (by assumption)) rfl rfl ?_
    refine L_nil ?_; refine T_n ?_; refine A_ifF rfl ?_; refine A_skip ?_; refine T_n ?_; refine A_seq ?_; refine A_seq ?_; refine A_region ?_
    refine M0 (q_fldp rfl rfl rfl rfl (by decide)) rfl rfl ?_; refine M0 (q_ld1 rfl rfl rfl rfl rfl) rfl rfl ?_; refine M0 (q_fldp rfl rfl rfl rfl (by decide)) rfl rfl ?_
    refine M0 (q_ld1 rfl rfl rfl rfl rfl) rfl rfl ?_; refine M0 (q_neqK rfl rfl rfl rfl (by assumption)) rfl rfl ?_; refine L_nil ?_; refine T_n ?_; refine A_ifF rfl ?_; refine A_skip ?_
    refine T_n ?_; refine A_seq ?_; refine A_seq ?_; refine A_region ?_; refine M0 (q_fldp rfl rfl rfl rfl (by decide)) rfl rfl ?_; refine M0 (q_ld1 rfl rfl rfl rfl rfl) rfl rfl ?_
    refine M0 (q_fldp rfl rfl rfl rfl (by decide)) rfl rfl ?_; refine M0 (q_ld1 rfl rfl rfl rfl rfl) rfl rfl ?_; refine M0 (q_call0 rfl rfl (hc) rfl) rfl rfl ?_
    refine M0 (q_not rfl rfl rfl) rfl rfl ?_; refine L_nil ?_; refine T_n ?_; refine A_ifT rfl ?_; refine A_seq ?_; refine A_region ?_; refine M0 (q_assignC rfl rfl rfl) rfl rfl ?_; refine L_nil ?_
    refine T_n ?_; refine A_ret ?_; refine T_r ?_; refine F_r ?_
    exact E_tmp rfl rfl (W_end [] (by decide) rfl rfl (B_eq (decide_eq_false fun e => e_Tracks (by rw [e])).symm))
  have e_Tracks := Classical.not_not.1 e_Tracks
  have hc_Tracks := eq_TrackS x.Tracks y.Tracks g_Tracks
  rw [decide_eq_true e_Tracks] at hc_Tracks
  by_cases e_Base : ¬ x.Base = y.Base
  · have hc := eq_World x.Base y.Base g_Base
    rw [decide_eq_false e_Base] at hc
    refine Con.of Try.func11 rfl Try.ntmps11 rfl (fun E => ?_)
    refine A_seq ?_; refine A_region ?_; refine M1 (q_boxN rfl rfl rfl rfl) rfl rfl ?_; refine M1 (q_boxN rfl rfl rfl rfl) rfl rfl ?_; refine M0 (q_assignC rfl rfl rfl) rfl rfl ?_
    refine L_nil ?_; refine T_n ?_; refine A_seq ?_; refine A_seq ?_; refine A_region ?_; refine M0 (q_fldp rfl rfl rfl rfl (by decide)) rfl rfl ?_
    refine M0 (q_ld1 rfl rfl rfl rfl rfl) rfl rfl ?_; refine M0 (q_fldp rfl rfl rfl rfl (by decide)) rfl rfl ?_; refine M0 (q_ld1 rfl rfl rfl rfl rfl) rfl rfl ?_
    refine M0 (q_neqK rfl rfl rfl rfl (by assumption)) rfl rfl ?_; refine L_nil ?_; refine T_n ?_; refine A_ifF rfl ?_; refine A_skip ?_; refine T_n ?_; refine A_seq ?_; refine A_seq ?_
    refine A_region ?_; refine M0 (q_fldp rfl rfl rfl rfl (by decide)) rfl rfl ?_; refine M0 (q_ld1 rfl rfl rfl rfl rfl) rfl rfl ?_; refine M0 (q_fldp rfl rfl rfl rfl (by decide)) rfl rfl ?_
    refine M0 (q_ld1 rfl rfl rfl rfl rfl) rfl rfl ?_; refine M0 (q_neqK rfl rfl rfl rfl (by assumption)) rfl rfl ?_; refine L_nil ?_; refine T_n ?_; refine A_ifF rfl ?_; refine A_skip ?_
    refine T_n ?_; refine A_seq ?_; refine A_seq ?_; refine A_region ?_; refine M0 (q_fldp rfl rfl rfl rfl (by decide)) rfl rfl ?_; refine M0 (q_ld1 rfl rfl rfl rfl rfl) rfl rfl ?_
    refine M0 (q_fldp rfl rfl rfl rfl (by decide)) rfl rfl ?_; refine M0 (q_ld1 rfl rfl rfl rfl rfl) rfl rfl ?_; refine M0 (q_neqK rfl rfl rfl rfl (by assumption)) rfl rfl ?_
    refine L_nil ?_; refine T_n ?_; refine A_ifF rfl ?_; refine A_skip ?_; refine T_n ?_; refine A_seq ?_; refine A_seq ?_; refine A_region ?_
    refine M0 (q_fldp rfl rfl rfl rfl (by decide)) rfl rfl ?_; refine M0 (q_ld1 rfl rfl rfl rfl rfl) rfl rfl ?_; refine M0 (q_fldp rfl rfl rfl rfl (by decide)) rfl rfl ?_
    refine M0 (q_ld1 rfl rfl rfl rfl rfl) rfl rfl ?_; refine M0 (q_neqK rfl rfl rfl rfl (by assumption)) rfl rfl ?_; refine L_nil ?_; refine T_n ?_; refine A_ifF rfl ?_; refine A_skip ?_
    refine T_n ?_; refine A_seq ?_; refine A_seq ?_; refine A_region ?_; refine M0 (q_fldp rfl rfl rfl rfl (by decide)) rfl rfl ?_; refine M0 (q_ld1 rfl rfl rfl rfl rfl) rfl rfl ?_
    refine M0 (q_fldp rfl rfl rfl rfl (by decide)) rfl rfl ?_; refine M0 (q_ld1 rfl rfl rfl rfl rfl) rfl rfl ?_; refine M0 (q_call0 rfl rfl (hc_Tracks) rfl) rfl rfl ?_
    refine M0 (q_not rfl rfl rfl) rfl rfl ?_; refine L_nil ?_; refine T_n ?_; refine A_ifF rfl ?_; refine A_skip ?_; refine T_n ?_; refine A_seq ?_; refine A_seq ?_; refine A_region ?_
    refine M0 (q_fldp rfl rfl rfl rfl (by decide)) rfl rfl ?_; refine M0 (q_ldN rfl rfl rfl rfl rfl rfl) rfl rfl ?_; refine M0 (q_fldp rfl rfl rfl rfl (by decide)) rfl rfl ?_
    refine M0 (q_ldN rfl rfl rfl rfl rfl rfl) rfl rfl ?_; refine M0 (q_call0 rfl rfl (hc) rfl) rfl rfl ?_; refine M0 (q_not rfl rfl rfl) rfl rfl ?_; refine L_nil ?_; refine T_n ?_
    refine A_ifT rfl ?_; refine A_seq ?_; refine A_region ?_; refine M0 (q_assignC rfl rfl rfl) rfl rfl ?_; refine L_nil ?_; refine T_n ?_; refine A_ret ?_; refine T_r ?_; refine F_r ?_
    exact E_tmp rfl rfl (W_end [] (by decide) rfl rfl (B_eq (decide_eq_false fun e => e_Base (by rw [e])).symm))
  have e_Base := Classical.not_not.1 e_Base
  have hc_Base := eq_World x.Base y.Base g_Base
  rw [decide_eq_true e_Base] at hc_Base
  by_cases e_Now : ¬ x.Now = y.Now
  · have hc := eq_World x.Now y.Now g_Now
    rw [decide_eq_false e_Now] at hc
    refine Con.of Try.func11 rfl Try.ntmps11 rfl (fun E => ?_)
    refine A_seq ?_; refine A_region ?_; refine M1 (q_boxN rfl rfl rfl rfl) rfl rfl ?_; refine M1 (q_boxN rfl rfl rfl rfl) rfl rfl ?_; refine M0 (q_assignC rfl rfl rfl) rfl rfl ?_
    refine L_nil ?_; refine T_n ?_; refine A_seq ?_; refine A_seq ?_; refine A_region ?_; refine M0 (q_fldp rfl rfl rfl rfl (by decide)) rfl rfl ?_
    refine M0 (q_ld1 rfl rfl rfl rfl rfl) rfl rfl ?_; refine M0 (q_fldp rfl rfl rfl rfl (by decide)) rfl rfl ?_; refine M0 (q_ld1 rfl rfl rfl rfl rfl) rfl rfl ?_
    refine M0 (q_neqK rfl rfl rfl rfl (by assumption)) rfl rfl ?_; refine L_nil ?_; refine T_n ?_; refine A_ifF rfl ?_; refine A_skip ?_; refine T_n ?_; refine A_seq ?_; refine A_seq ?_
    refine A_region ?_; refine M0 (q_fldp rfl rfl rfl rfl (by decide)) rfl rfl ?_; refine M0 (q_ld1 rfl rfl rfl rfl rfl) rfl rfl ?_; refine M0 (q_fldp rfl rfl rfl rfl (by decide)) rfl rfl ?_
    refine M0 (q_ld1 rfl rfl rfl rfl rfl) rfl rfl ?_; refine M0 (q_neqK rfl rfl rfl rfl (by assumption)) rfl rfl ?_; refine L_nil ?_; refine T_n ?_; refine A_ifF rfl ?_; refine A_skip ?_
    refine T_n ?_; refine A_seq ?_; refine A_seq ?_; refine A_region ?_; refine M0 (q_fldp rfl rfl rfl rfl (by decide)) rfl rfl ?_; refine M0 (q_ld1 rfl rfl rfl rfl rfl) rfl rfl ?_
    refine M0 (q_fldp rfl rfl rfl rfl (by decide)) rfl rfl ?_; refine M0 (q_ld1 rfl rfl rfl rfl rfl) rfl rfl ?_; refine M0 (q_neqK rfl rfl rfl rfl (by assumption)) rfl rfl ?_
    refine L_nil ?_; refine T_n ?_; refine A_ifF rfl ?_; refine A_skip ?_; refine T_n ?_; refine A_seq ?_; refine A_seq ?_; refine A_region ?_
    refine M0 (q_fldp rfl rfl rfl rfl (by decide)) rfl rfl ?_; refine M0 (q_ld1 rfl rfl rfl rfl rfl) rfl rfl ?_; refine M0 (q_fldp rfl rfl rfl rfl (by decide)) rfl rfl ?_
    refine M0 (q_ld1 rfl rfl rfl rfl rfl) rfl rfl ?_; refine M0 (q_neqK rfl rfl rfl rfl (by assumption)) rfl rfl ?_; refine L_nil ?_; refine T_n ?_; refine A_ifF rfl ?_; refine A_skip ?_
    refine T_n ?_; refine A_seq ?_; refine A_seq ?_; refine A_region ?_; refine M0 (q_fldp rfl rfl rfl rfl (by decide)) rfl rfl ?_; refine M0 (q_ld1 rfl rfl rfl rfl rfl) rfl rfl ?_
    refine M0 (q_fldp rfl rfl rfl rfl (by decide)) rfl rfl ?_; refine M0 (q_ld1 rfl rfl rfl rfl rfl) rfl rfl ?_; refine M0 (q_call0 rfl rfl (hc_Tracks) rfl) rfl rfl ?_
    refine M0 (q_not rfl rfl rfl) rfl rfl ?_; refine L_nil ?_; refine T_n ?_; refine A_ifF rfl ?_; refine A_skip ?_; refine T_n ?_; refine A_seq ?_; refine A_seq ?_; refine A_region ?_
    refine M0 (q_fldp rfl rfl rfl rfl (by decide)) rfl rfl ?_; refine M0 (q_ldN rfl rfl rfl rfl rfl rfl) rfl rfl ?_; refine M0 (q_fldp rfl rfl rfl rfl (by decide)) rfl rfl ?_
    refine M0 (q_ldN rfl rfl rfl rfl rfl rfl) rfl rfl ?_; refine M0 (q_call0 rfl rfl (hc_Base) rfl) rfl rfl ?_; refine M0 (q_not rfl rfl rfl) rfl rfl ?_; refine L_nil ?_; refine T_n ?_
    refine A_ifF rfl ?_; refine A_skip ?_; refine T_n ?_; refine A_seq ?_; refine A_seq ?_; refine A_region ?_; refine M0 (q_fldp rfl rfl rfl rfl (by decide)) rfl rfl ?_
    refine M0 (q_ldN rfl rfl rfl rfl rfl rfl) rfl rfl ?_; refine M0 (q_fldp rfl rfl rfl rfl (by decide)) rfl rfl ?_; refine M0 (q_ldN rfl rfl rfl rfl rfl rfl) rfl rfl ?_
    refine M0 (q_call0 rfl rfl (hc) rfl) rfl rfl ?_; refine M0 (q_not rfl rfl rfl) rfl rfl ?_; refine L_nil ?_; refine T_n ?_; refine A_ifT rfl ?_; refine A_seq ?_; refine A_region ?_
    refine M0 (q_assignC rfl rfl rfl) rfl rfl ?_; refine L_nil ?_; refine T_n ?_; refine A_ret ?_; refine T_r ?_; refine F_r ?_
    exact E_tmp rfl rfl (W_end [] (by decide) rfl rfl (B_eq (decide_eq_false fun e => e_Now (by rw [e])).symm))
  have e_Now := Classical.not_not.1 e_Now
  have hc_Now := eq_World x.Now y.Now g_Now
  rw [decide_eq_true e_Now] at hc_Now
  by_cases e_Used : ¬ x.Used = y.Used
  · have hc := eq_IntSS x.Used y.Used g_Used
    rw [decide_eq_false e_Used] at hc
    refine Con.of Try.func11 rfl Try.ntmps11 rfl (fun E => ?_)
    refine A_seq ?_; refine A_region ?_; refine M1 (q_boxN rfl rfl rfl rfl) rfl rfl ?_; refine M1 (q_boxN rfl rfl rfl rfl) rfl rfl ?_; refine M0 (q_assignC rfl rfl rfl) rfl rfl ?_
    refine L_nil ?_; refine T_n ?_; refine A_seq ?_; refine A_seq ?_; refine A_region ?_; refine M0 (q_fldp rfl rfl rfl rfl (by decide)) rfl rfl ?_
    refine M0 (q_ld1 rfl rfl rfl rfl rfl) rfl rfl ?_; refine M0 (q_fldp rfl rfl rfl rfl (by decide)) rfl rfl ?_; refine M0 (q_ld1 rfl rfl rfl rfl rfl) rfl rfl ?_
    refine M0 (q_neqK rfl rfl rfl rfl (by assumption)) rfl rfl ?_; refine L_nil ?_; refine T_n ?_; refine A_ifF rfl ?_; refine A_skip ?_; refine T_n ?_; refine A_seq ?_; refine A_seq ?_
    refine A_region ?_; refine M0 (q_fldp rfl rfl rfl rfl (by decide)) rfl rfl ?_; refine M0 (q_ld1 rfl rfl rfl rfl rfl) rfl rfl ?_; refine M0 (q_fldp rfl rfl rfl rfl (by decide)) rfl rfl ?_
    refine M0 (q_ld1 rfl rfl rfl rfl rfl) rfl rfl ?_; refine M0 (q_neqK rfl rfl rfl rfl (by assumption)) rfl rfl ?_; refine L_nil ?_; refine T_n ?_; refine A_ifF rfl ?_; refine A_skip ?_
    refine T_n ?_; refine A_seq ?_; refine A_seq ?_; refine A_region ?_; refine M0 (q_fldp rfl rfl rfl rfl (by decide)) rfl rfl ?_; refine M0 (q_ld1 rfl rfl rfl rfl rfl) rfl rfl ?_
    refine M0 (q_fldp rfl rfl rfl rfl (by decide)) rfl rfl ?_; refine M0 (q_ld1 rfl rfl rfl rfl rfl) rfl rfl ?_; refine M0 (q_neqK rfl rfl rfl rfl (by assumption)) rfl rfl ?_
    refine L_nil ?_; refine T_n ?_; refine A_ifF rfl ?_; refine A_skip ?_; refine T_n ?_; refine A_seq ?_; refine A_seq ?_; refine A_region ?_
    refine M0 (q_fldp rfl rfl rfl rfl (by decide)) rfl rfl ?_; refine M0 (q_ld1 rfl rfl rfl rfl rfl) rfl rfl ?_; refine M0 (q_fldp rfl rfl rfl rfl (by decide)) rfl rfl ?_
    refine M0 (q_ld1 rfl rfl rfl rfl rfl) rfl rfl ?_; refine M0 (q_neqK rfl rfl rfl rfl (by assumption)) rfl rfl ?_; refine L_nil ?_; refine T_n ?_; refine A_ifF rfl ?_; refine A_skip ?_
    refine T_n ?_; refine A_seq ?_; refine A_seq ?_; refine A_region ?_; refine M0 (q_fldp rfl rfl rfl rfl (by decide)) rfl rfl ?_; refine M0 (q_ld1 rfl rfl rfl rfl rfl) rfl rfl ?_
    refine M0 (q_fldp rfl rfl rfl rfl (by decide)) rfl rfl ?_; refine M0 (q_ld1 rfl rfl rfl rfl rfl) rfl rfl ?_; refine M0 (q_call0 rfl rfl (hc_Tracks) rfl) rfl rfl ?_
    refine M0 (q_not rfl rfl rfl) rfl rfl ?_; refine L_nil ?_; refine T_n ?_; refine A_ifF rfl ?_; refine A_skip ?_; refine T_n ?_; refine A_seq ?_; refine A_seq ?_; refine A_region ?_
    refine M0 (q_fldp rfl rfl rfl rfl (by decide)) rfl rfl ?_; refine M0 (q_ldN rfl rfl rfl rfl rfl rfl) rfl rfl ?_; refine M0 (q_fldp rfl rfl rfl rfl (by decide)) rfl rfl ?_
    refine M0 (q_ldN rfl rfl rfl rfl rfl rfl) rfl rfl ?_; refine M0 (q_call0 rfl rfl (hc_Base) rfl) rfl rfl ?_; refine M0 (q_not rfl rfl rfl) rfl rfl ?_; refine L_nil ?_; refine T_n ?_
    refine A_ifF rfl ?_; refine A_skip ?_; refine T_n ?_; refine A_seq ?_; refine A_seq ?_; refine A_region ?_; refine M0 (q_fldp rfl rfl rfl rfl (by decide)) rfl rfl ?_
    refine M0 (q_ldN rfl rfl rfl rfl rfl rfl) rfl rfl ?_; refine M0 (q_fldp rfl rfl rfl rfl (by decide)) rfl rfl ?_; refine M0 (q_ldN rfl rfl rfl rfl rfl rfl) rfl rfl ?_
    refine M0 (q_call0 rfl rfl (hc_Now) rfl) rfl rfl ?_; refine M0 (q_not rfl rfl rfl) rfl rfl ?_; refine L_nil ?_; refine T_n ?_; refine A_ifF rfl ?_; refine A_skip ?_; refine T_n ?_
    refine A_seq ?_; refine A_seq ?_; refine A_region ?_; refine M0 (q_fldp rfl rfl rfl rfl (by decide)) rfl rfl ?_; refine M0 (q_ld1 rfl rfl rfl rfl rfl) rfl rfl ?_
    refine M0 (q_fldp rfl rfl rfl rfl (by decide)) rfl rfl ?_; refine M0 (q_ld1 rfl rfl rfl rfl rfl) rfl rfl ?_; refine M0 (q_call0 rfl rfl (hc) rfl) rfl rfl ?_
    refine M0 (q_not rfl rfl rfl) rfl rfl ?_; refine L_nil ?_; refine T_n ?_; refine A_ifT rfl ?_; refine A_seq ?_; refine A_region ?_; refine M0 (q_assignC rfl rfl rfl) rfl rfl ?_; refine L_nil ?_
    refine T_n ?_; refine A_ret ?_; refine T_r ?_; refine F_r ?_
    exact E_tmp rfl rfl (W_end [] (by decide) rfl rfl (B_eq (decide_eq_false fun e => e_Used (by rw [e])).symm))
  have e_Used := Classical.not_not.1 e_Used
  have hc_Used := eq_IntSS x.Used y.Used g_Used
  rw [decide_eq_true e_Used] at hc_Used
  by_cases e_Saves : ¬ x.Saves = y.Saves
  · have hc := eq_SaveS x.Saves y.Saves g_Saves
    rw [decide_eq_false e_Saves] at hc
    refine Con.of Try.func11 rfl Try.ntmps11 rfl (fun E => ?_)
    refine A_seq ?_; refine A_region ?_; refine M1 (q_boxN rfl rfl rfl rfl) rfl rfl ?_; refine M1 (q_boxN rfl rfl rfl rfl) rfl rfl ?_; refine M0 (q_assignC rfl rfl rfl) rfl rfl ?_
    refine L_nil ?_; refine T_n ?_; refine A_seq ?_; refine A_seq ?_; refine A_region ?_; refine M0 (q_fldp rfl rfl rfl rfl (by decide)) rfl rfl ?_
    refine M0 (q_ld1 rfl rfl rfl rfl rfl) rfl rfl ?_; refine M0 (q_fldp rfl rfl rfl rfl (by decide)) rfl rfl ?_; refine M0 (q_ld1 rfl rfl rfl rfl rfl) rfl rfl ?_
    refine M0 (q_neqK rfl rfl rfl rfl (by assumption)) rfl rfl ?_; refine L_nil ?_; refine T_n ?_; refine A_ifF rfl ?_; refine A_skip ?_; refine T_n ?_; refine A_seq ?_; refine A_seq ?_
    refine A_region ?_; refine M0 (q_fldp rfl rfl rfl rfl (by decide)) rfl rfl ?_; refine M0 (q_ld1 rfl rfl rfl rfl rfl) rfl rfl ?_; refine M0 (q_fldp rfl rfl rfl rfl (by decide)) rfl rfl ?_
    refine M0 (q_ld1 rfl rfl rfl rfl rfl) rfl rfl ?_; refine M0 (q_neqK rfl rfl rfl rfl (by assumption)) rfl rfl ?_; refine L_nil ?_; refine T_n ?_; refine A_ifF rfl ?_; refine A_skip ?_
    refine T_n ?_; refine A_seq ?_; refine A_seq ?_; refine A_region ?_; refine M0 (q_fldp rfl rfl rfl rfl (by decide)) rfl rfl ?_; refine M0 (q_ld1 rfl rfl rfl rfl rfl) rfl rfl ?_
    refine M0 (q_fldp rfl rfl rfl rfl (by decide)) rfl rfl ?_; refine M0 (q_ld1 rfl rfl rfl rfl rfl) rfl rfl ?_; refine M0 (q_neqK rfl rfl rfl rfl (by assumption)) rfl rfl ?_
    refine L_nil ?_; refine T_n ?_; refine A_ifF rfl ?_; refine A_skip ?_; refine T_n ?_; refine A_seq ?_; refine A_seq ?_; refine A_region ?_
    refine M0 (q_fldp rfl rfl rfl rfl (by decide)) rfl rfl ?_; refine M0 (q_ld1 rfl rfl rfl rfl rfl) rfl rfl ?_; refine M0 (q_fldp rfl rfl rfl rfl (by decide)) rfl rfl ?_
    refine M0 (q_ld1 rfl rfl rfl rfl rfl) rfl rfl ?_; refine M0 (q_neqK rfl rfl rfl rfl (by assumption)) rfl rfl ?_; refine L_nil ?_; refine T_n ?_; refine A_ifF rfl ?_; refine A_skip ?_
    refine T_n ?_; refine A_seq ?_; refine A_seq ?_; refine A_region ?_; refine M0 (q_fldp rfl rfl rfl rfl (by decide)) rfl rfl ?_; refine M0 (q_ld1 rfl rfl rfl rfl rfl) rfl rfl ?_
    refine M0 (q_fldp rfl rfl rfl rfl (by decide)) rfl rfl ?_; refine M0 (q_ld1 rfl rfl rfl rfl rfl) rfl rfl ?_; refine M0 (q_call0 rfl rfl (hc_Tracks) rfl) rfl rfl ?_
    refine M0 (q_not rfl rfl rfl) rfl rfl ?_; refine L_nil ?_; refine T_n ?_; refine A_ifF rfl ?_; refine A_skip ?_; refine T_n ?_; refine A_seq ?_; refine A_seq ?_; refine A_region ?_
    refine M0 (q_fldp rfl rfl rfl rfl (by decide)) rfl rfl ?_; refine M0 (q_ldN rfl rfl rfl rfl rfl rfl) rfl rfl ?_; refine M0 (q_fldp rfl rfl rfl rfl (by decide)) rfl rfl ?_
    refine M0 (q_ldN rfl rfl rfl rfl rfl rfl) rfl rfl ?_; refine M0 (q_call0 rfl rfl (hc_Base) rfl) rfl rfl ?_; refine M0 (q_not rfl rfl rfl) rfl rfl ?_; refine L_nil ?_; refine T_n ?_
    refine A_ifF rfl ?_; refine A_skip ?_; refine T_n ?_; refine A_seq ?_; refine A_seq ?_; refine A_region ?_; refine M0 (q_fldp rfl rfl rfl rfl (by decide)) rfl rfl ?_
    refine M0 (q_ldN rfl rfl rfl rfl rfl rfl) rfl rfl ?_; refine M0 (q_fldp rfl rfl rfl rfl (by decide)) rfl rfl ?_; refine M0 (q_ldN rfl rfl rfl rfl rfl rfl) rfl rfl ?_
    refine M0 (q_call0 rfl rfl (hc_Now) rfl) rfl rfl ?_; refine M0 (q_not rfl rfl rfl) rfl rfl ?_; refine L_nil ?_; refine T_n ?_; refine A_ifF rfl ?_; refine A_skip ?_; refine T_n ?_
    refine A_seq ?_; refine A_seq ?_; refine A_region ?_; refine M0 (q_fldp rfl rfl rfl rfl (by decide)) rfl rfl ?_; refine M0 (q_ld1 rfl rfl rfl rfl rfl) rfl rfl ?_
    refine M0 (q_fldp rfl rfl rfl rfl (by decide)) rfl rfl ?_; refine M0 (q_ld1 rfl rfl rfl rfl rfl) rfl rfl ?_; refine M0 (q_call0 rfl rfl (hc_Used) rfl) rfl rfl ?_
    refine M0 (q_not rfl rfl rfl) rfl rfl ?_; refine L_nil ?_; refine T_n ?_; refine A_ifF rfl ?_; refine A_skip ?_; refine T_n ?_; refine A_seq ?_; refine A_seq ?_; refine A_region ?_
    refine M0 (q_fldp rfl rfl rfl rfl (by decide)) rfl rfl ?_; refine M0 (q_ld1 rfl rfl rfl rfl rfl) rfl rfl ?_; refine M0 (q_fldp rfl rfl rfl rfl (by decide)) rfl rfl ?_
    refine M0 (q_ld1 rfl rfl rfl rfl rfl) rfl rfl ?_; refine M0 (q_call0 rfl rfl (hc) rfl) rfl rfl ?_; refine M0 (q_not rfl rfl rfl) rfl rfl ?_; refine L_nil ?_; refine T_n ?_
    refine A_ifT rfl ?_; refine A_seq ?_; refine A_region ?_; refine M0 (q_assignC rfl rfl rfl) rfl rfl ?_; refine L_nil ?_; refine T_n ?_; refine A_ret ?_; refine T_r ?_; refine F_r ?_
    exact E_tmp rfl rfl (W_end [] (by decide) rfl rfl (B_eq (decide_eq_false fun e => e_Saves (by rw [e])).symm))
  have e_Saves := Classical.not_not.1 e_Saves
  have hc_Saves := eq_SaveS x.Saves y.Saves g_Saves
  rw [decide_eq_true e_Saves] at hc_Saves
  by_cases e_Sums : ¬ x.Sums = y.Sums
  · have hc := eq_IntS x.Sums y.Sums g_Sums
    rw [decide_eq_false e_Sums] at hc
    refine Con.of Try.func11 rfl Try.ntmps11 rfl (fun E => ?_)
    refine A_seq ?_; refine A_region ?_; refine M1 (q_boxN rfl rfl rfl rfl) rfl rfl ?_; refine M1 (q_boxN rfl rfl rfl rfl) rfl rfl ?_; refine M0 (q_assignC rfl rfl rfl) rfl rfl ?_
    refine L_nil ?_; refine T_n ?_; refine A_seq ?_; refine A_seq ?_; refine A_region ?_; refine M0 (q_fldp rfl rfl rfl rfl (by decide)) rfl rfl ?_
    refine M0 (q_ld1 rfl rfl rfl rfl rfl) rfl rfl ?_; refine M0 (q_fldp rfl rfl rfl rfl (by decide)) rfl rfl ?_; refine M0 (q_ld1 rfl rfl rfl rfl rfl) rfl rfl ?_
    refine M0 (q_neqK rfl rfl rfl rfl (by assumption)) rfl rfl ?_; refine L_nil ?_; refine T_n ?_; refine A_ifF rfl ?_; refine A_skip ?_; refine T_n ?_; refine A_seq ?_; refine A_seq ?_
    refine A_region ?_; refine M0 (q_fldp rfl rfl rfl rfl (by decide)) rfl rfl ?_; refine M0 (q_ld1 rfl rfl rfl rfl rfl) rfl rfl ?_; refine M0 (q_fldp rfl rfl rfl rfl (by decide)) rfl rfl ?_
    refine M0 (q_ld1 rfl rfl rfl rfl rfl) rfl rfl ?_; refine M0 (q_neqK rfl rfl rfl rfl (by assumption)) rfl rfl ?_; refine L_nil ?_; refine T_n ?_; refine A_ifF rfl ?_; refine A_skip ?_
    refine T_n ?_; refine A_seq ?_; refine A_seq ?_; refine A_region ?_; refine M0 (q_fldp rfl rfl rfl rfl (by decide)) rfl rfl ?_; refine M0 (q_ld1 rfl rfl rfl rfl rfl) rfl rfl ?_
    refine M0 (q_fldp rfl rfl rfl rfl (by decide)) rfl rfl ?_; refine M0 (q_ld1 rfl rfl rfl rfl rfl) rfl rfl ?_; refine M0 (q_neqK rfl rfl rfl rfl (by assumption)) rfl rfl ?_
    refine L_nil ?_; refine T_n ?_; refine A_ifF rfl ?_; refine A_skip ?_; refine T_n ?_; refine A_seq ?_; refine A_seq ?_; refine A_region ?_
    refine M0 (q_fldp rfl rfl rfl rfl (by decide)) rfl rfl ?_; refine M0 (q_ld1 rfl rfl rfl rfl rfl) rfl rfl ?_; refine M0 (q_fldp rfl rfl rfl rfl (by decide)) rfl rfl ?_
    refine M0 (q_ld1 rfl rfl rfl rfl rfl) rfl rfl ?_; refine M0 (q_neqK rfl rfl rfl rfl (by assumption)) rfl rfl ?_; refine L_nil ?_; refine T_n ?_; refine A_ifF rfl ?_; refine A_skip ?_
    refine T_n ?_; refine A_seq ?_; refine A_seq ?_; refine A_region ?_; refine M0 (q_fldp rfl rfl rfl rfl (by decide)) rfl rfl ?_; refine M0 (q_ld1 rfl rfl rfl rfl rfl) rfl rfl ?_
    refine M0 (q_fldp rfl rfl rfl rfl (by decide)) rfl rfl ?_; refine M0 (q_ld1 rfl rfl rfl rfl rfl) rfl rfl ?_; refine M0 (q_call0 rfl rfl (hc_Tracks) rfl) rfl rfl ?_
    refine M0 (q_not rfl rfl rfl) rfl rfl ?_; refine L_nil ?_; refine T_n ?_; refine A_ifF rfl ?_; refine A_skip ?_; refine T_n ?_; refine A_seq ?_; refine A_seq ?_; refine A_region ?_
    refine M0 (q_fldp rfl rfl rfl rfl (by decide)) rfl rfl ?_; refine M0 (q_ldN rfl rfl rfl rfl rfl rfl) rfl rfl ?_; refine M0 (q_fldp rfl rfl rfl rfl (by decide)) rfl rfl ?_
    refine M0 (q_ldN rfl rfl rfl rfl rfl rfl) rfl rfl ?_; refine M0 (q_call0 rfl rfl (hc_Base) rfl) rfl rfl ?_; refine M0 (q_not rfl rfl rfl) rfl rfl ?_; refine L_nil ?_; refine T_n ?_
    refine A_ifF rfl ?_; refine A_skip ?_; refine T_n ?_; refine A_seq ?_; refine A_seq ?_; refine A_region ?_; refine M0 (q_fldp rfl rfl rfl rfl (by decide)) rfl rfl ?_
    refine M0 (q_ldN rfl rfl rfl rfl rfl rfl) rfl rfl ?_; refine M0 (q_fldp rfl rfl rfl rfl (by decide)) rfl rfl ?_; refine M0 (q_ldN rfl rfl rfl rfl rfl rfl) rfl rfl ?_
    refine M0 (q_call0 rfl rfl (hc_Now) rfl) rfl rfl ?_; refine M0 (q_not rfl rfl rfl) rfl rfl ?_; refine L_nil ?_; refine T_n ?_; refine A_ifF rfl ?_; refine A_skip ?_; refine T_n ?_
    refine A_seq ?_; refine A_seq ?_; refine A_region ?_; refine M0 (q_fldp rfl rfl rfl rfl (by decide)) rfl rfl ?_; refine M0 (q_ld1 rfl rfl rfl rfl rfl) rfl rfl ?_
    refine M0 (q_fldp rfl rfl rfl rfl (by decide)) rfl rfl ?_; refine M0 (q_ld1 rfl rfl rfl rfl rfl) rfl rfl ?_; refine M0 (q_call0 rfl rfl (hc_Used) rfl) rfl rfl ?_
    refine M0 (q_not rfl rfl rfl) rfl rfl ?_; refine L_nil ?_; refine T_n ?_; refine A_ifF rfl ?_; refine A_skip ?_; refine T_n ?_; refine A_seq ?_; refine A_seq ?_; refine A_region ?_
    refine M0 (q_fldp rfl rfl rfl rfl (by decide)) rfl rfl ?_; refine M0 (q_ld1 rfl rfl rfl rfl rfl) rfl rfl ?_; refine M0 (q_fldp rfl rfl rfl rfl (by decide)) rfl rfl ?_
    refine M0 (q_ld1 rfl rfl rfl rfl rfl) rfl rfl ?_; refine M0 (q_call0 rfl rfl (hc_Saves) rfl) rfl rfl ?_; refine M0 (q_not rfl rfl rfl) rfl rfl ?_; refine L_nil ?_; refine T_n ?_
    refine A_ifF rfl ?_; refine A_skip ?_; refine T_n ?_; refine A_seq ?_; refine A_seq ?_; refine A_region ?_; refine M0 (q_fldp rfl rfl rfl rfl (by decide)) rfl rfl ?_
    refine M0 (q_ld1 rfl rfl rfl rfl rfl) rfl rfl ?_; refine M0 (q_fldp rfl rfl rfl rfl (by decide)) rfl rfl ?_; refine M0 (q_ld1 rfl rfl rfl rfl rfl) rfl rfl ?_
    refine M0 (q_call0 rfl rfl (hc) rfl) rfl rfl ?_; refine M0 (q_not rfl rfl rfl) rfl rfl ?_; refine L_nil ?_; refine T_n ?_; refine A_ifT rfl ?_; refine A_seq ?_; refine A_region ?_
    refine M0 (q_assignC rfl rfl rfl) rfl rfl ?_; refine L_nil ?_; refine T_n ?_; refine A_ret ?_; refine T_r ?_; refine F_r ?_
    exact E_tmp rfl rfl (W_end [] (by decide) rfl rfl (B_eq (decide_eq_false fun e => e_Sums (by rw [e])).symm))
  have e_Sums := Classical.not_not.1 e_Sums
  have hc_Sums := eq_IntS x.Sums y.Sums g_Sums
  rw [decide_eq_true e_Sums] at hc_Sums
  by_cases e_Fault : ¬ x.Fault = y.Fault
  · have hc := eq_Fault x.Fault y.Fault g_Fault
    rw [decide_eq_false e_Fault] at hc
    refine Con.of Try.func11 rfl Try.ntmps11 rfl (fun E => ?_)
    refine A_seq ?_; refine A_region ?_; refine M1 (q_boxN rfl rfl rfl rfl) rfl rfl ?_; refine M1 (q_boxN rfl rfl rfl rfl) rfl rfl ?_; refine M0 (q_assignC rfl rfl rfl) rfl rfl ?_
    refine L_nil ?_; refine T_n ?_; refine A_seq ?_; refine A_seq ?_; refine A_region ?_; refine M0 (q_fldp rfl rfl rfl rfl (by decide)) rfl rfl ?_
    refine M0 (q_ld1 rfl rfl rfl rfl rfl) rfl rfl ?_; refine M0 (q_fldp rfl rfl rfl rfl (by decide)) rfl rfl ?_; refine M0 (q_ld1 rfl rfl rfl rfl rfl) rfl rfl ?_
    refine M0 (q_neqK rfl rfl rfl rfl (by assumption)) rfl rfl ?_; refine L_nil ?_; refine T_n ?_; refine A_ifF rfl ?_; refine A_skip ?_; refine T_n ?_; refine A_seq ?_; refine A_seq ?_
    refine A_region ?_; refine M0 (q_fldp rfl rfl rfl rfl (by decide)) rfl rfl ?_; refine M0 (q_ld1 rfl rfl rfl rfl rfl) rfl rfl ?_; refine M0 (q_fldp rfl rfl rfl rfl (by decide)) rfl rfl ?_
    refine M0 (q_ld1 rfl rfl rfl rfl rfl) rfl rfl ?_; refine M0 (q_neqK rfl rfl rfl rfl (by assumption)) rfl rfl ?_; refine L_nil ?_; refine T_n ?_; refine A_ifF rfl ?_; refine A_skip ?_
    refine T_n ?_; refine A_seq ?_; refine A_seq ?_; refine A_region ?_; refine M0 (q_fldp rfl rfl rfl rfl (by decide)) rfl rfl ?_; refine M0 (q_ld1 rfl rfl rfl rfl rfl) rfl rfl ?_
    refine M0 (q_fldp rfl rfl rfl rfl (by decide)) rfl rfl ?_; refine M0 (q_ld1 rfl rfl rfl rfl rfl) rfl rfl ?_; refine M0 (q_neqK rfl rfl rfl rfl (by assumption)) rfl rfl ?_
    refine L_nil ?_; refine T_n ?_; refine A_ifF rfl ?_; refine A_skip ?_; refine T_n ?_; refine A_seq ?_; refine A_seq ?_; refine A_region ?_
    refine M0 (q_fldp rfl rfl rfl rfl (by decide)) rfl rfl ?_; refine M0 (q_ld1 rfl rfl rfl rfl rfl) rfl rfl ?_; refine M0 (q_fldp rfl rfl rfl rfl (by decide)) rfl rfl ?_
    refine M0 (q_ld1 rfl rfl rfl rfl rfl) rfl rfl ?_; refine M0 (q_neqK rfl rfl rfl rfl (by assumption)) rfl rfl ?_; refine L_nil ?_; refine T_n ?_; refine A_ifF rfl ?_; refine A_skip ?_
    refine T_n ?_; refine A_seq ?_; refine A_seq ?_; refine A_region ?_; refine M0 (q_fldp rfl rfl rfl rfl (by decide)) rfl rfl ?_; refine M0 (q_ld1 rfl rfl rfl rfl rfl) rfl rfl ?_
    refine M0 (q_fldp rfl rfl rfl rfl (by decide)) rfl rfl ?_; refine M0 (q_ld1 rfl rfl rfl rfl rfl) rfl rfl ?_; refine M0 (q_call0 rfl rfl (hc_Tracks) rfl) rfl rfl ?_
    refine M0 (q_not rfl rfl rfl) rfl rfl ?_; refine L_nil ?_; refine T_n ?_; refine A_ifF rfl ?_; refine A_skip ?_; refine T_n ?_; refine A_seq ?_; refine A_seq ?_; refine A_region ?_
    refine M0 (q_fldp rfl rfl rfl rfl (by decide)) rfl rfl ?_; refine M0 (q_ldN rfl rfl rfl rfl rfl rfl) rfl rfl ?_; refine M0 (q_fldp rfl rfl rfl rfl (by decide)) rfl rfl ?_
    refine M0 (q_ldN rfl rfl rfl rfl rfl rfl) rfl rfl ?_; refine M0 (q_call0 rfl rfl (hc_Base) rfl) rfl rfl ?_; refine M0 (q_not rfl rfl rfl) rfl rfl ?_; refine L_nil ?_; refine T_n ?_
    refine A_ifF rfl ?_; refine A_skip ?_; refine T_n ?_; refine A_seq ?_; refine A_seq ?_; refine A_region ?_; refine M0 (q_fldp rfl rfl rfl rfl (by decide)) rfl rfl ?_
    refine M0 (q_ldN rfl rfl rfl rfl rfl rfl) rfl rfl ?_; refine M0 (q_fldp rfl rfl rfl rfl (by decide)) rfl rfl ?_; refine M0 (q_ldN rfl rfl rfl rfl rfl rfl) rfl rfl ?_
    refine M0 (q_call0 rfl rfl (hc_Now) rfl) rfl rfl ?_; refine M0 (q_not rfl rfl rfl) rfl rfl ?_; refine L_nil ?_; refine T_n ?_; refine A_ifF rfl ?_; refine A_skip ?_; refine T_n ?_
    refine A_seq ?_; refine A_seq ?_; refine A_region ?_; refine M0 (q_fldp rfl rfl rfl rfl (by decide)) rfl rfl ?_; refine M0 (q_ld1 rfl rfl rfl rfl rfl) rfl rfl ?_
    refine M0 (q_fldp rfl rfl rfl rfl (by decide)) rfl rfl ?_; refine M0 (q_ld1 rfl rfl rfl rfl rfl) rfl rfl ?_; refine M0 (q_call0 rfl rfl (hc_Used) rfl) rfl rfl ?_
    refine M0 (q_not rfl rfl rfl) rfl rfl ?_; refine L_nil ?_; refine T_n ?_; refine A_ifF rfl ?_; refine A_skip ?_; refine T_n ?_; refine A_seq ?_; refine A_seq ?_; refine A_region ?_
    refine M0 (q_fldp rfl rfl rfl rfl (by decide)) rfl rfl ?_; refine M0 (q_ld1 rfl rfl rfl rfl rfl) rfl rfl ?_; refine M0 (q_fldp rfl rfl rfl rfl (by decide)) rfl rfl ?_
    refine M0 (q_ld1 rfl rfl rfl rfl rfl) rfl rfl ?_; refine M0 (q_call0 rfl rfl (hc_Saves) rfl) rfl rfl ?_; refine M0 (q_not rfl rfl rfl) rfl rfl ?_; refine L_nil ?_; refine T_n ?_
    refine A_ifF rfl ?_; refine A_skip ?_; refine T_n ?_; refine A_seq ?_; refine A_seq ?_; refine A_region ?_; refine M0 (q_fldp rfl rfl rfl rfl (by decide)) rfl rfl ?_
    refine M0 (q_ld1 rfl rfl rfl rfl rfl) rfl rfl ?_; refine M0 (q_fldp rfl rfl rfl rfl (by decide)) rfl rfl ?_; refine M0 (q_ld1 rfl rfl rfl rfl rfl) rfl rfl ?_
    refine M0 (q_call0 rfl rfl (hc_Sums) rfl) rfl rfl ?_; refine M0 (q_not rfl rfl rfl) rfl rfl ?_; refine L_nil ?_; refine T_n ?_; refine A_ifF rfl ?_; refine A_skip ?_; refine T_n ?_
    refine A_seq ?_; refine A_seq ?_; refine A_region ?_; refine M0 (q_fldp rfl rfl rfl rfl (by decide)) rfl rfl ?_; refine M0 (q_ldN rfl rfl rfl rfl rfl rfl) rfl rfl ?_
    refine M0 (q_fldp rfl rfl rfl rfl (by decide)) rfl rfl ?_; refine M0 (q_ldN rfl rfl rfl rfl rfl rfl) rfl rfl ?_; refine M0 (q_call0 rfl rfl (hc) rfl) rfl rfl ?_
    refine M0 (q_not rfl rfl rfl) rfl rfl ?_; refine L_nil ?_; refine T_n ?_; refine A_ifT rfl ?_; refine A_seq ?_; refine A_region ?_; refine M0 (q_assignC rfl rfl rfl) rfl rfl ?_; refine L_nil ?_
    refine T_n ?_; refine A_ret ?_; refine T_r ?_; refine F_r ?_
    exact E_tmp rfl rfl (W_end [] (by decide) rfl rfl (B_eq (decide_eq_false fun e => e_Fault (by rw [e])).symm))
  have e_Fault := Classical.not_not.1 e_Fault
  have hc_Fault := eq_Fault x.Fault y.Fault g_Fault
  rw [decide_eq_true e_Fault] at hc_Fault
  by_cases e_Rolls : ¬ x.Rolls = y.Rolls
  · have hk : decide (x.Rolls ≠ y.Rolls) = true := by simp [e_Rolls]
    refine Con.of Try.func11 rfl Try.ntmps11 rfl (fun E => ?_)
    refine A_seq ?_; refine A_region ?_; refine M1 (q_boxN rfl rfl rfl rfl) rfl rfl ?_; refine M1 (q_boxN rfl rfl rfl rfl) rfl rfl ?_; refine M0 (q_assignC rfl rfl rfl) rfl rfl ?_
    refine L_nil ?_; refine T_n ?_; refine A_seq ?_; refine A_seq ?_; refine A_region ?_; refine M0 (q_fldp rfl rfl rfl rfl (by decide)) rfl rfl ?_
    refine M0 (q_ld1 rfl rfl rfl rfl rfl) rfl rfl ?_; refine M0 (q_fldp rfl rfl rfl rfl (by decide)) rfl rfl ?_; refine M0 (q_ld1 rfl rfl rfl rfl rfl) rfl rfl ?_
    refine M0 (q_neqK rfl rfl rfl rfl (by assumption)) rfl rfl ?_; refine L_nil ?_; refine T_n ?_; refine A_ifF rfl ?_; refine A_skip ?_; refine T_n ?_; refine A_seq ?_; refine A_seq ?_
    refine A_region ?_; refine M0 (q_fldp rfl rfl rfl rfl (by decide)) rfl rfl ?_; refine M0 (q_ld1 rfl rfl rfl rfl rfl) rfl rfl ?_; refine M0 (q_fldp rfl rfl rfl rfl (by decide)) rfl rfl ?_
    refine M0 (q_ld1 rfl rfl rfl rfl rfl) rfl rfl ?_; refine M0 (q_neqK rfl rfl rfl rfl (by assumption)) rfl rfl ?_; refine L_nil ?_; refine T_n ?_; refine A_ifF rfl ?_; refine A_skip ?_
    refine T_n ?_; refine A_seq ?_; refine A_seq ?_; refine A_region ?_; refine M0 (q_fldp rfl rfl rfl rfl (by decide)) rfl rfl ?_; refine M0 (q_ld1 rfl rfl rfl rfl rfl) rfl rfl ?_
    refine M0 (q_fldp rfl rfl rfl rfl (by decide)) rfl rfl ?_; refine M0 (q_ld1 rfl rfl rfl rfl rfl) rfl rfl ?_; refine M0 (q_neqK rfl rfl rfl rfl (by assumption)) rfl rfl ?_
    refine L_nil ?_; refine T_n ?_; refine A_ifF rfl ?_; refine A_skip ?_; refine T_n ?_; refine A_seq ?_; refine A_seq ?_; refine A_region ?_
    refine M0 (q_fldp rfl rfl rfl rfl (by decide)) rfl rfl ?_; refine M0 (q_ld1 rfl rfl rfl rfl rfl) rfl rfl ?_; refine M0 (q_fldp rfl rfl rfl rfl (by decide)) rfl rfl ?_
    refine M0 (q_ld1 rfl rfl rfl rfl rfl) rfl rfl ?_; refine M0 (q_neqK rfl rfl rfl rfl (by assumption)) rfl rfl ?_; refine L_nil ?_; refine T_n ?_; refine A_ifF rfl ?_; refine A_skip ?_
    refine T_n ?_; refine A_seq ?_; refine A_seq ?_; refine A_region ?_; refine M0 (q_fldp rfl rfl rfl rfl (by decide)) rfl rfl ?_; refine M0 (q_ld1 rfl rfl rfl rfl rfl) rfl rfl ?_
    refine M0 (q_fldp rfl rfl rfl rfl (by decide)) rfl rfl ?_; refine M0 (q_ld1 rfl rfl rfl rfl rfl) rfl rfl ?_; refine M0 (q_call0 rfl rfl (hc_Tracks) rfl) rfl rfl ?_
    refine M0 (q_not rfl rfl rfl) rfl rfl ?_; refine L_nil ?_; refine T_n ?_; refine A_ifF rfl ?_; refine A_skip ?_; refine T_n ?_; refine A_seq ?_; refine A_seq ?_; refine A_region ?_
    refine M0 (q_fldp rfl rfl rfl rfl (by decide)) rfl rfl ?_; refine M0 (q_ldN rfl rfl rfl rfl rfl rfl) rfl rfl ?_; refine M0 (q_fldp rfl rfl rfl rfl (by decide)) rfl rfl ?_
    refine M0 (q_ldN rfl rfl rfl rfl rfl rfl) rfl rfl ?_; refine M0 (q_call0 rfl rfl (hc_Base) rfl) rfl rfl ?_; refine M0 (q_not rfl rfl rfl) rfl rfl ?_; refine L_nil ?_; refine T_n ?_
    refine A_ifF rfl ?_; refine A_skip ?_; refine T_n ?_; refine A_seq ?_; refine A_seq ?_; refine A_region ?_; refine M0 (q_fldp rfl rfl rfl rfl (by decide)) rfl rfl ?_
    refine M0 (q_ldN rfl rfl rfl rfl rfl rfl) rfl rfl ?_; refine M0 (q_fldp rfl rfl rfl rfl (by decide)) rfl rfl ?_; refine M0 (q_ldN rfl rfl rfl rfl rfl rfl) rfl rfl ?_
    refine M0 (q_call0 rfl rfl (hc_Now) rfl) rfl rfl ?_; refine M0 (q_not rfl rfl rfl) rfl rfl ?_; refine L_nil ?_; refine T_n ?_; refine A_ifF rfl ?_; refine A_skip ?_; refine T_n ?_
    refine A_seq ?_; refine A_seq ?_; refine A_region ?_; refine M0 (q_fldp rfl rfl rfl rfl (by decide)) rfl rfl ?_; refine M0 (q_ld1 rfl rfl rfl rfl rfl) rfl rfl ?_
    refine M0 (q_fldp rfl rfl rfl rfl (by decide)) rfl rfl ?_; refine M0 (q_ld1 rfl rfl rfl rfl rfl) rfl rfl ?_; refine M0 (q_call0 rfl rfl (hc_Used) rfl) rfl rfl ?_
    refine M0 (q_not rfl rfl rfl) rfl rfl ?_; refine L_nil ?_; refine T_n ?_; refine A_ifF rfl ?_; refine A_skip ?_; refine T_n ?_; refine A_seq ?_; refine A_seq ?_; refine A_region ?_
    refine M0 (q_fldp rfl rfl rfl rfl (by decide)) rfl rfl ?_; refine M0 (q_ld1 rfl rfl rfl rfl rfl) rfl rfl ?_; refine M0 (q_fldp rfl rfl rfl rfl (by decide)) rfl rfl ?_
    refine M0 (q_ld1 rfl rfl rfl rfl rfl) rfl rfl ?_; refine M0 (q_call0 rfl rfl (hc_Saves) rfl) rfl rfl ?_; refine M0 (q_not rfl rfl rfl) rfl rfl ?_; refine L_nil ?_; refine T_n ?_
    refine A_ifF rfl ?_; refine A_skip ?_; refine T_n ?_; refine A_seq ?_; refine A_seq ?_; refine A_region ?_; refine M0 (q_fldp rfl rfl rfl rfl (by decide)) rfl rfl ?_
    refine M0 (q_ld1 rfl rfl rfl rfl rfl) rfl rfl ?_; refine M0 (q_fldp rfl rfl rfl rfl (by decide)) rfl rfl ?_; refine M0 (q_ld1 rfl rfl rfl rfl rfl) rfl rfl ?_
    refine M0 (q_call0 rfl rfl (hc_Sums) rfl) rfl rfl ?_; refine M0 (q_not rfl rfl rfl) rfl rfl ?_; refine L_nil ?_; refine T_n ?_; refine A_ifF rfl ?_; refine A_skip ?_; refine T_n ?_
    refine A_seq ?_; refine A_seq ?_; refine A_region ?_; refine M0 (q_fldp rfl rfl rfl rfl (by decide)) rfl rfl ?_; refine M0 (q_ldN rfl rfl rfl rfl rfl rfl) rfl rfl ?_
    refine M0 (q_fldp rfl rfl rfl rfl (by decide)) rfl rfl ?_; refine M0 (q_ldN rfl rfl rfl rfl rfl rfl) rfl rfl ?_; refine M0 (q_call0 rfl rfl (hc_Fault) rfl) rfl rfl ?_
    refine M0 (q_not rfl rfl rfl) rfl rfl ?_; refine L_nil ?_; refine T_n ?_; refine A_ifF rfl ?_; refine A_skip ?_; refine T_n ?_; refine A_seq ?_; refine A_seq ?_; refine A_region ?_
    refine M0 (q_fldp rfl rfl rfl rfl (by decide)) rfl rfl ?_; refine M0 (q_ld1 rfl rfl rfl rfl rfl) rfl rfl ?_; refine M0 (q_fldp rfl rfl rfl rfl (by decide)) rfl rfl ?_
    refine M0 (q_ld1 rfl rfl rfl rfl rfl) rfl rfl ?_; refine M0 (q_neqK rfl rfl rfl rfl (by assumption)) rfl rfl ?_; refine L_nil ?_; refine T_n ?_; refine A_ifT rfl ?_; refine A_seq ?_
    refine A_region ?_; refine M0 (q_assignC rfl rfl rfl) rfl rfl ?_; refine L_nil ?_; refine T_n ?_; refine A_ret ?_; refine T_r ?_; refine F_r ?_
    exact E_tmp rfl rfl (W_end [] (by decide) rfl rfl (B_eq (decide_eq_false fun e => e_Rolls (by rw [e])).symm))
  have e_Rolls := Classical.not_not.1 e_Rolls
  have k_Rolls : decide (x.Rolls ≠ y.Rolls) = false := by simp [e_Rolls]
  by_cases e_Again : ¬ x.Again = y.Again
  · have hk : decide (x.Again ≠ y.Again) = true := by simp [e_Again]
    refine Con.of Try.func11 rfl Try.ntmps11 rfl (fun E => ?_)
    refine A_seq ?_; refine A_region ?_; refine M1 (q_boxN rfl rfl rfl rfl) rfl rfl ?_; refine M1 (q_boxN rfl rfl rfl rfl) rfl rfl ?_; refine M0 (q_assignC rfl rfl rfl) rfl rfl ?_
    refine L_nil ?_; refine T_n ?_; refine A_seq ?_; refine A_seq ?_; refine A_region ?_; refine M0 (q_fldp rfl rfl rfl rfl (by decide)) rfl rfl ?_
    refine M0 (q_ld1 rfl rfl rfl rfl rfl) rfl rfl ?_; refine M0 (q_fldp rfl rfl rfl rfl (by decide)) rfl rfl ?_; refine M0 (q_ld1 rfl rfl rfl rfl rfl) rfl rfl ?_
    refine M0 (q_neqK rfl rfl rfl rfl (by assumption)) rfl rfl ?_; refine L_nil ?_; refine T_n ?_; refine A_ifF rfl ?_; refine A_skip ?_; refine T_n ?_; refine A_seq ?_; refine A_seq ?_
    refine A_region ?_; refine M0 (q_fldp rfl rfl rfl rfl (by decide)) rfl rfl ?_; refine M0 (q_ld1 rfl rfl rfl rfl rfl) rfl rfl ?_; refine M0 (q_fldp rfl rfl rfl rfl (by decide)) rfl rfl ?_
    refine M0 (q_ld1 rfl rfl rfl rfl rfl) rfl rfl ?_; refine M0 (q_neqK rfl rfl rfl rfl (by assumption)) rfl rfl ?_; refine L_nil ?_; refine T_n ?_; refine A_ifF rfl ?_; refine A_skip ?_
    refine T_n ?_; refine A_seq ?_; refine A_seq ?_; refine A_region ?_; refine M0 (q_fldp rfl rfl rfl rfl (by decide)) rfl rfl ?_; refine M0 (q_ld1 rfl rfl rfl rfl rfl) rfl rfl ?_
    refine M0 (q_fldp rfl rfl rfl rfl (by decide)) rfl rfl ?_; refine M0 (q_ld1 rfl rfl rfl rfl rfl) rfl rfl ?_; refine M0 (q_neqK rfl rfl rfl rfl (by assumption)) rfl rfl ?_
    refine L_nil ?_; refine T_n ?_; refine A_ifF rfl ?_; refine A_skip ?_; refine T_n ?_; refine A_seq ?_; refine A_seq ?_; refine A_region ?_
    refine M0 (q_fldp rfl rfl rfl rfl (by decide)) rfl rfl ?_; refine M0 (q_ld1 rfl rfl rfl rfl rfl) rfl rfl ?_; refine M0 (q_fldp rfl rfl rfl rfl (by decide)) rfl rfl ?_
    refine M0 (q_ld1 rfl rfl rfl rfl rfl) rfl rfl ?_; refine M0 (q_neqK rfl rfl rfl rfl (by assumption)) rfl rfl ?_; refine L_nil ?_; refine T_n ?_; refine A_ifF rfl ?_; refine A_skip ?_
    refine T_n ?_; refine A_seq ?_; refine A_seq ?_; refine A_region ?_; refine M0 (q_fldp rfl rfl rfl rfl (by decide)) rfl rfl ?_; refine M0 (q_ld1 rfl rfl rfl rfl rfl) rfl rfl ?_
    refine M0 (q_fldp rfl rfl rfl rfl (by decide)) rfl rfl ?_; refine M0 (q_ld1 rfl rfl rfl rfl rfl) rfl rfl ?_; refine M0 (q_call0 rfl rfl (hc_Tracks) rfl) rfl rfl ?_
    refine M0 (q_not rfl rfl rfl) rfl rfl ?_; refine L_nil ?_; refine T_n ?_; refine A_ifF rfl ?_; refine A_skip ?_; refine T_n ?_; refine A_seq ?_; refine A_seq ?_; refine A_region ?_
    refine M0 (q_fldp rfl rfl rfl rfl (by decide)) rfl rfl ?_; refine M0 (q_ldN rfl rfl rfl rfl rfl rfl) rfl rfl ?_; refine M0 (q_fldp rfl rfl rfl rfl (by decide)) rfl rfl ?_
    refine M0 (q_ldN rfl rfl rfl rfl rfl rfl) rfl rfl ?_; refine M0 (q_call0 rfl rfl (hc_Base) rfl) rfl rfl ?_; refine M0 (q_not rfl rfl rfl) rfl rfl ?_; refine L_nil ?_; refine T_n ?_
    refine A_ifF rfl ?_; refine A_skip ?_; refine T_n ?_; refine A_seq ?_; refine A_seq ?_; refine A_region ?_; refine M0 (q_fldp rfl rfl rfl rfl (by decide)) rfl rfl ?_
    refine M0 (q_ldN rfl rfl rfl rfl rfl rfl) rfl rfl ?_; refine M0 (q_fldp rfl rfl rfl rfl (by decide)) rfl rfl ?_; refine M0 (q_ldN rfl rfl rfl rfl rfl rfl) rfl rfl ?_
    refine M0 (q_call0 rfl rfl (hc_Now) rfl) rfl rfl ?_; refine M0 (q_not rfl rfl rfl) rfl rfl ?_; refine L_nil ?_; refine T_n ?_; refine A_ifF rfl ?_; refine A_skip ?_; refine T_n ?_
    refine A_seq ?_; refine A_seq ?_; refine A_region ?_; refine M0 (q_fldp rfl rfl rfl rfl (by decide)) rfl rfl ?_; refine M0 (q_ld1 rfl rfl rfl rfl rfl) rfl rfl ?_
    refine M0 (q_fldp rfl rfl rfl rfl (by decide)) rfl rfl ?_; refine M0 (q_ld1 rfl rfl rfl rfl rfl) rfl rfl ?_; refine M0 (q_call0 rfl rfl (hc_Used) rfl) rfl rfl ?_
    refine M0 (q_not rfl rfl rfl) rfl rfl ?_; refine L_nil ?_; refine T_n ?_; refine A_ifF rfl ?_; refine A_skip ?_; refine T_n ?_; refine A_seq ?_; refine A_seq ?_; refine A_region ?_
    refine M0 (q_fldp rfl rfl rfl rfl (by decide)) rfl rfl ?_; refine M0 (q_ld1 rfl rfl rfl rfl rfl) rfl rfl ?_; refine M0 (q_fldp rfl rfl rfl rfl (by decide)) rfl rfl ?_
    refine M0 (q_ld1 rfl rfl rfl rfl rfl) rfl rfl ?_; refine M0 (q_call0 rfl rfl (hc_Saves) rfl) rfl rfl ?_; refine M0 (q_not rfl rfl rfl) rfl rfl ?_; refine L_nil ?_; refine T_n ?_
    refine A_ifF rfl ?_; refine A_skip ?_; refine T_n ?_; refine A_seq ?_; refine A_seq ?_; refine A_region ?_; refine M0 (q_fldp rfl rfl rfl rfl (by decide)) rfl rfl ?_
    refine M0 (q_ld1 rfl rfl rfl rfl rfl) rfl rfl ?_; refine M0 (q_fldp rfl rfl rfl rfl (by decide)) rfl rfl ?_; refine M0 (q_ld1 rfl rfl rfl rfl rfl) rfl rfl ?_
    refine M0 (q_call0 rfl rfl (hc_Sums) rfl) rfl rfl ?_; refine M0 (q_not rfl rfl rfl) rfl rfl ?_; refine L_nil ?_; refine T_n ?_; refine A_ifF rfl ?_; refine A_skip ?_; refine T_n ?_
    refine A_seq ?_; refine A_seq ?_; refine A_region ?_; refine M0 (q_fldp rfl rfl rfl rfl (by decide)) rfl rfl ?_; refine M0 (q_ldN rfl rfl rfl rfl rfl rfl) rfl rfl ?_
    refine M0 (q_fldp rfl rfl rfl rfl (by decide)) rfl rfl ?_; refine M0 (q_ldN rfl rfl rfl rfl rfl rfl) rfl rfl ?_; refine M0 (q_call0 rfl rfl (hc_Fault) rfl) rfl rfl ?_
    refine M0 (q_not rfl rfl rfl) rfl rfl ?_; refine L_nil ?_; refine T_n ?_; refine A_ifF rfl ?_; refine A_skip ?_; refine T_n ?_; refine A_seq ?_; refine A_seq ?_; refine A_region ?_
    refine M0 (q_fldp rfl rfl rfl rfl (by decide)) rfl rfl ?_; refine M0 (q_ld1 rfl rfl rfl rfl rfl) rfl rfl ?_; refine M0 (q_fldp rfl rfl rfl rfl (by decide)) rfl rfl ?_
    refine M0 (q_ld1 rfl rfl rfl rfl rfl) rfl rfl ?_; refine M0 (q_neqK rfl rfl rfl rfl (by assumption)) rfl rfl ?_; refine L_nil ?_; refine T_n ?_; refine A_ifF rfl ?_; refine A_skip ?_
    refine T_n ?_; refine A_seq ?_; refine A_seq ?_; refine A_region ?_; refine M0 (q_fldp rfl rfl rfl rfl (by decide)) rfl rfl ?_; refine M0 (q_ld1 rfl rfl rfl rfl rfl) rfl rfl ?_
    refine M0 (q_fldp rfl rfl rfl rfl (by decide)) rfl rfl ?_; refine M0 (q_ld1 rfl rfl rfl rfl rfl) rfl rfl ?_; refine M0 (q_neqK rfl rfl rfl rfl (by assumption)) rfl rfl ?_
    refine L_nil ?_; refine T_n ?_; refine A_ifT rfl ?_; refine A_seq ?_; refine A_region ?_; refine M0 (q_assignC rfl rfl rfl) rfl rfl ?_; refine L_nil ?_; refine T_n ?_; refine A_ret ?_; refine T_r ?_
    refine F_r ?_
    exact E_tmp rfl rfl (W_end [] (by decide) rfl rfl (B_eq (decide_eq_false fun e => e_Again (by rw [e])).symm))
  have e_Again := Classical.not_not.1 e_Again
  have k_Again : decide (x.Again ≠ y.Again) = false := by simp [e_Again]
  refine Con.of Try.func11 rfl Try.ntmps11 rfl (fun E => ?_)
  refine A_seq ?_; refine A_region ?_; refine M1 (q_boxN rfl rfl rfl rfl) rfl rfl ?_; refine M1 (q_boxN rfl rfl rfl rfl) rfl rfl ?_; refine M0 (q_assignC rfl rfl rfl) rfl rfl ?_
  refine L_nil ?_; refine T_n ?_; refine A_seq ?_; refine A_seq ?_; refine A_region ?_; refine M0 (q_fldp rfl rfl rfl rfl (by decide)) rfl rfl ?_
  refine M0 (q_ld1 rfl rfl rfl rfl rfl) rfl rfl ?_; refine M0 (q_fldp rfl rfl rfl rfl (by decide)) rfl rfl ?_; refine M0 (q_ld1 rfl rfl rfl rfl rfl) rfl rfl ?_
  refine M0 (q_neqK rfl rfl rfl rfl (by assumption)) rfl rfl ?_; refine L_nil ?_; refine T_n ?_; refine A_ifF rfl ?_; refine A_skip ?_; refine T_n ?_; refine A_seq ?_; refine A_seq ?_
  refine A_region ?_; refine M0 (q_fldp rfl rfl rfl rfl (by decide)) rfl rfl ?_; refine M0 (q_ld1 rfl rfl rfl rfl rfl) rfl rfl ?_; refine M0 (q_fldp rfl rfl rfl rfl (by decide)) rfl rfl ?_
  refine M0 (q_ld1 rfl rfl rfl rfl rfl) rfl rfl ?_; refine M0 (q_neqK rfl rfl rfl rfl (by assumption)) rfl rfl ?_; refine L_nil ?_; refine T_n ?_; refine A_ifF rfl ?_; refine A_skip ?_
  refine T_n ?_; refine A_seq ?_; refine A_seq ?_; refine A_region ?_; refine M0 (q_fldp rfl rfl rfl rfl (by decide)) rfl rfl ?_; refine M0 (q_ld1 rfl rfl rfl rfl rfl) rfl rfl ?_
  refine M0 (q_fldp rfl rfl rfl rfl (by decide)) rfl rfl ?_; refine M0 (q_ld1 rfl rfl rfl rfl rfl) rfl rfl ?_; refine M0 (q_neqK rfl rfl rfl rfl (by assumption)) rfl rfl ?_
  refine L_nil ?_; refine T_n ?_; refine A_ifF rfl ?_; refine A_skip ?_; refine T_n ?_; refine A_seq ?_; refine A_seq ?_; refine A_region ?_
  refine M0 (q_fldp rfl rfl rfl rfl (by decide)) rfl rfl ?_; refine M0 (q_ld1 rfl rfl rfl rfl rfl) rfl rfl ?_; refine M0 (q_fldp rfl rfl rfl rfl (by decide)) rfl rfl ?_
  refine M0 (q_ld1 rfl rfl rfl rfl rfl) rfl rfl ?_; refine M0 (q_neqK rfl rfl rfl rfl (by assumption)) rfl rfl ?_; refine L_nil ?_; refine T_n ?_; refine A_ifF rfl ?_; refine A_skip ?_
  refine T_n ?_; refine A_seq ?_; refine A_seq ?_; refine A_region ?_; refine M0 (q_fldp rfl rfl rfl rfl (by decide)) rfl rfl ?_; refine M0 (q_ld1 rfl rfl rfl rfl rfl) rfl rfl ?_
  refine M0 (q_fldp rfl rfl rfl rfl (by decide)) rfl rfl ?_; refine M0 (q_ld1 rfl rfl rfl rfl rfl) rfl rfl ?_; refine M0 (q_call0 rfl rfl (hc_Tracks) rfl) rfl rfl ?_
  refine M0 (q_not rfl rfl rfl) rfl rfl ?_; refine L_nil ?_; refine T_n ?_; refine A_ifF rfl ?_; refine A_skip ?_; refine T_n ?_; refine A_seq ?_; refine A_seq ?_; refine A_region ?_
  refine M0 (q_fldp rfl rfl rfl rfl (by decide)) rfl rfl ?_; refine M0 (q_ldN rfl rfl rfl rfl rfl rfl) rfl rfl ?_; refine M0 (q_fldp rfl rfl rfl rfl (by decide)) rfl rfl ?_
  refine M0 (q_ldN rfl rfl rfl rfl rfl rfl) rfl rfl ?_; refine M0 (q_call0 rfl rfl (hc_Base) rfl) rfl rfl ?_; refine M0 (q_not rfl rfl rfl) rfl rfl ?_; refine L_nil ?_; refine T_n ?_
  refine A_ifF rfl ?_; refine A_skip ?_; refine T_n ?_; refine A_seq ?_; refine A_seq ?_; refine A_region ?_; refine M0 (q_fldp rfl rfl rfl rfl (by decide)) rfl rfl ?_
  refine M0 (q_ldN rfl rfl rfl rfl rfl rfl) rfl rfl ?_; refine M0 (q_fldp rfl rfl rfl rfl (by decide)) rfl rfl ?_; refine M0 (q_ldN rfl rfl rfl rfl rfl rfl) rfl rfl ?_
  refine M0 (q_call0 rfl rfl (hc_Now) rfl) rfl rfl ?_; refine M0 (q_not rfl rfl rfl) rfl rfl ?_; refine L_nil ?_; refine T_n ?_; refine A_ifF rfl ?_; refine A_skip ?_; refine T_n ?_
  refine A_seq ?_; refine A_seq ?_; refine A_region ?_; refine M0 (q_fldp rfl rfl rfl rfl (by decide)) rfl rfl ?_; refine M0 (q_ld1 rfl rfl rfl rfl rfl) rfl rfl ?_
  refine M0 (q_fldp rfl rfl rfl rfl (by decide)) rfl rfl ?_; refine M0 (q_ld1 rfl rfl rfl rfl rfl) rfl rfl ?_; refine M0 (q_call0 rfl rfl (hc_Used) rfl) rfl rfl ?_
  refine M0 (q_not rfl rfl rfl) rfl rfl ?_; refine L_nil ?_; refine T_n ?_; refine A_ifF rfl ?_; refine A_skip ?_; refine T_n ?_; refine A_seq ?_; refine A_seq ?_; refine A_region ?_
  refine M0 (q_fldp rfl rfl rfl rfl (by decide)) rfl rfl ?_; refine M0 (q_ld1 rfl rfl rfl rfl rfl) rfl rfl ?_; refine M0 (q_fldp rfl rfl rfl rfl (by decide)) rfl rfl ?_
  refine M0 (q_ld1 rfl rfl rfl rfl rfl) rfl rfl ?_; refine M0 (q_call0 rfl rfl (hc_Saves) rfl) rfl rfl ?_; refine M0 (q_not rfl rfl rfl) rfl rfl ?_; refine L_nil ?_; refine T_n ?_
  refine A_ifF rfl ?_; refine A_skip ?_; refine T_n ?_; refine A_seq ?_; refine A_seq ?_; refine A_region ?_; refine M0 (q_fldp rfl rfl rfl rfl (by decide)) rfl rfl ?_
  refine M0 (q_ld1 rfl rfl rfl rfl rfl) rfl rfl ?_; refine M0 (q_fldp rfl rfl rfl rfl (by decide)) rfl rfl ?_; refine M0 (q_ld1 rfl rfl rfl rfl rfl) rfl rfl ?_
  refine M0 (q_call0 rfl rfl (hc_Sums) rfl) rfl rfl ?_; refine M0 (q_not rfl rfl rfl) rfl rfl ?_; refine L_nil ?_; refine T_n ?_; refine A_ifF rfl ?_; refine A_skip ?_; refine T_n ?_
  refine A_seq ?_; refine A_seq ?_; refine A_region ?_; refine M0 (q_fldp rfl rfl rfl rfl (by decide)) rfl rfl ?_; refine M0 (q_ldN rfl rfl rfl rfl rfl rfl) rfl rfl ?_
  refine M0 (q_fldp rfl rfl rfl rfl (by decide)) rfl rfl ?_; refine M0 (q_ldN rfl rfl rfl rfl rfl rfl) rfl rfl ?_; refine M0 (q_call0 rfl rfl (hc_Fault) rfl) rfl rfl ?_
  refine M0 (q_not rfl rfl rfl) rfl rfl ?_; refine L_nil ?_; refine T_n ?_; refine A_ifF rfl ?_; refine A_skip ?_; refine T_n ?_; refine A_seq ?_; refine A_seq ?_; refine A_region ?_
  refine M0 (q_fldp rfl rfl rfl rfl (by decide)) rfl rfl ?_; refine M0 (q_ld1 rfl rfl rfl rfl rfl) rfl rfl ?_; refine M0 (q_fldp rfl rfl rfl rfl (by decide)) rfl rfl ?_
  refine M0 (q_ld1 rfl rfl rfl rfl rfl) rfl rfl ?_; refine M0 (q_neqK rfl rfl rfl rfl (by assumption)) rfl rfl ?_; refine L_nil ?_; refine T_n ?_; refine A_ifF rfl ?_; refine A_skip ?_
  refine T_n ?_; refine A_seq ?_; refine A_seq ?_; refine A_region ?_; refine M0 (q_fldp rfl rfl rfl rfl (by decide)) rfl rfl ?_; refine M0 (q_ld1 rfl rfl rfl rfl rfl) rfl rfl ?_
  refine M0 (q_fldp rfl rfl rfl rfl (by decide)) rfl rfl ?_; refine M0 (q_ld1 rfl rfl rfl rfl rfl) rfl rfl ?_; refine M0 (q_neqK rfl rfl rfl rfl (by assumption)) rfl rfl ?_
  refine L_nil ?_; refine T_n ?_; refine A_ifF rfl ?_; refine A_skip ?_; refine T_n ?_; refine A_seq ?_; refine A_region ?_; refine M0 (q_assignC rfl rfl rfl) rfl rfl ?_; refine L_nil ?_
  refine T_n ?_; refine A_ret ?_; refine F_r ?_
  exact E_tmp rfl rfl (W_end [] (by decide) rfl rfl (B_eq (decide_eq_true (TPeer.same e_Me e_Delay e_Ahead e_Seed e_Tracks e_Base e_Now e_Used e_Saves e_Sums e_Fault e_Rolls e_Again)).symm))
end Go.Proofs.Ytbpebmolbdplmaa
end

section
set_option linter.unusedSimpArgs false
set_option linter.unusedVariables false
namespace Go.Proofs.Ytbpebmolbdplmaa
open Go.RowKit

@[reducible] def iv (n : Int) : V1 := .rd [] (.v (.int .i64 n))
set_option maxHeartbeats 8000000 in
theorem law_CleanUpTo (p : TPeer) (q : TPeer) (g_p : Enc.gd p) (g_q : Enc.gd q) : Con Try.prog 3 [] [ag p, ag q] [] (B true) := by
  have hz_p := sz_Peer p (1048576) g_p (by omega) (by omega)
  by_cases n_p : (1048576 : Int) < Enc.wt p
  · rw [szr_neg n_p] at hz_p
    refine Con.of Try.func3 rfl Try.ntmps3 rfl (fun E => ?_)
    refine A_seq ?_; refine A_region ?_; refine M1 (q_boxN rfl rfl rfl rfl) rfl rfl ?_; refine M1 (q_boxN rfl rfl rfl rfl) rfl rfl ?_; refine M0 (q_assignC rfl rfl rfl) rfl rfl ?_
    refine L_nil ?_; refine T_n ?_; refine A_seq ?_; refine A_region ?_; refine M0 (q_assignC rfl rfl rfl) rfl rfl ?_; refine L_nil ?_; refine T_n ?_; refine A_seq ?_; refine A_region ?_
    refine M0 (q_ldN rfl rfl rfl rfl rfl rfl) rfl rfl ?_; refine M0 (q_moveC rfl rfl rfl) rfl rfl ?_; refine M0 (q_call0 rfl rfl (hz_p) rfl) rfl rfl ?_
    refine M0 (q_assignC rfl rfl rfl) rfl rfl ?_; refine L_nil ?_; refine T_n ?_; refine A_seq ?_; refine A_seq ?_; refine A_region ?_; refine M0 (q_moveC rfl rfl rfl) rfl rfl ?_
    refine M0 (q_lssK (b := true) rfl rfl rfl rfl (by decide)) rfl rfl ?_; refine L_nil ?_; refine T_n ?_; refine A_ifT rfl ?_; refine A_seq ?_; refine A_region ?_
    refine M0 (q_assignC rfl rfl rfl) rfl rfl ?_; refine L_nil ?_; refine T_n ?_; refine A_ret ?_; refine T_r ?_; refine F_r ?_
    exact E_tmp rfl rfl (W_end [] (by decide) rfl rfl rfl)
  rw [szr_pos (by omega)] at hz_p
  have hb_p : decide ((1048576 : Int) - Enc.wt p < 0) = false := decide_eq_false (by omega)
  have ht_p := to_Peer p (by omega)
  have hq_p := eq_Peer p p g_p
  rw [decide_eq_true rfl] at hq_p
  have hz_q := sz_Peer q (1048576 - Enc.wt p) g_q (by omega) (by omega)
  by_cases n_q : (1048576 - Enc.wt p : Int) < Enc.wt q
  · rw [szr_neg n_q] at hz_q
    refine Con.of Try.func3 rfl Try.ntmps3 rfl (fun E => ?_)
    refine A_seq ?_; refine A_region ?_; refine M1 (q_boxN rfl rfl rfl rfl) rfl rfl ?_; refine M1 (q_boxN rfl rfl rfl rfl) rfl rfl ?_; refine M0 (q_assignC rfl rfl rfl) rfl rfl ?_
    refine L_nil ?_; refine T_n ?_; refine A_seq ?_; refine A_region ?_; refine M0 (q_assignC rfl rfl rfl) rfl rfl ?_; refine L_nil ?_; refine T_n ?_; refine A_seq ?_; refine A_region ?_
    refine M0 (q_ldN rfl rfl rfl rfl rfl rfl) rfl rfl ?_; refine M0 (q_moveC rfl rfl rfl) rfl rfl ?_; refine M0 (q_call0 rfl rfl (hz_p) rfl) rfl rfl ?_
    refine M0 (q_assignC rfl rfl rfl) rfl rfl ?_; refine L_nil ?_; refine T_n ?_; refine A_seq ?_; refine A_seq ?_; refine A_region ?_; refine M0 (q_moveC rfl rfl rfl) rfl rfl ?_
    refine M0 (q_lssK rfl rfl rfl rfl (by assumption)) rfl rfl ?_; refine L_nil ?_; refine T_n ?_; refine A_ifF rfl ?_; refine A_skip ?_; refine T_n ?_; refine A_seq ?_; refine A_region ?_
    refine M0 (q_ldN rfl rfl rfl rfl rfl rfl) rfl rfl ?_; refine M0 (q_moveC rfl rfl rfl) rfl rfl ?_; refine M0 (q_call0 rfl rfl (hz_q) rfl) rfl rfl ?_
    refine M0 (q_assignC rfl rfl rfl) rfl rfl ?_; refine L_nil ?_; refine T_n ?_; refine A_seq ?_; refine A_seq ?_; refine A_region ?_; refine M0 (q_moveC rfl rfl rfl) rfl rfl ?_
    refine M0 (q_lssK (b := true) rfl rfl rfl rfl (by decide)) rfl rfl ?_; refine L_nil ?_; refine T_n ?_; refine A_ifT rfl ?_; refine A_seq ?_; refine A_region ?_
    refine M0 (q_assignC rfl rfl rfl) rfl rfl ?_; refine L_nil ?_; refine T_n ?_; refine A_ret ?_; refine T_r ?_; refine F_r ?_
    exact E_tmp rfl rfl (W_end [] (by decide) rfl rfl rfl)
  rw [szr_pos (by omega)] at hz_q
  have hb_q : decide ((1048576 - Enc.wt p : Int) - Enc.wt q < 0) = false := decide_eq_false (by omega)
  have ht_q := to_Peer q (by omega)
  have hq_q := eq_Peer q q g_q
  rw [decide_eq_true rfl] at hq_q
  have hsp := S_CleanUpTo p q g_p g_q
  have hip := I_CleanUpTo p q g_p g_q
  generalize cleanUpTo p q = y at hsp hip
  refine Con.of Try.func3 rfl Try.ntmps3 rfl (fun E => ?_)
  refine A_seq ?_; refine A_region ?_; refine M1 (q_boxN rfl rfl rfl rfl) rfl rfl ?_; refine M1 (q_boxN rfl rfl rfl rfl) rfl rfl ?_; refine M0 (q_assignC rfl rfl rfl) rfl rfl ?_
  refine L_nil ?_; refine T_n ?_; refine A_seq ?_; refine A_region ?_; refine M0 (q_assignC rfl rfl rfl) rfl rfl ?_; refine L_nil ?_; refine T_n ?_; refine A_seq ?_; refine A_region ?_
  refine M0 (q_ldN rfl rfl rfl rfl rfl rfl) rfl rfl ?_; refine M0 (q_moveC rfl rfl rfl) rfl rfl ?_; refine M0 (q_call0 rfl rfl (hz_p) rfl) rfl rfl ?_
  refine M0 (q_assignC rfl rfl rfl) rfl rfl ?_; refine L_nil ?_; refine T_n ?_; refine A_seq ?_; refine A_seq ?_; refine A_region ?_; refine M0 (q_moveC rfl rfl rfl) rfl rfl ?_
  refine M0 (q_lssK rfl rfl rfl rfl (by assumption)) rfl rfl ?_; refine L_nil ?_; refine T_n ?_; refine A_ifF rfl ?_; refine A_skip ?_; refine T_n ?_; refine A_seq ?_; refine A_region ?_
  refine M0 (q_ldN rfl rfl rfl rfl rfl rfl) rfl rfl ?_; refine M0 (q_moveC rfl rfl rfl) rfl rfl ?_; refine M0 (q_call0 rfl rfl (hz_q) rfl) rfl rfl ?_
  refine M0 (q_assignC rfl rfl rfl) rfl rfl ?_; refine L_nil ?_; refine T_n ?_; refine A_seq ?_; refine A_seq ?_; refine A_region ?_; refine M0 (q_moveC rfl rfl rfl) rfl rfl ?_
  refine M0 (q_lssK rfl rfl rfl rfl (by assumption)) rfl rfl ?_; refine L_nil ?_; refine T_n ?_; refine A_ifF rfl ?_; refine A_skip ?_; refine T_n ?_; refine A_seq ?_
  refine AWP.pre (st' := (⟨_, [(2, .o (.c (.ptr 0 0))), (3, .o (.c (.ptr 1 0)))], [.box ((Enc.e p).map (V1.rd [])), .box ((Enc.e q).map (V1.rd []))]⟩ : St)) ?_ (W_go [0, 1] (by decide) rfl (rfl) (.cons rfl (.cons rfl (.nil))))
  refine A_draw [[], [0], [], [0, 1, 2], [0, 1, 2, 3], [0, 1, 2, 3, 4]] [[], [20], [], [20, 21, 22], [20, 21, 22, 23], [20, 21, 22, 23, 24]] [[22], [22], [20, 21], [], [], []] rfl ?_
  refine DR.step (q_ldN rfl rfl rfl rfl rfl rfl) rfl rfl ?_; refine DR.step (q_call rfl rfl (ht_p) rfl rfl rfl) rfl rfl ?_; refine DR.step (q_ldN rfl rfl rfl rfl rfl rfl) rfl rfl ?_
  refine DR.step (q_call rfl rfl (ht_q) rfl rfl rfl) rfl rfl ?_; refine DR.step (q_call0 rfl rfl (hsp) rfl) rfl rfl ?_; refine DR.step (q_assignC rfl rfl rfl) rfl rfl ?_
  refine DR.stop (by kernel_rfl) (by kernel_rfl) ?_
  refine L_nil ?_; refine T_n ?_
  refine AWP.pre (st' := (⟨_, [(2, .o (.c (.ptr 0 0))), (3, .o (.c (.ptr 1 0))), (6, I y)], [.box ((Enc.e p).map (V1.rd [])), .box ((Enc.e q).map (V1.rd []))]⟩ : St)) ?_ (W_go [0, 1] (by decide) rfl (rfl) (.cons rfl (.cons rfl (.cons rfl (.nil)))))
  refine A_seq ?_; refine A_region ?_; refine M0 (q_ldN rfl rfl rfl rfl rfl rfl) rfl rfl ?_
  refine M1 (q_call rfl rfl (ht_p) rfl rfl rfl) rfl rfl ?_
  refine AL.weak (st' := (⟨_, [(2, .o (.c (.ptr 0 0))), (3, .o (.c (.ptr 1 0))), (6, I y), (26, .o (.ag [iv p.Me, iv p.Delay, iv p.Ahead, iv p.Seed, .ref 2, .ref 3, iv p.Base.Tick, iv p.Base.Seed, .ref 4, .ref 5, .ref 6, iv p.Now.Tick, iv p.Now.Seed, .ref 7, .ref 8, .ref 9, .ref 10, .ref 11, iv p.Fault.Tick, iv p.Fault.Player, iv p.Fault.Add, iv p.Rolls, iv p.Again]))], [.box ((Enc.e p).map (V1.rd [])), .box ((Enc.e q).map (V1.rd [])), .row 1 (els p.Tracks), .row 1 (els p.Base.Level.Rows), .row 1 (els p.Base.Scores), .row 9 (els p.Base.Bodies), .row 1 (els p.Now.Level.Rows), .row 1 (els p.Now.Scores), .row 9 (els p.Now.Bodies), .row 1 (els p.Used), .row 2 (els p.Saves), .row 1 (els p.Sums)]⟩ : St)) (W_go [0, 1, 2, 3, 4, 5, 6, 7, 8, 9, 10, 11] (by decide) rfl ((by kernel_rfl)) (.cons rfl (.cons rfl (.cons rfl (.cons rfl (.nil)))))) ?_
  refine M1 (q_alloc rfl rfl rfl) rfl rfl ?_
  refine M_stN rfl rfl rfl rfl rfl rfl rfl rfl rfl ?_
  refine AL.weak (st' := (⟨_, [(2, .o (.c (.ptr 0 0))), (3, .o (.c (.ptr 1 0))), (6, I y), (7, .o (.c (.ptr 12 0)))], [.box ((Enc.e p).map (V1.rd [])), .box ((Enc.e q).map (V1.rd [])), .row 1 (els p.Tracks), .row 1 (els p.Base.Level.Rows), .row 1 (els p.Base.Scores), .row 9 (els p.Base.Bodies), .row 1 (els p.Now.Level.Rows), .row 1 (els p.Now.Scores), .row 9 (els p.Now.Bodies), .row 1 (els p.Used), .row 2 (els p.Saves), .row 1 (els p.Sums), .box [iv p.Me, iv p.Delay, iv p.Ahead, iv p.Seed, .ref 2, .ref 3, iv p.Base.Tick, iv p.Base.Seed, .ref 4, .ref 5, .ref 6, iv p.Now.Tick, iv p.Now.Seed, .ref 7, .ref 8, .ref 9, .ref 10, .ref 11, iv p.Fault.Tick, iv p.Fault.Player, iv p.Fault.Add, iv p.Rolls, iv p.Again]]⟩ : St)) (W_go [0, 1, 2, 3, 4, 5, 6, 7, 8, 9, 10, 11, 12] (by decide) rfl ((by kernel_rfl)) (.cons rfl (.cons rfl (.cons rfl (.cons rfl (.nil)))))) ?_
  refine L_nil ?_; refine T_n ?_; refine A_seq ?_; refine A_region ?_
  refine M0 (q_ldN rfl rfl rfl rfl rfl rfl) rfl rfl ?_
  refine M1 (q_call rfl rfl (ht_q) rfl rfl rfl) rfl rfl ?_
  refine AL.weak (st' := (⟨_, [(2, .o (.c (.ptr 0 0))), (3, .o (.c (.ptr 1 0))), (6, I y), (7, .o (.c (.ptr 12 0))), (28, .o (.ag [iv q.Me, iv q.Delay, iv q.Ahead, iv q.Seed, .ref 13, .ref 14, iv q.Base.Tick, iv q.Base.Seed, .ref 15, .ref 16, .ref 17, iv q.Now.Tick, iv q.Now.Seed, .ref 18, .ref 19, .ref 20, .ref 21, .ref 22, iv q.Fault.Tick, iv q.Fault.Player, iv q.Fault.Add, iv q.Rolls, iv q.Again]))], [.box ((Enc.e p).map (V1.rd [])), .box ((Enc.e q).map (V1.rd [])), .row 1 (els p.Tracks), .row 1 (els p.Base.Level.Rows), .row 1 (els p.Base.Scores), .row 9 (els p.Base.Bodies), .row 1 (els p.Now.Level.Rows), .row 1 (els p.Now.Scores), .row 9 (els p.Now.Bodies), .row 1 (els p.Used), .row 2 (els p.Saves), .row 1 (els p.Sums), .box [iv p.Me, iv p.Delay, iv p.Ahead, iv p.Seed, .ref 2, .ref 3, iv p.Base.Tick, iv p.Base.Seed, .ref 4, .ref 5, .ref 6, iv p.Now.Tick, iv p.Now.Seed, .ref 7, .ref 8, .ref 9, .ref 10, .ref 11, iv p.Fault.Tick, iv p.Fault.Player, iv p.Fault.Add, iv p.Rolls, iv p.Again], .row 1 (els q.Tracks), .row 1 (els q.Base.Level.Rows), .row 1 (els q.Base.Scores), .row 9 (els q.Base.Bodies), .row 1 (els q.Now.Level.Rows), .row 1 (els q.Now.Scores), .row 9 (els q.Now.Bodies), .row 1 (els q.Used), .row 2 (els q.Saves), .row 1 (els q.Sums)]⟩ : St)) (W_go [0, 1, 2, 3, 4, 5, 6, 7, 8, 9, 10, 11, 12, 13, 14, 15, 16, 17, 18, 19, 20, 21, 22] (by decide) rfl ((by kernel_rfl)) (.cons rfl (.cons rfl (.cons rfl (.cons rfl (.cons rfl (.nil))))))) ?_
  refine M1 (q_alloc rfl rfl rfl) rfl rfl ?_
  refine M_stN rfl rfl rfl rfl rfl rfl rfl rfl rfl ?_
  refine AL.weak (st' := (⟨_, [(2, .o (.c (.ptr 0 0))), (3, .o (.c (.ptr 1 0))), (6, I y), (7, .o (.c (.ptr 12 0))), (8, .o (.c (.ptr 23 0)))], [.box ((Enc.e p).map (V1.rd [])), .box ((Enc.e q).map (V1.rd [])), .row 1 (els p.Tracks), .row 1 (els p.Base.Level.Rows), .row 1 (els p.Base.Scores), .row 9 (els p.Base.Bodies), .row 1 (els p.Now.Level.Rows), .row 1 (els p.Now.Scores), .row 9 (els p.Now.Bodies), .row 1 (els p.Used), .row 2 (els p.Saves), .row 1 (els p.Sums), .box [iv p.Me, iv p.Delay, iv p.Ahead, iv p.Seed, .ref 2, .ref 3, iv p.Base.Tick, iv p.Base.Seed, .ref 4, .ref 5, .ref 6, iv p.Now.Tick, iv p.Now.Seed, .ref 7, .ref 8, .ref 9, .ref 10, .ref 11, iv p.Fault.Tick, iv p.Fault.Player, iv p.Fault.Add, iv p.Rolls, iv p.Again], .row 1 (els q.Tracks), .row 1 (els q.Base.Level.Rows), .row 1 (els q.Base.Scores), .row 9 (els q.Base.Bodies), .row 1 (els q.Now.Level.Rows), .row 1 (els q.Now.Scores), .row 9 (els q.Now.Bodies), .row 1 (els q.Used), .row 2 (els q.Saves), .row 1 (els q.Sums), .box [iv q.Me, iv q.Delay, iv q.Ahead, iv q.Seed, .ref 13, .ref 14, iv q.Base.Tick, iv q.Base.Seed, .ref 15, .ref 16, .ref 17, iv q.Now.Tick, iv q.Now.Seed, .ref 18, .ref 19, .ref 20, .ref 21, .ref 22, iv q.Fault.Tick, iv q.Fault.Player, iv q.Fault.Add, iv q.Rolls, iv q.Again]]⟩ : St)) (W_go [0, 1, 2, 3, 4, 5, 6, 7, 8, 9, 10, 11, 12, 13, 14, 15, 16, 17, 18, 19, 20, 21, 22, 23] (by decide) rfl ((by kernel_rfl)) (.cons rfl (.cons rfl (.cons rfl (.cons rfl (.cons rfl (.nil))))))) ?_
  refine L_nil ?_; refine T_n ?_; refine A_seq ?_; refine A_region ?_
  refine M0 (q_ldN rfl rfl rfl rfl rfl rfl) rfl rfl ?_
  refine AL.weak (st' := (⟨_, [(2, .o (.c (.ptr 0 0))), (3, .o (.c (.ptr 1 0))), (6, I y), (7, .o (.c (.ptr 12 0))), (8, .o (.c (.ptr 23 0))), (29, .o (.ag [iv p.Me, iv p.Delay, iv p.Ahead, iv p.Seed, .ref 2, .ref 3, iv p.Base.Tick, iv p.Base.Seed, .ref 4, .ref 5, .ref 6, iv p.Now.Tick, iv p.Now.Seed, .ref 7, .ref 8, .ref 9, .ref 10, .ref 11, iv p.Fault.Tick, iv p.Fault.Player, iv p.Fault.Add, iv p.Rolls, iv p.Again]))], [.box ((Enc.e p).map (V1.rd [])), .box ((Enc.e q).map (V1.rd [])), .row 1 (els p.Tracks), .row 1 (els p.Base.Level.Rows), .row 1 (els p.Base.Scores), .row 9 (els p.Base.Bodies), .row 1 (els p.Now.Level.Rows), .row 1 (els p.Now.Scores), .row 9 (els p.Now.Bodies), .row 1 (els p.Used), .row 2 (els p.Saves), .row 1 (els p.Sums), .box [iv p.Me, iv p.Delay, iv p.Ahead, iv p.Seed, .ref 2, .ref 3, iv p.Base.Tick, iv p.Base.Seed, .ref 4, .ref 5, .ref 6, iv p.Now.Tick, iv p.Now.Seed, .ref 7, .ref 8, .ref 9, .ref 10, .ref 11, iv p.Fault.Tick, iv p.Fault.Player, iv p.Fault.Add, iv p.Rolls, iv p.Again], .row 1 (els q.Tracks), .row 1 (els q.Base.Level.Rows), .row 1 (els q.Base.Scores), .row 9 (els q.Base.Bodies), .row 1 (els q.Now.Level.Rows), .row 1 (els q.Now.Scores), .row 9 (els q.Now.Bodies), .row 1 (els q.Used), .row 2 (els q.Saves), .row 1 (els q.Sums), .box [iv q.Me, iv q.Delay, iv q.Ahead, iv q.Seed, .ref 13, .ref 14, iv q.Base.Tick, iv q.Base.Seed, .ref 15, .ref 16, .ref 17, iv q.Now.Tick, iv q.Now.Seed, .ref 18, .ref 19, .ref 20, .ref 21, .ref 22, iv q.Fault.Tick, iv q.Fault.Player, iv q.Fault.Add, iv q.Rolls, iv q.Again]]⟩ : St)) (W_go [0, 1, 2, 3, 4, 5, 6, 7, 8, 9, 10, 11, 12, 13, 14, 15, 16, 17, 18, 19, 20, 21, 22, 23] (by decide) rfl ((by kernel_rfl)) (.cons rfl (.cons rfl (.cons rfl (.cons rfl (.cons rfl (.cons rfl (.nil)))))))) ?_
  refine M0 (q_ldN rfl rfl rfl rfl rfl rfl) rfl rfl ?_
  refine AL.weak (st' := (⟨_, [(2, .o (.c (.ptr 0 0))), (3, .o (.c (.ptr 1 0))), (6, I y), (7, .o (.c (.ptr 12 0))), (8, .o (.c (.ptr 23 0))), (29, .o (.ag [iv p.Me, iv p.Delay, iv p.Ahead, iv p.Seed, .ref 2, .ref 3, iv p.Base.Tick, iv p.Base.Seed, .ref 4, .ref 5, .ref 6, iv p.Now.Tick, iv p.Now.Seed, .ref 7, .ref 8, .ref 9, .ref 10, .ref 11, iv p.Fault.Tick, iv p.Fault.Player, iv p.Fault.Add, iv p.Rolls, iv p.Again])), (30, .o (.ag [iv q.Me, iv q.Delay, iv q.Ahead, iv q.Seed, .ref 13, .ref 14, iv q.Base.Tick, iv q.Base.Seed, .ref 15, .ref 16, .ref 17, iv q.Now.Tick, iv q.Now.Seed, .ref 18, .ref 19, .ref 20, .ref 21, .ref 22, iv q.Fault.Tick, iv q.Fault.Player, iv q.Fault.Add, iv q.Rolls, iv q.Again]))], [.box ((Enc.e p).map (V1.rd [])), .box ((Enc.e q).map (V1.rd [])), .row 1 (els p.Tracks), .row 1 (els p.Base.Level.Rows), .row 1 (els p.Base.Scores), .row 9 (els p.Base.Bodies), .row 1 (els p.Now.Level.Rows), .row 1 (els p.Now.Scores), .row 9 (els p.Now.Bodies), .row 1 (els p.Used), .row 2 (els p.Saves), .row 1 (els p.Sums), .box [iv p.Me, iv p.Delay, iv p.Ahead, iv p.Seed, .ref 2, .ref 3, iv p.Base.Tick, iv p.Base.Seed, .ref 4, .ref 5, .ref 6, iv p.Now.Tick, iv p.Now.Seed, .ref 7, .ref 8, .ref 9, .ref 10, .ref 11, iv p.Fault.Tick, iv p.Fault.Player, iv p.Fault.Add, iv p.Rolls, iv p.Again], .row 1 (els q.Tracks), .row 1 (els q.Base.Level.Rows), .row 1 (els q.Base.Scores), .row 9 (els q.Base.Bodies), .row 1 (els q.Now.Level.Rows), .row 1 (els q.Now.Scores), .row 9 (els q.Now.Bodies), .row 1 (els q.Used), .row 2 (els q.Saves), .row 1 (els q.Sums), .box [iv q.Me, iv q.Delay, iv q.Ahead, iv q.Seed, .ref 13, .ref 14, iv q.Base.Tick, iv q.Base.Seed, .ref 15, .ref 16, .ref 17, iv q.Now.Tick, iv q.Now.Seed, .ref 18, .ref 19, .ref 20, .ref 21, .ref 22, iv q.Fault.Tick, iv q.Fault.Player, iv q.Fault.Add, iv q.Rolls, iv q.Again]]⟩ : St)) (W_go [0, 1, 2, 3, 4, 5, 6, 7, 8, 9, 10, 11, 12, 13, 14, 15, 16, 17, 18, 19, 20, 21, 22, 23] (by decide) rfl ((by kernel_rfl)) (.cons rfl (.cons rfl (.cons rfl (.cons rfl (.cons rfl (.cons rfl (.cons rfl (.nil))))))))) ?_
  refine M0 (q_call0 rfl rfl (hip) rfl) rfl rfl ?_
  refine AL.weak (st' := (⟨_, [(2, .o (.c (.ptr 0 0))), (3, .o (.c (.ptr 1 0))), (6, I y), (7, .o (.c (.ptr 12 0))), (8, .o (.c (.ptr 23 0))), (31, I y)], [.box ((Enc.e p).map (V1.rd [])), .box ((Enc.e q).map (V1.rd [])), .row 1 (els p.Tracks), .row 1 (els p.Base.Level.Rows), .row 1 (els p.Base.Scores), .row 9 (els p.Base.Bodies), .row 1 (els p.Now.Level.Rows), .row 1 (els p.Now.Scores), .row 9 (els p.Now.Bodies), .row 1 (els p.Used), .row 2 (els p.Saves), .row 1 (els p.Sums), .box [iv p.Me, iv p.Delay, iv p.Ahead, iv p.Seed, .ref 2, .ref 3, iv p.Base.Tick, iv p.Base.Seed, .ref 4, .ref 5, .ref 6, iv p.Now.Tick, iv p.Now.Seed, .ref 7, .ref 8, .ref 9, .ref 10, .ref 11, iv p.Fault.Tick, iv p.Fault.Player, iv p.Fault.Add, iv p.Rolls, iv p.Again], .row 1 (els q.Tracks), .row 1 (els q.Base.Level.Rows), .row 1 (els q.Base.Scores), .row 9 (els q.Base.Bodies), .row 1 (els q.Now.Level.Rows), .row 1 (els q.Now.Scores), .row 9 (els q.Now.Bodies), .row 1 (els q.Used), .row 2 (els q.Saves), .row 1 (els q.Sums), .box [iv q.Me, iv q.Delay, iv q.Ahead, iv q.Seed, .ref 13, .ref 14, iv q.Base.Tick, iv q.Base.Seed, .ref 15, .ref 16, .ref 17, iv q.Now.Tick, iv q.Now.Seed, .ref 18, .ref 19, .ref 20, .ref 21, .ref 22, iv q.Fault.Tick, iv q.Fault.Player, iv q.Fault.Add, iv q.Rolls, iv q.Again]]⟩ : St)) (W_go [0, 1, 2, 3, 4, 5, 6, 7, 8, 9, 10, 11, 12, 13, 14, 15, 16, 17, 18, 19, 20, 21, 22, 23] (by decide) rfl ((by kernel_rfl)) (.cons rfl (.cons rfl (.cons rfl (.cons rfl (.cons rfl (.cons rfl (.nil)))))))) ?_
  refine M0 (q_assignC rfl rfl rfl) rfl rfl ?_; refine L_nil ?_; refine T_n ?_; refine A_seq ?_; refine A_seq ?_; refine A_region ?_; refine M0 (q_moveC rfl rfl rfl) rfl rfl ?_
  refine M0 (q_moveC rfl rfl rfl) rfl rfl ?_; refine M0 (q_neqR rfl rfl rfl rfl) rfl rfl ?_; refine L_nil ?_; refine T_n ?_; refine A_ifF rfl ?_; refine A_skip ?_; refine T_n ?_; refine A_seq ?_
  refine A_seq ?_
  refine AWP.pre (st' := (⟨_, [(2, .o (.c (.ptr 0 0))), (3, .o (.c (.ptr 1 0))), (7, .o (.c (.ptr 12 0))), (8, .o (.c (.ptr 23 0)))], [.box ((Enc.e p).map (V1.rd [])), .box ((Enc.e q).map (V1.rd [])), .row 1 (els p.Tracks), .row 1 (els p.Base.Level.Rows), .row 1 (els p.Base.Scores), .row 9 (els p.Base.Bodies), .row 1 (els p.Now.Level.Rows), .row 1 (els p.Now.Scores), .row 9 (els p.Now.Bodies), .row 1 (els p.Used), .row 2 (els p.Saves), .row 1 (els p.Sums), .box [iv p.Me, iv p.Delay, iv p.Ahead, iv p.Seed, .ref 2, .ref 3, iv p.Base.Tick, iv p.Base.Seed, .ref 4, .ref 5, .ref 6, iv p.Now.Tick, iv p.Now.Seed, .ref 7, .ref 8, .ref 9, .ref 10, .ref 11, iv p.Fault.Tick, iv p.Fault.Player, iv p.Fault.Add, iv p.Rolls, iv p.Again], .row 1 (els q.Tracks), .row 1 (els q.Base.Level.Rows), .row 1 (els q.Base.Scores), .row 9 (els q.Base.Bodies), .row 1 (els q.Now.Level.Rows), .row 1 (els q.Now.Scores), .row 9 (els q.Now.Bodies), .row 1 (els q.Used), .row 2 (els q.Saves), .row 1 (els q.Sums), .box [iv q.Me, iv q.Delay, iv q.Ahead, iv q.Seed, .ref 13, .ref 14, iv q.Base.Tick, iv q.Base.Seed, .ref 15, .ref 16, .ref 17, iv q.Now.Tick, iv q.Now.Seed, .ref 18, .ref 19, .ref 20, .ref 21, .ref 22, iv q.Fault.Tick, iv q.Fault.Player, iv q.Fault.Add, iv q.Rolls, iv q.Again]]⟩ : St)) ?_ (W_go [0, 1, 2, 3, 4, 5, 6, 7, 8, 9, 10, 11, 12, 13, 14, 15, 16, 17, 18, 19, 20, 21, 22, 23] (by decide) rfl ((by kernel_rfl)) (.cons rfl (.cons rfl (.cons rfl (.cons rfl (.nil))))))
  refine A_draw [[], [], [1], [0, 1, 2], [0, 1, 2, 3]] [[], [], [36], [35, 36, 37], [35, 36, 37, 38]] [[36, 37], [35], [35], [], []] rfl ?_
  refine DR.step (q_ldN rfl rfl rfl rfl rfl rfl) rfl rfl ?_; refine DR.step (q_ldN rfl rfl rfl rfl rfl rfl) rfl rfl ?_; refine DR.step (q_call rfl rfl (ht_p) rfl rfl rfl) rfl rfl ?_
  refine DR.step (q_call0 rfl rfl (hq_p) rfl) rfl rfl ?_; refine DR.step (q_not rfl rfl rfl) rfl rfl ?_; refine DR.stop (by kernel_rfl) (by kernel_rfl) ?_
  refine L_nil ?_; refine T_n ?_
  refine AWP.pre (st' := (⟨_, [(3, .o (.c (.ptr 0 0))), (8, .o (.c (.ptr 11 0))), (39, B false)], [.box ((Enc.e q).map (V1.rd [])), .row 1 (els q.Tracks), .row 1 (els q.Base.Level.Rows), .row 1 (els q.Base.Scores), .row 9 (els q.Base.Bodies), .row 1 (els q.Now.Level.Rows), .row 1 (els q.Now.Scores), .row 9 (els q.Now.Bodies), .row 1 (els q.Used), .row 2 (els q.Saves), .row 1 (els q.Sums), .box [iv q.Me, iv q.Delay, iv q.Ahead, iv q.Seed, .ref 1, .ref 2, iv q.Base.Tick, iv q.Base.Seed, .ref 3, .ref 4, .ref 5, iv q.Now.Tick, iv q.Now.Seed, .ref 6, .ref 7, .ref 8, .ref 9, .ref 10, iv q.Fault.Tick, iv q.Fault.Player, iv q.Fault.Add, iv q.Rolls, iv q.Again]]⟩ : St)) ?_ (W_go [1, 13, 14, 15, 16, 17, 18, 19, 20, 21, 22, 23] (by decide) rfl ((by kernel_rfl)) (.cons rfl (.cons rfl (.cons rfl (.nil)))))
  refine A_ifF rfl ?_; refine A_skip ?_; refine T_n ?_; refine A_seq ?_; refine A_seq ?_
  refine AWP.pre (st' := (⟨_, [(3, .o (.c (.ptr 0 0))), (8, .o (.c (.ptr 11 0)))], [.box ((Enc.e q).map (V1.rd [])), .row 1 (els q.Tracks), .row 1 (els q.Base.Level.Rows), .row 1 (els q.Base.Scores), .row 9 (els q.Base.Bodies), .row 1 (els q.Now.Level.Rows), .row 1 (els q.Now.Scores), .row 9 (els q.Now.Bodies), .row 1 (els q.Used), .row 2 (els q.Saves), .row 1 (els q.Sums), .box [iv q.Me, iv q.Delay, iv q.Ahead, iv q.Seed, .ref 1, .ref 2, iv q.Base.Tick, iv q.Base.Seed, .ref 3, .ref 4, .ref 5, iv q.Now.Tick, iv q.Now.Seed, .ref 6, .ref 7, .ref 8, .ref 9, .ref 10, iv q.Fault.Tick, iv q.Fault.Player, iv q.Fault.Add, iv q.Rolls, iv q.Again]]⟩ : St)) ?_ (W_go [0, 1, 2, 3, 4, 5, 6, 7, 8, 9, 10, 11] (by decide) rfl ((by kernel_rfl)) (.cons rfl (.cons rfl (.nil))))
  refine A_draw [[], [], [1], [0, 1, 2], [0, 1, 2, 3]] [[], [], [41], [40, 41, 42], [40, 41, 42, 43]] [[41, 42], [40], [40], [], []] rfl ?_
  refine DR.step (q_ldN rfl rfl rfl rfl rfl rfl) rfl rfl ?_; refine DR.step (q_ldN rfl rfl rfl rfl rfl rfl) rfl rfl ?_; refine DR.step (q_call rfl rfl (ht_q) rfl rfl rfl) rfl rfl ?_
  refine DR.step (q_call0 rfl rfl (hq_q) rfl) rfl rfl ?_; refine DR.step (q_not rfl rfl rfl) rfl rfl ?_; refine DR.stop (by kernel_rfl) (by kernel_rfl) ?_
  refine L_nil ?_; refine T_n ?_
  refine AWP.pre (st' := (⟨_, [(44, B false)], []⟩ : St)) ?_ (W_go [] (by decide) rfl (rfl) (.cons rfl (.nil)))
  refine A_ifF rfl ?_; refine A_skip ?_; refine T_n ?_; refine A_seq ?_; refine A_region ?_; refine M0 (q_assignC rfl rfl rfl) rfl rfl ?_; refine L_nil ?_; refine T_n ?_; refine A_ret ?_
  refine F_r ?_
  exact E_tmp rfl rfl (W_end [] (by decide) rfl rfl rfl)
end Go.Proofs.Ytbpebmolbdplmaa
end

section
set_option linter.unusedVariables false
namespace Go.Proofs.Ytbpebmolbdplmaa
open Go.ChangeShapes Go.WideShapes Go.ChangeAt Go.RowKit

def RL (w : World) (ts : List T) (cs : List Value) : Prop := ∀ (j : Nat) (t : T) (u : Value), ts[j]? = some t → cs[j]? = some u → RO w (fun _ => True) t u
theorem RL.nil {w : World} {cs : List Value} : RL w [] cs := fun _ _ _ h => by simp at h
theorem RL.app {w : World} {ts us : List T} {cs : List Value} {o n : Nat} (h1 : RL w ts ((cs.drop o).take n)) (hn : ts.length = n) (h2 : RL w us (cs.drop (o + n))) : RL w (ts ++ us) (cs.drop o) := fun j t u h3 h4 => by
  rcases Nat.lt_or_ge j ts.length with hj | hj
  · rw [List.getElem?_append_left hj] at h3
    exact h1 j t u h3 (by rw [List.getElem?_take, if_pos (by omega)]; exact h4)
  · rw [List.getElem?_append_right hj] at h3
    refine h2 (j - ts.length) t u h3 ?_
    rw [List.getElem?_drop] at h4 ⊢
    rw [← h4]
    congr 1
    omega
theorem reads_fld {P : Program} {t tt : TypeId} {fs : Array Field} {f : Field} {α : Type} [Enc α] {H : Type} {enc : TypeId × Value → H} {w : World} {spare : Nat → Bool} {held : Bool} {fuel : Nat} {cs : List Value} {x : DataW H × List MemPlace}
    (ht : P.underlying t = some (.struct fs)) (h : DataW.trod enc P w 0 spare held fuel t cs = some x) (i : Nat) (hf : fs[i]? = some f) (hty : f.type = tt) [hα : RdOf P tt α] {o : Nat} (ho : f.offset = o) :
    ∃ y : α, Enc.gd y ∧ RL w (Enc.e y) ((cs.drop o).take (Enc.k α)) := by
  obtain ⟨xs, n, _, _, hl, hlen, hfs⟩ := DataW.trod_struct ht h
  have h1 := hfs i f hf
  have hi : i < fs.size := by
    rcases Nat.lt_or_ge i fs.size with h2 | h2
    · exact h2
    · rw [Array.getElem?_eq_none h2] at hf; cases hf
  rw [List.getElem?_eq_getElem (by omega), hty, ho, hα.size] at h1
  obtain ⟨y, hg, hr⟩ := hα.of h1
  exact ⟨y, hg, hr.2⟩
theorem reads_len {P : Program} {t : TypeId} {fs : Array Field} {H : Type} {enc : TypeId × Value → H} {w : World} {spare : Nat → Bool} {held : Bool} {fuel : Nat} {cs : List Value} {x : DataW H × List MemPlace}
    (ht : P.underlying t = some (.struct fs)) (h : DataW.trod enc P w 0 spare held fuel t cs = some x) : cs.length = P.cellsOf t := by
  obtain ⟨xs, n, _, _, hl, _⟩ := DataW.trod_struct ht h
  exact hl

instance : RdOf Try.prog 3 Int := rdOf_int Try.underlying3 (by kernel_rfl)
instance : RdOf Try.prog 9 ByteArray := rdOf_string Try.underlying9 (by kernel_rfl)
instance : RdOf Try.prog 26 (List Int) := rdOf_slice Try.underlying26 (by kernel_rfl)
instance : RdOf Try.prog 23 (List ByteArray) := rdOf_slice Try.underlying23 (by kernel_rfl)
instance : RdOf Try.prog 30 (List (List Int)) := rdOf_slice Try.underlying30 (by kernel_rfl)
instance : RdOf Try.prog 25 TLevel where
  size := by kernel_rfl
  of {H enc w spare held fuel cs x} h := by
    obtain ⟨y0, g0, r0⟩ := reads_fld (α := (List ByteArray)) (tt := 23) Try.underlying25 h 0 rfl rfl rfl
    refine ⟨⟨y0⟩, g0, ?_, ?_⟩
    · rw [reads_len Try.underlying25 h]; kernel_rfl
    · exact (RL.app (o := 0) (n := 1) r0 rfl (RL.nil) : RL w _ (cs.drop 0))
end Go.Proofs.Ytbpebmolbdplmaa
end

section
set_option linter.unusedVariables false
namespace Go.Proofs.Ytbpebmolbdplmaa
open Go.ChangeShapes Go.WideShapes Go.ChangeAt Go.RowKit

instance : RdOf Try.prog 184 TBody where
  size := by kernel_rfl
  of {H enc w spare held fuel cs x} h := by
    obtain ⟨y0, g0, r0⟩ := reads_fld (α := Int) (tt := 3) Try.underlying184 h 0 rfl rfl rfl
    obtain ⟨y1, g1, r1⟩ := reads_fld (α := Int) (tt := 3) Try.underlying184 h 1 rfl rfl rfl
    obtain ⟨y2, g2, r2⟩ := reads_fld (α := Int) (tt := 3) Try.underlying184 h 2 rfl rfl rfl
    obtain ⟨y3, g3, r3⟩ := reads_fld (α := Int) (tt := 3) Try.underlying184 h 3 rfl rfl rfl
    obtain ⟨y4, g4, r4⟩ := reads_fld (α := Int) (tt := 3) Try.underlying184 h 4 rfl rfl rfl
    obtain ⟨y5, g5, r5⟩ := reads_fld (α := Int) (tt := 3) Try.underlying184 h 5 rfl rfl rfl
    obtain ⟨y6, g6, r6⟩ := reads_fld (α := Int) (tt := 3) Try.underlying184 h 6 rfl rfl rfl
    obtain ⟨y7, g7, r7⟩ := reads_fld (α := Int) (tt := 3) Try.underlying184 h 7 rfl rfl rfl
    obtain ⟨y8, g8, r8⟩ := reads_fld (α := Int) (tt := 3) Try.underlying184 h 8 rfl rfl rfl
    refine ⟨⟨y0, y1, y2, y3, y4, y5, y6, y7, y8⟩, ⟨g0, g1, g2, g3, g4, g5, g6, g7, g8⟩, ?_, ?_⟩
    · rw [reads_len Try.underlying184 h]; kernel_rfl
    · exact (RL.app (o := 0) (n := 1) r0 rfl (RL.app (o := 1) (n := 1) r1 rfl (RL.app (o := 2) (n := 1) r2 rfl (RL.app (o := 3) (n := 1) r3 rfl (RL.app (o := 4) (n := 1) r4 rfl (RL.app (o := 5) (n := 1) r5 rfl (RL.app (o := 6) (n := 1) r6 rfl (RL.app (o := 7) (n := 1) r7 rfl (RL.app (o := 8) (n := 1) r8 rfl (RL.nil))))))))) : RL w _ (cs.drop 0))
instance : RdOf Try.prog 27 (List TBody) := rdOf_slice Try.underlying27 (by kernel_rfl)
instance : RdOf Try.prog 29 TWorld where
  size := by kernel_rfl
  of {H enc w spare held fuel cs x} h := by
    obtain ⟨y0, g0, r0⟩ := reads_fld (α := TLevel) (tt := 25) Try.underlying29 h 0 rfl rfl rfl
    obtain ⟨y1, g1, r1⟩ := reads_fld (α := Int) (tt := 3) Try.underlying29 h 1 rfl rfl rfl
    obtain ⟨y2, g2, r2⟩ := reads_fld (α := Int) (tt := 3) Try.underlying29 h 2 rfl rfl rfl
    obtain ⟨y3, g3, r3⟩ := reads_fld (α := (List Int)) (tt := 26) Try.underlying29 h 3 rfl rfl rfl
    obtain ⟨y4, g4, r4⟩ := reads_fld (α := (List TBody)) (tt := 27) Try.underlying29 h 4 rfl rfl rfl
    refine ⟨⟨y0, y1, y2, y3, y4⟩, ⟨g0, g1, g2, g3, g4⟩, ?_, ?_⟩
    · rw [reads_len Try.underlying29 h]; kernel_rfl
    · exact (RL.app (o := 0) (n := 1) r0 rfl (RL.app (o := 1) (n := 1) r1 rfl (RL.app (o := 2) (n := 1) r2 rfl (RL.app (o := 3) (n := 1) r3 rfl (RL.app (o := 4) (n := 1) r4 rfl (RL.nil))))) : RL w _ (cs.drop 0))
end Go.Proofs.Ytbpebmolbdplmaa
end

section
set_option linter.unusedVariables false
namespace Go.Proofs.Ytbpebmolbdplmaa
open Go.ChangeShapes Go.WideShapes Go.ChangeAt Go.RowKit

instance : RdOf Try.prog 126 TTrack where
  size := by kernel_rfl
  of {H enc w spare held fuel cs x} h := by
    obtain ⟨y0, g0, r0⟩ := reads_fld (α := (List Int)) (tt := 26) Try.underlying126 h 0 rfl rfl rfl
    refine ⟨⟨y0⟩, g0, ?_, ?_⟩
    · rw [reads_len Try.underlying126 h]; kernel_rfl
    · exact (RL.app (o := 0) (n := 1) r0 rfl (RL.nil) : RL w _ (cs.drop 0))
instance : RdOf Try.prog 22 (List TTrack) := rdOf_slice Try.underlying22 (by kernel_rfl)
instance : RdOf Try.prog 130 TSave where
  size := by kernel_rfl
  of {H enc w spare held fuel cs x} h := by
    obtain ⟨y0, g0, r0⟩ := reads_fld (α := Int) (tt := 3) Try.underlying130 h 0 rfl rfl rfl
    obtain ⟨y1, g1, r1⟩ := reads_fld (α := ByteArray) (tt := 9) Try.underlying130 h 1 rfl rfl rfl
    refine ⟨⟨y0, y1⟩, ⟨g0, g1⟩, ?_, ?_⟩
    · rw [reads_len Try.underlying130 h]; kernel_rfl
    · exact (RL.app (o := 0) (n := 1) r0 rfl (RL.app (o := 1) (n := 1) r1 rfl (RL.nil)) : RL w _ (cs.drop 0))
instance : RdOf Try.prog 31 (List TSave) := rdOf_slice Try.underlying31 (by kernel_rfl)
instance : RdOf Try.prog 33 TFault where
  size := by kernel_rfl
  of {H enc w spare held fuel cs x} h := by
    obtain ⟨y0, g0, r0⟩ := reads_fld (α := Int) (tt := 3) Try.underlying33 h 0 rfl rfl rfl
    obtain ⟨y1, g1, r1⟩ := reads_fld (α := Int) (tt := 3) Try.underlying33 h 1 rfl rfl rfl
    obtain ⟨y2, g2, r2⟩ := reads_fld (α := Int) (tt := 3) Try.underlying33 h 2 rfl rfl rfl
    refine ⟨⟨y0, y1, y2⟩, ⟨g0, g1, g2⟩, ?_, ?_⟩
    · rw [reads_len Try.underlying33 h]; kernel_rfl
    · exact (RL.app (o := 0) (n := 1) r0 rfl (RL.app (o := 1) (n := 1) r1 rfl (RL.app (o := 2) (n := 1) r2 rfl (RL.nil))) : RL w _ (cs.drop 0))
instance : RdOf Try.prog 51 TPacket where
  size := by kernel_rfl
  of {H enc w spare held fuel cs x} h := by
    obtain ⟨y0, g0, r0⟩ := reads_fld (α := Int) (tt := 3) Try.underlying51 h 0 rfl rfl rfl
    obtain ⟨y1, g1, r1⟩ := reads_fld (α := Int) (tt := 3) Try.underlying51 h 1 rfl rfl rfl
    obtain ⟨y2, g2, r2⟩ := reads_fld (α := Int) (tt := 3) Try.underlying51 h 2 rfl rfl rfl
    obtain ⟨y3, g3, r3⟩ := reads_fld (α := (List Int)) (tt := 26) Try.underlying51 h 3 rfl rfl rfl
    obtain ⟨y4, g4, r4⟩ := reads_fld (α := (List Int)) (tt := 26) Try.underlying51 h 4 rfl rfl rfl
    obtain ⟨y5, g5, r5⟩ := reads_fld (α := Int) (tt := 3) Try.underlying51 h 5 rfl rfl rfl
    obtain ⟨y6, g6, r6⟩ := reads_fld (α := Int) (tt := 3) Try.underlying51 h 6 rfl rfl rfl
    obtain ⟨y7, g7, r7⟩ := reads_fld (α := Int) (tt := 3) Try.underlying51 h 7 rfl rfl rfl
    obtain ⟨y8, g8, r8⟩ := reads_fld (α := Int) (tt := 3) Try.underlying51 h 8 rfl rfl rfl
    refine ⟨⟨y0, y1, y2, y3, y4, y5, y6, y7, y8⟩, ⟨g0, g1, g2, g3, g4, g5, g6, g7, g8⟩, ?_, ?_⟩
    · rw [reads_len Try.underlying51 h]; kernel_rfl
    · exact (RL.app (o := 0) (n := 1) r0 rfl (RL.app (o := 1) (n := 1) r1 rfl (RL.app (o := 2) (n := 1) r2 rfl (RL.app (o := 3) (n := 1) r3 rfl (RL.app (o := 4) (n := 1) r4 rfl (RL.app (o := 5) (n := 1) r5 rfl (RL.app (o := 6) (n := 1) r6 rfl (RL.app (o := 7) (n := 1) r7 rfl (RL.app (o := 8) (n := 1) r8 rfl (RL.nil))))))))) : RL w _ (cs.drop 0))
instance : RdOf Try.prog 35 TPeer where
  size := by kernel_rfl
  of {H enc w spare held fuel cs x} h := by
    obtain ⟨y0, g0, r0⟩ := reads_fld (α := Int) (tt := 3) Try.underlying35 h 0 rfl rfl rfl
    obtain ⟨y1, g1, r1⟩ := reads_fld (α := Int) (tt := 3) Try.underlying35 h 1 rfl rfl rfl
    obtain ⟨y2, g2, r2⟩ := reads_fld (α := Int) (tt := 3) Try.underlying35 h 2 rfl rfl rfl
    obtain ⟨y3, g3, r3⟩ := reads_fld (α := Int) (tt := 3) Try.underlying35 h 3 rfl rfl rfl
    obtain ⟨y4, g4, r4⟩ := reads_fld (α := (List TTrack)) (tt := 22) Try.underlying35 h 4 rfl rfl rfl
    obtain ⟨y5, g5, r5⟩ := reads_fld (α := TWorld) (tt := 29) Try.underlying35 h 5 rfl rfl rfl
    obtain ⟨y6, g6, r6⟩ := reads_fld (α := TWorld) (tt := 29) Try.underlying35 h 6 rfl rfl rfl
    obtain ⟨y7, g7, r7⟩ := reads_fld (α := (List (List Int))) (tt := 30) Try.underlying35 h 7 rfl rfl rfl
    obtain ⟨y8, g8, r8⟩ := reads_fld (α := (List TSave)) (tt := 31) Try.underlying35 h 8 rfl rfl rfl
    obtain ⟨y9, g9, r9⟩ := reads_fld (α := (List Int)) (tt := 26) Try.underlying35 h 9 rfl rfl rfl
    obtain ⟨y10, g10, r10⟩ := reads_fld (α := TFault) (tt := 33) Try.underlying35 h 10 rfl rfl rfl
    obtain ⟨y11, g11, r11⟩ := reads_fld (α := Int) (tt := 3) Try.underlying35 h 11 rfl rfl rfl
    obtain ⟨y12, g12, r12⟩ := reads_fld (α := Int) (tt := 3) Try.underlying35 h 12 rfl rfl rfl
    refine ⟨⟨y0, y1, y2, y3, y4, y5, y6, y7, y8, y9, y10, y11, y12⟩, ⟨g0, g1, g2, g3, g4, g5, g6, g7, g8, g9, g10, g11, g12⟩, ?_, ?_⟩
    · rw [reads_len Try.underlying35 h]; kernel_rfl
    · exact (RL.app (o := 0) (n := 1) r0 rfl (RL.app (o := 1) (n := 1) r1 rfl (RL.app (o := 2) (n := 1) r2 rfl (RL.app (o := 3) (n := 1) r3 rfl (RL.app (o := 4) (n := 1) r4 rfl (RL.app (o := 5) (n := 5) r5 rfl (RL.app (o := 10) (n := 5) r6 rfl (RL.app (o := 15) (n := 1) r7 rfl (RL.app (o := 16) (n := 1) r8 rfl (RL.app (o := 17) (n := 1) r9 rfl (RL.app (o := 18) (n := 3) r10 rfl (RL.app (o := 21) (n := 1) r11 rfl (RL.app (o := 22) (n := 1) r12 rfl (RL.nil))))))))))))) : RL w _ (cs.drop 0))
end Go.Proofs.Ytbpebmolbdplmaa
end
