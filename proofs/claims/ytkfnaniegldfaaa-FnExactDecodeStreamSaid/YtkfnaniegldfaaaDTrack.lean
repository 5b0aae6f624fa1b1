/-
  Runs of inputs as bytes: PackTrack, and the columns of rows, in the program and in the reference.
  Conditions: at most 400 rows of equal length.
-/
import Derived.Test.YtkfnaniegldfaaaDVar
set_option linter.unusedSimpArgs false
set_option linter.unusedVariables false
namespace Go.Proofs.Ytkfnaniegldfaaa
open Go.RowKit

def packRuns (xs : List Int) : List UInt8 := match xs with
  | [] => []
  | x :: r => encVar (x + 16 * ((r.takeWhile (· == x)).length + 1 : Nat)) ++ packRuns (r.drop (r.takeWhile (· == x)).length)
termination_by xs.length
decreasing_by simp; omega
theorem tw_len {xs : List Int} {x : Int} : ∀ {n : Nat}, (∀ j, j < n → xs[j]? = some x) → (∀ y, xs[n]? = some y → y ≠ x) → (xs.takeWhile (· == x)).length = n := by
  induction xs with
  | nil =>
    intro n h1 h2
    cases n with
    | zero => rfl
    | succ n => have := h1 0 (by omega); simp at this
  | cons a xs ih =>
    intro n h1 h2
    cases n with
    | zero =>
      have := h2 a (by simp)
      rw [List.takeWhile_cons]
      simp [this]
    | succ n =>
      have h0 := h1 0 (by omega)
      simp at h0
      subst h0
      rw [List.takeWhile_cons]
      simp
      exact ih (fun j hj => by have := h1 (j + 1) (by omega); simpa using this) fun y hy => h2 y (by simpa using hy)
theorem runs_step {xs : List Int} {s i : Nat} (hs : s < i) (hl : s < xs.length) (hi : i ≤ xs.length) (hall : ∀ j, s ≤ j → j < i → xs[j]? = some xs[s]) (hstop : ∀ y, xs[i]? = some y → y ≠ xs[s]) : packRuns (xs.drop s) = encVar (xs[s] + 16 * ((i : Int) - (s : Int))) ++ packRuns (xs.drop i) := by
  rw [List.drop_eq_getElem_cons hl, packRuns]
  have h1 : ((xs.drop (s + 1)).takeWhile (· == xs[s])).length = i - (s + 1) := tw_len (fun j hj => by rw [List.getElem?_drop]; exact hall _ (by omega) (by omega)) fun y hy => by rw [List.getElem?_drop, show s + 1 + (i - (s + 1)) = i by omega] at hy; exact hstop y hy
  rw [h1, List.drop_drop, show s + 1 + (i - (s + 1)) = i by omega, show ((i - (s + 1) + 1 : Nat) : Int) = (i : Int) - s by omega]
theorem run_next {xs : List Int} {i j : Nat} {x : Int} (h : ∀ q, i ≤ q → q < j → xs[q]? = some x) (hj : j < xs.length) (he : xs[j] = x) : ∀ q, i ≤ q → q < j + 1 → xs[q]? = some x := fun q h1 h2 => by
  rcases Nat.lt_or_ge q j with h3 | h3
  · exact h q h1 h3
  · have : q = j := by omega
    subst this
    rw [List.getElem?_eq_getElem hj, he]
def packTrack (xs : List Int) : ByteArray := if xs.length ≤ 400 ∧ inOk xs = true then bs (packRuns xs) else bs []
theorem packRuns_len (n : Nat) : ∀ xs : List Int, xs.length ≤ n → (packRuns xs).length ≤ 6 * n := by
  induction n with
  | zero => intro xs h; have := List.eq_nil_of_length_eq_zero (by omega : xs.length = 0); subst this; simp [packRuns]
  | succ n ih =>
    intro xs h
    cases xs with
    | nil => simp [packRuns]
    | cons x r =>
      rw [packRuns, List.length_append]
      have h1 := encVar_len (x + 16 * ((r.takeWhile (· == x)).length + 1 : Nat))
      have h2 := ih (r.drop (r.takeWhile (· == x)).length) (by simp at h ⊢; omega)
      omega
theorem packTrack_size (xs : List Int) : (packTrack xs).size ≤ 2400 := by
  unfold packTrack
  split
  · rename_i h
    rw [bs_size]
    have := packRuns_len 400 xs h.1
    omega
  · rw [bs_size]; simp
theorem inOk_at {xs : List Int} (h : inOk xs = true) {k : Nat} (hk : k < xs.length) : 0 ≤ xs[k] ∧ xs[k] ≤ 15 := inR_iff.1 (List.all_eq_true.1 h _ (List.getElem_mem hk))

set_option maxHeartbeats 8000000 in
theorem S_inputsOk (xs : List Int) (hn : Enc.gd xs) : Con Try.prog 109 [] [al xs] [] (B (inOk xs)) := by
  have hn1 := hn.1
  have hlx := els_len xs
  refine Con.of Try.func109 rfl Try.ntmps109 rfl (fun E => ?_)
  refine A_seq ?_; refine A_region ?_; refine M0 (q_assignC rfl rfl rfl) rfl rfl ?_; refine L_nil ?_; refine T_n ?_; refine A_seq ?_; refine A_seq ?_; refine A_region ?_
  refine M0 (q_assignC rfl rfl rfl) rfl rfl ?_; refine L_nil ?_; refine T_n ?_; refine A_block ?_
  refine A_loop (fun m st => ∃ k : Nat, k + m = xs.length ∧ ((xs.take k).all (fun n => inR n 0 15) = true) ∧ st = (fun k : Nat => (⟨_, [(0, L xs), (3, I k)], []⟩ : St)) k) (xs.length) ⟨(fun k : Nat => (⟨_, [(0, L xs), (3, I k)], []⟩ : St)) 0, W_go [] (by decide) rfl (rfl) (.cons rfl (.cons rfl (.nil))), 0, by omega, by simp, rfl⟩ ?_
  rintro m_A _ ⟨k, hk_A, hp_A, rfl⟩
  refine A_seq ?_; refine A_seq ?_; refine A_region ?_; refine M0 (q_moveC rfl rfl rfl) rfl rfl ?_; refine M0 (q_moveC rfl rfl rfl) rfl rfl ?_; refine M0 (q_len rfl rfl rfl) rfl rfl ?_
  refine M0 (q_lss rfl rfl rfl rfl) rfl rfl ?_; refine L_nil ?_; refine T_n ?_
  refine A_cond rfl (fun h => ?_) (fun h => ?_)
  · have h3 : k < xs.length := by have := of_decide_eq_true h; omega
    have hat := els_at h3
    refine A_skip ?_; refine T_n ?_; refine A_seq ?_; refine A_block ?_; refine A_seq ?_; refine A_region ?_; refine M0 (q_moveC rfl rfl rfl) rfl rfl ?_; refine M0 (q_moveC rfl rfl rfl) rfl rfl ?_
    refine M0 (q_at rfl rfl rfl rfl (by omega) (by assumption) rfl) rfl rfl ?_; refine M0 (q_lr1 rfl rfl rfl rfl) rfl rfl ?_; refine M0 (q_call0 rfl rfl (S_in xs[k] 0 15) rfl) rfl rfl ?_
    refine M0 (q_not rfl rfl rfl) rfl rfl ?_; refine L_nil ?_; refine T_n ?_
    refine A_cond rfl (fun h4 => ?_) (fun h4 => ?_)
    · refine A_seq ?_; refine A_region ?_; refine M0 (q_assignC rfl rfl rfl) rfl rfl ?_; refine L_nil ?_; refine T_n ?_; refine A_ret ?_; refine B_r ?_; refine T_r ?_; refine T_r ?_; refine B_r ?_
      refine T_r ?_; refine F_r ?_
      exact E_tmp rfl rfl (W_end [] (by decide) rfl rfl (B_eq (all_no h3 (by simpa using h4)).symm))
    · refine A_skip ?_; refine B_n ?_; refine T_n ?_; refine A_region ?_; refine M0 (q_moveC rfl rfl rfl) rfl rfl ?_; refine M0 (q_add rfl rfl rfl rfl (by omega)) rfl rfl ?_
      refine M0 (q_assignC rfl rfl rfl) rfl rfl ?_; refine L_nil ?_; refine T_n ?_
      exact ⟨xs.length - (k + 1), by omega, (fun k : Nat => (⟨_, [(0, L xs), (3, I k)], []⟩ : St)) (k + 1), W_go [] (by decide) rfl (rfl) (.cons rfl (.cons rfl (.nil))), k + 1, by omega, all_next hp_A h3 (by simpa using h4), rfl⟩
  · have h3 : ¬ ((k : Int) < (els xs).length) := of_decide_eq_false h
    refine A_exit ?_; refine T_x ?_; refine T_x ?_; refine B_xs ?_; refine T_n ?_; refine A_seq ?_; refine A_region ?_; refine M0 (q_assignC rfl rfl rfl) rfl rfl ?_; refine L_nil ?_; refine T_n ?_
    refine A_ret ?_; refine F_r ?_
    exact E_tmp rfl rfl (W_end [] (by decide) rfl rfl (B_eq (all_end hp_A (by omega)).symm))
set_option maxHeartbeats 8000000 in
theorem I_PackTrack (xs : List Int) (hn : Enc.gd xs) : Con Try.prog 115 [] [al xs] [] (S (packTrack xs)) := by
  have hlx := els_len xs
  refine Con.of Try.func115 rfl Try.ntmps115 rfl (fun E => ?_)
  refine A_seq ?_; refine A_region ?_; refine M0 (q_assignC rfl rfl rfl) rfl rfl ?_; refine L_nil ?_; refine T_n ?_; refine A_seq ?_; refine A_seq ?_; refine A_region ?_
  refine M0 (q_moveC rfl rfl rfl) rfl rfl ?_; refine M0 (q_len rfl rfl rfl) rfl rfl ?_; refine M0 (q_gtr rfl rfl rfl rfl) rfl rfl ?_; refine M0 (q_moveC rfl rfl rfl) rfl rfl ?_
  refine M0 (Qt.grdF rfl rfl rfl .stop (fun hgrd => q_moveC rfl rfl rfl)) rfl rfl ?_
  refine M0 (Qt.grdF rfl rfl rfl (.hit .stop) (fun hgrd => q_call0 rfl rfl (I_inputsOk xs hn) rfl)) rfl rfl ?_
  refine M0 (Qt.grdF rfl rfl rfl (.hit (.hit .stop)) (fun hgrd => q_not rfl rfl rfl)) rfl rfl ?_; refine M0 (q_or rfl rfl rfl rfl) rfl rfl ?_; refine L_nil ?_; refine T_n ?_
  refine A_cond rfl (fun h => ?_) (fun h => ?_)
  · rw [hlx] at h
    refine A_seq ?_; refine A_region ?_; refine M0 (q_assignC rfl rfl rfl) rfl rfl ?_; refine L_nil ?_; refine T_n ?_; refine A_ret ?_; refine T_r ?_; refine F_r ?_
    exact E_tmp rfl rfl (W_end [] (by decide) rfl rfl (S_eq (by rw [packTrack, if_neg (by simp only [Bool.or_eq_true, decide_eq_true_eq, Bool.not_eq_true'] at h; rintro ⟨h1, h2⟩; rcases h with h | h <;> first | omega | simp [h2] at h)])))
  rw [hlx] at h
  have h : xs.length ≤ 400 ∧ inOk xs = true := by
    simp only [Bool.or_eq_false_iff, decide_eq_false_iff_not, Bool.not_eq_false'] at h
    exact ⟨by omega, h.2⟩
  rw [packTrack, if_pos h]
  refine A_skip ?_; refine T_n ?_; refine A_seq ?_; refine A_region ?_; refine M0 (q_assignC rfl rfl rfl) rfl rfl ?_; refine L_nil ?_; refine T_n ?_; refine A_seq ?_; refine A_seq ?_
  refine A_region ?_; refine M0 (q_assignC rfl rfl rfl) rfl rfl ?_; refine L_nil ?_; refine T_n ?_; refine A_block ?_
  refine AWP.pre ?_ (W_nil 3 1 rfl)
  refine A_loop (fun m__ st => ∃ (i : Nat) (acc : List UInt8), xs.length - i = m__ ∧ (acc ++ packRuns (xs.drop i) = packRuns xs ∧ i ≤ xs.length ∧ acc.length ≤ 6 * i) ∧ st = (fun (i : Nat) (acc : List UInt8) => (⟨_, [(0, L xs), (3, .o (.c (.ref 0))), (4, I i)], [.row 1 (bE acc)]⟩ : St)) (i) (acc)) ((fun (i : Nat) (acc : List UInt8) => xs.length - i) (0) ([])) ⟨(fun (i : Nat) (acc : List UInt8) => (⟨_, [(0, L xs), (3, .o (.c (.ref 0))), (4, I i)], [.row 1 (bE acc)]⟩ : St)) (0) ([]), W_go [0] (by decide) rfl (rfl) (.cons rfl (.cons rfl (.cons rfl (.nil)))), 0, [], rfl, by simp, rfl⟩ ?_
  rintro m_A _ ⟨i, acc, hk_A, hp_A, rfl⟩
  refine A_seq ?_; refine A_seq ?_; refine A_region ?_; refine M0 (q_moveC rfl rfl rfl) rfl rfl ?_; refine M0 (q_moveC rfl rfl rfl) rfl rfl ?_; refine M0 (q_len rfl rfl rfl) rfl rfl ?_
  refine M0 (q_lss rfl rfl rfl rfl) rfl rfl ?_; refine L_nil ?_; refine T_n ?_
  refine A_cond rfl (fun h5 => ?_) (fun h5 => ?_)
  · have h5 : i < xs.length := by have := of_decide_eq_true h5; omega
    obtain ⟨hp1, hp2, hp3⟩ := hp_A
    have hb := bE_len acc
    have hat := els_at h5
    have hx := inOk_at h.2 h5
    refine A_skip ?_; refine T_n ?_; refine A_block ?_; refine A_seq ?_; refine A_region ?_; refine M0 (q_moveC rfl rfl rfl) rfl rfl ?_; refine M0 (q_assignC rfl rfl rfl) rfl rfl ?_; refine L_nil ?_
    refine T_n ?_; refine A_seq ?_; refine A_block ?_
    refine A_loop (fun m__ st => ∃ (j : Nat), xs.length - j = m__ ∧ (i ≤ j ∧ j ≤ xs.length ∧ (∀ q, i ≤ q → q < j → xs[q]? = some xs[i])) ∧ st = (fun (j : Nat) => (⟨_, [(0, L xs), (3, .o (.c (.ref 0))), (4, I j), (5, I i)], [.row 1 (bE acc)]⟩ : St)) (j)) ((fun (j : Nat) => xs.length - j) (i)) ⟨(fun (j : Nat) => (⟨_, [(0, L xs), (3, .o (.c (.ref 0))), (4, I j), (5, I i)], [.row 1 (bE acc)]⟩ : St)) (i), W_go [0] (by decide) rfl (rfl) (.cons rfl (.cons rfl (.cons rfl (.cons rfl (.nil))))), i, rfl, ⟨Nat.le_refl _, by omega, fun q h1 h2 => by omega⟩, rfl⟩ ?_
    rintro m_D _ ⟨j, hk_D, hp_D, rfl⟩
    obtain ⟨hd1, hd2, hd3⟩ := hp_D
    have hij : i < j → xs.length - j < xs.length - i := fun h => by omega
    by_cases hj : j < xs.length
    · have hat2 := els_at hj
      have f1 : decide ((j : Int) < ((els xs).length : Int)) = true := decide_eq_true (by omega)
      by_cases he : xs[j] = xs[i]
      · have f2 : decide (xs[j] = xs[i]) = true := decide_eq_true he
        refine A_seq ?_; refine A_seq ?_
        refine A_draw [[], [], [1], [0, 1, 2], [0, 1, 2, 3], [0, 1, 2, 3, 4], [0, 1, 2, 3, 4], [0, 1, 2, 3, 4, 5, 6], [0, 1, 2, 3, 4, 5, 6, 7], [0, 1, 2, 3, 4], [0, 1, 2, 3, 4], [0, 1, 2, 3, 4, 9, 10], [0, 1, 2, 3, 4, 9, 10, 11], [0, 1, 2, 3, 4, 5, 6, 7, 8, 9, 10, 11, 12], [0, 1, 2, 3, 4, 5, 6, 7, 8, 9, 10, 11, 12, 13]] [[], [], [20], [19, 20, 21], [19, 20, 21, 22], [19, 20, 21, 22, 23], [19, 20, 21, 22, 23], [19, 20, 21, 22, 23, 24, 25], [19, 20, 21, 22, 23, 24, 25, 26], [19, 20, 21, 22, 23], [19, 20, 21, 22, 23], [19, 20, 21, 22, 23, 28, 29], [19, 20, 21, 22, 23, 28, 29, 30], [19, 20, 21, 22, 23, 24, 25, 26, 27, 28, 29, 30, 31], [19, 20, 21, 22, 23, 24, 25, 26, 27, 28, 29, 30, 31, 32]] [[20, 21], [19], [19], [], [], [25, 28, 29, 30, 31], [24, 28, 29, 30, 31], [28, 29, 30, 31], [28, 29, 30, 31], [24, 25, 26, 27, 29], [24, 25, 26, 27, 28], [24, 25, 26, 27], [24, 25, 26, 27], [], []] rfl ?_
        refine DR.step (q_moveC rfl rfl rfl) rfl rfl ?_; refine DR.step (q_moveC rfl rfl rfl) rfl rfl ?_; refine DR.step (q_len rfl rfl rfl) rfl rfl ?_
        refine DR.step (q_lssK rfl rfl rfl rfl (by assumption)) rfl rfl ?_; refine DR.step (q_moveC rfl rfl rfl) rfl rfl ?_
        refine DR.step (Qt.yes rfl rfl rfl (q_moveC rfl rfl rfl)) rfl rfl ?_; refine DR.step (Qt.yes rfl rfl rfl (q_moveC rfl rfl rfl)) rfl rfl ?_
        refine DR.step (Qt.yes rfl rfl rfl (q_at rfl rfl rfl rfl (by omega) (by assumption) rfl)) rfl rfl ?_; refine DR.step (Qt.yes rfl rfl rfl (q_lr1 rfl rfl rfl rfl)) rfl rfl ?_
        refine DR.step (Qt.yes rfl rfl rfl (q_moveC rfl rfl rfl)) rfl rfl ?_; refine DR.step (Qt.yes rfl rfl rfl (q_moveC rfl rfl rfl)) rfl rfl ?_
        refine DR.step (Qt.yes rfl rfl rfl (q_at rfl rfl rfl rfl (by omega) (by assumption) rfl)) rfl rfl ?_; refine DR.step (Qt.yes rfl rfl rfl (q_lr1 rfl rfl rfl rfl)) rfl rfl ?_
        refine DR.step (Qt.yes rfl rfl rfl (q_eqlK rfl rfl rfl rfl (by assumption))) rfl rfl ?_; refine DR.step (q_pickT rfl rfl rfl rfl) rfl rfl ?_
        refine DR.stop (by kernel_rfl) (by kernel_rfl) ?_
        refine L_nil ?_; refine T_n ?_; refine A_ifT rfl ?_; refine A_skip ?_; refine T_n ?_; refine A_block ?_; refine A_region ?_; refine M0 (q_moveC rfl rfl rfl) rfl rfl ?_
        refine M0 (q_add rfl rfl rfl rfl (by omega)) rfl rfl ?_; refine M0 (q_assignC rfl rfl rfl) rfl rfl ?_; refine L_nil ?_; refine B_n ?_; refine T_n ?_
        refine ⟨xs.length - (j + 1), (by omega), (fun (j : Nat) => (⟨_, [(0, L xs), (3, .o (.c (.ref 0))), (4, I j), (5, I i)], [.row 1 (bE acc)]⟩ : St)) (j + 1), W_go [0] (by decide) rfl (rfl) (.cons rfl (.cons rfl (.cons rfl (.cons rfl (.nil))))), j + 1, rfl, ⟨by omega, by omega, fun q h1 h2 => run_next hd3 hj he q h1 h2⟩, rfl⟩
      · have f2 : decide (xs[j] = xs[i]) = false := decide_eq_false he
        have hlt : i < j := by
          rcases Nat.lt_or_ge i j with h1 | h1
          · exact h1
          · exact absurd (by congr 1 <;> omega) he
        have hst := runs_step hlt h5 hd2 hd3 (fun y hy => by rw [List.getElem?_eq_getElem hj] at hy; cases hy; exact he)
        have hb2 := bs_size (encVar (xs[i] + 16 * ((j : Int) - (i : Int))))
        have hb3 := encVar_len (xs[i] + 16 * ((j : Int) - (i : Int)))
        refine A_seq ?_; refine A_seq ?_
        refine A_draw [[], [], [1], [0, 1, 2], [0, 1, 2, 3], [0, 1, 2, 3, 4], [0, 1, 2, 3, 4], [0, 1, 2, 3, 4, 5, 6], [0, 1, 2, 3, 4, 5, 6, 7], [0, 1, 2, 3, 4], [0, 1, 2, 3, 4], [0, 1, 2, 3, 4, 9, 10], [0, 1, 2, 3, 4, 9, 10, 11], [0, 1, 2, 3, 4, 5, 6, 7, 8, 9, 10, 11, 12], [0, 1, 2, 3, 4, 5, 6, 7, 8, 9, 10, 11, 12, 13]] [[], [], [20], [19, 20, 21], [19, 20, 21, 22], [19, 20, 21, 22, 23], [19, 20, 21, 22, 23], [19, 20, 21, 22, 23, 24, 25], [19, 20, 21, 22, 23, 24, 25, 26], [19, 20, 21, 22, 23], [19, 20, 21, 22, 23], [19, 20, 21, 22, 23, 28, 29], [19, 20, 21, 22, 23, 28, 29, 30], [19, 20, 21, 22, 23, 24, 25, 26, 27, 28, 29, 30, 31], [19, 20, 21, 22, 23, 24, 25, 26, 27, 28, 29, 30, 31, 32]] [[20, 21], [19], [19], [], [], [25, 28, 29, 30, 31], [24, 28, 29, 30, 31], [28, 29, 30, 31], [28, 29, 30, 31], [24, 25, 26, 27, 29], [24, 25, 26, 27, 28], [24, 25, 26, 27], [24, 25, 26, 27], [], []] rfl ?_
        refine DR.step (q_moveC rfl rfl rfl) rfl rfl ?_; refine DR.step (q_moveC rfl rfl rfl) rfl rfl ?_; refine DR.step (q_len rfl rfl rfl) rfl rfl ?_
        refine DR.step (q_lssK rfl rfl rfl rfl (by assumption)) rfl rfl ?_; refine DR.step (q_moveC rfl rfl rfl) rfl rfl ?_
        refine DR.step (Qt.yes rfl rfl rfl (q_moveC rfl rfl rfl)) rfl rfl ?_; refine DR.step (Qt.yes rfl rfl rfl (q_moveC rfl rfl rfl)) rfl rfl ?_
        refine DR.step (Qt.yes rfl rfl rfl (q_at rfl rfl rfl rfl (by omega) (by assumption) rfl)) rfl rfl ?_; refine DR.step (Qt.yes rfl rfl rfl (q_lr1 rfl rfl rfl rfl)) rfl rfl ?_
        refine DR.step (Qt.yes rfl rfl rfl (q_moveC rfl rfl rfl)) rfl rfl ?_; refine DR.step (Qt.yes rfl rfl rfl (q_moveC rfl rfl rfl)) rfl rfl ?_
        refine DR.step (Qt.yes rfl rfl rfl (q_at rfl rfl rfl rfl (by omega) (by assumption) rfl)) rfl rfl ?_; refine DR.step (Qt.yes rfl rfl rfl (q_lr1 rfl rfl rfl rfl)) rfl rfl ?_
        refine DR.step (Qt.yes rfl rfl rfl (q_eqlK rfl rfl rfl rfl (by assumption))) rfl rfl ?_; refine DR.step (q_pickT rfl rfl rfl rfl) rfl rfl ?_
        refine DR.stop (by kernel_rfl) (by kernel_rfl) ?_
        refine L_nil ?_; refine T_n ?_; refine A_ifF rfl ?_; refine A_exit ?_; refine T_x ?_; refine T_x ?_; refine B_xs ?_; refine T_n ?_; refine A_region ?_; refine M0 (q_moveC rfl rfl rfl) rfl rfl ?_
        refine M0 (q_moveC rfl rfl rfl) rfl rfl ?_; refine M0 (q_moveC rfl rfl rfl) rfl rfl ?_; refine M0 (q_at rfl rfl rfl rfl (by omega) (by assumption) rfl) rfl rfl ?_
        refine M0 (q_lr1 rfl rfl rfl rfl) rfl rfl ?_; refine M0 (q_moveC rfl rfl rfl) rfl rfl ?_; refine M0 (q_moveC rfl rfl rfl) rfl rfl ?_
        refine M0 (q_sub rfl rfl rfl rfl (by omega)) rfl rfl ?_; refine M0 (q_mul rfl rfl rfl rfl (by omega)) rfl rfl ?_; refine M0 (q_add rfl rfl rfl rfl (by omega)) rfl rfl ?_
        refine M0 (q_call0 rfl rfl (I_EncodeVarint (xs[i] + 16 * ((j : Int) - (i : Int)))) rfl) rfl rfl ?_; refine M_appstr rfl rfl rfl rfl rfl rfl rfl (by omega) (by omega) ?_
        refine M0 (q_assignC rfl rfl rfl) rfl rfl ?_; refine L_nil ?_; refine B_n ?_; refine T_n ?_
        refine ⟨xs.length - (j), (by omega), (fun (i : Nat) (acc : List UInt8) => (⟨_, [(0, L xs), (3, .o (.c (.ref 0))), (4, I i)], [.row 1 (bE acc)]⟩ : St)) (j) (acc ++ encVar (xs[i] + 16 * ((j : Int) - (i : Int)))), W_go [0] (by decide) rfl (row_eq (by rw [bs_list, bE_app])) (.cons rfl (.cons rfl (.cons rfl (.nil)))), j, acc ++ encVar (xs[i] + 16 * ((j : Int) - (i : Int))), rfl, ⟨by rw [← hp1, hst, List.append_assoc], hd2, by rw [List.length_append]; omega⟩, rfl⟩
    · have f1 : decide ((j : Int) < ((els xs).length : Int)) = false := decide_eq_false (by omega)
      have hst := runs_step (show i < j by omega) h5 hd2 hd3 (fun y hy => by rw [List.getElem?_eq_none (by omega)] at hy; cases hy)
      have hb2 := bs_size (encVar (xs[i] + 16 * ((j : Int) - (i : Int))))
      have hb3 := encVar_len (xs[i] + 16 * ((j : Int) - (i : Int)))
      refine A_seq ?_; refine A_seq ?_
      refine A_draw [[], [], [1], [0, 1, 2], [0, 1, 2, 3], [0, 1, 2, 3, 4], [0, 1, 2, 3, 4], [0, 1, 2, 3, 4, 5, 6], [0, 1, 2, 3, 4, 5, 6, 7], [0, 1, 2, 3, 4], [0, 1, 2, 3, 4], [0, 1, 2, 3, 4, 9, 10], [0, 1, 2, 3, 4, 9, 10, 11], [0, 1, 2, 3, 4, 5, 6, 7, 8, 9, 10, 11, 12], [0, 1, 2, 3, 4, 5, 6, 7, 8, 9, 10, 11, 12, 13]] [[], [], [20], [19, 20, 21], [19, 20, 21, 22], [19, 20, 21, 22, 23], [19, 20, 21, 22, 23], [19, 20, 21, 22, 23, 24, 25], [19, 20, 21, 22, 23, 24, 25, 26], [19, 20, 21, 22, 23], [19, 20, 21, 22, 23], [19, 20, 21, 22, 23, 28, 29], [19, 20, 21, 22, 23, 28, 29, 30], [19, 20, 21, 22, 23, 24, 25, 26, 27, 28, 29, 30, 31], [19, 20, 21, 22, 23, 24, 25, 26, 27, 28, 29, 30, 31, 32]] [[20, 21], [19], [19], [], [], [25, 28, 29, 30, 31], [24, 28, 29, 30, 31], [28, 29, 30, 31], [28, 29, 30, 31], [24, 25, 26, 27, 29], [24, 25, 26, 27, 28], [24, 25, 26, 27], [24, 25, 26, 27], [], []] rfl ?_
      refine DR.step (q_moveC rfl rfl rfl) rfl rfl ?_; refine DR.step (q_moveC rfl rfl rfl) rfl rfl ?_; refine DR.step (q_len rfl rfl rfl) rfl rfl ?_
      refine DR.step (q_lssK rfl rfl rfl rfl (by assumption)) rfl rfl ?_; refine DR.step (q_moveC rfl rfl rfl) rfl rfl ?_; refine DR.step (Qt.no rfl rfl rfl rfl) rfl rfl ?_
      refine DR.step (Qt.no rfl rfl rfl rfl) rfl rfl ?_; refine DR.step (Qt.no rfl rfl rfl rfl) rfl rfl ?_; refine DR.step (Qt.no rfl rfl rfl rfl) rfl rfl ?_
      refine DR.step (Qt.no rfl rfl rfl rfl) rfl rfl ?_; refine DR.step (Qt.no rfl rfl rfl rfl) rfl rfl ?_; refine DR.step (Qt.no rfl rfl rfl rfl) rfl rfl ?_
      refine DR.step (Qt.no rfl rfl rfl rfl) rfl rfl ?_; refine DR.step (Qt.no rfl rfl rfl rfl) rfl rfl ?_; refine DR.step (q_pickF rfl rfl rfl rfl) rfl rfl ?_
      refine DR.stop (by kernel_rfl) (by kernel_rfl) ?_
      refine L_nil ?_; refine T_n ?_; refine A_ifF rfl ?_; refine A_exit ?_; refine T_x ?_; refine T_x ?_; refine B_xs ?_; refine T_n ?_; refine A_region ?_; refine M0 (q_moveC rfl rfl rfl) rfl rfl ?_
      refine M0 (q_moveC rfl rfl rfl) rfl rfl ?_; refine M0 (q_moveC rfl rfl rfl) rfl rfl ?_; refine M0 (q_at rfl rfl rfl rfl (by omega) (by assumption) rfl) rfl rfl ?_
      refine M0 (q_lr1 rfl rfl rfl rfl) rfl rfl ?_; refine M0 (q_moveC rfl rfl rfl) rfl rfl ?_; refine M0 (q_moveC rfl rfl rfl) rfl rfl ?_
      refine M0 (q_sub rfl rfl rfl rfl (by omega)) rfl rfl ?_; refine M0 (q_mul rfl rfl rfl rfl (by omega)) rfl rfl ?_; refine M0 (q_add rfl rfl rfl rfl (by omega)) rfl rfl ?_
      refine M0 (q_call0 rfl rfl (I_EncodeVarint (xs[i] + 16 * ((j : Int) - (i : Int)))) rfl) rfl rfl ?_; refine M_appstr rfl rfl rfl rfl rfl rfl rfl (by omega) (by omega) ?_
      refine M0 (q_assignC rfl rfl rfl) rfl rfl ?_; refine L_nil ?_; refine B_n ?_; refine T_n ?_
      refine ⟨xs.length - (j), (by omega), (fun (i : Nat) (acc : List UInt8) => (⟨_, [(0, L xs), (3, .o (.c (.ref 0))), (4, I i)], [.row 1 (bE acc)]⟩ : St)) (j) (acc ++ encVar (xs[i] + 16 * ((j : Int) - (i : Int)))), W_go [0] (by decide) rfl (row_eq (by rw [bs_list, bE_app])) (.cons rfl (.cons rfl (.cons rfl (.nil)))), j, acc ++ encVar (xs[i] + 16 * ((j : Int) - (i : Int))), rfl, ⟨by rw [← hp1, hst, List.append_assoc], hd2, by rw [List.length_append]; omega⟩, rfl⟩
  · have h5 : i = xs.length := by have := of_decide_eq_false h5; omega
    refine A_exit ?_; refine T_x ?_; refine T_x ?_; refine B_xs ?_; refine T_n ?_; refine A_seq ?_; refine A_region ?_; refine M0 (q_moveC rfl rfl rfl) rfl rfl ?_
    refine M0 (q_bstr rfl rfl rfl rfl) rfl rfl ?_; refine M0 (q_assignC rfl rfl rfl) rfl rfl ?_; refine L_nil ?_; refine T_n ?_; refine A_ret ?_; refine F_r ?_
    exact E_tmp rfl rfl (W_end [] (by decide) rfl rfl (S_eq (congrArg bs (by rw [← hp_A.1, h5]; simp [packRuns]))))
theorem els_at2 {α : Type} [Enc α] {xs : List α} {i j : Nat} (h : i + j < xs.length) : (els xs)[((i : Int) + (j : Int)).toNat]? = some (Enc.e xs[i + j]) := by
  have := els_at h
  rwa [Int.natCast_add] at this
set_option maxHeartbeats 8000000 in
theorem S_PackTrack (xs : List Int) (hn : Enc.gd xs) : Con Try.prog 66 [] [al xs] [] (S (packTrack xs)) := by
  have hlx := els_len xs
  refine Con.of Try.func66 rfl Try.ntmps66 rfl (fun E => ?_)
  refine A_seq ?_; refine A_region ?_; refine M0 (q_assignC rfl rfl rfl) rfl rfl ?_; refine L_nil ?_; refine T_n ?_; refine A_seq ?_; refine A_region ?_
  refine M0 (q_assignC rfl rfl rfl) rfl rfl ?_; refine L_nil ?_; refine T_n ?_; refine A_seq ?_; refine A_seq ?_; refine A_region ?_; refine M0 (q_moveC rfl rfl rfl) rfl rfl ?_
  refine M0 (q_len rfl rfl rfl) rfl rfl ?_; refine M0 (q_gtr rfl rfl rfl rfl) rfl rfl ?_; refine M0 (q_moveC rfl rfl rfl) rfl rfl ?_
  refine M0 (Qt.grdF rfl rfl rfl .stop (fun hgrd => q_moveC rfl rfl rfl)) rfl rfl ?_
  refine M0 (Qt.grdF rfl rfl rfl (.hit .stop) (fun hgrd => q_call0 rfl rfl (S_inputsOk xs hn) rfl)) rfl rfl ?_
  refine M0 (Qt.grdF rfl rfl rfl (.hit (.hit .stop)) (fun hgrd => q_not rfl rfl rfl)) rfl rfl ?_; refine M0 (q_or rfl rfl rfl rfl) rfl rfl ?_; refine L_nil ?_; refine T_n ?_
  refine A_cond rfl (fun h => ?_) (fun h => ?_)
  · rw [hlx] at h
    refine A_seq ?_; refine A_region ?_; refine M0 (q_moveC rfl rfl rfl) rfl rfl ?_; refine M0 (q_assignC rfl rfl rfl) rfl rfl ?_; refine L_nil ?_; refine T_n ?_; refine A_ret ?_; refine T_r ?_
    refine F_r ?_
    exact E_tmp rfl rfl (W_end [] (by decide) rfl rfl (S_eq (by rw [packTrack, if_neg (by simp only [Bool.or_eq_true, decide_eq_true_eq, Bool.not_eq_true'] at h; rintro ⟨h1, h2⟩; rcases h with h | h <;> first | omega | simp [h2] at h)])))
  rw [hlx] at h
  have h : xs.length ≤ 400 ∧ inOk xs = true := by
    simp only [Bool.or_eq_false_iff, decide_eq_false_iff_not, Bool.not_eq_false'] at h
    exact ⟨by omega, h.2⟩
  rw [packTrack, if_pos h]
  refine A_skip ?_; refine T_n ?_; refine A_seq ?_; refine A_seq ?_; refine A_region ?_; refine M0 (q_assignC rfl rfl rfl) rfl rfl ?_; refine L_nil ?_; refine T_n ?_; refine A_block ?_
  refine A_loop (fun m__ st => ∃ (i : Nat) (acc : List UInt8), xs.length - i = m__ ∧ (acc ++ packRuns (xs.drop i) = packRuns xs ∧ i ≤ xs.length ∧ acc.length ≤ 6 * i) ∧ st = (fun (i : Nat) (acc : List UInt8) => (⟨_, [(0, L xs), (3, S (bs acc)), (4, I i)], []⟩ : St)) (i) (acc)) ((fun (i : Nat) (acc : List UInt8) => xs.length - i) (0) ([])) ⟨(fun (i : Nat) (acc : List UInt8) => (⟨_, [(0, L xs), (3, S (bs acc)), (4, I i)], []⟩ : St)) (0) ([]), W_go [] (by decide) rfl (rfl) (.cons rfl (.cons rfl (.cons rfl (.nil)))), 0, [], rfl, by simp, rfl⟩ ?_
  rintro m_A _ ⟨i, acc, hk_A, hp_A, rfl⟩
  refine A_seq ?_; refine A_seq ?_; refine A_region ?_; refine M0 (q_moveC rfl rfl rfl) rfl rfl ?_; refine M0 (q_moveC rfl rfl rfl) rfl rfl ?_; refine M0 (q_len rfl rfl rfl) rfl rfl ?_
  refine M0 (q_lss rfl rfl rfl rfl) rfl rfl ?_; refine L_nil ?_; refine T_n ?_
  refine A_cond rfl (fun h5 => ?_) (fun h5 => ?_)
  · have h5 : i < xs.length := by have := of_decide_eq_true h5; omega
    obtain ⟨hp1, hp2, hp3⟩ := hp_A
    have hat := els_at h5
    have hx := inOk_at h.2 h5
    refine A_skip ?_; refine T_n ?_; refine A_block ?_; refine A_seq ?_; refine A_region ?_; refine M0 (q_assignC rfl rfl rfl) rfl rfl ?_; refine L_nil ?_; refine T_n ?_; refine A_seq ?_
    refine A_block ?_
    refine A_loop (fun m__ st => ∃ (j : Nat), xs.length - j = m__ ∧ (1 ≤ j ∧ i + j ≤ xs.length ∧ (∀ q, i ≤ q → q < i + j → xs[q]? = some xs[i])) ∧ st = (fun (j : Nat) => (⟨_, [(0, L xs), (3, S (bs acc)), (4, I i), (5, I j)], []⟩ : St)) (j)) ((fun (j : Nat) => xs.length - j) (1)) ⟨(fun (j : Nat) => (⟨_, [(0, L xs), (3, S (bs acc)), (4, I i), (5, I j)], []⟩ : St)) (1), W_go [] (by decide) rfl (rfl) (.cons rfl (.cons rfl (.cons rfl (.cons (I_eq (by omega)) (.nil))))), 1, rfl, ⟨Nat.le_refl _, by omega, fun q h1 h2 => by rw [show q = i by omega]; exact List.getElem?_eq_getElem h5⟩, rfl⟩ ?_
    rintro m_D _ ⟨j, hk_D, hp_D, rfl⟩
    obtain ⟨hd1, hd2, hd3⟩ := hp_D
    have hb2 := bs_size (encVar (xs[i] + 16 * (j : Int)))
    have hb3 := encVar_len (xs[i] + 16 * (j : Int))
    have hb4 := bs_size acc
    have e1 : ((i + j : Nat) : Int) - (i : Int) = j := by omega
    by_cases hj : i + j < xs.length
    · have hat2 := els_at2 hj
      have f1 : decide ((i : Int) + (j : Int) < ((els xs).length : Int)) = true := decide_eq_true (by omega)
      by_cases he : xs[i + j] = xs[i]
      · have f2 : decide (xs[i + j] = xs[i]) = true := decide_eq_true he
        refine A_seq ?_; refine A_seq ?_
        refine A_draw [[], [], [0, 1], [], [3], [0, 1, 2, 3, 4], [0, 1, 2, 3, 4, 5], [0, 1, 2, 3, 4, 5, 6], [0, 1, 2, 3, 4, 5, 6], [0, 1, 2, 3, 4, 5, 6], [0, 1, 2, 3, 4, 5, 6, 8, 9], [0, 1, 2, 3, 4, 5, 6, 7, 8, 9, 10], [0, 1, 2, 3, 4, 5, 6, 7, 8, 9, 10, 11], [0, 1, 2, 3, 4, 5, 6], [0, 1, 2, 3, 4, 5, 6], [0, 1, 2, 3, 4, 5, 6, 13, 14], [0, 1, 2, 3, 4, 5, 6, 13, 14, 15], [0, 1, 2, 3, 4, 5, 6, 7, 8, 9, 10, 11, 12, 13, 14, 15, 16], [0, 1, 2, 3, 4, 5, 6, 7, 8, 9, 10, 11, 12, 13, 14, 15, 16, 17]] [[], [], [19, 20], [], [22], [19, 20, 21, 22, 23], [19, 20, 21, 22, 23, 24], [19, 20, 21, 22, 23, 24, 25], [19, 20, 21, 22, 23, 24, 25], [19, 20, 21, 22, 23, 24, 25], [19, 20, 21, 22, 23, 24, 25, 27, 28], [19, 20, 21, 22, 23, 24, 25, 26, 27, 28, 29], [19, 20, 21, 22, 23, 24, 25, 26, 27, 28, 29, 30], [19, 20, 21, 22, 23, 24, 25], [19, 20, 21, 22, 23, 24, 25], [19, 20, 21, 22, 23, 24, 25, 32, 33], [19, 20, 21, 22, 23, 24, 25, 32, 33, 34], [19, 20, 21, 22, 23, 24, 25, 26, 27, 28, 29, 30, 31, 32, 33, 34, 35], [19, 20, 21, 22, 23, 24, 25, 26, 27, 28, 29, 30, 31, 32, 33, 34, 35, 36]] [[20, 22, 23], [19, 22, 23], [22, 23], [19, 20, 21], [19, 20, 21], [], [], [27, 28, 29, 32, 33, 34, 35], [26, 28, 32, 33, 34, 35], [26, 27, 32, 33, 34, 35], [26, 32, 33, 34, 35], [32, 33, 34, 35], [32, 33, 34, 35], [26, 27, 28, 29, 30, 31, 33], [26, 27, 28, 29, 30, 31, 32], [26, 27, 28, 29, 30, 31], [26, 27, 28, 29, 30, 31], [], []] rfl ?_
        refine DR.step (q_moveC rfl rfl rfl) rfl rfl ?_; refine DR.step (q_moveC rfl rfl rfl) rfl rfl ?_; refine DR.step (q_add rfl rfl rfl rfl (by omega)) rfl rfl ?_
        refine DR.step (q_moveC rfl rfl rfl) rfl rfl ?_; refine DR.step (q_len rfl rfl rfl) rfl rfl ?_; refine DR.step (q_lssK rfl rfl rfl rfl (by assumption)) rfl rfl ?_
        refine DR.step (q_moveC rfl rfl rfl) rfl rfl ?_; refine DR.step (Qt.yes rfl rfl rfl (q_moveC rfl rfl rfl)) rfl rfl ?_
        refine DR.step (Qt.yes rfl rfl rfl (q_moveC rfl rfl rfl)) rfl rfl ?_; refine DR.step (Qt.yes rfl rfl rfl (q_moveC rfl rfl rfl)) rfl rfl ?_
        refine DR.step (Qt.yes rfl rfl rfl (q_add rfl rfl rfl rfl (by omega))) rfl rfl ?_
        refine DR.step (Qt.yes rfl rfl rfl (q_at rfl rfl rfl rfl (by omega) (by assumption) rfl)) rfl rfl ?_; refine DR.step (Qt.yes rfl rfl rfl (q_lr1 rfl rfl rfl rfl)) rfl rfl ?_
        refine DR.step (Qt.yes rfl rfl rfl (q_moveC rfl rfl rfl)) rfl rfl ?_; refine DR.step (Qt.yes rfl rfl rfl (q_moveC rfl rfl rfl)) rfl rfl ?_
        refine DR.step (Qt.yes rfl rfl rfl (q_at rfl rfl rfl rfl (by omega) (by assumption) rfl)) rfl rfl ?_; refine DR.step (Qt.yes rfl rfl rfl (q_lr1 rfl rfl rfl rfl)) rfl rfl ?_
        refine DR.step (Qt.yes rfl rfl rfl (q_eqlK rfl rfl rfl rfl (by assumption))) rfl rfl ?_; refine DR.step (q_pickT rfl rfl rfl rfl) rfl rfl ?_
        refine DR.stop (by kernel_rfl) (by kernel_rfl) ?_
        refine L_nil ?_; refine T_n ?_; refine A_ifT rfl ?_; refine A_skip ?_; refine T_n ?_; refine A_block ?_; refine A_region ?_; refine M0 (q_moveC rfl rfl rfl) rfl rfl ?_
        refine M0 (q_add rfl rfl rfl rfl (by omega)) rfl rfl ?_; refine M0 (q_assignC rfl rfl rfl) rfl rfl ?_; refine L_nil ?_; refine B_n ?_; refine T_n ?_
        refine ⟨xs.length - (j + 1), (by omega), (fun (j : Nat) => (⟨_, [(0, L xs), (3, S (bs acc)), (4, I i), (5, I j)], []⟩ : St)) (j + 1), W_go [] (by decide) rfl (rfl) (.cons rfl (.cons rfl (.cons rfl (.cons rfl (.nil))))), j + 1, rfl, ⟨by omega, by omega, run_next hd3 hj he⟩, rfl⟩
      · have f2 : decide (xs[i + j] = xs[i]) = false := decide_eq_false he
        have hst := runs_step (show i < i + j by omega) h5 hd2 hd3 (fun y hy => by rw [List.getElem?_eq_getElem hj] at hy; cases hy; exact he)
        rw [e1] at hst
        refine A_seq ?_; refine A_seq ?_
        refine A_draw [[], [], [0, 1], [], [3], [0, 1, 2, 3, 4], [0, 1, 2, 3, 4, 5], [0, 1, 2, 3, 4, 5, 6], [0, 1, 2, 3, 4, 5, 6], [0, 1, 2, 3, 4, 5, 6], [0, 1, 2, 3, 4, 5, 6, 8, 9], [0, 1, 2, 3, 4, 5, 6, 7, 8, 9, 10], [0, 1, 2, 3, 4, 5, 6, 7, 8, 9, 10, 11], [0, 1, 2, 3, 4, 5, 6], [0, 1, 2, 3, 4, 5, 6], [0, 1, 2, 3, 4, 5, 6, 13, 14], [0, 1, 2, 3, 4, 5, 6, 13, 14, 15], [0, 1, 2, 3, 4, 5, 6, 7, 8, 9, 10, 11, 12, 13, 14, 15, 16], [0, 1, 2, 3, 4, 5, 6, 7, 8, 9, 10, 11, 12, 13, 14, 15, 16, 17]] [[], [], [19, 20], [], [22], [19, 20, 21, 22, 23], [19, 20, 21, 22, 23, 24], [19, 20, 21, 22, 23, 24, 25], [19, 20, 21, 22, 23, 24, 25], [19, 20, 21, 22, 23, 24, 25], [19, 20, 21, 22, 23, 24, 25, 27, 28], [19, 20, 21, 22, 23, 24, 25, 26, 27, 28, 29], [19, 20, 21, 22, 23, 24, 25, 26, 27, 28, 29, 30], [19, 20, 21, 22, 23, 24, 25], [19, 20, 21, 22, 23, 24, 25], [19, 20, 21, 22, 23, 24, 25, 32, 33], [19, 20, 21, 22, 23, 24, 25, 32, 33, 34], [19, 20, 21, 22, 23, 24, 25, 26, 27, 28, 29, 30, 31, 32, 33, 34, 35], [19, 20, 21, 22, 23, 24, 25, 26, 27, 28, 29, 30, 31, 32, 33, 34, 35, 36]] [[20, 22, 23], [19, 22, 23], [22, 23], [19, 20, 21], [19, 20, 21], [], [], [27, 28, 29, 32, 33, 34, 35], [26, 28, 32, 33, 34, 35], [26, 27, 32, 33, 34, 35], [26, 32, 33, 34, 35], [32, 33, 34, 35], [32, 33, 34, 35], [26, 27, 28, 29, 30, 31, 33], [26, 27, 28, 29, 30, 31, 32], [26, 27, 28, 29, 30, 31], [26, 27, 28, 29, 30, 31], [], []] rfl ?_
        refine DR.step (q_moveC rfl rfl rfl) rfl rfl ?_; refine DR.step (q_moveC rfl rfl rfl) rfl rfl ?_; refine DR.step (q_add rfl rfl rfl rfl (by omega)) rfl rfl ?_
        refine DR.step (q_moveC rfl rfl rfl) rfl rfl ?_; refine DR.step (q_len rfl rfl rfl) rfl rfl ?_; refine DR.step (q_lssK rfl rfl rfl rfl (by assumption)) rfl rfl ?_
        refine DR.step (q_moveC rfl rfl rfl) rfl rfl ?_; refine DR.step (Qt.yes rfl rfl rfl (q_moveC rfl rfl rfl)) rfl rfl ?_
        refine DR.step (Qt.yes rfl rfl rfl (q_moveC rfl rfl rfl)) rfl rfl ?_; refine DR.step (Qt.yes rfl rfl rfl (q_moveC rfl rfl rfl)) rfl rfl ?_
        refine DR.step (Qt.yes rfl rfl rfl (q_add rfl rfl rfl rfl (by omega))) rfl rfl ?_
        refine DR.step (Qt.yes rfl rfl rfl (q_at rfl rfl rfl rfl (by omega) (by assumption) rfl)) rfl rfl ?_; refine DR.step (Qt.yes rfl rfl rfl (q_lr1 rfl rfl rfl rfl)) rfl rfl ?_
        refine DR.step (Qt.yes rfl rfl rfl (q_moveC rfl rfl rfl)) rfl rfl ?_; refine DR.step (Qt.yes rfl rfl rfl (q_moveC rfl rfl rfl)) rfl rfl ?_
        refine DR.step (Qt.yes rfl rfl rfl (q_at rfl rfl rfl rfl (by omega) (by assumption) rfl)) rfl rfl ?_; refine DR.step (Qt.yes rfl rfl rfl (q_lr1 rfl rfl rfl rfl)) rfl rfl ?_
        refine DR.step (Qt.yes rfl rfl rfl (q_eqlK rfl rfl rfl rfl (by assumption))) rfl rfl ?_; refine DR.step (q_pickT rfl rfl rfl rfl) rfl rfl ?_
        refine DR.stop (by kernel_rfl) (by kernel_rfl) ?_
        refine L_nil ?_; refine T_n ?_; refine A_ifF rfl ?_; refine A_exit ?_; refine T_x ?_; refine T_x ?_; refine B_xs ?_; refine T_n ?_; refine A_seq ?_; refine A_region ?_
        refine M0 (q_moveC rfl rfl rfl) rfl rfl ?_; refine M0 (q_moveC rfl rfl rfl) rfl rfl ?_; refine M0 (q_moveC rfl rfl rfl) rfl rfl ?_
        refine M0 (q_at rfl rfl rfl rfl (by omega) (by assumption) rfl) rfl rfl ?_; refine M0 (q_lr1 rfl rfl rfl rfl) rfl rfl ?_; refine M0 (q_moveC rfl rfl rfl) rfl rfl ?_
        refine M0 (q_mul rfl rfl rfl rfl (by omega)) rfl rfl ?_; refine M0 (q_add rfl rfl rfl rfl (by omega)) rfl rfl ?_
        refine M0 (q_call0 rfl rfl (S_EncodeVarint (xs[i] + 16 * (j : Int))) rfl) rfl rfl ?_; refine M0 (q_cat rfl rfl rfl rfl (by omega)) rfl rfl ?_
        refine M0 (q_assignC rfl rfl rfl) rfl rfl ?_; refine L_nil ?_; refine T_n ?_; refine A_region ?_; refine M0 (q_moveC rfl rfl rfl) rfl rfl ?_; refine M0 (q_moveC rfl rfl rfl) rfl rfl ?_
        refine M0 (q_add rfl rfl rfl rfl (by omega)) rfl rfl ?_; refine M0 (q_assignC rfl rfl rfl) rfl rfl ?_; refine L_nil ?_; refine B_n ?_; refine T_n ?_
        refine ⟨xs.length - (i + j), (by omega), (fun (i : Nat) (acc : List UInt8) => (⟨_, [(0, L xs), (3, S (bs acc)), (4, I i)], []⟩ : St)) (i + j) (acc ++ encVar (xs[i] + 16 * (j : Int))), W_go [] (by decide) rfl (rfl) (.cons rfl (.cons (S_eq (bs_app _ _)) (.cons rfl (.nil)))), i + j, acc ++ encVar (xs[i] + 16 * (j : Int)), rfl, ⟨by rw [← hp1, hst, List.append_assoc], hd2, by rw [List.length_append]; omega⟩, rfl⟩
    · have f1 : decide ((i : Int) + (j : Int) < ((els xs).length : Int)) = false := decide_eq_false (by omega)
      have hst := runs_step (show i < i + j by omega) h5 hd2 hd3 (fun y hy => by rw [List.getElem?_eq_none (by omega)] at hy; cases hy)
      rw [e1] at hst
      refine A_seq ?_; refine A_seq ?_
      refine A_draw [[], [], [0, 1], [], [3], [0, 1, 2, 3, 4], [0, 1, 2, 3, 4, 5], [0, 1, 2, 3, 4, 5, 6], [0, 1, 2, 3, 4, 5, 6], [0, 1, 2, 3, 4, 5, 6], [0, 1, 2, 3, 4, 5, 6, 8, 9], [0, 1, 2, 3, 4, 5, 6, 7, 8, 9, 10], [0, 1, 2, 3, 4, 5, 6, 7, 8, 9, 10, 11], [0, 1, 2, 3, 4, 5, 6], [0, 1, 2, 3, 4, 5, 6], [0, 1, 2, 3, 4, 5, 6, 13, 14], [0, 1, 2, 3, 4, 5, 6, 13, 14, 15], [0, 1, 2, 3, 4, 5, 6, 7, 8, 9, 10, 11, 12, 13, 14, 15, 16], [0, 1, 2, 3, 4, 5, 6, 7, 8, 9, 10, 11, 12, 13, 14, 15, 16, 17]] [[], [], [19, 20], [], [22], [19, 20, 21, 22, 23], [19, 20, 21, 22, 23, 24], [19, 20, 21, 22, 23, 24, 25], [19, 20, 21, 22, 23, 24, 25], [19, 20, 21, 22, 23, 24, 25], [19, 20, 21, 22, 23, 24, 25, 27, 28], [19, 20, 21, 22, 23, 24, 25, 26, 27, 28, 29], [19, 20, 21, 22, 23, 24, 25, 26, 27, 28, 29, 30], [19, 20, 21, 22, 23, 24, 25], [19, 20, 21, 22, 23, 24, 25], [19, 20, 21, 22, 23, 24, 25, 32, 33], [19, 20, 21, 22, 23, 24, 25, 32, 33, 34], [19, 20, 21, 22, 23, 24, 25, 26, 27, 28, 29, 30, 31, 32, 33, 34, 35], [19, 20, 21, 22, 23, 24, 25, 26, 27, 28, 29, 30, 31, 32, 33, 34, 35, 36]] [[20, 22, 23], [19, 22, 23], [22, 23], [19, 20, 21], [19, 20, 21], [], [], [27, 28, 29, 32, 33, 34, 35], [26, 28, 32, 33, 34, 35], [26, 27, 32, 33, 34, 35], [26, 32, 33, 34, 35], [32, 33, 34, 35], [32, 33, 34, 35], [26, 27, 28, 29, 30, 31, 33], [26, 27, 28, 29, 30, 31, 32], [26, 27, 28, 29, 30, 31], [26, 27, 28, 29, 30, 31], [], []] rfl ?_
      refine DR.step (q_moveC rfl rfl rfl) rfl rfl ?_; refine DR.step (q_moveC rfl rfl rfl) rfl rfl ?_; refine DR.step (q_add rfl rfl rfl rfl (by omega)) rfl rfl ?_
      refine DR.step (q_moveC rfl rfl rfl) rfl rfl ?_; refine DR.step (q_len rfl rfl rfl) rfl rfl ?_; refine DR.step (q_lssK rfl rfl rfl rfl (by assumption)) rfl rfl ?_
      refine DR.step (q_moveC rfl rfl rfl) rfl rfl ?_; refine DR.step (Qt.no rfl rfl rfl rfl) rfl rfl ?_; refine DR.step (Qt.no rfl rfl rfl rfl) rfl rfl ?_
      refine DR.step (Qt.no rfl rfl rfl rfl) rfl rfl ?_; refine DR.step (Qt.no rfl rfl rfl rfl) rfl rfl ?_; refine DR.step (Qt.no rfl rfl rfl rfl) rfl rfl ?_
      refine DR.step (Qt.no rfl rfl rfl rfl) rfl rfl ?_; refine DR.step (Qt.no rfl rfl rfl rfl) rfl rfl ?_; refine DR.step (Qt.no rfl rfl rfl rfl) rfl rfl ?_
      refine DR.step (Qt.no rfl rfl rfl rfl) rfl rfl ?_; refine DR.step (Qt.no rfl rfl rfl rfl) rfl rfl ?_; refine DR.step (Qt.no rfl rfl rfl rfl) rfl rfl ?_
      refine DR.step (q_pickF rfl rfl rfl rfl) rfl rfl ?_; refine DR.stop (by kernel_rfl) (by kernel_rfl) ?_
      refine L_nil ?_; refine T_n ?_; refine A_ifF rfl ?_; refine A_exit ?_; refine T_x ?_; refine T_x ?_; refine B_xs ?_; refine T_n ?_; refine A_seq ?_; refine A_region ?_
      refine M0 (q_moveC rfl rfl rfl) rfl rfl ?_; refine M0 (q_moveC rfl rfl rfl) rfl rfl ?_; refine M0 (q_moveC rfl rfl rfl) rfl rfl ?_
      refine M0 (q_at rfl rfl rfl rfl (by omega) (by assumption) rfl) rfl rfl ?_; refine M0 (q_lr1 rfl rfl rfl rfl) rfl rfl ?_; refine M0 (q_moveC rfl rfl rfl) rfl rfl ?_
      refine M0 (q_mul rfl rfl rfl rfl (by omega)) rfl rfl ?_; refine M0 (q_add rfl rfl rfl rfl (by omega)) rfl rfl ?_
      refine M0 (q_call0 rfl rfl (S_EncodeVarint (xs[i] + 16 * (j : Int))) rfl) rfl rfl ?_; refine M0 (q_cat rfl rfl rfl rfl (by omega)) rfl rfl ?_
      refine M0 (q_assignC rfl rfl rfl) rfl rfl ?_; refine L_nil ?_; refine T_n ?_; refine A_region ?_; refine M0 (q_moveC rfl rfl rfl) rfl rfl ?_; refine M0 (q_moveC rfl rfl rfl) rfl rfl ?_
      refine M0 (q_add rfl rfl rfl rfl (by omega)) rfl rfl ?_; refine M0 (q_assignC rfl rfl rfl) rfl rfl ?_; refine L_nil ?_; refine B_n ?_; refine T_n ?_
      refine ⟨xs.length - (i + j), (by omega), (fun (i : Nat) (acc : List UInt8) => (⟨_, [(0, L xs), (3, S (bs acc)), (4, I i)], []⟩ : St)) (i + j) (acc ++ encVar (xs[i] + 16 * (j : Int))), W_go [] (by decide) rfl (rfl) (.cons rfl (.cons (S_eq (bs_app _ _)) (.cons rfl (.nil)))), i + j, acc ++ encVar (xs[i] + 16 * (j : Int)), rfl, ⟨by rw [← hp1, hst, List.append_assoc], hd2, by rw [List.length_append]; omega⟩, rfl⟩
  · have h5 : i = xs.length := by have := of_decide_eq_false h5; omega
    refine A_exit ?_; refine T_x ?_; refine T_x ?_; refine B_xs ?_; refine T_n ?_; refine A_seq ?_; refine A_region ?_; refine M0 (q_moveC rfl rfl rfl) rfl rfl ?_
    refine M0 (q_assignC rfl rfl rfl) rfl rfl ?_; refine L_nil ?_; refine T_n ?_; refine A_ret ?_; refine F_r ?_
    exact E_tmp rfl rfl (W_end [] (by decide) rfl rfl (S_eq (congrArg bs (by rw [← hp_A.1, h5]; simp [packRuns]))))
end Go.Proofs.Ytkfnaniegldfaaa
