/-
  What the laws write into what they hold, and what they read back.
  Conditions: at most 2^30 elements.
-/
import Derived.Test.YtkfnaniegldfaaaDLend
import Derived.Test.YtkfnaniegldfaaaDTypes
set_option linter.unusedSimpArgs false
set_option linter.unusedVariables false
set_option maxRecDepth 4096
namespace Go.Proofs.Ytkfnaniegldfaaa
open Go.RowKit

def dig : Nat → Int → List UInt8 → List UInt8
  | 0, _, out => out
  | n + 1, k, out => if 0 < k then dig n (k / 10) ([UInt8.ofNat (48 + k % 10).toNat] ++ out) else out
def mtext (k : Int) : ByteArray := bs (if k ≤ 0 then [109, 48] else 109 :: dig 19 k [])
theorem dig_end {n : Nat} {k : Int} {out : List UInt8} (h : ¬ 0 < k) : dig n k out = out := by
  cases n with
  | zero => rfl
  | succ n => rw [dig, if_neg h]
set_option maxHeartbeats 8000000 in
theorem L_markText (k : Int) (hk : k ≤ 1099511627776) : Con Try.prog 98 [] [ai k] [] (S (mtext k)) := by
  refine Con.of Try.func98 rfl Try.ntmps98 rfl (fun E => ?_)
  refine A_seq ?_; refine A_region ?_; refine M0 (q_assignC rfl rfl rfl) rfl rfl ?_; refine L_nil ?_; refine T_n ?_; refine A_seq ?_; refine A_seq ?_; refine A_region ?_
  refine M0 (q_moveC rfl rfl rfl) rfl rfl ?_; refine M0 (q_leq rfl rfl rfl rfl) rfl rfl ?_; refine L_nil ?_; refine T_n ?_
  refine A_cond rfl (fun h => ?_) (fun h => ?_)
  · have h := of_decide_eq_true h
    refine A_seq ?_; refine A_region ?_; refine M0 (q_assignC rfl rfl rfl) rfl rfl ?_; refine L_nil ?_; refine T_n ?_; refine A_ret ?_; refine T_r ?_; refine F_r ?_
    exact E_tmp rfl rfl (W_end [] (by decide) rfl rfl (S_eq (by rw [mtext, if_pos h])))
  have h := of_decide_eq_false h
  rw [mtext, if_neg h]
  refine A_skip ?_; refine T_n ?_; refine A_seq ?_; refine A_region ?_; refine M0 (q_assignC rfl rfl rfl) rfl rfl ?_; refine L_nil ?_; refine T_n ?_; refine A_seq ?_; refine A_block ?_
  refine A_loop (fun m__ st => ∃ (j : Int) (out : List UInt8), j.toNat = m__ ∧ (∃ n, 0 ≤ j ∧ j ≤ 1099511627776 ∧ j < 10 ^ n ∧ out.length + n = 19 ∧ dig n j out = dig 19 k []) ∧ st = (fun (j : Int) (out : List UInt8) => (⟨_, [(0, I j), (3, S (bs out))], []⟩ : St)) (j) (out)) ((fun (j : Int) (out : List UInt8) => j.toNat) (k) ([])) ⟨(fun (j : Int) (out : List UInt8) => (⟨_, [(0, I j), (3, S (bs out))], []⟩ : St)) (k) ([]), W_go [] (by decide) rfl (rfl) (.cons rfl (.cons rfl (.nil))), k, [], rfl, ⟨19, by omega, hk, by omega, rfl, rfl⟩, rfl⟩ ?_
  rintro m_A _ ⟨j, out, hk_A, hp_A, rfl⟩
  obtain ⟨n, a0, a1, a2, a3, a4⟩ := hp_A
  refine A_seq ?_; refine A_seq ?_; refine A_region ?_; refine M0 (q_moveC rfl rfl rfl) rfl rfl ?_; refine M0 (q_gtr rfl rfl rfl rfl) rfl rfl ?_; refine L_nil ?_; refine T_n ?_
  refine A_cond rfl (fun h => ?_) (fun h => ?_)
  · have h := of_decide_eq_true h
    have hl := bs_size out
    refine A_skip ?_; refine T_n ?_; refine A_block ?_; refine A_seq ?_; refine A_region ?_; refine M0 (q_moveC rfl rfl rfl) rfl rfl ?_; refine M0 (q_rem rfl rfl rfl rfl (by omega)) rfl rfl ?_
    refine M0 (q_add rfl rfl rfl rfl (by omega)) rfl rfl ?_; refine M0 (q_convI rfl rfl rfl rfl (wrap_u8_in (by omega))) rfl rfl ?_; refine M1 (q_bslice rfl rfl rfl rfl rfl rfl) rfl rfl ?_
    refine M0 (q_bstrb rfl rfl rfl rfl rfl) rfl rfl ?_; refine M0 (q_moveC rfl rfl rfl) rfl rfl ?_
    refine M0 (q_cat rfl rfl rfl rfl (by simp only [bs_size, cat_size, List.length_cons, List.length_nil, List.length_append]; omega)) rfl rfl ?_
    refine M0 (q_assignC rfl rfl rfl) rfl rfl ?_; refine L_nil ?_; refine T_n ?_; refine A_region ?_; refine M0 (q_moveC rfl rfl rfl) rfl rfl ?_
    refine M0 (q_quo rfl rfl rfl rfl (by omega)) rfl rfl ?_; refine M0 (q_assignC rfl rfl rfl) rfl rfl ?_; refine L_nil ?_; refine B_n ?_; refine T_n ?_
    obtain ⟨n, rfl⟩ : ∃ n', n = n' + 1 := ⟨n - 1, by have : n ≠ 0 := fun e => by { subst e; simp at a2; omega }; omega⟩
    rw [dig, if_pos h] at a4
    rw [Int.pow_succ] at a2
    refine ⟨(j / 10).toNat, (by omega), (fun (j : Int) (out : List UInt8) => (⟨_, [(0, I j), (3, S (bs out))], []⟩ : St)) (j / 10) ([UInt8.ofNat (48 + j % 10).toNat] ++ out), W_go [] (by decide) rfl (rfl) (.cons rfl (.cons (S_eq (bs_app [_] _)) (.nil))), j / 10, [UInt8.ofNat (48 + j % 10).toNat] ++ out, rfl, ⟨n, by omega, by omega, by omega, by simp only [List.length_append, List.length_cons, List.length_nil]; omega, a4⟩, rfl⟩
  · have h := of_decide_eq_false h
    have hl := bs_size out
    rw [dig_end h] at a4
    refine A_exit ?_; refine T_x ?_; refine T_x ?_; refine B_xs ?_; refine T_n ?_; refine A_seq ?_; refine A_region ?_; refine M0 (q_moveC rfl rfl rfl) rfl rfl ?_
    refine M0 (q_cat rfl rfl rfl rfl (by simp only [bs_size, cat_size, List.length_cons, List.length_nil, List.length_append]; omega)) rfl rfl ?_
    refine M0 (q_assignC rfl rfl rfl) rfl rfl ?_; refine L_nil ?_; refine T_n ?_; refine A_ret ?_; refine F_r ?_
    exact E_tmp rfl rfl (W_end [] (by decide) rfl rfl (S_eq (by rw [← a4]; exact bs_app [_] _)))

/-- What is written into a slice of strings from k on, and whether it stands there. -/
def markS (xs : List ByteArray) (k : Int) : List ByteArray := (List.range xs.length).map fun (i : Nat) => mtext (k + i)
theorem markS_len (xs : List ByteArray) (k : Int) : (markS xs k).length = xs.length := by simp [markS]
theorem mtext_size (k : Int) (hk : k ≤ 1099511627776) : (mtext k).size ≤ 20 := by
  have hd : ∀ (n : Nat) (j : Int) (out : List UInt8), (dig n j out).length ≤ out.length + n := by
    intro n
    induction n with
    | zero => intro j out; simp [dig]
    | succ n ih =>
      intro j out
      rw [dig]
      split
      · have := ih (j / 10) ([UInt8.ofNat (48 + j % 10).toNat] ++ out)
        simp only [List.length_append, List.length_cons, List.length_nil] at this
        omega
      · omega
  rw [mtext, bs_size]
  split
  · simp
  · have := hd 19 k []
    simp only [List.length_cons, List.length_nil] at this ⊢
    omega
theorem row2 {k : Nat} {a b : List (List T)} {g : Ob} (h : a = b) : [Ob.row k a, g] = [Ob.row k b, g] := by rw [h]
theorem els_set {α : Type} [Enc α] (xs : List α) (i : Nat) (x : α) : els (xs.set i x) = (els xs).set i (Enc.e x) := by simp [els, List.map_set]
theorem mark_next {xs : List ByteArray} {k : Int} {i : Nat} {e : List T} (h : i < xs.length) (he : e.length = 1 := by rfl) : els ((markS xs k).take (i + 1) ++ xs.drop (i + 1)) = (els ((markS xs k).take i ++ xs.drop i)).set i (splice e 0 [.v (.string (mtext (k + i)))]) := by
  have h1 : splice e 0 [T.v (.string (mtext (k + i)))] = Enc.e (mtext (k + i)) := by
    match e, he with
    | [t], _ => rfl
  have h2 : i < (markS xs k).length := by rw [markS_len]; exact h
  have h3 : (markS xs k)[i] = mtext (k + i) := by simp [markS]
  rw [h1, ← els_set]
  congr 1
  rw [List.take_succ_eq_append_getElem h2, h3, List.set_append_right _ _ (by simp [markS_len]; omega)]
  have : i - ((markS xs k).take i).length = 0 := by simp [markS_len]; omega
  rw [this, List.drop_eq_getElem_cons h, List.set_cons_zero, List.append_assoc]
  rfl
set_option maxHeartbeats 8000000 in
theorem L_markStringS (xs : List ByteArray) (k : Int) (hL : xs.length ≤ 1048576) (h0 : 0 < k) (hk : k ≤ 4294967296) : Con Try.prog 49 [.row 1 (els xs), .gh 0 (.c (.ref 0))] [.c (.ref 0), ai k] [.row 1 (els (markS xs k)), .gh 0 (.c (.ref 0))] (I (k + xs.length)) := by
  have hlx := els_len xs
  refine Con.of Try.func49 rfl Try.ntmps49 rfl (fun E => ?_)
  refine A_seq ?_; refine A_region ?_; refine M0 (q_assignC rfl rfl rfl) rfl rfl ?_; refine L_nil ?_; refine T_n ?_; refine A_seq ?_; refine A_seq ?_; refine A_region ?_
  refine M0 (q_assignC rfl rfl rfl) rfl rfl ?_; refine L_nil ?_; refine T_n ?_; refine A_block ?_
  refine A_loop (fun m st => ∃ i : Nat, i + m = xs.length ∧ (True) ∧ st = (fun i : Nat => (⟨_, [(0, .o (.c (.ref 0))), (1, I (k + i)), (5, I i)], [.row 1 (els ((markS xs k).take i ++ xs.drop i)), .gh 0 (.c (.ref 0))]⟩ : St)) i) (xs.length) ⟨(fun i : Nat => (⟨_, [(0, .o (.c (.ref 0))), (1, I (k + i)), (5, I i)], [.row 1 (els ((markS xs k).take i ++ xs.drop i)), .gh 0 (.c (.ref 0))]⟩ : St)) 0, W_go [0, 1] (by decide) rfl (rfl) (.cons rfl (.cons (I_eq (by omega)) (.cons rfl (.nil)))), 0, by omega, trivial, rfl⟩ ?_
  rintro m_A _ ⟨i, hk_A, hp_A, rfl⟩
  have hl2 : (els ((markS xs k).take i ++ xs.drop i)).length = xs.length := by rw [els_len]; simp [markS_len]; omega
  refine A_seq ?_; refine A_seq ?_; refine A_region ?_; refine M0 (q_moveC rfl rfl rfl) rfl rfl ?_; refine M0 (q_moveC rfl rfl rfl) rfl rfl ?_; refine M0 (q_lenr rfl rfl rfl rfl) rfl rfl ?_
  refine M0 (q_lss rfl rfl rfl rfl) rfl rfl ?_; refine L_nil ?_; refine T_n ?_
  refine A_cond rfl (fun h => ?_) (fun h => ?_)
  · have h3 : i < xs.length := by have := of_decide_eq_true h; omega
    have hi : i < ((markS xs k).take i ++ xs.drop i).length := by simp [markS_len]; omega
    have hat := els_at hi
    refine A_skip ?_; refine T_n ?_; refine A_seq ?_; refine A_block ?_; refine A_seq ?_; refine A_region ?_; refine M0 (q_moveC rfl rfl rfl) rfl rfl ?_; refine M0 (q_moveC rfl rfl rfl) rfl rfl ?_
    refine M0 (q_moveC rfl rfl rfl) rfl rfl ?_; refine M0 (q_call0 rfl rfl (L_markText (k + i) (by omega)) rfl) rfl rfl ?_
    refine M0 (q_ar rfl rfl rfl rfl rfl (by omega) (by omega)) rfl rfl ?_; refine M_ste1 rfl rfl rfl rfl rfl rfl rfl rfl rfl (by assumption) rfl rfl ?_; refine L_nil ?_; refine T_n ?_
    refine A_region ?_; refine M0 (q_moveC rfl rfl rfl) rfl rfl ?_; refine M0 (q_add rfl rfl rfl rfl (by omega)) rfl rfl ?_; refine M0 (q_assignC rfl rfl rfl) rfl rfl ?_; refine L_nil ?_
    refine B_n ?_; refine T_n ?_; refine A_region ?_; refine M0 (q_moveC rfl rfl rfl) rfl rfl ?_; refine M0 (q_add rfl rfl rfl rfl (by omega)) rfl rfl ?_
    refine M0 (q_assignC rfl rfl rfl) rfl rfl ?_; refine L_nil ?_; refine T_n ?_
    exact ⟨xs.length - (i + 1), by omega, (fun i : Nat => (⟨_, [(0, .o (.c (.ref 0))), (1, I (k + i)), (5, I i)], [.row 1 (els ((markS xs k).take i ++ xs.drop i)), .gh 0 (.c (.ref 0))]⟩ : St)) (i + 1), W_go [0, 1] (by decide) rfl (row2 (mark_next h3)) (.cons rfl (.cons (I_eq (by omega)) (.cons rfl (.nil)))), i + 1, by omega, trivial, rfl⟩
  · have h3 : ¬ ((i : Int) < (els ((markS xs k).take i ++ xs.drop i)).length) := of_decide_eq_false h
    have hi : i = xs.length := by omega
    have hm : (markS xs k).take i ++ xs.drop i = markS xs k := by rw [List.take_of_length_le (by rw [markS_len]; omega), List.drop_of_length_le (by omega), List.append_nil]
    refine A_exit ?_; refine T_x ?_; refine T_x ?_; refine B_xs ?_; refine T_n ?_; refine A_seq ?_; refine A_region ?_; refine M0 (q_moveC rfl rfl rfl) rfl rfl ?_
    refine M0 (q_assignC rfl rfl rfl) rfl rfl ?_; refine L_nil ?_; refine T_n ?_; refine A_ret ?_; refine F_r ?_
    exact E_tmp rfl rfl (W_end [0, 1] (by decide) rfl (row2 (by rw [hm])) (I_eq (by omega)))
set_option maxHeartbeats 8000000 in
theorem L_heldStringS (xs : List ByteArray) (k : Int) (hL : xs.length ≤ 1048576) (h0 : 0 < k) (hk : k ≤ 4294967296) : Con Try.prog 51 [] [al (markS xs k), ai k] [] (I (k + xs.length)) := by
  have hlx := els_len (markS xs k)
  rw [markS_len] at hlx
  refine Con.of Try.func51 rfl Try.ntmps51 rfl (fun E => ?_)
  refine A_seq ?_; refine A_region ?_; refine M0 (q_assignC rfl rfl rfl) rfl rfl ?_; refine L_nil ?_; refine T_n ?_; refine A_seq ?_; refine A_seq ?_; refine A_region ?_
  refine M0 (q_assignC rfl rfl rfl) rfl rfl ?_; refine L_nil ?_; refine T_n ?_; refine A_block ?_
  refine A_loop (fun m st => ∃ i : Nat, i + m = xs.length ∧ (True) ∧ st = (fun i : Nat => (⟨_, [(0, L (markS xs k)), (1, I (k + i)), (5, I i)], []⟩ : St)) i) (xs.length) ⟨(fun i : Nat => (⟨_, [(0, L (markS xs k)), (1, I (k + i)), (5, I i)], []⟩ : St)) 0, W_go [] (by decide) rfl (rfl) (.cons rfl (.cons (I_eq (by omega)) (.cons rfl (.nil)))), 0, by omega, trivial, rfl⟩ ?_
  rintro m_A _ ⟨i, hk_A, hp_A, rfl⟩
  refine A_seq ?_; refine A_seq ?_; refine A_region ?_; refine M0 (q_moveC rfl rfl rfl) rfl rfl ?_; refine M0 (q_moveC rfl rfl rfl) rfl rfl ?_; refine M0 (q_len rfl rfl rfl) rfl rfl ?_
  refine M0 (q_lss rfl rfl rfl rfl) rfl rfl ?_; refine L_nil ?_; refine T_n ?_
  refine A_cond rfl (fun h => ?_) (fun h => ?_)
  · have h3 : i < xs.length := by have := of_decide_eq_true h; omega
    have hi : i < (markS xs k).length := by rw [markS_len]; exact h3
    have hat := els_at hi
    have hx : (markS xs k)[i] = mtext (k + i) := by simp [markS]
    rw [hx] at hat
    have hne : decide (mtext (k + i) ≠ mtext (k + i)) = false := by simp
    refine A_skip ?_; refine T_n ?_; refine A_seq ?_; refine A_block ?_; refine A_seq ?_; refine A_seq ?_
    refine A_draw [[], [], [0, 1], [0, 1, 2], [], [4], [0, 1, 2, 3, 4, 5]] [[], [], [12, 13], [12, 13, 14], [], [16], [12, 13, 14, 15, 16, 17]] [[13, 16, 17], [12, 16, 17], [16, 17], [16, 17], [12, 13, 14, 15], [12, 13, 14, 15], []] rfl ?_
    refine DR.step (q_moveC rfl rfl rfl) rfl rfl ?_; refine DR.step (q_moveC rfl rfl rfl) rfl rfl ?_; refine DR.step (q_at rfl rfl rfl rfl (by omega) (by assumption) rfl) rfl rfl ?_
    refine DR.step (q_lr1 rfl rfl rfl rfl) rfl rfl ?_; refine DR.step (q_moveC rfl rfl rfl) rfl rfl ?_; refine DR.step (q_call0 rfl rfl (L_markText (k + i) (by omega)) rfl) rfl rfl ?_
    refine DR.step (q_sneqK rfl rfl rfl rfl (by assumption)) rfl rfl ?_; refine DR.stop (by kernel_rfl) (by kernel_rfl) ?_
    refine L_nil ?_; refine T_n ?_; refine A_ifF rfl ?_; refine A_skip ?_; refine T_n ?_; refine A_region ?_; refine M0 (q_moveC rfl rfl rfl) rfl rfl ?_
    refine M0 (q_add rfl rfl rfl rfl (by omega)) rfl rfl ?_; refine M0 (q_assignC rfl rfl rfl) rfl rfl ?_; refine L_nil ?_; refine B_n ?_; refine T_n ?_; refine A_region ?_
    refine M0 (q_moveC rfl rfl rfl) rfl rfl ?_; refine M0 (q_add rfl rfl rfl rfl (by omega)) rfl rfl ?_; refine M0 (q_assignC rfl rfl rfl) rfl rfl ?_; refine L_nil ?_; refine T_n ?_
    exact ⟨xs.length - (i + 1), by omega, (fun i : Nat => (⟨_, [(0, L (markS xs k)), (1, I (k + i)), (5, I i)], []⟩ : St)) (i + 1), W_go [] (by decide) rfl (rfl) (.cons rfl (.cons (I_eq (by omega)) (.cons rfl (.nil)))), i + 1, by omega, trivial, rfl⟩
  · have h3 : ¬ ((i : Int) < (els (markS xs k)).length) := of_decide_eq_false h
    refine A_exit ?_; refine T_x ?_; refine T_x ?_; refine B_xs ?_; refine T_n ?_; refine A_seq ?_; refine A_region ?_; refine M0 (q_moveC rfl rfl rfl) rfl rfl ?_
    refine M0 (q_assignC rfl rfl rfl) rfl rfl ?_; refine L_nil ?_; refine T_n ?_; refine A_ret ?_; refine F_r ?_
    exact E_tmp rfl rfl (W_end [] (by decide) rfl rfl (I_eq (by omega)))
set_option maxHeartbeats 8000000 in
theorem L_markLevel (xs : List ByteArray) (k : Int) (hL : xs.length ≤ 1048576) (h0 : 0 < k) (hk : k ≤ 4294967296) : Con Try.prog 29 [.row 1 (els xs), .gh 0 (.ag [.ref 0])] [.ag [.ref 0], ai k] [.row 1 (els (markS xs k)), .gh 0 (.ag [.ref 0])] (I (k + xs.length)) := by
  refine Con.of Try.func29 rfl Try.ntmps29 rfl (fun E => ?_)
  refine A_seq ?_; refine A_region ?_; refine M1 (q_boxN rfl rfl rfl rfl) rfl rfl ?_; refine M0 (q_assignC rfl rfl rfl) rfl rfl ?_; refine L_nil ?_; refine T_n ?_; refine A_seq ?_
  refine A_region ?_; refine M0 (q_fldp rfl rfl rfl rfl (by decide)) rfl rfl ?_; refine M0 (q_ld1 rfl rfl rfl rfl rfl) rfl rfl ?_; refine M0 (q_moveC rfl rfl rfl) rfl rfl ?_
  refine M_lent (lo := [_]) (gs := [(0, .c (.ref 0))]) (lo' := [_]) (new := []) [0] [(0, 0, .ref 0)] (L_markStringS xs k hL h0 hk) rfl rfl rfl rfl rfl rfl rfl rfl rfl rfl rfl rfl rfl rfl rfl rfl rfl ?_
  refine M0 (q_assignC rfl rfl rfl) rfl rfl ?_; refine L_nil ?_; refine T_n ?_; refine A_seq ?_; refine A_region ?_; refine M0 (q_moveC rfl rfl rfl) rfl rfl ?_
  refine M0 (q_assignC rfl rfl rfl) rfl rfl ?_; refine L_nil ?_; refine T_n ?_; refine A_ret ?_; refine F_r ?_
  exact E_tmp rfl rfl (W_end [0, 1] (by decide) rfl rfl rfl)
set_option maxHeartbeats 8000000 in
theorem L_heldLevel (xs : List ByteArray) (k : Int) (hL : xs.length ≤ 1048576) (h0 : 0 < k) (hk : k ≤ 4294967296) : Con Try.prog 50 [] [ag (⟨markS xs k⟩ : TLevel), ai k] [] (I (k + xs.length)) := by
  have hn : decide (k + (xs.length : Int) < 0) = false := decide_eq_false (by omega)
  refine Con.of Try.func50 rfl Try.ntmps50 rfl (fun E => ?_)
  refine A_seq ?_; refine A_region ?_; refine M1 (q_boxN rfl rfl rfl rfl) rfl rfl ?_; refine M0 (q_assignC rfl rfl rfl) rfl rfl ?_; refine L_nil ?_; refine T_n ?_; refine A_seq ?_
  refine A_region ?_; refine M0 (q_fldp rfl rfl rfl rfl (by decide)) rfl rfl ?_; refine M0 (q_ld1 rfl rfl rfl rfl rfl) rfl rfl ?_; refine M0 (q_moveC rfl rfl rfl) rfl rfl ?_
  refine M0 (q_call0 rfl rfl (L_heldStringS xs k hL h0 hk) rfl) rfl rfl ?_; refine M0 (q_assignC rfl rfl rfl) rfl rfl ?_; refine L_nil ?_; refine T_n ?_; refine A_seq ?_; refine A_seq ?_
  refine A_region ?_; refine M0 (q_moveC rfl rfl rfl) rfl rfl ?_; refine M0 (q_lssK rfl rfl rfl rfl (by assumption)) rfl rfl ?_; refine L_nil ?_; refine T_n ?_; refine A_ifF rfl ?_
  refine A_skip ?_; refine T_n ?_; refine A_seq ?_; refine A_region ?_; refine M0 (q_moveC rfl rfl rfl) rfl rfl ?_; refine M0 (q_assignC rfl rfl rfl) rfl rfl ?_; refine L_nil ?_; refine T_n ?_
  refine A_ret ?_; refine F_r ?_
  exact E_tmp rfl rfl (W_end [] (by decide) rfl rfl rfl)
set_option maxHeartbeats 8000000 in
theorem L_markIntSS0 (k : Int) : Con Try.prog 19 [.row 1 [], .gh 0 (.c (.ref 0))] [.c (.ref 0), ai k] [.row 1 [], .gh 0 (.c (.ref 0))] (I k) := by
  refine Con.of Try.func19 rfl Try.ntmps19 rfl (fun E => ?_)
  refine A_seq ?_; refine A_region ?_; refine M0 (q_assignC rfl rfl rfl) rfl rfl ?_; refine L_nil ?_; refine T_n ?_; refine A_seq ?_; refine A_seq ?_; refine A_region ?_
  refine M0 (q_assignC rfl rfl rfl) rfl rfl ?_; refine L_nil ?_; refine T_n ?_; refine A_block ?_
  refine A_loop (fun m st => ∃ i : Nat, i + m = 0 ∧ (True) ∧ st = (fun i : Nat => (⟨_, [(0, .o (.c (.ref 0))), (1, I k), (5, I i)], [.row 1 [], .gh 0 (.c (.ref 0))]⟩ : St)) i) (0) ⟨(fun i : Nat => (⟨_, [(0, .o (.c (.ref 0))), (1, I k), (5, I i)], [.row 1 [], .gh 0 (.c (.ref 0))]⟩ : St)) 0, W_go [0, 1] (by decide) rfl (rfl) (.cons rfl (.cons rfl (.cons rfl (.nil)))), 0, by omega, trivial, rfl⟩ ?_
  rintro m_A _ ⟨i, hk_A, hp_A, rfl⟩
  have hi : decide ((i : Int) < ([] : List (List T)).length) = false := decide_eq_false (by simp)
  refine A_seq ?_; refine A_seq ?_; refine A_region ?_; refine M0 (q_moveC rfl rfl rfl) rfl rfl ?_; refine M0 (q_moveC rfl rfl rfl) rfl rfl ?_; refine M0 (q_lenr rfl rfl rfl rfl) rfl rfl ?_
  refine M0 (q_lssK rfl rfl rfl rfl (by assumption)) rfl rfl ?_; refine L_nil ?_; refine T_n ?_; refine A_ifF rfl ?_; refine A_exit ?_; refine T_x ?_; refine T_x ?_; refine B_xs ?_; refine T_n ?_
  refine A_seq ?_; refine A_region ?_; refine M0 (q_moveC rfl rfl rfl) rfl rfl ?_; refine M0 (q_assignC rfl rfl rfl) rfl rfl ?_; refine L_nil ?_; refine T_n ?_; refine A_ret ?_; refine F_r ?_
  exact E_tmp rfl rfl (W_end [0, 1] (by decide) rfl rfl rfl)
set_option maxHeartbeats 8000000 in
theorem L_heldIntSS0 (k : Int) : Con Try.prog 20 [] [al ([] : List (List Int)), ai k] [] (I k) := by
  refine Con.of Try.func20 rfl Try.ntmps20 rfl (fun E => ?_)
  refine A_seq ?_; refine A_region ?_; refine M0 (q_assignC rfl rfl rfl) rfl rfl ?_; refine L_nil ?_; refine T_n ?_; refine A_seq ?_; refine A_seq ?_; refine A_region ?_
  refine M0 (q_assignC rfl rfl rfl) rfl rfl ?_; refine L_nil ?_; refine T_n ?_; refine A_block ?_
  refine A_loop (fun m st => ∃ i : Nat, i + m = 0 ∧ (True) ∧ st = (fun i : Nat => (⟨_, [(0, L ([] : List (List Int))), (1, I k), (5, I i)], []⟩ : St)) i) (0) ⟨(fun i : Nat => (⟨_, [(0, L ([] : List (List Int))), (1, I k), (5, I i)], []⟩ : St)) 0, W_go [] (by decide) rfl (rfl) (.cons rfl (.cons rfl (.cons rfl (.nil)))), 0, by omega, trivial, rfl⟩ ?_
  rintro m_A _ ⟨i, hk_A, hp_A, rfl⟩
  have hi : decide ((i : Int) < (els ([] : List (List Int))).length) = false := decide_eq_false (by simp [els])
  refine A_seq ?_; refine A_seq ?_; refine A_region ?_; refine M0 (q_moveC rfl rfl rfl) rfl rfl ?_; refine M0 (q_moveC rfl rfl rfl) rfl rfl ?_; refine M0 (q_len rfl rfl rfl) rfl rfl ?_
  refine M0 (q_lssK rfl rfl rfl rfl (by assumption)) rfl rfl ?_; refine L_nil ?_; refine T_n ?_; refine A_ifF rfl ?_; refine A_exit ?_; refine T_x ?_; refine T_x ?_; refine B_xs ?_; refine T_n ?_
  refine A_seq ?_; refine A_region ?_; refine M0 (q_moveC rfl rfl rfl) rfl rfl ?_; refine M0 (q_assignC rfl rfl rfl) rfl rfl ?_; refine L_nil ?_; refine T_n ?_; refine A_ret ?_; refine F_r ?_
  exact E_tmp rfl rfl (W_end [] (by decide) rfl rfl rfl)
set_option maxHeartbeats 8000000 in
theorem L_markReplay0 (rs ks : List ByteArray) (p s e k : Int) (h1 : rs.length ≤ 1048576) (h2 : ks.length ≤ 1048576) (h0 : 0 < k) (hk : k ≤ 1073741823) : Con Try.prog 14 [.row 1 (els rs), .row 1 [], .row 1 (els ks), .gh 0 (.ag [.ref 0, .rd [] (.v (.int .i64 p)), .rd [] (.v (.int .i64 s)), .rd [] (.v (.int .i64 e)), .ref 1, .ref 2])] [.ag [.ref 0, .rd [] (.v (.int .i64 p)), .rd [] (.v (.int .i64 s)), .rd [] (.v (.int .i64 e)), .ref 1, .ref 2], ai k]
    [.row 1 (els (markS rs k)), .row 1 [], .row 1 (els (markS ks (k + rs.length))), .gh 0 (.ag [.ref 0, .rd [] (.v (.int .i64 p)), .rd [] (.v (.int .i64 s)), .rd [] (.v (.int .i64 e)), .ref 1, .ref 2])] (I (k + rs.length + ks.length)) := by
  refine Con.of Try.func14 rfl Try.ntmps14 rfl (fun E => ?_)
  refine A_seq ?_; refine A_region ?_; refine M1 (q_boxN rfl rfl rfl rfl) rfl rfl ?_; refine M0 (q_assignC rfl rfl rfl) rfl rfl ?_; refine L_nil ?_; refine T_n ?_; refine A_seq ?_
  refine A_region ?_; refine M0 (q_fldp rfl rfl rfl rfl (by decide)) rfl rfl ?_; refine M0 (q_ldN rfl rfl rfl rfl rfl rfl) rfl rfl ?_; refine M0 (q_moveC rfl rfl rfl) rfl rfl ?_
  refine M_lent (lo := [_]) (gs := [(0, .ag [.ref 0])]) (lo' := [_]) (new := []) [0] [(0, 0, .ref 0)] (L_markLevel rs k h1 h0 (by omega)) rfl rfl rfl rfl rfl rfl rfl rfl rfl rfl rfl rfl rfl rfl rfl rfl rfl ?_
  refine M0 (q_assignC rfl rfl rfl) rfl rfl ?_; refine L_nil ?_; refine T_n ?_; refine A_seq ?_; refine A_region ?_; refine M0 (q_fldp rfl rfl rfl rfl (by decide)) rfl rfl ?_
  refine M0 (q_ld1 rfl rfl rfl rfl rfl) rfl rfl ?_; refine M0 (q_moveC rfl rfl rfl) rfl rfl ?_
  refine M_lent (lo := [_]) (gs := [(0, .c (.ref 0))]) (lo' := [_]) (new := []) [1] [(0, 0, .ref 0)] (L_markIntSS0 (k + rs.length)) rfl rfl rfl rfl rfl rfl rfl rfl rfl rfl rfl rfl rfl rfl rfl rfl rfl ?_
  refine M0 (q_assignC rfl rfl rfl) rfl rfl ?_; refine L_nil ?_; refine T_n ?_; refine A_seq ?_; refine A_region ?_; refine M0 (q_fldp rfl rfl rfl rfl (by decide)) rfl rfl ?_
  refine M0 (q_ld1 rfl rfl rfl rfl rfl) rfl rfl ?_; refine M0 (q_moveC rfl rfl rfl) rfl rfl ?_
  refine M_lent (lo := [_]) (gs := [(0, .c (.ref 0))]) (lo' := [_]) (new := []) [2] [(0, 0, .ref 0)] (L_markStringS ks (k + rs.length) h2 (by omega) (by omega)) rfl rfl rfl rfl rfl rfl rfl rfl rfl rfl rfl rfl rfl rfl rfl rfl rfl ?_
  refine M0 (q_assignC rfl rfl rfl) rfl rfl ?_; refine L_nil ?_; refine T_n ?_; refine A_seq ?_; refine A_region ?_; refine M0 (q_moveC rfl rfl rfl) rfl rfl ?_
  refine M0 (q_assignC rfl rfl rfl) rfl rfl ?_; refine L_nil ?_; refine T_n ?_; refine A_ret ?_; refine F_r ?_
  exact E_tmp rfl rfl (W_end [0, 1, 2, 3] (by decide) rfl rfl rfl)
set_option maxHeartbeats 8000000 in
theorem L_heldReplay0 (rs ks : List ByteArray) (p s e k : Int) (h1 : rs.length ≤ 1048576) (h2 : ks.length ≤ 1048576) (h0 : 0 < k) (hk : k ≤ 1073741823) : Con Try.prog 15 [] [ag (⟨⟨markS rs k⟩, p, s, e, [], markS ks (k + rs.length)⟩ : TReplay), ai k] [] (I (k + rs.length + ks.length)) := by
  have hn : decide (k + (rs.length : Int) < 0) = false := decide_eq_false (by omega)
  have hm : decide (k + (rs.length : Int) + ks.length < 0) = false := decide_eq_false (by omega)
  refine Con.of Try.func15 rfl Try.ntmps15 rfl (fun E => ?_)
  refine A_seq ?_; refine A_region ?_; refine M1 (q_boxN rfl rfl rfl rfl) rfl rfl ?_; refine M0 (q_assignC rfl rfl rfl) rfl rfl ?_; refine L_nil ?_; refine T_n ?_; refine A_seq ?_
  refine A_region ?_; refine M0 (q_fldp rfl rfl rfl rfl (by decide)) rfl rfl ?_; refine M0 (q_ldN rfl rfl rfl rfl rfl rfl) rfl rfl ?_; refine M0 (q_moveC rfl rfl rfl) rfl rfl ?_
  refine M0 (q_call0 rfl rfl (L_heldLevel rs k h1 h0 (by omega)) rfl) rfl rfl ?_; refine M0 (q_assignC rfl rfl rfl) rfl rfl ?_; refine L_nil ?_; refine T_n ?_; refine A_seq ?_; refine A_seq ?_
  refine A_region ?_; refine M0 (q_moveC rfl rfl rfl) rfl rfl ?_; refine M0 (q_lssK rfl rfl rfl rfl (by assumption)) rfl rfl ?_; refine L_nil ?_; refine T_n ?_; refine A_ifF rfl ?_
  refine A_skip ?_; refine T_n ?_; refine A_seq ?_; refine A_region ?_; refine M0 (q_fldp rfl rfl rfl rfl (by decide)) rfl rfl ?_; refine M0 (q_ld1 rfl rfl rfl rfl rfl) rfl rfl ?_
  refine M0 (q_moveC rfl rfl rfl) rfl rfl ?_; refine M0 (q_call0 rfl rfl (L_heldIntSS0 (k + rs.length)) rfl) rfl rfl ?_; refine M0 (q_assignC rfl rfl rfl) rfl rfl ?_; refine L_nil ?_
  refine T_n ?_; refine A_seq ?_; refine A_seq ?_; refine A_region ?_; refine M0 (q_moveC rfl rfl rfl) rfl rfl ?_; refine M0 (q_lssK rfl rfl rfl rfl (by assumption)) rfl rfl ?_; refine L_nil ?_
  refine T_n ?_; refine A_ifF rfl ?_; refine A_skip ?_; refine T_n ?_; refine A_seq ?_; refine A_region ?_; refine M0 (q_fldp rfl rfl rfl rfl (by decide)) rfl rfl ?_
  refine M0 (q_ld1 rfl rfl rfl rfl rfl) rfl rfl ?_; refine M0 (q_moveC rfl rfl rfl) rfl rfl ?_
  refine M0 (q_call0 rfl rfl (L_heldStringS ks (k + rs.length) h2 (by omega) (by omega)) rfl) rfl rfl ?_; refine M0 (q_assignC rfl rfl rfl) rfl rfl ?_; refine L_nil ?_; refine T_n ?_
  refine A_seq ?_; refine A_seq ?_; refine A_region ?_; refine M0 (q_moveC rfl rfl rfl) rfl rfl ?_; refine M0 (q_lssK rfl rfl rfl rfl (by assumption)) rfl rfl ?_; refine L_nil ?_; refine T_n ?_
  refine A_ifF rfl ?_; refine A_skip ?_; refine T_n ?_; refine A_seq ?_; refine A_region ?_; refine M0 (q_moveC rfl rfl rfl) rfl rfl ?_; refine M0 (q_assignC rfl rfl rfl) rfl rfl ?_
  refine L_nil ?_; refine T_n ?_; refine A_ret ?_; refine F_r ?_
  exact E_tmp rfl rfl (W_end [] (by decide) rfl rfl rfl)
end Go.Proofs.Ytkfnaniegldfaaa
