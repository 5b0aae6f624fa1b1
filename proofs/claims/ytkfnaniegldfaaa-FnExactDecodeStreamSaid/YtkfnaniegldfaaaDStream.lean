/-
  Streams of rows as bytes: EncodeStream, in the program and in the reference.
  Conditions: none.
-/
import Derived.Test.YtkfnaniegldfaaaDTrack
set_option linter.unusedSimpArgs false
set_option linter.unusedVariables false
namespace Go.Proofs.Ytkfnaniegldfaaa
open Go.RowKit

/-- The inputs of one player. -/
def colM (rows : List (List Int)) (p : Nat) : List Int := rows.map fun r => r.getD p 0
def colsB (rows : List (List Int)) : Nat → ByteArray
  | 0 => bs []
  | p + 1 => colsB rows p ++ packText (packTrack (colM rows p))
theorem colsB_size (rows : List (List Int)) : ∀ p, (colsB rows p).size ≤ 2406 * p
  | 0 => by simp [colsB, bs_size]
  | p + 1 => by
    rw [colsB, cat_size]
    have h1 := colsB_size rows p
    have h2 := packText_size (packTrack (colM rows p))
    have h3 := packTrack_size (colM rows p)
    omega
theorem colM_len (rows : List (List Int)) (p : Nat) : (colM rows p).length = rows.length := by simp [colM]
theorem colM_gd {rows : List (List Int)} (hg : Enc.gd rows) (p : Nat) : Enc.gd (colM rows p) := by
  refine ⟨by rw [colM_len]; exact hg.1, fun x hx => ?_⟩
  obtain ⟨r, h1, rfl⟩ := List.mem_map.1 hx
  rw [List.getD_eq_getElem?_getD]
  cases h : r[p]? with
  | none => exact ⟨by decide, by decide⟩
  | some y => exact (hg.2 r h1).2 y (List.mem_of_getElem? h)
theorem colM_next {rows : List (List Int)} {p k : Nat} (hk : k < rows.length) (hp : p < rows[k].length) : els (colM (rows.take k) p) ++ [[.v (.int .i64 rows[k][p])]] = els (colM (rows.take (k + 1)) p) := by
  have h1 : rows[k].getD p 0 = rows[k][p] := by simp [List.getD_eq_getElem?_getD, hp]
  rw [List.take_succ_eq_append_getElem hk]
  unfold colM els
  rw [List.map_append, List.map_append, List.map_cons, List.map_nil, List.map_cons, List.map_nil, h1]
  rfl
set_option maxHeartbeats 8000000 in
theorem S_column (rows : List (List Int)) (p : Nat) (hg : Enc.gd rows) (hL : rows.length ≤ 400) (hall : ∀ r ∈ rows, p < r.length) : Con Try.prog 67 [] [al rows, ai p] [.row 1 (els (colM rows p))] (.o (.c (.ref 0))) := by
  have hlx := els_len rows
  refine Con.of Try.func67 rfl Try.ntmps67 rfl (fun E => ?_)
  refine A_seq ?_; refine A_region ?_; refine M0 (q_assignC rfl rfl rfl) rfl rfl ?_; refine L_nil ?_; refine T_n ?_; refine A_seq ?_; refine A_region ?_
  refine M1 (q_bslice0 rfl rfl rfl) rfl rfl ?_; refine M0 (q_assignC rfl rfl rfl) rfl rfl ?_; refine L_nil ?_; refine T_n ?_; refine A_seq ?_; refine A_seq ?_; refine A_region ?_
  refine M0 (q_assignC rfl rfl rfl) rfl rfl ?_; refine L_nil ?_; refine T_n ?_; refine A_block ?_
  refine A_loop (fun m st => ∃ k : Nat, k + m = rows.length ∧ (True) ∧ st = (fun k : Nat => (⟨_, [(0, L rows), (1, I p), (5, .o (.c (.ref 0))), (6, I k)], [.row 1 (els (colM (rows.take k) p))]⟩ : St)) k) (rows.length) ⟨(fun k : Nat => (⟨_, [(0, L rows), (1, I p), (5, .o (.c (.ref 0))), (6, I k)], [.row 1 (els (colM (rows.take k) p))]⟩ : St)) 0, W_go [0] (by decide) rfl (rfl) (.cons rfl (.cons rfl (.cons rfl (.cons rfl (.nil))))), 0, by omega, trivial, rfl⟩ ?_
  rintro m_A _ ⟨k, hk_A, hp_A, rfl⟩
  refine A_seq ?_; refine A_seq ?_; refine A_region ?_; refine M0 (q_moveC rfl rfl rfl) rfl rfl ?_; refine M0 (q_moveC rfl rfl rfl) rfl rfl ?_; refine M0 (q_len rfl rfl rfl) rfl rfl ?_
  refine M0 (q_lss rfl rfl rfl rfl) rfl rfl ?_; refine L_nil ?_; refine T_n ?_
  refine A_cond rfl (fun h => ?_) (fun h => ?_)
  · have h3 : k < rows.length := by have := of_decide_eq_true h; omega
    have hat := els_at h3
    have hp := hall _ (List.getElem_mem h3)
    have hat2 := els_at hp
    have hlc : (els (colM (rows.take k) p)).length = k := by rw [els_len, colM_len]; simp; omega
    refine A_skip ?_; refine T_n ?_; refine A_seq ?_; refine A_block ?_; refine A_region ?_; refine M0 (q_moveC rfl rfl rfl) rfl rfl ?_; refine M0 (q_moveC rfl rfl rfl) rfl rfl ?_
    refine M0 (q_moveC rfl rfl rfl) rfl rfl ?_; refine M0 (q_at rfl rfl rfl rfl (by omega) (by assumption) rfl) rfl rfl ?_; refine M0 (q_lr1 rfl rfl rfl rfl) rfl rfl ?_
    refine M0 (q_moveC rfl rfl rfl) rfl rfl ?_; refine M0 (q_at rfl rfl rfl rfl (by omega) (by assumption) rfl) rfl rfl ?_; refine M0 (q_lr1 rfl rfl rfl rfl) rfl rfl ?_
    refine M1 (q_bslice rfl rfl rfl rfl rfl rfl) rfl rfl ?_; refine M_appsb rfl rfl rfl rfl rfl rfl rfl rfl rfl rfl (by omega) (by omega) ?_; refine M0 (q_assignC rfl rfl rfl) rfl rfl ?_
    refine L_nil ?_; refine B_n ?_; refine T_n ?_; refine A_region ?_; refine M0 (q_moveC rfl rfl rfl) rfl rfl ?_; refine M0 (q_add rfl rfl rfl rfl (by omega)) rfl rfl ?_
    refine M0 (q_assignC rfl rfl rfl) rfl rfl ?_; refine L_nil ?_; refine T_n ?_
    exact ⟨rows.length - (k + 1), by omega, (fun k : Nat => (⟨_, [(0, L rows), (1, I p), (5, .o (.c (.ref 0))), (6, I k)], [.row 1 (els (colM (rows.take k) p))]⟩ : St)) (k + 1), W_go [0] (by decide) rfl (row_eq (colM_next h3 hp).symm) (.cons rfl (.cons rfl (.cons rfl (.cons rfl (.nil))))), k + 1, by omega, trivial, rfl⟩
  · have h3 : ¬ ((k : Int) < (els rows).length) := of_decide_eq_false h
    have hk : rows.take k = rows := List.take_of_length_le (by omega)
    refine A_exit ?_; refine T_x ?_; refine T_x ?_; refine B_xs ?_; refine T_n ?_; refine A_seq ?_; refine A_region ?_; refine M0 (q_moveC rfl rfl rfl) rfl rfl ?_
    refine M0 (q_assignC rfl rfl rfl) rfl rfl ?_; refine L_nil ?_; refine T_n ?_; refine A_ret ?_; refine F_r ?_
    exact E_tmp rfl rfl (W_end [0] (by decide) rfl (row_eq (by rw [hk])) rfl)
set_option maxHeartbeats 8000000 in
theorem I_packColumns (rows : List (List Int)) (p : Nat) (hg : Enc.gd rows) (hL : rows.length ≤ 400) (hp4 : p ≤ 4) (hall : ∀ r ∈ rows, r.length = p) : Con Try.prog 73 [] [al rows, ai p] [] (S (colsB rows p)) := by
  have hlx := els_len rows
  refine Con.of Try.func73 rfl Try.ntmps73 rfl (fun E => ?_)
  refine A_seq ?_; refine A_region ?_; refine M0 (q_assignC rfl rfl rfl) rfl rfl ?_; refine L_nil ?_; refine T_n ?_; refine A_seq ?_; refine A_region ?_
  refine M0 (q_assignC rfl rfl rfl) rfl rfl ?_; refine L_nil ?_; refine T_n ?_; refine A_seq ?_; refine A_seq ?_; refine A_region ?_; refine M0 (q_assignC rfl rfl rfl) rfl rfl ?_; refine L_nil ?_
  refine T_n ?_; refine A_block ?_
  refine A_loop (fun m st => ∃ q : Nat, q + m = p ∧ (True) ∧ st = (fun q : Nat => (⟨_, [(0, L rows), (1, I p), (5, S (colsB rows q)), (6, I q)], []⟩ : St)) q) (p) ⟨(fun q : Nat => (⟨_, [(0, L rows), (1, I p), (5, S (colsB rows q)), (6, I q)], []⟩ : St)) 0, W_go [] (by decide) rfl (rfl) (.cons rfl (.cons rfl (.cons rfl (.cons rfl (.nil))))), 0, by omega, trivial, rfl⟩ ?_
  rintro m_A _ ⟨q, hk_A, hp_A, rfl⟩
  refine A_seq ?_; refine A_seq ?_; refine A_region ?_; refine M0 (q_moveC rfl rfl rfl) rfl rfl ?_; refine M0 (q_moveC rfl rfl rfl) rfl rfl ?_; refine M0 (q_lss rfl rfl rfl rfl) rfl rfl ?_
  refine L_nil ?_; refine T_n ?_
  refine A_cond rfl (fun h => ?_) (fun h => ?_)
  · have hq : q < p := by have := of_decide_eq_true h; omega
    refine A_skip ?_; refine T_n ?_; refine A_seq ?_; refine A_block ?_; refine A_seq ?_; refine A_region ?_; refine M0 (q_assignC rfl rfl rfl) rfl rfl ?_; refine L_nil ?_; refine T_n ?_
    refine A_seq ?_; refine A_seq ?_; refine A_region ?_; refine M0 (q_moveC rfl rfl rfl) rfl rfl ?_; refine M0 (q_len rfl rfl rfl) rfl rfl ?_; refine M0 (q_moveC rfl rfl rfl) rfl rfl ?_
    refine L_nil ?_; refine T_n ?_; refine A_block ?_
    refine AWP.pre ?_ (W_nil 7 1 rfl)
    skip
    refine A_loop (fun m st => ∃ k : Nat, k + m = rows.length ∧ (True) ∧ st = (fun k : Nat => (⟨_, [(0, L rows), (1, I p), (5, S (colsB rows q)), (6, I q), (7, .o (.c (.ref 0))), (15, L rows), (16, I (els rows).length), (17, I k)], [.row 1 (els (colM (rows.take k) q))]⟩ : St)) k) (rows.length) ⟨(fun k : Nat => (⟨_, [(0, L rows), (1, I p), (5, S (colsB rows q)), (6, I q), (7, .o (.c (.ref 0))), (15, L rows), (16, I (els rows).length), (17, I k)], [.row 1 (els (colM (rows.take k) q))]⟩ : St)) 0, W_go [0] (by decide) rfl (rfl) (.cons rfl (.cons rfl (.cons rfl (.cons rfl (.cons rfl (.cons rfl (.cons rfl (.cons rfl (.nil))))))))), 0, by omega, trivial, rfl⟩ ?_
    rintro m_D _ ⟨k, hk_D, hp_D, rfl⟩
    refine A_seq ?_; refine A_region ?_; refine M0 (q_lss rfl rfl rfl rfl) rfl rfl ?_; refine L_nil ?_; refine T_n ?_; refine A_seq ?_
    refine A_cond rfl (fun h => ?_) (fun h => ?_)
    · have h3 : k < rows.length := by have := of_decide_eq_true h; omega
      have hat := els_at h3
      have hp := hall _ (List.getElem_mem h3)
      have hat2 := els_at (show q < rows[k].length by omega)
      have hlc : (els (colM (rows.take k) q)).length = k := by rw [els_len, colM_len]; simp; omega
      refine A_skip ?_; refine T_n ?_; refine A_seq ?_; refine A_block ?_; refine A_seq ?_; refine A_region ?_; refine M0 (q_at rfl rfl rfl rfl (by omega) (by assumption) rfl) rfl rfl ?_
      refine M0 (q_lr1 rfl rfl rfl rfl) rfl rfl ?_; refine M0 (q_assignC rfl rfl rfl) rfl rfl ?_; refine L_nil ?_; refine T_n ?_; refine A_region ?_; refine M0 (q_moveC rfl rfl rfl) rfl rfl ?_
      refine M0 (q_moveC rfl rfl rfl) rfl rfl ?_; refine M0 (q_moveC rfl rfl rfl) rfl rfl ?_; refine M0 (q_at rfl rfl rfl rfl (by omega) (by assumption) rfl) rfl rfl ?_
      refine M0 (q_lr1 rfl rfl rfl rfl) rfl rfl ?_; refine M1 (q_bslice rfl rfl rfl rfl rfl rfl) rfl rfl ?_; refine M_appsb rfl rfl rfl rfl rfl rfl rfl rfl rfl rfl (by omega) (by omega) ?_
      refine M0 (q_assignC rfl rfl rfl) rfl rfl ?_; refine L_nil ?_; refine B_n ?_; refine T_n ?_; refine A_region ?_; refine M0 (q_add rfl rfl rfl rfl (by omega)) rfl rfl ?_
      refine M0 (q_moveC rfl rfl rfl) rfl rfl ?_; refine L_nil ?_; refine T_n ?_
      exact ⟨rows.length - (k + 1), by omega, (fun k : Nat => (⟨_, [(0, L rows), (1, I p), (5, S (colsB rows q)), (6, I q), (7, .o (.c (.ref 0))), (15, L rows), (16, I (els rows).length), (17, I k)], [.row 1 (els (colM (rows.take k) q))]⟩ : St)) (k + 1), W_go [0] (by decide) rfl (row_eq (colM_next h3 (by omega)).symm) (.cons rfl (.cons rfl (.cons rfl (.cons rfl (.cons rfl (.cons rfl (.cons rfl (.cons rfl (.nil))))))))), k + 1, by omega, trivial, rfl⟩
    · have h3 : ¬ ((k : Int) < (els rows).length) := of_decide_eq_false h
      have hk : rows.take k = rows := List.take_of_length_le (by omega)
      have hs1 := colsB_size rows q
      have hs2 := packTrack_size (colM rows q)
      have hs3 := packText_size (packTrack (colM rows q))
      rw [hk]
      refine A_exit ?_; refine T_x ?_; refine T_x ?_; refine B_xs ?_; refine T_n ?_; refine A_region ?_; refine M0 (q_moveC rfl rfl rfl) rfl rfl ?_; refine M0 (q_moveC rfl rfl rfl) rfl rfl ?_
      refine M0 (q_call0 rfl rfl (I_PackTrack (colM rows q) (colM_gd hg q)) rfl) rfl rfl ?_; refine M0 (q_call0 rfl rfl (I_PackText (packTrack (colM rows q)) (by omega)) rfl) rfl rfl ?_
      refine M0 (q_cat rfl rfl rfl rfl (by omega)) rfl rfl ?_; refine M0 (q_assignC rfl rfl rfl) rfl rfl ?_; refine L_nil ?_; refine B_n ?_; refine T_n ?_; refine A_region ?_
      refine M0 (q_moveC rfl rfl rfl) rfl rfl ?_; refine M0 (q_add rfl rfl rfl rfl (by omega)) rfl rfl ?_; refine M0 (q_assignC rfl rfl rfl) rfl rfl ?_; refine L_nil ?_; refine T_n ?_
      exact ⟨p - (q + 1), by omega, (fun q : Nat => (⟨_, [(0, L rows), (1, I p), (5, S (colsB rows q)), (6, I q)], []⟩ : St)) (q + 1), W_go [] (by decide) rfl (rfl) (.cons rfl (.cons rfl (.cons rfl (.cons rfl (.nil))))), q + 1, by omega, trivial, rfl⟩
  · have hq : q = p := by have := of_decide_eq_false h; omega
    refine A_exit ?_; refine T_x ?_; refine T_x ?_; refine B_xs ?_; refine T_n ?_; refine A_seq ?_; refine A_region ?_; refine M0 (q_moveC rfl rfl rfl) rfl rfl ?_
    refine M0 (q_assignC rfl rfl rfl) rfl rfl ?_; refine L_nil ?_; refine T_n ?_; refine A_ret ?_; refine F_r ?_
    exact E_tmp rfl rfl (W_end [] (by decide) rfl rfl (S_eq (by rw [hq])))

theorem app_nil (s : ByteArray) : s ++ bs [] = s := by
  apply ByteArray.ext
  rw [ByteArray.data_append]
  simp [bs]
def encodeStream (first : Int) (rows : List (List Int)) : ByteArray :=
  if inR first 0 400 = true ∧ inR rows.length 1 20 = true ∧ inR (rows.headD []).length 1 4 = true ∧ (rows.all fun r => rowOk r (rows.headD []).length) = true then
    sealText (packInts [first, (rows.length : Int), ((rows.headD []).length : Int)] ++ colsB rows (rows.headD []).length) else bs []
theorem head_at {rows : List (List Int)} (h : 0 < rows.length) : rows.headD [] = rows[0] := by
  cases rows with
  | nil => simp at h
  | cons r rs => rfl
theorem rows_len {rows : List (List Int)} {n : Nat} (h : (rows.all fun r => rowOk r n) = true) : ∀ r ∈ rows, r.length = n := fun r hr => by
  have := List.all_eq_true.1 h r hr
  simp [rowOk] at this
  omega

set_option maxHeartbeats 8000000 in
theorem S_EncodeStream (first : Int) (rows : List (List Int)) (hf : I64 first) (hg : Enc.gd rows) : Con Try.prog 55 [] [ai first, al rows] [] (S (encodeStream first rows)) := by
  have hlx := els_len rows
  have hg1 := hg.1
  have c1 := S_in first 0 400
  have c2 := S_in (els rows).length 1 20
  by_cases hf1 : inR first 0 400 = true
  case neg =>
    have hf1 : inR first 0 400 = false := by simpa using hf1
    rw [hf1] at c1
    refine Con.of Try.func55 rfl Try.ntmps55 rfl (fun E => ?_)
    refine A_seq ?_; refine A_region ?_; refine M0 (q_assignC rfl rfl rfl) rfl rfl ?_; refine L_nil ?_; refine T_n ?_; refine A_seq ?_; refine A_seq ?_; refine A_region ?_
    refine M0 (q_moveC rfl rfl rfl) rfl rfl ?_; refine M0 (q_call0 rfl rfl (c1) rfl) rfl rfl ?_; refine M0 (q_not rfl rfl rfl) rfl rfl ?_; refine M0 (q_moveC rfl rfl rfl) rfl rfl ?_
    refine M_no rfl rfl rfl rfl rfl rfl ?_; refine M_no rfl rfl rfl rfl rfl rfl ?_; refine M_no rfl rfl rfl rfl rfl rfl ?_; refine M_no rfl rfl rfl rfl rfl rfl ?_
    refine M0 (q_pickT rfl rfl rfl rfl) rfl rfl ?_; refine M0 (q_moveC rfl rfl rfl) rfl rfl ?_; refine M_no rfl rfl rfl rfl rfl rfl ?_; refine M_no rfl rfl rfl rfl rfl rfl ?_
    refine M_no rfl rfl rfl rfl rfl rfl ?_; refine M_no rfl rfl rfl rfl rfl rfl ?_; refine M_no rfl rfl rfl rfl rfl rfl ?_; refine M_no rfl rfl rfl rfl rfl rfl ?_
    refine M0 (q_pickT rfl rfl rfl rfl) rfl rfl ?_; refine L_nil ?_; refine T_n ?_; refine A_ifT rfl ?_; refine A_seq ?_; refine A_region ?_; refine M0 (q_assignC rfl rfl rfl) rfl rfl ?_
    refine L_nil ?_; refine T_n ?_; refine A_ret ?_; refine T_r ?_; refine F_r ?_
    exact E_tmp rfl rfl (W_end [] (by decide) rfl rfl (S_eq (by rw [encodeStream, if_neg (by simp [hf1])])))
  rw [hf1] at c1
  by_cases hf2 : inR (els rows).length 1 20 = true
  case neg =>
    have hf2 : inR (els rows).length 1 20 = false := by simpa using hf2
    rw [hf2] at c2
    rw [hlx] at hf2
    refine Con.of Try.func55 rfl Try.ntmps55 rfl (fun E => ?_)
    refine A_seq ?_; refine A_region ?_; refine M0 (q_assignC rfl rfl rfl) rfl rfl ?_; refine L_nil ?_; refine T_n ?_; refine A_seq ?_; refine A_seq ?_; refine A_region ?_
    refine M0 (q_moveC rfl rfl rfl) rfl rfl ?_; refine M0 (q_call0 rfl rfl (c1) rfl) rfl rfl ?_; refine M0 (q_not rfl rfl rfl) rfl rfl ?_; refine M0 (q_moveC rfl rfl rfl) rfl rfl ?_
    refine M_yes rfl rfl rfl ?_; refine M0 (q_moveC rfl rfl rfl) rfl rfl ?_; refine M_yes rfl rfl rfl ?_; refine M0 (q_len rfl rfl rfl) rfl rfl ?_; refine M_yes rfl rfl rfl ?_
    refine M0 (q_call0 rfl rfl (c2) rfl) rfl rfl ?_; refine M_yes rfl rfl rfl ?_; refine M0 (q_not rfl rfl rfl) rfl rfl ?_; refine M0 (q_pickF rfl rfl rfl rfl) rfl rfl ?_
    refine M0 (q_moveC rfl rfl rfl) rfl rfl ?_; refine M_no rfl rfl rfl rfl rfl rfl ?_; refine M_no rfl rfl rfl rfl rfl rfl ?_; refine M_no rfl rfl rfl rfl rfl rfl ?_
    refine M_no rfl rfl rfl rfl rfl rfl ?_; refine M_no rfl rfl rfl rfl rfl rfl ?_; refine M_no rfl rfl rfl rfl rfl rfl ?_; refine M0 (q_pickT rfl rfl rfl rfl) rfl rfl ?_; refine L_nil ?_
    refine T_n ?_; refine A_ifT rfl ?_; refine A_seq ?_; refine A_region ?_; refine M0 (q_assignC rfl rfl rfl) rfl rfl ?_; refine L_nil ?_; refine T_n ?_; refine A_ret ?_; refine T_r ?_; refine F_r ?_
    exact E_tmp rfl rfl (W_end [] (by decide) rfl rfl (S_eq (by rw [encodeStream, if_neg (by simp [hf2])])))
  rw [hf2] at c2
  rw [hlx] at hf2
  have h20 := inR_iff.1 hf2
  have h0 : 0 < rows.length := by omega
  have hat0 : (els rows)[(0 : Int).toNat]? = some (Enc.e rows[0]) := els_at h0
  have hh := head_at h0
  have hg0 := hg.2 _ (List.getElem_mem h0)
  have hg01 := hg0.1
  have hl0 := els_len rows[0]
  have c3 := S_in (els rows[0]).length 1 4
  by_cases hf3 : inR (els rows[0]).length 1 4 = true
  case neg =>
    have hf3 : inR (els rows[0]).length 1 4 = false := by simpa using hf3
    rw [hf3] at c3
    rw [hl0] at hf3
    refine Con.of Try.func55 rfl Try.ntmps55 rfl (fun E => ?_)
    refine A_seq ?_; refine A_region ?_; refine M0 (q_assignC rfl rfl rfl) rfl rfl ?_; refine L_nil ?_; refine T_n ?_; refine A_seq ?_; refine A_seq ?_; refine A_region ?_
    refine M0 (q_moveC rfl rfl rfl) rfl rfl ?_; refine M0 (q_call0 rfl rfl (c1) rfl) rfl rfl ?_; refine M0 (q_not rfl rfl rfl) rfl rfl ?_; refine M0 (q_moveC rfl rfl rfl) rfl rfl ?_
    refine M_yes rfl rfl rfl ?_; refine M0 (q_moveC rfl rfl rfl) rfl rfl ?_; refine M_yes rfl rfl rfl ?_; refine M0 (q_len rfl rfl rfl) rfl rfl ?_; refine M_yes rfl rfl rfl ?_
    refine M0 (q_call0 rfl rfl (c2) rfl) rfl rfl ?_; refine M_yes rfl rfl rfl ?_; refine M0 (q_not rfl rfl rfl) rfl rfl ?_; refine M0 (q_pickF rfl rfl rfl rfl) rfl rfl ?_
    refine M0 (q_moveC rfl rfl rfl) rfl rfl ?_; refine M_yes rfl rfl rfl ?_; refine M0 (q_moveC rfl rfl rfl) rfl rfl ?_; refine M_yes rfl rfl rfl ?_
    refine M0 (q_at rfl rfl rfl rfl (by omega) (by assumption) rfl) rfl rfl ?_; refine M_yes rfl rfl rfl ?_; refine M0 (q_lr1 rfl rfl rfl rfl) rfl rfl ?_; refine M_yes rfl rfl rfl ?_
    refine M0 (q_len rfl rfl rfl) rfl rfl ?_; refine M_yes rfl rfl rfl ?_; refine M0 (q_call0 rfl rfl (c3) rfl) rfl rfl ?_; refine M_yes rfl rfl rfl ?_
    refine M0 (q_not rfl rfl rfl) rfl rfl ?_; refine M0 (q_pickF rfl rfl rfl rfl) rfl rfl ?_; refine L_nil ?_; refine T_n ?_; refine A_ifT rfl ?_; refine A_seq ?_; refine A_region ?_
    refine M0 (q_assignC rfl rfl rfl) rfl rfl ?_; refine L_nil ?_; refine T_n ?_; refine A_ret ?_; refine T_r ?_; refine F_r ?_
    exact E_tmp rfl rfl (W_end [] (by decide) rfl rfl (S_eq (by rw [encodeStream, hh, if_neg (by simp [hf3])])))
  rw [hf3] at c3
  rw [hl0] at hf3
  have h4 := inR_iff.1 hf3
  refine Con.of Try.func55 rfl Try.ntmps55 rfl (fun E => ?_)
  refine A_seq ?_; refine A_region ?_; refine M0 (q_assignC rfl rfl rfl) rfl rfl ?_; refine L_nil ?_; refine T_n ?_; refine A_seq ?_; refine A_seq ?_; refine A_region ?_
  refine M0 (q_moveC rfl rfl rfl) rfl rfl ?_; refine M0 (q_call0 rfl rfl (c1) rfl) rfl rfl ?_; refine M0 (q_not rfl rfl rfl) rfl rfl ?_; refine M0 (q_moveC rfl rfl rfl) rfl rfl ?_
  refine M_yes rfl rfl rfl ?_; refine M0 (q_moveC rfl rfl rfl) rfl rfl ?_; refine M_yes rfl rfl rfl ?_; refine M0 (q_len rfl rfl rfl) rfl rfl ?_; refine M_yes rfl rfl rfl ?_
  refine M0 (q_call0 rfl rfl (c2) rfl) rfl rfl ?_; refine M_yes rfl rfl rfl ?_; refine M0 (q_not rfl rfl rfl) rfl rfl ?_; refine M0 (q_pickF rfl rfl rfl rfl) rfl rfl ?_
  refine M0 (q_moveC rfl rfl rfl) rfl rfl ?_; refine M_yes rfl rfl rfl ?_; refine M0 (q_moveC rfl rfl rfl) rfl rfl ?_; refine M_yes rfl rfl rfl ?_
  refine M0 (q_at rfl rfl rfl rfl (by omega) (by assumption) rfl) rfl rfl ?_; refine M_yes rfl rfl rfl ?_; refine M0 (q_lr1 rfl rfl rfl rfl) rfl rfl ?_; refine M_yes rfl rfl rfl ?_
  refine M0 (q_len rfl rfl rfl) rfl rfl ?_; refine M_yes rfl rfl rfl ?_; refine M0 (q_call0 rfl rfl (c3) rfl) rfl rfl ?_; refine M_yes rfl rfl rfl ?_
  refine M0 (q_not rfl rfl rfl) rfl rfl ?_; refine M0 (q_pickF rfl rfl rfl rfl) rfl rfl ?_; refine L_nil ?_; refine T_n ?_; refine A_ifF rfl ?_; refine A_skip ?_; refine T_n ?_; refine A_seq ?_
  refine A_seq ?_; refine A_region ?_; refine M0 (q_assignC rfl rfl rfl) rfl rfl ?_; refine L_nil ?_; refine T_n ?_; refine A_block ?_
  refine A_loop (fun m st => ∃ k : Nat, k + m = rows.length ∧ ((rows.take k).all (fun r => rowOk r rows[0].length) = true) ∧ st = (fun k : Nat => (⟨_, [(0, I first), (1, L rows), (5, I k)], []⟩ : St)) k) (rows.length) ⟨(fun k : Nat => (⟨_, [(0, I first), (1, L rows), (5, I k)], []⟩ : St)) 0, W_go [] (by decide) rfl (rfl) (.cons rfl (.cons rfl (.cons rfl (.nil)))), 0, by omega, by simp, rfl⟩ ?_
  rintro m_A _ ⟨k, hk_A, hp_A, rfl⟩
  refine A_seq ?_; refine A_seq ?_; refine A_region ?_; refine M0 (q_moveC rfl rfl rfl) rfl rfl ?_; refine M0 (q_moveC rfl rfl rfl) rfl rfl ?_; refine M0 (q_len rfl rfl rfl) rfl rfl ?_
  refine M0 (q_lss rfl rfl rfl rfl) rfl rfl ?_; refine L_nil ?_; refine T_n ?_
  refine A_cond rfl (fun h => ?_) (fun h => ?_)
  · have h3 : k < rows.length := by have := of_decide_eq_true h; omega
    have hat := els_at h3
    have hc := S_rowOk rows[k] (els rows[0]).length (hg.2 _ (List.getElem_mem h3))
    rw [show rowOk rows[k] ((els rows[0]).length : Int) = rowOk rows[k] (rows[0].length : Int) by rw [hl0]] at hc
    refine A_skip ?_; refine T_n ?_; refine A_seq ?_; refine A_block ?_; refine A_seq ?_
    refine A_draw [[], [], [0, 1], [0, 1, 2], [], [4], [4, 5], [4, 5, 6], [0, 1, 2, 3, 4, 5, 6, 7], [0, 1, 2, 3, 4, 5, 6, 7, 8]] [[], [], [31, 32], [31, 32, 33], [], [35], [35, 36], [35, 36, 37], [31, 32, 33, 34, 35, 36, 37, 38], [31, 32, 33, 34, 35, 36, 37, 38, 39]] [[32, 35, 36, 37, 38], [31, 35, 36, 37, 38], [35, 36, 37, 38], [35, 36, 37, 38], [31, 32, 33, 34], [31, 32, 33, 34], [31, 32, 33, 34], [31, 32, 33, 34], [], [], [0, 1]] rfl ?_
    refine DR.step (q_moveC rfl rfl rfl) rfl rfl ?_; refine DR.step (q_moveC rfl rfl rfl) rfl rfl ?_; refine DR.step (q_at rfl rfl rfl rfl (by omega) (by assumption) rfl) rfl rfl ?_
    refine DR.step (q_lr1 rfl rfl rfl rfl) rfl rfl ?_; refine DR.step (q_moveC rfl rfl rfl) rfl rfl ?_; refine DR.step (q_at rfl rfl rfl rfl (by omega) (by assumption) rfl) rfl rfl ?_
    refine DR.step (q_lr1 rfl rfl rfl rfl) rfl rfl ?_; refine DR.step (q_len rfl rfl rfl) rfl rfl ?_; refine DR.step (q_call0 rfl rfl (hc) rfl) rfl rfl ?_
    refine DR.step (q_not rfl rfl rfl) rfl rfl ?_; refine DR.stop (by kernel_rfl) (by kernel_rfl) ?_
    refine L_nil ?_; refine T_n ?_
    refine A_cond rfl (fun h5 => ?_) (fun h5 => ?_)
    · have h5 : rowOk rows[k] rows[0].length = false := by simpa using h5
      refine A_seq ?_; refine A_region ?_; refine M0 (q_assignC rfl rfl rfl) rfl rfl ?_; refine L_nil ?_; refine T_n ?_; refine A_ret ?_; refine B_r ?_; refine T_r ?_; refine T_r ?_; refine B_r ?_
      refine T_r ?_; refine F_r ?_
      exact E_tmp rfl rfl (W_end [] (by decide) rfl rfl (S_eq (by rw [encodeStream, hh, if_neg (by rw [all_no h3 h5]; simp)])))
    · have h5 : rowOk rows[k] rows[0].length = true := by simpa using h5
      refine A_skip ?_; refine B_n ?_; refine T_n ?_; refine A_region ?_; refine M0 (q_moveC rfl rfl rfl) rfl rfl ?_; refine M0 (q_add rfl rfl rfl rfl (by omega)) rfl rfl ?_
      refine M0 (q_assignC rfl rfl rfl) rfl rfl ?_; refine L_nil ?_; refine T_n ?_
      exact ⟨rows.length - (k + 1), by omega, (fun k : Nat => (⟨_, [(0, I first), (1, L rows), (5, I k)], []⟩ : St)) (k + 1), W_go [] (by decide) rfl (rfl) (.cons rfl (.cons rfl (.cons rfl (.nil)))), k + 1, by omega, all_next hp_A h3 h5, rfl⟩
  · have h3 : ¬ ((k : Int) < (els rows).length) := of_decide_eq_false h
    have hall := all_end hp_A (by omega)
    have hrl := rows_len hall
    have hs1 := packInts_size [first, ((els rows).length : Int), ((els rows[0]).length : Int)]
    simp only [List.length_cons, List.length_nil] at hs1
    have hgi : Enc.gd [first, ((els rows).length : Int), ((els rows[0]).length : Int)] := ⟨by simp, fun x hx => by
      simp only [List.mem_cons, List.not_mem_nil, or_false] at hx
      rcases hx with rfl | rfl | rfl
      · exact hf
      · exact ⟨by omega, by omega⟩
      · exact ⟨by omega, by omega⟩⟩
    refine A_exit ?_; refine T_x ?_; refine T_x ?_; refine B_xs ?_; refine T_n ?_; refine A_seq ?_; refine A_region ?_; refine M0 (q_moveC rfl rfl rfl) rfl rfl ?_
    refine M0 (q_moveC rfl rfl rfl) rfl rfl ?_; refine M0 (q_len rfl rfl rfl) rfl rfl ?_; refine M0 (q_moveC rfl rfl rfl) rfl rfl ?_
    refine M0 (q_at rfl rfl rfl rfl (by omega) (by assumption) rfl) rfl rfl ?_; refine M0 (q_lr1 rfl rfl rfl rfl) rfl rfl ?_; refine M0 (q_len rfl rfl rfl) rfl rfl ?_
    refine M1 (q_bslice rfl rfl rfl rfl rfl rfl) rfl rfl ?_
    refine M0 (q_call0 rfl rfl (S_PackInts [first, ((els rows).length : Int), ((els rows[0]).length : Int)] hgi (by simp)) rfl) rfl rfl ?_; refine M0 (q_assignC rfl rfl rfl) rfl rfl ?_
    refine L_nil ?_; refine T_n ?_; refine A_seq ?_; refine A_seq ?_; refine A_region ?_; refine M0 (q_assignC rfl rfl rfl) rfl rfl ?_; refine L_nil ?_; refine T_n ?_; refine A_block ?_
    refine A_loop (fun m st => ∃ q : Nat, q + m = rows[0].length ∧ (True) ∧ st = (fun q : Nat => (⟨_, [(1, L rows), (6, S (packInts [first, ((els rows).length : Int), ((els rows[0]).length : Int)] ++ colsB rows q)), (7, I q)], []⟩ : St)) q) (rows[0].length) ⟨(fun q : Nat => (⟨_, [(1, L rows), (6, S (packInts [first, ((els rows).length : Int), ((els rows[0]).length : Int)] ++ colsB rows q)), (7, I q)], []⟩ : St)) 0, W_go [] (by decide) rfl (rfl) (.cons rfl (.cons (S_eq (app_nil _).symm) (.cons rfl (.nil)))), 0, by omega, trivial, rfl⟩ ?_
    rintro m_D _ ⟨q, hk_D, hp_D, rfl⟩
    have hs2 := colsB_size rows q
    have hs5 := cat_size (packInts [first, ((els rows).length : Int), ((els rows[0]).length : Int)]) (colsB rows q)
    refine A_seq ?_; refine A_seq ?_; refine A_region ?_; refine M0 (q_moveC rfl rfl rfl) rfl rfl ?_; refine M0 (q_moveC rfl rfl rfl) rfl rfl ?_
    refine M0 (q_at rfl rfl rfl rfl (by omega) (by assumption) rfl) rfl rfl ?_; refine M0 (q_lr1 rfl rfl rfl rfl) rfl rfl ?_; refine M0 (q_len rfl rfl rfl) rfl rfl ?_
    refine M0 (q_lss rfl rfl rfl rfl) rfl rfl ?_; refine L_nil ?_; refine T_n ?_
    refine A_cond rfl (fun h => ?_) (fun h => ?_)
    · have hq : q < rows[0].length := by have := of_decide_eq_true h; omega
      have hs6 := packTrack_size (colM rows q)
      have hs7 := packText_size (packTrack (colM rows q))
      refine A_skip ?_; refine T_n ?_; refine A_seq ?_; refine A_block ?_; refine A_region ?_; refine M0 (q_moveC rfl rfl rfl) rfl rfl ?_; refine M0 (q_moveC rfl rfl rfl) rfl rfl ?_
      refine M0 (q_moveC rfl rfl rfl) rfl rfl ?_; refine M1 (q_call rfl rfl (S_column rows q hg (by omega) (fun r hr => by rw [hrl r hr]; exact hq)) rfl rfl rfl) rfl rfl ?_
      refine M0 (q_call0 rfl rfl (S_PackTrack (colM rows q) (colM_gd hg q)) rfl) rfl rfl ?_; refine M0 (q_call0 rfl rfl (S_PackText (packTrack (colM rows q)) (by omega)) rfl) rfl rfl ?_
      refine M0 (q_cat rfl rfl rfl rfl (by omega)) rfl rfl ?_; refine M0 (q_assignC rfl rfl rfl) rfl rfl ?_; refine L_nil ?_; refine B_n ?_; refine T_n ?_; refine A_region ?_
      refine M0 (q_moveC rfl rfl rfl) rfl rfl ?_; refine M0 (q_add rfl rfl rfl rfl (by omega)) rfl rfl ?_; refine M0 (q_assignC rfl rfl rfl) rfl rfl ?_; refine L_nil ?_; refine T_n ?_
      exact ⟨rows[0].length - (q + 1), by omega, (fun q : Nat => (⟨_, [(1, L rows), (6, S (packInts [first, ((els rows).length : Int), ((els rows[0]).length : Int)] ++ colsB rows q)), (7, I q)], []⟩ : St)) (q + 1), W_go [] (by decide) rfl (rfl) (.cons rfl (.cons (S_eq (by rw [colsB, ByteArray.append_assoc])) (.cons rfl (.nil)))), q + 1, by omega, trivial, rfl⟩
    · have hq : q = rows[0].length := by have := of_decide_eq_false h; omega
      have hss : (packInts [first, ((els rows).length : Int), ((els rows[0]).length : Int)] ++ colsB rows q).size ≤ 1099511627776 := by omega
      refine A_exit ?_; refine T_x ?_; refine T_x ?_; refine B_xs ?_; refine T_n ?_; refine A_seq ?_; refine A_region ?_; refine M0 (q_moveC rfl rfl rfl) rfl rfl ?_
      refine M0 (q_call0 rfl rfl (S_SealText _ hss) rfl) rfl rfl ?_; refine M0 (q_assignC rfl rfl rfl) rfl rfl ?_; refine L_nil ?_; refine T_n ?_; refine A_ret ?_; refine F_r ?_
      exact E_tmp rfl rfl (W_end [] (by decide) rfl rfl (S_eq (by rw [encodeStream, hh, if_pos ⟨hf1, hf2, hf3, hall⟩, hlx, hl0, hq])))
end Go.Proofs.Ytkfnaniegldfaaa
