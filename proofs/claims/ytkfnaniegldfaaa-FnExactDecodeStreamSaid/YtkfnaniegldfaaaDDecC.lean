/-
  The players' columns read from bytes: unpackColumns of the program, l07Columns of the reference.
  Conditions: texts of at most 2^40 bytes, at most 4 players and 400 rows.
-/
import Derived.Test.YtkfnaniegldfaaaDDecT
import Derived.Test.YtkfnaniegldfaaaDSplit
import Derived.Test.YtkfnaniegldfaaaDMarkR
set_option linter.unusedSimpArgs false
set_option linter.unusedVariables false
set_option maxRecDepth 8000
namespace Go.Proofs.Ytkfnaniegldfaaa
open Go.RowKit

def snocs (rows : List (List Int)) (l : List Int) : List (List Int) := List.zipWith (fun r x => r ++ [x]) rows l
def colsGo (s : ByteArray) (n : Nat) : Nat → Nat → List (List Int) → Option (List (List Int) × Nat)
  | 0, pos, rows => some (rows, pos)
  | c + 1, pos, rows => match unpackText s (pos : Int) with
    | none => none
    | some (t, k) => match unpackTrack t with
      | none => none
      | some l => if l.length = n then colsGo s n c (pos + k) (snocs rows l) else none
@[reducible] def ucO : Option (List (List Int) × Nat) → List Ob
  | none => [.row 1 []]
  | some (l, _) => [.row 1 (els l)]
@[reducible] def ucR (p : Nat) : Option (List (List Int) × Nat) → V
  | none => .tu [.c (.ref 0), .c (jn 0), .c (bv false)]
  | some (_, e) => .tu [.c (.ref 0), .c (jn ((e : Int) - p)), .c (bv true)]
@[reducible] def lcR : Option (List (List Int) × Nat) → V
  | none => .tu [.c (.ref 0), .c (jn 0), .c (bv false)]
  | some (_, e) => .tu [.c (.ref 0), .c (jn e), .c (bv true)]
theorem utGo_some (s : ByteArray) : ∀ (f pos : Nat) (acc l : List Int), acc.length ≤ 400 → (∀ x ∈ acc, I64 x) → utGo s f pos acc = some l → l.length ≤ 400 ∧ ∀ x ∈ l, I64 x := by
  intro f
  induction f with
  | zero => intro pos acc l h1 h2 h; simp only [utGo, Option.some.injEq] at h; subst h; exact ⟨h1, h2⟩
  | succ f ih =>
    intro pos acc l h1 h2 h
    rw [utGo] at h
    split at h
    · split at h
      · cases h
      · rename_i n k hd
        have hm := decVar_some hd
        split at h
        · cases h
        · refine ih _ _ l (by simp; omega) (fun x hx => ?_) h
          rcases List.mem_append.1 hx with hx | hx
          · exact h2 x hx
          · have := List.eq_of_mem_replicate hx
            exact ⟨by omega, by omega⟩
    · simp only [Option.some.injEq] at h; subst h; exact ⟨h1, h2⟩
theorem unpackTrack_some {s : ByteArray} {l : List Int} (h : unpackTrack s = some l) : packTrack l = s ∧ l.length ≤ 400 ∧ ∀ x ∈ l, I64 x := by
  unfold unpackTrack at h
  split at h
  · cases h
  · rename_i l' hl
    split at h
    · simp only [Option.some.injEq] at h
      subst h
      rename_i hp
      exact ⟨hp, utGo_some s _ _ _ _ (by simp) (fun x hx => by simp at hx) hl⟩
    · cases h
theorem unpackTrack_nil : unpackTrack ⟨#[]⟩ = some [] := by
  have h1 : packTrack [] = ⟨#[]⟩ := by rw [packTrack, if_pos ⟨by simp, by simp [inOk]⟩, packRuns]
  rw [unpackTrack, show utGo ⟨#[]⟩ (ByteArray.mk #[]).size 0 [] = some [] from rfl]
  exact if_pos h1
theorem snocs_len {rows : List (List Int)} {l : List Int} (h : l.length = rows.length) : (snocs rows l).length = rows.length := by simp [snocs, h]
theorem snocs_at {rows : List (List Int)} {l : List Int} {i : Nat} (h1 : i < rows.length) (h2 : i < l.length) (h : i < (snocs rows l).length) : (snocs rows l)[i] = rows[i] ++ [l[i]] := by simp [snocs]
theorem make_rows (n : Nat) : List.replicate (n : Int).toNat ([Value.slice none 0 0].map (zT 1)) = els (List.replicate n ([] : List Int)) := by
  rw [els, List.map_replicate]
  rfl
theorem app_next {ms rows : List (List Int)} (hl : ms.length = rows.length) {i : Nat} (h : i < rows.length) {x : Int} (hm : ms[i]'(by omega) = rows[i] ++ [x]) :
    els (ms.take (i + 1) ++ rows.drop (i + 1)) = ((els (ms.take i ++ rows.drop i)).set i (splice [T.sl 1 (els rows[i])] 0 [.un])).set i (splice (splice [T.sl 1 (els rows[i])] 0 [.un]) 0 [.sl 1 (els rows[i] ++ [[.v (.int .i64 x)]])]) := by
  rw [List.set_set]
  exact mk_next (e := [T.sl 1 (els rows[i])]) hl h (c := .sl 1 (els rows[i] ++ [[.v (.int .i64 x)]])) (by rw [hm, ← els_snocI]; rfl)
set_option maxHeartbeats 8000000 in
theorem I_unpackColumns (s : ByteArray) (p c n : Nat) (hs : s.size ≤ 1099511627776) (hp : p ≤ s.size) (hc : c ≤ 4) (hn : n ≤ 400) :
    Con Try.prog 59 [] [astr s, ai p, ai c, ai n] (ucO (colsGo s n c p (List.replicate n []))) (ucR p (colsGo s n c p (List.replicate n []))) := by
  refine Con.of Try.func59 rfl Try.ntmps59 rfl (fun E => ?_)
  refine A_seq ?_; refine A_region ?_; refine M0 (q_assignC rfl rfl rfl) rfl rfl ?_; refine M0 (q_assignC rfl rfl rfl) rfl rfl ?_; refine M0 (q_assignC rfl rfl rfl) rfl rfl ?_; refine L_nil ?_
  refine T_n ?_; refine A_seq ?_; refine A_region ?_; refine M0 (q_moveC rfl rfl rfl) rfl rfl ?_
  refine M1 (q_make 1 rfl rfl rfl rfl (by omega) (by omega) (by omega) rfl (by simp)) rfl rfl ?_; refine M0 (q_assignC rfl rfl rfl) rfl rfl ?_; refine L_nil ?_; refine T_n ?_
  refine A_seq ?_; refine A_region ?_; refine M0 (q_moveC rfl rfl rfl) rfl rfl ?_; refine M0 (q_assignC rfl rfl rfl) rfl rfl ?_; refine L_nil ?_; refine T_n ?_; refine A_seq ?_; refine A_seq ?_
  refine A_region ?_; refine M0 (q_assignC rfl rfl rfl) rfl rfl ?_; refine L_nil ?_; refine T_n ?_; refine A_block ?_
  refine A_loop (fun m__ st => ∃ (k : Nat) (pos : Nat) (rows : List (List Int)), c - k = m__ ∧ (k ≤ c ∧ rows.length = n ∧ (∀ r ∈ rows, r.length ≤ k) ∧ p ≤ pos ∧ pos ≤ s.size ∧ colsGo s n (c - k) pos rows = colsGo s n c p (List.replicate n [])) ∧ st = (fun (k : Nat) (pos : Nat) (rows : List (List Int)) => (⟨_, [(0, S s), (1, I p), (2, I c), (3, I n), (11, .o (.c (.ref 0))), (12, I pos), (13, I k)], [.row 1 (els rows)]⟩ : St)) (k) (pos) (rows)) ((fun (k : Nat) (pos : Nat) (rows : List (List Int)) => c - k) (0) (p) (List.replicate n [])) ⟨(fun (k : Nat) (pos : Nat) (rows : List (List Int)) => (⟨_, [(0, S s), (1, I p), (2, I c), (3, I n), (11, .o (.c (.ref 0))), (12, I pos), (13, I k)], [.row 1 (els rows)]⟩ : St)) (0) (p) (List.replicate n []), W_go [0] (by decide) rfl (row_eq (make_rows n).symm) (.cons rfl (.cons rfl (.cons rfl (.cons rfl (.cons rfl (.cons rfl (.cons rfl (.nil)))))))), 0, p, List.replicate n [], rfl, ⟨by omega, by simp, fun r hr => by rw [List.eq_of_mem_replicate hr]; simp, by omega, by omega, rfl⟩, rfl⟩ ?_
  rintro m_A _ ⟨k, pos, rows, hk_A, hp_A, rfl⟩
  obtain ⟨hkc, hrl, hrk, hpp, hps, hgo⟩ := hp_A
  rw [← hgo]
  by_cases hlt : (k : Int) < c
  · have hb : decide ((k : Int) < c) = true := decide_eq_true hlt
    obtain ⟨f, hf⟩ : ∃ f, c - k = f + 1 := ⟨c - k - 1, by omega⟩
    rw [hf]
    have hut := I_UnpackText s (pos : Int) hs ⟨by omega, by omega⟩
    cases hv : unpackText s (pos : Int) with
    | none =>
      rw [hv] at hut
      rw [show colsGo s n (f + 1) pos rows = none by rw [colsGo, hv]]
      refine A_seq ?_; refine A_seq ?_; refine A_region ?_; refine M0 (q_moveC rfl rfl rfl) rfl rfl ?_; refine M0 (q_moveC rfl rfl rfl) rfl rfl ?_
      refine M0 (q_lssK rfl rfl rfl rfl (by assumption)) rfl rfl ?_; refine L_nil ?_; refine T_n ?_; refine A_ifT rfl ?_; refine A_skip ?_; refine T_n ?_; refine A_seq ?_; refine A_block ?_
      refine A_seq ?_; refine A_region ?_; refine M0 (q_moveC rfl rfl rfl) rfl rfl ?_; refine M0 (q_moveC rfl rfl rfl) rfl rfl ?_; refine M1 (q_call rfl rfl (hut) rfl rfl rfl) rfl rfl ?_
      refine M0 (q_moveT rfl rfl rfl) rfl rfl ?_; refine M0 (q_ext rfl rfl rfl rfl) rfl rfl ?_; refine M0 (q_ext rfl rfl rfl rfl) rfl rfl ?_; refine M0 (q_ext rfl rfl rfl rfl) rfl rfl ?_
      refine M0 (q_assignC rfl rfl rfl) rfl rfl ?_; refine M0 (q_assignC rfl rfl rfl) rfl rfl ?_; refine M0 (q_assignC rfl rfl rfl) rfl rfl ?_; refine L_nil ?_; refine T_n ?_; refine A_seq ?_
      refine A_seq ?_; refine A_region ?_; refine M0 (q_moveC rfl rfl rfl) rfl rfl ?_; refine M0 (q_not rfl rfl rfl) rfl rfl ?_; refine L_nil ?_; refine T_n ?_; refine A_ifT rfl ?_; refine A_seq ?_
      refine A_region ?_; refine M0 (q_assignC rfl rfl rfl) rfl rfl ?_; refine M0 (q_assignC rfl rfl rfl) rfl rfl ?_; refine M0 (q_assignC rfl rfl rfl) rfl rfl ?_; refine L_nil ?_; refine T_n ?_
      refine A_ret ?_; refine T_r ?_; refine B_r ?_; refine T_r ?_; refine T_r ?_; refine B_r ?_; refine T_r ?_; refine F_r ?_
      exact E_tmp3 rfl rfl rfl rfl (W_fill [1] [1] rfl rfl (by decide) rfl rfl rfl)
    | some r =>
      obtain ⟨t, m⟩ := r
      rw [hv] at hut
      have hm := unpackText_some hv
      have htr := I_UnpackTrack t (by omega)
      cases hw : unpackTrack t with
      | none =>
        rw [hw] at htr
        rw [show colsGo s n (f + 1) pos rows = none by rw [colsGo, hv]; simp only []; rw [hw]]
        refine A_seq ?_; refine A_seq ?_; refine A_region ?_; refine M0 (q_moveC rfl rfl rfl) rfl rfl ?_; refine M0 (q_moveC rfl rfl rfl) rfl rfl ?_
        refine M0 (q_lssK rfl rfl rfl rfl (by assumption)) rfl rfl ?_; refine L_nil ?_; refine T_n ?_; refine A_ifT rfl ?_; refine A_skip ?_; refine T_n ?_; refine A_seq ?_; refine A_block ?_
        refine A_seq ?_; refine A_region ?_; refine M0 (q_moveC rfl rfl rfl) rfl rfl ?_; refine M0 (q_moveC rfl rfl rfl) rfl rfl ?_; refine M1 (q_call rfl rfl (hut) rfl rfl rfl) rfl rfl ?_
        refine M0 (q_moveT rfl rfl rfl) rfl rfl ?_; refine M0 (q_ext rfl rfl rfl rfl) rfl rfl ?_; refine M0 (q_ext rfl rfl rfl rfl) rfl rfl ?_; refine M0 (q_ext rfl rfl rfl rfl) rfl rfl ?_
        refine M0 (q_assignC rfl rfl rfl) rfl rfl ?_; refine M0 (q_assignC rfl rfl rfl) rfl rfl ?_; refine M0 (q_assignC rfl rfl rfl) rfl rfl ?_; refine L_nil ?_; refine T_n ?_; refine A_seq ?_
        refine A_seq ?_; refine A_region ?_; refine M0 (q_moveC rfl rfl rfl) rfl rfl ?_; refine M0 (q_not rfl rfl rfl) rfl rfl ?_; refine L_nil ?_; refine T_n ?_; refine A_ifF rfl ?_; refine A_skip ?_
        refine T_n ?_; refine A_seq ?_; refine A_region ?_; refine M0 (q_moveC rfl rfl rfl) rfl rfl ?_; refine M1 (q_call rfl rfl (htr) rfl rfl rfl) rfl rfl ?_
        refine M0 (q_moveT rfl rfl rfl) rfl rfl ?_; refine M0 (q_ext rfl rfl rfl rfl) rfl rfl ?_; refine M0 (q_ext rfl rfl rfl rfl) rfl rfl ?_; refine M0 (q_assignC rfl rfl rfl) rfl rfl ?_
        refine M0 (q_assignC rfl rfl rfl) rfl rfl ?_; refine L_nil ?_; refine T_n ?_; refine A_seq ?_; refine A_seq ?_; refine A_region ?_; refine M0 (q_moveC rfl rfl rfl) rfl rfl ?_
        refine M0 (q_not rfl rfl rfl) rfl rfl ?_; refine M0 (q_moveC rfl rfl rfl) rfl rfl ?_; refine M_no rfl rfl rfl rfl rfl rfl ?_; refine M_no rfl rfl rfl rfl rfl rfl ?_
        refine M_no rfl rfl rfl rfl rfl rfl ?_; refine M_no rfl rfl rfl rfl rfl rfl ?_; refine M0 (q_pickT rfl rfl rfl rfl) rfl rfl ?_; refine L_nil ?_; refine T_n ?_; refine A_ifT rfl ?_
        refine A_seq ?_; refine A_region ?_; refine M0 (q_assignC rfl rfl rfl) rfl rfl ?_; refine M0 (q_assignC rfl rfl rfl) rfl rfl ?_; refine M0 (q_assignC rfl rfl rfl) rfl rfl ?_; refine L_nil ?_
        refine T_n ?_; refine A_ret ?_; refine T_r ?_; refine B_r ?_; refine T_r ?_; refine T_r ?_; refine B_r ?_; refine T_r ?_; refine F_r ?_
        exact E_tmp3 rfl rfl rfl rfl (W_fill [1] [2] rfl rfl (by decide) rfl rfl rfl)
      | some l =>
        rw [hw] at htr
        have hlw := unpackTrack_some hw
        have hll := els_len l
        by_cases hne : ((els l).length : Int) ≠ n
        · have hb2 : decide (((els l).length : Int) ≠ n) = true := decide_eq_true hne
          rw [show colsGo s n (f + 1) pos rows = none by rw [colsGo, hv]; simp only []; rw [hw]; simp only []; rw [if_neg (by omega)]]
          refine A_seq ?_; refine A_seq ?_; refine A_region ?_; refine M0 (q_moveC rfl rfl rfl) rfl rfl ?_; refine M0 (q_moveC rfl rfl rfl) rfl rfl ?_
          refine M0 (q_lssK rfl rfl rfl rfl (by assumption)) rfl rfl ?_; refine L_nil ?_; refine T_n ?_; refine A_ifT rfl ?_; refine A_skip ?_; refine T_n ?_; refine A_seq ?_; refine A_block ?_
          refine A_seq ?_; refine A_region ?_; refine M0 (q_moveC rfl rfl rfl) rfl rfl ?_; refine M0 (q_moveC rfl rfl rfl) rfl rfl ?_; refine M1 (q_call rfl rfl (hut) rfl rfl rfl) rfl rfl ?_
          refine M0 (q_moveT rfl rfl rfl) rfl rfl ?_; refine M0 (q_ext rfl rfl rfl rfl) rfl rfl ?_; refine M0 (q_ext rfl rfl rfl rfl) rfl rfl ?_; refine M0 (q_ext rfl rfl rfl rfl) rfl rfl ?_
          refine M0 (q_assignC rfl rfl rfl) rfl rfl ?_; refine M0 (q_assignC rfl rfl rfl) rfl rfl ?_; refine M0 (q_assignC rfl rfl rfl) rfl rfl ?_; refine L_nil ?_; refine T_n ?_; refine A_seq ?_
          refine A_seq ?_; refine A_region ?_; refine M0 (q_moveC rfl rfl rfl) rfl rfl ?_; refine M0 (q_not rfl rfl rfl) rfl rfl ?_; refine L_nil ?_; refine T_n ?_; refine A_ifF rfl ?_; refine A_skip ?_
          refine T_n ?_; refine A_seq ?_; refine A_region ?_; refine M0 (q_moveC rfl rfl rfl) rfl rfl ?_; refine M1 (q_call rfl rfl (htr) rfl rfl rfl) rfl rfl ?_
          refine M0 (q_moveT rfl rfl rfl) rfl rfl ?_; refine M0 (q_ext rfl rfl rfl rfl) rfl rfl ?_; refine M0 (q_ext rfl rfl rfl rfl) rfl rfl ?_; refine M0 (q_assignC rfl rfl rfl) rfl rfl ?_
          refine M0 (q_assignC rfl rfl rfl) rfl rfl ?_; refine L_nil ?_; refine T_n ?_; refine A_seq ?_; refine A_seq ?_; refine A_region ?_; refine M0 (q_moveC rfl rfl rfl) rfl rfl ?_
          refine M0 (q_not rfl rfl rfl) rfl rfl ?_; refine M0 (q_moveC rfl rfl rfl) rfl rfl ?_; refine M_yes rfl rfl rfl ?_; refine M0 (q_moveC rfl rfl rfl) rfl rfl ?_; refine M_yes rfl rfl rfl ?_
          refine M0 (q_lenr rfl rfl rfl rfl) rfl rfl ?_; refine M_yes rfl rfl rfl ?_; refine M0 (q_moveC rfl rfl rfl) rfl rfl ?_; refine M_yes rfl rfl rfl ?_
          refine M0 (q_neqK rfl rfl rfl rfl (by assumption)) rfl rfl ?_; refine M0 (q_pickF rfl rfl rfl rfl) rfl rfl ?_; refine L_nil ?_; refine T_n ?_; refine A_ifT rfl ?_; refine A_seq ?_
          refine A_region ?_; refine M0 (q_assignC rfl rfl rfl) rfl rfl ?_; refine M0 (q_assignC rfl rfl rfl) rfl rfl ?_; refine M0 (q_assignC rfl rfl rfl) rfl rfl ?_; refine L_nil ?_; refine T_n ?_
          refine A_ret ?_; refine T_r ?_; refine B_r ?_; refine T_r ?_; refine T_r ?_; refine B_r ?_; refine T_r ?_; refine F_r ?_
          exact E_tmp3 rfl rfl rfl rfl (W_fill [1] [2] rfl rfl (by decide) rfl rfl rfl)
        have hb2 : decide (((els l).length : Int) ≠ n) = false := decide_eq_false hne
        have hne := Classical.not_not.1 hne
        have hsl := snocs_len (rows := rows) (l := l) (by omega)
        have hgo2 : colsGo s n (f + 1) pos rows = colsGo s n f (pos + m) (snocs rows l) := by rw [colsGo, hv]; simp only []; rw [hw]; simp only []; rw [if_pos (by omega)]
        refine A_seq ?_; refine A_seq ?_; refine A_region ?_; refine M0 (q_moveC rfl rfl rfl) rfl rfl ?_; refine M0 (q_moveC rfl rfl rfl) rfl rfl ?_
        refine M0 (q_lssK rfl rfl rfl rfl (by assumption)) rfl rfl ?_; refine L_nil ?_; refine T_n ?_; refine A_ifT rfl ?_; refine A_skip ?_; refine T_n ?_; refine A_seq ?_; refine A_block ?_
        refine A_seq ?_; refine A_region ?_; refine M0 (q_moveC rfl rfl rfl) rfl rfl ?_; refine M0 (q_moveC rfl rfl rfl) rfl rfl ?_; refine M1 (q_call rfl rfl (hut) rfl rfl rfl) rfl rfl ?_
        refine M0 (q_moveT rfl rfl rfl) rfl rfl ?_; refine M0 (q_ext rfl rfl rfl rfl) rfl rfl ?_; refine M0 (q_ext rfl rfl rfl rfl) rfl rfl ?_; refine M0 (q_ext rfl rfl rfl rfl) rfl rfl ?_
        refine M0 (q_assignC rfl rfl rfl) rfl rfl ?_; refine M0 (q_assignC rfl rfl rfl) rfl rfl ?_; refine M0 (q_assignC rfl rfl rfl) rfl rfl ?_; refine L_nil ?_; refine T_n ?_; refine A_seq ?_
        refine A_seq ?_; refine A_region ?_; refine M0 (q_moveC rfl rfl rfl) rfl rfl ?_; refine M0 (q_not rfl rfl rfl) rfl rfl ?_; refine L_nil ?_; refine T_n ?_; refine A_ifF rfl ?_; refine A_skip ?_
        refine T_n ?_; refine A_seq ?_; refine A_region ?_; refine M0 (q_moveC rfl rfl rfl) rfl rfl ?_; refine M1 (q_call rfl rfl (htr) rfl rfl rfl) rfl rfl ?_
        refine M0 (q_moveT rfl rfl rfl) rfl rfl ?_; refine M0 (q_ext rfl rfl rfl rfl) rfl rfl ?_; refine M0 (q_ext rfl rfl rfl rfl) rfl rfl ?_; refine M0 (q_assignC rfl rfl rfl) rfl rfl ?_
        refine M0 (q_assignC rfl rfl rfl) rfl rfl ?_; refine L_nil ?_; refine T_n ?_; refine A_seq ?_; refine A_seq ?_; refine A_region ?_; refine M0 (q_moveC rfl rfl rfl) rfl rfl ?_
        refine M0 (q_not rfl rfl rfl) rfl rfl ?_; refine M0 (q_moveC rfl rfl rfl) rfl rfl ?_; refine M_yes rfl rfl rfl ?_; refine M0 (q_moveC rfl rfl rfl) rfl rfl ?_; refine M_yes rfl rfl rfl ?_
        refine M0 (q_lenr rfl rfl rfl rfl) rfl rfl ?_; refine M_yes rfl rfl rfl ?_; refine M0 (q_moveC rfl rfl rfl) rfl rfl ?_; refine M_yes rfl rfl rfl ?_
        refine M0 (q_neqK rfl rfl rfl rfl (by assumption)) rfl rfl ?_; refine M0 (q_pickF rfl rfl rfl rfl) rfl rfl ?_; refine L_nil ?_; refine T_n ?_; refine A_ifF rfl ?_; refine A_skip ?_
        refine T_n ?_; refine A_seq ?_; refine A_seq ?_; refine A_region ?_; refine M0 (q_moveC rfl rfl rfl) rfl rfl ?_; refine M0 (q_lenr rfl rfl rfl rfl) rfl rfl ?_
        refine M0 (q_moveC rfl rfl rfl) rfl rfl ?_; refine L_nil ?_; refine T_n ?_; refine A_block ?_
        refine A_loop (fun m__ st => ∃ (i : Nat), n - i = m__ ∧ (i ≤ n) ∧ st = (fun (i : Nat) => (⟨_, [(0, S s), (1, I p), (2, I c), (3, I n), (11, .o (.c (.ref 0))), (12, I pos), (13, I k), (15, I m), (50, .o (.c (.ref 1))), (51, I (els l).length), (52, I i)], [.row 1 (els ((snocs rows l).take i ++ rows.drop i)), .row 1 (els l)]⟩ : St)) (i)) ((fun (i : Nat) => n - i) (0)) ⟨(fun (i : Nat) => (⟨_, [(0, S s), (1, I p), (2, I c), (3, I n), (11, .o (.c (.ref 0))), (12, I pos), (13, I k), (15, I m), (50, .o (.c (.ref 1))), (51, I (els l).length), (52, I i)], [.row 1 (els ((snocs rows l).take i ++ rows.drop i)), .row 1 (els l)]⟩ : St)) (0), W_go [0, 1] (by decide) rfl (rfl) (.cons rfl (.cons rfl (.cons rfl (.cons rfl (.cons rfl (.cons rfl (.cons rfl (.cons rfl (.cons rfl (.cons rfl (.cons rfl (.nil)))))))))))), 0, rfl, Nat.zero_le _, rfl⟩ ?_
        rintro m_B _ ⟨i, hk_B, hp_B, rfl⟩
        refine A_seq ?_; refine A_region ?_; refine M0 (q_lss rfl rfl rfl rfl) rfl rfl ?_; refine L_nil ?_; refine T_n ?_; refine A_seq ?_
        refine A_cond rfl (fun h => ?_) (fun h => ?_)
        · have h := of_decide_eq_true h
          have hin : i < l.length := by omega
          have hir : i < rows.length := by omega
          have hatl := els_at hin
          have hil : i < ((snocs rows l).take i ++ rows.drop i).length := by rw [mk_len hsl (by omega)]; exact hir
          have hat := els_at hil
          rw [mk_at hsl hir] at hat
          have hrr := hrk _ (List.getElem_mem hir)
          have hlr := els_len rows[i]
          have hln : (els ((snocs rows l).take i ++ rows.drop i)).length = n := by rw [els_len, mk_len hsl (by omega)]; omega
          have hat2 : ((els ((snocs rows l).take i ++ rows.drop i)).set (i : Int).toNat (splice (Enc.e rows[i]) 0 [.un]))[(i : Int).toNat]? = some (splice (Enc.e rows[i]) 0 [.un]) := by
            rw [List.getElem?_set_self]
            rw [hln]; omega
          have hln2 : ((els ((snocs rows l).take i ++ rows.drop i)).set (i : Int).toNat (splice (Enc.e rows[i]) 0 [.un])).length = n := by rw [List.length_set]; exact hln
          refine A_skip ?_; refine T_n ?_; refine A_seq ?_; refine A_block ?_; refine A_seq ?_; refine A_region ?_; refine M0 (q_moveC rfl rfl rfl) rfl rfl ?_
          refine M0 (q_ar rfl rfl rfl rfl rfl (by omega) (by assumption)) rfl rfl ?_; refine M0 (q_le1 rfl rfl rfl rfl (by assumption) rfl) rfl rfl ?_
          refine M0 (q_assignC rfl rfl rfl) rfl rfl ?_; refine M0 (q_assignC rfl rfl rfl) rfl rfl ?_; refine L_nil ?_; refine T_n ?_; refine A_region ?_; refine M0 (q_moveC rfl rfl rfl) rfl rfl ?_
          refine M0 (q_moveC rfl rfl rfl) rfl rfl ?_; refine M0 (q_moveC rfl rfl rfl) rfl rfl ?_; refine M0 (q_moveC rfl rfl rfl) rfl rfl ?_
          refine M0 (q_ar rfl rfl rfl rfl rfl (by omega) (by omega)) rfl rfl ?_; refine M0 (q_lee (p := 0) rfl rfl rfl rfl (by assumption) rfl) rfl rfl ?_
          refine M0 (q_moveC rfl rfl rfl) rfl rfl ?_; refine M1 (q_bslice rfl rfl rfl rfl rfl rfl) rfl rfl ?_
          refine AL.weak (Wk.split (p := 0) rfl hat rfl (by repeat' (first | exact trivial | exact ⟨rfl, rfl, rfl⟩ | refine And.intro ?_ ?_)) (by repeat' (first | exact trivial | exact ⟨rfl, rfl, rfl⟩ | refine And.intro ?_ ?_))) ?_
          refine M_appsb rfl rfl rfl rfl rfl rfl rfl rfl rfl rfl (by omega) (by omega) ?_; refine M0 (q_ar rfl rfl rfl rfl rfl (by omega) (by omega)) rfl rfl ?_
          refine M_ste1 rfl rfl rfl rfl rfl rfl rfl rfl rfl (by assumption) rfl rfl ?_; refine L_nil ?_; refine B_n ?_; refine T_n ?_; refine A_region ?_
          refine M0 (q_add rfl rfl rfl rfl (by omega)) rfl rfl ?_; refine M0 (q_moveC rfl rfl rfl) rfl rfl ?_; refine L_nil ?_; refine T_n ?_
          refine ⟨n - (i + 1), (by omega), (fun (i : Nat) => (⟨_, [(0, S s), (1, I p), (2, I c), (3, I n), (11, .o (.c (.ref 0))), (12, I pos), (13, I k), (15, I m), (50, .o (.c (.ref 1))), (51, I (els l).length), (52, I i)], [.row 1 (els ((snocs rows l).take i ++ rows.drop i)), .row 1 (els l)]⟩ : St)) (i + 1), W_go [0, 1] (by decide) rfl (row2 (app_next hsl hir (snocs_at hir hin _))) (.cons rfl (.cons rfl (.cons rfl (.cons rfl (.cons rfl (.cons rfl (.cons rfl (.cons rfl (.cons rfl (.cons rfl (.cons rfl (.nil)))))))))))), i + 1, rfl, by omega, rfl⟩
        · have h := of_decide_eq_false h
          refine A_exit ?_; refine T_x ?_; refine T_x ?_; refine B_xs ?_; refine T_n ?_; refine A_region ?_; refine M0 (q_moveC rfl rfl rfl) rfl rfl ?_; refine M0 (q_moveC rfl rfl rfl) rfl rfl ?_
          refine M0 (q_add rfl rfl rfl rfl (by omega)) rfl rfl ?_; refine M0 (q_assignC rfl rfl rfl) rfl rfl ?_; refine L_nil ?_; refine B_n ?_; refine T_n ?_; refine A_region ?_
          refine M0 (q_moveC rfl rfl rfl) rfl rfl ?_; refine M0 (q_add rfl rfl rfl rfl (by omega)) rfl rfl ?_; refine M0 (q_assignC rfl rfl rfl) rfl rfl ?_; refine L_nil ?_; refine T_n ?_
          have hsn : ∀ r ∈ snocs rows l, r.length ≤ k + 1 := fun r hr => by
            obtain ⟨q, hq, rfl⟩ := List.getElem_of_mem hr
            rw [snocs_at (by omega) (by omega)]
            have := hrk _ (List.getElem_mem (show q < rows.length by omega))
            simp; omega
          have hend := mk_end (i := i) hsl (by omega)
          refine ⟨c - (k + 1), (by omega), (fun (k : Nat) (pos : Nat) (rows : List (List Int)) => (⟨_, [(0, S s), (1, I p), (2, I c), (3, I n), (11, .o (.c (.ref 0))), (12, I pos), (13, I k)], [.row 1 (els rows)]⟩ : St)) (k + 1) (pos + m) (snocs rows l), W_go [0] (by decide) rfl (row_eq (by rw [hend])) (.cons rfl (.cons rfl (.cons rfl (.cons rfl (.cons rfl (.cons rfl (.cons rfl (.nil)))))))), k + 1, pos + m, snocs rows l, rfl, ⟨by omega, by omega, hsn, by omega, by omega, by rw [hgo2, show c - (k + 1) = f by omega]⟩, rfl⟩
  · have hb : decide ((k : Int) < c) = false := decide_eq_false hlt
    have hkk : k = c := by omega
    subst hkk
    rw [show colsGo s n (k - k) pos rows = some (rows, pos) by rw [Nat.sub_self]; rfl]
    refine A_seq ?_; refine A_seq ?_; refine A_region ?_; refine M0 (q_moveC rfl rfl rfl) rfl rfl ?_; refine M0 (q_moveC rfl rfl rfl) rfl rfl ?_
    refine M0 (q_lssK rfl rfl rfl rfl (by assumption)) rfl rfl ?_; refine L_nil ?_; refine T_n ?_; refine A_ifF rfl ?_; refine A_exit ?_; refine T_x ?_; refine T_x ?_; refine B_xs ?_; refine T_n ?_
    refine A_seq ?_; refine A_region ?_; refine M0 (q_moveC rfl rfl rfl) rfl rfl ?_; refine M0 (q_moveC rfl rfl rfl) rfl rfl ?_; refine M0 (q_moveC rfl rfl rfl) rfl rfl ?_
    refine M0 (q_sub rfl rfl rfl rfl (by omega)) rfl rfl ?_; refine M0 (q_assignC rfl rfl rfl) rfl rfl ?_; refine M0 (q_assignC rfl rfl rfl) rfl rfl ?_
    refine M0 (q_assignC rfl rfl rfl) rfl rfl ?_; refine L_nil ?_; refine T_n ?_; refine A_ret ?_; refine F_r ?_
    exact E_tmp3 rfl rfl rfl rfl (W_end [0] (by decide) rfl rfl rfl)
set_option maxHeartbeats 8000000 in
theorem S_l07Columns (s : ByteArray) (p c n : Nat) (hs : s.size ≤ 1099511627776) (hp : p ≤ s.size) (hc : c ≤ 4) (hn : n ≤ 400) :
    Con Try.prog 54 [] [astr s, ai p, ai c, ai n] (ucO (colsGo s n c p (List.replicate n []))) (lcR (colsGo s n c p (List.replicate n []))) := by
  refine Con.of Try.func54 rfl Try.ntmps54 rfl (fun E => ?_)
  refine A_seq ?_; refine A_region ?_; refine M0 (q_assignC rfl rfl rfl) rfl rfl ?_; refine M0 (q_assignC rfl rfl rfl) rfl rfl ?_; refine M0 (q_assignC rfl rfl rfl) rfl rfl ?_; refine L_nil ?_
  refine T_n ?_; refine A_seq ?_; refine A_region ?_; refine M0 (q_moveC rfl rfl rfl) rfl rfl ?_
  refine M1 (q_make 1 rfl rfl rfl rfl (by omega) (by omega) (by omega) rfl (by simp)) rfl rfl ?_; refine M0 (q_assignC rfl rfl rfl) rfl rfl ?_; refine L_nil ?_; refine T_n ?_
  refine A_seq ?_; refine A_seq ?_; refine A_region ?_; refine M0 (q_assignC rfl rfl rfl) rfl rfl ?_; refine L_nil ?_; refine T_n ?_; refine A_block ?_
  refine A_loop (fun m__ st => ∃ (k : Nat) (pos : Nat) (rows : List (List Int)), c - k = m__ ∧ (k ≤ c ∧ rows.length = n ∧ (∀ r ∈ rows, r.length ≤ k) ∧ p ≤ pos ∧ pos ≤ s.size ∧ colsGo s n (c - k) pos rows = colsGo s n c p (List.replicate n [])) ∧ st = (fun (k : Nat) (pos : Nat) (rows : List (List Int)) => (⟨_, [(0, S s), (1, I pos), (2, I c), (3, I n), (11, .o (.c (.ref 0))), (12, I k)], [.row 1 (els rows)]⟩ : St)) (k) (pos) (rows)) ((fun (k : Nat) (pos : Nat) (rows : List (List Int)) => c - k) (0) (p) (List.replicate n [])) ⟨(fun (k : Nat) (pos : Nat) (rows : List (List Int)) => (⟨_, [(0, S s), (1, I pos), (2, I c), (3, I n), (11, .o (.c (.ref 0))), (12, I k)], [.row 1 (els rows)]⟩ : St)) (0) (p) (List.replicate n []), W_go [0] (by decide) rfl (row_eq (make_rows n).symm) (.cons rfl (.cons rfl (.cons rfl (.cons rfl (.cons rfl (.cons rfl (.nil))))))), 0, p, List.replicate n [], rfl, ⟨by omega, by simp, fun r hr => by rw [List.eq_of_mem_replicate hr]; simp, by omega, by omega, rfl⟩, rfl⟩ ?_
  rintro m_A _ ⟨k, pos, rows, hk_A, hp_A, rfl⟩
  obtain ⟨hkc, hrl, hrk, hpp, hps, hgo⟩ := hp_A
  rw [← hgo]
  by_cases hlt : (k : Int) < c
  · have hb : decide ((k : Int) < c) = true := decide_eq_true hlt
    obtain ⟨f, hf⟩ : ∃ f, c - k = f + 1 := ⟨c - k - 1, by omega⟩
    rw [hf]
    have hut := S_UnpackText s (pos : Int) hs ⟨by omega, by omega⟩
    cases hv : unpackText s (pos : Int) with
    | none =>
      rw [hv] at hut
      rw [show colsGo s n (f + 1) pos rows = none by rw [colsGo, hv]]
      have htr := S_UnpackTrack ⟨#[]⟩ (by show (0 : Nat) ≤ _; omega)
      rw [unpackTrack_nil] at htr
      refine A_seq ?_; refine A_seq ?_; refine A_region ?_; refine M0 (q_moveC rfl rfl rfl) rfl rfl ?_; refine M0 (q_moveC rfl rfl rfl) rfl rfl ?_
      refine M0 (q_lssK rfl rfl rfl rfl (by assumption)) rfl rfl ?_; refine L_nil ?_; refine T_n ?_; refine A_ifT rfl ?_; refine A_skip ?_; refine T_n ?_; refine A_seq ?_; refine A_block ?_
      refine A_seq ?_; refine A_region ?_; refine M0 (q_moveC rfl rfl rfl) rfl rfl ?_; refine M0 (q_moveC rfl rfl rfl) rfl rfl ?_; refine M1 (q_call rfl rfl (hut) rfl rfl rfl) rfl rfl ?_
      refine M0 (q_moveT rfl rfl rfl) rfl rfl ?_; refine M0 (q_ext rfl rfl rfl rfl) rfl rfl ?_; refine M0 (q_ext rfl rfl rfl rfl) rfl rfl ?_; refine M0 (q_ext rfl rfl rfl rfl) rfl rfl ?_
      refine M0 (q_assignC rfl rfl rfl) rfl rfl ?_; refine M0 (q_assignC rfl rfl rfl) rfl rfl ?_; refine M0 (q_assignC rfl rfl rfl) rfl rfl ?_; refine L_nil ?_; refine T_n ?_; refine A_seq ?_
      refine A_region ?_; refine M0 (q_moveC rfl rfl rfl) rfl rfl ?_; refine M1 (q_call rfl rfl (htr) rfl rfl rfl) rfl rfl ?_; refine M0 (q_moveT rfl rfl rfl) rfl rfl ?_
      refine M0 (q_ext rfl rfl rfl rfl) rfl rfl ?_; refine M0 (q_ext rfl rfl rfl rfl) rfl rfl ?_; refine M0 (q_assignC rfl rfl rfl) rfl rfl ?_; refine M0 (q_assignC rfl rfl rfl) rfl rfl ?_
      refine L_nil ?_; refine T_n ?_; refine A_seq ?_; refine A_seq ?_; refine A_region ?_; refine M0 (q_moveC rfl rfl rfl) rfl rfl ?_; refine M0 (q_not rfl rfl rfl) rfl rfl ?_
      refine M0 (q_moveC rfl rfl rfl) rfl rfl ?_; refine M_no rfl rfl rfl rfl rfl rfl ?_; refine M_no rfl rfl rfl rfl rfl rfl ?_; refine M0 (q_pickT rfl rfl rfl rfl) rfl rfl ?_
      refine M0 (q_moveC rfl rfl rfl) rfl rfl ?_; refine M_no rfl rfl rfl rfl rfl rfl ?_; refine M_no rfl rfl rfl rfl rfl rfl ?_; refine M_no rfl rfl rfl rfl rfl rfl ?_
      refine M_no rfl rfl rfl rfl rfl rfl ?_; refine M0 (q_pickT rfl rfl rfl rfl) rfl rfl ?_; refine L_nil ?_; refine T_n ?_; refine A_ifT rfl ?_; refine A_seq ?_; refine A_region ?_
      refine M0 (q_assignC rfl rfl rfl) rfl rfl ?_; refine M0 (q_assignC rfl rfl rfl) rfl rfl ?_; refine M0 (q_assignC rfl rfl rfl) rfl rfl ?_; refine L_nil ?_; refine T_n ?_; refine A_ret ?_
      refine T_r ?_; refine B_r ?_; refine T_r ?_; refine T_r ?_; refine B_r ?_; refine T_r ?_; refine F_r ?_
      exact E_tmp3 rfl rfl rfl rfl (W_fill [1] [2] rfl rfl (by decide) rfl rfl rfl)
    | some r =>
      obtain ⟨t, m⟩ := r
      rw [hv] at hut
      have hm := unpackText_some hv
      have htr := S_UnpackTrack t (by omega)
      cases hw : unpackTrack t with
      | none =>
        rw [hw] at htr
        rw [show colsGo s n (f + 1) pos rows = none by rw [colsGo, hv]; simp only []; rw [hw]]
        refine A_seq ?_; refine A_seq ?_; refine A_region ?_; refine M0 (q_moveC rfl rfl rfl) rfl rfl ?_; refine M0 (q_moveC rfl rfl rfl) rfl rfl ?_
        refine M0 (q_lssK rfl rfl rfl rfl (by assumption)) rfl rfl ?_; refine L_nil ?_; refine T_n ?_; refine A_ifT rfl ?_; refine A_skip ?_; refine T_n ?_; refine A_seq ?_; refine A_block ?_
        refine A_seq ?_; refine A_region ?_; refine M0 (q_moveC rfl rfl rfl) rfl rfl ?_; refine M0 (q_moveC rfl rfl rfl) rfl rfl ?_; refine M1 (q_call rfl rfl (hut) rfl rfl rfl) rfl rfl ?_
        refine M0 (q_moveT rfl rfl rfl) rfl rfl ?_; refine M0 (q_ext rfl rfl rfl rfl) rfl rfl ?_; refine M0 (q_ext rfl rfl rfl rfl) rfl rfl ?_; refine M0 (q_ext rfl rfl rfl rfl) rfl rfl ?_
        refine M0 (q_assignC rfl rfl rfl) rfl rfl ?_; refine M0 (q_assignC rfl rfl rfl) rfl rfl ?_; refine M0 (q_assignC rfl rfl rfl) rfl rfl ?_; refine L_nil ?_; refine T_n ?_; refine A_seq ?_
        refine A_region ?_; refine M0 (q_moveC rfl rfl rfl) rfl rfl ?_; refine M1 (q_call rfl rfl (htr) rfl rfl rfl) rfl rfl ?_; refine M0 (q_moveT rfl rfl rfl) rfl rfl ?_
        refine M0 (q_ext rfl rfl rfl rfl) rfl rfl ?_; refine M0 (q_ext rfl rfl rfl rfl) rfl rfl ?_; refine M0 (q_assignC rfl rfl rfl) rfl rfl ?_; refine M0 (q_assignC rfl rfl rfl) rfl rfl ?_
        refine L_nil ?_; refine T_n ?_; refine A_seq ?_; refine A_seq ?_; refine A_region ?_; refine M0 (q_moveC rfl rfl rfl) rfl rfl ?_; refine M0 (q_not rfl rfl rfl) rfl rfl ?_
        refine M0 (q_moveC rfl rfl rfl) rfl rfl ?_; refine M_yes rfl rfl rfl ?_; refine M0 (q_moveC rfl rfl rfl) rfl rfl ?_; refine M_yes rfl rfl rfl ?_; refine M0 (q_not rfl rfl rfl) rfl rfl ?_
        refine M0 (q_pickF rfl rfl rfl rfl) rfl rfl ?_; refine M0 (q_moveC rfl rfl rfl) rfl rfl ?_; refine M_no rfl rfl rfl rfl rfl rfl ?_; refine M_no rfl rfl rfl rfl rfl rfl ?_
        refine M_no rfl rfl rfl rfl rfl rfl ?_; refine M_no rfl rfl rfl rfl rfl rfl ?_; refine M0 (q_pickT rfl rfl rfl rfl) rfl rfl ?_; refine L_nil ?_; refine T_n ?_; refine A_ifT rfl ?_
        refine A_seq ?_; refine A_region ?_; refine M0 (q_assignC rfl rfl rfl) rfl rfl ?_; refine M0 (q_assignC rfl rfl rfl) rfl rfl ?_; refine M0 (q_assignC rfl rfl rfl) rfl rfl ?_; refine L_nil ?_
        refine T_n ?_; refine A_ret ?_; refine T_r ?_; refine B_r ?_; refine T_r ?_; refine T_r ?_; refine B_r ?_; refine T_r ?_; refine F_r ?_
        exact E_tmp3 rfl rfl rfl rfl (W_fill [1] [2] rfl rfl (by decide) rfl rfl rfl)
      | some l =>
        rw [hw] at htr
        have hlw := unpackTrack_some hw
        have hll := els_len l
        by_cases hne : ((els l).length : Int) ≠ n
        · have hb2 : decide (((els l).length : Int) ≠ n) = true := decide_eq_true hne
          rw [show colsGo s n (f + 1) pos rows = none by rw [colsGo, hv]; simp only []; rw [hw]; simp only []; rw [if_neg (by omega)]]
          refine A_seq ?_; refine A_seq ?_; refine A_region ?_; refine M0 (q_moveC rfl rfl rfl) rfl rfl ?_; refine M0 (q_moveC rfl rfl rfl) rfl rfl ?_
          refine M0 (q_lssK rfl rfl rfl rfl (by assumption)) rfl rfl ?_; refine L_nil ?_; refine T_n ?_; refine A_ifT rfl ?_; refine A_skip ?_; refine T_n ?_; refine A_seq ?_; refine A_block ?_
          refine A_seq ?_; refine A_region ?_; refine M0 (q_moveC rfl rfl rfl) rfl rfl ?_; refine M0 (q_moveC rfl rfl rfl) rfl rfl ?_; refine M1 (q_call rfl rfl (hut) rfl rfl rfl) rfl rfl ?_
          refine M0 (q_moveT rfl rfl rfl) rfl rfl ?_; refine M0 (q_ext rfl rfl rfl rfl) rfl rfl ?_; refine M0 (q_ext rfl rfl rfl rfl) rfl rfl ?_; refine M0 (q_ext rfl rfl rfl rfl) rfl rfl ?_
          refine M0 (q_assignC rfl rfl rfl) rfl rfl ?_; refine M0 (q_assignC rfl rfl rfl) rfl rfl ?_; refine M0 (q_assignC rfl rfl rfl) rfl rfl ?_; refine L_nil ?_; refine T_n ?_; refine A_seq ?_
          refine A_region ?_; refine M0 (q_moveC rfl rfl rfl) rfl rfl ?_; refine M1 (q_call rfl rfl (htr) rfl rfl rfl) rfl rfl ?_; refine M0 (q_moveT rfl rfl rfl) rfl rfl ?_
          refine M0 (q_ext rfl rfl rfl rfl) rfl rfl ?_; refine M0 (q_ext rfl rfl rfl rfl) rfl rfl ?_; refine M0 (q_assignC rfl rfl rfl) rfl rfl ?_; refine M0 (q_assignC rfl rfl rfl) rfl rfl ?_
          refine L_nil ?_; refine T_n ?_; refine A_seq ?_; refine A_seq ?_; refine A_region ?_; refine M0 (q_moveC rfl rfl rfl) rfl rfl ?_; refine M0 (q_not rfl rfl rfl) rfl rfl ?_
          refine M0 (q_moveC rfl rfl rfl) rfl rfl ?_; refine M_yes rfl rfl rfl ?_; refine M0 (q_moveC rfl rfl rfl) rfl rfl ?_; refine M_yes rfl rfl rfl ?_; refine M0 (q_not rfl rfl rfl) rfl rfl ?_
          refine M0 (q_pickF rfl rfl rfl rfl) rfl rfl ?_; refine M0 (q_moveC rfl rfl rfl) rfl rfl ?_; refine M_yes rfl rfl rfl ?_; refine M0 (q_moveC rfl rfl rfl) rfl rfl ?_
          refine M_yes rfl rfl rfl ?_; refine M0 (q_lenr rfl rfl rfl rfl) rfl rfl ?_; refine M_yes rfl rfl rfl ?_; refine M0 (q_moveC rfl rfl rfl) rfl rfl ?_; refine M_yes rfl rfl rfl ?_
          refine M0 (q_neqK rfl rfl rfl rfl (by assumption)) rfl rfl ?_; refine M0 (q_pickF rfl rfl rfl rfl) rfl rfl ?_; refine L_nil ?_; refine T_n ?_; refine A_ifT rfl ?_; refine A_seq ?_
          refine A_region ?_; refine M0 (q_assignC rfl rfl rfl) rfl rfl ?_; refine M0 (q_assignC rfl rfl rfl) rfl rfl ?_; refine M0 (q_assignC rfl rfl rfl) rfl rfl ?_; refine L_nil ?_; refine T_n ?_
          refine A_ret ?_; refine T_r ?_; refine B_r ?_; refine T_r ?_; refine T_r ?_; refine B_r ?_; refine T_r ?_; refine F_r ?_
          exact E_tmp3 rfl rfl rfl rfl (W_fill [1] [2] rfl rfl (by decide) rfl rfl rfl)
        have hb2 : decide (((els l).length : Int) ≠ n) = false := decide_eq_false hne
        have hne := Classical.not_not.1 hne
        have hsl := snocs_len (rows := rows) (l := l) (by omega)
        have hgo2 : colsGo s n (f + 1) pos rows = colsGo s n f (pos + m) (snocs rows l) := by rw [colsGo, hv]; simp only []; rw [hw]; simp only []; rw [if_pos (by omega)]
        refine A_seq ?_; refine A_seq ?_; refine A_region ?_; refine M0 (q_moveC rfl rfl rfl) rfl rfl ?_; refine M0 (q_moveC rfl rfl rfl) rfl rfl ?_
        refine M0 (q_lssK rfl rfl rfl rfl (by assumption)) rfl rfl ?_; refine L_nil ?_; refine T_n ?_; refine A_ifT rfl ?_; refine A_skip ?_; refine T_n ?_; refine A_seq ?_; refine A_block ?_
        refine A_seq ?_; refine A_region ?_; refine M0 (q_moveC rfl rfl rfl) rfl rfl ?_; refine M0 (q_moveC rfl rfl rfl) rfl rfl ?_; refine M1 (q_call rfl rfl (hut) rfl rfl rfl) rfl rfl ?_
        refine M0 (q_moveT rfl rfl rfl) rfl rfl ?_; refine M0 (q_ext rfl rfl rfl rfl) rfl rfl ?_; refine M0 (q_ext rfl rfl rfl rfl) rfl rfl ?_; refine M0 (q_ext rfl rfl rfl rfl) rfl rfl ?_
        refine M0 (q_assignC rfl rfl rfl) rfl rfl ?_; refine M0 (q_assignC rfl rfl rfl) rfl rfl ?_; refine M0 (q_assignC rfl rfl rfl) rfl rfl ?_; refine L_nil ?_; refine T_n ?_; refine A_seq ?_
        refine A_region ?_; refine M0 (q_moveC rfl rfl rfl) rfl rfl ?_; refine M1 (q_call rfl rfl (htr) rfl rfl rfl) rfl rfl ?_; refine M0 (q_moveT rfl rfl rfl) rfl rfl ?_
        refine M0 (q_ext rfl rfl rfl rfl) rfl rfl ?_; refine M0 (q_ext rfl rfl rfl rfl) rfl rfl ?_; refine M0 (q_assignC rfl rfl rfl) rfl rfl ?_; refine M0 (q_assignC rfl rfl rfl) rfl rfl ?_
        refine L_nil ?_; refine T_n ?_; refine A_seq ?_; refine A_seq ?_; refine A_region ?_; refine M0 (q_moveC rfl rfl rfl) rfl rfl ?_; refine M0 (q_not rfl rfl rfl) rfl rfl ?_
        refine M0 (q_moveC rfl rfl rfl) rfl rfl ?_; refine M_yes rfl rfl rfl ?_; refine M0 (q_moveC rfl rfl rfl) rfl rfl ?_; refine M_yes rfl rfl rfl ?_; refine M0 (q_not rfl rfl rfl) rfl rfl ?_
        refine M0 (q_pickF rfl rfl rfl rfl) rfl rfl ?_; refine M0 (q_moveC rfl rfl rfl) rfl rfl ?_; refine M_yes rfl rfl rfl ?_; refine M0 (q_moveC rfl rfl rfl) rfl rfl ?_
        refine M_yes rfl rfl rfl ?_; refine M0 (q_lenr rfl rfl rfl rfl) rfl rfl ?_; refine M_yes rfl rfl rfl ?_; refine M0 (q_moveC rfl rfl rfl) rfl rfl ?_; refine M_yes rfl rfl rfl ?_
        refine M0 (q_neqK rfl rfl rfl rfl (by assumption)) rfl rfl ?_; refine M0 (q_pickF rfl rfl rfl rfl) rfl rfl ?_; refine L_nil ?_; refine T_n ?_; refine A_ifF rfl ?_; refine A_skip ?_
        refine T_n ?_; refine A_seq ?_; refine A_seq ?_; refine A_region ?_; refine M0 (q_assignC rfl rfl rfl) rfl rfl ?_; refine L_nil ?_; refine T_n ?_; refine A_block ?_
        refine A_loop (fun m__ st => ∃ (i : Nat), n - i = m__ ∧ (i ≤ n) ∧ st = (fun (i : Nat) => (⟨_, [(0, S s), (1, I pos), (2, I c), (3, I n), (11, .o (.c (.ref 0))), (12, I k), (14, I m), (16, .o (.c (.ref 1))), (18, I i)], [.row 1 (els ((snocs rows l).take i ++ rows.drop i)), .row 1 (els l)]⟩ : St)) (i)) ((fun (i : Nat) => n - i) (0)) ⟨(fun (i : Nat) => (⟨_, [(0, S s), (1, I pos), (2, I c), (3, I n), (11, .o (.c (.ref 0))), (12, I k), (14, I m), (16, .o (.c (.ref 1))), (18, I i)], [.row 1 (els ((snocs rows l).take i ++ rows.drop i)), .row 1 (els l)]⟩ : St)) (0), W_go [0, 1] (by decide) rfl (rfl) (.cons rfl (.cons rfl (.cons rfl (.cons rfl (.cons rfl (.cons rfl (.cons rfl (.cons rfl (.cons rfl (.nil)))))))))), 0, rfl, Nat.zero_le _, rfl⟩ ?_
        rintro m_B _ ⟨i, hk_B, hp_B, rfl⟩
        refine A_seq ?_; refine A_seq ?_; refine A_region ?_; refine M0 (q_moveC rfl rfl rfl) rfl rfl ?_; refine M0 (q_moveC rfl rfl rfl) rfl rfl ?_; refine M0 (q_lss rfl rfl rfl rfl) rfl rfl ?_
        refine L_nil ?_; refine T_n ?_
        refine A_cond rfl (fun h => ?_) (fun h => ?_)
        · have h := of_decide_eq_true h
          have hin : i < l.length := by omega
          have hir : i < rows.length := by omega
          have hatl := els_at hin
          have hil : i < ((snocs rows l).take i ++ rows.drop i).length := by rw [mk_len hsl (by omega)]; exact hir
          have hat := els_at hil
          rw [mk_at hsl hir] at hat
          have hrr := hrk _ (List.getElem_mem hir)
          have hlr := els_len rows[i]
          have hln : (els ((snocs rows l).take i ++ rows.drop i)).length = n := by rw [els_len, mk_len hsl (by omega)]; omega
          have hat2 : ((els ((snocs rows l).take i ++ rows.drop i)).set (i : Int).toNat (splice (Enc.e rows[i]) 0 [.un]))[(i : Int).toNat]? = some (splice (Enc.e rows[i]) 0 [.un]) := by
            rw [List.getElem?_set_self]
            rw [hln]; omega
          have hln2 : ((els ((snocs rows l).take i ++ rows.drop i)).set (i : Int).toNat (splice (Enc.e rows[i]) 0 [.un])).length = n := by rw [List.length_set]; exact hln
          refine A_skip ?_; refine T_n ?_; refine A_seq ?_; refine A_block ?_
          refine A_draw [[], [], [], [], [2, 3], [2, 3, 4], [], [], [6, 7], [6, 7, 8], [6, 7, 8, 9], [2, 3, 4, 5, 6, 7, 8, 9, 10], [0, 1, 2, 3, 4, 5, 6, 7, 8, 9, 10, 11], [0, 1, 2, 3, 4, 5, 6, 7, 8, 9, 10, 11, 12]] [[], [], [], [], [57, 58], [57, 58, 59], [], [], [61, 62], [61, 62, 63], [61, 62, 63, 64], [57, 58, 59, 60, 61, 62, 63, 64, 65], [55, 56, 57, 58, 59, 60, 61, 62, 63, 64, 65, 66], [55, 56, 57, 58, 59, 60, 61, 62, 63, 64, 65, 66, 67]] [[56, 57, 58, 59, 60, 61, 62, 63, 64, 65, 66], [55, 57, 58, 59, 60, 61, 62, 63, 64, 65, 66], [55, 56, 58, 61, 62, 63, 64, 65], [55, 56, 57, 61, 62, 63, 64, 65], [55, 56, 61, 62, 63, 64, 65], [55, 56, 61, 62, 63, 64, 65], [55, 56, 57, 58, 59, 60, 62], [55, 56, 57, 58, 59, 60, 61], [55, 56, 57, 58, 59, 60], [55, 56, 57, 58, 59, 60], [55, 56, 57, 58, 59, 60], [55, 56], [], [], [0, 1]] rfl ?_
          refine DR.step (q_moveC rfl rfl rfl) rfl rfl ?_; refine DR.step (q_moveC rfl rfl rfl) rfl rfl ?_; refine DR.step (q_moveC rfl rfl rfl) rfl rfl ?_
          refine DR.step (q_moveC rfl rfl rfl) rfl rfl ?_; refine DR.step (q_ar rfl rfl rfl rfl rfl (by omega) (by omega)) rfl rfl ?_
          refine DR.step (q_lee (p := 0) rfl rfl rfl rfl (by assumption) rfl) rfl rfl ?_; refine DR.step (q_moveC rfl rfl rfl) rfl rfl ?_; refine DR.step (q_moveC rfl rfl rfl) rfl rfl ?_
          refine DR.step (q_ar rfl rfl rfl rfl rfl (by omega) (by omega)) rfl rfl ?_; refine DR.step (q_le1 rfl rfl rfl rfl (by assumption) rfl) rfl rfl ?_
          refine DR.step (q_bslice rfl rfl rfl rfl rfl rfl) rfl rfl ?_; refine DR.stop (by kernel_rfl) (by kernel_rfl) ?_
          refine AL.weak (Wk.split (p := 0) rfl hat rfl (by repeat' (first | exact trivial | exact ⟨rfl, rfl, rfl⟩ | refine And.intro ?_ ?_)) (by repeat' (first | exact trivial | exact ⟨rfl, rfl, rfl⟩ | refine And.intro ?_ ?_))) ?_
          refine M_appsb rfl rfl rfl rfl rfl rfl rfl rfl rfl rfl (by omega) (by omega) ?_; refine M0 (q_ar rfl rfl rfl rfl rfl (by omega) (by omega)) rfl rfl ?_
          refine M_ste1 rfl rfl rfl rfl rfl rfl rfl rfl rfl (by assumption) rfl rfl ?_; refine L_nil ?_; refine B_n ?_; refine T_n ?_; refine A_region ?_; refine M0 (q_moveC rfl rfl rfl) rfl rfl ?_
          refine M0 (q_add rfl rfl rfl rfl (by omega)) rfl rfl ?_; refine M0 (q_assignC rfl rfl rfl) rfl rfl ?_; refine L_nil ?_; refine T_n ?_
          refine ⟨n - (i + 1), (by omega), (fun (i : Nat) => (⟨_, [(0, S s), (1, I pos), (2, I c), (3, I n), (11, .o (.c (.ref 0))), (12, I k), (14, I m), (16, .o (.c (.ref 1))), (18, I i)], [.row 1 (els ((snocs rows l).take i ++ rows.drop i)), .row 1 (els l)]⟩ : St)) (i + 1), W_go [0, 1] (by decide) rfl (row2 (app_next hsl hir (snocs_at hir hin _))) (.cons rfl (.cons rfl (.cons rfl (.cons rfl (.cons rfl (.cons rfl (.cons rfl (.cons rfl (.cons rfl (.nil)))))))))), i + 1, rfl, by omega, rfl⟩
        · have h := of_decide_eq_false h
          refine A_exit ?_; refine T_x ?_; refine T_x ?_; refine B_xs ?_; refine T_n ?_; refine A_region ?_; refine M0 (q_moveC rfl rfl rfl) rfl rfl ?_; refine M0 (q_moveC rfl rfl rfl) rfl rfl ?_
          refine M0 (q_add rfl rfl rfl rfl (by omega)) rfl rfl ?_; refine M0 (q_assignC rfl rfl rfl) rfl rfl ?_; refine L_nil ?_; refine B_n ?_; refine T_n ?_; refine A_region ?_
          refine M0 (q_moveC rfl rfl rfl) rfl rfl ?_; refine M0 (q_add rfl rfl rfl rfl (by omega)) rfl rfl ?_; refine M0 (q_assignC rfl rfl rfl) rfl rfl ?_; refine L_nil ?_; refine T_n ?_
          have hsn : ∀ r ∈ snocs rows l, r.length ≤ k + 1 := fun r hr => by
            obtain ⟨q, hq, rfl⟩ := List.getElem_of_mem hr
            rw [snocs_at (by omega) (by omega)]
            have := hrk _ (List.getElem_mem (show q < rows.length by omega))
            simp; omega
          have hend := mk_end (i := i) hsl (by omega)
          refine ⟨c - (k + 1), (by omega), (fun (k : Nat) (pos : Nat) (rows : List (List Int)) => (⟨_, [(0, S s), (1, I pos), (2, I c), (3, I n), (11, .o (.c (.ref 0))), (12, I k)], [.row 1 (els rows)]⟩ : St)) (k + 1) (pos + m) (snocs rows l), W_go [0] (by decide) rfl (row_eq (by rw [hend])) (.cons rfl (.cons rfl (.cons rfl (.cons rfl (.cons rfl (.cons rfl (.nil))))))), k + 1, pos + m, snocs rows l, rfl, ⟨by omega, by omega, hsn, by omega, by omega, by rw [hgo2, show c - (k + 1) = f by omega]⟩, rfl⟩
  · have hb : decide ((k : Int) < c) = false := decide_eq_false hlt
    have hkk : k = c := by omega
    subst hkk
    rw [show colsGo s n (k - k) pos rows = some (rows, pos) by rw [Nat.sub_self]; rfl]
    refine A_seq ?_; refine A_seq ?_; refine A_region ?_; refine M0 (q_moveC rfl rfl rfl) rfl rfl ?_; refine M0 (q_moveC rfl rfl rfl) rfl rfl ?_
    refine M0 (q_lssK rfl rfl rfl rfl (by assumption)) rfl rfl ?_; refine L_nil ?_; refine T_n ?_; refine A_ifF rfl ?_; refine A_exit ?_; refine T_x ?_; refine T_x ?_; refine B_xs ?_; refine T_n ?_
    refine A_seq ?_; refine A_region ?_; refine M0 (q_moveC rfl rfl rfl) rfl rfl ?_; refine M0 (q_moveC rfl rfl rfl) rfl rfl ?_; refine M0 (q_assignC rfl rfl rfl) rfl rfl ?_
    refine M0 (q_assignC rfl rfl rfl) rfl rfl ?_; refine M0 (q_assignC rfl rfl rfl) rfl rfl ?_; refine L_nil ?_; refine T_n ?_; refine A_ret ?_; refine F_r ?_
    exact E_tmp3 rfl rfl rfl rfl (W_end [0] (by decide) rfl rfl rfl)
end Go.Proofs.Ytkfnaniegldfaaa
