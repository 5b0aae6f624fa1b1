/-
  UnpackTrack, in the program and in the reference.
  Conditions: texts of at most 2^40 bytes.
-/
import Derived.Test.YtkfnaniegldfaaaDDecB
import Derived.Test.YtkfnaniegldfaaaDTrack
set_option linter.unusedSimpArgs false
set_option linter.unusedVariables false
set_option maxRecDepth 8000
namespace Go.Proofs.Ytkfnaniegldfaaa
open Go.RowKit

/-- fuel: at least the number of bytes that are left -/
def utGo (s : ByteArray) : Nat → Nat → List Int → Option (List Int)
  | 0, pos, acc => some acc
  | f + 1, pos, acc => if pos < s.size then (match decVar s (pos : Int) with
      | none => none
      | some (n, k) => if 400 - (acc.length : Int) < n / 16 then none else utGo s f (pos + k) (acc ++ List.replicate (n / 16).toNat (n % 16))) else some acc
def unpackTrack (s : ByteArray) : Option (List Int) := match utGo s s.size 0 [] with
  | none => none
  | some l => if packTrack l = s then some l else none
@[reducible] def utrO : Option (List Int) → List Ob
  | none => [.row 1 []]
  | some l => [.row 1 (els l)]
@[reducible] def utrR : Option (List Int) → V
  | none => .tu [.c (.ref 0), .c (bv false)]
  | some _ => .tu [.c (.ref 0), .c (bv true)]
theorem gd_small {l : List Int} (h1 : l.length ≤ 400) (h2 : ∀ x ∈ l, I64 x) : Enc.gd l := ⟨by omega, h2⟩
theorem els_rep (acc : List Int) (k : Nat) (v : Int) : els (acc ++ List.replicate (k + 1) v) = els (acc ++ List.replicate k v) ++ [[.v (.int .i64 v)]] := by
  rw [List.replicate_succ', ← List.append_assoc, els_snocI]
theorem utGo_end {s : ByteArray} {pos : Nat} (h : ¬ pos < s.size) (f : Nat) (acc : List Int) : utGo s f pos acc = some acc := by
  cases f with
  | zero => rfl
  | succ f => rw [utGo, if_neg h]
set_option maxHeartbeats 8000000 in
theorem I_UnpackTrack (s : ByteArray) (hs : s.size ≤ 1099511627776) : Con Try.prog 106 [] [astr s] (utrO (unpackTrack s)) (utrR (unpackTrack s)) := by
  have h00 : ([] : List (List T)).length = 0 := rfl
  refine Con.of Try.func106 rfl Try.ntmps106 rfl (fun E => ?_)
  refine A_seq ?_; refine A_region ?_; refine M0 (q_assignC rfl rfl rfl) rfl rfl ?_; refine M0 (q_assignC rfl rfl rfl) rfl rfl ?_; refine L_nil ?_; refine T_n ?_; refine A_seq ?_
  refine A_region ?_; refine M0 (q_assignC rfl rfl rfl) rfl rfl ?_; refine L_nil ?_; refine T_n ?_; refine A_seq ?_; refine A_seq ?_; refine A_region ?_
  refine M0 (q_assignC rfl rfl rfl) rfl rfl ?_; refine L_nil ?_; refine T_n ?_; refine A_block ?_
  refine AWP.pre ?_ (W_nil 4 1 rfl)
  refine A_loop (fun m__ st => ∃ (pos : Nat) (acc : List Int) (f : Nat), s.size - pos = m__ ∧ (s.size ≤ pos + f ∧ pos ≤ s.size ∧ acc.length ≤ 400 ∧ (∀ x ∈ acc, I64 x) ∧ utGo s f pos acc = utGo s s.size 0 []) ∧ st = (fun (pos : Nat) (acc : List Int) (f : Nat) => (⟨_, [(0, S s), (4, .o (.c (.ref 0))), (5, I pos)], [.row 1 (els acc)]⟩ : St)) (pos) (acc) (f)) ((fun (pos : Nat) (acc : List Int) (f : Nat) => s.size - pos) (0) ([]) (s.size)) ⟨(fun (pos : Nat) (acc : List Int) (f : Nat) => (⟨_, [(0, S s), (4, .o (.c (.ref 0))), (5, I pos)], [.row 1 (els acc)]⟩ : St)) (0) ([]) (s.size), W_go [0] (by decide) rfl (rfl) (.cons rfl (.cons rfl (.cons rfl (.nil)))), 0, [], s.size, rfl, ⟨by omega, by omega, by simp, by simp, rfl⟩, rfl⟩ ?_
  rintro m_A _ ⟨pos, acc, f, hk_A, hp_A, rfl⟩
  obtain ⟨hfu, hps, hal, hag, hgo⟩ := hp_A
  have hla := els_len acc
  by_cases hlt : (pos : Int) < s.size
  · have hb : decide ((pos : Int) < s.size) = true := decide_eq_true hlt
    have hd := I_DecodeVarint s (pos : Int) hs ⟨by omega, by omega⟩
    obtain ⟨g, rfl⟩ : ∃ g, f = g + 1 := ⟨f - 1, by omega⟩
    cases hv : decVar s (pos : Int) with
    | none =>
      rw [hv] at hd
      rw [show unpackTrack s = none by rw [unpackTrack, ← hgo, utGo, if_pos (by omega), hv]]
      refine A_seq ?_; refine A_seq ?_; refine A_region ?_; refine M0 (q_moveC rfl rfl rfl) rfl rfl ?_; refine M0 (q_moveC rfl rfl rfl) rfl rfl ?_; refine M0 (q_lens rfl rfl rfl) rfl rfl ?_
      refine M0 (q_lssK rfl rfl rfl rfl (by assumption)) rfl rfl ?_; refine L_nil ?_; refine T_n ?_; refine A_ifT rfl ?_; refine A_skip ?_; refine T_n ?_; refine A_block ?_; refine A_seq ?_
      refine A_region ?_; refine M0 (q_moveC rfl rfl rfl) rfl rfl ?_; refine M0 (q_moveC rfl rfl rfl) rfl rfl ?_; refine M1 (q_call rfl rfl (hd) rfl rfl rfl) rfl rfl ?_
      refine M0 (q_moveT rfl rfl rfl) rfl rfl ?_; refine M0 (q_ext rfl rfl rfl rfl) rfl rfl ?_; refine M0 (q_ext rfl rfl rfl rfl) rfl rfl ?_; refine M0 (q_ext rfl rfl rfl rfl) rfl rfl ?_
      refine M0 (q_assignC rfl rfl rfl) rfl rfl ?_; refine M0 (q_assignC rfl rfl rfl) rfl rfl ?_; refine M0 (q_assignC rfl rfl rfl) rfl rfl ?_; refine L_nil ?_; refine T_n ?_; refine A_seq ?_
      refine A_seq ?_; refine A_region ?_; refine M0 (q_moveC rfl rfl rfl) rfl rfl ?_; refine M0 (q_not rfl rfl rfl) rfl rfl ?_; refine M0 (q_moveC rfl rfl rfl) rfl rfl ?_
      refine M_no rfl rfl rfl rfl rfl rfl ?_; refine M_no rfl rfl rfl rfl rfl rfl ?_; refine M_no rfl rfl rfl rfl rfl rfl ?_; refine M_no rfl rfl rfl rfl rfl rfl ?_
      refine M_no rfl rfl rfl rfl rfl rfl ?_; refine M_no rfl rfl rfl rfl rfl rfl ?_; refine M0 (q_pickT rfl rfl rfl rfl) rfl rfl ?_; refine L_nil ?_; refine T_n ?_; refine A_ifT rfl ?_
      refine A_seq ?_; refine A_region ?_; refine M0 (q_assignC rfl rfl rfl) rfl rfl ?_; refine M0 (q_assignC rfl rfl rfl) rfl rfl ?_; refine L_nil ?_; refine T_n ?_; refine A_ret ?_; refine T_r ?_
      refine B_r ?_; refine T_r ?_; refine B_r ?_; refine T_r ?_; refine F_r ?_
      exact E_tmp2 rfl rfl rfl (W_fill [1] [1] rfl rfl (by decide) rfl rfl rfl)
    | some r =>
      obtain ⟨n, k⟩ := r
      rw [hv] at hd
      have hm := decVar_some hv
      by_cases hbig : 400 - ((els acc).length : Int) < n / 16
      · have hb2 : decide (400 - ((els acc).length : Int) < n / 16) = true := decide_eq_true hbig
        rw [show unpackTrack s = none by rw [unpackTrack, ← hgo, utGo, if_pos (by omega), hv]; simp only []; rw [if_pos (by omega)]]
        refine A_seq ?_; refine A_seq ?_; refine A_region ?_; refine M0 (q_moveC rfl rfl rfl) rfl rfl ?_; refine M0 (q_moveC rfl rfl rfl) rfl rfl ?_; refine M0 (q_lens rfl rfl rfl) rfl rfl ?_
        refine M0 (q_lssK rfl rfl rfl rfl (by assumption)) rfl rfl ?_; refine L_nil ?_; refine T_n ?_; refine A_ifT rfl ?_; refine A_skip ?_; refine T_n ?_; refine A_block ?_; refine A_seq ?_
        refine A_region ?_; refine M0 (q_moveC rfl rfl rfl) rfl rfl ?_; refine M0 (q_moveC rfl rfl rfl) rfl rfl ?_; refine M1 (q_call rfl rfl (hd) rfl rfl rfl) rfl rfl ?_
        refine M0 (q_moveT rfl rfl rfl) rfl rfl ?_; refine M0 (q_ext rfl rfl rfl rfl) rfl rfl ?_; refine M0 (q_ext rfl rfl rfl rfl) rfl rfl ?_; refine M0 (q_ext rfl rfl rfl rfl) rfl rfl ?_
        refine M0 (q_assignC rfl rfl rfl) rfl rfl ?_; refine M0 (q_assignC rfl rfl rfl) rfl rfl ?_; refine M0 (q_assignC rfl rfl rfl) rfl rfl ?_; refine L_nil ?_; refine T_n ?_; refine A_seq ?_
        refine A_seq ?_; refine A_region ?_; refine M0 (q_moveC rfl rfl rfl) rfl rfl ?_; refine M0 (q_not rfl rfl rfl) rfl rfl ?_; refine M0 (q_moveC rfl rfl rfl) rfl rfl ?_
        refine M_yes rfl rfl rfl ?_; refine M0 (q_moveC rfl rfl rfl) rfl rfl ?_; refine M_yes rfl rfl rfl ?_; refine M0 (q_quo rfl rfl rfl rfl (by omega)) rfl rfl ?_; refine M_yes rfl rfl rfl ?_
        refine M0 (q_moveC rfl rfl rfl) rfl rfl ?_; refine M_yes rfl rfl rfl ?_; refine M0 (q_lenr rfl rfl rfl rfl) rfl rfl ?_; refine M_yes rfl rfl rfl ?_
        refine M0 (q_sub rfl rfl rfl rfl (by omega)) rfl rfl ?_; refine M_yes rfl rfl rfl ?_; refine M0 (q_gtrK rfl rfl rfl rfl (by assumption)) rfl rfl ?_
        refine M0 (q_pickF rfl rfl rfl rfl) rfl rfl ?_; refine L_nil ?_; refine T_n ?_; refine A_ifT rfl ?_; refine A_seq ?_; refine A_region ?_; refine M0 (q_assignC rfl rfl rfl) rfl rfl ?_
        refine M0 (q_assignC rfl rfl rfl) rfl rfl ?_; refine L_nil ?_; refine T_n ?_; refine A_ret ?_; refine T_r ?_; refine B_r ?_; refine T_r ?_; refine B_r ?_; refine T_r ?_; refine F_r ?_
        exact E_tmp2 rfl rfl rfl (W_fill [1] [1] rfl rfl (by decide) rfl rfl rfl)
      have hb2 : decide (400 - ((els acc).length : Int) < n / 16) = false := decide_eq_false hbig
      obtain ⟨m, hm16⟩ : ∃ m : Nat, n / 16 = m := ⟨(n / 16).toNat, by omega⟩
      refine A_seq ?_; refine A_seq ?_; refine A_region ?_; refine M0 (q_moveC rfl rfl rfl) rfl rfl ?_; refine M0 (q_moveC rfl rfl rfl) rfl rfl ?_; refine M0 (q_lens rfl rfl rfl) rfl rfl ?_
      refine M0 (q_lssK rfl rfl rfl rfl (by assumption)) rfl rfl ?_; refine L_nil ?_; refine T_n ?_; refine A_ifT rfl ?_; refine A_skip ?_; refine T_n ?_; refine A_block ?_; refine A_seq ?_
      refine A_region ?_; refine M0 (q_moveC rfl rfl rfl) rfl rfl ?_; refine M0 (q_moveC rfl rfl rfl) rfl rfl ?_; refine M1 (q_call rfl rfl (hd) rfl rfl rfl) rfl rfl ?_
      refine M0 (q_moveT rfl rfl rfl) rfl rfl ?_; refine M0 (q_ext rfl rfl rfl rfl) rfl rfl ?_; refine M0 (q_ext rfl rfl rfl rfl) rfl rfl ?_; refine M0 (q_ext rfl rfl rfl rfl) rfl rfl ?_
      refine M0 (q_assignC rfl rfl rfl) rfl rfl ?_; refine M0 (q_assignC rfl rfl rfl) rfl rfl ?_; refine M0 (q_assignC rfl rfl rfl) rfl rfl ?_; refine L_nil ?_; refine T_n ?_; refine A_seq ?_
      refine A_seq ?_; refine A_region ?_; refine M0 (q_moveC rfl rfl rfl) rfl rfl ?_; refine M0 (q_not rfl rfl rfl) rfl rfl ?_; refine M0 (q_moveC rfl rfl rfl) rfl rfl ?_
      refine M_yes rfl rfl rfl ?_; refine M0 (q_moveC rfl rfl rfl) rfl rfl ?_; refine M_yes rfl rfl rfl ?_; refine M0 (q_quo rfl rfl rfl rfl (by omega)) rfl rfl ?_; refine M_yes rfl rfl rfl ?_
      refine M0 (q_moveC rfl rfl rfl) rfl rfl ?_; refine M_yes rfl rfl rfl ?_; refine M0 (q_lenr rfl rfl rfl rfl) rfl rfl ?_; refine M_yes rfl rfl rfl ?_
      refine M0 (q_sub rfl rfl rfl rfl (by omega)) rfl rfl ?_; refine M_yes rfl rfl rfl ?_; refine M0 (q_gtrK rfl rfl rfl rfl (by assumption)) rfl rfl ?_
      refine M0 (q_pickF rfl rfl rfl rfl) rfl rfl ?_; refine L_nil ?_; refine T_n ?_; refine A_ifF rfl ?_; refine A_skip ?_; refine T_n ?_; refine A_seq ?_; refine A_seq ?_; refine A_region ?_
      refine M0 (q_assignC rfl rfl rfl) rfl rfl ?_; refine L_nil ?_; refine T_n ?_; refine A_block ?_
      refine A_loop (fun m__ st => ∃ (k2 : Nat), m - k2 = m__ ∧ (k2 ≤ m) ∧ st = (fun (k2 : Nat) => (⟨_, [(0, S s), (4, .o (.c (.ref 0))), (5, I pos), (6, I n), (7, I k), (9, I k2)], [.row 1 (els (acc ++ List.replicate k2 (n % 16)))]⟩ : St)) (k2)) ((fun (k2 : Nat) => m - k2) (0)) ⟨(fun (k2 : Nat) => (⟨_, [(0, S s), (4, .o (.c (.ref 0))), (5, I pos), (6, I n), (7, I k), (9, I k2)], [.row 1 (els (acc ++ List.replicate k2 (n % 16)))]⟩ : St)) (0), W_go [0] (by decide) rfl (row_eq (by simp)) (.cons rfl (.cons rfl (.cons rfl (.cons rfl (.cons rfl (.cons rfl (.nil))))))), 0, rfl, Nat.zero_le _, rfl⟩ ?_
      rintro m_B _ ⟨k2, hk_B, hp_B, rfl⟩
      have hlb := els_len (acc ++ List.replicate k2 (n % 16))
      have hlc : (acc ++ List.replicate k2 (n % 16)).length = acc.length + k2 := by simp
      refine A_seq ?_; refine A_seq ?_; refine A_region ?_; refine M0 (q_moveC rfl rfl rfl) rfl rfl ?_; refine M0 (q_moveC rfl rfl rfl) rfl rfl ?_
      refine M0 (q_quo rfl rfl rfl rfl (by omega)) rfl rfl ?_; refine M0 (q_lss rfl rfl rfl rfl) rfl rfl ?_; refine L_nil ?_; refine T_n ?_
      refine A_cond rfl (fun h => ?_) (fun h => ?_)
      · have h := of_decide_eq_true h
        refine A_skip ?_; refine T_n ?_; refine A_seq ?_; refine A_block ?_; refine A_region ?_; refine M0 (q_moveC rfl rfl rfl) rfl rfl ?_; refine M0 (q_moveC rfl rfl rfl) rfl rfl ?_
        refine M0 (q_rem rfl rfl rfl rfl (by omega)) rfl rfl ?_; refine M1 (q_bslice rfl rfl rfl rfl rfl rfl) rfl rfl ?_
        refine M_appsb rfl rfl rfl rfl rfl rfl rfl rfl rfl rfl (by omega) (by omega) ?_; refine M0 (q_assignC rfl rfl rfl) rfl rfl ?_; refine L_nil ?_; refine B_n ?_; refine T_n ?_
        refine A_region ?_; refine M0 (q_moveC rfl rfl rfl) rfl rfl ?_; refine M0 (q_add rfl rfl rfl rfl (by omega)) rfl rfl ?_; refine M0 (q_assignC rfl rfl rfl) rfl rfl ?_; refine L_nil ?_
        refine T_n ?_
        refine ⟨m - (k2 + 1), (by omega), (fun (k2 : Nat) => (⟨_, [(0, S s), (4, .o (.c (.ref 0))), (5, I pos), (6, I n), (7, I k), (9, I k2)], [.row 1 (els (acc ++ List.replicate k2 (n % 16)))]⟩ : St)) (k2 + 1), W_go [0] (by decide) rfl (row_eq (els_rep acc k2 (n % 16))) (.cons rfl (.cons rfl (.cons rfl (.cons rfl (.cons rfl (.cons rfl (.nil))))))), k2 + 1, rfl, by omega, rfl⟩
      · have h := of_decide_eq_false h
        have hk2 : k2 = m := by omega
        subst hk2
        refine A_exit ?_; refine T_x ?_; refine T_x ?_; refine B_xs ?_; refine T_n ?_; refine A_region ?_; refine M0 (q_moveC rfl rfl rfl) rfl rfl ?_; refine M0 (q_moveC rfl rfl rfl) rfl rfl ?_
        refine M0 (q_add rfl rfl rfl rfl (by omega)) rfl rfl ?_; refine M0 (q_assignC rfl rfl rfl) rfl rfl ?_; refine L_nil ?_; refine B_n ?_; refine T_n ?_
        refine ⟨s.size - (pos + k), (by omega), (fun (pos : Nat) (acc : List Int) (f : Nat) => (⟨_, [(0, S s), (4, .o (.c (.ref 0))), (5, I pos)], [.row 1 (els acc)]⟩ : St)) (pos + k) (acc ++ List.replicate k2 (n % 16)) (g), W_go [0] (by decide) rfl (rfl) (.cons rfl (.cons rfl (.cons rfl (.nil)))), pos + k, acc ++ List.replicate k2 (n % 16), g, rfl, ⟨by omega, by omega, by omega, fun x hx => by rcases List.mem_append.1 hx with hx | hx; exact hag x hx; have := List.eq_of_mem_replicate hx; exact ⟨by omega, by omega⟩, by rw [← hgo, utGo, if_pos (by omega), hv]; simp only []; rw [if_neg (by omega), hm16]; rfl⟩, rfl⟩
  · have hb : decide ((pos : Int) < s.size) = false := decide_eq_false hlt
    have hut := utGo_end (s := s) (pos := pos) (by omega) f acc
    have hpk := I_PackTrack acc (gd_small hal hag)
    by_cases he : packTrack acc = s
    · have hb2 : decide (packTrack acc ≠ s) = false := decide_eq_false fun h => h he
      rw [show unpackTrack s = some acc by rw [unpackTrack, ← hgo, hut]; exact if_pos he]
      refine A_seq ?_; refine A_seq ?_; refine A_region ?_; refine M0 (q_moveC rfl rfl rfl) rfl rfl ?_; refine M0 (q_moveC rfl rfl rfl) rfl rfl ?_; refine M0 (q_lens rfl rfl rfl) rfl rfl ?_
      refine M0 (q_lssK rfl rfl rfl rfl (by assumption)) rfl rfl ?_; refine L_nil ?_; refine T_n ?_; refine A_ifF rfl ?_; refine A_exit ?_; refine T_x ?_; refine T_x ?_; refine B_xs ?_; refine T_n ?_
      refine A_seq ?_; refine A_seq ?_; refine A_region ?_; refine M0 (q_moveC rfl rfl rfl) rfl rfl ?_; refine M0 (q_call0 rfl rfl (hpk) rfl) rfl rfl ?_; refine M0 (q_moveC rfl rfl rfl) rfl rfl ?_
      refine M0 (q_sneqK rfl rfl rfl rfl (by assumption)) rfl rfl ?_; refine L_nil ?_; refine T_n ?_; refine A_ifF rfl ?_; refine A_skip ?_; refine T_n ?_; refine A_seq ?_; refine A_region ?_
      refine M0 (q_moveC rfl rfl rfl) rfl rfl ?_; refine M0 (q_assignC rfl rfl rfl) rfl rfl ?_; refine M0 (q_assignC rfl rfl rfl) rfl rfl ?_; refine L_nil ?_; refine T_n ?_; refine A_ret ?_
      refine F_r ?_
      exact E_tmp2 rfl rfl rfl (W_end [0] (by decide) rfl rfl rfl)
    · have hb2 : decide (packTrack acc ≠ s) = true := decide_eq_true he
      rw [show unpackTrack s = none by rw [unpackTrack, ← hgo, hut]; exact if_neg he]
      refine A_seq ?_; refine A_seq ?_; refine A_region ?_; refine M0 (q_moveC rfl rfl rfl) rfl rfl ?_; refine M0 (q_moveC rfl rfl rfl) rfl rfl ?_; refine M0 (q_lens rfl rfl rfl) rfl rfl ?_
      refine M0 (q_lssK rfl rfl rfl rfl (by assumption)) rfl rfl ?_; refine L_nil ?_; refine T_n ?_; refine A_ifF rfl ?_; refine A_exit ?_; refine T_x ?_; refine T_x ?_; refine B_xs ?_; refine T_n ?_
      refine A_seq ?_; refine A_seq ?_; refine A_region ?_; refine M0 (q_moveC rfl rfl rfl) rfl rfl ?_; refine M0 (q_call0 rfl rfl (hpk) rfl) rfl rfl ?_; refine M0 (q_moveC rfl rfl rfl) rfl rfl ?_
      refine M0 (q_sneqK rfl rfl rfl rfl (by assumption)) rfl rfl ?_; refine L_nil ?_; refine T_n ?_; refine A_ifT rfl ?_; refine A_seq ?_; refine A_region ?_
      refine M0 (q_assignC rfl rfl rfl) rfl rfl ?_; refine M0 (q_assignC rfl rfl rfl) rfl rfl ?_; refine L_nil ?_; refine T_n ?_; refine A_ret ?_; refine T_r ?_; refine F_r ?_
      exact E_tmp2 rfl rfl rfl (W_fill [1] [1] rfl rfl (by decide) rfl rfl rfl)
set_option maxHeartbeats 8000000 in
theorem S_UnpackTrack (s : ByteArray) (hs : s.size ≤ 1099511627776) : Con Try.prog 102 [] [astr s] (utrO (unpackTrack s)) (utrR (unpackTrack s)) := by
  have h00 : ([] : List (List T)).length = 0 := rfl
  refine Con.of Try.func102 rfl Try.ntmps102 rfl (fun E => ?_)
  refine A_seq ?_; refine A_region ?_; refine M0 (q_assignC rfl rfl rfl) rfl rfl ?_; refine M0 (q_assignC rfl rfl rfl) rfl rfl ?_; refine L_nil ?_; refine T_n ?_; refine A_seq ?_
  refine A_region ?_; refine M1 (q_bslice0 rfl rfl rfl) rfl rfl ?_; refine M0 (q_assignC rfl rfl rfl) rfl rfl ?_; refine L_nil ?_; refine T_n ?_; refine A_seq ?_; refine A_seq ?_
  refine A_region ?_; refine M0 (q_assignC rfl rfl rfl) rfl rfl ?_; refine L_nil ?_; refine T_n ?_; refine A_block ?_
  refine A_loop (fun m__ st => ∃ (pos : Nat) (acc : List Int) (f : Nat), s.size - pos = m__ ∧ (s.size ≤ pos + f ∧ pos ≤ s.size ∧ acc.length ≤ 400 ∧ (∀ x ∈ acc, I64 x) ∧ utGo s f pos acc = utGo s s.size 0 []) ∧ st = (fun (pos : Nat) (acc : List Int) (f : Nat) => (⟨_, [(0, S s), (4, .o (.c (.ref 0))), (5, I pos)], [.row 1 (els acc)]⟩ : St)) (pos) (acc) (f)) ((fun (pos : Nat) (acc : List Int) (f : Nat) => s.size - pos) (0) ([]) (s.size)) ⟨(fun (pos : Nat) (acc : List Int) (f : Nat) => (⟨_, [(0, S s), (4, .o (.c (.ref 0))), (5, I pos)], [.row 1 (els acc)]⟩ : St)) (0) ([]) (s.size), W_go [0] (by decide) rfl (rfl) (.cons rfl (.cons rfl (.cons rfl (.nil)))), 0, [], s.size, rfl, ⟨by omega, by omega, by simp, by simp, rfl⟩, rfl⟩ ?_
  rintro m_A _ ⟨pos, acc, f, hk_A, hp_A, rfl⟩
  obtain ⟨hfu, hps, hal, hag, hgo⟩ := hp_A
  have hla := els_len acc
  by_cases hlt : (pos : Int) < s.size
  · have hb : decide ((pos : Int) < s.size) = true := decide_eq_true hlt
    have hd := S_DecodeVarint s (pos : Int) hs ⟨by omega, by omega⟩
    obtain ⟨g, rfl⟩ : ∃ g, f = g + 1 := ⟨f - 1, by omega⟩
    cases hv : decVar s (pos : Int) with
    | none =>
      rw [hv] at hd
      rw [show unpackTrack s = none by rw [unpackTrack, ← hgo, utGo, if_pos (by omega), hv]]
      refine A_seq ?_; refine A_seq ?_; refine A_region ?_; refine M0 (q_moveC rfl rfl rfl) rfl rfl ?_; refine M0 (q_moveC rfl rfl rfl) rfl rfl ?_; refine M0 (q_lens rfl rfl rfl) rfl rfl ?_
      refine M0 (q_lssK rfl rfl rfl rfl (by assumption)) rfl rfl ?_; refine L_nil ?_; refine T_n ?_; refine A_ifT rfl ?_; refine A_skip ?_; refine T_n ?_; refine A_block ?_; refine A_seq ?_
      refine A_region ?_; refine M0 (q_moveC rfl rfl rfl) rfl rfl ?_; refine M0 (q_moveC rfl rfl rfl) rfl rfl ?_; refine M1 (q_call rfl rfl (hd) rfl rfl rfl) rfl rfl ?_
      refine M0 (q_moveT rfl rfl rfl) rfl rfl ?_; refine M0 (q_ext rfl rfl rfl rfl) rfl rfl ?_; refine M0 (q_ext rfl rfl rfl rfl) rfl rfl ?_; refine M0 (q_ext rfl rfl rfl rfl) rfl rfl ?_
      refine M0 (q_assignC rfl rfl rfl) rfl rfl ?_; refine M0 (q_assignC rfl rfl rfl) rfl rfl ?_; refine M0 (q_assignC rfl rfl rfl) rfl rfl ?_; refine L_nil ?_; refine T_n ?_; refine A_seq ?_
      refine A_seq ?_; refine A_region ?_; refine M0 (q_moveC rfl rfl rfl) rfl rfl ?_; refine M0 (q_not rfl rfl rfl) rfl rfl ?_; refine M0 (q_moveC rfl rfl rfl) rfl rfl ?_
      refine M_no rfl rfl rfl rfl rfl rfl ?_; refine M_no rfl rfl rfl rfl rfl rfl ?_; refine M_no rfl rfl rfl rfl rfl rfl ?_; refine M_no rfl rfl rfl rfl rfl rfl ?_
      refine M_no rfl rfl rfl rfl rfl rfl ?_; refine M_no rfl rfl rfl rfl rfl rfl ?_; refine M0 (q_pickT rfl rfl rfl rfl) rfl rfl ?_; refine L_nil ?_; refine T_n ?_; refine A_ifT rfl ?_
      refine A_seq ?_; refine A_region ?_; refine M1 (q_bslice0 rfl rfl rfl) rfl rfl ?_; refine M0 (q_assignC rfl rfl rfl) rfl rfl ?_; refine M0 (q_assignC rfl rfl rfl) rfl rfl ?_; refine L_nil ?_
      refine T_n ?_; refine A_ret ?_; refine T_r ?_; refine B_r ?_; refine T_r ?_; refine B_r ?_; refine T_r ?_; refine F_r ?_
      exact E_tmp2 rfl rfl rfl (W_end [1] (by decide) rfl rfl rfl)
    | some r =>
      obtain ⟨n, k⟩ := r
      rw [hv] at hd
      have hm := decVar_some hv
      by_cases hbig : 400 - ((els acc).length : Int) < n / 16
      · have hb2 : decide (400 - ((els acc).length : Int) < n / 16) = true := decide_eq_true hbig
        rw [show unpackTrack s = none by rw [unpackTrack, ← hgo, utGo, if_pos (by omega), hv]; simp only []; rw [if_pos (by omega)]]
        refine A_seq ?_; refine A_seq ?_; refine A_region ?_; refine M0 (q_moveC rfl rfl rfl) rfl rfl ?_; refine M0 (q_moveC rfl rfl rfl) rfl rfl ?_; refine M0 (q_lens rfl rfl rfl) rfl rfl ?_
        refine M0 (q_lssK rfl rfl rfl rfl (by assumption)) rfl rfl ?_; refine L_nil ?_; refine T_n ?_; refine A_ifT rfl ?_; refine A_skip ?_; refine T_n ?_; refine A_block ?_; refine A_seq ?_
        refine A_region ?_; refine M0 (q_moveC rfl rfl rfl) rfl rfl ?_; refine M0 (q_moveC rfl rfl rfl) rfl rfl ?_; refine M1 (q_call rfl rfl (hd) rfl rfl rfl) rfl rfl ?_
        refine M0 (q_moveT rfl rfl rfl) rfl rfl ?_; refine M0 (q_ext rfl rfl rfl rfl) rfl rfl ?_; refine M0 (q_ext rfl rfl rfl rfl) rfl rfl ?_; refine M0 (q_ext rfl rfl rfl rfl) rfl rfl ?_
        refine M0 (q_assignC rfl rfl rfl) rfl rfl ?_; refine M0 (q_assignC rfl rfl rfl) rfl rfl ?_; refine M0 (q_assignC rfl rfl rfl) rfl rfl ?_; refine L_nil ?_; refine T_n ?_; refine A_seq ?_
        refine A_seq ?_; refine A_region ?_; refine M0 (q_moveC rfl rfl rfl) rfl rfl ?_; refine M0 (q_not rfl rfl rfl) rfl rfl ?_; refine M0 (q_moveC rfl rfl rfl) rfl rfl ?_
        refine M_yes rfl rfl rfl ?_; refine M0 (q_moveC rfl rfl rfl) rfl rfl ?_; refine M_yes rfl rfl rfl ?_; refine M0 (q_quo rfl rfl rfl rfl (by omega)) rfl rfl ?_; refine M_yes rfl rfl rfl ?_
        refine M0 (q_moveC rfl rfl rfl) rfl rfl ?_; refine M_yes rfl rfl rfl ?_; refine M0 (q_lenr rfl rfl rfl rfl) rfl rfl ?_; refine M_yes rfl rfl rfl ?_
        refine M0 (q_sub rfl rfl rfl rfl (by omega)) rfl rfl ?_; refine M_yes rfl rfl rfl ?_; refine M0 (q_gtrK rfl rfl rfl rfl (by assumption)) rfl rfl ?_
        refine M0 (q_pickF rfl rfl rfl rfl) rfl rfl ?_; refine L_nil ?_; refine T_n ?_; refine A_ifT rfl ?_; refine A_seq ?_; refine A_region ?_; refine M1 (q_bslice0 rfl rfl rfl) rfl rfl ?_
        refine M0 (q_assignC rfl rfl rfl) rfl rfl ?_; refine M0 (q_assignC rfl rfl rfl) rfl rfl ?_; refine L_nil ?_; refine T_n ?_; refine A_ret ?_; refine T_r ?_; refine B_r ?_; refine T_r ?_
        refine B_r ?_; refine T_r ?_; refine F_r ?_
        exact E_tmp2 rfl rfl rfl (W_end [1] (by decide) rfl rfl rfl)
      have hb2 : decide (400 - ((els acc).length : Int) < n / 16) = false := decide_eq_false hbig
      obtain ⟨m, hm16⟩ : ∃ m : Nat, n / 16 = m := ⟨(n / 16).toNat, by omega⟩
      refine A_seq ?_; refine A_seq ?_; refine A_region ?_; refine M0 (q_moveC rfl rfl rfl) rfl rfl ?_; refine M0 (q_moveC rfl rfl rfl) rfl rfl ?_; refine M0 (q_lens rfl rfl rfl) rfl rfl ?_
      refine M0 (q_lssK rfl rfl rfl rfl (by assumption)) rfl rfl ?_; refine L_nil ?_; refine T_n ?_; refine A_ifT rfl ?_; refine A_skip ?_; refine T_n ?_; refine A_block ?_; refine A_seq ?_
      refine A_region ?_; refine M0 (q_moveC rfl rfl rfl) rfl rfl ?_; refine M0 (q_moveC rfl rfl rfl) rfl rfl ?_; refine M1 (q_call rfl rfl (hd) rfl rfl rfl) rfl rfl ?_
      refine M0 (q_moveT rfl rfl rfl) rfl rfl ?_; refine M0 (q_ext rfl rfl rfl rfl) rfl rfl ?_; refine M0 (q_ext rfl rfl rfl rfl) rfl rfl ?_; refine M0 (q_ext rfl rfl rfl rfl) rfl rfl ?_
      refine M0 (q_assignC rfl rfl rfl) rfl rfl ?_; refine M0 (q_assignC rfl rfl rfl) rfl rfl ?_; refine M0 (q_assignC rfl rfl rfl) rfl rfl ?_; refine L_nil ?_; refine T_n ?_; refine A_seq ?_
      refine A_seq ?_; refine A_region ?_; refine M0 (q_moveC rfl rfl rfl) rfl rfl ?_; refine M0 (q_not rfl rfl rfl) rfl rfl ?_; refine M0 (q_moveC rfl rfl rfl) rfl rfl ?_
      refine M_yes rfl rfl rfl ?_; refine M0 (q_moveC rfl rfl rfl) rfl rfl ?_; refine M_yes rfl rfl rfl ?_; refine M0 (q_quo rfl rfl rfl rfl (by omega)) rfl rfl ?_; refine M_yes rfl rfl rfl ?_
      refine M0 (q_moveC rfl rfl rfl) rfl rfl ?_; refine M_yes rfl rfl rfl ?_; refine M0 (q_lenr rfl rfl rfl rfl) rfl rfl ?_; refine M_yes rfl rfl rfl ?_
      refine M0 (q_sub rfl rfl rfl rfl (by omega)) rfl rfl ?_; refine M_yes rfl rfl rfl ?_; refine M0 (q_gtrK rfl rfl rfl rfl (by assumption)) rfl rfl ?_
      refine M0 (q_pickF rfl rfl rfl rfl) rfl rfl ?_; refine L_nil ?_; refine T_n ?_; refine A_ifF rfl ?_; refine A_skip ?_; refine T_n ?_; refine A_seq ?_; refine A_seq ?_; refine A_region ?_
      refine M0 (q_moveC rfl rfl rfl) rfl rfl ?_; refine M0 (q_quo rfl rfl rfl rfl (by omega)) rfl rfl ?_; refine M0 (q_assignC rfl rfl rfl) rfl rfl ?_; refine L_nil ?_; refine T_n ?_
      refine A_block ?_
      refine A_loop (fun m__ st => ∃ (k2 : Nat), m - k2 = m__ ∧ (k2 ≤ m) ∧ st = (fun (k2 : Nat) => (⟨_, [(0, S s), (4, .o (.c (.ref 0))), (5, I pos), (6, I n), (7, I k), (9, I ((m : Int) - k2))], [.row 1 (els (acc ++ List.replicate k2 (n % 16)))]⟩ : St)) (k2)) ((fun (k2 : Nat) => m - k2) (0)) ⟨(fun (k2 : Nat) => (⟨_, [(0, S s), (4, .o (.c (.ref 0))), (5, I pos), (6, I n), (7, I k), (9, I ((m : Int) - k2))], [.row 1 (els (acc ++ List.replicate k2 (n % 16)))]⟩ : St)) (0), W_go [0] (by decide) rfl (row_eq (by simp)) (.cons rfl (.cons rfl (.cons rfl (.cons rfl (.cons rfl (.cons (I_eq (by omega)) (.nil))))))), 0, rfl, Nat.zero_le _, rfl⟩ ?_
      rintro m_B _ ⟨k2, hk_B, hp_B, rfl⟩
      have hlb := els_len (acc ++ List.replicate k2 (n % 16))
      have hlc : (acc ++ List.replicate k2 (n % 16)).length = acc.length + k2 := by simp
      refine A_seq ?_; refine A_seq ?_; refine A_region ?_; refine M0 (q_moveC rfl rfl rfl) rfl rfl ?_; refine M0 (q_gtr rfl rfl rfl rfl) rfl rfl ?_; refine L_nil ?_; refine T_n ?_
      refine A_cond rfl (fun h => ?_) (fun h => ?_)
      · have h := of_decide_eq_true h
        refine A_skip ?_; refine T_n ?_; refine A_seq ?_; refine A_block ?_; refine A_region ?_; refine M0 (q_moveC rfl rfl rfl) rfl rfl ?_; refine M0 (q_moveC rfl rfl rfl) rfl rfl ?_
        refine M0 (q_rem rfl rfl rfl rfl (by omega)) rfl rfl ?_; refine M1 (q_bslice rfl rfl rfl rfl rfl rfl) rfl rfl ?_
        refine M_appsb rfl rfl rfl rfl rfl rfl rfl rfl rfl rfl (by omega) (by omega) ?_; refine M0 (q_assignC rfl rfl rfl) rfl rfl ?_; refine L_nil ?_; refine B_n ?_; refine T_n ?_
        refine A_region ?_; refine M0 (q_moveC rfl rfl rfl) rfl rfl ?_; refine M0 (q_sub rfl rfl rfl rfl (by omega)) rfl rfl ?_; refine M0 (q_assignC rfl rfl rfl) rfl rfl ?_; refine L_nil ?_
        refine T_n ?_
        refine ⟨m - (k2 + 1), (by omega), (fun (k2 : Nat) => (⟨_, [(0, S s), (4, .o (.c (.ref 0))), (5, I pos), (6, I n), (7, I k), (9, I ((m : Int) - k2))], [.row 1 (els (acc ++ List.replicate k2 (n % 16)))]⟩ : St)) (k2 + 1), W_go [0] (by decide) rfl (row_eq (els_rep acc k2 (n % 16))) (.cons rfl (.cons rfl (.cons rfl (.cons rfl (.cons rfl (.cons (I_eq (by omega)) (.nil))))))), k2 + 1, rfl, by omega, rfl⟩
      · have h := of_decide_eq_false h
        have hk2 : k2 = m := by omega
        subst hk2
        refine A_exit ?_; refine T_x ?_; refine T_x ?_; refine B_xs ?_; refine T_n ?_; refine A_region ?_; refine M0 (q_moveC rfl rfl rfl) rfl rfl ?_; refine M0 (q_moveC rfl rfl rfl) rfl rfl ?_
        refine M0 (q_add rfl rfl rfl rfl (by omega)) rfl rfl ?_; refine M0 (q_assignC rfl rfl rfl) rfl rfl ?_; refine L_nil ?_; refine B_n ?_; refine T_n ?_
        refine ⟨s.size - (pos + k), (by omega), (fun (pos : Nat) (acc : List Int) (f : Nat) => (⟨_, [(0, S s), (4, .o (.c (.ref 0))), (5, I pos)], [.row 1 (els acc)]⟩ : St)) (pos + k) (acc ++ List.replicate k2 (n % 16)) (g), W_go [0] (by decide) rfl (rfl) (.cons rfl (.cons rfl (.cons rfl (.nil)))), pos + k, acc ++ List.replicate k2 (n % 16), g, rfl, ⟨by omega, by omega, by omega, fun x hx => by rcases List.mem_append.1 hx with hx | hx; exact hag x hx; have := List.eq_of_mem_replicate hx; exact ⟨by omega, by omega⟩, by rw [← hgo, utGo, if_pos (by omega), hv]; simp only []; rw [if_neg (by omega), hm16]; rfl⟩, rfl⟩
  · have hb : decide ((pos : Int) < s.size) = false := decide_eq_false hlt
    have hut := utGo_end (s := s) (pos := pos) (by omega) f acc
    have hpk := S_PackTrack acc (gd_small hal hag)
    by_cases he : packTrack acc = s
    · have hb2 : decide (packTrack acc ≠ s) = false := decide_eq_false fun h => h he
      rw [show unpackTrack s = some acc by rw [unpackTrack, ← hgo, hut]; exact if_pos he]
      refine A_seq ?_; refine A_seq ?_; refine A_region ?_; refine M0 (q_moveC rfl rfl rfl) rfl rfl ?_; refine M0 (q_moveC rfl rfl rfl) rfl rfl ?_; refine M0 (q_lens rfl rfl rfl) rfl rfl ?_
      refine M0 (q_lssK rfl rfl rfl rfl (by assumption)) rfl rfl ?_; refine L_nil ?_; refine T_n ?_; refine A_ifF rfl ?_; refine A_exit ?_; refine T_x ?_; refine T_x ?_; refine B_xs ?_; refine T_n ?_
      refine A_seq ?_; refine A_seq ?_; refine A_region ?_; refine M0 (q_moveC rfl rfl rfl) rfl rfl ?_; refine M0 (q_call0 rfl rfl (hpk) rfl) rfl rfl ?_; refine M0 (q_moveC rfl rfl rfl) rfl rfl ?_
      refine M0 (q_sneqK rfl rfl rfl rfl (by assumption)) rfl rfl ?_; refine L_nil ?_; refine T_n ?_; refine A_ifF rfl ?_; refine A_skip ?_; refine T_n ?_; refine A_seq ?_; refine A_region ?_
      refine M0 (q_moveC rfl rfl rfl) rfl rfl ?_; refine M0 (q_assignC rfl rfl rfl) rfl rfl ?_; refine M0 (q_assignC rfl rfl rfl) rfl rfl ?_; refine L_nil ?_; refine T_n ?_; refine A_ret ?_
      refine F_r ?_
      exact E_tmp2 rfl rfl rfl (W_end [0] (by decide) rfl rfl rfl)
    · have hb2 : decide (packTrack acc ≠ s) = true := decide_eq_true he
      rw [show unpackTrack s = none by rw [unpackTrack, ← hgo, hut]; exact if_neg he]
      refine A_seq ?_; refine A_seq ?_; refine A_region ?_; refine M0 (q_moveC rfl rfl rfl) rfl rfl ?_; refine M0 (q_moveC rfl rfl rfl) rfl rfl ?_; refine M0 (q_lens rfl rfl rfl) rfl rfl ?_
      refine M0 (q_lssK rfl rfl rfl rfl (by assumption)) rfl rfl ?_; refine L_nil ?_; refine T_n ?_; refine A_ifF rfl ?_; refine A_exit ?_; refine T_x ?_; refine T_x ?_; refine B_xs ?_; refine T_n ?_
      refine A_seq ?_; refine A_seq ?_; refine A_region ?_; refine M0 (q_moveC rfl rfl rfl) rfl rfl ?_; refine M0 (q_call0 rfl rfl (hpk) rfl) rfl rfl ?_; refine M0 (q_moveC rfl rfl rfl) rfl rfl ?_
      refine M0 (q_sneqK rfl rfl rfl rfl (by assumption)) rfl rfl ?_; refine L_nil ?_; refine T_n ?_; refine A_ifT rfl ?_; refine A_seq ?_; refine A_region ?_
      refine M1 (q_bslice0 rfl rfl rfl) rfl rfl ?_; refine M0 (q_assignC rfl rfl rfl) rfl rfl ?_; refine M0 (q_assignC rfl rfl rfl) rfl rfl ?_; refine L_nil ?_; refine T_n ?_; refine A_ret ?_
      refine T_r ?_; refine F_r ?_
      exact E_tmp2 rfl rfl rfl (W_end [1] (by decide) rfl rfl rfl)
end Go.Proofs.Ytkfnaniegldfaaa
