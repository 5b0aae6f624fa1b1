/-
  DecodeStream, in the program and in the reference.
  Conditions: texts of at most 2^40 bytes.
-/
import Derived.Test.YtkfnaniegldfaaaDDecP
set_option linter.unusedSimpArgs false
set_option linter.unusedVariables false
set_option maxRecDepth 8000
namespace Go.Proofs.Ytkfnaniegldfaaa
open Go.RowKit

theorem cols_elem {R : List (List Int)} {c : Nat} (h4 : ∀ r ∈ R, r.length = c) (h5 : ∀ i, i < c → inOk (colM R i) = true) : ∀ r ∈ R, ∀ x ∈ r, 0 ≤ x ∧ x ≤ 15 := fun r hr x hx => by
  have hrl := h4 r hr
  obtain ⟨i, hi, rfl⟩ := List.getElem_of_mem hx
  have h8 := List.all_eq_true.1 (h5 i (by omega)) (r.getD i 0) (List.mem_map.2 ⟨r, hr, rfl⟩)
  have := inR_iff.1 h8
  simpa [List.getD_eq_getElem?_getD, hi] using this
theorem cols_gd {R : List (List Int)} {c n : Nat} (h1 : R.length = n) (hn : n ≤ 400) (hc : c ≤ 4) (h4 : ∀ r ∈ R, r.length = c) (h5 : ∀ i, i < c → inOk (colM R i) = true) : Enc.gd R :=
  ⟨by omega, fun r hr => ⟨by rw [h4 r hr]; omega, fun x hx => by have := cols_elem h4 h5 r hr x hx; exact ⟨by omega, by omega⟩⟩⟩
theorem tot_const : ∀ {R : List (List Int)} {c : Nat}, (∀ r ∈ R, r.length = c) → tot R = R.length * c
  | [], c, _ => by simp [tot]
  | r :: R, c, h => by
    have h1 := tot_const (R := R) (c := c) fun x hx => h x (by simp [hx])
    have h2 : tot (r :: R) = r.length + tot R := by simp [tot]
    rw [h2, h1, h r (by simp), List.length_cons, Nat.succ_mul, Nat.add_comm]
theorem dsI_some {t : ByteArray} {h : Int} {R : List (List Int)} (hd : dsI t = some (h, R)) : I64 h ∧ Enc.gd R ∧ R.length ≤ 20 ∧ tot R ≤ 80 := by
  unfold dsI at hd
  split at hd
  · cases hd
  · rename_i b ho
    split at hd
    · rename_i h0 h1 h2 pos hu
      have hus := unpackInts_some hu
      split at hd
      · rename_i hin
        split at hd
        · cases hd
        · rename_i rows e hc
          split at hd
          · simp only [Option.some.injEq, Prod.mk.injEq] at hd
            obtain ⟨rfl, rfl⟩ := hd
            obtain ⟨g1, g2, g3, g4, g5, g6⟩ := colsGo_canon b h1.toNat (by omega) h2.toNat pos (List.replicate h1.toNat []) 0 rows e (by omega) (by simp) (fun r hr => by rw [List.eq_of_mem_replicate hr]; rfl) (fun i hi => by omega) hc
            rw [Nat.zero_add] at g4 g5
            refine ⟨⟨by omega, by omega⟩, cols_gd g1 (by omega) (by omega) g4 g5, by omega, ?_⟩
            rw [tot_const g4]
            have : rows.length * h2.toNat ≤ 20 * 4 := Nat.mul_le_mul (by omega) (by omega)
            omega
          · cases hd
      · cases hd
    · cases hd
@[reducible] def dsO : Option (Int × List (List Int)) → List Ob
  | none => [.row 1 []]
  | some (_, l) => [.row 1 (els l)]
@[reducible] def dsR : Option (Int × List (List Int)) → V
  | none => .tu [.c (jn 0), .c (.ref 0), .c (bv false)]
  | some (h, _) => .tu [.c (jn h), .c (.ref 0), .c (bv true)]
theorem list3 {l : List Int} (h : l.length = 3) : ∃ a b c, l = [a, b, c] := by
  match l, h with
  | [a, b, c], _ => exact ⟨a, b, c, rfl⟩
set_option maxHeartbeats 8000000 in
theorem I_DecodeStream (t : ByteArray) (hs : t.size ≤ 1099511627776) : Con Try.prog 17 [] [astr t] (dsO (dsI t)) (dsR (dsI t)) := by
  have hot := I_OpenText t hs
  cases ho : openText t with
  | none =>
    rw [ho] at hot
    rw [show dsI t = none by rw [dsI, ho]]
    refine Con.of Try.func17 rfl Try.ntmps17 rfl (fun E => ?_)
    refine A_seq ?_; refine A_region ?_; refine M0 (q_assignC rfl rfl rfl) rfl rfl ?_; refine M0 (q_assignC rfl rfl rfl) rfl rfl ?_; refine M0 (q_assignC rfl rfl rfl) rfl rfl ?_; refine L_nil ?_
    refine T_n ?_; refine A_seq ?_; refine A_region ?_; refine M0 (q_moveC rfl rfl rfl) rfl rfl ?_; refine M1 (q_call rfl rfl (hot) rfl rfl rfl) rfl rfl ?_
    refine M0 (q_moveT rfl rfl rfl) rfl rfl ?_; refine M0 (q_ext rfl rfl rfl rfl) rfl rfl ?_; refine M0 (q_ext rfl rfl rfl rfl) rfl rfl ?_; refine M0 (q_assignC rfl rfl rfl) rfl rfl ?_
    refine M0 (q_assignC rfl rfl rfl) rfl rfl ?_; refine L_nil ?_; refine T_n ?_; refine A_seq ?_; refine A_seq ?_; refine A_region ?_; refine M0 (q_moveC rfl rfl rfl) rfl rfl ?_
    refine M0 (q_not rfl rfl rfl) rfl rfl ?_; refine L_nil ?_; refine T_n ?_; refine A_ifT rfl ?_; refine A_seq ?_; refine A_region ?_; refine M0 (q_assignC rfl rfl rfl) rfl rfl ?_
    refine M0 (q_assignC rfl rfl rfl) rfl rfl ?_; refine M0 (q_assignC rfl rfl rfl) rfl rfl ?_; refine L_nil ?_; refine T_n ?_; refine A_ret ?_; refine T_r ?_; refine F_r ?_
    exact E_tmp3 rfl rfl rfl rfl (W_fill [1] [0] rfl rfl (by decide) rfl rfl rfl)
  | some b =>
    rw [ho] at hot
    obtain ⟨_, hsz⟩ := openText_some ho
    have hui := I_UnpackInts b 0 (by omega) ⟨by omega, by omega⟩
    cases hu : unpackInts b 0 with
    | none =>
      rw [hu] at hui
      rw [show dsI t = none by rw [dsI, ho]; simp only []; rw [hu]]
      refine Con.of Try.func17 rfl Try.ntmps17 rfl (fun E => ?_)
      refine A_seq ?_; refine A_region ?_; refine M0 (q_assignC rfl rfl rfl) rfl rfl ?_; refine M0 (q_assignC rfl rfl rfl) rfl rfl ?_; refine M0 (q_assignC rfl rfl rfl) rfl rfl ?_; refine L_nil ?_
      refine T_n ?_; refine A_seq ?_; refine A_region ?_; refine M0 (q_moveC rfl rfl rfl) rfl rfl ?_; refine M1 (q_call rfl rfl (hot) rfl rfl rfl) rfl rfl ?_
      refine M0 (q_moveT rfl rfl rfl) rfl rfl ?_; refine M0 (q_ext rfl rfl rfl rfl) rfl rfl ?_; refine M0 (q_ext rfl rfl rfl rfl) rfl rfl ?_; refine M0 (q_assignC rfl rfl rfl) rfl rfl ?_
      refine M0 (q_assignC rfl rfl rfl) rfl rfl ?_; refine L_nil ?_; refine T_n ?_; refine A_seq ?_; refine A_seq ?_; refine A_region ?_; refine M0 (q_moveC rfl rfl rfl) rfl rfl ?_
      refine M0 (q_not rfl rfl rfl) rfl rfl ?_; refine L_nil ?_; refine T_n ?_; refine A_ifF rfl ?_; refine A_skip ?_; refine T_n ?_; refine A_seq ?_; refine A_region ?_
      refine M0 (q_moveC rfl rfl rfl) rfl rfl ?_; refine M1 (q_call rfl rfl (hui) rfl rfl rfl) rfl rfl ?_; refine M0 (q_moveT rfl rfl rfl) rfl rfl ?_
      refine M0 (q_ext rfl rfl rfl rfl) rfl rfl ?_; refine M0 (q_ext rfl rfl rfl rfl) rfl rfl ?_; refine M0 (q_ext rfl rfl rfl rfl) rfl rfl ?_; refine M0 (q_assignC rfl rfl rfl) rfl rfl ?_
      refine M0 (q_assignC rfl rfl rfl) rfl rfl ?_; refine M0 (q_assignC rfl rfl rfl) rfl rfl ?_; refine L_nil ?_; refine T_n ?_; refine A_seq ?_; refine A_seq ?_; refine A_region ?_
      refine M0 (q_moveC rfl rfl rfl) rfl rfl ?_; refine M0 (q_not rfl rfl rfl) rfl rfl ?_; refine M0 (q_moveC rfl rfl rfl) rfl rfl ?_; refine M_no rfl rfl rfl rfl rfl rfl ?_
      refine M_no rfl rfl rfl rfl rfl rfl ?_; refine M_no rfl rfl rfl rfl rfl rfl ?_; refine M0 (q_pickT rfl rfl rfl rfl) rfl rfl ?_; refine M0 (q_moveC rfl rfl rfl) rfl rfl ?_
      refine M_no rfl rfl rfl rfl rfl rfl ?_; refine M_no rfl rfl rfl rfl rfl rfl ?_; refine M_no rfl rfl rfl rfl rfl rfl ?_; refine M_no rfl rfl rfl rfl rfl rfl ?_
      refine M_no rfl rfl rfl rfl rfl rfl ?_; refine M0 (q_pickT rfl rfl rfl rfl) rfl rfl ?_; refine M0 (q_moveC rfl rfl rfl) rfl rfl ?_; refine M_no rfl rfl rfl rfl rfl rfl ?_
      refine M_no rfl rfl rfl rfl rfl rfl ?_; refine M_no rfl rfl rfl rfl rfl rfl ?_; refine M_no rfl rfl rfl rfl rfl rfl ?_; refine M_no rfl rfl rfl rfl rfl rfl ?_
      refine M0 (q_pickT rfl rfl rfl rfl) rfl rfl ?_; refine M0 (q_moveC rfl rfl rfl) rfl rfl ?_; refine M_no rfl rfl rfl rfl rfl rfl ?_; refine M_no rfl rfl rfl rfl rfl rfl ?_
      refine M_no rfl rfl rfl rfl rfl rfl ?_; refine M_no rfl rfl rfl rfl rfl rfl ?_; refine M_no rfl rfl rfl rfl rfl rfl ?_; refine M0 (q_pickT rfl rfl rfl rfl) rfl rfl ?_; refine L_nil ?_
      refine T_n ?_; refine A_ifT rfl ?_; refine A_seq ?_; refine A_region ?_; refine M0 (q_assignC rfl rfl rfl) rfl rfl ?_; refine M0 (q_assignC rfl rfl rfl) rfl rfl ?_
      refine M0 (q_assignC rfl rfl rfl) rfl rfl ?_; refine L_nil ?_; refine T_n ?_; refine A_ret ?_; refine T_r ?_; refine F_r ?_
      exact E_tmp3 rfl rfl rfl rfl (W_fill [1] [1] rfl rfl (by decide) rfl rfl rfl)
    | some r =>
      obtain ⟨l, pos⟩ := r
      rw [hu] at hui
      have hus := unpackInts_some hu
      have hll := els_len l
      by_cases hl3 : ¬ l.length = 3
      · have hb : decide (((els l).length : Int) ≠ 3) = true := decide_eq_true (by omega)
        rw [show dsI t = none by rw [dsI, ho]; simp only []; rw [hu]; split; (rename_i he; simp only [Option.some.injEq, Prod.mk.injEq] at he; obtain ⟨rfl, _⟩ := he; simp at hl3); rfl]
        refine Con.of Try.func17 rfl Try.ntmps17 rfl (fun E => ?_)
        refine A_seq ?_; refine A_region ?_; refine M0 (q_assignC rfl rfl rfl) rfl rfl ?_; refine M0 (q_assignC rfl rfl rfl) rfl rfl ?_; refine M0 (q_assignC rfl rfl rfl) rfl rfl ?_; refine L_nil ?_
        refine T_n ?_; refine A_seq ?_; refine A_region ?_; refine M0 (q_moveC rfl rfl rfl) rfl rfl ?_; refine M1 (q_call rfl rfl (hot) rfl rfl rfl) rfl rfl ?_
        refine M0 (q_moveT rfl rfl rfl) rfl rfl ?_; refine M0 (q_ext rfl rfl rfl rfl) rfl rfl ?_; refine M0 (q_ext rfl rfl rfl rfl) rfl rfl ?_; refine M0 (q_assignC rfl rfl rfl) rfl rfl ?_
        refine M0 (q_assignC rfl rfl rfl) rfl rfl ?_; refine L_nil ?_; refine T_n ?_; refine A_seq ?_; refine A_seq ?_; refine A_region ?_; refine M0 (q_moveC rfl rfl rfl) rfl rfl ?_
        refine M0 (q_not rfl rfl rfl) rfl rfl ?_; refine L_nil ?_; refine T_n ?_; refine A_ifF rfl ?_; refine A_skip ?_; refine T_n ?_; refine A_seq ?_; refine A_region ?_
        refine M0 (q_moveC rfl rfl rfl) rfl rfl ?_; refine M1 (q_call rfl rfl (hui) rfl rfl rfl) rfl rfl ?_; refine M0 (q_moveT rfl rfl rfl) rfl rfl ?_
        refine M0 (q_ext rfl rfl rfl rfl) rfl rfl ?_; refine M0 (q_ext rfl rfl rfl rfl) rfl rfl ?_; refine M0 (q_ext rfl rfl rfl rfl) rfl rfl ?_; refine M0 (q_assignC rfl rfl rfl) rfl rfl ?_
        refine M0 (q_assignC rfl rfl rfl) rfl rfl ?_; refine M0 (q_assignC rfl rfl rfl) rfl rfl ?_; refine L_nil ?_; refine T_n ?_; refine A_seq ?_; refine A_seq ?_; refine A_region ?_
        refine M0 (q_moveC rfl rfl rfl) rfl rfl ?_; refine M0 (q_not rfl rfl rfl) rfl rfl ?_; refine M0 (q_moveC rfl rfl rfl) rfl rfl ?_; refine M_yes rfl rfl rfl ?_
        refine M0 (q_moveC rfl rfl rfl) rfl rfl ?_; refine M_yes rfl rfl rfl ?_; refine M0 (q_lenr rfl rfl rfl rfl) rfl rfl ?_; refine M_yes rfl rfl rfl ?_
        refine M0 (q_neqK rfl rfl rfl rfl (by assumption)) rfl rfl ?_; refine M0 (q_pickF rfl rfl rfl rfl) rfl rfl ?_; refine M0 (q_moveC rfl rfl rfl) rfl rfl ?_
        refine M_no rfl rfl rfl rfl rfl rfl ?_; refine M_no rfl rfl rfl rfl rfl rfl ?_; refine M_no rfl rfl rfl rfl rfl rfl ?_; refine M_no rfl rfl rfl rfl rfl rfl ?_
        refine M_no rfl rfl rfl rfl rfl rfl ?_; refine M0 (q_pickT rfl rfl rfl rfl) rfl rfl ?_; refine M0 (q_moveC rfl rfl rfl) rfl rfl ?_; refine M_no rfl rfl rfl rfl rfl rfl ?_
        refine M_no rfl rfl rfl rfl rfl rfl ?_; refine M_no rfl rfl rfl rfl rfl rfl ?_; refine M_no rfl rfl rfl rfl rfl rfl ?_; refine M_no rfl rfl rfl rfl rfl rfl ?_
        refine M0 (q_pickT rfl rfl rfl rfl) rfl rfl ?_; refine M0 (q_moveC rfl rfl rfl) rfl rfl ?_; refine M_no rfl rfl rfl rfl rfl rfl ?_; refine M_no rfl rfl rfl rfl rfl rfl ?_
        refine M_no rfl rfl rfl rfl rfl rfl ?_; refine M_no rfl rfl rfl rfl rfl rfl ?_; refine M_no rfl rfl rfl rfl rfl rfl ?_; refine M0 (q_pickT rfl rfl rfl rfl) rfl rfl ?_; refine L_nil ?_
        refine T_n ?_; refine A_ifT rfl ?_; refine A_seq ?_; refine A_region ?_; refine M0 (q_assignC rfl rfl rfl) rfl rfl ?_; refine M0 (q_assignC rfl rfl rfl) rfl rfl ?_
        refine M0 (q_assignC rfl rfl rfl) rfl rfl ?_; refine L_nil ?_; refine T_n ?_; refine A_ret ?_; refine T_r ?_; refine F_r ?_
        exact E_tmp3 rfl rfl rfl rfl (W_fill [1] [1] rfl rfl (by decide) rfl rfl rfl)
      obtain ⟨h0, h1, h2, rfl⟩ := list3 (Classical.not_not.1 hl3)
      have hd : dsI t = if (0 ≤ h0 ∧ h0 ≤ 400) ∧ (1 ≤ h1 ∧ h1 ≤ 20) ∧ (1 ≤ h2 ∧ h2 ≤ 4) then (match colsGo b h1.toNat h2.toNat pos (List.replicate h1.toNat []) with
        | none => none
        | some (rows, e) => if e = b.size then some (h0, rows) else none) else none := by rw [dsI, ho]; simp only []; rw [hu]; rfl
      have hb : decide (((els [h0, h1, h2]).length : Int) ≠ 3) = false := decide_eq_false (by rw [hll]; simp)
      have hl3 : (els [h0, h1, h2]).length = 3 := rfl
      have ha0 : (els [h0, h1, h2])[(0 : Int).toNat]? = some [.v (.int .i64 h0)] := rfl
      have ha1 : (els [h0, h1, h2])[(1 : Int).toNat]? = some [.v (.int .i64 h1)] := rfl
      have ha2 : (els [h0, h1, h2])[(2 : Int).toNat]? = some [.v (.int .i64 h2)] := rfl
      have c0 := I_between h0 0 400
      have c1 := I_between h1 1 20
      have c2 := I_between h2 1 4
      by_cases hf0 : inR h0 0 400 = true
      case neg =>
        rw [hd, if_neg (fun h => hf0 (inR_iff.2 h.1))]
        have hf0 : inR h0 0 400 = false := by simpa using hf0
        rw [hf0] at c0
        refine Con.of Try.func17 rfl Try.ntmps17 rfl (fun E => ?_)
        refine A_seq ?_; refine A_region ?_; refine M0 (q_assignC rfl rfl rfl) rfl rfl ?_; refine M0 (q_assignC rfl rfl rfl) rfl rfl ?_; refine M0 (q_assignC rfl rfl rfl) rfl rfl ?_; refine L_nil ?_
        refine T_n ?_; refine A_seq ?_; refine A_region ?_; refine M0 (q_moveC rfl rfl rfl) rfl rfl ?_; refine M1 (q_call rfl rfl (hot) rfl rfl rfl) rfl rfl ?_
        refine M0 (q_moveT rfl rfl rfl) rfl rfl ?_; refine M0 (q_ext rfl rfl rfl rfl) rfl rfl ?_; refine M0 (q_ext rfl rfl rfl rfl) rfl rfl ?_; refine M0 (q_assignC rfl rfl rfl) rfl rfl ?_
        refine M0 (q_assignC rfl rfl rfl) rfl rfl ?_; refine L_nil ?_; refine T_n ?_; refine A_seq ?_; refine A_seq ?_; refine A_region ?_; refine M0 (q_moveC rfl rfl rfl) rfl rfl ?_
        refine M0 (q_not rfl rfl rfl) rfl rfl ?_; refine L_nil ?_; refine T_n ?_; refine A_ifF rfl ?_; refine A_skip ?_; refine T_n ?_; refine A_seq ?_; refine A_region ?_
        refine M0 (q_moveC rfl rfl rfl) rfl rfl ?_; refine M1 (q_call rfl rfl (hui) rfl rfl rfl) rfl rfl ?_; refine M0 (q_moveT rfl rfl rfl) rfl rfl ?_
        refine M0 (q_ext rfl rfl rfl rfl) rfl rfl ?_; refine M0 (q_ext rfl rfl rfl rfl) rfl rfl ?_; refine M0 (q_ext rfl rfl rfl rfl) rfl rfl ?_; refine M0 (q_assignC rfl rfl rfl) rfl rfl ?_
        refine M0 (q_assignC rfl rfl rfl) rfl rfl ?_; refine M0 (q_assignC rfl rfl rfl) rfl rfl ?_; refine L_nil ?_; refine T_n ?_; refine A_seq ?_; refine A_seq ?_; refine A_region ?_
        refine M0 (q_moveC rfl rfl rfl) rfl rfl ?_; refine M0 (q_not rfl rfl rfl) rfl rfl ?_; refine M0 (q_moveC rfl rfl rfl) rfl rfl ?_; refine M_yes rfl rfl rfl ?_
        refine M0 (q_moveC rfl rfl rfl) rfl rfl ?_; refine M_yes rfl rfl rfl ?_; refine M0 (q_lenr rfl rfl rfl rfl) rfl rfl ?_; refine M_yes rfl rfl rfl ?_
        refine M0 (q_neqK rfl rfl rfl rfl (by assumption)) rfl rfl ?_; refine M0 (q_pickF rfl rfl rfl rfl) rfl rfl ?_; refine M0 (q_moveC rfl rfl rfl) rfl rfl ?_; refine M_yes rfl rfl rfl ?_
        refine M0 (q_moveC rfl rfl rfl) rfl rfl ?_; refine M_yes rfl rfl rfl ?_; refine M0 (q_ar rfl rfl rfl rfl rfl (by omega) (by omega)) rfl rfl ?_; refine M_yes rfl rfl rfl ?_
        refine M0 (q_le1 rfl rfl rfl rfl (by assumption) rfl) rfl rfl ?_; refine M_yes rfl rfl rfl ?_; refine M0 (q_call0 rfl rfl (c0) rfl) rfl rfl ?_; refine M_yes rfl rfl rfl ?_
        refine M0 (q_not rfl rfl rfl) rfl rfl ?_; refine M0 (q_pickF rfl rfl rfl rfl) rfl rfl ?_; refine M0 (q_moveC rfl rfl rfl) rfl rfl ?_; refine M_no rfl rfl rfl rfl rfl rfl ?_
        refine M_no rfl rfl rfl rfl rfl rfl ?_; refine M_no rfl rfl rfl rfl rfl rfl ?_; refine M_no rfl rfl rfl rfl rfl rfl ?_; refine M_no rfl rfl rfl rfl rfl rfl ?_
        refine M0 (q_pickT rfl rfl rfl rfl) rfl rfl ?_; refine M0 (q_moveC rfl rfl rfl) rfl rfl ?_; refine M_no rfl rfl rfl rfl rfl rfl ?_; refine M_no rfl rfl rfl rfl rfl rfl ?_
        refine M_no rfl rfl rfl rfl rfl rfl ?_; refine M_no rfl rfl rfl rfl rfl rfl ?_; refine M_no rfl rfl rfl rfl rfl rfl ?_; refine M0 (q_pickT rfl rfl rfl rfl) rfl rfl ?_; refine L_nil ?_
        refine T_n ?_; refine A_ifT rfl ?_; refine A_seq ?_; refine A_region ?_; refine M0 (q_assignC rfl rfl rfl) rfl rfl ?_; refine M0 (q_assignC rfl rfl rfl) rfl rfl ?_
        refine M0 (q_assignC rfl rfl rfl) rfl rfl ?_; refine L_nil ?_; refine T_n ?_; refine A_ret ?_; refine T_r ?_; refine F_r ?_
        exact E_tmp3 rfl rfl rfl rfl (W_fill [1] [1] rfl rfl (by decide) rfl rfl rfl)
      rw [hf0] at c0
      by_cases hf1 : inR h1 1 20 = true
      case neg =>
        rw [hd, if_neg (fun h => hf1 (inR_iff.2 h.2.1))]
        have hf1 : inR h1 1 20 = false := by simpa using hf1
        rw [hf1] at c1
        refine Con.of Try.func17 rfl Try.ntmps17 rfl (fun E => ?_)
        refine A_seq ?_; refine A_region ?_; refine M0 (q_assignC rfl rfl rfl) rfl rfl ?_; refine M0 (q_assignC rfl rfl rfl) rfl rfl ?_; refine M0 (q_assignC rfl rfl rfl) rfl rfl ?_; refine L_nil ?_
        refine T_n ?_; refine A_seq ?_; refine A_region ?_; refine M0 (q_moveC rfl rfl rfl) rfl rfl ?_; refine M1 (q_call rfl rfl (hot) rfl rfl rfl) rfl rfl ?_
        refine M0 (q_moveT rfl rfl rfl) rfl rfl ?_; refine M0 (q_ext rfl rfl rfl rfl) rfl rfl ?_; refine M0 (q_ext rfl rfl rfl rfl) rfl rfl ?_; refine M0 (q_assignC rfl rfl rfl) rfl rfl ?_
        refine M0 (q_assignC rfl rfl rfl) rfl rfl ?_; refine L_nil ?_; refine T_n ?_; refine A_seq ?_; refine A_seq ?_; refine A_region ?_; refine M0 (q_moveC rfl rfl rfl) rfl rfl ?_
        refine M0 (q_not rfl rfl rfl) rfl rfl ?_; refine L_nil ?_; refine T_n ?_; refine A_ifF rfl ?_; refine A_skip ?_; refine T_n ?_; refine A_seq ?_; refine A_region ?_
        refine M0 (q_moveC rfl rfl rfl) rfl rfl ?_; refine M1 (q_call rfl rfl (hui) rfl rfl rfl) rfl rfl ?_; refine M0 (q_moveT rfl rfl rfl) rfl rfl ?_
        refine M0 (q_ext rfl rfl rfl rfl) rfl rfl ?_; refine M0 (q_ext rfl rfl rfl rfl) rfl rfl ?_; refine M0 (q_ext rfl rfl rfl rfl) rfl rfl ?_; refine M0 (q_assignC rfl rfl rfl) rfl rfl ?_
        refine M0 (q_assignC rfl rfl rfl) rfl rfl ?_; refine M0 (q_assignC rfl rfl rfl) rfl rfl ?_; refine L_nil ?_; refine T_n ?_; refine A_seq ?_; refine A_seq ?_; refine A_region ?_
        refine M0 (q_moveC rfl rfl rfl) rfl rfl ?_; refine M0 (q_not rfl rfl rfl) rfl rfl ?_; refine M0 (q_moveC rfl rfl rfl) rfl rfl ?_; refine M_yes rfl rfl rfl ?_
        refine M0 (q_moveC rfl rfl rfl) rfl rfl ?_; refine M_yes rfl rfl rfl ?_; refine M0 (q_lenr rfl rfl rfl rfl) rfl rfl ?_; refine M_yes rfl rfl rfl ?_
        refine M0 (q_neqK rfl rfl rfl rfl (by assumption)) rfl rfl ?_; refine M0 (q_pickF rfl rfl rfl rfl) rfl rfl ?_; refine M0 (q_moveC rfl rfl rfl) rfl rfl ?_; refine M_yes rfl rfl rfl ?_
        refine M0 (q_moveC rfl rfl rfl) rfl rfl ?_; refine M_yes rfl rfl rfl ?_; refine M0 (q_ar rfl rfl rfl rfl rfl (by omega) (by omega)) rfl rfl ?_; refine M_yes rfl rfl rfl ?_
        refine M0 (q_le1 rfl rfl rfl rfl (by assumption) rfl) rfl rfl ?_; refine M_yes rfl rfl rfl ?_; refine M0 (q_call0 rfl rfl (c0) rfl) rfl rfl ?_; refine M_yes rfl rfl rfl ?_
        refine M0 (q_not rfl rfl rfl) rfl rfl ?_; refine M0 (q_pickF rfl rfl rfl rfl) rfl rfl ?_; refine M0 (q_moveC rfl rfl rfl) rfl rfl ?_; refine M_yes rfl rfl rfl ?_
        refine M0 (q_moveC rfl rfl rfl) rfl rfl ?_; refine M_yes rfl rfl rfl ?_; refine M0 (q_ar rfl rfl rfl rfl rfl (by omega) (by omega)) rfl rfl ?_; refine M_yes rfl rfl rfl ?_
        refine M0 (q_le1 rfl rfl rfl rfl (by assumption) rfl) rfl rfl ?_; refine M_yes rfl rfl rfl ?_; refine M0 (q_call0 rfl rfl (c1) rfl) rfl rfl ?_; refine M_yes rfl rfl rfl ?_
        refine M0 (q_not rfl rfl rfl) rfl rfl ?_; refine M0 (q_pickF rfl rfl rfl rfl) rfl rfl ?_; refine M0 (q_moveC rfl rfl rfl) rfl rfl ?_; refine M_no rfl rfl rfl rfl rfl rfl ?_
        refine M_no rfl rfl rfl rfl rfl rfl ?_; refine M_no rfl rfl rfl rfl rfl rfl ?_; refine M_no rfl rfl rfl rfl rfl rfl ?_; refine M_no rfl rfl rfl rfl rfl rfl ?_
        refine M0 (q_pickT rfl rfl rfl rfl) rfl rfl ?_; refine L_nil ?_; refine T_n ?_; refine A_ifT rfl ?_; refine A_seq ?_; refine A_region ?_; refine M0 (q_assignC rfl rfl rfl) rfl rfl ?_
        refine M0 (q_assignC rfl rfl rfl) rfl rfl ?_; refine M0 (q_assignC rfl rfl rfl) rfl rfl ?_; refine L_nil ?_; refine T_n ?_; refine A_ret ?_; refine T_r ?_; refine F_r ?_
        exact E_tmp3 rfl rfl rfl rfl (W_fill [1] [1] rfl rfl (by decide) rfl rfl rfl)
      rw [hf1] at c1
      by_cases hf2 : inR h2 1 4 = true
      case neg =>
        rw [hd, if_neg (fun h => hf2 (inR_iff.2 h.2.2))]
        have hf2 : inR h2 1 4 = false := by simpa using hf2
        rw [hf2] at c2
        refine Con.of Try.func17 rfl Try.ntmps17 rfl (fun E => ?_)
        refine A_seq ?_; refine A_region ?_; refine M0 (q_assignC rfl rfl rfl) rfl rfl ?_; refine M0 (q_assignC rfl rfl rfl) rfl rfl ?_; refine M0 (q_assignC rfl rfl rfl) rfl rfl ?_; refine L_nil ?_
        refine T_n ?_; refine A_seq ?_; refine A_region ?_; refine M0 (q_moveC rfl rfl rfl) rfl rfl ?_; refine M1 (q_call rfl rfl (hot) rfl rfl rfl) rfl rfl ?_
        refine M0 (q_moveT rfl rfl rfl) rfl rfl ?_; refine M0 (q_ext rfl rfl rfl rfl) rfl rfl ?_; refine M0 (q_ext rfl rfl rfl rfl) rfl rfl ?_; refine M0 (q_assignC rfl rfl rfl) rfl rfl ?_
        refine M0 (q_assignC rfl rfl rfl) rfl rfl ?_; refine L_nil ?_; refine T_n ?_; refine A_seq ?_; refine A_seq ?_; refine A_region ?_; refine M0 (q_moveC rfl rfl rfl) rfl rfl ?_
        refine M0 (q_not rfl rfl rfl) rfl rfl ?_; refine L_nil ?_; refine T_n ?_; refine A_ifF rfl ?_; refine A_skip ?_; refine T_n ?_; refine A_seq ?_; refine A_region ?_
        refine M0 (q_moveC rfl rfl rfl) rfl rfl ?_; refine M1 (q_call rfl rfl (hui) rfl rfl rfl) rfl rfl ?_; refine M0 (q_moveT rfl rfl rfl) rfl rfl ?_
        refine M0 (q_ext rfl rfl rfl rfl) rfl rfl ?_; refine M0 (q_ext rfl rfl rfl rfl) rfl rfl ?_; refine M0 (q_ext rfl rfl rfl rfl) rfl rfl ?_; refine M0 (q_assignC rfl rfl rfl) rfl rfl ?_
        refine M0 (q_assignC rfl rfl rfl) rfl rfl ?_; refine M0 (q_assignC rfl rfl rfl) rfl rfl ?_; refine L_nil ?_; refine T_n ?_; refine A_seq ?_; refine A_seq ?_; refine A_region ?_
        refine M0 (q_moveC rfl rfl rfl) rfl rfl ?_; refine M0 (q_not rfl rfl rfl) rfl rfl ?_; refine M0 (q_moveC rfl rfl rfl) rfl rfl ?_; refine M_yes rfl rfl rfl ?_
        refine M0 (q_moveC rfl rfl rfl) rfl rfl ?_; refine M_yes rfl rfl rfl ?_; refine M0 (q_lenr rfl rfl rfl rfl) rfl rfl ?_; refine M_yes rfl rfl rfl ?_
        refine M0 (q_neqK rfl rfl rfl rfl (by assumption)) rfl rfl ?_; refine M0 (q_pickF rfl rfl rfl rfl) rfl rfl ?_; refine M0 (q_moveC rfl rfl rfl) rfl rfl ?_; refine M_yes rfl rfl rfl ?_
        refine M0 (q_moveC rfl rfl rfl) rfl rfl ?_; refine M_yes rfl rfl rfl ?_; refine M0 (q_ar rfl rfl rfl rfl rfl (by omega) (by omega)) rfl rfl ?_; refine M_yes rfl rfl rfl ?_
        refine M0 (q_le1 rfl rfl rfl rfl (by assumption) rfl) rfl rfl ?_; refine M_yes rfl rfl rfl ?_; refine M0 (q_call0 rfl rfl (c0) rfl) rfl rfl ?_; refine M_yes rfl rfl rfl ?_
        refine M0 (q_not rfl rfl rfl) rfl rfl ?_; refine M0 (q_pickF rfl rfl rfl rfl) rfl rfl ?_; refine M0 (q_moveC rfl rfl rfl) rfl rfl ?_; refine M_yes rfl rfl rfl ?_
        refine M0 (q_moveC rfl rfl rfl) rfl rfl ?_; refine M_yes rfl rfl rfl ?_; refine M0 (q_ar rfl rfl rfl rfl rfl (by omega) (by omega)) rfl rfl ?_; refine M_yes rfl rfl rfl ?_
        refine M0 (q_le1 rfl rfl rfl rfl (by assumption) rfl) rfl rfl ?_; refine M_yes rfl rfl rfl ?_; refine M0 (q_call0 rfl rfl (c1) rfl) rfl rfl ?_; refine M_yes rfl rfl rfl ?_
        refine M0 (q_not rfl rfl rfl) rfl rfl ?_; refine M0 (q_pickF rfl rfl rfl rfl) rfl rfl ?_; refine M0 (q_moveC rfl rfl rfl) rfl rfl ?_; refine M_yes rfl rfl rfl ?_
        refine M0 (q_moveC rfl rfl rfl) rfl rfl ?_; refine M_yes rfl rfl rfl ?_; refine M0 (q_ar rfl rfl rfl rfl rfl (by omega) (by omega)) rfl rfl ?_; refine M_yes rfl rfl rfl ?_
        refine M0 (q_le1 rfl rfl rfl rfl (by assumption) rfl) rfl rfl ?_; refine M_yes rfl rfl rfl ?_; refine M0 (q_call0 rfl rfl (c2) rfl) rfl rfl ?_; refine M_yes rfl rfl rfl ?_
        refine M0 (q_not rfl rfl rfl) rfl rfl ?_; refine M0 (q_pickF rfl rfl rfl rfl) rfl rfl ?_; refine L_nil ?_; refine T_n ?_; refine A_ifT rfl ?_; refine A_seq ?_; refine A_region ?_
        refine M0 (q_assignC rfl rfl rfl) rfl rfl ?_; refine M0 (q_assignC rfl rfl rfl) rfl rfl ?_; refine M0 (q_assignC rfl rfl rfl) rfl rfl ?_; refine L_nil ?_; refine T_n ?_; refine A_ret ?_
        refine T_r ?_; refine F_r ?_
        exact E_tmp3 rfl rfl rfl rfl (W_fill [1] [1] rfl rfl (by decide) rfl rfl rfl)
      rw [hf2] at c2
      have hr0 := inR_iff.1 hf0
      have hr1 := inR_iff.1 hf1
      have hr2 := inR_iff.1 hf2
      obtain ⟨n1, rfl⟩ : ∃ n : Nat, h1 = n := ⟨h1.toNat, by omega⟩
      obtain ⟨n2, rfl⟩ : ∃ n : Nat, h2 = n := ⟨h2.toNat, by omega⟩
      rw [if_pos ⟨hr0, hr1, hr2⟩, Int.toNat_natCast, Int.toNat_natCast] at hd
      have huc := I_unpackColumns b pos n2 n1 (by omega) (by omega) (by omega) (by omega)
      cases hc : colsGo b n1 n2 pos (List.replicate n1 []) with
      | none =>
        rw [hc] at huc hd
        rw [hd]
        refine Con.of Try.func17 rfl Try.ntmps17 rfl (fun E => ?_)
        refine A_seq ?_; refine A_region ?_; refine M0 (q_assignC rfl rfl rfl) rfl rfl ?_; refine M0 (q_assignC rfl rfl rfl) rfl rfl ?_; refine M0 (q_assignC rfl rfl rfl) rfl rfl ?_; refine L_nil ?_
        refine T_n ?_; refine A_seq ?_; refine A_region ?_; refine M0 (q_moveC rfl rfl rfl) rfl rfl ?_; refine M1 (q_call rfl rfl (hot) rfl rfl rfl) rfl rfl ?_
        refine M0 (q_moveT rfl rfl rfl) rfl rfl ?_; refine M0 (q_ext rfl rfl rfl rfl) rfl rfl ?_; refine M0 (q_ext rfl rfl rfl rfl) rfl rfl ?_; refine M0 (q_assignC rfl rfl rfl) rfl rfl ?_
        refine M0 (q_assignC rfl rfl rfl) rfl rfl ?_; refine L_nil ?_; refine T_n ?_; refine A_seq ?_; refine A_seq ?_; refine A_region ?_; refine M0 (q_moveC rfl rfl rfl) rfl rfl ?_
        refine M0 (q_not rfl rfl rfl) rfl rfl ?_; refine L_nil ?_; refine T_n ?_; refine A_ifF rfl ?_; refine A_skip ?_; refine T_n ?_; refine A_seq ?_; refine A_region ?_
        refine M0 (q_moveC rfl rfl rfl) rfl rfl ?_; refine M1 (q_call rfl rfl (hui) rfl rfl rfl) rfl rfl ?_; refine M0 (q_moveT rfl rfl rfl) rfl rfl ?_
        refine M0 (q_ext rfl rfl rfl rfl) rfl rfl ?_; refine M0 (q_ext rfl rfl rfl rfl) rfl rfl ?_; refine M0 (q_ext rfl rfl rfl rfl) rfl rfl ?_; refine M0 (q_assignC rfl rfl rfl) rfl rfl ?_
        refine M0 (q_assignC rfl rfl rfl) rfl rfl ?_; refine M0 (q_assignC rfl rfl rfl) rfl rfl ?_; refine L_nil ?_; refine T_n ?_; refine A_seq ?_; refine A_seq ?_; refine A_region ?_
        refine M0 (q_moveC rfl rfl rfl) rfl rfl ?_; refine M0 (q_not rfl rfl rfl) rfl rfl ?_; refine M0 (q_moveC rfl rfl rfl) rfl rfl ?_; refine M_yes rfl rfl rfl ?_
        refine M0 (q_moveC rfl rfl rfl) rfl rfl ?_; refine M_yes rfl rfl rfl ?_; refine M0 (q_lenr rfl rfl rfl rfl) rfl rfl ?_; refine M_yes rfl rfl rfl ?_
        refine M0 (q_neqK rfl rfl rfl rfl (by assumption)) rfl rfl ?_; refine M0 (q_pickF rfl rfl rfl rfl) rfl rfl ?_; refine M0 (q_moveC rfl rfl rfl) rfl rfl ?_; refine M_yes rfl rfl rfl ?_
        refine M0 (q_moveC rfl rfl rfl) rfl rfl ?_; refine M_yes rfl rfl rfl ?_; refine M0 (q_ar rfl rfl rfl rfl rfl (by omega) (by omega)) rfl rfl ?_; refine M_yes rfl rfl rfl ?_
        refine M0 (q_le1 rfl rfl rfl rfl (by assumption) rfl) rfl rfl ?_; refine M_yes rfl rfl rfl ?_; refine M0 (q_call0 rfl rfl (c0) rfl) rfl rfl ?_; refine M_yes rfl rfl rfl ?_
        refine M0 (q_not rfl rfl rfl) rfl rfl ?_; refine M0 (q_pickF rfl rfl rfl rfl) rfl rfl ?_; refine M0 (q_moveC rfl rfl rfl) rfl rfl ?_; refine M_yes rfl rfl rfl ?_
        refine M0 (q_moveC rfl rfl rfl) rfl rfl ?_; refine M_yes rfl rfl rfl ?_; refine M0 (q_ar rfl rfl rfl rfl rfl (by omega) (by omega)) rfl rfl ?_; refine M_yes rfl rfl rfl ?_
        refine M0 (q_le1 rfl rfl rfl rfl (by assumption) rfl) rfl rfl ?_; refine M_yes rfl rfl rfl ?_; refine M0 (q_call0 rfl rfl (c1) rfl) rfl rfl ?_; refine M_yes rfl rfl rfl ?_
        refine M0 (q_not rfl rfl rfl) rfl rfl ?_; refine M0 (q_pickF rfl rfl rfl rfl) rfl rfl ?_; refine M0 (q_moveC rfl rfl rfl) rfl rfl ?_; refine M_yes rfl rfl rfl ?_
        refine M0 (q_moveC rfl rfl rfl) rfl rfl ?_; refine M_yes rfl rfl rfl ?_; refine M0 (q_ar rfl rfl rfl rfl rfl (by omega) (by omega)) rfl rfl ?_; refine M_yes rfl rfl rfl ?_
        refine M0 (q_le1 rfl rfl rfl rfl (by assumption) rfl) rfl rfl ?_; refine M_yes rfl rfl rfl ?_; refine M0 (q_call0 rfl rfl (c2) rfl) rfl rfl ?_; refine M_yes rfl rfl rfl ?_
        refine M0 (q_not rfl rfl rfl) rfl rfl ?_; refine M0 (q_pickF rfl rfl rfl rfl) rfl rfl ?_; refine L_nil ?_; refine T_n ?_; refine A_ifF rfl ?_; refine A_skip ?_; refine T_n ?_; refine A_seq ?_
        refine A_draw [[], [], [], [2], [2, 3], [], [5], [5, 6], [0, 1, 2, 3, 4, 5, 6, 7], [0, 1, 2, 3, 4, 5, 6, 7, 8], [0, 1, 2, 3, 4, 5, 6, 7, 8, 9], [0, 1, 2, 3, 4, 5, 6, 7, 8, 9], [0, 1, 2, 3, 4, 5, 6, 7, 8, 9], [0, 1, 2, 3, 4, 5, 6, 7, 8, 9, 10], [0, 1, 2, 3, 4, 5, 6, 7, 8, 9, 10, 11, 13], [0, 1, 2, 3, 4, 5, 6, 7, 8, 9, 10, 11, 12, 13, 14]] [[], [], [], [55], [55, 56], [], [58], [58, 59], [53, 54, 55, 56, 57, 58, 59, 60], [53, 54, 55, 56, 57, 58, 59, 60, 61], [52, 53, 54, 55, 56, 57, 58, 59, 60, 61], [52, 53, 54, 55, 56, 57, 58, 59, 60, 61], [52, 53, 54, 55, 56, 57, 58, 59, 60, 61], [52, 53, 54, 55, 56, 57, 58, 59, 60, 61, 62], [9, 52, 53, 54, 55, 56, 57, 58, 59, 60, 61, 62, 63], [9, 10, 52, 53, 54, 55, 56, 57, 58, 59, 60, 61, 62, 63, 64]] [[54, 55, 56, 57, 58, 59, 60], [53, 55, 56, 57, 58, 59, 60], [53, 54, 58, 59, 60], [53, 54, 58, 59, 60], [53, 54, 58, 59, 60], [53, 54, 55, 56, 57], [53, 54, 55, 56, 57], [53, 54, 55, 56, 57], [], [], [63, 64], [9, 62, 64], [9, 10, 62, 63], [63, 64], [64], []] rfl ?_
        refine DR.step (q_moveC rfl rfl rfl) rfl rfl ?_; refine DR.step (q_moveC rfl rfl rfl) rfl rfl ?_; refine DR.step (q_moveC rfl rfl rfl) rfl rfl ?_
        refine DR.step (q_ar rfl rfl rfl rfl rfl (by omega) (by omega)) rfl rfl ?_; refine DR.step (q_le1 rfl rfl rfl rfl (by assumption) rfl) rfl rfl ?_
        refine DR.step (q_moveC rfl rfl rfl) rfl rfl ?_; refine DR.step (q_ar rfl rfl rfl rfl rfl (by omega) (by omega)) rfl rfl ?_
        refine DR.step (q_le1 rfl rfl rfl rfl (by assumption) rfl) rfl rfl ?_; refine DR.step (q_call rfl rfl (huc) rfl rfl rfl) rfl rfl ?_; refine DR.step (q_moveT rfl rfl rfl) rfl rfl ?_
        refine DR.step (q_ext rfl rfl rfl rfl) rfl rfl ?_; refine DR.step (q_ext rfl rfl rfl rfl) rfl rfl ?_; refine DR.step (q_ext rfl rfl rfl rfl) rfl rfl ?_
        refine DR.step (q_assignC rfl rfl rfl) rfl rfl ?_; refine DR.step (q_assignC rfl rfl rfl) rfl rfl ?_; refine DR.step (q_assignC rfl rfl rfl) rfl rfl ?_
        refine DR.stop (by kernel_rfl) (by kernel_rfl) ?_
        refine L_nil ?_; refine T_n ?_; refine A_seq ?_; refine A_seq ?_; refine A_region ?_; refine M0 (q_moveC rfl rfl rfl) rfl rfl ?_; refine M0 (q_not rfl rfl rfl) rfl rfl ?_
        refine M0 (q_moveC rfl rfl rfl) rfl rfl ?_; refine M_no rfl rfl rfl rfl rfl rfl ?_; refine M_no rfl rfl rfl rfl rfl rfl ?_; refine M_no rfl rfl rfl rfl rfl rfl ?_
        refine M_no rfl rfl rfl rfl rfl rfl ?_; refine M_no rfl rfl rfl rfl rfl rfl ?_; refine M_no rfl rfl rfl rfl rfl rfl ?_; refine M0 (q_pickT rfl rfl rfl rfl) rfl rfl ?_; refine L_nil ?_
        refine T_n ?_; refine A_ifT rfl ?_; refine A_seq ?_; refine A_region ?_; refine M0 (q_assignC rfl rfl rfl) rfl rfl ?_; refine M0 (q_assignC rfl rfl rfl) rfl rfl ?_
        refine M0 (q_assignC rfl rfl rfl) rfl rfl ?_; refine L_nil ?_; refine T_n ?_; refine A_ret ?_; refine T_r ?_; refine F_r ?_
        exact E_tmp3 rfl rfl rfl rfl (W_fill [1] [2] rfl rfl (by decide) rfl rfl rfl)
      | some r =>
        obtain ⟨rows, e⟩ := r
        rw [hc] at huc hd
        simp only [] at hd
        obtain ⟨g1, g2, g3, _⟩ := colsGo_canon b n1 (by omega) n2 pos (List.replicate n1 []) 0 rows e (by omega) (by simp) (fun r hr => by rw [List.eq_of_mem_replicate hr]; rfl) (fun i hi => by omega) hc
        by_cases he : e = b.size
        · rw [hd, if_pos he]
          have hb3 : decide ((pos : Int) + ((e : Int) - pos) ≠ b.size) = false := decide_eq_false (by omega)
          refine Con.of Try.func17 rfl Try.ntmps17 rfl (fun E => ?_)
          refine A_seq ?_; refine A_region ?_; refine M0 (q_assignC rfl rfl rfl) rfl rfl ?_; refine M0 (q_assignC rfl rfl rfl) rfl rfl ?_; refine M0 (q_assignC rfl rfl rfl) rfl rfl ?_; refine L_nil ?_
          refine T_n ?_; refine A_seq ?_; refine A_region ?_; refine M0 (q_moveC rfl rfl rfl) rfl rfl ?_; refine M1 (q_call rfl rfl (hot) rfl rfl rfl) rfl rfl ?_
          refine M0 (q_moveT rfl rfl rfl) rfl rfl ?_; refine M0 (q_ext rfl rfl rfl rfl) rfl rfl ?_; refine M0 (q_ext rfl rfl rfl rfl) rfl rfl ?_; refine M0 (q_assignC rfl rfl rfl) rfl rfl ?_
          refine M0 (q_assignC rfl rfl rfl) rfl rfl ?_; refine L_nil ?_; refine T_n ?_; refine A_seq ?_; refine A_seq ?_; refine A_region ?_; refine M0 (q_moveC rfl rfl rfl) rfl rfl ?_
          refine M0 (q_not rfl rfl rfl) rfl rfl ?_; refine L_nil ?_; refine T_n ?_; refine A_ifF rfl ?_; refine A_skip ?_; refine T_n ?_; refine A_seq ?_; refine A_region ?_
          refine M0 (q_moveC rfl rfl rfl) rfl rfl ?_; refine M1 (q_call rfl rfl (hui) rfl rfl rfl) rfl rfl ?_; refine M0 (q_moveT rfl rfl rfl) rfl rfl ?_
          refine M0 (q_ext rfl rfl rfl rfl) rfl rfl ?_; refine M0 (q_ext rfl rfl rfl rfl) rfl rfl ?_; refine M0 (q_ext rfl rfl rfl rfl) rfl rfl ?_; refine M0 (q_assignC rfl rfl rfl) rfl rfl ?_
          refine M0 (q_assignC rfl rfl rfl) rfl rfl ?_; refine M0 (q_assignC rfl rfl rfl) rfl rfl ?_; refine L_nil ?_; refine T_n ?_; refine A_seq ?_; refine A_seq ?_; refine A_region ?_
          refine M0 (q_moveC rfl rfl rfl) rfl rfl ?_; refine M0 (q_not rfl rfl rfl) rfl rfl ?_; refine M0 (q_moveC rfl rfl rfl) rfl rfl ?_; refine M_yes rfl rfl rfl ?_
          refine M0 (q_moveC rfl rfl rfl) rfl rfl ?_; refine M_yes rfl rfl rfl ?_; refine M0 (q_lenr rfl rfl rfl rfl) rfl rfl ?_; refine M_yes rfl rfl rfl ?_
          refine M0 (q_neqK rfl rfl rfl rfl (by assumption)) rfl rfl ?_; refine M0 (q_pickF rfl rfl rfl rfl) rfl rfl ?_; refine M0 (q_moveC rfl rfl rfl) rfl rfl ?_; refine M_yes rfl rfl rfl ?_
          refine M0 (q_moveC rfl rfl rfl) rfl rfl ?_; refine M_yes rfl rfl rfl ?_; refine M0 (q_ar rfl rfl rfl rfl rfl (by omega) (by omega)) rfl rfl ?_; refine M_yes rfl rfl rfl ?_
          refine M0 (q_le1 rfl rfl rfl rfl (by assumption) rfl) rfl rfl ?_; refine M_yes rfl rfl rfl ?_; refine M0 (q_call0 rfl rfl (c0) rfl) rfl rfl ?_; refine M_yes rfl rfl rfl ?_
          refine M0 (q_not rfl rfl rfl) rfl rfl ?_; refine M0 (q_pickF rfl rfl rfl rfl) rfl rfl ?_; refine M0 (q_moveC rfl rfl rfl) rfl rfl ?_; refine M_yes rfl rfl rfl ?_
          refine M0 (q_moveC rfl rfl rfl) rfl rfl ?_; refine M_yes rfl rfl rfl ?_; refine M0 (q_ar rfl rfl rfl rfl rfl (by omega) (by omega)) rfl rfl ?_; refine M_yes rfl rfl rfl ?_
          refine M0 (q_le1 rfl rfl rfl rfl (by assumption) rfl) rfl rfl ?_; refine M_yes rfl rfl rfl ?_; refine M0 (q_call0 rfl rfl (c1) rfl) rfl rfl ?_; refine M_yes rfl rfl rfl ?_
          refine M0 (q_not rfl rfl rfl) rfl rfl ?_; refine M0 (q_pickF rfl rfl rfl rfl) rfl rfl ?_; refine M0 (q_moveC rfl rfl rfl) rfl rfl ?_; refine M_yes rfl rfl rfl ?_
          refine M0 (q_moveC rfl rfl rfl) rfl rfl ?_; refine M_yes rfl rfl rfl ?_; refine M0 (q_ar rfl rfl rfl rfl rfl (by omega) (by omega)) rfl rfl ?_; refine M_yes rfl rfl rfl ?_
          refine M0 (q_le1 rfl rfl rfl rfl (by assumption) rfl) rfl rfl ?_; refine M_yes rfl rfl rfl ?_; refine M0 (q_call0 rfl rfl (c2) rfl) rfl rfl ?_; refine M_yes rfl rfl rfl ?_
          refine M0 (q_not rfl rfl rfl) rfl rfl ?_; refine M0 (q_pickF rfl rfl rfl rfl) rfl rfl ?_; refine L_nil ?_; refine T_n ?_; refine A_ifF rfl ?_; refine A_skip ?_; refine T_n ?_; refine A_seq ?_
          refine A_draw [[], [], [], [2], [2, 3], [], [5], [5, 6], [0, 1, 2, 3, 4, 5, 6, 7], [0, 1, 2, 3, 4, 5, 6, 7, 8], [0, 1, 2, 3, 4, 5, 6, 7, 8, 9], [0, 1, 2, 3, 4, 5, 6, 7, 8, 9], [0, 1, 2, 3, 4, 5, 6, 7, 8, 9], [0, 1, 2, 3, 4, 5, 6, 7, 8, 9, 10], [0, 1, 2, 3, 4, 5, 6, 7, 8, 9, 10, 11, 13], [0, 1, 2, 3, 4, 5, 6, 7, 8, 9, 10, 11, 12, 13, 14]] [[], [], [], [55], [55, 56], [], [58], [58, 59], [53, 54, 55, 56, 57, 58, 59, 60], [53, 54, 55, 56, 57, 58, 59, 60, 61], [52, 53, 54, 55, 56, 57, 58, 59, 60, 61], [52, 53, 54, 55, 56, 57, 58, 59, 60, 61], [52, 53, 54, 55, 56, 57, 58, 59, 60, 61], [52, 53, 54, 55, 56, 57, 58, 59, 60, 61, 62], [9, 52, 53, 54, 55, 56, 57, 58, 59, 60, 61, 62, 63], [9, 10, 52, 53, 54, 55, 56, 57, 58, 59, 60, 61, 62, 63, 64]] [[54, 55, 56, 57, 58, 59, 60], [53, 55, 56, 57, 58, 59, 60], [53, 54, 58, 59, 60], [53, 54, 58, 59, 60], [53, 54, 58, 59, 60], [53, 54, 55, 56, 57], [53, 54, 55, 56, 57], [53, 54, 55, 56, 57], [], [], [63, 64], [9, 62, 64], [9, 10, 62, 63], [63, 64], [64], []] rfl ?_
          refine DR.step (q_moveC rfl rfl rfl) rfl rfl ?_; refine DR.step (q_moveC rfl rfl rfl) rfl rfl ?_; refine DR.step (q_moveC rfl rfl rfl) rfl rfl ?_
          refine DR.step (q_ar rfl rfl rfl rfl rfl (by omega) (by omega)) rfl rfl ?_; refine DR.step (q_le1 rfl rfl rfl rfl (by assumption) rfl) rfl rfl ?_
          refine DR.step (q_moveC rfl rfl rfl) rfl rfl ?_; refine DR.step (q_ar rfl rfl rfl rfl rfl (by omega) (by omega)) rfl rfl ?_
          refine DR.step (q_le1 rfl rfl rfl rfl (by assumption) rfl) rfl rfl ?_; refine DR.step (q_call rfl rfl (huc) rfl rfl rfl) rfl rfl ?_; refine DR.step (q_moveT rfl rfl rfl) rfl rfl ?_
          refine DR.step (q_ext rfl rfl rfl rfl) rfl rfl ?_; refine DR.step (q_ext rfl rfl rfl rfl) rfl rfl ?_; refine DR.step (q_ext rfl rfl rfl rfl) rfl rfl ?_
          refine DR.step (q_assignC rfl rfl rfl) rfl rfl ?_; refine DR.step (q_assignC rfl rfl rfl) rfl rfl ?_; refine DR.step (q_assignC rfl rfl rfl) rfl rfl ?_
          refine DR.stop (by kernel_rfl) (by kernel_rfl) ?_
          refine L_nil ?_; refine T_n ?_; refine A_seq ?_; refine A_seq ?_; refine A_region ?_; refine M0 (q_moveC rfl rfl rfl) rfl rfl ?_; refine M0 (q_not rfl rfl rfl) rfl rfl ?_
          refine M0 (q_moveC rfl rfl rfl) rfl rfl ?_; refine M_yes rfl rfl rfl ?_; refine M0 (q_moveC rfl rfl rfl) rfl rfl ?_; refine M_yes rfl rfl rfl ?_; refine M0 (q_moveC rfl rfl rfl) rfl rfl ?_
          refine M_yes rfl rfl rfl ?_; refine M0 (q_add rfl rfl rfl rfl (by omega)) rfl rfl ?_; refine M_yes rfl rfl rfl ?_; refine M0 (q_moveC rfl rfl rfl) rfl rfl ?_; refine M_yes rfl rfl rfl ?_
          refine M0 (q_lens rfl rfl rfl) rfl rfl ?_; refine M_yes rfl rfl rfl ?_; refine M0 (q_neqK rfl rfl rfl rfl (by assumption)) rfl rfl ?_; refine M0 (q_pickF rfl rfl rfl rfl) rfl rfl ?_
          refine L_nil ?_; refine T_n ?_; refine A_ifF rfl ?_; refine A_skip ?_; refine T_n ?_; refine A_seq ?_; refine A_region ?_; refine M0 (q_moveC rfl rfl rfl) rfl rfl ?_
          refine M0 (q_ar rfl rfl rfl rfl rfl (by omega) (by omega)) rfl rfl ?_; refine M0 (q_le1 rfl rfl rfl rfl (by assumption) rfl) rfl rfl ?_; refine M0 (q_moveC rfl rfl rfl) rfl rfl ?_
          refine M0 (q_assignC rfl rfl rfl) rfl rfl ?_; refine M0 (q_assignC rfl rfl rfl) rfl rfl ?_; refine M0 (q_assignC rfl rfl rfl) rfl rfl ?_; refine L_nil ?_; refine T_n ?_; refine A_ret ?_
          refine F_r ?_
          exact E_tmp3 rfl rfl rfl rfl (W_end [1] (by decide) rfl rfl rfl)
        · rw [hd, if_neg he]
          have hb3 : decide ((pos : Int) + ((e : Int) - pos) ≠ b.size) = true := decide_eq_true (by omega)
          refine Con.of Try.func17 rfl Try.ntmps17 rfl (fun E => ?_)
          refine A_seq ?_; refine A_region ?_; refine M0 (q_assignC rfl rfl rfl) rfl rfl ?_; refine M0 (q_assignC rfl rfl rfl) rfl rfl ?_; refine M0 (q_assignC rfl rfl rfl) rfl rfl ?_; refine L_nil ?_
          refine T_n ?_; refine A_seq ?_; refine A_region ?_; refine M0 (q_moveC rfl rfl rfl) rfl rfl ?_; refine M1 (q_call rfl rfl (hot) rfl rfl rfl) rfl rfl ?_
          refine M0 (q_moveT rfl rfl rfl) rfl rfl ?_; refine M0 (q_ext rfl rfl rfl rfl) rfl rfl ?_; refine M0 (q_ext rfl rfl rfl rfl) rfl rfl ?_; refine M0 (q_assignC rfl rfl rfl) rfl rfl ?_
          refine M0 (q_assignC rfl rfl rfl) rfl rfl ?_; refine L_nil ?_; refine T_n ?_; refine A_seq ?_; refine A_seq ?_; refine A_region ?_; refine M0 (q_moveC rfl rfl rfl) rfl rfl ?_
          refine M0 (q_not rfl rfl rfl) rfl rfl ?_; refine L_nil ?_; refine T_n ?_; refine A_ifF rfl ?_; refine A_skip ?_; refine T_n ?_; refine A_seq ?_; refine A_region ?_
          refine M0 (q_moveC rfl rfl rfl) rfl rfl ?_; refine M1 (q_call rfl rfl (hui) rfl rfl rfl) rfl rfl ?_; refine M0 (q_moveT rfl rfl rfl) rfl rfl ?_
          refine M0 (q_ext rfl rfl rfl rfl) rfl rfl ?_; refine M0 (q_ext rfl rfl rfl rfl) rfl rfl ?_; refine M0 (q_ext rfl rfl rfl rfl) rfl rfl ?_; refine M0 (q_assignC rfl rfl rfl) rfl rfl ?_
          refine M0 (q_assignC rfl rfl rfl) rfl rfl ?_; refine M0 (q_assignC rfl rfl rfl) rfl rfl ?_; refine L_nil ?_; refine T_n ?_; refine A_seq ?_; refine A_seq ?_; refine A_region ?_
          refine M0 (q_moveC rfl rfl rfl) rfl rfl ?_; refine M0 (q_not rfl rfl rfl) rfl rfl ?_; refine M0 (q_moveC rfl rfl rfl) rfl rfl ?_; refine M_yes rfl rfl rfl ?_
          refine M0 (q_moveC rfl rfl rfl) rfl rfl ?_; refine M_yes rfl rfl rfl ?_; refine M0 (q_lenr rfl rfl rfl rfl) rfl rfl ?_; refine M_yes rfl rfl rfl ?_
          refine M0 (q_neqK rfl rfl rfl rfl (by assumption)) rfl rfl ?_; refine M0 (q_pickF rfl rfl rfl rfl) rfl rfl ?_; refine M0 (q_moveC rfl rfl rfl) rfl rfl ?_; refine M_yes rfl rfl rfl ?_
          refine M0 (q_moveC rfl rfl rfl) rfl rfl ?_; refine M_yes rfl rfl rfl ?_; refine M0 (q_ar rfl rfl rfl rfl rfl (by omega) (by omega)) rfl rfl ?_; refine M_yes rfl rfl rfl ?_
          refine M0 (q_le1 rfl rfl rfl rfl (by assumption) rfl) rfl rfl ?_; refine M_yes rfl rfl rfl ?_; refine M0 (q_call0 rfl rfl (c0) rfl) rfl rfl ?_; refine M_yes rfl rfl rfl ?_
          refine M0 (q_not rfl rfl rfl) rfl rfl ?_; refine M0 (q_pickF rfl rfl rfl rfl) rfl rfl ?_; refine M0 (q_moveC rfl rfl rfl) rfl rfl ?_; refine M_yes rfl rfl rfl ?_
          refine M0 (q_moveC rfl rfl rfl) rfl rfl ?_; refine M_yes rfl rfl rfl ?_; refine M0 (q_ar rfl rfl rfl rfl rfl (by omega) (by omega)) rfl rfl ?_; refine M_yes rfl rfl rfl ?_
          refine M0 (q_le1 rfl rfl rfl rfl (by assumption) rfl) rfl rfl ?_; refine M_yes rfl rfl rfl ?_; refine M0 (q_call0 rfl rfl (c1) rfl) rfl rfl ?_; refine M_yes rfl rfl rfl ?_
          refine M0 (q_not rfl rfl rfl) rfl rfl ?_; refine M0 (q_pickF rfl rfl rfl rfl) rfl rfl ?_; refine M0 (q_moveC rfl rfl rfl) rfl rfl ?_; refine M_yes rfl rfl rfl ?_
          refine M0 (q_moveC rfl rfl rfl) rfl rfl ?_; refine M_yes rfl rfl rfl ?_; refine M0 (q_ar rfl rfl rfl rfl rfl (by omega) (by omega)) rfl rfl ?_; refine M_yes rfl rfl rfl ?_
          refine M0 (q_le1 rfl rfl rfl rfl (by assumption) rfl) rfl rfl ?_; refine M_yes rfl rfl rfl ?_; refine M0 (q_call0 rfl rfl (c2) rfl) rfl rfl ?_; refine M_yes rfl rfl rfl ?_
          refine M0 (q_not rfl rfl rfl) rfl rfl ?_; refine M0 (q_pickF rfl rfl rfl rfl) rfl rfl ?_; refine L_nil ?_; refine T_n ?_; refine A_ifF rfl ?_; refine A_skip ?_; refine T_n ?_; refine A_seq ?_
          refine A_draw [[], [], [], [2], [2, 3], [], [5], [5, 6], [0, 1, 2, 3, 4, 5, 6, 7], [0, 1, 2, 3, 4, 5, 6, 7, 8], [0, 1, 2, 3, 4, 5, 6, 7, 8, 9], [0, 1, 2, 3, 4, 5, 6, 7, 8, 9], [0, 1, 2, 3, 4, 5, 6, 7, 8, 9], [0, 1, 2, 3, 4, 5, 6, 7, 8, 9, 10], [0, 1, 2, 3, 4, 5, 6, 7, 8, 9, 10, 11, 13], [0, 1, 2, 3, 4, 5, 6, 7, 8, 9, 10, 11, 12, 13, 14]] [[], [], [], [55], [55, 56], [], [58], [58, 59], [53, 54, 55, 56, 57, 58, 59, 60], [53, 54, 55, 56, 57, 58, 59, 60, 61], [52, 53, 54, 55, 56, 57, 58, 59, 60, 61], [52, 53, 54, 55, 56, 57, 58, 59, 60, 61], [52, 53, 54, 55, 56, 57, 58, 59, 60, 61], [52, 53, 54, 55, 56, 57, 58, 59, 60, 61, 62], [9, 52, 53, 54, 55, 56, 57, 58, 59, 60, 61, 62, 63], [9, 10, 52, 53, 54, 55, 56, 57, 58, 59, 60, 61, 62, 63, 64]] [[54, 55, 56, 57, 58, 59, 60], [53, 55, 56, 57, 58, 59, 60], [53, 54, 58, 59, 60], [53, 54, 58, 59, 60], [53, 54, 58, 59, 60], [53, 54, 55, 56, 57], [53, 54, 55, 56, 57], [53, 54, 55, 56, 57], [], [], [63, 64], [9, 62, 64], [9, 10, 62, 63], [63, 64], [64], []] rfl ?_
          refine DR.step (q_moveC rfl rfl rfl) rfl rfl ?_; refine DR.step (q_moveC rfl rfl rfl) rfl rfl ?_; refine DR.step (q_moveC rfl rfl rfl) rfl rfl ?_
          refine DR.step (q_ar rfl rfl rfl rfl rfl (by omega) (by omega)) rfl rfl ?_; refine DR.step (q_le1 rfl rfl rfl rfl (by assumption) rfl) rfl rfl ?_
          refine DR.step (q_moveC rfl rfl rfl) rfl rfl ?_; refine DR.step (q_ar rfl rfl rfl rfl rfl (by omega) (by omega)) rfl rfl ?_
          refine DR.step (q_le1 rfl rfl rfl rfl (by assumption) rfl) rfl rfl ?_; refine DR.step (q_call rfl rfl (huc) rfl rfl rfl) rfl rfl ?_; refine DR.step (q_moveT rfl rfl rfl) rfl rfl ?_
          refine DR.step (q_ext rfl rfl rfl rfl) rfl rfl ?_; refine DR.step (q_ext rfl rfl rfl rfl) rfl rfl ?_; refine DR.step (q_ext rfl rfl rfl rfl) rfl rfl ?_
          refine DR.step (q_assignC rfl rfl rfl) rfl rfl ?_; refine DR.step (q_assignC rfl rfl rfl) rfl rfl ?_; refine DR.step (q_assignC rfl rfl rfl) rfl rfl ?_
          refine DR.stop (by kernel_rfl) (by kernel_rfl) ?_
          refine L_nil ?_; refine T_n ?_; refine A_seq ?_; refine A_seq ?_; refine A_region ?_; refine M0 (q_moveC rfl rfl rfl) rfl rfl ?_; refine M0 (q_not rfl rfl rfl) rfl rfl ?_
          refine M0 (q_moveC rfl rfl rfl) rfl rfl ?_; refine M_yes rfl rfl rfl ?_; refine M0 (q_moveC rfl rfl rfl) rfl rfl ?_; refine M_yes rfl rfl rfl ?_; refine M0 (q_moveC rfl rfl rfl) rfl rfl ?_
          refine M_yes rfl rfl rfl ?_; refine M0 (q_add rfl rfl rfl rfl (by omega)) rfl rfl ?_; refine M_yes rfl rfl rfl ?_; refine M0 (q_moveC rfl rfl rfl) rfl rfl ?_; refine M_yes rfl rfl rfl ?_
          refine M0 (q_lens rfl rfl rfl) rfl rfl ?_; refine M_yes rfl rfl rfl ?_; refine M0 (q_neqK rfl rfl rfl rfl (by assumption)) rfl rfl ?_; refine M0 (q_pickF rfl rfl rfl rfl) rfl rfl ?_
          refine L_nil ?_; refine T_n ?_; refine A_ifT rfl ?_; refine A_seq ?_; refine A_region ?_; refine M0 (q_assignC rfl rfl rfl) rfl rfl ?_; refine M0 (q_assignC rfl rfl rfl) rfl rfl ?_
          refine M0 (q_assignC rfl rfl rfl) rfl rfl ?_; refine L_nil ?_; refine T_n ?_; refine A_ret ?_; refine T_r ?_; refine F_r ?_
          exact E_tmp3 rfl rfl rfl rfl (W_fill [1] [2] rfl rfl (by decide) rfl rfl rfl)
set_option maxHeartbeats 8000000 in
theorem S_DecodeStream (t : ByteArray) (hs : t.size ≤ 1099511627776) : Con Try.prog 16 [] [astr t] (dsO (dsS t)) (dsR (dsS t)) := by
  have hot := S_OpenText t hs
  cases ho : openText t with
  | none =>
    rw [ho] at hot
    rw [show dsS t = none by rw [dsS, ho]]
    have hui := S_UnpackInts ⟨#[]⟩ 0 (by show (0 : Nat) ≤ _; omega) ⟨by omega, by omega⟩
    rw [show unpackInts ⟨#[]⟩ 0 = none from rfl] at hui
    refine Con.of Try.func16 rfl Try.ntmps16 rfl (fun E => ?_)
    refine A_seq ?_; refine A_region ?_; refine M0 (q_assignC rfl rfl rfl) rfl rfl ?_; refine M0 (q_assignC rfl rfl rfl) rfl rfl ?_; refine M0 (q_assignC rfl rfl rfl) rfl rfl ?_; refine L_nil ?_
    refine T_n ?_; refine A_seq ?_; refine A_region ?_; refine M0 (q_moveC rfl rfl rfl) rfl rfl ?_; refine M1 (q_call rfl rfl (hot) rfl rfl rfl) rfl rfl ?_
    refine M0 (q_moveT rfl rfl rfl) rfl rfl ?_; refine M0 (q_ext rfl rfl rfl rfl) rfl rfl ?_; refine M0 (q_ext rfl rfl rfl rfl) rfl rfl ?_; refine M0 (q_assignC rfl rfl rfl) rfl rfl ?_
    refine M0 (q_assignC rfl rfl rfl) rfl rfl ?_; refine L_nil ?_; refine T_n ?_; refine A_seq ?_; refine A_region ?_; refine M0 (q_moveC rfl rfl rfl) rfl rfl ?_
    refine M1 (q_call rfl rfl (hui) rfl rfl rfl) rfl rfl ?_; refine M0 (q_moveT rfl rfl rfl) rfl rfl ?_; refine M0 (q_ext rfl rfl rfl rfl) rfl rfl ?_
    refine M0 (q_ext rfl rfl rfl rfl) rfl rfl ?_; refine M0 (q_ext rfl rfl rfl rfl) rfl rfl ?_; refine M0 (q_assignC rfl rfl rfl) rfl rfl ?_; refine M0 (q_assignC rfl rfl rfl) rfl rfl ?_
    refine M0 (q_assignC rfl rfl rfl) rfl rfl ?_; refine L_nil ?_; refine T_n ?_; refine A_seq ?_; refine A_seq ?_; refine A_region ?_; refine M0 (q_moveC rfl rfl rfl) rfl rfl ?_
    refine M0 (q_not rfl rfl rfl) rfl rfl ?_; refine M0 (q_moveC rfl rfl rfl) rfl rfl ?_; refine M_no rfl rfl rfl rfl rfl rfl ?_; refine M_no rfl rfl rfl rfl rfl rfl ?_
    refine M0 (q_pickT rfl rfl rfl rfl) rfl rfl ?_; refine M0 (q_moveC rfl rfl rfl) rfl rfl ?_; refine M_no rfl rfl rfl rfl rfl rfl ?_; refine M_no rfl rfl rfl rfl rfl rfl ?_
    refine M_no rfl rfl rfl rfl rfl rfl ?_; refine M0 (q_pickT rfl rfl rfl rfl) rfl rfl ?_; refine M0 (q_moveC rfl rfl rfl) rfl rfl ?_; refine M_no rfl rfl rfl rfl rfl rfl ?_
    refine M_no rfl rfl rfl rfl rfl rfl ?_; refine M_no rfl rfl rfl rfl rfl rfl ?_; refine M_no rfl rfl rfl rfl rfl rfl ?_; refine M_no rfl rfl rfl rfl rfl rfl ?_
    refine M0 (q_pickT rfl rfl rfl rfl) rfl rfl ?_; refine M0 (q_moveC rfl rfl rfl) rfl rfl ?_; refine M_no rfl rfl rfl rfl rfl rfl ?_; refine M_no rfl rfl rfl rfl rfl rfl ?_
    refine M_no rfl rfl rfl rfl rfl rfl ?_; refine M_no rfl rfl rfl rfl rfl rfl ?_; refine M_no rfl rfl rfl rfl rfl rfl ?_; refine M0 (q_pickT rfl rfl rfl rfl) rfl rfl ?_; refine L_nil ?_
    refine T_n ?_; refine A_ifT rfl ?_; refine A_seq ?_; refine A_region ?_; refine M1 (q_bslice0 rfl rfl rfl) rfl rfl ?_; refine M0 (q_assignC rfl rfl rfl) rfl rfl ?_
    refine M0 (q_assignC rfl rfl rfl) rfl rfl ?_; refine M0 (q_assignC rfl rfl rfl) rfl rfl ?_; refine L_nil ?_; refine T_n ?_; refine A_ret ?_; refine T_r ?_; refine F_r ?_
    exact E_tmp3 rfl rfl rfl rfl (W_end [1] (by decide) rfl rfl rfl)
  | some b =>
    rw [ho] at hot
    obtain ⟨_, hsz⟩ := openText_some ho
    have hui := S_UnpackInts b 0 (by omega) ⟨by omega, by omega⟩
    cases hu : unpackInts b 0 with
    | none =>
      rw [hu] at hui
      rw [show dsS t = none by rw [dsS, ho]; simp only []; rw [hu]]
      refine Con.of Try.func16 rfl Try.ntmps16 rfl (fun E => ?_)
      refine A_seq ?_; refine A_region ?_; refine M0 (q_assignC rfl rfl rfl) rfl rfl ?_; refine M0 (q_assignC rfl rfl rfl) rfl rfl ?_; refine M0 (q_assignC rfl rfl rfl) rfl rfl ?_; refine L_nil ?_
      refine T_n ?_; refine A_seq ?_; refine A_region ?_; refine M0 (q_moveC rfl rfl rfl) rfl rfl ?_; refine M1 (q_call rfl rfl (hot) rfl rfl rfl) rfl rfl ?_
      refine M0 (q_moveT rfl rfl rfl) rfl rfl ?_; refine M0 (q_ext rfl rfl rfl rfl) rfl rfl ?_; refine M0 (q_ext rfl rfl rfl rfl) rfl rfl ?_; refine M0 (q_assignC rfl rfl rfl) rfl rfl ?_
      refine M0 (q_assignC rfl rfl rfl) rfl rfl ?_; refine L_nil ?_; refine T_n ?_; refine A_seq ?_; refine A_region ?_; refine M0 (q_moveC rfl rfl rfl) rfl rfl ?_
      refine M1 (q_call rfl rfl (hui) rfl rfl rfl) rfl rfl ?_; refine M0 (q_moveT rfl rfl rfl) rfl rfl ?_; refine M0 (q_ext rfl rfl rfl rfl) rfl rfl ?_
      refine M0 (q_ext rfl rfl rfl rfl) rfl rfl ?_; refine M0 (q_ext rfl rfl rfl rfl) rfl rfl ?_; refine M0 (q_assignC rfl rfl rfl) rfl rfl ?_; refine M0 (q_assignC rfl rfl rfl) rfl rfl ?_
      refine M0 (q_assignC rfl rfl rfl) rfl rfl ?_; refine L_nil ?_; refine T_n ?_; refine A_seq ?_; refine A_seq ?_; refine A_region ?_; refine M0 (q_moveC rfl rfl rfl) rfl rfl ?_
      refine M0 (q_not rfl rfl rfl) rfl rfl ?_; refine M0 (q_moveC rfl rfl rfl) rfl rfl ?_; refine M_yes rfl rfl rfl ?_; refine M0 (q_moveC rfl rfl rfl) rfl rfl ?_; refine M_yes rfl rfl rfl ?_
      refine M0 (q_not rfl rfl rfl) rfl rfl ?_; refine M0 (q_pickF rfl rfl rfl rfl) rfl rfl ?_; refine M0 (q_moveC rfl rfl rfl) rfl rfl ?_; refine M_no rfl rfl rfl rfl rfl rfl ?_
      refine M_no rfl rfl rfl rfl rfl rfl ?_; refine M_no rfl rfl rfl rfl rfl rfl ?_; refine M0 (q_pickT rfl rfl rfl rfl) rfl rfl ?_; refine M0 (q_moveC rfl rfl rfl) rfl rfl ?_
      refine M_no rfl rfl rfl rfl rfl rfl ?_; refine M_no rfl rfl rfl rfl rfl rfl ?_; refine M_no rfl rfl rfl rfl rfl rfl ?_; refine M_no rfl rfl rfl rfl rfl rfl ?_
      refine M_no rfl rfl rfl rfl rfl rfl ?_; refine M0 (q_pickT rfl rfl rfl rfl) rfl rfl ?_; refine M0 (q_moveC rfl rfl rfl) rfl rfl ?_; refine M_no rfl rfl rfl rfl rfl rfl ?_
      refine M_no rfl rfl rfl rfl rfl rfl ?_; refine M_no rfl rfl rfl rfl rfl rfl ?_; refine M_no rfl rfl rfl rfl rfl rfl ?_; refine M_no rfl rfl rfl rfl rfl rfl ?_
      refine M0 (q_pickT rfl rfl rfl rfl) rfl rfl ?_; refine L_nil ?_; refine T_n ?_; refine A_ifT rfl ?_; refine A_seq ?_; refine A_region ?_; refine M1 (q_bslice0 rfl rfl rfl) rfl rfl ?_
      refine M0 (q_assignC rfl rfl rfl) rfl rfl ?_; refine M0 (q_assignC rfl rfl rfl) rfl rfl ?_; refine M0 (q_assignC rfl rfl rfl) rfl rfl ?_; refine L_nil ?_; refine T_n ?_; refine A_ret ?_
      refine T_r ?_; refine F_r ?_
      exact E_tmp3 rfl rfl rfl rfl (W_end [1] (by decide) rfl rfl rfl)
    | some r =>
      obtain ⟨l, pos⟩ := r
      rw [hu] at hui
      have hus := unpackInts_some hu
      have hll := els_len l
      by_cases hl3 : ¬ l.length = 3
      · have hb : decide (((els l).length : Int) ≠ 3) = true := decide_eq_true (by omega)
        rw [show dsS t = none by rw [dsS, ho]; simp only []; rw [hu]; split; (rename_i he; simp only [Option.some.injEq, Prod.mk.injEq] at he; obtain ⟨rfl, _⟩ := he; simp at hl3); rfl]
        refine Con.of Try.func16 rfl Try.ntmps16 rfl (fun E => ?_)
        refine A_seq ?_; refine A_region ?_; refine M0 (q_assignC rfl rfl rfl) rfl rfl ?_; refine M0 (q_assignC rfl rfl rfl) rfl rfl ?_; refine M0 (q_assignC rfl rfl rfl) rfl rfl ?_; refine L_nil ?_
        refine T_n ?_; refine A_seq ?_; refine A_region ?_; refine M0 (q_moveC rfl rfl rfl) rfl rfl ?_; refine M1 (q_call rfl rfl (hot) rfl rfl rfl) rfl rfl ?_
        refine M0 (q_moveT rfl rfl rfl) rfl rfl ?_; refine M0 (q_ext rfl rfl rfl rfl) rfl rfl ?_; refine M0 (q_ext rfl rfl rfl rfl) rfl rfl ?_; refine M0 (q_assignC rfl rfl rfl) rfl rfl ?_
        refine M0 (q_assignC rfl rfl rfl) rfl rfl ?_; refine L_nil ?_; refine T_n ?_; refine A_seq ?_; refine A_region ?_; refine M0 (q_moveC rfl rfl rfl) rfl rfl ?_
        refine M1 (q_call rfl rfl (hui) rfl rfl rfl) rfl rfl ?_; refine M0 (q_moveT rfl rfl rfl) rfl rfl ?_; refine M0 (q_ext rfl rfl rfl rfl) rfl rfl ?_
        refine M0 (q_ext rfl rfl rfl rfl) rfl rfl ?_; refine M0 (q_ext rfl rfl rfl rfl) rfl rfl ?_; refine M0 (q_assignC rfl rfl rfl) rfl rfl ?_; refine M0 (q_assignC rfl rfl rfl) rfl rfl ?_
        refine M0 (q_assignC rfl rfl rfl) rfl rfl ?_; refine L_nil ?_; refine T_n ?_; refine A_seq ?_; refine A_seq ?_; refine A_region ?_; refine M0 (q_moveC rfl rfl rfl) rfl rfl ?_
        refine M0 (q_not rfl rfl rfl) rfl rfl ?_; refine M0 (q_moveC rfl rfl rfl) rfl rfl ?_; refine M_yes rfl rfl rfl ?_; refine M0 (q_moveC rfl rfl rfl) rfl rfl ?_; refine M_yes rfl rfl rfl ?_
        refine M0 (q_not rfl rfl rfl) rfl rfl ?_; refine M0 (q_pickF rfl rfl rfl rfl) rfl rfl ?_; refine M0 (q_moveC rfl rfl rfl) rfl rfl ?_; refine M_yes rfl rfl rfl ?_
        refine M0 (q_moveC rfl rfl rfl) rfl rfl ?_; refine M_yes rfl rfl rfl ?_; refine M0 (q_lenr rfl rfl rfl rfl) rfl rfl ?_; refine M_yes rfl rfl rfl ?_
        refine M0 (q_neqK rfl rfl rfl rfl (by assumption)) rfl rfl ?_; refine M0 (q_pickF rfl rfl rfl rfl) rfl rfl ?_; refine M0 (q_moveC rfl rfl rfl) rfl rfl ?_
        refine M_no rfl rfl rfl rfl rfl rfl ?_; refine M_no rfl rfl rfl rfl rfl rfl ?_; refine M_no rfl rfl rfl rfl rfl rfl ?_; refine M_no rfl rfl rfl rfl rfl rfl ?_
        refine M_no rfl rfl rfl rfl rfl rfl ?_; refine M0 (q_pickT rfl rfl rfl rfl) rfl rfl ?_; refine M0 (q_moveC rfl rfl rfl) rfl rfl ?_; refine M_no rfl rfl rfl rfl rfl rfl ?_
        refine M_no rfl rfl rfl rfl rfl rfl ?_; refine M_no rfl rfl rfl rfl rfl rfl ?_; refine M_no rfl rfl rfl rfl rfl rfl ?_; refine M_no rfl rfl rfl rfl rfl rfl ?_
        refine M0 (q_pickT rfl rfl rfl rfl) rfl rfl ?_; refine L_nil ?_; refine T_n ?_; refine A_ifT rfl ?_; refine A_seq ?_; refine A_region ?_; refine M1 (q_bslice0 rfl rfl rfl) rfl rfl ?_
        refine M0 (q_assignC rfl rfl rfl) rfl rfl ?_; refine M0 (q_assignC rfl rfl rfl) rfl rfl ?_; refine M0 (q_assignC rfl rfl rfl) rfl rfl ?_; refine L_nil ?_; refine T_n ?_; refine A_ret ?_
        refine T_r ?_; refine F_r ?_
        exact E_tmp3 rfl rfl rfl rfl (W_end [1] (by decide) rfl rfl rfl)
      obtain ⟨h0, h1, h2, rfl⟩ := list3 (Classical.not_not.1 hl3)
      have hd : dsS t = if (1 ≤ h1 ∧ h1 ≤ 20) ∧ (1 ≤ h2 ∧ h2 ≤ 4) then (match colsGo b h1.toNat h2.toNat pos (List.replicate h1.toNat []) with
        | none => none
        | some (rows, e) => if encodeStream h0 rows = t then some (h0, rows) else none) else none := by rw [dsS, ho]; simp only []; rw [hu]; rfl
      have hb : decide (((els [h0, h1, h2]).length : Int) ≠ 3) = false := decide_eq_false (by rw [hll]; simp)
      have hl3 : (els [h0, h1, h2]).length = 3 := rfl
      have ha0 : (els [h0, h1, h2])[(0 : Int).toNat]? = some [.v (.int .i64 h0)] := rfl
      have ha1 : (els [h0, h1, h2])[(1 : Int).toNat]? = some [.v (.int .i64 h1)] := rfl
      have ha2 : (els [h0, h1, h2])[(2 : Int).toNat]? = some [.v (.int .i64 h2)] := rfl
      have c1 := S_in h1 1 20
      have c2 := S_in h2 1 4
      by_cases hf1 : inR h1 1 20 = true
      case neg =>
        rw [hd, if_neg (fun h => hf1 (inR_iff.2 h.1))]
        have hf1 : inR h1 1 20 = false := by simpa using hf1
        rw [hf1] at c1
        refine Con.of Try.func16 rfl Try.ntmps16 rfl (fun E => ?_)
        refine A_seq ?_; refine A_region ?_; refine M0 (q_assignC rfl rfl rfl) rfl rfl ?_; refine M0 (q_assignC rfl rfl rfl) rfl rfl ?_; refine M0 (q_assignC rfl rfl rfl) rfl rfl ?_; refine L_nil ?_
        refine T_n ?_; refine A_seq ?_; refine A_region ?_; refine M0 (q_moveC rfl rfl rfl) rfl rfl ?_; refine M1 (q_call rfl rfl (hot) rfl rfl rfl) rfl rfl ?_
        refine M0 (q_moveT rfl rfl rfl) rfl rfl ?_; refine M0 (q_ext rfl rfl rfl rfl) rfl rfl ?_; refine M0 (q_ext rfl rfl rfl rfl) rfl rfl ?_; refine M0 (q_assignC rfl rfl rfl) rfl rfl ?_
        refine M0 (q_assignC rfl rfl rfl) rfl rfl ?_; refine L_nil ?_; refine T_n ?_; refine A_seq ?_; refine A_region ?_; refine M0 (q_moveC rfl rfl rfl) rfl rfl ?_
        refine M1 (q_call rfl rfl (hui) rfl rfl rfl) rfl rfl ?_; refine M0 (q_moveT rfl rfl rfl) rfl rfl ?_; refine M0 (q_ext rfl rfl rfl rfl) rfl rfl ?_
        refine M0 (q_ext rfl rfl rfl rfl) rfl rfl ?_; refine M0 (q_ext rfl rfl rfl rfl) rfl rfl ?_; refine M0 (q_assignC rfl rfl rfl) rfl rfl ?_; refine M0 (q_assignC rfl rfl rfl) rfl rfl ?_
        refine M0 (q_assignC rfl rfl rfl) rfl rfl ?_; refine L_nil ?_; refine T_n ?_; refine A_seq ?_; refine A_seq ?_; refine A_region ?_; refine M0 (q_moveC rfl rfl rfl) rfl rfl ?_
        refine M0 (q_not rfl rfl rfl) rfl rfl ?_; refine M0 (q_moveC rfl rfl rfl) rfl rfl ?_; refine M_yes rfl rfl rfl ?_; refine M0 (q_moveC rfl rfl rfl) rfl rfl ?_; refine M_yes rfl rfl rfl ?_
        refine M0 (q_not rfl rfl rfl) rfl rfl ?_; refine M0 (q_pickF rfl rfl rfl rfl) rfl rfl ?_; refine M0 (q_moveC rfl rfl rfl) rfl rfl ?_; refine M_yes rfl rfl rfl ?_
        refine M0 (q_moveC rfl rfl rfl) rfl rfl ?_; refine M_yes rfl rfl rfl ?_; refine M0 (q_lenr rfl rfl rfl rfl) rfl rfl ?_; refine M_yes rfl rfl rfl ?_
        refine M0 (q_neqK rfl rfl rfl rfl (by assumption)) rfl rfl ?_; refine M0 (q_pickF rfl rfl rfl rfl) rfl rfl ?_; refine M0 (q_moveC rfl rfl rfl) rfl rfl ?_; refine M_yes rfl rfl rfl ?_
        refine M0 (q_moveC rfl rfl rfl) rfl rfl ?_; refine M_yes rfl rfl rfl ?_; refine M0 (q_ar rfl rfl rfl rfl rfl (by omega) (by omega)) rfl rfl ?_; refine M_yes rfl rfl rfl ?_
        refine M0 (q_le1 rfl rfl rfl rfl (by assumption) rfl) rfl rfl ?_; refine M_yes rfl rfl rfl ?_; refine M0 (q_call0 rfl rfl (c1) rfl) rfl rfl ?_; refine M_yes rfl rfl rfl ?_
        refine M0 (q_not rfl rfl rfl) rfl rfl ?_; refine M0 (q_pickF rfl rfl rfl rfl) rfl rfl ?_; refine M0 (q_moveC rfl rfl rfl) rfl rfl ?_; refine M_no rfl rfl rfl rfl rfl rfl ?_
        refine M_no rfl rfl rfl rfl rfl rfl ?_; refine M_no rfl rfl rfl rfl rfl rfl ?_; refine M_no rfl rfl rfl rfl rfl rfl ?_; refine M_no rfl rfl rfl rfl rfl rfl ?_
        refine M0 (q_pickT rfl rfl rfl rfl) rfl rfl ?_; refine L_nil ?_; refine T_n ?_; refine A_ifT rfl ?_; refine A_seq ?_; refine A_region ?_; refine M1 (q_bslice0 rfl rfl rfl) rfl rfl ?_
        refine M0 (q_assignC rfl rfl rfl) rfl rfl ?_; refine M0 (q_assignC rfl rfl rfl) rfl rfl ?_; refine M0 (q_assignC rfl rfl rfl) rfl rfl ?_; refine L_nil ?_; refine T_n ?_; refine A_ret ?_
        refine T_r ?_; refine F_r ?_
        exact E_tmp3 rfl rfl rfl rfl (W_end [1] (by decide) rfl rfl rfl)
      rw [hf1] at c1
      by_cases hf2 : inR h2 1 4 = true
      case neg =>
        rw [hd, if_neg (fun h => hf2 (inR_iff.2 h.2))]
        have hf2 : inR h2 1 4 = false := by simpa using hf2
        rw [hf2] at c2
        refine Con.of Try.func16 rfl Try.ntmps16 rfl (fun E => ?_)
        refine A_seq ?_; refine A_region ?_; refine M0 (q_assignC rfl rfl rfl) rfl rfl ?_; refine M0 (q_assignC rfl rfl rfl) rfl rfl ?_; refine M0 (q_assignC rfl rfl rfl) rfl rfl ?_; refine L_nil ?_
        refine T_n ?_; refine A_seq ?_; refine A_region ?_; refine M0 (q_moveC rfl rfl rfl) rfl rfl ?_; refine M1 (q_call rfl rfl (hot) rfl rfl rfl) rfl rfl ?_
        refine M0 (q_moveT rfl rfl rfl) rfl rfl ?_; refine M0 (q_ext rfl rfl rfl rfl) rfl rfl ?_; refine M0 (q_ext rfl rfl rfl rfl) rfl rfl ?_; refine M0 (q_assignC rfl rfl rfl) rfl rfl ?_
        refine M0 (q_assignC rfl rfl rfl) rfl rfl ?_; refine L_nil ?_; refine T_n ?_; refine A_seq ?_; refine A_region ?_; refine M0 (q_moveC rfl rfl rfl) rfl rfl ?_
        refine M1 (q_call rfl rfl (hui) rfl rfl rfl) rfl rfl ?_; refine M0 (q_moveT rfl rfl rfl) rfl rfl ?_; refine M0 (q_ext rfl rfl rfl rfl) rfl rfl ?_
        refine M0 (q_ext rfl rfl rfl rfl) rfl rfl ?_; refine M0 (q_ext rfl rfl rfl rfl) rfl rfl ?_; refine M0 (q_assignC rfl rfl rfl) rfl rfl ?_; refine M0 (q_assignC rfl rfl rfl) rfl rfl ?_
        refine M0 (q_assignC rfl rfl rfl) rfl rfl ?_; refine L_nil ?_; refine T_n ?_; refine A_seq ?_; refine A_seq ?_; refine A_region ?_; refine M0 (q_moveC rfl rfl rfl) rfl rfl ?_
        refine M0 (q_not rfl rfl rfl) rfl rfl ?_; refine M0 (q_moveC rfl rfl rfl) rfl rfl ?_; refine M_yes rfl rfl rfl ?_; refine M0 (q_moveC rfl rfl rfl) rfl rfl ?_; refine M_yes rfl rfl rfl ?_
        refine M0 (q_not rfl rfl rfl) rfl rfl ?_; refine M0 (q_pickF rfl rfl rfl rfl) rfl rfl ?_; refine M0 (q_moveC rfl rfl rfl) rfl rfl ?_; refine M_yes rfl rfl rfl ?_
        refine M0 (q_moveC rfl rfl rfl) rfl rfl ?_; refine M_yes rfl rfl rfl ?_; refine M0 (q_lenr rfl rfl rfl rfl) rfl rfl ?_; refine M_yes rfl rfl rfl ?_
        refine M0 (q_neqK rfl rfl rfl rfl (by assumption)) rfl rfl ?_; refine M0 (q_pickF rfl rfl rfl rfl) rfl rfl ?_; refine M0 (q_moveC rfl rfl rfl) rfl rfl ?_; refine M_yes rfl rfl rfl ?_
        refine M0 (q_moveC rfl rfl rfl) rfl rfl ?_; refine M_yes rfl rfl rfl ?_; refine M0 (q_ar rfl rfl rfl rfl rfl (by omega) (by omega)) rfl rfl ?_; refine M_yes rfl rfl rfl ?_
        refine M0 (q_le1 rfl rfl rfl rfl (by assumption) rfl) rfl rfl ?_; refine M_yes rfl rfl rfl ?_; refine M0 (q_call0 rfl rfl (c1) rfl) rfl rfl ?_; refine M_yes rfl rfl rfl ?_
        refine M0 (q_not rfl rfl rfl) rfl rfl ?_; refine M0 (q_pickF rfl rfl rfl rfl) rfl rfl ?_; refine M0 (q_moveC rfl rfl rfl) rfl rfl ?_; refine M_yes rfl rfl rfl ?_
        refine M0 (q_moveC rfl rfl rfl) rfl rfl ?_; refine M_yes rfl rfl rfl ?_; refine M0 (q_ar rfl rfl rfl rfl rfl (by omega) (by omega)) rfl rfl ?_; refine M_yes rfl rfl rfl ?_
        refine M0 (q_le1 rfl rfl rfl rfl (by assumption) rfl) rfl rfl ?_; refine M_yes rfl rfl rfl ?_; refine M0 (q_call0 rfl rfl (c2) rfl) rfl rfl ?_; refine M_yes rfl rfl rfl ?_
        refine M0 (q_not rfl rfl rfl) rfl rfl ?_; refine M0 (q_pickF rfl rfl rfl rfl) rfl rfl ?_; refine L_nil ?_; refine T_n ?_; refine A_ifT rfl ?_; refine A_seq ?_; refine A_region ?_
        refine M1 (q_bslice0 rfl rfl rfl) rfl rfl ?_; refine M0 (q_assignC rfl rfl rfl) rfl rfl ?_; refine M0 (q_assignC rfl rfl rfl) rfl rfl ?_; refine M0 (q_assignC rfl rfl rfl) rfl rfl ?_
        refine L_nil ?_; refine T_n ?_; refine A_ret ?_; refine T_r ?_; refine F_r ?_
        exact E_tmp3 rfl rfl rfl rfl (W_end [1] (by decide) rfl rfl rfl)
      rw [hf2] at c2
      have hr1 := inR_iff.1 hf1
      have hr2 := inR_iff.1 hf2
      obtain ⟨n1, rfl⟩ : ∃ n : Nat, h1 = n := ⟨h1.toNat, by omega⟩
      obtain ⟨n2, rfl⟩ : ∃ n : Nat, h2 = n := ⟨h2.toNat, by omega⟩
      rw [if_pos ⟨hr1, hr2⟩, Int.toNat_natCast, Int.toNat_natCast] at hd
      have huc := S_l07Columns b pos n2 n1 (by omega) (by omega) (by omega) (by omega)
      cases hc : colsGo b n1 n2 pos (List.replicate n1 []) with
      | none =>
        rw [hc] at huc hd
        rw [hd]
        refine Con.of Try.func16 rfl Try.ntmps16 rfl (fun E => ?_)
        refine A_seq ?_; refine A_region ?_; refine M0 (q_assignC rfl rfl rfl) rfl rfl ?_; refine M0 (q_assignC rfl rfl rfl) rfl rfl ?_; refine M0 (q_assignC rfl rfl rfl) rfl rfl ?_; refine L_nil ?_
        refine T_n ?_; refine A_seq ?_; refine A_region ?_; refine M0 (q_moveC rfl rfl rfl) rfl rfl ?_; refine M1 (q_call rfl rfl (hot) rfl rfl rfl) rfl rfl ?_
        refine M0 (q_moveT rfl rfl rfl) rfl rfl ?_; refine M0 (q_ext rfl rfl rfl rfl) rfl rfl ?_; refine M0 (q_ext rfl rfl rfl rfl) rfl rfl ?_; refine M0 (q_assignC rfl rfl rfl) rfl rfl ?_
        refine M0 (q_assignC rfl rfl rfl) rfl rfl ?_; refine L_nil ?_; refine T_n ?_; refine A_seq ?_; refine A_region ?_; refine M0 (q_moveC rfl rfl rfl) rfl rfl ?_
        refine M1 (q_call rfl rfl (hui) rfl rfl rfl) rfl rfl ?_; refine M0 (q_moveT rfl rfl rfl) rfl rfl ?_; refine M0 (q_ext rfl rfl rfl rfl) rfl rfl ?_
        refine M0 (q_ext rfl rfl rfl rfl) rfl rfl ?_; refine M0 (q_ext rfl rfl rfl rfl) rfl rfl ?_; refine M0 (q_assignC rfl rfl rfl) rfl rfl ?_; refine M0 (q_assignC rfl rfl rfl) rfl rfl ?_
        refine M0 (q_assignC rfl rfl rfl) rfl rfl ?_; refine L_nil ?_; refine T_n ?_; refine A_seq ?_; refine A_seq ?_; refine A_region ?_; refine M0 (q_moveC rfl rfl rfl) rfl rfl ?_
        refine M0 (q_not rfl rfl rfl) rfl rfl ?_; refine M0 (q_moveC rfl rfl rfl) rfl rfl ?_; refine M_yes rfl rfl rfl ?_; refine M0 (q_moveC rfl rfl rfl) rfl rfl ?_; refine M_yes rfl rfl rfl ?_
        refine M0 (q_not rfl rfl rfl) rfl rfl ?_; refine M0 (q_pickF rfl rfl rfl rfl) rfl rfl ?_; refine M0 (q_moveC rfl rfl rfl) rfl rfl ?_; refine M_yes rfl rfl rfl ?_
        refine M0 (q_moveC rfl rfl rfl) rfl rfl ?_; refine M_yes rfl rfl rfl ?_; refine M0 (q_lenr rfl rfl rfl rfl) rfl rfl ?_; refine M_yes rfl rfl rfl ?_
        refine M0 (q_neqK rfl rfl rfl rfl (by assumption)) rfl rfl ?_; refine M0 (q_pickF rfl rfl rfl rfl) rfl rfl ?_; refine M0 (q_moveC rfl rfl rfl) rfl rfl ?_; refine M_yes rfl rfl rfl ?_
        refine M0 (q_moveC rfl rfl rfl) rfl rfl ?_; refine M_yes rfl rfl rfl ?_; refine M0 (q_ar rfl rfl rfl rfl rfl (by omega) (by omega)) rfl rfl ?_; refine M_yes rfl rfl rfl ?_
        refine M0 (q_le1 rfl rfl rfl rfl (by assumption) rfl) rfl rfl ?_; refine M_yes rfl rfl rfl ?_; refine M0 (q_call0 rfl rfl (c1) rfl) rfl rfl ?_; refine M_yes rfl rfl rfl ?_
        refine M0 (q_not rfl rfl rfl) rfl rfl ?_; refine M0 (q_pickF rfl rfl rfl rfl) rfl rfl ?_; refine M0 (q_moveC rfl rfl rfl) rfl rfl ?_; refine M_yes rfl rfl rfl ?_
        refine M0 (q_moveC rfl rfl rfl) rfl rfl ?_; refine M_yes rfl rfl rfl ?_; refine M0 (q_ar rfl rfl rfl rfl rfl (by omega) (by omega)) rfl rfl ?_; refine M_yes rfl rfl rfl ?_
        refine M0 (q_le1 rfl rfl rfl rfl (by assumption) rfl) rfl rfl ?_; refine M_yes rfl rfl rfl ?_; refine M0 (q_call0 rfl rfl (c2) rfl) rfl rfl ?_; refine M_yes rfl rfl rfl ?_
        refine M0 (q_not rfl rfl rfl) rfl rfl ?_; refine M0 (q_pickF rfl rfl rfl rfl) rfl rfl ?_; refine L_nil ?_; refine T_n ?_; refine A_ifF rfl ?_; refine A_skip ?_; refine T_n ?_; refine A_seq ?_
        refine A_draw [[], [], [], [2], [2, 3], [], [5], [5, 6], [0, 1, 2, 3, 4, 5, 6, 7], [0, 1, 2, 3, 4, 5, 6, 7, 8], [0, 1, 2, 3, 4, 5, 6, 7, 8, 9], [0, 1, 2, 3, 4, 5, 6, 7, 8, 9], [0, 1, 2, 3, 4, 5, 6, 7, 8, 9], [0, 1, 2, 3, 4, 5, 6, 7, 8, 9, 10], [0, 1, 2, 3, 4, 5, 6, 7, 8, 9, 10, 11, 13], [0, 1, 2, 3, 4, 5, 6, 7, 8, 9, 10, 11, 12, 13, 14]] [[], [], [], [53], [53, 54], [], [56], [56, 57], [51, 52, 53, 54, 55, 56, 57, 58], [51, 52, 53, 54, 55, 56, 57, 58, 59], [50, 51, 52, 53, 54, 55, 56, 57, 58, 59], [50, 51, 52, 53, 54, 55, 56, 57, 58, 59], [50, 51, 52, 53, 54, 55, 56, 57, 58, 59], [50, 51, 52, 53, 54, 55, 56, 57, 58, 59, 60], [10, 50, 51, 52, 53, 54, 55, 56, 57, 58, 59, 60, 61], [10, 11, 50, 51, 52, 53, 54, 55, 56, 57, 58, 59, 60, 61, 62]] [[52, 53, 54, 55, 56, 57, 58], [51, 53, 54, 55, 56, 57, 58], [51, 52, 56, 57, 58], [51, 52, 56, 57, 58], [51, 52, 56, 57, 58], [51, 52, 53, 54, 55], [51, 52, 53, 54, 55], [51, 52, 53, 54, 55], [], [], [61, 62], [10, 60, 62], [10, 11, 60, 61], [61, 62], [62], []] rfl ?_
        refine DR.step (q_moveC rfl rfl rfl) rfl rfl ?_; refine DR.step (q_moveC rfl rfl rfl) rfl rfl ?_; refine DR.step (q_moveC rfl rfl rfl) rfl rfl ?_
        refine DR.step (q_ar rfl rfl rfl rfl rfl (by omega) (by omega)) rfl rfl ?_; refine DR.step (q_le1 rfl rfl rfl rfl (by assumption) rfl) rfl rfl ?_
        refine DR.step (q_moveC rfl rfl rfl) rfl rfl ?_; refine DR.step (q_ar rfl rfl rfl rfl rfl (by omega) (by omega)) rfl rfl ?_
        refine DR.step (q_le1 rfl rfl rfl rfl (by assumption) rfl) rfl rfl ?_; refine DR.step (q_call rfl rfl (huc) rfl rfl rfl) rfl rfl ?_; refine DR.step (q_moveT rfl rfl rfl) rfl rfl ?_
        refine DR.step (q_ext rfl rfl rfl rfl) rfl rfl ?_; refine DR.step (q_ext rfl rfl rfl rfl) rfl rfl ?_; refine DR.step (q_ext rfl rfl rfl rfl) rfl rfl ?_
        refine DR.step (q_assignC rfl rfl rfl) rfl rfl ?_; refine DR.step (q_assignC rfl rfl rfl) rfl rfl ?_; refine DR.step (q_assignC rfl rfl rfl) rfl rfl ?_
        refine DR.stop (by kernel_rfl) (by kernel_rfl) ?_
        refine L_nil ?_; refine T_n ?_; refine A_seq ?_; refine A_seq ?_; refine A_region ?_; refine M0 (q_moveC rfl rfl rfl) rfl rfl ?_; refine M0 (q_not rfl rfl rfl) rfl rfl ?_
        refine M0 (q_moveC rfl rfl rfl) rfl rfl ?_; refine M_no rfl rfl rfl rfl rfl rfl ?_; refine M_no rfl rfl rfl rfl rfl rfl ?_; refine M_no rfl rfl rfl rfl rfl rfl ?_
        refine M_no rfl rfl rfl rfl rfl rfl ?_; refine M_no rfl rfl rfl rfl rfl rfl ?_; refine M_no rfl rfl rfl rfl rfl rfl ?_; refine M_no rfl rfl rfl rfl rfl rfl ?_
        refine M0 (q_pickT rfl rfl rfl rfl) rfl rfl ?_; refine L_nil ?_; refine T_n ?_; refine A_ifT rfl ?_; refine A_seq ?_; refine A_region ?_; refine M1 (q_bslice0 rfl rfl rfl) rfl rfl ?_
        refine M0 (q_assignC rfl rfl rfl) rfl rfl ?_; refine M0 (q_assignC rfl rfl rfl) rfl rfl ?_; refine M0 (q_assignC rfl rfl rfl) rfl rfl ?_; refine L_nil ?_; refine T_n ?_; refine A_ret ?_
        refine T_r ?_; refine F_r ?_
        exact E_tmp3 rfl rfl rfl rfl (W_end [2] (by decide) rfl rfl rfl)
      | some r =>
        obtain ⟨rows, e⟩ := r
        rw [hc] at huc hd
        simp only [] at hd
        obtain ⟨g1, g2, g3, g4, g5, g6⟩ := colsGo_canon b n1 (by omega) n2 pos (List.replicate n1 []) 0 rows e (by omega) (by simp) (fun r hr => by rw [List.eq_of_mem_replicate hr]; rfl) (fun i hi => by omega) hc
        rw [Nat.zero_add] at g4 g5
        have hes := S_EncodeStream h0 rows (hus.2.2.2.2 h0 (by simp)) (cols_gd g1 (by omega) (by omega) g4 g5)
        by_cases he : encodeStream h0 rows = t
        · rw [hd, if_pos he]
          have hb3 : decide (encodeStream h0 rows ≠ t) = false := decide_eq_false fun h => h he
          refine Con.of Try.func16 rfl Try.ntmps16 rfl (fun E => ?_)
          refine A_seq ?_; refine A_region ?_; refine M0 (q_assignC rfl rfl rfl) rfl rfl ?_; refine M0 (q_assignC rfl rfl rfl) rfl rfl ?_; refine M0 (q_assignC rfl rfl rfl) rfl rfl ?_; refine L_nil ?_
          refine T_n ?_; refine A_seq ?_; refine A_region ?_; refine M0 (q_moveC rfl rfl rfl) rfl rfl ?_; refine M1 (q_call rfl rfl (hot) rfl rfl rfl) rfl rfl ?_
          refine M0 (q_moveT rfl rfl rfl) rfl rfl ?_; refine M0 (q_ext rfl rfl rfl rfl) rfl rfl ?_; refine M0 (q_ext rfl rfl rfl rfl) rfl rfl ?_; refine M0 (q_assignC rfl rfl rfl) rfl rfl ?_
          refine M0 (q_assignC rfl rfl rfl) rfl rfl ?_; refine L_nil ?_; refine T_n ?_; refine A_seq ?_; refine A_region ?_; refine M0 (q_moveC rfl rfl rfl) rfl rfl ?_
          refine M1 (q_call rfl rfl (hui) rfl rfl rfl) rfl rfl ?_; refine M0 (q_moveT rfl rfl rfl) rfl rfl ?_; refine M0 (q_ext rfl rfl rfl rfl) rfl rfl ?_
          refine M0 (q_ext rfl rfl rfl rfl) rfl rfl ?_; refine M0 (q_ext rfl rfl rfl rfl) rfl rfl ?_; refine M0 (q_assignC rfl rfl rfl) rfl rfl ?_; refine M0 (q_assignC rfl rfl rfl) rfl rfl ?_
          refine M0 (q_assignC rfl rfl rfl) rfl rfl ?_; refine L_nil ?_; refine T_n ?_; refine A_seq ?_; refine A_seq ?_; refine A_region ?_; refine M0 (q_moveC rfl rfl rfl) rfl rfl ?_
          refine M0 (q_not rfl rfl rfl) rfl rfl ?_; refine M0 (q_moveC rfl rfl rfl) rfl rfl ?_; refine M_yes rfl rfl rfl ?_; refine M0 (q_moveC rfl rfl rfl) rfl rfl ?_; refine M_yes rfl rfl rfl ?_
          refine M0 (q_not rfl rfl rfl) rfl rfl ?_; refine M0 (q_pickF rfl rfl rfl rfl) rfl rfl ?_; refine M0 (q_moveC rfl rfl rfl) rfl rfl ?_; refine M_yes rfl rfl rfl ?_
          refine M0 (q_moveC rfl rfl rfl) rfl rfl ?_; refine M_yes rfl rfl rfl ?_; refine M0 (q_lenr rfl rfl rfl rfl) rfl rfl ?_; refine M_yes rfl rfl rfl ?_
          refine M0 (q_neqK rfl rfl rfl rfl (by assumption)) rfl rfl ?_; refine M0 (q_pickF rfl rfl rfl rfl) rfl rfl ?_; refine M0 (q_moveC rfl rfl rfl) rfl rfl ?_; refine M_yes rfl rfl rfl ?_
          refine M0 (q_moveC rfl rfl rfl) rfl rfl ?_; refine M_yes rfl rfl rfl ?_; refine M0 (q_ar rfl rfl rfl rfl rfl (by omega) (by omega)) rfl rfl ?_; refine M_yes rfl rfl rfl ?_
          refine M0 (q_le1 rfl rfl rfl rfl (by assumption) rfl) rfl rfl ?_; refine M_yes rfl rfl rfl ?_; refine M0 (q_call0 rfl rfl (c1) rfl) rfl rfl ?_; refine M_yes rfl rfl rfl ?_
          refine M0 (q_not rfl rfl rfl) rfl rfl ?_; refine M0 (q_pickF rfl rfl rfl rfl) rfl rfl ?_; refine M0 (q_moveC rfl rfl rfl) rfl rfl ?_; refine M_yes rfl rfl rfl ?_
          refine M0 (q_moveC rfl rfl rfl) rfl rfl ?_; refine M_yes rfl rfl rfl ?_; refine M0 (q_ar rfl rfl rfl rfl rfl (by omega) (by omega)) rfl rfl ?_; refine M_yes rfl rfl rfl ?_
          refine M0 (q_le1 rfl rfl rfl rfl (by assumption) rfl) rfl rfl ?_; refine M_yes rfl rfl rfl ?_; refine M0 (q_call0 rfl rfl (c2) rfl) rfl rfl ?_; refine M_yes rfl rfl rfl ?_
          refine M0 (q_not rfl rfl rfl) rfl rfl ?_; refine M0 (q_pickF rfl rfl rfl rfl) rfl rfl ?_; refine L_nil ?_; refine T_n ?_; refine A_ifF rfl ?_; refine A_skip ?_; refine T_n ?_; refine A_seq ?_
          refine A_draw [[], [], [], [2], [2, 3], [], [5], [5, 6], [0, 1, 2, 3, 4, 5, 6, 7], [0, 1, 2, 3, 4, 5, 6, 7, 8], [0, 1, 2, 3, 4, 5, 6, 7, 8, 9], [0, 1, 2, 3, 4, 5, 6, 7, 8, 9], [0, 1, 2, 3, 4, 5, 6, 7, 8, 9], [0, 1, 2, 3, 4, 5, 6, 7, 8, 9, 10], [0, 1, 2, 3, 4, 5, 6, 7, 8, 9, 10, 11, 13], [0, 1, 2, 3, 4, 5, 6, 7, 8, 9, 10, 11, 12, 13, 14]] [[], [], [], [53], [53, 54], [], [56], [56, 57], [51, 52, 53, 54, 55, 56, 57, 58], [51, 52, 53, 54, 55, 56, 57, 58, 59], [50, 51, 52, 53, 54, 55, 56, 57, 58, 59], [50, 51, 52, 53, 54, 55, 56, 57, 58, 59], [50, 51, 52, 53, 54, 55, 56, 57, 58, 59], [50, 51, 52, 53, 54, 55, 56, 57, 58, 59, 60], [10, 50, 51, 52, 53, 54, 55, 56, 57, 58, 59, 60, 61], [10, 11, 50, 51, 52, 53, 54, 55, 56, 57, 58, 59, 60, 61, 62]] [[52, 53, 54, 55, 56, 57, 58], [51, 53, 54, 55, 56, 57, 58], [51, 52, 56, 57, 58], [51, 52, 56, 57, 58], [51, 52, 56, 57, 58], [51, 52, 53, 54, 55], [51, 52, 53, 54, 55], [51, 52, 53, 54, 55], [], [], [61, 62], [10, 60, 62], [10, 11, 60, 61], [61, 62], [62], []] rfl ?_
          refine DR.step (q_moveC rfl rfl rfl) rfl rfl ?_; refine DR.step (q_moveC rfl rfl rfl) rfl rfl ?_; refine DR.step (q_moveC rfl rfl rfl) rfl rfl ?_
          refine DR.step (q_ar rfl rfl rfl rfl rfl (by omega) (by omega)) rfl rfl ?_; refine DR.step (q_le1 rfl rfl rfl rfl (by assumption) rfl) rfl rfl ?_
          refine DR.step (q_moveC rfl rfl rfl) rfl rfl ?_; refine DR.step (q_ar rfl rfl rfl rfl rfl (by omega) (by omega)) rfl rfl ?_
          refine DR.step (q_le1 rfl rfl rfl rfl (by assumption) rfl) rfl rfl ?_; refine DR.step (q_call rfl rfl (huc) rfl rfl rfl) rfl rfl ?_; refine DR.step (q_moveT rfl rfl rfl) rfl rfl ?_
          refine DR.step (q_ext rfl rfl rfl rfl) rfl rfl ?_; refine DR.step (q_ext rfl rfl rfl rfl) rfl rfl ?_; refine DR.step (q_ext rfl rfl rfl rfl) rfl rfl ?_
          refine DR.step (q_assignC rfl rfl rfl) rfl rfl ?_; refine DR.step (q_assignC rfl rfl rfl) rfl rfl ?_; refine DR.step (q_assignC rfl rfl rfl) rfl rfl ?_
          refine DR.stop (by kernel_rfl) (by kernel_rfl) ?_
          refine L_nil ?_; refine T_n ?_; refine A_seq ?_; refine A_seq ?_; refine A_region ?_; refine M0 (q_moveC rfl rfl rfl) rfl rfl ?_; refine M0 (q_not rfl rfl rfl) rfl rfl ?_
          refine M0 (q_moveC rfl rfl rfl) rfl rfl ?_; refine M_yes rfl rfl rfl ?_; refine M0 (q_moveC rfl rfl rfl) rfl rfl ?_; refine M_yes rfl rfl rfl ?_
          refine M0 (q_ar rfl rfl rfl rfl rfl (by omega) (by omega)) rfl rfl ?_; refine M_yes rfl rfl rfl ?_; refine M0 (q_le1 rfl rfl rfl rfl (by assumption) rfl) rfl rfl ?_
          refine M_yes rfl rfl rfl ?_; refine M0 (q_moveC rfl rfl rfl) rfl rfl ?_; refine M_yes rfl rfl rfl ?_; refine M0 (q_call0 rfl rfl (hes) rfl) rfl rfl ?_; refine M_yes rfl rfl rfl ?_
          refine M0 (q_moveC rfl rfl rfl) rfl rfl ?_; refine M_yes rfl rfl rfl ?_; refine M0 (q_sneqK rfl rfl rfl rfl (by assumption)) rfl rfl ?_; refine M0 (q_pickF rfl rfl rfl rfl) rfl rfl ?_
          refine L_nil ?_; refine T_n ?_; refine A_ifF rfl ?_; refine A_skip ?_; refine T_n ?_; refine A_seq ?_; refine A_region ?_; refine M0 (q_moveC rfl rfl rfl) rfl rfl ?_
          refine M0 (q_ar rfl rfl rfl rfl rfl (by omega) (by omega)) rfl rfl ?_; refine M0 (q_le1 rfl rfl rfl rfl (by assumption) rfl) rfl rfl ?_; refine M0 (q_moveC rfl rfl rfl) rfl rfl ?_
          refine M0 (q_assignC rfl rfl rfl) rfl rfl ?_; refine M0 (q_assignC rfl rfl rfl) rfl rfl ?_; refine M0 (q_assignC rfl rfl rfl) rfl rfl ?_; refine L_nil ?_; refine T_n ?_; refine A_ret ?_
          refine F_r ?_
          exact E_tmp3 rfl rfl rfl rfl (W_end [1] (by decide) rfl rfl rfl)
        · rw [hd, if_neg he]
          have hb3 : decide (encodeStream h0 rows ≠ t) = true := decide_eq_true he
          refine Con.of Try.func16 rfl Try.ntmps16 rfl (fun E => ?_)
          refine A_seq ?_; refine A_region ?_; refine M0 (q_assignC rfl rfl rfl) rfl rfl ?_; refine M0 (q_assignC rfl rfl rfl) rfl rfl ?_; refine M0 (q_assignC rfl rfl rfl) rfl rfl ?_; refine L_nil ?_
          refine T_n ?_; refine A_seq ?_; refine A_region ?_; refine M0 (q_moveC rfl rfl rfl) rfl rfl ?_; refine M1 (q_call rfl rfl (hot) rfl rfl rfl) rfl rfl ?_
          refine M0 (q_moveT rfl rfl rfl) rfl rfl ?_; refine M0 (q_ext rfl rfl rfl rfl) rfl rfl ?_; refine M0 (q_ext rfl rfl rfl rfl) rfl rfl ?_; refine M0 (q_assignC rfl rfl rfl) rfl rfl ?_
          refine M0 (q_assignC rfl rfl rfl) rfl rfl ?_; refine L_nil ?_; refine T_n ?_; refine A_seq ?_; refine A_region ?_; refine M0 (q_moveC rfl rfl rfl) rfl rfl ?_
          refine M1 (q_call rfl rfl (hui) rfl rfl rfl) rfl rfl ?_; refine M0 (q_moveT rfl rfl rfl) rfl rfl ?_; refine M0 (q_ext rfl rfl rfl rfl) rfl rfl ?_
          refine M0 (q_ext rfl rfl rfl rfl) rfl rfl ?_; refine M0 (q_ext rfl rfl rfl rfl) rfl rfl ?_; refine M0 (q_assignC rfl rfl rfl) rfl rfl ?_; refine M0 (q_assignC rfl rfl rfl) rfl rfl ?_
          refine M0 (q_assignC rfl rfl rfl) rfl rfl ?_; refine L_nil ?_; refine T_n ?_; refine A_seq ?_; refine A_seq ?_; refine A_region ?_; refine M0 (q_moveC rfl rfl rfl) rfl rfl ?_
          refine M0 (q_not rfl rfl rfl) rfl rfl ?_; refine M0 (q_moveC rfl rfl rfl) rfl rfl ?_; refine M_yes rfl rfl rfl ?_; refine M0 (q_moveC rfl rfl rfl) rfl rfl ?_; refine M_yes rfl rfl rfl ?_
          refine M0 (q_not rfl rfl rfl) rfl rfl ?_; refine M0 (q_pickF rfl rfl rfl rfl) rfl rfl ?_; refine M0 (q_moveC rfl rfl rfl) rfl rfl ?_; refine M_yes rfl rfl rfl ?_
          refine M0 (q_moveC rfl rfl rfl) rfl rfl ?_; refine M_yes rfl rfl rfl ?_; refine M0 (q_lenr rfl rfl rfl rfl) rfl rfl ?_; refine M_yes rfl rfl rfl ?_
          refine M0 (q_neqK rfl rfl rfl rfl (by assumption)) rfl rfl ?_; refine M0 (q_pickF rfl rfl rfl rfl) rfl rfl ?_; refine M0 (q_moveC rfl rfl rfl) rfl rfl ?_; refine M_yes rfl rfl rfl ?_
          refine M0 (q_moveC rfl rfl rfl) rfl rfl ?_; refine M_yes rfl rfl rfl ?_; refine M0 (q_ar rfl rfl rfl rfl rfl (by omega) (by omega)) rfl rfl ?_; refine M_yes rfl rfl rfl ?_
          refine M0 (q_le1 rfl rfl rfl rfl (by assumption) rfl) rfl rfl ?_; refine M_yes rfl rfl rfl ?_; refine M0 (q_call0 rfl rfl (c1) rfl) rfl rfl ?_; refine M_yes rfl rfl rfl ?_
          refine M0 (q_not rfl rfl rfl) rfl rfl ?_; refine M0 (q_pickF rfl rfl rfl rfl) rfl rfl ?_; refine M0 (q_moveC rfl rfl rfl) rfl rfl ?_; refine M_yes rfl rfl rfl ?_
          refine M0 (q_moveC rfl rfl rfl) rfl rfl ?_; refine M_yes rfl rfl rfl ?_; refine M0 (q_ar rfl rfl rfl rfl rfl (by omega) (by omega)) rfl rfl ?_; refine M_yes rfl rfl rfl ?_
          refine M0 (q_le1 rfl rfl rfl rfl (by assumption) rfl) rfl rfl ?_; refine M_yes rfl rfl rfl ?_; refine M0 (q_call0 rfl rfl (c2) rfl) rfl rfl ?_; refine M_yes rfl rfl rfl ?_
          refine M0 (q_not rfl rfl rfl) rfl rfl ?_; refine M0 (q_pickF rfl rfl rfl rfl) rfl rfl ?_; refine L_nil ?_; refine T_n ?_; refine A_ifF rfl ?_; refine A_skip ?_; refine T_n ?_; refine A_seq ?_
          refine A_draw [[], [], [], [2], [2, 3], [], [5], [5, 6], [0, 1, 2, 3, 4, 5, 6, 7], [0, 1, 2, 3, 4, 5, 6, 7, 8], [0, 1, 2, 3, 4, 5, 6, 7, 8, 9], [0, 1, 2, 3, 4, 5, 6, 7, 8, 9], [0, 1, 2, 3, 4, 5, 6, 7, 8, 9], [0, 1, 2, 3, 4, 5, 6, 7, 8, 9, 10], [0, 1, 2, 3, 4, 5, 6, 7, 8, 9, 10, 11, 13], [0, 1, 2, 3, 4, 5, 6, 7, 8, 9, 10, 11, 12, 13, 14]] [[], [], [], [53], [53, 54], [], [56], [56, 57], [51, 52, 53, 54, 55, 56, 57, 58], [51, 52, 53, 54, 55, 56, 57, 58, 59], [50, 51, 52, 53, 54, 55, 56, 57, 58, 59], [50, 51, 52, 53, 54, 55, 56, 57, 58, 59], [50, 51, 52, 53, 54, 55, 56, 57, 58, 59], [50, 51, 52, 53, 54, 55, 56, 57, 58, 59, 60], [10, 50, 51, 52, 53, 54, 55, 56, 57, 58, 59, 60, 61], [10, 11, 50, 51, 52, 53, 54, 55, 56, 57, 58, 59, 60, 61, 62]] [[52, 53, 54, 55, 56, 57, 58], [51, 53, 54, 55, 56, 57, 58], [51, 52, 56, 57, 58], [51, 52, 56, 57, 58], [51, 52, 56, 57, 58], [51, 52, 53, 54, 55], [51, 52, 53, 54, 55], [51, 52, 53, 54, 55], [], [], [61, 62], [10, 60, 62], [10, 11, 60, 61], [61, 62], [62], []] rfl ?_
          refine DR.step (q_moveC rfl rfl rfl) rfl rfl ?_; refine DR.step (q_moveC rfl rfl rfl) rfl rfl ?_; refine DR.step (q_moveC rfl rfl rfl) rfl rfl ?_
          refine DR.step (q_ar rfl rfl rfl rfl rfl (by omega) (by omega)) rfl rfl ?_; refine DR.step (q_le1 rfl rfl rfl rfl (by assumption) rfl) rfl rfl ?_
          refine DR.step (q_moveC rfl rfl rfl) rfl rfl ?_; refine DR.step (q_ar rfl rfl rfl rfl rfl (by omega) (by omega)) rfl rfl ?_
          refine DR.step (q_le1 rfl rfl rfl rfl (by assumption) rfl) rfl rfl ?_; refine DR.step (q_call rfl rfl (huc) rfl rfl rfl) rfl rfl ?_; refine DR.step (q_moveT rfl rfl rfl) rfl rfl ?_
          refine DR.step (q_ext rfl rfl rfl rfl) rfl rfl ?_; refine DR.step (q_ext rfl rfl rfl rfl) rfl rfl ?_; refine DR.step (q_ext rfl rfl rfl rfl) rfl rfl ?_
          refine DR.step (q_assignC rfl rfl rfl) rfl rfl ?_; refine DR.step (q_assignC rfl rfl rfl) rfl rfl ?_; refine DR.step (q_assignC rfl rfl rfl) rfl rfl ?_
          refine DR.stop (by kernel_rfl) (by kernel_rfl) ?_
          refine L_nil ?_; refine T_n ?_; refine A_seq ?_; refine A_seq ?_; refine A_region ?_; refine M0 (q_moveC rfl rfl rfl) rfl rfl ?_; refine M0 (q_not rfl rfl rfl) rfl rfl ?_
          refine M0 (q_moveC rfl rfl rfl) rfl rfl ?_; refine M_yes rfl rfl rfl ?_; refine M0 (q_moveC rfl rfl rfl) rfl rfl ?_; refine M_yes rfl rfl rfl ?_
          refine M0 (q_ar rfl rfl rfl rfl rfl (by omega) (by omega)) rfl rfl ?_; refine M_yes rfl rfl rfl ?_; refine M0 (q_le1 rfl rfl rfl rfl (by assumption) rfl) rfl rfl ?_
          refine M_yes rfl rfl rfl ?_; refine M0 (q_moveC rfl rfl rfl) rfl rfl ?_; refine M_yes rfl rfl rfl ?_; refine M0 (q_call0 rfl rfl (hes) rfl) rfl rfl ?_; refine M_yes rfl rfl rfl ?_
          refine M0 (q_moveC rfl rfl rfl) rfl rfl ?_; refine M_yes rfl rfl rfl ?_; refine M0 (q_sneqK rfl rfl rfl rfl (by assumption)) rfl rfl ?_; refine M0 (q_pickF rfl rfl rfl rfl) rfl rfl ?_
          refine L_nil ?_; refine T_n ?_; refine A_ifT rfl ?_; refine A_seq ?_; refine A_region ?_; refine M1 (q_bslice0 rfl rfl rfl) rfl rfl ?_; refine M0 (q_assignC rfl rfl rfl) rfl rfl ?_
          refine M0 (q_assignC rfl rfl rfl) rfl rfl ?_; refine M0 (q_assignC rfl rfl rfl) rfl rfl ?_; refine L_nil ?_; refine T_n ?_; refine A_ret ?_; refine T_r ?_; refine F_r ?_
          exact E_tmp3 rfl rfl rfl rfl (W_end [2] (by decide) rfl rfl rfl)
end Go.Proofs.Ytkfnaniegldfaaa
