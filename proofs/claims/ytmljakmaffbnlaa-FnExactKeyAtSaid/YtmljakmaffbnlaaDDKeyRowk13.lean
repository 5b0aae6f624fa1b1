/-
  KeyAt, in the program and in the reference.
  Conditions: a replay of at most 2^20 pieces.
  Marks of worlds and spectators. No statement of the program is proved here.
  Conditions: lists of at most 2^20 elements.
  The law FnExactKeyAt returns true.
  Conditions: none.
  The kit's readings of the laws' structs as Lean data. No statement of the program is proved here.
  Conditions: none.
-/
import Derived.Test.YtmljakmaffbnlaaDDKeyRowk8
import Derived.Test.YtmljakmaffbnlaaDDKeyRowk10
import Derived.Test.YtmljakmaffbnlaaDDKeyRowk12
section
set_option linter.unusedSimpArgs false
set_option linter.unusedVariables false
set_option maxRecDepth 8000
namespace Go.Proofs.Ytmljakmaffbnlaa
open Go.RowKit

/-- The text behind the first n keys. -/
def keyText (s : ByteArray) (keys : List ByteArray) : Nat → Option ByteArray
  | 0 => some s
  | n + 1 => match keyText s keys n with
    | none => none
    | some t => match keys[n]? with
      | none => none
      | some d => applyD t d
theorem keyText_none {s : ByteArray} {keys : List ByteArray} {i : Nat} (h : keyText s keys i = none) : ∀ {n : Nat},i ≤ n → keyText s keys n = none
  | 0,hn => by have : i = 0 := (by omega); subst this; exact h
  | n + 1,hn => by
    by_cases e : i = n + 1
    · subst e; exact h
    · rw [keyText,keyText_none h (by omega)]
theorem keyText_step {s t d : ByteArray} {keys : List ByteArray} {n : Nat} (h : keyText s keys n = some t) (hk : keys[n]? = some d) : keyText s keys (n + 1) = applyD t d := by rw [keyText,h]; simp only [hk]
theorem keyText_len {s : ByteArray} {keys : List ByteArray} (hs : s.size ≤ 20000) : ∀ {n : Nat} {t : ByteArray},keyText s keys n = some t → t.size ≤ 20000
  | 0,t,h => by cases h; exact hs
  | n + 1,t,h => by
    rw [keyText] at h
    split at h
    · cases h
    · split at h
      · cases h
      · exact applyD_len h
structure ROk (r : TReplay) : Prop where
  l : levelOk r.Level = true
  p : 1 ≤ r.Players ∧ r.Players ≤ 4
  s : inR r.Seed 0 65535 = true
  e : 1 ≤ r.Every ∧ r.Every ≤ 100
  k : r.Keys.length ≤ 400
theorem rok {r : TReplay} (h : replayOk r = true) : ROk r := by
  unfold replayOk at h
  simp only [Bool.and_eq_true,decide_eq_true_eq,inR_iff] at h
  obtain ⟨⟨⟨⟨⟨⟨h1,h2⟩,h3⟩,h4⟩,h5⟩,h6⟩,h7⟩ := h
  refine ⟨h1,h2,inR_iff.2 h3,h4,?_⟩
  have : (r.Rows.length : Int) / r.Every ≤ r.Rows.length := Int.ediv_le_self _ (by omega)
  omega
noncomputable def keyWorld (r : TReplay) (k : Nat) : Option TWorld := match keyText (worldBytes (newWorld r.Level r.Players.toNat r.Seed)) r.Keys k with
  | none => none
  | some s => match readWorld r.Level s with
    | none => none
    | some w => if w.Tick = (k : Int) * r.Every ∧ (w.Scores.length : Int) = r.Players then some w else none
noncomputable def keyAt (r : TReplay) (k : Int) : Option TWorld := if replayOk r = true ∧ -1 ≤ k ∧ k < r.Keys.length then (if k < 0 then some (newWorld r.Level r.Players.toNat r.Seed) else keyWorld r (k + 1).toNat) else none
theorem keyWorld_0 (r : TReplay) (hl : levelOk r.Level = true) (hp : 1 ≤ r.Players ∧ r.Players ≤ 4) (hs : inR r.Seed 0 65535 = true) : keyWorld r 0 = some (newWorld r.Level r.Players.toNat r.Seed) := by
  rw [keyWorld,keyText]
  simp only [newWorld_back hl (n := r.Players.toNat) (by omega) hs]
  rw [if_pos]
  constructor
  · show (0 : Int) = ((0 : Nat) : Int) * r.Every; simp
  · simp only [newWorld,List.length_replicate]; omega
theorem bytes_len (w : TWorld) : (worldBytes w).size ≤ 20000 := by
  unfold worldBytes
  split
  · rename_i h
    have hw := worldOk_spec h
    have h1 := packInts_size (worldInts w)
    have h2 := flat_length w.Bodies
    have h3 : (worldInts w).length = 3 + w.Scores.length + 9 * w.Bodies.length := by
      simp only [worldInts,List.length_append,List.length_cons,List.length_nil]; omega
    have h4 := hw.2.2.2.1
    have h5 := hw.2.2.2.2.2.1
    omega
  · decide
theorem keyAt_bad {r : TReplay} {k : Int} (h : ¬ (replayOk r = true ∧ -1 ≤ k ∧ k < r.Keys.length)) : keyAt r k = none := if_neg h
theorem keyAt_neg {r : TReplay} {k : Int} (h : replayOk r = true ∧ -1 ≤ k ∧ k < r.Keys.length) (hk : k < 0) : keyAt r k = some (newWorld r.Level r.Players.toNat r.Seed) := by rw [keyAt,if_pos h,if_pos hk]
theorem keyAt_pos {r : TReplay} {k : Int} (h : replayOk r = true ∧ -1 ≤ k ∧ k < r.Keys.length) (hk : ¬ k < 0) : keyAt r k = keyWorld r (k + 1).toNat := by rw [keyAt,if_pos h,if_neg hk]
theorem keyAt_all {r : TReplay} {k : Int} (h : replayOk r = true ∧ -1 ≤ k ∧ k < r.Keys.length) : keyAt r k = keyWorld r (k + 1).toNat := by
  by_cases hk : k < 0
  · have hr := rok h.1
    rw [keyAt_neg h hk,show (k + 1).toNat = 0 by omega,keyWorld_0 r hr.l hr.p hr.s]
  · exact keyAt_pos h hk
section
variable {r : TReplay} {n : Nat} {s : ByteArray} {w : TWorld}
theorem keyWorld_none1 (h : keyText (worldBytes (newWorld r.Level r.Players.toNat r.Seed)) r.Keys n = none) : keyWorld r n = none := by rw [keyWorld,h]
variable (h : keyText (worldBytes (newWorld r.Level r.Players.toNat r.Seed)) r.Keys n = some s)
include h
theorem keyWorld_none2 (h2 : readWorld r.Level s = none) : keyWorld r n = none := by rw [keyWorld,h]; simp only [h2]
theorem keyWorld_no (h2 : readWorld r.Level s = some w) (hn : ¬ (w.Tick = (n : Int) * r.Every ∧ (w.Scores.length : Int) = r.Players)) : keyWorld r n = none := by rw [keyWorld,h]; simp only [h2]; rw [if_neg hn]
theorem keyWorld_yes (h2 : readWorld r.Level s = some w) (hn : w.Tick = (n : Int) * r.Every ∧ (w.Scores.length : Int) = r.Players) : keyWorld r n = some w := by rw [keyWorld,h]; simp only [h2]; rw [if_pos hn]
end
theorem keyAt_in {r : TReplay} {k : Int} (hr : RepIn r) : WorIn (rwW (keyAt r k)) := by
  by_cases hv : replayOk r = true ∧ -1 ≤ k ∧ k < r.Keys.length
  · rw [keyAt_all hv]
    cases ht : keyText (worldBytes (newWorld r.Level r.Players.toNat r.Seed)) r.Keys (k + 1).toNat with
    | none => rw [keyWorld_none1 ht]; exact wor_zero
    | some s =>
      have hl := keyText_len (bytes_len _) ht
      cases hw : readWorld r.Level s with
      | none => rw [keyWorld_none2 ht hw]; exact wor_zero
      | some w =>
        by_cases hc : w.Tick = ((k + 1).toNat : Int) * r.Every ∧ (w.Scores.length : Int) = r.Players
        · have := read_in (lv := r.Level) (s := s) hr.gd.1 hr.h1 (by omega)
          rw [hw] at this
          rw [keyWorld_yes ht hw hc]
          exact this
        · rw [keyWorld_no ht hw hc]; exact wor_zero
  · rw [keyAt_bad hv]; exact wor_zero
theorem key_mul {k e : Int} (h0 : 0 ≤ k) (h1 : k ≤ 400) (h2 : 1 ≤ e) (h3 : e ≤ 100) : 0 ≤ k * e ∧ k * e ≤ 40000 := ⟨Int.mul_nonneg h0 (by omega),by
  have := Int.mul_le_mul h1 h3 (by omega) (by omega)
  omega⟩
set_option maxHeartbeats 8000000 in
theorem I_KeyAt (r : TReplay) (k : Int) (hg : Enc.gd r) (hk : I64 k) (ir : RepIn r) (hks : ∀ x ∈ r.Keys,x.size ≤ 1048576) : Con Try.prog 9 [] [ag r,ai k] (ownO (Enc.e (rwW (keyAt r k)))) (.tu [.ag (ownV 0 (Enc.e (rwW (keyAt r k)))),.c (bv (rwB (keyAt r k)))]) := by
  have cr := I_ReplayOk r hg
  have hlk := els_len r.Keys
  obtain ⟨hk1,hk2⟩ := hk
  have hL := ir.h1
  refine Con.of Try.func9 rfl Try.ntmps9 rfl (fun E => ?_)
  refine A_seq (A_region ?_);refine M1 (q_boxN rfl rfl rfl rfl) rfl rfl ?_;refine M1 (q_alloc rfl rfl rfl) rfl rfl ?_;refine M0 (q_assignC rfl rfl rfl) rfl rfl ?_;refine L_nil ?_
  refine T_n (A_seq (A_seq (A_region ?_)));refine M0 (q_ldN rfl rfl rfl rfl rfl rfl) rfl rfl ?_;refine M0 (q_call0 rfl rfl (cr) rfl) rfl rfl ?_
  refine M0 (q_not rfl rfl rfl) rfl rfl ?_;refine M0 (q_moveC rfl rfl rfl) rfl rfl ?_;refine M0 (Qt.grdF rfl rfl rfl .stop (fun hgrd => q_moveC rfl rfl rfl)) rfl rfl ?_
  refine M0 (Qt.grdF rfl rfl rfl (.hit .stop) (fun hgrd => q_lss rfl rfl rfl rfl)) rfl rfl ?_;refine M0 (q_or rfl rfl rfl rfl) rfl rfl ?_;refine M0 (q_moveC rfl rfl rfl) rfl rfl ?_
  refine M0 (Qt.grdF rfl rfl rfl .stop (fun hgrd => q_moveC rfl rfl rfl)) rfl rfl ?_
  refine M0 (Qt.grdF rfl rfl rfl (.hit .stop) (fun hgrd => q_fldp rfl rfl rfl rfl (by decide))) rfl rfl ?_
  refine M0 (Qt.grdF rfl rfl rfl (.hit (.hit .stop)) (fun hgrd => q_ld1 rfl rfl rfl rfl rfl)) rfl rfl ?_
  refine M0 (Qt.grdF rfl rfl rfl (.hit (.hit (.hit .stop))) (fun hgrd => q_len rfl rfl rfl)) rfl rfl ?_
  refine M0 (Qt.grdF rfl rfl rfl (.hit (.hit (.hit (.hit .stop)))) (fun hgrd => q_geq rfl rfl rfl rfl)) rfl rfl ?_;refine M0 (q_or rfl rfl rfl rfl) rfl rfl ?_;refine L_nil ?_
  refine T_n ?_
  refine A_cond rfl (fun h => ?_) (fun h => ?_)
  · rw [keyAt_bad (fun ⟨q1,q2,q3⟩ => by rw [q1] at h; simp at h; omega)]
    refine A_seq (A_region ?_);refine M0 (q_build rfl rfl rfl rfl rfl) rfl rfl ?_;refine M_stN rfl rfl rfl rfl rfl rfl rfl rfl rfl ?_;refine M0 (q_assignC rfl rfl rfl) rfl rfl ?_
    refine L_nil (T_n (A_ret (T_r (F_r ?_))))
    exact E_cellt rfl rfl rfl rfl rfl (W_fill [1,1,9] [2,3,4] rfl rfl (by decide) rfl rfl rfl)
  simp only [Bool.or_eq_false_iff,Bool.not_eq_false',decide_eq_false_iff_not] at h
  have hv : replayOk r = true ∧ -1 ≤ k ∧ k < r.Keys.length := ⟨h.1.1,by omega,by omega⟩
  have hr := rok hv.1
  obtain ⟨hp1,hp2⟩ := hr.p
  have hnw := I_NewWorld r.Level r.Players.toNat r.Seed hg.1 hL hr.l (by omega) hr.s
  rw [show ((r.Players.toNat : Nat) : Int) = r.Players by omega] at hnw
  have hgn := newWorld_gd (n := r.Players.toNat) hg.1 hr.l (by omega) hr.s
  have hwb := I_WorldBytes _ hgn
  have hbl := bytes_len (newWorld r.Level r.Players.toNat r.Seed)
  refine AWP.pre (st' := (⟨_,[(1,I k),(2,.o (.c (.ptr 0 0))),(4,.o (.c (.ptr 1 0)))],[.box ((Enc.e r).map (V1.rd [])),.box [nilV,jn 0,jn 0,nilV,nilV]]⟩ : St)) ?_ (W_go [0,1] (by decide) rfl (rfl) (.cons rfl (.cons rfl (.cons rfl (.nil)))))
  by_cases hk0 : k < 0
  · have e0 : decide (k < 0) = true := decide_eq_true hk0
    rw [keyAt_neg hv hk0]
    refine A_skip (T_n (A_seq (A_region ?_)));refine M0 (q_fldp rfl rfl rfl rfl (by decide)) rfl rfl ?_;refine M0 (q_ldN rfl rfl rfl rfl rfl rfl) rfl rfl ?_
    refine M0 (q_fldp rfl rfl rfl rfl (by decide)) rfl rfl ?_;refine M0 (q_ld1 rfl rfl rfl rfl rfl) rfl rfl ?_;refine M0 (q_fldp rfl rfl rfl rfl (by decide)) rfl rfl ?_
    refine M0 (q_ld1 rfl rfl rfl rfl rfl) rfl rfl ?_;refine M1 (q_call rfl rfl (hnw) rfl rfl rfl) rfl rfl ?_;refine M0 (q_moveT rfl rfl rfl) rfl rfl ?_
    refine M0 (q_ext rfl rfl rfl rfl) rfl rfl ?_;refine M0 (q_ext rfl rfl rfl rfl) rfl rfl ?_;refine M1 (q_alloc rfl rfl rfl) rfl rfl ?_
    refine M_stN rfl rfl rfl rfl rfl rfl rfl rfl rfl ?_;refine M0 (q_assignC rfl rfl rfl) rfl rfl ?_;refine L_nil (T_n (A_seq (A_seq (A_region ?_))))
    refine M0 (q_moveC rfl rfl rfl) rfl rfl ?_;refine M0 (q_not rfl rfl rfl) rfl rfl ?_;refine M0 (q_moveC rfl rfl rfl) rfl rfl ?_;refine M_yes rfl rfl rfl ?_
    refine M0 (q_moveC rfl rfl rfl) rfl rfl ?_;refine M_yes rfl rfl rfl ?_;refine M0 (q_lssK rfl rfl rfl rfl (by assumption)) rfl rfl ?_;refine M0 (q_pickF rfl rfl rfl rfl) rfl rfl ?_
    refine L_nil (T_n ?_);refine A_ifT rfl ?_;refine A_seq (A_region ?_);refine M0 (q_ldN rfl rfl rfl rfl rfl rfl) rfl rfl ?_;refine M0 (q_moveC rfl rfl rfl) rfl rfl ?_
    refine M_stN rfl rfl rfl rfl rfl rfl rfl rfl rfl ?_;refine M0 (q_assignC rfl rfl rfl) rfl rfl ?_;refine L_nil (T_n (A_ret (T_r (F_r ?_))))
    exact E_cellt rfl rfl rfl rfl rfl (W_end [2,3,4] (by decide) rfl rfl rfl)
  have e0 : decide (k < 0) = false := decide_eq_false hk0
  rw [keyAt_pos hv hk0]
  obtain ⟨s0,hs0⟩ : ∃ s0,s0 = worldBytes (newWorld r.Level r.Players.toNat r.Seed) := ⟨_,rfl⟩
  rw [← hs0] at hwb hbl
  obtain ⟨K,hK⟩ : ∃ K : Nat,k + 1 = K := ⟨(k + 1).toNat,by omega⟩
  have hKl : K ≤ r.Keys.length := by omega
  have htl : ((els r.Keys).take (k + 1).toNat).length = K := by rw [List.length_take]; omega
  have hkk := hr.k
  rw [show (k + 1).toNat = K by omega]
  refine A_skip (T_n (A_seq (A_region ?_)));refine M0 (q_fldp rfl rfl rfl rfl (by decide)) rfl rfl ?_;refine M0 (q_ldN rfl rfl rfl rfl rfl rfl) rfl rfl ?_
  refine M0 (q_fldp rfl rfl rfl rfl (by decide)) rfl rfl ?_;refine M0 (q_ld1 rfl rfl rfl rfl rfl) rfl rfl ?_;refine M0 (q_fldp rfl rfl rfl rfl (by decide)) rfl rfl ?_
  refine M0 (q_ld1 rfl rfl rfl rfl rfl) rfl rfl ?_;refine M1 (q_call rfl rfl (hnw) rfl rfl rfl) rfl rfl ?_;refine M0 (q_moveT rfl rfl rfl) rfl rfl ?_
  refine M0 (q_ext rfl rfl rfl rfl) rfl rfl ?_;refine M0 (q_ext rfl rfl rfl rfl) rfl rfl ?_;refine M1 (q_alloc rfl rfl rfl) rfl rfl ?_
  refine M_stN rfl rfl rfl rfl rfl rfl rfl rfl rfl ?_;refine M0 (q_assignC rfl rfl rfl) rfl rfl ?_;refine L_nil (T_n (A_seq (A_seq (A_region ?_))))
  refine M0 (q_moveC rfl rfl rfl) rfl rfl ?_;refine M0 (q_not rfl rfl rfl) rfl rfl ?_;refine M0 (q_moveC rfl rfl rfl) rfl rfl ?_;refine M_yes rfl rfl rfl ?_
  refine M0 (q_moveC rfl rfl rfl) rfl rfl ?_;refine M_yes rfl rfl rfl ?_;refine M0 (q_lssK rfl rfl rfl rfl (by assumption)) rfl rfl ?_;refine M0 (q_pickF rfl rfl rfl rfl) rfl rfl ?_
  refine L_nil (T_n ?_);refine A_ifF rfl ?_;refine A_skip (T_n (A_seq (A_region ?_)));refine M0 (q_ldN rfl rfl rfl rfl rfl rfl) rfl rfl ?_
  refine M0 (q_call0 rfl rfl (hwb) rfl) rfl rfl ?_;refine M0 (q_assignC rfl rfl rfl) rfl rfl ?_;refine L_nil (T_n (A_seq (A_seq (A_region ?_))))
  refine M0 (q_fldp rfl rfl rfl rfl (by decide)) rfl rfl ?_;refine M0 (q_ld1 rfl rfl rfl rfl rfl) rfl rfl ?_;refine M0 (q_moveC rfl rfl rfl) rfl rfl ?_
  refine M0 (q_add rfl rfl rfl rfl (by omega)) rfl rfl ?_;refine M0 (q_part0 rfl rfl rfl rfl rfl (by omega)) rfl rfl ?_;refine M0 (q_len rfl rfl rfl) rfl rfl ?_
  refine M0 (q_moveC rfl rfl rfl) rfl rfl ?_;refine L_nil (T_n (A_block ?_))
  refine A_loop (fun m st => ∃ (i : Nat) (t : ByteArray),i + m = K ∧ (keyText s0 r.Keys i = some t) ∧ st = (fun (i : Nat) (t : ByteArray) => (⟨_,[(1,I k),(2,.o (.c (.ptr 0 0))),(4,.o (.c (.ptr 1 0))),(8,S t),(53,.o (.c (.rd [] (.sl 1 ((els r.Keys).take (k + 1).toNat))))),(54,I K),(55,I i)],[.box ((Enc.e r).map (V1.rd [])),.box [nilV,jn 0,jn 0,nilV,nilV]]⟩ : St)) i t) (K) ⟨(fun (i : Nat) (t : ByteArray) => (⟨_,[(1,I k),(2,.o (.c (.ptr 0 0))),(4,.o (.c (.ptr 1 0))),(8,S t),(53,.o (.c (.rd [] (.sl 1 ((els r.Keys).take (k + 1).toNat))))),(54,I K),(55,I i)],[.box ((Enc.e r).map (V1.rd [])),.box [nilV,jn 0,jn 0,nilV,nilV]]⟩ : St)) 0 (s0),W_go [0,1] (by decide) rfl (rfl) (.cons rfl (.cons rfl (.cons rfl (.cons rfl (.cons rfl (.cons (I_eq (by rw [htl])) (.cons rfl (.nil)))))))),0,s0,by omega,rfl,rfl⟩ ?_
  rintro m_A _ ⟨i,t,hk_A,hp_A,rfl⟩
  have htz := keyText_len hbl hp_A
  refine A_seq (A_region ?_);refine M0 (q_lss rfl rfl rfl rfl) rfl rfl ?_;refine L_nil (T_n (A_seq ?_))
  refine A_cond rfl (fun h3 => ?_) (fun h3 => ?_)
  · have h3 : i < K := by have := of_decide_eq_true h3; omega
    have hil : i < r.Keys.length := by omega
    have hki := List.getElem?_eq_getElem hil
    have hat : ((els r.Keys).take (k + 1).toNat)[(i : Int).toNat]? = some (Enc.e (r.Keys[i])) := by
      rw [List.getElem?_take,if_pos (by omega)]
      exact els_at hil
    have hdz := hks _ (List.getElem_mem hil)
    generalize r.Keys[i] = d at hki hat hdz
    have hap := I_ApplyDelta t d (by omega) (by omega)
    have hst := keyText_step hp_A hki
    cases hx : applyD t d with
    | none =>
      rw [hx] at hap hst
      rw [keyWorld_none1 (by rw [← hs0]; exact keyText_none hst (by omega))]
      refine A_skip (T_n (A_seq (A_block (A_seq (A_region ?_)))));refine M0 (q_at rfl rfl rfl rfl (by omega) (by assumption) rfl) rfl rfl ?_
      refine M0 (q_lr1 rfl rfl rfl rfl) rfl rfl ?_;refine M0 (q_assignC rfl rfl rfl) rfl rfl ?_;refine L_nil (T_n (A_seq (A_region ?_)))
      refine M0 (q_moveC rfl rfl rfl) rfl rfl ?_;refine M0 (q_moveC rfl rfl rfl) rfl rfl ?_;refine M1 (q_call rfl rfl (hap) rfl rfl rfl) rfl rfl ?_
      refine M0 (q_moveT rfl rfl rfl) rfl rfl ?_;refine M0 (q_ext rfl rfl rfl rfl) rfl rfl ?_;refine M0 (q_ext rfl rfl rfl rfl) rfl rfl ?_;refine M0 (q_assignC rfl rfl rfl) rfl rfl ?_
      refine M0 (q_assignC rfl rfl rfl) rfl rfl ?_;refine L_nil (T_n (A_seq (A_seq (A_region ?_))));refine M0 (q_moveC rfl rfl rfl) rfl rfl ?_
      refine M0 (q_not rfl rfl rfl) rfl rfl ?_;refine L_nil (T_n ?_);refine A_ifT rfl ?_;refine A_seq (A_region ?_);refine M0 (q_build rfl rfl rfl rfl rfl) rfl rfl ?_
      refine M_stN rfl rfl rfl rfl rfl rfl rfl rfl rfl ?_;refine M0 (q_assignC rfl rfl rfl) rfl rfl ?_;refine L_nil (T_n (A_ret (T_r (B_r (T_r ?_)))))
      refine T_r (B_r (T_r (F_r ?_)))
      exact E_cellt rfl rfl rfl rfl rfl (W_fill [1,1,9] [2,3,4] rfl rfl (by decide) rfl rfl rfl)
    | some t' =>
      rw [hx] at hap hst
      refine A_skip (T_n (A_seq (A_block (A_seq (A_region ?_)))));refine M0 (q_at rfl rfl rfl rfl (by omega) (by assumption) rfl) rfl rfl ?_
      refine M0 (q_lr1 rfl rfl rfl rfl) rfl rfl ?_;refine M0 (q_assignC rfl rfl rfl) rfl rfl ?_;refine L_nil (T_n (A_seq (A_region ?_)))
      refine M0 (q_moveC rfl rfl rfl) rfl rfl ?_;refine M0 (q_moveC rfl rfl rfl) rfl rfl ?_;refine M1 (q_call rfl rfl (hap) rfl rfl rfl) rfl rfl ?_
      refine M0 (q_moveT rfl rfl rfl) rfl rfl ?_;refine M0 (q_ext rfl rfl rfl rfl) rfl rfl ?_;refine M0 (q_ext rfl rfl rfl rfl) rfl rfl ?_;refine M0 (q_assignC rfl rfl rfl) rfl rfl ?_
      refine M0 (q_assignC rfl rfl rfl) rfl rfl ?_;refine L_nil (T_n (A_seq (A_seq (A_region ?_))));refine M0 (q_moveC rfl rfl rfl) rfl rfl ?_
      refine M0 (q_not rfl rfl rfl) rfl rfl ?_;refine L_nil (T_n ?_);refine A_ifF rfl ?_;refine A_skip (T_n (A_region ?_));refine M0 (q_moveC rfl rfl rfl) rfl rfl ?_
      refine M0 (q_assignC rfl rfl rfl) rfl rfl ?_;refine L_nil (B_n (T_n (A_region ?_)));refine M0 (q_add rfl rfl rfl rfl (by omega)) rfl rfl ?_
      refine M0 (q_moveC rfl rfl rfl) rfl rfl ?_;refine L_nil (T_n ?_)
      exact ⟨K - (i + 1),by omega,(fun (i : Nat) (t : ByteArray) => (⟨_,[(1,I k),(2,.o (.c (.ptr 0 0))),(4,.o (.c (.ptr 1 0))),(8,S t),(53,.o (.c (.rd [] (.sl 1 ((els r.Keys).take (k + 1).toNat))))),(54,I K),(55,I i)],[.box ((Enc.e r).map (V1.rd [])),.box [nilV,jn 0,jn 0,nilV,nilV]]⟩ : St)) (i + 1) (t'),W_go [0,1] (by decide) rfl (rfl) (.cons rfl (.cons rfl (.cons rfl (.cons rfl (.cons rfl (.cons rfl (.cons rfl (.nil)))))))),i + 1,t',by omega,hst,rfl⟩
  have h3 : i = K := by have := of_decide_eq_false h3; omega
  subst h3
  have hrw := I_ReadWorld r.Level t hg.1 hL (by omega)
  have hkt : keyText (worldBytes (newWorld r.Level r.Players.toNat r.Seed)) r.Keys i = some t := by rw [← hs0]; exact hp_A
  have hmul := key_mul (k := k + 1) (e := r.Every) (by omega) (by omega) hr.e.1 hr.e.2
  cases hw : readWorld r.Level t with
  | none =>
    rw [hw] at hrw
    rw [keyWorld_none2 hkt hw]
    refine A_exit (T_x (T_x (B_xs (T_n (A_seq (A_region ?_))))));refine M0 (q_fldp rfl rfl rfl rfl (by decide)) rfl rfl ?_
    refine M0 (q_ldN rfl rfl rfl rfl rfl rfl) rfl rfl ?_;refine M0 (q_moveC rfl rfl rfl) rfl rfl ?_;refine M1 (q_call rfl rfl (hrw) rfl rfl rfl) rfl rfl ?_
    refine M0 (q_moveT rfl rfl rfl) rfl rfl ?_;refine M0 (q_ext rfl rfl rfl rfl) rfl rfl ?_;refine M0 (q_ext rfl rfl rfl rfl) rfl rfl ?_;refine M1 (q_alloc rfl rfl rfl) rfl rfl ?_
    refine M_stN rfl rfl rfl rfl rfl rfl rfl rfl rfl ?_;refine M0 (q_assignC rfl rfl rfl) rfl rfl ?_;refine L_nil (T_n (A_seq (A_seq (A_region ?_))))
    refine M0 (q_moveC rfl rfl rfl) rfl rfl ?_;refine M0 (q_not rfl rfl rfl) rfl rfl ?_;refine M0 (q_moveC rfl rfl rfl) rfl rfl ?_;refine M_no rfl rfl rfl rfl rfl rfl ?_
    refine M_no rfl rfl rfl rfl rfl rfl ?_;refine M_no rfl rfl rfl rfl rfl rfl ?_;refine M_no rfl rfl rfl rfl rfl rfl ?_;refine M_no rfl rfl rfl rfl rfl rfl ?_
    refine M_no rfl rfl rfl rfl rfl rfl ?_;refine M_no rfl rfl rfl rfl rfl rfl ?_;refine M_no rfl rfl rfl rfl rfl rfl ?_;refine M0 (q_pickT rfl rfl rfl rfl) rfl rfl ?_
    refine M0 (q_moveC rfl rfl rfl) rfl rfl ?_;refine M_no rfl rfl rfl rfl rfl rfl ?_;refine M_no rfl rfl rfl rfl rfl rfl ?_;refine M_no rfl rfl rfl rfl rfl rfl ?_
    refine M_no rfl rfl rfl rfl rfl rfl ?_;refine M_no rfl rfl rfl rfl rfl rfl ?_;refine M_no rfl rfl rfl rfl rfl rfl ?_;refine M0 (q_pickT rfl rfl rfl rfl) rfl rfl ?_;refine L_nil ?_
    refine T_n ?_;refine A_ifT rfl ?_;refine A_seq (A_region ?_);refine M0 (q_build rfl rfl rfl rfl rfl) rfl rfl ?_;refine M_stN rfl rfl rfl rfl rfl rfl rfl rfl rfl ?_
    refine M0 (q_assignC rfl rfl rfl) rfl rfl ?_;refine L_nil (T_n (A_ret (T_r (F_r ?_))))
    exact E_cellt rfl rfl rfl rfl rfl (W_fill [1,1,9] [6,7,8] rfl rfl (by decide) rfl rfl rfl)
  | some w =>
    rw [hw] at hrw
    have hls := els_len w.Scores
    by_cases c1 : w.Tick = (k + 1) * r.Every
    · have e1 : decide (w.Tick ≠ (k + 1) * r.Every) = false := decide_eq_false (fun q => q c1)
      by_cases c2 : (w.Scores.length : Int) = r.Players
      · have e2 : decide (((els w.Scores).length : Int) ≠ r.Players) = false := decide_eq_false (by rw [hls]; exact fun q => q c2)
        rw [keyWorld_yes hkt hw ⟨by rw [← hK]; exact c1,c2⟩]
        refine A_exit (T_x (T_x (B_xs (T_n (A_seq (A_region ?_))))));refine M0 (q_fldp rfl rfl rfl rfl (by decide)) rfl rfl ?_
        refine M0 (q_ldN rfl rfl rfl rfl rfl rfl) rfl rfl ?_;refine M0 (q_moveC rfl rfl rfl) rfl rfl ?_;refine M1 (q_call rfl rfl (hrw) rfl rfl rfl) rfl rfl ?_
        refine M0 (q_moveT rfl rfl rfl) rfl rfl ?_;refine M0 (q_ext rfl rfl rfl rfl) rfl rfl ?_;refine M0 (q_ext rfl rfl rfl rfl) rfl rfl ?_;refine M1 (q_alloc rfl rfl rfl) rfl rfl ?_
        refine M_stN rfl rfl rfl rfl rfl rfl rfl rfl rfl ?_;refine M0 (q_assignC rfl rfl rfl) rfl rfl ?_;refine L_nil (T_n (A_seq (A_seq (A_region ?_))))
        refine M0 (q_moveC rfl rfl rfl) rfl rfl ?_;refine M0 (q_not rfl rfl rfl) rfl rfl ?_;refine M0 (q_moveC rfl rfl rfl) rfl rfl ?_;refine M_yes rfl rfl rfl ?_
        refine M0 (q_fldp rfl rfl rfl rfl (by decide)) rfl rfl ?_;refine M_yes rfl rfl rfl ?_;refine M0 (q_ld1 rfl rfl rfl rfl rfl) rfl rfl ?_;refine M_yes rfl rfl rfl ?_
        refine M0 (q_moveC rfl rfl rfl) rfl rfl ?_;refine M_yes rfl rfl rfl ?_;refine M0 (q_add rfl rfl rfl rfl (by omega)) rfl rfl ?_;refine M_yes rfl rfl rfl ?_
        refine M0 (q_fldp rfl rfl rfl rfl (by decide)) rfl rfl ?_;refine M_yes rfl rfl rfl ?_;refine M0 (q_ld1 rfl rfl rfl rfl rfl) rfl rfl ?_;refine M_yes rfl rfl rfl ?_
        refine M0 (q_mul rfl rfl rfl rfl (by omega)) rfl rfl ?_;refine M_yes rfl rfl rfl ?_;refine M0 (q_neqK rfl rfl rfl rfl (by assumption)) rfl rfl ?_
        refine M0 (q_pickF rfl rfl rfl rfl) rfl rfl ?_;refine M0 (q_moveC rfl rfl rfl) rfl rfl ?_;refine M_yes rfl rfl rfl ?_;refine M0 (q_fldp rfl rfl rfl rfl (by decide)) rfl rfl ?_
        refine M_yes rfl rfl rfl ?_;refine M0 (q_ld1 rfl rfl rfl rfl rfl) rfl rfl ?_;refine M_yes rfl rfl rfl ?_;refine M0 (q_lenr rfl rfl rfl rfl) rfl rfl ?_;refine M_yes rfl rfl rfl ?_
        refine M0 (q_fldp rfl rfl rfl rfl (by decide)) rfl rfl ?_;refine M_yes rfl rfl rfl ?_;refine M0 (q_ld1 rfl rfl rfl rfl rfl) rfl rfl ?_;refine M_yes rfl rfl rfl ?_
        refine M0 (q_neqK rfl rfl rfl rfl (by assumption)) rfl rfl ?_;refine M0 (q_pickF rfl rfl rfl rfl) rfl rfl ?_;refine L_nil (T_n ?_);refine A_ifF rfl ?_;refine A_skip ?_
        refine T_n (A_seq (A_region ?_));refine M0 (q_ldN rfl rfl rfl rfl rfl rfl) rfl rfl ?_;refine M_stN rfl rfl rfl rfl rfl rfl rfl rfl rfl ?_
        refine M0 (q_assignC rfl rfl rfl) rfl rfl ?_;refine L_nil (T_n (A_ret (F_r ?_)))
        exact E_cellt rfl rfl rfl rfl rfl (W_end [2,3,4] (by decide) rfl rfl rfl)
      · have e2 : decide (((els w.Scores).length : Int) ≠ r.Players) = true := decide_eq_true (by rw [hls]; exact c2)
        rw [keyWorld_no hkt hw (fun q => c2 q.2)]
        refine A_exit (T_x (T_x (B_xs (T_n (A_seq (A_region ?_))))));refine M0 (q_fldp rfl rfl rfl rfl (by decide)) rfl rfl ?_
        refine M0 (q_ldN rfl rfl rfl rfl rfl rfl) rfl rfl ?_;refine M0 (q_moveC rfl rfl rfl) rfl rfl ?_;refine M1 (q_call rfl rfl (hrw) rfl rfl rfl) rfl rfl ?_
        refine M0 (q_moveT rfl rfl rfl) rfl rfl ?_;refine M0 (q_ext rfl rfl rfl rfl) rfl rfl ?_;refine M0 (q_ext rfl rfl rfl rfl) rfl rfl ?_;refine M1 (q_alloc rfl rfl rfl) rfl rfl ?_
        refine M_stN rfl rfl rfl rfl rfl rfl rfl rfl rfl ?_;refine M0 (q_assignC rfl rfl rfl) rfl rfl ?_;refine L_nil (T_n (A_seq (A_seq (A_region ?_))))
        refine M0 (q_moveC rfl rfl rfl) rfl rfl ?_;refine M0 (q_not rfl rfl rfl) rfl rfl ?_;refine M0 (q_moveC rfl rfl rfl) rfl rfl ?_;refine M_yes rfl rfl rfl ?_
        refine M0 (q_fldp rfl rfl rfl rfl (by decide)) rfl rfl ?_;refine M_yes rfl rfl rfl ?_;refine M0 (q_ld1 rfl rfl rfl rfl rfl) rfl rfl ?_;refine M_yes rfl rfl rfl ?_
        refine M0 (q_moveC rfl rfl rfl) rfl rfl ?_;refine M_yes rfl rfl rfl ?_;refine M0 (q_add rfl rfl rfl rfl (by omega)) rfl rfl ?_;refine M_yes rfl rfl rfl ?_
        refine M0 (q_fldp rfl rfl rfl rfl (by decide)) rfl rfl ?_;refine M_yes rfl rfl rfl ?_;refine M0 (q_ld1 rfl rfl rfl rfl rfl) rfl rfl ?_;refine M_yes rfl rfl rfl ?_
        refine M0 (q_mul rfl rfl rfl rfl (by omega)) rfl rfl ?_;refine M_yes rfl rfl rfl ?_;refine M0 (q_neqK rfl rfl rfl rfl (by assumption)) rfl rfl ?_
        refine M0 (q_pickF rfl rfl rfl rfl) rfl rfl ?_;refine M0 (q_moveC rfl rfl rfl) rfl rfl ?_;refine M_yes rfl rfl rfl ?_;refine M0 (q_fldp rfl rfl rfl rfl (by decide)) rfl rfl ?_
        refine M_yes rfl rfl rfl ?_;refine M0 (q_ld1 rfl rfl rfl rfl rfl) rfl rfl ?_;refine M_yes rfl rfl rfl ?_;refine M0 (q_lenr rfl rfl rfl rfl) rfl rfl ?_;refine M_yes rfl rfl rfl ?_
        refine M0 (q_fldp rfl rfl rfl rfl (by decide)) rfl rfl ?_;refine M_yes rfl rfl rfl ?_;refine M0 (q_ld1 rfl rfl rfl rfl rfl) rfl rfl ?_;refine M_yes rfl rfl rfl ?_
        refine M0 (q_neqK rfl rfl rfl rfl (by assumption)) rfl rfl ?_;refine M0 (q_pickF rfl rfl rfl rfl) rfl rfl ?_;refine L_nil (T_n ?_);refine A_ifT rfl ?_;refine A_seq ?_
        refine A_region ?_;refine M0 (q_build rfl rfl rfl rfl rfl) rfl rfl ?_;refine M_stN rfl rfl rfl rfl rfl rfl rfl rfl rfl ?_;refine M0 (q_assignC rfl rfl rfl) rfl rfl ?_;refine L_nil ?_
        refine T_n (A_ret (T_r (F_r ?_)))
        exact E_cellt rfl rfl rfl rfl rfl (W_fill [1,1,9] [6,7,8] rfl rfl (by decide) rfl rfl rfl)
    · have e1 : decide (w.Tick ≠ (k + 1) * r.Every) = true := decide_eq_true c1
      rw [keyWorld_no hkt hw (fun q => c1 (by rw [hK]; exact q.1))]
      refine A_exit (T_x (T_x (B_xs (T_n (A_seq (A_region ?_))))));refine M0 (q_fldp rfl rfl rfl rfl (by decide)) rfl rfl ?_
      refine M0 (q_ldN rfl rfl rfl rfl rfl rfl) rfl rfl ?_;refine M0 (q_moveC rfl rfl rfl) rfl rfl ?_;refine M1 (q_call rfl rfl (hrw) rfl rfl rfl) rfl rfl ?_
      refine M0 (q_moveT rfl rfl rfl) rfl rfl ?_;refine M0 (q_ext rfl rfl rfl rfl) rfl rfl ?_;refine M0 (q_ext rfl rfl rfl rfl) rfl rfl ?_;refine M1 (q_alloc rfl rfl rfl) rfl rfl ?_
      refine M_stN rfl rfl rfl rfl rfl rfl rfl rfl rfl ?_;refine M0 (q_assignC rfl rfl rfl) rfl rfl ?_;refine L_nil (T_n (A_seq (A_seq (A_region ?_))))
      refine M0 (q_moveC rfl rfl rfl) rfl rfl ?_;refine M0 (q_not rfl rfl rfl) rfl rfl ?_;refine M0 (q_moveC rfl rfl rfl) rfl rfl ?_;refine M_yes rfl rfl rfl ?_
      refine M0 (q_fldp rfl rfl rfl rfl (by decide)) rfl rfl ?_;refine M_yes rfl rfl rfl ?_;refine M0 (q_ld1 rfl rfl rfl rfl rfl) rfl rfl ?_;refine M_yes rfl rfl rfl ?_
      refine M0 (q_moveC rfl rfl rfl) rfl rfl ?_;refine M_yes rfl rfl rfl ?_;refine M0 (q_add rfl rfl rfl rfl (by omega)) rfl rfl ?_;refine M_yes rfl rfl rfl ?_
      refine M0 (q_fldp rfl rfl rfl rfl (by decide)) rfl rfl ?_;refine M_yes rfl rfl rfl ?_;refine M0 (q_ld1 rfl rfl rfl rfl rfl) rfl rfl ?_;refine M_yes rfl rfl rfl ?_
      refine M0 (q_mul rfl rfl rfl rfl (by omega)) rfl rfl ?_;refine M_yes rfl rfl rfl ?_;refine M0 (q_neqK rfl rfl rfl rfl (by assumption)) rfl rfl ?_
      refine M0 (q_pickF rfl rfl rfl rfl) rfl rfl ?_;refine M0 (q_moveC rfl rfl rfl) rfl rfl ?_;refine M_no rfl rfl rfl rfl rfl rfl ?_;refine M_no rfl rfl rfl rfl rfl rfl ?_
      refine M_no rfl rfl rfl rfl rfl rfl ?_;refine M_no rfl rfl rfl rfl rfl rfl ?_;refine M_no rfl rfl rfl rfl rfl rfl ?_;refine M_no rfl rfl rfl rfl rfl rfl ?_
      refine M0 (q_pickT rfl rfl rfl rfl) rfl rfl ?_;refine L_nil (T_n ?_);refine A_ifT rfl ?_;refine A_seq (A_region ?_);refine M0 (q_build rfl rfl rfl rfl rfl) rfl rfl ?_
      refine M_stN rfl rfl rfl rfl rfl rfl rfl rfl rfl ?_;refine M0 (q_assignC rfl rfl rfl) rfl rfl ?_;refine L_nil (T_n (A_ret (T_r (F_r ?_))))
      exact E_cellt rfl rfl rfl rfl rfl (W_fill [1,1,9] [6,7,8] rfl rfl (by decide) rfl rfl rfl)
set_option maxHeartbeats 8000000 in
theorem S_KeyAt (r : TReplay) (k : Int) (hg : Enc.gd r) (hk : I64 k) (ir : RepIn r) (hks : ∀ x ∈ r.Keys,x.size ≤ 1048576) : Con Try.prog 7 [] [ag r,ai k] (ownO (Enc.e (rwW (keyAt r k)))) (.tu [.ag (ownV 0 (Enc.e (rwW (keyAt r k)))),.c (bv (rwB (keyAt r k)))]) := by
  have cr := S_ReplayOk r hg
  have hlk := els_len r.Keys
  have hgk := ir.h2
  obtain ⟨hk1,hk2⟩ := hk
  have hL := ir.h1
  have ci := S_in k (-1) (((els r.Keys).length : Int) - 1)
  refine Con.of Try.func7 rfl Try.ntmps7 rfl (fun E => ?_)
  refine A_seq (A_region ?_);refine M1 (q_boxN rfl rfl rfl rfl) rfl rfl ?_;refine M1 (q_alloc rfl rfl rfl) rfl rfl ?_;refine M0 (q_assignC rfl rfl rfl) rfl rfl ?_;refine L_nil ?_
  refine T_n (A_seq (A_seq (A_region ?_)));refine M0 (q_ldN rfl rfl rfl rfl rfl rfl) rfl rfl ?_;refine M0 (q_call0 rfl rfl (cr) rfl) rfl rfl ?_
  refine M0 (q_not rfl rfl rfl) rfl rfl ?_;refine M0 (q_moveC rfl rfl rfl) rfl rfl ?_;refine M0 (Qt.grdF rfl rfl rfl .stop (fun hgrd => q_moveC rfl rfl rfl)) rfl rfl ?_
  refine M0 (Qt.grdF rfl rfl rfl (.hit .stop) (fun hgrd => q_fldp rfl rfl rfl rfl (by decide))) rfl rfl ?_
  refine M0 (Qt.grdF rfl rfl rfl (.hit (.hit .stop)) (fun hgrd => q_ld1 rfl rfl rfl rfl rfl)) rfl rfl ?_
  refine M0 (Qt.grdF rfl rfl rfl (.hit (.hit (.hit .stop))) (fun hgrd => q_len rfl rfl rfl)) rfl rfl ?_
  refine M0 (Qt.grdF rfl rfl rfl (.hit (.hit (.hit (.hit .stop)))) (fun hgrd => q_sub rfl rfl rfl rfl (by omega))) rfl rfl ?_
  refine M0 (Qt.grdF rfl rfl rfl (.hit (.hit (.hit (.hit (.hit .stop))))) (fun hgrd => q_call0 rfl rfl (ci) rfl)) rfl rfl ?_
  refine M0 (Qt.grdF rfl rfl rfl (.hit (.hit (.hit (.hit (.hit (.hit .stop)))))) (fun hgrd => q_not rfl rfl rfl)) rfl rfl ?_;refine M0 (q_or rfl rfl rfl rfl) rfl rfl ?_;refine L_nil ?_
  refine T_n ?_
  refine A_cond rfl (fun h => ?_) (fun h => ?_)
  · rw [keyAt_bad (fun ⟨q1,q2,q3⟩ => by rw [q1,inR_iff.2 (by omega)] at h; exact absurd h (by decide))]
    refine A_seq (A_region ?_);refine M0 (q_build rfl rfl rfl rfl rfl) rfl rfl ?_;refine M_stN rfl rfl rfl rfl rfl rfl rfl rfl rfl ?_;refine M0 (q_assignC rfl rfl rfl) rfl rfl ?_
    refine L_nil (T_n (A_ret (T_r (F_r ?_))))
    exact E_cellt rfl rfl rfl rfl rfl (W_fill [1,1,9] [2,3,4] rfl rfl (by decide) rfl rfl rfl)
  simp only [Bool.or_eq_false_iff,Bool.not_eq_false',inR_iff] at h
  have hv : replayOk r = true ∧ -1 ≤ k ∧ k < r.Keys.length := ⟨h.1,by omega,by omega⟩
  have hr := rok hv.1
  obtain ⟨hp1,hp2⟩ := hr.p
  have hnw := S_NewWorld r.Level r.Players.toNat r.Seed hg.1 hL hr.l (by omega) hr.s
  rw [show ((r.Players.toNat : Nat) : Int) = r.Players by omega] at hnw
  have hgn := newWorld_gd (n := r.Players.toNat) hg.1 hr.l (by omega) hr.s
  have hwb := S_WorldBytes _ hgn
  have hbl := bytes_len (newWorld r.Level r.Players.toNat r.Seed)
  refine AWP.pre (st' := (⟨_,[(1,I k),(2,.o (.c (.ptr 0 0))),(4,.o (.c (.ptr 1 0)))],[.box ((Enc.e r).map (V1.rd [])),.box [nilV,jn 0,jn 0,nilV,nilV]]⟩ : St)) ?_ (W_go [0,1] (by decide) rfl (rfl) (.cons rfl (.cons rfl (.cons rfl (.nil)))))
  rw [keyAt_all hv]
  obtain ⟨s0,hs0⟩ : ∃ s0,s0 = worldBytes (newWorld r.Level r.Players.toNat r.Seed) := ⟨_,rfl⟩
  rw [← hs0] at hwb hbl
  obtain ⟨K,hK⟩ : ∃ K : Nat,k + 1 = K := ⟨(k + 1).toNat,by omega⟩
  have hKl : K ≤ r.Keys.length := by omega
  have hkk := hr.k
  rw [show (k + 1).toNat = K by omega]
  refine A_skip (T_n (A_seq (A_region ?_)));refine M0 (q_fldp rfl rfl rfl rfl (by decide)) rfl rfl ?_;refine M0 (q_ldN rfl rfl rfl rfl rfl rfl) rfl rfl ?_
  refine M0 (q_fldp rfl rfl rfl rfl (by decide)) rfl rfl ?_;refine M0 (q_ld1 rfl rfl rfl rfl rfl) rfl rfl ?_;refine M0 (q_fldp rfl rfl rfl rfl (by decide)) rfl rfl ?_
  refine M0 (q_ld1 rfl rfl rfl rfl rfl) rfl rfl ?_;refine M1 (q_call rfl rfl (hnw) rfl rfl rfl) rfl rfl ?_;refine M0 (q_moveT rfl rfl rfl) rfl rfl ?_
  refine M0 (q_ext rfl rfl rfl rfl) rfl rfl ?_;refine M0 (q_ext rfl rfl rfl rfl) rfl rfl ?_;refine M1 (q_alloc rfl rfl rfl) rfl rfl ?_
  refine M_stN rfl rfl rfl rfl rfl rfl rfl rfl rfl ?_;refine M0 (q_assignC rfl rfl rfl) rfl rfl ?_;refine L_nil (T_n (A_seq (A_region ?_)))
  refine M0 (q_ldN rfl rfl rfl rfl rfl rfl) rfl rfl ?_;refine M0 (q_call0 rfl rfl (hwb) rfl) rfl rfl ?_;refine M0 (q_assignC rfl rfl rfl) rfl rfl ?_;refine L_nil (T_n ?_)
  refine A_seq (A_seq (A_region ?_));refine M0 (q_assignC rfl rfl rfl) rfl rfl ?_;refine L_nil (T_n (A_block ?_))
  refine A_loop (fun m st => ∃ (i : Nat) (t : ByteArray),i + m = K ∧ (keyText s0 r.Keys i = some t) ∧ st = (fun (i : Nat) (t : ByteArray) => (⟨_,[(1,I k),(2,.o (.c (.ptr 0 0))),(4,.o (.c (.ptr 1 0))),(8,S t),(9,I i)],[.box ((Enc.e r).map (V1.rd [])),.box [nilV,jn 0,jn 0,nilV,nilV]]⟩ : St)) i t) (K) ⟨(fun (i : Nat) (t : ByteArray) => (⟨_,[(1,I k),(2,.o (.c (.ptr 0 0))),(4,.o (.c (.ptr 1 0))),(8,S t),(9,I i)],[.box ((Enc.e r).map (V1.rd [])),.box [nilV,jn 0,jn 0,nilV,nilV]]⟩ : St)) 0 (s0),W_go [0,1] (by decide) rfl (rfl) (.cons rfl (.cons rfl (.cons rfl (.cons rfl (.cons rfl (.nil)))))),0,s0,by omega,rfl,rfl⟩ ?_
  rintro m_A _ ⟨i,t,hk_A,hp_A,rfl⟩
  have htz := keyText_len hbl hp_A
  refine A_seq (A_seq (A_region ?_));refine M0 (q_moveC rfl rfl rfl) rfl rfl ?_;refine M0 (q_moveC rfl rfl rfl) rfl rfl ?_;refine M0 (q_leq rfl rfl rfl rfl) rfl rfl ?_
  refine L_nil (T_n ?_)
  refine A_cond rfl (fun h3 => ?_) (fun h3 => ?_)
  · have h3 : i < K := by have := of_decide_eq_true h3; omega
    have hil : i < r.Keys.length := by omega
    have hki := List.getElem?_eq_getElem hil
    have hat := els_at hil
    have hdz := hks _ (List.getElem_mem hil)
    generalize r.Keys[i] = d at hki hat hdz
    have hap := S_ApplyDelta t d (by omega) (by omega)
    have hst := keyText_step hp_A hki
    cases hx : applyD t d with
    | none =>
      rw [hx] at hap hst
      rw [keyWorld_none1 (by rw [← hs0]; exact keyText_none hst (by omega))]
      refine A_skip (T_n (A_seq (A_block (A_seq (A_region ?_)))));refine M0 (q_moveC rfl rfl rfl) rfl rfl ?_
      refine M0 (q_fldp rfl rfl rfl rfl (by decide)) rfl rfl ?_;refine M0 (q_ld1 rfl rfl rfl rfl rfl) rfl rfl ?_;refine M0 (q_moveC rfl rfl rfl) rfl rfl ?_
      refine M0 (q_at rfl rfl rfl rfl (by omega) (by assumption) rfl) rfl rfl ?_;refine M0 (q_lr1 rfl rfl rfl rfl) rfl rfl ?_;refine M1 (q_call rfl rfl (hap) rfl rfl rfl) rfl rfl ?_
      refine M0 (q_moveT rfl rfl rfl) rfl rfl ?_;refine M0 (q_ext rfl rfl rfl rfl) rfl rfl ?_;refine M0 (q_ext rfl rfl rfl rfl) rfl rfl ?_;refine M0 (q_assignC rfl rfl rfl) rfl rfl ?_
      refine M0 (q_assignC rfl rfl rfl) rfl rfl ?_;refine L_nil (T_n (A_seq (A_seq (A_region ?_))));refine M0 (q_moveC rfl rfl rfl) rfl rfl ?_
      refine M0 (q_not rfl rfl rfl) rfl rfl ?_;refine L_nil (T_n ?_);refine A_ifT rfl ?_;refine A_seq (A_region ?_);refine M0 (q_build rfl rfl rfl rfl rfl) rfl rfl ?_
      refine M_stN rfl rfl rfl rfl rfl rfl rfl rfl rfl ?_;refine M0 (q_assignC rfl rfl rfl) rfl rfl ?_;refine L_nil (T_n (A_ret (T_r (B_r (T_r ?_)))))
      refine T_r (B_r (T_r (F_r ?_)))
      exact E_cellt rfl rfl rfl rfl rfl (W_fill [1,1,9] [2,3,4] rfl rfl (by decide) rfl rfl rfl)
    | some t' =>
      rw [hx] at hap hst
      refine A_skip (T_n (A_seq (A_block (A_seq (A_region ?_)))));refine M0 (q_moveC rfl rfl rfl) rfl rfl ?_
      refine M0 (q_fldp rfl rfl rfl rfl (by decide)) rfl rfl ?_;refine M0 (q_ld1 rfl rfl rfl rfl rfl) rfl rfl ?_;refine M0 (q_moveC rfl rfl rfl) rfl rfl ?_
      refine M0 (q_at rfl rfl rfl rfl (by omega) (by assumption) rfl) rfl rfl ?_;refine M0 (q_lr1 rfl rfl rfl rfl) rfl rfl ?_;refine M1 (q_call rfl rfl (hap) rfl rfl rfl) rfl rfl ?_
      refine M0 (q_moveT rfl rfl rfl) rfl rfl ?_;refine M0 (q_ext rfl rfl rfl rfl) rfl rfl ?_;refine M0 (q_ext rfl rfl rfl rfl) rfl rfl ?_;refine M0 (q_assignC rfl rfl rfl) rfl rfl ?_
      refine M0 (q_assignC rfl rfl rfl) rfl rfl ?_;refine L_nil (T_n (A_seq (A_seq (A_region ?_))));refine M0 (q_moveC rfl rfl rfl) rfl rfl ?_
      refine M0 (q_not rfl rfl rfl) rfl rfl ?_;refine L_nil (T_n ?_);refine A_ifF rfl ?_;refine A_skip (T_n (A_region ?_));refine M0 (q_moveC rfl rfl rfl) rfl rfl ?_
      refine M0 (q_assignC rfl rfl rfl) rfl rfl ?_;refine L_nil (B_n (T_n (A_region ?_)));refine M0 (q_moveC rfl rfl rfl) rfl rfl ?_
      refine M0 (q_add rfl rfl rfl rfl (by omega)) rfl rfl ?_;refine M0 (q_assignC rfl rfl rfl) rfl rfl ?_;refine L_nil (T_n ?_)
      exact ⟨K - (i + 1),by omega,(fun (i : Nat) (t : ByteArray) => (⟨_,[(1,I k),(2,.o (.c (.ptr 0 0))),(4,.o (.c (.ptr 1 0))),(8,S t),(9,I i)],[.box ((Enc.e r).map (V1.rd [])),.box [nilV,jn 0,jn 0,nilV,nilV]]⟩ : St)) (i + 1) (t'),W_go [0,1] (by decide) rfl (rfl) (.cons rfl (.cons rfl (.cons rfl (.cons rfl (.cons rfl (.nil)))))),i + 1,t',by omega,hst,rfl⟩
  have h3 : i = K := by have := of_decide_eq_false h3; omega
  subst h3
  have hrw := S_ReadWorld r.Level t hg.1 hL (by omega)
  have hkt : keyText (worldBytes (newWorld r.Level r.Players.toNat r.Seed)) r.Keys i = some t := by rw [← hs0]; exact hp_A
  have hmul := key_mul (k := k + 1) (e := r.Every) (by omega) (by omega) hr.e.1 hr.e.2
  cases hw : readWorld r.Level t with
  | none =>
    rw [hw] at hrw
    rw [keyWorld_none2 hkt hw]
    refine A_exit (T_x (T_x (B_xs (T_n (A_seq (A_region ?_))))));refine M0 (q_fldp rfl rfl rfl rfl (by decide)) rfl rfl ?_
    refine M0 (q_ldN rfl rfl rfl rfl rfl rfl) rfl rfl ?_;refine M0 (q_moveC rfl rfl rfl) rfl rfl ?_;refine M1 (q_call rfl rfl (hrw) rfl rfl rfl) rfl rfl ?_
    refine M0 (q_moveT rfl rfl rfl) rfl rfl ?_;refine M0 (q_ext rfl rfl rfl rfl) rfl rfl ?_;refine M0 (q_ext rfl rfl rfl rfl) rfl rfl ?_;refine M1 (q_alloc rfl rfl rfl) rfl rfl ?_
    refine M_stN rfl rfl rfl rfl rfl rfl rfl rfl rfl ?_;refine M0 (q_assignC rfl rfl rfl) rfl rfl ?_;refine L_nil (T_n (A_seq (A_seq (A_region ?_))))
    refine M0 (q_moveC rfl rfl rfl) rfl rfl ?_;refine M0 (q_not rfl rfl rfl) rfl rfl ?_;refine M0 (q_moveC rfl rfl rfl) rfl rfl ?_;refine M_no rfl rfl rfl rfl rfl rfl ?_
    refine M_no rfl rfl rfl rfl rfl rfl ?_;refine M_no rfl rfl rfl rfl rfl rfl ?_;refine M_no rfl rfl rfl rfl rfl rfl ?_;refine M_no rfl rfl rfl rfl rfl rfl ?_
    refine M_no rfl rfl rfl rfl rfl rfl ?_;refine M_no rfl rfl rfl rfl rfl rfl ?_;refine M_no rfl rfl rfl rfl rfl rfl ?_;refine M0 (q_pickT rfl rfl rfl rfl) rfl rfl ?_
    refine M0 (q_moveC rfl rfl rfl) rfl rfl ?_;refine M_no rfl rfl rfl rfl rfl rfl ?_;refine M_no rfl rfl rfl rfl rfl rfl ?_;refine M_no rfl rfl rfl rfl rfl rfl ?_
    refine M_no rfl rfl rfl rfl rfl rfl ?_;refine M_no rfl rfl rfl rfl rfl rfl ?_;refine M_no rfl rfl rfl rfl rfl rfl ?_;refine M0 (q_pickT rfl rfl rfl rfl) rfl rfl ?_;refine L_nil ?_
    refine T_n ?_;refine A_ifT rfl ?_;refine A_seq (A_region ?_);refine M0 (q_build rfl rfl rfl rfl rfl) rfl rfl ?_;refine M_stN rfl rfl rfl rfl rfl rfl rfl rfl rfl ?_
    refine M0 (q_assignC rfl rfl rfl) rfl rfl ?_;refine L_nil (T_n (A_ret (T_r (F_r ?_))))
    exact E_cellt rfl rfl rfl rfl rfl (W_fill [1,1,9] [6,7,8] rfl rfl (by decide) rfl rfl rfl)
  | some w =>
    rw [hw] at hrw
    have hls := els_len w.Scores
    by_cases c1 : w.Tick = (k + 1) * r.Every
    · have e1 : decide (w.Tick ≠ (k + 1) * r.Every) = false := decide_eq_false (fun q => q c1)
      by_cases c2 : (w.Scores.length : Int) = r.Players
      · have e2 : decide (((els w.Scores).length : Int) ≠ r.Players) = false := decide_eq_false (by rw [hls]; exact fun q => q c2)
        rw [keyWorld_yes hkt hw ⟨by rw [← hK]; exact c1,c2⟩]
        refine A_exit (T_x (T_x (B_xs (T_n (A_seq (A_region ?_))))));refine M0 (q_fldp rfl rfl rfl rfl (by decide)) rfl rfl ?_
        refine M0 (q_ldN rfl rfl rfl rfl rfl rfl) rfl rfl ?_;refine M0 (q_moveC rfl rfl rfl) rfl rfl ?_;refine M1 (q_call rfl rfl (hrw) rfl rfl rfl) rfl rfl ?_
        refine M0 (q_moveT rfl rfl rfl) rfl rfl ?_;refine M0 (q_ext rfl rfl rfl rfl) rfl rfl ?_;refine M0 (q_ext rfl rfl rfl rfl) rfl rfl ?_;refine M1 (q_alloc rfl rfl rfl) rfl rfl ?_
        refine M_stN rfl rfl rfl rfl rfl rfl rfl rfl rfl ?_;refine M0 (q_assignC rfl rfl rfl) rfl rfl ?_;refine L_nil (T_n (A_seq (A_seq (A_region ?_))))
        refine M0 (q_moveC rfl rfl rfl) rfl rfl ?_;refine M0 (q_not rfl rfl rfl) rfl rfl ?_;refine M0 (q_moveC rfl rfl rfl) rfl rfl ?_;refine M_yes rfl rfl rfl ?_
        refine M0 (q_fldp rfl rfl rfl rfl (by decide)) rfl rfl ?_;refine M_yes rfl rfl rfl ?_;refine M0 (q_ld1 rfl rfl rfl rfl rfl) rfl rfl ?_;refine M_yes rfl rfl rfl ?_
        refine M0 (q_moveC rfl rfl rfl) rfl rfl ?_;refine M_yes rfl rfl rfl ?_;refine M0 (q_add rfl rfl rfl rfl (by omega)) rfl rfl ?_;refine M_yes rfl rfl rfl ?_
        refine M0 (q_fldp rfl rfl rfl rfl (by decide)) rfl rfl ?_;refine M_yes rfl rfl rfl ?_;refine M0 (q_ld1 rfl rfl rfl rfl rfl) rfl rfl ?_;refine M_yes rfl rfl rfl ?_
        refine M0 (q_mul rfl rfl rfl rfl (by omega)) rfl rfl ?_;refine M_yes rfl rfl rfl ?_;refine M0 (q_neqK rfl rfl rfl rfl (by assumption)) rfl rfl ?_
        refine M0 (q_pickF rfl rfl rfl rfl) rfl rfl ?_;refine M0 (q_moveC rfl rfl rfl) rfl rfl ?_;refine M_yes rfl rfl rfl ?_;refine M0 (q_fldp rfl rfl rfl rfl (by decide)) rfl rfl ?_
        refine M_yes rfl rfl rfl ?_;refine M0 (q_ld1 rfl rfl rfl rfl rfl) rfl rfl ?_;refine M_yes rfl rfl rfl ?_;refine M0 (q_lenr rfl rfl rfl rfl) rfl rfl ?_;refine M_yes rfl rfl rfl ?_
        refine M0 (q_fldp rfl rfl rfl rfl (by decide)) rfl rfl ?_;refine M_yes rfl rfl rfl ?_;refine M0 (q_ld1 rfl rfl rfl rfl rfl) rfl rfl ?_;refine M_yes rfl rfl rfl ?_
        refine M0 (q_neqK rfl rfl rfl rfl (by assumption)) rfl rfl ?_;refine M0 (q_pickF rfl rfl rfl rfl) rfl rfl ?_;refine L_nil (T_n ?_);refine A_ifF rfl ?_;refine A_skip ?_
        refine T_n (A_seq (A_region ?_));refine M0 (q_ldN rfl rfl rfl rfl rfl rfl) rfl rfl ?_;refine M_stN rfl rfl rfl rfl rfl rfl rfl rfl rfl ?_
        refine M0 (q_assignC rfl rfl rfl) rfl rfl ?_;refine L_nil (T_n (A_ret (F_r ?_)))
        exact E_cellt rfl rfl rfl rfl rfl (W_end [2,3,4] (by decide) rfl rfl rfl)
      · have e2 : decide (((els w.Scores).length : Int) ≠ r.Players) = true := decide_eq_true (by rw [hls]; exact c2)
        rw [keyWorld_no hkt hw (fun q => c2 q.2)]
        refine A_exit (T_x (T_x (B_xs (T_n (A_seq (A_region ?_))))));refine M0 (q_fldp rfl rfl rfl rfl (by decide)) rfl rfl ?_
        refine M0 (q_ldN rfl rfl rfl rfl rfl rfl) rfl rfl ?_;refine M0 (q_moveC rfl rfl rfl) rfl rfl ?_;refine M1 (q_call rfl rfl (hrw) rfl rfl rfl) rfl rfl ?_
        refine M0 (q_moveT rfl rfl rfl) rfl rfl ?_;refine M0 (q_ext rfl rfl rfl rfl) rfl rfl ?_;refine M0 (q_ext rfl rfl rfl rfl) rfl rfl ?_;refine M1 (q_alloc rfl rfl rfl) rfl rfl ?_
        refine M_stN rfl rfl rfl rfl rfl rfl rfl rfl rfl ?_;refine M0 (q_assignC rfl rfl rfl) rfl rfl ?_;refine L_nil (T_n (A_seq (A_seq (A_region ?_))))
        refine M0 (q_moveC rfl rfl rfl) rfl rfl ?_;refine M0 (q_not rfl rfl rfl) rfl rfl ?_;refine M0 (q_moveC rfl rfl rfl) rfl rfl ?_;refine M_yes rfl rfl rfl ?_
        refine M0 (q_fldp rfl rfl rfl rfl (by decide)) rfl rfl ?_;refine M_yes rfl rfl rfl ?_;refine M0 (q_ld1 rfl rfl rfl rfl rfl) rfl rfl ?_;refine M_yes rfl rfl rfl ?_
        refine M0 (q_moveC rfl rfl rfl) rfl rfl ?_;refine M_yes rfl rfl rfl ?_;refine M0 (q_add rfl rfl rfl rfl (by omega)) rfl rfl ?_;refine M_yes rfl rfl rfl ?_
        refine M0 (q_fldp rfl rfl rfl rfl (by decide)) rfl rfl ?_;refine M_yes rfl rfl rfl ?_;refine M0 (q_ld1 rfl rfl rfl rfl rfl) rfl rfl ?_;refine M_yes rfl rfl rfl ?_
        refine M0 (q_mul rfl rfl rfl rfl (by omega)) rfl rfl ?_;refine M_yes rfl rfl rfl ?_;refine M0 (q_neqK rfl rfl rfl rfl (by assumption)) rfl rfl ?_
        refine M0 (q_pickF rfl rfl rfl rfl) rfl rfl ?_;refine M0 (q_moveC rfl rfl rfl) rfl rfl ?_;refine M_yes rfl rfl rfl ?_;refine M0 (q_fldp rfl rfl rfl rfl (by decide)) rfl rfl ?_
        refine M_yes rfl rfl rfl ?_;refine M0 (q_ld1 rfl rfl rfl rfl rfl) rfl rfl ?_;refine M_yes rfl rfl rfl ?_;refine M0 (q_lenr rfl rfl rfl rfl) rfl rfl ?_;refine M_yes rfl rfl rfl ?_
        refine M0 (q_fldp rfl rfl rfl rfl (by decide)) rfl rfl ?_;refine M_yes rfl rfl rfl ?_;refine M0 (q_ld1 rfl rfl rfl rfl rfl) rfl rfl ?_;refine M_yes rfl rfl rfl ?_
        refine M0 (q_neqK rfl rfl rfl rfl (by assumption)) rfl rfl ?_;refine M0 (q_pickF rfl rfl rfl rfl) rfl rfl ?_;refine L_nil (T_n ?_);refine A_ifT rfl ?_;refine A_seq ?_
        refine A_region ?_;refine M0 (q_build rfl rfl rfl rfl rfl) rfl rfl ?_;refine M_stN rfl rfl rfl rfl rfl rfl rfl rfl rfl ?_;refine M0 (q_assignC rfl rfl rfl) rfl rfl ?_;refine L_nil ?_
        refine T_n (A_ret (T_r (F_r ?_)))
        exact E_cellt rfl rfl rfl rfl rfl (W_fill [1,1,9] [6,7,8] rfl rfl (by decide) rfl rfl rfl)
    · have e1 : decide (w.Tick ≠ (k + 1) * r.Every) = true := decide_eq_true c1
      rw [keyWorld_no hkt hw (fun q => c1 (by rw [hK]; exact q.1))]
      refine A_exit (T_x (T_x (B_xs (T_n (A_seq (A_region ?_))))));refine M0 (q_fldp rfl rfl rfl rfl (by decide)) rfl rfl ?_
      refine M0 (q_ldN rfl rfl rfl rfl rfl rfl) rfl rfl ?_;refine M0 (q_moveC rfl rfl rfl) rfl rfl ?_;refine M1 (q_call rfl rfl (hrw) rfl rfl rfl) rfl rfl ?_
      refine M0 (q_moveT rfl rfl rfl) rfl rfl ?_;refine M0 (q_ext rfl rfl rfl rfl) rfl rfl ?_;refine M0 (q_ext rfl rfl rfl rfl) rfl rfl ?_;refine M1 (q_alloc rfl rfl rfl) rfl rfl ?_
      refine M_stN rfl rfl rfl rfl rfl rfl rfl rfl rfl ?_;refine M0 (q_assignC rfl rfl rfl) rfl rfl ?_;refine L_nil (T_n (A_seq (A_seq (A_region ?_))))
      refine M0 (q_moveC rfl rfl rfl) rfl rfl ?_;refine M0 (q_not rfl rfl rfl) rfl rfl ?_;refine M0 (q_moveC rfl rfl rfl) rfl rfl ?_;refine M_yes rfl rfl rfl ?_
      refine M0 (q_fldp rfl rfl rfl rfl (by decide)) rfl rfl ?_;refine M_yes rfl rfl rfl ?_;refine M0 (q_ld1 rfl rfl rfl rfl rfl) rfl rfl ?_;refine M_yes rfl rfl rfl ?_
      refine M0 (q_moveC rfl rfl rfl) rfl rfl ?_;refine M_yes rfl rfl rfl ?_;refine M0 (q_add rfl rfl rfl rfl (by omega)) rfl rfl ?_;refine M_yes rfl rfl rfl ?_
      refine M0 (q_fldp rfl rfl rfl rfl (by decide)) rfl rfl ?_;refine M_yes rfl rfl rfl ?_;refine M0 (q_ld1 rfl rfl rfl rfl rfl) rfl rfl ?_;refine M_yes rfl rfl rfl ?_
      refine M0 (q_mul rfl rfl rfl rfl (by omega)) rfl rfl ?_;refine M_yes rfl rfl rfl ?_;refine M0 (q_neqK rfl rfl rfl rfl (by assumption)) rfl rfl ?_
      refine M0 (q_pickF rfl rfl rfl rfl) rfl rfl ?_;refine M0 (q_moveC rfl rfl rfl) rfl rfl ?_;refine M_no rfl rfl rfl rfl rfl rfl ?_;refine M_no rfl rfl rfl rfl rfl rfl ?_
      refine M_no rfl rfl rfl rfl rfl rfl ?_;refine M_no rfl rfl rfl rfl rfl rfl ?_;refine M_no rfl rfl rfl rfl rfl rfl ?_;refine M_no rfl rfl rfl rfl rfl rfl ?_
      refine M0 (q_pickT rfl rfl rfl rfl) rfl rfl ?_;refine L_nil (T_n ?_);refine A_ifT rfl ?_;refine A_seq (A_region ?_);refine M0 (q_build rfl rfl rfl rfl rfl) rfl rfl ?_
      refine M_stN rfl rfl rfl rfl rfl rfl rfl rfl rfl ?_;refine M0 (q_assignC rfl rfl rfl) rfl rfl ?_;refine L_nil (T_n (A_ret (T_r (F_r ?_))))
      exact E_cellt rfl rfl rfl rfl rfl (W_fill [1,1,9] [6,7,8] rfl rfl (by decide) rfl rfl rfl)
end Go.Proofs.Ytmljakmaffbnlaa
end

section
set_option linter.unusedSimpArgs false
set_option linter.unusedVariables false
set_option maxRecDepth 8000
namespace Go.Proofs.Ytmljakmaffbnlaa
open Go.RowKit

def cntW (x : TWorld) (k : Int) : Int := k + x.Level.Rows.length + x.Scores.length + 9 * x.Bodies.length
def markW (x : TWorld) (k : Int) : TWorld := ⟨⟨markS x.Level.Rows k⟩,x.Tick,x.Seed,markI x.Scores (k + x.Level.Rows.length),markB x.Bodies (k + x.Level.Rows.length + x.Scores.length)⟩
set_option maxHeartbeats 8000000 in
theorem L_markWorld (x : TWorld) (k : Int) (h1 : x.Level.Rows.length ≤ 1048576) (h2 : x.Scores.length ≤ 1048576) (h3 : x.Bodies.length ≤ 1048576) (h0 : 0 < k) (hk : k ≤ 1073741823) : Con Try.prog 13 [.row 1 (els x.Level.Rows),.row 1 (els x.Scores),.row 9 (els x.Bodies),.gh 0 (.ag (ownV 0 (Enc.e x)))] [.ag (ownV 0 (Enc.e x)),ai k]
    [.row 1 (els (markW x k).Level.Rows),.row 1 (els (markW x k).Scores),.row 9 (els (markW x k).Bodies),.gh 0 (.ag (ownV 0 (Enc.e x)))] (I (cntW x k)) := by
  refine Con.of Try.func13 rfl Try.ntmps13 rfl (fun E => ?_)
  refine A_seq (A_region ?_);refine M1 (q_boxN rfl rfl rfl rfl) rfl rfl ?_;refine M0 (q_assignC rfl rfl rfl) rfl rfl ?_;refine L_nil (T_n (A_seq ?_))
  refine A_region ?_;refine M0 (q_fldp rfl rfl rfl rfl (by decide)) rfl rfl ?_;refine M0 (q_ldN rfl rfl rfl rfl rfl rfl) rfl rfl ?_;refine M0 (q_moveC rfl rfl rfl) rfl rfl ?_
  refine M_lent (lo := [_]) (gs := [(0,.ag [.ref 0])]) (lo' := [_]) (new := []) [0] [(0,0,.ref 0)] (L_markLevel x.Level.Rows k h1 h0 (by omega)) rfl rfl rfl rfl rfl rfl rfl rfl rfl rfl rfl rfl rfl rfl rfl rfl rfl ?_
  refine M0 (q_assignC rfl rfl rfl) rfl rfl ?_;refine L_nil (T_n (A_seq (A_region ?_)));refine M0 (q_fldp rfl rfl rfl rfl (by decide)) rfl rfl ?_
  refine M0 (q_ld1 rfl rfl rfl rfl rfl) rfl rfl ?_;refine M0 (q_moveC rfl rfl rfl) rfl rfl ?_
  refine M_lent (lo := [_]) (gs := [(0,.c (.ref 0))]) (lo' := [_]) (new := []) [1] [(0,0,.ref 0)] (L_markIntS x.Scores (k + x.Level.Rows.length) (by omega) (by omega) (by omega)) rfl rfl rfl rfl rfl rfl rfl rfl rfl rfl rfl rfl rfl rfl rfl rfl rfl ?_
  refine M0 (q_assignC rfl rfl rfl) rfl rfl ?_;refine L_nil (T_n (A_seq (A_region ?_)));refine M0 (q_fldp rfl rfl rfl rfl (by decide)) rfl rfl ?_
  refine M0 (q_ld1 rfl rfl rfl rfl rfl) rfl rfl ?_;refine M0 (q_moveC rfl rfl rfl) rfl rfl ?_
  refine M_lent (lo := [_]) (gs := [(0,.c (.ref 0))]) (lo' := [_]) (new := []) [2] [(0,0,.ref 0)] (L_markBodyS x.Bodies (k + x.Level.Rows.length + x.Scores.length) h3 (by omega) (by omega)) rfl rfl rfl rfl rfl rfl rfl rfl rfl rfl rfl rfl rfl rfl rfl rfl rfl ?_
  refine M0 (q_assignC rfl rfl rfl) rfl rfl ?_;refine L_nil (T_n (A_seq (A_region ?_)));refine M0 (q_moveC rfl rfl rfl) rfl rfl ?_
  refine M0 (q_assignC rfl rfl rfl) rfl rfl ?_;refine L_nil (T_n (A_ret (F_r ?_)))
  exact E_tmp rfl rfl (W_end [0,1,2,3] (by decide) rfl rfl rfl)
set_option maxHeartbeats 8000000 in
theorem L_heldWorld (x : TWorld) (k : Int) (h1 : x.Level.Rows.length ≤ 1048576) (h2 : x.Scores.length ≤ 1048576) (h3 : x.Bodies.length ≤ 1048576) (h0 : 0 < k) (hk : k ≤ 1073741823) : Con Try.prog 14 [] [ag (markW x k),ai k] [] (I (cntW x k)) := by
  have hn : decide (k + (x.Level.Rows.length : Int) < 0) = false := decide_eq_false (by omega)
  have hm : decide (k + (x.Level.Rows.length : Int) + x.Scores.length < 0) = false := decide_eq_false (by omega)
  have hm2 : decide (k + (x.Level.Rows.length : Int) + x.Scores.length + 9 * x.Bodies.length < 0) = false := decide_eq_false (by omega)
  refine Con.of Try.func14 rfl Try.ntmps14 rfl (fun E => ?_)
  refine A_seq (A_region ?_);refine M1 (q_boxN rfl rfl rfl rfl) rfl rfl ?_;refine M0 (q_assignC rfl rfl rfl) rfl rfl ?_;refine L_nil (T_n (A_seq ?_))
  refine A_region ?_;refine M0 (q_fldp rfl rfl rfl rfl (by decide)) rfl rfl ?_;refine M0 (q_ldN rfl rfl rfl rfl rfl rfl) rfl rfl ?_;refine M0 (q_moveC rfl rfl rfl) rfl rfl ?_
  refine M0 (q_call0 rfl rfl (L_heldLevel x.Level.Rows k h1 h0 (by omega)) rfl) rfl rfl ?_;refine M0 (q_assignC rfl rfl rfl) rfl rfl ?_;refine L_nil (T_n (A_seq ?_))
  refine A_seq (A_region ?_);refine M0 (q_moveC rfl rfl rfl) rfl rfl ?_;refine M0 (q_lssK rfl rfl rfl rfl (by assumption)) rfl rfl ?_;refine L_nil (T_n ?_)
  refine A_ifF rfl ?_;refine A_skip (T_n (A_seq (A_region ?_)));refine M0 (q_fldp rfl rfl rfl rfl (by decide)) rfl rfl ?_
  refine M0 (q_ld1 rfl rfl rfl rfl rfl) rfl rfl ?_;refine M0 (q_moveC rfl rfl rfl) rfl rfl ?_
  refine M0 (q_call0 rfl rfl (L_heldIntS x.Scores (k + x.Level.Rows.length) (by omega) (by omega) (by omega)) rfl) rfl rfl ?_;refine M0 (q_assignC rfl rfl rfl) rfl rfl ?_
  refine L_nil (T_n (A_seq (A_seq (A_region ?_))));refine M0 (q_moveC rfl rfl rfl) rfl rfl ?_;refine M0 (q_lssK rfl rfl rfl rfl (by assumption)) rfl rfl ?_
  refine L_nil (T_n ?_);refine A_ifF rfl ?_;refine A_skip (T_n (A_seq (A_region ?_)));refine M0 (q_fldp rfl rfl rfl rfl (by decide)) rfl rfl ?_
  refine M0 (q_ld1 rfl rfl rfl rfl rfl) rfl rfl ?_;refine M0 (q_moveC rfl rfl rfl) rfl rfl ?_
  refine M0 (q_call0 rfl rfl (L_heldBodyS x.Bodies (k + x.Level.Rows.length + x.Scores.length) h3 (by omega) (by omega)) rfl) rfl rfl ?_;refine M0 (q_assignC rfl rfl rfl) rfl rfl ?_
  refine L_nil (T_n (A_seq (A_seq (A_region ?_))));refine M0 (q_moveC rfl rfl rfl) rfl rfl ?_;refine M0 (q_lssK rfl rfl rfl rfl (by assumption)) rfl rfl ?_
  refine L_nil (T_n ?_);refine A_ifF rfl ?_;refine A_skip (T_n (A_seq (A_region ?_)));refine M0 (q_moveC rfl rfl rfl) rfl rfl ?_
  refine M0 (q_assignC rfl rfl rfl) rfl rfl ?_;refine L_nil (T_n (A_ret (F_r ?_)))
  exact E_tmp rfl rfl (W_end [] (by decide) rfl rfl rfl)
end Go.Proofs.Ytmljakmaffbnlaa
end

section
set_option linter.unusedSimpArgs false
set_option linter.unusedVariables false
namespace Go.Proofs.Ytmljakmaffbnlaa
open Go.RowKit

@[reducible] def iv (n : Int) : V1 := .rd [] (.v (.int .i64 n))
set_option maxHeartbeats 8000000 in
theorem law_KeyAt (r : TReplay) (k : Int) (hr : Enc.gd r) (hk : I64 k) : Con Try.prog 3 [] [ag r,ai k] [] (B true) := by
  have hz1 := sz_Replay r 1048576 hr (by omega) (by omega)
  by_cases n1 : (1048576 : Int) < Enc.wt r
  · rw [szr_neg n1] at hz1
    refine Con.of Try.func3 rfl Try.ntmps3 rfl (fun E => ?_)
    refine A_seq (A_region ?_);refine M1 (q_boxN rfl rfl rfl rfl) rfl rfl ?_;refine M0 (q_assignC rfl rfl rfl) rfl rfl ?_;refine L_nil (T_n (A_seq ?_))
    refine A_region ?_;refine M0 (q_assignC rfl rfl rfl) rfl rfl ?_;refine L_nil (T_n (A_seq (A_region ?_)));refine M0 (q_ldN rfl rfl rfl rfl rfl rfl) rfl rfl ?_
    refine M0 (q_moveC rfl rfl rfl) rfl rfl ?_;refine M0 (q_call0 rfl rfl (hz1) rfl) rfl rfl ?_;refine M0 (q_assignC rfl rfl rfl) rfl rfl ?_;refine L_nil (T_n (A_seq ?_))
    refine A_seq (A_region ?_);refine M0 (q_moveC rfl rfl rfl) rfl rfl ?_;refine M0 (q_lssK (b := true) rfl rfl rfl rfl (by decide)) rfl rfl ?_;refine L_nil (T_n ?_)
    refine A_ifT rfl ?_;refine A_seq (A_region ?_);refine M0 (q_assignC rfl rfl rfl) rfl rfl ?_;refine L_nil (T_n (A_ret (T_r (F_r ?_))))
    exact E_tmp rfl rfl (W_end [] (by decide) rfl rfl rfl)
  rw [szr_pos (by omega)] at hz1
  have hb1 : decide ((1048576 : Int) - Enc.wt r < 0) = false := decide_eq_false (by omega)
  have ix := rep_in hr (by omega)
  have ht1 := to_Replay r (by omega)
  have hks : ∀ x ∈ r.Keys,x.size ≤ 1048576 := fun x hx => by
    have h1 := wts_le r.Keys x hx
    have h2 : Enc.wt r = (r.Level.Rows.length + wts r.Level.Rows) + (r.Rows.length + wts r.Rows) + (r.Keys.length + wts r.Keys) := rfl
    have h3 : Enc.wt x = x.size := rfl
    omega
  have hsp := S_KeyAt r k hr hk ix hks
  have hip := I_KeyAt r k hr hk ix hks
  have iy := keyAt_in (k := k) ix
  generalize rwW (keyAt r k) = w at hsp hip iy
  generalize rwB (keyAt r k) = b at hsp hip
  have hq1 := eq_World w w iy.gd
  have hq2 := eq_Replay r r hr
  rw [decide_eq_true rfl] at hq1 hq2
  obtain ⟨ix1,ix2,ix3,ix4,ix5⟩ := ix
  obtain ⟨iy1,iy2,iy3,iy4⟩ := iy
  have hm_r := L_markReplay r 1 (by omega) (by omega) (by omega) (by omega) (by omega) (by omega)
  have hm_w := L_markWorld w 1 iy2 iy3 iy4 (by omega) (by omega)
  have hh := L_heldWorld w 1 iy2 iy3 iy4 (by omega) (by omega)
  have hk1 : decide ((1 : Int) + r.Level.Rows.length + tot r.Rows + r.Keys.length < 0) = false := decide_eq_false (by omega)
  have hk2 : decide (cntW w 1 < 0) = false := decide_eq_false (by unfold cntW; omega)
  refine Con.of Try.func3 rfl Try.ntmps3 rfl (fun E => ?_)
  refine A_seq (A_region ?_);refine M1 (q_boxN rfl rfl rfl rfl) rfl rfl ?_;refine M0 (q_assignC rfl rfl rfl) rfl rfl ?_;refine L_nil (T_n (A_seq ?_))
  refine A_region ?_;refine M0 (q_assignC rfl rfl rfl) rfl rfl ?_;refine L_nil (T_n (A_seq (A_region ?_)));refine M0 (q_ldN rfl rfl rfl rfl rfl rfl) rfl rfl ?_
  refine M0 (q_moveC rfl rfl rfl) rfl rfl ?_;refine M0 (q_call0 rfl rfl (hz1) rfl) rfl rfl ?_;refine M0 (q_assignC rfl rfl rfl) rfl rfl ?_;refine L_nil (T_n (A_seq ?_))
  refine A_seq (A_region ?_);refine M0 (q_moveC rfl rfl rfl) rfl rfl ?_;refine M0 (q_lssK rfl rfl rfl rfl (by assumption)) rfl rfl ?_;refine L_nil (T_n ?_)
  refine A_ifF rfl ?_;refine A_skip (T_n (A_seq (A_region ?_)));refine M0 (q_ldN rfl rfl rfl rfl rfl rfl) rfl rfl ?_
  refine M1 (q_call rfl rfl (ht1) rfl rfl rfl) rfl rfl ?_;refine M0 (q_moveC rfl rfl rfl) rfl rfl ?_;refine M1 (q_call rfl rfl (hsp) rfl rfl rfl) rfl rfl ?_
  refine M0 (q_moveT rfl rfl rfl) rfl rfl ?_;refine M0 (q_ext rfl rfl rfl rfl) rfl rfl ?_;refine M0 (q_ext rfl rfl rfl rfl) rfl rfl ?_;refine M1 (q_alloc rfl rfl rfl) rfl rfl ?_
  refine M_stN rfl rfl rfl rfl rfl rfl rfl rfl rfl ?_;refine M0 (q_assignC rfl rfl rfl) rfl rfl ?_;refine L_nil (T_n (A_seq (A_region ?_)))
  refine M0 (q_ldN rfl rfl rfl rfl rfl rfl) rfl rfl ?_;refine M1 (q_call rfl rfl (ht1) rfl rfl rfl) rfl rfl ?_;refine M1 (q_alloc rfl rfl rfl) rfl rfl ?_
  refine M_stN rfl rfl rfl rfl rfl rfl rfl rfl rfl ?_;refine L_nil (T_n (A_seq (A_region ?_)));refine M0 (q_ldN rfl rfl rfl rfl rfl rfl) rfl rfl ?_
  refine M0 (q_moveC rfl rfl rfl) rfl rfl ?_;refine M1 (q_call rfl rfl (hip) rfl rfl rfl) rfl rfl ?_;refine M0 (q_moveT rfl rfl rfl) rfl rfl ?_
  refine M0 (q_ext rfl rfl rfl rfl) rfl rfl ?_;refine M0 (q_ext rfl rfl rfl rfl) rfl rfl ?_;refine M1 (q_alloc rfl rfl rfl) rfl rfl ?_
  refine M_stN rfl rfl rfl rfl rfl rfl rfl rfl rfl ?_;refine M0 (q_assignC rfl rfl rfl) rfl rfl ?_;refine L_nil (T_n (A_seq (A_seq (A_region ?_))))
  refine M0 (q_ldN rfl rfl rfl rfl rfl rfl) rfl rfl ?_;refine M0 (q_ldN rfl rfl rfl rfl rfl rfl) rfl rfl ?_;refine M0 (q_call0 rfl rfl (hq1) rfl) rfl rfl ?_
  refine M0 (q_not rfl rfl rfl) rfl rfl ?_;refine M0 (q_moveC rfl rfl rfl) rfl rfl ?_;refine M_yes rfl rfl rfl ?_;refine M0 (q_moveC rfl rfl rfl) rfl rfl ?_;refine M_yes rfl rfl rfl ?_
  refine M0 (q_moveC rfl rfl rfl) rfl rfl ?_;refine M_yes rfl rfl rfl ?_;refine M0 (q_bneqR rfl rfl rfl rfl) rfl rfl ?_;refine M0 (q_pickF rfl rfl rfl rfl) rfl rfl ?_;refine L_nil ?_
  refine T_n ?_;refine A_ifF rfl ?_;refine A_skip (T_n (A_seq (A_seq ?_)))
  refine AWP.pre (st' := (⟨_,[(1,I k),(2,.o (.c (.ptr 0 0))),(6,.o (.c (.ptr 4 0))),(7,B b),(8,.o (.c (.ptr 8 0))),(9,.o (.c (.ptr 12 0))),(10,B b)],[.box ((Enc.e r).map (V1.rd [])),.row 1 (els w.Level.Rows),.row 1 (els w.Scores),.row 9 (els w.Bodies),.box [.ref 1,iv w.Tick,iv w.Seed,.ref 2,.ref 3],.row 1 (els r.Level.Rows),.row 1 (els r.Rows),.row 1 (els r.Keys),.box [.ref 5,iv r.Players,iv r.Seed,iv r.Every,.ref 6,.ref 7],.row 1 (els w.Level.Rows),.row 1 (els w.Scores),.row 9 (els w.Bodies),.box [.ref 9,iv w.Tick,iv w.Seed,.ref 10,.ref 11]]⟩ : St)) ?_ (W_go [0,4,5,6,7,8,9,10,11,12,13,14,15] (by decide) rfl (rfl) (.cons rfl (.cons rfl (.cons rfl (.cons rfl (.cons rfl (.cons rfl (.cons rfl (.nil)))))))))
  refine A_draw [[],[],[1],[0,1,2],[0,1,2,3]] [[],[],[46],[45,46,47],[45,46,47,48]] [[46,47],[45],[45],[],[]] rfl ?_
  refine DR.step (q_ldN rfl rfl rfl rfl rfl rfl) rfl rfl ?_;refine DR.step (q_ldN rfl rfl rfl rfl rfl rfl) rfl rfl ?_;refine DR.step (q_call rfl rfl (ht1) rfl rfl rfl) rfl rfl ?_
  refine DR.step (q_call0 rfl rfl (hq2) rfl) rfl rfl ?_;refine DR.step (q_not rfl rfl rfl) rfl rfl ?_;refine DR.stop (by kernel_rfl) (by kernel_rfl) ?_
  refine L_nil (T_n ?_)
  refine AWP.pre (st' := (⟨_,[(1,I k),(2,.o (.c (.ptr 0 0))),(6,.o (.c (.ptr 4 0))),(7,B b),(8,.o (.c (.ptr 8 0))),(9,.o (.c (.ptr 12 0))),(10,B b),(49,B false)],[.box ((Enc.e r).map (V1.rd [])),.row 1 (els w.Level.Rows),.row 1 (els w.Scores),.row 9 (els w.Bodies),.box [.ref 1,iv w.Tick,iv w.Seed,.ref 2,.ref 3],.row 1 (els r.Level.Rows),.row 1 (els r.Rows),.row 1 (els r.Keys),.box [.ref 5,iv r.Players,iv r.Seed,iv r.Every,.ref 6,.ref 7],.row 1 (els w.Level.Rows),.row 1 (els w.Scores),.row 9 (els w.Bodies),.box [.ref 9,iv w.Tick,iv w.Seed,.ref 10,.ref 11]]⟩ : St)) ?_ (W_go [0,1,2,3,4,5,6,7,8,9,10,11,12] (by decide) rfl (rfl) (.cons rfl (.cons rfl (.cons rfl (.cons rfl (.cons rfl (.cons rfl (.cons rfl (.cons rfl (.nil))))))))))
  refine A_ifF rfl ?_;refine A_skip (T_n (A_seq (A_region ?_)));refine M0 (q_assignC rfl rfl rfl) rfl rfl ?_;refine L_nil (T_n (A_seq ?_))
  refine A_region ?_;refine M0 (q_ldN rfl rfl rfl rfl rfl rfl) rfl rfl ?_;refine M0 (q_moveC rfl rfl rfl) rfl rfl ?_
  refine M_lent (lo := [_,_,_]) (gs := [(0,.ag [.ref 0,iv r.Players,iv r.Seed,iv r.Every,.ref 1,.ref 2])]) (lo' := [_,_,_]) (new := []) [5,6,7] [(0,0,.ref 0),(0,4,.ref 1),(0,5,.ref 2)] (hm_r) rfl rfl rfl rfl rfl rfl rfl rfl rfl rfl rfl rfl rfl rfl rfl rfl rfl ?_
  refine M0 (q_assignC rfl rfl rfl) rfl rfl ?_;refine L_nil (T_n (A_seq (A_seq (A_region ?_))));refine M0 (q_moveC rfl rfl rfl) rfl rfl ?_
  refine M0 (q_lssK rfl rfl rfl rfl (by assumption)) rfl rfl ?_;refine M0 (q_moveC rfl rfl rfl) rfl rfl ?_;refine M_yes rfl rfl rfl ?_
  refine M0 (q_ldN rfl rfl rfl rfl rfl rfl) rfl rfl ?_;refine M_yes rfl rfl rfl ?_;refine M0 (q_ldN rfl rfl rfl rfl rfl rfl) rfl rfl ?_;refine M_yes rfl rfl rfl ?_
  refine AL.weak (st' := (⟨_,[(1,I k),(2,.o (.c (.ptr 0 0))),(6,.o (.c (.ptr 4 0))),(7,B b),(9,.o (.c (.ptr 8 0))),(10,B b),(55,B false),(56,.o (.ag [.ref 5,iv w.Tick,iv w.Seed,.ref 6,.ref 7])),(57,.o (.ag [.ref 1,iv w.Tick,iv w.Seed,.ref 2,.ref 3]))],[.box ((Enc.e r).map (V1.rd [])),.row 1 (els w.Level.Rows),.row 1 (els w.Scores),.row 9 (els w.Bodies),.box [.ref 1,iv w.Tick,iv w.Seed,.ref 2,.ref 3],.row 1 (els w.Level.Rows),.row 1 (els w.Scores),.row 9 (els w.Bodies),.box [.ref 5,iv w.Tick,iv w.Seed,.ref 6,.ref 7]]⟩ : St)) (W_go [0,1,2,3,4,9,10,11,12] (by decide) rfl (rfl) (.cons rfl (.cons rfl (.cons rfl (.cons rfl (.cons rfl (.cons rfl (.cons rfl (.cons rfl (.cons rfl (.nil))))))))))) ?_
  refine M0 (q_call0 rfl rfl (hq1) rfl) rfl rfl ?_;refine M_yes rfl rfl rfl ?_;refine M0 (q_not rfl rfl rfl) rfl rfl ?_;refine M0 (q_pickF rfl rfl rfl rfl) rfl rfl ?_
  refine M0 (q_moveC rfl rfl rfl) rfl rfl ?_;refine M_yes rfl rfl rfl ?_;refine M0 (q_moveC rfl rfl rfl) rfl rfl ?_;refine M_yes rfl rfl rfl ?_;refine M0 (q_moveC rfl rfl rfl) rfl rfl ?_
  refine M_yes rfl rfl rfl ?_;refine M0 (q_bneqR rfl rfl rfl rfl) rfl rfl ?_;refine M0 (q_pickF rfl rfl rfl rfl) rfl rfl ?_;refine L_nil (T_n ?_);refine A_ifF rfl ?_
  refine A_skip (T_n (A_seq (A_region ?_)));refine M0 (q_assignC rfl rfl rfl) rfl rfl ?_;refine L_nil (T_n (A_seq (A_region ?_)))
  refine M0 (q_ldN rfl rfl rfl rfl rfl rfl) rfl rfl ?_;refine M0 (q_moveC rfl rfl rfl) rfl rfl ?_
  refine AL.weak (st' := (⟨_,[(1,I k),(2,.o (.c (.ptr 0 0))),(6,.o (.c (.ptr 4 0))),(7,B b),(9,.o (.c (.ptr 8 0))),(66,.o (.ag [.ref 5,iv w.Tick,iv w.Seed,.ref 6,.ref 7])),(67,I 1)],[.box ((Enc.e r).map (V1.rd [])),.row 1 (els w.Level.Rows),.row 1 (els w.Scores),.row 9 (els w.Bodies),.box [.ref 1,iv w.Tick,iv w.Seed,.ref 2,.ref 3],.row 1 (els w.Level.Rows),.row 1 (els w.Scores),.row 9 (els w.Bodies),.box [.ref 5,iv w.Tick,iv w.Seed,.ref 6,.ref 7]]⟩ : St)) (W_go [0,1,2,3,4,5,6,7,8] (by decide) rfl (rfl) (.cons rfl (.cons rfl (.cons rfl (.cons rfl (.cons rfl (.cons rfl (.cons rfl (.nil))))))))) ?_
  refine M_lent (lo := [_,_,_]) (gs := [(0,.ag [.ref 0,iv w.Tick,iv w.Seed,.ref 1,.ref 2])]) (lo' := [_,_,_]) (new := []) [5,6,7] [(0,0,.ref 0),(0,3,.ref 1),(0,4,.ref 2)] (hm_w) rfl rfl rfl rfl rfl rfl rfl rfl rfl rfl rfl rfl rfl rfl rfl rfl rfl ?_
  refine M0 (q_assignC rfl rfl rfl) rfl rfl ?_;refine L_nil (T_n (A_seq (A_region ?_)));refine M0 (q_assignC rfl rfl rfl) rfl rfl ?_;refine L_nil (T_n ?_)
  refine A_seq (A_region ?_);refine M0 (q_ldN rfl rfl rfl rfl rfl rfl) rfl rfl ?_;refine M0 (q_moveC rfl rfl rfl) rfl rfl ?_
  refine AL.weak (st' := (⟨_,[(1,I k),(2,.o (.c (.ptr 0 0))),(6,.o (.c (.ptr 4 0))),(7,B b),(9,.o (.c (.ptr 8 0))),(12,I (cntW w 1)),(69,.o (.ag [.ref 5,iv w.Tick,iv w.Seed,.ref 6,.ref 7])),(70,I 1)],[.box ((Enc.e r).map (V1.rd [])),.row 1 (els w.Level.Rows),.row 1 (els w.Scores),.row 9 (els w.Bodies),.box [.ref 1,iv w.Tick,iv w.Seed,.ref 2,.ref 3],.row 1 (els (markW w 1).Level.Rows),.row 1 (els (markW w 1).Scores),.row 9 (els (markW w 1).Bodies),.box [.ref 5,iv w.Tick,iv w.Seed,.ref 6,.ref 7]]⟩ : St)) (W_go [0,1,2,3,4,5,6,7,8] (by decide) rfl (rfl) (.cons rfl (.cons rfl (.cons rfl (.cons rfl (.cons rfl (.cons rfl (.cons rfl (.cons rfl (.nil)))))))))) ?_
  refine M0 (q_call0 rfl rfl (hh) rfl) rfl rfl ?_;refine M0 (q_assignC rfl rfl rfl) rfl rfl ?_;refine L_nil (T_n (A_seq (A_seq (A_region ?_))))
  refine M0 (q_moveC rfl rfl rfl) rfl rfl ?_;refine M0 (q_lssK rfl rfl rfl rfl (by assumption)) rfl rfl ?_;refine L_nil (T_n ?_);refine A_ifF rfl ?_;refine A_skip (T_n ?_)
  refine A_seq (A_seq (A_region ?_));refine M0 (q_moveC rfl rfl rfl) rfl rfl ?_;refine M0 (q_moveC rfl rfl rfl) rfl rfl ?_;refine M0 (q_neqR rfl rfl rfl rfl) rfl rfl ?_
  refine L_nil (T_n ?_);refine A_ifF rfl ?_;refine A_skip (T_n (A_seq (A_region ?_)));refine M0 (q_ldN rfl rfl rfl rfl rfl rfl) rfl rfl ?_
  refine AL.weak (st' := (⟨_,[(1,I k),(6,.o (.c (.ptr 3 0))),(7,B b),(9,.o (.c (.ptr 7 0))),(12,I (cntW w 1)),(78,.o (.ag ((Enc.e r).map (V1.rd []))))],[.row 1 (els w.Level.Rows),.row 1 (els w.Scores),.row 9 (els w.Bodies),.box [.ref 0,iv w.Tick,iv w.Seed,.ref 1,.ref 2],.row 1 (els (markW w 1).Level.Rows),.row 1 (els (markW w 1).Scores),.row 9 (els (markW w 1).Bodies),.box [.ref 4,iv w.Tick,iv w.Seed,.ref 5,.ref 6]]⟩ : St)) (W_go [1,2,3,4,5,6,7,8] (by decide) rfl (rfl) (.cons rfl (.cons rfl (.cons rfl (.cons rfl (.cons rfl (.cons rfl (.nil)))))))) ?_
  refine M1 (q_call rfl rfl (ht1) rfl rfl rfl) rfl rfl ?_;refine M0 (q_moveC rfl rfl rfl) rfl rfl ?_;refine M1 (q_call rfl rfl (hip) rfl rfl rfl) rfl rfl ?_
  refine M0 (q_moveT rfl rfl rfl) rfl rfl ?_;refine M0 (q_ext rfl rfl rfl rfl) rfl rfl ?_;refine M0 (q_ext rfl rfl rfl rfl) rfl rfl ?_;refine M1 (q_alloc rfl rfl rfl) rfl rfl ?_
  refine M_stN rfl rfl rfl rfl rfl rfl rfl rfl rfl ?_;refine M0 (q_assignC rfl rfl rfl) rfl rfl ?_;refine L_nil (T_n (A_seq (A_seq (A_region ?_))))
  refine M0 (q_ldN rfl rfl rfl rfl rfl rfl) rfl rfl ?_;refine M0 (q_ldN rfl rfl rfl rfl rfl rfl) rfl rfl ?_;refine M0 (q_call0 rfl rfl (hq1) rfl) rfl rfl ?_
  refine M0 (q_not rfl rfl rfl) rfl rfl ?_;refine M0 (q_moveC rfl rfl rfl) rfl rfl ?_;refine M_yes rfl rfl rfl ?_;refine M0 (q_moveC rfl rfl rfl) rfl rfl ?_;refine M_yes rfl rfl rfl ?_
  refine M0 (q_moveC rfl rfl rfl) rfl rfl ?_;refine M_yes rfl rfl rfl ?_;refine M0 (q_bneqR rfl rfl rfl rfl) rfl rfl ?_;refine M0 (q_pickF rfl rfl rfl rfl) rfl rfl ?_;refine L_nil ?_
  refine T_n ?_;refine A_ifF rfl ?_;refine A_skip (T_n (A_seq (A_region ?_)));refine M0 (q_assignC rfl rfl rfl) rfl rfl ?_;refine L_nil (T_n ?_)
  refine A_seq (A_region ?_);refine M0 (q_ldN rfl rfl rfl rfl rfl rfl) rfl rfl ?_;refine M0 (q_moveC rfl rfl rfl) rfl rfl ?_
  refine AL.weak (st' := (⟨_,[(12,I (cntW w 1)),(93,.o (.ag [.ref 0,iv w.Tick,iv w.Seed,.ref 1,.ref 2])),(94,I 1)],[.row 1 (els (markW w 1).Level.Rows),.row 1 (els (markW w 1).Scores),.row 9 (els (markW w 1).Bodies)]⟩ : St)) (W_go [4,5,6] (by decide) rfl (rfl) (.cons rfl (.cons rfl (.cons rfl (.nil))))) ?_
  refine M0 (q_call0 rfl rfl (hh) rfl) rfl rfl ?_;refine M0 (q_assignC rfl rfl rfl) rfl rfl ?_;refine L_nil (T_n (A_seq (A_seq (A_region ?_))))
  refine M0 (q_moveC rfl rfl rfl) rfl rfl ?_;refine M0 (q_lssK rfl rfl rfl rfl (by assumption)) rfl rfl ?_;refine L_nil (T_n ?_);refine A_ifF rfl ?_;refine A_skip (T_n ?_)
  refine A_seq (A_seq (A_region ?_));refine M0 (q_moveC rfl rfl rfl) rfl rfl ?_;refine M0 (q_moveC rfl rfl rfl) rfl rfl ?_;refine M0 (q_neqR rfl rfl rfl rfl) rfl rfl ?_
  refine L_nil (T_n ?_);refine A_ifF rfl ?_;refine A_skip (T_n (A_seq (A_region ?_)));refine M0 (q_assignC rfl rfl rfl) rfl rfl ?_;refine L_nil ?_
  refine T_n (A_ret (F_r ?_))
  exact E_tmp rfl rfl (W_end [] (by decide) rfl rfl rfl)
end Go.Proofs.Ytmljakmaffbnlaa
end

section
set_option linter.unusedVariables false
namespace Go.Proofs.Ytmljakmaffbnlaa
open Go.ChangeShapes Go.WideShapes Go.ChangeAt Go.RowKit

def RL (w : World) (ts : List T) (cs : List Value) : Prop := ∀ (j : Nat) (t : T) (u : Value),ts[j]? = some t → cs[j]? = some u → RO w (fun _ => True) t u
theorem RL.nil {w : World} {cs : List Value} : RL w [] cs := fun _ _ _ h => by simp at h
theorem RL.app {w : World} {ts us : List T} {cs : List Value} {o n : Nat} (h1 : RL w ts ((cs.drop o).take n)) (hn : ts.length = n) (h2 : RL w us (cs.drop (o + n))) : RL w (ts ++ us) (cs.drop o) := fun j t u h3 h4 => by
  rcases Nat.lt_or_ge j ts.length with hj | hj
  · rw [List.getElem?_append_left hj] at h3
    exact h1 j t u h3 (by rw [List.getElem?_take,if_pos (by omega)]; exact h4)
  · rw [List.getElem?_append_right hj] at h3
    refine h2 (j - ts.length) t u h3 ?_
    rw [List.getElem?_drop] at h4 ⊢
    rw [← h4]
    congr 1
    omega
theorem reads_fld {P : Program} {t tt : TypeId} {fs : Array Field} {f : Field} {α : Type} [Enc α] {H : Type} {enc : TypeId × Value → H} {w : World} {spare : Nat → Bool} {held : Bool} {fuel : Nat} {cs : List Value} {x : DataW H × List MemPlace}
    (ht : P.underlying t = some (.struct fs)) (h : DataW.trod enc P w 0 spare held fuel t cs = some x) (i : Nat) (hf : fs[i]? = some f) (hty : f.type = tt) [hα : RdOf P tt α] {o : Nat} (ho : f.offset = o) :
    ∃ y : α,Enc.gd y ∧ RL w (Enc.e y) ((cs.drop o).take (Enc.k α)) := by
  obtain ⟨xs,n,_,_,hl,hlen,hfs⟩ := DataW.trod_struct ht h
  have h1 := hfs i f hf
  have hi : i < fs.size := by
    rcases Nat.lt_or_ge i fs.size with h2 | h2
    · exact h2
    · rw [Array.getElem?_eq_none h2] at hf; cases hf
  rw [List.getElem?_eq_getElem (by omega),hty,ho,hα.size] at h1
  obtain ⟨y,hg,hr⟩ := hα.of h1
  exact ⟨y,hg,hr.2⟩
theorem reads_len {P : Program} {t : TypeId} {fs : Array Field} {H : Type} {enc : TypeId × Value → H} {w : World} {spare : Nat → Bool} {held : Bool} {fuel : Nat} {cs : List Value} {x : DataW H × List MemPlace}
    (ht : P.underlying t = some (.struct fs)) (h : DataW.trod enc P w 0 spare held fuel t cs = some x) : cs.length = P.cellsOf t := by
  obtain ⟨xs,n,_,_,hl,_⟩ := DataW.trod_struct ht h
  exact hl

instance : RdOf Try.prog 3 Int := rdOf_int Try.underlying3 (by kernel_rfl)
instance : RdOf Try.prog 9 ByteArray := rdOf_string Try.underlying9 (by kernel_rfl)
instance : RdOf Try.prog 30 (List Int) := rdOf_slice Try.underlying30 (by kernel_rfl)
instance : RdOf Try.prog 22 (List ByteArray) := rdOf_slice Try.underlying22 (by kernel_rfl)
instance : RdOf Try.prog 25 (List (List Int)) := rdOf_slice Try.underlying25 (by kernel_rfl)
instance : RdOf Try.prog 24 TLevel where
  size := by kernel_rfl
  of {H enc w spare held fuel cs x} h := by
    obtain ⟨y0,g0,r0⟩ := reads_fld (α := (List ByteArray)) (tt := 22) Try.underlying24 h 0 rfl rfl rfl
    refine ⟨⟨y0⟩,g0,?_,?_⟩
    · rw [reads_len Try.underlying24 h]; kernel_rfl
    · exact (RL.app (o := 0) (n := 1) r0 rfl (RL.nil) : RL w _ (cs.drop 0))
instance : RdOf Try.prog 27 TReplay where
  size := by kernel_rfl
  of {H enc w spare held fuel cs x} h := by
    obtain ⟨y0,g0,r0⟩ := reads_fld (α := TLevel) (tt := 24) Try.underlying27 h 0 rfl rfl rfl
    obtain ⟨y1,g1,r1⟩ := reads_fld (α := Int) (tt := 3) Try.underlying27 h 1 rfl rfl rfl
    obtain ⟨y2,g2,r2⟩ := reads_fld (α := Int) (tt := 3) Try.underlying27 h 2 rfl rfl rfl
    obtain ⟨y3,g3,r3⟩ := reads_fld (α := Int) (tt := 3) Try.underlying27 h 3 rfl rfl rfl
    obtain ⟨y4,g4,r4⟩ := reads_fld (α := (List (List Int))) (tt := 25) Try.underlying27 h 4 rfl rfl rfl
    obtain ⟨y5,g5,r5⟩ := reads_fld (α := (List ByteArray)) (tt := 22) Try.underlying27 h 5 rfl rfl rfl
    refine ⟨⟨y0,y1,y2,y3,y4,y5⟩,⟨g0,g1,g2,g3,g4,g5⟩,?_,?_⟩
    · rw [reads_len Try.underlying27 h]; kernel_rfl
    · exact (RL.app (o := 0) (n := 1) r0 rfl (RL.app (o := 1) (n := 1) r1 rfl (RL.app (o := 2) (n := 1) r2 rfl (RL.app (o := 3) (n := 1) r3 rfl (RL.app (o := 4) (n := 1) r4 rfl (RL.app (o := 5) (n := 1) r5 rfl (RL.nil)))))) : RL w _ (cs.drop 0))
end Go.Proofs.Ytmljakmaffbnlaa
end
