/-
  UnpackZeros and ApplyDelta, in the program and in the reference.
  Conditions: texts of at most 2^40 - 1 bytes.
  Bodies, worlds and spectators as data; how the laws compare and mark them. No statement of the program is proved here.
  Conditions: lists of at most 2^20 elements.
  What a valid level is, in the program and in the reference.
  Conditions: none.
  What a valid level is: the program's LevelOk.
  Conditions: none.
  What a valid level is: the reference's LevelOk.
  Conditions: none.
-/
import Derived.Test.YtmljakmaffbnlaaDDKeyRowk8
import Derived.Test.YtmljakmaffbnlaaDDKeyRowk9
section
set_option linter.unusedSimpArgs false
set_option linter.unusedVariables false
set_option maxRecDepth 8000
namespace Go.Proofs.Ytmljakmaffbnlaa
open Go.RowKit

theorem uz_end {s : ByteArray} {b : Bool} {pos : Nat} (h : ¬ pos < s.size) (f : Nat) (acc : List UInt8) : uzGo s b f pos acc = some acc := by
  cases f with
  | zero => rw [uzGo,if_neg h]
  | succ f => rw [uzGo,if_neg h]
section
variable {s : ByteArray} {b : Bool} {pos f j k : Nat} {acc : List UInt8} {n : Int} {t : ByteArray} (hp : pos < s.size)
include hp
theorem uz_none1 (h : decVar s pos = none) : uzGo s b (f + 1) pos acc = none := by rw [uzGo,if_pos hp,h]
theorem uz_none2 (h : decVar s pos = some (n,j)) (h2 : unpackText s ((pos : Int) + (j : Int)) = none) : uzGo s b (f + 1) pos acc = none := by
  rw [uzGo,if_pos hp,h]
  simp only [h2]
theorem uz_big (h : decVar s pos = some (n,j)) (h2 : unpackText s ((pos : Int) + (j : Int)) = some (t,k)) (hb : (20000 : Int) - acc.length < n + t.size) : uzGo s b (f + 1) pos acc = none := by
  rw [uzGo,if_pos hp,h]
  simp only [h2]
  rw [if_pos hb]
theorem uz_big1 (h : decVar s pos = some (n,j)) (hb : (20000 : Int) - acc.length < n) : uzGo s b (f + 1) pos acc = none := by
  cases h2 : unpackText s ((pos : Int) + (j : Int)) with
  | none => exact uz_none2 hp h h2
  | some r => obtain ⟨t,k⟩ := r; exact uz_big hp h h2 (by omega)
theorem uz_emp (h : decVar s pos = some (n,j)) (h2 : unpackText s ((pos : Int) + (j : Int)) = some (t,k)) (he : n = 0 ∧ t.size = 0) : uzGo s true (f + 1) pos acc = none := by
  by_cases hb : (20000 : Int) - acc.length < n + t.size
  · exact uz_big hp h h2 hb
  rw [uzGo,if_pos hp,h]
  simp only [h2]
  rw [if_neg hb,if_pos ⟨trivial,he⟩]
theorem uz_step (h : decVar s pos = some (n,j)) (h2 : unpackText s ((pos : Int) + (j : Int)) = some (t,k)) (hb : ¬ (20000 : Int) - acc.length < n + t.size) (he : b = true → ¬ (n = 0 ∧ t.size = 0)) : uzGo s b (f + 1) pos acc = uzGo s b f (pos + j + k) (acc ++ List.replicate n.toNat 0 ++ t.data.toList) := by
  rw [uzGo,if_pos hp,h]
  simp only [h2]
  rw [if_neg hb,if_neg (fun q => he q.1 q.2)]
end
theorem bE_rep (z : Nat) : bE (List.replicate z 0) = List.replicate z [.v (.int .u8 0)] := by simp [bE]
theorem unpackZ_len {b : Bool} {s t : ByteArray} (h : unpackZ b s = some t) : t.size ≤ 20000 := by
  unfold unpackZ at h
  cases hu : uzGo s b s.size 0 [] with
  | none => rw [hu] at h; cases h
  | some out =>
    rw [hu] at h
    simp only at h
    split at h
    · cases h; rw [bs_size]; exact uz_len s b _ _ _ _ (by simp) hu
    · cases h
set_option maxHeartbeats 8000000 in
theorem I_UnpackZeros (s : ByteArray) (hs : s.size ≤ 1099511627775) : Con Try.prog 81 [] [astr s] [] (otR (unpackZ true s)) := by
  refine Con.of Try.func81 rfl Try.ntmps81 rfl (fun E => ?_)
  refine A_seq (A_region ?_);refine M0 (q_assignC rfl rfl rfl) rfl rfl ?_;refine M0 (q_assignC rfl rfl rfl) rfl rfl ?_;refine L_nil (T_n (A_seq ?_))
  refine A_region ?_;refine M0 (q_assignC rfl rfl rfl) rfl rfl ?_;refine L_nil (T_n (A_seq (A_region ?_)));refine M0 (q_assignC rfl rfl rfl) rfl rfl ?_
  refine L_nil (T_n (A_seq (A_block ?_)))
  refine AWP.pre ?_ (W_nil 4 1 rfl)
  refine A_loop (fun m__ st => ∃ (pos : Nat) (acc : List UInt8) (f : Nat),s.size - pos = m__ ∧ (s.size ≤ pos + f ∧ pos ≤ s.size ∧ acc.length ≤ 20000 ∧ uzGo s true f pos acc = uzGo s true s.size 0 []) ∧ st = (fun (pos : Nat) (acc : List UInt8) (f : Nat) => (⟨_,[(0,S s),(4,.o (.c (.ref 0))),(5,I pos)],[.row 1 (bE acc)]⟩ : St)) (pos) (acc) (f)) ((fun (pos : Nat) (acc : List UInt8) (f : Nat) => s.size - pos) (0) ([]) (s.size)) ⟨(fun (pos : Nat) (acc : List UInt8) (f : Nat) => (⟨_,[(0,S s),(4,.o (.c (.ref 0))),(5,I pos)],[.row 1 (bE acc)]⟩ : St)) (0) ([]) (s.size),W_go [0] (by decide) rfl (rfl) (.cons rfl (.cons rfl (.cons rfl (.nil)))),0,[],s.size,rfl,⟨by omega,by omega,by simp,rfl⟩,rfl⟩ ?_
  rintro m_A _ ⟨pos,acc,f,hk_A,hp_A,rfl⟩
  obtain ⟨hfu,hps,hal,hgo⟩ := hp_A
  have hla := bE_len acc
  by_cases hlt : pos < s.size
  · have hb : decide ((pos : Int) < s.size) = true := decide_eq_true (by omega)
    have hd := I_DecodeVarint s (pos : Int) (by omega) ⟨by omega,by omega⟩
    obtain ⟨g,rfl⟩ : ∃ g,f = g + 1 := ⟨f - 1,by omega⟩
    cases hv : decVar s (pos : Int) with
    | none =>
      rw [hv] at hd
      rw [show unpackZ true s = none by rw [unpackZ,← hgo,uz_none1 hlt hv]]
      refine A_seq (A_seq (A_region ?_));refine M0 (q_moveC rfl rfl rfl) rfl rfl ?_;refine M0 (q_moveC rfl rfl rfl) rfl rfl ?_;refine M0 (q_lens rfl rfl rfl) rfl rfl ?_
      refine M0 (q_lssK rfl rfl rfl rfl (by assumption)) rfl rfl ?_;refine L_nil (T_n ?_);refine A_ifT rfl ?_;refine A_skip (T_n (A_block (A_seq ?_)))
      refine A_region ?_;refine M0 (q_moveC rfl rfl rfl) rfl rfl ?_;refine M0 (q_moveC rfl rfl rfl) rfl rfl ?_;refine M1 (q_call rfl rfl (hd) rfl rfl rfl) rfl rfl ?_
      refine M0 (q_moveT rfl rfl rfl) rfl rfl ?_;refine M0 (q_ext rfl rfl rfl rfl) rfl rfl ?_;refine M0 (q_ext rfl rfl rfl rfl) rfl rfl ?_;refine M0 (q_ext rfl rfl rfl rfl) rfl rfl ?_
      refine M0 (q_assignC rfl rfl rfl) rfl rfl ?_;refine M0 (q_assignC rfl rfl rfl) rfl rfl ?_;refine M0 (q_assignC rfl rfl rfl) rfl rfl ?_;refine L_nil (T_n (A_seq ?_))
      refine A_seq (A_region ?_);refine M0 (q_moveC rfl rfl rfl) rfl rfl ?_;refine M0 (q_not rfl rfl rfl) rfl rfl ?_;refine M0 (q_moveC rfl rfl rfl) rfl rfl ?_
      refine M_no rfl rfl rfl rfl rfl rfl ?_;refine M_no rfl rfl rfl rfl rfl rfl ?_;refine M_no rfl rfl rfl rfl rfl rfl ?_;refine M_no rfl rfl rfl rfl rfl rfl ?_
      refine M_no rfl rfl rfl rfl rfl rfl ?_;refine M0 (q_pickT rfl rfl rfl rfl) rfl rfl ?_;refine L_nil (T_n ?_);refine A_ifT rfl ?_;refine A_seq (A_region ?_)
      refine M0 (q_assignC rfl rfl rfl) rfl rfl ?_;refine M0 (q_assignC rfl rfl rfl) rfl rfl ?_;refine L_nil (T_n (A_ret (T_r (B_r (T_r ?_)))))
      refine B_r (T_r (F_r ?_))
      exact E_tmp2 rfl rfl rfl (W_end [] (by decide) rfl rfl rfl)
    | some r =>
      obtain ⟨n,j⟩ := r
      rw [hv] at hd
      have hm := decVar_some hv
      obtain ⟨z,rfl⟩ : ∃ z : Nat,n = z := ⟨n.toNat,by omega⟩
      by_cases hbig : (20000 : Int) - acc.length < z
      · have hb2 : decide ((20000 : Int) - ((bE acc).length : Int) < z) = true := decide_eq_true (by omega)
        rw [show unpackZ true s = none by rw [unpackZ,← hgo,uz_big1 hlt hv hbig]]
        refine A_seq (A_seq (A_region ?_));refine M0 (q_moveC rfl rfl rfl) rfl rfl ?_;refine M0 (q_moveC rfl rfl rfl) rfl rfl ?_;refine M0 (q_lens rfl rfl rfl) rfl rfl ?_
        refine M0 (q_lssK rfl rfl rfl rfl (by assumption)) rfl rfl ?_;refine L_nil (T_n ?_);refine A_ifT rfl ?_;refine A_skip (T_n (A_block (A_seq ?_)))
        refine A_region ?_;refine M0 (q_moveC rfl rfl rfl) rfl rfl ?_;refine M0 (q_moveC rfl rfl rfl) rfl rfl ?_;refine M1 (q_call rfl rfl (hd) rfl rfl rfl) rfl rfl ?_
        refine M0 (q_moveT rfl rfl rfl) rfl rfl ?_;refine M0 (q_ext rfl rfl rfl rfl) rfl rfl ?_;refine M0 (q_ext rfl rfl rfl rfl) rfl rfl ?_;refine M0 (q_ext rfl rfl rfl rfl) rfl rfl ?_
        refine M0 (q_assignC rfl rfl rfl) rfl rfl ?_;refine M0 (q_assignC rfl rfl rfl) rfl rfl ?_;refine M0 (q_assignC rfl rfl rfl) rfl rfl ?_;refine L_nil (T_n (A_seq ?_))
        refine A_seq (A_region ?_);refine M0 (q_moveC rfl rfl rfl) rfl rfl ?_;refine M0 (q_not rfl rfl rfl) rfl rfl ?_;refine M0 (q_moveC rfl rfl rfl) rfl rfl ?_
        refine M_yes rfl rfl rfl ?_;refine M0 (q_moveC rfl rfl rfl) rfl rfl ?_;refine M_yes rfl rfl rfl ?_;refine M0 (q_moveC rfl rfl rfl) rfl rfl ?_;refine M_yes rfl rfl rfl ?_
        refine M0 (q_lenr rfl rfl rfl rfl) rfl rfl ?_;refine M_yes rfl rfl rfl ?_;refine M0 (q_sub rfl rfl rfl rfl (by omega)) rfl rfl ?_;refine M_yes rfl rfl rfl ?_
        refine M0 (q_gtrK rfl rfl rfl rfl (by assumption)) rfl rfl ?_;refine M0 (q_pickF rfl rfl rfl rfl) rfl rfl ?_;refine L_nil (T_n ?_);refine A_ifT rfl ?_;refine A_seq ?_
        refine A_region ?_;refine M0 (q_assignC rfl rfl rfl) rfl rfl ?_;refine M0 (q_assignC rfl rfl rfl) rfl rfl ?_;refine L_nil (T_n (A_ret (T_r (B_r ?_))))
        refine T_r (B_r (T_r (F_r ?_)))
        exact E_tmp2 rfl rfl rfl (W_end [] (by decide) rfl rfl rfl)
      have hb2 : decide ((20000 : Int) - ((bE acc).length : Int) < z) = false := decide_eq_false (by omega)
      have hut := I_UnpackText s ((pos : Int) + (j : Int)) (by omega) ⟨by omega,by omega⟩
      cases hu : unpackText s ((pos : Int) + (j : Int)) with
      | none =>
        rw [hu] at hut
        rw [show unpackZ true s = none by rw [unpackZ,← hgo,uz_none2 hlt hv hu]]
        refine A_seq (A_seq (A_region ?_));refine M0 (q_moveC rfl rfl rfl) rfl rfl ?_;refine M0 (q_moveC rfl rfl rfl) rfl rfl ?_;refine M0 (q_lens rfl rfl rfl) rfl rfl ?_
        refine M0 (q_lssK rfl rfl rfl rfl (by assumption)) rfl rfl ?_;refine L_nil (T_n ?_);refine A_ifT rfl ?_;refine A_skip (T_n (A_block (A_seq ?_)))
        refine A_region ?_;refine M0 (q_moveC rfl rfl rfl) rfl rfl ?_;refine M0 (q_moveC rfl rfl rfl) rfl rfl ?_;refine M1 (q_call rfl rfl (hd) rfl rfl rfl) rfl rfl ?_
        refine M0 (q_moveT rfl rfl rfl) rfl rfl ?_;refine M0 (q_ext rfl rfl rfl rfl) rfl rfl ?_;refine M0 (q_ext rfl rfl rfl rfl) rfl rfl ?_;refine M0 (q_ext rfl rfl rfl rfl) rfl rfl ?_
        refine M0 (q_assignC rfl rfl rfl) rfl rfl ?_;refine M0 (q_assignC rfl rfl rfl) rfl rfl ?_;refine M0 (q_assignC rfl rfl rfl) rfl rfl ?_;refine L_nil (T_n (A_seq ?_))
        refine A_seq (A_region ?_);refine M0 (q_moveC rfl rfl rfl) rfl rfl ?_;refine M0 (q_not rfl rfl rfl) rfl rfl ?_;refine M0 (q_moveC rfl rfl rfl) rfl rfl ?_
        refine M_yes rfl rfl rfl ?_;refine M0 (q_moveC rfl rfl rfl) rfl rfl ?_;refine M_yes rfl rfl rfl ?_;refine M0 (q_moveC rfl rfl rfl) rfl rfl ?_;refine M_yes rfl rfl rfl ?_
        refine M0 (q_lenr rfl rfl rfl rfl) rfl rfl ?_;refine M_yes rfl rfl rfl ?_;refine M0 (q_sub rfl rfl rfl rfl (by omega)) rfl rfl ?_;refine M_yes rfl rfl rfl ?_
        refine M0 (q_gtrK rfl rfl rfl rfl (by assumption)) rfl rfl ?_;refine M0 (q_pickF rfl rfl rfl rfl) rfl rfl ?_;refine L_nil (T_n ?_);refine A_ifF rfl ?_;refine A_skip ?_
        refine T_n (A_seq (A_region ?_));refine M0 (q_moveC rfl rfl rfl) rfl rfl ?_;refine M0 (q_moveC rfl rfl rfl) rfl rfl ?_
        refine M0 (q_add rfl rfl rfl rfl (by omega)) rfl rfl ?_;refine M0 (q_assignC rfl rfl rfl) rfl rfl ?_;refine L_nil (T_n (A_seq (A_region ?_)))
        refine M0 (q_moveC rfl rfl rfl) rfl rfl ?_;refine M0 (q_moveC rfl rfl rfl) rfl rfl ?_;refine M1 (q_call rfl rfl (hut) rfl rfl rfl) rfl rfl ?_
        refine M0 (q_moveT rfl rfl rfl) rfl rfl ?_;refine M0 (q_ext rfl rfl rfl rfl) rfl rfl ?_;refine M0 (q_ext rfl rfl rfl rfl) rfl rfl ?_;refine M0 (q_ext rfl rfl rfl rfl) rfl rfl ?_
        refine M0 (q_assignC rfl rfl rfl) rfl rfl ?_;refine M0 (q_assignC rfl rfl rfl) rfl rfl ?_;refine M0 (q_assignC rfl rfl rfl) rfl rfl ?_;refine L_nil (T_n (A_seq ?_))
        refine A_seq (A_region ?_);refine M0 (q_moveC rfl rfl rfl) rfl rfl ?_;refine M0 (q_not rfl rfl rfl) rfl rfl ?_;refine M0 (q_moveC rfl rfl rfl) rfl rfl ?_
        refine M_no rfl rfl rfl rfl rfl rfl ?_;refine M_no rfl rfl rfl rfl rfl rfl ?_;refine M_no rfl rfl rfl rfl rfl rfl ?_;refine M_no rfl rfl rfl rfl rfl rfl ?_
        refine M_no rfl rfl rfl rfl rfl rfl ?_;refine M_no rfl rfl rfl rfl rfl rfl ?_;refine M_no rfl rfl rfl rfl rfl rfl ?_;refine M_no rfl rfl rfl rfl rfl rfl ?_
        refine M0 (q_pickT rfl rfl rfl rfl) rfl rfl ?_;refine L_nil (T_n ?_);refine A_ifT rfl ?_;refine A_seq (A_region ?_);refine M0 (q_assignC rfl rfl rfl) rfl rfl ?_
        refine M0 (q_assignC rfl rfl rfl) rfl rfl ?_;refine L_nil (T_n (A_ret (T_r (B_r (T_r (B_r (T_r (F_r ?_))))))))
        exact E_tmp2 rfl rfl rfl (W_end [] (by decide) rfl rfl rfl)
      | some r =>
        obtain ⟨t,k⟩ := r
        rw [hu] at hut
        have hus := unpackText_some hu
        by_cases hbig2 : (20000 : Int) - acc.length < z + t.size
        · have hb3 : decide ((20000 : Int) - ((bE acc).length : Int) - z < t.size) = true := decide_eq_true (by omega)
          rw [show unpackZ true s = none by rw [unpackZ,← hgo,uz_big hlt hv hu hbig2]]
          refine A_seq (A_seq (A_region ?_));refine M0 (q_moveC rfl rfl rfl) rfl rfl ?_;refine M0 (q_moveC rfl rfl rfl) rfl rfl ?_;refine M0 (q_lens rfl rfl rfl) rfl rfl ?_
          refine M0 (q_lssK rfl rfl rfl rfl (by assumption)) rfl rfl ?_;refine L_nil (T_n ?_);refine A_ifT rfl ?_;refine A_skip (T_n (A_block (A_seq ?_)))
          refine A_region ?_;refine M0 (q_moveC rfl rfl rfl) rfl rfl ?_;refine M0 (q_moveC rfl rfl rfl) rfl rfl ?_;refine M1 (q_call rfl rfl (hd) rfl rfl rfl) rfl rfl ?_
          refine M0 (q_moveT rfl rfl rfl) rfl rfl ?_;refine M0 (q_ext rfl rfl rfl rfl) rfl rfl ?_;refine M0 (q_ext rfl rfl rfl rfl) rfl rfl ?_;refine M0 (q_ext rfl rfl rfl rfl) rfl rfl ?_
          refine M0 (q_assignC rfl rfl rfl) rfl rfl ?_;refine M0 (q_assignC rfl rfl rfl) rfl rfl ?_;refine M0 (q_assignC rfl rfl rfl) rfl rfl ?_;refine L_nil (T_n (A_seq ?_))
          refine A_seq (A_region ?_);refine M0 (q_moveC rfl rfl rfl) rfl rfl ?_;refine M0 (q_not rfl rfl rfl) rfl rfl ?_;refine M0 (q_moveC rfl rfl rfl) rfl rfl ?_
          refine M_yes rfl rfl rfl ?_;refine M0 (q_moveC rfl rfl rfl) rfl rfl ?_;refine M_yes rfl rfl rfl ?_;refine M0 (q_moveC rfl rfl rfl) rfl rfl ?_;refine M_yes rfl rfl rfl ?_
          refine M0 (q_lenr rfl rfl rfl rfl) rfl rfl ?_;refine M_yes rfl rfl rfl ?_;refine M0 (q_sub rfl rfl rfl rfl (by omega)) rfl rfl ?_;refine M_yes rfl rfl rfl ?_
          refine M0 (q_gtrK rfl rfl rfl rfl (by assumption)) rfl rfl ?_;refine M0 (q_pickF rfl rfl rfl rfl) rfl rfl ?_;refine L_nil (T_n ?_);refine A_ifF rfl ?_;refine A_skip ?_
          refine T_n (A_seq (A_region ?_));refine M0 (q_moveC rfl rfl rfl) rfl rfl ?_;refine M0 (q_moveC rfl rfl rfl) rfl rfl ?_
          refine M0 (q_add rfl rfl rfl rfl (by omega)) rfl rfl ?_;refine M0 (q_assignC rfl rfl rfl) rfl rfl ?_;refine L_nil (T_n (A_seq (A_region ?_)))
          refine M0 (q_moveC rfl rfl rfl) rfl rfl ?_;refine M0 (q_moveC rfl rfl rfl) rfl rfl ?_;refine M1 (q_call rfl rfl (hut) rfl rfl rfl) rfl rfl ?_
          refine M0 (q_moveT rfl rfl rfl) rfl rfl ?_;refine M0 (q_ext rfl rfl rfl rfl) rfl rfl ?_;refine M0 (q_ext rfl rfl rfl rfl) rfl rfl ?_;refine M0 (q_ext rfl rfl rfl rfl) rfl rfl ?_
          refine M0 (q_assignC rfl rfl rfl) rfl rfl ?_;refine M0 (q_assignC rfl rfl rfl) rfl rfl ?_;refine M0 (q_assignC rfl rfl rfl) rfl rfl ?_;refine L_nil (T_n (A_seq ?_))
          refine A_seq (A_region ?_);refine M0 (q_moveC rfl rfl rfl) rfl rfl ?_;refine M0 (q_not rfl rfl rfl) rfl rfl ?_;refine M0 (q_moveC rfl rfl rfl) rfl rfl ?_
          refine M_yes rfl rfl rfl ?_;refine M0 (q_moveC rfl rfl rfl) rfl rfl ?_;refine M_yes rfl rfl rfl ?_;refine M0 (q_lens rfl rfl rfl) rfl rfl ?_;refine M_yes rfl rfl rfl ?_
          refine M0 (q_moveC rfl rfl rfl) rfl rfl ?_;refine M_yes rfl rfl rfl ?_;refine M0 (q_lenr rfl rfl rfl rfl) rfl rfl ?_;refine M_yes rfl rfl rfl ?_
          refine M0 (q_sub rfl rfl rfl rfl (by omega)) rfl rfl ?_;refine M_yes rfl rfl rfl ?_;refine M0 (q_moveC rfl rfl rfl) rfl rfl ?_;refine M_yes rfl rfl rfl ?_
          refine M0 (q_sub rfl rfl rfl rfl (by omega)) rfl rfl ?_;refine M_yes rfl rfl rfl ?_;refine M0 (q_gtrK rfl rfl rfl rfl (by assumption)) rfl rfl ?_
          refine M0 (q_pickF rfl rfl rfl rfl) rfl rfl ?_;refine L_nil (T_n ?_);refine A_ifT rfl ?_;refine A_seq (A_region ?_);refine M0 (q_assignC rfl rfl rfl) rfl rfl ?_
          refine M0 (q_assignC rfl rfl rfl) rfl rfl ?_;refine L_nil (T_n (A_ret (T_r (B_r (T_r (B_r (T_r (F_r ?_))))))))
          exact E_tmp2 rfl rfl rfl (W_end [] (by decide) rfl rfl rfl)
        have hb3 : decide ((20000 : Int) - ((bE acc).length : Int) - z < t.size) = false := decide_eq_false (by omega)
        have hz1 : (bE (List.replicate z 0)).length = z := by rw [bE_len,List.length_replicate]
        have ht1 : t.data.toList.length = t.size := by simp
        by_cases hemp : (z : Int) = 0 ∧ t.size = 0
        · have e1 : decide ((z : Int) = 0) = true := decide_eq_true hemp.1
          have e2 : decide ((t.size : Int) = 0) = true := decide_eq_true (by omega)
          rw [show unpackZ true s = none by rw [unpackZ,← hgo,uz_emp hlt hv hu hemp]]
          refine A_seq (A_seq (A_region ?_));refine M0 (q_moveC rfl rfl rfl) rfl rfl ?_;refine M0 (q_moveC rfl rfl rfl) rfl rfl ?_;refine M0 (q_lens rfl rfl rfl) rfl rfl ?_
          refine M0 (q_lssK rfl rfl rfl rfl (by assumption)) rfl rfl ?_;refine L_nil (T_n ?_);refine A_ifT rfl ?_;refine A_skip (T_n (A_block (A_seq ?_)))
          refine A_region ?_;refine M0 (q_moveC rfl rfl rfl) rfl rfl ?_;refine M0 (q_moveC rfl rfl rfl) rfl rfl ?_;refine M1 (q_call rfl rfl (hd) rfl rfl rfl) rfl rfl ?_
          refine M0 (q_moveT rfl rfl rfl) rfl rfl ?_;refine M0 (q_ext rfl rfl rfl rfl) rfl rfl ?_;refine M0 (q_ext rfl rfl rfl rfl) rfl rfl ?_;refine M0 (q_ext rfl rfl rfl rfl) rfl rfl ?_
          refine M0 (q_assignC rfl rfl rfl) rfl rfl ?_;refine M0 (q_assignC rfl rfl rfl) rfl rfl ?_;refine M0 (q_assignC rfl rfl rfl) rfl rfl ?_;refine L_nil (T_n (A_seq ?_))
          refine A_seq (A_region ?_);refine M0 (q_moveC rfl rfl rfl) rfl rfl ?_;refine M0 (q_not rfl rfl rfl) rfl rfl ?_;refine M0 (q_moveC rfl rfl rfl) rfl rfl ?_
          refine M_yes rfl rfl rfl ?_;refine M0 (q_moveC rfl rfl rfl) rfl rfl ?_;refine M_yes rfl rfl rfl ?_;refine M0 (q_moveC rfl rfl rfl) rfl rfl ?_;refine M_yes rfl rfl rfl ?_
          refine M0 (q_lenr rfl rfl rfl rfl) rfl rfl ?_;refine M_yes rfl rfl rfl ?_;refine M0 (q_sub rfl rfl rfl rfl (by omega)) rfl rfl ?_;refine M_yes rfl rfl rfl ?_
          refine M0 (q_gtrK rfl rfl rfl rfl (by assumption)) rfl rfl ?_;refine M0 (q_pickF rfl rfl rfl rfl) rfl rfl ?_;refine L_nil (T_n ?_);refine A_ifF rfl ?_;refine A_skip ?_
          refine T_n (A_seq (A_region ?_));refine M0 (q_moveC rfl rfl rfl) rfl rfl ?_;refine M0 (q_moveC rfl rfl rfl) rfl rfl ?_
          refine M0 (q_add rfl rfl rfl rfl (by omega)) rfl rfl ?_;refine M0 (q_assignC rfl rfl rfl) rfl rfl ?_;refine L_nil (T_n (A_seq (A_region ?_)))
          refine M0 (q_moveC rfl rfl rfl) rfl rfl ?_;refine M0 (q_moveC rfl rfl rfl) rfl rfl ?_;refine M1 (q_call rfl rfl (hut) rfl rfl rfl) rfl rfl ?_
          refine M0 (q_moveT rfl rfl rfl) rfl rfl ?_;refine M0 (q_ext rfl rfl rfl rfl) rfl rfl ?_;refine M0 (q_ext rfl rfl rfl rfl) rfl rfl ?_;refine M0 (q_ext rfl rfl rfl rfl) rfl rfl ?_
          refine M0 (q_assignC rfl rfl rfl) rfl rfl ?_;refine M0 (q_assignC rfl rfl rfl) rfl rfl ?_;refine M0 (q_assignC rfl rfl rfl) rfl rfl ?_;refine L_nil (T_n (A_seq ?_))
          refine A_seq (A_region ?_);refine M0 (q_moveC rfl rfl rfl) rfl rfl ?_;refine M0 (q_not rfl rfl rfl) rfl rfl ?_;refine M0 (q_moveC rfl rfl rfl) rfl rfl ?_
          refine M_yes rfl rfl rfl ?_;refine M0 (q_moveC rfl rfl rfl) rfl rfl ?_;refine M_yes rfl rfl rfl ?_;refine M0 (q_lens rfl rfl rfl) rfl rfl ?_;refine M_yes rfl rfl rfl ?_
          refine M0 (q_moveC rfl rfl rfl) rfl rfl ?_;refine M_yes rfl rfl rfl ?_;refine M0 (q_lenr rfl rfl rfl rfl) rfl rfl ?_;refine M_yes rfl rfl rfl ?_
          refine M0 (q_sub rfl rfl rfl rfl (by omega)) rfl rfl ?_;refine M_yes rfl rfl rfl ?_;refine M0 (q_moveC rfl rfl rfl) rfl rfl ?_;refine M_yes rfl rfl rfl ?_
          refine M0 (q_sub rfl rfl rfl rfl (by omega)) rfl rfl ?_;refine M_yes rfl rfl rfl ?_;refine M0 (q_gtrK rfl rfl rfl rfl (by assumption)) rfl rfl ?_
          refine M0 (q_pickF rfl rfl rfl rfl) rfl rfl ?_;refine L_nil (T_n ?_);refine A_ifF rfl ?_;refine A_skip (T_n (A_seq (A_region ?_)))
          refine M0 (q_moveC rfl rfl rfl) rfl rfl ?_;refine M0 (q_moveC rfl rfl rfl) rfl rfl ?_;refine M0 (q_add rfl rfl rfl rfl (by omega)) rfl rfl ?_
          refine M0 (q_assignC rfl rfl rfl) rfl rfl ?_;refine L_nil (T_n (A_seq (A_region ?_)));refine M0 (q_moveC rfl rfl rfl) rfl rfl ?_
          refine M0 (q_moveC rfl rfl rfl) rfl rfl ?_;refine M_appz 9 rfl rfl rfl rfl rfl rfl rfl (by omega) ?_;refine M0 (q_assignC rfl rfl rfl) rfl rfl ?_;refine L_nil (T_n ?_)
          refine A_seq (A_region ?_);refine M0 (q_moveC rfl rfl rfl) rfl rfl ?_;refine M0 (q_moveC rfl rfl rfl) rfl rfl ?_
          refine M_appstr rfl rfl rfl rfl rfl rfl rfl (by simp only [List.length_append]; omega) (by simp only [List.length_append]; omega) ?_;refine M0 (q_assignC rfl rfl rfl) rfl rfl ?_
          refine L_nil (T_n (A_seq (A_region ?_)));refine M0 (q_moveC rfl rfl rfl) rfl rfl ?_;refine M0 (q_eqlK rfl rfl rfl rfl (by assumption)) rfl rfl ?_
          refine M0 (q_moveC rfl rfl rfl) rfl rfl ?_;refine M_yes rfl rfl rfl ?_;refine M0 (q_moveC rfl rfl rfl) rfl rfl ?_;refine M_yes rfl rfl rfl ?_;refine M0 (q_lens rfl rfl rfl) rfl rfl ?_
          refine M_yes rfl rfl rfl ?_;refine M0 (q_eqlK rfl rfl rfl rfl (by assumption)) rfl rfl ?_;refine M0 (q_pickT rfl rfl rfl rfl) rfl rfl ?_;refine L_nil (T_n ?_)
          refine A_ifT rfl ?_;refine A_seq (A_region ?_);refine M0 (q_assignC rfl rfl rfl) rfl rfl ?_;refine M0 (q_assignC rfl rfl rfl) rfl rfl ?_;refine L_nil (T_n ?_)
          refine A_ret (B_r (T_r (B_r (T_r (F_r ?_)))))
          exact E_tmp2 rfl rfl rfl (W_end [] (by decide) rfl rfl rfl)
        have hgo2 := uz_step (acc := acc) (f := g) (b := true) hlt hv hu hbig2 (fun _ => hemp)
        rw [hgo,show ((z : Int)).toNat = z by omega] at hgo2
        by_cases hz0 : (z : Int) = 0
        · have e1 : decide ((z : Int) = 0) = true := decide_eq_true hz0
          have e2 : decide ((t.size : Int) = 0) = false := decide_eq_false (by omega)
          refine A_seq (A_seq (A_region ?_));refine M0 (q_moveC rfl rfl rfl) rfl rfl ?_;refine M0 (q_moveC rfl rfl rfl) rfl rfl ?_;refine M0 (q_lens rfl rfl rfl) rfl rfl ?_
          refine M0 (q_lssK rfl rfl rfl rfl (by assumption)) rfl rfl ?_;refine L_nil (T_n ?_);refine A_ifT rfl ?_;refine A_skip (T_n (A_block (A_seq ?_)))
          refine A_region ?_;refine M0 (q_moveC rfl rfl rfl) rfl rfl ?_;refine M0 (q_moveC rfl rfl rfl) rfl rfl ?_;refine M1 (q_call rfl rfl (hd) rfl rfl rfl) rfl rfl ?_
          refine M0 (q_moveT rfl rfl rfl) rfl rfl ?_;refine M0 (q_ext rfl rfl rfl rfl) rfl rfl ?_;refine M0 (q_ext rfl rfl rfl rfl) rfl rfl ?_;refine M0 (q_ext rfl rfl rfl rfl) rfl rfl ?_
          refine M0 (q_assignC rfl rfl rfl) rfl rfl ?_;refine M0 (q_assignC rfl rfl rfl) rfl rfl ?_;refine M0 (q_assignC rfl rfl rfl) rfl rfl ?_;refine L_nil (T_n (A_seq ?_))
          refine A_seq (A_region ?_);refine M0 (q_moveC rfl rfl rfl) rfl rfl ?_;refine M0 (q_not rfl rfl rfl) rfl rfl ?_;refine M0 (q_moveC rfl rfl rfl) rfl rfl ?_
          refine M_yes rfl rfl rfl ?_;refine M0 (q_moveC rfl rfl rfl) rfl rfl ?_;refine M_yes rfl rfl rfl ?_;refine M0 (q_moveC rfl rfl rfl) rfl rfl ?_;refine M_yes rfl rfl rfl ?_
          refine M0 (q_lenr rfl rfl rfl rfl) rfl rfl ?_;refine M_yes rfl rfl rfl ?_;refine M0 (q_sub rfl rfl rfl rfl (by omega)) rfl rfl ?_;refine M_yes rfl rfl rfl ?_
          refine M0 (q_gtrK rfl rfl rfl rfl (by assumption)) rfl rfl ?_;refine M0 (q_pickF rfl rfl rfl rfl) rfl rfl ?_;refine L_nil (T_n ?_);refine A_ifF rfl ?_;refine A_skip ?_
          refine T_n (A_seq (A_region ?_));refine M0 (q_moveC rfl rfl rfl) rfl rfl ?_;refine M0 (q_moveC rfl rfl rfl) rfl rfl ?_
          refine M0 (q_add rfl rfl rfl rfl (by omega)) rfl rfl ?_;refine M0 (q_assignC rfl rfl rfl) rfl rfl ?_;refine L_nil (T_n (A_seq (A_region ?_)))
          refine M0 (q_moveC rfl rfl rfl) rfl rfl ?_;refine M0 (q_moveC rfl rfl rfl) rfl rfl ?_;refine M1 (q_call rfl rfl (hut) rfl rfl rfl) rfl rfl ?_
          refine M0 (q_moveT rfl rfl rfl) rfl rfl ?_;refine M0 (q_ext rfl rfl rfl rfl) rfl rfl ?_;refine M0 (q_ext rfl rfl rfl rfl) rfl rfl ?_;refine M0 (q_ext rfl rfl rfl rfl) rfl rfl ?_
          refine M0 (q_assignC rfl rfl rfl) rfl rfl ?_;refine M0 (q_assignC rfl rfl rfl) rfl rfl ?_;refine M0 (q_assignC rfl rfl rfl) rfl rfl ?_;refine L_nil (T_n (A_seq ?_))
          refine A_seq (A_region ?_);refine M0 (q_moveC rfl rfl rfl) rfl rfl ?_;refine M0 (q_not rfl rfl rfl) rfl rfl ?_;refine M0 (q_moveC rfl rfl rfl) rfl rfl ?_
          refine M_yes rfl rfl rfl ?_;refine M0 (q_moveC rfl rfl rfl) rfl rfl ?_;refine M_yes rfl rfl rfl ?_;refine M0 (q_lens rfl rfl rfl) rfl rfl ?_;refine M_yes rfl rfl rfl ?_
          refine M0 (q_moveC rfl rfl rfl) rfl rfl ?_;refine M_yes rfl rfl rfl ?_;refine M0 (q_lenr rfl rfl rfl rfl) rfl rfl ?_;refine M_yes rfl rfl rfl ?_
          refine M0 (q_sub rfl rfl rfl rfl (by omega)) rfl rfl ?_;refine M_yes rfl rfl rfl ?_;refine M0 (q_moveC rfl rfl rfl) rfl rfl ?_;refine M_yes rfl rfl rfl ?_
          refine M0 (q_sub rfl rfl rfl rfl (by omega)) rfl rfl ?_;refine M_yes rfl rfl rfl ?_;refine M0 (q_gtrK rfl rfl rfl rfl (by assumption)) rfl rfl ?_
          refine M0 (q_pickF rfl rfl rfl rfl) rfl rfl ?_;refine L_nil (T_n ?_);refine A_ifF rfl ?_;refine A_skip (T_n (A_seq (A_region ?_)))
          refine M0 (q_moveC rfl rfl rfl) rfl rfl ?_;refine M0 (q_moveC rfl rfl rfl) rfl rfl ?_;refine M0 (q_add rfl rfl rfl rfl (by omega)) rfl rfl ?_
          refine M0 (q_assignC rfl rfl rfl) rfl rfl ?_;refine L_nil (T_n (A_seq (A_region ?_)));refine M0 (q_moveC rfl rfl rfl) rfl rfl ?_
          refine M0 (q_moveC rfl rfl rfl) rfl rfl ?_;refine M_appz 9 rfl rfl rfl rfl rfl rfl rfl (by omega) ?_;refine M0 (q_assignC rfl rfl rfl) rfl rfl ?_;refine L_nil (T_n ?_)
          refine A_seq (A_region ?_);refine M0 (q_moveC rfl rfl rfl) rfl rfl ?_;refine M0 (q_moveC rfl rfl rfl) rfl rfl ?_
          refine M_appstr rfl rfl rfl rfl rfl rfl rfl (by simp only [List.length_append]; omega) (by simp only [List.length_append]; omega) ?_;refine M0 (q_assignC rfl rfl rfl) rfl rfl ?_
          refine L_nil (T_n (A_seq (A_region ?_)));refine M0 (q_moveC rfl rfl rfl) rfl rfl ?_;refine M0 (q_eqlK rfl rfl rfl rfl (by assumption)) rfl rfl ?_
          refine M0 (q_moveC rfl rfl rfl) rfl rfl ?_;refine M_yes rfl rfl rfl ?_;refine M0 (q_moveC rfl rfl rfl) rfl rfl ?_;refine M_yes rfl rfl rfl ?_;refine M0 (q_lens rfl rfl rfl) rfl rfl ?_
          refine M_yes rfl rfl rfl ?_;refine M0 (q_eqlK rfl rfl rfl rfl (by assumption)) rfl rfl ?_;refine M0 (q_pickT rfl rfl rfl rfl) rfl rfl ?_;refine L_nil (T_n ?_)
          refine A_ifF rfl ?_;refine A_skip (B_n (T_n ?_))
          refine ⟨s.size - (pos + j + k),(by omega),(fun (pos : Nat) (acc : List UInt8) (f : Nat) => (⟨_,[(0,S s),(4,.o (.c (.ref 0))),(5,I pos)],[.row 1 (bE acc)]⟩ : St)) (pos + j + k) (acc ++ List.replicate z 0 ++ t.data.toList) (g),W_go [0] (by decide) rfl (row_eq (by rw [bE_app,bE_app])) (.cons rfl (.cons rfl (.cons rfl (.nil)))),pos + j + k,acc ++ List.replicate z 0 ++ t.data.toList,g,rfl,⟨by omega,by omega,by simp only [List.length_append,List.length_replicate]; omega,hgo2.symm⟩,rfl⟩
        · have e1 : decide ((z : Int) = 0) = false := decide_eq_false hz0
          refine A_seq (A_seq (A_region ?_));refine M0 (q_moveC rfl rfl rfl) rfl rfl ?_;refine M0 (q_moveC rfl rfl rfl) rfl rfl ?_;refine M0 (q_lens rfl rfl rfl) rfl rfl ?_
          refine M0 (q_lssK rfl rfl rfl rfl (by assumption)) rfl rfl ?_;refine L_nil (T_n ?_);refine A_ifT rfl ?_;refine A_skip (T_n (A_block (A_seq ?_)))
          refine A_region ?_;refine M0 (q_moveC rfl rfl rfl) rfl rfl ?_;refine M0 (q_moveC rfl rfl rfl) rfl rfl ?_;refine M1 (q_call rfl rfl (hd) rfl rfl rfl) rfl rfl ?_
          refine M0 (q_moveT rfl rfl rfl) rfl rfl ?_;refine M0 (q_ext rfl rfl rfl rfl) rfl rfl ?_;refine M0 (q_ext rfl rfl rfl rfl) rfl rfl ?_;refine M0 (q_ext rfl rfl rfl rfl) rfl rfl ?_
          refine M0 (q_assignC rfl rfl rfl) rfl rfl ?_;refine M0 (q_assignC rfl rfl rfl) rfl rfl ?_;refine M0 (q_assignC rfl rfl rfl) rfl rfl ?_;refine L_nil (T_n (A_seq ?_))
          refine A_seq (A_region ?_);refine M0 (q_moveC rfl rfl rfl) rfl rfl ?_;refine M0 (q_not rfl rfl rfl) rfl rfl ?_;refine M0 (q_moveC rfl rfl rfl) rfl rfl ?_
          refine M_yes rfl rfl rfl ?_;refine M0 (q_moveC rfl rfl rfl) rfl rfl ?_;refine M_yes rfl rfl rfl ?_;refine M0 (q_moveC rfl rfl rfl) rfl rfl ?_;refine M_yes rfl rfl rfl ?_
          refine M0 (q_lenr rfl rfl rfl rfl) rfl rfl ?_;refine M_yes rfl rfl rfl ?_;refine M0 (q_sub rfl rfl rfl rfl (by omega)) rfl rfl ?_;refine M_yes rfl rfl rfl ?_
          refine M0 (q_gtrK rfl rfl rfl rfl (by assumption)) rfl rfl ?_;refine M0 (q_pickF rfl rfl rfl rfl) rfl rfl ?_;refine L_nil (T_n ?_);refine A_ifF rfl ?_;refine A_skip ?_
          refine T_n (A_seq (A_region ?_));refine M0 (q_moveC rfl rfl rfl) rfl rfl ?_;refine M0 (q_moveC rfl rfl rfl) rfl rfl ?_
          refine M0 (q_add rfl rfl rfl rfl (by omega)) rfl rfl ?_;refine M0 (q_assignC rfl rfl rfl) rfl rfl ?_;refine L_nil (T_n (A_seq (A_region ?_)))
          refine M0 (q_moveC rfl rfl rfl) rfl rfl ?_;refine M0 (q_moveC rfl rfl rfl) rfl rfl ?_;refine M1 (q_call rfl rfl (hut) rfl rfl rfl) rfl rfl ?_
          refine M0 (q_moveT rfl rfl rfl) rfl rfl ?_;refine M0 (q_ext rfl rfl rfl rfl) rfl rfl ?_;refine M0 (q_ext rfl rfl rfl rfl) rfl rfl ?_;refine M0 (q_ext rfl rfl rfl rfl) rfl rfl ?_
          refine M0 (q_assignC rfl rfl rfl) rfl rfl ?_;refine M0 (q_assignC rfl rfl rfl) rfl rfl ?_;refine M0 (q_assignC rfl rfl rfl) rfl rfl ?_;refine L_nil (T_n (A_seq ?_))
          refine A_seq (A_region ?_);refine M0 (q_moveC rfl rfl rfl) rfl rfl ?_;refine M0 (q_not rfl rfl rfl) rfl rfl ?_;refine M0 (q_moveC rfl rfl rfl) rfl rfl ?_
          refine M_yes rfl rfl rfl ?_;refine M0 (q_moveC rfl rfl rfl) rfl rfl ?_;refine M_yes rfl rfl rfl ?_;refine M0 (q_lens rfl rfl rfl) rfl rfl ?_;refine M_yes rfl rfl rfl ?_
          refine M0 (q_moveC rfl rfl rfl) rfl rfl ?_;refine M_yes rfl rfl rfl ?_;refine M0 (q_lenr rfl rfl rfl rfl) rfl rfl ?_;refine M_yes rfl rfl rfl ?_
          refine M0 (q_sub rfl rfl rfl rfl (by omega)) rfl rfl ?_;refine M_yes rfl rfl rfl ?_;refine M0 (q_moveC rfl rfl rfl) rfl rfl ?_;refine M_yes rfl rfl rfl ?_
          refine M0 (q_sub rfl rfl rfl rfl (by omega)) rfl rfl ?_;refine M_yes rfl rfl rfl ?_;refine M0 (q_gtrK rfl rfl rfl rfl (by assumption)) rfl rfl ?_
          refine M0 (q_pickF rfl rfl rfl rfl) rfl rfl ?_;refine L_nil (T_n ?_);refine A_ifF rfl ?_;refine A_skip (T_n (A_seq (A_region ?_)))
          refine M0 (q_moveC rfl rfl rfl) rfl rfl ?_;refine M0 (q_moveC rfl rfl rfl) rfl rfl ?_;refine M0 (q_add rfl rfl rfl rfl (by omega)) rfl rfl ?_
          refine M0 (q_assignC rfl rfl rfl) rfl rfl ?_;refine L_nil (T_n (A_seq (A_region ?_)));refine M0 (q_moveC rfl rfl rfl) rfl rfl ?_
          refine M0 (q_moveC rfl rfl rfl) rfl rfl ?_;refine M_appz 9 rfl rfl rfl rfl rfl rfl rfl (by omega) ?_;refine M0 (q_assignC rfl rfl rfl) rfl rfl ?_;refine L_nil (T_n ?_)
          refine A_seq (A_region ?_);refine M0 (q_moveC rfl rfl rfl) rfl rfl ?_;refine M0 (q_moveC rfl rfl rfl) rfl rfl ?_
          refine M_appstr rfl rfl rfl rfl rfl rfl rfl (by simp only [List.length_append]; omega) (by simp only [List.length_append]; omega) ?_;refine M0 (q_assignC rfl rfl rfl) rfl rfl ?_
          refine L_nil (T_n (A_seq (A_region ?_)));refine M0 (q_moveC rfl rfl rfl) rfl rfl ?_;refine M0 (q_eqlK rfl rfl rfl rfl (by assumption)) rfl rfl ?_
          refine M0 (q_moveC rfl rfl rfl) rfl rfl ?_;refine M_no rfl rfl rfl rfl rfl rfl ?_;refine M_no rfl rfl rfl rfl rfl rfl ?_;refine M_no rfl rfl rfl rfl rfl rfl ?_
          refine M0 (q_pickF rfl rfl rfl rfl) rfl rfl ?_;refine L_nil (T_n ?_);refine A_ifF rfl ?_;refine A_skip (B_n (T_n ?_))
          refine ⟨s.size - (pos + j + k),(by omega),(fun (pos : Nat) (acc : List UInt8) (f : Nat) => (⟨_,[(0,S s),(4,.o (.c (.ref 0))),(5,I pos)],[.row 1 (bE acc)]⟩ : St)) (pos + j + k) (acc ++ List.replicate z 0 ++ t.data.toList) (g),W_go [0] (by decide) rfl (row_eq (by rw [bE_app,bE_app])) (.cons rfl (.cons rfl (.cons rfl (.nil)))),pos + j + k,acc ++ List.replicate z 0 ++ t.data.toList,g,rfl,⟨by omega,by omega,by simp only [List.length_append,List.length_replicate]; omega,hgo2.symm⟩,rfl⟩
  · have hb : decide ((pos : Int) < s.size) = false := decide_eq_false (by omega)
    have hend := uz_end (b := true) hlt f acc
    have hpk := I_PackZeros (bs acc) (by rw [bs_size]; omega)
    rw [bs_list] at hpk
    by_cases heq : bs (packZ acc) = s
    · have e1 : decide (bs (packZ acc) ≠ s) = false := decide_eq_false (fun q => q heq)
      rw [show unpackZ true s = some (bs acc) by rw [unpackZ,← hgo,hend]; simp only []; rw [if_pos heq]]
      refine A_seq (A_seq (A_region ?_));refine M0 (q_moveC rfl rfl rfl) rfl rfl ?_;refine M0 (q_moveC rfl rfl rfl) rfl rfl ?_;refine M0 (q_lens rfl rfl rfl) rfl rfl ?_
      refine M0 (q_lssK rfl rfl rfl rfl (by assumption)) rfl rfl ?_;refine L_nil (T_n ?_);refine A_ifF rfl ?_;refine A_exit (T_x (T_x (B_xs (T_n ?_))))
      refine A_seq (A_seq (A_region ?_));refine M0 (q_moveC rfl rfl rfl) rfl rfl ?_;refine M0 (q_bstr rfl rfl rfl rfl) rfl rfl ?_
      refine M0 (q_call0 rfl rfl (hpk) rfl) rfl rfl ?_;refine M0 (q_moveC rfl rfl rfl) rfl rfl ?_;refine M0 (q_sneqK rfl rfl rfl rfl (by assumption)) rfl rfl ?_;refine L_nil (T_n ?_)
      refine A_ifF rfl ?_;refine A_skip (T_n (A_seq (A_region ?_)));refine M0 (q_moveC rfl rfl rfl) rfl rfl ?_;refine M0 (q_bstr rfl rfl rfl rfl) rfl rfl ?_
      refine M0 (q_assignC rfl rfl rfl) rfl rfl ?_;refine M0 (q_assignC rfl rfl rfl) rfl rfl ?_;refine L_nil (T_n (A_ret (F_r ?_)))
      exact E_tmp2 rfl rfl rfl (W_end [] (by decide) rfl rfl rfl)
    · have e1 : decide (bs (packZ acc) ≠ s) = true := decide_eq_true heq
      rw [show unpackZ true s = none by rw [unpackZ,← hgo,hend]; simp only []; rw [if_neg heq]]
      refine A_seq (A_seq (A_region ?_));refine M0 (q_moveC rfl rfl rfl) rfl rfl ?_;refine M0 (q_moveC rfl rfl rfl) rfl rfl ?_;refine M0 (q_lens rfl rfl rfl) rfl rfl ?_
      refine M0 (q_lssK rfl rfl rfl rfl (by assumption)) rfl rfl ?_;refine L_nil (T_n ?_);refine A_ifF rfl ?_;refine A_exit (T_x (T_x (B_xs (T_n ?_))))
      refine A_seq (A_seq (A_region ?_));refine M0 (q_moveC rfl rfl rfl) rfl rfl ?_;refine M0 (q_bstr rfl rfl rfl rfl) rfl rfl ?_
      refine M0 (q_call0 rfl rfl (hpk) rfl) rfl rfl ?_;refine M0 (q_moveC rfl rfl rfl) rfl rfl ?_;refine M0 (q_sneqK rfl rfl rfl rfl (by assumption)) rfl rfl ?_;refine L_nil (T_n ?_)
      refine A_ifT rfl ?_;refine A_seq (A_region ?_);refine M0 (q_assignC rfl rfl rfl) rfl rfl ?_;refine M0 (q_assignC rfl rfl rfl) rfl rfl ?_;refine L_nil (T_n ?_)
      refine A_ret (T_r (F_r ?_))
      exact E_tmp2 rfl rfl rfl (W_end [] (by decide) rfl rfl rfl)
set_option maxHeartbeats 8000000 in
theorem S_UnpackZeros (s : ByteArray) (hs : s.size ≤ 1099511627775) : Con Try.prog 72 [] [astr s] [] (otR (unpackZ false s)) := by
  refine Con.of Try.func72 rfl Try.ntmps72 rfl (fun E => ?_)
  refine A_seq (A_region ?_);refine M0 (q_assignC rfl rfl rfl) rfl rfl ?_;refine M0 (q_assignC rfl rfl rfl) rfl rfl ?_;refine L_nil (T_n (A_seq ?_))
  refine A_region ?_;refine M0 (q_assignC rfl rfl rfl) rfl rfl ?_;refine L_nil (T_n (A_seq (A_seq (A_region ?_))))
  refine M0 (q_assignC rfl rfl rfl) rfl rfl ?_;refine L_nil (T_n (A_block ?_))
  refine A_loop (fun m__ st => ∃ (pos : Nat) (acc : List UInt8) (f : Nat),s.size - pos = m__ ∧ (s.size ≤ pos + f ∧ pos ≤ s.size ∧ acc.length ≤ 20000 ∧ uzGo s false f pos acc = uzGo s false s.size 0 []) ∧ st = (fun (pos : Nat) (acc : List UInt8) (f : Nat) => (⟨_,[(0,S s),(4,S (bs acc)),(5,I pos)],[]⟩ : St)) (pos) (acc) (f)) ((fun (pos : Nat) (acc : List UInt8) (f : Nat) => s.size - pos) (0) ([]) (s.size)) ⟨(fun (pos : Nat) (acc : List UInt8) (f : Nat) => (⟨_,[(0,S s),(4,S (bs acc)),(5,I pos)],[]⟩ : St)) (0) ([]) (s.size),W_go [] (by decide) rfl (rfl) (.cons rfl (.cons rfl (.cons rfl (.nil)))),0,[],s.size,rfl,⟨by omega,by omega,by simp,rfl⟩,rfl⟩ ?_
  rintro m_A _ ⟨pos,acc,f,hk_A,hp_A,rfl⟩
  obtain ⟨hfu,hps,hal,hgo⟩ := hp_A
  have hla := bs_size acc
  by_cases hlt : pos < s.size
  · have hb : decide ((pos : Int) < s.size) = true := decide_eq_true (by omega)
    have hd := S_DecodeVarint s (pos : Int) (by omega) ⟨by omega,by omega⟩
    obtain ⟨g,rfl⟩ : ∃ g,f = g + 1 := ⟨f - 1,by omega⟩
    cases hv : decVar s (pos : Int) with
    | none =>
      rw [hv] at hd
      have hut := S_UnpackText s ((pos : Int) + (0 : Int)) (by omega) ⟨by omega,by omega⟩
      rw [show unpackText s ((pos : Int) + (0 : Int)) = none by rw [Int.add_zero,unpackText,hv]] at hut
      rw [show unpackZ false s = none by rw [unpackZ,← hgo,uz_none1 hlt hv]]
      refine A_seq (A_seq (A_region ?_));refine M0 (q_moveC rfl rfl rfl) rfl rfl ?_;refine M0 (q_moveC rfl rfl rfl) rfl rfl ?_;refine M0 (q_lens rfl rfl rfl) rfl rfl ?_
      refine M0 (q_lssK rfl rfl rfl rfl (by assumption)) rfl rfl ?_;refine L_nil (T_n ?_);refine A_ifT rfl ?_;refine A_skip (T_n (A_block (A_seq ?_)))
      refine A_region ?_;refine M0 (q_moveC rfl rfl rfl) rfl rfl ?_;refine M0 (q_moveC rfl rfl rfl) rfl rfl ?_;refine M1 (q_call rfl rfl (hd) rfl rfl rfl) rfl rfl ?_
      refine M0 (q_moveT rfl rfl rfl) rfl rfl ?_;refine M0 (q_ext rfl rfl rfl rfl) rfl rfl ?_;refine M0 (q_ext rfl rfl rfl rfl) rfl rfl ?_;refine M0 (q_ext rfl rfl rfl rfl) rfl rfl ?_
      refine M0 (q_assignC rfl rfl rfl) rfl rfl ?_;refine M0 (q_assignC rfl rfl rfl) rfl rfl ?_;refine M0 (q_assignC rfl rfl rfl) rfl rfl ?_;refine L_nil (T_n (A_seq ?_))
      refine A_region ?_;refine M0 (q_moveC rfl rfl rfl) rfl rfl ?_;refine M0 (q_moveC rfl rfl rfl) rfl rfl ?_;refine M0 (q_moveC rfl rfl rfl) rfl rfl ?_
      refine M0 (q_add rfl rfl rfl rfl (by omega)) rfl rfl ?_;refine M1 (q_call rfl rfl (hut) rfl rfl rfl) rfl rfl ?_;refine M0 (q_moveT rfl rfl rfl) rfl rfl ?_
      refine M0 (q_ext rfl rfl rfl rfl) rfl rfl ?_;refine M0 (q_ext rfl rfl rfl rfl) rfl rfl ?_;refine M0 (q_ext rfl rfl rfl rfl) rfl rfl ?_;refine M0 (q_assignC rfl rfl rfl) rfl rfl ?_
      refine M0 (q_assignC rfl rfl rfl) rfl rfl ?_;refine M0 (q_assignC rfl rfl rfl) rfl rfl ?_;refine L_nil (T_n (A_seq (A_seq (A_region ?_))))
      refine M0 (q_moveC rfl rfl rfl) rfl rfl ?_;refine M0 (q_not rfl rfl rfl) rfl rfl ?_;refine M0 (q_moveC rfl rfl rfl) rfl rfl ?_;refine M_no rfl rfl rfl rfl rfl rfl ?_
      refine M_no rfl rfl rfl rfl rfl rfl ?_;refine M0 (q_pickT rfl rfl rfl rfl) rfl rfl ?_;refine M0 (q_moveC rfl rfl rfl) rfl rfl ?_;refine M_no rfl rfl rfl rfl rfl rfl ?_
      refine M_no rfl rfl rfl rfl rfl rfl ?_;refine M_no rfl rfl rfl rfl rfl rfl ?_;refine M_no rfl rfl rfl rfl rfl rfl ?_;refine M_no rfl rfl rfl rfl rfl rfl ?_
      refine M_no rfl rfl rfl rfl rfl rfl ?_;refine M_no rfl rfl rfl rfl rfl rfl ?_;refine M_no rfl rfl rfl rfl rfl rfl ?_;refine M0 (q_pickT rfl rfl rfl rfl) rfl rfl ?_;refine L_nil ?_
      refine T_n ?_;refine A_ifT rfl ?_;refine A_seq (A_region ?_);refine M0 (q_assignC rfl rfl rfl) rfl rfl ?_;refine M0 (q_assignC rfl rfl rfl) rfl rfl ?_;refine L_nil ?_
      refine T_n (A_ret (T_r (B_r (T_r (B_r (T_r (F_r ?_)))))))
      exact E_tmp2 rfl rfl rfl (W_end [] (by decide) rfl rfl rfl)
    | some r =>
      obtain ⟨n,j⟩ := r
      rw [hv] at hd
      have hm := decVar_some hv
      obtain ⟨z,rfl⟩ : ∃ z : Nat,n = z := ⟨n.toNat,by omega⟩
      have hut := S_UnpackText s ((pos : Int) + (j : Int)) (by omega) ⟨by omega,by omega⟩
      cases hu : unpackText s ((pos : Int) + (j : Int)) with
      | none =>
        rw [hu] at hut
        rw [show unpackZ false s = none by rw [unpackZ,← hgo,uz_none2 hlt hv hu]]
        refine A_seq (A_seq (A_region ?_));refine M0 (q_moveC rfl rfl rfl) rfl rfl ?_;refine M0 (q_moveC rfl rfl rfl) rfl rfl ?_;refine M0 (q_lens rfl rfl rfl) rfl rfl ?_
        refine M0 (q_lssK rfl rfl rfl rfl (by assumption)) rfl rfl ?_;refine L_nil (T_n ?_);refine A_ifT rfl ?_;refine A_skip (T_n (A_block (A_seq ?_)))
        refine A_region ?_;refine M0 (q_moveC rfl rfl rfl) rfl rfl ?_;refine M0 (q_moveC rfl rfl rfl) rfl rfl ?_;refine M1 (q_call rfl rfl (hd) rfl rfl rfl) rfl rfl ?_
        refine M0 (q_moveT rfl rfl rfl) rfl rfl ?_;refine M0 (q_ext rfl rfl rfl rfl) rfl rfl ?_;refine M0 (q_ext rfl rfl rfl rfl) rfl rfl ?_;refine M0 (q_ext rfl rfl rfl rfl) rfl rfl ?_
        refine M0 (q_assignC rfl rfl rfl) rfl rfl ?_;refine M0 (q_assignC rfl rfl rfl) rfl rfl ?_;refine M0 (q_assignC rfl rfl rfl) rfl rfl ?_;refine L_nil (T_n (A_seq ?_))
        refine A_region ?_;refine M0 (q_moveC rfl rfl rfl) rfl rfl ?_;refine M0 (q_moveC rfl rfl rfl) rfl rfl ?_;refine M0 (q_moveC rfl rfl rfl) rfl rfl ?_
        refine M0 (q_add rfl rfl rfl rfl (by omega)) rfl rfl ?_;refine M1 (q_call rfl rfl (hut) rfl rfl rfl) rfl rfl ?_;refine M0 (q_moveT rfl rfl rfl) rfl rfl ?_
        refine M0 (q_ext rfl rfl rfl rfl) rfl rfl ?_;refine M0 (q_ext rfl rfl rfl rfl) rfl rfl ?_;refine M0 (q_ext rfl rfl rfl rfl) rfl rfl ?_;refine M0 (q_assignC rfl rfl rfl) rfl rfl ?_
        refine M0 (q_assignC rfl rfl rfl) rfl rfl ?_;refine M0 (q_assignC rfl rfl rfl) rfl rfl ?_;refine L_nil (T_n (A_seq (A_seq (A_region ?_))))
        refine M0 (q_moveC rfl rfl rfl) rfl rfl ?_;refine M0 (q_not rfl rfl rfl) rfl rfl ?_;refine M0 (q_moveC rfl rfl rfl) rfl rfl ?_;refine M_yes rfl rfl rfl ?_
        refine M0 (q_moveC rfl rfl rfl) rfl rfl ?_;refine M_yes rfl rfl rfl ?_;refine M0 (q_not rfl rfl rfl) rfl rfl ?_;refine M0 (q_pickF rfl rfl rfl rfl) rfl rfl ?_
        refine M0 (q_moveC rfl rfl rfl) rfl rfl ?_;refine M_no rfl rfl rfl rfl rfl rfl ?_;refine M_no rfl rfl rfl rfl rfl rfl ?_;refine M_no rfl rfl rfl rfl rfl rfl ?_
        refine M_no rfl rfl rfl rfl rfl rfl ?_;refine M_no rfl rfl rfl rfl rfl rfl ?_;refine M_no rfl rfl rfl rfl rfl rfl ?_;refine M_no rfl rfl rfl rfl rfl rfl ?_
        refine M_no rfl rfl rfl rfl rfl rfl ?_;refine M0 (q_pickT rfl rfl rfl rfl) rfl rfl ?_;refine L_nil (T_n ?_);refine A_ifT rfl ?_;refine A_seq (A_region ?_)
        refine M0 (q_assignC rfl rfl rfl) rfl rfl ?_;refine M0 (q_assignC rfl rfl rfl) rfl rfl ?_;refine L_nil (T_n (A_ret (T_r (B_r (T_r ?_)))))
        refine B_r (T_r (F_r ?_))
        exact E_tmp2 rfl rfl rfl (W_end [] (by decide) rfl rfl rfl)
      | some r =>
        obtain ⟨t,k⟩ := r
        rw [hu] at hut
        have hus := unpackText_some hu
        by_cases hbig2 : (20000 : Int) - acc.length < z + t.size
        · have hb3 : decide ((20000 : Int) - ((bs acc).size : Int) < (z : Int) + (t.size : Int)) = true := decide_eq_true (by omega)
          rw [show unpackZ false s = none by rw [unpackZ,← hgo,uz_big hlt hv hu hbig2]]
          refine A_seq (A_seq (A_region ?_));refine M0 (q_moveC rfl rfl rfl) rfl rfl ?_;refine M0 (q_moveC rfl rfl rfl) rfl rfl ?_;refine M0 (q_lens rfl rfl rfl) rfl rfl ?_
          refine M0 (q_lssK rfl rfl rfl rfl (by assumption)) rfl rfl ?_;refine L_nil (T_n ?_);refine A_ifT rfl ?_;refine A_skip (T_n (A_block (A_seq ?_)))
          refine A_region ?_;refine M0 (q_moveC rfl rfl rfl) rfl rfl ?_;refine M0 (q_moveC rfl rfl rfl) rfl rfl ?_;refine M1 (q_call rfl rfl (hd) rfl rfl rfl) rfl rfl ?_
          refine M0 (q_moveT rfl rfl rfl) rfl rfl ?_;refine M0 (q_ext rfl rfl rfl rfl) rfl rfl ?_;refine M0 (q_ext rfl rfl rfl rfl) rfl rfl ?_;refine M0 (q_ext rfl rfl rfl rfl) rfl rfl ?_
          refine M0 (q_assignC rfl rfl rfl) rfl rfl ?_;refine M0 (q_assignC rfl rfl rfl) rfl rfl ?_;refine M0 (q_assignC rfl rfl rfl) rfl rfl ?_;refine L_nil (T_n (A_seq ?_))
          refine A_region ?_;refine M0 (q_moveC rfl rfl rfl) rfl rfl ?_;refine M0 (q_moveC rfl rfl rfl) rfl rfl ?_;refine M0 (q_moveC rfl rfl rfl) rfl rfl ?_
          refine M0 (q_add rfl rfl rfl rfl (by omega)) rfl rfl ?_;refine M1 (q_call rfl rfl (hut) rfl rfl rfl) rfl rfl ?_;refine M0 (q_moveT rfl rfl rfl) rfl rfl ?_
          refine M0 (q_ext rfl rfl rfl rfl) rfl rfl ?_;refine M0 (q_ext rfl rfl rfl rfl) rfl rfl ?_;refine M0 (q_ext rfl rfl rfl rfl) rfl rfl ?_;refine M0 (q_assignC rfl rfl rfl) rfl rfl ?_
          refine M0 (q_assignC rfl rfl rfl) rfl rfl ?_;refine M0 (q_assignC rfl rfl rfl) rfl rfl ?_;refine L_nil (T_n (A_seq (A_seq (A_region ?_))))
          refine M0 (q_moveC rfl rfl rfl) rfl rfl ?_;refine M0 (q_not rfl rfl rfl) rfl rfl ?_;refine M0 (q_moveC rfl rfl rfl) rfl rfl ?_;refine M_yes rfl rfl rfl ?_
          refine M0 (q_moveC rfl rfl rfl) rfl rfl ?_;refine M_yes rfl rfl rfl ?_;refine M0 (q_not rfl rfl rfl) rfl rfl ?_;refine M0 (q_pickF rfl rfl rfl rfl) rfl rfl ?_
          refine M0 (q_moveC rfl rfl rfl) rfl rfl ?_;refine M_yes rfl rfl rfl ?_;refine M0 (q_moveC rfl rfl rfl) rfl rfl ?_;refine M_yes rfl rfl rfl ?_;refine M0 (q_moveC rfl rfl rfl) rfl rfl ?_
          refine M_yes rfl rfl rfl ?_;refine M0 (q_lens rfl rfl rfl) rfl rfl ?_;refine M_yes rfl rfl rfl ?_;refine M0 (q_add rfl rfl rfl rfl (by omega)) rfl rfl ?_;refine M_yes rfl rfl rfl ?_
          refine M0 (q_moveC rfl rfl rfl) rfl rfl ?_;refine M_yes rfl rfl rfl ?_;refine M0 (q_lens rfl rfl rfl) rfl rfl ?_;refine M_yes rfl rfl rfl ?_
          refine M0 (q_sub rfl rfl rfl rfl (by omega)) rfl rfl ?_;refine M_yes rfl rfl rfl ?_;refine M0 (q_gtrK rfl rfl rfl rfl (by assumption)) rfl rfl ?_
          refine M0 (q_pickF rfl rfl rfl rfl) rfl rfl ?_;refine L_nil (T_n ?_);refine A_ifT rfl ?_;refine A_seq (A_region ?_);refine M0 (q_assignC rfl rfl rfl) rfl rfl ?_
          refine M0 (q_assignC rfl rfl rfl) rfl rfl ?_;refine L_nil (T_n (A_ret (T_r (B_r (T_r (B_r (T_r (F_r ?_))))))))
          exact E_tmp2 rfl rfl rfl (W_end [] (by decide) rfl rfl rfl)
        have hb3 : decide ((20000 : Int) - ((bs acc).size : Int) < (z : Int) + (t.size : Int)) = false := decide_eq_false (by omega)
        have hgo2 := uz_step (acc := acc) (f := g) (b := false) hlt hv hu hbig2 (fun q => by cases q)
        rw [hgo,show ((z : Int)).toNat = z by omega] at hgo2
        have ht1 : t.data.toList.length = t.size := by simp
        have hz2 := bs_size (List.replicate z (0 : UInt8))
        rw [List.length_replicate] at hz2
        have hz3 : (bs acc ++ bs (List.replicate z (0 : UInt8))).size = acc.length + z := by rw [bs_app,bs_size,List.length_append,List.length_replicate]
        have hz4 : (⟨(List.replicate z (0 : UInt8)).toArray⟩ : ByteArray).size = z := hz2
        have hz5 : (bs acc ++ (⟨(List.replicate z (0 : UInt8)).toArray⟩ : ByteArray)).size = acc.length + z := hz3
        have hS : bs acc ++ bs (List.replicate z 0) ++ t = bs (acc ++ List.replicate z 0 ++ t.data.toList) := by rw [← bs_app,← bs_app,bs_of t]
        refine A_seq (A_seq (A_region ?_));refine M0 (q_moveC rfl rfl rfl) rfl rfl ?_;refine M0 (q_moveC rfl rfl rfl) rfl rfl ?_;refine M0 (q_lens rfl rfl rfl) rfl rfl ?_
        refine M0 (q_lssK rfl rfl rfl rfl (by assumption)) rfl rfl ?_;refine L_nil (T_n ?_);refine A_ifT rfl ?_;refine A_skip (T_n (A_block (A_seq ?_)))
        refine A_region ?_;refine M0 (q_moveC rfl rfl rfl) rfl rfl ?_;refine M0 (q_moveC rfl rfl rfl) rfl rfl ?_;refine M1 (q_call rfl rfl (hd) rfl rfl rfl) rfl rfl ?_
        refine M0 (q_moveT rfl rfl rfl) rfl rfl ?_;refine M0 (q_ext rfl rfl rfl rfl) rfl rfl ?_;refine M0 (q_ext rfl rfl rfl rfl) rfl rfl ?_;refine M0 (q_ext rfl rfl rfl rfl) rfl rfl ?_
        refine M0 (q_assignC rfl rfl rfl) rfl rfl ?_;refine M0 (q_assignC rfl rfl rfl) rfl rfl ?_;refine M0 (q_assignC rfl rfl rfl) rfl rfl ?_;refine L_nil (T_n (A_seq ?_))
        refine A_region ?_;refine M0 (q_moveC rfl rfl rfl) rfl rfl ?_;refine M0 (q_moveC rfl rfl rfl) rfl rfl ?_;refine M0 (q_moveC rfl rfl rfl) rfl rfl ?_
        refine M0 (q_add rfl rfl rfl rfl (by omega)) rfl rfl ?_;refine M1 (q_call rfl rfl (hut) rfl rfl rfl) rfl rfl ?_;refine M0 (q_moveT rfl rfl rfl) rfl rfl ?_
        refine M0 (q_ext rfl rfl rfl rfl) rfl rfl ?_;refine M0 (q_ext rfl rfl rfl rfl) rfl rfl ?_;refine M0 (q_ext rfl rfl rfl rfl) rfl rfl ?_;refine M0 (q_assignC rfl rfl rfl) rfl rfl ?_
        refine M0 (q_assignC rfl rfl rfl) rfl rfl ?_;refine M0 (q_assignC rfl rfl rfl) rfl rfl ?_;refine L_nil (T_n (A_seq (A_seq (A_region ?_))))
        refine M0 (q_moveC rfl rfl rfl) rfl rfl ?_;refine M0 (q_not rfl rfl rfl) rfl rfl ?_;refine M0 (q_moveC rfl rfl rfl) rfl rfl ?_;refine M_yes rfl rfl rfl ?_
        refine M0 (q_moveC rfl rfl rfl) rfl rfl ?_;refine M_yes rfl rfl rfl ?_;refine M0 (q_not rfl rfl rfl) rfl rfl ?_;refine M0 (q_pickF rfl rfl rfl rfl) rfl rfl ?_
        refine M0 (q_moveC rfl rfl rfl) rfl rfl ?_;refine M_yes rfl rfl rfl ?_;refine M0 (q_moveC rfl rfl rfl) rfl rfl ?_;refine M_yes rfl rfl rfl ?_;refine M0 (q_moveC rfl rfl rfl) rfl rfl ?_
        refine M_yes rfl rfl rfl ?_;refine M0 (q_lens rfl rfl rfl) rfl rfl ?_;refine M_yes rfl rfl rfl ?_;refine M0 (q_add rfl rfl rfl rfl (by omega)) rfl rfl ?_;refine M_yes rfl rfl rfl ?_
        refine M0 (q_moveC rfl rfl rfl) rfl rfl ?_;refine M_yes rfl rfl rfl ?_;refine M0 (q_lens rfl rfl rfl) rfl rfl ?_;refine M_yes rfl rfl rfl ?_
        refine M0 (q_sub rfl rfl rfl rfl (by omega)) rfl rfl ?_;refine M_yes rfl rfl rfl ?_;refine M0 (q_gtrK rfl rfl rfl rfl (by assumption)) rfl rfl ?_
        refine M0 (q_pickF rfl rfl rfl rfl) rfl rfl ?_;refine L_nil (T_n ?_);refine A_ifF rfl ?_;refine A_skip (T_n (A_seq (A_region ?_)))
        refine M0 (q_moveC rfl rfl rfl) rfl rfl ?_;refine M0 (q_moveC rfl rfl rfl) rfl rfl ?_;refine M1 (q_make 0 rfl rfl rfl rfl (by omega) (by omega) (by omega) rfl (by decide)) rfl rfl ?_
        refine AL.weak (st' := (⟨_,[(0,S s),(5,I pos),(6,I z),(7,I j),(9,S t),(10,I k),(48,S (bs acc)),(50,.o (.c (.ref 0)))],[.row 1 (bE (List.replicate z 0))]⟩ : St)) (W_go [0] (by decide) rfl ((row_eq (bE_rep z))) (.cons rfl (.cons rfl (.cons rfl (.cons rfl (.cons rfl (.cons rfl (.cons rfl (.cons rfl (.nil)))))))))) ?_
        refine M0 (q_bstr rfl rfl rfl rfl) rfl rfl ?_;refine M0 (q_cat rfl rfl rfl rfl (by omega)) rfl rfl ?_;refine M0 (q_moveC rfl rfl rfl) rfl rfl ?_
        refine M0 (q_cat rfl rfl rfl rfl (by omega)) rfl rfl ?_;refine M0 (q_assignC rfl rfl rfl) rfl rfl ?_;refine L_nil (T_n (A_region ?_))
        refine M0 (q_moveC rfl rfl rfl) rfl rfl ?_;refine M0 (q_moveC rfl rfl rfl) rfl rfl ?_;refine M0 (q_add rfl rfl rfl rfl (by omega)) rfl rfl ?_
        refine M0 (q_moveC rfl rfl rfl) rfl rfl ?_;refine M0 (q_add rfl rfl rfl rfl (by omega)) rfl rfl ?_;refine M0 (q_assignC rfl rfl rfl) rfl rfl ?_;refine L_nil (B_n ?_)
        refine T_n ?_
        refine ⟨s.size - (pos + j + k),(by omega),(fun (pos : Nat) (acc : List UInt8) (f : Nat) => (⟨_,[(0,S s),(4,S (bs acc)),(5,I pos)],[]⟩ : St)) (pos + j + k) (acc ++ List.replicate z 0 ++ t.data.toList) (g),W_go [] (by decide) rfl (rfl) (.cons rfl (.cons (S_eq hS) (.cons rfl (.nil)))),pos + j + k,acc ++ List.replicate z 0 ++ t.data.toList,g,rfl,⟨by omega,by omega,by simp only [List.length_append,List.length_replicate]; omega,hgo2.symm⟩,rfl⟩
  · have hb : decide ((pos : Int) < s.size) = false := decide_eq_false (by omega)
    have hend := uz_end (b := false) hlt f acc
    have hpk := S_PackZeros (bs acc) (by rw [bs_size]; omega)
    rw [bs_list] at hpk
    by_cases heq : bs (packZ acc) = s
    · have e1 : decide (bs (packZ acc) ≠ s) = false := decide_eq_false (fun q => q heq)
      rw [show unpackZ false s = some (bs acc) by rw [unpackZ,← hgo,hend]; simp only []; rw [if_pos heq]]
      refine A_seq (A_seq (A_region ?_));refine M0 (q_moveC rfl rfl rfl) rfl rfl ?_;refine M0 (q_moveC rfl rfl rfl) rfl rfl ?_;refine M0 (q_lens rfl rfl rfl) rfl rfl ?_
      refine M0 (q_lssK rfl rfl rfl rfl (by assumption)) rfl rfl ?_;refine L_nil (T_n ?_);refine A_ifF rfl ?_;refine A_exit (T_x (T_x (B_xs (T_n ?_))))
      refine A_seq (A_seq (A_region ?_));refine M0 (q_moveC rfl rfl rfl) rfl rfl ?_;refine M0 (q_call0 rfl rfl (hpk) rfl) rfl rfl ?_;refine M0 (q_moveC rfl rfl rfl) rfl rfl ?_
      refine M0 (q_sneqK rfl rfl rfl rfl (by assumption)) rfl rfl ?_;refine L_nil (T_n ?_);refine A_ifF rfl ?_;refine A_skip (T_n (A_seq (A_region ?_)))
      refine M0 (q_moveC rfl rfl rfl) rfl rfl ?_;refine M0 (q_assignC rfl rfl rfl) rfl rfl ?_;refine M0 (q_assignC rfl rfl rfl) rfl rfl ?_;refine L_nil (T_n (A_ret ?_))
      refine F_r ?_
      exact E_tmp2 rfl rfl rfl (W_end [] (by decide) rfl rfl rfl)
    · have e1 : decide (bs (packZ acc) ≠ s) = true := decide_eq_true heq
      rw [show unpackZ false s = none by rw [unpackZ,← hgo,hend]; simp only []; rw [if_neg heq]]
      refine A_seq (A_seq (A_region ?_));refine M0 (q_moveC rfl rfl rfl) rfl rfl ?_;refine M0 (q_moveC rfl rfl rfl) rfl rfl ?_;refine M0 (q_lens rfl rfl rfl) rfl rfl ?_
      refine M0 (q_lssK rfl rfl rfl rfl (by assumption)) rfl rfl ?_;refine L_nil (T_n ?_);refine A_ifF rfl ?_;refine A_exit (T_x (T_x (B_xs (T_n ?_))))
      refine A_seq (A_seq (A_region ?_));refine M0 (q_moveC rfl rfl rfl) rfl rfl ?_;refine M0 (q_call0 rfl rfl (hpk) rfl) rfl rfl ?_;refine M0 (q_moveC rfl rfl rfl) rfl rfl ?_
      refine M0 (q_sneqK rfl rfl rfl rfl (by assumption)) rfl rfl ?_;refine L_nil (T_n ?_);refine A_ifT rfl ?_;refine A_seq (A_region ?_)
      refine M0 (q_assignC rfl rfl rfl) rfl rfl ?_;refine M0 (q_assignC rfl rfl rfl) rfl rfl ?_;refine L_nil (T_n (A_ret (T_r (F_r ?_))))
      exact E_tmp2 rfl rfl rfl (W_end [] (by decide) rfl rfl rfl)
def applyD (base delta : ByteArray) : Option ByteArray := match decVar delta 0 with
  | none => none
  | some (n,j) => match unpackZ true (delta.extract j delta.size) with
    | none => none
    | some x => if (x.size : Int) = n then some (xorText base x) else none
theorem xor_size (a b : ByteArray) : (xorText a b).size = b.size := by
  rw [xorText,bs_size,xorL_len]; simp
theorem applyD_len {a d t : ByteArray} (h : applyD a d = some t) : t.size ≤ 20000 := by
  unfold applyD at h
  split at h
  · cases h
  · split at h
    · cases h
    · rename_i x hx
      split at h
      · cases h; rw [xor_size]; exact unpackZ_len hx
      · cases h
set_option maxHeartbeats 8000000 in
theorem I_ApplyDelta (base delta : ByteArray) (hb : base.size ≤ 1099511627775) (hs : delta.size ≤ 1099511627775) : Con Try.prog 41 [] [astr base,astr delta] [] (otR (applyD base delta)) := by
  have hd := I_DecodeVarint delta 0 (by omega) ⟨by omega,by omega⟩
  cases hv : decVar delta 0 with
  | none =>
    rw [hv] at hd
    rw [show applyD base delta = none by rw [applyD,hv]]
    refine Con.of Try.func41 rfl Try.ntmps41 rfl (fun E => ?_)
    refine A_seq (A_region ?_);refine M0 (q_assignC rfl rfl rfl) rfl rfl ?_;refine M0 (q_assignC rfl rfl rfl) rfl rfl ?_;refine L_nil (T_n (A_seq ?_))
    refine A_region ?_;refine M0 (q_moveC rfl rfl rfl) rfl rfl ?_;refine M1 (q_call rfl rfl (hd) rfl rfl rfl) rfl rfl ?_;refine M0 (q_moveT rfl rfl rfl) rfl rfl ?_
    refine M0 (q_ext rfl rfl rfl rfl) rfl rfl ?_;refine M0 (q_ext rfl rfl rfl rfl) rfl rfl ?_;refine M0 (q_ext rfl rfl rfl rfl) rfl rfl ?_;refine M0 (q_assignC rfl rfl rfl) rfl rfl ?_
    refine M0 (q_assignC rfl rfl rfl) rfl rfl ?_;refine M0 (q_assignC rfl rfl rfl) rfl rfl ?_;refine L_nil (T_n (A_seq (A_seq (A_region ?_))))
    refine M0 (q_moveC rfl rfl rfl) rfl rfl ?_;refine M0 (q_not rfl rfl rfl) rfl rfl ?_;refine L_nil (T_n ?_);refine A_ifT rfl ?_;refine A_seq (A_region ?_)
    refine M0 (q_assignC rfl rfl rfl) rfl rfl ?_;refine M0 (q_assignC rfl rfl rfl) rfl rfl ?_;refine L_nil (T_n (A_ret (T_r (F_r ?_))))
    exact E_tmp2 rfl rfl rfl (W_end [] (by decide) rfl rfl rfl)
  | some r =>
    obtain ⟨n,j⟩ := r
    rw [hv] at hd
    have hm := decVar_some hv
    have hz := I_UnpackZeros (delta.extract j delta.size) (by rw [ByteArray.size_extract]; omega)
    have he := unpackZ_eq (delta.extract j delta.size) (by rw [ByteArray.size_extract]; omega)
    try rw [← he] at hz
    cases hu : unpackZ true (delta.extract j delta.size) with
    | none =>
      rw [hu] at hz
      rw [show applyD base delta = none by rw [applyD,hv]; simp only [hu]]
      refine Con.of Try.func41 rfl Try.ntmps41 rfl (fun E => ?_)
      refine A_seq (A_region ?_);refine M0 (q_assignC rfl rfl rfl) rfl rfl ?_;refine M0 (q_assignC rfl rfl rfl) rfl rfl ?_;refine L_nil (T_n (A_seq ?_))
      refine A_region ?_;refine M0 (q_moveC rfl rfl rfl) rfl rfl ?_;refine M1 (q_call rfl rfl (hd) rfl rfl rfl) rfl rfl ?_;refine M0 (q_moveT rfl rfl rfl) rfl rfl ?_
      refine M0 (q_ext rfl rfl rfl rfl) rfl rfl ?_;refine M0 (q_ext rfl rfl rfl rfl) rfl rfl ?_;refine M0 (q_ext rfl rfl rfl rfl) rfl rfl ?_;refine M0 (q_assignC rfl rfl rfl) rfl rfl ?_
      refine M0 (q_assignC rfl rfl rfl) rfl rfl ?_;refine M0 (q_assignC rfl rfl rfl) rfl rfl ?_;refine L_nil (T_n (A_seq (A_seq (A_region ?_))))
      refine M0 (q_moveC rfl rfl rfl) rfl rfl ?_;refine M0 (q_not rfl rfl rfl) rfl rfl ?_;refine L_nil (T_n ?_);refine A_ifF rfl ?_;refine A_skip (T_n (A_seq ?_))
      refine A_region ?_;refine M0 (q_moveC rfl rfl rfl) rfl rfl ?_;refine M0 (q_moveC rfl rfl rfl) rfl rfl ?_;refine M0 (q_sslice1 rfl rfl rfl rfl (by omega)) rfl rfl ?_
      refine M1 (q_call rfl rfl (hz) rfl rfl rfl) rfl rfl ?_;refine M0 (q_moveT rfl rfl rfl) rfl rfl ?_;refine M0 (q_ext rfl rfl rfl rfl) rfl rfl ?_
      refine M0 (q_ext rfl rfl rfl rfl) rfl rfl ?_;refine M0 (q_assignC rfl rfl rfl) rfl rfl ?_;refine M0 (q_assignC rfl rfl rfl) rfl rfl ?_;refine L_nil (T_n (A_seq ?_))
      refine A_seq (A_region ?_);refine M0 (q_moveC rfl rfl rfl) rfl rfl ?_;refine M0 (q_not rfl rfl rfl) rfl rfl ?_;refine M0 (q_moveC rfl rfl rfl) rfl rfl ?_
      refine M_no rfl rfl rfl rfl rfl rfl ?_;refine M_no rfl rfl rfl rfl rfl rfl ?_;refine M_no rfl rfl rfl rfl rfl rfl ?_;refine M_no rfl rfl rfl rfl rfl rfl ?_
      refine M0 (q_pickT rfl rfl rfl rfl) rfl rfl ?_;refine L_nil (T_n ?_);refine A_ifT rfl ?_;refine A_seq (A_region ?_);refine M0 (q_assignC rfl rfl rfl) rfl rfl ?_
      refine M0 (q_assignC rfl rfl rfl) rfl rfl ?_;refine L_nil (T_n (A_ret (T_r (F_r ?_))))
      exact E_tmp2 rfl rfl rfl (W_end [] (by decide) rfl rfl rfl)
    | some x =>
      rw [hu] at hz
      have hx := I_XorText base x (by omega) (by have := unpackZ_len hu; omega)
      by_cases hn : (x.size : Int) = n
      · have e1 : decide ((x.size : Int) ≠ n) = false := decide_eq_false (fun q => q hn)
        rw [show applyD base delta = some (xorText base x) by rw [applyD,hv]; simp only [hu]; rw [if_pos hn]]
        refine Con.of Try.func41 rfl Try.ntmps41 rfl (fun E => ?_)
        refine A_seq (A_region ?_);refine M0 (q_assignC rfl rfl rfl) rfl rfl ?_;refine M0 (q_assignC rfl rfl rfl) rfl rfl ?_;refine L_nil (T_n (A_seq ?_))
        refine A_region ?_;refine M0 (q_moveC rfl rfl rfl) rfl rfl ?_;refine M1 (q_call rfl rfl (hd) rfl rfl rfl) rfl rfl ?_;refine M0 (q_moveT rfl rfl rfl) rfl rfl ?_
        refine M0 (q_ext rfl rfl rfl rfl) rfl rfl ?_;refine M0 (q_ext rfl rfl rfl rfl) rfl rfl ?_;refine M0 (q_ext rfl rfl rfl rfl) rfl rfl ?_;refine M0 (q_assignC rfl rfl rfl) rfl rfl ?_
        refine M0 (q_assignC rfl rfl rfl) rfl rfl ?_;refine M0 (q_assignC rfl rfl rfl) rfl rfl ?_;refine L_nil (T_n (A_seq (A_seq (A_region ?_))))
        refine M0 (q_moveC rfl rfl rfl) rfl rfl ?_;refine M0 (q_not rfl rfl rfl) rfl rfl ?_;refine L_nil (T_n ?_);refine A_ifF rfl ?_;refine A_skip (T_n (A_seq ?_))
        refine A_region ?_;refine M0 (q_moveC rfl rfl rfl) rfl rfl ?_;refine M0 (q_moveC rfl rfl rfl) rfl rfl ?_;refine M0 (q_sslice1 rfl rfl rfl rfl (by omega)) rfl rfl ?_
        refine M1 (q_call rfl rfl (hz) rfl rfl rfl) rfl rfl ?_;refine M0 (q_moveT rfl rfl rfl) rfl rfl ?_;refine M0 (q_ext rfl rfl rfl rfl) rfl rfl ?_
        refine M0 (q_ext rfl rfl rfl rfl) rfl rfl ?_;refine M0 (q_assignC rfl rfl rfl) rfl rfl ?_;refine M0 (q_assignC rfl rfl rfl) rfl rfl ?_;refine L_nil (T_n (A_seq ?_))
        refine A_seq (A_region ?_);refine M0 (q_moveC rfl rfl rfl) rfl rfl ?_;refine M0 (q_not rfl rfl rfl) rfl rfl ?_;refine M0 (q_moveC rfl rfl rfl) rfl rfl ?_
        refine M_yes rfl rfl rfl ?_;refine M0 (q_moveC rfl rfl rfl) rfl rfl ?_;refine M_yes rfl rfl rfl ?_;refine M0 (q_lens rfl rfl rfl) rfl rfl ?_;refine M_yes rfl rfl rfl ?_
        refine M0 (q_moveC rfl rfl rfl) rfl rfl ?_;refine M_yes rfl rfl rfl ?_;refine M0 (q_neqK rfl rfl rfl rfl (by assumption)) rfl rfl ?_;refine M0 (q_pickF rfl rfl rfl rfl) rfl rfl ?_
        refine L_nil (T_n ?_);refine A_ifF rfl ?_;refine A_skip (T_n (A_seq (A_region ?_)));refine M0 (q_moveC rfl rfl rfl) rfl rfl ?_
        refine M0 (q_moveC rfl rfl rfl) rfl rfl ?_;refine M0 (q_call0 rfl rfl (hx) rfl) rfl rfl ?_;refine M0 (q_assignC rfl rfl rfl) rfl rfl ?_;refine M0 (q_assignC rfl rfl rfl) rfl rfl ?_
        refine L_nil (T_n (A_ret (F_r ?_)))
        exact E_tmp2 rfl rfl rfl (W_end [] (by decide) rfl rfl rfl)
      · have e1 : decide ((x.size : Int) ≠ n) = true := decide_eq_true hn
        rw [show applyD base delta = none by rw [applyD,hv]; simp only [hu]; rw [if_neg hn]]
        refine Con.of Try.func41 rfl Try.ntmps41 rfl (fun E => ?_)
        refine A_seq (A_region ?_);refine M0 (q_assignC rfl rfl rfl) rfl rfl ?_;refine M0 (q_assignC rfl rfl rfl) rfl rfl ?_;refine L_nil (T_n (A_seq ?_))
        refine A_region ?_;refine M0 (q_moveC rfl rfl rfl) rfl rfl ?_;refine M1 (q_call rfl rfl (hd) rfl rfl rfl) rfl rfl ?_;refine M0 (q_moveT rfl rfl rfl) rfl rfl ?_
        refine M0 (q_ext rfl rfl rfl rfl) rfl rfl ?_;refine M0 (q_ext rfl rfl rfl rfl) rfl rfl ?_;refine M0 (q_ext rfl rfl rfl rfl) rfl rfl ?_;refine M0 (q_assignC rfl rfl rfl) rfl rfl ?_
        refine M0 (q_assignC rfl rfl rfl) rfl rfl ?_;refine M0 (q_assignC rfl rfl rfl) rfl rfl ?_;refine L_nil (T_n (A_seq (A_seq (A_region ?_))))
        refine M0 (q_moveC rfl rfl rfl) rfl rfl ?_;refine M0 (q_not rfl rfl rfl) rfl rfl ?_;refine L_nil (T_n ?_);refine A_ifF rfl ?_;refine A_skip (T_n (A_seq ?_))
        refine A_region ?_;refine M0 (q_moveC rfl rfl rfl) rfl rfl ?_;refine M0 (q_moveC rfl rfl rfl) rfl rfl ?_;refine M0 (q_sslice1 rfl rfl rfl rfl (by omega)) rfl rfl ?_
        refine M1 (q_call rfl rfl (hz) rfl rfl rfl) rfl rfl ?_;refine M0 (q_moveT rfl rfl rfl) rfl rfl ?_;refine M0 (q_ext rfl rfl rfl rfl) rfl rfl ?_
        refine M0 (q_ext rfl rfl rfl rfl) rfl rfl ?_;refine M0 (q_assignC rfl rfl rfl) rfl rfl ?_;refine M0 (q_assignC rfl rfl rfl) rfl rfl ?_;refine L_nil (T_n (A_seq ?_))
        refine A_seq (A_region ?_);refine M0 (q_moveC rfl rfl rfl) rfl rfl ?_;refine M0 (q_not rfl rfl rfl) rfl rfl ?_;refine M0 (q_moveC rfl rfl rfl) rfl rfl ?_
        refine M_yes rfl rfl rfl ?_;refine M0 (q_moveC rfl rfl rfl) rfl rfl ?_;refine M_yes rfl rfl rfl ?_;refine M0 (q_lens rfl rfl rfl) rfl rfl ?_;refine M_yes rfl rfl rfl ?_
        refine M0 (q_moveC rfl rfl rfl) rfl rfl ?_;refine M_yes rfl rfl rfl ?_;refine M0 (q_neqK rfl rfl rfl rfl (by assumption)) rfl rfl ?_;refine M0 (q_pickF rfl rfl rfl rfl) rfl rfl ?_
        refine L_nil (T_n ?_);refine A_ifT rfl ?_;refine A_seq (A_region ?_);refine M0 (q_assignC rfl rfl rfl) rfl rfl ?_;refine M0 (q_assignC rfl rfl rfl) rfl rfl ?_
        refine L_nil (T_n (A_ret (T_r (F_r ?_))))
        exact E_tmp2 rfl rfl rfl (W_end [] (by decide) rfl rfl rfl)
set_option maxHeartbeats 8000000 in
theorem S_ApplyDelta (base delta : ByteArray) (hb : base.size ≤ 1099511627775) (hs : delta.size ≤ 1099511627775) : Con Try.prog 34 [] [astr base,astr delta] [] (otR (applyD base delta)) := by
  have hd := S_DecodeVarint delta 0 (by omega) ⟨by omega,by omega⟩
  cases hv : decVar delta 0 with
  | none =>
    rw [hv] at hd
    rw [show applyD base delta = none by rw [applyD,hv]]
    refine Con.of Try.func34 rfl Try.ntmps34 rfl (fun E => ?_)
    refine A_seq (A_region ?_);refine M0 (q_assignC rfl rfl rfl) rfl rfl ?_;refine M0 (q_assignC rfl rfl rfl) rfl rfl ?_;refine L_nil (T_n (A_seq ?_))
    refine A_region ?_;refine M0 (q_moveC rfl rfl rfl) rfl rfl ?_;refine M1 (q_call rfl rfl (hd) rfl rfl rfl) rfl rfl ?_;refine M0 (q_moveT rfl rfl rfl) rfl rfl ?_
    refine M0 (q_ext rfl rfl rfl rfl) rfl rfl ?_;refine M0 (q_ext rfl rfl rfl rfl) rfl rfl ?_;refine M0 (q_ext rfl rfl rfl rfl) rfl rfl ?_;refine M0 (q_assignC rfl rfl rfl) rfl rfl ?_
    refine M0 (q_assignC rfl rfl rfl) rfl rfl ?_;refine M0 (q_assignC rfl rfl rfl) rfl rfl ?_;refine L_nil (T_n (A_seq (A_seq (A_region ?_))))
    refine M0 (q_moveC rfl rfl rfl) rfl rfl ?_;refine M0 (q_not rfl rfl rfl) rfl rfl ?_;refine L_nil (T_n ?_);refine A_ifT rfl ?_;refine A_seq (A_region ?_)
    refine M0 (q_assignC rfl rfl rfl) rfl rfl ?_;refine M0 (q_assignC rfl rfl rfl) rfl rfl ?_;refine L_nil (T_n (A_ret (T_r (F_r ?_))))
    exact E_tmp2 rfl rfl rfl (W_end [] (by decide) rfl rfl rfl)
  | some r =>
    obtain ⟨n,j⟩ := r
    rw [hv] at hd
    have hm := decVar_some hv
    have hz := S_UnpackZeros (delta.extract j delta.size) (by rw [ByteArray.size_extract]; omega)
    have he := unpackZ_eq (delta.extract j delta.size) (by rw [ByteArray.size_extract]; omega)
    try rw [← he] at hz
    cases hu : unpackZ true (delta.extract j delta.size) with
    | none =>
      rw [hu] at hz
      rw [show applyD base delta = none by rw [applyD,hv]; simp only [hu]]
      refine Con.of Try.func34 rfl Try.ntmps34 rfl (fun E => ?_)
      refine A_seq (A_region ?_);refine M0 (q_assignC rfl rfl rfl) rfl rfl ?_;refine M0 (q_assignC rfl rfl rfl) rfl rfl ?_;refine L_nil (T_n (A_seq ?_))
      refine A_region ?_;refine M0 (q_moveC rfl rfl rfl) rfl rfl ?_;refine M1 (q_call rfl rfl (hd) rfl rfl rfl) rfl rfl ?_;refine M0 (q_moveT rfl rfl rfl) rfl rfl ?_
      refine M0 (q_ext rfl rfl rfl rfl) rfl rfl ?_;refine M0 (q_ext rfl rfl rfl rfl) rfl rfl ?_;refine M0 (q_ext rfl rfl rfl rfl) rfl rfl ?_;refine M0 (q_assignC rfl rfl rfl) rfl rfl ?_
      refine M0 (q_assignC rfl rfl rfl) rfl rfl ?_;refine M0 (q_assignC rfl rfl rfl) rfl rfl ?_;refine L_nil (T_n (A_seq (A_seq (A_region ?_))))
      refine M0 (q_moveC rfl rfl rfl) rfl rfl ?_;refine M0 (q_not rfl rfl rfl) rfl rfl ?_;refine L_nil (T_n ?_);refine A_ifF rfl ?_;refine A_skip (T_n (A_seq ?_))
      refine A_region ?_;refine M0 (q_moveC rfl rfl rfl) rfl rfl ?_;refine M0 (q_moveC rfl rfl rfl) rfl rfl ?_;refine M0 (q_sslice1 rfl rfl rfl rfl (by omega)) rfl rfl ?_
      refine M1 (q_call rfl rfl (hz) rfl rfl rfl) rfl rfl ?_;refine M0 (q_moveT rfl rfl rfl) rfl rfl ?_;refine M0 (q_ext rfl rfl rfl rfl) rfl rfl ?_
      refine M0 (q_ext rfl rfl rfl rfl) rfl rfl ?_;refine M0 (q_assignC rfl rfl rfl) rfl rfl ?_;refine M0 (q_assignC rfl rfl rfl) rfl rfl ?_;refine L_nil (T_n (A_seq ?_))
      refine A_seq (A_region ?_);refine M0 (q_moveC rfl rfl rfl) rfl rfl ?_;refine M0 (q_not rfl rfl rfl) rfl rfl ?_;refine M0 (q_moveC rfl rfl rfl) rfl rfl ?_
      refine M_no rfl rfl rfl rfl rfl rfl ?_;refine M_no rfl rfl rfl rfl rfl rfl ?_;refine M_no rfl rfl rfl rfl rfl rfl ?_;refine M_no rfl rfl rfl rfl rfl rfl ?_
      refine M0 (q_pickT rfl rfl rfl rfl) rfl rfl ?_;refine L_nil (T_n ?_);refine A_ifT rfl ?_;refine A_seq (A_region ?_);refine M0 (q_assignC rfl rfl rfl) rfl rfl ?_
      refine M0 (q_assignC rfl rfl rfl) rfl rfl ?_;refine L_nil (T_n (A_ret (T_r (F_r ?_))))
      exact E_tmp2 rfl rfl rfl (W_end [] (by decide) rfl rfl rfl)
    | some x =>
      rw [hu] at hz
      have hx := S_XorText base x (by omega) (by have := unpackZ_len hu; omega)
      by_cases hn : (x.size : Int) = n
      · have e1 : decide ((x.size : Int) ≠ n) = false := decide_eq_false (fun q => q hn)
        rw [show applyD base delta = some (xorText base x) by rw [applyD,hv]; simp only [hu]; rw [if_pos hn]]
        refine Con.of Try.func34 rfl Try.ntmps34 rfl (fun E => ?_)
        refine A_seq (A_region ?_);refine M0 (q_assignC rfl rfl rfl) rfl rfl ?_;refine M0 (q_assignC rfl rfl rfl) rfl rfl ?_;refine L_nil (T_n (A_seq ?_))
        refine A_region ?_;refine M0 (q_moveC rfl rfl rfl) rfl rfl ?_;refine M1 (q_call rfl rfl (hd) rfl rfl rfl) rfl rfl ?_;refine M0 (q_moveT rfl rfl rfl) rfl rfl ?_
        refine M0 (q_ext rfl rfl rfl rfl) rfl rfl ?_;refine M0 (q_ext rfl rfl rfl rfl) rfl rfl ?_;refine M0 (q_ext rfl rfl rfl rfl) rfl rfl ?_;refine M0 (q_assignC rfl rfl rfl) rfl rfl ?_
        refine M0 (q_assignC rfl rfl rfl) rfl rfl ?_;refine M0 (q_assignC rfl rfl rfl) rfl rfl ?_;refine L_nil (T_n (A_seq (A_seq (A_region ?_))))
        refine M0 (q_moveC rfl rfl rfl) rfl rfl ?_;refine M0 (q_not rfl rfl rfl) rfl rfl ?_;refine L_nil (T_n ?_);refine A_ifF rfl ?_;refine A_skip (T_n (A_seq ?_))
        refine A_region ?_;refine M0 (q_moveC rfl rfl rfl) rfl rfl ?_;refine M0 (q_moveC rfl rfl rfl) rfl rfl ?_;refine M0 (q_sslice1 rfl rfl rfl rfl (by omega)) rfl rfl ?_
        refine M1 (q_call rfl rfl (hz) rfl rfl rfl) rfl rfl ?_;refine M0 (q_moveT rfl rfl rfl) rfl rfl ?_;refine M0 (q_ext rfl rfl rfl rfl) rfl rfl ?_
        refine M0 (q_ext rfl rfl rfl rfl) rfl rfl ?_;refine M0 (q_assignC rfl rfl rfl) rfl rfl ?_;refine M0 (q_assignC rfl rfl rfl) rfl rfl ?_;refine L_nil (T_n (A_seq ?_))
        refine A_seq (A_region ?_);refine M0 (q_moveC rfl rfl rfl) rfl rfl ?_;refine M0 (q_not rfl rfl rfl) rfl rfl ?_;refine M0 (q_moveC rfl rfl rfl) rfl rfl ?_
        refine M_yes rfl rfl rfl ?_;refine M0 (q_moveC rfl rfl rfl) rfl rfl ?_;refine M_yes rfl rfl rfl ?_;refine M0 (q_lens rfl rfl rfl) rfl rfl ?_;refine M_yes rfl rfl rfl ?_
        refine M0 (q_moveC rfl rfl rfl) rfl rfl ?_;refine M_yes rfl rfl rfl ?_;refine M0 (q_neqK rfl rfl rfl rfl (by assumption)) rfl rfl ?_;refine M0 (q_pickF rfl rfl rfl rfl) rfl rfl ?_
        refine L_nil (T_n ?_);refine A_ifF rfl ?_;refine A_skip (T_n (A_seq (A_region ?_)));refine M0 (q_moveC rfl rfl rfl) rfl rfl ?_
        refine M0 (q_moveC rfl rfl rfl) rfl rfl ?_;refine M0 (q_call0 rfl rfl (hx) rfl) rfl rfl ?_;refine M0 (q_assignC rfl rfl rfl) rfl rfl ?_;refine M0 (q_assignC rfl rfl rfl) rfl rfl ?_
        refine L_nil (T_n (A_ret (F_r ?_)))
        exact E_tmp2 rfl rfl rfl (W_end [] (by decide) rfl rfl rfl)
      · have e1 : decide ((x.size : Int) ≠ n) = true := decide_eq_true hn
        rw [show applyD base delta = none by rw [applyD,hv]; simp only [hu]; rw [if_neg hn]]
        refine Con.of Try.func34 rfl Try.ntmps34 rfl (fun E => ?_)
        refine A_seq (A_region ?_);refine M0 (q_assignC rfl rfl rfl) rfl rfl ?_;refine M0 (q_assignC rfl rfl rfl) rfl rfl ?_;refine L_nil (T_n (A_seq ?_))
        refine A_region ?_;refine M0 (q_moveC rfl rfl rfl) rfl rfl ?_;refine M1 (q_call rfl rfl (hd) rfl rfl rfl) rfl rfl ?_;refine M0 (q_moveT rfl rfl rfl) rfl rfl ?_
        refine M0 (q_ext rfl rfl rfl rfl) rfl rfl ?_;refine M0 (q_ext rfl rfl rfl rfl) rfl rfl ?_;refine M0 (q_ext rfl rfl rfl rfl) rfl rfl ?_;refine M0 (q_assignC rfl rfl rfl) rfl rfl ?_
        refine M0 (q_assignC rfl rfl rfl) rfl rfl ?_;refine M0 (q_assignC rfl rfl rfl) rfl rfl ?_;refine L_nil (T_n (A_seq (A_seq (A_region ?_))))
        refine M0 (q_moveC rfl rfl rfl) rfl rfl ?_;refine M0 (q_not rfl rfl rfl) rfl rfl ?_;refine L_nil (T_n ?_);refine A_ifF rfl ?_;refine A_skip (T_n (A_seq ?_))
        refine A_region ?_;refine M0 (q_moveC rfl rfl rfl) rfl rfl ?_;refine M0 (q_moveC rfl rfl rfl) rfl rfl ?_;refine M0 (q_sslice1 rfl rfl rfl rfl (by omega)) rfl rfl ?_
        refine M1 (q_call rfl rfl (hz) rfl rfl rfl) rfl rfl ?_;refine M0 (q_moveT rfl rfl rfl) rfl rfl ?_;refine M0 (q_ext rfl rfl rfl rfl) rfl rfl ?_
        refine M0 (q_ext rfl rfl rfl rfl) rfl rfl ?_;refine M0 (q_assignC rfl rfl rfl) rfl rfl ?_;refine M0 (q_assignC rfl rfl rfl) rfl rfl ?_;refine L_nil (T_n (A_seq ?_))
        refine A_seq (A_region ?_);refine M0 (q_moveC rfl rfl rfl) rfl rfl ?_;refine M0 (q_not rfl rfl rfl) rfl rfl ?_;refine M0 (q_moveC rfl rfl rfl) rfl rfl ?_
        refine M_yes rfl rfl rfl ?_;refine M0 (q_moveC rfl rfl rfl) rfl rfl ?_;refine M_yes rfl rfl rfl ?_;refine M0 (q_lens rfl rfl rfl) rfl rfl ?_;refine M_yes rfl rfl rfl ?_
        refine M0 (q_moveC rfl rfl rfl) rfl rfl ?_;refine M_yes rfl rfl rfl ?_;refine M0 (q_neqK rfl rfl rfl rfl (by assumption)) rfl rfl ?_;refine M0 (q_pickF rfl rfl rfl rfl) rfl rfl ?_
        refine L_nil (T_n ?_);refine A_ifT rfl ?_;refine A_seq (A_region ?_);refine M0 (q_assignC rfl rfl rfl) rfl rfl ?_;refine M0 (q_assignC rfl rfl rfl) rfl rfl ?_
        refine L_nil (T_n (A_ret (T_r (F_r ?_))))
        exact E_tmp2 rfl rfl rfl (W_end [] (by decide) rfl rfl rfl)
end Go.Proofs.Ytmljakmaffbnlaa
end

section
set_option linter.unusedVariables false
set_option linter.unusedSimpArgs false
set_option maxRecDepth 8000
namespace Go.Proofs.Ytmljakmaffbnlaa
open Go.RowKit

structure TBody where
  Kind : Int
  Owner : Int
  X : Int
  Y : Int
  VX : Int
  VY : Int
  Aim : Int
  Life : Int
  Timer : Int
  deriving DecidableEq
instance : Enc TBody := ⟨9,by omega,fun x => [.v (.int .i64 x.Kind),.v (.int .i64 x.Owner),.v (.int .i64 x.X),.v (.int .i64 x.Y),.v (.int .i64 x.VX),.v (.int .i64 x.VY),.v (.int .i64 x.Aim),.v (.int .i64 x.Life),.v (.int .i64 x.Timer)],fun _ => rfl,fun x => Enc.gd x.Kind ∧ Enc.gd x.Owner ∧ Enc.gd x.X ∧ Enc.gd x.Y ∧ Enc.gd x.VX ∧ Enc.gd x.VY ∧ Enc.gd x.Aim ∧ Enc.gd x.Life ∧ Enc.gd x.Timer,fun x => 0⟩
theorem TBody.same {x y : TBody} (h0 : x.Kind = y.Kind) (h1 : x.Owner = y.Owner) (h2 : x.X = y.X) (h3 : x.Y = y.Y) (h4 : x.VX = y.VX) (h5 : x.VY = y.VY) (h6 : x.Aim = y.Aim) (h7 : x.Life = y.Life) (h8 : x.Timer = y.Timer) : x = y := by cases x; cases y; simp_all
structure TWorld where
  Level : TLevel
  Tick : Int
  Seed : Int
  Scores : (List Int)
  Bodies : (List TBody)
  deriving DecidableEq
instance : Enc TWorld := ⟨5,by omega,fun x => [sl x.Level.Rows,.v (.int .i64 x.Tick),.v (.int .i64 x.Seed),sl x.Scores,sl x.Bodies],fun _ => rfl,fun x => Enc.gd x.Level ∧ Enc.gd x.Tick ∧ Enc.gd x.Seed ∧ Enc.gd x.Scores ∧ Enc.gd x.Bodies,fun x => Enc.wt x.Level + Enc.wt x.Scores + Enc.wt x.Bodies⟩
theorem TWorld.same {x y : TWorld} (h0 : x.Level = y.Level) (h1 : x.Tick = y.Tick) (h2 : x.Seed = y.Seed) (h3 : x.Scores = y.Scores) (h4 : x.Bodies = y.Bodies) : x = y := by cases x; cases y; simp_all
structure TSpectator where
  World : TWorld
  Gaps : Int
  deriving DecidableEq
instance : Enc TSpectator := ⟨6,by omega,fun x => [sl x.World.Level.Rows,.v (.int .i64 x.World.Tick),.v (.int .i64 x.World.Seed),sl x.World.Scores,sl x.World.Bodies,.v (.int .i64 x.Gaps)],fun _ => rfl,fun x => Enc.gd x.World ∧ Enc.gd x.Gaps,fun x => Enc.wt x.World⟩
theorem TSpectator.same {x y : TSpectator} (h0 : x.World = y.World) (h1 : x.Gaps = y.Gaps) : x = y := by cases x; cases y; simp_all

set_option maxHeartbeats 2000000 in
theorem eq_Body (x y : TBody) (hg : Enc.gd x) : Con Try.prog 85 [] [ag x,ag y] [] (B (decide (x = y))) := by
  obtain ⟨g_Kind,g_Owner,g_X,g_Y,g_VX,g_VY,g_Aim,g_Life,g_Timer⟩ := hg
  by_cases e_Kind : ¬ x.Kind = y.Kind
  · have hk : decide (x.Kind ≠ y.Kind) = true := by simp [e_Kind]
    refine Con.of Try.func85 rfl Try.ntmps85 rfl (fun E => ?_)
    refine A_seq (A_region ?_);refine M1 (q_boxN rfl rfl rfl rfl) rfl rfl ?_;refine M1 (q_boxN rfl rfl rfl rfl) rfl rfl ?_;refine M0 (q_assignC rfl rfl rfl) rfl rfl ?_
    refine L_nil (T_n (A_seq (A_seq (A_region ?_))));refine M0 (q_fldp rfl rfl rfl rfl (by decide)) rfl rfl ?_
    refine M0 (q_ld1 rfl rfl rfl rfl rfl) rfl rfl ?_;refine M0 (q_fldp rfl rfl rfl rfl (by decide)) rfl rfl ?_;refine M0 (q_ld1 rfl rfl rfl rfl rfl) rfl rfl ?_
    refine M0 (q_neqK rfl rfl rfl rfl (by assumption)) rfl rfl ?_;refine L_nil (T_n ?_);refine A_ifT rfl ?_;refine A_seq (A_region ?_)
    refine M0 (q_assignC rfl rfl rfl) rfl rfl ?_;refine L_nil (T_n (A_ret (T_r (F_r ?_))))
    exact E_tmp rfl rfl (W_end [] (by decide) rfl rfl (B_eq (decide_eq_false fun e => e_Kind (by rw [e])).symm))
  have e_Kind := Classical.not_not.1 e_Kind
  have k_Kind : decide (x.Kind ≠ y.Kind) = false := by simp [e_Kind]
  by_cases e_Owner : ¬ x.Owner = y.Owner
  · have hk : decide (x.Owner ≠ y.Owner) = true := by simp [e_Owner]
    refine Con.of Try.func85 rfl Try.ntmps85 rfl (fun E => ?_)
    refine A_seq (A_region ?_);refine M1 (q_boxN rfl rfl rfl rfl) rfl rfl ?_;refine M1 (q_boxN rfl rfl rfl rfl) rfl rfl ?_;refine M0 (q_assignC rfl rfl rfl) rfl rfl ?_
    refine L_nil (T_n (A_seq (A_seq (A_region ?_))));refine M0 (q_fldp rfl rfl rfl rfl (by decide)) rfl rfl ?_
    refine M0 (q_ld1 rfl rfl rfl rfl rfl) rfl rfl ?_;refine M0 (q_fldp rfl rfl rfl rfl (by decide)) rfl rfl ?_;refine M0 (q_ld1 rfl rfl rfl rfl rfl) rfl rfl ?_
    refine M0 (q_neqK rfl rfl rfl rfl (by assumption)) rfl rfl ?_;refine L_nil (T_n ?_);refine A_ifF rfl ?_;refine A_skip (T_n (A_seq (A_seq ?_)))
    refine A_region ?_;refine M0 (q_fldp rfl rfl rfl rfl (by decide)) rfl rfl ?_;refine M0 (q_ld1 rfl rfl rfl rfl rfl) rfl rfl ?_;refine M0 (q_fldp rfl rfl rfl rfl (by decide)) rfl rfl ?_
    refine M0 (q_ld1 rfl rfl rfl rfl rfl) rfl rfl ?_;refine M0 (q_neqK rfl rfl rfl rfl (by assumption)) rfl rfl ?_;refine L_nil (T_n ?_);refine A_ifT rfl ?_;refine A_seq ?_
    refine A_region ?_;refine M0 (q_assignC rfl rfl rfl) rfl rfl ?_;refine L_nil (T_n (A_ret (T_r (F_r ?_))))
    exact E_tmp rfl rfl (W_end [] (by decide) rfl rfl (B_eq (decide_eq_false fun e => e_Owner (by rw [e])).symm))
  have e_Owner := Classical.not_not.1 e_Owner
  have k_Owner : decide (x.Owner ≠ y.Owner) = false := by simp [e_Owner]
  by_cases e_X : ¬ x.X = y.X
  · have hk : decide (x.X ≠ y.X) = true := by simp [e_X]
    refine Con.of Try.func85 rfl Try.ntmps85 rfl (fun E => ?_)
    refine A_seq (A_region ?_);refine M1 (q_boxN rfl rfl rfl rfl) rfl rfl ?_;refine M1 (q_boxN rfl rfl rfl rfl) rfl rfl ?_;refine M0 (q_assignC rfl rfl rfl) rfl rfl ?_
    refine L_nil (T_n (A_seq (A_seq (A_region ?_))));refine M0 (q_fldp rfl rfl rfl rfl (by decide)) rfl rfl ?_
    refine M0 (q_ld1 rfl rfl rfl rfl rfl) rfl rfl ?_;refine M0 (q_fldp rfl rfl rfl rfl (by decide)) rfl rfl ?_;refine M0 (q_ld1 rfl rfl rfl rfl rfl) rfl rfl ?_
    refine M0 (q_neqK rfl rfl rfl rfl (by assumption)) rfl rfl ?_;refine L_nil (T_n ?_);refine A_ifF rfl ?_;refine A_skip (T_n (A_seq (A_seq ?_)))
    refine A_region ?_;refine M0 (q_fldp rfl rfl rfl rfl (by decide)) rfl rfl ?_;refine M0 (q_ld1 rfl rfl rfl rfl rfl) rfl rfl ?_;refine M0 (q_fldp rfl rfl rfl rfl (by decide)) rfl rfl ?_
    refine M0 (q_ld1 rfl rfl rfl rfl rfl) rfl rfl ?_;refine M0 (q_neqK rfl rfl rfl rfl (by assumption)) rfl rfl ?_;refine L_nil (T_n ?_);refine A_ifF rfl ?_;refine A_skip ?_
    refine T_n (A_seq (A_seq (A_region ?_)));refine M0 (q_fldp rfl rfl rfl rfl (by decide)) rfl rfl ?_;refine M0 (q_ld1 rfl rfl rfl rfl rfl) rfl rfl ?_
    refine M0 (q_fldp rfl rfl rfl rfl (by decide)) rfl rfl ?_;refine M0 (q_ld1 rfl rfl rfl rfl rfl) rfl rfl ?_;refine M0 (q_neqK rfl rfl rfl rfl (by assumption)) rfl rfl ?_
    refine L_nil (T_n ?_);refine A_ifT rfl ?_;refine A_seq (A_region ?_);refine M0 (q_assignC rfl rfl rfl) rfl rfl ?_;refine L_nil (T_n (A_ret (T_r ?_)))
    refine F_r ?_
    exact E_tmp rfl rfl (W_end [] (by decide) rfl rfl (B_eq (decide_eq_false fun e => e_X (by rw [e])).symm))
  have e_X := Classical.not_not.1 e_X
  have k_X : decide (x.X ≠ y.X) = false := by simp [e_X]
  by_cases e_Y : ¬ x.Y = y.Y
  · have hk : decide (x.Y ≠ y.Y) = true := by simp [e_Y]
    refine Con.of Try.func85 rfl Try.ntmps85 rfl (fun E => ?_)
    refine A_seq (A_region ?_);refine M1 (q_boxN rfl rfl rfl rfl) rfl rfl ?_;refine M1 (q_boxN rfl rfl rfl rfl) rfl rfl ?_;refine M0 (q_assignC rfl rfl rfl) rfl rfl ?_
    refine L_nil (T_n (A_seq (A_seq (A_region ?_))));refine M0 (q_fldp rfl rfl rfl rfl (by decide)) rfl rfl ?_
    refine M0 (q_ld1 rfl rfl rfl rfl rfl) rfl rfl ?_;refine M0 (q_fldp rfl rfl rfl rfl (by decide)) rfl rfl ?_;refine M0 (q_ld1 rfl rfl rfl rfl rfl) rfl rfl ?_
    refine M0 (q_neqK rfl rfl rfl rfl (by assumption)) rfl rfl ?_;refine L_nil (T_n ?_);refine A_ifF rfl ?_;refine A_skip (T_n (A_seq (A_seq ?_)))
    refine A_region ?_;refine M0 (q_fldp rfl rfl rfl rfl (by decide)) rfl rfl ?_;refine M0 (q_ld1 rfl rfl rfl rfl rfl) rfl rfl ?_;refine M0 (q_fldp rfl rfl rfl rfl (by decide)) rfl rfl ?_
    refine M0 (q_ld1 rfl rfl rfl rfl rfl) rfl rfl ?_;refine M0 (q_neqK rfl rfl rfl rfl (by assumption)) rfl rfl ?_;refine L_nil (T_n ?_);refine A_ifF rfl ?_;refine A_skip ?_
    refine T_n (A_seq (A_seq (A_region ?_)));refine M0 (q_fldp rfl rfl rfl rfl (by decide)) rfl rfl ?_;refine M0 (q_ld1 rfl rfl rfl rfl rfl) rfl rfl ?_
    refine M0 (q_fldp rfl rfl rfl rfl (by decide)) rfl rfl ?_;refine M0 (q_ld1 rfl rfl rfl rfl rfl) rfl rfl ?_;refine M0 (q_neqK rfl rfl rfl rfl (by assumption)) rfl rfl ?_
    refine L_nil (T_n ?_);refine A_ifF rfl ?_;refine A_skip (T_n (A_seq (A_seq (A_region ?_))))
    refine M0 (q_fldp rfl rfl rfl rfl (by decide)) rfl rfl ?_;refine M0 (q_ld1 rfl rfl rfl rfl rfl) rfl rfl ?_;refine M0 (q_fldp rfl rfl rfl rfl (by decide)) rfl rfl ?_
    refine M0 (q_ld1 rfl rfl rfl rfl rfl) rfl rfl ?_;refine M0 (q_neqK rfl rfl rfl rfl (by assumption)) rfl rfl ?_;refine L_nil (T_n ?_);refine A_ifT rfl ?_;refine A_seq ?_
    refine A_region ?_;refine M0 (q_assignC rfl rfl rfl) rfl rfl ?_;refine L_nil (T_n (A_ret (T_r (F_r ?_))))
    exact E_tmp rfl rfl (W_end [] (by decide) rfl rfl (B_eq (decide_eq_false fun e => e_Y (by rw [e])).symm))
  have e_Y := Classical.not_not.1 e_Y
  have k_Y : decide (x.Y ≠ y.Y) = false := by simp [e_Y]
  by_cases e_VX : ¬ x.VX = y.VX
  · have hk : decide (x.VX ≠ y.VX) = true := by simp [e_VX]
    refine Con.of Try.func85 rfl Try.ntmps85 rfl (fun E => ?_)
    refine A_seq (A_region ?_);refine M1 (q_boxN rfl rfl rfl rfl) rfl rfl ?_;refine M1 (q_boxN rfl rfl rfl rfl) rfl rfl ?_;refine M0 (q_assignC rfl rfl rfl) rfl rfl ?_
    refine L_nil (T_n (A_seq (A_seq (A_region ?_))));refine M0 (q_fldp rfl rfl rfl rfl (by decide)) rfl rfl ?_
    refine M0 (q_ld1 rfl rfl rfl rfl rfl) rfl rfl ?_;refine M0 (q_fldp rfl rfl rfl rfl (by decide)) rfl rfl ?_;refine M0 (q_ld1 rfl rfl rfl rfl rfl) rfl rfl ?_
    refine M0 (q_neqK rfl rfl rfl rfl (by assumption)) rfl rfl ?_;refine L_nil (T_n ?_);refine A_ifF rfl ?_;refine A_skip (T_n (A_seq (A_seq ?_)))
    refine A_region ?_;refine M0 (q_fldp rfl rfl rfl rfl (by decide)) rfl rfl ?_;refine M0 (q_ld1 rfl rfl rfl rfl rfl) rfl rfl ?_;refine M0 (q_fldp rfl rfl rfl rfl (by decide)) rfl rfl ?_
    refine M0 (q_ld1 rfl rfl rfl rfl rfl) rfl rfl ?_;refine M0 (q_neqK rfl rfl rfl rfl (by assumption)) rfl rfl ?_;refine L_nil (T_n ?_);refine A_ifF rfl ?_;refine A_skip ?_
    refine T_n (A_seq (A_seq (A_region ?_)));refine M0 (q_fldp rfl rfl rfl rfl (by decide)) rfl rfl ?_;refine M0 (q_ld1 rfl rfl rfl rfl rfl) rfl rfl ?_
    refine M0 (q_fldp rfl rfl rfl rfl (by decide)) rfl rfl ?_;refine M0 (q_ld1 rfl rfl rfl rfl rfl) rfl rfl ?_;refine M0 (q_neqK rfl rfl rfl rfl (by assumption)) rfl rfl ?_
    refine L_nil (T_n ?_);refine A_ifF rfl ?_;refine A_skip (T_n (A_seq (A_seq (A_region ?_))))
    refine M0 (q_fldp rfl rfl rfl rfl (by decide)) rfl rfl ?_;refine M0 (q_ld1 rfl rfl rfl rfl rfl) rfl rfl ?_;refine M0 (q_fldp rfl rfl rfl rfl (by decide)) rfl rfl ?_
    refine M0 (q_ld1 rfl rfl rfl rfl rfl) rfl rfl ?_;refine M0 (q_neqK rfl rfl rfl rfl (by assumption)) rfl rfl ?_;refine L_nil (T_n ?_);refine A_ifF rfl ?_;refine A_skip ?_
    refine T_n (A_seq (A_seq (A_region ?_)));refine M0 (q_fldp rfl rfl rfl rfl (by decide)) rfl rfl ?_;refine M0 (q_ld1 rfl rfl rfl rfl rfl) rfl rfl ?_
    refine M0 (q_fldp rfl rfl rfl rfl (by decide)) rfl rfl ?_;refine M0 (q_ld1 rfl rfl rfl rfl rfl) rfl rfl ?_;refine M0 (q_neqK rfl rfl rfl rfl (by assumption)) rfl rfl ?_
    refine L_nil (T_n ?_);refine A_ifT rfl ?_;refine A_seq (A_region ?_);refine M0 (q_assignC rfl rfl rfl) rfl rfl ?_;refine L_nil (T_n (A_ret (T_r ?_)))
    refine F_r ?_
    exact E_tmp rfl rfl (W_end [] (by decide) rfl rfl (B_eq (decide_eq_false fun e => e_VX (by rw [e])).symm))
  have e_VX := Classical.not_not.1 e_VX
  have k_VX : decide (x.VX ≠ y.VX) = false := by simp [e_VX]
  by_cases e_VY : ¬ x.VY = y.VY
  · have hk : decide (x.VY ≠ y.VY) = true := by simp [e_VY]
    refine Con.of Try.func85 rfl Try.ntmps85 rfl (fun E => ?_)
    refine A_seq (A_region ?_);refine M1 (q_boxN rfl rfl rfl rfl) rfl rfl ?_;refine M1 (q_boxN rfl rfl rfl rfl) rfl rfl ?_;refine M0 (q_assignC rfl rfl rfl) rfl rfl ?_
    refine L_nil (T_n (A_seq (A_seq (A_region ?_))));refine M0 (q_fldp rfl rfl rfl rfl (by decide)) rfl rfl ?_
    refine M0 (q_ld1 rfl rfl rfl rfl rfl) rfl rfl ?_;refine M0 (q_fldp rfl rfl rfl rfl (by decide)) rfl rfl ?_;refine M0 (q_ld1 rfl rfl rfl rfl rfl) rfl rfl ?_
    refine M0 (q_neqK rfl rfl rfl rfl (by assumption)) rfl rfl ?_;refine L_nil (T_n ?_);refine A_ifF rfl ?_;refine A_skip (T_n (A_seq (A_seq ?_)))
    refine A_region ?_;refine M0 (q_fldp rfl rfl rfl rfl (by decide)) rfl rfl ?_;refine M0 (q_ld1 rfl rfl rfl rfl rfl) rfl rfl ?_;refine M0 (q_fldp rfl rfl rfl rfl (by decide)) rfl rfl ?_
    refine M0 (q_ld1 rfl rfl rfl rfl rfl) rfl rfl ?_;refine M0 (q_neqK rfl rfl rfl rfl (by assumption)) rfl rfl ?_;refine L_nil (T_n ?_);refine A_ifF rfl ?_;refine A_skip ?_
    refine T_n (A_seq (A_seq (A_region ?_)));refine M0 (q_fldp rfl rfl rfl rfl (by decide)) rfl rfl ?_;refine M0 (q_ld1 rfl rfl rfl rfl rfl) rfl rfl ?_
    refine M0 (q_fldp rfl rfl rfl rfl (by decide)) rfl rfl ?_;refine M0 (q_ld1 rfl rfl rfl rfl rfl) rfl rfl ?_;refine M0 (q_neqK rfl rfl rfl rfl (by assumption)) rfl rfl ?_
    refine L_nil (T_n ?_);refine A_ifF rfl ?_;refine A_skip (T_n (A_seq (A_seq (A_region ?_))))
    refine M0 (q_fldp rfl rfl rfl rfl (by decide)) rfl rfl ?_;refine M0 (q_ld1 rfl rfl rfl rfl rfl) rfl rfl ?_;refine M0 (q_fldp rfl rfl rfl rfl (by decide)) rfl rfl ?_
    refine M0 (q_ld1 rfl rfl rfl rfl rfl) rfl rfl ?_;refine M0 (q_neqK rfl rfl rfl rfl (by assumption)) rfl rfl ?_;refine L_nil (T_n ?_);refine A_ifF rfl ?_;refine A_skip ?_
    refine T_n (A_seq (A_seq (A_region ?_)));refine M0 (q_fldp rfl rfl rfl rfl (by decide)) rfl rfl ?_;refine M0 (q_ld1 rfl rfl rfl rfl rfl) rfl rfl ?_
    refine M0 (q_fldp rfl rfl rfl rfl (by decide)) rfl rfl ?_;refine M0 (q_ld1 rfl rfl rfl rfl rfl) rfl rfl ?_;refine M0 (q_neqK rfl rfl rfl rfl (by assumption)) rfl rfl ?_
    refine L_nil (T_n ?_);refine A_ifF rfl ?_;refine A_skip (T_n (A_seq (A_seq (A_region ?_))))
    refine M0 (q_fldp rfl rfl rfl rfl (by decide)) rfl rfl ?_;refine M0 (q_ld1 rfl rfl rfl rfl rfl) rfl rfl ?_;refine M0 (q_fldp rfl rfl rfl rfl (by decide)) rfl rfl ?_
    refine M0 (q_ld1 rfl rfl rfl rfl rfl) rfl rfl ?_;refine M0 (q_neqK rfl rfl rfl rfl (by assumption)) rfl rfl ?_;refine L_nil (T_n ?_);refine A_ifT rfl ?_;refine A_seq ?_
    refine A_region ?_;refine M0 (q_assignC rfl rfl rfl) rfl rfl ?_;refine L_nil (T_n (A_ret (T_r (F_r ?_))))
    exact E_tmp rfl rfl (W_end [] (by decide) rfl rfl (B_eq (decide_eq_false fun e => e_VY (by rw [e])).symm))
  have e_VY := Classical.not_not.1 e_VY
  have k_VY : decide (x.VY ≠ y.VY) = false := by simp [e_VY]
  by_cases e_Aim : ¬ x.Aim = y.Aim
  · have hk : decide (x.Aim ≠ y.Aim) = true := by simp [e_Aim]
    refine Con.of Try.func85 rfl Try.ntmps85 rfl (fun E => ?_)
    refine A_seq (A_region ?_);refine M1 (q_boxN rfl rfl rfl rfl) rfl rfl ?_;refine M1 (q_boxN rfl rfl rfl rfl) rfl rfl ?_;refine M0 (q_assignC rfl rfl rfl) rfl rfl ?_
    refine L_nil (T_n (A_seq (A_seq (A_region ?_))));refine M0 (q_fldp rfl rfl rfl rfl (by decide)) rfl rfl ?_
    refine M0 (q_ld1 rfl rfl rfl rfl rfl) rfl rfl ?_;refine M0 (q_fldp rfl rfl rfl rfl (by decide)) rfl rfl ?_;refine M0 (q_ld1 rfl rfl rfl rfl rfl) rfl rfl ?_
    refine M0 (q_neqK rfl rfl rfl rfl (by assumption)) rfl rfl ?_;refine L_nil (T_n ?_);refine A_ifF rfl ?_;refine A_skip (T_n (A_seq (A_seq ?_)))
    refine A_region ?_;refine M0 (q_fldp rfl rfl rfl rfl (by decide)) rfl rfl ?_;refine M0 (q_ld1 rfl rfl rfl rfl rfl) rfl rfl ?_;refine M0 (q_fldp rfl rfl rfl rfl (by decide)) rfl rfl ?_
    refine M0 (q_ld1 rfl rfl rfl rfl rfl) rfl rfl ?_;refine M0 (q_neqK rfl rfl rfl rfl (by assumption)) rfl rfl ?_;refine L_nil (T_n ?_);refine A_ifF rfl ?_;refine A_skip ?_
    refine T_n (A_seq (A_seq (A_region ?_)));refine M0 (q_fldp rfl rfl rfl rfl (by decide)) rfl rfl ?_;refine M0 (q_ld1 rfl rfl rfl rfl rfl) rfl rfl ?_
    refine M0 (q_fldp rfl rfl rfl rfl (by decide)) rfl rfl ?_;refine M0 (q_ld1 rfl rfl rfl rfl rfl) rfl rfl ?_;refine M0 (q_neqK rfl rfl rfl rfl (by assumption)) rfl rfl ?_
    refine L_nil (T_n ?_);refine A_ifF rfl ?_;refine A_skip (T_n (A_seq (A_seq (A_region ?_))))
    refine M0 (q_fldp rfl rfl rfl rfl (by decide)) rfl rfl ?_;refine M0 (q_ld1 rfl rfl rfl rfl rfl) rfl rfl ?_;refine M0 (q_fldp rfl rfl rfl rfl (by decide)) rfl rfl ?_
    refine M0 (q_ld1 rfl rfl rfl rfl rfl) rfl rfl ?_;refine M0 (q_neqK rfl rfl rfl rfl (by assumption)) rfl rfl ?_;refine L_nil (T_n ?_);refine A_ifF rfl ?_;refine A_skip ?_
    refine T_n (A_seq (A_seq (A_region ?_)));refine M0 (q_fldp rfl rfl rfl rfl (by decide)) rfl rfl ?_;refine M0 (q_ld1 rfl rfl rfl rfl rfl) rfl rfl ?_
    refine M0 (q_fldp rfl rfl rfl rfl (by decide)) rfl rfl ?_;refine M0 (q_ld1 rfl rfl rfl rfl rfl) rfl rfl ?_;refine M0 (q_neqK rfl rfl rfl rfl (by assumption)) rfl rfl ?_
    refine L_nil (T_n ?_);refine A_ifF rfl ?_;refine A_skip (T_n (A_seq (A_seq (A_region ?_))))
    refine M0 (q_fldp rfl rfl rfl rfl (by decide)) rfl rfl ?_;refine M0 (q_ld1 rfl rfl rfl rfl rfl) rfl rfl ?_;refine M0 (q_fldp rfl rfl rfl rfl (by decide)) rfl rfl ?_
    refine M0 (q_ld1 rfl rfl rfl rfl rfl) rfl rfl ?_;refine M0 (q_neqK rfl rfl rfl rfl (by assumption)) rfl rfl ?_;refine L_nil (T_n ?_);refine A_ifF rfl ?_;refine A_skip ?_
    refine T_n (A_seq (A_seq (A_region ?_)));refine M0 (q_fldp rfl rfl rfl rfl (by decide)) rfl rfl ?_;refine M0 (q_ld1 rfl rfl rfl rfl rfl) rfl rfl ?_
    refine M0 (q_fldp rfl rfl rfl rfl (by decide)) rfl rfl ?_;refine M0 (q_ld1 rfl rfl rfl rfl rfl) rfl rfl ?_;refine M0 (q_neqK rfl rfl rfl rfl (by assumption)) rfl rfl ?_
    refine L_nil (T_n ?_);refine A_ifT rfl ?_;refine A_seq (A_region ?_);refine M0 (q_assignC rfl rfl rfl) rfl rfl ?_;refine L_nil (T_n (A_ret (T_r ?_)))
    refine F_r ?_
    exact E_tmp rfl rfl (W_end [] (by decide) rfl rfl (B_eq (decide_eq_false fun e => e_Aim (by rw [e])).symm))
  have e_Aim := Classical.not_not.1 e_Aim
  have k_Aim : decide (x.Aim ≠ y.Aim) = false := by simp [e_Aim]
  by_cases e_Life : ¬ x.Life = y.Life
  · have hk : decide (x.Life ≠ y.Life) = true := by simp [e_Life]
    refine Con.of Try.func85 rfl Try.ntmps85 rfl (fun E => ?_)
    refine A_seq (A_region ?_);refine M1 (q_boxN rfl rfl rfl rfl) rfl rfl ?_;refine M1 (q_boxN rfl rfl rfl rfl) rfl rfl ?_;refine M0 (q_assignC rfl rfl rfl) rfl rfl ?_
    refine L_nil (T_n (A_seq (A_seq (A_region ?_))));refine M0 (q_fldp rfl rfl rfl rfl (by decide)) rfl rfl ?_
    refine M0 (q_ld1 rfl rfl rfl rfl rfl) rfl rfl ?_;refine M0 (q_fldp rfl rfl rfl rfl (by decide)) rfl rfl ?_;refine M0 (q_ld1 rfl rfl rfl rfl rfl) rfl rfl ?_
    refine M0 (q_neqK rfl rfl rfl rfl (by assumption)) rfl rfl ?_;refine L_nil (T_n ?_);refine A_ifF rfl ?_;refine A_skip (T_n (A_seq (A_seq ?_)))
    refine A_region ?_;refine M0 (q_fldp rfl rfl rfl rfl (by decide)) rfl rfl ?_;refine M0 (q_ld1 rfl rfl rfl rfl rfl) rfl rfl ?_;refine M0 (q_fldp rfl rfl rfl rfl (by decide)) rfl rfl ?_
    refine M0 (q_ld1 rfl rfl rfl rfl rfl) rfl rfl ?_;refine M0 (q_neqK rfl rfl rfl rfl (by assumption)) rfl rfl ?_;refine L_nil (T_n ?_);refine A_ifF rfl ?_;refine A_skip ?_
    refine T_n (A_seq (A_seq (A_region ?_)));refine M0 (q_fldp rfl rfl rfl rfl (by decide)) rfl rfl ?_;refine M0 (q_ld1 rfl rfl rfl rfl rfl) rfl rfl ?_
    refine M0 (q_fldp rfl rfl rfl rfl (by decide)) rfl rfl ?_;refine M0 (q_ld1 rfl rfl rfl rfl rfl) rfl rfl ?_;refine M0 (q_neqK rfl rfl rfl rfl (by assumption)) rfl rfl ?_
    refine L_nil (T_n ?_);refine A_ifF rfl ?_;refine A_skip (T_n (A_seq (A_seq (A_region ?_))))
    refine M0 (q_fldp rfl rfl rfl rfl (by decide)) rfl rfl ?_;refine M0 (q_ld1 rfl rfl rfl rfl rfl) rfl rfl ?_;refine M0 (q_fldp rfl rfl rfl rfl (by decide)) rfl rfl ?_
    refine M0 (q_ld1 rfl rfl rfl rfl rfl) rfl rfl ?_;refine M0 (q_neqK rfl rfl rfl rfl (by assumption)) rfl rfl ?_;refine L_nil (T_n ?_);refine A_ifF rfl ?_;refine A_skip ?_
    refine T_n (A_seq (A_seq (A_region ?_)));refine M0 (q_fldp rfl rfl rfl rfl (by decide)) rfl rfl ?_;refine M0 (q_ld1 rfl rfl rfl rfl rfl) rfl rfl ?_
    refine M0 (q_fldp rfl rfl rfl rfl (by decide)) rfl rfl ?_;refine M0 (q_ld1 rfl rfl rfl rfl rfl) rfl rfl ?_;refine M0 (q_neqK rfl rfl rfl rfl (by assumption)) rfl rfl ?_
    refine L_nil (T_n ?_);refine A_ifF rfl ?_;refine A_skip (T_n (A_seq (A_seq (A_region ?_))))
    refine M0 (q_fldp rfl rfl rfl rfl (by decide)) rfl rfl ?_;refine M0 (q_ld1 rfl rfl rfl rfl rfl) rfl rfl ?_;refine M0 (q_fldp rfl rfl rfl rfl (by decide)) rfl rfl ?_
    refine M0 (q_ld1 rfl rfl rfl rfl rfl) rfl rfl ?_;refine M0 (q_neqK rfl rfl rfl rfl (by assumption)) rfl rfl ?_;refine L_nil (T_n ?_);refine A_ifF rfl ?_;refine A_skip ?_
    refine T_n (A_seq (A_seq (A_region ?_)));refine M0 (q_fldp rfl rfl rfl rfl (by decide)) rfl rfl ?_;refine M0 (q_ld1 rfl rfl rfl rfl rfl) rfl rfl ?_
    refine M0 (q_fldp rfl rfl rfl rfl (by decide)) rfl rfl ?_;refine M0 (q_ld1 rfl rfl rfl rfl rfl) rfl rfl ?_;refine M0 (q_neqK rfl rfl rfl rfl (by assumption)) rfl rfl ?_
    refine L_nil (T_n ?_);refine A_ifF rfl ?_;refine A_skip (T_n (A_seq (A_seq (A_region ?_))))
    refine M0 (q_fldp rfl rfl rfl rfl (by decide)) rfl rfl ?_;refine M0 (q_ld1 rfl rfl rfl rfl rfl) rfl rfl ?_;refine M0 (q_fldp rfl rfl rfl rfl (by decide)) rfl rfl ?_
    refine M0 (q_ld1 rfl rfl rfl rfl rfl) rfl rfl ?_;refine M0 (q_neqK rfl rfl rfl rfl (by assumption)) rfl rfl ?_;refine L_nil (T_n ?_);refine A_ifT rfl ?_;refine A_seq ?_
    refine A_region ?_;refine M0 (q_assignC rfl rfl rfl) rfl rfl ?_;refine L_nil (T_n (A_ret (T_r (F_r ?_))))
    exact E_tmp rfl rfl (W_end [] (by decide) rfl rfl (B_eq (decide_eq_false fun e => e_Life (by rw [e])).symm))
  have e_Life := Classical.not_not.1 e_Life
  have k_Life : decide (x.Life ≠ y.Life) = false := by simp [e_Life]
  by_cases e_Timer : ¬ x.Timer = y.Timer
  · have hk : decide (x.Timer ≠ y.Timer) = true := by simp [e_Timer]
    refine Con.of Try.func85 rfl Try.ntmps85 rfl (fun E => ?_)
    refine A_seq (A_region ?_);refine M1 (q_boxN rfl rfl rfl rfl) rfl rfl ?_;refine M1 (q_boxN rfl rfl rfl rfl) rfl rfl ?_;refine M0 (q_assignC rfl rfl rfl) rfl rfl ?_
    refine L_nil (T_n (A_seq (A_seq (A_region ?_))));refine M0 (q_fldp rfl rfl rfl rfl (by decide)) rfl rfl ?_
    refine M0 (q_ld1 rfl rfl rfl rfl rfl) rfl rfl ?_;refine M0 (q_fldp rfl rfl rfl rfl (by decide)) rfl rfl ?_;refine M0 (q_ld1 rfl rfl rfl rfl rfl) rfl rfl ?_
    refine M0 (q_neqK rfl rfl rfl rfl (by assumption)) rfl rfl ?_;refine L_nil (T_n ?_);refine A_ifF rfl ?_;refine A_skip (T_n (A_seq (A_seq ?_)))
    refine A_region ?_;refine M0 (q_fldp rfl rfl rfl rfl (by decide)) rfl rfl ?_;refine M0 (q_ld1 rfl rfl rfl rfl rfl) rfl rfl ?_;refine M0 (q_fldp rfl rfl rfl rfl (by decide)) rfl rfl ?_
    refine M0 (q_ld1 rfl rfl rfl rfl rfl) rfl rfl ?_;refine M0 (q_neqK rfl rfl rfl rfl (by assumption)) rfl rfl ?_;refine L_nil (T_n ?_);refine A_ifF rfl ?_;refine A_skip ?_
    refine T_n (A_seq (A_seq (A_region ?_)));refine M0 (q_fldp rfl rfl rfl rfl (by decide)) rfl rfl ?_;refine M0 (q_ld1 rfl rfl rfl rfl rfl) rfl rfl ?_
    refine M0 (q_fldp rfl rfl rfl rfl (by decide)) rfl rfl ?_;refine M0 (q_ld1 rfl rfl rfl rfl rfl) rfl rfl ?_;refine M0 (q_neqK rfl rfl rfl rfl (by assumption)) rfl rfl ?_
    refine L_nil (T_n ?_);refine A_ifF rfl ?_;refine A_skip (T_n (A_seq (A_seq (A_region ?_))))
    refine M0 (q_fldp rfl rfl rfl rfl (by decide)) rfl rfl ?_;refine M0 (q_ld1 rfl rfl rfl rfl rfl) rfl rfl ?_;refine M0 (q_fldp rfl rfl rfl rfl (by decide)) rfl rfl ?_
    refine M0 (q_ld1 rfl rfl rfl rfl rfl) rfl rfl ?_;refine M0 (q_neqK rfl rfl rfl rfl (by assumption)) rfl rfl ?_;refine L_nil (T_n ?_);refine A_ifF rfl ?_;refine A_skip ?_
    refine T_n (A_seq (A_seq (A_region ?_)));refine M0 (q_fldp rfl rfl rfl rfl (by decide)) rfl rfl ?_;refine M0 (q_ld1 rfl rfl rfl rfl rfl) rfl rfl ?_
    refine M0 (q_fldp rfl rfl rfl rfl (by decide)) rfl rfl ?_;refine M0 (q_ld1 rfl rfl rfl rfl rfl) rfl rfl ?_;refine M0 (q_neqK rfl rfl rfl rfl (by assumption)) rfl rfl ?_
    refine L_nil (T_n ?_);refine A_ifF rfl ?_;refine A_skip (T_n (A_seq (A_seq (A_region ?_))))
    refine M0 (q_fldp rfl rfl rfl rfl (by decide)) rfl rfl ?_;refine M0 (q_ld1 rfl rfl rfl rfl rfl) rfl rfl ?_;refine M0 (q_fldp rfl rfl rfl rfl (by decide)) rfl rfl ?_
    refine M0 (q_ld1 rfl rfl rfl rfl rfl) rfl rfl ?_;refine M0 (q_neqK rfl rfl rfl rfl (by assumption)) rfl rfl ?_;refine L_nil (T_n ?_);refine A_ifF rfl ?_;refine A_skip ?_
    refine T_n (A_seq (A_seq (A_region ?_)));refine M0 (q_fldp rfl rfl rfl rfl (by decide)) rfl rfl ?_;refine M0 (q_ld1 rfl rfl rfl rfl rfl) rfl rfl ?_
    refine M0 (q_fldp rfl rfl rfl rfl (by decide)) rfl rfl ?_;refine M0 (q_ld1 rfl rfl rfl rfl rfl) rfl rfl ?_;refine M0 (q_neqK rfl rfl rfl rfl (by assumption)) rfl rfl ?_
    refine L_nil (T_n ?_);refine A_ifF rfl ?_;refine A_skip (T_n (A_seq (A_seq (A_region ?_))))
    refine M0 (q_fldp rfl rfl rfl rfl (by decide)) rfl rfl ?_;refine M0 (q_ld1 rfl rfl rfl rfl rfl) rfl rfl ?_;refine M0 (q_fldp rfl rfl rfl rfl (by decide)) rfl rfl ?_
    refine M0 (q_ld1 rfl rfl rfl rfl rfl) rfl rfl ?_;refine M0 (q_neqK rfl rfl rfl rfl (by assumption)) rfl rfl ?_;refine L_nil (T_n ?_);refine A_ifF rfl ?_;refine A_skip ?_
    refine T_n (A_seq (A_seq (A_region ?_)));refine M0 (q_fldp rfl rfl rfl rfl (by decide)) rfl rfl ?_;refine M0 (q_ld1 rfl rfl rfl rfl rfl) rfl rfl ?_
    refine M0 (q_fldp rfl rfl rfl rfl (by decide)) rfl rfl ?_;refine M0 (q_ld1 rfl rfl rfl rfl rfl) rfl rfl ?_;refine M0 (q_neqK rfl rfl rfl rfl (by assumption)) rfl rfl ?_
    refine L_nil (T_n ?_);refine A_ifT rfl ?_;refine A_seq (A_region ?_);refine M0 (q_assignC rfl rfl rfl) rfl rfl ?_;refine L_nil (T_n (A_ret (T_r ?_)))
    refine F_r ?_
    exact E_tmp rfl rfl (W_end [] (by decide) rfl rfl (B_eq (decide_eq_false fun e => e_Timer (by rw [e])).symm))
  have e_Timer := Classical.not_not.1 e_Timer
  have k_Timer : decide (x.Timer ≠ y.Timer) = false := by simp [e_Timer]
  refine Con.of Try.func85 rfl Try.ntmps85 rfl (fun E => ?_)
  refine A_seq (A_region ?_);refine M1 (q_boxN rfl rfl rfl rfl) rfl rfl ?_;refine M1 (q_boxN rfl rfl rfl rfl) rfl rfl ?_;refine M0 (q_assignC rfl rfl rfl) rfl rfl ?_
  refine L_nil (T_n (A_seq (A_seq (A_region ?_))));refine M0 (q_fldp rfl rfl rfl rfl (by decide)) rfl rfl ?_
  refine M0 (q_ld1 rfl rfl rfl rfl rfl) rfl rfl ?_;refine M0 (q_fldp rfl rfl rfl rfl (by decide)) rfl rfl ?_;refine M0 (q_ld1 rfl rfl rfl rfl rfl) rfl rfl ?_
  refine M0 (q_neqK rfl rfl rfl rfl (by assumption)) rfl rfl ?_;refine L_nil (T_n ?_);refine A_ifF rfl ?_;refine A_skip (T_n (A_seq (A_seq ?_)))
  refine A_region ?_;refine M0 (q_fldp rfl rfl rfl rfl (by decide)) rfl rfl ?_;refine M0 (q_ld1 rfl rfl rfl rfl rfl) rfl rfl ?_;refine M0 (q_fldp rfl rfl rfl rfl (by decide)) rfl rfl ?_
  refine M0 (q_ld1 rfl rfl rfl rfl rfl) rfl rfl ?_;refine M0 (q_neqK rfl rfl rfl rfl (by assumption)) rfl rfl ?_;refine L_nil (T_n ?_);refine A_ifF rfl ?_;refine A_skip ?_
  refine T_n (A_seq (A_seq (A_region ?_)));refine M0 (q_fldp rfl rfl rfl rfl (by decide)) rfl rfl ?_;refine M0 (q_ld1 rfl rfl rfl rfl rfl) rfl rfl ?_
  refine M0 (q_fldp rfl rfl rfl rfl (by decide)) rfl rfl ?_;refine M0 (q_ld1 rfl rfl rfl rfl rfl) rfl rfl ?_;refine M0 (q_neqK rfl rfl rfl rfl (by assumption)) rfl rfl ?_
  refine L_nil (T_n ?_);refine A_ifF rfl ?_;refine A_skip (T_n (A_seq (A_seq (A_region ?_))))
  refine M0 (q_fldp rfl rfl rfl rfl (by decide)) rfl rfl ?_;refine M0 (q_ld1 rfl rfl rfl rfl rfl) rfl rfl ?_;refine M0 (q_fldp rfl rfl rfl rfl (by decide)) rfl rfl ?_
  refine M0 (q_ld1 rfl rfl rfl rfl rfl) rfl rfl ?_;refine M0 (q_neqK rfl rfl rfl rfl (by assumption)) rfl rfl ?_;refine L_nil (T_n ?_);refine A_ifF rfl ?_;refine A_skip ?_
  refine T_n (A_seq (A_seq (A_region ?_)));refine M0 (q_fldp rfl rfl rfl rfl (by decide)) rfl rfl ?_;refine M0 (q_ld1 rfl rfl rfl rfl rfl) rfl rfl ?_
  refine M0 (q_fldp rfl rfl rfl rfl (by decide)) rfl rfl ?_;refine M0 (q_ld1 rfl rfl rfl rfl rfl) rfl rfl ?_;refine M0 (q_neqK rfl rfl rfl rfl (by assumption)) rfl rfl ?_
  refine L_nil (T_n ?_);refine A_ifF rfl ?_;refine A_skip (T_n (A_seq (A_seq (A_region ?_))))
  refine M0 (q_fldp rfl rfl rfl rfl (by decide)) rfl rfl ?_;refine M0 (q_ld1 rfl rfl rfl rfl rfl) rfl rfl ?_;refine M0 (q_fldp rfl rfl rfl rfl (by decide)) rfl rfl ?_
  refine M0 (q_ld1 rfl rfl rfl rfl rfl) rfl rfl ?_;refine M0 (q_neqK rfl rfl rfl rfl (by assumption)) rfl rfl ?_;refine L_nil (T_n ?_);refine A_ifF rfl ?_;refine A_skip ?_
  refine T_n (A_seq (A_seq (A_region ?_)));refine M0 (q_fldp rfl rfl rfl rfl (by decide)) rfl rfl ?_;refine M0 (q_ld1 rfl rfl rfl rfl rfl) rfl rfl ?_
  refine M0 (q_fldp rfl rfl rfl rfl (by decide)) rfl rfl ?_;refine M0 (q_ld1 rfl rfl rfl rfl rfl) rfl rfl ?_;refine M0 (q_neqK rfl rfl rfl rfl (by assumption)) rfl rfl ?_
  refine L_nil (T_n ?_);refine A_ifF rfl ?_;refine A_skip (T_n (A_seq (A_seq (A_region ?_))))
  refine M0 (q_fldp rfl rfl rfl rfl (by decide)) rfl rfl ?_;refine M0 (q_ld1 rfl rfl rfl rfl rfl) rfl rfl ?_;refine M0 (q_fldp rfl rfl rfl rfl (by decide)) rfl rfl ?_
  refine M0 (q_ld1 rfl rfl rfl rfl rfl) rfl rfl ?_;refine M0 (q_neqK rfl rfl rfl rfl (by assumption)) rfl rfl ?_;refine L_nil (T_n ?_);refine A_ifF rfl ?_;refine A_skip ?_
  refine T_n (A_seq (A_seq (A_region ?_)));refine M0 (q_fldp rfl rfl rfl rfl (by decide)) rfl rfl ?_;refine M0 (q_ld1 rfl rfl rfl rfl rfl) rfl rfl ?_
  refine M0 (q_fldp rfl rfl rfl rfl (by decide)) rfl rfl ?_;refine M0 (q_ld1 rfl rfl rfl rfl rfl) rfl rfl ?_;refine M0 (q_neqK rfl rfl rfl rfl (by assumption)) rfl rfl ?_
  refine L_nil (T_n ?_);refine A_ifF rfl ?_;refine A_skip (T_n (A_seq (A_region ?_)));refine M0 (q_assignC rfl rfl rfl) rfl rfl ?_;refine L_nil ?_
  refine T_n (A_ret (F_r ?_))
  exact E_tmp rfl rfl (W_end [] (by decide) rfl rfl (B_eq (decide_eq_true (TBody.same e_Kind e_Owner e_X e_Y e_VX e_VY e_Aim e_Life e_Timer)).symm))
set_option maxHeartbeats 1000000 in
theorem eq_BodyS (xs ys : List TBody) (hn : Enc.gd xs) : Con Try.prog 45 [] [al xs,al ys] [] (B (decide (xs = ys))) := by
  have hn1 := hn.1
  have hlx := els_len xs
  have hly := els_len ys
  by_cases hl : xs.length = ys.length
  · have hb : decide (((els xs).length : Int) ≠ ((els ys).length : Int)) = false := by rw [hlx,hly,hl]; simp
    refine Con.of Try.func45 rfl Try.ntmps45 rfl (fun E => ?_)
    refine A_seq (A_region ?_);refine M0 (q_assignC rfl rfl rfl) rfl rfl ?_;refine L_nil (T_n (A_seq (A_seq (A_region ?_))))
    refine M0 (q_moveC rfl rfl rfl) rfl rfl ?_;refine M0 (q_len rfl rfl rfl) rfl rfl ?_;refine M0 (q_moveC rfl rfl rfl) rfl rfl ?_;refine M0 (q_len rfl rfl rfl) rfl rfl ?_
    refine M0 (q_neqK rfl rfl rfl rfl (by assumption)) rfl rfl ?_;refine L_nil (T_n ?_);refine A_ifF rfl ?_;refine A_skip (T_n (A_seq (A_seq ?_)))
    refine A_region ?_;refine M0 (q_assignC rfl rfl rfl) rfl rfl ?_;refine L_nil (T_n (A_block ?_))
    refine A_loop (fun m st => ∃ k : Nat,k + m = xs.length ∧ (xs.take k = ys.take k) ∧ st = (fun k : Nat => (⟨_,[(0,L xs),(1,L ys),(5,I k)],[]⟩ : St)) k) (xs.length) ⟨(fun k : Nat => (⟨_,[(0,L xs),(1,L ys),(5,I k)],[]⟩ : St)) 0,W_go [] (by decide) rfl (rfl) (.cons rfl (.cons rfl (.cons rfl (.nil)))),0,by omega,by simp,rfl⟩ ?_
    rintro m_A _ ⟨k,hk_A,hp_A,rfl⟩
    refine A_seq (A_seq (A_region ?_));refine M0 (q_moveC rfl rfl rfl) rfl rfl ?_;refine M0 (q_moveC rfl rfl rfl) rfl rfl ?_;refine M0 (q_len rfl rfl rfl) rfl rfl ?_
    refine M0 (q_lss rfl rfl rfl rfl) rfl rfl ?_;refine L_nil (T_n ?_)
    refine A_cond rfl (fun h => ?_) (fun h => ?_)
    · have h3 : k < xs.length := by have := of_decide_eq_true h; omega
      have h4 : k < ys.length := by omega
      have hat := els_at h3
      have hat2 := els_at h4
      have hc := eq_Body xs[k] ys[k] (hn.2 _ (List.getElem_mem h3))
      by_cases he : xs[k] = ys[k]
      · rw [decide_eq_true he] at hc
        refine A_skip (T_n (A_seq (A_block (A_seq ?_))))
        refine A_draw [[],[],[0,1],[0,1,2],[],[],[4,5],[4,5,6],[0,1,2,3,4,5,6,7],[0,1,2,3,4,5,6,7,8]] [[],[],[17,18],[17,18,19],[],[],[21,22],[21,22,23],[17,18,19,20,21,22,23,24],[17,18,19,20,21,22,23,24,25]] [[18,21,22,23,24],[17,21,22,23,24],[21,22,23,24],[21,22,23,24],[17,18,19,20,22],[17,18,19,20,21],[17,18,19,20],[17,18,19,20],[],[]] rfl ?_
        refine DR.step (q_moveC rfl rfl rfl) rfl rfl ?_;refine DR.step (q_moveC rfl rfl rfl) rfl rfl ?_;refine DR.step (q_at rfl rfl rfl rfl (by omega) (by assumption) rfl) rfl rfl ?_
        refine DR.step (q_lrN rfl rfl rfl rfl rfl) rfl rfl ?_;refine DR.step (q_moveC rfl rfl rfl) rfl rfl ?_;refine DR.step (q_moveC rfl rfl rfl) rfl rfl ?_
        refine DR.step (q_at rfl rfl rfl rfl (by omega) (by assumption) rfl) rfl rfl ?_;refine DR.step (q_lrN rfl rfl rfl rfl rfl) rfl rfl ?_
        refine DR.step (q_call0 rfl rfl (hc) rfl) rfl rfl ?_;refine DR.step (q_not rfl rfl rfl) rfl rfl ?_;refine DR.stop (by kernel_rfl) (by kernel_rfl) ?_
        refine L_nil (T_n ?_);refine A_ifF rfl ?_;refine A_skip (B_n (T_n (A_region ?_)));refine M0 (q_moveC rfl rfl rfl) rfl rfl ?_
        refine M0 (q_add rfl rfl rfl rfl (by omega)) rfl rfl ?_;refine M0 (q_assignC rfl rfl rfl) rfl rfl ?_;refine L_nil (T_n ?_)
        exact ⟨xs.length - (k + 1),by omega,(fun k : Nat => (⟨_,[(0,L xs),(1,L ys),(5,I k)],[]⟩ : St)) (k + 1),W_go [] (by decide) rfl (rfl) (.cons rfl (.cons rfl (.cons rfl (.nil)))),k + 1,by omega,eq_next h3 h4 hp_A he,rfl⟩
      · rw [decide_eq_false he] at hc
        refine A_skip (T_n (A_seq (A_block (A_seq ?_))))
        refine A_draw [[],[],[0,1],[0,1,2],[],[],[4,5],[4,5,6],[0,1,2,3,4,5,6,7],[0,1,2,3,4,5,6,7,8]] [[],[],[17,18],[17,18,19],[],[],[21,22],[21,22,23],[17,18,19,20,21,22,23,24],[17,18,19,20,21,22,23,24,25]] [[18,21,22,23,24],[17,21,22,23,24],[21,22,23,24],[21,22,23,24],[17,18,19,20,22],[17,18,19,20,21],[17,18,19,20],[17,18,19,20],[],[]] rfl ?_
        refine DR.step (q_moveC rfl rfl rfl) rfl rfl ?_;refine DR.step (q_moveC rfl rfl rfl) rfl rfl ?_;refine DR.step (q_at rfl rfl rfl rfl (by omega) (by assumption) rfl) rfl rfl ?_
        refine DR.step (q_lrN rfl rfl rfl rfl rfl) rfl rfl ?_;refine DR.step (q_moveC rfl rfl rfl) rfl rfl ?_;refine DR.step (q_moveC rfl rfl rfl) rfl rfl ?_
        refine DR.step (q_at rfl rfl rfl rfl (by omega) (by assumption) rfl) rfl rfl ?_;refine DR.step (q_lrN rfl rfl rfl rfl rfl) rfl rfl ?_
        refine DR.step (q_call0 rfl rfl (hc) rfl) rfl rfl ?_;refine DR.step (q_not rfl rfl rfl) rfl rfl ?_;refine DR.stop (by kernel_rfl) (by kernel_rfl) ?_
        refine L_nil (T_n ?_);refine A_ifT rfl ?_;refine A_seq (A_region ?_);refine M0 (q_assignC rfl rfl rfl) rfl rfl ?_;refine L_nil (T_n (A_ret (B_r ?_)))
        refine T_r (T_r (B_r (T_r (F_r ?_))))
        exact E_tmp rfl rfl (W_end [] (by decide) rfl rfl (B_eq (eq_ne h3 h4 he).symm))
    · have h3 : ¬ ((k : Int) < (els xs).length) := of_decide_eq_false h
      refine A_exit (T_x (T_x (B_xs (T_n (A_seq (A_region ?_))))));refine M0 (q_assignC rfl rfl rfl) rfl rfl ?_;refine L_nil (T_n ?_)
      refine A_ret (F_r ?_)
      exact E_tmp rfl rfl (W_end [] (by decide) rfl rfl (B_eq (eq_all (by omega) hl hp_A).symm))
  · have hb : decide (((els xs).length : Int) ≠ ((els ys).length : Int)) = true := by rw [hlx,hly]; simp; omega
    refine Con.of Try.func45 rfl Try.ntmps45 rfl (fun E => ?_)
    refine A_seq (A_region ?_);refine M0 (q_assignC rfl rfl rfl) rfl rfl ?_;refine L_nil (T_n (A_seq (A_seq (A_region ?_))))
    refine M0 (q_moveC rfl rfl rfl) rfl rfl ?_;refine M0 (q_len rfl rfl rfl) rfl rfl ?_;refine M0 (q_moveC rfl rfl rfl) rfl rfl ?_;refine M0 (q_len rfl rfl rfl) rfl rfl ?_
    refine M0 (q_neqK rfl rfl rfl rfl (by assumption)) rfl rfl ?_;refine L_nil (T_n ?_);refine A_ifT rfl ?_;refine A_seq (A_region ?_)
    refine M0 (q_assignC rfl rfl rfl) rfl rfl ?_;refine L_nil (T_n (A_ret (T_r (F_r ?_))))
    exact E_tmp rfl rfl (W_end [] (by decide) rfl rfl (B_eq (eq_len hl).symm))
set_option maxHeartbeats 2000000 in
theorem eq_World (x y : TWorld) (hg : Enc.gd x) : Con Try.prog 10 [] [ag x,ag y] [] (B (decide (x = y))) := by
  obtain ⟨g_Level,g_Tick,g_Seed,g_Scores,g_Bodies⟩ := hg
  by_cases e_Level : ¬ x.Level = y.Level
  · have hc := eq_Level x.Level y.Level g_Level
    rw [decide_eq_false e_Level] at hc
    refine Con.of Try.func10 rfl Try.ntmps10 rfl (fun E => ?_)
    refine A_seq (A_region ?_);refine M1 (q_boxN rfl rfl rfl rfl) rfl rfl ?_;refine M1 (q_boxN rfl rfl rfl rfl) rfl rfl ?_;refine M0 (q_assignC rfl rfl rfl) rfl rfl ?_
    refine L_nil (T_n (A_seq (A_seq (A_region ?_))));refine M0 (q_fldp rfl rfl rfl rfl (by decide)) rfl rfl ?_
    refine M0 (q_ldN rfl rfl rfl rfl rfl rfl) rfl rfl ?_;refine M0 (q_fldp rfl rfl rfl rfl (by decide)) rfl rfl ?_;refine M0 (q_ldN rfl rfl rfl rfl rfl rfl) rfl rfl ?_
    refine M0 (q_call0 rfl rfl (hc) rfl) rfl rfl ?_;refine M0 (q_not rfl rfl rfl) rfl rfl ?_;refine L_nil (T_n ?_);refine A_ifT rfl ?_;refine A_seq (A_region ?_)
    refine M0 (q_assignC rfl rfl rfl) rfl rfl ?_;refine L_nil (T_n (A_ret (T_r (F_r ?_))))
    exact E_tmp rfl rfl (W_end [] (by decide) rfl rfl (B_eq (decide_eq_false fun e => e_Level (by rw [e])).symm))
  have e_Level := Classical.not_not.1 e_Level
  have hc_Level := eq_Level x.Level y.Level g_Level
  rw [decide_eq_true e_Level] at hc_Level
  by_cases e_Tick : ¬ x.Tick = y.Tick
  · have hk : decide (x.Tick ≠ y.Tick) = true := by simp [e_Tick]
    refine Con.of Try.func10 rfl Try.ntmps10 rfl (fun E => ?_)
    refine A_seq (A_region ?_);refine M1 (q_boxN rfl rfl rfl rfl) rfl rfl ?_;refine M1 (q_boxN rfl rfl rfl rfl) rfl rfl ?_;refine M0 (q_assignC rfl rfl rfl) rfl rfl ?_
    refine L_nil (T_n (A_seq (A_seq (A_region ?_))));refine M0 (q_fldp rfl rfl rfl rfl (by decide)) rfl rfl ?_
    refine M0 (q_ldN rfl rfl rfl rfl rfl rfl) rfl rfl ?_;refine M0 (q_fldp rfl rfl rfl rfl (by decide)) rfl rfl ?_;refine M0 (q_ldN rfl rfl rfl rfl rfl rfl) rfl rfl ?_
    refine M0 (q_call0 rfl rfl (hc_Level) rfl) rfl rfl ?_;refine M0 (q_not rfl rfl rfl) rfl rfl ?_;refine L_nil (T_n ?_);refine A_ifF rfl ?_;refine A_skip (T_n ?_)
    refine A_seq (A_seq (A_region ?_));refine M0 (q_fldp rfl rfl rfl rfl (by decide)) rfl rfl ?_;refine M0 (q_ld1 rfl rfl rfl rfl rfl) rfl rfl ?_
    refine M0 (q_fldp rfl rfl rfl rfl (by decide)) rfl rfl ?_;refine M0 (q_ld1 rfl rfl rfl rfl rfl) rfl rfl ?_;refine M0 (q_neqK rfl rfl rfl rfl (by assumption)) rfl rfl ?_
    refine L_nil (T_n ?_);refine A_ifT rfl ?_;refine A_seq (A_region ?_);refine M0 (q_assignC rfl rfl rfl) rfl rfl ?_;refine L_nil (T_n (A_ret (T_r ?_)))
    refine F_r ?_
    exact E_tmp rfl rfl (W_end [] (by decide) rfl rfl (B_eq (decide_eq_false fun e => e_Tick (by rw [e])).symm))
  have e_Tick := Classical.not_not.1 e_Tick
  have k_Tick : decide (x.Tick ≠ y.Tick) = false := by simp [e_Tick]
  by_cases e_Seed : ¬ x.Seed = y.Seed
  · have hk : decide (x.Seed ≠ y.Seed) = true := by simp [e_Seed]
    refine Con.of Try.func10 rfl Try.ntmps10 rfl (fun E => ?_)
    refine A_seq (A_region ?_);refine M1 (q_boxN rfl rfl rfl rfl) rfl rfl ?_;refine M1 (q_boxN rfl rfl rfl rfl) rfl rfl ?_;refine M0 (q_assignC rfl rfl rfl) rfl rfl ?_
    refine L_nil (T_n (A_seq (A_seq (A_region ?_))));refine M0 (q_fldp rfl rfl rfl rfl (by decide)) rfl rfl ?_
    refine M0 (q_ldN rfl rfl rfl rfl rfl rfl) rfl rfl ?_;refine M0 (q_fldp rfl rfl rfl rfl (by decide)) rfl rfl ?_;refine M0 (q_ldN rfl rfl rfl rfl rfl rfl) rfl rfl ?_
    refine M0 (q_call0 rfl rfl (hc_Level) rfl) rfl rfl ?_;refine M0 (q_not rfl rfl rfl) rfl rfl ?_;refine L_nil (T_n ?_);refine A_ifF rfl ?_;refine A_skip (T_n ?_)
    refine A_seq (A_seq (A_region ?_));refine M0 (q_fldp rfl rfl rfl rfl (by decide)) rfl rfl ?_;refine M0 (q_ld1 rfl rfl rfl rfl rfl) rfl rfl ?_
    refine M0 (q_fldp rfl rfl rfl rfl (by decide)) rfl rfl ?_;refine M0 (q_ld1 rfl rfl rfl rfl rfl) rfl rfl ?_;refine M0 (q_neqK rfl rfl rfl rfl (by assumption)) rfl rfl ?_
    refine L_nil (T_n ?_);refine A_ifF rfl ?_;refine A_skip (T_n (A_seq (A_seq (A_region ?_))))
    refine M0 (q_fldp rfl rfl rfl rfl (by decide)) rfl rfl ?_;refine M0 (q_ld1 rfl rfl rfl rfl rfl) rfl rfl ?_;refine M0 (q_fldp rfl rfl rfl rfl (by decide)) rfl rfl ?_
    refine M0 (q_ld1 rfl rfl rfl rfl rfl) rfl rfl ?_;refine M0 (q_neqK rfl rfl rfl rfl (by assumption)) rfl rfl ?_;refine L_nil (T_n ?_);refine A_ifT rfl ?_;refine A_seq ?_
    refine A_region ?_;refine M0 (q_assignC rfl rfl rfl) rfl rfl ?_;refine L_nil (T_n (A_ret (T_r (F_r ?_))))
    exact E_tmp rfl rfl (W_end [] (by decide) rfl rfl (B_eq (decide_eq_false fun e => e_Seed (by rw [e])).symm))
  have e_Seed := Classical.not_not.1 e_Seed
  have k_Seed : decide (x.Seed ≠ y.Seed) = false := by simp [e_Seed]
  by_cases e_Scores : ¬ x.Scores = y.Scores
  · have hc := eq_IntS x.Scores y.Scores g_Scores
    rw [decide_eq_false e_Scores] at hc
    refine Con.of Try.func10 rfl Try.ntmps10 rfl (fun E => ?_)
    refine A_seq (A_region ?_);refine M1 (q_boxN rfl rfl rfl rfl) rfl rfl ?_;refine M1 (q_boxN rfl rfl rfl rfl) rfl rfl ?_;refine M0 (q_assignC rfl rfl rfl) rfl rfl ?_
    refine L_nil (T_n (A_seq (A_seq (A_region ?_))));refine M0 (q_fldp rfl rfl rfl rfl (by decide)) rfl rfl ?_
    refine M0 (q_ldN rfl rfl rfl rfl rfl rfl) rfl rfl ?_;refine M0 (q_fldp rfl rfl rfl rfl (by decide)) rfl rfl ?_;refine M0 (q_ldN rfl rfl rfl rfl rfl rfl) rfl rfl ?_
    refine M0 (q_call0 rfl rfl (hc_Level) rfl) rfl rfl ?_;refine M0 (q_not rfl rfl rfl) rfl rfl ?_;refine L_nil (T_n ?_);refine A_ifF rfl ?_;refine A_skip (T_n ?_)
    refine A_seq (A_seq (A_region ?_));refine M0 (q_fldp rfl rfl rfl rfl (by decide)) rfl rfl ?_;refine M0 (q_ld1 rfl rfl rfl rfl rfl) rfl rfl ?_
    refine M0 (q_fldp rfl rfl rfl rfl (by decide)) rfl rfl ?_;refine M0 (q_ld1 rfl rfl rfl rfl rfl) rfl rfl ?_;refine M0 (q_neqK rfl rfl rfl rfl (by assumption)) rfl rfl ?_
    refine L_nil (T_n ?_);refine A_ifF rfl ?_;refine A_skip (T_n (A_seq (A_seq (A_region ?_))))
    refine M0 (q_fldp rfl rfl rfl rfl (by decide)) rfl rfl ?_;refine M0 (q_ld1 rfl rfl rfl rfl rfl) rfl rfl ?_;refine M0 (q_fldp rfl rfl rfl rfl (by decide)) rfl rfl ?_
    refine M0 (q_ld1 rfl rfl rfl rfl rfl) rfl rfl ?_;refine M0 (q_neqK rfl rfl rfl rfl (by assumption)) rfl rfl ?_;refine L_nil (T_n ?_);refine A_ifF rfl ?_;refine A_skip ?_
    refine T_n (A_seq (A_seq (A_region ?_)));refine M0 (q_fldp rfl rfl rfl rfl (by decide)) rfl rfl ?_;refine M0 (q_ld1 rfl rfl rfl rfl rfl) rfl rfl ?_
    refine M0 (q_fldp rfl rfl rfl rfl (by decide)) rfl rfl ?_;refine M0 (q_ld1 rfl rfl rfl rfl rfl) rfl rfl ?_;refine M0 (q_call0 rfl rfl (hc) rfl) rfl rfl ?_
    refine M0 (q_not rfl rfl rfl) rfl rfl ?_;refine L_nil (T_n ?_);refine A_ifT rfl ?_;refine A_seq (A_region ?_);refine M0 (q_assignC rfl rfl rfl) rfl rfl ?_;refine L_nil ?_
    refine T_n (A_ret (T_r (F_r ?_)))
    exact E_tmp rfl rfl (W_end [] (by decide) rfl rfl (B_eq (decide_eq_false fun e => e_Scores (by rw [e])).symm))
  have e_Scores := Classical.not_not.1 e_Scores
  have hc_Scores := eq_IntS x.Scores y.Scores g_Scores
  rw [decide_eq_true e_Scores] at hc_Scores
  by_cases e_Bodies : ¬ x.Bodies = y.Bodies
  · have hc := eq_BodyS x.Bodies y.Bodies g_Bodies
    rw [decide_eq_false e_Bodies] at hc
    refine Con.of Try.func10 rfl Try.ntmps10 rfl (fun E => ?_)
    refine A_seq (A_region ?_);refine M1 (q_boxN rfl rfl rfl rfl) rfl rfl ?_;refine M1 (q_boxN rfl rfl rfl rfl) rfl rfl ?_;refine M0 (q_assignC rfl rfl rfl) rfl rfl ?_
    refine L_nil (T_n (A_seq (A_seq (A_region ?_))));refine M0 (q_fldp rfl rfl rfl rfl (by decide)) rfl rfl ?_
    refine M0 (q_ldN rfl rfl rfl rfl rfl rfl) rfl rfl ?_;refine M0 (q_fldp rfl rfl rfl rfl (by decide)) rfl rfl ?_;refine M0 (q_ldN rfl rfl rfl rfl rfl rfl) rfl rfl ?_
    refine M0 (q_call0 rfl rfl (hc_Level) rfl) rfl rfl ?_;refine M0 (q_not rfl rfl rfl) rfl rfl ?_;refine L_nil (T_n ?_);refine A_ifF rfl ?_;refine A_skip (T_n ?_)
    refine A_seq (A_seq (A_region ?_));refine M0 (q_fldp rfl rfl rfl rfl (by decide)) rfl rfl ?_;refine M0 (q_ld1 rfl rfl rfl rfl rfl) rfl rfl ?_
    refine M0 (q_fldp rfl rfl rfl rfl (by decide)) rfl rfl ?_;refine M0 (q_ld1 rfl rfl rfl rfl rfl) rfl rfl ?_;refine M0 (q_neqK rfl rfl rfl rfl (by assumption)) rfl rfl ?_
    refine L_nil (T_n ?_);refine A_ifF rfl ?_;refine A_skip (T_n (A_seq (A_seq (A_region ?_))))
    refine M0 (q_fldp rfl rfl rfl rfl (by decide)) rfl rfl ?_;refine M0 (q_ld1 rfl rfl rfl rfl rfl) rfl rfl ?_;refine M0 (q_fldp rfl rfl rfl rfl (by decide)) rfl rfl ?_
    refine M0 (q_ld1 rfl rfl rfl rfl rfl) rfl rfl ?_;refine M0 (q_neqK rfl rfl rfl rfl (by assumption)) rfl rfl ?_;refine L_nil (T_n ?_);refine A_ifF rfl ?_;refine A_skip ?_
    refine T_n (A_seq (A_seq (A_region ?_)));refine M0 (q_fldp rfl rfl rfl rfl (by decide)) rfl rfl ?_;refine M0 (q_ld1 rfl rfl rfl rfl rfl) rfl rfl ?_
    refine M0 (q_fldp rfl rfl rfl rfl (by decide)) rfl rfl ?_;refine M0 (q_ld1 rfl rfl rfl rfl rfl) rfl rfl ?_;refine M0 (q_call0 rfl rfl (hc_Scores) rfl) rfl rfl ?_
    refine M0 (q_not rfl rfl rfl) rfl rfl ?_;refine L_nil (T_n ?_);refine A_ifF rfl ?_;refine A_skip (T_n (A_seq (A_seq (A_region ?_))))
    refine M0 (q_fldp rfl rfl rfl rfl (by decide)) rfl rfl ?_;refine M0 (q_ld1 rfl rfl rfl rfl rfl) rfl rfl ?_;refine M0 (q_fldp rfl rfl rfl rfl (by decide)) rfl rfl ?_
    refine M0 (q_ld1 rfl rfl rfl rfl rfl) rfl rfl ?_;refine M0 (q_call0 rfl rfl (hc) rfl) rfl rfl ?_;refine M0 (q_not rfl rfl rfl) rfl rfl ?_;refine L_nil (T_n ?_)
    refine A_ifT rfl ?_;refine A_seq (A_region ?_);refine M0 (q_assignC rfl rfl rfl) rfl rfl ?_;refine L_nil (T_n (A_ret (T_r (F_r ?_))))
    exact E_tmp rfl rfl (W_end [] (by decide) rfl rfl (B_eq (decide_eq_false fun e => e_Bodies (by rw [e])).symm))
  have e_Bodies := Classical.not_not.1 e_Bodies
  have hc_Bodies := eq_BodyS x.Bodies y.Bodies g_Bodies
  rw [decide_eq_true e_Bodies] at hc_Bodies
  refine Con.of Try.func10 rfl Try.ntmps10 rfl (fun E => ?_)
  refine A_seq (A_region ?_);refine M1 (q_boxN rfl rfl rfl rfl) rfl rfl ?_;refine M1 (q_boxN rfl rfl rfl rfl) rfl rfl ?_;refine M0 (q_assignC rfl rfl rfl) rfl rfl ?_
  refine L_nil (T_n (A_seq (A_seq (A_region ?_))));refine M0 (q_fldp rfl rfl rfl rfl (by decide)) rfl rfl ?_
  refine M0 (q_ldN rfl rfl rfl rfl rfl rfl) rfl rfl ?_;refine M0 (q_fldp rfl rfl rfl rfl (by decide)) rfl rfl ?_;refine M0 (q_ldN rfl rfl rfl rfl rfl rfl) rfl rfl ?_
  refine M0 (q_call0 rfl rfl (hc_Level) rfl) rfl rfl ?_;refine M0 (q_not rfl rfl rfl) rfl rfl ?_;refine L_nil (T_n ?_);refine A_ifF rfl ?_;refine A_skip (T_n ?_)
  refine A_seq (A_seq (A_region ?_));refine M0 (q_fldp rfl rfl rfl rfl (by decide)) rfl rfl ?_;refine M0 (q_ld1 rfl rfl rfl rfl rfl) rfl rfl ?_
  refine M0 (q_fldp rfl rfl rfl rfl (by decide)) rfl rfl ?_;refine M0 (q_ld1 rfl rfl rfl rfl rfl) rfl rfl ?_;refine M0 (q_neqK rfl rfl rfl rfl (by assumption)) rfl rfl ?_
  refine L_nil (T_n ?_);refine A_ifF rfl ?_;refine A_skip (T_n (A_seq (A_seq (A_region ?_))))
  refine M0 (q_fldp rfl rfl rfl rfl (by decide)) rfl rfl ?_;refine M0 (q_ld1 rfl rfl rfl rfl rfl) rfl rfl ?_;refine M0 (q_fldp rfl rfl rfl rfl (by decide)) rfl rfl ?_
  refine M0 (q_ld1 rfl rfl rfl rfl rfl) rfl rfl ?_;refine M0 (q_neqK rfl rfl rfl rfl (by assumption)) rfl rfl ?_;refine L_nil (T_n ?_);refine A_ifF rfl ?_;refine A_skip ?_
  refine T_n (A_seq (A_seq (A_region ?_)));refine M0 (q_fldp rfl rfl rfl rfl (by decide)) rfl rfl ?_;refine M0 (q_ld1 rfl rfl rfl rfl rfl) rfl rfl ?_
  refine M0 (q_fldp rfl rfl rfl rfl (by decide)) rfl rfl ?_;refine M0 (q_ld1 rfl rfl rfl rfl rfl) rfl rfl ?_;refine M0 (q_call0 rfl rfl (hc_Scores) rfl) rfl rfl ?_
  refine M0 (q_not rfl rfl rfl) rfl rfl ?_;refine L_nil (T_n ?_);refine A_ifF rfl ?_;refine A_skip (T_n (A_seq (A_seq (A_region ?_))))
  refine M0 (q_fldp rfl rfl rfl rfl (by decide)) rfl rfl ?_;refine M0 (q_ld1 rfl rfl rfl rfl rfl) rfl rfl ?_;refine M0 (q_fldp rfl rfl rfl rfl (by decide)) rfl rfl ?_
  refine M0 (q_ld1 rfl rfl rfl rfl rfl) rfl rfl ?_;refine M0 (q_call0 rfl rfl (hc_Bodies) rfl) rfl rfl ?_;refine M0 (q_not rfl rfl rfl) rfl rfl ?_;refine L_nil (T_n ?_)
  refine A_ifF rfl ?_;refine A_skip (T_n (A_seq (A_region ?_)));refine M0 (q_assignC rfl rfl rfl) rfl rfl ?_;refine L_nil (T_n (A_ret ?_))
  refine F_r ?_
  exact E_tmp rfl rfl (W_end [] (by decide) rfl rfl (B_eq (decide_eq_true (TWorld.same e_Level e_Tick e_Seed e_Scores e_Bodies)).symm))
/-! ### Marks -/
theorem mk_nextE {α : Type} [Enc α] {ms xs : List α} (hl : ms.length = xs.length) {i : Nat} (h : i < xs.length) : els (ms.take (i + 1) ++ xs.drop (i + 1)) = (els (ms.take i ++ xs.drop i)).set i (Enc.e (ms[i]'(by omega))) := by
  have h2 : i < ms.length := by omega
  rw [← els_set]
  congr 1
  have hi : (ms.take i).length = i := by simp; omega
  rw [List.take_succ_eq_append_getElem h2,List.set_append_right _ _ (by omega)]
  have : i - (ms.take i).length = 0 := by omega
  rw [this,List.drop_eq_getElem_cons h,List.set_cons_zero,List.append_assoc]
  rfl
def markBody (k : Int) : TBody := ⟨k,k + 1,k + 1 + 1,k + 1 + 1 + 1,k + 1 + 1 + 1 + 1,k + 1 + 1 + 1 + 1 + 1,k + 1 + 1 + 1 + 1 + 1 + 1,k + 1 + 1 + 1 + 1 + 1 + 1 + 1,k + 1 + 1 + 1 + 1 + 1 + 1 + 1 + 1⟩
def markB (xs : List TBody) (k : Int) : List TBody := (List.range xs.length).map fun (i : Nat) => markBody (k + 9 * i)
theorem markB_len (xs : List TBody) (k : Int) : (markB xs k).length = xs.length := by simp [markB]
theorem markB_at {xs : List TBody} {k : Int} {i : Nat} (h : i < (markB xs k).length) : (markB xs k)[i] = markBody (k + 9 * i) := by simp [markB]
set_option maxHeartbeats 8000000 in
theorem L_markBodyS (xs : List TBody) (k : Int) (hL : xs.length ≤ 1048576) (h0 : 0 < k) (hk : k ≤ 4294967296) : Con Try.prog 50 [.row 9 (els xs),.gh 0 (.c (.ref 0))] [.c (.ref 0),ai k] [.row 9 (els (markB xs k)),.gh 0 (.c (.ref 0))] (I (k + 9 * xs.length)) := by
  have hml := markB_len xs k
  refine Con.of Try.func50 rfl Try.ntmps50 rfl (fun E => ?_)
  refine A_seq (A_region ?_);refine M0 (q_assignC rfl rfl rfl) rfl rfl ?_;refine L_nil (T_n (A_seq (A_seq (A_region ?_))))
  refine M0 (q_assignC rfl rfl rfl) rfl rfl ?_;refine L_nil (T_n (A_block ?_))
  refine A_loop (fun m st => ∃ i : Nat,i + m = xs.length ∧ (True) ∧ st = (fun i : Nat => (⟨_,[(0,.o (.c (.ref 0))),(1,I (k + 9 * i)),(5,I i)],[.row 9 (els ((markB xs k).take i ++ xs.drop i)),.gh 0 (.c (.ref 0))]⟩ : St)) i) (xs.length) ⟨(fun i : Nat => (⟨_,[(0,.o (.c (.ref 0))),(1,I (k + 9 * i)),(5,I i)],[.row 9 (els ((markB xs k).take i ++ xs.drop i)),.gh 0 (.c (.ref 0))]⟩ : St)) 0,W_go [0,1] (by decide) rfl (rfl) (.cons rfl (.cons (I_eq (by simp)) (.cons rfl (.nil)))),0,by omega,trivial,rfl⟩ ?_
  rintro m_A _ ⟨i,hk_A,hp_A,rfl⟩
  have hll : (els ((markB xs k).take i ++ xs.drop i)).length = xs.length := by rw [els_len,mk_len hml (by omega)]
  refine A_seq (A_seq (A_region ?_));refine M0 (q_moveC rfl rfl rfl) rfl rfl ?_;refine M0 (q_moveC rfl rfl rfl) rfl rfl ?_;refine M0 (q_lenr rfl rfl rfl rfl) rfl rfl ?_
  refine M0 (q_lss rfl rfl rfl rfl) rfl rfl ?_;refine L_nil (T_n ?_)
  refine A_cond rfl (fun h => ?_) (fun h => ?_)
  · have h3 : i < xs.length := by have := of_decide_eq_true h; omega
    have hi : i < ((markB xs k).take i ++ xs.drop i).length := by rw [mk_len hml (by omega)]; exact h3
    have hat := els_at hi
    rw [mk_at hml h3] at hat
    obtain ⟨es0,hes0⟩ : ∃ es0,es0 = els ((markB xs k).take i ++ xs.drop i) := ⟨_,rfl⟩
    rw [← hes0] at hll hat
    have hq : (i : Int).toNat < es0.length := by omega
    have hset : ∀ L : List T,(es0.set (i : Int).toNat L)[(i : Int).toNat]? = some L := fun L => List.getElem?_set_self hq
    have hsln : ∀ L : List T,(es0.set (i : Int).toNat L).length = xs.length := fun L => by rw [List.length_set]; exact hll
    rw [hes0.symm]
    refine A_skip (T_n (A_seq (A_block (A_seq (A_region ?_)))));refine M0 (q_moveC rfl rfl rfl) rfl rfl ?_;refine M0 (q_moveC rfl rfl rfl) rfl rfl ?_
    refine M0 (q_moveC rfl rfl rfl) rfl rfl ?_;refine M0 (q_ar rfl rfl rfl rfl rfl (by omega) (by omega)) rfl rfl ?_;refine M0 (q_flde rfl rfl rfl rfl (by decide)) rfl rfl ?_
    refine M_ste1 rfl rfl rfl rfl rfl rfl rfl rfl rfl (by assumption) rfl rfl ?_;refine L_nil (T_n (A_seq (A_region ?_)));refine M0 (q_moveC rfl rfl rfl) rfl rfl ?_
    refine M0 (q_add rfl rfl rfl rfl (by omega)) rfl rfl ?_;refine M0 (q_assignC rfl rfl rfl) rfl rfl ?_;refine L_nil (T_n (A_seq (A_region ?_)))
    refine M0 (q_moveC rfl rfl rfl) rfl rfl ?_;refine M0 (q_moveC rfl rfl rfl) rfl rfl ?_;refine M0 (q_moveC rfl rfl rfl) rfl rfl ?_
    have hat0 := hset [.v (.int .i64 (k + 9 * (i : Int))),.v (.int .i64 xs[i].Owner),.v (.int .i64 xs[i].X),.v (.int .i64 xs[i].Y),.v (.int .i64 xs[i].VX),.v (.int .i64 xs[i].VY),.v (.int .i64 xs[i].Aim),.v (.int .i64 xs[i].Life),.v (.int .i64 xs[i].Timer)]
    have hln0 := hsln [.v (.int .i64 (k + 9 * (i : Int))),.v (.int .i64 xs[i].Owner),.v (.int .i64 xs[i].X),.v (.int .i64 xs[i].Y),.v (.int .i64 xs[i].VX),.v (.int .i64 xs[i].VY),.v (.int .i64 xs[i].Aim),.v (.int .i64 xs[i].Life),.v (.int .i64 xs[i].Timer)]
    refine AL.weak (st' := (⟨_,[(0,.o (.c (.ref 0))),(1,I ((k + 9 * (i : Int)) + 1)),(5,I i),(19,.o (.c (.ref 0))),(20,I i),(21,I ((k + 9 * (i : Int)) + 1))],[.row 9 (es0.set (i : Int).toNat [.v (.int .i64 (k + 9 * (i : Int))),.v (.int .i64 xs[i].Owner),.v (.int .i64 xs[i].X),.v (.int .i64 xs[i].Y),.v (.int .i64 xs[i].VX),.v (.int .i64 xs[i].VY),.v (.int .i64 xs[i].Aim),.v (.int .i64 xs[i].Life),.v (.int .i64 xs[i].Timer)]),.gh 0 (.c (.ref 0))]⟩ : St)) (W_go [0,1] (by decide) rfl (row2 rfl) (.cons rfl (.cons rfl (.cons rfl (.cons rfl (.cons rfl (.cons rfl (.nil)))))))) ?_
    refine M0 (q_ar rfl rfl rfl rfl rfl (by omega) (by omega)) rfl rfl ?_;refine M0 (q_flde rfl rfl rfl rfl (by decide)) rfl rfl ?_
    refine M_ste1 rfl rfl rfl rfl rfl rfl rfl rfl rfl (by assumption) rfl rfl ?_;refine L_nil (T_n (A_seq (A_region ?_)));refine M0 (q_moveC rfl rfl rfl) rfl rfl ?_
    refine M0 (q_add rfl rfl rfl rfl (by omega)) rfl rfl ?_;refine M0 (q_assignC rfl rfl rfl) rfl rfl ?_;refine L_nil (T_n (A_seq (A_region ?_)))
    refine M0 (q_moveC rfl rfl rfl) rfl rfl ?_;refine M0 (q_moveC rfl rfl rfl) rfl rfl ?_;refine M0 (q_moveC rfl rfl rfl) rfl rfl ?_
    have hat1 := hset [.v (.int .i64 (k + 9 * (i : Int))),.v (.int .i64 ((k + 9 * (i : Int)) + 1)),.v (.int .i64 xs[i].X),.v (.int .i64 xs[i].Y),.v (.int .i64 xs[i].VX),.v (.int .i64 xs[i].VY),.v (.int .i64 xs[i].Aim),.v (.int .i64 xs[i].Life),.v (.int .i64 xs[i].Timer)]
    have hln1 := hsln [.v (.int .i64 (k + 9 * (i : Int))),.v (.int .i64 ((k + 9 * (i : Int)) + 1)),.v (.int .i64 xs[i].X),.v (.int .i64 xs[i].Y),.v (.int .i64 xs[i].VX),.v (.int .i64 xs[i].VY),.v (.int .i64 xs[i].Aim),.v (.int .i64 xs[i].Life),.v (.int .i64 xs[i].Timer)]
    refine AL.weak (st' := (⟨_,[(0,.o (.c (.ref 0))),(1,I (((k + 9 * (i : Int)) + 1) + 1)),(5,I i),(26,.o (.c (.ref 0))),(27,I i),(28,I (((k + 9 * (i : Int)) + 1) + 1))],[.row 9 (es0.set (i : Int).toNat [.v (.int .i64 (k + 9 * (i : Int))),.v (.int .i64 ((k + 9 * (i : Int)) + 1)),.v (.int .i64 xs[i].X),.v (.int .i64 xs[i].Y),.v (.int .i64 xs[i].VX),.v (.int .i64 xs[i].VY),.v (.int .i64 xs[i].Aim),.v (.int .i64 xs[i].Life),.v (.int .i64 xs[i].Timer)]),.gh 0 (.c (.ref 0))]⟩ : St)) (W_go [0,1] (by decide) rfl (row2 (List.set_set _).symm) (.cons rfl (.cons rfl (.cons rfl (.cons rfl (.cons rfl (.cons rfl (.nil)))))))) ?_
    refine M0 (q_ar rfl rfl rfl rfl rfl (by omega) (by omega)) rfl rfl ?_;refine M0 (q_flde rfl rfl rfl rfl (by decide)) rfl rfl ?_
    refine M_ste1 rfl rfl rfl rfl rfl rfl rfl rfl rfl (by assumption) rfl rfl ?_;refine L_nil (T_n (A_seq (A_region ?_)));refine M0 (q_moveC rfl rfl rfl) rfl rfl ?_
    refine M0 (q_add rfl rfl rfl rfl (by omega)) rfl rfl ?_;refine M0 (q_assignC rfl rfl rfl) rfl rfl ?_;refine L_nil (T_n (A_seq (A_region ?_)))
    refine M0 (q_moveC rfl rfl rfl) rfl rfl ?_;refine M0 (q_moveC rfl rfl rfl) rfl rfl ?_;refine M0 (q_moveC rfl rfl rfl) rfl rfl ?_
    have hat2 := hset [.v (.int .i64 (k + 9 * (i : Int))),.v (.int .i64 ((k + 9 * (i : Int)) + 1)),.v (.int .i64 (((k + 9 * (i : Int)) + 1) + 1)),.v (.int .i64 xs[i].Y),.v (.int .i64 xs[i].VX),.v (.int .i64 xs[i].VY),.v (.int .i64 xs[i].Aim),.v (.int .i64 xs[i].Life),.v (.int .i64 xs[i].Timer)]
    have hln2 := hsln [.v (.int .i64 (k + 9 * (i : Int))),.v (.int .i64 ((k + 9 * (i : Int)) + 1)),.v (.int .i64 (((k + 9 * (i : Int)) + 1) + 1)),.v (.int .i64 xs[i].Y),.v (.int .i64 xs[i].VX),.v (.int .i64 xs[i].VY),.v (.int .i64 xs[i].Aim),.v (.int .i64 xs[i].Life),.v (.int .i64 xs[i].Timer)]
    refine AL.weak (st' := (⟨_,[(0,.o (.c (.ref 0))),(1,I ((((k + 9 * (i : Int)) + 1) + 1) + 1)),(5,I i),(33,.o (.c (.ref 0))),(34,I i),(35,I ((((k + 9 * (i : Int)) + 1) + 1) + 1))],[.row 9 (es0.set (i : Int).toNat [.v (.int .i64 (k + 9 * (i : Int))),.v (.int .i64 ((k + 9 * (i : Int)) + 1)),.v (.int .i64 (((k + 9 * (i : Int)) + 1) + 1)),.v (.int .i64 xs[i].Y),.v (.int .i64 xs[i].VX),.v (.int .i64 xs[i].VY),.v (.int .i64 xs[i].Aim),.v (.int .i64 xs[i].Life),.v (.int .i64 xs[i].Timer)]),.gh 0 (.c (.ref 0))]⟩ : St)) (W_go [0,1] (by decide) rfl (row2 (List.set_set _).symm) (.cons rfl (.cons rfl (.cons rfl (.cons rfl (.cons rfl (.cons rfl (.nil)))))))) ?_
    refine M0 (q_ar rfl rfl rfl rfl rfl (by omega) (by omega)) rfl rfl ?_;refine M0 (q_flde rfl rfl rfl rfl (by decide)) rfl rfl ?_
    refine M_ste1 rfl rfl rfl rfl rfl rfl rfl rfl rfl (by assumption) rfl rfl ?_;refine L_nil (T_n (A_seq (A_region ?_)));refine M0 (q_moveC rfl rfl rfl) rfl rfl ?_
    refine M0 (q_add rfl rfl rfl rfl (by omega)) rfl rfl ?_;refine M0 (q_assignC rfl rfl rfl) rfl rfl ?_;refine L_nil (T_n (A_seq (A_region ?_)))
    refine M0 (q_moveC rfl rfl rfl) rfl rfl ?_;refine M0 (q_moveC rfl rfl rfl) rfl rfl ?_;refine M0 (q_moveC rfl rfl rfl) rfl rfl ?_
    have hat3 := hset [.v (.int .i64 (k + 9 * (i : Int))),.v (.int .i64 ((k + 9 * (i : Int)) + 1)),.v (.int .i64 (((k + 9 * (i : Int)) + 1) + 1)),.v (.int .i64 ((((k + 9 * (i : Int)) + 1) + 1) + 1)),.v (.int .i64 xs[i].VX),.v (.int .i64 xs[i].VY),.v (.int .i64 xs[i].Aim),.v (.int .i64 xs[i].Life),.v (.int .i64 xs[i].Timer)]
    have hln3 := hsln [.v (.int .i64 (k + 9 * (i : Int))),.v (.int .i64 ((k + 9 * (i : Int)) + 1)),.v (.int .i64 (((k + 9 * (i : Int)) + 1) + 1)),.v (.int .i64 ((((k + 9 * (i : Int)) + 1) + 1) + 1)),.v (.int .i64 xs[i].VX),.v (.int .i64 xs[i].VY),.v (.int .i64 xs[i].Aim),.v (.int .i64 xs[i].Life),.v (.int .i64 xs[i].Timer)]
    refine AL.weak (st' := (⟨_,[(0,.o (.c (.ref 0))),(1,I (((((k + 9 * (i : Int)) + 1) + 1) + 1) + 1)),(5,I i),(40,.o (.c (.ref 0))),(41,I i),(42,I (((((k + 9 * (i : Int)) + 1) + 1) + 1) + 1))],[.row 9 (es0.set (i : Int).toNat [.v (.int .i64 (k + 9 * (i : Int))),.v (.int .i64 ((k + 9 * (i : Int)) + 1)),.v (.int .i64 (((k + 9 * (i : Int)) + 1) + 1)),.v (.int .i64 ((((k + 9 * (i : Int)) + 1) + 1) + 1)),.v (.int .i64 xs[i].VX),.v (.int .i64 xs[i].VY),.v (.int .i64 xs[i].Aim),.v (.int .i64 xs[i].Life),.v (.int .i64 xs[i].Timer)]),.gh 0 (.c (.ref 0))]⟩ : St)) (W_go [0,1] (by decide) rfl (row2 (List.set_set _).symm) (.cons rfl (.cons rfl (.cons rfl (.cons rfl (.cons rfl (.cons rfl (.nil)))))))) ?_
    refine M0 (q_ar rfl rfl rfl rfl rfl (by omega) (by omega)) rfl rfl ?_;refine M0 (q_flde rfl rfl rfl rfl (by decide)) rfl rfl ?_
    refine M_ste1 rfl rfl rfl rfl rfl rfl rfl rfl rfl (by assumption) rfl rfl ?_;refine L_nil (T_n (A_seq (A_region ?_)));refine M0 (q_moveC rfl rfl rfl) rfl rfl ?_
    refine M0 (q_add rfl rfl rfl rfl (by omega)) rfl rfl ?_;refine M0 (q_assignC rfl rfl rfl) rfl rfl ?_;refine L_nil (T_n (A_seq (A_region ?_)))
    refine M0 (q_moveC rfl rfl rfl) rfl rfl ?_;refine M0 (q_moveC rfl rfl rfl) rfl rfl ?_;refine M0 (q_moveC rfl rfl rfl) rfl rfl ?_
    have hat4 := hset [.v (.int .i64 (k + 9 * (i : Int))),.v (.int .i64 ((k + 9 * (i : Int)) + 1)),.v (.int .i64 (((k + 9 * (i : Int)) + 1) + 1)),.v (.int .i64 ((((k + 9 * (i : Int)) + 1) + 1) + 1)),.v (.int .i64 (((((k + 9 * (i : Int)) + 1) + 1) + 1) + 1)),.v (.int .i64 xs[i].VY),.v (.int .i64 xs[i].Aim),.v (.int .i64 xs[i].Life),.v (.int .i64 xs[i].Timer)]
    have hln4 := hsln [.v (.int .i64 (k + 9 * (i : Int))),.v (.int .i64 ((k + 9 * (i : Int)) + 1)),.v (.int .i64 (((k + 9 * (i : Int)) + 1) + 1)),.v (.int .i64 ((((k + 9 * (i : Int)) + 1) + 1) + 1)),.v (.int .i64 (((((k + 9 * (i : Int)) + 1) + 1) + 1) + 1)),.v (.int .i64 xs[i].VY),.v (.int .i64 xs[i].Aim),.v (.int .i64 xs[i].Life),.v (.int .i64 xs[i].Timer)]
    refine AL.weak (st' := (⟨_,[(0,.o (.c (.ref 0))),(1,I ((((((k + 9 * (i : Int)) + 1) + 1) + 1) + 1) + 1)),(5,I i),(47,.o (.c (.ref 0))),(48,I i),(49,I ((((((k + 9 * (i : Int)) + 1) + 1) + 1) + 1) + 1))],[.row 9 (es0.set (i : Int).toNat [.v (.int .i64 (k + 9 * (i : Int))),.v (.int .i64 ((k + 9 * (i : Int)) + 1)),.v (.int .i64 (((k + 9 * (i : Int)) + 1) + 1)),.v (.int .i64 ((((k + 9 * (i : Int)) + 1) + 1) + 1)),.v (.int .i64 (((((k + 9 * (i : Int)) + 1) + 1) + 1) + 1)),.v (.int .i64 xs[i].VY),.v (.int .i64 xs[i].Aim),.v (.int .i64 xs[i].Life),.v (.int .i64 xs[i].Timer)]),.gh 0 (.c (.ref 0))]⟩ : St)) (W_go [0,1] (by decide) rfl (row2 (List.set_set _).symm) (.cons rfl (.cons rfl (.cons rfl (.cons rfl (.cons rfl (.cons rfl (.nil)))))))) ?_
    refine M0 (q_ar rfl rfl rfl rfl rfl (by omega) (by omega)) rfl rfl ?_;refine M0 (q_flde rfl rfl rfl rfl (by decide)) rfl rfl ?_
    refine M_ste1 rfl rfl rfl rfl rfl rfl rfl rfl rfl (by assumption) rfl rfl ?_;refine L_nil (T_n (A_seq (A_region ?_)));refine M0 (q_moveC rfl rfl rfl) rfl rfl ?_
    refine M0 (q_add rfl rfl rfl rfl (by omega)) rfl rfl ?_;refine M0 (q_assignC rfl rfl rfl) rfl rfl ?_;refine L_nil (T_n (A_seq (A_region ?_)))
    refine M0 (q_moveC rfl rfl rfl) rfl rfl ?_;refine M0 (q_moveC rfl rfl rfl) rfl rfl ?_;refine M0 (q_moveC rfl rfl rfl) rfl rfl ?_
    have hat5 := hset [.v (.int .i64 (k + 9 * (i : Int))),.v (.int .i64 ((k + 9 * (i : Int)) + 1)),.v (.int .i64 (((k + 9 * (i : Int)) + 1) + 1)),.v (.int .i64 ((((k + 9 * (i : Int)) + 1) + 1) + 1)),.v (.int .i64 (((((k + 9 * (i : Int)) + 1) + 1) + 1) + 1)),.v (.int .i64 ((((((k + 9 * (i : Int)) + 1) + 1) + 1) + 1) + 1)),.v (.int .i64 xs[i].Aim),.v (.int .i64 xs[i].Life),.v (.int .i64 xs[i].Timer)]
    have hln5 := hsln [.v (.int .i64 (k + 9 * (i : Int))),.v (.int .i64 ((k + 9 * (i : Int)) + 1)),.v (.int .i64 (((k + 9 * (i : Int)) + 1) + 1)),.v (.int .i64 ((((k + 9 * (i : Int)) + 1) + 1) + 1)),.v (.int .i64 (((((k + 9 * (i : Int)) + 1) + 1) + 1) + 1)),.v (.int .i64 ((((((k + 9 * (i : Int)) + 1) + 1) + 1) + 1) + 1)),.v (.int .i64 xs[i].Aim),.v (.int .i64 xs[i].Life),.v (.int .i64 xs[i].Timer)]
    refine AL.weak (st' := (⟨_,[(0,.o (.c (.ref 0))),(1,I (((((((k + 9 * (i : Int)) + 1) + 1) + 1) + 1) + 1) + 1)),(5,I i),(54,.o (.c (.ref 0))),(55,I i),(56,I (((((((k + 9 * (i : Int)) + 1) + 1) + 1) + 1) + 1) + 1))],[.row 9 (es0.set (i : Int).toNat [.v (.int .i64 (k + 9 * (i : Int))),.v (.int .i64 ((k + 9 * (i : Int)) + 1)),.v (.int .i64 (((k + 9 * (i : Int)) + 1) + 1)),.v (.int .i64 ((((k + 9 * (i : Int)) + 1) + 1) + 1)),.v (.int .i64 (((((k + 9 * (i : Int)) + 1) + 1) + 1) + 1)),.v (.int .i64 ((((((k + 9 * (i : Int)) + 1) + 1) + 1) + 1) + 1)),.v (.int .i64 xs[i].Aim),.v (.int .i64 xs[i].Life),.v (.int .i64 xs[i].Timer)]),.gh 0 (.c (.ref 0))]⟩ : St)) (W_go [0,1] (by decide) rfl (row2 (List.set_set _).symm) (.cons rfl (.cons rfl (.cons rfl (.cons rfl (.cons rfl (.cons rfl (.nil)))))))) ?_
    refine M0 (q_ar rfl rfl rfl rfl rfl (by omega) (by omega)) rfl rfl ?_;refine M0 (q_flde rfl rfl rfl rfl (by decide)) rfl rfl ?_
    refine M_ste1 rfl rfl rfl rfl rfl rfl rfl rfl rfl (by assumption) rfl rfl ?_;refine L_nil (T_n (A_seq (A_region ?_)));refine M0 (q_moveC rfl rfl rfl) rfl rfl ?_
    refine M0 (q_add rfl rfl rfl rfl (by omega)) rfl rfl ?_;refine M0 (q_assignC rfl rfl rfl) rfl rfl ?_;refine L_nil (T_n (A_seq (A_region ?_)))
    refine M0 (q_moveC rfl rfl rfl) rfl rfl ?_;refine M0 (q_moveC rfl rfl rfl) rfl rfl ?_;refine M0 (q_moveC rfl rfl rfl) rfl rfl ?_
    have hat6 := hset [.v (.int .i64 (k + 9 * (i : Int))),.v (.int .i64 ((k + 9 * (i : Int)) + 1)),.v (.int .i64 (((k + 9 * (i : Int)) + 1) + 1)),.v (.int .i64 ((((k + 9 * (i : Int)) + 1) + 1) + 1)),.v (.int .i64 (((((k + 9 * (i : Int)) + 1) + 1) + 1) + 1)),.v (.int .i64 ((((((k + 9 * (i : Int)) + 1) + 1) + 1) + 1) + 1)),.v (.int .i64 (((((((k + 9 * (i : Int)) + 1) + 1) + 1) + 1) + 1) + 1)),.v (.int .i64 xs[i].Life),.v (.int .i64 xs[i].Timer)]
    have hln6 := hsln [.v (.int .i64 (k + 9 * (i : Int))),.v (.int .i64 ((k + 9 * (i : Int)) + 1)),.v (.int .i64 (((k + 9 * (i : Int)) + 1) + 1)),.v (.int .i64 ((((k + 9 * (i : Int)) + 1) + 1) + 1)),.v (.int .i64 (((((k + 9 * (i : Int)) + 1) + 1) + 1) + 1)),.v (.int .i64 ((((((k + 9 * (i : Int)) + 1) + 1) + 1) + 1) + 1)),.v (.int .i64 (((((((k + 9 * (i : Int)) + 1) + 1) + 1) + 1) + 1) + 1)),.v (.int .i64 xs[i].Life),.v (.int .i64 xs[i].Timer)]
    refine AL.weak (st' := (⟨_,[(0,.o (.c (.ref 0))),(1,I ((((((((k + 9 * (i : Int)) + 1) + 1) + 1) + 1) + 1) + 1) + 1)),(5,I i),(61,.o (.c (.ref 0))),(62,I i),(63,I ((((((((k + 9 * (i : Int)) + 1) + 1) + 1) + 1) + 1) + 1) + 1))],[.row 9 (es0.set (i : Int).toNat [.v (.int .i64 (k + 9 * (i : Int))),.v (.int .i64 ((k + 9 * (i : Int)) + 1)),.v (.int .i64 (((k + 9 * (i : Int)) + 1) + 1)),.v (.int .i64 ((((k + 9 * (i : Int)) + 1) + 1) + 1)),.v (.int .i64 (((((k + 9 * (i : Int)) + 1) + 1) + 1) + 1)),.v (.int .i64 ((((((k + 9 * (i : Int)) + 1) + 1) + 1) + 1) + 1)),.v (.int .i64 (((((((k + 9 * (i : Int)) + 1) + 1) + 1) + 1) + 1) + 1)),.v (.int .i64 xs[i].Life),.v (.int .i64 xs[i].Timer)]),.gh 0 (.c (.ref 0))]⟩ : St)) (W_go [0,1] (by decide) rfl (row2 (List.set_set _).symm) (.cons rfl (.cons rfl (.cons rfl (.cons rfl (.cons rfl (.cons rfl (.nil)))))))) ?_
    refine M0 (q_ar rfl rfl rfl rfl rfl (by omega) (by omega)) rfl rfl ?_;refine M0 (q_flde rfl rfl rfl rfl (by decide)) rfl rfl ?_
    refine M_ste1 rfl rfl rfl rfl rfl rfl rfl rfl rfl (by assumption) rfl rfl ?_;refine L_nil (T_n (A_seq (A_region ?_)));refine M0 (q_moveC rfl rfl rfl) rfl rfl ?_
    refine M0 (q_add rfl rfl rfl rfl (by omega)) rfl rfl ?_;refine M0 (q_assignC rfl rfl rfl) rfl rfl ?_;refine L_nil (T_n (A_seq (A_region ?_)))
    refine M0 (q_moveC rfl rfl rfl) rfl rfl ?_;refine M0 (q_moveC rfl rfl rfl) rfl rfl ?_;refine M0 (q_moveC rfl rfl rfl) rfl rfl ?_
    have hat7 := hset [.v (.int .i64 (k + 9 * (i : Int))),.v (.int .i64 ((k + 9 * (i : Int)) + 1)),.v (.int .i64 (((k + 9 * (i : Int)) + 1) + 1)),.v (.int .i64 ((((k + 9 * (i : Int)) + 1) + 1) + 1)),.v (.int .i64 (((((k + 9 * (i : Int)) + 1) + 1) + 1) + 1)),.v (.int .i64 ((((((k + 9 * (i : Int)) + 1) + 1) + 1) + 1) + 1)),.v (.int .i64 (((((((k + 9 * (i : Int)) + 1) + 1) + 1) + 1) + 1) + 1)),.v (.int .i64 ((((((((k + 9 * (i : Int)) + 1) + 1) + 1) + 1) + 1) + 1) + 1)),.v (.int .i64 xs[i].Timer)]
    have hln7 := hsln [.v (.int .i64 (k + 9 * (i : Int))),.v (.int .i64 ((k + 9 * (i : Int)) + 1)),.v (.int .i64 (((k + 9 * (i : Int)) + 1) + 1)),.v (.int .i64 ((((k + 9 * (i : Int)) + 1) + 1) + 1)),.v (.int .i64 (((((k + 9 * (i : Int)) + 1) + 1) + 1) + 1)),.v (.int .i64 ((((((k + 9 * (i : Int)) + 1) + 1) + 1) + 1) + 1)),.v (.int .i64 (((((((k + 9 * (i : Int)) + 1) + 1) + 1) + 1) + 1) + 1)),.v (.int .i64 ((((((((k + 9 * (i : Int)) + 1) + 1) + 1) + 1) + 1) + 1) + 1)),.v (.int .i64 xs[i].Timer)]
    refine AL.weak (st' := (⟨_,[(0,.o (.c (.ref 0))),(1,I (((((((((k + 9 * (i : Int)) + 1) + 1) + 1) + 1) + 1) + 1) + 1) + 1)),(5,I i),(68,.o (.c (.ref 0))),(69,I i),(70,I (((((((((k + 9 * (i : Int)) + 1) + 1) + 1) + 1) + 1) + 1) + 1) + 1))],[.row 9 (es0.set (i : Int).toNat [.v (.int .i64 (k + 9 * (i : Int))),.v (.int .i64 ((k + 9 * (i : Int)) + 1)),.v (.int .i64 (((k + 9 * (i : Int)) + 1) + 1)),.v (.int .i64 ((((k + 9 * (i : Int)) + 1) + 1) + 1)),.v (.int .i64 (((((k + 9 * (i : Int)) + 1) + 1) + 1) + 1)),.v (.int .i64 ((((((k + 9 * (i : Int)) + 1) + 1) + 1) + 1) + 1)),.v (.int .i64 (((((((k + 9 * (i : Int)) + 1) + 1) + 1) + 1) + 1) + 1)),.v (.int .i64 ((((((((k + 9 * (i : Int)) + 1) + 1) + 1) + 1) + 1) + 1) + 1)),.v (.int .i64 xs[i].Timer)]),.gh 0 (.c (.ref 0))]⟩ : St)) (W_go [0,1] (by decide) rfl (row2 (List.set_set _).symm) (.cons rfl (.cons rfl (.cons rfl (.cons rfl (.cons rfl (.cons rfl (.nil)))))))) ?_
    refine M0 (q_ar rfl rfl rfl rfl rfl (by omega) (by omega)) rfl rfl ?_;refine M0 (q_flde rfl rfl rfl rfl (by decide)) rfl rfl ?_
    refine M_ste1 rfl rfl rfl rfl rfl rfl rfl rfl rfl (by assumption) rfl rfl ?_;refine L_nil (T_n (A_region ?_));refine M0 (q_moveC rfl rfl rfl) rfl rfl ?_
    refine M0 (q_add rfl rfl rfl rfl (by omega)) rfl rfl ?_;refine M0 (q_assignC rfl rfl rfl) rfl rfl ?_;refine L_nil (B_n (T_n (A_region ?_)))
    refine M0 (q_moveC rfl rfl rfl) rfl rfl ?_;refine M0 (q_add rfl rfl rfl rfl (by omega)) rfl rfl ?_;refine M0 (q_assignC rfl rfl rfl) rfl rfl ?_;refine L_nil (T_n ?_)
    have hend : els ((markB xs k).take (i + 1) ++ xs.drop (i + 1)) = es0.set (i : Int).toNat [.v (.int .i64 (k + 9 * (i : Int))),.v (.int .i64 ((k + 9 * (i : Int)) + 1)),.v (.int .i64 (((k + 9 * (i : Int)) + 1) + 1)),.v (.int .i64 ((((k + 9 * (i : Int)) + 1) + 1) + 1)),.v (.int .i64 (((((k + 9 * (i : Int)) + 1) + 1) + 1) + 1)),.v (.int .i64 ((((((k + 9 * (i : Int)) + 1) + 1) + 1) + 1) + 1)),.v (.int .i64 (((((((k + 9 * (i : Int)) + 1) + 1) + 1) + 1) + 1) + 1)),.v (.int .i64 ((((((((k + 9 * (i : Int)) + 1) + 1) + 1) + 1) + 1) + 1) + 1)),.v (.int .i64 (((((((((k + 9 * (i : Int)) + 1) + 1) + 1) + 1) + 1) + 1) + 1) + 1))] := by
      rw [mk_nextE hml h3,markB_at,hes0]
      rfl
    exact ⟨xs.length - (i + 1),by omega,(fun i : Nat => (⟨_,[(0,.o (.c (.ref 0))),(1,I (k + 9 * i)),(5,I i)],[.row 9 (els ((markB xs k).take i ++ xs.drop i)),.gh 0 (.c (.ref 0))]⟩ : St)) (i + 1),W_go [0,1] (by decide) rfl (row2 (hend.trans (List.set_set _).symm)) (.cons rfl (.cons (I_eq (by omega)) (.cons rfl (.nil)))),i + 1,by omega,trivial,rfl⟩
  · have h3 : ¬ i < xs.length := by have := of_decide_eq_false h; omega
    have hk2 : i = xs.length := by omega
    subst hk2
    refine A_exit (T_x (T_x (B_xs (T_n (A_seq (A_region ?_))))));refine M0 (q_moveC rfl rfl rfl) rfl rfl ?_
    refine M0 (q_assignC rfl rfl rfl) rfl rfl ?_;refine L_nil (T_n (A_ret (F_r ?_)))
    exact E_tmp rfl rfl (W_end [0,1] (by decide) rfl (row2 (by rw [mk_end hml (Nat.le_refl _)])) rfl)
set_option maxHeartbeats 8000000 in
theorem L_heldBodyS (xs : List TBody) (k : Int) (hL : xs.length ≤ 1048576) (h0 : 0 < k) (hk : k ≤ 4294967296) : Con Try.prog 53 [] [al (markB xs k),ai k] [] (I (k + 9 * xs.length)) := by
  have hml := markB_len xs k
  have hlx := els_len (markB xs k)
  refine Con.of Try.func53 rfl Try.ntmps53 rfl (fun E => ?_)
  refine A_seq (A_region ?_);refine M0 (q_assignC rfl rfl rfl) rfl rfl ?_;refine L_nil (T_n (A_seq (A_seq (A_region ?_))))
  refine M0 (q_assignC rfl rfl rfl) rfl rfl ?_;refine L_nil (T_n (A_block ?_))
  refine A_loop (fun m st => ∃ i : Nat,i + m = xs.length ∧ (True) ∧ st = (fun i : Nat => (⟨_,[(0,L (markB xs k)),(1,I (k + 9 * i)),(5,I i)],[]⟩ : St)) i) (xs.length) ⟨(fun i : Nat => (⟨_,[(0,L (markB xs k)),(1,I (k + 9 * i)),(5,I i)],[]⟩ : St)) 0,W_go [] (by decide) rfl (rfl) (.cons rfl (.cons (I_eq (by simp)) (.cons rfl (.nil)))),0,by omega,trivial,rfl⟩ ?_
  rintro m_A _ ⟨i,hk_A,hp_A,rfl⟩
  refine A_seq (A_seq (A_region ?_));refine M0 (q_moveC rfl rfl rfl) rfl rfl ?_;refine M0 (q_moveC rfl rfl rfl) rfl rfl ?_;refine M0 (q_len rfl rfl rfl) rfl rfl ?_
  refine M0 (q_lss rfl rfl rfl rfl) rfl rfl ?_;refine L_nil (T_n ?_)
  refine A_cond rfl (fun h => ?_) (fun h => ?_)
  · have h3 : i < (markB xs k).length := by have := of_decide_eq_true h; omega
    have hat := els_at h3
    rw [markB_at h3] at hat
    refine A_skip (T_n (A_seq (A_block (A_seq (A_seq (A_region ?_))))));refine M0 (q_moveC rfl rfl rfl) rfl rfl ?_
    refine M0 (q_moveC rfl rfl rfl) rfl rfl ?_;refine M0 (q_at rfl rfl rfl rfl (by omega) (by assumption) rfl) rfl rfl ?_;refine M0 (q_fldr rfl rfl rfl rfl (by decide)) rfl rfl ?_
    refine M0 (q_lr1 rfl rfl rfl rfl) rfl rfl ?_;refine M0 (q_moveC rfl rfl rfl) rfl rfl ?_;refine M0 (q_neqR rfl rfl rfl rfl) rfl rfl ?_;refine L_nil (T_n ?_);refine A_ifF rfl ?_
    refine A_skip (T_n (A_seq (A_region ?_)));refine M0 (q_moveC rfl rfl rfl) rfl rfl ?_;refine M0 (q_add rfl rfl rfl rfl (by omega)) rfl rfl ?_
    refine M0 (q_assignC rfl rfl rfl) rfl rfl ?_;refine L_nil (T_n (A_seq (A_seq (A_region ?_))));refine M0 (q_moveC rfl rfl rfl) rfl rfl ?_
    refine M0 (q_moveC rfl rfl rfl) rfl rfl ?_;refine M0 (q_at rfl rfl rfl rfl (by omega) (by assumption) rfl) rfl rfl ?_;refine M0 (q_fldr rfl rfl rfl rfl (by decide)) rfl rfl ?_
    refine M0 (q_lr1 rfl rfl rfl rfl) rfl rfl ?_;refine M0 (q_moveC rfl rfl rfl) rfl rfl ?_;refine M0 (q_neqR rfl rfl rfl rfl) rfl rfl ?_;refine L_nil (T_n ?_);refine A_ifF rfl ?_
    refine A_skip (T_n (A_seq (A_region ?_)));refine M0 (q_moveC rfl rfl rfl) rfl rfl ?_;refine M0 (q_add rfl rfl rfl rfl (by omega)) rfl rfl ?_
    refine M0 (q_assignC rfl rfl rfl) rfl rfl ?_;refine L_nil (T_n (A_seq (A_seq (A_region ?_))));refine M0 (q_moveC rfl rfl rfl) rfl rfl ?_
    refine M0 (q_moveC rfl rfl rfl) rfl rfl ?_;refine M0 (q_at rfl rfl rfl rfl (by omega) (by assumption) rfl) rfl rfl ?_;refine M0 (q_fldr rfl rfl rfl rfl (by decide)) rfl rfl ?_
    refine M0 (q_lr1 rfl rfl rfl rfl) rfl rfl ?_;refine M0 (q_moveC rfl rfl rfl) rfl rfl ?_;refine M0 (q_neqR rfl rfl rfl rfl) rfl rfl ?_;refine L_nil (T_n ?_);refine A_ifF rfl ?_
    refine A_skip (T_n (A_seq (A_region ?_)));refine M0 (q_moveC rfl rfl rfl) rfl rfl ?_;refine M0 (q_add rfl rfl rfl rfl (by omega)) rfl rfl ?_
    refine M0 (q_assignC rfl rfl rfl) rfl rfl ?_;refine L_nil (T_n (A_seq (A_seq (A_region ?_))));refine M0 (q_moveC rfl rfl rfl) rfl rfl ?_
    refine M0 (q_moveC rfl rfl rfl) rfl rfl ?_;refine M0 (q_at rfl rfl rfl rfl (by omega) (by assumption) rfl) rfl rfl ?_;refine M0 (q_fldr rfl rfl rfl rfl (by decide)) rfl rfl ?_
    refine M0 (q_lr1 rfl rfl rfl rfl) rfl rfl ?_;refine M0 (q_moveC rfl rfl rfl) rfl rfl ?_;refine M0 (q_neqR rfl rfl rfl rfl) rfl rfl ?_;refine L_nil (T_n ?_);refine A_ifF rfl ?_
    refine A_skip (T_n (A_seq (A_region ?_)));refine M0 (q_moveC rfl rfl rfl) rfl rfl ?_;refine M0 (q_add rfl rfl rfl rfl (by omega)) rfl rfl ?_
    refine M0 (q_assignC rfl rfl rfl) rfl rfl ?_;refine L_nil (T_n (A_seq (A_seq (A_region ?_))));refine M0 (q_moveC rfl rfl rfl) rfl rfl ?_
    refine M0 (q_moveC rfl rfl rfl) rfl rfl ?_;refine M0 (q_at rfl rfl rfl rfl (by omega) (by assumption) rfl) rfl rfl ?_;refine M0 (q_fldr rfl rfl rfl rfl (by decide)) rfl rfl ?_
    refine M0 (q_lr1 rfl rfl rfl rfl) rfl rfl ?_;refine M0 (q_moveC rfl rfl rfl) rfl rfl ?_;refine M0 (q_neqR rfl rfl rfl rfl) rfl rfl ?_;refine L_nil (T_n ?_);refine A_ifF rfl ?_
    refine A_skip (T_n (A_seq (A_region ?_)));refine M0 (q_moveC rfl rfl rfl) rfl rfl ?_;refine M0 (q_add rfl rfl rfl rfl (by omega)) rfl rfl ?_
    refine M0 (q_assignC rfl rfl rfl) rfl rfl ?_;refine L_nil (T_n (A_seq (A_seq (A_region ?_))));refine M0 (q_moveC rfl rfl rfl) rfl rfl ?_
    refine M0 (q_moveC rfl rfl rfl) rfl rfl ?_;refine M0 (q_at rfl rfl rfl rfl (by omega) (by assumption) rfl) rfl rfl ?_;refine M0 (q_fldr rfl rfl rfl rfl (by decide)) rfl rfl ?_
    refine M0 (q_lr1 rfl rfl rfl rfl) rfl rfl ?_;refine M0 (q_moveC rfl rfl rfl) rfl rfl ?_;refine M0 (q_neqR rfl rfl rfl rfl) rfl rfl ?_;refine L_nil (T_n ?_);refine A_ifF rfl ?_
    refine A_skip (T_n (A_seq (A_region ?_)));refine M0 (q_moveC rfl rfl rfl) rfl rfl ?_;refine M0 (q_add rfl rfl rfl rfl (by omega)) rfl rfl ?_
    refine M0 (q_assignC rfl rfl rfl) rfl rfl ?_;refine L_nil (T_n (A_seq (A_seq (A_region ?_))));refine M0 (q_moveC rfl rfl rfl) rfl rfl ?_
    refine M0 (q_moveC rfl rfl rfl) rfl rfl ?_;refine M0 (q_at rfl rfl rfl rfl (by omega) (by assumption) rfl) rfl rfl ?_;refine M0 (q_fldr rfl rfl rfl rfl (by decide)) rfl rfl ?_
    refine M0 (q_lr1 rfl rfl rfl rfl) rfl rfl ?_;refine M0 (q_moveC rfl rfl rfl) rfl rfl ?_;refine M0 (q_neqR rfl rfl rfl rfl) rfl rfl ?_;refine L_nil (T_n ?_);refine A_ifF rfl ?_
    refine A_skip (T_n (A_seq (A_region ?_)));refine M0 (q_moveC rfl rfl rfl) rfl rfl ?_;refine M0 (q_add rfl rfl rfl rfl (by omega)) rfl rfl ?_
    refine M0 (q_assignC rfl rfl rfl) rfl rfl ?_;refine L_nil (T_n (A_seq (A_seq (A_region ?_))));refine M0 (q_moveC rfl rfl rfl) rfl rfl ?_
    refine M0 (q_moveC rfl rfl rfl) rfl rfl ?_;refine M0 (q_at rfl rfl rfl rfl (by omega) (by assumption) rfl) rfl rfl ?_;refine M0 (q_fldr rfl rfl rfl rfl (by decide)) rfl rfl ?_
    refine M0 (q_lr1 rfl rfl rfl rfl) rfl rfl ?_;refine M0 (q_moveC rfl rfl rfl) rfl rfl ?_;refine M0 (q_neqR rfl rfl rfl rfl) rfl rfl ?_;refine L_nil (T_n ?_);refine A_ifF rfl ?_
    refine A_skip (T_n (A_seq (A_region ?_)));refine M0 (q_moveC rfl rfl rfl) rfl rfl ?_;refine M0 (q_add rfl rfl rfl rfl (by omega)) rfl rfl ?_
    refine M0 (q_assignC rfl rfl rfl) rfl rfl ?_;refine L_nil (T_n (A_seq (A_seq (A_region ?_))));refine M0 (q_moveC rfl rfl rfl) rfl rfl ?_
    refine M0 (q_moveC rfl rfl rfl) rfl rfl ?_;refine M0 (q_at rfl rfl rfl rfl (by omega) (by assumption) rfl) rfl rfl ?_;refine M0 (q_fldr rfl rfl rfl rfl (by decide)) rfl rfl ?_
    refine M0 (q_lr1 rfl rfl rfl rfl) rfl rfl ?_;refine M0 (q_moveC rfl rfl rfl) rfl rfl ?_;refine M0 (q_neqR rfl rfl rfl rfl) rfl rfl ?_;refine L_nil (T_n ?_);refine A_ifF rfl ?_
    refine A_skip (T_n (A_region ?_));refine M0 (q_moveC rfl rfl rfl) rfl rfl ?_;refine M0 (q_add rfl rfl rfl rfl (by omega)) rfl rfl ?_
    refine M0 (q_assignC rfl rfl rfl) rfl rfl ?_;refine L_nil (B_n (T_n (A_region ?_)));refine M0 (q_moveC rfl rfl rfl) rfl rfl ?_
    refine M0 (q_add rfl rfl rfl rfl (by omega)) rfl rfl ?_;refine M0 (q_assignC rfl rfl rfl) rfl rfl ?_;refine L_nil (T_n ?_)
    exact ⟨xs.length - (i + 1),by omega,(fun i : Nat => (⟨_,[(0,L (markB xs k)),(1,I (k + 9 * i)),(5,I i)],[]⟩ : St)) (i + 1),W_go [] (by decide) rfl (rfl) (.cons rfl (.cons (I_eq (by omega)) (.cons rfl (.nil)))),i + 1,by omega,trivial,rfl⟩
  · have h3 : ¬ i < (markB xs k).length := by have := of_decide_eq_false h; omega
    have hk2 : i = xs.length := by omega
    subst hk2
    refine A_exit (T_x (T_x (B_xs (T_n (A_seq (A_region ?_))))));refine M0 (q_moveC rfl rfl rfl) rfl rfl ?_
    refine M0 (q_assignC rfl rfl rfl) rfl rfl ?_;refine L_nil (T_n (A_ret (F_r ?_)))
    exact E_tmp rfl rfl (W_end [] (by decide) rfl rfl rfl)
end Go.Proofs.Ytmljakmaffbnlaa
end

section
set_option linter.unusedSimpArgs false
set_option linter.unusedVariables false
namespace Go.Proofs.Ytmljakmaffbnlaa
open Go.RowKit

abbrev Seen := Bool × Bool × Bool × Bool
/-- One tile: e: is it at the edge. -/
def tileM (e : Bool) (t : Int) (s : Seen × Bool) : Option (Seen × Bool) :=
  if t = 35 then some s else if e then none else
  if t = 49 then (if s.1.1 then none else some ((true,s.1.2),true)) else
  if t = 50 then (if s.1.2.1 then none else some ((s.1.1,true,s.1.2.2),true)) else
  if t = 51 then (if s.1.2.2.1 then none else some ((s.1.1,s.1.2.1,true,s.1.2.2.2),true)) else
  if t = 52 then (if s.1.2.2.2 then none else some ((s.1.1,s.1.2.1,s.1.2.2.1,true),true)) else
  if t = 111 ∨ t = 46 then some (s.1,true) else none
def colsM (row : ByteArray) (er : Bool) (w : Nat) (s : Seen × Bool) : Nat → Option (Seen × Bool)
  | 0 => some s
  | c + 1 => match colsM row er w s c with
    | none => none
    | some s' => tileM (er || decide (c = 0) || decide (c + 1 = w)) (byteAt row c) s'
def rowsM (rows : List ByteArray) (w : Nat) : Nat → Option (Seen × Bool)
  | 0 => some ((false,false,false,false),false)
  | r + 1 => match rowsM rows w r with
    | none => none
    | some s => match rows[r]? with
      | none => none
      | some row => if row.size = w then colsM row (decide (r = 0) || decide (r + 1 = rows.length)) w s w else none
def widthM (rows : List ByteArray) : Nat := match rows[0]? with
  | some row => row.size
  | none => 0
def levelOk (l : TLevel) : Bool := decide (3 ≤ l.Rows.length) && decide (l.Rows.length ≤ 12) && decide (4 ≤ widthM l.Rows) && decide (widthM l.Rows ≤ 20) && match rowsM l.Rows (widthM l.Rows) l.Rows.length with
  | some s => s.2
  | none => false

@[reducible] def vb (b : Bool) : V1 := .rd [] (.v (.bool b))
section
variable {rows : List ByteArray} {row : ByteArray} {w k c : Nat} {s s' : Seen × Bool} {er : Bool}
theorem rows_none {n : Nat} (h : rowsM rows w k = none) (hk : k ≤ n) : rowsM rows w n = none := by
  induction n with
  | zero => have : k = 0 := by omega
            subst this; exact h
  | succ n ih =>
    rcases Nat.lt_or_ge n k with h1 | h1
    · have : k = n + 1 := by omega
      subst this; exact h
    · simp [rowsM,ih h1]
theorem cols_none {n : Nat} (h : colsM row er w s c = none) (hc : c ≤ n) : colsM row er w s n = none := by
  induction n with
  | zero => have : c = 0 := by omega
            subst this; exact h
  | succ n ih =>
    rcases Nat.lt_or_ge n c with h1 | h1
    · have : c = n + 1 := by omega
      subst this; exact h
    · simp [colsM,ih h1]
theorem rows_next (h : rowsM rows w k = some s) (hk : k < rows.length) (hw : rows[k].size = w) : rowsM rows w (k + 1) = colsM rows[k] (decide (k = 0) || decide (k + 1 = rows.length)) w s w := by
  rw [rowsM,h]
  simp [List.getElem?_eq_getElem hk,hw]
theorem rows_bad (hk : k < rows.length) (hw : rows[k].size ≠ w) : rowsM rows w (k + 1) = none := by
  rw [rowsM]
  cases rowsM rows w k with
  | none => rfl
  | some s => simp [List.getElem?_eq_getElem hk,hw]
theorem cols_next (h : colsM row er w s c = some s') : colsM row er w s (c + 1) = tileM (er || decide (c = 0) || decide (c + 1 = w)) (byteAt row c) s' := by
  rw [colsM,h]
theorem level_no {l : TLevel} (hk : k < l.Rows.length) (hw : widthM l.Rows = w) (h : rowsM l.Rows w (k + 1) = none) : levelOk l = false := by
  unfold levelOk
  rw [hw,rows_none h (by omega)]
  simp
theorem width_at (h : 0 < rows.length) : widthM rows = rows[0].size := by simp [widthM,List.getElem?_eq_getElem h]
end
end Go.Proofs.Ytmljakmaffbnlaa
end

section
set_option linter.unusedSimpArgs false
set_option linter.unusedVariables false
namespace Go.Proofs.Ytmljakmaffbnlaa
open Go.RowKit

set_option maxHeartbeats 4000000 in
theorem I_LevelOk (x : TLevel) (hg : Enc.gd x) : Con Try.prog 75 [] [ag x] [] (B (levelOk x)) := by
  obtain ⟨rows⟩ := x
  have hn : Enc.gd rows := hg
  have hn1 := hn.1
  have hlx := els_len rows
  refine Con.of Try.func75 rfl Try.ntmps75 rfl (fun E => ?_)
  refine A_seq (A_region ?_);refine M1 (q_boxN rfl rfl rfl rfl) rfl rfl ?_;refine M0 (q_assignC rfl rfl rfl) rfl rfl ?_;refine L_nil (T_n (A_seq (A_seq ?_)))
  refine A_region ?_;refine M0 (q_fldp rfl rfl rfl rfl (by decide)) rfl rfl ?_;refine M0 (q_ld1 rfl rfl rfl rfl rfl) rfl rfl ?_;refine M0 (q_len rfl rfl rfl) rfl rfl ?_
  refine M0 (q_lss rfl rfl rfl rfl) rfl rfl ?_;refine M0 (q_moveC rfl rfl rfl) rfl rfl ?_
  refine M0 (Qt.grdF rfl rfl rfl .stop (fun hgrd => q_fldp rfl rfl rfl rfl (by decide))) rfl rfl ?_
  refine M0 (Qt.grdF rfl rfl rfl (.hit .stop) (fun hgrd => q_ld1 rfl rfl rfl rfl rfl)) rfl rfl ?_
  refine M0 (Qt.grdF rfl rfl rfl (.hit (.hit .stop)) (fun hgrd => q_len rfl rfl rfl)) rfl rfl ?_
  refine M0 (Qt.grdF rfl rfl rfl (.hit (.hit (.hit .stop))) (fun hgrd => q_gtr rfl rfl rfl rfl)) rfl rfl ?_;refine M0 (q_or rfl rfl rfl rfl) rfl rfl ?_;refine L_nil (T_n ?_)
  refine A_cond rfl (fun h => ?_) (fun h => ?_)
  · simp only [Bool.or_eq_true,decide_eq_true_eq] at h
    refine A_seq (A_region ?_);refine M0 (q_assignC rfl rfl rfl) rfl rfl ?_;refine L_nil (T_n (A_ret (T_r (F_r ?_))))
    exact E_tmp rfl rfl (W_end [] (by decide) rfl rfl (B_eq (by simp [levelOk]; omega)))
  simp only [Bool.or_eq_false_iff,decide_eq_false_iff_not] at h
  have h0 : 0 < rows.length := by omega
  have hat0 : (els rows)[(0 : Int).toNat]? = some (Enc.e rows[0]) := els_at h0
  have hw := width_at h0
  refine A_skip (T_n (A_seq (A_region ?_)));refine M0 (q_fldp rfl rfl rfl rfl (by decide)) rfl rfl ?_;refine M0 (q_ld1 rfl rfl rfl rfl rfl) rfl rfl ?_
  refine M0 (q_at rfl rfl rfl rfl (by omega) (by assumption) rfl) rfl rfl ?_;refine M0 (q_lr1 rfl rfl rfl rfl) rfl rfl ?_;refine M0 (q_lens rfl rfl rfl) rfl rfl ?_
  refine M0 (q_assignC rfl rfl rfl) rfl rfl ?_;refine L_nil (T_n (A_seq (A_seq (A_region ?_))));refine M0 (q_moveC rfl rfl rfl) rfl rfl ?_
  refine M0 (q_lss rfl rfl rfl rfl) rfl rfl ?_;refine M0 (q_moveC rfl rfl rfl) rfl rfl ?_;refine M0 (Qt.grdF rfl rfl rfl .stop (fun hgrd => q_moveC rfl rfl rfl)) rfl rfl ?_
  refine M0 (Qt.grdF rfl rfl rfl (.hit .stop) (fun hgrd => q_gtr rfl rfl rfl rfl)) rfl rfl ?_;refine M0 (q_or rfl rfl rfl rfl) rfl rfl ?_;refine L_nil (T_n ?_)
  refine A_cond rfl (fun h1 => ?_) (fun h1 => ?_)
  · simp only [Bool.or_eq_true,decide_eq_true_eq] at h1
    refine A_seq (A_region ?_);refine M0 (q_assignC rfl rfl rfl) rfl rfl ?_;refine L_nil (T_n (A_ret (T_r (F_r ?_))))
    exact E_tmp rfl rfl (W_end [] (by decide) rfl rfl (B_eq (by simp [levelOk]; omega)))
  simp only [Bool.or_eq_false_iff,decide_eq_false_iff_not] at h1
  obtain ⟨w,hw'⟩ : ∃ w,w = rows[0].size := ⟨_,rfl⟩
  rw [← hw'] at hw h1
  refine A_skip (T_n (A_seq (A_region ?_)));refine M1 (q_alloc rfl rfl rfl) rfl rfl ?_;refine L_nil (T_n (A_seq (A_region ?_)))
  refine M0 (q_assignC rfl rfl rfl) rfl rfl ?_;refine L_nil (T_n (A_seq (A_seq (A_region ?_))));refine M0 (q_fldp rfl rfl rfl rfl (by decide)) rfl rfl ?_
  refine M0 (q_ld1 rfl rfl rfl rfl rfl) rfl rfl ?_;refine M0 (q_len rfl rfl rfl) rfl rfl ?_;refine M0 (q_moveC rfl rfl rfl) rfl rfl ?_;refine L_nil (T_n (A_block ?_))
  refine A_loop (fun m st => ∃ (k : Nat) (s : Seen × Bool),k + m = rows.length ∧ (rowsM rows w k = some s) ∧ st = (fun (k : Nat) (s : Seen × Bool) => (⟨_,[(1,.o (.c (.ptr 0 0))),(3,I w),(4,.o (.c (.ptr 1 0))),(5,B s.2),(33,L rows),(34,I (els rows).length),(35,I k)],[.box [.rd [] (sl rows)],.box [vb false,vb s.1.1,vb s.1.2.1,vb s.1.2.2.1,vb s.1.2.2.2]]⟩ : St)) k s) (rows.length) ⟨(fun (k : Nat) (s : Seen × Bool) => (⟨_,[(1,.o (.c (.ptr 0 0))),(3,I w),(4,.o (.c (.ptr 1 0))),(5,B s.2),(33,L rows),(34,I (els rows).length),(35,I k)],[.box [.rd [] (sl rows)],.box [vb false,vb s.1.1,vb s.1.2.1,vb s.1.2.2.1,vb s.1.2.2.2]]⟩ : St)) 0 (((false,false,false,false),false)),W_go [0,1] (by decide) rfl (rfl) (.cons rfl (.cons (I_eq (by omega)) (.cons rfl (.cons rfl (.cons rfl (.cons rfl (.cons rfl (.nil)))))))),0,((false,false,false,false),false),by omega,rfl,rfl⟩ ?_
  rintro m_A _ ⟨k,s,hk_A,hp_A,rfl⟩
  refine A_seq (A_region ?_);refine M0 (q_lss rfl rfl rfl rfl) rfl rfl ?_;refine L_nil (T_n (A_seq ?_))
  refine A_cond rfl (fun h => ?_) (fun h => ?_)
  · have h3 : k < rows.length := by have := of_decide_eq_true h; omega
    have hat := els_at h3
    have hgk : rows[k].size ≤ 9223372036854775807 := hn.2 _ (List.getElem_mem h3)
    refine A_skip (T_n (A_seq (A_block (A_seq (A_region ?_)))));refine M0 (q_moveC rfl rfl rfl) rfl rfl ?_
    refine M0 (q_at rfl rfl rfl rfl (by omega) (by assumption) rfl) rfl rfl ?_;refine M0 (q_lr1 rfl rfl rfl rfl) rfl rfl ?_;refine M0 (q_assignC rfl rfl rfl) rfl rfl ?_
    refine M0 (q_assignC rfl rfl rfl) rfl rfl ?_;refine L_nil (T_n (A_seq (A_seq (A_region ?_))));refine M0 (q_moveC rfl rfl rfl) rfl rfl ?_
    refine M0 (q_lens rfl rfl rfl) rfl rfl ?_;refine M0 (q_moveC rfl rfl rfl) rfl rfl ?_;refine M0 (q_neq rfl rfl rfl rfl) rfl rfl ?_;refine L_nil (T_n ?_)
    refine A_cond rfl (fun h4 => ?_) (fun h4 => ?_)
    · have h4 : ¬ rows[k].size = w := by have := of_decide_eq_true h4; omega
      refine A_seq (A_region ?_);refine M0 (q_assignC rfl rfl rfl) rfl rfl ?_;refine L_nil (T_n (A_ret (T_r (B_r (T_r (T_r ?_))))))
      refine B_r (T_r (F_r ?_))
      exact E_tmp rfl rfl (W_end [] (by decide) rfl rfl (B_eq (level_no (l := ⟨rows⟩) h3 hw (rows_bad h3 h4)).symm))
    have h4 : rows[k].size = w := by have := of_decide_eq_false h4; omega
    have hrn := rows_next hp_A h3 h4
    obtain ⟨er,her⟩ : ∃ er,er = (decide (k = 0) || decide (k + 1 = rows.length)) := ⟨_,rfl⟩
    rw [← her] at hrn
    refine A_skip (T_n (A_seq (A_region ?_)));refine M0 (q_assignC rfl rfl rfl) rfl rfl ?_;refine L_nil (T_n (A_block ?_))
    refine A_loop (fun m st => ∃ (c : Nat) (u : Seen × Bool),c + m = w ∧ (colsM rows[k] er w s c = some u) ∧ st = (fun (c : Nat) (u : Seen × Bool) => (⟨_,[(1,.o (.c (.ptr 0 0))),(3,I w),(4,.o (.c (.ptr 1 0))),(5,B u.2),(6,I k),(7,S rows[k]),(8,I c),(33,L rows),(34,I (els rows).length),(35,I k)],[.box [.rd [] (sl rows)],.box [vb false,vb u.1.1,vb u.1.2.1,vb u.1.2.2.1,vb u.1.2.2.2]]⟩ : St)) c u) (w) ⟨(fun (c : Nat) (u : Seen × Bool) => (⟨_,[(1,.o (.c (.ptr 0 0))),(3,I w),(4,.o (.c (.ptr 1 0))),(5,B u.2),(6,I k),(7,S rows[k]),(8,I c),(33,L rows),(34,I (els rows).length),(35,I k)],[.box [.rd [] (sl rows)],.box [vb false,vb u.1.1,vb u.1.2.1,vb u.1.2.2.1,vb u.1.2.2.2]]⟩ : St)) 0 (s),W_go [0,1] (by decide) rfl (rfl) (.cons rfl (.cons rfl (.cons rfl (.cons rfl (.cons rfl (.cons rfl (.cons rfl (.cons rfl (.cons rfl (.cons rfl (.nil))))))))))),0,s,by omega,rfl,rfl⟩ ?_
    rintro m_D _ ⟨c,u,hk_D,hp_D,rfl⟩
    refine A_seq (A_seq (A_region ?_));refine M0 (q_moveC rfl rfl rfl) rfl rfl ?_;refine M0 (q_moveC rfl rfl rfl) rfl rfl ?_;refine M0 (q_lss rfl rfl rfl rfl) rfl rfl ?_
    refine L_nil (T_n ?_)
    refine A_cond rfl (fun h5 => ?_) (fun h5 => ?_)
    · have h5 : c < w := by have := of_decide_eq_true h5; omega
      have hcn := cols_next hp_D
      obtain ⟨t,ht⟩ : ∃ t,byteAt rows[k] (c : Int).toNat = t := ⟨_,rfl⟩
      rw [show byteAt rows[k] c = t from ht] at hcn
      have htb : 0 ≤ t ∧ t ≤ 255 := ht ▸ byteAt_lt _ _
      obtain ⟨⟨sa,sb,sc,sd⟩,so⟩ := u
      obtain ⟨e,he⟩ : ∃ e,e = (er || decide (c = 0) || decide (c + 1 = w)) := ⟨_,rfl⟩
      rw [← he] at hcn
      refine A_skip (T_n (A_seq (A_block (A_seq (A_region ?_)))));refine M0 (q_moveC rfl rfl rfl) rfl rfl ?_;refine M0 (q_moveC rfl rfl rfl) rfl rfl ?_
      refine M0 (q_byteK rfl rfl rfl rfl (by assumption) (by omega)) rfl rfl ?_;refine M0 (q_assignC rfl rfl rfl) rfl rfl ?_;refine L_nil (T_n (A_seq (A_region ?_)))
      refine M0 (q_moveC rfl rfl rfl) rfl rfl ?_;refine M0 (q_eql rfl rfl rfl rfl) rfl rfl ?_;refine M0 (q_moveC rfl rfl rfl) rfl rfl ?_
      refine M0 (Qt.grdF rfl rfl rfl .stop (fun hgrd => q_moveC rfl rfl rfl)) rfl rfl ?_
      refine M0 (Qt.grdF rfl rfl rfl (.hit .stop) (fun hgrd => q_fldp rfl rfl rfl rfl (by decide))) rfl rfl ?_
      refine M0 (Qt.grdF rfl rfl rfl (.hit (.hit .stop)) (fun hgrd => q_ld1 rfl rfl rfl rfl rfl)) rfl rfl ?_
      refine M0 (Qt.grdF rfl rfl rfl (.hit (.hit (.hit .stop))) (fun hgrd => q_len rfl rfl rfl)) rfl rfl ?_
      refine M0 (Qt.grdF rfl rfl rfl (.hit (.hit (.hit (.hit .stop)))) (fun hgrd => q_sub rfl rfl rfl rfl (by omega))) rfl rfl ?_
      refine M0 (Qt.grdF rfl rfl rfl (.hit (.hit (.hit (.hit (.hit .stop))))) (fun hgrd => q_eql rfl rfl rfl rfl)) rfl rfl ?_;refine M0 (q_or rfl rfl rfl rfl) rfl rfl ?_
      refine M0 (q_moveC rfl rfl rfl) rfl rfl ?_;refine M0 (Qt.grdF rfl rfl rfl .stop (fun hgrd => q_moveC rfl rfl rfl)) rfl rfl ?_
      refine M0 (Qt.grdF rfl rfl rfl (.hit .stop) (fun hgrd => q_eql rfl rfl rfl rfl)) rfl rfl ?_;refine M0 (q_or rfl rfl rfl rfl) rfl rfl ?_;refine M0 (q_moveC rfl rfl rfl) rfl rfl ?_
      refine M0 (Qt.grdF rfl rfl rfl .stop (fun hgrd => q_moveC rfl rfl rfl)) rfl rfl ?_;refine M0 (Qt.grdF rfl rfl rfl (.hit .stop) (fun hgrd => q_moveC rfl rfl rfl)) rfl rfl ?_
      refine M0 (Qt.grdF rfl rfl rfl (.hit (.hit .stop)) (fun hgrd => q_sub rfl rfl rfl rfl (by omega))) rfl rfl ?_
      refine M0 (Qt.grdF rfl rfl rfl (.hit (.hit (.hit .stop))) (fun hgrd => q_eql rfl rfl rfl rfl)) rfl rfl ?_;refine M0 (q_or rfl rfl rfl rfl) rfl rfl ?_
      refine M0 (q_assignC rfl rfl rfl) rfl rfl ?_;refine L_nil (T_n (A_seq (A_seq (A_region ?_))));refine M0 (q_moveC rfl rfl rfl) rfl rfl ?_
      refine M0 (q_moveC rfl rfl rfl) rfl rfl ?_;refine M0 (Qt.grdT rfl rfl rfl .stop (fun hgrd => q_moveC rfl rfl rfl)) rfl rfl ?_
      refine M0 (Qt.grdT rfl rfl rfl (.hit .stop) (fun hgrd => q_neq rfl rfl rfl rfl)) rfl rfl ?_;refine M0 (q_and rfl rfl rfl rfl) rfl rfl ?_;refine L_nil (T_n ?_)
      have hee : (decide ((k : Int) = 0) || decide ((k : Int) = ((els rows).length : Int) - 1) || decide ((c : Int) = 0) || decide ((c : Int) = (w : Int) - 1)) = e := by
        rw [he,her,hlx]
        have g1 : decide ((k : Int) = 0) = decide (k = 0) := by simp
        have g2 : decide ((k : Int) = (rows.length : Int) - 1) = decide (k + 1 = rows.length) := decide_eq_decide.2 (by omega)
        have g3 : decide ((c : Int) = 0) = decide (c = 0) := by simp
        have g4 : decide ((c : Int) = (w : Int) - 1) = decide (c + 1 = w) := decide_eq_decide.2 (by omega)
        rw [g1,g2,g3,g4]
      clear he her
      have hbad : colsM rows[k] er w s (c + 1) = none → levelOk ⟨rows⟩ = false := fun hc => level_no (l := ⟨rows⟩) h3 hw (hrn.trans (cols_none hc (by omega)))
      refine A_cond rfl (fun h6 => ?_) (fun h6 => ?_)
      · rw [hee] at h6
        simp only [Bool.and_eq_true,decide_eq_true_eq] at h6
        refine A_seq (A_region ?_);refine M0 (q_assignC rfl rfl rfl) rfl rfl ?_;refine L_nil (T_n (A_ret (T_r (B_r (T_r (T_r ?_))))))
        refine B_r (B_r (T_r (T_r (B_r (T_r (F_r ?_))))))
        exact E_tmp rfl rfl (W_end [] (by decide) rfl rfl (B_eq (hbad (hcn.trans (by simp [tileM,h6]))).symm))
      rw [hee] at h6
      have h7 : t = 35 ∨ e = false := by
        simp only [Bool.and_eq_false_iff,decide_eq_false_iff_not,Classical.not_not] at h6
        exact h6.symm
      clear h6 hee
      refine AWP.pre (st' := (⟨_,[(1,.o (.c (.ptr 0 0))),(3,I w),(4,.o (.c (.ptr 1 0))),(5,B so),(6,I k),(7,S rows[k]),(8,I c),(9,VI .u8 t),(33,L rows),(34,I (els rows).length),(35,I k)],[.box [.rd [] (sl rows)],.box [vb false,vb sa,vb sb,vb sc,vb sd]]⟩ : St)) ?_ (W_go [0,1] (by decide) rfl (rfl) (.cons rfl (.cons rfl (.cons rfl (.cons rfl (.cons rfl (.cons rfl (.cons rfl (.cons rfl (.cons rfl (.cons rfl (.cons rfl (.nil)))))))))))))
      rcases h7 with rfl | h7
      · refine A_skip (T_n (A_seq (A_block (A_seq (A_region ?_)))));refine M0 (q_moveC rfl rfl rfl) rfl rfl ?_
        refine M0 (q_geqK (b := false) rfl rfl rfl rfl (by decide)) rfl rfl ?_;refine M0 (q_moveC rfl rfl rfl) rfl rfl ?_;refine M_no rfl rfl rfl rfl rfl rfl ?_
        refine M_no rfl rfl rfl rfl rfl rfl ?_;refine M0 (q_pickF rfl rfl rfl rfl) rfl rfl ?_;refine M0 (q_assignC rfl rfl rfl) rfl rfl ?_;refine L_nil (T_n ?_);refine A_ifF rfl ?_
        refine A_seq (A_region ?_);refine M0 (q_moveC rfl rfl rfl) rfl rfl ?_;refine M0 (q_neqK (b := false) rfl rfl rfl rfl (by decide)) rfl rfl ?_
        refine M0 (q_moveC rfl rfl rfl) rfl rfl ?_;refine M_no rfl rfl rfl rfl rfl rfl ?_;refine M_no rfl rfl rfl rfl rfl rfl ?_;refine M0 (q_pickF rfl rfl rfl rfl) rfl rfl ?_
        refine M0 (q_moveC rfl rfl rfl) rfl rfl ?_;refine M_no rfl rfl rfl rfl rfl rfl ?_;refine M_no rfl rfl rfl rfl rfl rfl ?_;refine M0 (q_pickF rfl rfl rfl rfl) rfl rfl ?_
        refine M0 (q_assignC rfl rfl rfl) rfl rfl ?_;refine L_nil (T_n ?_);refine A_ifF rfl ?_;refine A_skip (B_n (T_n (A_seq (A_region ?_))))
        refine M0 (q_moveC rfl rfl rfl) rfl rfl ?_;refine M0 (q_neqK (b := false) rfl rfl rfl rfl (by decide)) rfl rfl ?_;refine L_nil (T_n ?_);refine A_ifF rfl ?_;refine A_skip ?_
        refine B_n (T_n (A_region ?_));refine M0 (q_moveC rfl rfl rfl) rfl rfl ?_;refine M0 (q_add rfl rfl rfl rfl (by omega)) rfl rfl ?_
        refine M0 (q_assignC rfl rfl rfl) rfl rfl ?_;refine L_nil (T_n ?_)
        exact ⟨w - (c + 1),by omega,(fun (c : Nat) (u : Seen × Bool) => (⟨_,[(1,.o (.c (.ptr 0 0))),(3,I w),(4,.o (.c (.ptr 1 0))),(5,B u.2),(6,I k),(7,S rows[k]),(8,I c),(33,L rows),(34,I (els rows).length),(35,I k)],[.box [.rd [] (sl rows)],.box [vb false,vb u.1.1,vb u.1.2.1,vb u.1.2.2.1,vb u.1.2.2.2]]⟩ : St)) (c + 1) (((sa,sb,sc,sd),so)),W_go [0,1] (by decide) rfl (rfl) (.cons rfl (.cons rfl (.cons rfl (.cons rfl (.cons rfl (.cons rfl (.cons rfl (.cons rfl (.cons rfl (.cons rfl (.nil))))))))))),c + 1,((sa,sb,sc,sd),so),by omega,hcn.trans (by simp [tileM]),rfl⟩
      subst h7
      rcases (by omega : t = 35 ∨ t = 49 ∨ t = 50 ∨ t = 51 ∨ t = 52 ∨ t = 111 ∨ t = 46 ∨ (t ≠ 35 ∧ t ≠ 49 ∧ t ≠ 50 ∧ t ≠ 51 ∧ t ≠ 52 ∧ t ≠ 111 ∧ t ≠ 46)) with rfl | rfl | rfl | rfl | rfl | rfl | rfl | ht7
      · refine A_skip (T_n (A_seq (A_block (A_seq (A_region ?_)))));refine M0 (q_moveC rfl rfl rfl) rfl rfl ?_
        refine M0 (q_geqK (b := false) rfl rfl rfl rfl (by decide)) rfl rfl ?_;refine M0 (q_moveC rfl rfl rfl) rfl rfl ?_;refine M_no rfl rfl rfl rfl rfl rfl ?_
        refine M_no rfl rfl rfl rfl rfl rfl ?_;refine M0 (q_pickF rfl rfl rfl rfl) rfl rfl ?_;refine M0 (q_assignC rfl rfl rfl) rfl rfl ?_;refine L_nil (T_n ?_);refine A_ifF rfl ?_
        refine A_seq (A_region ?_);refine M0 (q_moveC rfl rfl rfl) rfl rfl ?_;refine M0 (q_neqK (b := false) rfl rfl rfl rfl (by decide)) rfl rfl ?_
        refine M0 (q_moveC rfl rfl rfl) rfl rfl ?_;refine M_no rfl rfl rfl rfl rfl rfl ?_;refine M_no rfl rfl rfl rfl rfl rfl ?_;refine M0 (q_pickF rfl rfl rfl rfl) rfl rfl ?_
        refine M0 (q_moveC rfl rfl rfl) rfl rfl ?_;refine M_no rfl rfl rfl rfl rfl rfl ?_;refine M_no rfl rfl rfl rfl rfl rfl ?_;refine M0 (q_pickF rfl rfl rfl rfl) rfl rfl ?_
        refine M0 (q_assignC rfl rfl rfl) rfl rfl ?_;refine L_nil (T_n ?_);refine A_ifF rfl ?_;refine A_skip (B_n (T_n (A_seq (A_region ?_))))
        refine M0 (q_moveC rfl rfl rfl) rfl rfl ?_;refine M0 (q_neqK (b := false) rfl rfl rfl rfl (by decide)) rfl rfl ?_;refine L_nil (T_n ?_);refine A_ifF rfl ?_;refine A_skip ?_
        refine B_n (T_n (A_region ?_));refine M0 (q_moveC rfl rfl rfl) rfl rfl ?_;refine M0 (q_add rfl rfl rfl rfl (by omega)) rfl rfl ?_
        refine M0 (q_assignC rfl rfl rfl) rfl rfl ?_;refine L_nil (T_n ?_)
        exact ⟨w - (c + 1),by omega,(fun (c : Nat) (u : Seen × Bool) => (⟨_,[(1,.o (.c (.ptr 0 0))),(3,I w),(4,.o (.c (.ptr 1 0))),(5,B u.2),(6,I k),(7,S rows[k]),(8,I c),(33,L rows),(34,I (els rows).length),(35,I k)],[.box [.rd [] (sl rows)],.box [vb false,vb u.1.1,vb u.1.2.1,vb u.1.2.2.1,vb u.1.2.2.2]]⟩ : St)) (c + 1) (((sa,sb,sc,sd),so)),W_go [0,1] (by decide) rfl (rfl) (.cons rfl (.cons rfl (.cons rfl (.cons rfl (.cons rfl (.cons rfl (.cons rfl (.cons rfl (.cons rfl (.cons rfl (.nil))))))))))),c + 1,((sa,sb,sc,sd),so),by omega,hcn.trans (by simp [tileM]),rfl⟩
      · refine A_skip (T_n (A_seq (A_block (A_seq (A_region ?_)))));refine M0 (q_moveC rfl rfl rfl) rfl rfl ?_
        refine M0 (q_geqK (b := true) rfl rfl rfl rfl (by decide)) rfl rfl ?_;refine M0 (q_moveC rfl rfl rfl) rfl rfl ?_;refine M_yes rfl rfl rfl ?_;refine M0 (q_moveC rfl rfl rfl) rfl rfl ?_
        refine M_yes rfl rfl rfl ?_;refine M0 (q_leqK (b := true) rfl rfl rfl rfl (by decide)) rfl rfl ?_;refine M0 (q_pickT rfl rfl rfl rfl) rfl rfl ?_
        refine M0 (q_assignC rfl rfl rfl) rfl rfl ?_;refine L_nil (T_n ?_);refine A_ifT rfl ?_;refine A_seq (A_seq (A_region ?_))
        refine M0 (q_moveC rfl rfl rfl) rfl rfl ?_;refine M0 (q_sub8 rfl rfl rfl rfl (by omega)) rfl rfl ?_;refine M0 (q_aidx rfl rfl rfl rfl (by omega)) rfl rfl ?_
        refine M0 (q_ld1 rfl rfl rfl rfl rfl) rfl rfl ?_;refine L_nil (T_n ?_)
        refine A_cond rfl (fun h8 => ?_) (fun h8 => ?_)
        · have h8 : sa = true := h8
          subst h8
          refine A_seq (A_region ?_);refine M0 (q_assignC rfl rfl rfl) rfl rfl ?_;refine L_nil (T_n (A_ret (T_r (B_r (T_r (B_r ?_))))))
          refine T_r (T_r (B_r (B_r (T_r (T_r (B_r (T_r (F_r ?_))))))))
          exact E_tmp rfl rfl (W_end [] (by decide) rfl rfl (B_eq (hbad (hcn.trans (by simp [tileM]))).symm))
        · have h8 : sa = false := h8
          subst h8
          refine A_skip (T_n (A_region ?_));refine M0 (q_moveC rfl rfl rfl) rfl rfl ?_;refine M0 (q_sub8 rfl rfl rfl rfl (by omega)) rfl rfl ?_
          refine M0 (q_aidx rfl rfl rfl rfl (by omega)) rfl rfl ?_;refine M_st1 rfl rfl rfl rfl rfl rfl rfl rfl ?_;refine L_nil (B_n (T_n (A_seq (A_region ?_))))
          refine M0 (q_moveC rfl rfl rfl) rfl rfl ?_;refine M0 (q_neqK (b := true) rfl rfl rfl rfl (by decide)) rfl rfl ?_;refine L_nil (T_n ?_);refine A_ifT rfl ?_;refine A_region ?_
          refine M0 (q_assignC rfl rfl rfl) rfl rfl ?_;refine L_nil (B_n (T_n (A_region ?_)));refine M0 (q_moveC rfl rfl rfl) rfl rfl ?_
          refine M0 (q_add rfl rfl rfl rfl (by omega)) rfl rfl ?_;refine M0 (q_assignC rfl rfl rfl) rfl rfl ?_;refine L_nil (T_n ?_)
          exact ⟨w - (c + 1),by omega,(fun (c : Nat) (u : Seen × Bool) => (⟨_,[(1,.o (.c (.ptr 0 0))),(3,I w),(4,.o (.c (.ptr 1 0))),(5,B u.2),(6,I k),(7,S rows[k]),(8,I c),(33,L rows),(34,I (els rows).length),(35,I k)],[.box [.rd [] (sl rows)],.box [vb false,vb u.1.1,vb u.1.2.1,vb u.1.2.2.1,vb u.1.2.2.2]]⟩ : St)) (c + 1) (((true,sb,sc,sd),true)),W_go [0,1] (by decide) rfl (rfl) (.cons rfl (.cons rfl (.cons rfl (.cons rfl (.cons rfl (.cons rfl (.cons rfl (.cons rfl (.cons rfl (.cons rfl (.nil))))))))))),c + 1,((true,sb,sc,sd),true),by omega,hcn.trans (by simp [tileM]),rfl⟩
      · refine A_skip (T_n (A_seq (A_block (A_seq (A_region ?_)))));refine M0 (q_moveC rfl rfl rfl) rfl rfl ?_
        refine M0 (q_geqK (b := true) rfl rfl rfl rfl (by decide)) rfl rfl ?_;refine M0 (q_moveC rfl rfl rfl) rfl rfl ?_;refine M_yes rfl rfl rfl ?_;refine M0 (q_moveC rfl rfl rfl) rfl rfl ?_
        refine M_yes rfl rfl rfl ?_;refine M0 (q_leqK (b := true) rfl rfl rfl rfl (by decide)) rfl rfl ?_;refine M0 (q_pickT rfl rfl rfl rfl) rfl rfl ?_
        refine M0 (q_assignC rfl rfl rfl) rfl rfl ?_;refine L_nil (T_n ?_);refine A_ifT rfl ?_;refine A_seq (A_seq (A_region ?_))
        refine M0 (q_moveC rfl rfl rfl) rfl rfl ?_;refine M0 (q_sub8 rfl rfl rfl rfl (by omega)) rfl rfl ?_;refine M0 (q_aidx rfl rfl rfl rfl (by omega)) rfl rfl ?_
        refine M0 (q_ld1 rfl rfl rfl rfl rfl) rfl rfl ?_;refine L_nil (T_n ?_)
        refine A_cond rfl (fun h8 => ?_) (fun h8 => ?_)
        · have h8 : sb = true := h8
          subst h8
          refine A_seq (A_region ?_);refine M0 (q_assignC rfl rfl rfl) rfl rfl ?_;refine L_nil (T_n (A_ret (T_r (B_r (T_r (B_r ?_))))))
          refine T_r (T_r (B_r (B_r (T_r (T_r (B_r (T_r (F_r ?_))))))))
          exact E_tmp rfl rfl (W_end [] (by decide) rfl rfl (B_eq (hbad (hcn.trans (by simp [tileM]))).symm))
        · have h8 : sb = false := h8
          subst h8
          refine A_skip (T_n (A_region ?_));refine M0 (q_moveC rfl rfl rfl) rfl rfl ?_;refine M0 (q_sub8 rfl rfl rfl rfl (by omega)) rfl rfl ?_
          refine M0 (q_aidx rfl rfl rfl rfl (by omega)) rfl rfl ?_;refine M_st1 rfl rfl rfl rfl rfl rfl rfl rfl ?_;refine L_nil (B_n (T_n (A_seq (A_region ?_))))
          refine M0 (q_moveC rfl rfl rfl) rfl rfl ?_;refine M0 (q_neqK (b := true) rfl rfl rfl rfl (by decide)) rfl rfl ?_;refine L_nil (T_n ?_);refine A_ifT rfl ?_;refine A_region ?_
          refine M0 (q_assignC rfl rfl rfl) rfl rfl ?_;refine L_nil (B_n (T_n (A_region ?_)));refine M0 (q_moveC rfl rfl rfl) rfl rfl ?_
          refine M0 (q_add rfl rfl rfl rfl (by omega)) rfl rfl ?_;refine M0 (q_assignC rfl rfl rfl) rfl rfl ?_;refine L_nil (T_n ?_)
          exact ⟨w - (c + 1),by omega,(fun (c : Nat) (u : Seen × Bool) => (⟨_,[(1,.o (.c (.ptr 0 0))),(3,I w),(4,.o (.c (.ptr 1 0))),(5,B u.2),(6,I k),(7,S rows[k]),(8,I c),(33,L rows),(34,I (els rows).length),(35,I k)],[.box [.rd [] (sl rows)],.box [vb false,vb u.1.1,vb u.1.2.1,vb u.1.2.2.1,vb u.1.2.2.2]]⟩ : St)) (c + 1) (((sa,true,sc,sd),true)),W_go [0,1] (by decide) rfl (rfl) (.cons rfl (.cons rfl (.cons rfl (.cons rfl (.cons rfl (.cons rfl (.cons rfl (.cons rfl (.cons rfl (.cons rfl (.nil))))))))))),c + 1,((sa,true,sc,sd),true),by omega,hcn.trans (by simp [tileM]),rfl⟩
      · refine A_skip (T_n (A_seq (A_block (A_seq (A_region ?_)))));refine M0 (q_moveC rfl rfl rfl) rfl rfl ?_
        refine M0 (q_geqK (b := true) rfl rfl rfl rfl (by decide)) rfl rfl ?_;refine M0 (q_moveC rfl rfl rfl) rfl rfl ?_;refine M_yes rfl rfl rfl ?_;refine M0 (q_moveC rfl rfl rfl) rfl rfl ?_
        refine M_yes rfl rfl rfl ?_;refine M0 (q_leqK (b := true) rfl rfl rfl rfl (by decide)) rfl rfl ?_;refine M0 (q_pickT rfl rfl rfl rfl) rfl rfl ?_
        refine M0 (q_assignC rfl rfl rfl) rfl rfl ?_;refine L_nil (T_n ?_);refine A_ifT rfl ?_;refine A_seq (A_seq (A_region ?_))
        refine M0 (q_moveC rfl rfl rfl) rfl rfl ?_;refine M0 (q_sub8 rfl rfl rfl rfl (by omega)) rfl rfl ?_;refine M0 (q_aidx rfl rfl rfl rfl (by omega)) rfl rfl ?_
        refine M0 (q_ld1 rfl rfl rfl rfl rfl) rfl rfl ?_;refine L_nil (T_n ?_)
        refine A_cond rfl (fun h8 => ?_) (fun h8 => ?_)
        · have h8 : sc = true := h8
          subst h8
          refine A_seq (A_region ?_);refine M0 (q_assignC rfl rfl rfl) rfl rfl ?_;refine L_nil (T_n (A_ret (T_r (B_r (T_r (B_r ?_))))))
          refine T_r (T_r (B_r (B_r (T_r (T_r (B_r (T_r (F_r ?_))))))))
          exact E_tmp rfl rfl (W_end [] (by decide) rfl rfl (B_eq (hbad (hcn.trans (by simp [tileM]))).symm))
        · have h8 : sc = false := h8
          subst h8
          refine A_skip (T_n (A_region ?_));refine M0 (q_moveC rfl rfl rfl) rfl rfl ?_;refine M0 (q_sub8 rfl rfl rfl rfl (by omega)) rfl rfl ?_
          refine M0 (q_aidx rfl rfl rfl rfl (by omega)) rfl rfl ?_;refine M_st1 rfl rfl rfl rfl rfl rfl rfl rfl ?_;refine L_nil (B_n (T_n (A_seq (A_region ?_))))
          refine M0 (q_moveC rfl rfl rfl) rfl rfl ?_;refine M0 (q_neqK (b := true) rfl rfl rfl rfl (by decide)) rfl rfl ?_;refine L_nil (T_n ?_);refine A_ifT rfl ?_;refine A_region ?_
          refine M0 (q_assignC rfl rfl rfl) rfl rfl ?_;refine L_nil (B_n (T_n (A_region ?_)));refine M0 (q_moveC rfl rfl rfl) rfl rfl ?_
          refine M0 (q_add rfl rfl rfl rfl (by omega)) rfl rfl ?_;refine M0 (q_assignC rfl rfl rfl) rfl rfl ?_;refine L_nil (T_n ?_)
          exact ⟨w - (c + 1),by omega,(fun (c : Nat) (u : Seen × Bool) => (⟨_,[(1,.o (.c (.ptr 0 0))),(3,I w),(4,.o (.c (.ptr 1 0))),(5,B u.2),(6,I k),(7,S rows[k]),(8,I c),(33,L rows),(34,I (els rows).length),(35,I k)],[.box [.rd [] (sl rows)],.box [vb false,vb u.1.1,vb u.1.2.1,vb u.1.2.2.1,vb u.1.2.2.2]]⟩ : St)) (c + 1) (((sa,sb,true,sd),true)),W_go [0,1] (by decide) rfl (rfl) (.cons rfl (.cons rfl (.cons rfl (.cons rfl (.cons rfl (.cons rfl (.cons rfl (.cons rfl (.cons rfl (.cons rfl (.nil))))))))))),c + 1,((sa,sb,true,sd),true),by omega,hcn.trans (by simp [tileM]),rfl⟩
      · refine A_skip (T_n (A_seq (A_block (A_seq (A_region ?_)))));refine M0 (q_moveC rfl rfl rfl) rfl rfl ?_
        refine M0 (q_geqK (b := true) rfl rfl rfl rfl (by decide)) rfl rfl ?_;refine M0 (q_moveC rfl rfl rfl) rfl rfl ?_;refine M_yes rfl rfl rfl ?_;refine M0 (q_moveC rfl rfl rfl) rfl rfl ?_
        refine M_yes rfl rfl rfl ?_;refine M0 (q_leqK (b := true) rfl rfl rfl rfl (by decide)) rfl rfl ?_;refine M0 (q_pickT rfl rfl rfl rfl) rfl rfl ?_
        refine M0 (q_assignC rfl rfl rfl) rfl rfl ?_;refine L_nil (T_n ?_);refine A_ifT rfl ?_;refine A_seq (A_seq (A_region ?_))
        refine M0 (q_moveC rfl rfl rfl) rfl rfl ?_;refine M0 (q_sub8 rfl rfl rfl rfl (by omega)) rfl rfl ?_;refine M0 (q_aidx rfl rfl rfl rfl (by omega)) rfl rfl ?_
        refine M0 (q_ld1 rfl rfl rfl rfl rfl) rfl rfl ?_;refine L_nil (T_n ?_)
        refine A_cond rfl (fun h8 => ?_) (fun h8 => ?_)
        · have h8 : sd = true := h8
          subst h8
          refine A_seq (A_region ?_);refine M0 (q_assignC rfl rfl rfl) rfl rfl ?_;refine L_nil (T_n (A_ret (T_r (B_r (T_r (B_r ?_))))))
          refine T_r (T_r (B_r (B_r (T_r (T_r (B_r (T_r (F_r ?_))))))))
          exact E_tmp rfl rfl (W_end [] (by decide) rfl rfl (B_eq (hbad (hcn.trans (by simp [tileM]))).symm))
        · have h8 : sd = false := h8
          subst h8
          refine A_skip (T_n (A_region ?_));refine M0 (q_moveC rfl rfl rfl) rfl rfl ?_;refine M0 (q_sub8 rfl rfl rfl rfl (by omega)) rfl rfl ?_
          refine M0 (q_aidx rfl rfl rfl rfl (by omega)) rfl rfl ?_;refine M_st1 rfl rfl rfl rfl rfl rfl rfl rfl ?_;refine L_nil (B_n (T_n (A_seq (A_region ?_))))
          refine M0 (q_moveC rfl rfl rfl) rfl rfl ?_;refine M0 (q_neqK (b := true) rfl rfl rfl rfl (by decide)) rfl rfl ?_;refine L_nil (T_n ?_);refine A_ifT rfl ?_;refine A_region ?_
          refine M0 (q_assignC rfl rfl rfl) rfl rfl ?_;refine L_nil (B_n (T_n (A_region ?_)));refine M0 (q_moveC rfl rfl rfl) rfl rfl ?_
          refine M0 (q_add rfl rfl rfl rfl (by omega)) rfl rfl ?_;refine M0 (q_assignC rfl rfl rfl) rfl rfl ?_;refine L_nil (T_n ?_)
          exact ⟨w - (c + 1),by omega,(fun (c : Nat) (u : Seen × Bool) => (⟨_,[(1,.o (.c (.ptr 0 0))),(3,I w),(4,.o (.c (.ptr 1 0))),(5,B u.2),(6,I k),(7,S rows[k]),(8,I c),(33,L rows),(34,I (els rows).length),(35,I k)],[.box [.rd [] (sl rows)],.box [vb false,vb u.1.1,vb u.1.2.1,vb u.1.2.2.1,vb u.1.2.2.2]]⟩ : St)) (c + 1) (((sa,sb,sc,true),true)),W_go [0,1] (by decide) rfl (rfl) (.cons rfl (.cons rfl (.cons rfl (.cons rfl (.cons rfl (.cons rfl (.cons rfl (.cons rfl (.cons rfl (.cons rfl (.nil))))))))))),c + 1,((sa,sb,sc,true),true),by omega,hcn.trans (by simp [tileM]),rfl⟩
      · refine A_skip (T_n (A_seq (A_block (A_seq (A_region ?_)))));refine M0 (q_moveC rfl rfl rfl) rfl rfl ?_
        refine M0 (q_geqK (b := true) rfl rfl rfl rfl (by decide)) rfl rfl ?_;refine M0 (q_moveC rfl rfl rfl) rfl rfl ?_;refine M_yes rfl rfl rfl ?_;refine M0 (q_moveC rfl rfl rfl) rfl rfl ?_
        refine M_yes rfl rfl rfl ?_;refine M0 (q_leqK (b := false) rfl rfl rfl rfl (by decide)) rfl rfl ?_;refine M0 (q_pickT rfl rfl rfl rfl) rfl rfl ?_
        refine M0 (q_assignC rfl rfl rfl) rfl rfl ?_;refine L_nil (T_n ?_);refine A_ifF rfl ?_;refine A_seq (A_region ?_);refine M0 (q_moveC rfl rfl rfl) rfl rfl ?_
        refine M0 (q_neqK (b := true) rfl rfl rfl rfl (by decide)) rfl rfl ?_;refine M0 (q_moveC rfl rfl rfl) rfl rfl ?_;refine M_yes rfl rfl rfl ?_;refine M0 (q_moveC rfl rfl rfl) rfl rfl ?_
        refine M_yes rfl rfl rfl ?_;refine M0 (q_neqK (b := false) rfl rfl rfl rfl (by decide)) rfl rfl ?_;refine M0 (q_pickT rfl rfl rfl rfl) rfl rfl ?_
        refine M0 (q_moveC rfl rfl rfl) rfl rfl ?_;refine M_no rfl rfl rfl rfl rfl rfl ?_;refine M_no rfl rfl rfl rfl rfl rfl ?_;refine M0 (q_pickF rfl rfl rfl rfl) rfl rfl ?_
        refine M0 (q_assignC rfl rfl rfl) rfl rfl ?_;refine L_nil (T_n ?_);refine A_ifF rfl ?_;refine A_skip (B_n (T_n (A_seq (A_region ?_))))
        refine M0 (q_moveC rfl rfl rfl) rfl rfl ?_;refine M0 (q_neqK (b := true) rfl rfl rfl rfl (by decide)) rfl rfl ?_;refine L_nil (T_n ?_);refine A_ifT rfl ?_;refine A_region ?_
        refine M0 (q_assignC rfl rfl rfl) rfl rfl ?_;refine L_nil (B_n (T_n (A_region ?_)));refine M0 (q_moveC rfl rfl rfl) rfl rfl ?_
        refine M0 (q_add rfl rfl rfl rfl (by omega)) rfl rfl ?_;refine M0 (q_assignC rfl rfl rfl) rfl rfl ?_;refine L_nil (T_n ?_)
        exact ⟨w - (c + 1),by omega,(fun (c : Nat) (u : Seen × Bool) => (⟨_,[(1,.o (.c (.ptr 0 0))),(3,I w),(4,.o (.c (.ptr 1 0))),(5,B u.2),(6,I k),(7,S rows[k]),(8,I c),(33,L rows),(34,I (els rows).length),(35,I k)],[.box [.rd [] (sl rows)],.box [vb false,vb u.1.1,vb u.1.2.1,vb u.1.2.2.1,vb u.1.2.2.2]]⟩ : St)) (c + 1) (((sa,sb,sc,sd),true)),W_go [0,1] (by decide) rfl (rfl) (.cons rfl (.cons rfl (.cons rfl (.cons rfl (.cons rfl (.cons rfl (.cons rfl (.cons rfl (.cons rfl (.cons rfl (.nil))))))))))),c + 1,((sa,sb,sc,sd),true),by omega,hcn.trans (by simp [tileM]),rfl⟩
      · refine A_skip (T_n (A_seq (A_block (A_seq (A_region ?_)))));refine M0 (q_moveC rfl rfl rfl) rfl rfl ?_
        refine M0 (q_geqK (b := false) rfl rfl rfl rfl (by decide)) rfl rfl ?_;refine M0 (q_moveC rfl rfl rfl) rfl rfl ?_;refine M_no rfl rfl rfl rfl rfl rfl ?_
        refine M_no rfl rfl rfl rfl rfl rfl ?_;refine M0 (q_pickF rfl rfl rfl rfl) rfl rfl ?_;refine M0 (q_assignC rfl rfl rfl) rfl rfl ?_;refine L_nil (T_n ?_);refine A_ifF rfl ?_
        refine A_seq (A_region ?_);refine M0 (q_moveC rfl rfl rfl) rfl rfl ?_;refine M0 (q_neqK (b := true) rfl rfl rfl rfl (by decide)) rfl rfl ?_
        refine M0 (q_moveC rfl rfl rfl) rfl rfl ?_;refine M_yes rfl rfl rfl ?_;refine M0 (q_moveC rfl rfl rfl) rfl rfl ?_;refine M_yes rfl rfl rfl ?_
        refine M0 (q_neqK (b := true) rfl rfl rfl rfl (by decide)) rfl rfl ?_;refine M0 (q_pickT rfl rfl rfl rfl) rfl rfl ?_;refine M0 (q_moveC rfl rfl rfl) rfl rfl ?_
        refine M_yes rfl rfl rfl ?_;refine M0 (q_moveC rfl rfl rfl) rfl rfl ?_;refine M_yes rfl rfl rfl ?_;refine M0 (q_neqK (b := false) rfl rfl rfl rfl (by decide)) rfl rfl ?_
        refine M0 (q_pickT rfl rfl rfl rfl) rfl rfl ?_;refine M0 (q_assignC rfl rfl rfl) rfl rfl ?_;refine L_nil (T_n ?_);refine A_ifF rfl ?_;refine A_skip (B_n (T_n ?_))
        refine A_seq (A_region ?_);refine M0 (q_moveC rfl rfl rfl) rfl rfl ?_;refine M0 (q_neqK (b := true) rfl rfl rfl rfl (by decide)) rfl rfl ?_;refine L_nil (T_n ?_)
        refine A_ifT rfl ?_;refine A_region ?_;refine M0 (q_assignC rfl rfl rfl) rfl rfl ?_;refine L_nil (B_n (T_n (A_region ?_)))
        refine M0 (q_moveC rfl rfl rfl) rfl rfl ?_;refine M0 (q_add rfl rfl rfl rfl (by omega)) rfl rfl ?_;refine M0 (q_assignC rfl rfl rfl) rfl rfl ?_;refine L_nil (T_n ?_)
        exact ⟨w - (c + 1),by omega,(fun (c : Nat) (u : Seen × Bool) => (⟨_,[(1,.o (.c (.ptr 0 0))),(3,I w),(4,.o (.c (.ptr 1 0))),(5,B u.2),(6,I k),(7,S rows[k]),(8,I c),(33,L rows),(34,I (els rows).length),(35,I k)],[.box [.rd [] (sl rows)],.box [vb false,vb u.1.1,vb u.1.2.1,vb u.1.2.2.1,vb u.1.2.2.2]]⟩ : St)) (c + 1) (((sa,sb,sc,sd),true)),W_go [0,1] (by decide) rfl (rfl) (.cons rfl (.cons rfl (.cons rfl (.cons rfl (.cons rfl (.cons rfl (.cons rfl (.cons rfl (.cons rfl (.cons rfl (.nil))))))))))),c + 1,((sa,sb,sc,sd),true),by omega,hcn.trans (by simp [tileM]),rfl⟩
      · refine A_skip (T_n (A_seq (A_block (A_seq (A_region ?_)))));refine M0 (q_moveC rfl rfl rfl) rfl rfl ?_;refine M0 (q_geq rfl rfl rfl rfl) rfl rfl ?_
        refine M0 (q_moveC rfl rfl rfl) rfl rfl ?_;refine M0 (Qt.grdT rfl rfl rfl .stop (fun hgrd => q_moveC rfl rfl rfl)) rfl rfl ?_
        refine M0 (Qt.grdT rfl rfl rfl (.hit .stop) (fun hgrd => q_leq rfl rfl rfl rfl)) rfl rfl ?_;refine M0 (q_and rfl rfl rfl rfl) rfl rfl ?_;refine M0 (q_assignC rfl rfl rfl) rfl rfl ?_
        refine L_nil (T_n ?_)
        refine A_cond rfl (fun h8 => ?_) (fun h8 => ?_)
        · simp only [Bool.and_eq_true,decide_eq_true_eq] at h8
          omega
        refine A_seq (A_region ?_);refine M0 (q_moveC rfl rfl rfl) rfl rfl ?_;refine M0 (q_neq rfl rfl rfl rfl) rfl rfl ?_;refine M0 (q_moveC rfl rfl rfl) rfl rfl ?_
        refine M0 (Qt.grdT rfl rfl rfl .stop (fun hgrd => q_moveC rfl rfl rfl)) rfl rfl ?_;refine M0 (Qt.grdT rfl rfl rfl (.hit .stop) (fun hgrd => q_neq rfl rfl rfl rfl)) rfl rfl ?_
        refine M0 (q_and rfl rfl rfl rfl) rfl rfl ?_;refine M0 (q_moveC rfl rfl rfl) rfl rfl ?_;refine M0 (Qt.grdT rfl rfl rfl .stop (fun hgrd => q_moveC rfl rfl rfl)) rfl rfl ?_
        refine M0 (Qt.grdT rfl rfl rfl (.hit .stop) (fun hgrd => q_neq rfl rfl rfl rfl)) rfl rfl ?_;refine M0 (q_and rfl rfl rfl rfl) rfl rfl ?_;refine M0 (q_assignC rfl rfl rfl) rfl rfl ?_
        refine L_nil (T_n ?_)
        refine A_cond rfl (fun h9 => ?_) (fun h9 => ?_)
        · refine A_seq (A_region ?_);refine M0 (q_assignC rfl rfl rfl) rfl rfl ?_;refine L_nil (T_n (A_ret (B_r (T_r (B_r (T_r ?_))))))
          refine T_r (B_r (B_r (T_r (T_r (B_r (T_r (F_r ?_)))))))
          exact E_tmp rfl rfl (W_end [] (by decide) rfl rfl (B_eq (hbad (hcn.trans (by simp [tileM,ht7]))).symm))
        · simp only [Bool.and_eq_false_iff,decide_eq_false_iff_not,Classical.not_not] at h9
          omega
    · have h5 : c = w := by have := of_decide_eq_false h5; omega
      rw [h5] at hp_D
      rw [hp_D] at hrn
      refine A_exit (T_x (T_x (B_xs (B_n (T_n (A_region ?_))))));refine M0 (q_add rfl rfl rfl rfl (by omega)) rfl rfl ?_
      refine M0 (q_moveC rfl rfl rfl) rfl rfl ?_;refine L_nil (T_n ?_)
      exact ⟨rows.length - (k + 1),by omega,(fun (k : Nat) (s : Seen × Bool) => (⟨_,[(1,.o (.c (.ptr 0 0))),(3,I w),(4,.o (.c (.ptr 1 0))),(5,B s.2),(33,L rows),(34,I (els rows).length),(35,I k)],[.box [.rd [] (sl rows)],.box [vb false,vb s.1.1,vb s.1.2.1,vb s.1.2.2.1,vb s.1.2.2.2]]⟩ : St)) (k + 1) (u),W_go [0,1] (by decide) rfl (rfl) (.cons rfl (.cons rfl (.cons rfl (.cons rfl (.cons rfl (.cons rfl (.cons rfl (.nil)))))))),k + 1,u,by omega,hrn,rfl⟩
  · have h3 : ¬ ((k : Int) < (els rows).length) := of_decide_eq_false h
    have hk : k = rows.length := by omega
    subst hk
    refine A_exit (T_x (T_x (B_xs (T_n (A_seq (A_region ?_))))));refine M0 (q_moveC rfl rfl rfl) rfl rfl ?_
    refine M0 (q_assignC rfl rfl rfl) rfl rfl ?_;refine L_nil (T_n (A_ret (F_r ?_)))
    exact E_tmp rfl rfl (W_end [] (by decide) rfl rfl (B_eq (by
      unfold levelOk
      rw [hw,hp_A]
      have : 3 ≤ rows.length ∧ rows.length ≤ 12 ∧ 4 ≤ w ∧ w ≤ 20 := by omega
      simp [this])))
end Go.Proofs.Ytmljakmaffbnlaa
end

section
set_option linter.unusedSimpArgs false
set_option linter.unusedVariables false
namespace Go.Proofs.Ytmljakmaffbnlaa
open Go.RowKit

set_option maxHeartbeats 4000000 in
theorem S_LevelOk (x : TLevel) (hg : Enc.gd x) : Con Try.prog 67 [] [ag x] [] (B (levelOk x)) := by
  obtain ⟨rows⟩ := x
  have hn : Enc.gd rows := hg
  have hn1 := hn.1
  have hlx := els_len rows
  refine Con.of Try.func67 rfl Try.ntmps67 rfl (fun E => ?_)
  refine A_seq (A_region ?_);refine M1 (q_boxN rfl rfl rfl rfl) rfl rfl ?_;refine M0 (q_assignC rfl rfl rfl) rfl rfl ?_;refine L_nil (T_n (A_seq (A_seq ?_)))
  refine A_region ?_;refine M0 (q_fldp rfl rfl rfl rfl (by decide)) rfl rfl ?_;refine M0 (q_ld1 rfl rfl rfl rfl rfl) rfl rfl ?_;refine M0 (q_len rfl rfl rfl) rfl rfl ?_
  refine M0 (q_call0 rfl rfl (S_in (els rows).length 3 12) rfl) rfl rfl ?_;refine M0 (q_not rfl rfl rfl) rfl rfl ?_;refine L_nil (T_n ?_)
  refine A_cond rfl (fun h => ?_) (fun h => ?_)
  · refine A_seq (A_region ?_);refine M0 (q_assignC rfl rfl rfl) rfl rfl ?_;refine L_nil (T_n (A_ret (T_r (F_r ?_))))
    exact E_tmp rfl rfl (W_end [] (by decide) rfl rfl (B_eq (by simp [inR] at h; simp [levelOk]; omega)))
  have h : 3 ≤ rows.length ∧ rows.length ≤ 12 := by simp [inR] at h; omega
  have h0 : 0 < rows.length := by omega
  have hat0 : (els rows)[(0 : Int).toNat]? = some (Enc.e rows[0]) := els_at h0
  have hw := width_at h0
  obtain ⟨w,hw'⟩ : ∃ w,w = rows[0].size := ⟨_,rfl⟩
  rw [← hw'] at hw
  have hg0 : rows[0].size ≤ 9223372036854775807 := hn.2 _ (List.getElem_mem h0)
  refine A_skip (T_n (A_seq (A_region ?_)));refine M0 (q_fldp rfl rfl rfl rfl (by decide)) rfl rfl ?_;refine M0 (q_ld1 rfl rfl rfl rfl rfl) rfl rfl ?_
  refine M0 (q_at rfl rfl rfl rfl (by omega) (by assumption) rfl) rfl rfl ?_;refine M0 (q_lr1 rfl rfl rfl rfl) rfl rfl ?_;refine M0 (q_lens rfl rfl rfl) rfl rfl ?_
  refine M0 (q_assignC rfl rfl rfl) rfl rfl ?_;refine L_nil (T_n (A_seq (A_region ?_)));refine M0 (q_assignC rfl rfl rfl) rfl rfl ?_;refine L_nil (T_n ?_)
  refine A_seq (A_region ?_);refine M1 (q_bslice rfl rfl rfl rfl rfl rfl) rfl rfl ?_;refine M0 (q_assignC rfl rfl rfl) rfl rfl ?_;refine L_nil (T_n (A_seq ?_))
  refine A_seq (A_region ?_);refine M0 (q_assignC rfl rfl rfl) rfl rfl ?_;refine L_nil (T_n (A_block ?_))
  refine A_loop (fun m st => ∃ (k : Nat) (s : Seen × Bool),k + m = rows.length ∧ (rowsM rows w k = some s ∧ (0 < k → 4 ≤ w ∧ w ≤ 20)) ∧ st = (fun (k : Nat) (s : Seen × Bool) => (⟨_,[(1,.o (.c (.ptr 0 0))),(3,I w),(4,B s.2),(5,.o (.c (.sb 1 4 1))),(6,I k)],[.box [.rd [] (sl rows)],.box [vb s.1.1,vb s.1.2.1,vb s.1.2.2.1,vb s.1.2.2.2]]⟩ : St)) k s) (rows.length) ⟨(fun (k : Nat) (s : Seen × Bool) => (⟨_,[(1,.o (.c (.ptr 0 0))),(3,I w),(4,B s.2),(5,.o (.c (.sb 1 4 1))),(6,I k)],[.box [.rd [] (sl rows)],.box [vb s.1.1,vb s.1.2.1,vb s.1.2.2.1,vb s.1.2.2.2]]⟩ : St)) 0 (((false,false,false,false),false)),W_go [0,1] (by decide) rfl (rfl) (.cons rfl (.cons (I_eq (by omega)) (.cons rfl (.cons rfl (.cons rfl (.nil)))))),0,((false,false,false,false),false),by omega,⟨rfl,by omega⟩,rfl⟩ ?_
  rintro m_A _ ⟨k,s,hk_A,hp_A,rfl⟩
  refine A_seq (A_seq (A_region ?_));refine M0 (q_moveC rfl rfl rfl) rfl rfl ?_;refine M0 (q_fldp rfl rfl rfl rfl (by decide)) rfl rfl ?_
  refine M0 (q_ld1 rfl rfl rfl rfl rfl) rfl rfl ?_;refine M0 (q_len rfl rfl rfl) rfl rfl ?_;refine M0 (q_lss rfl rfl rfl rfl) rfl rfl ?_;refine L_nil (T_n ?_)
  refine A_cond rfl (fun h => ?_) (fun h => ?_)
  · have h3 : k < rows.length := by have := of_decide_eq_true h; omega
    have hat := els_at h3
    have hwc : ((rows[0].size : Nat) : Int) = w := by omega
    have hgk : rows[k].size ≤ 9223372036854775807 := hn.2 _ (List.getElem_mem h3)
    refine A_skip (T_n (A_seq (A_block (A_seq (A_seq (A_region ?_))))));refine M0 (q_fldp rfl rfl rfl rfl (by decide)) rfl rfl ?_
    refine M0 (q_ld1 rfl rfl rfl rfl rfl) rfl rfl ?_;refine M0 (q_moveC rfl rfl rfl) rfl rfl ?_;refine M0 (q_at rfl rfl rfl rfl (by omega) (by assumption) rfl) rfl rfl ?_
    refine M0 (q_lr1 rfl rfl rfl rfl) rfl rfl ?_;refine M0 (q_lens rfl rfl rfl) rfl rfl ?_;refine M0 (q_moveC rfl rfl rfl) rfl rfl ?_;refine M0 (q_neq rfl rfl rfl rfl) rfl rfl ?_
    refine M0 (q_moveC rfl rfl rfl) rfl rfl ?_;refine M0 (Qt.grdF rfl rfl rfl .stop (fun hgrd => q_moveC rfl rfl rfl)) rfl rfl ?_
    refine M0 (Qt.grdF rfl rfl rfl (.hit .stop) (fun hgrd => q_call0 rfl rfl (S_in w 4 20) rfl)) rfl rfl ?_
    refine M0 (Qt.grdF rfl rfl rfl (.hit (.hit .stop)) (fun hgrd => q_not rfl rfl rfl)) rfl rfl ?_;refine M0 (q_or rfl rfl rfl rfl) rfl rfl ?_;refine L_nil (T_n ?_)
    refine A_cond rfl (fun h4 => ?_) (fun h4 => ?_)
    · simp only [Bool.or_eq_true,decide_eq_true_eq,Bool.not_eq_true',inR,Bool.and_eq_false_iff,decide_eq_false_iff_not] at h4
      refine A_seq (A_region ?_);refine M0 (q_assignC rfl rfl rfl) rfl rfl ?_;refine L_nil (T_n (A_ret (T_r (B_r (T_r (T_r ?_))))))
      refine B_r (T_r (F_r ?_))
      refine E_tmp rfl rfl (W_end [] (by decide) rfl rfl (B_eq ?_))
      by_cases h4' : rows[k].size = w
      · have : ¬ (4 ≤ w ∧ w ≤ 20) := by omega
        simp only [levelOk,hw]
        rcases Nat.lt_or_ge w 4 with h9 | h9
        · simp [show ¬ 4 ≤ w by omega]
        · simp [show ¬ w ≤ 20 by omega]
      · exact (level_no (l := ⟨rows⟩) h3 hw (rows_bad h3 h4')).symm
    simp only [Bool.or_eq_false_iff,decide_eq_false_iff_not,Bool.not_eq_false',inR,Bool.and_eq_true,decide_eq_true_eq] at h4
    have h1 : 4 ≤ w ∧ w ≤ 20 := by omega
    have h4 : rows[k].size = w := by omega
    have hrn := rows_next hp_A.1 h3 h4
    obtain ⟨er,her⟩ : ∃ er,er = (decide (k = 0) || decide (k + 1 = rows.length)) := ⟨_,rfl⟩
    rw [← her] at hrn
    refine A_skip (T_n (A_seq (A_region ?_)));refine M0 (q_assignC rfl rfl rfl) rfl rfl ?_;refine L_nil (T_n (A_block ?_))
    refine A_loop (fun m st => ∃ (c : Nat) (u : Seen × Bool),c + m = w ∧ (colsM rows[k] er w s c = some u) ∧ st = (fun (c : Nat) (u : Seen × Bool) => (⟨_,[(1,.o (.c (.ptr 0 0))),(3,I w),(4,B u.2),(5,.o (.c (.sb 1 4 1))),(6,I k),(7,I c)],[.box [.rd [] (sl rows)],.box [vb u.1.1,vb u.1.2.1,vb u.1.2.2.1,vb u.1.2.2.2]]⟩ : St)) c u) (w) ⟨(fun (c : Nat) (u : Seen × Bool) => (⟨_,[(1,.o (.c (.ptr 0 0))),(3,I w),(4,B u.2),(5,.o (.c (.sb 1 4 1))),(6,I k),(7,I c)],[.box [.rd [] (sl rows)],.box [vb u.1.1,vb u.1.2.1,vb u.1.2.2.1,vb u.1.2.2.2]]⟩ : St)) 0 (s),W_go [0,1] (by decide) rfl (rfl) (.cons rfl (.cons rfl (.cons rfl (.cons rfl (.cons rfl (.cons rfl (.nil))))))),0,s,by omega,rfl,rfl⟩ ?_
    rintro m_D _ ⟨c,u,hk_D,hp_D,rfl⟩
    refine A_seq (A_seq (A_region ?_));refine M0 (q_moveC rfl rfl rfl) rfl rfl ?_;refine M0 (q_moveC rfl rfl rfl) rfl rfl ?_;refine M0 (q_lss rfl rfl rfl rfl) rfl rfl ?_
    refine L_nil (T_n ?_)
    refine A_cond rfl (fun h5 => ?_) (fun h5 => ?_)
    · have h5 : c < w := by have := of_decide_eq_true h5; omega
      have hcn := cols_next hp_D
      obtain ⟨t,ht⟩ : ∃ t,byteAt rows[k] (c : Int).toNat = t := ⟨_,rfl⟩
      rw [show byteAt rows[k] c = t from ht] at hcn
      have htb : 0 ≤ t ∧ t ≤ 255 := ht ▸ byteAt_lt _ _
      obtain ⟨⟨sa,sb,sc,sd⟩,so⟩ := u
      obtain ⟨e,he⟩ : ∃ e,e = (er || decide (c = 0) || decide (c + 1 = w)) := ⟨_,rfl⟩
      rw [← he] at hcn
      refine A_skip (T_n (A_seq (A_block (A_seq (A_region ?_)))));refine M0 (q_fldp rfl rfl rfl rfl (by decide)) rfl rfl ?_
      refine M0 (q_ld1 rfl rfl rfl rfl rfl) rfl rfl ?_;refine M0 (q_moveC rfl rfl rfl) rfl rfl ?_;refine M0 (q_at rfl rfl rfl rfl (by omega) (by assumption) rfl) rfl rfl ?_
      refine M0 (q_lr1 rfl rfl rfl rfl) rfl rfl ?_;refine M0 (q_moveC rfl rfl rfl) rfl rfl ?_;refine M0 (q_byteK rfl rfl rfl rfl (by assumption) (by omega)) rfl rfl ?_
      refine M0 (q_assignC rfl rfl rfl) rfl rfl ?_;refine L_nil (T_n (A_seq (A_region ?_)));refine M0 (q_moveC rfl rfl rfl) rfl rfl ?_
      refine M0 (q_eql rfl rfl rfl rfl) rfl rfl ?_;refine M0 (q_moveC rfl rfl rfl) rfl rfl ?_;refine M0 (Qt.grdF rfl rfl rfl .stop (fun hgrd => q_moveC rfl rfl rfl)) rfl rfl ?_
      refine M0 (Qt.grdF rfl rfl rfl (.hit .stop) (fun hgrd => q_eql rfl rfl rfl rfl)) rfl rfl ?_;refine M0 (q_or rfl rfl rfl rfl) rfl rfl ?_;refine M0 (q_moveC rfl rfl rfl) rfl rfl ?_
      refine M0 (Qt.grdF rfl rfl rfl .stop (fun hgrd => q_moveC rfl rfl rfl)) rfl rfl ?_
      refine M0 (Qt.grdF rfl rfl rfl (.hit .stop) (fun hgrd => q_fldp rfl rfl rfl rfl (by decide))) rfl rfl ?_
      refine M0 (Qt.grdF rfl rfl rfl (.hit (.hit .stop)) (fun hgrd => q_ld1 rfl rfl rfl rfl rfl)) rfl rfl ?_
      refine M0 (Qt.grdF rfl rfl rfl (.hit (.hit (.hit .stop))) (fun hgrd => q_len rfl rfl rfl)) rfl rfl ?_
      refine M0 (Qt.grdF rfl rfl rfl (.hit (.hit (.hit (.hit .stop)))) (fun hgrd => q_sub rfl rfl rfl rfl (by omega))) rfl rfl ?_
      refine M0 (Qt.grdF rfl rfl rfl (.hit (.hit (.hit (.hit (.hit .stop))))) (fun hgrd => q_eql rfl rfl rfl rfl)) rfl rfl ?_;refine M0 (q_or rfl rfl rfl rfl) rfl rfl ?_
      refine M0 (q_moveC rfl rfl rfl) rfl rfl ?_;refine M0 (Qt.grdF rfl rfl rfl .stop (fun hgrd => q_moveC rfl rfl rfl)) rfl rfl ?_
      refine M0 (Qt.grdF rfl rfl rfl (.hit .stop) (fun hgrd => q_moveC rfl rfl rfl)) rfl rfl ?_
      refine M0 (Qt.grdF rfl rfl rfl (.hit (.hit .stop)) (fun hgrd => q_sub rfl rfl rfl rfl (by omega))) rfl rfl ?_
      refine M0 (Qt.grdF rfl rfl rfl (.hit (.hit (.hit .stop))) (fun hgrd => q_eql rfl rfl rfl rfl)) rfl rfl ?_;refine M0 (q_or rfl rfl rfl rfl) rfl rfl ?_
      refine M0 (q_assignC rfl rfl rfl) rfl rfl ?_;refine L_nil (T_n (A_seq (A_block (A_seq (A_region ?_)))));refine M0 (q_moveC rfl rfl rfl) rfl rfl ?_
      refine M0 (q_eql rfl rfl rfl rfl) rfl rfl ?_;refine M0 (q_assignC rfl rfl rfl) rfl rfl ?_;refine L_nil (T_n ?_)
      have hee : (decide ((k : Int) = 0) || decide ((c : Int) = 0) || decide ((k : Int) = ((els rows).length : Int) - 1) || decide ((c : Int) = (w : Int) - 1)) = e := by
        rw [he,her,hlx]
        have g1 : decide ((k : Int) = 0) = decide (k = 0) := by simp
        have g2 : decide ((k : Int) = (rows.length : Int) - 1) = decide (k + 1 = rows.length) := decide_eq_decide.2 (by omega)
        have g3 : decide ((c : Int) = 0) = decide (c = 0) := by simp
        have g4 : decide ((c : Int) = (w : Int) - 1) = decide (c + 1 = w) := decide_eq_decide.2 (by omega)
        rw [g1,g2,g3,g4]
        cases decide (k = 0) <;> cases decide (c = 0) <;> cases decide (k + 1 = rows.length) <;> rfl
      clear he her
      have hbad : colsM rows[k] er w s (c + 1) = none → levelOk ⟨rows⟩ = false := fun hc => level_no (l := ⟨rows⟩) h3 hw (hrn.trans (cols_none hc (by omega)))
      refine AWP.pre (st' := (⟨_,[(1,.o (.c (.ptr 0 0))),(3,I w),(4,B so),(5,.o (.c (.sb 1 4 1))),(6,I k),(7,I c),(8,VI .u8 t),(9,B e),(73,B (decide (t = 35)))],[.box [.rd [] (sl rows)],.box [vb sa,vb sb,vb sc,vb sd]]⟩ : St)) ?_ (W_go [0,1] (by decide) rfl (rfl) (.cons rfl (.cons rfl (.cons rfl (.cons rfl (.cons rfl (.cons rfl (.cons rfl (.cons (B_eq hee) (.cons rfl (.nil)))))))))))
      by_cases h7 : t = 35
      · subst h7
        refine A_ifT rfl ?_;refine A_skip (B_n (T_n (A_region ?_)));refine M0 (q_moveC rfl rfl rfl) rfl rfl ?_;refine M0 (q_moveC rfl rfl rfl) rfl rfl ?_
        refine M0 (Qt.grdF rfl rfl rfl .stop (fun hgrd => q_moveC rfl rfl rfl)) rfl rfl ?_
        refine M0 (Qt.grdF rfl rfl rfl (.hit .stop) (fun hgrd => q_neqK (b := false) rfl rfl rfl rfl (by decide))) rfl rfl ?_;refine M0 (q_or rfl rfl rfl rfl) rfl rfl ?_
        refine M0 (q_assignC rfl rfl rfl) rfl rfl ?_;refine L_nil (B_n (T_n (A_region ?_)));refine M0 (q_moveC rfl rfl rfl) rfl rfl ?_
        refine M0 (q_add rfl rfl rfl rfl (by omega)) rfl rfl ?_;refine M0 (q_assignC rfl rfl rfl) rfl rfl ?_;refine L_nil (T_n ?_)
        exact ⟨w - (c + 1),by omega,(fun (c : Nat) (u : Seen × Bool) => (⟨_,[(1,.o (.c (.ptr 0 0))),(3,I w),(4,B u.2),(5,.o (.c (.sb 1 4 1))),(6,I k),(7,I c)],[.box [.rd [] (sl rows)],.box [vb u.1.1,vb u.1.2.1,vb u.1.2.2.1,vb u.1.2.2.2]]⟩ : St)) (c + 1) (((sa,sb,sc,sd),so)),W_go [0,1] (by decide) rfl (rfl) (.cons rfl (.cons rfl (.cons (B_eq (by simp)) (.cons rfl (.cons rfl (.cons rfl (.nil))))))),c + 1,((sa,sb,sc,sd),so),by omega,hcn.trans (by simp [tileM]),rfl⟩
      cases e
      case true =>
        have f1 : decide (t = 35) = false := decide_eq_false h7
        refine A_cond rfl (fun h => absurd (of_decide_eq_true h) h7) (fun _ => ?_)
        refine A_seq (A_region ?_);refine M0 (q_moveC rfl rfl rfl) rfl rfl ?_;refine M0 (q_moveC rfl rfl rfl) rfl rfl ?_;refine M_no rfl rfl rfl rfl rfl rfl ?_
        refine M_no rfl rfl rfl rfl rfl rfl ?_;refine M_no rfl rfl rfl rfl rfl rfl ?_;refine M0 (Qt.no2 rfl rfl rfl) rfl rfl ?_;refine M0 (Qt.no2 rfl rfl rfl) rfl rfl ?_
        refine M_no rfl rfl rfl rfl rfl rfl ?_;refine M_no rfl rfl rfl rfl rfl rfl ?_;refine M0 (Qt.no2 rfl rfl rfl) rfl rfl ?_;refine M0 (Qt.no2 rfl rfl rfl) rfl rfl ?_
        refine M0 (Qt.no2 rfl rfl rfl) rfl rfl ?_;refine M0 (Qt.no2 rfl rfl rfl) rfl rfl ?_;refine M0 (Qt.no2 rfl rfl rfl) rfl rfl ?_;refine M0 (Qt.no2 rfl rfl rfl) rfl rfl ?_
        refine M_no rfl rfl rfl rfl rfl rfl ?_;refine M0 (q_pickT rfl rfl rfl rfl) rfl rfl ?_;refine M0 (q_assignC rfl rfl rfl) rfl rfl ?_;refine L_nil (T_n ?_);refine A_ifT rfl ?_
        refine A_seq (A_region ?_);refine M0 (q_assignC rfl rfl rfl) rfl rfl ?_;refine L_nil (T_n (A_ret (B_r (T_r (B_r (T_r ?_))))))
        refine T_r (B_r (B_r (T_r (T_r (B_r (T_r (F_r ?_)))))))
        exact E_tmp rfl rfl (W_end [] (by decide) rfl rfl (B_eq (hbad (hcn.trans (by simp [tileM,h7]))).symm))
      refine A_cond rfl (fun h => absurd (of_decide_eq_true h) h7) (fun _ => ?_)
      rcases (by omega : t = 49 ∨ t = 50 ∨ t = 51 ∨ t = 52 ∨ t = 111 ∨ t = 46 ∨ (t ≠ 35 ∧ t ≠ 49 ∧ t ≠ 50 ∧ t ≠ 51 ∧ t ≠ 52 ∧ t ≠ 111 ∧ t ≠ 46)) with rfl | rfl | rfl | rfl | rfl | rfl | ht7
      · refine A_seq (A_region ?_);refine M0 (q_moveC rfl rfl rfl) rfl rfl ?_;refine M0 (q_moveC rfl rfl rfl) rfl rfl ?_;refine M_yes rfl rfl rfl ?_
        refine M0 (q_moveC rfl rfl rfl) rfl rfl ?_;refine M_yes rfl rfl rfl ?_;refine M0 (q_neqK (b := true) rfl rfl rfl rfl (by decide)) rfl rfl ?_;refine M_yes rfl rfl rfl ?_
        refine M0 (q_moveC rfl rfl rfl) rfl rfl ?_;refine M_yes rfl rfl rfl ?_;refine M0 (q_moveC rfl rfl rfl) rfl rfl ?_;refine M_yes rfl rfl rfl ?_
        refine M0 (q_neqK (b := true) rfl rfl rfl rfl (by decide)) rfl rfl ?_;refine M_yes rfl rfl rfl ?_;refine M0 (q_pickT rfl rfl rfl rfl) rfl rfl ?_;refine M_yes rfl rfl rfl ?_
        refine M0 (q_moveC rfl rfl rfl) rfl rfl ?_;refine M_yes rfl rfl rfl ?_;refine M0 (q_moveC rfl rfl rfl) rfl rfl ?_;refine M_yes rfl rfl rfl ?_
        refine M0 (q_lssK rfl rfl rfl rfl (by assumption)) rfl rfl ?_;refine M_yes rfl rfl rfl ?_;refine M0 (q_moveC rfl rfl rfl) rfl rfl ?_;refine M_yes rfl rfl rfl ?_
        refine M0 (q_moveC rfl rfl rfl) rfl rfl ?_;refine M_yes rfl rfl rfl ?_;refine M0 (q_gtrK rfl rfl rfl rfl (by assumption)) rfl rfl ?_;refine M_yes rfl rfl rfl ?_
        refine M0 (q_pickF rfl rfl rfl rfl) rfl rfl ?_;refine M_yes rfl rfl rfl ?_;refine M0 (q_pickT rfl rfl rfl rfl) rfl rfl ?_;refine M0 (q_pickF rfl rfl rfl rfl) rfl rfl ?_
        refine M0 (q_assignC rfl rfl rfl) rfl rfl ?_;refine L_nil (T_n ?_);refine A_ifF rfl ?_;refine A_seq (A_region ?_);refine M0 (q_moveC rfl rfl rfl) rfl rfl ?_
        refine M0 (q_geqK (b := true) rfl rfl rfl rfl (by decide)) rfl rfl ?_;refine M0 (q_moveC rfl rfl rfl) rfl rfl ?_;refine M_yes rfl rfl rfl ?_;refine M0 (q_moveC rfl rfl rfl) rfl rfl ?_
        refine M_yes rfl rfl rfl ?_;refine M0 (q_leqK (b := true) rfl rfl rfl rfl (by decide)) rfl rfl ?_;refine M0 (q_pickT rfl rfl rfl rfl) rfl rfl ?_
        refine M0 (q_assignC rfl rfl rfl) rfl rfl ?_;refine L_nil (T_n ?_);refine A_ifT rfl ?_;refine A_seq (A_seq (A_region ?_))
        refine M0 (q_moveC rfl rfl rfl) rfl rfl ?_;refine M0 (q_moveC rfl rfl rfl) rfl rfl ?_;refine M0 (q_sub8 rfl rfl rfl rfl (by omega)) rfl rfl ?_
        refine M0 (q_sbat rfl rfl rfl rfl (by omega)) rfl rfl ?_;refine M0 (q_ld1 rfl rfl rfl rfl rfl) rfl rfl ?_;refine L_nil (T_n ?_)
        refine A_cond rfl (fun h8 => ?_) (fun h8 => ?_)
        · have h8 : sa = true := h8
          subst h8
          refine A_seq (A_region ?_);refine M0 (q_assignC rfl rfl rfl) rfl rfl ?_;refine L_nil (T_n (A_ret (T_r (B_r (T_r (B_r ?_))))))
          refine T_r (T_r (B_r (B_r (T_r (T_r (B_r (T_r (F_r ?_))))))))
          exact E_tmp rfl rfl (W_end [] (by decide) rfl rfl (B_eq (hbad (hcn.trans (by simp [tileM]))).symm))
        · have h8 : sa = false := h8
          subst h8
          refine A_skip (T_n (A_region ?_));refine M0 (q_moveC rfl rfl rfl) rfl rfl ?_;refine M0 (q_moveC rfl rfl rfl) rfl rfl ?_
          refine M0 (q_sub8 rfl rfl rfl rfl (by omega)) rfl rfl ?_;refine M0 (q_sbat rfl rfl rfl rfl (by omega)) rfl rfl ?_;refine M_st1 rfl rfl rfl rfl rfl rfl rfl rfl ?_;refine L_nil ?_
          refine B_n (T_n (A_region ?_));refine M0 (q_moveC rfl rfl rfl) rfl rfl ?_;refine M0 (q_moveC rfl rfl rfl) rfl rfl ?_
          refine M0 (Qt.grdF rfl rfl rfl .stop (fun hgrd => q_moveC rfl rfl rfl)) rfl rfl ?_
          refine M0 (Qt.grdF rfl rfl rfl (.hit .stop) (fun hgrd => q_neqK (b := true) rfl rfl rfl rfl (by decide))) rfl rfl ?_;refine M0 (q_or rfl rfl rfl rfl) rfl rfl ?_
          refine M0 (q_assignC rfl rfl rfl) rfl rfl ?_;refine L_nil (B_n (T_n (A_region ?_)));refine M0 (q_moveC rfl rfl rfl) rfl rfl ?_
          refine M0 (q_add rfl rfl rfl rfl (by omega)) rfl rfl ?_;refine M0 (q_assignC rfl rfl rfl) rfl rfl ?_;refine L_nil (T_n ?_)
          exact ⟨w - (c + 1),by omega,(fun (c : Nat) (u : Seen × Bool) => (⟨_,[(1,.o (.c (.ptr 0 0))),(3,I w),(4,B u.2),(5,.o (.c (.sb 1 4 1))),(6,I k),(7,I c)],[.box [.rd [] (sl rows)],.box [vb u.1.1,vb u.1.2.1,vb u.1.2.2.1,vb u.1.2.2.2]]⟩ : St)) (c + 1) (((true,sb,sc,sd),true)),W_go [0,1] (by decide) rfl (rfl) (.cons rfl (.cons rfl (.cons (B_eq (by simp)) (.cons rfl (.cons rfl (.cons rfl (.nil))))))),c + 1,((true,sb,sc,sd),true),by omega,hcn.trans (by simp [tileM]),rfl⟩
      · refine A_seq (A_region ?_);refine M0 (q_moveC rfl rfl rfl) rfl rfl ?_;refine M0 (q_moveC rfl rfl rfl) rfl rfl ?_;refine M_yes rfl rfl rfl ?_
        refine M0 (q_moveC rfl rfl rfl) rfl rfl ?_;refine M_yes rfl rfl rfl ?_;refine M0 (q_neqK (b := true) rfl rfl rfl rfl (by decide)) rfl rfl ?_;refine M_yes rfl rfl rfl ?_
        refine M0 (q_moveC rfl rfl rfl) rfl rfl ?_;refine M_yes rfl rfl rfl ?_;refine M0 (q_moveC rfl rfl rfl) rfl rfl ?_;refine M_yes rfl rfl rfl ?_
        refine M0 (q_neqK (b := true) rfl rfl rfl rfl (by decide)) rfl rfl ?_;refine M_yes rfl rfl rfl ?_;refine M0 (q_pickT rfl rfl rfl rfl) rfl rfl ?_;refine M_yes rfl rfl rfl ?_
        refine M0 (q_moveC rfl rfl rfl) rfl rfl ?_;refine M_yes rfl rfl rfl ?_;refine M0 (q_moveC rfl rfl rfl) rfl rfl ?_;refine M_yes rfl rfl rfl ?_
        refine M0 (q_lssK rfl rfl rfl rfl (by assumption)) rfl rfl ?_;refine M_yes rfl rfl rfl ?_;refine M0 (q_moveC rfl rfl rfl) rfl rfl ?_;refine M_yes rfl rfl rfl ?_
        refine M0 (q_moveC rfl rfl rfl) rfl rfl ?_;refine M_yes rfl rfl rfl ?_;refine M0 (q_gtrK rfl rfl rfl rfl (by assumption)) rfl rfl ?_;refine M_yes rfl rfl rfl ?_
        refine M0 (q_pickF rfl rfl rfl rfl) rfl rfl ?_;refine M_yes rfl rfl rfl ?_;refine M0 (q_pickT rfl rfl rfl rfl) rfl rfl ?_;refine M0 (q_pickF rfl rfl rfl rfl) rfl rfl ?_
        refine M0 (q_assignC rfl rfl rfl) rfl rfl ?_;refine L_nil (T_n ?_);refine A_ifF rfl ?_;refine A_seq (A_region ?_);refine M0 (q_moveC rfl rfl rfl) rfl rfl ?_
        refine M0 (q_geqK (b := true) rfl rfl rfl rfl (by decide)) rfl rfl ?_;refine M0 (q_moveC rfl rfl rfl) rfl rfl ?_;refine M_yes rfl rfl rfl ?_;refine M0 (q_moveC rfl rfl rfl) rfl rfl ?_
        refine M_yes rfl rfl rfl ?_;refine M0 (q_leqK (b := true) rfl rfl rfl rfl (by decide)) rfl rfl ?_;refine M0 (q_pickT rfl rfl rfl rfl) rfl rfl ?_
        refine M0 (q_assignC rfl rfl rfl) rfl rfl ?_;refine L_nil (T_n ?_);refine A_ifT rfl ?_;refine A_seq (A_seq (A_region ?_))
        refine M0 (q_moveC rfl rfl rfl) rfl rfl ?_;refine M0 (q_moveC rfl rfl rfl) rfl rfl ?_;refine M0 (q_sub8 rfl rfl rfl rfl (by omega)) rfl rfl ?_
        refine M0 (q_sbat rfl rfl rfl rfl (by omega)) rfl rfl ?_;refine M0 (q_ld1 rfl rfl rfl rfl rfl) rfl rfl ?_;refine L_nil (T_n ?_)
        refine A_cond rfl (fun h8 => ?_) (fun h8 => ?_)
        · have h8 : sb = true := h8
          subst h8
          refine A_seq (A_region ?_);refine M0 (q_assignC rfl rfl rfl) rfl rfl ?_;refine L_nil (T_n (A_ret (T_r (B_r (T_r (B_r ?_))))))
          refine T_r (T_r (B_r (B_r (T_r (T_r (B_r (T_r (F_r ?_))))))))
          exact E_tmp rfl rfl (W_end [] (by decide) rfl rfl (B_eq (hbad (hcn.trans (by simp [tileM]))).symm))
        · have h8 : sb = false := h8
          subst h8
          refine A_skip (T_n (A_region ?_));refine M0 (q_moveC rfl rfl rfl) rfl rfl ?_;refine M0 (q_moveC rfl rfl rfl) rfl rfl ?_
          refine M0 (q_sub8 rfl rfl rfl rfl (by omega)) rfl rfl ?_;refine M0 (q_sbat rfl rfl rfl rfl (by omega)) rfl rfl ?_;refine M_st1 rfl rfl rfl rfl rfl rfl rfl rfl ?_;refine L_nil ?_
          refine B_n (T_n (A_region ?_));refine M0 (q_moveC rfl rfl rfl) rfl rfl ?_;refine M0 (q_moveC rfl rfl rfl) rfl rfl ?_
          refine M0 (Qt.grdF rfl rfl rfl .stop (fun hgrd => q_moveC rfl rfl rfl)) rfl rfl ?_
          refine M0 (Qt.grdF rfl rfl rfl (.hit .stop) (fun hgrd => q_neqK (b := true) rfl rfl rfl rfl (by decide))) rfl rfl ?_;refine M0 (q_or rfl rfl rfl rfl) rfl rfl ?_
          refine M0 (q_assignC rfl rfl rfl) rfl rfl ?_;refine L_nil (B_n (T_n (A_region ?_)));refine M0 (q_moveC rfl rfl rfl) rfl rfl ?_
          refine M0 (q_add rfl rfl rfl rfl (by omega)) rfl rfl ?_;refine M0 (q_assignC rfl rfl rfl) rfl rfl ?_;refine L_nil (T_n ?_)
          exact ⟨w - (c + 1),by omega,(fun (c : Nat) (u : Seen × Bool) => (⟨_,[(1,.o (.c (.ptr 0 0))),(3,I w),(4,B u.2),(5,.o (.c (.sb 1 4 1))),(6,I k),(7,I c)],[.box [.rd [] (sl rows)],.box [vb u.1.1,vb u.1.2.1,vb u.1.2.2.1,vb u.1.2.2.2]]⟩ : St)) (c + 1) (((sa,true,sc,sd),true)),W_go [0,1] (by decide) rfl (rfl) (.cons rfl (.cons rfl (.cons (B_eq (by simp)) (.cons rfl (.cons rfl (.cons rfl (.nil))))))),c + 1,((sa,true,sc,sd),true),by omega,hcn.trans (by simp [tileM]),rfl⟩
      · refine A_seq (A_region ?_);refine M0 (q_moveC rfl rfl rfl) rfl rfl ?_;refine M0 (q_moveC rfl rfl rfl) rfl rfl ?_;refine M_yes rfl rfl rfl ?_
        refine M0 (q_moveC rfl rfl rfl) rfl rfl ?_;refine M_yes rfl rfl rfl ?_;refine M0 (q_neqK (b := true) rfl rfl rfl rfl (by decide)) rfl rfl ?_;refine M_yes rfl rfl rfl ?_
        refine M0 (q_moveC rfl rfl rfl) rfl rfl ?_;refine M_yes rfl rfl rfl ?_;refine M0 (q_moveC rfl rfl rfl) rfl rfl ?_;refine M_yes rfl rfl rfl ?_
        refine M0 (q_neqK (b := true) rfl rfl rfl rfl (by decide)) rfl rfl ?_;refine M_yes rfl rfl rfl ?_;refine M0 (q_pickT rfl rfl rfl rfl) rfl rfl ?_;refine M_yes rfl rfl rfl ?_
        refine M0 (q_moveC rfl rfl rfl) rfl rfl ?_;refine M_yes rfl rfl rfl ?_;refine M0 (q_moveC rfl rfl rfl) rfl rfl ?_;refine M_yes rfl rfl rfl ?_
        refine M0 (q_lssK rfl rfl rfl rfl (by assumption)) rfl rfl ?_;refine M_yes rfl rfl rfl ?_;refine M0 (q_moveC rfl rfl rfl) rfl rfl ?_;refine M_yes rfl rfl rfl ?_
        refine M0 (q_moveC rfl rfl rfl) rfl rfl ?_;refine M_yes rfl rfl rfl ?_;refine M0 (q_gtrK rfl rfl rfl rfl (by assumption)) rfl rfl ?_;refine M_yes rfl rfl rfl ?_
        refine M0 (q_pickF rfl rfl rfl rfl) rfl rfl ?_;refine M_yes rfl rfl rfl ?_;refine M0 (q_pickT rfl rfl rfl rfl) rfl rfl ?_;refine M0 (q_pickF rfl rfl rfl rfl) rfl rfl ?_
        refine M0 (q_assignC rfl rfl rfl) rfl rfl ?_;refine L_nil (T_n ?_);refine A_ifF rfl ?_;refine A_seq (A_region ?_);refine M0 (q_moveC rfl rfl rfl) rfl rfl ?_
        refine M0 (q_geqK (b := true) rfl rfl rfl rfl (by decide)) rfl rfl ?_;refine M0 (q_moveC rfl rfl rfl) rfl rfl ?_;refine M_yes rfl rfl rfl ?_;refine M0 (q_moveC rfl rfl rfl) rfl rfl ?_
        refine M_yes rfl rfl rfl ?_;refine M0 (q_leqK (b := true) rfl rfl rfl rfl (by decide)) rfl rfl ?_;refine M0 (q_pickT rfl rfl rfl rfl) rfl rfl ?_
        refine M0 (q_assignC rfl rfl rfl) rfl rfl ?_;refine L_nil (T_n ?_);refine A_ifT rfl ?_;refine A_seq (A_seq (A_region ?_))
        refine M0 (q_moveC rfl rfl rfl) rfl rfl ?_;refine M0 (q_moveC rfl rfl rfl) rfl rfl ?_;refine M0 (q_sub8 rfl rfl rfl rfl (by omega)) rfl rfl ?_
        refine M0 (q_sbat rfl rfl rfl rfl (by omega)) rfl rfl ?_;refine M0 (q_ld1 rfl rfl rfl rfl rfl) rfl rfl ?_;refine L_nil (T_n ?_)
        refine A_cond rfl (fun h8 => ?_) (fun h8 => ?_)
        · have h8 : sc = true := h8
          subst h8
          refine A_seq (A_region ?_);refine M0 (q_assignC rfl rfl rfl) rfl rfl ?_;refine L_nil (T_n (A_ret (T_r (B_r (T_r (B_r ?_))))))
          refine T_r (T_r (B_r (B_r (T_r (T_r (B_r (T_r (F_r ?_))))))))
          exact E_tmp rfl rfl (W_end [] (by decide) rfl rfl (B_eq (hbad (hcn.trans (by simp [tileM]))).symm))
        · have h8 : sc = false := h8
          subst h8
          refine A_skip (T_n (A_region ?_));refine M0 (q_moveC rfl rfl rfl) rfl rfl ?_;refine M0 (q_moveC rfl rfl rfl) rfl rfl ?_
          refine M0 (q_sub8 rfl rfl rfl rfl (by omega)) rfl rfl ?_;refine M0 (q_sbat rfl rfl rfl rfl (by omega)) rfl rfl ?_;refine M_st1 rfl rfl rfl rfl rfl rfl rfl rfl ?_;refine L_nil ?_
          refine B_n (T_n (A_region ?_));refine M0 (q_moveC rfl rfl rfl) rfl rfl ?_;refine M0 (q_moveC rfl rfl rfl) rfl rfl ?_
          refine M0 (Qt.grdF rfl rfl rfl .stop (fun hgrd => q_moveC rfl rfl rfl)) rfl rfl ?_
          refine M0 (Qt.grdF rfl rfl rfl (.hit .stop) (fun hgrd => q_neqK (b := true) rfl rfl rfl rfl (by decide))) rfl rfl ?_;refine M0 (q_or rfl rfl rfl rfl) rfl rfl ?_
          refine M0 (q_assignC rfl rfl rfl) rfl rfl ?_;refine L_nil (B_n (T_n (A_region ?_)));refine M0 (q_moveC rfl rfl rfl) rfl rfl ?_
          refine M0 (q_add rfl rfl rfl rfl (by omega)) rfl rfl ?_;refine M0 (q_assignC rfl rfl rfl) rfl rfl ?_;refine L_nil (T_n ?_)
          exact ⟨w - (c + 1),by omega,(fun (c : Nat) (u : Seen × Bool) => (⟨_,[(1,.o (.c (.ptr 0 0))),(3,I w),(4,B u.2),(5,.o (.c (.sb 1 4 1))),(6,I k),(7,I c)],[.box [.rd [] (sl rows)],.box [vb u.1.1,vb u.1.2.1,vb u.1.2.2.1,vb u.1.2.2.2]]⟩ : St)) (c + 1) (((sa,sb,true,sd),true)),W_go [0,1] (by decide) rfl (rfl) (.cons rfl (.cons rfl (.cons (B_eq (by simp)) (.cons rfl (.cons rfl (.cons rfl (.nil))))))),c + 1,((sa,sb,true,sd),true),by omega,hcn.trans (by simp [tileM]),rfl⟩
      · refine A_seq (A_region ?_);refine M0 (q_moveC rfl rfl rfl) rfl rfl ?_;refine M0 (q_moveC rfl rfl rfl) rfl rfl ?_;refine M_yes rfl rfl rfl ?_
        refine M0 (q_moveC rfl rfl rfl) rfl rfl ?_;refine M_yes rfl rfl rfl ?_;refine M0 (q_neqK (b := true) rfl rfl rfl rfl (by decide)) rfl rfl ?_;refine M_yes rfl rfl rfl ?_
        refine M0 (q_moveC rfl rfl rfl) rfl rfl ?_;refine M_yes rfl rfl rfl ?_;refine M0 (q_moveC rfl rfl rfl) rfl rfl ?_;refine M_yes rfl rfl rfl ?_
        refine M0 (q_neqK (b := true) rfl rfl rfl rfl (by decide)) rfl rfl ?_;refine M_yes rfl rfl rfl ?_;refine M0 (q_pickT rfl rfl rfl rfl) rfl rfl ?_;refine M_yes rfl rfl rfl ?_
        refine M0 (q_moveC rfl rfl rfl) rfl rfl ?_;refine M_yes rfl rfl rfl ?_;refine M0 (q_moveC rfl rfl rfl) rfl rfl ?_;refine M_yes rfl rfl rfl ?_
        refine M0 (q_lssK rfl rfl rfl rfl (by assumption)) rfl rfl ?_;refine M_yes rfl rfl rfl ?_;refine M0 (q_moveC rfl rfl rfl) rfl rfl ?_;refine M_yes rfl rfl rfl ?_
        refine M0 (q_moveC rfl rfl rfl) rfl rfl ?_;refine M_yes rfl rfl rfl ?_;refine M0 (q_gtrK rfl rfl rfl rfl (by assumption)) rfl rfl ?_;refine M_yes rfl rfl rfl ?_
        refine M0 (q_pickF rfl rfl rfl rfl) rfl rfl ?_;refine M_yes rfl rfl rfl ?_;refine M0 (q_pickT rfl rfl rfl rfl) rfl rfl ?_;refine M0 (q_pickF rfl rfl rfl rfl) rfl rfl ?_
        refine M0 (q_assignC rfl rfl rfl) rfl rfl ?_;refine L_nil (T_n ?_);refine A_ifF rfl ?_;refine A_seq (A_region ?_);refine M0 (q_moveC rfl rfl rfl) rfl rfl ?_
        refine M0 (q_geqK (b := true) rfl rfl rfl rfl (by decide)) rfl rfl ?_;refine M0 (q_moveC rfl rfl rfl) rfl rfl ?_;refine M_yes rfl rfl rfl ?_;refine M0 (q_moveC rfl rfl rfl) rfl rfl ?_
        refine M_yes rfl rfl rfl ?_;refine M0 (q_leqK (b := true) rfl rfl rfl rfl (by decide)) rfl rfl ?_;refine M0 (q_pickT rfl rfl rfl rfl) rfl rfl ?_
        refine M0 (q_assignC rfl rfl rfl) rfl rfl ?_;refine L_nil (T_n ?_);refine A_ifT rfl ?_;refine A_seq (A_seq (A_region ?_))
        refine M0 (q_moveC rfl rfl rfl) rfl rfl ?_;refine M0 (q_moveC rfl rfl rfl) rfl rfl ?_;refine M0 (q_sub8 rfl rfl rfl rfl (by omega)) rfl rfl ?_
        refine M0 (q_sbat rfl rfl rfl rfl (by omega)) rfl rfl ?_;refine M0 (q_ld1 rfl rfl rfl rfl rfl) rfl rfl ?_;refine L_nil (T_n ?_)
        refine A_cond rfl (fun h8 => ?_) (fun h8 => ?_)
        · have h8 : sd = true := h8
          subst h8
          refine A_seq (A_region ?_);refine M0 (q_assignC rfl rfl rfl) rfl rfl ?_;refine L_nil (T_n (A_ret (T_r (B_r (T_r (B_r ?_))))))
          refine T_r (T_r (B_r (B_r (T_r (T_r (B_r (T_r (F_r ?_))))))))
          exact E_tmp rfl rfl (W_end [] (by decide) rfl rfl (B_eq (hbad (hcn.trans (by simp [tileM]))).symm))
        · have h8 : sd = false := h8
          subst h8
          refine A_skip (T_n (A_region ?_));refine M0 (q_moveC rfl rfl rfl) rfl rfl ?_;refine M0 (q_moveC rfl rfl rfl) rfl rfl ?_
          refine M0 (q_sub8 rfl rfl rfl rfl (by omega)) rfl rfl ?_;refine M0 (q_sbat rfl rfl rfl rfl (by omega)) rfl rfl ?_;refine M_st1 rfl rfl rfl rfl rfl rfl rfl rfl ?_;refine L_nil ?_
          refine B_n (T_n (A_region ?_));refine M0 (q_moveC rfl rfl rfl) rfl rfl ?_;refine M0 (q_moveC rfl rfl rfl) rfl rfl ?_
          refine M0 (Qt.grdF rfl rfl rfl .stop (fun hgrd => q_moveC rfl rfl rfl)) rfl rfl ?_
          refine M0 (Qt.grdF rfl rfl rfl (.hit .stop) (fun hgrd => q_neqK (b := true) rfl rfl rfl rfl (by decide))) rfl rfl ?_;refine M0 (q_or rfl rfl rfl rfl) rfl rfl ?_
          refine M0 (q_assignC rfl rfl rfl) rfl rfl ?_;refine L_nil (B_n (T_n (A_region ?_)));refine M0 (q_moveC rfl rfl rfl) rfl rfl ?_
          refine M0 (q_add rfl rfl rfl rfl (by omega)) rfl rfl ?_;refine M0 (q_assignC rfl rfl rfl) rfl rfl ?_;refine L_nil (T_n ?_)
          exact ⟨w - (c + 1),by omega,(fun (c : Nat) (u : Seen × Bool) => (⟨_,[(1,.o (.c (.ptr 0 0))),(3,I w),(4,B u.2),(5,.o (.c (.sb 1 4 1))),(6,I k),(7,I c)],[.box [.rd [] (sl rows)],.box [vb u.1.1,vb u.1.2.1,vb u.1.2.2.1,vb u.1.2.2.2]]⟩ : St)) (c + 1) (((sa,sb,sc,true),true)),W_go [0,1] (by decide) rfl (rfl) (.cons rfl (.cons rfl (.cons (B_eq (by simp)) (.cons rfl (.cons rfl (.cons rfl (.nil))))))),c + 1,((sa,sb,sc,true),true),by omega,hcn.trans (by simp [tileM]),rfl⟩
      · refine A_seq (A_region ?_);refine M0 (q_moveC rfl rfl rfl) rfl rfl ?_;refine M0 (q_moveC rfl rfl rfl) rfl rfl ?_;refine M_yes rfl rfl rfl ?_
        refine M0 (q_moveC rfl rfl rfl) rfl rfl ?_;refine M_yes rfl rfl rfl ?_;refine M0 (q_neqK rfl rfl rfl rfl (by assumption)) rfl rfl ?_;refine M_yes rfl rfl rfl ?_
        refine M0 (q_moveC rfl rfl rfl) rfl rfl ?_;refine M_no rfl rfl rfl rfl rfl rfl ?_;refine M_no rfl rfl rfl rfl rfl rfl ?_;refine M_yes rfl rfl rfl ?_
        refine M0 (q_pickF rfl rfl rfl rfl) rfl rfl ?_;refine M_yes rfl rfl rfl ?_;refine M0 (q_moveC rfl rfl rfl) rfl rfl ?_;refine M_no rfl rfl rfl rfl rfl rfl ?_
        refine M_no rfl rfl rfl rfl rfl rfl ?_;refine M_no rfl rfl rfl rfl rfl rfl ?_;refine M0 (Qt.no2 rfl rfl rfl) rfl rfl ?_;refine M0 (Qt.no2 rfl rfl rfl) rfl rfl ?_
        refine M_no rfl rfl rfl rfl rfl rfl ?_;refine M_yes rfl rfl rfl ?_;refine M0 (q_pickF rfl rfl rfl rfl) rfl rfl ?_;refine M0 (q_pickF rfl rfl rfl rfl) rfl rfl ?_
        refine M0 (q_assignC rfl rfl rfl) rfl rfl ?_;refine L_nil (T_n ?_);refine A_ifF rfl ?_;refine A_seq (A_region ?_);refine M0 (q_moveC rfl rfl rfl) rfl rfl ?_
        refine M0 (q_geqK (b := true) rfl rfl rfl rfl (by decide)) rfl rfl ?_;refine M0 (q_moveC rfl rfl rfl) rfl rfl ?_;refine M_yes rfl rfl rfl ?_;refine M0 (q_moveC rfl rfl rfl) rfl rfl ?_
        refine M_yes rfl rfl rfl ?_;refine M0 (q_leqK rfl rfl rfl rfl (by assumption)) rfl rfl ?_;refine M0 (q_pickT rfl rfl rfl rfl) rfl rfl ?_;refine M0 (q_assignC rfl rfl rfl) rfl rfl ?_
        refine L_nil (T_n ?_);refine A_ifF rfl ?_;refine A_skip (B_n (T_n (A_region ?_)));refine M0 (q_moveC rfl rfl rfl) rfl rfl ?_
        refine M0 (q_moveC rfl rfl rfl) rfl rfl ?_;refine M0 (Qt.grdF rfl rfl rfl .stop (fun hgrd => q_moveC rfl rfl rfl)) rfl rfl ?_
        refine M0 (Qt.grdF rfl rfl rfl (.hit .stop) (fun hgrd => q_neqK (b := true) rfl rfl rfl rfl (by decide))) rfl rfl ?_;refine M0 (q_or rfl rfl rfl rfl) rfl rfl ?_
        refine M0 (q_assignC rfl rfl rfl) rfl rfl ?_;refine L_nil (B_n (T_n (A_region ?_)));refine M0 (q_moveC rfl rfl rfl) rfl rfl ?_
        refine M0 (q_add rfl rfl rfl rfl (by omega)) rfl rfl ?_;refine M0 (q_assignC rfl rfl rfl) rfl rfl ?_;refine L_nil (T_n ?_)
        exact ⟨w - (c + 1),by omega,(fun (c : Nat) (u : Seen × Bool) => (⟨_,[(1,.o (.c (.ptr 0 0))),(3,I w),(4,B u.2),(5,.o (.c (.sb 1 4 1))),(6,I k),(7,I c)],[.box [.rd [] (sl rows)],.box [vb u.1.1,vb u.1.2.1,vb u.1.2.2.1,vb u.1.2.2.2]]⟩ : St)) (c + 1) (((sa,sb,sc,sd),true)),W_go [0,1] (by decide) rfl (rfl) (.cons rfl (.cons rfl (.cons (B_eq (by simp)) (.cons rfl (.cons rfl (.cons rfl (.nil))))))),c + 1,((sa,sb,sc,sd),true),by omega,hcn.trans (by simp [tileM]),rfl⟩
      · refine A_seq (A_region ?_);refine M0 (q_moveC rfl rfl rfl) rfl rfl ?_;refine M0 (q_moveC rfl rfl rfl) rfl rfl ?_;refine M_yes rfl rfl rfl ?_
        refine M0 (q_moveC rfl rfl rfl) rfl rfl ?_;refine M_yes rfl rfl rfl ?_;refine M0 (q_neqK (b := true) rfl rfl rfl rfl (by decide)) rfl rfl ?_;refine M_yes rfl rfl rfl ?_
        refine M0 (q_moveC rfl rfl rfl) rfl rfl ?_;refine M_yes rfl rfl rfl ?_;refine M0 (q_moveC rfl rfl rfl) rfl rfl ?_;refine M_yes rfl rfl rfl ?_
        refine M0 (q_neqK rfl rfl rfl rfl (by assumption)) rfl rfl ?_;refine M_yes rfl rfl rfl ?_;refine M0 (q_pickT rfl rfl rfl rfl) rfl rfl ?_;refine M_yes rfl rfl rfl ?_
        refine M0 (q_moveC rfl rfl rfl) rfl rfl ?_;refine M_no rfl rfl rfl rfl rfl rfl ?_;refine M_no rfl rfl rfl rfl rfl rfl ?_;refine M_no rfl rfl rfl rfl rfl rfl ?_
        refine M0 (Qt.no2 rfl rfl rfl) rfl rfl ?_;refine M0 (Qt.no2 rfl rfl rfl) rfl rfl ?_;refine M_no rfl rfl rfl rfl rfl rfl ?_;refine M_yes rfl rfl rfl ?_
        refine M0 (q_pickF rfl rfl rfl rfl) rfl rfl ?_;refine M0 (q_pickF rfl rfl rfl rfl) rfl rfl ?_;refine M0 (q_assignC rfl rfl rfl) rfl rfl ?_;refine L_nil (T_n ?_)
        refine A_ifF rfl ?_;refine A_seq (A_region ?_);refine M0 (q_moveC rfl rfl rfl) rfl rfl ?_;refine M0 (q_geqK rfl rfl rfl rfl (by assumption)) rfl rfl ?_
        refine M0 (q_moveC rfl rfl rfl) rfl rfl ?_;refine M_no rfl rfl rfl rfl rfl rfl ?_;refine M_no rfl rfl rfl rfl rfl rfl ?_;refine M0 (q_pickF rfl rfl rfl rfl) rfl rfl ?_
        refine M0 (q_assignC rfl rfl rfl) rfl rfl ?_;refine L_nil (T_n ?_);refine A_ifF rfl ?_;refine A_skip (B_n (T_n (A_region ?_)))
        refine M0 (q_moveC rfl rfl rfl) rfl rfl ?_;refine M0 (q_moveC rfl rfl rfl) rfl rfl ?_;refine M0 (Qt.grdF rfl rfl rfl .stop (fun hgrd => q_moveC rfl rfl rfl)) rfl rfl ?_
        refine M0 (Qt.grdF rfl rfl rfl (.hit .stop) (fun hgrd => q_neqK (b := true) rfl rfl rfl rfl (by decide))) rfl rfl ?_;refine M0 (q_or rfl rfl rfl rfl) rfl rfl ?_
        refine M0 (q_assignC rfl rfl rfl) rfl rfl ?_;refine L_nil (B_n (T_n (A_region ?_)));refine M0 (q_moveC rfl rfl rfl) rfl rfl ?_
        refine M0 (q_add rfl rfl rfl rfl (by omega)) rfl rfl ?_;refine M0 (q_assignC rfl rfl rfl) rfl rfl ?_;refine L_nil (T_n ?_)
        exact ⟨w - (c + 1),by omega,(fun (c : Nat) (u : Seen × Bool) => (⟨_,[(1,.o (.c (.ptr 0 0))),(3,I w),(4,B u.2),(5,.o (.c (.sb 1 4 1))),(6,I k),(7,I c)],[.box [.rd [] (sl rows)],.box [vb u.1.1,vb u.1.2.1,vb u.1.2.2.1,vb u.1.2.2.2]]⟩ : St)) (c + 1) (((sa,sb,sc,sd),true)),W_go [0,1] (by decide) rfl (rfl) (.cons rfl (.cons rfl (.cons (B_eq (by simp)) (.cons rfl (.cons rfl (.cons rfl (.nil))))))),c + 1,((sa,sb,sc,sd),true),by omega,hcn.trans (by simp [tileM]),rfl⟩
      · refine A_seq (A_region ?_);refine M0 (q_moveC rfl rfl rfl) rfl rfl ?_;refine M0 (q_moveC rfl rfl rfl) rfl rfl ?_;refine M_yes rfl rfl rfl ?_
        refine M0 (q_moveC rfl rfl rfl) rfl rfl ?_;refine M_yes rfl rfl rfl ?_;refine M0 (q_neq rfl rfl rfl rfl) rfl rfl ?_;refine M_yes rfl rfl rfl ?_
        refine M0 (q_moveC rfl rfl rfl) rfl rfl ?_;refine M0 (Qt.grdT rfl rfl rfl .stop (fun hgrd => q_moveC rfl rfl rfl)) rfl rfl ?_
        refine M0 (Qt.grdT rfl rfl rfl (.hit .stop) (fun hgrd => q_neq rfl rfl rfl rfl)) rfl rfl ?_;refine M_yes rfl rfl rfl ?_;refine M0 (q_and rfl rfl rfl rfl) rfl rfl ?_
        refine M_yes rfl rfl rfl ?_;refine M0 (q_moveC rfl rfl rfl) rfl rfl ?_;refine M0 (Qt.grdT rfl rfl rfl .stop (fun hgrd => q_moveC rfl rfl rfl)) rfl rfl ?_
        refine M0 (Qt.grdT rfl rfl rfl (.hit .stop) (fun hgrd => q_lss rfl rfl rfl rfl)) rfl rfl ?_
        refine M0 (Qt.grdT rfl rfl rfl (.hit (.hit .stop)) (fun hgrd => q_moveC rfl rfl rfl)) rfl rfl ?_
        refine M0 (Qt.grd2F rfl rfl rfl (.hit1 (.hit1 (.hit1 .stop))) (fun hgrd hgrd2 => q_moveC rfl rfl rfl)) rfl rfl ?_
        refine M0 (Qt.grd2F rfl rfl rfl (.hit (.hit1 (.hit1 (.hit1 .stop)))) (fun hgrd hgrd2 => q_gtr rfl rfl rfl rfl)) rfl rfl ?_
        refine M0 (Qt.grdT rfl rfl rfl (.part (.part (.hit (.hit (.hit .stop))))) (fun hgrd => q_or rfl rfl rfl rfl)) rfl rfl ?_;refine M_yes rfl rfl rfl ?_
        refine M0 (q_and rfl rfl rfl rfl) rfl rfl ?_;refine M0 (q_pickF rfl rfl rfl rfl) rfl rfl ?_;refine M0 (q_assignC rfl rfl rfl) rfl rfl ?_;refine L_nil (T_n ?_)
        refine A_cond rfl (fun h8 => ?_) (fun h8 => ?_)
        · refine A_seq (A_region ?_);refine M0 (q_assignC rfl rfl rfl) rfl rfl ?_;refine L_nil (T_n (A_ret (B_r (T_r (B_r (T_r ?_))))))
          refine T_r (B_r (B_r (T_r (T_r (B_r (T_r (F_r ?_)))))))
          exact E_tmp rfl rfl (W_end [] (by decide) rfl rfl (B_eq (hbad (hcn.trans (by simp [tileM,ht7]))).symm))
        · simp only [Bool.and_eq_false_iff,Bool.or_eq_false_iff,Bool.false_or,decide_eq_false_iff_not,Classical.not_not] at h8
          omega
    · have h5 : c = w := by have := of_decide_eq_false h5; omega
      rw [h5] at hp_D
      rw [hp_D] at hrn
      refine A_exit (T_x (T_x (B_xs (B_n (T_n (A_region ?_))))));refine M0 (q_moveC rfl rfl rfl) rfl rfl ?_
      refine M0 (q_add rfl rfl rfl rfl (by omega)) rfl rfl ?_;refine M0 (q_assignC rfl rfl rfl) rfl rfl ?_;refine L_nil (T_n ?_)
      exact ⟨rows.length - (k + 1),by omega,(fun (k : Nat) (s : Seen × Bool) => (⟨_,[(1,.o (.c (.ptr 0 0))),(3,I w),(4,B s.2),(5,.o (.c (.sb 1 4 1))),(6,I k)],[.box [.rd [] (sl rows)],.box [vb s.1.1,vb s.1.2.1,vb s.1.2.2.1,vb s.1.2.2.2]]⟩ : St)) (k + 1) (u),W_go [0,1] (by decide) rfl (rfl) (.cons rfl (.cons rfl (.cons rfl (.cons rfl (.cons rfl (.nil)))))),k + 1,u,by omega,⟨hrn,fun _ => h1⟩,rfl⟩
  · have h3 : ¬ ((k : Int) < (els rows).length) := of_decide_eq_false h
    have hk : k = rows.length := by omega
    subst hk
    refine A_exit (T_x (T_x (B_xs (T_n (A_seq (A_region ?_))))));refine M0 (q_moveC rfl rfl rfl) rfl rfl ?_
    refine M0 (q_assignC rfl rfl rfl) rfl rfl ?_;refine L_nil (T_n (A_ret (F_r ?_)))
    exact E_tmp rfl rfl (W_end [] (by decide) rfl rfl (B_eq (by
      unfold levelOk
      rw [hw,hp_A.1]
      have h1 := hp_A.2 (by omega)
      have : 3 ≤ rows.length ∧ rows.length ≤ 12 ∧ 4 ≤ w ∧ w ≤ 20 := by omega
      simp [this])))
end Go.Proofs.Ytmljakmaffbnlaa
end
