/-
  Valid bodies and worlds: BodyOk, WorldOk of the program; l02Body, WorldOk of the reference.
  Conditions: lists of at most 2^40 elements.
  Valid worlds: WorldOk, in the program and in the reference.
  Conditions: lists of at most 2^40 elements.
  Parts of owned slices that replace them. No statement of the program is proved here.
  Conditions: none.
  One element's slice of an owned slice of slices, taken out to be written to. No statement of the program is proved here.
  Conditions: none.
  Literal slices of no elements, and appending to them in statements whose order is open. No statement of the program is proved here.
  Conditions: none.
-/
import Derived.Test.YtkfnaniegldfaaaDoorDDDifRowk9
import Derived.Test.YtkfnaniegldfaaaDoorDDDifRowk10
section
set_option linter.unusedSimpArgs false
set_option linter.unusedVariables false
set_option maxRecDepth 8000
namespace Go.Proofs.YtkfnaniegldfaaaDoor
open Go.RowKit

/-- Aim, Life and Timer by the kind. -/
def tailM (b : TBody) : Bool :=
  if b.Kind = 0 then (decide (b.Aim = 1 ∨ b.Aim = -1) && inR b.Life 0 3) && (if b.Life = 0 then inR b.Timer 1 20 else inR b.Timer 0 12)
  else if b.Kind = 1 then decide (b.Aim = 0 ∧ b.Life = 0) && inR b.Timer 1 25
  else decide (b.Owner = 0 ∧ b.Aim = 0 ∧ b.Life = 0 ∧ b.Timer = 0)
noncomputable def bodyM (l : TLevel) (n : Int) (b : TBody) : Bool :=
  inR b.Kind 0 2 && (inR b.Owner 0 (n - 1) && (!solidM l b.X b.Y (sizeOf b.Kind) && (inR b.VX (-15) 15 && (inR b.VY (-15) 15 && tailM b))))
theorem size_in {k : Int} (h : inR k 0 2 = true) : 1 ≤ sizeOf k ∧ sizeOf k ≤ 16 := by
  have := inR_iff.1 h
  unfold sizeOf
  split
  · omega
  · split
    · omega
    · split <;> omega
set_option maxHeartbeats 8000000 in
theorem S_l02Body (l : TLevel) (n : Int) (b : TBody) (hg : Enc.gd l) (hl : levelOk l = true) (hb : Enc.gd b) (hn : 0 ≤ n ∧ n ≤ 1099511627776) : Con Tryd.prog 81 [] [ag l, ai n, ag b] [] (B (bodyM l n b)) := by
  obtain ⟨b1, b2, b3, b4, b5, b6, b7, b8, b9⟩ := hb
  have h1 := S_in b.Kind 0 2
  have hsz := S_SizeOf b.Kind
  have h2 := S_in b.Owner 0 (n - 1)
  have h4 := S_in b.VX (-15) 15
  have h5 := S_in b.VY (-15) 15
  cases e1 : inR b.Kind 0 2 with
  | false =>
    rw [e1] at h1
    rw [show bodyM l n b = false by rw [bodyM, e1]; rfl]
    refine Con.of Tryd.func81 rfl Tryd.ntmps81 rfl (fun E => ?_)
    refine A_seq ?_; refine A_region ?_; refine M1 (q_boxN rfl rfl rfl rfl) rfl rfl ?_; refine M1 (q_boxN rfl rfl rfl rfl) rfl rfl ?_; refine M0 (q_assignC rfl rfl rfl) rfl rfl ?_
    refine L_nil ?_; refine T_n ?_; refine A_seq ?_; refine A_seq ?_
    refine A_draw [[], [0], [0, 1], [0, 1, 2], [0, 1, 2, 3], [0, 1, 2, 3, 4], [0, 1, 2, 3, 4, 5], [0, 1, 2, 3, 4], [0, 1, 2, 3, 4, 7], [0, 1, 2, 3, 4, 5, 6, 7, 8], [0, 1, 2, 3, 4, 5, 6, 7, 8, 9], [0, 1, 2, 3, 4, 5, 6, 7, 8, 9, 10], [0, 1, 2, 3, 4, 5, 6, 7, 8, 9, 10, 11], [0, 1, 2, 3, 4, 5, 6, 7, 8, 9, 10, 11, 12], [0, 1, 2, 3, 4, 5, 6, 7, 8, 9, 10, 11, 12], [0, 1, 2, 3, 4, 5, 6, 7, 8, 9, 10, 11, 12, 14], [0, 1, 2, 3, 4, 5, 6, 7, 8, 9, 10, 11, 12], [0, 1, 2, 3, 4, 5, 6, 7, 8, 9, 10, 11, 12, 16], [0, 1, 2, 3, 4, 5, 6, 7, 8, 9, 10, 11, 12], [0, 1, 2, 3, 4, 5, 6, 7, 8, 9, 10, 11, 12, 18], [0, 1, 2, 3, 4, 5, 6, 7, 8, 9, 10, 11, 12, 18, 19], [0, 1, 2, 3, 4, 5, 6, 7, 8, 9, 10, 11, 12, 13, 14, 15, 16, 17, 18, 19, 20], [0, 1, 2, 3, 4, 5, 6, 7, 8, 9, 10, 11, 12, 13, 14, 15, 16, 17, 18, 19, 20, 21], [0, 1, 2, 3, 4, 5, 6, 7, 8, 9, 10, 11, 12, 13, 14, 15, 16, 17, 18, 19, 20, 21, 22], [0, 1, 2, 3, 4, 5, 6, 7, 8, 9, 10, 11, 12, 13, 14, 15, 16, 17, 18, 19, 20, 21, 22, 23], [0, 1, 2, 3, 4, 5, 6, 7, 8, 9, 10, 11, 12, 13, 14, 15, 16, 17, 18, 19, 20, 21, 22, 23, 24], [0, 1, 2, 3, 4, 5, 6, 7, 8, 9, 10, 11, 12, 13, 14, 15, 16, 17, 18, 19, 20, 21, 22, 23, 24, 25], [0, 1, 2, 3, 4, 5, 6, 7, 8, 9, 10, 11, 12, 13, 14, 15, 16, 17, 18, 19, 20, 21, 22, 23, 24, 25, 26], [0, 1, 2, 3, 4, 5, 6, 7, 8, 9, 10, 11, 12, 13, 14, 15, 16, 17, 18, 19, 20, 21, 22, 23, 24, 25, 26, 27], [0, 1, 2, 3, 4, 5, 6, 7, 8, 9, 10, 11, 12, 13, 14, 15, 16, 17, 18, 19, 20, 21, 22, 23, 24, 25, 26, 27, 28], [0, 1, 2, 3, 4, 5, 6, 7, 8, 9, 10, 11, 12, 13, 14, 15, 16, 17, 18, 19, 20, 21, 22, 23, 24, 25, 26, 27, 28, 29], [0, 1, 2, 3, 4, 5, 6, 7, 8, 9, 10, 11, 12, 13, 14, 15, 16, 17, 18, 19, 20, 21, 22, 23, 24, 25, 26, 27, 28, 29, 30], [0, 1, 2, 3, 4, 5, 6, 7, 8, 9, 10, 11, 12, 13, 14, 15, 16, 17, 18, 19, 20, 21, 22, 23, 24, 25, 26, 27, 28, 29, 30, 31], [0, 1, 2, 3, 4, 5, 6, 7, 8, 9, 10, 11, 12, 13, 14, 15, 16, 17, 18, 19, 20, 21, 22, 23, 24, 25, 26, 27, 28, 29, 30, 31, 32], [0, 1, 2, 3, 4, 5, 6, 7, 8, 9, 10, 11, 12, 13, 14, 15, 16, 17, 18, 19, 20, 21, 22, 23, 24, 25, 26, 27, 28, 29, 30, 31, 32, 33]] [[], [7], [7, 8], [7, 8, 9], [7, 8, 9, 10], [7, 8, 9, 10, 11], [7, 8, 9, 10, 11, 12], [7, 8, 9, 10, 11], [7, 8, 9, 10, 11, 14], [7, 8, 9, 10, 11, 12, 13, 14, 15], [7, 8, 9, 10, 11, 12, 13, 14, 15, 16], [7, 8, 9, 10, 11, 12, 13, 14, 15, 16, 17], [7, 8, 9, 10, 11, 12, 13, 14, 15, 16, 17, 18], [7, 8, 9, 10, 11, 12, 13, 14, 15, 16, 17, 18, 19], [7, 8, 9, 10, 11, 12, 13, 14, 15, 16, 17, 18, 19], [7, 8, 9, 10, 11, 12, 13, 14, 15, 16, 17, 18, 19, 21], [7, 8, 9, 10, 11, 12, 13, 14, 15, 16, 17, 18, 19], [7, 8, 9, 10, 11, 12, 13, 14, 15, 16, 17, 18, 19, 23], [7, 8, 9, 10, 11, 12, 13, 14, 15, 16, 17, 18, 19], [7, 8, 9, 10, 11, 12, 13, 14, 15, 16, 17, 18, 19, 25], [7, 8, 9, 10, 11, 12, 13, 14, 15, 16, 17, 18, 19, 25, 26], [7, 8, 9, 10, 11, 12, 13, 14, 15, 16, 17, 18, 19, 20, 21, 22, 23, 24, 25, 26, 27], [7, 8, 9, 10, 11, 12, 13, 14, 15, 16, 17, 18, 19, 20, 21, 22, 23, 24, 25, 26, 27, 28], [7, 8, 9, 10, 11, 12, 13, 14, 15, 16, 17, 18, 19, 20, 21, 22, 23, 24, 25, 26, 27, 28, 29], [7, 8, 9, 10, 11, 12, 13, 14, 15, 16, 17, 18, 19, 20, 21, 22, 23, 24, 25, 26, 27, 28, 29, 30], [7, 8, 9, 10, 11, 12, 13, 14, 15, 16, 17, 18, 19, 20, 21, 22, 23, 24, 25, 26, 27, 28, 29, 30, 31], [7, 8, 9, 10, 11, 12, 13, 14, 15, 16, 17, 18, 19, 20, 21, 22, 23, 24, 25, 26, 27, 28, 29, 30, 31, 32], [7, 8, 9, 10, 11, 12, 13, 14, 15, 16, 17, 18, 19, 20, 21, 22, 23, 24, 25, 26, 27, 28, 29, 30, 31, 32, 33], [7, 8, 9, 10, 11, 12, 13, 14, 15, 16, 17, 18, 19, 20, 21, 22, 23, 24, 25, 26, 27, 28, 29, 30, 31, 32, 33, 34], [7, 8, 9, 10, 11, 12, 13, 14, 15, 16, 17, 18, 19, 20, 21, 22, 23, 24, 25, 26, 27, 28, 29, 30, 31, 32, 33, 34, 35], [7, 8, 9, 10, 11, 12, 13, 14, 15, 16, 17, 18, 19, 20, 21, 22, 23, 24, 25, 26, 27, 28, 29, 30, 31, 32, 33, 34, 35, 36], [7, 8, 9, 10, 11, 12, 13, 14, 15, 16, 17, 18, 19, 20, 21, 22, 23, 24, 25, 26, 27, 28, 29, 30, 31, 32, 33, 34, 35, 36, 37], [7, 8, 9, 10, 11, 12, 13, 14, 15, 16, 17, 18, 19, 20, 21, 22, 23, 24, 25, 26, 27, 28, 29, 30, 31, 32, 33, 34, 35, 36, 37, 38], [7, 8, 9, 10, 11, 12, 13, 14, 15, 16, 17, 18, 19, 20, 21, 22, 23, 24, 25, 26, 27, 28, 29, 30, 31, 32, 33, 34, 35, 36, 37, 38, 39], [7, 8, 9, 10, 11, 12, 13, 14, 15, 16, 17, 18, 19, 20, 21, 22, 23, 24, 25, 26, 27, 28, 29, 30, 31, 32, 33, 34, 35, 36, 37, 38, 39, 40]] [[], [], [], [], [], [14, 15], [14, 15], [12, 13], [12, 13], [], [], [], [], [21, 22, 23, 24, 25, 26, 27], [20, 23, 24, 25, 26, 27], [20, 23, 24, 25, 26, 27], [20, 21, 22, 25, 26, 27], [20, 21, 22, 25, 26, 27], [20, 21, 22, 23, 24], [20, 21, 22, 23, 24], [20, 21, 22, 23, 24], [], [], [], [], [], [], [], [], [], [], [], [], [], []] rfl ?_
    refine DR.step (q_fldp rfl rfl rfl rfl (by decide)) rfl rfl ?_; refine DR.step (q_ld1 rfl rfl rfl rfl rfl) rfl rfl ?_; refine DR.step (q_call0 rfl rfl (h1) rfl) rfl rfl ?_
    refine DR.step (q_not rfl rfl rfl) rfl rfl ?_; refine DR.step (q_moveC rfl rfl rfl) rfl rfl ?_; refine DR.step (Qt.no rfl rfl rfl rfl) rfl rfl ?_
    refine DR.step (Qt.no rfl rfl rfl rfl) rfl rfl ?_; refine DR.step (Qt.no rfl rfl rfl rfl) rfl rfl ?_; refine DR.step (Qt.no rfl rfl rfl rfl) rfl rfl ?_
    refine DR.step (Qt.no rfl rfl rfl rfl) rfl rfl ?_; refine DR.step (Qt.no rfl rfl rfl rfl) rfl rfl ?_; refine DR.step (q_pickT rfl rfl rfl rfl) rfl rfl ?_
    refine DR.step (q_moveC rfl rfl rfl) rfl rfl ?_; refine DR.step (Qt.no rfl rfl rfl rfl) rfl rfl ?_; refine DR.step (Qt.no rfl rfl rfl rfl) rfl rfl ?_
    refine DR.step (Qt.no rfl rfl rfl rfl) rfl rfl ?_; refine DR.step (Qt.no rfl rfl rfl rfl) rfl rfl ?_; refine DR.step (Qt.no rfl rfl rfl rfl) rfl rfl ?_
    refine DR.step (Qt.no rfl rfl rfl rfl) rfl rfl ?_; refine DR.step (Qt.no rfl rfl rfl rfl) rfl rfl ?_; refine DR.step (Qt.no rfl rfl rfl rfl) rfl rfl ?_
    refine DR.step (Qt.no rfl rfl rfl rfl) rfl rfl ?_; refine DR.step (q_pickT rfl rfl rfl rfl) rfl rfl ?_; refine DR.step (q_moveC rfl rfl rfl) rfl rfl ?_
    refine DR.step (Qt.no rfl rfl rfl rfl) rfl rfl ?_; refine DR.step (Qt.no rfl rfl rfl rfl) rfl rfl ?_; refine DR.step (Qt.no rfl rfl rfl rfl) rfl rfl ?_
    refine DR.step (Qt.no rfl rfl rfl rfl) rfl rfl ?_; refine DR.step (q_pickT rfl rfl rfl rfl) rfl rfl ?_; refine DR.step (q_moveC rfl rfl rfl) rfl rfl ?_
    refine DR.step (Qt.no rfl rfl rfl rfl) rfl rfl ?_; refine DR.step (Qt.no rfl rfl rfl rfl) rfl rfl ?_; refine DR.step (Qt.no rfl rfl rfl rfl) rfl rfl ?_
    refine DR.step (Qt.no rfl rfl rfl rfl) rfl rfl ?_; refine DR.step (q_pickT rfl rfl rfl rfl) rfl rfl ?_; refine DR.stop (by kernel_rfl) (by kernel_rfl) ?_
    refine L_nil ?_; refine T_n ?_; refine A_ifT rfl ?_; refine A_seq ?_; refine A_region ?_; refine M0 (q_assignC rfl rfl rfl) rfl rfl ?_; refine L_nil ?_; refine T_n ?_; refine A_ret ?_; refine T_r ?_
    refine F_r ?_
    exact E_tmp rfl rfl (W_end [] (by decide) rfl rfl rfl)
  | true =>
    rw [e1] at h1
    cases e2 : inR b.Owner 0 (n - 1) with
    | false =>
      rw [e2] at h2
      rw [show bodyM l n b = false by rw [bodyM, e1, e2]; rfl]
      refine Con.of Tryd.func81 rfl Tryd.ntmps81 rfl (fun E => ?_)
      refine A_seq ?_; refine A_region ?_; refine M1 (q_boxN rfl rfl rfl rfl) rfl rfl ?_; refine M1 (q_boxN rfl rfl rfl rfl) rfl rfl ?_; refine M0 (q_assignC rfl rfl rfl) rfl rfl ?_
      refine L_nil ?_; refine T_n ?_; refine A_seq ?_; refine A_seq ?_
      refine A_draw [[], [0], [0, 1], [0, 1, 2], [0, 1, 2, 3], [0, 1, 2, 3, 4], [0, 1, 2, 3, 4, 5], [0, 1, 2, 3, 4], [0, 1, 2, 3, 4, 7], [0, 1, 2, 3, 4, 5, 6, 7, 8], [0, 1, 2, 3, 4, 5, 6, 7, 8, 9], [0, 1, 2, 3, 4, 5, 6, 7, 8, 9, 10], [0, 1, 2, 3, 4, 5, 6, 7, 8, 9, 10, 11], [0, 1, 2, 3, 4, 5, 6, 7, 8, 9, 10, 11, 12], [0, 1, 2, 3, 4, 5, 6, 7, 8, 9, 10, 11, 12], [0, 1, 2, 3, 4, 5, 6, 7, 8, 9, 10, 11, 12, 14], [0, 1, 2, 3, 4, 5, 6, 7, 8, 9, 10, 11, 12], [0, 1, 2, 3, 4, 5, 6, 7, 8, 9, 10, 11, 12, 16], [0, 1, 2, 3, 4, 5, 6, 7, 8, 9, 10, 11, 12], [0, 1, 2, 3, 4, 5, 6, 7, 8, 9, 10, 11, 12, 18], [0, 1, 2, 3, 4, 5, 6, 7, 8, 9, 10, 11, 12, 18, 19], [0, 1, 2, 3, 4, 5, 6, 7, 8, 9, 10, 11, 12, 13, 14, 15, 16, 17, 18, 19, 20], [0, 1, 2, 3, 4, 5, 6, 7, 8, 9, 10, 11, 12, 13, 14, 15, 16, 17, 18, 19, 20, 21], [0, 1, 2, 3, 4, 5, 6, 7, 8, 9, 10, 11, 12, 13, 14, 15, 16, 17, 18, 19, 20, 21, 22], [0, 1, 2, 3, 4, 5, 6, 7, 8, 9, 10, 11, 12, 13, 14, 15, 16, 17, 18, 19, 20, 21, 22, 23], [0, 1, 2, 3, 4, 5, 6, 7, 8, 9, 10, 11, 12, 13, 14, 15, 16, 17, 18, 19, 20, 21, 22, 23, 24], [0, 1, 2, 3, 4, 5, 6, 7, 8, 9, 10, 11, 12, 13, 14, 15, 16, 17, 18, 19, 20, 21, 22, 23, 24, 25], [0, 1, 2, 3, 4, 5, 6, 7, 8, 9, 10, 11, 12, 13, 14, 15, 16, 17, 18, 19, 20, 21, 22, 23, 24, 25, 26], [0, 1, 2, 3, 4, 5, 6, 7, 8, 9, 10, 11, 12, 13, 14, 15, 16, 17, 18, 19, 20, 21, 22, 23, 24, 25, 26, 27], [0, 1, 2, 3, 4, 5, 6, 7, 8, 9, 10, 11, 12, 13, 14, 15, 16, 17, 18, 19, 20, 21, 22, 23, 24, 25, 26, 27, 28], [0, 1, 2, 3, 4, 5, 6, 7, 8, 9, 10, 11, 12, 13, 14, 15, 16, 17, 18, 19, 20, 21, 22, 23, 24, 25, 26, 27, 28, 29], [0, 1, 2, 3, 4, 5, 6, 7, 8, 9, 10, 11, 12, 13, 14, 15, 16, 17, 18, 19, 20, 21, 22, 23, 24, 25, 26, 27, 28, 29, 30], [0, 1, 2, 3, 4, 5, 6, 7, 8, 9, 10, 11, 12, 13, 14, 15, 16, 17, 18, 19, 20, 21, 22, 23, 24, 25, 26, 27, 28, 29, 30, 31], [0, 1, 2, 3, 4, 5, 6, 7, 8, 9, 10, 11, 12, 13, 14, 15, 16, 17, 18, 19, 20, 21, 22, 23, 24, 25, 26, 27, 28, 29, 30, 31, 32], [0, 1, 2, 3, 4, 5, 6, 7, 8, 9, 10, 11, 12, 13, 14, 15, 16, 17, 18, 19, 20, 21, 22, 23, 24, 25, 26, 27, 28, 29, 30, 31, 32, 33]] [[], [7], [7, 8], [7, 8, 9], [7, 8, 9, 10], [7, 8, 9, 10, 11], [7, 8, 9, 10, 11, 12], [7, 8, 9, 10, 11], [7, 8, 9, 10, 11, 14], [7, 8, 9, 10, 11, 12, 13, 14, 15], [7, 8, 9, 10, 11, 12, 13, 14, 15, 16], [7, 8, 9, 10, 11, 12, 13, 14, 15, 16, 17], [7, 8, 9, 10, 11, 12, 13, 14, 15, 16, 17, 18], [7, 8, 9, 10, 11, 12, 13, 14, 15, 16, 17, 18, 19], [7, 8, 9, 10, 11, 12, 13, 14, 15, 16, 17, 18, 19], [7, 8, 9, 10, 11, 12, 13, 14, 15, 16, 17, 18, 19, 21], [7, 8, 9, 10, 11, 12, 13, 14, 15, 16, 17, 18, 19], [7, 8, 9, 10, 11, 12, 13, 14, 15, 16, 17, 18, 19, 23], [7, 8, 9, 10, 11, 12, 13, 14, 15, 16, 17, 18, 19], [7, 8, 9, 10, 11, 12, 13, 14, 15, 16, 17, 18, 19, 25], [7, 8, 9, 10, 11, 12, 13, 14, 15, 16, 17, 18, 19, 25, 26], [7, 8, 9, 10, 11, 12, 13, 14, 15, 16, 17, 18, 19, 20, 21, 22, 23, 24, 25, 26, 27], [7, 8, 9, 10, 11, 12, 13, 14, 15, 16, 17, 18, 19, 20, 21, 22, 23, 24, 25, 26, 27, 28], [7, 8, 9, 10, 11, 12, 13, 14, 15, 16, 17, 18, 19, 20, 21, 22, 23, 24, 25, 26, 27, 28, 29], [7, 8, 9, 10, 11, 12, 13, 14, 15, 16, 17, 18, 19, 20, 21, 22, 23, 24, 25, 26, 27, 28, 29, 30], [7, 8, 9, 10, 11, 12, 13, 14, 15, 16, 17, 18, 19, 20, 21, 22, 23, 24, 25, 26, 27, 28, 29, 30, 31], [7, 8, 9, 10, 11, 12, 13, 14, 15, 16, 17, 18, 19, 20, 21, 22, 23, 24, 25, 26, 27, 28, 29, 30, 31, 32], [7, 8, 9, 10, 11, 12, 13, 14, 15, 16, 17, 18, 19, 20, 21, 22, 23, 24, 25, 26, 27, 28, 29, 30, 31, 32, 33], [7, 8, 9, 10, 11, 12, 13, 14, 15, 16, 17, 18, 19, 20, 21, 22, 23, 24, 25, 26, 27, 28, 29, 30, 31, 32, 33, 34], [7, 8, 9, 10, 11, 12, 13, 14, 15, 16, 17, 18, 19, 20, 21, 22, 23, 24, 25, 26, 27, 28, 29, 30, 31, 32, 33, 34, 35], [7, 8, 9, 10, 11, 12, 13, 14, 15, 16, 17, 18, 19, 20, 21, 22, 23, 24, 25, 26, 27, 28, 29, 30, 31, 32, 33, 34, 35, 36], [7, 8, 9, 10, 11, 12, 13, 14, 15, 16, 17, 18, 19, 20, 21, 22, 23, 24, 25, 26, 27, 28, 29, 30, 31, 32, 33, 34, 35, 36, 37], [7, 8, 9, 10, 11, 12, 13, 14, 15, 16, 17, 18, 19, 20, 21, 22, 23, 24, 25, 26, 27, 28, 29, 30, 31, 32, 33, 34, 35, 36, 37, 38], [7, 8, 9, 10, 11, 12, 13, 14, 15, 16, 17, 18, 19, 20, 21, 22, 23, 24, 25, 26, 27, 28, 29, 30, 31, 32, 33, 34, 35, 36, 37, 38, 39], [7, 8, 9, 10, 11, 12, 13, 14, 15, 16, 17, 18, 19, 20, 21, 22, 23, 24, 25, 26, 27, 28, 29, 30, 31, 32, 33, 34, 35, 36, 37, 38, 39, 40]] [[], [], [], [], [], [14, 15], [14, 15], [12, 13], [12, 13], [], [], [], [], [21, 22, 23, 24, 25, 26, 27], [20, 23, 24, 25, 26, 27], [20, 23, 24, 25, 26, 27], [20, 21, 22, 25, 26, 27], [20, 21, 22, 25, 26, 27], [20, 21, 22, 23, 24], [20, 21, 22, 23, 24], [20, 21, 22, 23, 24], [], [], [], [], [], [], [], [], [], [], [], [], [], []] rfl ?_
      refine DR.step (q_fldp rfl rfl rfl rfl (by decide)) rfl rfl ?_; refine DR.step (q_ld1 rfl rfl rfl rfl rfl) rfl rfl ?_; refine DR.step (q_call0 rfl rfl (h1) rfl) rfl rfl ?_
      refine DR.step (q_not rfl rfl rfl) rfl rfl ?_; refine DR.step (q_moveC rfl rfl rfl) rfl rfl ?_; refine DR.step (Qt.yes rfl rfl rfl (q_fldp rfl rfl rfl rfl (by decide))) rfl rfl ?_
      refine DR.step (Qt.yes rfl rfl rfl (q_ld1 rfl rfl rfl rfl rfl)) rfl rfl ?_; refine DR.step (Qt.yes rfl rfl rfl (q_moveC rfl rfl rfl)) rfl rfl ?_
      refine DR.step (Qt.yes rfl rfl rfl (q_sub rfl rfl rfl rfl (by omega))) rfl rfl ?_; refine DR.step (Qt.yes rfl rfl rfl (q_call0 rfl rfl (h2) rfl)) rfl rfl ?_
      refine DR.step (Qt.yes rfl rfl rfl (q_not rfl rfl rfl)) rfl rfl ?_; refine DR.step (q_pickF rfl rfl rfl rfl) rfl rfl ?_; refine DR.step (q_moveC rfl rfl rfl) rfl rfl ?_
      refine DR.step (Qt.no rfl rfl rfl rfl) rfl rfl ?_; refine DR.step (Qt.no rfl rfl rfl rfl) rfl rfl ?_; refine DR.step (Qt.no rfl rfl rfl rfl) rfl rfl ?_
      refine DR.step (Qt.no rfl rfl rfl rfl) rfl rfl ?_; refine DR.step (Qt.no rfl rfl rfl rfl) rfl rfl ?_; refine DR.step (Qt.no rfl rfl rfl rfl) rfl rfl ?_
      refine DR.step (Qt.no rfl rfl rfl rfl) rfl rfl ?_; refine DR.step (Qt.no rfl rfl rfl rfl) rfl rfl ?_; refine DR.step (Qt.no rfl rfl rfl rfl) rfl rfl ?_
      refine DR.step (q_pickT rfl rfl rfl rfl) rfl rfl ?_; refine DR.step (q_moveC rfl rfl rfl) rfl rfl ?_; refine DR.step (Qt.no rfl rfl rfl rfl) rfl rfl ?_
      refine DR.step (Qt.no rfl rfl rfl rfl) rfl rfl ?_; refine DR.step (Qt.no rfl rfl rfl rfl) rfl rfl ?_; refine DR.step (Qt.no rfl rfl rfl rfl) rfl rfl ?_
      refine DR.step (q_pickT rfl rfl rfl rfl) rfl rfl ?_; refine DR.step (q_moveC rfl rfl rfl) rfl rfl ?_; refine DR.step (Qt.no rfl rfl rfl rfl) rfl rfl ?_
      refine DR.step (Qt.no rfl rfl rfl rfl) rfl rfl ?_; refine DR.step (Qt.no rfl rfl rfl rfl) rfl rfl ?_; refine DR.step (Qt.no rfl rfl rfl rfl) rfl rfl ?_
      refine DR.step (q_pickT rfl rfl rfl rfl) rfl rfl ?_; refine DR.stop (by kernel_rfl) (by kernel_rfl) ?_
      refine L_nil ?_; refine T_n ?_; refine A_ifT rfl ?_; refine A_seq ?_; refine A_region ?_; refine M0 (q_assignC rfl rfl rfl) rfl rfl ?_; refine L_nil ?_; refine T_n ?_; refine A_ret ?_; refine T_r ?_
      refine F_r ?_
      exact E_tmp rfl rfl (W_end [] (by decide) rfl rfl rfl)
    | true =>
      rw [e2] at h2
      have hs16 := size_in e1
      have h3 := S_l02Solid l b.X b.Y (sizeOf b.Kind) hl b3 b4 hs16.1 hs16.2
      cases e3 : solidM l b.X b.Y (sizeOf b.Kind) with
      | true =>
        rw [e3] at h3
        rw [show bodyM l n b = false by rw [bodyM, e1, e2, e3]; rfl]
        refine Con.of Tryd.func81 rfl Tryd.ntmps81 rfl (fun E => ?_)
        refine A_seq ?_; refine A_region ?_; refine M1 (q_boxN rfl rfl rfl rfl) rfl rfl ?_; refine M1 (q_boxN rfl rfl rfl rfl) rfl rfl ?_; refine M0 (q_assignC rfl rfl rfl) rfl rfl ?_
        refine L_nil ?_; refine T_n ?_; refine A_seq ?_; refine A_seq ?_
        refine A_draw [[], [0], [0, 1], [0, 1, 2], [0, 1, 2, 3], [0, 1, 2, 3, 4], [0, 1, 2, 3, 4, 5], [0, 1, 2, 3, 4], [0, 1, 2, 3, 4, 7], [0, 1, 2, 3, 4, 5, 6, 7, 8], [0, 1, 2, 3, 4, 5, 6, 7, 8, 9], [0, 1, 2, 3, 4, 5, 6, 7, 8, 9, 10], [0, 1, 2, 3, 4, 5, 6, 7, 8, 9, 10, 11], [0, 1, 2, 3, 4, 5, 6, 7, 8, 9, 10, 11, 12], [0, 1, 2, 3, 4, 5, 6, 7, 8, 9, 10, 11, 12], [0, 1, 2, 3, 4, 5, 6, 7, 8, 9, 10, 11, 12, 14], [0, 1, 2, 3, 4, 5, 6, 7, 8, 9, 10, 11, 12], [0, 1, 2, 3, 4, 5, 6, 7, 8, 9, 10, 11, 12, 16], [0, 1, 2, 3, 4, 5, 6, 7, 8, 9, 10, 11, 12], [0, 1, 2, 3, 4, 5, 6, 7, 8, 9, 10, 11, 12, 18], [0, 1, 2, 3, 4, 5, 6, 7, 8, 9, 10, 11, 12, 18, 19], [0, 1, 2, 3, 4, 5, 6, 7, 8, 9, 10, 11, 12, 13, 14, 15, 16, 17, 18, 19, 20], [0, 1, 2, 3, 4, 5, 6, 7, 8, 9, 10, 11, 12, 13, 14, 15, 16, 17, 18, 19, 20, 21], [0, 1, 2, 3, 4, 5, 6, 7, 8, 9, 10, 11, 12, 13, 14, 15, 16, 17, 18, 19, 20, 21, 22], [0, 1, 2, 3, 4, 5, 6, 7, 8, 9, 10, 11, 12, 13, 14, 15, 16, 17, 18, 19, 20, 21, 22, 23], [0, 1, 2, 3, 4, 5, 6, 7, 8, 9, 10, 11, 12, 13, 14, 15, 16, 17, 18, 19, 20, 21, 22, 23, 24], [0, 1, 2, 3, 4, 5, 6, 7, 8, 9, 10, 11, 12, 13, 14, 15, 16, 17, 18, 19, 20, 21, 22, 23, 24, 25], [0, 1, 2, 3, 4, 5, 6, 7, 8, 9, 10, 11, 12, 13, 14, 15, 16, 17, 18, 19, 20, 21, 22, 23, 24, 25, 26], [0, 1, 2, 3, 4, 5, 6, 7, 8, 9, 10, 11, 12, 13, 14, 15, 16, 17, 18, 19, 20, 21, 22, 23, 24, 25, 26, 27], [0, 1, 2, 3, 4, 5, 6, 7, 8, 9, 10, 11, 12, 13, 14, 15, 16, 17, 18, 19, 20, 21, 22, 23, 24, 25, 26, 27, 28], [0, 1, 2, 3, 4, 5, 6, 7, 8, 9, 10, 11, 12, 13, 14, 15, 16, 17, 18, 19, 20, 21, 22, 23, 24, 25, 26, 27, 28, 29], [0, 1, 2, 3, 4, 5, 6, 7, 8, 9, 10, 11, 12, 13, 14, 15, 16, 17, 18, 19, 20, 21, 22, 23, 24, 25, 26, 27, 28, 29, 30], [0, 1, 2, 3, 4, 5, 6, 7, 8, 9, 10, 11, 12, 13, 14, 15, 16, 17, 18, 19, 20, 21, 22, 23, 24, 25, 26, 27, 28, 29, 30, 31], [0, 1, 2, 3, 4, 5, 6, 7, 8, 9, 10, 11, 12, 13, 14, 15, 16, 17, 18, 19, 20, 21, 22, 23, 24, 25, 26, 27, 28, 29, 30, 31, 32], [0, 1, 2, 3, 4, 5, 6, 7, 8, 9, 10, 11, 12, 13, 14, 15, 16, 17, 18, 19, 20, 21, 22, 23, 24, 25, 26, 27, 28, 29, 30, 31, 32, 33]] [[], [7], [7, 8], [7, 8, 9], [7, 8, 9, 10], [7, 8, 9, 10, 11], [7, 8, 9, 10, 11, 12], [7, 8, 9, 10, 11], [7, 8, 9, 10, 11, 14], [7, 8, 9, 10, 11, 12, 13, 14, 15], [7, 8, 9, 10, 11, 12, 13, 14, 15, 16], [7, 8, 9, 10, 11, 12, 13, 14, 15, 16, 17], [7, 8, 9, 10, 11, 12, 13, 14, 15, 16, 17, 18], [7, 8, 9, 10, 11, 12, 13, 14, 15, 16, 17, 18, 19], [7, 8, 9, 10, 11, 12, 13, 14, 15, 16, 17, 18, 19], [7, 8, 9, 10, 11, 12, 13, 14, 15, 16, 17, 18, 19, 21], [7, 8, 9, 10, 11, 12, 13, 14, 15, 16, 17, 18, 19], [7, 8, 9, 10, 11, 12, 13, 14, 15, 16, 17, 18, 19, 23], [7, 8, 9, 10, 11, 12, 13, 14, 15, 16, 17, 18, 19], [7, 8, 9, 10, 11, 12, 13, 14, 15, 16, 17, 18, 19, 25], [7, 8, 9, 10, 11, 12, 13, 14, 15, 16, 17, 18, 19, 25, 26], [7, 8, 9, 10, 11, 12, 13, 14, 15, 16, 17, 18, 19, 20, 21, 22, 23, 24, 25, 26, 27], [7, 8, 9, 10, 11, 12, 13, 14, 15, 16, 17, 18, 19, 20, 21, 22, 23, 24, 25, 26, 27, 28], [7, 8, 9, 10, 11, 12, 13, 14, 15, 16, 17, 18, 19, 20, 21, 22, 23, 24, 25, 26, 27, 28, 29], [7, 8, 9, 10, 11, 12, 13, 14, 15, 16, 17, 18, 19, 20, 21, 22, 23, 24, 25, 26, 27, 28, 29, 30], [7, 8, 9, 10, 11, 12, 13, 14, 15, 16, 17, 18, 19, 20, 21, 22, 23, 24, 25, 26, 27, 28, 29, 30, 31], [7, 8, 9, 10, 11, 12, 13, 14, 15, 16, 17, 18, 19, 20, 21, 22, 23, 24, 25, 26, 27, 28, 29, 30, 31, 32], [7, 8, 9, 10, 11, 12, 13, 14, 15, 16, 17, 18, 19, 20, 21, 22, 23, 24, 25, 26, 27, 28, 29, 30, 31, 32, 33], [7, 8, 9, 10, 11, 12, 13, 14, 15, 16, 17, 18, 19, 20, 21, 22, 23, 24, 25, 26, 27, 28, 29, 30, 31, 32, 33, 34], [7, 8, 9, 10, 11, 12, 13, 14, 15, 16, 17, 18, 19, 20, 21, 22, 23, 24, 25, 26, 27, 28, 29, 30, 31, 32, 33, 34, 35], [7, 8, 9, 10, 11, 12, 13, 14, 15, 16, 17, 18, 19, 20, 21, 22, 23, 24, 25, 26, 27, 28, 29, 30, 31, 32, 33, 34, 35, 36], [7, 8, 9, 10, 11, 12, 13, 14, 15, 16, 17, 18, 19, 20, 21, 22, 23, 24, 25, 26, 27, 28, 29, 30, 31, 32, 33, 34, 35, 36, 37], [7, 8, 9, 10, 11, 12, 13, 14, 15, 16, 17, 18, 19, 20, 21, 22, 23, 24, 25, 26, 27, 28, 29, 30, 31, 32, 33, 34, 35, 36, 37, 38], [7, 8, 9, 10, 11, 12, 13, 14, 15, 16, 17, 18, 19, 20, 21, 22, 23, 24, 25, 26, 27, 28, 29, 30, 31, 32, 33, 34, 35, 36, 37, 38, 39], [7, 8, 9, 10, 11, 12, 13, 14, 15, 16, 17, 18, 19, 20, 21, 22, 23, 24, 25, 26, 27, 28, 29, 30, 31, 32, 33, 34, 35, 36, 37, 38, 39, 40]] [[], [], [], [], [], [14, 15], [14, 15], [12, 13], [12, 13], [], [], [], [], [21, 22, 23, 24, 25, 26, 27], [20, 23, 24, 25, 26, 27], [20, 23, 24, 25, 26, 27], [20, 21, 22, 25, 26, 27], [20, 21, 22, 25, 26, 27], [20, 21, 22, 23, 24], [20, 21, 22, 23, 24], [20, 21, 22, 23, 24], [], [], [], [], [], [], [], [], [], [], [], [], [], []] rfl ?_
        refine DR.step (q_fldp rfl rfl rfl rfl (by decide)) rfl rfl ?_; refine DR.step (q_ld1 rfl rfl rfl rfl rfl) rfl rfl ?_; refine DR.step (q_call0 rfl rfl (h1) rfl) rfl rfl ?_
        refine DR.step (q_not rfl rfl rfl) rfl rfl ?_; refine DR.step (q_moveC rfl rfl rfl) rfl rfl ?_; refine DR.step (Qt.yes rfl rfl rfl (q_fldp rfl rfl rfl rfl (by decide))) rfl rfl ?_
        refine DR.step (Qt.yes rfl rfl rfl (q_ld1 rfl rfl rfl rfl rfl)) rfl rfl ?_; refine DR.step (Qt.yes rfl rfl rfl (q_moveC rfl rfl rfl)) rfl rfl ?_
        refine DR.step (Qt.yes rfl rfl rfl (q_sub rfl rfl rfl rfl (by omega))) rfl rfl ?_; refine DR.step (Qt.yes rfl rfl rfl (q_call0 rfl rfl (h2) rfl)) rfl rfl ?_
        refine DR.step (Qt.yes rfl rfl rfl (q_not rfl rfl rfl)) rfl rfl ?_; refine DR.step (q_pickF rfl rfl rfl rfl) rfl rfl ?_; refine DR.step (q_moveC rfl rfl rfl) rfl rfl ?_
        refine DR.step (Qt.yes rfl rfl rfl (q_ldN rfl rfl rfl rfl rfl rfl)) rfl rfl ?_; refine DR.step (Qt.yes rfl rfl rfl (q_fldp rfl rfl rfl rfl (by decide))) rfl rfl ?_
        refine DR.step (Qt.yes rfl rfl rfl (q_ld1 rfl rfl rfl rfl rfl)) rfl rfl ?_; refine DR.step (Qt.yes rfl rfl rfl (q_fldp rfl rfl rfl rfl (by decide))) rfl rfl ?_
        refine DR.step (Qt.yes rfl rfl rfl (q_ld1 rfl rfl rfl rfl rfl)) rfl rfl ?_; refine DR.step (Qt.yes rfl rfl rfl (q_fldp rfl rfl rfl rfl (by decide))) rfl rfl ?_
        refine DR.step (Qt.yes rfl rfl rfl (q_ld1 rfl rfl rfl rfl rfl)) rfl rfl ?_; refine DR.step (Qt.yes rfl rfl rfl (q_call0 rfl rfl (hsz) rfl)) rfl rfl ?_
        refine DR.step (Qt.yes rfl rfl rfl (q_call0 rfl rfl (h3) rfl)) rfl rfl ?_; refine DR.step (q_pickF rfl rfl rfl rfl) rfl rfl ?_; refine DR.step (q_moveC rfl rfl rfl) rfl rfl ?_
        refine DR.step (Qt.no rfl rfl rfl rfl) rfl rfl ?_; refine DR.step (Qt.no rfl rfl rfl rfl) rfl rfl ?_; refine DR.step (Qt.no rfl rfl rfl rfl) rfl rfl ?_
        refine DR.step (Qt.no rfl rfl rfl rfl) rfl rfl ?_; refine DR.step (q_pickT rfl rfl rfl rfl) rfl rfl ?_; refine DR.step (q_moveC rfl rfl rfl) rfl rfl ?_
        refine DR.step (Qt.no rfl rfl rfl rfl) rfl rfl ?_; refine DR.step (Qt.no rfl rfl rfl rfl) rfl rfl ?_; refine DR.step (Qt.no rfl rfl rfl rfl) rfl rfl ?_
        refine DR.step (Qt.no rfl rfl rfl rfl) rfl rfl ?_; refine DR.step (q_pickT rfl rfl rfl rfl) rfl rfl ?_; refine DR.stop (by kernel_rfl) (by kernel_rfl) ?_
        refine L_nil ?_; refine T_n ?_; refine A_ifT rfl ?_; refine A_seq ?_; refine A_region ?_; refine M0 (q_assignC rfl rfl rfl) rfl rfl ?_; refine L_nil ?_; refine T_n ?_; refine A_ret ?_; refine T_r ?_
        refine F_r ?_
        exact E_tmp rfl rfl (W_end [] (by decide) rfl rfl rfl)
      | false =>
        rw [e3] at h3
        cases e4 : inR b.VX (-15) 15 with
        | false =>
          rw [e4] at h4
          rw [show bodyM l n b = false by rw [bodyM, e1, e2, e3, e4]; rfl]
          refine Con.of Tryd.func81 rfl Tryd.ntmps81 rfl (fun E => ?_)
          refine A_seq ?_; refine A_region ?_; refine M1 (q_boxN rfl rfl rfl rfl) rfl rfl ?_; refine M1 (q_boxN rfl rfl rfl rfl) rfl rfl ?_; refine M0 (q_assignC rfl rfl rfl) rfl rfl ?_
          refine L_nil ?_; refine T_n ?_; refine A_seq ?_; refine A_seq ?_
          refine A_draw [[], [0], [0, 1], [0, 1, 2], [0, 1, 2, 3], [0, 1, 2, 3, 4], [0, 1, 2, 3, 4, 5], [0, 1, 2, 3, 4], [0, 1, 2, 3, 4, 7], [0, 1, 2, 3, 4, 5, 6, 7, 8], [0, 1, 2, 3, 4, 5, 6, 7, 8, 9], [0, 1, 2, 3, 4, 5, 6, 7, 8, 9, 10], [0, 1, 2, 3, 4, 5, 6, 7, 8, 9, 10, 11], [0, 1, 2, 3, 4, 5, 6, 7, 8, 9, 10, 11, 12], [0, 1, 2, 3, 4, 5, 6, 7, 8, 9, 10, 11, 12], [0, 1, 2, 3, 4, 5, 6, 7, 8, 9, 10, 11, 12, 14], [0, 1, 2, 3, 4, 5, 6, 7, 8, 9, 10, 11, 12], [0, 1, 2, 3, 4, 5, 6, 7, 8, 9, 10, 11, 12, 16], [0, 1, 2, 3, 4, 5, 6, 7, 8, 9, 10, 11, 12], [0, 1, 2, 3, 4, 5, 6, 7, 8, 9, 10, 11, 12, 18], [0, 1, 2, 3, 4, 5, 6, 7, 8, 9, 10, 11, 12, 18, 19], [0, 1, 2, 3, 4, 5, 6, 7, 8, 9, 10, 11, 12, 13, 14, 15, 16, 17, 18, 19, 20], [0, 1, 2, 3, 4, 5, 6, 7, 8, 9, 10, 11, 12, 13, 14, 15, 16, 17, 18, 19, 20, 21], [0, 1, 2, 3, 4, 5, 6, 7, 8, 9, 10, 11, 12, 13, 14, 15, 16, 17, 18, 19, 20, 21, 22], [0, 1, 2, 3, 4, 5, 6, 7, 8, 9, 10, 11, 12, 13, 14, 15, 16, 17, 18, 19, 20, 21, 22, 23], [0, 1, 2, 3, 4, 5, 6, 7, 8, 9, 10, 11, 12, 13, 14, 15, 16, 17, 18, 19, 20, 21, 22, 23, 24], [0, 1, 2, 3, 4, 5, 6, 7, 8, 9, 10, 11, 12, 13, 14, 15, 16, 17, 18, 19, 20, 21, 22, 23, 24, 25], [0, 1, 2, 3, 4, 5, 6, 7, 8, 9, 10, 11, 12, 13, 14, 15, 16, 17, 18, 19, 20, 21, 22, 23, 24, 25, 26], [0, 1, 2, 3, 4, 5, 6, 7, 8, 9, 10, 11, 12, 13, 14, 15, 16, 17, 18, 19, 20, 21, 22, 23, 24, 25, 26, 27], [0, 1, 2, 3, 4, 5, 6, 7, 8, 9, 10, 11, 12, 13, 14, 15, 16, 17, 18, 19, 20, 21, 22, 23, 24, 25, 26, 27, 28], [0, 1, 2, 3, 4, 5, 6, 7, 8, 9, 10, 11, 12, 13, 14, 15, 16, 17, 18, 19, 20, 21, 22, 23, 24, 25, 26, 27, 28, 29], [0, 1, 2, 3, 4, 5, 6, 7, 8, 9, 10, 11, 12, 13, 14, 15, 16, 17, 18, 19, 20, 21, 22, 23, 24, 25, 26, 27, 28, 29, 30], [0, 1, 2, 3, 4, 5, 6, 7, 8, 9, 10, 11, 12, 13, 14, 15, 16, 17, 18, 19, 20, 21, 22, 23, 24, 25, 26, 27, 28, 29, 30, 31], [0, 1, 2, 3, 4, 5, 6, 7, 8, 9, 10, 11, 12, 13, 14, 15, 16, 17, 18, 19, 20, 21, 22, 23, 24, 25, 26, 27, 28, 29, 30, 31, 32], [0, 1, 2, 3, 4, 5, 6, 7, 8, 9, 10, 11, 12, 13, 14, 15, 16, 17, 18, 19, 20, 21, 22, 23, 24, 25, 26, 27, 28, 29, 30, 31, 32, 33]] [[], [7], [7, 8], [7, 8, 9], [7, 8, 9, 10], [7, 8, 9, 10, 11], [7, 8, 9, 10, 11, 12], [7, 8, 9, 10, 11], [7, 8, 9, 10, 11, 14], [7, 8, 9, 10, 11, 12, 13, 14, 15], [7, 8, 9, 10, 11, 12, 13, 14, 15, 16], [7, 8, 9, 10, 11, 12, 13, 14, 15, 16, 17], [7, 8, 9, 10, 11, 12, 13, 14, 15, 16, 17, 18], [7, 8, 9, 10, 11, 12, 13, 14, 15, 16, 17, 18, 19], [7, 8, 9, 10, 11, 12, 13, 14, 15, 16, 17, 18, 19], [7, 8, 9, 10, 11, 12, 13, 14, 15, 16, 17, 18, 19, 21], [7, 8, 9, 10, 11, 12, 13, 14, 15, 16, 17, 18, 19], [7, 8, 9, 10, 11, 12, 13, 14, 15, 16, 17, 18, 19, 23], [7, 8, 9, 10, 11, 12, 13, 14, 15, 16, 17, 18, 19], [7, 8, 9, 10, 11, 12, 13, 14, 15, 16, 17, 18, 19, 25], [7, 8, 9, 10, 11, 12, 13, 14, 15, 16, 17, 18, 19, 25, 26], [7, 8, 9, 10, 11, 12, 13, 14, 15, 16, 17, 18, 19, 20, 21, 22, 23, 24, 25, 26, 27], [7, 8, 9, 10, 11, 12, 13, 14, 15, 16, 17, 18, 19, 20, 21, 22, 23, 24, 25, 26, 27, 28], [7, 8, 9, 10, 11, 12, 13, 14, 15, 16, 17, 18, 19, 20, 21, 22, 23, 24, 25, 26, 27, 28, 29], [7, 8, 9, 10, 11, 12, 13, 14, 15, 16, 17, 18, 19, 20, 21, 22, 23, 24, 25, 26, 27, 28, 29, 30], [7, 8, 9, 10, 11, 12, 13, 14, 15, 16, 17, 18, 19, 20, 21, 22, 23, 24, 25, 26, 27, 28, 29, 30, 31], [7, 8, 9, 10, 11, 12, 13, 14, 15, 16, 17, 18, 19, 20, 21, 22, 23, 24, 25, 26, 27, 28, 29, 30, 31, 32], [7, 8, 9, 10, 11, 12, 13, 14, 15, 16, 17, 18, 19, 20, 21, 22, 23, 24, 25, 26, 27, 28, 29, 30, 31, 32, 33], [7, 8, 9, 10, 11, 12, 13, 14, 15, 16, 17, 18, 19, 20, 21, 22, 23, 24, 25, 26, 27, 28, 29, 30, 31, 32, 33, 34], [7, 8, 9, 10, 11, 12, 13, 14, 15, 16, 17, 18, 19, 20, 21, 22, 23, 24, 25, 26, 27, 28, 29, 30, 31, 32, 33, 34, 35], [7, 8, 9, 10, 11, 12, 13, 14, 15, 16, 17, 18, 19, 20, 21, 22, 23, 24, 25, 26, 27, 28, 29, 30, 31, 32, 33, 34, 35, 36], [7, 8, 9, 10, 11, 12, 13, 14, 15, 16, 17, 18, 19, 20, 21, 22, 23, 24, 25, 26, 27, 28, 29, 30, 31, 32, 33, 34, 35, 36, 37], [7, 8, 9, 10, 11, 12, 13, 14, 15, 16, 17, 18, 19, 20, 21, 22, 23, 24, 25, 26, 27, 28, 29, 30, 31, 32, 33, 34, 35, 36, 37, 38], [7, 8, 9, 10, 11, 12, 13, 14, 15, 16, 17, 18, 19, 20, 21, 22, 23, 24, 25, 26, 27, 28, 29, 30, 31, 32, 33, 34, 35, 36, 37, 38, 39], [7, 8, 9, 10, 11, 12, 13, 14, 15, 16, 17, 18, 19, 20, 21, 22, 23, 24, 25, 26, 27, 28, 29, 30, 31, 32, 33, 34, 35, 36, 37, 38, 39, 40]] [[], [], [], [], [], [14, 15], [14, 15], [12, 13], [12, 13], [], [], [], [], [21, 22, 23, 24, 25, 26, 27], [20, 23, 24, 25, 26, 27], [20, 23, 24, 25, 26, 27], [20, 21, 22, 25, 26, 27], [20, 21, 22, 25, 26, 27], [20, 21, 22, 23, 24], [20, 21, 22, 23, 24], [20, 21, 22, 23, 24], [], [], [], [], [], [], [], [], [], [], [], [], [], []] rfl ?_
          refine DR.step (q_fldp rfl rfl rfl rfl (by decide)) rfl rfl ?_; refine DR.step (q_ld1 rfl rfl rfl rfl rfl) rfl rfl ?_; refine DR.step (q_call0 rfl rfl (h1) rfl) rfl rfl ?_
          refine DR.step (q_not rfl rfl rfl) rfl rfl ?_; refine DR.step (q_moveC rfl rfl rfl) rfl rfl ?_; refine DR.step (Qt.yes rfl rfl rfl (q_fldp rfl rfl rfl rfl (by decide))) rfl rfl ?_
          refine DR.step (Qt.yes rfl rfl rfl (q_ld1 rfl rfl rfl rfl rfl)) rfl rfl ?_; refine DR.step (Qt.yes rfl rfl rfl (q_moveC rfl rfl rfl)) rfl rfl ?_
          refine DR.step (Qt.yes rfl rfl rfl (q_sub rfl rfl rfl rfl (by omega))) rfl rfl ?_; refine DR.step (Qt.yes rfl rfl rfl (q_call0 rfl rfl (h2) rfl)) rfl rfl ?_
          refine DR.step (Qt.yes rfl rfl rfl (q_not rfl rfl rfl)) rfl rfl ?_; refine DR.step (q_pickF rfl rfl rfl rfl) rfl rfl ?_; refine DR.step (q_moveC rfl rfl rfl) rfl rfl ?_
          refine DR.step (Qt.yes rfl rfl rfl (q_ldN rfl rfl rfl rfl rfl rfl)) rfl rfl ?_; refine DR.step (Qt.yes rfl rfl rfl (q_fldp rfl rfl rfl rfl (by decide))) rfl rfl ?_
          refine DR.step (Qt.yes rfl rfl rfl (q_ld1 rfl rfl rfl rfl rfl)) rfl rfl ?_; refine DR.step (Qt.yes rfl rfl rfl (q_fldp rfl rfl rfl rfl (by decide))) rfl rfl ?_
          refine DR.step (Qt.yes rfl rfl rfl (q_ld1 rfl rfl rfl rfl rfl)) rfl rfl ?_; refine DR.step (Qt.yes rfl rfl rfl (q_fldp rfl rfl rfl rfl (by decide))) rfl rfl ?_
          refine DR.step (Qt.yes rfl rfl rfl (q_ld1 rfl rfl rfl rfl rfl)) rfl rfl ?_; refine DR.step (Qt.yes rfl rfl rfl (q_call0 rfl rfl (hsz) rfl)) rfl rfl ?_
          refine DR.step (Qt.yes rfl rfl rfl (q_call0 rfl rfl (h3) rfl)) rfl rfl ?_; refine DR.step (q_pickF rfl rfl rfl rfl) rfl rfl ?_; refine DR.step (q_moveC rfl rfl rfl) rfl rfl ?_
          refine DR.step (Qt.yes rfl rfl rfl (q_fldp rfl rfl rfl rfl (by decide))) rfl rfl ?_; refine DR.step (Qt.yes rfl rfl rfl (q_ld1 rfl rfl rfl rfl rfl)) rfl rfl ?_
          refine DR.step (Qt.yes rfl rfl rfl (q_call0 rfl rfl (h4) rfl)) rfl rfl ?_; refine DR.step (Qt.yes rfl rfl rfl (q_not rfl rfl rfl)) rfl rfl ?_
          refine DR.step (q_pickF rfl rfl rfl rfl) rfl rfl ?_; refine DR.step (q_moveC rfl rfl rfl) rfl rfl ?_; refine DR.step (Qt.no rfl rfl rfl rfl) rfl rfl ?_
          refine DR.step (Qt.no rfl rfl rfl rfl) rfl rfl ?_; refine DR.step (Qt.no rfl rfl rfl rfl) rfl rfl ?_; refine DR.step (Qt.no rfl rfl rfl rfl) rfl rfl ?_
          refine DR.step (q_pickT rfl rfl rfl rfl) rfl rfl ?_; refine DR.stop (by kernel_rfl) (by kernel_rfl) ?_
          refine L_nil ?_; refine T_n ?_; refine A_ifT rfl ?_; refine A_seq ?_; refine A_region ?_; refine M0 (q_assignC rfl rfl rfl) rfl rfl ?_; refine L_nil ?_; refine T_n ?_; refine A_ret ?_; refine T_r ?_
          refine F_r ?_
          exact E_tmp rfl rfl (W_end [] (by decide) rfl rfl rfl)
        | true =>
          rw [e4] at h4
          cases e5 : inR b.VY (-15) 15 with
          | false =>
            rw [e5] at h5
            rw [show bodyM l n b = false by rw [bodyM, e1, e2, e3, e4, e5]; rfl]
            refine Con.of Tryd.func81 rfl Tryd.ntmps81 rfl (fun E => ?_)
            refine A_seq ?_; refine A_region ?_; refine M1 (q_boxN rfl rfl rfl rfl) rfl rfl ?_; refine M1 (q_boxN rfl rfl rfl rfl) rfl rfl ?_; refine M0 (q_assignC rfl rfl rfl) rfl rfl ?_
            refine L_nil ?_; refine T_n ?_; refine A_seq ?_; refine A_seq ?_
            refine A_draw [[], [0], [0, 1], [0, 1, 2], [0, 1, 2, 3], [0, 1, 2, 3, 4], [0, 1, 2, 3, 4, 5], [0, 1, 2, 3, 4], [0, 1, 2, 3, 4, 7], [0, 1, 2, 3, 4, 5, 6, 7, 8], [0, 1, 2, 3, 4, 5, 6, 7, 8, 9], [0, 1, 2, 3, 4, 5, 6, 7, 8, 9, 10], [0, 1, 2, 3, 4, 5, 6, 7, 8, 9, 10, 11], [0, 1, 2, 3, 4, 5, 6, 7, 8, 9, 10, 11, 12], [0, 1, 2, 3, 4, 5, 6, 7, 8, 9, 10, 11, 12], [0, 1, 2, 3, 4, 5, 6, 7, 8, 9, 10, 11, 12, 14], [0, 1, 2, 3, 4, 5, 6, 7, 8, 9, 10, 11, 12], [0, 1, 2, 3, 4, 5, 6, 7, 8, 9, 10, 11, 12, 16], [0, 1, 2, 3, 4, 5, 6, 7, 8, 9, 10, 11, 12], [0, 1, 2, 3, 4, 5, 6, 7, 8, 9, 10, 11, 12, 18], [0, 1, 2, 3, 4, 5, 6, 7, 8, 9, 10, 11, 12, 18, 19], [0, 1, 2, 3, 4, 5, 6, 7, 8, 9, 10, 11, 12, 13, 14, 15, 16, 17, 18, 19, 20], [0, 1, 2, 3, 4, 5, 6, 7, 8, 9, 10, 11, 12, 13, 14, 15, 16, 17, 18, 19, 20, 21], [0, 1, 2, 3, 4, 5, 6, 7, 8, 9, 10, 11, 12, 13, 14, 15, 16, 17, 18, 19, 20, 21, 22], [0, 1, 2, 3, 4, 5, 6, 7, 8, 9, 10, 11, 12, 13, 14, 15, 16, 17, 18, 19, 20, 21, 22, 23], [0, 1, 2, 3, 4, 5, 6, 7, 8, 9, 10, 11, 12, 13, 14, 15, 16, 17, 18, 19, 20, 21, 22, 23, 24], [0, 1, 2, 3, 4, 5, 6, 7, 8, 9, 10, 11, 12, 13, 14, 15, 16, 17, 18, 19, 20, 21, 22, 23, 24, 25], [0, 1, 2, 3, 4, 5, 6, 7, 8, 9, 10, 11, 12, 13, 14, 15, 16, 17, 18, 19, 20, 21, 22, 23, 24, 25, 26], [0, 1, 2, 3, 4, 5, 6, 7, 8, 9, 10, 11, 12, 13, 14, 15, 16, 17, 18, 19, 20, 21, 22, 23, 24, 25, 26, 27], [0, 1, 2, 3, 4, 5, 6, 7, 8, 9, 10, 11, 12, 13, 14, 15, 16, 17, 18, 19, 20, 21, 22, 23, 24, 25, 26, 27, 28], [0, 1, 2, 3, 4, 5, 6, 7, 8, 9, 10, 11, 12, 13, 14, 15, 16, 17, 18, 19, 20, 21, 22, 23, 24, 25, 26, 27, 28, 29], [0, 1, 2, 3, 4, 5, 6, 7, 8, 9, 10, 11, 12, 13, 14, 15, 16, 17, 18, 19, 20, 21, 22, 23, 24, 25, 26, 27, 28, 29, 30], [0, 1, 2, 3, 4, 5, 6, 7, 8, 9, 10, 11, 12, 13, 14, 15, 16, 17, 18, 19, 20, 21, 22, 23, 24, 25, 26, 27, 28, 29, 30, 31], [0, 1, 2, 3, 4, 5, 6, 7, 8, 9, 10, 11, 12, 13, 14, 15, 16, 17, 18, 19, 20, 21, 22, 23, 24, 25, 26, 27, 28, 29, 30, 31, 32], [0, 1, 2, 3, 4, 5, 6, 7, 8, 9, 10, 11, 12, 13, 14, 15, 16, 17, 18, 19, 20, 21, 22, 23, 24, 25, 26, 27, 28, 29, 30, 31, 32, 33]] [[], [7], [7, 8], [7, 8, 9], [7, 8, 9, 10], [7, 8, 9, 10, 11], [7, 8, 9, 10, 11, 12], [7, 8, 9, 10, 11], [7, 8, 9, 10, 11, 14], [7, 8, 9, 10, 11, 12, 13, 14, 15], [7, 8, 9, 10, 11, 12, 13, 14, 15, 16], [7, 8, 9, 10, 11, 12, 13, 14, 15, 16, 17], [7, 8, 9, 10, 11, 12, 13, 14, 15, 16, 17, 18], [7, 8, 9, 10, 11, 12, 13, 14, 15, 16, 17, 18, 19], [7, 8, 9, 10, 11, 12, 13, 14, 15, 16, 17, 18, 19], [7, 8, 9, 10, 11, 12, 13, 14, 15, 16, 17, 18, 19, 21], [7, 8, 9, 10, 11, 12, 13, 14, 15, 16, 17, 18, 19], [7, 8, 9, 10, 11, 12, 13, 14, 15, 16, 17, 18, 19, 23], [7, 8, 9, 10, 11, 12, 13, 14, 15, 16, 17, 18, 19], [7, 8, 9, 10, 11, 12, 13, 14, 15, 16, 17, 18, 19, 25], [7, 8, 9, 10, 11, 12, 13, 14, 15, 16, 17, 18, 19, 25, 26], [7, 8, 9, 10, 11, 12, 13, 14, 15, 16, 17, 18, 19, 20, 21, 22, 23, 24, 25, 26, 27], [7, 8, 9, 10, 11, 12, 13, 14, 15, 16, 17, 18, 19, 20, 21, 22, 23, 24, 25, 26, 27, 28], [7, 8, 9, 10, 11, 12, 13, 14, 15, 16, 17, 18, 19, 20, 21, 22, 23, 24, 25, 26, 27, 28, 29], [7, 8, 9, 10, 11, 12, 13, 14, 15, 16, 17, 18, 19, 20, 21, 22, 23, 24, 25, 26, 27, 28, 29, 30], [7, 8, 9, 10, 11, 12, 13, 14, 15, 16, 17, 18, 19, 20, 21, 22, 23, 24, 25, 26, 27, 28, 29, 30, 31], [7, 8, 9, 10, 11, 12, 13, 14, 15, 16, 17, 18, 19, 20, 21, 22, 23, 24, 25, 26, 27, 28, 29, 30, 31, 32], [7, 8, 9, 10, 11, 12, 13, 14, 15, 16, 17, 18, 19, 20, 21, 22, 23, 24, 25, 26, 27, 28, 29, 30, 31, 32, 33], [7, 8, 9, 10, 11, 12, 13, 14, 15, 16, 17, 18, 19, 20, 21, 22, 23, 24, 25, 26, 27, 28, 29, 30, 31, 32, 33, 34], [7, 8, 9, 10, 11, 12, 13, 14, 15, 16, 17, 18, 19, 20, 21, 22, 23, 24, 25, 26, 27, 28, 29, 30, 31, 32, 33, 34, 35], [7, 8, 9, 10, 11, 12, 13, 14, 15, 16, 17, 18, 19, 20, 21, 22, 23, 24, 25, 26, 27, 28, 29, 30, 31, 32, 33, 34, 35, 36], [7, 8, 9, 10, 11, 12, 13, 14, 15, 16, 17, 18, 19, 20, 21, 22, 23, 24, 25, 26, 27, 28, 29, 30, 31, 32, 33, 34, 35, 36, 37], [7, 8, 9, 10, 11, 12, 13, 14, 15, 16, 17, 18, 19, 20, 21, 22, 23, 24, 25, 26, 27, 28, 29, 30, 31, 32, 33, 34, 35, 36, 37, 38], [7, 8, 9, 10, 11, 12, 13, 14, 15, 16, 17, 18, 19, 20, 21, 22, 23, 24, 25, 26, 27, 28, 29, 30, 31, 32, 33, 34, 35, 36, 37, 38, 39], [7, 8, 9, 10, 11, 12, 13, 14, 15, 16, 17, 18, 19, 20, 21, 22, 23, 24, 25, 26, 27, 28, 29, 30, 31, 32, 33, 34, 35, 36, 37, 38, 39, 40]] [[], [], [], [], [], [14, 15], [14, 15], [12, 13], [12, 13], [], [], [], [], [21, 22, 23, 24, 25, 26, 27], [20, 23, 24, 25, 26, 27], [20, 23, 24, 25, 26, 27], [20, 21, 22, 25, 26, 27], [20, 21, 22, 25, 26, 27], [20, 21, 22, 23, 24], [20, 21, 22, 23, 24], [20, 21, 22, 23, 24], [], [], [], [], [], [], [], [], [], [], [], [], [], []] rfl ?_
            refine DR.step (q_fldp rfl rfl rfl rfl (by decide)) rfl rfl ?_; refine DR.step (q_ld1 rfl rfl rfl rfl rfl) rfl rfl ?_; refine DR.step (q_call0 rfl rfl (h1) rfl) rfl rfl ?_
            refine DR.step (q_not rfl rfl rfl) rfl rfl ?_; refine DR.step (q_moveC rfl rfl rfl) rfl rfl ?_; refine DR.step (Qt.yes rfl rfl rfl (q_fldp rfl rfl rfl rfl (by decide))) rfl rfl ?_
            refine DR.step (Qt.yes rfl rfl rfl (q_ld1 rfl rfl rfl rfl rfl)) rfl rfl ?_; refine DR.step (Qt.yes rfl rfl rfl (q_moveC rfl rfl rfl)) rfl rfl ?_
            refine DR.step (Qt.yes rfl rfl rfl (q_sub rfl rfl rfl rfl (by omega))) rfl rfl ?_; refine DR.step (Qt.yes rfl rfl rfl (q_call0 rfl rfl (h2) rfl)) rfl rfl ?_
            refine DR.step (Qt.yes rfl rfl rfl (q_not rfl rfl rfl)) rfl rfl ?_; refine DR.step (q_pickF rfl rfl rfl rfl) rfl rfl ?_; refine DR.step (q_moveC rfl rfl rfl) rfl rfl ?_
            refine DR.step (Qt.yes rfl rfl rfl (q_ldN rfl rfl rfl rfl rfl rfl)) rfl rfl ?_; refine DR.step (Qt.yes rfl rfl rfl (q_fldp rfl rfl rfl rfl (by decide))) rfl rfl ?_
            refine DR.step (Qt.yes rfl rfl rfl (q_ld1 rfl rfl rfl rfl rfl)) rfl rfl ?_; refine DR.step (Qt.yes rfl rfl rfl (q_fldp rfl rfl rfl rfl (by decide))) rfl rfl ?_
            refine DR.step (Qt.yes rfl rfl rfl (q_ld1 rfl rfl rfl rfl rfl)) rfl rfl ?_; refine DR.step (Qt.yes rfl rfl rfl (q_fldp rfl rfl rfl rfl (by decide))) rfl rfl ?_
            refine DR.step (Qt.yes rfl rfl rfl (q_ld1 rfl rfl rfl rfl rfl)) rfl rfl ?_; refine DR.step (Qt.yes rfl rfl rfl (q_call0 rfl rfl (hsz) rfl)) rfl rfl ?_
            refine DR.step (Qt.yes rfl rfl rfl (q_call0 rfl rfl (h3) rfl)) rfl rfl ?_; refine DR.step (q_pickF rfl rfl rfl rfl) rfl rfl ?_; refine DR.step (q_moveC rfl rfl rfl) rfl rfl ?_
            refine DR.step (Qt.yes rfl rfl rfl (q_fldp rfl rfl rfl rfl (by decide))) rfl rfl ?_; refine DR.step (Qt.yes rfl rfl rfl (q_ld1 rfl rfl rfl rfl rfl)) rfl rfl ?_
            refine DR.step (Qt.yes rfl rfl rfl (q_call0 rfl rfl (h4) rfl)) rfl rfl ?_; refine DR.step (Qt.yes rfl rfl rfl (q_not rfl rfl rfl)) rfl rfl ?_
            refine DR.step (q_pickF rfl rfl rfl rfl) rfl rfl ?_; refine DR.step (q_moveC rfl rfl rfl) rfl rfl ?_
            refine DR.step (Qt.yes rfl rfl rfl (q_fldp rfl rfl rfl rfl (by decide))) rfl rfl ?_; refine DR.step (Qt.yes rfl rfl rfl (q_ld1 rfl rfl rfl rfl rfl)) rfl rfl ?_
            refine DR.step (Qt.yes rfl rfl rfl (q_call0 rfl rfl (h5) rfl)) rfl rfl ?_; refine DR.step (Qt.yes rfl rfl rfl (q_not rfl rfl rfl)) rfl rfl ?_
            refine DR.step (q_pickF rfl rfl rfl rfl) rfl rfl ?_; refine DR.stop (by kernel_rfl) (by kernel_rfl) ?_
            refine L_nil ?_; refine T_n ?_; refine A_ifT rfl ?_; refine A_seq ?_; refine A_region ?_; refine M0 (q_assignC rfl rfl rfl) rfl rfl ?_; refine L_nil ?_; refine T_n ?_; refine A_ret ?_; refine T_r ?_
            refine F_r ?_
            exact E_tmp rfl rfl (W_end [] (by decide) rfl rfl rfl)
          | true =>
            rw [e5] at h5
            rw [show bodyM l n b = tailM b by rw [bodyM, e1, e2, e3, e4, e5]; rfl]
            by_cases k0 : b.Kind = 0
            · have hk : decide (b.Kind = 0) = true := decide_eq_true k0
              refine Con.of Tryd.func81 rfl Tryd.ntmps81 rfl (fun E => ?_)
              refine A_seq ?_; refine A_region ?_; refine M1 (q_boxN rfl rfl rfl rfl) rfl rfl ?_; refine M1 (q_boxN rfl rfl rfl rfl) rfl rfl ?_; refine M0 (q_assignC rfl rfl rfl) rfl rfl ?_
              refine L_nil ?_; refine T_n ?_; refine A_seq ?_; refine A_seq ?_
              refine A_draw [[], [0], [0, 1], [0, 1, 2], [0, 1, 2, 3], [0, 1, 2, 3, 4], [0, 1, 2, 3, 4, 5], [0, 1, 2, 3, 4], [0, 1, 2, 3, 4, 7], [0, 1, 2, 3, 4, 5, 6, 7, 8], [0, 1, 2, 3, 4, 5, 6, 7, 8, 9], [0, 1, 2, 3, 4, 5, 6, 7, 8, 9, 10], [0, 1, 2, 3, 4, 5, 6, 7, 8, 9, 10, 11], [0, 1, 2, 3, 4, 5, 6, 7, 8, 9, 10, 11, 12], [0, 1, 2, 3, 4, 5, 6, 7, 8, 9, 10, 11, 12], [0, 1, 2, 3, 4, 5, 6, 7, 8, 9, 10, 11, 12, 14], [0, 1, 2, 3, 4, 5, 6, 7, 8, 9, 10, 11, 12], [0, 1, 2, 3, 4, 5, 6, 7, 8, 9, 10, 11, 12, 16], [0, 1, 2, 3, 4, 5, 6, 7, 8, 9, 10, 11, 12], [0, 1, 2, 3, 4, 5, 6, 7, 8, 9, 10, 11, 12, 18], [0, 1, 2, 3, 4, 5, 6, 7, 8, 9, 10, 11, 12, 18, 19], [0, 1, 2, 3, 4, 5, 6, 7, 8, 9, 10, 11, 12, 13, 14, 15, 16, 17, 18, 19, 20], [0, 1, 2, 3, 4, 5, 6, 7, 8, 9, 10, 11, 12, 13, 14, 15, 16, 17, 18, 19, 20, 21], [0, 1, 2, 3, 4, 5, 6, 7, 8, 9, 10, 11, 12, 13, 14, 15, 16, 17, 18, 19, 20, 21, 22], [0, 1, 2, 3, 4, 5, 6, 7, 8, 9, 10, 11, 12, 13, 14, 15, 16, 17, 18, 19, 20, 21, 22, 23], [0, 1, 2, 3, 4, 5, 6, 7, 8, 9, 10, 11, 12, 13, 14, 15, 16, 17, 18, 19, 20, 21, 22, 23, 24], [0, 1, 2, 3, 4, 5, 6, 7, 8, 9, 10, 11, 12, 13, 14, 15, 16, 17, 18, 19, 20, 21, 22, 23, 24, 25], [0, 1, 2, 3, 4, 5, 6, 7, 8, 9, 10, 11, 12, 13, 14, 15, 16, 17, 18, 19, 20, 21, 22, 23, 24, 25, 26], [0, 1, 2, 3, 4, 5, 6, 7, 8, 9, 10, 11, 12, 13, 14, 15, 16, 17, 18, 19, 20, 21, 22, 23, 24, 25, 26, 27], [0, 1, 2, 3, 4, 5, 6, 7, 8, 9, 10, 11, 12, 13, 14, 15, 16, 17, 18, 19, 20, 21, 22, 23, 24, 25, 26, 27, 28], [0, 1, 2, 3, 4, 5, 6, 7, 8, 9, 10, 11, 12, 13, 14, 15, 16, 17, 18, 19, 20, 21, 22, 23, 24, 25, 26, 27, 28, 29], [0, 1, 2, 3, 4, 5, 6, 7, 8, 9, 10, 11, 12, 13, 14, 15, 16, 17, 18, 19, 20, 21, 22, 23, 24, 25, 26, 27, 28, 29, 30], [0, 1, 2, 3, 4, 5, 6, 7, 8, 9, 10, 11, 12, 13, 14, 15, 16, 17, 18, 19, 20, 21, 22, 23, 24, 25, 26, 27, 28, 29, 30, 31], [0, 1, 2, 3, 4, 5, 6, 7, 8, 9, 10, 11, 12, 13, 14, 15, 16, 17, 18, 19, 20, 21, 22, 23, 24, 25, 26, 27, 28, 29, 30, 31, 32], [0, 1, 2, 3, 4, 5, 6, 7, 8, 9, 10, 11, 12, 13, 14, 15, 16, 17, 18, 19, 20, 21, 22, 23, 24, 25, 26, 27, 28, 29, 30, 31, 32, 33]] [[], [7], [7, 8], [7, 8, 9], [7, 8, 9, 10], [7, 8, 9, 10, 11], [7, 8, 9, 10, 11, 12], [7, 8, 9, 10, 11], [7, 8, 9, 10, 11, 14], [7, 8, 9, 10, 11, 12, 13, 14, 15], [7, 8, 9, 10, 11, 12, 13, 14, 15, 16], [7, 8, 9, 10, 11, 12, 13, 14, 15, 16, 17], [7, 8, 9, 10, 11, 12, 13, 14, 15, 16, 17, 18], [7, 8, 9, 10, 11, 12, 13, 14, 15, 16, 17, 18, 19], [7, 8, 9, 10, 11, 12, 13, 14, 15, 16, 17, 18, 19], [7, 8, 9, 10, 11, 12, 13, 14, 15, 16, 17, 18, 19, 21], [7, 8, 9, 10, 11, 12, 13, 14, 15, 16, 17, 18, 19], [7, 8, 9, 10, 11, 12, 13, 14, 15, 16, 17, 18, 19, 23], [7, 8, 9, 10, 11, 12, 13, 14, 15, 16, 17, 18, 19], [7, 8, 9, 10, 11, 12, 13, 14, 15, 16, 17, 18, 19, 25], [7, 8, 9, 10, 11, 12, 13, 14, 15, 16, 17, 18, 19, 25, 26], [7, 8, 9, 10, 11, 12, 13, 14, 15, 16, 17, 18, 19, 20, 21, 22, 23, 24, 25, 26, 27], [7, 8, 9, 10, 11, 12, 13, 14, 15, 16, 17, 18, 19, 20, 21, 22, 23, 24, 25, 26, 27, 28], [7, 8, 9, 10, 11, 12, 13, 14, 15, 16, 17, 18, 19, 20, 21, 22, 23, 24, 25, 26, 27, 28, 29], [7, 8, 9, 10, 11, 12, 13, 14, 15, 16, 17, 18, 19, 20, 21, 22, 23, 24, 25, 26, 27, 28, 29, 30], [7, 8, 9, 10, 11, 12, 13, 14, 15, 16, 17, 18, 19, 20, 21, 22, 23, 24, 25, 26, 27, 28, 29, 30, 31], [7, 8, 9, 10, 11, 12, 13, 14, 15, 16, 17, 18, 19, 20, 21, 22, 23, 24, 25, 26, 27, 28, 29, 30, 31, 32], [7, 8, 9, 10, 11, 12, 13, 14, 15, 16, 17, 18, 19, 20, 21, 22, 23, 24, 25, 26, 27, 28, 29, 30, 31, 32, 33], [7, 8, 9, 10, 11, 12, 13, 14, 15, 16, 17, 18, 19, 20, 21, 22, 23, 24, 25, 26, 27, 28, 29, 30, 31, 32, 33, 34], [7, 8, 9, 10, 11, 12, 13, 14, 15, 16, 17, 18, 19, 20, 21, 22, 23, 24, 25, 26, 27, 28, 29, 30, 31, 32, 33, 34, 35], [7, 8, 9, 10, 11, 12, 13, 14, 15, 16, 17, 18, 19, 20, 21, 22, 23, 24, 25, 26, 27, 28, 29, 30, 31, 32, 33, 34, 35, 36], [7, 8, 9, 10, 11, 12, 13, 14, 15, 16, 17, 18, 19, 20, 21, 22, 23, 24, 25, 26, 27, 28, 29, 30, 31, 32, 33, 34, 35, 36, 37], [7, 8, 9, 10, 11, 12, 13, 14, 15, 16, 17, 18, 19, 20, 21, 22, 23, 24, 25, 26, 27, 28, 29, 30, 31, 32, 33, 34, 35, 36, 37, 38], [7, 8, 9, 10, 11, 12, 13, 14, 15, 16, 17, 18, 19, 20, 21, 22, 23, 24, 25, 26, 27, 28, 29, 30, 31, 32, 33, 34, 35, 36, 37, 38, 39], [7, 8, 9, 10, 11, 12, 13, 14, 15, 16, 17, 18, 19, 20, 21, 22, 23, 24, 25, 26, 27, 28, 29, 30, 31, 32, 33, 34, 35, 36, 37, 38, 39, 40]] [[], [], [], [], [], [14, 15], [14, 15], [12, 13], [12, 13], [], [], [], [], [21, 22, 23, 24, 25, 26, 27], [20, 23, 24, 25, 26, 27], [20, 23, 24, 25, 26, 27], [20, 21, 22, 25, 26, 27], [20, 21, 22, 25, 26, 27], [20, 21, 22, 23, 24], [20, 21, 22, 23, 24], [20, 21, 22, 23, 24], [], [], [], [], [], [], [], [], [], [], [], [], [], []] rfl ?_
              refine DR.step (q_fldp rfl rfl rfl rfl (by decide)) rfl rfl ?_; refine DR.step (q_ld1 rfl rfl rfl rfl rfl) rfl rfl ?_; refine DR.step (q_call0 rfl rfl (h1) rfl) rfl rfl ?_
              refine DR.step (q_not rfl rfl rfl) rfl rfl ?_; refine DR.step (q_moveC rfl rfl rfl) rfl rfl ?_; refine DR.step (Qt.yes rfl rfl rfl (q_fldp rfl rfl rfl rfl (by decide))) rfl rfl ?_
              refine DR.step (Qt.yes rfl rfl rfl (q_ld1 rfl rfl rfl rfl rfl)) rfl rfl ?_; refine DR.step (Qt.yes rfl rfl rfl (q_moveC rfl rfl rfl)) rfl rfl ?_
              refine DR.step (Qt.yes rfl rfl rfl (q_sub rfl rfl rfl rfl (by omega))) rfl rfl ?_; refine DR.step (Qt.yes rfl rfl rfl (q_call0 rfl rfl (h2) rfl)) rfl rfl ?_
              refine DR.step (Qt.yes rfl rfl rfl (q_not rfl rfl rfl)) rfl rfl ?_; refine DR.step (q_pickF rfl rfl rfl rfl) rfl rfl ?_; refine DR.step (q_moveC rfl rfl rfl) rfl rfl ?_
              refine DR.step (Qt.yes rfl rfl rfl (q_ldN rfl rfl rfl rfl rfl rfl)) rfl rfl ?_; refine DR.step (Qt.yes rfl rfl rfl (q_fldp rfl rfl rfl rfl (by decide))) rfl rfl ?_
              refine DR.step (Qt.yes rfl rfl rfl (q_ld1 rfl rfl rfl rfl rfl)) rfl rfl ?_; refine DR.step (Qt.yes rfl rfl rfl (q_fldp rfl rfl rfl rfl (by decide))) rfl rfl ?_
              refine DR.step (Qt.yes rfl rfl rfl (q_ld1 rfl rfl rfl rfl rfl)) rfl rfl ?_; refine DR.step (Qt.yes rfl rfl rfl (q_fldp rfl rfl rfl rfl (by decide))) rfl rfl ?_
              refine DR.step (Qt.yes rfl rfl rfl (q_ld1 rfl rfl rfl rfl rfl)) rfl rfl ?_; refine DR.step (Qt.yes rfl rfl rfl (q_call0 rfl rfl (hsz) rfl)) rfl rfl ?_
              refine DR.step (Qt.yes rfl rfl rfl (q_call0 rfl rfl (h3) rfl)) rfl rfl ?_; refine DR.step (q_pickF rfl rfl rfl rfl) rfl rfl ?_; refine DR.step (q_moveC rfl rfl rfl) rfl rfl ?_
              refine DR.step (Qt.yes rfl rfl rfl (q_fldp rfl rfl rfl rfl (by decide))) rfl rfl ?_; refine DR.step (Qt.yes rfl rfl rfl (q_ld1 rfl rfl rfl rfl rfl)) rfl rfl ?_
              refine DR.step (Qt.yes rfl rfl rfl (q_call0 rfl rfl (h4) rfl)) rfl rfl ?_; refine DR.step (Qt.yes rfl rfl rfl (q_not rfl rfl rfl)) rfl rfl ?_
              refine DR.step (q_pickF rfl rfl rfl rfl) rfl rfl ?_; refine DR.step (q_moveC rfl rfl rfl) rfl rfl ?_
              refine DR.step (Qt.yes rfl rfl rfl (q_fldp rfl rfl rfl rfl (by decide))) rfl rfl ?_; refine DR.step (Qt.yes rfl rfl rfl (q_ld1 rfl rfl rfl rfl rfl)) rfl rfl ?_
              refine DR.step (Qt.yes rfl rfl rfl (q_call0 rfl rfl (h5) rfl)) rfl rfl ?_; refine DR.step (Qt.yes rfl rfl rfl (q_not rfl rfl rfl)) rfl rfl ?_
              refine DR.step (q_pickF rfl rfl rfl rfl) rfl rfl ?_; refine DR.stop (by kernel_rfl) (by kernel_rfl) ?_
              refine L_nil ?_; refine T_n ?_; refine A_ifF rfl ?_; refine A_skip ?_; refine T_n ?_; refine A_seq ?_; refine A_seq ?_; refine A_region ?_
              refine M0 (q_fldp rfl rfl rfl rfl (by decide)) rfl rfl ?_; refine M0 (q_ld1 rfl rfl rfl rfl rfl) rfl rfl ?_; refine L_nil ?_; refine T_n ?_; refine A_block ?_; refine A_seq ?_
              refine A_region ?_; refine M0 (q_eqlK rfl rfl rfl rfl (by assumption)) rfl rfl ?_; refine M0 (q_assignC rfl rfl rfl) rfl rfl ?_; refine L_nil ?_; refine T_n ?_; refine A_ifT rfl ?_
              refine A_seq ?_; refine A_seq ?_; refine A_region ?_; refine M0 (q_fldp rfl rfl rfl rfl (by decide)) rfl rfl ?_; refine M0 (q_ld1 rfl rfl rfl rfl rfl) rfl rfl ?_
              refine M0 (q_neq rfl rfl rfl rfl) rfl rfl ?_; refine M0 (q_moveC rfl rfl rfl) rfl rfl ?_
              refine M0 (Qt.grdT rfl rfl rfl .stop (fun hgrd => q_fldp rfl rfl rfl rfl (by decide))) rfl rfl ?_
              refine M0 (Qt.grdT rfl rfl rfl (.hit .stop) (fun hgrd => q_ld1 rfl rfl rfl rfl rfl)) rfl rfl ?_
              refine M0 (Qt.grdT rfl rfl rfl (.hit (.hit .stop)) (fun hgrd => q_neq rfl rfl rfl rfl)) rfl rfl ?_; refine M0 (q_and rfl rfl rfl rfl) rfl rfl ?_
              refine M0 (q_moveC rfl rfl rfl) rfl rfl ?_; refine M0 (Qt.grdF rfl rfl rfl .stop (fun hgrd => q_fldp rfl rfl rfl rfl (by decide))) rfl rfl ?_
              refine M0 (Qt.grdF rfl rfl rfl (.hit .stop) (fun hgrd => q_ld1 rfl rfl rfl rfl rfl)) rfl rfl ?_
              refine M0 (Qt.grdF rfl rfl rfl (.hit (.hit .stop)) (fun hgrd => q_call0 rfl rfl (S_in b.Life 0 3) rfl)) rfl rfl ?_
              refine M0 (Qt.grdF rfl rfl rfl (.hit (.hit (.hit .stop))) (fun hgrd => q_not rfl rfl rfl)) rfl rfl ?_; refine M0 (q_or rfl rfl rfl rfl) rfl rfl ?_; refine L_nil ?_; refine T_n ?_
              refine A_cond rfl (fun h => ?_) (fun h => ?_)
              · rw [show tailM b = false by
                  rw [tailM, if_pos k0]
                  simp only [Bool.or_eq_true, Bool.and_eq_true, decide_eq_true_eq, Bool.not_eq_true'] at h
                  rcases h with h | h
                  · rw [decide_eq_false (by omega)]; rfl
                  · rw [h]; simp]
                refine A_seq ?_; refine A_region ?_; refine M0 (q_assignC rfl rfl rfl) rfl rfl ?_; refine L_nil ?_; refine T_n ?_; refine A_ret ?_; refine T_r ?_; refine B_r ?_; refine T_r ?_; refine F_r ?_
                exact E_tmp rfl rfl (W_end [] (by decide) rfl rfl rfl)
              simp only [Bool.or_eq_false_iff, Bool.and_eq_false_iff, decide_eq_false_iff_not, Bool.not_eq_false'] at h
              have ht : tailM b = if b.Life = 0 then inR b.Timer 1 20 else inR b.Timer 0 12 := by
                rw [tailM, if_pos k0, decide_eq_true (by omega), h.2]; rfl
              by_cases l0 : b.Life = 0
              · have hk2 : decide (b.Life = 0) = true := decide_eq_true l0
                rw [ht, if_pos l0]
                refine A_skip ?_; refine T_n ?_; refine A_seq ?_; refine A_seq ?_; refine A_region ?_; refine M0 (q_fldp rfl rfl rfl rfl (by decide)) rfl rfl ?_
                refine M0 (q_ld1 rfl rfl rfl rfl rfl) rfl rfl ?_; refine M0 (q_eqlK rfl rfl rfl rfl (by assumption)) rfl rfl ?_; refine L_nil ?_; refine T_n ?_; refine A_ifT rfl ?_; refine A_seq ?_
                refine A_region ?_; refine M0 (q_fldp rfl rfl rfl rfl (by decide)) rfl rfl ?_; refine M0 (q_ld1 rfl rfl rfl rfl rfl) rfl rfl ?_
                refine M0 (q_call0 rfl rfl (S_in b.Timer 1 20) rfl) rfl rfl ?_; refine M0 (q_assignC rfl rfl rfl) rfl rfl ?_; refine L_nil ?_; refine T_n ?_; refine A_ret ?_; refine T_r ?_; refine B_r ?_
                refine T_r ?_; refine F_r ?_
                exact E_tmp rfl rfl (W_end [] (by decide) rfl rfl rfl)
              · have hk2 : decide (b.Life = 0) = false := decide_eq_false l0
                rw [ht, if_neg l0]
                refine A_skip ?_; refine T_n ?_; refine A_seq ?_; refine A_seq ?_; refine A_region ?_; refine M0 (q_fldp rfl rfl rfl rfl (by decide)) rfl rfl ?_
                refine M0 (q_ld1 rfl rfl rfl rfl rfl) rfl rfl ?_; refine M0 (q_eqlK rfl rfl rfl rfl (by assumption)) rfl rfl ?_; refine L_nil ?_; refine T_n ?_; refine A_ifF rfl ?_; refine A_skip ?_
                refine T_n ?_; refine A_seq ?_; refine A_region ?_; refine M0 (q_fldp rfl rfl rfl rfl (by decide)) rfl rfl ?_; refine M0 (q_ld1 rfl rfl rfl rfl rfl) rfl rfl ?_
                refine M0 (q_call0 rfl rfl (S_in b.Timer 0 12) rfl) rfl rfl ?_; refine M0 (q_assignC rfl rfl rfl) rfl rfl ?_; refine L_nil ?_; refine T_n ?_; refine A_ret ?_; refine B_r ?_; refine T_r ?_
                refine F_r ?_
                exact E_tmp rfl rfl (W_end [] (by decide) rfl rfl rfl)
            have hk : decide (b.Kind = 0) = false := decide_eq_false k0
            by_cases k1 : b.Kind = 1
            · have hk1 : decide (b.Kind = 1) = true := decide_eq_true k1
              refine Con.of Tryd.func81 rfl Tryd.ntmps81 rfl (fun E => ?_)
              refine A_seq ?_; refine A_region ?_; refine M1 (q_boxN rfl rfl rfl rfl) rfl rfl ?_; refine M1 (q_boxN rfl rfl rfl rfl) rfl rfl ?_; refine M0 (q_assignC rfl rfl rfl) rfl rfl ?_
              refine L_nil ?_; refine T_n ?_; refine A_seq ?_; refine A_seq ?_
              refine A_draw [[], [0], [0, 1], [0, 1, 2], [0, 1, 2, 3], [0, 1, 2, 3, 4], [0, 1, 2, 3, 4, 5], [0, 1, 2, 3, 4], [0, 1, 2, 3, 4, 7], [0, 1, 2, 3, 4, 5, 6, 7, 8], [0, 1, 2, 3, 4, 5, 6, 7, 8, 9], [0, 1, 2, 3, 4, 5, 6, 7, 8, 9, 10], [0, 1, 2, 3, 4, 5, 6, 7, 8, 9, 10, 11], [0, 1, 2, 3, 4, 5, 6, 7, 8, 9, 10, 11, 12], [0, 1, 2, 3, 4, 5, 6, 7, 8, 9, 10, 11, 12], [0, 1, 2, 3, 4, 5, 6, 7, 8, 9, 10, 11, 12, 14], [0, 1, 2, 3, 4, 5, 6, 7, 8, 9, 10, 11, 12], [0, 1, 2, 3, 4, 5, 6, 7, 8, 9, 10, 11, 12, 16], [0, 1, 2, 3, 4, 5, 6, 7, 8, 9, 10, 11, 12], [0, 1, 2, 3, 4, 5, 6, 7, 8, 9, 10, 11, 12, 18], [0, 1, 2, 3, 4, 5, 6, 7, 8, 9, 10, 11, 12, 18, 19], [0, 1, 2, 3, 4, 5, 6, 7, 8, 9, 10, 11, 12, 13, 14, 15, 16, 17, 18, 19, 20], [0, 1, 2, 3, 4, 5, 6, 7, 8, 9, 10, 11, 12, 13, 14, 15, 16, 17, 18, 19, 20, 21], [0, 1, 2, 3, 4, 5, 6, 7, 8, 9, 10, 11, 12, 13, 14, 15, 16, 17, 18, 19, 20, 21, 22], [0, 1, 2, 3, 4, 5, 6, 7, 8, 9, 10, 11, 12, 13, 14, 15, 16, 17, 18, 19, 20, 21, 22, 23], [0, 1, 2, 3, 4, 5, 6, 7, 8, 9, 10, 11, 12, 13, 14, 15, 16, 17, 18, 19, 20, 21, 22, 23, 24], [0, 1, 2, 3, 4, 5, 6, 7, 8, 9, 10, 11, 12, 13, 14, 15, 16, 17, 18, 19, 20, 21, 22, 23, 24, 25], [0, 1, 2, 3, 4, 5, 6, 7, 8, 9, 10, 11, 12, 13, 14, 15, 16, 17, 18, 19, 20, 21, 22, 23, 24, 25, 26], [0, 1, 2, 3, 4, 5, 6, 7, 8, 9, 10, 11, 12, 13, 14, 15, 16, 17, 18, 19, 20, 21, 22, 23, 24, 25, 26, 27], [0, 1, 2, 3, 4, 5, 6, 7, 8, 9, 10, 11, 12, 13, 14, 15, 16, 17, 18, 19, 20, 21, 22, 23, 24, 25, 26, 27, 28], [0, 1, 2, 3, 4, 5, 6, 7, 8, 9, 10, 11, 12, 13, 14, 15, 16, 17, 18, 19, 20, 21, 22, 23, 24, 25, 26, 27, 28, 29], [0, 1, 2, 3, 4, 5, 6, 7, 8, 9, 10, 11, 12, 13, 14, 15, 16, 17, 18, 19, 20, 21, 22, 23, 24, 25, 26, 27, 28, 29, 30], [0, 1, 2, 3, 4, 5, 6, 7, 8, 9, 10, 11, 12, 13, 14, 15, 16, 17, 18, 19, 20, 21, 22, 23, 24, 25, 26, 27, 28, 29, 30, 31], [0, 1, 2, 3, 4, 5, 6, 7, 8, 9, 10, 11, 12, 13, 14, 15, 16, 17, 18, 19, 20, 21, 22, 23, 24, 25, 26, 27, 28, 29, 30, 31, 32], [0, 1, 2, 3, 4, 5, 6, 7, 8, 9, 10, 11, 12, 13, 14, 15, 16, 17, 18, 19, 20, 21, 22, 23, 24, 25, 26, 27, 28, 29, 30, 31, 32, 33]] [[], [7], [7, 8], [7, 8, 9], [7, 8, 9, 10], [7, 8, 9, 10, 11], [7, 8, 9, 10, 11, 12], [7, 8, 9, 10, 11], [7, 8, 9, 10, 11, 14], [7, 8, 9, 10, 11, 12, 13, 14, 15], [7, 8, 9, 10, 11, 12, 13, 14, 15, 16], [7, 8, 9, 10, 11, 12, 13, 14, 15, 16, 17], [7, 8, 9, 10, 11, 12, 13, 14, 15, 16, 17, 18], [7, 8, 9, 10, 11, 12, 13, 14, 15, 16, 17, 18, 19], [7, 8, 9, 10, 11, 12, 13, 14, 15, 16, 17, 18, 19], [7, 8, 9, 10, 11, 12, 13, 14, 15, 16, 17, 18, 19, 21], [7, 8, 9, 10, 11, 12, 13, 14, 15, 16, 17, 18, 19], [7, 8, 9, 10, 11, 12, 13, 14, 15, 16, 17, 18, 19, 23], [7, 8, 9, 10, 11, 12, 13, 14, 15, 16, 17, 18, 19], [7, 8, 9, 10, 11, 12, 13, 14, 15, 16, 17, 18, 19, 25], [7, 8, 9, 10, 11, 12, 13, 14, 15, 16, 17, 18, 19, 25, 26], [7, 8, 9, 10, 11, 12, 13, 14, 15, 16, 17, 18, 19, 20, 21, 22, 23, 24, 25, 26, 27], [7, 8, 9, 10, 11, 12, 13, 14, 15, 16, 17, 18, 19, 20, 21, 22, 23, 24, 25, 26, 27, 28], [7, 8, 9, 10, 11, 12, 13, 14, 15, 16, 17, 18, 19, 20, 21, 22, 23, 24, 25, 26, 27, 28, 29], [7, 8, 9, 10, 11, 12, 13, 14, 15, 16, 17, 18, 19, 20, 21, 22, 23, 24, 25, 26, 27, 28, 29, 30], [7, 8, 9, 10, 11, 12, 13, 14, 15, 16, 17, 18, 19, 20, 21, 22, 23, 24, 25, 26, 27, 28, 29, 30, 31], [7, 8, 9, 10, 11, 12, 13, 14, 15, 16, 17, 18, 19, 20, 21, 22, 23, 24, 25, 26, 27, 28, 29, 30, 31, 32], [7, 8, 9, 10, 11, 12, 13, 14, 15, 16, 17, 18, 19, 20, 21, 22, 23, 24, 25, 26, 27, 28, 29, 30, 31, 32, 33], [7, 8, 9, 10, 11, 12, 13, 14, 15, 16, 17, 18, 19, 20, 21, 22, 23, 24, 25, 26, 27, 28, 29, 30, 31, 32, 33, 34], [7, 8, 9, 10, 11, 12, 13, 14, 15, 16, 17, 18, 19, 20, 21, 22, 23, 24, 25, 26, 27, 28, 29, 30, 31, 32, 33, 34, 35], [7, 8, 9, 10, 11, 12, 13, 14, 15, 16, 17, 18, 19, 20, 21, 22, 23, 24, 25, 26, 27, 28, 29, 30, 31, 32, 33, 34, 35, 36], [7, 8, 9, 10, 11, 12, 13, 14, 15, 16, 17, 18, 19, 20, 21, 22, 23, 24, 25, 26, 27, 28, 29, 30, 31, 32, 33, 34, 35, 36, 37], [7, 8, 9, 10, 11, 12, 13, 14, 15, 16, 17, 18, 19, 20, 21, 22, 23, 24, 25, 26, 27, 28, 29, 30, 31, 32, 33, 34, 35, 36, 37, 38], [7, 8, 9, 10, 11, 12, 13, 14, 15, 16, 17, 18, 19, 20, 21, 22, 23, 24, 25, 26, 27, 28, 29, 30, 31, 32, 33, 34, 35, 36, 37, 38, 39], [7, 8, 9, 10, 11, 12, 13, 14, 15, 16, 17, 18, 19, 20, 21, 22, 23, 24, 25, 26, 27, 28, 29, 30, 31, 32, 33, 34, 35, 36, 37, 38, 39, 40]] [[], [], [], [], [], [14, 15], [14, 15], [12, 13], [12, 13], [], [], [], [], [21, 22, 23, 24, 25, 26, 27], [20, 23, 24, 25, 26, 27], [20, 23, 24, 25, 26, 27], [20, 21, 22, 25, 26, 27], [20, 21, 22, 25, 26, 27], [20, 21, 22, 23, 24], [20, 21, 22, 23, 24], [20, 21, 22, 23, 24], [], [], [], [], [], [], [], [], [], [], [], [], [], []] rfl ?_
              refine DR.step (q_fldp rfl rfl rfl rfl (by decide)) rfl rfl ?_; refine DR.step (q_ld1 rfl rfl rfl rfl rfl) rfl rfl ?_; refine DR.step (q_call0 rfl rfl (h1) rfl) rfl rfl ?_
              refine DR.step (q_not rfl rfl rfl) rfl rfl ?_; refine DR.step (q_moveC rfl rfl rfl) rfl rfl ?_; refine DR.step (Qt.yes rfl rfl rfl (q_fldp rfl rfl rfl rfl (by decide))) rfl rfl ?_
              refine DR.step (Qt.yes rfl rfl rfl (q_ld1 rfl rfl rfl rfl rfl)) rfl rfl ?_; refine DR.step (Qt.yes rfl rfl rfl (q_moveC rfl rfl rfl)) rfl rfl ?_
              refine DR.step (Qt.yes rfl rfl rfl (q_sub rfl rfl rfl rfl (by omega))) rfl rfl ?_; refine DR.step (Qt.yes rfl rfl rfl (q_call0 rfl rfl (h2) rfl)) rfl rfl ?_
              refine DR.step (Qt.yes rfl rfl rfl (q_not rfl rfl rfl)) rfl rfl ?_; refine DR.step (q_pickF rfl rfl rfl rfl) rfl rfl ?_; refine DR.step (q_moveC rfl rfl rfl) rfl rfl ?_
              refine DR.step (Qt.yes rfl rfl rfl (q_ldN rfl rfl rfl rfl rfl rfl)) rfl rfl ?_; refine DR.step (Qt.yes rfl rfl rfl (q_fldp rfl rfl rfl rfl (by decide))) rfl rfl ?_
              refine DR.step (Qt.yes rfl rfl rfl (q_ld1 rfl rfl rfl rfl rfl)) rfl rfl ?_; refine DR.step (Qt.yes rfl rfl rfl (q_fldp rfl rfl rfl rfl (by decide))) rfl rfl ?_
              refine DR.step (Qt.yes rfl rfl rfl (q_ld1 rfl rfl rfl rfl rfl)) rfl rfl ?_; refine DR.step (Qt.yes rfl rfl rfl (q_fldp rfl rfl rfl rfl (by decide))) rfl rfl ?_
              refine DR.step (Qt.yes rfl rfl rfl (q_ld1 rfl rfl rfl rfl rfl)) rfl rfl ?_; refine DR.step (Qt.yes rfl rfl rfl (q_call0 rfl rfl (hsz) rfl)) rfl rfl ?_
              refine DR.step (Qt.yes rfl rfl rfl (q_call0 rfl rfl (h3) rfl)) rfl rfl ?_; refine DR.step (q_pickF rfl rfl rfl rfl) rfl rfl ?_; refine DR.step (q_moveC rfl rfl rfl) rfl rfl ?_
              refine DR.step (Qt.yes rfl rfl rfl (q_fldp rfl rfl rfl rfl (by decide))) rfl rfl ?_; refine DR.step (Qt.yes rfl rfl rfl (q_ld1 rfl rfl rfl rfl rfl)) rfl rfl ?_
              refine DR.step (Qt.yes rfl rfl rfl (q_call0 rfl rfl (h4) rfl)) rfl rfl ?_; refine DR.step (Qt.yes rfl rfl rfl (q_not rfl rfl rfl)) rfl rfl ?_
              refine DR.step (q_pickF rfl rfl rfl rfl) rfl rfl ?_; refine DR.step (q_moveC rfl rfl rfl) rfl rfl ?_
              refine DR.step (Qt.yes rfl rfl rfl (q_fldp rfl rfl rfl rfl (by decide))) rfl rfl ?_; refine DR.step (Qt.yes rfl rfl rfl (q_ld1 rfl rfl rfl rfl rfl)) rfl rfl ?_
              refine DR.step (Qt.yes rfl rfl rfl (q_call0 rfl rfl (h5) rfl)) rfl rfl ?_; refine DR.step (Qt.yes rfl rfl rfl (q_not rfl rfl rfl)) rfl rfl ?_
              refine DR.step (q_pickF rfl rfl rfl rfl) rfl rfl ?_; refine DR.stop (by kernel_rfl) (by kernel_rfl) ?_
              refine L_nil ?_; refine T_n ?_; refine A_ifF rfl ?_; refine A_skip ?_; refine T_n ?_; refine A_seq ?_; refine A_seq ?_; refine A_region ?_
              refine M0 (q_fldp rfl rfl rfl rfl (by decide)) rfl rfl ?_; refine M0 (q_ld1 rfl rfl rfl rfl rfl) rfl rfl ?_; refine L_nil ?_; refine T_n ?_; refine A_block ?_; refine A_seq ?_
              refine A_region ?_; refine M0 (q_eqlK rfl rfl rfl rfl (by assumption)) rfl rfl ?_; refine M0 (q_assignC rfl rfl rfl) rfl rfl ?_; refine L_nil ?_; refine T_n ?_; refine A_ifF rfl ?_
              refine A_seq ?_; refine A_region ?_; refine M0 (q_eqlK rfl rfl rfl rfl (by assumption)) rfl rfl ?_; refine M0 (q_assignC rfl rfl rfl) rfl rfl ?_; refine L_nil ?_; refine T_n ?_
              refine A_ifT rfl ?_; refine A_seq ?_; refine A_region ?_; refine M0 (q_fldp rfl rfl rfl rfl (by decide)) rfl rfl ?_; refine M0 (q_ld1 rfl rfl rfl rfl rfl) rfl rfl ?_
              refine M0 (q_eql rfl rfl rfl rfl) rfl rfl ?_; refine M0 (q_moveC rfl rfl rfl) rfl rfl ?_
              refine M0 (Qt.grdT rfl rfl rfl .stop (fun hgrd => q_fldp rfl rfl rfl rfl (by decide))) rfl rfl ?_
              refine M0 (Qt.grdT rfl rfl rfl (.hit .stop) (fun hgrd => q_ld1 rfl rfl rfl rfl rfl)) rfl rfl ?_
              refine M0 (Qt.grdT rfl rfl rfl (.hit (.hit .stop)) (fun hgrd => q_eql rfl rfl rfl rfl)) rfl rfl ?_; refine M0 (q_and rfl rfl rfl rfl) rfl rfl ?_
              refine M0 (q_moveC rfl rfl rfl) rfl rfl ?_; refine M0 (Qt.grdT rfl rfl rfl .stop (fun hgrd => q_fldp rfl rfl rfl rfl (by decide))) rfl rfl ?_
              refine M0 (Qt.grdT rfl rfl rfl (.hit .stop) (fun hgrd => q_ld1 rfl rfl rfl rfl rfl)) rfl rfl ?_
              refine M0 (Qt.grdT rfl rfl rfl (.hit (.hit .stop)) (fun hgrd => q_call0 rfl rfl (S_in b.Timer 1 25) rfl)) rfl rfl ?_; refine M0 (q_and rfl rfl rfl rfl) rfl rfl ?_
              refine M0 (q_assignC rfl rfl rfl) rfl rfl ?_; refine L_nil ?_; refine T_n ?_; refine A_ret ?_; refine B_r ?_; refine T_r ?_; refine F_r ?_
              exact E_tmp rfl rfl (W_end [] (by decide) rfl rfl (B_eq (by rw [tailM, if_neg k0, if_pos k1, ← Bool.decide_and])))
            · have hk1 : decide (b.Kind = 1) = false := decide_eq_false k1
              refine Con.of Tryd.func81 rfl Tryd.ntmps81 rfl (fun E => ?_)
              refine A_seq ?_; refine A_region ?_; refine M1 (q_boxN rfl rfl rfl rfl) rfl rfl ?_; refine M1 (q_boxN rfl rfl rfl rfl) rfl rfl ?_; refine M0 (q_assignC rfl rfl rfl) rfl rfl ?_
              refine L_nil ?_; refine T_n ?_; refine A_seq ?_; refine A_seq ?_
              refine A_draw [[], [0], [0, 1], [0, 1, 2], [0, 1, 2, 3], [0, 1, 2, 3, 4], [0, 1, 2, 3, 4, 5], [0, 1, 2, 3, 4], [0, 1, 2, 3, 4, 7], [0, 1, 2, 3, 4, 5, 6, 7, 8], [0, 1, 2, 3, 4, 5, 6, 7, 8, 9], [0, 1, 2, 3, 4, 5, 6, 7, 8, 9, 10], [0, 1, 2, 3, 4, 5, 6, 7, 8, 9, 10, 11], [0, 1, 2, 3, 4, 5, 6, 7, 8, 9, 10, 11, 12], [0, 1, 2, 3, 4, 5, 6, 7, 8, 9, 10, 11, 12], [0, 1, 2, 3, 4, 5, 6, 7, 8, 9, 10, 11, 12, 14], [0, 1, 2, 3, 4, 5, 6, 7, 8, 9, 10, 11, 12], [0, 1, 2, 3, 4, 5, 6, 7, 8, 9, 10, 11, 12, 16], [0, 1, 2, 3, 4, 5, 6, 7, 8, 9, 10, 11, 12], [0, 1, 2, 3, 4, 5, 6, 7, 8, 9, 10, 11, 12, 18], [0, 1, 2, 3, 4, 5, 6, 7, 8, 9, 10, 11, 12, 18, 19], [0, 1, 2, 3, 4, 5, 6, 7, 8, 9, 10, 11, 12, 13, 14, 15, 16, 17, 18, 19, 20], [0, 1, 2, 3, 4, 5, 6, 7, 8, 9, 10, 11, 12, 13, 14, 15, 16, 17, 18, 19, 20, 21], [0, 1, 2, 3, 4, 5, 6, 7, 8, 9, 10, 11, 12, 13, 14, 15, 16, 17, 18, 19, 20, 21, 22], [0, 1, 2, 3, 4, 5, 6, 7, 8, 9, 10, 11, 12, 13, 14, 15, 16, 17, 18, 19, 20, 21, 22, 23], [0, 1, 2, 3, 4, 5, 6, 7, 8, 9, 10, 11, 12, 13, 14, 15, 16, 17, 18, 19, 20, 21, 22, 23, 24], [0, 1, 2, 3, 4, 5, 6, 7, 8, 9, 10, 11, 12, 13, 14, 15, 16, 17, 18, 19, 20, 21, 22, 23, 24, 25], [0, 1, 2, 3, 4, 5, 6, 7, 8, 9, 10, 11, 12, 13, 14, 15, 16, 17, 18, 19, 20, 21, 22, 23, 24, 25, 26], [0, 1, 2, 3, 4, 5, 6, 7, 8, 9, 10, 11, 12, 13, 14, 15, 16, 17, 18, 19, 20, 21, 22, 23, 24, 25, 26, 27], [0, 1, 2, 3, 4, 5, 6, 7, 8, 9, 10, 11, 12, 13, 14, 15, 16, 17, 18, 19, 20, 21, 22, 23, 24, 25, 26, 27, 28], [0, 1, 2, 3, 4, 5, 6, 7, 8, 9, 10, 11, 12, 13, 14, 15, 16, 17, 18, 19, 20, 21, 22, 23, 24, 25, 26, 27, 28, 29], [0, 1, 2, 3, 4, 5, 6, 7, 8, 9, 10, 11, 12, 13, 14, 15, 16, 17, 18, 19, 20, 21, 22, 23, 24, 25, 26, 27, 28, 29, 30], [0, 1, 2, 3, 4, 5, 6, 7, 8, 9, 10, 11, 12, 13, 14, 15, 16, 17, 18, 19, 20, 21, 22, 23, 24, 25, 26, 27, 28, 29, 30, 31], [0, 1, 2, 3, 4, 5, 6, 7, 8, 9, 10, 11, 12, 13, 14, 15, 16, 17, 18, 19, 20, 21, 22, 23, 24, 25, 26, 27, 28, 29, 30, 31, 32], [0, 1, 2, 3, 4, 5, 6, 7, 8, 9, 10, 11, 12, 13, 14, 15, 16, 17, 18, 19, 20, 21, 22, 23, 24, 25, 26, 27, 28, 29, 30, 31, 32, 33]] [[], [7], [7, 8], [7, 8, 9], [7, 8, 9, 10], [7, 8, 9, 10, 11], [7, 8, 9, 10, 11, 12], [7, 8, 9, 10, 11], [7, 8, 9, 10, 11, 14], [7, 8, 9, 10, 11, 12, 13, 14, 15], [7, 8, 9, 10, 11, 12, 13, 14, 15, 16], [7, 8, 9, 10, 11, 12, 13, 14, 15, 16, 17], [7, 8, 9, 10, 11, 12, 13, 14, 15, 16, 17, 18], [7, 8, 9, 10, 11, 12, 13, 14, 15, 16, 17, 18, 19], [7, 8, 9, 10, 11, 12, 13, 14, 15, 16, 17, 18, 19], [7, 8, 9, 10, 11, 12, 13, 14, 15, 16, 17, 18, 19, 21], [7, 8, 9, 10, 11, 12, 13, 14, 15, 16, 17, 18, 19], [7, 8, 9, 10, 11, 12, 13, 14, 15, 16, 17, 18, 19, 23], [7, 8, 9, 10, 11, 12, 13, 14, 15, 16, 17, 18, 19], [7, 8, 9, 10, 11, 12, 13, 14, 15, 16, 17, 18, 19, 25], [7, 8, 9, 10, 11, 12, 13, 14, 15, 16, 17, 18, 19, 25, 26], [7, 8, 9, 10, 11, 12, 13, 14, 15, 16, 17, 18, 19, 20, 21, 22, 23, 24, 25, 26, 27], [7, 8, 9, 10, 11, 12, 13, 14, 15, 16, 17, 18, 19, 20, 21, 22, 23, 24, 25, 26, 27, 28], [7, 8, 9, 10, 11, 12, 13, 14, 15, 16, 17, 18, 19, 20, 21, 22, 23, 24, 25, 26, 27, 28, 29], [7, 8, 9, 10, 11, 12, 13, 14, 15, 16, 17, 18, 19, 20, 21, 22, 23, 24, 25, 26, 27, 28, 29, 30], [7, 8, 9, 10, 11, 12, 13, 14, 15, 16, 17, 18, 19, 20, 21, 22, 23, 24, 25, 26, 27, 28, 29, 30, 31], [7, 8, 9, 10, 11, 12, 13, 14, 15, 16, 17, 18, 19, 20, 21, 22, 23, 24, 25, 26, 27, 28, 29, 30, 31, 32], [7, 8, 9, 10, 11, 12, 13, 14, 15, 16, 17, 18, 19, 20, 21, 22, 23, 24, 25, 26, 27, 28, 29, 30, 31, 32, 33], [7, 8, 9, 10, 11, 12, 13, 14, 15, 16, 17, 18, 19, 20, 21, 22, 23, 24, 25, 26, 27, 28, 29, 30, 31, 32, 33, 34], [7, 8, 9, 10, 11, 12, 13, 14, 15, 16, 17, 18, 19, 20, 21, 22, 23, 24, 25, 26, 27, 28, 29, 30, 31, 32, 33, 34, 35], [7, 8, 9, 10, 11, 12, 13, 14, 15, 16, 17, 18, 19, 20, 21, 22, 23, 24, 25, 26, 27, 28, 29, 30, 31, 32, 33, 34, 35, 36], [7, 8, 9, 10, 11, 12, 13, 14, 15, 16, 17, 18, 19, 20, 21, 22, 23, 24, 25, 26, 27, 28, 29, 30, 31, 32, 33, 34, 35, 36, 37], [7, 8, 9, 10, 11, 12, 13, 14, 15, 16, 17, 18, 19, 20, 21, 22, 23, 24, 25, 26, 27, 28, 29, 30, 31, 32, 33, 34, 35, 36, 37, 38], [7, 8, 9, 10, 11, 12, 13, 14, 15, 16, 17, 18, 19, 20, 21, 22, 23, 24, 25, 26, 27, 28, 29, 30, 31, 32, 33, 34, 35, 36, 37, 38, 39], [7, 8, 9, 10, 11, 12, 13, 14, 15, 16, 17, 18, 19, 20, 21, 22, 23, 24, 25, 26, 27, 28, 29, 30, 31, 32, 33, 34, 35, 36, 37, 38, 39, 40]] [[], [], [], [], [], [14, 15], [14, 15], [12, 13], [12, 13], [], [], [], [], [21, 22, 23, 24, 25, 26, 27], [20, 23, 24, 25, 26, 27], [20, 23, 24, 25, 26, 27], [20, 21, 22, 25, 26, 27], [20, 21, 22, 25, 26, 27], [20, 21, 22, 23, 24], [20, 21, 22, 23, 24], [20, 21, 22, 23, 24], [], [], [], [], [], [], [], [], [], [], [], [], [], []] rfl ?_
              refine DR.step (q_fldp rfl rfl rfl rfl (by decide)) rfl rfl ?_; refine DR.step (q_ld1 rfl rfl rfl rfl rfl) rfl rfl ?_; refine DR.step (q_call0 rfl rfl (h1) rfl) rfl rfl ?_
              refine DR.step (q_not rfl rfl rfl) rfl rfl ?_; refine DR.step (q_moveC rfl rfl rfl) rfl rfl ?_; refine DR.step (Qt.yes rfl rfl rfl (q_fldp rfl rfl rfl rfl (by decide))) rfl rfl ?_
              refine DR.step (Qt.yes rfl rfl rfl (q_ld1 rfl rfl rfl rfl rfl)) rfl rfl ?_; refine DR.step (Qt.yes rfl rfl rfl (q_moveC rfl rfl rfl)) rfl rfl ?_
              refine DR.step (Qt.yes rfl rfl rfl (q_sub rfl rfl rfl rfl (by omega))) rfl rfl ?_; refine DR.step (Qt.yes rfl rfl rfl (q_call0 rfl rfl (h2) rfl)) rfl rfl ?_
              refine DR.step (Qt.yes rfl rfl rfl (q_not rfl rfl rfl)) rfl rfl ?_; refine DR.step (q_pickF rfl rfl rfl rfl) rfl rfl ?_; refine DR.step (q_moveC rfl rfl rfl) rfl rfl ?_
              refine DR.step (Qt.yes rfl rfl rfl (q_ldN rfl rfl rfl rfl rfl rfl)) rfl rfl ?_; refine DR.step (Qt.yes rfl rfl rfl (q_fldp rfl rfl rfl rfl (by decide))) rfl rfl ?_
              refine DR.step (Qt.yes rfl rfl rfl (q_ld1 rfl rfl rfl rfl rfl)) rfl rfl ?_; refine DR.step (Qt.yes rfl rfl rfl (q_fldp rfl rfl rfl rfl (by decide))) rfl rfl ?_
              refine DR.step (Qt.yes rfl rfl rfl (q_ld1 rfl rfl rfl rfl rfl)) rfl rfl ?_; refine DR.step (Qt.yes rfl rfl rfl (q_fldp rfl rfl rfl rfl (by decide))) rfl rfl ?_
              refine DR.step (Qt.yes rfl rfl rfl (q_ld1 rfl rfl rfl rfl rfl)) rfl rfl ?_; refine DR.step (Qt.yes rfl rfl rfl (q_call0 rfl rfl (hsz) rfl)) rfl rfl ?_
              refine DR.step (Qt.yes rfl rfl rfl (q_call0 rfl rfl (h3) rfl)) rfl rfl ?_; refine DR.step (q_pickF rfl rfl rfl rfl) rfl rfl ?_; refine DR.step (q_moveC rfl rfl rfl) rfl rfl ?_
              refine DR.step (Qt.yes rfl rfl rfl (q_fldp rfl rfl rfl rfl (by decide))) rfl rfl ?_; refine DR.step (Qt.yes rfl rfl rfl (q_ld1 rfl rfl rfl rfl rfl)) rfl rfl ?_
              refine DR.step (Qt.yes rfl rfl rfl (q_call0 rfl rfl (h4) rfl)) rfl rfl ?_; refine DR.step (Qt.yes rfl rfl rfl (q_not rfl rfl rfl)) rfl rfl ?_
              refine DR.step (q_pickF rfl rfl rfl rfl) rfl rfl ?_; refine DR.step (q_moveC rfl rfl rfl) rfl rfl ?_
              refine DR.step (Qt.yes rfl rfl rfl (q_fldp rfl rfl rfl rfl (by decide))) rfl rfl ?_; refine DR.step (Qt.yes rfl rfl rfl (q_ld1 rfl rfl rfl rfl rfl)) rfl rfl ?_
              refine DR.step (Qt.yes rfl rfl rfl (q_call0 rfl rfl (h5) rfl)) rfl rfl ?_; refine DR.step (Qt.yes rfl rfl rfl (q_not rfl rfl rfl)) rfl rfl ?_
              refine DR.step (q_pickF rfl rfl rfl rfl) rfl rfl ?_; refine DR.stop (by kernel_rfl) (by kernel_rfl) ?_
              refine L_nil ?_; refine T_n ?_; refine A_ifF rfl ?_; refine A_skip ?_; refine T_n ?_; refine A_seq ?_; refine A_seq ?_; refine A_region ?_
              refine M0 (q_fldp rfl rfl rfl rfl (by decide)) rfl rfl ?_; refine M0 (q_ld1 rfl rfl rfl rfl rfl) rfl rfl ?_; refine L_nil ?_; refine T_n ?_; refine A_block ?_; refine A_seq ?_
              refine A_region ?_; refine M0 (q_eqlK rfl rfl rfl rfl (by assumption)) rfl rfl ?_; refine M0 (q_assignC rfl rfl rfl) rfl rfl ?_; refine L_nil ?_; refine T_n ?_; refine A_ifF rfl ?_
              refine A_seq ?_; refine A_region ?_; refine M0 (q_eqlK rfl rfl rfl rfl (by assumption)) rfl rfl ?_; refine M0 (q_assignC rfl rfl rfl) rfl rfl ?_; refine L_nil ?_; refine T_n ?_
              refine A_ifF rfl ?_; refine A_skip ?_; refine B_n ?_; refine T_n ?_; refine A_seq ?_; refine A_region ?_; refine M0 (q_fldp rfl rfl rfl rfl (by decide)) rfl rfl ?_
              refine M0 (q_ld1 rfl rfl rfl rfl rfl) rfl rfl ?_; refine M0 (q_eql rfl rfl rfl rfl) rfl rfl ?_; refine M0 (q_moveC rfl rfl rfl) rfl rfl ?_
              refine M0 (Qt.grdT rfl rfl rfl .stop (fun hgrd => q_fldp rfl rfl rfl rfl (by decide))) rfl rfl ?_
              refine M0 (Qt.grdT rfl rfl rfl (.hit .stop) (fun hgrd => q_ld1 rfl rfl rfl rfl rfl)) rfl rfl ?_
              refine M0 (Qt.grdT rfl rfl rfl (.hit (.hit .stop)) (fun hgrd => q_eql rfl rfl rfl rfl)) rfl rfl ?_; refine M0 (q_and rfl rfl rfl rfl) rfl rfl ?_
              refine M0 (q_moveC rfl rfl rfl) rfl rfl ?_; refine M0 (Qt.grdT rfl rfl rfl .stop (fun hgrd => q_fldp rfl rfl rfl rfl (by decide))) rfl rfl ?_
              refine M0 (Qt.grdT rfl rfl rfl (.hit .stop) (fun hgrd => q_ld1 rfl rfl rfl rfl rfl)) rfl rfl ?_
              refine M0 (Qt.grdT rfl rfl rfl (.hit (.hit .stop)) (fun hgrd => q_eql rfl rfl rfl rfl)) rfl rfl ?_; refine M0 (q_and rfl rfl rfl rfl) rfl rfl ?_
              refine M0 (q_moveC rfl rfl rfl) rfl rfl ?_; refine M0 (Qt.grdT rfl rfl rfl .stop (fun hgrd => q_fldp rfl rfl rfl rfl (by decide))) rfl rfl ?_
              refine M0 (Qt.grdT rfl rfl rfl (.hit .stop) (fun hgrd => q_ld1 rfl rfl rfl rfl rfl)) rfl rfl ?_
              refine M0 (Qt.grdT rfl rfl rfl (.hit (.hit .stop)) (fun hgrd => q_eql rfl rfl rfl rfl)) rfl rfl ?_; refine M0 (q_and rfl rfl rfl rfl) rfl rfl ?_
              refine M0 (q_assignC rfl rfl rfl) rfl rfl ?_; refine L_nil ?_; refine T_n ?_; refine A_ret ?_; refine F_r ?_
              exact E_tmp rfl rfl (W_end [] (by decide) rfl rfl (B_eq (by rw [tailM, if_neg k0, if_neg k1]; simp only [Bool.decide_and, Bool.and_assoc])))
set_option maxHeartbeats 8000000 in
theorem I_BodyOk (l : TLevel) (n : Int) (b : TBody) (hg : Enc.gd l) (hb : Enc.gd b) (hn : 0 ≤ n ∧ n ≤ 1099511627776) : Con Tryd.prog 86 [] [ag l, ai n, ag b] [] (B (levelOk l && bodyM l n b)) := by
  obtain ⟨b1, b2, b3, b4, b5, b6, b7, b8, b9⟩ := hb
  have hc := I_LevelOk l hg
  cases hl : levelOk l with
  | false =>
    rw [hl] at hc
    rw [Bool.false_and]
    refine Con.of Tryd.func86 rfl Tryd.ntmps86 rfl (fun E => ?_)
    refine A_seq ?_; refine A_region ?_; refine M1 (q_boxN rfl rfl rfl rfl) rfl rfl ?_; refine M1 (q_boxN rfl rfl rfl rfl) rfl rfl ?_; refine M0 (q_assignC rfl rfl rfl) rfl rfl ?_
    refine L_nil ?_; refine T_n ?_; refine A_seq ?_; refine A_seq ?_; refine A_region ?_; refine M0 (q_ldN rfl rfl rfl rfl rfl rfl) rfl rfl ?_; refine M0 (q_call0 rfl rfl (hc) rfl) rfl rfl ?_
    refine M0 (q_not rfl rfl rfl) rfl rfl ?_; refine M0 (q_moveC rfl rfl rfl) rfl rfl ?_; refine M_no rfl rfl rfl rfl rfl rfl ?_; refine M_no rfl rfl rfl rfl rfl rfl ?_
    refine M_no rfl rfl rfl rfl rfl rfl ?_; refine M0 (q_pickT rfl rfl rfl rfl) rfl rfl ?_; refine M0 (q_moveC rfl rfl rfl) rfl rfl ?_; refine M_no rfl rfl rfl rfl rfl rfl ?_
    refine M_no rfl rfl rfl rfl rfl rfl ?_; refine M_no rfl rfl rfl rfl rfl rfl ?_; refine M0 (q_pickT rfl rfl rfl rfl) rfl rfl ?_; refine L_nil ?_; refine T_n ?_; refine A_ifT rfl ?_
    refine A_seq ?_; refine A_region ?_; refine M0 (q_assignC rfl rfl rfl) rfl rfl ?_; refine L_nil ?_; refine T_n ?_; refine A_ret ?_; refine T_r ?_; refine F_r ?_
    exact E_tmp rfl rfl (W_end [] (by decide) rfl rfl rfl)
  | true =>
    rw [hl] at hc
    rw [Bool.true_and]
    refine Con.of Tryd.func86 rfl Tryd.ntmps86 rfl (fun E => ?_)
    refine A_seq ?_; refine A_region ?_; refine M1 (q_boxN rfl rfl rfl rfl) rfl rfl ?_; refine M1 (q_boxN rfl rfl rfl rfl) rfl rfl ?_; refine M0 (q_assignC rfl rfl rfl) rfl rfl ?_
    refine L_nil ?_; refine T_n ?_; refine A_seq ?_; refine A_seq ?_; refine A_region ?_; refine M0 (q_ldN rfl rfl rfl rfl rfl rfl) rfl rfl ?_; refine M0 (q_call0 rfl rfl (hc) rfl) rfl rfl ?_
    refine M0 (q_not rfl rfl rfl) rfl rfl ?_; refine M0 (q_moveC rfl rfl rfl) rfl rfl ?_; refine M_yes rfl rfl rfl ?_; refine M0 (q_fldp rfl rfl rfl rfl (by decide)) rfl rfl ?_
    refine M_yes rfl rfl rfl ?_; refine M0 (q_ld1 rfl rfl rfl rfl rfl) rfl rfl ?_; refine M_yes rfl rfl rfl ?_; refine M0 (q_lss rfl rfl rfl rfl) rfl rfl ?_
    refine M0 (q_pickF rfl rfl rfl rfl) rfl rfl ?_; refine M0 (q_moveC rfl rfl rfl) rfl rfl ?_
    refine M0 (Qt.grdF rfl rfl rfl .stop (fun hgrd => q_fldp rfl rfl rfl rfl (by decide))) rfl rfl ?_
    refine M0 (Qt.grdF rfl rfl rfl (.hit .stop) (fun hgrd => q_ld1 rfl rfl rfl rfl rfl)) rfl rfl ?_
    refine M0 (Qt.grdF rfl rfl rfl (.hit (.hit .stop)) (fun hgrd => q_gtr rfl rfl rfl rfl)) rfl rfl ?_; refine M0 (q_or rfl rfl rfl rfl) rfl rfl ?_; refine L_nil ?_; refine T_n ?_
    refine A_cond rfl (fun h => ?_) (fun h => ?_)
    · simp only [Bool.or_eq_true, decide_eq_true_eq] at h
      have e1 : inR b.Kind 0 2 = false := by rw [← Bool.not_eq_true, inR_iff]; omega
      rw [show bodyM l n b = false by rw [bodyM, e1]; rfl]
      refine A_seq ?_; refine A_region ?_; refine M0 (q_assignC rfl rfl rfl) rfl rfl ?_; refine L_nil ?_; refine T_n ?_; refine A_ret ?_; refine T_r ?_; refine F_r ?_
      exact E_tmp rfl rfl (W_end [] (by decide) rfl rfl rfl)
    simp only [Bool.or_eq_false_iff, decide_eq_false_iff_not] at h
    have e1 : inR b.Kind 0 2 = true := inR_iff.2 (by omega)
    have hs16 := size_in e1
    refine A_skip ?_; refine T_n ?_; refine A_seq ?_; refine A_seq ?_; refine A_region ?_; refine M0 (q_fldp rfl rfl rfl rfl (by decide)) rfl rfl ?_
    refine M0 (q_ld1 rfl rfl rfl rfl rfl) rfl rfl ?_; refine M0 (q_lss rfl rfl rfl rfl) rfl rfl ?_; refine M0 (q_moveC rfl rfl rfl) rfl rfl ?_
    refine M0 (Qt.grdF rfl rfl rfl .stop (fun hgrd => q_fldp rfl rfl rfl rfl (by decide))) rfl rfl ?_
    refine M0 (Qt.grdF rfl rfl rfl (.hit .stop) (fun hgrd => q_ld1 rfl rfl rfl rfl rfl)) rfl rfl ?_
    refine M0 (Qt.grdF rfl rfl rfl (.hit (.hit .stop)) (fun hgrd => q_moveC rfl rfl rfl)) rfl rfl ?_
    refine M0 (Qt.grdF rfl rfl rfl (.hit (.hit (.hit .stop))) (fun hgrd => q_geq rfl rfl rfl rfl)) rfl rfl ?_; refine M0 (q_or rfl rfl rfl rfl) rfl rfl ?_
    refine M0 (q_moveC rfl rfl rfl) rfl rfl ?_; refine M0 (Qt.grdF rfl rfl rfl .stop (fun hgrd => q_fldp rfl rfl rfl rfl (by decide))) rfl rfl ?_
    refine M0 (Qt.grdF rfl rfl rfl (.hit .stop) (fun hgrd => q_ld1 rfl rfl rfl rfl rfl)) rfl rfl ?_
    refine M0 (Qt.grdF rfl rfl rfl (.hit (.hit .stop)) (fun hgrd => q_eql rfl rfl rfl rfl)) rfl rfl ?_
    refine M0 (Qt.grdF rfl rfl rfl (.hit (.hit (.hit .stop))) (fun hgrd => q_moveC rfl rfl rfl)) rfl rfl ?_
    refine M0 (Qt.grd2T rfl rfl rfl (.hit1 (.hit1 (.hit1 (.hit1 .stop)))) (fun hgrd hgrd2 => q_fldp rfl rfl rfl rfl (by decide))) rfl rfl ?_
    refine M0 (Qt.grd2T rfl rfl rfl (.hit (.hit1 (.hit1 (.hit1 (.hit1 .stop))))) (fun hgrd hgrd2 => q_ld1 rfl rfl rfl rfl rfl)) rfl rfl ?_
    refine M0 (Qt.grd2T rfl rfl rfl (.hit (.hit (.hit1 (.hit1 (.hit1 (.hit1 .stop)))))) (fun hgrd hgrd2 => q_neq rfl rfl rfl rfl)) rfl rfl ?_
    refine M0 (Qt.grdF rfl rfl rfl (.part (.part (.part (.hit (.hit (.hit (.hit .stop))))))) (fun hgrd => q_and rfl rfl rfl rfl)) rfl rfl ?_; refine M0 (q_or rfl rfl rfl rfl) rfl rfl ?_
    refine L_nil ?_; refine T_n ?_
    refine A_cond rfl (fun h2 => ?_) (fun h2 => ?_)
    · simp only [Bool.or_eq_true, Bool.and_eq_true, decide_eq_true_eq] at h2
      rw [show bodyM l n b = false by
        by_cases ho : 0 ≤ b.Owner ∧ b.Owner ≤ n - 1
        · have hk : b.Kind = 2 ∧ b.Owner ≠ 0 := by omega
          have ht : tailM b = false := by rw [tailM, if_neg (by omega), if_neg (by omega), decide_eq_false (fun hh => hk.2 hh.1)]
          rw [bodyM, ht]; simp
        · have e2 : inR b.Owner 0 (n - 1) = false := by rw [← Bool.not_eq_true, inR_iff]; exact ho
          rw [bodyM, e2]; simp]
      refine A_seq ?_; refine A_region ?_; refine M0 (q_assignC rfl rfl rfl) rfl rfl ?_; refine L_nil ?_; refine T_n ?_; refine A_ret ?_; refine T_r ?_; refine F_r ?_
      exact E_tmp rfl rfl (W_end [] (by decide) rfl rfl rfl)
    simp only [Bool.or_eq_false_iff, Bool.and_eq_false_iff, decide_eq_false_iff_not] at h2
    have e2 : inR b.Owner 0 (n - 1) = true := inR_iff.2 (by omega)
    have hsz := I_SizeOf b.Kind
    have h3 := I_SolidAt l b.X b.Y (sizeOf b.Kind) hg b3 b4
    rw [show solidAt l b.X b.Y (sizeOf b.Kind) = solidM l b.X b.Y (sizeOf b.Kind) by rw [solidAt, hl, inR_iff.2 hs16]; rfl] at h3
    cases e3 : solidM l b.X b.Y (sizeOf b.Kind) with
    | true =>
      rw [e3] at h3
      rw [show bodyM l n b = false by rw [bodyM, e1, e2, e3]; rfl]
      refine A_skip ?_; refine T_n ?_; refine A_seq ?_; refine A_seq ?_
      refine A_draw [[], [], [1], [], [3], [], [5], [5, 6], [0, 1, 2, 3, 4, 5, 6, 7]] [[], [], [40], [], [42], [], [44], [44, 45], [39, 40, 41, 42, 43, 44, 45, 46]] [[40, 41, 42, 43, 44, 45, 46], [39, 42, 43, 44, 45, 46], [39, 42, 43, 44, 45, 46], [39, 40, 41, 44, 45, 46], [39, 40, 41, 44, 45, 46], [39, 40, 41, 42, 43], [39, 40, 41, 42, 43], [39, 40, 41, 42, 43], []] rfl ?_
      refine DR.step (q_ldN rfl rfl rfl rfl rfl rfl) rfl rfl ?_; refine DR.step (q_fldp rfl rfl rfl rfl (by decide)) rfl rfl ?_; refine DR.step (q_ld1 rfl rfl rfl rfl rfl) rfl rfl ?_
      refine DR.step (q_fldp rfl rfl rfl rfl (by decide)) rfl rfl ?_; refine DR.step (q_ld1 rfl rfl rfl rfl rfl) rfl rfl ?_; refine DR.step (q_fldp rfl rfl rfl rfl (by decide)) rfl rfl ?_
      refine DR.step (q_ld1 rfl rfl rfl rfl rfl) rfl rfl ?_; refine DR.step (q_call0 rfl rfl (hsz) rfl) rfl rfl ?_; refine DR.step (q_call0 rfl rfl (h3) rfl) rfl rfl ?_
      refine DR.stop (by kernel_rfl) (by kernel_rfl) ?_
      refine L_nil ?_; refine T_n ?_; refine A_ifT rfl ?_; refine A_seq ?_; refine A_region ?_; refine M0 (q_assignC rfl rfl rfl) rfl rfl ?_; refine L_nil ?_; refine T_n ?_; refine A_ret ?_; refine T_r ?_
      refine F_r ?_
      exact E_tmp rfl rfl (W_end [] (by decide) rfl rfl rfl)
    | false =>
      rw [e3] at h3
      refine A_skip ?_; refine T_n ?_; refine A_seq ?_; refine A_seq ?_
      refine A_draw [[], [], [1], [], [3], [], [5], [5, 6], [0, 1, 2, 3, 4, 5, 6, 7]] [[], [], [40], [], [42], [], [44], [44, 45], [39, 40, 41, 42, 43, 44, 45, 46]] [[40, 41, 42, 43, 44, 45, 46], [39, 42, 43, 44, 45, 46], [39, 42, 43, 44, 45, 46], [39, 40, 41, 44, 45, 46], [39, 40, 41, 44, 45, 46], [39, 40, 41, 42, 43], [39, 40, 41, 42, 43], [39, 40, 41, 42, 43], []] rfl ?_
      refine DR.step (q_ldN rfl rfl rfl rfl rfl rfl) rfl rfl ?_; refine DR.step (q_fldp rfl rfl rfl rfl (by decide)) rfl rfl ?_; refine DR.step (q_ld1 rfl rfl rfl rfl rfl) rfl rfl ?_
      refine DR.step (q_fldp rfl rfl rfl rfl (by decide)) rfl rfl ?_; refine DR.step (q_ld1 rfl rfl rfl rfl rfl) rfl rfl ?_; refine DR.step (q_fldp rfl rfl rfl rfl (by decide)) rfl rfl ?_
      refine DR.step (q_ld1 rfl rfl rfl rfl rfl) rfl rfl ?_; refine DR.step (q_call0 rfl rfl (hsz) rfl) rfl rfl ?_; refine DR.step (q_call0 rfl rfl (h3) rfl) rfl rfl ?_
      refine DR.stop (by kernel_rfl) (by kernel_rfl) ?_
      refine L_nil ?_; refine T_n ?_; refine A_ifF rfl ?_; refine A_skip ?_; refine T_n ?_; refine A_seq ?_; refine A_seq ?_; refine A_region ?_
      refine M0 (q_fldp rfl rfl rfl rfl (by decide)) rfl rfl ?_; refine M0 (q_ld1 rfl rfl rfl rfl rfl) rfl rfl ?_; refine M0 (q_call0 rfl rfl (I_between b.VX (-15) 15) rfl) rfl rfl ?_
      refine M0 (q_not rfl rfl rfl) rfl rfl ?_; refine M0 (q_moveC rfl rfl rfl) rfl rfl ?_; refine M0 (Qt.grdF rfl rfl rfl .stop (fun hgrd => q_fldp rfl rfl rfl rfl (by decide))) rfl rfl ?_
      refine M0 (Qt.grdF rfl rfl rfl (.hit .stop) (fun hgrd => q_ld1 rfl rfl rfl rfl rfl)) rfl rfl ?_
      refine M0 (Qt.grdF rfl rfl rfl (.hit (.hit .stop)) (fun hgrd => q_call0 rfl rfl (I_between b.VY (-15) 15) rfl)) rfl rfl ?_
      refine M0 (Qt.grdF rfl rfl rfl (.hit (.hit (.hit .stop))) (fun hgrd => q_not rfl rfl rfl)) rfl rfl ?_; refine M0 (q_or rfl rfl rfl rfl) rfl rfl ?_; refine L_nil ?_; refine T_n ?_
      refine A_cond rfl (fun h4 => ?_) (fun h4 => ?_)
      · simp only [Bool.or_eq_true, Bool.not_eq_true'] at h4
        rw [show bodyM l n b = false by rw [bodyM]; rcases h4 with h4 | h4 <;> rw [h4] <;> simp]
        refine A_seq ?_; refine A_region ?_; refine M0 (q_assignC rfl rfl rfl) rfl rfl ?_; refine L_nil ?_; refine T_n ?_; refine A_ret ?_; refine T_r ?_; refine F_r ?_
        exact E_tmp rfl rfl (W_end [] (by decide) rfl rfl rfl)
      simp only [Bool.or_eq_false_iff, Bool.not_eq_false'] at h4
      rw [show bodyM l n b = tailM b by rw [bodyM, e1, e2, e3, h4.1, h4.2]; rfl]
      by_cases k0 : b.Kind = 0
      · have hk : decide (b.Kind = 0) = true := decide_eq_true k0
        refine A_skip ?_; refine T_n ?_; refine A_seq ?_; refine A_seq ?_; refine A_region ?_; refine M0 (q_fldp rfl rfl rfl rfl (by decide)) rfl rfl ?_
        refine M0 (q_ld1 rfl rfl rfl rfl rfl) rfl rfl ?_; refine M0 (q_eqlK rfl rfl rfl rfl (by assumption)) rfl rfl ?_; refine L_nil ?_; refine T_n ?_; refine A_ifT rfl ?_; refine A_seq ?_
        refine A_seq ?_; refine A_region ?_; refine M0 (q_fldp rfl rfl rfl rfl (by decide)) rfl rfl ?_; refine M0 (q_ld1 rfl rfl rfl rfl rfl) rfl rfl ?_
        refine M0 (q_neq rfl rfl rfl rfl) rfl rfl ?_; refine M0 (q_moveC rfl rfl rfl) rfl rfl ?_
        refine M0 (Qt.grdT rfl rfl rfl .stop (fun hgrd => q_fldp rfl rfl rfl rfl (by decide))) rfl rfl ?_
        refine M0 (Qt.grdT rfl rfl rfl (.hit .stop) (fun hgrd => q_ld1 rfl rfl rfl rfl rfl)) rfl rfl ?_
        refine M0 (Qt.grdT rfl rfl rfl (.hit (.hit .stop)) (fun hgrd => q_neq rfl rfl rfl rfl)) rfl rfl ?_; refine M0 (q_and rfl rfl rfl rfl) rfl rfl ?_
        refine M0 (q_moveC rfl rfl rfl) rfl rfl ?_; refine M0 (Qt.grdF rfl rfl rfl .stop (fun hgrd => q_fldp rfl rfl rfl rfl (by decide))) rfl rfl ?_
        refine M0 (Qt.grdF rfl rfl rfl (.hit .stop) (fun hgrd => q_ld1 rfl rfl rfl rfl rfl)) rfl rfl ?_
        refine M0 (Qt.grdF rfl rfl rfl (.hit (.hit .stop)) (fun hgrd => q_call0 rfl rfl (I_between b.Life 0 3) rfl)) rfl rfl ?_
        refine M0 (Qt.grdF rfl rfl rfl (.hit (.hit (.hit .stop))) (fun hgrd => q_not rfl rfl rfl)) rfl rfl ?_; refine M0 (q_or rfl rfl rfl rfl) rfl rfl ?_; refine L_nil ?_; refine T_n ?_
        refine A_cond rfl (fun h => ?_) (fun h => ?_)
        · rw [show tailM b = false by
            rw [tailM, if_pos k0]
            simp only [Bool.or_eq_true, Bool.and_eq_true, decide_eq_true_eq, Bool.not_eq_true'] at h
            rcases h with h | h
            · rw [decide_eq_false (by omega)]; rfl
            · rw [h]; simp]
          refine A_seq ?_; refine A_region ?_; refine M0 (q_assignC rfl rfl rfl) rfl rfl ?_; refine L_nil ?_; refine T_n ?_; refine A_ret ?_; refine T_r ?_; refine T_r ?_; refine F_r ?_
          exact E_tmp rfl rfl (W_end [] (by decide) rfl rfl rfl)
        simp only [Bool.or_eq_false_iff, Bool.and_eq_false_iff, decide_eq_false_iff_not, Bool.not_eq_false'] at h
        have hlf := inR_iff.1 h.2
        have ht : tailM b = if b.Life = 0 then inR b.Timer 1 20 else inR b.Timer 0 12 := by
          rw [tailM, if_pos k0, decide_eq_true (by omega), h.2]; rfl
        by_cases l0 : b.Life = 0
        · have hk2 : decide (0 < b.Life) = false := decide_eq_false (by omega)
          rw [ht, if_pos l0]
          refine A_skip ?_; refine T_n ?_; refine A_seq ?_; refine A_seq ?_; refine A_region ?_; refine M0 (q_fldp rfl rfl rfl rfl (by decide)) rfl rfl ?_
          refine M0 (q_ld1 rfl rfl rfl rfl rfl) rfl rfl ?_; refine M0 (q_gtrK rfl rfl rfl rfl (by assumption)) rfl rfl ?_; refine L_nil ?_; refine T_n ?_; refine A_ifF rfl ?_; refine A_skip ?_
          refine T_n ?_; refine A_seq ?_; refine A_region ?_; refine M0 (q_fldp rfl rfl rfl rfl (by decide)) rfl rfl ?_; refine M0 (q_ld1 rfl rfl rfl rfl rfl) rfl rfl ?_
          refine M0 (q_call0 rfl rfl (I_between b.Timer 1 20) rfl) rfl rfl ?_; refine M0 (q_assignC rfl rfl rfl) rfl rfl ?_; refine L_nil ?_; refine T_n ?_; refine A_ret ?_; refine T_r ?_; refine F_r ?_
          exact E_tmp rfl rfl (W_end [] (by decide) rfl rfl rfl)
        · have hk2 : decide (0 < b.Life) = true := decide_eq_true (by omega)
          rw [ht, if_neg l0]
          refine A_skip ?_; refine T_n ?_; refine A_seq ?_; refine A_seq ?_; refine A_region ?_; refine M0 (q_fldp rfl rfl rfl rfl (by decide)) rfl rfl ?_
          refine M0 (q_ld1 rfl rfl rfl rfl rfl) rfl rfl ?_; refine M0 (q_gtrK rfl rfl rfl rfl (by assumption)) rfl rfl ?_; refine L_nil ?_; refine T_n ?_; refine A_ifT rfl ?_; refine A_seq ?_
          refine A_region ?_; refine M0 (q_fldp rfl rfl rfl rfl (by decide)) rfl rfl ?_; refine M0 (q_ld1 rfl rfl rfl rfl rfl) rfl rfl ?_
          refine M0 (q_call0 rfl rfl (I_between b.Timer 0 12) rfl) rfl rfl ?_; refine M0 (q_assignC rfl rfl rfl) rfl rfl ?_; refine L_nil ?_; refine T_n ?_; refine A_ret ?_; refine T_r ?_; refine T_r ?_
          refine F_r ?_
          exact E_tmp rfl rfl (W_end [] (by decide) rfl rfl rfl)
      have hk : decide (b.Kind = 0) = false := decide_eq_false k0
      refine A_skip ?_; refine T_n ?_; refine A_seq ?_; refine A_seq ?_; refine A_region ?_; refine M0 (q_fldp rfl rfl rfl rfl (by decide)) rfl rfl ?_
      refine M0 (q_ld1 rfl rfl rfl rfl rfl) rfl rfl ?_; refine M0 (q_eqlK rfl rfl rfl rfl (by assumption)) rfl rfl ?_; refine L_nil ?_; refine T_n ?_; refine A_ifF rfl ?_; refine A_skip ?_
      refine T_n ?_; refine A_seq ?_; refine A_seq ?_; refine A_region ?_; refine M0 (q_fldp rfl rfl rfl rfl (by decide)) rfl rfl ?_; refine M0 (q_ld1 rfl rfl rfl rfl rfl) rfl rfl ?_
      refine M0 (q_neq rfl rfl rfl rfl) rfl rfl ?_; refine M0 (q_moveC rfl rfl rfl) rfl rfl ?_
      refine M0 (Qt.grdF rfl rfl rfl .stop (fun hgrd => q_fldp rfl rfl rfl rfl (by decide))) rfl rfl ?_
      refine M0 (Qt.grdF rfl rfl rfl (.hit .stop) (fun hgrd => q_ld1 rfl rfl rfl rfl rfl)) rfl rfl ?_
      refine M0 (Qt.grdF rfl rfl rfl (.hit (.hit .stop)) (fun hgrd => q_neq rfl rfl rfl rfl)) rfl rfl ?_; refine M0 (q_or rfl rfl rfl rfl) rfl rfl ?_; refine L_nil ?_; refine T_n ?_
      refine A_cond rfl (fun h5 => ?_) (fun h5 => ?_)
      · simp only [Bool.or_eq_true, decide_eq_true_eq] at h5
        rw [show tailM b = false by
          rw [tailM, if_neg k0]
          split
          · rw [decide_eq_false (by omega)]; rfl
          · exact decide_eq_false (by omega)]
        refine A_seq ?_; refine A_region ?_; refine M0 (q_assignC rfl rfl rfl) rfl rfl ?_; refine L_nil ?_; refine T_n ?_; refine A_ret ?_; refine T_r ?_; refine F_r ?_
        exact E_tmp rfl rfl (W_end [] (by decide) rfl rfl rfl)
      simp only [Bool.or_eq_false_iff, decide_eq_false_iff_not] at h5
      by_cases k1 : b.Kind = 1
      · have hk1 : decide (b.Kind = 1) = true := decide_eq_true k1
        rw [show tailM b = inR b.Timer 1 25 by rw [tailM, if_neg k0, if_pos k1, decide_eq_true (by omega)]; rfl]
        refine A_skip ?_; refine T_n ?_; refine A_seq ?_; refine A_seq ?_; refine A_region ?_; refine M0 (q_fldp rfl rfl rfl rfl (by decide)) rfl rfl ?_
        refine M0 (q_ld1 rfl rfl rfl rfl rfl) rfl rfl ?_; refine M0 (q_eqlK rfl rfl rfl rfl (by assumption)) rfl rfl ?_; refine L_nil ?_; refine T_n ?_; refine A_ifT rfl ?_; refine A_seq ?_
        refine A_region ?_; refine M0 (q_fldp rfl rfl rfl rfl (by decide)) rfl rfl ?_; refine M0 (q_ld1 rfl rfl rfl rfl rfl) rfl rfl ?_
        refine M0 (q_call0 rfl rfl (I_between b.Timer 1 25) rfl) rfl rfl ?_; refine M0 (q_assignC rfl rfl rfl) rfl rfl ?_; refine L_nil ?_; refine T_n ?_; refine A_ret ?_; refine T_r ?_; refine F_r ?_
        exact E_tmp rfl rfl (W_end [] (by decide) rfl rfl rfl)
      · have hk1 : decide (b.Kind = 1) = false := decide_eq_false k1
        rw [show tailM b = decide (b.Timer = 0) by rw [tailM, if_neg k0, if_neg k1]; exact decide_eq_decide.2 (by omega)]
        refine A_skip ?_; refine T_n ?_; refine A_seq ?_; refine A_seq ?_; refine A_region ?_; refine M0 (q_fldp rfl rfl rfl rfl (by decide)) rfl rfl ?_
        refine M0 (q_ld1 rfl rfl rfl rfl rfl) rfl rfl ?_; refine M0 (q_eqlK rfl rfl rfl rfl (by assumption)) rfl rfl ?_; refine L_nil ?_; refine T_n ?_; refine A_ifF rfl ?_; refine A_skip ?_
        refine T_n ?_; refine A_seq ?_; refine A_region ?_; refine M0 (q_fldp rfl rfl rfl rfl (by decide)) rfl rfl ?_; refine M0 (q_ld1 rfl rfl rfl rfl rfl) rfl rfl ?_
        refine M0 (q_eql rfl rfl rfl rfl) rfl rfl ?_; refine M0 (q_assignC rfl rfl rfl) rfl rfl ?_; refine L_nil ?_; refine T_n ?_; refine A_ret ?_; refine F_r ?_
        exact E_tmp rfl rfl (W_end [] (by decide) rfl rfl rfl)
end Go.Proofs.YtkfnaniegldfaaaDoor
end

section
set_option linter.unusedSimpArgs false
set_option linter.unusedVariables false
set_option maxRecDepth 8000
namespace Go.Proofs.YtkfnaniegldfaaaDoor
open Go.RowKit

noncomputable def bodyAt (l : TLevel) (n k : Nat) (b : TBody) : Bool := bodyM l n b && (if k < n then decide (b.Kind = 0 ∧ b.Owner = k) else decide (b.Kind ≠ 0))
def bodiesOk (l : TLevel) (n : Nat) (bs : List TBody) : Prop := ∀ (k : Nat) (hk : k < bs.length), bodyAt l n k bs[k] = true
def scoresOk (ss : List Int) : Bool := ss.all fun x => inR x 0 1000000
noncomputable def worldOk (w : TWorld) : Bool := @decide (levelOk w.Level = true ∧ inR w.Tick 0 100000 = true ∧ inR w.Seed 0 65535 = true ∧ (1 ≤ w.Scores.length ∧ w.Scores.length ≤ 4) ∧ scoresOk w.Scores = true ∧ (w.Scores.length ≤ w.Bodies.length ∧ w.Bodies.length ≤ 24) ∧ bodiesOk w.Level w.Scores.length w.Bodies) (Classical.propDecidable _)
theorem worldOk_T {w : TWorld} (h : levelOk w.Level = true ∧ inR w.Tick 0 100000 = true ∧ inR w.Seed 0 65535 = true ∧ (1 ≤ w.Scores.length ∧ w.Scores.length ≤ 4) ∧ scoresOk w.Scores = true ∧ (w.Scores.length ≤ w.Bodies.length ∧ w.Bodies.length ≤ 24) ∧ bodiesOk w.Level w.Scores.length w.Bodies) : worldOk w = true := @decide_eq_true _ (Classical.propDecidable _) h
theorem worldOk_F {w : TWorld} (h : ¬ (levelOk w.Level = true ∧ inR w.Tick 0 100000 = true ∧ inR w.Seed 0 65535 = true ∧ (1 ≤ w.Scores.length ∧ w.Scores.length ≤ 4) ∧ scoresOk w.Scores = true ∧ (w.Scores.length ≤ w.Bodies.length ∧ w.Bodies.length ≤ 24) ∧ bodiesOk w.Level w.Scores.length w.Bodies)) : worldOk w = false := @decide_eq_false _ (Classical.propDecidable _) h
theorem worldOk_spec {w : TWorld} (h : worldOk w = true) : levelOk w.Level = true ∧ inR w.Tick 0 100000 = true ∧ inR w.Seed 0 65535 = true ∧ (1 ≤ w.Scores.length ∧ w.Scores.length ≤ 4) ∧ scoresOk w.Scores = true ∧ (w.Scores.length ≤ w.Bodies.length ∧ w.Bodies.length ≤ 24) ∧ bodiesOk w.Level w.Scores.length w.Bodies := @of_decide_eq_true _ (Classical.propDecidable _) h
theorem score_no {ss : List Int} {k : Nat} (h : k < ss.length) (hn : inR ss[k] 0 1000000 = false) : scoresOk ss = false := by
  rw [scoresOk, ← Bool.not_eq_true, List.all_eq_true]
  intro hh
  rw [hh _ (List.getElem_mem h)] at hn
  cases hn
set_option maxHeartbeats 8000000 in
theorem I_WorldOk (x : TWorld) (hg : Enc.gd x) : Con Tryd.prog 43 [] [ag x] [] (B (worldOk x)) := by
  obtain ⟨gL, gT, gS, gSc, gB⟩ := hg
  have g1 := gSc.1
  have g2 := gB.1
  have hls := els_len x.Scores
  have hlb := els_len x.Bodies
  have hc := I_LevelOk x.Level gL
  refine Con.of Tryd.func43 rfl Tryd.ntmps43 rfl (fun E => ?_)
  refine A_seq ?_; refine A_region ?_; refine M1 (q_boxN rfl rfl rfl rfl) rfl rfl ?_; refine M0 (q_assignC rfl rfl rfl) rfl rfl ?_; refine L_nil ?_; refine T_n ?_; refine A_seq ?_; refine A_seq ?_
  refine A_region ?_; refine M0 (q_fldp rfl rfl rfl rfl (by decide)) rfl rfl ?_; refine M0 (q_ldN rfl rfl rfl rfl rfl rfl) rfl rfl ?_; refine M0 (q_call0 rfl rfl (hc) rfl) rfl rfl ?_
  refine M0 (q_not rfl rfl rfl) rfl rfl ?_; refine M0 (q_moveC rfl rfl rfl) rfl rfl ?_; refine M0 (Qt.grdF rfl rfl rfl .stop (fun hgrd => q_fldp rfl rfl rfl rfl (by decide))) rfl rfl ?_
  refine M0 (Qt.grdF rfl rfl rfl (.hit .stop) (fun hgrd => q_ld1 rfl rfl rfl rfl rfl)) rfl rfl ?_
  refine M0 (Qt.grdF rfl rfl rfl (.hit (.hit .stop)) (fun hgrd => q_call0 rfl rfl (I_between x.Tick 0 100000) rfl)) rfl rfl ?_
  refine M0 (Qt.grdF rfl rfl rfl (.hit (.hit (.hit .stop))) (fun hgrd => q_not rfl rfl rfl)) rfl rfl ?_; refine M0 (q_or rfl rfl rfl rfl) rfl rfl ?_
  refine M0 (q_moveC rfl rfl rfl) rfl rfl ?_; refine M0 (Qt.grdF rfl rfl rfl .stop (fun hgrd => q_fldp rfl rfl rfl rfl (by decide))) rfl rfl ?_
  refine M0 (Qt.grdF rfl rfl rfl (.hit .stop) (fun hgrd => q_ld1 rfl rfl rfl rfl rfl)) rfl rfl ?_
  refine M0 (Qt.grdF rfl rfl rfl (.hit (.hit .stop)) (fun hgrd => q_call0 rfl rfl (I_between x.Seed 0 65535) rfl)) rfl rfl ?_
  refine M0 (Qt.grdF rfl rfl rfl (.hit (.hit (.hit .stop))) (fun hgrd => q_not rfl rfl rfl)) rfl rfl ?_; refine M0 (q_or rfl rfl rfl rfl) rfl rfl ?_; refine L_nil ?_; refine T_n ?_
  refine A_cond rfl (fun h => ?_) (fun h => ?_)
  · simp only [Bool.or_eq_true, Bool.not_eq_true'] at h
    rw [worldOk_F (fun hh => by rcases h with (h | h) | h; rw [hh.1] at h; cases h; rw [hh.2.1] at h; cases h; rw [hh.2.2.1] at h; cases h)]
    refine A_seq ?_; refine A_region ?_; refine M0 (q_assignC rfl rfl rfl) rfl rfl ?_; refine L_nil ?_; refine T_n ?_; refine A_ret ?_; refine T_r ?_; refine F_r ?_
    exact E_tmp rfl rfl (W_end [] (by decide) rfl rfl rfl)
  simp only [Bool.or_eq_false_iff, Bool.not_eq_false'] at h
  obtain ⟨⟨hL, hT⟩, hS⟩ := h
  refine A_skip ?_; refine T_n ?_; refine A_seq ?_; refine A_region ?_; refine M0 (q_fldp rfl rfl rfl rfl (by decide)) rfl rfl ?_; refine M0 (q_ld1 rfl rfl rfl rfl rfl) rfl rfl ?_
  refine M0 (q_len rfl rfl rfl) rfl rfl ?_; refine M0 (q_assignC rfl rfl rfl) rfl rfl ?_; refine L_nil ?_; refine T_n ?_; refine A_seq ?_; refine A_seq ?_; refine A_region ?_
  refine M0 (q_moveC rfl rfl rfl) rfl rfl ?_; refine M0 (q_lss rfl rfl rfl rfl) rfl rfl ?_; refine M0 (q_moveC rfl rfl rfl) rfl rfl ?_
  refine M0 (Qt.grdF rfl rfl rfl .stop (fun hgrd => q_moveC rfl rfl rfl)) rfl rfl ?_; refine M0 (Qt.grdF rfl rfl rfl (.hit .stop) (fun hgrd => q_gtr rfl rfl rfl rfl)) rfl rfl ?_
  refine M0 (q_or rfl rfl rfl rfl) rfl rfl ?_; refine L_nil ?_; refine T_n ?_
  refine A_cond rfl (fun h => ?_) (fun h => ?_)
  · simp only [Bool.or_eq_true, decide_eq_true_eq] at h
    rw [worldOk_F (fun hh => by have := hh.2.2.2.1; omega)]
    refine A_seq ?_; refine A_region ?_; refine M0 (q_assignC rfl rfl rfl) rfl rfl ?_; refine L_nil ?_; refine T_n ?_; refine A_ret ?_; refine T_r ?_; refine F_r ?_
    exact E_tmp rfl rfl (W_end [] (by decide) rfl rfl rfl)
  simp only [Bool.or_eq_false_iff, decide_eq_false_iff_not] at h
  refine A_skip ?_; refine T_n ?_; refine A_seq ?_; refine A_seq ?_; refine A_region ?_; refine M0 (q_fldp rfl rfl rfl rfl (by decide)) rfl rfl ?_
  refine M0 (q_ld1 rfl rfl rfl rfl rfl) rfl rfl ?_; refine M0 (q_len rfl rfl rfl) rfl rfl ?_; refine M0 (q_moveC rfl rfl rfl) rfl rfl ?_; refine L_nil ?_; refine T_n ?_; refine A_block ?_
  refine A_loop (fun m st => ∃ k : Nat, k + m = x.Scores.length ∧ ((x.Scores.take k).all (fun y => inR y 0 1000000) = true) ∧ st = (fun k : Nat => (⟨_, [(1, .o (.c (.ptr 0 0))), (3, I (els x.Scores).length), (34, L x.Scores), (35, I (els x.Scores).length), (36, I k)], [.box ((Enc.e x).map (V1.rd []))]⟩ : St)) k) (x.Scores.length) ⟨(fun k : Nat => (⟨_, [(1, .o (.c (.ptr 0 0))), (3, I (els x.Scores).length), (34, L x.Scores), (35, I (els x.Scores).length), (36, I k)], [.box ((Enc.e x).map (V1.rd []))]⟩ : St)) 0, W_go [0] (by decide) rfl (rfl) (.cons rfl (.cons rfl (.cons rfl (.cons rfl (.cons rfl (.nil)))))), 0, by omega, by simp, rfl⟩ ?_
  rintro m_A _ ⟨k, hk_A, hp_A, rfl⟩
  refine A_seq ?_; refine A_region ?_; refine M0 (q_lss rfl rfl rfl rfl) rfl rfl ?_; refine L_nil ?_; refine T_n ?_; refine A_seq ?_
  refine A_cond rfl (fun h3 => ?_) (fun h3 => ?_)
  · have h3 : k < x.Scores.length := by have := of_decide_eq_true h3; omega
    have hat := els_at h3
    cases e : inR x.Scores[k] 0 1000000 with
    | false =>
      have hb := I_between x.Scores[k] 0 1000000
      rw [e] at hb
      rw [worldOk_F (fun hh => by have h9 := hh.2.2.2.2.1; rw [score_no h3 e] at h9; cases h9)]
      refine A_skip ?_; refine T_n ?_; refine A_seq ?_; refine A_block ?_; refine A_seq ?_; refine A_region ?_; refine M0 (q_at rfl rfl rfl rfl (by omega) (by assumption) rfl) rfl rfl ?_
      refine M0 (q_lr1 rfl rfl rfl rfl) rfl rfl ?_; refine M0 (q_assignC rfl rfl rfl) rfl rfl ?_; refine L_nil ?_; refine T_n ?_; refine A_seq ?_; refine A_region ?_
      refine M0 (q_moveC rfl rfl rfl) rfl rfl ?_; refine M0 (q_call0 rfl rfl (hb) rfl) rfl rfl ?_; refine M0 (q_not rfl rfl rfl) rfl rfl ?_; refine L_nil ?_; refine T_n ?_; refine A_ifT rfl ?_
      refine A_seq ?_; refine A_region ?_; refine M0 (q_assignC rfl rfl rfl) rfl rfl ?_; refine L_nil ?_; refine T_n ?_; refine A_ret ?_; refine B_r ?_; refine T_r ?_; refine T_r ?_; refine B_r ?_
      refine T_r ?_; refine F_r ?_
      exact E_tmp rfl rfl (W_end [] (by decide) rfl rfl rfl)
    | true =>
      have hb := I_between x.Scores[k] 0 1000000
      rw [e] at hb
      refine A_skip ?_; refine T_n ?_; refine A_seq ?_; refine A_block ?_; refine A_seq ?_; refine A_region ?_; refine M0 (q_at rfl rfl rfl rfl (by omega) (by assumption) rfl) rfl rfl ?_
      refine M0 (q_lr1 rfl rfl rfl rfl) rfl rfl ?_; refine M0 (q_assignC rfl rfl rfl) rfl rfl ?_; refine L_nil ?_; refine T_n ?_; refine A_seq ?_; refine A_region ?_
      refine M0 (q_moveC rfl rfl rfl) rfl rfl ?_; refine M0 (q_call0 rfl rfl (hb) rfl) rfl rfl ?_; refine M0 (q_not rfl rfl rfl) rfl rfl ?_; refine L_nil ?_; refine T_n ?_; refine A_ifF rfl ?_
      refine A_skip ?_; refine B_n ?_; refine T_n ?_; refine A_region ?_; refine M0 (q_add rfl rfl rfl rfl (by omega)) rfl rfl ?_; refine M0 (q_moveC rfl rfl rfl) rfl rfl ?_; refine L_nil ?_
      refine T_n ?_
      exact ⟨x.Scores.length - (k + 1), by omega, (fun k : Nat => (⟨_, [(1, .o (.c (.ptr 0 0))), (3, I (els x.Scores).length), (34, L x.Scores), (35, I (els x.Scores).length), (36, I k)], [.box ((Enc.e x).map (V1.rd []))]⟩ : St)) (k + 1), W_go [0] (by decide) rfl (rfl) (.cons rfl (.cons rfl (.cons rfl (.cons rfl (.cons rfl (.nil)))))), k + 1, by omega, all_next hp_A h3 e, rfl⟩
  have h3 : ¬ k < x.Scores.length := by have := of_decide_eq_false h3; omega
  have hall : scoresOk x.Scores = true := all_end hp_A (by omega)
  refine A_exit ?_; refine T_x ?_; refine T_x ?_; refine B_xs ?_; refine T_n ?_; refine A_seq ?_; refine A_seq ?_; refine A_region ?_; refine M0 (q_fldp rfl rfl rfl rfl (by decide)) rfl rfl ?_
  refine M0 (q_ld1 rfl rfl rfl rfl rfl) rfl rfl ?_; refine M0 (q_len rfl rfl rfl) rfl rfl ?_; refine M0 (q_moveC rfl rfl rfl) rfl rfl ?_; refine M0 (q_lss rfl rfl rfl rfl) rfl rfl ?_
  refine M0 (q_moveC rfl rfl rfl) rfl rfl ?_; refine M0 (Qt.grdF rfl rfl rfl .stop (fun hgrd => q_fldp rfl rfl rfl rfl (by decide))) rfl rfl ?_
  refine M0 (Qt.grdF rfl rfl rfl (.hit .stop) (fun hgrd => q_ld1 rfl rfl rfl rfl rfl)) rfl rfl ?_
  refine M0 (Qt.grdF rfl rfl rfl (.hit (.hit .stop)) (fun hgrd => q_len rfl rfl rfl)) rfl rfl ?_
  refine M0 (Qt.grdF rfl rfl rfl (.hit (.hit (.hit .stop))) (fun hgrd => q_gtr rfl rfl rfl rfl)) rfl rfl ?_; refine M0 (q_or rfl rfl rfl rfl) rfl rfl ?_; refine L_nil ?_; refine T_n ?_
  refine A_cond rfl (fun h5 => ?_) (fun h5 => ?_)
  · simp only [Bool.or_eq_true, decide_eq_true_eq] at h5
    rw [worldOk_F (fun hh => by have := hh.2.2.2.2.2.1; omega)]
    refine A_seq ?_; refine A_region ?_; refine M0 (q_assignC rfl rfl rfl) rfl rfl ?_; refine L_nil ?_; refine T_n ?_; refine A_ret ?_; refine T_r ?_; refine F_r ?_
    exact E_tmp rfl rfl (W_end [] (by decide) rfl rfl rfl)
  simp only [Bool.or_eq_false_iff, decide_eq_false_iff_not] at h5
  refine A_skip ?_; refine T_n ?_; refine A_seq ?_; refine A_seq ?_; refine A_region ?_; refine M0 (q_fldp rfl rfl rfl rfl (by decide)) rfl rfl ?_
  refine M0 (q_ld1 rfl rfl rfl rfl rfl) rfl rfl ?_; refine M0 (q_len rfl rfl rfl) rfl rfl ?_; refine M0 (q_moveC rfl rfl rfl) rfl rfl ?_; refine L_nil ?_; refine T_n ?_; refine A_block ?_
  refine A_loop (fun m st => ∃ k : Nat, k + m = x.Bodies.length ∧ ((∀ (j : Nat) (hj : j < x.Bodies.length), j < k → bodyAt x.Level x.Scores.length j x.Bodies[j] = true)) ∧ st = (fun k : Nat => (⟨_, [(1, .o (.c (.ptr 0 0))), (3, I (els x.Scores).length), (56, L x.Bodies), (57, I (els x.Bodies).length), (58, I k)], [.box ((Enc.e x).map (V1.rd []))]⟩ : St)) k) (x.Bodies.length) ⟨(fun k : Nat => (⟨_, [(1, .o (.c (.ptr 0 0))), (3, I (els x.Scores).length), (56, L x.Bodies), (57, I (els x.Bodies).length), (58, I k)], [.box ((Enc.e x).map (V1.rd []))]⟩ : St)) 0, W_go [0] (by decide) rfl (rfl) (.cons rfl (.cons rfl (.cons rfl (.cons rfl (.cons rfl (.nil)))))), 0, by omega, fun j hj h0 => by omega, rfl⟩ ?_
  rintro m_C _ ⟨k, hk_C, hp_C, rfl⟩
  refine A_seq ?_; refine A_region ?_; refine M0 (q_lss rfl rfl rfl rfl) rfl rfl ?_; refine L_nil ?_; refine T_n ?_; refine A_seq ?_
  refine A_cond rfl (fun h6 => ?_) (fun h6 => ?_)
  · have h6 : k < x.Bodies.length := by have := of_decide_eq_true h6; omega
    have hat := els_at h6
    have gb := gB.2 _ (List.getElem_mem h6)
    have hb := I_BodyOk x.Level (els x.Scores).length x.Bodies[k] gL gb (by omega)
    rw [hL, Bool.true_and] at hb
    have hlen : ((els x.Scores).length : Int) = (x.Scores.length : Int) := by rw [hls]
    cases e : bodyM x.Level (els x.Scores).length x.Bodies[k] with
    | false =>
      rw [e] at hb
      rw [worldOk_F (fun hh => by have h9 := hh.2.2.2.2.2.2 k h6; rw [bodyAt, ← hlen, e] at h9; cases h9)]
      refine A_skip ?_; refine T_n ?_; refine A_seq ?_; refine A_block ?_; refine A_seq ?_; refine A_region ?_; refine M0 (q_moveC rfl rfl rfl) rfl rfl ?_
      refine M0 (q_at rfl rfl rfl rfl (by omega) (by assumption) rfl) rfl rfl ?_; refine M0 (q_lrN rfl rfl rfl rfl rfl) rfl rfl ?_; refine M1 (q_alloc rfl rfl rfl) rfl rfl ?_
      refine M0 (q_assignC rfl rfl rfl) rfl rfl ?_; refine M_stN rfl rfl rfl rfl rfl rfl rfl rfl rfl ?_; refine L_nil ?_; refine T_n ?_; refine A_seq ?_; refine A_seq ?_; refine A_region ?_
      refine M0 (q_fldp rfl rfl rfl rfl (by decide)) rfl rfl ?_; refine M0 (q_ldN rfl rfl rfl rfl rfl rfl) rfl rfl ?_; refine M0 (q_moveC rfl rfl rfl) rfl rfl ?_
      refine M0 (q_ldN rfl rfl rfl rfl rfl rfl) rfl rfl ?_; refine M0 (q_call0 rfl rfl (hb) rfl) rfl rfl ?_; refine M0 (q_not rfl rfl rfl) rfl rfl ?_; refine L_nil ?_; refine T_n ?_
      refine A_ifT rfl ?_; refine A_seq ?_; refine A_region ?_; refine M0 (q_assignC rfl rfl rfl) rfl rfl ?_; refine L_nil ?_; refine T_n ?_; refine A_ret ?_; refine T_r ?_; refine B_r ?_; refine T_r ?_
      refine T_r ?_; refine B_r ?_; refine T_r ?_; refine F_r ?_
      exact E_tmp rfl rfl (W_end [] (by decide) rfl rfl rfl)
    | true =>
      rw [e] at hb
      rw [hlen] at e
      by_cases hkn : (k : Int) < (els x.Scores).length
      · have hd : decide ((k : Int) < (els x.Scores).length) = true := decide_eq_true hkn
        have hd2 : decide (((els x.Scores).length : Int) ≤ k) = false := decide_eq_false (by omega)
        refine A_skip ?_; refine T_n ?_; refine A_seq ?_; refine A_block ?_; refine A_seq ?_; refine A_region ?_; refine M0 (q_moveC rfl rfl rfl) rfl rfl ?_
        refine M0 (q_at rfl rfl rfl rfl (by omega) (by assumption) rfl) rfl rfl ?_; refine M0 (q_lrN rfl rfl rfl rfl rfl) rfl rfl ?_; refine M1 (q_alloc rfl rfl rfl) rfl rfl ?_
        refine M0 (q_assignC rfl rfl rfl) rfl rfl ?_; refine M_stN rfl rfl rfl rfl rfl rfl rfl rfl rfl ?_; refine L_nil ?_; refine T_n ?_; refine A_seq ?_; refine A_seq ?_; refine A_region ?_
        refine M0 (q_fldp rfl rfl rfl rfl (by decide)) rfl rfl ?_; refine M0 (q_ldN rfl rfl rfl rfl rfl rfl) rfl rfl ?_; refine M0 (q_moveC rfl rfl rfl) rfl rfl ?_
        refine M0 (q_ldN rfl rfl rfl rfl rfl rfl) rfl rfl ?_; refine M0 (q_call0 rfl rfl (hb) rfl) rfl rfl ?_; refine M0 (q_not rfl rfl rfl) rfl rfl ?_; refine L_nil ?_; refine T_n ?_
        refine A_ifF rfl ?_; refine A_skip ?_; refine T_n ?_; refine A_seq ?_; refine A_seq ?_; refine A_region ?_; refine M0 (q_moveC rfl rfl rfl) rfl rfl ?_; refine M0 (q_moveC rfl rfl rfl) rfl rfl ?_
        refine M0 (q_lssK rfl rfl rfl rfl (by assumption)) rfl rfl ?_; refine M0 (q_moveC rfl rfl rfl) rfl rfl ?_; refine M_yes rfl rfl rfl ?_
        refine M0 (q_fldp rfl rfl rfl rfl (by decide)) rfl rfl ?_; refine M_yes rfl rfl rfl ?_; refine M0 (q_ld1 rfl rfl rfl rfl rfl) rfl rfl ?_; refine M_yes rfl rfl rfl ?_
        refine M0 (q_neq rfl rfl rfl rfl) rfl rfl ?_; refine M_yes rfl rfl rfl ?_; refine M0 (q_moveC rfl rfl rfl) rfl rfl ?_
        refine M0 (Qt.grdF rfl rfl rfl .stop (fun hgrd => q_fldp rfl rfl rfl rfl (by decide))) rfl rfl ?_
        refine M0 (Qt.grdF rfl rfl rfl (.hit .stop) (fun hgrd => q_ld1 rfl rfl rfl rfl rfl)) rfl rfl ?_
        refine M0 (Qt.grdF rfl rfl rfl (.hit (.hit .stop)) (fun hgrd => q_moveC rfl rfl rfl)) rfl rfl ?_
        refine M0 (Qt.grdF rfl rfl rfl (.hit (.hit (.hit .stop))) (fun hgrd => q_neq rfl rfl rfl rfl)) rfl rfl ?_; refine M_yes rfl rfl rfl ?_; refine M0 (q_or rfl rfl rfl rfl) rfl rfl ?_
        refine M0 (q_pickT rfl rfl rfl rfl) rfl rfl ?_; refine L_nil ?_; refine T_n ?_
        refine A_cond rfl (fun h7 => ?_) (fun h7 => ?_)
        · simp only [Bool.or_eq_true, decide_eq_true_eq] at h7
          rw [worldOk_F (fun hh => by have h9 := hh.2.2.2.2.2.2 k h6; rw [bodyAt, e, if_pos (by omega)] at h9; have := of_decide_eq_true h9; omega)]
          refine A_seq ?_; refine A_region ?_; refine M0 (q_assignC rfl rfl rfl) rfl rfl ?_; refine L_nil ?_; refine T_n ?_; refine A_ret ?_; refine T_r ?_; refine B_r ?_; refine T_r ?_; refine T_r ?_
          refine B_r ?_; refine T_r ?_; refine F_r ?_
          exact E_tmp rfl rfl (W_end [] (by decide) rfl rfl rfl)
        · simp only [Bool.or_eq_false_iff, decide_eq_false_iff_not] at h7
          refine A_skip ?_; refine T_n ?_; refine A_seq ?_; refine A_region ?_; refine M0 (q_moveC rfl rfl rfl) rfl rfl ?_; refine M0 (q_moveC rfl rfl rfl) rfl rfl ?_
          refine M0 (q_geqK rfl rfl rfl rfl (by assumption)) rfl rfl ?_; refine M0 (q_moveC rfl rfl rfl) rfl rfl ?_; refine M_no rfl rfl rfl rfl rfl rfl ?_; refine M_no rfl rfl rfl rfl rfl rfl ?_
          refine M_no rfl rfl rfl rfl rfl rfl ?_; refine M0 (q_pickF rfl rfl rfl rfl) rfl rfl ?_; refine L_nil ?_; refine T_n ?_; refine A_ifF rfl ?_; refine A_skip ?_; refine B_n ?_; refine T_n ?_
          refine A_region ?_; refine M0 (q_add rfl rfl rfl rfl (by omega)) rfl rfl ?_; refine M0 (q_moveC rfl rfl rfl) rfl rfl ?_; refine L_nil ?_; refine T_n ?_
          exact ⟨x.Bodies.length - (k + 1), by omega, (fun k : Nat => (⟨_, [(1, .o (.c (.ptr 0 0))), (3, I (els x.Scores).length), (56, L x.Bodies), (57, I (els x.Bodies).length), (58, I k)], [.box ((Enc.e x).map (V1.rd []))]⟩ : St)) (k + 1), W_go [0] (by decide) rfl (rfl) (.cons rfl (.cons rfl (.cons rfl (.cons rfl (.cons rfl (.nil)))))), k + 1, by omega, fun j hj h0 => by by_cases hjk : j = k; subst hjk; rw [bodyAt, e, if_pos (by omega)]; exact decide_eq_true (by omega); exact hp_C j hj (by omega), rfl⟩
      · have hd : decide ((k : Int) < (els x.Scores).length) = false := decide_eq_false hkn
        have hd2 : decide (((els x.Scores).length : Int) ≤ k) = true := decide_eq_true (by omega)
        by_cases k0 : x.Bodies[k].Kind = 0
        · have hd3 : decide (x.Bodies[k].Kind = 0) = true := decide_eq_true k0
          rw [worldOk_F (fun hh => by have h9 := hh.2.2.2.2.2.2 k h6; rw [bodyAt, e, if_neg (by omega)] at h9; have := of_decide_eq_true h9; omega)]
          refine A_skip ?_; refine T_n ?_; refine A_seq ?_; refine A_block ?_; refine A_seq ?_; refine A_region ?_; refine M0 (q_moveC rfl rfl rfl) rfl rfl ?_
          refine M0 (q_at rfl rfl rfl rfl (by omega) (by assumption) rfl) rfl rfl ?_; refine M0 (q_lrN rfl rfl rfl rfl rfl) rfl rfl ?_; refine M1 (q_alloc rfl rfl rfl) rfl rfl ?_
          refine M0 (q_assignC rfl rfl rfl) rfl rfl ?_; refine M_stN rfl rfl rfl rfl rfl rfl rfl rfl rfl ?_; refine L_nil ?_; refine T_n ?_; refine A_seq ?_; refine A_seq ?_; refine A_region ?_
          refine M0 (q_fldp rfl rfl rfl rfl (by decide)) rfl rfl ?_; refine M0 (q_ldN rfl rfl rfl rfl rfl rfl) rfl rfl ?_; refine M0 (q_moveC rfl rfl rfl) rfl rfl ?_
          refine M0 (q_ldN rfl rfl rfl rfl rfl rfl) rfl rfl ?_; refine M0 (q_call0 rfl rfl (hb) rfl) rfl rfl ?_; refine M0 (q_not rfl rfl rfl) rfl rfl ?_; refine L_nil ?_; refine T_n ?_
          refine A_ifF rfl ?_; refine A_skip ?_; refine T_n ?_; refine A_seq ?_; refine A_seq ?_; refine A_region ?_; refine M0 (q_moveC rfl rfl rfl) rfl rfl ?_; refine M0 (q_moveC rfl rfl rfl) rfl rfl ?_
          refine M0 (q_lssK rfl rfl rfl rfl (by assumption)) rfl rfl ?_; refine M0 (q_moveC rfl rfl rfl) rfl rfl ?_; refine M_no rfl rfl rfl rfl rfl rfl ?_; refine M_no rfl rfl rfl rfl rfl rfl ?_
          refine M_no rfl rfl rfl rfl rfl rfl ?_; refine M_no rfl rfl rfl rfl rfl rfl ?_; refine M0 (Qt.no2 rfl rfl rfl) rfl rfl ?_; refine M0 (Qt.no2 rfl rfl rfl) rfl rfl ?_
          refine M0 (Qt.no2 rfl rfl rfl) rfl rfl ?_; refine M0 (Qt.no2 rfl rfl rfl) rfl rfl ?_; refine M_no rfl rfl rfl rfl rfl rfl ?_; refine M0 (q_pickF rfl rfl rfl rfl) rfl rfl ?_
          refine L_nil ?_; refine T_n ?_; refine A_ifF rfl ?_; refine A_skip ?_; refine T_n ?_; refine A_seq ?_; refine A_region ?_; refine M0 (q_moveC rfl rfl rfl) rfl rfl ?_
          refine M0 (q_moveC rfl rfl rfl) rfl rfl ?_; refine M0 (q_geqK rfl rfl rfl rfl (by assumption)) rfl rfl ?_; refine M0 (q_moveC rfl rfl rfl) rfl rfl ?_; refine M_yes rfl rfl rfl ?_
          refine M0 (q_fldp rfl rfl rfl rfl (by decide)) rfl rfl ?_; refine M_yes rfl rfl rfl ?_; refine M0 (q_ld1 rfl rfl rfl rfl rfl) rfl rfl ?_; refine M_yes rfl rfl rfl ?_
          refine M0 (q_eqlK rfl rfl rfl rfl (by assumption)) rfl rfl ?_; refine M0 (q_pickT rfl rfl rfl rfl) rfl rfl ?_; refine L_nil ?_; refine T_n ?_; refine A_ifT rfl ?_; refine A_seq ?_
          refine A_region ?_; refine M0 (q_assignC rfl rfl rfl) rfl rfl ?_; refine L_nil ?_; refine T_n ?_; refine A_ret ?_; refine B_r ?_; refine T_r ?_; refine T_r ?_; refine B_r ?_; refine T_r ?_
          refine F_r ?_
          exact E_tmp rfl rfl (W_end [] (by decide) rfl rfl rfl)
        · have hd3 : decide (x.Bodies[k].Kind = 0) = false := decide_eq_false k0
          refine A_skip ?_; refine T_n ?_; refine A_seq ?_; refine A_block ?_; refine A_seq ?_; refine A_region ?_; refine M0 (q_moveC rfl rfl rfl) rfl rfl ?_
          refine M0 (q_at rfl rfl rfl rfl (by omega) (by assumption) rfl) rfl rfl ?_; refine M0 (q_lrN rfl rfl rfl rfl rfl) rfl rfl ?_; refine M1 (q_alloc rfl rfl rfl) rfl rfl ?_
          refine M0 (q_assignC rfl rfl rfl) rfl rfl ?_; refine M_stN rfl rfl rfl rfl rfl rfl rfl rfl rfl ?_; refine L_nil ?_; refine T_n ?_; refine A_seq ?_; refine A_seq ?_; refine A_region ?_
          refine M0 (q_fldp rfl rfl rfl rfl (by decide)) rfl rfl ?_; refine M0 (q_ldN rfl rfl rfl rfl rfl rfl) rfl rfl ?_; refine M0 (q_moveC rfl rfl rfl) rfl rfl ?_
          refine M0 (q_ldN rfl rfl rfl rfl rfl rfl) rfl rfl ?_; refine M0 (q_call0 rfl rfl (hb) rfl) rfl rfl ?_; refine M0 (q_not rfl rfl rfl) rfl rfl ?_; refine L_nil ?_; refine T_n ?_
          refine A_ifF rfl ?_; refine A_skip ?_; refine T_n ?_; refine A_seq ?_; refine A_seq ?_; refine A_region ?_; refine M0 (q_moveC rfl rfl rfl) rfl rfl ?_; refine M0 (q_moveC rfl rfl rfl) rfl rfl ?_
          refine M0 (q_lssK rfl rfl rfl rfl (by assumption)) rfl rfl ?_; refine M0 (q_moveC rfl rfl rfl) rfl rfl ?_; refine M_no rfl rfl rfl rfl rfl rfl ?_; refine M_no rfl rfl rfl rfl rfl rfl ?_
          refine M_no rfl rfl rfl rfl rfl rfl ?_; refine M_no rfl rfl rfl rfl rfl rfl ?_; refine M0 (Qt.no2 rfl rfl rfl) rfl rfl ?_; refine M0 (Qt.no2 rfl rfl rfl) rfl rfl ?_
          refine M0 (Qt.no2 rfl rfl rfl) rfl rfl ?_; refine M0 (Qt.no2 rfl rfl rfl) rfl rfl ?_; refine M_no rfl rfl rfl rfl rfl rfl ?_; refine M0 (q_pickF rfl rfl rfl rfl) rfl rfl ?_
          refine L_nil ?_; refine T_n ?_; refine A_ifF rfl ?_; refine A_skip ?_; refine T_n ?_; refine A_seq ?_; refine A_region ?_; refine M0 (q_moveC rfl rfl rfl) rfl rfl ?_
          refine M0 (q_moveC rfl rfl rfl) rfl rfl ?_; refine M0 (q_geqK rfl rfl rfl rfl (by assumption)) rfl rfl ?_; refine M0 (q_moveC rfl rfl rfl) rfl rfl ?_; refine M_yes rfl rfl rfl ?_
          refine M0 (q_fldp rfl rfl rfl rfl (by decide)) rfl rfl ?_; refine M_yes rfl rfl rfl ?_; refine M0 (q_ld1 rfl rfl rfl rfl rfl) rfl rfl ?_; refine M_yes rfl rfl rfl ?_
          refine M0 (q_eqlK rfl rfl rfl rfl (by assumption)) rfl rfl ?_; refine M0 (q_pickT rfl rfl rfl rfl) rfl rfl ?_; refine L_nil ?_; refine T_n ?_; refine A_ifF rfl ?_; refine A_skip ?_
          refine B_n ?_; refine T_n ?_; refine A_region ?_; refine M0 (q_add rfl rfl rfl rfl (by omega)) rfl rfl ?_; refine M0 (q_moveC rfl rfl rfl) rfl rfl ?_; refine L_nil ?_; refine T_n ?_
          exact ⟨x.Bodies.length - (k + 1), by omega, (fun k : Nat => (⟨_, [(1, .o (.c (.ptr 0 0))), (3, I (els x.Scores).length), (56, L x.Bodies), (57, I (els x.Bodies).length), (58, I k)], [.box ((Enc.e x).map (V1.rd []))]⟩ : St)) (k + 1), W_go [0] (by decide) rfl (rfl) (.cons rfl (.cons rfl (.cons rfl (.cons rfl (.cons rfl (.nil)))))), k + 1, by omega, fun j hj h0 => by by_cases hjk : j = k; subst hjk; rw [bodyAt, e, if_neg (by omega)]; exact decide_eq_true k0; exact hp_C j hj (by omega), rfl⟩
  have h6 : ¬ k < x.Bodies.length := by have := of_decide_eq_false h6; omega
  rw [worldOk_T ⟨hL, hT, hS, by omega, hall, by omega, fun j hj => hp_C j hj (by omega)⟩]
  refine A_exit ?_; refine T_x ?_; refine T_x ?_; refine B_xs ?_; refine T_n ?_; refine A_seq ?_; refine A_region ?_; refine M0 (q_assignC rfl rfl rfl) rfl rfl ?_; refine L_nil ?_; refine T_n ?_
  refine A_ret ?_; refine F_r ?_
  exact E_tmp rfl rfl (W_end [] (by decide) rfl rfl rfl)
set_option maxHeartbeats 8000000 in
theorem S_WorldOk (x : TWorld) (hg : Enc.gd x) : Con Tryd.prog 38 [] [ag x] [] (B (worldOk x)) := by
  obtain ⟨gL, gT, gS, gSc, gB⟩ := hg
  have g1 := gSc.1
  have g2 := gB.1
  have hls := els_len x.Scores
  have hlb := els_len x.Bodies
  have hc := S_LevelOk x.Level gL
  refine Con.of Tryd.func38 rfl Tryd.ntmps38 rfl (fun E => ?_)
  refine A_seq ?_; refine A_region ?_; refine M1 (q_boxN rfl rfl rfl rfl) rfl rfl ?_; refine M0 (q_assignC rfl rfl rfl) rfl rfl ?_; refine L_nil ?_; refine T_n ?_; refine A_seq ?_
  refine A_region ?_; refine M0 (q_fldp rfl rfl rfl rfl (by decide)) rfl rfl ?_; refine M0 (q_ld1 rfl rfl rfl rfl rfl) rfl rfl ?_; refine M0 (q_len rfl rfl rfl) rfl rfl ?_
  refine M0 (q_assignC rfl rfl rfl) rfl rfl ?_; refine L_nil ?_; refine T_n ?_; refine A_seq ?_; refine A_seq ?_; refine A_region ?_; refine M0 (q_fldp rfl rfl rfl rfl (by decide)) rfl rfl ?_
  refine M0 (q_ldN rfl rfl rfl rfl rfl rfl) rfl rfl ?_; refine M0 (q_call0 rfl rfl (hc) rfl) rfl rfl ?_; refine M0 (q_not rfl rfl rfl) rfl rfl ?_
  refine M0 (q_moveC rfl rfl rfl) rfl rfl ?_; refine M0 (Qt.grdF rfl rfl rfl .stop (fun hgrd => q_fldp rfl rfl rfl rfl (by decide))) rfl rfl ?_
  refine M0 (Qt.grdF rfl rfl rfl (.hit .stop) (fun hgrd => q_ld1 rfl rfl rfl rfl rfl)) rfl rfl ?_
  refine M0 (Qt.grdF rfl rfl rfl (.hit (.hit .stop)) (fun hgrd => q_call0 rfl rfl (S_in x.Tick 0 100000) rfl)) rfl rfl ?_
  refine M0 (Qt.grdF rfl rfl rfl (.hit (.hit (.hit .stop))) (fun hgrd => q_not rfl rfl rfl)) rfl rfl ?_; refine M0 (q_or rfl rfl rfl rfl) rfl rfl ?_
  refine M0 (q_moveC rfl rfl rfl) rfl rfl ?_; refine M0 (Qt.grdF rfl rfl rfl .stop (fun hgrd => q_fldp rfl rfl rfl rfl (by decide))) rfl rfl ?_
  refine M0 (Qt.grdF rfl rfl rfl (.hit .stop) (fun hgrd => q_ld1 rfl rfl rfl rfl rfl)) rfl rfl ?_
  refine M0 (Qt.grdF rfl rfl rfl (.hit (.hit .stop)) (fun hgrd => q_call0 rfl rfl (S_in x.Seed 0 65535) rfl)) rfl rfl ?_
  refine M0 (Qt.grdF rfl rfl rfl (.hit (.hit (.hit .stop))) (fun hgrd => q_not rfl rfl rfl)) rfl rfl ?_; refine M0 (q_or rfl rfl rfl rfl) rfl rfl ?_
  refine M0 (q_moveC rfl rfl rfl) rfl rfl ?_; refine M0 (Qt.grdF rfl rfl rfl .stop (fun hgrd => q_moveC rfl rfl rfl)) rfl rfl ?_
  refine M0 (Qt.grdF rfl rfl rfl (.hit .stop) (fun hgrd => q_call0 rfl rfl (S_in (els x.Scores).length 1 4) rfl)) rfl rfl ?_
  refine M0 (Qt.grdF rfl rfl rfl (.hit (.hit .stop)) (fun hgrd => q_not rfl rfl rfl)) rfl rfl ?_; refine M0 (q_or rfl rfl rfl rfl) rfl rfl ?_; refine M0 (q_moveC rfl rfl rfl) rfl rfl ?_
  refine M0 (Qt.grdF rfl rfl rfl .stop (fun hgrd => q_fldp rfl rfl rfl rfl (by decide))) rfl rfl ?_
  refine M0 (Qt.grdF rfl rfl rfl (.hit .stop) (fun hgrd => q_ld1 rfl rfl rfl rfl rfl)) rfl rfl ?_
  refine M0 (Qt.grdF rfl rfl rfl (.hit (.hit .stop)) (fun hgrd => q_len rfl rfl rfl)) rfl rfl ?_
  refine M0 (Qt.grdF rfl rfl rfl (.hit (.hit (.hit .stop))) (fun hgrd => q_moveC rfl rfl rfl)) rfl rfl ?_
  refine M0 (Qt.grdF rfl rfl rfl (.hit (.hit (.hit (.hit .stop)))) (fun hgrd => q_call0 rfl rfl (S_in (els x.Bodies).length (els x.Scores).length 24) rfl)) rfl rfl ?_
  refine M0 (Qt.grdF rfl rfl rfl (.hit (.hit (.hit (.hit (.hit .stop))))) (fun hgrd => q_not rfl rfl rfl)) rfl rfl ?_; refine M0 (q_or rfl rfl rfl rfl) rfl rfl ?_; refine L_nil ?_
  refine T_n ?_
  refine A_cond rfl (fun h => ?_) (fun h => ?_)
  · simp only [Bool.or_eq_true, Bool.not_eq_true'] at h
    rw [worldOk_F (fun hh => by rcases h with (((h | h) | h) | h) | h; rw [hh.1] at h; cases h; rw [hh.2.1] at h; cases h; rw [hh.2.2.1] at h; cases h; rw [← Bool.not_eq_true, inR_iff] at h; have := hh.2.2.2.1; omega; rw [← Bool.not_eq_true, inR_iff] at h; have := hh.2.2.2.2.2.1; omega)]
    refine A_seq ?_; refine A_region ?_; refine M0 (q_assignC rfl rfl rfl) rfl rfl ?_; refine L_nil ?_; refine T_n ?_; refine A_ret ?_; refine T_r ?_; refine F_r ?_
    exact E_tmp rfl rfl (W_end [] (by decide) rfl rfl rfl)
  simp only [Bool.or_eq_false_iff, Bool.not_eq_false'] at h
  obtain ⟨⟨⟨⟨hL, hT⟩, hS⟩, hN⟩, hB⟩ := h
  have hN := inR_iff.1 hN
  have hB := inR_iff.1 hB
  refine A_skip ?_; refine T_n ?_; refine A_seq ?_; refine A_seq ?_; refine A_region ?_; refine M0 (q_assignC rfl rfl rfl) rfl rfl ?_; refine L_nil ?_; refine T_n ?_; refine A_block ?_
  refine A_loop (fun m st => ∃ k : Nat, k + m = x.Scores.length ∧ ((x.Scores.take k).all (fun y => inR y 0 1000000) = true) ∧ st = (fun k : Nat => (⟨_, [(1, .o (.c (.ptr 0 0))), (3, I (els x.Scores).length), (4, I k)], [.box ((Enc.e x).map (V1.rd []))]⟩ : St)) k) (x.Scores.length) ⟨(fun k : Nat => (⟨_, [(1, .o (.c (.ptr 0 0))), (3, I (els x.Scores).length), (4, I k)], [.box ((Enc.e x).map (V1.rd []))]⟩ : St)) 0, W_go [0] (by decide) rfl (rfl) (.cons rfl (.cons rfl (.cons rfl (.nil)))), 0, by omega, by simp, rfl⟩ ?_
  rintro m_A _ ⟨k, hk_A, hp_A, rfl⟩
  refine A_seq ?_; refine A_seq ?_; refine A_region ?_; refine M0 (q_moveC rfl rfl rfl) rfl rfl ?_; refine M0 (q_moveC rfl rfl rfl) rfl rfl ?_; refine M0 (q_lss rfl rfl rfl rfl) rfl rfl ?_
  refine L_nil ?_; refine T_n ?_
  refine A_cond rfl (fun h3 => ?_) (fun h3 => ?_)
  · have h3 : k < x.Scores.length := by have := of_decide_eq_true h3; omega
    have hat := els_at h3
    have hb := S_in x.Scores[k] 0 1000000
    cases e : inR x.Scores[k] 0 1000000 with
    | false =>
      rw [e] at hb
      rw [worldOk_F (fun hh => by have h9 := hh.2.2.2.2.1; rw [score_no h3 e] at h9; cases h9)]
      refine A_skip ?_; refine T_n ?_; refine A_seq ?_; refine A_block ?_; refine A_seq ?_; refine A_region ?_; refine M0 (q_fldp rfl rfl rfl rfl (by decide)) rfl rfl ?_
      refine M0 (q_ld1 rfl rfl rfl rfl rfl) rfl rfl ?_; refine M0 (q_moveC rfl rfl rfl) rfl rfl ?_; refine M0 (q_at rfl rfl rfl rfl (by omega) (by assumption) rfl) rfl rfl ?_
      refine M0 (q_lr1 rfl rfl rfl rfl) rfl rfl ?_; refine M0 (q_call0 rfl rfl (hb) rfl) rfl rfl ?_; refine M0 (q_not rfl rfl rfl) rfl rfl ?_; refine L_nil ?_; refine T_n ?_; refine A_ifT rfl ?_
      refine A_seq ?_; refine A_region ?_; refine M0 (q_assignC rfl rfl rfl) rfl rfl ?_; refine L_nil ?_; refine T_n ?_; refine A_ret ?_; refine B_r ?_; refine T_r ?_; refine T_r ?_; refine B_r ?_
      refine T_r ?_; refine F_r ?_
      exact E_tmp rfl rfl (W_end [] (by decide) rfl rfl rfl)
    | true =>
      rw [e] at hb
      refine A_skip ?_; refine T_n ?_; refine A_seq ?_; refine A_block ?_; refine A_seq ?_; refine A_region ?_; refine M0 (q_fldp rfl rfl rfl rfl (by decide)) rfl rfl ?_
      refine M0 (q_ld1 rfl rfl rfl rfl rfl) rfl rfl ?_; refine M0 (q_moveC rfl rfl rfl) rfl rfl ?_; refine M0 (q_at rfl rfl rfl rfl (by omega) (by assumption) rfl) rfl rfl ?_
      refine M0 (q_lr1 rfl rfl rfl rfl) rfl rfl ?_; refine M0 (q_call0 rfl rfl (hb) rfl) rfl rfl ?_; refine M0 (q_not rfl rfl rfl) rfl rfl ?_; refine L_nil ?_; refine T_n ?_; refine A_ifF rfl ?_
      refine A_skip ?_; refine B_n ?_; refine T_n ?_; refine A_region ?_; refine M0 (q_moveC rfl rfl rfl) rfl rfl ?_; refine M0 (q_add rfl rfl rfl rfl (by omega)) rfl rfl ?_
      refine M0 (q_assignC rfl rfl rfl) rfl rfl ?_; refine L_nil ?_; refine T_n ?_
      exact ⟨x.Scores.length - (k + 1), by omega, (fun k : Nat => (⟨_, [(1, .o (.c (.ptr 0 0))), (3, I (els x.Scores).length), (4, I k)], [.box ((Enc.e x).map (V1.rd []))]⟩ : St)) (k + 1), W_go [0] (by decide) rfl (rfl) (.cons rfl (.cons rfl (.cons rfl (.nil)))), k + 1, by omega, all_next hp_A h3 e, rfl⟩
  have h3 : ¬ k < x.Scores.length := by have := of_decide_eq_false h3; omega
  have hall : scoresOk x.Scores = true := all_end hp_A (by omega)
  refine A_exit ?_; refine T_x ?_; refine T_x ?_; refine B_xs ?_; refine T_n ?_; refine A_seq ?_; refine A_seq ?_; refine A_region ?_; refine M0 (q_assignC rfl rfl rfl) rfl rfl ?_; refine L_nil ?_
  refine T_n ?_; refine A_block ?_
  refine A_loop (fun m st => ∃ k : Nat, k + m = x.Bodies.length ∧ ((∀ (j : Nat) (hj : j < x.Bodies.length), j < k → bodyAt x.Level x.Scores.length j x.Bodies[j] = true)) ∧ st = (fun k : Nat => (⟨_, [(1, .o (.c (.ptr 0 0))), (3, I (els x.Scores).length), (5, I k)], [.box ((Enc.e x).map (V1.rd []))]⟩ : St)) k) (x.Bodies.length) ⟨(fun k : Nat => (⟨_, [(1, .o (.c (.ptr 0 0))), (3, I (els x.Scores).length), (5, I k)], [.box ((Enc.e x).map (V1.rd []))]⟩ : St)) 0, W_go [0] (by decide) rfl (rfl) (.cons rfl (.cons rfl (.cons rfl (.nil)))), 0, by omega, fun j hj h0 => by omega, rfl⟩ ?_
  rintro m_C _ ⟨k, hk_C, hp_C, rfl⟩
  refine A_seq ?_; refine A_seq ?_; refine A_region ?_; refine M0 (q_moveC rfl rfl rfl) rfl rfl ?_; refine M0 (q_fldp rfl rfl rfl rfl (by decide)) rfl rfl ?_
  refine M0 (q_ld1 rfl rfl rfl rfl rfl) rfl rfl ?_; refine M0 (q_len rfl rfl rfl) rfl rfl ?_; refine M0 (q_lss rfl rfl rfl rfl) rfl rfl ?_; refine L_nil ?_; refine T_n ?_
  refine A_cond rfl (fun h6 => ?_) (fun h6 => ?_)
  · have h6 : k < x.Bodies.length := by have := of_decide_eq_true h6; omega
    have hat := els_at h6
    have gb := gB.2 _ (List.getElem_mem h6)
    have hb := S_l02Body x.Level (els x.Scores).length x.Bodies[k] gL hL gb (by omega)
    have hlen : ((els x.Scores).length : Int) = (x.Scores.length : Int) := by rw [hls]
    cases e : bodyM x.Level (els x.Scores).length x.Bodies[k] with
    | false =>
      rw [e] at hb
      rw [worldOk_F (fun hh => by have h9 := hh.2.2.2.2.2.2 k h6; rw [bodyAt, ← hlen, e] at h9; cases h9)]
      refine A_skip ?_; refine T_n ?_; refine A_seq ?_; refine A_block ?_; refine A_seq ?_; refine A_region ?_; refine M0 (q_fldp rfl rfl rfl rfl (by decide)) rfl rfl ?_
      refine M0 (q_ld1 rfl rfl rfl rfl rfl) rfl rfl ?_; refine M0 (q_moveC rfl rfl rfl) rfl rfl ?_; refine M0 (q_at rfl rfl rfl rfl (by omega) (by assumption) rfl) rfl rfl ?_
      refine M0 (q_lrN rfl rfl rfl rfl rfl) rfl rfl ?_; refine M1 (q_alloc rfl rfl rfl) rfl rfl ?_; refine M_stN rfl rfl rfl rfl rfl rfl rfl rfl rfl ?_; refine L_nil ?_; refine T_n ?_
      refine A_seq ?_; refine A_region ?_; refine M0 (q_fldp rfl rfl rfl rfl (by decide)) rfl rfl ?_; refine M0 (q_ldN rfl rfl rfl rfl rfl rfl) rfl rfl ?_
      refine M0 (q_moveC rfl rfl rfl) rfl rfl ?_; refine M0 (q_ldN rfl rfl rfl rfl rfl rfl) rfl rfl ?_; refine M0 (q_call0 rfl rfl (hb) rfl) rfl rfl ?_
      refine M0 (q_not rfl rfl rfl) rfl rfl ?_; refine M0 (q_moveC rfl rfl rfl) rfl rfl ?_; refine M_no rfl rfl rfl rfl rfl rfl ?_; refine M_no rfl rfl rfl rfl rfl rfl ?_
      refine M_no rfl rfl rfl rfl rfl rfl ?_; refine M_no rfl rfl rfl rfl rfl rfl ?_; refine M_no rfl rfl rfl rfl rfl rfl ?_; refine M_no rfl rfl rfl rfl rfl rfl ?_
      refine M_no rfl rfl rfl rfl rfl rfl ?_; refine M0 (q_pickT rfl rfl rfl rfl) rfl rfl ?_; refine M0 (q_moveC rfl rfl rfl) rfl rfl ?_; refine M_no rfl rfl rfl rfl rfl rfl ?_
      refine M_no rfl rfl rfl rfl rfl rfl ?_; refine M_no rfl rfl rfl rfl rfl rfl ?_; refine M_no rfl rfl rfl rfl rfl rfl ?_; refine M0 (Qt.no2 rfl rfl rfl) rfl rfl ?_
      refine M0 (Qt.no2 rfl rfl rfl) rfl rfl ?_; refine M0 (Qt.no2 rfl rfl rfl) rfl rfl ?_; refine M0 (Qt.no2 rfl rfl rfl) rfl rfl ?_; refine M_no rfl rfl rfl rfl rfl rfl ?_
      refine M0 (q_pickT rfl rfl rfl rfl) rfl rfl ?_; refine L_nil ?_; refine T_n ?_; refine A_ifT rfl ?_; refine A_seq ?_; refine A_region ?_; refine M0 (q_assignC rfl rfl rfl) rfl rfl ?_
      refine L_nil ?_; refine T_n ?_; refine A_ret ?_; refine B_r ?_; refine T_r ?_; refine T_r ?_; refine B_r ?_; refine T_r ?_; refine F_r ?_
      exact E_tmp rfl rfl (W_end [] (by decide) rfl rfl rfl)
    | true =>
      rw [e] at hb
      rw [hlen] at e
      by_cases hkn : (k : Int) < (els x.Scores).length
      · have hd : decide ((k : Int) < (els x.Scores).length) = true := decide_eq_true hkn
        by_cases k0 : x.Bodies[k].Kind = 0
        · have hd3 : decide (x.Bodies[k].Kind = 0) = true := decide_eq_true k0
          by_cases ho : x.Bodies[k].Owner ≠ (k : Int)
          · have hd4 : decide (x.Bodies[k].Owner ≠ (k : Int)) = true := decide_eq_true ho
            rw [worldOk_F (fun hh => by have h9 := hh.2.2.2.2.2.2 k h6; rw [bodyAt, e, if_pos (by omega)] at h9; have := of_decide_eq_true h9; omega)]
            refine A_skip ?_; refine T_n ?_; refine A_seq ?_; refine A_block ?_; refine A_seq ?_; refine A_region ?_; refine M0 (q_fldp rfl rfl rfl rfl (by decide)) rfl rfl ?_
            refine M0 (q_ld1 rfl rfl rfl rfl rfl) rfl rfl ?_; refine M0 (q_moveC rfl rfl rfl) rfl rfl ?_; refine M0 (q_at rfl rfl rfl rfl (by omega) (by assumption) rfl) rfl rfl ?_
            refine M0 (q_lrN rfl rfl rfl rfl rfl) rfl rfl ?_; refine M1 (q_alloc rfl rfl rfl) rfl rfl ?_; refine M_stN rfl rfl rfl rfl rfl rfl rfl rfl rfl ?_; refine L_nil ?_; refine T_n ?_
            refine A_seq ?_; refine A_region ?_; refine M0 (q_fldp rfl rfl rfl rfl (by decide)) rfl rfl ?_; refine M0 (q_ldN rfl rfl rfl rfl rfl rfl) rfl rfl ?_
            refine M0 (q_moveC rfl rfl rfl) rfl rfl ?_; refine M0 (q_ldN rfl rfl rfl rfl rfl rfl) rfl rfl ?_; refine M0 (q_call0 rfl rfl (hb) rfl) rfl rfl ?_
            refine M0 (q_not rfl rfl rfl) rfl rfl ?_; refine M0 (q_moveC rfl rfl rfl) rfl rfl ?_; refine M_yes rfl rfl rfl ?_; refine M0 (q_fldp rfl rfl rfl rfl (by decide)) rfl rfl ?_
            refine M_yes rfl rfl rfl ?_; refine M0 (q_ld1 rfl rfl rfl rfl rfl) rfl rfl ?_; refine M_yes rfl rfl rfl ?_; refine M0 (q_eqlK rfl rfl rfl rfl (by assumption)) rfl rfl ?_
            refine M_yes rfl rfl rfl ?_; refine M0 (q_moveC rfl rfl rfl) rfl rfl ?_; refine M_yes rfl rfl rfl ?_; refine M0 (q_moveC rfl rfl rfl) rfl rfl ?_; refine M_yes rfl rfl rfl ?_
            refine M0 (q_lssK rfl rfl rfl rfl (by assumption)) rfl rfl ?_; refine M_yes rfl rfl rfl ?_; refine M0 (q_bneq rfl rfl rfl rfl) rfl rfl ?_; refine M0 (q_pickF rfl rfl rfl rfl) rfl rfl ?_
            refine M0 (q_moveC rfl rfl rfl) rfl rfl ?_; refine M_yes rfl rfl rfl ?_; refine M0 (q_moveC rfl rfl rfl) rfl rfl ?_; refine M_yes rfl rfl rfl ?_; refine M0 (q_moveC rfl rfl rfl) rfl rfl ?_
            refine M_yes rfl rfl rfl ?_; refine M0 (q_lssK rfl rfl rfl rfl (by assumption)) rfl rfl ?_; refine M_yes rfl rfl rfl ?_; refine M0 (q_moveC rfl rfl rfl) rfl rfl ?_
            refine M_yes rfl rfl rfl ?_; refine M0 (q_fldp rfl rfl rfl rfl (by decide)) rfl rfl ?_; refine M_yes rfl rfl rfl ?_; refine M0 (q_ld1 rfl rfl rfl rfl rfl) rfl rfl ?_
            refine M_yes rfl rfl rfl ?_; refine M0 (q_moveC rfl rfl rfl) rfl rfl ?_; refine M_yes rfl rfl rfl ?_; refine M0 (q_neqK rfl rfl rfl rfl (by assumption)) rfl rfl ?_
            refine M_yes rfl rfl rfl ?_; refine M0 (q_pickT rfl rfl rfl rfl) rfl rfl ?_; refine M0 (q_pickF rfl rfl rfl rfl) rfl rfl ?_; refine L_nil ?_; refine T_n ?_; refine A_ifT rfl ?_
            refine A_seq ?_; refine A_region ?_; refine M0 (q_assignC rfl rfl rfl) rfl rfl ?_; refine L_nil ?_; refine T_n ?_; refine A_ret ?_; refine B_r ?_; refine T_r ?_; refine T_r ?_; refine B_r ?_
            refine T_r ?_; refine F_r ?_
            exact E_tmp rfl rfl (W_end [] (by decide) rfl rfl rfl)
          · have hd4 : decide (x.Bodies[k].Owner ≠ (k : Int)) = false := decide_eq_false ho
            refine A_skip ?_; refine T_n ?_; refine A_seq ?_; refine A_block ?_; refine A_seq ?_; refine A_region ?_; refine M0 (q_fldp rfl rfl rfl rfl (by decide)) rfl rfl ?_
            refine M0 (q_ld1 rfl rfl rfl rfl rfl) rfl rfl ?_; refine M0 (q_moveC rfl rfl rfl) rfl rfl ?_; refine M0 (q_at rfl rfl rfl rfl (by omega) (by assumption) rfl) rfl rfl ?_
            refine M0 (q_lrN rfl rfl rfl rfl rfl) rfl rfl ?_; refine M1 (q_alloc rfl rfl rfl) rfl rfl ?_; refine M_stN rfl rfl rfl rfl rfl rfl rfl rfl rfl ?_; refine L_nil ?_; refine T_n ?_
            refine A_seq ?_; refine A_region ?_; refine M0 (q_fldp rfl rfl rfl rfl (by decide)) rfl rfl ?_; refine M0 (q_ldN rfl rfl rfl rfl rfl rfl) rfl rfl ?_
            refine M0 (q_moveC rfl rfl rfl) rfl rfl ?_; refine M0 (q_ldN rfl rfl rfl rfl rfl rfl) rfl rfl ?_; refine M0 (q_call0 rfl rfl (hb) rfl) rfl rfl ?_
            refine M0 (q_not rfl rfl rfl) rfl rfl ?_; refine M0 (q_moveC rfl rfl rfl) rfl rfl ?_; refine M_yes rfl rfl rfl ?_; refine M0 (q_fldp rfl rfl rfl rfl (by decide)) rfl rfl ?_
            refine M_yes rfl rfl rfl ?_; refine M0 (q_ld1 rfl rfl rfl rfl rfl) rfl rfl ?_; refine M_yes rfl rfl rfl ?_; refine M0 (q_eqlK rfl rfl rfl rfl (by assumption)) rfl rfl ?_
            refine M_yes rfl rfl rfl ?_; refine M0 (q_moveC rfl rfl rfl) rfl rfl ?_; refine M_yes rfl rfl rfl ?_; refine M0 (q_moveC rfl rfl rfl) rfl rfl ?_; refine M_yes rfl rfl rfl ?_
            refine M0 (q_lssK rfl rfl rfl rfl (by assumption)) rfl rfl ?_; refine M_yes rfl rfl rfl ?_; refine M0 (q_bneq rfl rfl rfl rfl) rfl rfl ?_; refine M0 (q_pickF rfl rfl rfl rfl) rfl rfl ?_
            refine M0 (q_moveC rfl rfl rfl) rfl rfl ?_; refine M_yes rfl rfl rfl ?_; refine M0 (q_moveC rfl rfl rfl) rfl rfl ?_; refine M_yes rfl rfl rfl ?_; refine M0 (q_moveC rfl rfl rfl) rfl rfl ?_
            refine M_yes rfl rfl rfl ?_; refine M0 (q_lssK rfl rfl rfl rfl (by assumption)) rfl rfl ?_; refine M_yes rfl rfl rfl ?_; refine M0 (q_moveC rfl rfl rfl) rfl rfl ?_
            refine M_yes rfl rfl rfl ?_; refine M0 (q_fldp rfl rfl rfl rfl (by decide)) rfl rfl ?_; refine M_yes rfl rfl rfl ?_; refine M0 (q_ld1 rfl rfl rfl rfl rfl) rfl rfl ?_
            refine M_yes rfl rfl rfl ?_; refine M0 (q_moveC rfl rfl rfl) rfl rfl ?_; refine M_yes rfl rfl rfl ?_; refine M0 (q_neqK rfl rfl rfl rfl (by assumption)) rfl rfl ?_
            refine M_yes rfl rfl rfl ?_; refine M0 (q_pickT rfl rfl rfl rfl) rfl rfl ?_; refine M0 (q_pickF rfl rfl rfl rfl) rfl rfl ?_; refine L_nil ?_; refine T_n ?_; refine A_ifF rfl ?_
            refine A_skip ?_; refine B_n ?_; refine T_n ?_; refine A_region ?_; refine M0 (q_moveC rfl rfl rfl) rfl rfl ?_; refine M0 (q_add rfl rfl rfl rfl (by omega)) rfl rfl ?_
            refine M0 (q_assignC rfl rfl rfl) rfl rfl ?_; refine L_nil ?_; refine T_n ?_
            exact ⟨x.Bodies.length - (k + 1), by omega, (fun k : Nat => (⟨_, [(1, .o (.c (.ptr 0 0))), (3, I (els x.Scores).length), (5, I k)], [.box ((Enc.e x).map (V1.rd []))]⟩ : St)) (k + 1), W_go [0] (by decide) rfl (rfl) (.cons rfl (.cons rfl (.cons rfl (.nil)))), k + 1, by omega, fun j hj h0 => by by_cases hjk : j = k; subst hjk; rw [bodyAt, e, if_pos (by omega)]; exact decide_eq_true (by omega); exact hp_C j hj (by omega), rfl⟩
        · have hd3 : decide (x.Bodies[k].Kind = 0) = false := decide_eq_false k0
          rw [worldOk_F (fun hh => by have h9 := hh.2.2.2.2.2.2 k h6; rw [bodyAt, e, if_pos (by omega)] at h9; have := of_decide_eq_true h9; omega)]
          refine A_skip ?_; refine T_n ?_; refine A_seq ?_; refine A_block ?_; refine A_seq ?_; refine A_region ?_; refine M0 (q_fldp rfl rfl rfl rfl (by decide)) rfl rfl ?_
          refine M0 (q_ld1 rfl rfl rfl rfl rfl) rfl rfl ?_; refine M0 (q_moveC rfl rfl rfl) rfl rfl ?_; refine M0 (q_at rfl rfl rfl rfl (by omega) (by assumption) rfl) rfl rfl ?_
          refine M0 (q_lrN rfl rfl rfl rfl rfl) rfl rfl ?_; refine M1 (q_alloc rfl rfl rfl) rfl rfl ?_; refine M_stN rfl rfl rfl rfl rfl rfl rfl rfl rfl ?_; refine L_nil ?_; refine T_n ?_
          refine A_seq ?_; refine A_region ?_; refine M0 (q_fldp rfl rfl rfl rfl (by decide)) rfl rfl ?_; refine M0 (q_ldN rfl rfl rfl rfl rfl rfl) rfl rfl ?_
          refine M0 (q_moveC rfl rfl rfl) rfl rfl ?_; refine M0 (q_ldN rfl rfl rfl rfl rfl rfl) rfl rfl ?_; refine M0 (q_call0 rfl rfl (hb) rfl) rfl rfl ?_
          refine M0 (q_not rfl rfl rfl) rfl rfl ?_; refine M0 (q_moveC rfl rfl rfl) rfl rfl ?_; refine M_yes rfl rfl rfl ?_; refine M0 (q_fldp rfl rfl rfl rfl (by decide)) rfl rfl ?_
          refine M_yes rfl rfl rfl ?_; refine M0 (q_ld1 rfl rfl rfl rfl rfl) rfl rfl ?_; refine M_yes rfl rfl rfl ?_; refine M0 (q_eqlK rfl rfl rfl rfl (by assumption)) rfl rfl ?_
          refine M_yes rfl rfl rfl ?_; refine M0 (q_moveC rfl rfl rfl) rfl rfl ?_; refine M_yes rfl rfl rfl ?_; refine M0 (q_moveC rfl rfl rfl) rfl rfl ?_; refine M_yes rfl rfl rfl ?_
          refine M0 (q_lssK rfl rfl rfl rfl (by assumption)) rfl rfl ?_; refine M_yes rfl rfl rfl ?_; refine M0 (q_bneq rfl rfl rfl rfl) rfl rfl ?_; refine M0 (q_pickF rfl rfl rfl rfl) rfl rfl ?_
          refine M0 (q_moveC rfl rfl rfl) rfl rfl ?_; refine M_no rfl rfl rfl rfl rfl rfl ?_; refine M_no rfl rfl rfl rfl rfl rfl ?_; refine M_no rfl rfl rfl rfl rfl rfl ?_
          refine M_no rfl rfl rfl rfl rfl rfl ?_; refine M0 (Qt.no2 rfl rfl rfl) rfl rfl ?_; refine M0 (Qt.no2 rfl rfl rfl) rfl rfl ?_; refine M0 (Qt.no2 rfl rfl rfl) rfl rfl ?_
          refine M0 (Qt.no2 rfl rfl rfl) rfl rfl ?_; refine M_no rfl rfl rfl rfl rfl rfl ?_; refine M0 (q_pickT rfl rfl rfl rfl) rfl rfl ?_; refine L_nil ?_; refine T_n ?_; refine A_ifT rfl ?_
          refine A_seq ?_; refine A_region ?_; refine M0 (q_assignC rfl rfl rfl) rfl rfl ?_; refine L_nil ?_; refine T_n ?_; refine A_ret ?_; refine B_r ?_; refine T_r ?_; refine T_r ?_; refine B_r ?_
          refine T_r ?_; refine F_r ?_
          exact E_tmp rfl rfl (W_end [] (by decide) rfl rfl rfl)
      · have hd : decide ((k : Int) < (els x.Scores).length) = false := decide_eq_false hkn
        by_cases k0 : x.Bodies[k].Kind = 0
        · have hd3 : decide (x.Bodies[k].Kind = 0) = true := decide_eq_true k0
          rw [worldOk_F (fun hh => by have h9 := hh.2.2.2.2.2.2 k h6; rw [bodyAt, e, if_neg (by omega)] at h9; have := of_decide_eq_true h9; omega)]
          refine A_skip ?_; refine T_n ?_; refine A_seq ?_; refine A_block ?_; refine A_seq ?_; refine A_region ?_; refine M0 (q_fldp rfl rfl rfl rfl (by decide)) rfl rfl ?_
          refine M0 (q_ld1 rfl rfl rfl rfl rfl) rfl rfl ?_; refine M0 (q_moveC rfl rfl rfl) rfl rfl ?_; refine M0 (q_at rfl rfl rfl rfl (by omega) (by assumption) rfl) rfl rfl ?_
          refine M0 (q_lrN rfl rfl rfl rfl rfl) rfl rfl ?_; refine M1 (q_alloc rfl rfl rfl) rfl rfl ?_; refine M_stN rfl rfl rfl rfl rfl rfl rfl rfl rfl ?_; refine L_nil ?_; refine T_n ?_
          refine A_seq ?_; refine A_region ?_; refine M0 (q_fldp rfl rfl rfl rfl (by decide)) rfl rfl ?_; refine M0 (q_ldN rfl rfl rfl rfl rfl rfl) rfl rfl ?_
          refine M0 (q_moveC rfl rfl rfl) rfl rfl ?_; refine M0 (q_ldN rfl rfl rfl rfl rfl rfl) rfl rfl ?_; refine M0 (q_call0 rfl rfl (hb) rfl) rfl rfl ?_
          refine M0 (q_not rfl rfl rfl) rfl rfl ?_; refine M0 (q_moveC rfl rfl rfl) rfl rfl ?_; refine M_yes rfl rfl rfl ?_; refine M0 (q_fldp rfl rfl rfl rfl (by decide)) rfl rfl ?_
          refine M_yes rfl rfl rfl ?_; refine M0 (q_ld1 rfl rfl rfl rfl rfl) rfl rfl ?_; refine M_yes rfl rfl rfl ?_; refine M0 (q_eqlK rfl rfl rfl rfl (by assumption)) rfl rfl ?_
          refine M_yes rfl rfl rfl ?_; refine M0 (q_moveC rfl rfl rfl) rfl rfl ?_; refine M_yes rfl rfl rfl ?_; refine M0 (q_moveC rfl rfl rfl) rfl rfl ?_; refine M_yes rfl rfl rfl ?_
          refine M0 (q_lssK rfl rfl rfl rfl (by assumption)) rfl rfl ?_; refine M_yes rfl rfl rfl ?_; refine M0 (q_bneq rfl rfl rfl rfl) rfl rfl ?_; refine M0 (q_pickF rfl rfl rfl rfl) rfl rfl ?_
          refine M0 (q_moveC rfl rfl rfl) rfl rfl ?_; refine M_no rfl rfl rfl rfl rfl rfl ?_; refine M_no rfl rfl rfl rfl rfl rfl ?_; refine M_no rfl rfl rfl rfl rfl rfl ?_
          refine M_no rfl rfl rfl rfl rfl rfl ?_; refine M0 (Qt.no2 rfl rfl rfl) rfl rfl ?_; refine M0 (Qt.no2 rfl rfl rfl) rfl rfl ?_; refine M0 (Qt.no2 rfl rfl rfl) rfl rfl ?_
          refine M0 (Qt.no2 rfl rfl rfl) rfl rfl ?_; refine M_no rfl rfl rfl rfl rfl rfl ?_; refine M0 (q_pickT rfl rfl rfl rfl) rfl rfl ?_; refine L_nil ?_; refine T_n ?_; refine A_ifT rfl ?_
          refine A_seq ?_; refine A_region ?_; refine M0 (q_assignC rfl rfl rfl) rfl rfl ?_; refine L_nil ?_; refine T_n ?_; refine A_ret ?_; refine B_r ?_; refine T_r ?_; refine T_r ?_; refine B_r ?_
          refine T_r ?_; refine F_r ?_
          exact E_tmp rfl rfl (W_end [] (by decide) rfl rfl rfl)
        · have hd3 : decide (x.Bodies[k].Kind = 0) = false := decide_eq_false k0
          refine A_skip ?_; refine T_n ?_; refine A_seq ?_; refine A_block ?_; refine A_seq ?_; refine A_region ?_; refine M0 (q_fldp rfl rfl rfl rfl (by decide)) rfl rfl ?_
          refine M0 (q_ld1 rfl rfl rfl rfl rfl) rfl rfl ?_; refine M0 (q_moveC rfl rfl rfl) rfl rfl ?_; refine M0 (q_at rfl rfl rfl rfl (by omega) (by assumption) rfl) rfl rfl ?_
          refine M0 (q_lrN rfl rfl rfl rfl rfl) rfl rfl ?_; refine M1 (q_alloc rfl rfl rfl) rfl rfl ?_; refine M_stN rfl rfl rfl rfl rfl rfl rfl rfl rfl ?_; refine L_nil ?_; refine T_n ?_
          refine A_seq ?_; refine A_region ?_; refine M0 (q_fldp rfl rfl rfl rfl (by decide)) rfl rfl ?_; refine M0 (q_ldN rfl rfl rfl rfl rfl rfl) rfl rfl ?_
          refine M0 (q_moveC rfl rfl rfl) rfl rfl ?_; refine M0 (q_ldN rfl rfl rfl rfl rfl rfl) rfl rfl ?_; refine M0 (q_call0 rfl rfl (hb) rfl) rfl rfl ?_
          refine M0 (q_not rfl rfl rfl) rfl rfl ?_; refine M0 (q_moveC rfl rfl rfl) rfl rfl ?_; refine M_yes rfl rfl rfl ?_; refine M0 (q_fldp rfl rfl rfl rfl (by decide)) rfl rfl ?_
          refine M_yes rfl rfl rfl ?_; refine M0 (q_ld1 rfl rfl rfl rfl rfl) rfl rfl ?_; refine M_yes rfl rfl rfl ?_; refine M0 (q_eqlK rfl rfl rfl rfl (by assumption)) rfl rfl ?_
          refine M_yes rfl rfl rfl ?_; refine M0 (q_moveC rfl rfl rfl) rfl rfl ?_; refine M_yes rfl rfl rfl ?_; refine M0 (q_moveC rfl rfl rfl) rfl rfl ?_; refine M_yes rfl rfl rfl ?_
          refine M0 (q_lssK rfl rfl rfl rfl (by assumption)) rfl rfl ?_; refine M_yes rfl rfl rfl ?_; refine M0 (q_bneq rfl rfl rfl rfl) rfl rfl ?_; refine M0 (q_pickF rfl rfl rfl rfl) rfl rfl ?_
          refine M0 (q_moveC rfl rfl rfl) rfl rfl ?_; refine M_yes rfl rfl rfl ?_; refine M0 (q_moveC rfl rfl rfl) rfl rfl ?_; refine M_yes rfl rfl rfl ?_; refine M0 (q_moveC rfl rfl rfl) rfl rfl ?_
          refine M_yes rfl rfl rfl ?_; refine M0 (q_lssK rfl rfl rfl rfl (by assumption)) rfl rfl ?_; refine M_yes rfl rfl rfl ?_; refine M0 (q_moveC rfl rfl rfl) rfl rfl ?_
          refine M_no rfl rfl rfl rfl rfl rfl ?_; refine M_no rfl rfl rfl rfl rfl rfl ?_; refine M_no rfl rfl rfl rfl rfl rfl ?_; refine M_no rfl rfl rfl rfl rfl rfl ?_; refine M_yes rfl rfl rfl ?_
          refine M0 (q_pickF rfl rfl rfl rfl) rfl rfl ?_; refine M0 (q_pickF rfl rfl rfl rfl) rfl rfl ?_; refine L_nil ?_; refine T_n ?_; refine A_ifF rfl ?_; refine A_skip ?_; refine B_n ?_
          refine T_n ?_; refine A_region ?_; refine M0 (q_moveC rfl rfl rfl) rfl rfl ?_; refine M0 (q_add rfl rfl rfl rfl (by omega)) rfl rfl ?_; refine M0 (q_assignC rfl rfl rfl) rfl rfl ?_
          refine L_nil ?_; refine T_n ?_
          exact ⟨x.Bodies.length - (k + 1), by omega, (fun k : Nat => (⟨_, [(1, .o (.c (.ptr 0 0))), (3, I (els x.Scores).length), (5, I k)], [.box ((Enc.e x).map (V1.rd []))]⟩ : St)) (k + 1), W_go [0] (by decide) rfl (rfl) (.cons rfl (.cons rfl (.cons rfl (.nil)))), k + 1, by omega, fun j hj h0 => by by_cases hjk : j = k; subst hjk; rw [bodyAt, e, if_neg (by omega)]; exact decide_eq_true k0; exact hp_C j hj (by omega), rfl⟩
  have h6 : ¬ k < x.Bodies.length := by have := of_decide_eq_false h6; omega
  rw [worldOk_T ⟨hL, hT, hS, by omega, hall, by omega, fun j hj => hp_C j hj (by omega)⟩]
  refine A_exit ?_; refine T_x ?_; refine T_x ?_; refine B_xs ?_; refine T_n ?_; refine A_seq ?_; refine A_region ?_; refine M0 (q_assignC rfl rfl rfl) rfl rfl ?_; refine L_nil ?_; refine T_n ?_
  refine A_ret ?_; refine F_r ?_
  exact E_tmp rfl rfl (W_end [] (by decide) rfl rfl rfl)
end Go.Proofs.YtkfnaniegldfaaaDoor
end

section
set_option linter.unusedSimpArgs false
set_option linter.unusedVariables false
namespace Go.Proofs.YtkfnaniegldfaaaDoor
open Go.RowKit

theorem OW.take {w : World} {k : Nat} {es : List (List T)} {v : Value} {fp : List Nat} (h : OW w (.sl k es) v fp) (hnd : fp.Nodup) {n : Nat} (hn : n ≤ es.length) : ∃ A c fp', v = .slice A es.length c ∧ es.length ≤ c ∧ OW w (.sl k (es.take n)) (.slice (if c = 0 then A else A.map (·.add (0 * k))) (n - 0) (c - 0)) fp' ∧ (∀ b ∈ fp', b ∈ fp) ∧ fp'.Nodup := by
  cases h with
  | nil =>
    have : n = 0 := by simpa using hn
    subst this
    exact ⟨none, 0, [], rfl, Nat.le_refl _, by simpa using OW.nil (w := w) k, by simp, by simp⟩
  | sl _ b o _ c tid cur fz val fps hg hz hc hm hs hp hk hf hfk hv ht =>
    have hA : (if c = 0 then some (⟨b, o, none⟩ : Addr) else (some (⟨b, o, none⟩ : Addr)).map (·.add (0 * k))) = some ⟨b, o, none⟩ := by
      split
      · rfl
      · simp [Addr.add]
    have hl : (es.take n).length = n := by simp; omega
    have hfl : fps.flatten.flatten = (fps.take n).flatten.flatten ++ (fps.drop n).flatten.flatten := by
      rw [← List.flatten_append, ← List.flatten_append, List.take_append_drop]
    refine ⟨some ⟨b, o, none⟩, c, b :: (fps.take n).flatten.flatten, rfl, hc, ?_, fun x hx => ?_, ?_⟩
    · rw [hA]
      have h1 := OW.sl (w := w) (es.take n) b o k c tid cur fz val (fps.take n) hg hz (by omega) hm hs hp (fun e he => hk e (List.mem_of_mem_take he)) (by simp [hf]) (fun f hf' => hfk f (List.mem_of_mem_take hf'))
        (fun i j hi hj => hv i j (by omega) hj) (fun i j e t fs f g1 g2 g3 g4 => by
          have hi := getE_lt g1
          rw [hl] at hi
          rw [List.getElem?_take, if_pos hi] at g1 g3
          exact ht i j e t fs f g1 g2 g3 g4)
      rw [hl] at h1
      simpa using h1
    · rcases List.mem_cons.1 hx with rfl | hx
      · simp
      · exact List.mem_cons_of_mem _ (by rw [hfl]; exact List.mem_append_left _ hx)
    · rw [hfl, ← List.cons_append] at hnd
      exact (List.nodup_append.1 hnd).1

/-- All of a list. -/
def allP {α : Type} (f : α → Prop) : List α → Prop
  | [] => True
  | x :: l => f x ∧ allP f l
theorem allP_map {α β : Type} {f : α → Prop} {g h : α → β} (hgh : ∀ x, f x → g x = h x) : ∀ {l : List α}, allP f l → l.map g = l.map h
  | [], _ => rfl
  | x :: l, hl => by rw [List.map_cons, List.map_cons, hgh x hl.1, allP_map hgh hl.2]
section
variable {P : Program} {E : Env} {ops : Array Oper} {o : Oper} {st : St} {rest : List Oper} {QQ : Exit → St → Prop} {t : TypeId} {y u : Operand} {rs : List Nat} {j : Int} {m : Nat}
end
section
variable {P : Program} {E : Env} {ops : Array Oper} {o : Oper} {st : St} {rest : List Oper} {QQ : Exit → St → Prop} {t : TypeId} {y u : Operand} {rs : List Nat} {j : Int}
end
end Go.Proofs.YtkfnaniegldfaaaDoor
end

section
set_option linter.unusedSimpArgs false
set_option linter.unusedVariables false
namespace Go.Proofs.YtkfnaniegldfaaaDoor
open Go.RowKit

def V2.allk (f : V1 → Prop) : V2 → Prop
  | .c x => f x
  | .ag xs => allP f xs
def V.allk (f : V1 → Prop) : V → Prop
  | .o x => x.allk f
  | .tu xs => allP (V2.allk f) xs
  | .iff _ x => x.allk f
def Ob.allk (f : V1 → Prop) : Ob → Prop
  | .box cs => allP f cs
  | .gh _ x => x.allk f
  | _ => True
section
variable {f : V1 → Prop} {g h : V1 → V1} (hgh : ∀ x, f x → g x = h x)
include hgh
theorem V2.allk_eq (x : V2) (hx : x.allk f) : x.mapk g = x.mapk h := by
  cases x with
  | c x => exact congrArg V2.c (hgh x hx)
  | ag xs => exact congrArg V2.ag (allP_map hgh hx)
theorem V.allk_eq (x : V) (hx : x.allk f) : x.mapk g = x.mapk h := by
  cases x with
  | o x => exact congrArg V.o (V2.allk_eq hgh x hx)
  | tu xs => exact congrArg V.tu (allP_map (V2.allk_eq hgh) hx)
  | iff cs x => exact congrArg (V.iff cs) (V2.allk_eq hgh x hx)
theorem Ob.allk_eq (x : Ob) (hx : x.allk f) : x.mapk g = x.mapk h := by
  cases x with
  | box cs => exact congrArg Ob.box (allP_map hgh hx)
  | gh i x => exact congrArg (Ob.gh i) (V2.allk_eq hgh x hx)
  | _ => rfl
end
/-- What is said of elements' cells of p is said of this one. -/
def V1.leok (p kk i j : Nat) : V1 → Prop
  | .le q k a b => match Nat.beq q p with
    | true => k = kk ∧ a = i ∧ b = j
    | false => True
  | _ => True
def V1.tole (p m : Nat) : V1 → V1
  | .le q k a b => match Nat.beq q p with
    | true => .ref m
    | false => (V1.le q k a b).killw [p, m] [p]
  | x => x.killw [p, m] [p]
def V1.tole0 (p m kk i j : Nat) : V1 → V1
  | .le q k a b => match Nat.beq q p with
    | true => if k = kk ∧ a = i ∧ b = j then .ref m else .un
    | false => (V1.le q k a b).killw [p, m] [p]
  | x => x.killw [p, m] [p]
theorem V1.tole_eq {p m kk i j : Nat} (x : V1) (hx : x.leok p kk i j) : x.tole0 p m kk i j = x.tole p m := by
  cases x with
  | le q k a b =>
    simp only [V1.tole0, V1.tole]
    simp only [V1.leok] at hx
    split
    · rename_i hq
      rw [hq] at hx
      exact if_pos hx
    · rfl
  | _ => rfl
theorem Wk.split0 {st : St} {p kk i j k' : Nat} {es es0 : List (List T)} {e : List T} (hp : st.objs[p]? = some (.row kk es)) (he : es[i]? = some e) (hx : e[j]? = some (.sl k' es0)) :
    Wk st ⟨st.n, st.tmps.map fun t => (t.1, t.2.mapk (V1.tole0 p st.objs.length kk i j)), ((st.objs.map (Ob.mapk (V1.tole0 p st.objs.length kk i j))).set p (.row kk (es.set i (splice e j [.un])))) ++ [.row k' es0]⟩ := by
  intro w H F a h1
  obtain ⟨v, fp, e1, e2⟩ := h1.ow hp
  have hnd := h1.ok.nodup p
  rw [e1] at hnd
  have hnil : H st.objs.length = .nil := by
    have := h1.obs st.objs.length
    simpa [List.getD_eq_getElem?_getD, RB] using this
  have hplt := getE_lt hp
  obtain ⟨b, o, c, u, f, rfl, hbf, hcell, hO, hfn, hsub, hback⟩ := e2.inner hnd he hx
  have hlt : ∀ x ∈ fp, x < w.heap.size := fun x hx => h1.ok.lt (p := p) (by rw [e1]; exact hx)
  have hu1 : u.oneCell' = true := OW.one hO
  obtain ⟨fp', g1, g2, g3⟩ := hback w .un [] (fun _ _ _ => rfl) (.un u hu1) List.nodup_nil (fun x hx => by simp at hx) hlt
  have g4 : ∀ x ∈ fp', x ∈ fp ∧ x ∉ f := fun x hx => (g3 x hx).resolve_right (by simp)
  obtain ⟨N, hN⟩ : ∃ N, N = st.objs.length := ⟨_, rfl⟩
  rw [← hN] at hnil ⊢
  have hNp : N ≠ p := by omega
  obtain ⟨H', hH'⟩ : ∃ H' : Hs, H' = fun q => if q = N then .ow (.sl k' es0) u f else if q = p then .ow (.sl kk (es.set i (splice e j [.un]))) (.slice (some ⟨b, o, none⟩) es.length c) fp' else H q := ⟨_, rfl⟩
  have hHN : H' N = .ow (.sl k' es0) u f := by rw [hH']; exact if_pos rfl
  have hHp : H' p = .ow (.sl kk (es.set i (splice e j [.un]))) (.slice (some ⟨b, o, none⟩) es.length c) fp' := by rw [hH']; simp [Ne.symm hNp]
  have hHo : ∀ q, q ≠ N → q ≠ p → H' q = H q := fun q h1 h2 => by rw [hH']; simp only; rw [if_neg h1, if_neg h2]
  have hin : ∀ q x, x ∈ (H' q).fp → (q = N ∧ x ∈ f) ∨ (q = p ∧ x ∈ fp ∧ x ∉ f) ∨ (q ≠ N ∧ q ≠ p ∧ x ∈ (H q).fp) := fun q x hx => by
    by_cases hq : q = N
    · subst hq; rw [hHN] at hx; exact .inl ⟨rfl, hx⟩
    · by_cases hqp : q = p
      · subst hqp; rw [hHp] at hx; exact .inr (.inl ⟨rfl, g4 x hx⟩)
      · rw [hHo q hq hqp] at hx; exact .inr (.inr ⟨hq, hqp, hx⟩)
  have hpf : ∀ x, x ∈ fp → x ∈ (H p).fp := fun x hx => by rw [e1]; exact hx
  have hok : Ok w H' F := by
    refine ⟨fun q => ?_, fun q => ?_, fun q r x h2 h3 => ?_, fun q x h2 => ?_, h1.ok.flt⟩
    · by_cases hq : q = N
      · subst hq; rw [hHN]; exact hO
      · by_cases hqp : q = p
        · subst hqp; rw [hHp]; exact g1
        · rw [hHo q hq hqp]; exact h1.ok.says q
    · by_cases hq : q = N
      · subst hq; rw [hHN]; exact hfn
      · by_cases hqp : q = p
        · subst hqp; rw [hHp]; exact g2
        · rw [hHo q hq hqp]; exact h1.ok.nodup q
    · rcases hin q x h2 with ⟨rfl, k1⟩ | ⟨rfl, k1, k2⟩ | ⟨k1, k2, k3⟩ <;> rcases hin r x h3 with ⟨e5, m1⟩ | ⟨e5, m1, m2⟩ | ⟨m1, m2, m3⟩
      · exact e5.symm
      · exact absurd k1 m2
      · exact absurd (h1.ok.disj r p x m3 (hpf x (hsub x k1))) m2
      · exact absurd m1 k2
      · exact e5.symm
      · exact absurd (h1.ok.disj r q x m3 (hpf x k1)) m2
      · exact absurd (h1.ok.disj q p x k3 (hpf x (hsub x m1))) k2
      · exact absurd (h1.ok.disj q p x k3 (hpf x m1)) k2
      · exact h1.ok.disj q r x k3 m3
    · rcases hin q x h2 with ⟨rfl, k1⟩ | ⟨rfl, k1, k2⟩ | ⟨k1, k2, k3⟩
      · exact h1.ok.free p x (hpf x (hsub x k1))
      · exact h1.ok.free q x (hpf x k1)
      · exact h1.ok.free q x k3
  have hfpo : ∀ q x, x ∈ (H' q).fp → ∃ r, x ∈ (H r).fp := fun q x hx => by
    rcases hin q x hx with ⟨rfl, k1⟩ | ⟨rfl, k1, k2⟩ | ⟨k1, k2, k3⟩
    · exact ⟨p, hpf x (hsub x k1)⟩
    · exact ⟨q, hpf x k1⟩
    · exact ⟨q, k3⟩
  have hghs : ∀ q i v, H' q = .gh i v → ∃ r, H r = .gh i v := fun q i v hq => by
    by_cases hqN : q = N
    · subst hqN; rw [hHN] at hq; cases hq
    · by_cases hqp : q = p
      · subst hqp; rw [hHp] at hq; cases hq
      · exact ⟨q, by rw [← hHo q hqN hqp]; exact hq⟩
  have htn : Turn w H w H' [p, N] := ⟨rfl, rfl, rfl, Nat.le_refl _, fun _ _ _ => rfl, fun q hq => hHo q (fun e => hq (by simp [e])) (fun e => hq (by simp [e])), fun q x hx => .inl (hfpo q x hx), hghs⟩
  have hplace : ∀ q ∈ [p], Place (H q) (H' q) := fun q hq => by
    have : q = p := by simpa using hq
    subst this
    exact .inl ⟨_, _, _, _, _, e1, hHp⟩
  have hone : ∀ x v, R1 w H F x v → R1 w H' F (V1.tole0 p N kk i j x) v := fun x v hx => by
    cases x with
    | le q k a b' =>
      simp only [V1.tole0]
      split
      · rename_i hq
        have hqp := Nat.eq_of_beq_eq_true hq
        subst hqp
        split
        · rename_i hc
          rw [hc.1, hc.2.1, hc.2.2] at hx
          obtain ⟨b2, o2, n2, c2, x2, fp2, k1, k2, k3, k4⟩ := hx
          rw [e1] at k1
          simp only [Pc.ow.injEq, Value.slice.injEq, Option.some.injEq, Addr.mk.injEq] at k1
          obtain ⟨_, ⟨⟨rfl, rfl, _⟩, _, _⟩, _⟩ := k1
          rw [hcell] at k4
          simp only [Option.some.injEq] at k4
          subst k4
          exact ⟨_, _, hHN⟩
        · trivial
      · exact R1.killw h1.ok htn hplace hx
    | _ => exact R1.killw h1.ok htn hplace hx
  refine ⟨H', h1.mapk (V1.tole0 p N kk i j) hone hok _ (fun q => ?_), hfpo, hghs⟩
  by_cases hqN : q = N
  · subst hqN
    rw [getD_of (x := .row k' es0) (by rw [List.getElem?_append_right (by simp; omega)]; simp [hN])]
    exact ⟨_, _, hHN⟩
  by_cases hqp : q = p
  · subst hqp
    rw [getD_of (x := .row kk (es.set i (splice e j [.un]))) (by rw [List.getElem?_append_left (by simpa using hplt)]; simp [hplt])]
    exact ⟨_, _, hHp⟩
  · rcases Nat.lt_or_ge q st.objs.length with hlt2 | hge
    · rw [List.getD_eq_getElem?_getD, List.getElem?_append_left (by simpa using hlt2), List.getElem?_set_ne (Ne.symm hqp), List.getElem?_map]
      have h2 := h1.obs q
      rw [List.getD_eq_getElem?_getD] at h2
      have h3 : H' q = H q := hHo q hqN hqp
      cases ho : st.objs[q]? with
      | none => rw [ho] at h2; exact h3.trans h2
      | some ob => rw [ho] at h2; exact RB.mapk hone h3 h2
    · rw [List.getD_eq_getElem?_getD, List.getElem?_eq_none (by simp; omega)]
      have h2 := h1.obs q
      rw [List.getD_eq_getElem?_getD, List.getElem?_eq_none hge] at h2
      exact (hHo q hqN hqp).trans h2
theorem Wk.split {st : St} {p kk i j k' : Nat} {es es0 : List (List T)} {e : List T} (hp : st.objs[p]? = some (.row kk es)) (he : es[i]? = some e) (hx : e[j]? = some (.sl k' es0)) (ht : allP (fun t : Nat × V => t.2.allk (V1.leok p kk i j)) st.tmps) (ho : allP (Ob.allk (V1.leok p kk i j)) st.objs) :
    Wk st ⟨st.n, st.tmps.map fun t => (t.1, t.2.mapk (V1.tole p st.objs.length)), ((st.objs.map (Ob.mapk (V1.tole p st.objs.length))).set p (.row kk (es.set i (splice e j [.un])))) ++ [.row k' es0]⟩ := by
  have h := Wk.split0 hp he hx
  rw [allP_map (g := fun e : Nat × V => (e.1, e.2.mapk (V1.tole0 p st.objs.length kk i j))) (h := fun e : Nat × V => (e.1, e.2.mapk (V1.tole p st.objs.length))) (fun e he => by rw [V.allk_eq V1.tole_eq e.2 he]) ht, allP_map (fun x hx => Ob.allk_eq V1.tole_eq x hx) ho] at h
  exact h
end Go.Proofs.YtkfnaniegldfaaaDoor
end

section
set_option linter.unusedSimpArgs false
set_option linter.unusedVariables false
namespace Go.Proofs.YtkfnaniegldfaaaDoor
open Go.RowKit

section
variable {P : Program} {ops : Array Oper} {o : Oper} {st : St} {m : Nat} {t e : TypeId} {y z : Operand} {zs : List Value} {by_ : Nat}
end
end Go.Proofs.YtkfnaniegldfaaaDoor
end
