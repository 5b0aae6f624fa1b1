/-
  Valid bodies and worlds: BodyOk, WorldOk of the program; l02Body, WorldOk of the reference.
  Conditions: lists of at most 2^40 elements.
-/
import Derived.Test.YtbfhboakafjjgaaGreatDDReplRowk18
set_option linter.unusedSimpArgs false
set_option linter.unusedVariables false
set_option maxRecDepth 8000
set_option maxHeartbeats 8000000
namespace Go.Proofs.YtbfhboakafjjgaaGreat
section
open Go.RowKit

def tailM (b : TBody) : Bool :=
 if b.Kind = 0 then (decide (b.Aim = 1 ∨ b.Aim = -1) && inR b.Life 0 3) && (if b.Life = 0 then inR b.Timer 1 20 else inR b.Timer 0 12)
 else if b.Kind = 1 then decide (b.Aim = 0 ∧ b.Life = 0) && inR b.Timer 1 25
 else decide (b.Owner = 0 ∧ b.Aim = 0 ∧ b.Life = 0 ∧ b.Timer = 0)
noncomputable def bodyM (l : TLevel) (n : Int) (b : TBody) : Bool :=
 inR b.Kind 0 2 && (inR b.Owner 0 (n - 1) && (!solidM l b.X b.Y (sizeOf b.Kind) && (inR b.VX (-15) 15 && (inR b.VY (-15) 15 && tailM b))))
theorem size_in {k : Int} (h : inR k 0 2 = true) : 1 ≤ sizeOf k ∧ sizeOf k ≤ 16 := by
 have := Y3.1 h
 unfold sizeOf
 split
 ·omega
 ·split
  ·omega
  ·split <;> omega
theorem S_l02Body (l : TLevel) (n : Int) (b : TBody) (hg : Enc.gd l) (hl : levelOk l = true) (hb : Enc.gd b) (hn : 0 ≤ n ∧ n ≤ 1099511627776) : Con Tryz.prog 96 [] [ag l,ai n,ag b] [] (B (bodyM l n b)) := by
 obtain ⟨b1,b2,b3,b4,b5,b6,b7,b8,b9⟩ := hb
 have h1 := S_in b.Kind 0 2
 have hsz := S_SizeOf b.Kind
 have h2 := S_in b.Owner 0 (n - 1)
 have h4 := S_in b.VX (-15) 15
 have h5 := S_in b.VY (-15) 15
 cases e1 : inR b.Kind 0 2 with
 | false =>
  rw [e1] at h1
  rw [show bodyM l n b = false by rw [bodyM,e1]; rfl]
  refine Con.of Tryz.func96 J Tryz.ntmps96 J (fun E => ?_)
  refine zy (M1 (Qq J J J J) J J (M1 (Qq J J J J) J J (z1 J (zz (Qd (Qd (Xi u8_0 u8_1 u8_2 J (DR.s (Qf J J J J (by decide)) J J (DR.s (Qg J J J J J) J J ?_)))))))));refine DR.s (Qj J J (h1) J) J J ?_;refine DR.s (Q4 J J J) J J (DR.s (Qa J J J) J J (DR.s (Qt.no J J J J) J J (DR.s (Qt.no J J J J) J J (DR.s (Qt.no J J J J) J J (DR.s (Qt.no J J J J) J J (DR.s (Qt.no J J J J) J J (DR.s (Qt.no J J J J) J J (DR.s (Qo J J J J) J J (DR.s (Qa J J J) J J (DR.s (Qt.no J J J J) J J (DR.s (Qt.no J J J J) J J ?_)))))))))));refine DR.s (Qt.no J J J J) J J (DR.s (Qt.no J J J J) J J (DR.s (Qt.no J J J J) J J (DR.s (Qt.no J J J J) J J (DR.s (Qt.no J J J J) J J (DR.s (Qt.no J J J J) J J (DR.s (Qt.no J J J J) J J (DR.s (Qo J J J J) J J (DR.s (Qa J J J) J J (DR.s (Qt.no J J J J) J J (DR.s (Qt.no J J J J) J J (DR.s (Qt.no J J J J) J J ?_)))))))))));refine DR.s (Qt.no J J J J) J J (DR.s (Qo J J J J) J J (DR.s (Qa J J J) J J (DR.s (Qt.no J J J J) J J (DR.s (Qt.no J J J J) J J (DR.s (Qt.no J J J J) J J (DR.s (Qt.no J J J J) J J (DR.s (Qo J J J J) J J (DR.stop (by kernel_rfl) (by kernel_rfl) (zz (Qm J ?_))))))))));refine zy (z1 J (zz (Xa (T_r (F_r ?_)))))
  exact Xp J J (X5 [] (by decide) J J J)
 | true =>
  rw [e1] at h1
  cases e2 : inR b.Owner 0 (n - 1) with
  | false =>
   rw [e2] at h2
   rw [show bodyM l n b = false by rw [bodyM,e1,e2]; rfl]
   refine Con.of Tryz.func96 J Tryz.ntmps96 J (fun E => ?_)
   refine zy (M1 (Qq J J J J) J J (M1 (Qq J J J J) J J (z1 J (zz (Qd (Qd (Xi u8_0 u8_1 u8_2 J (DR.s (Qf J J J J (by decide)) J J (DR.s (Qg J J J J J) J J ?_)))))))));refine DR.s (Qj J J (h1) J) J J ?_;refine DR.s (Q4 J J J) J J (DR.s (Qa J J J) J J (DR.s (Qt.yes J J J (Qf J J J J (by decide))) J J (DR.s (Qt.yes J J J (Qg J J J J J)) J J (DR.s (Qt.yes J J J (Qa J J J)) J J (DR.s (Qt.yes J J J (Xc J J J J (by omega))) J J ?_)))));refine DR.s (Qt.yes J J J (Qj J J (h2) J)) J J ?_;refine DR.s (Qt.yes J J J (Q4 J J J)) J J (DR.s (Qn J J J J) J J (DR.s (Qa J J J) J J (DR.s (Qt.no J J J J) J J (DR.s (Qt.no J J J J) J J (DR.s (Qt.no J J J J) J J (DR.s (Qt.no J J J J) J J (DR.s (Qt.no J J J J) J J (DR.s (Qt.no J J J J) J J (DR.s (Qt.no J J J J) J J (DR.s (Qt.no J J J J) J J (DR.s (Qt.no J J J J) J J ?_)))))))))));refine DR.s (Qo J J J J) J J (DR.s (Qa J J J) J J (DR.s (Qt.no J J J J) J J (DR.s (Qt.no J J J J) J J (DR.s (Qt.no J J J J) J J (DR.s (Qt.no J J J J) J J (DR.s (Qo J J J J) J J (DR.s (Qa J J J) J J (DR.s (Qt.no J J J J) J J (DR.s (Qt.no J J J J) J J (DR.s (Qt.no J J J J) J J (DR.s (Qt.no J J J J) J J ?_)))))))))));refine DR.s (Qo J J J J) J J (DR.stop (by kernel_rfl) (by kernel_rfl) (zz (Qm J (zy (z1 J (zz (Xa (T_r ?_))))))));refine F_r ?_
   exact Xp J J (X5 [] (by decide) J J J)
  | true =>
   rw [e2] at h2
   have hs16 := size_in e1
   have h3 := S_l02Solid l b.X b.Y (sizeOf b.Kind) hl b3 b4 hs16.1 hs16.2
   cases e3 : solidM l b.X b.Y (sizeOf b.Kind) with
   | true =>
    rw [e3] at h3
    rw [show bodyM l n b = false by rw [bodyM,e1,e2,e3]; rfl]
    refine Con.of Tryz.func96 J Tryz.ntmps96 J (fun E => ?_)
    refine zy (M1 (Qq J J J J) J J (M1 (Qq J J J J) J J (z1 J (zz (Qd (Qd (Xi u8_0 u8_1 u8_2 J (DR.s (Qf J J J J (by decide)) J J (DR.s (Qg J J J J J) J J ?_)))))))));refine DR.s (Qj J J (h1) J) J J ?_;refine DR.s (Q4 J J J) J J (DR.s (Qa J J J) J J (DR.s (Qt.yes J J J (Qf J J J J (by decide))) J J (DR.s (Qt.yes J J J (Qg J J J J J)) J J (DR.s (Qt.yes J J J (Qa J J J)) J J (DR.s (Qt.yes J J J (Xc J J J J (by omega))) J J ?_)))));refine DR.s (Qt.yes J J J (Qj J J (h2) J)) J J ?_;refine DR.s (Qt.yes J J J (Q4 J J J)) J J (DR.s (Qn J J J J) J J (DR.s (Qa J J J) J J (DR.s (Qt.yes J J J (Qu J J J J J J)) J J (DR.s (Qt.yes J J J (Qf J J J J (by decide))) J J (DR.s (Qt.yes J J J (Qg J J J J J)) J J (DR.s (Qt.yes J J J (Qf J J J J (by decide))) J J (DR.s (Qt.yes J J J (Qg J J J J J)) J J (DR.s (Qt.yes J J J (Qf J J J J (by decide))) J J (DR.s (Qt.yes J J J (Qg J J J J J)) J J ?_)))))))));refine DR.s (Qt.yes J J J (Qj J J (hsz) J)) J J ?_;refine DR.s (Qt.yes J J J (Qj J J (h3) J)) J J ?_;refine DR.s (Qn J J J J) J J (DR.s (Qa J J J) J J (DR.s (Qt.no J J J J) J J (DR.s (Qt.no J J J J) J J (DR.s (Qt.no J J J J) J J (DR.s (Qt.no J J J J) J J (DR.s (Qo J J J J) J J (DR.s (Qa J J J) J J (DR.s (Qt.no J J J J) J J (DR.s (Qt.no J J J J) J J (DR.s (Qt.no J J J J) J J (DR.s (Qt.no J J J J) J J ?_)))))))))));refine DR.s (Qo J J J J) J J (DR.stop (by kernel_rfl) (by kernel_rfl) (zz (Qm J (zy (z1 J (zz (Xa (T_r ?_))))))));refine F_r ?_
    exact Xp J J (X5 [] (by decide) J J J)
   | false =>
    rw [e3] at h3
    cases e4 : inR b.VX (-15) 15 with
    | false =>
     rw [e4] at h4
     rw [show bodyM l n b = false by rw [bodyM,e1,e2,e3,e4]; rfl]
     refine Con.of Tryz.func96 J Tryz.ntmps96 J (fun E => ?_)
     refine zy (M1 (Qq J J J J) J J (M1 (Qq J J J J) J J (z1 J (zz (Qd (Qd (Xi u8_0 u8_1 u8_2 J (DR.s (Qf J J J J (by decide)) J J (DR.s (Qg J J J J J) J J ?_)))))))));refine DR.s (Qj J J (h1) J) J J ?_;refine DR.s (Q4 J J J) J J (DR.s (Qa J J J) J J (DR.s (Qt.yes J J J (Qf J J J J (by decide))) J J (DR.s (Qt.yes J J J (Qg J J J J J)) J J (DR.s (Qt.yes J J J (Qa J J J)) J J (DR.s (Qt.yes J J J (Xc J J J J (by omega))) J J ?_)))));refine DR.s (Qt.yes J J J (Qj J J (h2) J)) J J ?_;refine DR.s (Qt.yes J J J (Q4 J J J)) J J (DR.s (Qn J J J J) J J (DR.s (Qa J J J) J J (DR.s (Qt.yes J J J (Qu J J J J J J)) J J (DR.s (Qt.yes J J J (Qf J J J J (by decide))) J J (DR.s (Qt.yes J J J (Qg J J J J J)) J J (DR.s (Qt.yes J J J (Qf J J J J (by decide))) J J (DR.s (Qt.yes J J J (Qg J J J J J)) J J (DR.s (Qt.yes J J J (Qf J J J J (by decide))) J J (DR.s (Qt.yes J J J (Qg J J J J J)) J J ?_)))))))));refine DR.s (Qt.yes J J J (Qj J J (hsz) J)) J J ?_;refine DR.s (Qt.yes J J J (Qj J J (h3) J)) J J ?_;refine DR.s (Qn J J J J) J J (DR.s (Qa J J J) J J (DR.s (Qt.yes J J J (Qf J J J J (by decide))) J J (DR.s (Qt.yes J J J (Qg J J J J J)) J J ?_)));refine DR.s (Qt.yes J J J (Qj J J (h4) J)) J J ?_;refine DR.s (Qt.yes J J J (Q4 J J J)) J J (DR.s (Qn J J J J) J J (DR.s (Qa J J J) J J (DR.s (Qt.no J J J J) J J (DR.s (Qt.no J J J J) J J (DR.s (Qt.no J J J J) J J (DR.s (Qt.no J J J J) J J (DR.s (Qo J J J J) J J (DR.stop (by kernel_rfl) (by kernel_rfl) (zz (Qm J ?_))))))))));refine zy (z1 J (zz (Xa (T_r (F_r ?_)))))
     exact Xp J J (X5 [] (by decide) J J J)
    | true =>
     rw [e4] at h4
     cases e5 : inR b.VY (-15) 15 with
     | false =>
      rw [e5] at h5
      rw [show bodyM l n b = false by rw [bodyM,e1,e2,e3,e4,e5]; rfl]
      refine Con.of Tryz.func96 J Tryz.ntmps96 J (fun E => ?_)
      refine zy (M1 (Qq J J J J) J J (M1 (Qq J J J J) J J (z1 J (zz (Qd (Qd (Xi u8_0 u8_1 u8_2 J (DR.s (Qf J J J J (by decide)) J J (DR.s (Qg J J J J J) J J ?_)))))))));refine DR.s (Qj J J (h1) J) J J ?_;refine DR.s (Q4 J J J) J J (DR.s (Qa J J J) J J (DR.s (Qt.yes J J J (Qf J J J J (by decide))) J J (DR.s (Qt.yes J J J (Qg J J J J J)) J J (DR.s (Qt.yes J J J (Qa J J J)) J J (DR.s (Qt.yes J J J (Xc J J J J (by omega))) J J ?_)))));refine DR.s (Qt.yes J J J (Qj J J (h2) J)) J J ?_;refine DR.s (Qt.yes J J J (Q4 J J J)) J J (DR.s (Qn J J J J) J J (DR.s (Qa J J J) J J (DR.s (Qt.yes J J J (Qu J J J J J J)) J J (DR.s (Qt.yes J J J (Qf J J J J (by decide))) J J (DR.s (Qt.yes J J J (Qg J J J J J)) J J (DR.s (Qt.yes J J J (Qf J J J J (by decide))) J J (DR.s (Qt.yes J J J (Qg J J J J J)) J J (DR.s (Qt.yes J J J (Qf J J J J (by decide))) J J (DR.s (Qt.yes J J J (Qg J J J J J)) J J ?_)))))))));refine DR.s (Qt.yes J J J (Qj J J (hsz) J)) J J ?_;refine DR.s (Qt.yes J J J (Qj J J (h3) J)) J J ?_;refine DR.s (Qn J J J J) J J (DR.s (Qa J J J) J J (DR.s (Qt.yes J J J (Qf J J J J (by decide))) J J (DR.s (Qt.yes J J J (Qg J J J J J)) J J ?_)));refine DR.s (Qt.yes J J J (Qj J J (h4) J)) J J ?_;refine DR.s (Qt.yes J J J (Q4 J J J)) J J (DR.s (Qn J J J J) J J (DR.s (Qa J J J) J J (DR.s (Qt.yes J J J (Qf J J J J (by decide))) J J (DR.s (Qt.yes J J J (Qg J J J J J)) J J ?_))));refine DR.s (Qt.yes J J J (Qj J J (h5) J)) J J ?_;refine DR.s (Qt.yes J J J (Q4 J J J)) J J (DR.s (Qn J J J J) J J (DR.stop (by kernel_rfl) (by kernel_rfl) (zz (Qm J (zy (z1 J (zz (Xa ?_))))))));refine T_r (F_r ?_)
      exact Xp J J (X5 [] (by decide) J J J)
     | true =>
      rw [e5] at h5
      rw [show bodyM l n b = tailM b by rw [bodyM,e1,e2,e3,e4,e5]; rfl]
      by_cases k0 : b.Kind = 0
      ·have hk : decide (b.Kind = 0) = true := decide_eq_true k0
       refine Con.of Tryz.func96 J Tryz.ntmps96 J (fun E => ?_)
       refine zy (M1 (Qq J J J J) J J (M1 (Qq J J J J) J J (z1 J (zz (Qd (Qd (Xi u8_0 u8_1 u8_2 J (DR.s (Qf J J J J (by decide)) J J (DR.s (Qg J J J J J) J J ?_)))))))));refine DR.s (Qj J J (h1) J) J J ?_;refine DR.s (Q4 J J J) J J (DR.s (Qa J J J) J J (DR.s (Qt.yes J J J (Qf J J J J (by decide))) J J (DR.s (Qt.yes J J J (Qg J J J J J)) J J (DR.s (Qt.yes J J J (Qa J J J)) J J (DR.s (Qt.yes J J J (Xc J J J J (by omega))) J J ?_)))));refine DR.s (Qt.yes J J J (Qj J J (h2) J)) J J ?_;refine DR.s (Qt.yes J J J (Q4 J J J)) J J (DR.s (Qn J J J J) J J (DR.s (Qa J J J) J J (DR.s (Qt.yes J J J (Qu J J J J J J)) J J (DR.s (Qt.yes J J J (Qf J J J J (by decide))) J J (DR.s (Qt.yes J J J (Qg J J J J J)) J J (DR.s (Qt.yes J J J (Qf J J J J (by decide))) J J (DR.s (Qt.yes J J J (Qg J J J J J)) J J (DR.s (Qt.yes J J J (Qf J J J J (by decide))) J J (DR.s (Qt.yes J J J (Qg J J J J J)) J J ?_)))))))));refine DR.s (Qt.yes J J J (Qj J J (hsz) J)) J J ?_;refine DR.s (Qt.yes J J J (Qj J J (h3) J)) J J ?_;refine DR.s (Qn J J J J) J J (DR.s (Qa J J J) J J (DR.s (Qt.yes J J J (Qf J J J J (by decide))) J J (DR.s (Qt.yes J J J (Qg J J J J J)) J J ?_)));refine DR.s (Qt.yes J J J (Qj J J (h4) J)) J J ?_;refine DR.s (Qt.yes J J J (Q4 J J J)) J J (DR.s (Qn J J J J) J J (DR.s (Qa J J J) J J (DR.s (Qt.yes J J J (Qf J J J J (by decide))) J J (DR.s (Qt.yes J J J (Qg J J J J J)) J J ?_))));refine DR.s (Qt.yes J J J (Qj J J (h5) J)) J J ?_;refine DR.s (Qt.yes J J J (Q4 J J J)) J J (DR.s (Qn J J J J) J J (DR.stop (by kernel_rfl) (by kernel_rfl) (zz (Ql J (Qh (Q0 (Qd (zy (z2 J J J ?_)))))))));refine z3 J (zz (Qk (zy (z9e J (by assumption) (z1 J (zz (Qm J (Qd ?_))))))));refine zy (z2 J J J (z3 J (zx (Z4 J J J J) J (z0 J ?_))));refine zx (Qt.grdT J J J .stop (fun hgrd => Qf J J J J (by decide))) J ?_;refine zx (Qt.grdT J J J (.hit .stop) (fun hgrd => Qg J J J J J)) J ?_;refine zx (Qt.grdT J J J (.hit (.hit .stop)) (fun hgrd => Z4 J J J J)) J ?_;refine zx (Zg J J J J) J (z0 J ?_);refine zx (Qt.grdF J J J .stop (fun hgrd => Qf J J J J (by decide))) J ?_;refine zx (Qt.grdF J J J (.hit .stop) (fun hgrd => Qg J J J J J)) J ?_;refine zx (Qt.grdF J J J (.hit (.hit .stop)) (fun hgrd => Qj J J (S_in b.Life 0 3) J)) J ?_;refine zx (Qt.grdF J J J (.hit (.hit (.hit .stop))) (fun hgrd => Q4 J J J)) J ?_;refine zx (Z5 J J J J) J (zz ?_)
       refine Xb J (fun h => ?_) (fun h => ?_)
       ·rw [show tailM b = false by
         rw [tailM,if_pos k0]
         simp only [Bool.or_eq_true,Bool.and_eq_true,decide_eq_true_eq,Bool.not_eq_true'] at h
         rcases h with h | h
         ·rw [decide_eq_false (by omega)]; rfl
         ·rw [h]; simp]
        refine zy (z1 J (zz (Xa (T_r (B_r (T_r (F_r ?_)))))))
        exact Xp J J (X5 [] (by decide) J J J)
       simp only [Bool.or_eq_false_iff,Bool.and_eq_false_iff,decide_eq_false_iff_not,Bool.not_eq_false'] at h
       have ht : tailM b = if b.Life = 0 then inR b.Timer 1 20 else inR b.Timer 0 12 := by
        rw [tailM,if_pos k0,decide_eq_true (by omega),h.2]; rfl
       by_cases l0 : b.Life = 0
       ·have hk2 : decide (b.Life = 0) = true := decide_eq_true l0
        rw [ht,if_pos l0]
        refine Qh (Q0 (Qd (zy (z2 J J J (z3 J (z9e J (by assumption) (zz (Qm J (Qd ?_)))))))));refine Qc (z2 J J J (z3 J ?_));refine zx (Qj J J (S_in b.Timer 1 20) J) J ?_;refine z1 J (zz (Xa (T_r (B_r (T_r (F_r ?_))))))
        exact Xp J J (X5 [] (by decide) J J J)
       ·have hk2 : decide (b.Life = 0) = false := decide_eq_false l0
        rw [ht,if_neg l0]
        refine Qh (Q0 (Qd (zy (z2 J J J (z3 J (z9e J (by assumption) (zz (Ql J (Qh ?_)))))))));refine Q0 (zy (z2 J J J (z3 J ?_)));refine zx (Qj J J (S_in b.Timer 0 12) J) J ?_;refine z1 J (zz (Xa (B_r (T_r (F_r ?_)))))
        exact Xp J J (X5 [] (by decide) J J J)
      have hk : decide (b.Kind = 0) = false := decide_eq_false k0
      by_cases k1 : b.Kind = 1
      ·have hk1 : decide (b.Kind = 1) = true := decide_eq_true k1
       refine Con.of Tryz.func96 J Tryz.ntmps96 J (fun E => ?_)
       refine zy (M1 (Qq J J J J) J J (M1 (Qq J J J J) J J (z1 J (zz (Qd (Qd (Xi u8_0 u8_1 u8_2 J (DR.s (Qf J J J J (by decide)) J J (DR.s (Qg J J J J J) J J ?_)))))))));refine DR.s (Qj J J (h1) J) J J ?_;refine DR.s (Q4 J J J) J J (DR.s (Qa J J J) J J (DR.s (Qt.yes J J J (Qf J J J J (by decide))) J J (DR.s (Qt.yes J J J (Qg J J J J J)) J J (DR.s (Qt.yes J J J (Qa J J J)) J J (DR.s (Qt.yes J J J (Xc J J J J (by omega))) J J ?_)))));refine DR.s (Qt.yes J J J (Qj J J (h2) J)) J J ?_;refine DR.s (Qt.yes J J J (Q4 J J J)) J J (DR.s (Qn J J J J) J J (DR.s (Qa J J J) J J (DR.s (Qt.yes J J J (Qu J J J J J J)) J J (DR.s (Qt.yes J J J (Qf J J J J (by decide))) J J (DR.s (Qt.yes J J J (Qg J J J J J)) J J (DR.s (Qt.yes J J J (Qf J J J J (by decide))) J J (DR.s (Qt.yes J J J (Qg J J J J J)) J J (DR.s (Qt.yes J J J (Qf J J J J (by decide))) J J (DR.s (Qt.yes J J J (Qg J J J J J)) J J ?_)))))))));refine DR.s (Qt.yes J J J (Qj J J (hsz) J)) J J ?_;refine DR.s (Qt.yes J J J (Qj J J (h3) J)) J J ?_;refine DR.s (Qn J J J J) J J (DR.s (Qa J J J) J J (DR.s (Qt.yes J J J (Qf J J J J (by decide))) J J (DR.s (Qt.yes J J J (Qg J J J J J)) J J ?_)));refine DR.s (Qt.yes J J J (Qj J J (h4) J)) J J ?_;refine DR.s (Qt.yes J J J (Q4 J J J)) J J (DR.s (Qn J J J J) J J (DR.s (Qa J J J) J J (DR.s (Qt.yes J J J (Qf J J J J (by decide))) J J (DR.s (Qt.yes J J J (Qg J J J J J)) J J ?_))));refine DR.s (Qt.yes J J J (Qj J J (h5) J)) J J ?_;refine DR.s (Qt.yes J J J (Q4 J J J)) J J (DR.s (Qn J J J J) J J (DR.stop (by kernel_rfl) (by kernel_rfl) (zz (Ql J (Qh (Q0 (Qd (zy (z2 J J J ?_)))))))));refine z3 J (zz (Qk (zy (z9e J (by assumption) (z1 J (zz (Ql J (Qd ?_))))))));refine Qc (z9e J (by assumption) (z1 J (zz (Qm J (zy (z2 J J J (z3 J (zx (Zq J J J J) J (z0 J ?_)))))))));refine zx (Qt.grdT J J J .stop (fun hgrd => Qf J J J J (by decide))) J ?_;refine zx (Qt.grdT J J J (.hit .stop) (fun hgrd => Qg J J J J J)) J ?_;refine zx (Qt.grdT J J J (.hit (.hit .stop)) (fun hgrd => Zq J J J J)) J ?_;refine zx (Zg J J J J) J (z0 J ?_);refine zx (Qt.grdT J J J .stop (fun hgrd => Qf J J J J (by decide))) J ?_;refine zx (Qt.grdT J J J (.hit .stop) (fun hgrd => Qg J J J J J)) J ?_;refine zx (Qt.grdT J J J (.hit (.hit .stop)) (fun hgrd => Qj J J (S_in b.Timer 1 25) J)) J ?_;refine zx (Zg J J J J) J (z1 J (zz (Xa (B_r (T_r (F_r ?_))))))
       exact Xp J J (X5 [] (by decide) J J (Xk (by rw [tailM,if_neg k0,if_pos k1,← Bool.decide_and])))
      ·have hk1 : decide (b.Kind = 1) = false := decide_eq_false k1
       refine Con.of Tryz.func96 J Tryz.ntmps96 J (fun E => ?_)
       refine zy (M1 (Qq J J J J) J J (M1 (Qq J J J J) J J (z1 J (zz (Qd (Qd (Xi u8_0 u8_1 u8_2 J (DR.s (Qf J J J J (by decide)) J J (DR.s (Qg J J J J J) J J ?_)))))))));refine DR.s (Qj J J (h1) J) J J ?_;refine DR.s (Q4 J J J) J J (DR.s (Qa J J J) J J (DR.s (Qt.yes J J J (Qf J J J J (by decide))) J J (DR.s (Qt.yes J J J (Qg J J J J J)) J J (DR.s (Qt.yes J J J (Qa J J J)) J J (DR.s (Qt.yes J J J (Xc J J J J (by omega))) J J ?_)))));refine DR.s (Qt.yes J J J (Qj J J (h2) J)) J J ?_;refine DR.s (Qt.yes J J J (Q4 J J J)) J J (DR.s (Qn J J J J) J J (DR.s (Qa J J J) J J (DR.s (Qt.yes J J J (Qu J J J J J J)) J J (DR.s (Qt.yes J J J (Qf J J J J (by decide))) J J (DR.s (Qt.yes J J J (Qg J J J J J)) J J (DR.s (Qt.yes J J J (Qf J J J J (by decide))) J J (DR.s (Qt.yes J J J (Qg J J J J J)) J J (DR.s (Qt.yes J J J (Qf J J J J (by decide))) J J (DR.s (Qt.yes J J J (Qg J J J J J)) J J ?_)))))))));refine DR.s (Qt.yes J J J (Qj J J (hsz) J)) J J ?_;refine DR.s (Qt.yes J J J (Qj J J (h3) J)) J J ?_;refine DR.s (Qn J J J J) J J (DR.s (Qa J J J) J J (DR.s (Qt.yes J J J (Qf J J J J (by decide))) J J (DR.s (Qt.yes J J J (Qg J J J J J)) J J ?_)));refine DR.s (Qt.yes J J J (Qj J J (h4) J)) J J ?_;refine DR.s (Qt.yes J J J (Q4 J J J)) J J (DR.s (Qn J J J J) J J (DR.s (Qa J J J) J J (DR.s (Qt.yes J J J (Qf J J J J (by decide))) J J (DR.s (Qt.yes J J J (Qg J J J J J)) J J ?_))));refine DR.s (Qt.yes J J J (Qj J J (h5) J)) J J ?_;refine DR.s (Qt.yes J J J (Q4 J J J)) J J (DR.s (Qn J J J J) J J (DR.stop (by kernel_rfl) (by kernel_rfl) (zz (Ql J (Qh (Q0 (Qd (zy (z2 J J J ?_)))))))));refine z3 J (zz (Qk (zy (z9e J (by assumption) (z1 J (zz (Ql J (Qd ?_))))))));refine Qc (z9e J (by assumption) (z1 J (zz (Ql J (Qh (Q1 (Q0 (zy (z2 J J J ?_)))))))));refine z3 J (zx (Zq J J J J) J (z0 J ?_));refine zx (Qt.grdT J J J .stop (fun hgrd => Qf J J J J (by decide))) J ?_;refine zx (Qt.grdT J J J (.hit .stop) (fun hgrd => Qg J J J J J)) J ?_;refine zx (Qt.grdT J J J (.hit (.hit .stop)) (fun hgrd => Zq J J J J)) J ?_;refine zx (Zg J J J J) J (z0 J ?_);refine zx (Qt.grdT J J J .stop (fun hgrd => Qf J J J J (by decide))) J ?_;refine zx (Qt.grdT J J J (.hit .stop) (fun hgrd => Qg J J J J J)) J ?_;refine zx (Qt.grdT J J J (.hit (.hit .stop)) (fun hgrd => Zq J J J J)) J ?_;refine zx (Zg J J J J) J (z0 J ?_);refine zx (Qt.grdT J J J .stop (fun hgrd => Qf J J J J (by decide))) J ?_;refine zx (Qt.grdT J J J (.hit .stop) (fun hgrd => Qg J J J J J)) J ?_;refine zx (Qt.grdT J J J (.hit (.hit .stop)) (fun hgrd => Zq J J J J)) J ?_;refine zx (Zg J J J J) J (z1 J (zz (Xa (F_r ?_))))
       exact Xp J J (X5 [] (by decide) J J (Xk (by rw [tailM,if_neg k0,if_neg k1]; simp only [Bool.decide_and,Bool.and_assoc])))
theorem I_BodyOk (l : TLevel) (n : Int) (b : TBody) (hg : Enc.gd l) (hb : Enc.gd b) (hn : 0 ≤ n ∧ n ≤ 1099511627776) : Con Tryz.prog 115 [] [ag l,ai n,ag b] [] (B (levelOk l && bodyM l n b)) := by
 obtain ⟨b1,b2,b3,b4,b5,b6,b7,b8,b9⟩ := hb
 have hc := Xt l hg
 cases hl : levelOk l with
 | false =>
  rw [hl] at hc
  rw [Bool.false_and]
  refine Con.of Tryz.func115 J Tryz.ntmps115 J (fun E => ?_)
  refine zy (M1 (Qq J J J J) J J (M1 (Qq J J J J) J J (z1 J (zz (Qd (zy (z4 J J J ?_)))))));refine zx (Qj J J (hc) J) J ?_;refine zn J (z0 J (z6 J (z6 J (z6 J (zpT J (z0 J (z6 J (z6 J (z6 J (zpT J (Qe ?_)))))))))));refine Q0 (Qm J (zy (z1 J (zz (Xa (T_r (F_r ?_)))))))
  exact Xp J J (X5 [] (by decide) J J J)
 | true =>
  rw [hl] at hc
  rw [Bool.true_and]
  refine Con.of Tryz.func115 J Tryz.ntmps115 J (fun E => ?_)
  refine zy (M1 (Qq J J J J) J J (M1 (Qq J J J J) J J (z1 J (zz (Qd (zy (z4 J J J ?_)))))));refine zx (Qj J J (hc) J) J ?_;refine zn J (z0 J (z5 J (z2 J J J (z5 J (z3 J (z5 J (zx (Z1 J J J J) J (zpF J (z0 J ?_)))))))));refine zx (Qt.grdF J J J .stop (fun hgrd => Qf J J J J (by decide))) J ?_;refine zx (Qt.grdF J J J (.hit .stop) (fun hgrd => Qg J J J J J)) J ?_;refine zx (Qt.grdF J J J (.hit (.hit .stop)) (fun hgrd => Zu J J J J)) J ?_;refine zx (Z5 J J J J) J (zz ?_)
  refine Xb J (fun h => ?_) (fun h => ?_)
  ·simp only [Bool.or_eq_true,decide_eq_true_eq] at h
   have e1 : inR b.Kind 0 2 = false := by rw [← Bool.not_eq_true,Y3]; omega
   rw [show bodyM l n b = false by rw [bodyM,e1]; rfl]
   refine zy (z1 J (zz (Xa (T_r (F_r ?_)))))
   exact Xp J J (X5 [] (by decide) J J J)
  simp only [Bool.or_eq_false_iff,decide_eq_false_iff_not] at h
  have e1 : inR b.Kind 0 2 = true := Y3.2 (by omega)
  have hs16 := size_in e1
  refine Qh (Q0 (Qd (zy (z2 J J J (z3 J (zx (Z1 J J J J) J (z0 J ?_)))))));refine zx (Qt.grdF J J J .stop (fun hgrd => Qf J J J J (by decide))) J ?_;refine zx (Qt.grdF J J J (.hit .stop) (fun hgrd => Qg J J J J J)) J ?_;refine zx (Qt.grdF J J J (.hit (.hit .stop)) (fun hgrd => Qa J J J)) J ?_;refine zx (Qt.grdF J J J (.hit (.hit (.hit .stop))) (fun hgrd => q_geq J J J J)) J ?_;refine zx (Z5 J J J J) J (z0 J ?_);refine zx (Qt.grdF J J J .stop (fun hgrd => Qf J J J J (by decide))) J ?_;refine zx (Qt.grdF J J J (.hit .stop) (fun hgrd => Qg J J J J J)) J ?_;refine zx (Qt.grdF J J J (.hit (.hit .stop)) (fun hgrd => Zq J J J J)) J ?_;refine zx (Qt.grdF J J J (.hit (.hit (.hit .stop))) (fun hgrd => Qa J J J)) J ?_;refine zx (Qt.grd2T J J J (.hit1 (.hit1 (.hit1 (.hit1 .stop)))) (fun hgrd hgrd2 => Qf J J J J (by decide))) J ?_;refine zx (Qt.grd2T J J J (.hit (.hit1 (.hit1 (.hit1 (.hit1 .stop))))) (fun hgrd hgrd2 => Qg J J J J J)) J ?_;refine zx (Qt.grd2T J J J (.hit (.hit (.hit1 (.hit1 (.hit1 (.hit1 .stop)))))) (fun hgrd hgrd2 => Z4 J J J J)) J ?_;refine zx (Qt.grdF J J J (.part (.part (.part (.hit (.hit (.hit (.hit .stop))))))) (fun hgrd => Zg J J J J)) J ?_;refine zx (Z5 J J J J) J (zz ?_)
  refine Xb J (fun h2 => ?_) (fun h2 => ?_)
  ·simp only [Bool.or_eq_true,Bool.and_eq_true,decide_eq_true_eq] at h2
   rw [show bodyM l n b = false by
    by_cases ho : 0 ≤ b.Owner ∧ b.Owner ≤ n - 1
    ·have hk : b.Kind = 2 ∧ b.Owner ≠ 0 := by omega
     have ht : tailM b = false := by rw [tailM,if_neg (by omega),if_neg (by omega),decide_eq_false (fun hh => hk.2 hh.1)]
     rw [bodyM,ht]; simp
    ·have e2 : inR b.Owner 0 (n - 1) = false := by rw [← Bool.not_eq_true,Y3]; exact ho
     rw [bodyM,e2]; simp]
   refine zy (z1 J (zz (Xa (T_r (F_r ?_)))))
   exact Xp J J (X5 [] (by decide) J J J)
  simp only [Bool.or_eq_false_iff,Bool.and_eq_false_iff,decide_eq_false_iff_not] at h2
  have e2 : inR b.Owner 0 (n - 1) = true := Y3.2 (by omega)
  have hsz := I_SizeOf b.Kind
  have h3 := I_SolidAt l b.X b.Y (sizeOf b.Kind) hg b3 b4
  rw [show solidAt l b.X b.Y (sizeOf b.Kind) = solidM l b.X b.Y (sizeOf b.Kind) by rw [solidAt,hl,Y3.2 hs16]; rfl] at h3
  cases e3 : solidM l b.X b.Y (sizeOf b.Kind) with
  | true =>
   rw [e3] at h3
   rw [show bodyM l n b = false by rw [bodyM,e1,e2,e3]; rfl]
   refine Qh (Q0 (Qd (Qd (Xi u8_3 u8_4 u8_5 J (DR.s (Qu J J J J J J) J J (DR.s (Qf J J J J (by decide)) J J (DR.s (Qg J J J J J) J J (DR.s (Qf J J J J (by decide)) J J (DR.s (Qg J J J J J) J J (DR.s (Qf J J J J (by decide)) J J (DR.s (Qg J J J J J) J J ?_)))))))))));refine DR.s (Qj J J (hsz) J) J J ?_;refine DR.s (Qj J J (h3) J) J J ?_;refine DR.stop (by kernel_rfl) (by kernel_rfl) (zz (Qm J (zy (z1 J (zz (Xa (T_r (F_r ?_))))))))
   exact Xp J J (X5 [] (by decide) J J J)
  | false =>
   rw [e3] at h3
   refine Qh (Q0 (Qd (Qd (Xi u8_3 u8_4 u8_5 J (DR.s (Qu J J J J J J) J J (DR.s (Qf J J J J (by decide)) J J (DR.s (Qg J J J J J) J J (DR.s (Qf J J J J (by decide)) J J (DR.s (Qg J J J J J) J J (DR.s (Qf J J J J (by decide)) J J (DR.s (Qg J J J J J) J J ?_)))))))))));refine DR.s (Qj J J (hsz) J) J J ?_;refine DR.s (Qj J J (h3) J) J J ?_;refine DR.stop (by kernel_rfl) (by kernel_rfl) (zz (Ql J (Qh (Q0 (Qd (zy (z2 J J J (z3 J ?_))))))));refine zx (Qj J J (Xv b.VX (-15) 15) J) J ?_;refine zn J (z0 J ?_);refine zx (Qt.grdF J J J .stop (fun hgrd => Qf J J J J (by decide))) J ?_;refine zx (Qt.grdF J J J (.hit .stop) (fun hgrd => Qg J J J J J)) J ?_;refine zx (Qt.grdF J J J (.hit (.hit .stop)) (fun hgrd => Qj J J (Xv b.VY (-15) 15) J)) J ?_;refine zx (Qt.grdF J J J (.hit (.hit (.hit .stop))) (fun hgrd => Q4 J J J)) J ?_;refine zx (Z5 J J J J) J (zz ?_)
   refine Xb J (fun h4 => ?_) (fun h4 => ?_)
   ·simp only [Bool.or_eq_true,Bool.not_eq_true'] at h4
    rw [show bodyM l n b = false by rw [bodyM]; rcases h4 with h4 | h4 <;> rw [h4] <;> simp]
    refine zy (z1 J (zz (Xa (T_r (F_r ?_)))))
    exact Xp J J (X5 [] (by decide) J J J)
   simp only [Bool.or_eq_false_iff,Bool.not_eq_false'] at h4
   rw [show bodyM l n b = tailM b by rw [bodyM,e1,e2,e3,h4.1,h4.2]; rfl]
   by_cases k0 : b.Kind = 0
   ·have hk : decide (b.Kind = 0) = true := decide_eq_true k0
    refine Qh (Q0 (Qd (zy (z2 J J J (z3 J (z9e J (by assumption) (zz (Qm J (Qd ?_)))))))));refine zy (z2 J J J (z3 J (zx (Z4 J J J J) J (z0 J ?_))));refine zx (Qt.grdT J J J .stop (fun hgrd => Qf J J J J (by decide))) J ?_;refine zx (Qt.grdT J J J (.hit .stop) (fun hgrd => Qg J J J J J)) J ?_;refine zx (Qt.grdT J J J (.hit (.hit .stop)) (fun hgrd => Z4 J J J J)) J ?_;refine zx (Zg J J J J) J (z0 J ?_);refine zx (Qt.grdF J J J .stop (fun hgrd => Qf J J J J (by decide))) J ?_;refine zx (Qt.grdF J J J (.hit .stop) (fun hgrd => Qg J J J J J)) J ?_;refine zx (Qt.grdF J J J (.hit (.hit .stop)) (fun hgrd => Qj J J (Xv b.Life 0 3) J)) J ?_;refine zx (Qt.grdF J J J (.hit (.hit (.hit .stop))) (fun hgrd => Q4 J J J)) J ?_;refine zx (Z5 J J J J) J (zz ?_)
    refine Xb J (fun h => ?_) (fun h => ?_)
    ·rw [show tailM b = false by
      rw [tailM,if_pos k0]
      simp only [Bool.or_eq_true,Bool.and_eq_true,decide_eq_true_eq,Bool.not_eq_true'] at h
      rcases h with h | h
      ·rw [decide_eq_false (by omega)]; rfl
      ·rw [h]; simp]
     refine zy (z1 J (zz (Xa (T_r (T_r (F_r ?_))))))
     exact Xp J J (X5 [] (by decide) J J J)
    simp only [Bool.or_eq_false_iff,Bool.and_eq_false_iff,decide_eq_false_iff_not,Bool.not_eq_false'] at h
    have hlf := Y3.1 h.2
    have ht : tailM b = if b.Life = 0 then inR b.Timer 1 20 else inR b.Timer 0 12 := by
     rw [tailM,if_pos k0,decide_eq_true (by omega),h.2]; rfl
    by_cases l0 : b.Life = 0
    ·have hk2 : decide (0 < b.Life) = false := decide_eq_false (by omega)
     rw [ht,if_pos l0]
     refine Qh (Q0 (Qd (zy (z2 J J J (z3 J (z9c J (by assumption) (zz (Ql J (Qh ?_)))))))));refine Q0 (zy (z2 J J J (z3 J ?_)));refine zx (Qj J J (Xv b.Timer 1 20) J) J ?_;refine z1 J (zz (Xa (T_r (F_r ?_))))
     exact Xp J J (X5 [] (by decide) J J J)
    ·have hk2 : decide (0 < b.Life) = true := decide_eq_true (by omega)
     rw [ht,if_neg l0]
     refine Qh (Q0 (Qd (zy (z2 J J J (z3 J (z9c J (by assumption) (zz (Qm J (Qd ?_)))))))));refine Qc (z2 J J J (z3 J ?_));refine zx (Qj J J (Xv b.Timer 0 12) J) J ?_;refine z1 J (zz (Xa (T_r (T_r (F_r ?_)))))
     exact Xp J J (X5 [] (by decide) J J J)
   have hk : decide (b.Kind = 0) = false := decide_eq_false k0
   refine Qh (Q0 (Qd (zy (z2 J J J (z3 J (z9e J (by assumption) (zz (Ql J (Qh ?_)))))))));refine Q0 (Qd (zy (z2 J J J (z3 J (zx (Z4 J J J J) J (z0 J ?_))))));refine zx (Qt.grdF J J J .stop (fun hgrd => Qf J J J J (by decide))) J ?_;refine zx (Qt.grdF J J J (.hit .stop) (fun hgrd => Qg J J J J J)) J ?_;refine zx (Qt.grdF J J J (.hit (.hit .stop)) (fun hgrd => Z4 J J J J)) J ?_;refine zx (Z5 J J J J) J (zz ?_)
   refine Xb J (fun h5 => ?_) (fun h5 => ?_)
   ·simp only [Bool.or_eq_true,decide_eq_true_eq] at h5
    rw [show tailM b = false by
     rw [tailM,if_neg k0]
     split
     ·rw [decide_eq_false (by omega)]; rfl
     ·exact decide_eq_false (by omega)]
    refine zy (z1 J (zz (Xa (T_r (F_r ?_)))))
    exact Xp J J (X5 [] (by decide) J J J)
   simp only [Bool.or_eq_false_iff,decide_eq_false_iff_not] at h5
   by_cases k1 : b.Kind = 1
   ·have hk1 : decide (b.Kind = 1) = true := decide_eq_true k1
    rw [show tailM b = inR b.Timer 1 25 by rw [tailM,if_neg k0,if_pos k1,decide_eq_true (by omega)]; rfl]
    refine Qh (Q0 (Qd (zy (z2 J J J (z3 J (z9e J (by assumption) (zz (Qm J (Qd ?_)))))))));refine Qc (z2 J J J (z3 J ?_));refine zx (Qj J J (Xv b.Timer 1 25) J) J ?_;refine z1 J (zz (Xa (T_r (F_r ?_))))
    exact Xp J J (X5 [] (by decide) J J J)
   ·have hk1 : decide (b.Kind = 1) = false := decide_eq_false k1
    rw [show tailM b = decide (b.Timer = 0) by rw [tailM,if_neg k0,if_neg k1]; exact decide_eq_decide.2 (by omega)]
    refine Qh (Q0 (Qd (zy (z2 J J J (z3 J (z9e J (by assumption) (zz (Ql J (Qh ?_)))))))));refine Q0 (zy (z2 J J J (z3 J (zx (Zq J J J J) J (z1 J (zz (Xa (F_r ?_))))))))
    exact Xp J J (X5 [] (by decide) J J J)
end
end Go.Proofs.YtbfhboakafjjgaaGreat
