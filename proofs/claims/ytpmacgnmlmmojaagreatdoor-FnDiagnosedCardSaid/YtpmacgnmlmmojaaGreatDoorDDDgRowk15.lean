/-
  Parts of the proof (rules, data, and what functions of the program and of the reference return), among them: Valid worlds: WorldOk, in the program and in the reference; One element's slice of an owned slice of slices, taken out to be written to.
  Conditions: those that each theorem names.
-/
import Derived.Test.YtpmacgnmlmmojaaGreatDoorDDDgRowk13
import Derived.Test.YtpmacgnmlmmojaaGreatDoorDDDgRowk14
set_option linter.unusedSimpArgs false
set_option linter.unusedVariables false
set_option maxRecDepth 8000
set_option maxHeartbeats 8000000
namespace Go.Proofs.YtpmacgnmlmmojaaGreatDoor
section
open Go.RowKit

def tailM (b : TBody) : Bool :=
 if b.Kind = 0 then (decide (b.Aim = 1 ∨ b.Aim = -1) && inR b.Life 0 3) && (if b.Life = 0 then inR b.Timer 1 20 else inR b.Timer 0 12)
 else if b.Kind = 1 then decide (b.Aim = 0 ∧ b.Life = 0) && inR b.Timer 1 25
 else decide (b.Owner = 0 ∧ b.Aim = 0 ∧ b.Life = 0 ∧ b.Timer = 0)
noncomputable def bodyM (l : TLevel) (n : Int) (b : TBody) : Bool :=
 inR b.Kind 0 2 && (inR b.Owner 0 (n - 1) && (!solidM l b.X b.Y (sizeOf b.Kind) && (inR b.VX (-15) 15 && (inR b.VY (-15) 15 && tailM b))))
theorem size_in {k : Int} (h : inR k 0 2 = true) : 1 ≤ sizeOf k ∧ sizeOf k ≤ 16 := by
 have := Y0.1 h
 unfold sizeOf
 split
 ·omega
 ·split
  ·omega
  ·split <;> omega
theorem S_l02Body (l : TLevel) (n : Int) (b : TBody) (hg : Enc.gd l) (hl : levelOk l = true) (hb : Enc.gd b) (hn : 0 ≤ n ∧ n ≤ 1099511627776) : Con Tryz.prog 189 [] [ag l,ai n,ag b] [] (B (bodyM l n b)) := by
 obtain ⟨b1,b2,b3,b4,b5,b6,b7,b8,b9⟩ := hb
 have h1 := S_in b.Kind 0 2
 have hsz := S_SizeOf b.Kind
 have h2 := S_in b.Owner 0 (n - 1)
 have h4 := S_in b.VX (-15) 15
 have h5 := S_in b.VY (-15) 15
 cases e1 : inR b.Kind 0 2 with
 | false =>
  rw [e1] at h1
  rw [show bodyM l n b = false by rw [bodyM,e1]; rfl]
  refine Con.of Tryz.func189 J Tryz.ntmps189 J (fun E => ?_)
  refine Wz [26,79,22,20,152,33] ?_;refine DR.s (Qj J J (h1) J) J J ?_;refine Wz [153,3,58,145,65,3,58,58,131,65,3,58,65,3,58,65,31,9,55] ?_
  exact Xn J J (X6 [] (by decide) J J J)
 | true =>
  rw [e1] at h1
  cases e2 : inR b.Owner 0 (n - 1) with
  | false =>
   rw [e2] at h2
   rw [show bodyM l n b = false by rw [bodyM,e1,e2]; rfl]
   refine Con.of Tryz.func189 J Tryz.ntmps189 J (fun E => ?_)
   refine Wz [26,79,22,20,152,33] ?_;refine DR.s (Qj J J (h1) J) J J ?_;refine Wz [153,3,23,66,154] ?_;refine DR.s (Qt.yes J J J (Qj J J (h2) J)) J J ?_;refine Wz [118,59,3,58,58,131,65,3,58,65,3,58,65,31,9,55] ?_
   exact Xn J J (X6 [] (by decide) J J J)
  | true =>
   rw [e2] at h2
   have hs16 := size_in e1
   have h3 := S_l02Solid l b.X b.Y (sizeOf b.Kind) hl b3 b4 hs16.1 hs16.2
   cases e3 : solidM l b.X b.Y (sizeOf b.Kind) with
   | true =>
    rw [e3] at h3
    rw [show bodyM l n b = false by rw [bodyM,e1,e2,e3]; rfl]
    refine Con.of Tryz.func189 J Tryz.ntmps189 J (fun E => ?_)
    refine Wz [26,79,22,20,152,33] ?_;refine DR.s (Qj J J (h1) J) J J ?_;refine Wz [153,3,23,66,154] ?_;refine DR.s (Qt.yes J J J (Qj J J (h2) J)) J J ?_;refine Wz [118,59,3,119,23,23,23] ?_;refine DR.s (Qt.yes J J J (Qj J J (hsz) J)) J J ?_;refine DR.s (Qt.yes J J J (Qj J J (h3) J)) J J ?_;refine Wz [59,3,58,65,3,58,65,31,9,55] ?_
    exact Xn J J (X6 [] (by decide) J J J)
   | false =>
    rw [e3] at h3
    cases e4 : inR b.VX (-15) 15 with
    | false =>
     rw [e4] at h4
     rw [show bodyM l n b = false by rw [bodyM,e1,e2,e3,e4]; rfl]
     refine Con.of Tryz.func189 J Tryz.ntmps189 J (fun E => ?_)
     refine Wz [26,79,22,20,152,33] ?_;refine DR.s (Qj J J (h1) J) J J ?_;refine Wz [153,3,23,66,154] ?_;refine DR.s (Qt.yes J J J (Qj J J (h2) J)) J J ?_;refine Wz [118,59,3,119,23,23,23] ?_;refine DR.s (Qt.yes J J J (Qj J J (hsz) J)) J J ?_;refine DR.s (Qt.yes J J J (Qj J J (h3) J)) J J ?_;refine Wz [59,3,23] ?_;refine DR.s (Qt.yes J J J (Qj J J (h4) J)) J J ?_;refine Wz [118,59,3,58,65,31,9,55] ?_
     exact Xn J J (X6 [] (by decide) J J J)
    | true =>
     rw [e4] at h4
     cases e5 : inR b.VY (-15) 15 with
     | false =>
      rw [e5] at h5
      rw [show bodyM l n b = false by rw [bodyM,e1,e2,e3,e4,e5]; rfl]
      refine Con.of Tryz.func189 J Tryz.ntmps189 J (fun E => ?_)
      refine Wz [26,79,22,20,152,33] ?_;refine DR.s (Qj J J (h1) J) J J ?_;refine Wz [153,3,23,66,154] ?_;refine DR.s (Qt.yes J J J (Qj J J (h2) J)) J J ?_;refine Wz [118,59,3,119,23,23,23] ?_;refine DR.s (Qt.yes J J J (Qj J J (hsz) J)) J J ?_;refine DR.s (Qt.yes J J J (Qj J J (h3) J)) J J ?_;refine Wz [59,3,23] ?_;refine DR.s (Qt.yes J J J (Qj J J (h4) J)) J J ?_;refine Wz [118,59,3,23] ?_;refine DR.s (Qt.yes J J J (Qj J J (h5) J)) J J ?_;refine Wz [118,59,31,9,55] ?_
      exact Xn J J (X6 [] (by decide) J J J)
     | true =>
      rw [e5] at h5
      rw [show bodyM l n b = tailM b by rw [bodyM,e1,e2,e3,e4,e5]; rfl]
      by_cases k0 : b.Kind = 0
      ·have hk : decide (b.Kind = 0) = true := decide_eq_true k0
       refine Con.of Tryz.func189 J Tryz.ntmps189 J (fun E => ?_)
       refine Wz [26,79,22,20,152,33] ?_;refine DR.s (Qj J J (h1) J) J J ?_;refine Wz [153,3,23,66,154] ?_;refine DR.s (Qt.yes J J J (Qj J J (h2) J)) J J ?_;refine Wz [118,59,3,119,23,23,23] ?_;refine DR.s (Qt.yes J J J (Qj J J (hsz) J)) J J ?_;refine DR.s (Qt.yes J J J (Qj J J (h3) J)) J J ?_;refine Wz [59,3,23] ?_;refine DR.s (Qt.yes J J J (Qj J J (h4) J)) J J ?_;refine Wz [118,59,3,23] ?_;refine DR.s (Qt.yes J J J (Qj J J (h5) J)) J J ?_;refine Wz [118,59,31,60,70,5,1,13,4,19,2,46,20,5,114,0,98,99] ?_;refine zx (Qt.grdT J J J (.hit (.hit .stop)) (fun hgrd => Zz J J J J)) J ?_;refine Wz [76,0,86,94] ?_;refine zx (Qt.grdF J J J (.hit (.hit .stop)) (fun hgrd => Qj J J (S_in b.Life 0 3) J)) J ?_;refine Wz [126,43,1] ?_
       refine Xb J (fun h => ?_) (fun h => ?_)
       ·rw [show tailM b = false by
         rw [tailM,if_pos k0]
         simp only [Bool.or_eq_true,Bool.and_eq_true,decide_eq_true_eq,Bool.not_eq_true'] at h
         rcases h with h | h
         ·rw [decide_eq_false (by omega)]; rfl
         ·rw [h]; simp]
        refine Wz [62,83,25] ?_
        exact Xn J J (X6 [] (by decide) J J J)
       simp only [Bool.or_eq_false_iff,Bool.and_eq_false_iff,decide_eq_false_iff_not,Bool.not_eq_false'] at h
       have ht : tailM b = if b.Life = 0 then inR b.Timer 1 20 else inR b.Timer 0 12 := by
        rw [tailM,if_pos k0,decide_eq_true (by omega),h.2]; rfl
       by_cases l0 : b.Life = 0
       ·have hk2 : decide (b.Life = 0) = true := decide_eq_true l0
        rw [ht,if_pos l0]
        refine Wz [70,5,19,9,5] ?_;refine zx (Qj J J (S_in b.Timer 1 20) J) J ?_;refine Wz [2,75,83,25] ?_
        exact Xn J J (X6 [] (by decide) J J J)
       ·have hk2 : decide (b.Life = 0) = false := decide_eq_false l0
        rw [ht,if_neg l0]
        refine Wz [70,5,19,35,5] ?_;refine zx (Qj J J (S_in b.Timer 0 12) J) J ?_;refine Wz [2,75,133,25] ?_
        exact Xn J J (X6 [] (by decide) J J J)
      have hk : decide (b.Kind = 0) = false := decide_eq_false k0
      by_cases k1 : b.Kind = 1
      ·have hk1 : decide (b.Kind = 1) = true := decide_eq_true k1
       refine Con.of Tryz.func189 J Tryz.ntmps189 J (fun E => ?_)
       refine Wz [26,79,22,20,152,33] ?_;refine DR.s (Qj J J (h1) J) J J ?_;refine Wz [153,3,23,66,154] ?_;refine DR.s (Qt.yes J J J (Qj J J (h2) J)) J J ?_;refine Wz [118,59,3,119,23,23,23] ?_;refine DR.s (Qt.yes J J J (Qj J J (hsz) J)) J J ?_;refine DR.s (Qt.yes J J J (Qj J J (h3) J)) J J ?_;refine Wz [59,3,23] ?_;refine DR.s (Qt.yes J J J (Qj J J (h4) J)) J J ?_;refine Wz [118,59,3,23] ?_;refine DR.s (Qt.yes J J J (Qj J J (h5) J)) J J ?_;refine Wz [118,59,31,60,70,5,1,13,4,19,2,47,4,19,2,46,5,148,0,98,99,160,76,0,98,99] ?_;refine zx (Qt.grdT J J J (.hit (.hit .stop)) (fun hgrd => Qj J J (S_in b.Timer 1 25) J)) J ?_;refine Wz [76,2,75,133,25] ?_
       exact Xn J J (X6 [] (by decide) J J (Xj (by rw [tailM,if_neg k0,if_pos k1,← Bool.decide_and])))
      ·have hk1 : decide (b.Kind = 1) = false := decide_eq_false k1
       refine Con.of Tryz.func189 J Tryz.ntmps189 J (fun E => ?_)
       refine Wz [26,79,22,20,152,33] ?_;refine DR.s (Qj J J (h1) J) J J ?_;refine Wz [153,3,23,66,154] ?_;refine DR.s (Qt.yes J J J (Qj J J (h2) J)) J J ?_;refine Wz [118,59,3,119,23,23,23] ?_;refine DR.s (Qt.yes J J J (Qj J J (hsz) J)) J J ?_;refine DR.s (Qt.yes J J J (Qj J J (h3) J)) J J ?_;refine Wz [59,3,23] ?_;refine DR.s (Qt.yes J J J (Qj J J (h4) J)) J J ?_;refine Wz [118,59,3,23] ?_;refine DR.s (Qt.yes J J J (Qj J J (h5) J)) J J ?_;refine Wz [118,59,31,60,70,5,1,13,4,19,2,47,4,19,2,47,96,90,5,148,0,98,99,160,76,0,98,99,160,76,0,98,99,160,76,34] ?_
       exact Xn J J (X6 [] (by decide) J J (Xj (by rw [tailM,if_neg k0,if_neg k1]; simp only [Bool.decide_and,Bool.and_assoc])))
theorem I_BodyOk (l : TLevel) (n : Int) (b : TBody) (hg : Enc.gd l) (hb : Enc.gd b) (hn : 0 ≤ n ∧ n ≤ 1099511627776) : Con Tryz.prog 192 [] [ag l,ai n,ag b] [] (B (levelOk l && bodyM l n b)) := by
 obtain ⟨b1,b2,b3,b4,b5,b6,b7,b8,b9⟩ := hb
 have hc := Xr l hg
 cases hl : levelOk l with
 | false =>
  rw [hl] at hc
  rw [Bool.false_and]
  refine Con.of Tryz.func192 J Tryz.ntmps192 J (fun E => ?_)
  refine Wz [26,79,22,15] ?_;refine zx (Qj J J (hc) J) J ?_;refine Wz [14,44,84,24,44,84,24,9,55] ?_
  exact Xn J J (X6 [] (by decide) J J J)
 | true =>
  rw [hl] at hc
  rw [Bool.true_and]
  refine Con.of Tryz.func192 J Tryz.ntmps192 J (fun E => ?_)
  refine Wz [26,79,22,15] ?_;refine zx (Qj J J (hc) J) J ?_;refine Wz [14,57,48,8,0,86,94] ?_;refine zx (Qt.grdF J J J (.hit (.hit .stop)) (fun hgrd => q_gtr J J J J)) J ?_;refine Wz [43,1] ?_
  refine Xb J (fun h => ?_) (fun h => ?_)
  ·simp only [Bool.or_eq_true,decide_eq_true_eq] at h
   have e1 : inR b.Kind 0 2 = false := by rw [← Bool.not_eq_true,Y0]; omega
   rw [show bodyM l n b = false by rw [bodyM,e1]; rfl]
   refine Wz [55] ?_
   exact Xn J J (X6 [] (by decide) J J J)
  simp only [Bool.or_eq_false_iff,decide_eq_false_iff_not] at h
  have e1 : inR b.Kind 0 2 = true := Y0.2 (by omega)
  have hs16 := size_in e1
  refine Wz [70,5,48,0,86,94] ?_;refine zx (Qt.grdF J J J (.hit (.hit .stop)) (fun hgrd => Qa J J J)) J ?_;refine zx (Qt.grdF J J J (.hit (.hit (.hit .stop))) (fun hgrd => q_geq J J J J)) J ?_;refine Wz [43,0,86,94] ?_;refine zx (Qt.grdF J J J (.hit (.hit .stop)) (fun hgrd => Zm J J J J)) J ?_;refine zx (Qt.grdF J J J (.hit (.hit (.hit .stop))) (fun hgrd => Qa J J J)) J ?_;refine zx (Qt.grd2T J J J (.hit1 (.hit1 (.hit1 (.hit1 .stop)))) (fun hgrd hgrd2 => Qf J J J J (by decide))) J ?_;refine zx (Qt.grd2T J J J (.hit (.hit1 (.hit1 (.hit1 (.hit1 .stop))))) (fun hgrd hgrd2 => Qg J J J J J)) J ?_;refine zx (Qt.grd2T J J J (.hit (.hit (.hit1 (.hit1 (.hit1 (.hit1 .stop)))))) (fun hgrd hgrd2 => Zz J J J J)) J ?_;refine zx (Qt.grdF J J J (.part (.part (.part (.hit (.hit (.hit (.hit .stop))))))) (fun hgrd => Ze J J J J)) J ?_;refine Wz [43,1] ?_
  refine Xb J (fun h2 => ?_) (fun h2 => ?_)
  ·simp only [Bool.or_eq_true,Bool.and_eq_true,decide_eq_true_eq] at h2
   rw [show bodyM l n b = false by
    by_cases ho : 0 ≤ b.Owner ∧ b.Owner ≤ n - 1
    ·have hk : b.Kind = 2 ∧ b.Owner ≠ 0 := by omega
     have ht : tailM b = false := by rw [tailM,if_neg (by omega),if_neg (by omega),decide_eq_false (fun hh => hk.2 hh.1)]
     rw [bodyM,ht]; simp
    ·have e2 : inR b.Owner 0 (n - 1) = false := by rw [← Bool.not_eq_true,Y0]; exact ho
     rw [bodyM,e2]; simp]
   refine Wz [55] ?_
   exact Xn J J (X6 [] (by decide) J J J)
  simp only [Bool.or_eq_false_iff,Bool.and_eq_false_iff,decide_eq_false_iff_not] at h2
  have e2 : inR b.Owner 0 (n - 1) = true := Y0.2 (by omega)
  have hsz := I_SizeOf b.Kind
  have h3 := I_SolidAt l b.X b.Y (sizeOf b.Kind) hg b3 b4
  rw [show solidAt l b.X b.Y (sizeOf b.Kind) = solidM l b.X b.Y (sizeOf b.Kind) by rw [solidAt,hl,Y0.2 hs16]; rfl] at h3
  cases e3 : solidM l b.X b.Y (sizeOf b.Kind) with
  | true =>
   rw [e3] at h3
   rw [show bodyM l n b = false by rw [bodyM,e1,e2,e3]; rfl]
   refine Wz [70,20] ?_;refine Xh u8_3 u8_4 u8_5 J ?_;refine Wz [100,33,33,33] ?_;refine DR.s (Qj J J (hsz) J) J J ?_;refine DR.s (Qj J J (h3) J) J J ?_;refine Wz [31,9,55] ?_
   exact Xn J J (X6 [] (by decide) J J J)
  | false =>
   rw [e3] at h3
   refine Wz [70,20] ?_;refine Xh u8_3 u8_4 u8_5 J ?_;refine Wz [100,33,33,33] ?_;refine DR.s (Qj J J (hsz) J) J J ?_;refine DR.s (Qj J J (h3) J) J J ?_;refine Wz [31,60,70,5] ?_;refine zx (Qj J J (Xw b.VX (-15) 15) J) J ?_;refine Wz [14,0,86,94] ?_;refine zx (Qt.grdF J J J (.hit (.hit .stop)) (fun hgrd => Qj J J (Xw b.VY (-15) 15) J)) J ?_;refine Wz [126,43,1] ?_
   refine Xb J (fun h4 => ?_) (fun h4 => ?_)
   ·simp only [Bool.or_eq_true,Bool.not_eq_true'] at h4
    rw [show bodyM l n b = false by rw [bodyM]; rcases h4 with h4 | h4 <;> rw [h4] <;> simp]
    refine Wz [55] ?_
    exact Xn J J (X6 [] (by decide) J J J)
   simp only [Bool.or_eq_false_iff,Bool.not_eq_false'] at h4
   rw [show bodyM l n b = tailM b by rw [bodyM,e1,e2,e3,h4.1,h4.2]; rfl]
   by_cases k0 : b.Kind = 0
   ·have hk : decide (b.Kind = 0) = true := decide_eq_true k0
    refine Wz [70,5,19,9,20,5,114,0,98,99] ?_;refine zx (Qt.grdT J J J (.hit (.hit .stop)) (fun hgrd => Zz J J J J)) J ?_;refine Wz [76,0,86,94] ?_;refine zx (Qt.grdF J J J (.hit (.hit .stop)) (fun hgrd => Qj J J (Xw b.Life 0 3) J)) J ?_;refine Wz [126,43,1] ?_
    refine Xb J (fun h => ?_) (fun h => ?_)
    ·rw [show tailM b = false by
      rw [tailM,if_pos k0]
      simp only [Bool.or_eq_true,Bool.and_eq_true,decide_eq_true_eq,Bool.not_eq_true'] at h
      rcases h with h | h
      ·rw [decide_eq_false (by omega)]; rfl
      ·rw [h]; simp]
     refine Wz [62,166,25] ?_
     exact Xn J J (X6 [] (by decide) J J J)
    simp only [Bool.or_eq_false_iff,Bool.and_eq_false_iff,decide_eq_false_iff_not,Bool.not_eq_false'] at h
    have hlf := Y0.1 h.2
    have ht : tailM b = if b.Life = 0 then inR b.Timer 1 20 else inR b.Timer 0 12 := by
     rw [tailM,if_pos k0,decide_eq_true (by omega),h.2]; rfl
    by_cases l0 : b.Life = 0
    ·have hk2 : decide (0 < b.Life) = false := decide_eq_false (by omega)
     rw [ht,if_pos l0]
     refine Wz [70,5,85,35,5] ?_;refine zx (Qj J J (Xw b.Timer 1 20) J) J ?_;refine Wz [2,75,25] ?_
     exact Xn J J (X6 [] (by decide) J J J)
    ·have hk2 : decide (0 < b.Life) = true := decide_eq_true (by omega)
     rw [ht,if_neg l0]
     refine Wz [70,5,85,9,5] ?_;refine zx (Qj J J (Xw b.Timer 0 12) J) J ?_;refine Wz [2,75,166,25] ?_
     exact Xn J J (X6 [] (by decide) J J J)
   have hk : decide (b.Kind = 0) = false := decide_eq_false k0
   refine Wz [70,5,19,60,70,5,114,0,86,94] ?_;refine zx (Qt.grdF J J J (.hit (.hit .stop)) (fun hgrd => Zz J J J J)) J ?_;refine Wz [43,1] ?_
   refine Xb J (fun h5 => ?_) (fun h5 => ?_)
   ·simp only [Bool.or_eq_true,decide_eq_true_eq] at h5
    rw [show tailM b = false by
     rw [tailM,if_neg k0]
     split
     ·rw [decide_eq_false (by omega)]; rfl
     ·exact decide_eq_false (by omega)]
    refine Wz [55] ?_
    exact Xn J J (X6 [] (by decide) J J J)
   simp only [Bool.or_eq_false_iff,decide_eq_false_iff_not] at h5
   by_cases k1 : b.Kind = 1
   ·have hk1 : decide (b.Kind = 1) = true := decide_eq_true k1
    rw [show tailM b = inR b.Timer 1 25 by rw [tailM,if_neg k0,if_pos k1,decide_eq_true (by omega)]; rfl]
    refine Wz [70,5,19,9,5] ?_;refine zx (Qj J J (Xw b.Timer 1 25) J) J ?_;refine Wz [2,75,25] ?_
    exact Xn J J (X6 [] (by decide) J J J)
   ·have hk1 : decide (b.Kind = 1) = false := decide_eq_false k1
    rw [show tailM b = decide (b.Timer = 0) by rw [tailM,if_neg k0,if_neg k1]; exact decide_eq_decide.2 (by omega)]
    refine Wz [70,5,19,35,5,148,34] ?_
    exact Xn J J (X6 [] (by decide) J J J)
end
section
open Go.RowKit

noncomputable def bodyAt (l : TLevel) (n k : Nat) (b : TBody) : Bool := bodyM l n b && (if k < n then decide (b.Kind = 0 ∧ b.Owner = k) else decide (b.Kind ≠ 0))
def bodiesOk (l : TLevel) (n : Nat) (bs : List TBody) : Prop := ∀ (k : Nat) (hk : k < bs.length),bodyAt l n k bs[k] = true
def scoresOk (ss : List Int) : Bool := ss.all fun x => inR x 0 1000000
noncomputable def worldOk (w : TWorld) : Bool := @decide (levelOk w.Level = true ∧ inR w.Tick 0 100000 = true ∧ inR w.Seed 0 65535 = true ∧ (1 ≤ w.Scores.length ∧ w.Scores.length ≤ 4) ∧ scoresOk w.Scores = true ∧ (w.Scores.length ≤ w.Bodies.length ∧ w.Bodies.length ≤ 24) ∧ bodiesOk w.Level w.Scores.length w.Bodies) (Classical.propDecidable _)
theorem worldOk_T {w : TWorld} (h : levelOk w.Level = true ∧ inR w.Tick 0 100000 = true ∧ inR w.Seed 0 65535 = true ∧ (1 ≤ w.Scores.length ∧ w.Scores.length ≤ 4) ∧ scoresOk w.Scores = true ∧ (w.Scores.length ≤ w.Bodies.length ∧ w.Bodies.length ≤ 24) ∧ bodiesOk w.Level w.Scores.length w.Bodies) : worldOk w = true := @decide_eq_true _ (Classical.propDecidable _) h
theorem Kg {w : TWorld} (h : ¬ (levelOk w.Level = true ∧ inR w.Tick 0 100000 = true ∧ inR w.Seed 0 65535 = true ∧ (1 ≤ w.Scores.length ∧ w.Scores.length ≤ 4) ∧ scoresOk w.Scores = true ∧ (w.Scores.length ≤ w.Bodies.length ∧ w.Bodies.length ≤ 24) ∧ bodiesOk w.Level w.Scores.length w.Bodies)) : worldOk w = false := @decide_eq_false _ (Classical.propDecidable _) h
theorem Kh {w : TWorld} (h : worldOk w = true) : levelOk w.Level = true ∧ inR w.Tick 0 100000 = true ∧ inR w.Seed 0 65535 = true ∧ (1 ≤ w.Scores.length ∧ w.Scores.length ≤ 4) ∧ scoresOk w.Scores = true ∧ (w.Scores.length ≤ w.Bodies.length ∧ w.Bodies.length ≤ 24) ∧ bodiesOk w.Level w.Scores.length w.Bodies := @of_decide_eq_true _ (Classical.propDecidable _) h
theorem score_no {ss : List Int} {k : Nat} (h : k < ss.length) (hn : inR ss[k] 0 1000000 = false) : scoresOk ss = false := by
 rw [scoresOk,← Bool.not_eq_true,List.all_eq_true]
 intro hh
 rw [hh _ (List.getElem_mem h)] at hn
 cases hn
theorem Xv (x : TWorld) (hg : Enc.gd x) : Con Tryz.prog 119 [] [ag x] [] (B (worldOk x)) := by
 obtain ⟨gL,gT,gS,gSc,gB⟩ := hg
 have g1 := gSc.1
 have g2 := gB.1
 have hls := Ym x.Scores
 have hlb := Ym x.Bodies
 have hc := Xr x.Level gL
 refine Con.of Tryz.func119 J Tryz.ntmps119 J (fun E => ?_)
 refine Wz [26,22,4,64,27] ?_;refine zx (Qj J J (hc) J) J ?_;refine Wz [14,0,86,94] ?_;refine zx (Qt.grdF J J J (.hit (.hit .stop)) (fun hgrd => Qj J J (Xw x.Tick 0 100000) J)) J ?_;refine Wz [126,43,0,86,94] ?_;refine zx (Qt.grdF J J J (.hit (.hit .stop)) (fun hgrd => Qj J J (Xw x.Seed 0 65535) J)) J ?_;refine Wz [126,43,1] ?_
 refine Xb J (fun h => ?_) (fun h => ?_)
 ·simp only [Bool.or_eq_true,Bool.not_eq_true'] at h
  rw [Kg (fun hh => by rcases h with (h | h) | h; rw [hh.1] at h; cases h; rw [hh.2.1] at h; cases h; rw [hh.2.2.1] at h; cases h)]
  refine Wz [55] ?_
  exact Xn J J (X6 [] (by decide) J J J)
 simp only [Bool.or_eq_false_iff,Bool.not_eq_false'] at h
 obtain ⟨⟨hL,hT⟩,hS⟩ := h
 refine Wz [68,5,12,56,48,0,91] ?_;refine zx (Qt.grdF J J J (.hit .stop) (fun hgrd => q_gtr J J J J)) J ?_;refine Wz [43,1] ?_
 refine Xb J (fun h => ?_) (fun h => ?_)
 ·simp only [Bool.or_eq_true,decide_eq_true_eq] at h
  rw [Kg (fun hh => by have := hh.2.2.2.1; omega)]
  refine Wz [55] ?_
  exact Xn J J (X6 [] (by decide) J J J)
 simp only [Bool.or_eq_false_iff,decide_eq_false_iff_not] at h
 refine Wz [70,5,12,78,13] ?_;refine Xi (fun m st => ∃ k : Nat,k + m = x.Scores.length ∧ ((x.Scores.take k).all (fun y => inR y 0 1000000) = true) ∧ st = (⟨_,[(1,.o (.c (.ptr 0 0))),(3,I (els x.Scores).length),(34,L x.Scores),(35,I (els x.Scores).length),(36,I k)],[.box ((Enc.e x).map (V1.rd []))]⟩ : St)) (x.Scores.length) ⟨_,⟨0,by omega,by simp,J⟩,X7 [0] (by kernel_rfl)⟩ ?_
 rintro m_A _ ⟨k,hk_A,hp_A,rfl⟩
 refine Wz [4,48,21] ?_
 refine Xb J (fun h3 => ?_) (fun h3 => ?_)
 ·have h3 : k < x.Scores.length := by have := of_decide_eq_true h3; omega
  have hat := Yl h3
  cases e : inR x.Scores[k] 0 1000000 with
  | false =>
   have hb := Xw x.Scores[k] 0 1000000
   rw [e] at hb
   rw [Kg (fun hh => by have h9 := hh.2.2.2.2.1; rw [score_no h3 e] at h9; cases h9)]
   refine Wz [29,4,61,2,7] ?_;refine zx (Qj J J (hb) J) J ?_;refine Wz [14,9,62,63,25] ?_
   exact Xn J J (X6 [] (by decide) J J J)
  | true =>
   have hb := Xw x.Scores[k] 0 1000000
   rw [e] at hb
   refine Wz [29,4,61,2,7] ?_;refine zx (Qj J J (hb) J) J ?_;refine Wz [14,45,38] ?_
   exact ⟨x.Scores.length - (k + 1),by omega,_,⟨k + 1,by omega,all_next hp_A h3 e,J⟩,X7 [0] (by kernel_rfl)⟩
 have h3 : ¬ k < x.Scores.length := by have := of_decide_eq_false h3; omega
 have hall : scoresOk x.Scores = true := all_end hp_A (by omega)
 refine Wz [32,20,5,12,0,48,0,86,94,159] ?_;refine zx (Qt.grdF J J J (.hit (.hit (.hit .stop))) (fun hgrd => q_gtr J J J J)) J ?_;refine Wz [43,1] ?_
 refine Xb J (fun h5 => ?_) (fun h5 => ?_)
 ·simp only [Bool.or_eq_true,decide_eq_true_eq] at h5
  rw [Kg (fun hh => by have := hh.2.2.2.2.2.1; omega)]
  refine Wz [55] ?_
  exact Xn J J (X6 [] (by decide) J J J)
 simp only [Bool.or_eq_false_iff,decide_eq_false_iff_not] at h5
 refine Wz [70,5,12,78,13] ?_;refine Xi (fun m st => ∃ k : Nat,k + m = x.Bodies.length ∧ ((∀ (j : Nat) (hj : j < x.Bodies.length),j < k → bodyAt x.Level x.Scores.length j x.Bodies[j] = true)) ∧ st = (⟨_,[(1,.o (.c (.ptr 0 0))),(3,I (els x.Scores).length),(56,L x.Bodies),(57,I (els x.Bodies).length),(58,I k)],[.box ((Enc.e x).map (V1.rd []))]⟩ : St)) (x.Bodies.length) ⟨_,⟨0,by omega,fun j hj h0 => by omega,J⟩,X7 [0] (by kernel_rfl)⟩ ?_
 rintro m_C _ ⟨k,hk_C,hp_C,rfl⟩
 refine Wz [4,48,21] ?_
 refine Xb J (fun h6 => ?_) (fun h6 => ?_)
 ·have h6 : k < x.Bodies.length := by have := of_decide_eq_true h6; omega
  have hat := Yl h6
  have gb := gB.2 _ (List.getElem_mem h6)
  have hb := I_BodyOk x.Level (els x.Scores).length x.Bodies[k] gL gb (by omega)
  rw [hL,Bool.true_and] at hb
  have hlen : ((els x.Scores).length : Int) = (x.Scores.length : Int) := by rw [hls]
  cases e : bodyM x.Level (els x.Scores).length x.Bodies[k] with
  | false =>
   rw [e] at hb
   rw [Kg (fun hh => by have h9 := hh.2.2.2.2.2.2 k h6; rw [bodyAt,← hlen,e] at h9; cases h9)]
   refine Wz [52,77,107,18,72,40,21,4,64,27,0,27] ?_;refine zx (Qj J J (hb) J) J ?_;refine Wz [14,9,62,83,121,25] ?_
   exact Xn J J (X6 [] (by decide) J J J)
  | true =>
   rw [e] at hb
   rw [hlen] at e
   by_cases hkn : (k : Int) < (els x.Scores).length
   ·have hd : decide ((k : Int) < (els x.Scores).length) = true := decide_eq_true hkn
    have hd2 : decide (((els x.Scores).length : Int) ≤ k) = false := decide_eq_false (by omega)
    refine Wz [52,77,107,18,72,40,21,4,64,27,0,27] ?_;refine zx (Qj J J (hb) J) J ?_;refine Wz [14,35,36,10,57,114,6,0,86,94] ?_;refine zx (Qt.grdF J J J (.hit (.hit .stop)) (fun hgrd => Qa J J J)) J ?_;refine zx (Qt.grdF J J J (.hit (.hit (.hit .stop))) (fun hgrd => Zz J J J J)) J ?_;refine Wz [6,43,24,1] ?_
    refine Xb J (fun h7 => ?_) (fun h7 => ?_)
    ·simp only [Bool.or_eq_true,decide_eq_true_eq] at h7
     rw [Kg (fun hh => by have h9 := hh.2.2.2.2.2.2 k h6; rw [bodyAt,e,if_pos (by omega)] at h9; have := of_decide_eq_true h9; omega)]
     refine Wz [62,83,121,25] ?_
     exact Xn J J (X6 [] (by decide) J J J)
    ·simp only [Bool.or_eq_false_iff,decide_eq_false_iff_not] at h7
     refine Wz [68,39,95,44,84,8,45,38] ?_
     exact ⟨x.Bodies.length - (k + 1),by omega,_,⟨k + 1,by omega,fun j hj h0 => by by_cases hjk : j = k; subst hjk; rw [bodyAt,e,if_pos (by omega)]; exact decide_eq_true (by omega); exact hp_C j hj (by omega),J⟩,X7 [0] (by kernel_rfl)⟩
   ·have hd : decide ((k : Int) < (els x.Scores).length) = false := decide_eq_false hkn
    have hd2 : decide (((els x.Scores).length : Int) ≤ k) = true := decide_eq_true (by omega)
    by_cases k0 : x.Bodies[k].Kind = 0
    ·have hd3 : decide (x.Bodies[k].Kind = 0) = true := decide_eq_true k0
     rw [Kg (fun hh => by have h9 := hh.2.2.2.2.2.2 k h6; rw [bodyAt,e,if_neg (by omega)] at h9; have := of_decide_eq_true h9; omega)]
     refine Wz [52,77,107,18,72,40,21,4,64,27,0,27] ?_;refine zx (Qj J J (hb) J) J ?_;refine Wz [14,35,36,10,44,53,82,82,82,82,84,8,35,39,95,57,19,24,9,62,63,25] ?_
     exact Xn J J (X6 [] (by decide) J J J)
    ·have hd3 : decide (x.Bodies[k].Kind = 0) = false := decide_eq_false k0
     refine Wz [52,77,107,18,72,40,21,4,64,27,0,27] ?_;refine zx (Qj J J (hb) J) J ?_;refine Wz [14,35,36,10,44,53,82,82,82,82,84,8,35,39,95,57,19,24,45,38] ?_
     exact ⟨x.Bodies.length - (k + 1),by omega,_,⟨k + 1,by omega,fun j hj h0 => by by_cases hjk : j = k; subst hjk; rw [bodyAt,e,if_neg (by omega)]; exact decide_eq_true k0; exact hp_C j hj (by omega),J⟩,X7 [0] (by kernel_rfl)⟩
 have h6 : ¬ k < x.Bodies.length := by have := of_decide_eq_false h6; omega
 rw [worldOk_T ⟨hL,hT,hS,by omega,hall,by omega,fun j hj => hp_C j hj (by omega)⟩]
 refine Wz [32,11,67] ?_
 exact Xn J J (X6 [] (by decide) J J J)
theorem S_WorldOk (x : TWorld) (hg : Enc.gd x) : Con Tryz.prog 115 [] [ag x] [] (B (worldOk x)) := by
 obtain ⟨gL,gT,gS,gSc,gB⟩ := hg
 have g1 := gSc.1
 have g2 := gB.1
 have hls := Ym x.Scores
 have hlb := Ym x.Bodies
 have hc := S_LevelOk x.Level gL
 refine Con.of Tryz.func115 J Tryz.ntmps115 J (fun E => ?_)
 refine Wz [26,2,5,12,22,4,64,27] ?_;refine zx (Qj J J (hc) J) J ?_;refine Wz [14,0,86,94] ?_;refine zx (Qt.grdF J J J (.hit (.hit .stop)) (fun hgrd => Qj J J (S_in x.Tick 0 100000) J)) J ?_;refine Wz [126,43,0,86,94] ?_;refine zx (Qt.grdF J J J (.hit (.hit .stop)) (fun hgrd => Qj J J (S_in x.Seed 0 65535) J)) J ?_;refine Wz [126,43,0,91] ?_;refine zx (Qt.grdF J J J (.hit .stop) (fun hgrd => Qj J J (S_in (els x.Scores).length 1 4) J)) J ?_;refine zx (Qt.grdF J J J (.hit (.hit .stop)) (fun hgrd => Q4 J J J)) J ?_;refine Wz [43,0,86,94,159] ?_;refine zx (Qt.grdF J J J (.hit (.hit (.hit .stop))) (fun hgrd => Qa J J J)) J ?_;refine zx (Qt.grdF J J J (.hit (.hit (.hit (.hit .stop)))) (fun hgrd => Qj J J (S_in (els x.Bodies).length (els x.Scores).length 24) J)) J ?_;refine zx (Qt.grdF J J J (.hit (.hit (.hit (.hit (.hit .stop))))) (fun hgrd => Q4 J J J)) J ?_;refine Wz [43,1] ?_
 refine Xb J (fun h => ?_) (fun h => ?_)
 ·simp only [Bool.or_eq_true,Bool.not_eq_true'] at h
  rw [Kg (fun hh => by rcases h with (((h | h) | h) | h) | h; rw [hh.1] at h; cases h; rw [hh.2.1] at h; cases h; rw [hh.2.2.1] at h; cases h; rw [← Bool.not_eq_true,Y0] at h; have := hh.2.2.2.1; omega; rw [← Bool.not_eq_true,Y0] at h; have := hh.2.2.2.2.2.1; omega)]
  refine Wz [55] ?_
  exact Xn J J (X6 [] (by decide) J J J)
 simp only [Bool.or_eq_false_iff,Bool.not_eq_false'] at h
 obtain ⟨⟨⟨⟨hL,hT⟩,hS⟩,hN⟩,hB⟩ := h
 have hN := Y0.1 hN
 have hB := Y0.1 hB
 refine Wz [70,11,13] ?_;refine Xi (fun m st => ∃ k : Nat,k + m = x.Scores.length ∧ ((x.Scores.take k).all (fun y => inR y 0 1000000) = true) ∧ st = (⟨_,[(1,.o (.c (.ptr 0 0))),(3,I (els x.Scores).length),(4,I k)],[.box ((Enc.e x).map (V1.rd []))]⟩ : St)) (x.Scores.length) ⟨_,⟨0,by omega,by simp,J⟩,X7 [0] (by kernel_rfl)⟩ ?_
 rintro m_A _ ⟨k,hk_A,hp_A,rfl⟩
 refine Wz [36,48,1] ?_
 refine Xb J (fun h3 => ?_) (fun h3 => ?_)
 ·have h3 : k < x.Scores.length := by have := of_decide_eq_true h3; omega
  have hat := Yl h3
  have hb := S_in x.Scores[k] 0 1000000
  cases e : inR x.Scores[k] 0 1000000 with
  | false =>
   rw [e] at hb
   rw [Kg (fun hh => by have h9 := hh.2.2.2.2.1; rw [score_no h3 e] at h9; cases h9)]
   refine Wz [29,5,0,61] ?_;refine zx (Qj J J (hb) J) J ?_;refine Wz [14,9,62,63,25] ?_
   exact Xn J J (X6 [] (by decide) J J J)
  | true =>
   rw [e] at hb
   refine Wz [29,5,0,61] ?_;refine zx (Qj J J (hb) J) J ?_;refine Wz [14,45,50] ?_
   exact ⟨x.Scores.length - (k + 1),by omega,_,⟨k + 1,by omega,all_next hp_A h3 e,J⟩,X7 [0] (by kernel_rfl)⟩
 have h3 : ¬ k < x.Scores.length := by have := of_decide_eq_false h3; omega
 have hall : scoresOk x.Scores = true := all_end hp_A (by omega)
 refine Wz [32,20,11,13] ?_;refine Xi (fun m st => ∃ k : Nat,k + m = x.Bodies.length ∧ ((∀ (j : Nat) (hj : j < x.Bodies.length),j < k → bodyAt x.Level x.Scores.length j x.Bodies[j] = true)) ∧ st = (⟨_,[(1,.o (.c (.ptr 0 0))),(3,I (els x.Scores).length),(5,I k)],[.box ((Enc.e x).map (V1.rd []))]⟩ : St)) (x.Bodies.length) ⟨_,⟨0,by omega,fun j hj h0 => by omega,J⟩,X7 [0] (by kernel_rfl)⟩ ?_
 rintro m_C _ ⟨k,hk_C,hp_C,rfl⟩
 refine Wz [28,17,12,48,1] ?_
 refine Xb J (fun h6 => ?_) (fun h6 => ?_)
 ·have h6 : k < x.Bodies.length := by have := of_decide_eq_true h6; omega
  have hat := Yl h6
  have gb := gB.2 _ (List.getElem_mem h6)
  have hb := S_l02Body x.Level (els x.Scores).length x.Bodies[k] gL hL gb (by omega)
  have hlen : ((els x.Scores).length : Int) = (x.Scores.length : Int) := by rw [hls]
  cases e : bodyM x.Level (els x.Scores).length x.Bodies[k] with
  | false =>
   rw [e] at hb
   rw [Kg (fun hh => by have h9 := hh.2.2.2.2.2.2 k h6; rw [bodyAt,← hlen,e] at h9; cases h9)]
   refine Wz [29,5,0,77,107,18,37,4,64,27,0,27] ?_;refine zx (Qj J J (hb) J) J ?_;refine Wz [14,44,53,53,84,24,44,53,82,82,82,82,84,24,9,62,63,25] ?_
   exact Xn J J (X6 [] (by decide) J J J)
  | true =>
   rw [e] at hb
   rw [hlen] at e
   by_cases hkn : (k : Int) < (els x.Scores).length
   ·have hd : decide ((k : Int) < (els x.Scores).length) = true := decide_eq_true hkn
    by_cases k0 : x.Bodies[k].Kind = 0
    ·have hd3 : decide (x.Bodies[k].Kind = 0) = true := decide_eq_true k0
     by_cases ho : x.Bodies[k].Owner ≠ (k : Int)
     ·have hd4 : decide (x.Bodies[k].Owner ≠ (k : Int)) = true := decide_eq_true ho
      rw [Kg (fun hh => by have h9 := hh.2.2.2.2.2.2 k h6; rw [bodyAt,e,if_pos (by omega)] at h9; have := of_decide_eq_true h9; omega)]
      refine Wz [29,5,0,77,107,18,37,4,64,27,0,27] ?_;refine zx (Qj J J (hb) J) J ?_;refine Wz [14,57,19,6,16,10,6] ?_;refine zx (q_bneq J J J J) J ?_;refine Wz [8,16,30,10,6,57,30,69,6,24,8,9,62,63,25] ?_
      exact Xn J J (X6 [] (by decide) J J J)
     ·have hd4 : decide (x.Bodies[k].Owner ≠ (k : Int)) = false := decide_eq_false ho
      refine Wz [29,5,0,77,107,18,37,4,64,27,0,27] ?_;refine zx (Qj J J (hb) J) J ?_;refine Wz [14,57,19,6,16,10,6] ?_;refine zx (q_bneq J J J J) J ?_;refine Wz [8,16,30,10,6,57,30,69,6,24,8,45,50] ?_
      exact ⟨x.Bodies.length - (k + 1),by omega,_,⟨k + 1,by omega,fun j hj h0 => by by_cases hjk : j = k; subst hjk; rw [bodyAt,e,if_pos (by omega)]; exact decide_eq_true (by omega); exact hp_C j hj (by omega),J⟩,X7 [0] (by kernel_rfl)⟩
    ·have hd3 : decide (x.Bodies[k].Kind = 0) = false := decide_eq_false k0
     rw [Kg (fun hh => by have h9 := hh.2.2.2.2.2.2 k h6; rw [bodyAt,e,if_pos (by omega)] at h9; have := of_decide_eq_true h9; omega)]
     refine Wz [29,5,0,77,107,18,37,4,64,27,0,27] ?_;refine zx (Qj J J (hb) J) J ?_;refine Wz [14,57,19,6,16,10,6] ?_;refine zx (q_bneq J J J J) J ?_;refine Wz [8,44,53,82,82,82,82,84,24,9,62,63,25] ?_
     exact Xn J J (X6 [] (by decide) J J J)
   ·have hd : decide ((k : Int) < (els x.Scores).length) = false := decide_eq_false hkn
    by_cases k0 : x.Bodies[k].Kind = 0
    ·have hd3 : decide (x.Bodies[k].Kind = 0) = true := decide_eq_true k0
     rw [Kg (fun hh => by have h9 := hh.2.2.2.2.2.2 k h6; rw [bodyAt,e,if_neg (by omega)] at h9; have := of_decide_eq_true h9; omega)]
     refine Wz [29,5,0,77,107,18,37,4,64,27,0,27] ?_;refine zx (Qj J J (hb) J) J ?_;refine Wz [14,57,19,6,16,10,6] ?_;refine zx (q_bneq J J J J) J ?_;refine Wz [8,44,53,82,82,82,82,84,24,9,62,63,25] ?_
     exact Xn J J (X6 [] (by decide) J J J)
    ·have hd3 : decide (x.Bodies[k].Kind = 0) = false := decide_eq_false k0
     refine Wz [29,5,0,77,107,18,37,4,64,27,0,27] ?_;refine zx (Qj J J (hb) J) J ?_;refine Wz [14,57,19,6,16,10,6] ?_;refine zx (q_bneq J J J J) J ?_;refine Wz [8,16,30,10,6,44,53,6,8,8,45,50] ?_
     exact ⟨x.Bodies.length - (k + 1),by omega,_,⟨k + 1,by omega,fun j hj h0 => by by_cases hjk : j = k; subst hjk; rw [bodyAt,e,if_neg (by omega)]; exact decide_eq_true k0; exact hp_C j hj (by omega),J⟩,X7 [0] (by kernel_rfl)⟩
 have h6 : ¬ k < x.Bodies.length := by have := of_decide_eq_false h6; omega
 rw [worldOk_T ⟨hL,hT,hS,by omega,hall,by omega,fun j hj => hp_C j hj (by omega)⟩]
 refine Wz [32,11,67] ?_
 exact Xn J J (X6 [] (by decide) J J J)
end
section
open Go.RowKit

def V2.allk (f : V1 → Prop) : V2 → Prop
 | .c x => f x
 | .ag xs => allP f xs
def V.allk (f : V1 → Prop) : V → Prop
 | .o x => x.allk f
 | .tu xs => allP (V2.allk f) xs
 | .iff _ x => x.allk f
def Ob.allk (f : V1 → Prop) : Ob → Prop
 | .box cs => allP f cs
 | .gh _ x => x.allk f
 | _ => True
section
variable {f : V1 → Prop} {g h : V1 → V1} (hgh : ∀ x,f x → g x = h x)
include hgh
theorem V2.allk_eq (x : V2) (hx : x.allk f) : x.mapk g = x.mapk h := by
 cases x with
 | c x => exact congrArg V2.c (hgh x hx)
 | ag xs => exact congrArg V2.ag (Ya hgh hx)
theorem V.allk_eq (x : V) (hx : x.allk f) : x.mapk g = x.mapk h := by
 cases x with
 | o x => exact congrArg V.o (V2.allk_eq hgh x hx)
 | tu xs => exact congrArg V.tu (Ya (V2.allk_eq hgh) hx)
 | iff cs x => exact congrArg (V.iff cs) (V2.allk_eq hgh x hx)
theorem Ob.allk_eq (x : Ob) (hx : x.allk f) : x.mapk g = x.mapk h := by
 cases x with
 | box cs => exact congrArg Ob.box (Ya hgh hx)
 | gh i x => exact congrArg (Ob.gh i) (V2.allk_eq hgh x hx)
 | _ => rfl
end
def V1.leok (p kk i j : Nat) : V1 → Prop
 | .le q k a b => match Nat.beq q p with
  | true => k = kk ∧ a = i ∧ b = j
  | false => True
 | _ => True
def V1.tole (p m : Nat) : V1 → V1
 | .le q k a b => match Nat.beq q p with
  | true => .ref m
  | false => (V1.le q k a b).killw [p,m] [p]
 | x => x.killw [p,m] [p]
def V1.tole0 (p m kk i j : Nat) : V1 → V1
 | .le q k a b => match Nat.beq q p with
  | true => if k = kk ∧ a = i ∧ b = j then .ref m else .un
  | false => (V1.le q k a b).killw [p,m] [p]
 | x => x.killw [p,m] [p]
theorem V1.tole_eq {p m kk i j : Nat} (x : V1) (hx : x.leok p kk i j) : x.tole0 p m kk i j = x.tole p m := by
 cases x with
 | le q k a b =>
  simp only [V1.tole0,V1.tole]
  simp only [V1.leok] at hx
  split
  ·rename_i hq
   rw [hq] at hx
   exact if_pos hx
  ·rfl
 | _ => rfl
theorem Wk.split0 {st : St} {p kk i j k' : Nat} {es es0 : List (List T)} {e : List T} (hp : st.objs[p]? = some (.row kk es)) (he : es[i]? = some e) (hx : e[j]? = some (.sl k' es0)) :
  Wk st ⟨st.n,st.tmps.map fun t => (t.1,t.2.mapk (V1.tole0 p st.objs.length kk i j)),((st.objs.map (Ob.mapk (V1.tole0 p st.objs.length kk i j))).set p (.row kk (es.set i (splice e j [.un])))) ++ [.row k' es0]⟩ := by
 intro w H F a h1
 obtain ⟨v,fp,e1,e2⟩ := h1.ow hp
 have hnd := h1.ok.nodup p
 rw [e1] at hnd
 have hnil : H st.objs.length = .nil := by
  have := h1.obs st.objs.length
  simpa [List.getD_eq_getElem?_getD,RB] using this
 have hplt := Yx hp
 obtain ⟨b,o,c,u,f,rfl,hbf,hcell,hO,hfn,hsub,hback⟩ := e2.inner hnd he hx
 have hlt : ∀ x ∈ fp,x < w.heap.size := fun x hx => h1.ok.lt (p := p) (by rw [e1]; exact hx)
 have hu1 : u.oneCell' = true := OW.one hO
 obtain ⟨fp',g1,g2,g3⟩ := hback w .un [] (fun _ _ _ => rfl) (.un u hu1) List.nodup_nil (fun x hx => by simp at hx) hlt
 have g4 : ∀ x ∈ fp',x ∈ fp ∧ x ∉ f := fun x hx => (g3 x hx).resolve_right (by simp)
 obtain ⟨N,hN⟩ : ∃ N,N = st.objs.length := ⟨_,rfl⟩
 rw [← hN] at hnil ⊢
 have hNp : N ≠ p := by omega
 obtain ⟨H',hH'⟩ : ∃ H' : Hs,H' = fun q => if q = N then .ow (.sl k' es0) u f else if q = p then .ow (.sl kk (es.set i (splice e j [.un]))) (.slice (some ⟨b,o,none⟩) es.length c) fp' else H q := ⟨_,rfl⟩
 have hHN : H' N = .ow (.sl k' es0) u f := by rw [hH']; exact if_pos rfl
 have hHp : H' p = .ow (.sl kk (es.set i (splice e j [.un]))) (.slice (some ⟨b,o,none⟩) es.length c) fp' := by rw [hH']; simp [Ne.symm hNp]
 have hHo : ∀ q,q ≠ N → q ≠ p → H' q = H q := fun q h1 h2 => by rw [hH']; simp only; rw [if_neg h1,if_neg h2]
 have hin : ∀ q x,x ∈ (H' q).fp → (q = N ∧ x ∈ f) ∨ (q = p ∧ x ∈ fp ∧ x ∉ f) ∨ (q ≠ N ∧ q ≠ p ∧ x ∈ (H q).fp) := fun q x hx => by
  by_cases hq : q = N
  ·subst hq; rw [hHN] at hx; exact .inl ⟨rfl,hx⟩
  ·by_cases hqp : q = p
   ·subst hqp; rw [hHp] at hx; exact .inr (.inl ⟨rfl,g4 x hx⟩)
   ·rw [hHo q hq hqp] at hx; exact .inr (.inr ⟨hq,hqp,hx⟩)
 have hpf : ∀ x,x ∈ fp → x ∈ (H p).fp := fun x hx => by rw [e1]; exact hx
 have hok : Ok w H' F := by
  refine ⟨fun q => ?_,fun q => ?_,fun q r x h2 h3 => ?_,fun q x h2 => ?_,h1.ok.flt⟩
  ·by_cases hq : q = N
   ·subst hq; rw [hHN]; exact hO
   ·by_cases hqp : q = p
    ·subst hqp; rw [hHp]; exact g1
    ·rw [hHo q hq hqp]; exact h1.ok.says q
  ·by_cases hq : q = N
   ·subst hq; rw [hHN]; exact hfn
   ·by_cases hqp : q = p
    ·subst hqp; rw [hHp]; exact g2
    ·rw [hHo q hq hqp]; exact h1.ok.nodup q
  ·rcases hin q x h2 with ⟨rfl,k1⟩ | ⟨rfl,k1,k2⟩ | ⟨k1,k2,k3⟩ <;> rcases hin r x h3 with ⟨e5,m1⟩ | ⟨e5,m1,m2⟩ | ⟨m1,m2,m3⟩
   ·exact e5.symm
   ·exact absurd k1 m2
   ·exact absurd (h1.ok.disj r p x m3 (hpf x (hsub x k1))) m2
   ·exact absurd m1 k2
   ·exact e5.symm
   ·exact absurd (h1.ok.disj r q x m3 (hpf x k1)) m2
   ·exact absurd (h1.ok.disj q p x k3 (hpf x (hsub x m1))) k2
   ·exact absurd (h1.ok.disj q p x k3 (hpf x m1)) k2
   ·exact h1.ok.disj q r x k3 m3
  ·rcases hin q x h2 with ⟨rfl,k1⟩ | ⟨rfl,k1,k2⟩ | ⟨k1,k2,k3⟩
   ·exact h1.ok.free p x (hpf x (hsub x k1))
   ·exact h1.ok.free q x (hpf x k1)
   ·exact h1.ok.free q x k3
 have hfpo : ∀ q x,x ∈ (H' q).fp → ∃ r,x ∈ (H r).fp := fun q x hx => by
  rcases hin q x hx with ⟨rfl,k1⟩ | ⟨rfl,k1,k2⟩ | ⟨k1,k2,k3⟩
  ·exact ⟨p,hpf x (hsub x k1)⟩
  ·exact ⟨q,hpf x k1⟩
  ·exact ⟨q,k3⟩
 have hghs : ∀ q i v,H' q = .gh i v → ∃ r,H r = .gh i v := fun q i v hq => by
  by_cases hqN : q = N
  ·subst hqN; rw [hHN] at hq; cases hq
  ·by_cases hqp : q = p
   ·subst hqp; rw [hHp] at hq; cases hq
   ·exact ⟨q,by rw [← hHo q hqN hqp]; exact hq⟩
 have htn : Turn w H w H' [p,N] := ⟨rfl,rfl,rfl,Nat.le_refl _,fun _ _ _ => rfl,fun q hq => hHo q (fun e => hq (by simp [e])) (fun e => hq (by simp [e])),fun q x hx => .inl (hfpo q x hx),hghs⟩
 have hplace : ∀ q ∈ [p],Place (H q) (H' q) := fun q hq => by
  have : q = p := by simpa using hq
  subst this
  exact .inl ⟨_,_,_,_,_,e1,hHp⟩
 have hone : ∀ x v,R1 w H F x v → R1 w H' F (V1.tole0 p N kk i j x) v := fun x v hx => by
  cases x with
  | le q k a b' =>
   simp only [V1.tole0]
   split
   ·rename_i hq
    have hqp := Nat.eq_of_beq_eq_true hq
    subst hqp
    split
    ·rename_i hc
     rw [hc.1,hc.2.1,hc.2.2] at hx
     obtain ⟨b2,o2,n2,c2,x2,fp2,k1,k2,k3,k4⟩ := hx
     rw [e1] at k1
     simp only [Pc.ow.injEq,Value.slice.injEq,Option.some.injEq,Addr.mk.injEq] at k1
     obtain ⟨_,⟨⟨rfl,rfl,_⟩,_,_⟩,_⟩ := k1
     rw [hcell] at k4
     simp only [Option.some.injEq] at k4
     subst k4
     exact ⟨_,_,hHN⟩
    ·trivial
   ·exact R1.killw h1.ok htn hplace hx
  | _ => exact R1.killw h1.ok htn hplace hx
 refine ⟨H',h1.mapk (V1.tole0 p N kk i j) hone hok _ (fun q => ?_),hfpo,hghs⟩
 by_cases hqN : q = N
 ·subst hqN
  rw [Yw (x := .row k' es0) (by rw [List.getElem?_append_right (by simp; omega)]; simp [hN])]
  exact ⟨_,_,hHN⟩
 by_cases hqp : q = p
 ·subst hqp
  rw [Yw (x := .row kk (es.set i (splice e j [.un]))) (by rw [List.getElem?_append_left (by simpa using hplt)]; simp [hplt])]
  exact ⟨_,_,hHp⟩
 ·rcases Nat.lt_or_ge q st.objs.length with hlt2 | hge
  ·rw [List.getD_eq_getElem?_getD,List.getElem?_append_left (by simpa using hlt2),List.getElem?_set_ne (Ne.symm hqp),List.getElem?_map]
   have h2 := h1.obs q
   rw [List.getD_eq_getElem?_getD] at h2
   have h3 : H' q = H q := hHo q hqN hqp
   cases ho : st.objs[q]? with
   | none => rw [ho] at h2; exact h3.trans h2
   | some ob => rw [ho] at h2; exact RB.mapk hone h3 h2
  ·rw [List.getD_eq_getElem?_getD,List.getElem?_eq_none (by simp; omega)]
   have h2 := h1.obs q
   rw [List.getD_eq_getElem?_getD,List.getElem?_eq_none hge] at h2
   exact (hHo q hqN hqp).trans h2
theorem Wk.split {st : St} {p kk i j k' : Nat} {es es0 : List (List T)} {e : List T} (hp : st.objs[p]? = some (.row kk es)) (he : es[i]? = some e) (hx : e[j]? = some (.sl k' es0)) (ht : allP (fun t : Nat × V => t.2.allk (V1.leok p kk i j)) st.tmps) (ho : allP (Ob.allk (V1.leok p kk i j)) st.objs) :
  Wk st ⟨st.n,st.tmps.map fun t => (t.1,t.2.mapk (V1.tole p st.objs.length)),((st.objs.map (Ob.mapk (V1.tole p st.objs.length))).set p (.row kk (es.set i (splice e j [.un])))) ++ [.row k' es0]⟩ := by
 have h := Wk.split0 hp he hx
 rw [Ya (g := fun e : Nat × V => (e.1,e.2.mapk (V1.tole0 p st.objs.length kk i j))) (h := fun e : Nat × V => (e.1,e.2.mapk (V1.tole p st.objs.length))) (fun e he => by rw [V.allk_eq V1.tole_eq e.2 he]) ht,Ya (fun x hx => Ob.allk_eq V1.tole_eq x hx) ho] at h
 exact h
end
end Go.Proofs.YtpmacgnmlmmojaaGreatDoor
