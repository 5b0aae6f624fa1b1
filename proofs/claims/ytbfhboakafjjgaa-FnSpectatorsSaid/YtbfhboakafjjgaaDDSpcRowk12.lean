/-
  Comparing replays, second part: levels and replays.
  Conditions: none.
-/
import Derived.Test.YtbfhboakafjjgaaDDSpcRowk11
set_option linter.unusedSimpArgs false
set_option linter.unusedVariables false
set_option maxHeartbeats 8000000
namespace Go.Proofs.Ytbfhboakafjjgaa
section
open Go.RowKit

theorem S_sameLevel (x y : TLevel) (hg : Enc.gd x) : Con Try.prog 37 [] [ag x,ag y] [] (B (decide (x = y))) := by
 have he : decide (x.Rows = y.Rows) = decide (x = y) := by cases x; cases y; simp
 rw [← he]
 clear he
 obtain ⟨xs⟩ := x
 obtain ⟨ys⟩ := y
 have hn : Enc.gd xs := hg
 have hn1 := hn.1
 show Con _ _ _ _ _ (B (decide (xs = ys)))
 have hlx := Yl xs
 have hly := Yl ys
 by_cases hl : xs.length = ys.length
 ·have hb : decide (((els xs).length : Int) ≠ ((els ys).length : Int)) = false := by rw [hlx,hly,hl]; simp
  refine Con.of Try.func37 J Try.ntmps37 J (fun E => ?_)
  refine zy (M1 (Qq J J J J) J J (M1 (Qq J J J J) J J (z1 J (zz (Qd (zy (z2 J J J (z3 J ?_))))))));refine zx (Zq J J J) J (z2 J J J (z3 J (zx (Zq J J J) J (z9f J (by assumption) (zz (Ql J (Qh (Q0 (Qd (Qd ?_))))))))));refine Qc (z1 J (zz (Qk ?_)));refine A_lq (fun m st => ∃ k : Nat,k + m = xs.length ∧ (xs.take k = ys.take k) ∧ st = (⟨_,[(2,.o (.c (.ptr 0 0))),(3,.o (.c (.ptr 1 0))),(5,I k)],[.box [.rd [] (sl xs)],.box [.rd [] (sl ys)]]⟩ : St)) (xs.length) ⟨_,⟨0,by omega,by simp,J⟩,W_gj [0,1] J⟩ ?_
  rintro m_A _ ⟨k,hk_A,hp_A,rfl⟩
  refine Qd (zy (z0 J (z2 J J J (z3 J (zx (Zq J J J) J (zx (Zv J J J J) J (zz ?_)))))))
  refine Xb J (fun h => ?_) (fun h => ?_)
  ·have h3 : k < xs.length := by have := of_decide_eq_true h; omega
   have h4 : k < ys.length := by omega
   have hat := Yk h3
   have hat2 := Yk h4
   by_cases he : xs[k] = ys[k]
   ·have hk : decide (xs[k] ≠ ys[k]) = false := by simp [he]
    refine Qh (Q0 (Qd (Qk (Qd (Xi u8_45 u8_46 u8_47 J (DR.s (Qf J J J J (by decide)) J J (DR.s (Qg J J J J J) J J (DR.s (Qa J J J) J J (DR.s (Q2 J J J J (by omega) (by assumption) J) J J (DR.s (Zu J J J J) J J (DR.s (Qf J J J J (by decide)) J J ?_)))))))))));refine DR.s (Qg J J J J J) J J (DR.s (Qa J J J) J J (DR.s (Q2 J J J J (by omega) (by assumption) J) J J (DR.s (Zu J J J J) J J (DR.s (q_sneqK J J J J (by assumption)) J J (DR.stop (by kernel_rfl) (by kernel_rfl) (zz (Ql J (Qh (Q1 (Q0 ?_))))))))));refine Qc (z0 J (z7 J (by omega) (z1 J (zz ?_))))
    exact ⟨xs.length - (k + 1),by omega,_,⟨k + 1,by omega,eq_next h3 h4 hp_A he,J⟩,W_gj [0,1] J⟩
   ·have hk : decide (xs[k] ≠ ys[k]) = true := by simp [he]
    refine Qh (Q0 (Qd (Qk (Qd (Xi u8_45 u8_46 u8_47 J (DR.s (Qf J J J J (by decide)) J J (DR.s (Qg J J J J J) J J (DR.s (Qa J J J) J J (DR.s (Q2 J J J J (by omega) (by assumption) J) J J (DR.s (Zu J J J J) J J (DR.s (Qf J J J J (by decide)) J J ?_)))))))))));refine DR.s (Qg J J J J J) J J (DR.s (Qa J J J) J J (DR.s (Q2 J J J J (by omega) (by assumption) J) J J (DR.s (Zu J J J J) J J (DR.s (q_sneqK J J J J (by assumption)) J J (DR.stop (by kernel_rfl) (by kernel_rfl) (zz (Qm J (zy (z1 J ?_)))))))));refine zz (Xa (B_r (T_r (T_r (B_r (T_r (F_r ?_)))))))
    exact Xp J J (X3 [] (by decide) J J (Xk (eq_ne h3 h4 he).symm))
  ·have h3 : ¬ ((k : Int) < (els xs).length) := of_decide_eq_false h
   refine Q9 (T_x (T_x (Xl (Q0 (zy (z1 J (zz (Xa (F_r ?_)))))))))
   exact Xp J J (X3 [] (by decide) J J (Xk (eq_all (by omega) hl hp_A).symm))
 ·have hb : decide (((els xs).length : Int) ≠ ((els ys).length : Int)) = true := by rw [hlx,hly]; simp; omega
  refine Con.of Try.func37 J Try.ntmps37 J (fun E => ?_)
  refine zy (M1 (Qq J J J J) J J (M1 (Qq J J J J) J J (z1 J (zz (Qd (zy (z2 J J J (z3 J ?_))))))));refine zx (Zq J J J) J (z2 J J J (z3 J (zx (Zq J J J) J (z9f J (by assumption) (zz (Qm J (zy (z1 J (Qe ?_)))))))));refine Q0 (Xa (T_r (F_r ?_)))
  exact Xp J J (X3 [] (by decide) J J (Xk (eq_len hl).symm))
end
end Go.Proofs.Ytbfhboakafjjgaa
