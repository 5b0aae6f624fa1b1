/-
  Who is met, and points, in the program and in the reference.
  Conditions: bodies with a place.
  The spots of a level, in the program and in the reference.
  Conditions: a valid level.
-/
import Derived.Test.YtbfhboakafjjgaaGreatDDReplRowk27
set_option linter.unusedSimpArgs false
set_option linter.unusedVariables false
set_option maxRecDepth 8000
set_option maxHeartbeats 8000000
namespace Go.Proofs.YtbfhboakafjjgaaGreat
section
open Go.RowKit

def metC (bs : List TBody) (b : TBody) (o : Int) (k : Nat) : Bool := match bs[k]? with
 | none => false
 | some p => (decide ((k : Int) ≠ o) && decide (0 < p.Life)) && meetM p b
def metF (bs : List TBody) (b : TBody) (o : Int) : Nat → Option Nat
 | 0 => none
 | n + 1 => match metF bs b o n with
  | some k => some k
  | none => if metC bs b o n = true then some n else none
def metI (bs : List TBody) (b : TBody) (o : Int) (n : Nat) : Int := match metF bs b o n with
 | some k => k
 | none => -1
section
variable {bs : List TBody} {b p : TBody} {o : Int} {k n : Nat}
theorem metC_at (h : bs[k]? = some p) : metC bs b o k = ((decide ((k : Int) ≠ o) && decide (0 < p.Life)) && meetM p b) := by rw [metC,h]
theorem metF_no (h : metF bs b o k = none) (hc : metC bs b o k = false) : metF bs b o (k + 1) = none := by rw [metF,h]; simp [hc]
theorem metF_hit (h : metF bs b o k = none) (hc : metC bs b o k = true) : ∀ {n : Nat},k < n → metF bs b o n = some k
 | n + 1,hlt => by
  rcases Nat.lt_or_ge k n with h1 | h1
  ·rw [metF,metF_hit h hc h1]
  ·have : k = n := by omega
   subst this
   rw [metF,h]; simp [hc]
theorem metF_lt : ∀ {n : Nat},metF bs b o n = some k → k < n ∧ metC bs b o k = true
 | 0,h => by cases h
 | n + 1,h => by
  rw [metF] at h
  cases hm : metF bs b o n with
  | some j =>
   rw [hm] at h
   cases h
   have := metF_lt hm
   exact ⟨by omega,this.2⟩
  | none =>
   rw [hm] at h
   simp only at h
   split at h
   ·cases h; rename_i hc; exact ⟨by omega,hc⟩
   ·cases h
theorem metC_life (h : metC bs b o k = true) : ∃ p,bs[k]? = some p ∧ 0 < p.Life ∧ (k : Int) ≠ o ∧ meetM p b = true := by
 unfold metC at h
 split at h
 ·cases h
 ·rename_i p hp
  simp only [Bool.and_eq_true,decide_eq_true_eq] at h
  exact ⟨p,hp,h.1.2,h.1.1,h.2⟩
end
theorem Yr {α : Type} [Enc α] {xs : List α} {i : Nat} {x : α} (h : xs[i]? = some x) : (els xs)[(i : Int).toNat]? = some (Enc.e x) := by simp [els,h]
theorem Kk {α : Type} {xs : List α} {i : Nat} (h : i < xs.length) : ∃ x,xs[i]? = some x := ⟨xs[i],List.getElem?_eq_getElem h⟩
theorem I_playerMet (w : TWorld) (b : TBody) (o : Int) (hn : w.Scores.length ≤ w.Bodies.length) (h4 : w.Scores.length ≤ 4) (hp : ∀ k p,k < w.Scores.length → w.Bodies[k]? = some p → Placed p) (hb : Placed b) : Con Tryz.prog 153 [.box [.ref 1,jn w.Tick,jn w.Seed,.ref 2,.ref 3],.row 1 (els w.Level.Rows),.row 1 (els w.Scores),.row 9 (els w.Bodies),.gh 0 (.c (.ptr 0 0)),.gh 6 (.c (.ref 3))] [.c (.ptr 0 0),ag b,ai o] [.box [.ref 1,jn w.Tick,jn w.Seed,.ref 2,.ref 3],.row 1 (els w.Level.Rows),.row 1 (els w.Scores),.row 9 (els w.Bodies),.gh 0 (.c (.ptr 0 0)),.gh 6 (.c (.ref 3))] (I (metI w.Bodies b o w.Scores.length)) := by
 have hls := Yp w.Scores
 have hlb := Yp w.Bodies
 refine Con.of Tryz.func153 J Tryz.ntmps153 J (fun E => ?_)
 refine zy (M1 (Qq J J J J) J J (z1 J (zz (Qd (zy (z0 J (zx (Qz J J J) J (z2 J J J ?_))))))));refine z3 J (zx (Zx J J J J) J (z0 J (zz (Qk ?_))));refine A_lq (fun m st => ∃ k : Nat,k + m = w.Scores.length ∧ (metF w.Bodies b o k = none) ∧ st = (⟨_,[(0,.o (.c (.ptr 0 0))),(2,I o),(4,.o (.c (.ptr 6 0))),(12,I (els w.Scores).length),(13,I k)],[.box [.ref 1,jn w.Tick,jn w.Seed,.ref 2,.ref 3],.row 1 (els w.Level.Rows),.row 1 (els w.Scores),.row 9 (els w.Bodies),.gh 0 (.c (.ptr 0 0)),.gh 6 (.c (.ref 3)),.box ((Enc.e b).map (V1.rd []))]⟩ : St)) (w.Scores.length) ⟨_,⟨0,by omega,J,J⟩,W_gj [0,1,2,3,4,5,6] (by kernel_rfl)⟩ ?_
 rintro m_A _ ⟨k,hk_A,hp_A,rfl⟩
 by_cases hlt : k < w.Scores.length
 ·have hb0 : decide ((k : Int) < (els w.Scores).length) = true := decide_eq_true (by omega)
  obtain ⟨p,hp1⟩ := Kk (xs := w.Bodies) (i := k) (by omega)
  have he := Yr hp1
  have cm := I_BodiesMeet p b (hp k p hlt hp1) hb
  have hc := metC_at (b := b) (o := o) hp1
  by_cases h1 : (k : Int) = o
  ·have f1 : decide ((k : Int) ≠ o) = false := decide_eq_false (fun q => q h1)
   refine zy (z9a J (by assumption) (zz (Qd (Qm J (Qh (Q0 (Qd (Qk (Qd ?_)))))))));refine Qc (z0 J (z1 J (zz (Qd (Xi u8_20 u8_21 u8_22 J (DR.s (Qa J J J) J J (DR.s (Qa J J J) J J (DR.s (Qw J J J J (by assumption)) J J (DR.s (Qa J J J) J J (DR.s (Qt.no J J J J) J J ?_))))))))));refine DR.s (Qt.no J J J J) J J (DR.s (Qt.no J J J J) J J (DR.s (Qt.no J J J J) J J (DR.s (Qt.no J J J J) J J (DR.s (Qt.no J J J J) J J (DR.s (Qt.no J J J J) J J (DR.s (Qt.no J J J J) J J (DR.s (Qt.no J J J J) J J (DR.s (Qn J J J J) J J (DR.s (Qa J J J) J J (DR.s (Qt.no J J J J) J J (DR.s (Qt.no J J J J) J J ?_)))))))))));refine DR.s (Qt.no J J J J) J J (DR.s (Qt.no J J J J) J J (DR.s (Qt.no J J J J) J J (DR.s (Qt.no J J J J) J J (DR.s (Qt.no J J J J) J J (DR.s (Qt.no J J J J) J J (DR.s (Qt.no J J J J) J J (DR.s (Qn J J J J) J J (DR.stop (by kernel_rfl) (by kernel_rfl) (zz (Ql J ?_))))))))));refine Qh (Q1 (Q0 (Qc (z7 J (by omega) (z0 J (zz ?_))))))
   exact ⟨w.Scores.length - (k + 1),by omega,_,⟨k + 1,by omega,metF_no hp_A (by rw [hc,f1]; rfl),J⟩,W_gj [0,1,2,3,4,5,6] (by kernel_rfl)⟩
  have f1 : decide ((k : Int) ≠ o) = true := decide_eq_true h1
  by_cases h2 : 0 < p.Life
  ·have f2 : decide (0 < p.Life) = true := decide_eq_true h2
   cases h3 : meetM p b with
   | false =>
    rw [h3] at cm
    refine zy (z9a J (by assumption) (zz (Qd (Qm J (Qh (Q0 (Qd (Qk (Qd ?_)))))))));refine Qc (z0 J (z1 J (zz (Qd (Xi u8_20 u8_21 u8_22 J (DR.s (Qa J J J) J J (DR.s (Qa J J J) J J (DR.s (Qw J J J J (by assumption)) J J (DR.s (Qa J J J) J J (DR.s (Qt.yes J J J (Qa J J J)) J J ?_))))))))));refine DR.s (Qt.yes J J J (Qz J J J)) J J (DR.s (Qt.yes J J J (Qf J J J J (by decide))) J J (DR.s (Qt.yes J J J (Qg J J J J J)) J J (DR.s (Qt.yes J J J (Qa J J J)) J J (DR.s (Qt.yes J J J (Q3 J J J J J (by omega) (by omega))) J J (DR.s (Qt.yes J J J (Zs J J J J (by decide))) J J (DR.s (Qt.yes J J J (Q7 J J J J (by assumption) J)) J J (DR.s (Qt.yes J J J (Zv J J J J (by assumption))) J J (DR.s (Qo J J J J) J J (DR.s (Qa J J J) J J (DR.s (Qt.yes J J J (Qa J J J)) J J (DR.s (Qt.yes J J J (Qz J J J)) J J ?_)))))))))));refine DR.s (Qt.yes J J J (Qf J J J J (by decide))) J J (DR.s (Qt.yes J J J (Qg J J J J J)) J J (DR.s (Qt.yes J J J (Qa J J J)) J J (DR.s (Qt.yes J J J (Q3 J J J J J (by omega) (by omega))) J J (DR.s (Qt.yes J J J (Q6 J J J J (by assumption) J J)) J J (DR.s (Qt.yes J J J (Qu J J J J J J)) J J ?_)))));refine DR.s (Qt.yes J J J (Qj J J (cm) J)) J J ?_;refine DR.s (Qo J J J J) J J (DR.stop (by kernel_rfl) (by kernel_rfl) (zz (Ql J (Qh (Q1 (Q0 (Qc (z7 J (by omega) (z0 J (Qe ?_))))))))));refine Q0 ?_
    exact ⟨w.Scores.length - (k + 1),by omega,_,⟨k + 1,by omega,metF_no hp_A (by rw [hc,h3,Bool.and_false]),J⟩,W_gj [0,1,2,3,4,5,6] (by kernel_rfl)⟩
   | true =>
    rw [h3] at cm
    refine zy (z9a J (by assumption) (zz (Qd (Qm J (Qh (Q0 (Qd (Qk (Qd ?_)))))))));refine Qc (z0 J (z1 J (zz (Qd (Xi u8_20 u8_21 u8_22 J (DR.s (Qa J J J) J J (DR.s (Qa J J J) J J (DR.s (Qw J J J J (by assumption)) J J (DR.s (Qa J J J) J J (DR.s (Qt.yes J J J (Qa J J J)) J J ?_))))))))));refine DR.s (Qt.yes J J J (Qz J J J)) J J (DR.s (Qt.yes J J J (Qf J J J J (by decide))) J J (DR.s (Qt.yes J J J (Qg J J J J J)) J J (DR.s (Qt.yes J J J (Qa J J J)) J J (DR.s (Qt.yes J J J (Q3 J J J J J (by omega) (by omega))) J J (DR.s (Qt.yes J J J (Zs J J J J (by decide))) J J (DR.s (Qt.yes J J J (Q7 J J J J (by assumption) J)) J J (DR.s (Qt.yes J J J (Zv J J J J (by assumption))) J J (DR.s (Qo J J J J) J J (DR.s (Qa J J J) J J (DR.s (Qt.yes J J J (Qa J J J)) J J (DR.s (Qt.yes J J J (Qz J J J)) J J ?_)))))))))));refine DR.s (Qt.yes J J J (Qf J J J J (by decide))) J J (DR.s (Qt.yes J J J (Qg J J J J J)) J J (DR.s (Qt.yes J J J (Qa J J J)) J J (DR.s (Qt.yes J J J (Q3 J J J J J (by omega) (by omega))) J J (DR.s (Qt.yes J J J (Q6 J J J J (by assumption) J J)) J J (DR.s (Qt.yes J J J (Qu J J J J J J)) J J ?_)))));refine DR.s (Qt.yes J J J (Qj J J (cm) J)) J J ?_;refine DR.s (Qo J J J J) J J (DR.stop (by kernel_rfl) (by kernel_rfl) (zz (Qm J (zy (z0 J (z1 J (zz (Xa ?_))))))));refine B_r (T_r (T_r (B_r (T_r (F_r ?_)))))
    exact Xp J J (X5 [0,1,2,3,4,5] (by decide) J J (Xx (by rw [metI,metF_hit hp_A (by rw [hc,f1,f2,h3]; rfl) hlt])))
  ·have f2 : decide (0 < p.Life) = false := decide_eq_false h2
   refine zy (z9a J (by assumption) (zz (Qd (Qm J (Qh (Q0 (Qd (Qk (Qd ?_)))))))));refine Qc (z0 J (z1 J (zz (Qd (Xi u8_20 u8_21 u8_22 J (DR.s (Qa J J J) J J (DR.s (Qa J J J) J J (DR.s (Qw J J J J (by assumption)) J J (DR.s (Qa J J J) J J (DR.s (Qt.yes J J J (Qa J J J)) J J ?_))))))))));refine DR.s (Qt.yes J J J (Qz J J J)) J J (DR.s (Qt.yes J J J (Qf J J J J (by decide))) J J (DR.s (Qt.yes J J J (Qg J J J J J)) J J (DR.s (Qt.yes J J J (Qa J J J)) J J (DR.s (Qt.yes J J J (Q3 J J J J J (by omega) (by omega))) J J (DR.s (Qt.yes J J J (Zs J J J J (by decide))) J J (DR.s (Qt.yes J J J (Q7 J J J J (by assumption) J)) J J (DR.s (Qt.yes J J J (Zv J J J J (by assumption))) J J (DR.s (Qo J J J J) J J (DR.s (Qa J J J) J J (DR.s (Qt.no J J J J) J J (DR.s (Qt.no J J J J) J J ?_)))))))))));refine DR.s (Qt.no J J J J) J J (DR.s (Qt.no J J J J) J J (DR.s (Qt.no J J J J) J J (DR.s (Qt.no J J J J) J J (DR.s (Qt.no J J J J) J J (DR.s (Qt.no J J J J) J J (DR.s (Qt.no J J J J) J J (DR.s (Qn J J J J) J J (DR.stop (by kernel_rfl) (by kernel_rfl) (zz (Ql J ?_))))))))));refine Qh (Q1 (Q0 (Qc (z7 J (by omega) (z0 J (zz ?_))))))
   exact ⟨w.Scores.length - (k + 1),by omega,_,⟨k + 1,by omega,metF_no hp_A (by rw [hc,f2,Bool.and_false,Bool.false_and]),J⟩,W_gj [0,1,2,3,4,5,6] (by kernel_rfl)⟩
 ·have hb0 : decide ((k : Int) < (els w.Scores).length) = false := decide_eq_false (by omega)
  have hk : k = w.Scores.length := by omega
  refine zy (z9a J (by assumption) (zz (Qd (Ql J (Q9 (T_x (T_x (Xl (Q0 ?_)))))))));refine zy (z1 J (zz (Xa (F_r ?_))))
  exact Xp J J (X5 [0,1,2,3,4,5] (by decide) J J (Xx (by rw [metI,← hk,hp_A])))
theorem S_l02Meets (w : TWorld) (b : TBody) (o : Int) (hn : w.Scores.length ≤ w.Bodies.length) (h4 : w.Scores.length ≤ 4) (hp : ∀ k p,k < w.Scores.length → w.Bodies[k]? = some p → Placed p) (hb : Placed b) : Con Tryz.prog 138 [.box [.ref 1,jn w.Tick,jn w.Seed,.ref 2,.ref 3],.row 1 (els w.Level.Rows),.row 1 (els w.Scores),.row 9 (els w.Bodies),.gh 0 (.c (.ptr 0 0)),.gh 6 (.c (.ref 3))] [.c (.ptr 0 0),ag b,ai o] [.box [.ref 1,jn w.Tick,jn w.Seed,.ref 2,.ref 3],.row 1 (els w.Level.Rows),.row 1 (els w.Scores),.row 9 (els w.Bodies),.gh 0 (.c (.ptr 0 0)),.gh 6 (.c (.ref 3))] (I (metI w.Bodies b o w.Scores.length)) := by
 have hls := Yp w.Scores
 have hlb := Yp w.Bodies
 refine Con.of Tryz.func138 J Tryz.ntmps138 J (fun E => ?_)
 refine zy (M1 (Qq J J J J) J J (z1 J (zz (Qd (zy (z1 J (zz ?_)))))));refine Qk ?_;refine A_lq (fun m st => ∃ k : Nat,k + m = w.Scores.length ∧ (metF w.Bodies b o k = none) ∧ st = (⟨_,[(0,.o (.c (.ptr 0 0))),(2,I o),(4,.o (.c (.ptr 6 0))),(7,I k)],[.box [.ref 1,jn w.Tick,jn w.Seed,.ref 2,.ref 3],.row 1 (els w.Level.Rows),.row 1 (els w.Scores),.row 9 (els w.Bodies),.gh 0 (.c (.ptr 0 0)),.gh 6 (.c (.ref 3)),.box ((Enc.e b).map (V1.rd []))]⟩ : St)) (w.Scores.length) ⟨_,⟨0,by omega,J,J⟩,W_gj [0,1,2,3,4,5,6] (by kernel_rfl)⟩ ?_
 rintro m_A _ ⟨k,hk_A,hp_A,rfl⟩
 by_cases hlt : k < w.Scores.length
 ·have hb0 : decide ((k : Int) < (els w.Scores).length) = true := decide_eq_true (by omega)
  obtain ⟨p,hp1⟩ := Kk (xs := w.Bodies) (i := k) (by omega)
  have he := Yr hp1
  have cm := S_BodiesMeet p b (hp k p hlt hp1) hb
  have hc := metC_at (b := b) (o := o) hp1
  by_cases h1 : (k : Int) = o
  ·have f1 : decide ((k : Int) ≠ o) = false := decide_eq_false (fun q => q h1)
   refine Qd (zy (z0 J (z0 J (zx (Qz J J J) J (z2 J J J (z3 J (zx (Zx J J J J) J (z9a J (by assumption) (zz ?_)))))))));refine Qm J (Qh (Q0 (Qd (Qk (Qd (Xi u8_20 u8_23 u8_24 J (DR.s (Qa J J J) J J (DR.s (Qa J J J) J J (DR.s (Qw J J J J (by assumption)) J J (DR.s (Qa J J J) J J (DR.s (Qt.no J J J J) J J ?_)))))))))));refine DR.s (Qt.no J J J J) J J (DR.s (Qt.no J J J J) J J (DR.s (Qt.no J J J J) J J (DR.s (Qt.no J J J J) J J (DR.s (Qt.no J J J J) J J (DR.s (Qt.no J J J J) J J (DR.s (Qt.no J J J J) J J (DR.s (Qt.no J J J J) J J (DR.s (Qn J J J J) J J (DR.s (Qa J J J) J J (DR.s (Qt.no J J J J) J J (DR.s (Qt.no J J J J) J J ?_)))))))))));refine DR.s (Qt.no J J J J) J J (DR.s (Qt.no J J J J) J J (DR.s (Qt.no J J J J) J J (DR.s (Qt.no J J J J) J J (DR.s (Qt.no J J J J) J J (DR.s (Qt.no J J J J) J J (DR.s (Qt.no J J J J) J J (DR.s (Qn J J J J) J J (DR.stop (by kernel_rfl) (by kernel_rfl) (zz (Ql J ?_))))))))));refine Qh (Q1 (Q0 (Qc (z0 J (z7 J (by omega) (z1 J (zz ?_)))))))
   exact ⟨w.Scores.length - (k + 1),by omega,_,⟨k + 1,by omega,metF_no hp_A (by rw [hc,f1]; rfl),J⟩,W_gj [0,1,2,3,4,5,6] (by kernel_rfl)⟩
  have f1 : decide ((k : Int) ≠ o) = true := decide_eq_true h1
  by_cases h2 : 0 < p.Life
  ·have f2 : decide (0 < p.Life) = true := decide_eq_true h2
   cases h3 : meetM p b with
   | false =>
    rw [h3] at cm
    refine Qd (zy (z0 J (z0 J (zx (Qz J J J) J (z2 J J J (z3 J (zx (Zx J J J J) J (z9a J (by assumption) (zz ?_)))))))));refine Qm J (Qh (Q0 (Qd (Qk (Qd (Xi u8_20 u8_23 u8_24 J (DR.s (Qa J J J) J J (DR.s (Qa J J J) J J (DR.s (Qw J J J J (by assumption)) J J (DR.s (Qa J J J) J J (DR.s (Qt.yes J J J (Qa J J J)) J J ?_)))))))))));refine DR.s (Qt.yes J J J (Qz J J J)) J J (DR.s (Qt.yes J J J (Qf J J J J (by decide))) J J (DR.s (Qt.yes J J J (Qg J J J J J)) J J (DR.s (Qt.yes J J J (Qa J J J)) J J (DR.s (Qt.yes J J J (Q3 J J J J J (by omega) (by omega))) J J (DR.s (Qt.yes J J J (Zs J J J J (by decide))) J J (DR.s (Qt.yes J J J (Q7 J J J J (by assumption) J)) J J (DR.s (Qt.yes J J J (Zv J J J J (by assumption))) J J (DR.s (Qo J J J J) J J (DR.s (Qa J J J) J J (DR.s (Qt.yes J J J (Qa J J J)) J J (DR.s (Qt.yes J J J (Qz J J J)) J J ?_)))))))))));refine DR.s (Qt.yes J J J (Qf J J J J (by decide))) J J (DR.s (Qt.yes J J J (Qg J J J J J)) J J (DR.s (Qt.yes J J J (Qa J J J)) J J (DR.s (Qt.yes J J J (Q3 J J J J J (by omega) (by omega))) J J (DR.s (Qt.yes J J J (Q6 J J J J (by assumption) J J)) J J (DR.s (Qt.yes J J J (Qu J J J J J J)) J J ?_)))));refine DR.s (Qt.yes J J J (Qj J J (cm) J)) J J ?_;refine DR.s (Qo J J J J) J J (DR.stop (by kernel_rfl) (by kernel_rfl) (zz (Ql J (Qh (Q1 (Q0 (Qc (z0 J (z7 J (by omega) (z1 J ?_))))))))));refine zz ?_
    exact ⟨w.Scores.length - (k + 1),by omega,_,⟨k + 1,by omega,metF_no hp_A (by rw [hc,h3,Bool.and_false]),J⟩,W_gj [0,1,2,3,4,5,6] (by kernel_rfl)⟩
   | true =>
    rw [h3] at cm
    refine Qd (zy (z0 J (z0 J (zx (Qz J J J) J (z2 J J J (z3 J (zx (Zx J J J J) J (z9a J (by assumption) (zz ?_)))))))));refine Qm J (Qh (Q0 (Qd (Qk (Qd (Xi u8_20 u8_23 u8_24 J (DR.s (Qa J J J) J J (DR.s (Qa J J J) J J (DR.s (Qw J J J J (by assumption)) J J (DR.s (Qa J J J) J J (DR.s (Qt.yes J J J (Qa J J J)) J J ?_)))))))))));refine DR.s (Qt.yes J J J (Qz J J J)) J J (DR.s (Qt.yes J J J (Qf J J J J (by decide))) J J (DR.s (Qt.yes J J J (Qg J J J J J)) J J (DR.s (Qt.yes J J J (Qa J J J)) J J (DR.s (Qt.yes J J J (Q3 J J J J J (by omega) (by omega))) J J (DR.s (Qt.yes J J J (Zs J J J J (by decide))) J J (DR.s (Qt.yes J J J (Q7 J J J J (by assumption) J)) J J (DR.s (Qt.yes J J J (Zv J J J J (by assumption))) J J (DR.s (Qo J J J J) J J (DR.s (Qa J J J) J J (DR.s (Qt.yes J J J (Qa J J J)) J J (DR.s (Qt.yes J J J (Qz J J J)) J J ?_)))))))))));refine DR.s (Qt.yes J J J (Qf J J J J (by decide))) J J (DR.s (Qt.yes J J J (Qg J J J J J)) J J (DR.s (Qt.yes J J J (Qa J J J)) J J (DR.s (Qt.yes J J J (Q3 J J J J J (by omega) (by omega))) J J (DR.s (Qt.yes J J J (Q6 J J J J (by assumption) J J)) J J (DR.s (Qt.yes J J J (Qu J J J J J J)) J J ?_)))));refine DR.s (Qt.yes J J J (Qj J J (cm) J)) J J ?_;refine DR.s (Qo J J J J) J J (DR.stop (by kernel_rfl) (by kernel_rfl) (zz (Qm J (zy (z0 J (z1 J (zz (Xa ?_))))))));refine B_r (T_r (T_r (B_r (T_r (F_r ?_)))))
    exact Xp J J (X5 [0,1,2,3,4,5] (by decide) J J (Xx (by rw [metI,metF_hit hp_A (by rw [hc,f1,f2,h3]; rfl) hlt])))
  ·have f2 : decide (0 < p.Life) = false := decide_eq_false h2
   refine Qd (zy (z0 J (z0 J (zx (Qz J J J) J (z2 J J J (z3 J (zx (Zx J J J J) J (z9a J (by assumption) (zz ?_)))))))));refine Qm J (Qh (Q0 (Qd (Qk (Qd (Xi u8_20 u8_23 u8_24 J (DR.s (Qa J J J) J J (DR.s (Qa J J J) J J (DR.s (Qw J J J J (by assumption)) J J (DR.s (Qa J J J) J J (DR.s (Qt.yes J J J (Qa J J J)) J J ?_)))))))))));refine DR.s (Qt.yes J J J (Qz J J J)) J J (DR.s (Qt.yes J J J (Qf J J J J (by decide))) J J (DR.s (Qt.yes J J J (Qg J J J J J)) J J (DR.s (Qt.yes J J J (Qa J J J)) J J (DR.s (Qt.yes J J J (Q3 J J J J J (by omega) (by omega))) J J (DR.s (Qt.yes J J J (Zs J J J J (by decide))) J J (DR.s (Qt.yes J J J (Q7 J J J J (by assumption) J)) J J (DR.s (Qt.yes J J J (Zv J J J J (by assumption))) J J (DR.s (Qo J J J J) J J (DR.s (Qa J J J) J J (DR.s (Qt.no J J J J) J J (DR.s (Qt.no J J J J) J J ?_)))))))))));refine DR.s (Qt.no J J J J) J J (DR.s (Qt.no J J J J) J J (DR.s (Qt.no J J J J) J J (DR.s (Qt.no J J J J) J J (DR.s (Qt.no J J J J) J J (DR.s (Qt.no J J J J) J J (DR.s (Qt.no J J J J) J J (DR.s (Qn J J J J) J J (DR.stop (by kernel_rfl) (by kernel_rfl) (zz (Ql J ?_))))))))));refine Qh (Q1 (Q0 (Qc (z0 J (z7 J (by omega) (z1 J (zz ?_)))))))
   exact ⟨w.Scores.length - (k + 1),by omega,_,⟨k + 1,by omega,metF_no hp_A (by rw [hc,f2,Bool.and_false,Bool.false_and]),J⟩,W_gj [0,1,2,3,4,5,6] (by kernel_rfl)⟩
 ·have hb0 : decide ((k : Int) < (els w.Scores).length) = false := decide_eq_false (by omega)
  have hk : k = w.Scores.length := by omega
  refine Qd (zy (z0 J (z0 J (zx (Qz J J J) J (z2 J J J (z3 J (zx (Zx J J J J) J (z9a J (by assumption) (zz ?_)))))))));refine Ql J (Q9 (T_x (T_x (Xl (Q0 (zy (z1 J (zz (Xa ?_)))))))));refine F_r ?_
  exact Xp J J (X5 [0,1,2,3,4,5] (by decide) J J (Xx (by rw [metI,← hk,hp_A])))
def addM (ss : List Int) (k : Nat) : List Int := match ss[k]? with
 | none => ss
 | some s => ss.set k (min (s + 1) 1000000)
theorem addM_at {ss : List Int} {k : Nat} {s : Int} (h : ss[k]? = some s) : addM ss k = ss.set k (min (s + 1) 1000000) := by rw [addM,h]
theorem addM_els {ss : List Int} {k : Nat} {s : Int} (h : ss[k]? = some s) : els (addM ss k) = (els ss).set (k : Int).toNat (splice (Enc.e s) 0 [.v (.int .i64 (min (s + 1) 1000000))]) := by
 rw [addM_at h,els_set]; rfl
theorem addM_same {ss : List Int} {k : Nat} {s : Int} (h : ss[k]? = some s) (hs : ¬ s < 1000000) (h1 : s ≤ 1000000) : addM ss k = ss := by
 rw [addM_at h,show min (s + 1) 1000000 = s by omega]
 obtain ⟨hk,rfl⟩ := List.getElem?_eq_some_iff.1 h
 exact List.set_getElem_self hk
theorem I_addScore (w : TWorld) (k : Nat) (s : Int) (hs : w.Scores[k]? = some s) (h0 : 0 ≤ s ∧ s ≤ 1000000) : Con Tryz.prog 154 [.box [.ref 1,jn w.Tick,jn w.Seed,.ref 2,.ref 3],.row 1 (els w.Level.Rows),.row 1 (els w.Scores),.row 9 (els w.Bodies),.gh 0 (.c (.ptr 0 0)),.gh 5 (.c (.ref 3))] [.c (.ptr 0 0),ai k] [.box [.ref 1,jn w.Tick,jn w.Seed,.ref 2,.ref 3],.row 1 (els w.Level.Rows),.row 1 (els (addM w.Scores k)),.row 9 (els w.Bodies),.gh 0 (.c (.ptr 0 0)),.gh 5 (.c (.ref 3))] (.tu []) := by
 have hls := Yp w.Scores
 have hk := Yy hs
 have he := Yr hs
 by_cases h1 : s < 1000000
 ·have f1 : decide (s < 1000000) = true := decide_eq_true h1
  rw [addM_els hs,show min (s + 1) 1000000 = s + 1 by omega]
  refine Con.of Tryz.func154 J Tryz.ntmps154 J (fun E => ?_)
  refine zy (z0 J (zx (Qz J J J) J (z2 J J J (z3 J (z0 J (zx (Q3 J J J J J (by omega) (by omega)) J (zx (Q7 J J J J (by assumption) J) J (z9a J (by assumption) (zz ?_)))))))));refine Qm J (Qc (z0 J (zx (Qz J J J) J (z2 J J J (z3 J (z0 J (zx (Q3 J J J J J (by omega) (by omega)) J (zx (Q7 J J J J (by assumption) J) J (z7 J (by omega) (zx (Q3 J J J J J (by omega) (by omega)) J ?_))))))))));refine Xh J J J J J J J J J (by assumption) J J (Qe (F_n ?_))
  exact Xo J (X5 [0,1,2,3,4,5] (by decide) J J J)
 ·have f1 : decide (s < 1000000) = false := decide_eq_false h1
  rw [addM_same hs h1 h0.2]
  refine Con.of Tryz.func154 J Tryz.ntmps154 J (fun E => ?_)
  refine zy (z0 J (zx (Qz J J J) J (z2 J J J (z3 J (z0 J (zx (Q3 J J J J J (by omega) (by omega)) J (zx (Q7 J J J J (by assumption) J) J (z9a J (by assumption) (zz ?_)))))))));refine Ql J (Qh (F_n ?_))
  exact Xo J (X5 [0,1,2,3,4,5] (by decide) J J J)
theorem S_l02Point (w : TWorld) (k : Nat) (s : Int) (hs : w.Scores[k]? = some s) (h0 : 0 ≤ s ∧ s ≤ 1000000) : Con Tryz.prog 139 [.box [.ref 1,jn w.Tick,jn w.Seed,.ref 2,.ref 3],.row 1 (els w.Level.Rows),.row 1 (els w.Scores),.row 9 (els w.Bodies),.gh 0 (.c (.ptr 0 0)),.gh 5 (.c (.ref 3))] [.c (.ptr 0 0),ai k] [.box [.ref 1,jn w.Tick,jn w.Seed,.ref 2,.ref 3],.row 1 (els w.Level.Rows),.row 1 (els (addM w.Scores k)),.row 9 (els w.Bodies),.gh 0 (.c (.ptr 0 0)),.gh 5 (.c (.ref 3))] (.tu []) := by
 have hls := Yp w.Scores
 have hk := Yy hs
 have he := Yr hs
 rw [addM_els hs]
 refine Con.of Tryz.func139 J Tryz.ntmps139 J (fun E => ?_)
 skip
 refine Xi [[],[0],[0,1],[0,1,2],[],[],[5],[5,6],[5,6,7],[],[5,6,7,8,9],[5,6,7,8,9,10],[5,6,7,8,9,10,11],[5,6,7,8,9,10,11,12],(u9 14),(u9 15)] [[],[4],[4,5],[4,5,6],[],[],[9],[9,10],[9,10,11],[],[9,10,11,12,13],[9,10,11,12,13,14],[9,10,11,12,13,14,15],[9,10,11,12,13,14,15,16],[4,5,6,7,8,9,10,11,12,13,14,15,16,17],[4,5,6,7,8,9,10,11,12,13,14,15,16,17,18]] [[8,9,10,11,12,13,14,15,16,17],[8,9,10,11,12,13,14,15,16,17],[8,9,10,11,12,13,14,15,16,17],[8,9,10,11,12,13,14,15,16,17],[4,5,6,7,9,10,11,12,13,14,15,16,17],[4,5,6,7,8,13],[4,5,6,7,8,13],[4,5,6,7,8,13],[4,5,6,7,8,13],[4,5,6,7,8,9,10,11,12],[4,5,6,7,8],[4,5,6,7,8],[4,5,6,7,8],[4,5,6,7,8],[],[],[0,4]] J (DR.s (Qa J J J) J J (DR.s (Qz J J J) J J (DR.s (Qf J J J J (by decide)) J J (DR.s (Qg J J J J J) J J (DR.s (Qa J J J) J J (DR.s (Qa J J J) J J (DR.s (Qz J J J) J J (DR.s (Qf J J J J (by decide)) J J (DR.s (Qg J J J J J) J J (DR.s (Qa J J J) J J (DR.s (Q3 J J J J J (by omega) (by omega)) J J ?_)))))))))));refine DR.s (Q7 J J J J (by assumption) J) J J (DR.s (Qs J J J J (by omega)) J J (DR.s (q_min J J J J) J J (DR.s (Q3 J J J J J (by omega) (by omega)) J J (DR.stop (by kernel_rfl) (by kernel_rfl) ?_))));refine Xh J J J J J J J J J (by assumption) J J (Qe (F_n ?_))
 exact Xo J (X5 [0,1,2,3,4,5] (by decide) J J J)
end
section
open Go.RowKit

theorem colSp_len (row : ByteArray) (r : Nat) : ∀ n,(colSp row r n).length ≤ n
 | 0 => Nat.le_refl _
 | n + 1 => by have := colSp_len row r n; rw [colSp]; split <;> simp <;> omega
theorem rowSp_len {rows : List ByteArray} {w : Nat} (hw : ∀ (r : Nat) (hr : r < rows.length),(rows[r]).size = w) : ∀ n,(rowSp rows n).length ≤ n * w
 | 0 => by simp [rowSp]
 | n + 1 => by
  have h := rowSp_len hw n
  rw [rowSp]
  cases hr : rows[n]? with
  | none => simp only; rw [Nat.add_mul]; omega
  | some row =>
   obtain ⟨h1,h2⟩ := List.getElem?_eq_some_iff.1 hr
   have h3 := colSp_len row n row.size
   have h4 : row.size = w := by rw [← h2]; exact hw n h1
   simp only [List.length_append]
   rw [Nat.add_mul]
   omega
def spotsM (l : TLevel) : List (List Int) := rowSp l.Rows l.Rows.length
theorem spots_len {l : TLevel} (hl : levelOk l = true) : (spotsM l).length ≤ 240 := by
 obtain ⟨l3,l12,w,w4,w20,hw⟩ := Y5 hl
 have h := rowSp_len hw l.Rows.length
 have h2 : l.Rows.length * w ≤ 12 * 20 := Nat.mul_le_mul l12 w20
 unfold spotsM
 omega
theorem colSp_at {row : ByteArray} {r : Nat} : ∀ {n : Nat} {s : List Int},s ∈ colSp row r n → ∃ c : Nat,c < n ∧ byteAt row c = 111 ∧ s = [(c : Int) * 16 + 4,(r : Int) * 16 + 4]
 | 0,s,h => by simp [colSp] at h
 | n + 1,s,h => by
  rw [colSp] at h
  split at h
  ·rename_i hb
   rcases List.mem_append.1 h with h | h
   ·obtain ⟨c,h1,h2⟩ := colSp_at h; exact ⟨c,by omega,h2⟩
   ·exact ⟨n,by omega,hb,by simpa using h⟩
  ·obtain ⟨c,h1,h2⟩ := colSp_at h; exact ⟨c,by omega,h2⟩
theorem rowSp_at {rows : List ByteArray} : ∀ {n : Nat} {s : List Int},s ∈ rowSp rows n → ∃ (r c : Nat) (row : ByteArray),r < n ∧ rows[r]? = some row ∧ c < row.size ∧ byteAt row c = 111 ∧ s = [(c : Int) * 16 + 4,(r : Int) * 16 + 4]
 | 0,s,h => by simp [rowSp] at h
 | n + 1,s,h => by
  rw [rowSp] at h
  cases hr : rows[n]? with
  | none => rw [hr] at h; obtain ⟨r,c,row,h1,h2⟩ := rowSp_at h; exact ⟨r,c,row,by omega,h2⟩
  | some row =>
   rw [hr] at h
   rcases List.mem_append.1 h with h | h
   ·obtain ⟨r,c,row,h1,h2⟩ := rowSp_at h; exact ⟨r,c,row,by omega,h2⟩
   ·obtain ⟨c,h1,h2⟩ := colSp_at h; exact ⟨n,c,row,by omega,hr,h1,h2⟩
theorem sp_hit {row : ByteArray} {r c : Nat} {A : List (List Int)} {x y : Int} (h : byteAt row c = 111) (hx : x = (c : Int) * 16 + 4) (hy : y = (r : Int) * 16 + 4) : els (A ++ colSp row r (c + 1)) = els (A ++ colSp row r c) ++ [[.sl 1 (els [x,y])]] := by
 rw [colSp,if_pos h,← List.append_assoc,Yn,hx,hy]; rfl
theorem sp_skip {row : ByteArray} {r c : Nat} (h : ¬ byteAt row c = 111) : colSp row r (c + 1) = colSp row r c := by rw [colSp,if_neg h]
theorem sp_row {rows : List ByteArray} {row : ByteArray} {r : Nat} (h : rows[r]? = some row) : rowSp rows (r + 1) = rowSp rows r ++ colSp row r row.size := by rw [rowSp,h]
theorem row2w {a : Ob} {k : Nat} {x y : List (List T)} (h : x = y) : [a,Ob.row k x] = [a,Ob.row k y] := by rw [h]
theorem I_SpotsOf (l : TLevel) (hg : Enc.gd l) (hl : levelOk l = true) : Con Tryz.prog 129 [] [ag l] [.row 1 (els (spotsM l))] (.o (.c (.ref 0))) := by
 have hc := Xt l hg
 rw [hl] at hc
 have hlr := Yp l.Rows
 obtain ⟨l3,l12,w,w4,w20,hw⟩ := Y5 hl
 have hrl := rowSp_len hw
 refine Con.of Tryz.func129 J Tryz.ntmps129 J (fun E => ?_)
 refine zy (M1 (Qq J J J J) J J (z1 J (zz (Qd (zy (z4 J J J ?_))))));refine zx (Qj J J (hc) J) J ?_;refine zn J (zz (Ql J (Qh (Q0 (zy (z1 J (zz (Qd ?_))))))));refine zy (z2 J J J (z3 J (zx (Zw J J J) J (z0 J (zz (Qk ?_))))))
 refine AWP.pre ?_ (W_nil 3 1 J)
 refine A_lq (fun m st => ∃ r : Nat,r + m = l.Rows.length ∧ (True) ∧ st = (⟨_,[(1,.o (.c (.ptr 0 0))),(3,.o (.c (.ref 1))),(11,L l.Rows),(12,I (els l.Rows).length),(13,I r)],[.box ((Enc.e l).map (V1.rd [])),.row 1 (els (rowSp l.Rows r))]⟩ : St)) (l.Rows.length) ⟨_,⟨0,by omega,trivial,J⟩,W_gj [0,1] (by kernel_rfl)⟩ ?_
 rintro m_A _ ⟨r,hk_A,hp_A,rfl⟩
 by_cases h3 : r < l.Rows.length
 ·have hb0 : decide ((r : Int) < (els l.Rows).length) = true := decide_eq_true (by omega)
  have hat := Yo h3
  have hwr := hw r h3
  have hrow := List.getElem?_eq_getElem h3
  generalize l.Rows[r] = row at hat hwr hrow
  have hr1 := hrl r
  have hr2 : r * w ≤ 12 * 20 := Nat.mul_le_mul (by omega) w20
  refine zy (z9a J (by assumption) (zz (Qd (Qm J (Qh (Q0 (Qd (Qk (Qd ?_)))))))));refine Qc (z0 J (zx (Q2 J J J J (by omega) (by assumption) J) J (zx (Z0 J J J J) J (z1 J (z1 J (zz (zy (z1 J (Qe ?_)))))))));refine Q0 (Qk ?_);refine A_lq (fun m st => ∃ c : Nat,c + m = row.size ∧ (True) ∧ st = (⟨_,[(1,.o (.c (.ptr 0 0))),(3,.o (.c (.ref 1))),(4,I r),(5,S row),(6,I c),(11,L l.Rows),(12,I (els l.Rows).length),(13,I r)],[.box ((Enc.e l).map (V1.rd [])),.row 1 (els (rowSp l.Rows r ++ colSp row r c))]⟩ : St)) (row.size) ⟨(fun c : Nat => (⟨_,[(1,.o (.c (.ptr 0 0))),(3,.o (.c (.ref 1))),(4,I r),(5,S row),(6,I c),(11,L l.Rows),(12,I (els l.Rows).length),(13,I r)],[.box ((Enc.e l).map (V1.rd [])),.row 1 (els (rowSp l.Rows r ++ colSp row r c))]⟩ : St)) 0,⟨0,by omega,trivial,J⟩,X7 [0,1] (by decide) J (row2w (by rw [colSp,List.append_nil])) (.c J (.c J (.c J (.c J (.c J (.c J (.c J (.c J (.nil)))))))))⟩ ?_
  rintro m_D _ ⟨c,hk_D,hp_D,rfl⟩
  have hcl := colSp_len row r c
  have hel := Yp (rowSp l.Rows r ++ colSp row r c)
  rw [List.length_append] at hel
  by_cases h4 : c < row.size
  ·have hb1 : decide ((c : Int) < row.size) = true := decide_eq_true (by omega)
   have hbt := Yh row c
   have hbt2 := Yh row (c : Int).toNat
   by_cases ho : byteAt row c = 111
   ·have hb2 : decide (byteAt row (c : Int).toNat = 111) = true := decide_eq_true ho
    refine Qd (zy (z0 J (z0 J (zx (Zy J J J) J (z9a J (by assumption) (zz (Qm J (Qh (Q0 ?_)))))))));refine Qd (Qk (zy (z0 J (z0 J (zx (Zn J J J J (by assumption) (by omega)) J ?_)))));refine zx (Qv (b := true) J J J J (by decide)) J ?_;refine zz (Qm J (Qc (z0 J (z0 J (zx (Z3 J J J J (by omega)) J (z7 J (by omega) (z0 J (zx (Z3 J J J J (by omega)) J (z7 J (by omega) (M1 (Zj J J J J J J) J J ?_))))))))));refine AL.weak (Wk.sbrow (q := 2) (es := els [(c : Int) * 16 + 4,(r : Int) * 16 + 4]) J J (Nat.le_of_ble_eq_true J)) ?_;refine M1 (Zj J J J J J J) J J ?_;refine Xy J J J J J J J J J J J J J J (by omega) (by omega) ?_;refine z1 J (Qe (Q1 (Q0 (Qc (z0 J (z7 J (by omega) (z1 J (zz ?_))))))))
    exact ⟨row.size - (c + 1),by omega,(fun c : Nat => (⟨_,[(1,.o (.c (.ptr 0 0))),(3,.o (.c (.ref 1))),(4,I r),(5,S row),(6,I c),(11,L l.Rows),(12,I (els l.Rows).length),(13,I r)],[.box ((Enc.e l).map (V1.rd [])),.row 1 (els (rowSp l.Rows r ++ colSp row r c))]⟩ : St)) (c + 1),⟨c + 1,by omega,trivial,J⟩,X7 [0,1] (by decide) J (row2w (sp_hit ho (by omega) (by omega))) (.c J (.c J (.c J (.c J (.c J (.c J (.c J (.c J (.nil)))))))))⟩
   ·have hb2 : decide (byteAt row (c : Int).toNat = 111) = false := decide_eq_false ho
    refine Qd (zy (z0 J (z0 J (zx (Zy J J J) J (z9a J (by assumption) (zz (Qm J (Qh (Q0 ?_)))))))));refine Qd (Qk (zy (z0 J (z0 J (zx (Zm J J J J (by omega)) J (z9e J (by assumption) (zz (Ql J (Qh ?_)))))))));refine Q1 (Q0 (Qc (z0 J (z7 J (by omega) (z1 J (zz ?_))))))
    exact ⟨row.size - (c + 1),by omega,_,⟨c + 1,by omega,trivial,J⟩,(by rw [sp_skip ho]; exact W_gj [0,1] (by kernel_rfl))⟩
  ·have hb1 : decide ((c : Int) < row.size) = false := decide_eq_false (by omega)
   have hk : c = row.size := by omega
   refine Qd (zy (z0 J (z0 J (zx (Zy J J J) J (z9a J (by assumption) (zz (Ql J (Q9 (T_x ?_)))))))));refine T_x (Xl (Q1 (Q0 (Qc (z7 J (by omega) (z0 J (zz ?_)))))))
   exact ⟨l.Rows.length - (r + 1),by omega,_,⟨r + 1,by omega,trivial,J⟩,(by rw [sp_row hrow,hk]; exact W_gj [0,1] (by kernel_rfl))⟩
 ·have hb0 : decide ((r : Int) < (els l.Rows).length) = false := decide_eq_false (by omega)
  have hk : r = l.Rows.length := by omega
  refine zy (z9a J (by assumption) (zz (Qd (Ql J (Q9 (T_x (T_x (Xl (Q0 ?_)))))))));refine zy (z0 J (z1 J (zz (Xa (F_r ?_)))))
  exact Xp J J (X5 [1] (by decide) J (by rw [spotsM,← hk]; rfl) J)
theorem S_SpotsOf (l : TLevel) (hg : Enc.gd l) (hl : levelOk l = true) : Con Tryz.prog 102 [] [ag l] [.row 1 (els (spotsM l))] (.o (.c (.ref 0))) := by
 have hc := S_LevelOk l hg
 rw [hl] at hc
 have hlr := Yp l.Rows
 obtain ⟨l3,l12,w,w4,w20,hw⟩ := Y5 hl
 have hrl := rowSp_len hw
 refine Con.of Tryz.func102 J Tryz.ntmps102 J (fun E => ?_)
 refine zy (M1 (Qq J J J J) J J (z1 J (zz (zy (M1 (Zk J J J) J J (z1 J (zz ?_)))))));refine Qd (zy (z1 J (zz (Qk ?_))));refine A_lq (fun m st => ∃ r : Nat,r + m = l.Rows.length ∧ (True) ∧ st = (⟨_,[(1,.o (.c (.ptr 0 0))),(3,.o (.c (.ref 1))),(4,I r)],[.box ((Enc.e l).map (V1.rd [])),.row 1 (els (rowSp l.Rows r))]⟩ : St)) (l.Rows.length) ⟨_,⟨0,by omega,trivial,J⟩,W_gj [0,1] (by kernel_rfl)⟩ ?_
 rintro m_A _ ⟨r,hk_A,hp_A,rfl⟩
 by_cases h3 : r < l.Rows.length
 ·have hb0 : decide ((r : Int) < (els l.Rows).length) = true := decide_eq_true (by omega)
  have hat := Yo h3
  have hwr := hw r h3
  have hrow := List.getElem?_eq_getElem h3
  generalize l.Rows[r] = row at hat hwr hrow
  have hr1 := hrl r
  have hr2 : r * w ≤ 12 * 20 := Nat.mul_le_mul (by omega) w20
  refine Qd (zy (z0 J (z2 J J J (z3 J (zx (Zw J J J) J (z9a J (by assumption) (z0 J (z5 J (z4 J J J (z5 J ?_))))))))));refine zx (Qj J J (hc) J) J ?_;refine zpT J (zz (Qm J (Qh (Q0 (Qd (Qk (zy (z1 J (Qe ?_)))))))));refine Q0 (Qk ?_);refine A_lq (fun m st => ∃ c : Nat,c + m = row.size ∧ (True) ∧ st = (⟨_,[(1,.o (.c (.ptr 0 0))),(3,.o (.c (.ref 1))),(4,I r),(5,I c)],[.box ((Enc.e l).map (V1.rd [])),.row 1 (els (rowSp l.Rows r ++ colSp row r c))]⟩ : St)) (row.size) ⟨(fun c : Nat => (⟨_,[(1,.o (.c (.ptr 0 0))),(3,.o (.c (.ref 1))),(4,I r),(5,I c)],[.box ((Enc.e l).map (V1.rd [])),.row 1 (els (rowSp l.Rows r ++ colSp row r c))]⟩ : St)) 0,⟨0,by omega,trivial,J⟩,X7 [0,1] (by decide) J (row2w (by rw [colSp,List.append_nil])) (.c J (.c J (.c J (.c J (.nil)))))⟩ ?_
  rintro m_D _ ⟨c,hk_D,hp_D,rfl⟩
  have hcl := colSp_len row r c
  have hel := Yp (rowSp l.Rows r ++ colSp row r c)
  rw [List.length_append] at hel
  by_cases h4 : c < row.size
  ·have hb1 : decide ((c : Int) < row.size) = true := decide_eq_true (by omega)
   have hbt := Yh row c
   have hbt2 := Yh row (c : Int).toNat
   by_cases ho : byteAt row c = 111
   ·have hb2 : decide (byteAt row (c : Int).toNat = 111) = true := decide_eq_true ho
    refine Qd (zy (z0 J (z2 J J J (z3 J (z0 J (zx (Q2 J J J J (by omega) (by assumption) J) J (zx (Z0 J J J J) J (zx (Zy J J J) J (z9a J (by assumption) (Qe ?_))))))))));refine Q0 (Qm J (Qh (Q0 (Qd (Qk (zy (z2 J J J (z3 J (z0 J (zx (Q2 J J J J (by omega) (by assumption) J) J ?_))))))))));refine zx (Z0 J J J J) J (z0 J (zx (Zn J J J J (by assumption) (by omega)) J ?_));refine zx (Qv (b := true) J J J J (by decide)) J ?_;refine zz (Qm J (Qc (z0 J (z0 J (zx (Z3 J J J J (by omega)) J (z7 J (by omega) (z0 J (zx (Z3 J J J J (by omega)) J (z7 J (by omega) (M1 (Zj J J J J J J) J J ?_))))))))));refine AL.weak (Wk.sbrow (q := 2) (es := els [16 * (c : Int) + 4,16 * (r : Int) + 4]) J J (Nat.le_of_ble_eq_true J)) ?_;refine M1 (Zj J J J J J J) J J ?_;refine Xy J J J J J J J J J J J J J J (by omega) (by omega) ?_;refine z1 J (Qe (Q1 (Q0 (Qc (z0 J (z7 J (by omega) (z1 J (zz ?_))))))))
    exact ⟨row.size - (c + 1),by omega,(fun c : Nat => (⟨_,[(1,.o (.c (.ptr 0 0))),(3,.o (.c (.ref 1))),(4,I r),(5,I c)],[.box ((Enc.e l).map (V1.rd [])),.row 1 (els (rowSp l.Rows r ++ colSp row r c))]⟩ : St)) (c + 1),⟨c + 1,by omega,trivial,J⟩,X7 [0,1] (by decide) J (row2w (sp_hit ho (by omega) (by omega))) (.c J (.c J (.c J (.c J (.nil)))))⟩
   ·have hb2 : decide (byteAt row (c : Int).toNat = 111) = false := decide_eq_false ho
    refine Qd (zy (z0 J (z2 J J J (z3 J (z0 J (zx (Q2 J J J J (by omega) (by assumption) J) J (zx (Z0 J J J J) J (zx (Zy J J J) J (z9a J (by assumption) (Qe ?_))))))))));refine Q0 (Qm J (Qh (Q0 (Qd (Qk (zy (z2 J J J (z3 J (z0 J (zx (Q2 J J J J (by omega) (by assumption) J) J ?_))))))))));refine zx (Z0 J J J J) J (z0 J (zx (Zm J J J J (by omega)) J (z9e J (by assumption) (zz (Ql J (Qh (Q1 (Q0 (Qc (z0 J ?_))))))))));refine z7 J (by omega) (z1 J (zz ?_))
    exact ⟨row.size - (c + 1),by omega,_,⟨c + 1,by omega,trivial,J⟩,(by rw [sp_skip ho]; exact W_gj [0,1] (by kernel_rfl))⟩
  ·have hb1 : decide ((c : Int) < row.size) = false := decide_eq_false (by omega)
   have hk : c = row.size := by omega
   refine Qd (zy (z0 J (z2 J J J (z3 J (z0 J (zx (Q2 J J J J (by omega) (by assumption) J) J (zx (Z0 J J J J) J (zx (Zy J J J) J (z9a J (by assumption) (Qe ?_))))))))));refine Q0 (Ql J (Q9 (T_x (T_x (Xl (Q1 (Q0 (Qc (z0 J (z7 J (by omega) (z1 J ?_)))))))))));refine zz ?_
   exact ⟨l.Rows.length - (r + 1),by omega,_,⟨r + 1,by omega,trivial,J⟩,(by rw [sp_row hrow,hk]; exact W_gj [0,1] (by kernel_rfl))⟩
 ·have hb0 : decide ((r : Int) < (els l.Rows).length) = false := decide_eq_false (by omega)
  have hk : r = l.Rows.length := by omega
  refine Qd (zy (z0 J (z2 J J J (z3 J (zx (Zw J J J) J (z9a J (by assumption) (z0 J (z6 J (z6 J (zpF J ?_))))))))));refine zz (Ql J (Q9 (T_x (T_x (Xl (Q0 (zy (z0 J (z1 J ?_)))))))));refine zz (Xa (F_r ?_))
  exact Xp J J (X5 [1] (by decide) J (by rw [spotsM,← hk]; rfl) J)
end
end Go.Proofs.YtbfhboakafjjgaaGreat
