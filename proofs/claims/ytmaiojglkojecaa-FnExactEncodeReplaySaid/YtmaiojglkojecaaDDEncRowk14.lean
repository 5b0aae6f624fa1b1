/-
  Parts of the proof (rules, data, and what functions of the program and of the reference return), among them: What is valid: numbers in a range, rows of inputs, levels, replays; in the program and in the reference; strings.Join as the kit's own contract says it, over data.
  Conditions: those that each theorem names.
-/
import Derived.Test.YtmaiojglkojecaaDDEncRowk0
import Derived.Test.YtmaiojglkojecaaDDEncRowk13
set_option linter.unusedVariables false
set_option linter.unusedSimpArgs false
set_option maxHeartbeats 8000000
namespace Go.Proofs.Ytmaiojglkojecaa
section
open Go.RowKit

def ownO : List T → List Ob
 | [] => []
 | .v _ :: ts => ownO ts
 | .sl k es :: ts => .row k es :: ownO ts
 | .un :: ts => ownO ts
 | .bl _ _ _ :: ts => ownO ts
def ownV : Nat → List T → List V1
 | _,[] => []
 | n,.v x :: ts => .rd [] (.v x) :: ownV n ts
 | n,.sl _ _ :: ts => .ref n :: ownV (n + 1) ts
 | n,.un :: ts => .un :: ownV n ts
 | n,.bl _ _ _ :: ts => .un :: ownV n ts

structure TLevel where
 Rows : (List ByteArray)
 deriving DecidableEq
instance : Enc TLevel := ⟨1,by omega,fun x => [sl x.Rows],fun _ => rfl,fun x => Enc.gd x.Rows,fun x => Enc.wt x.Rows⟩
theorem TLevel.same {x y : TLevel} (h0 : x.Rows = y.Rows) : x = y := by cases x; cases y; simp_all
structure TReplay where
 Level : TLevel
 Players : Int
 Seed : Int
 Every : Int
 Rows : (List (List Int))
 Keys : (List ByteArray)
 deriving DecidableEq
instance : Enc TReplay := ⟨6,by omega,fun x => [sl x.Level.Rows,.v (.int .i64 x.Players),.v (.int .i64 x.Seed),.v (.int .i64 x.Every),sl x.Rows,sl x.Keys],fun _ => rfl,fun x => Enc.gd x.Level ∧ Enc.gd x.Players ∧ Enc.gd x.Seed ∧ Enc.gd x.Every ∧ Enc.gd x.Rows ∧ Enc.gd x.Keys,fun x => Enc.wt x.Level + Enc.wt x.Rows + Enc.wt x.Keys⟩
theorem TReplay.same {x y : TReplay} (h0 : x.Level = y.Level) (h1 : x.Players = y.Players) (h2 : x.Seed = y.Seed) (h3 : x.Every = y.Every) (h4 : x.Rows = y.Rows) (h5 : x.Keys = y.Keys) : x = y := by cases x; cases y; simp_all

theorem sz_Level (x : TLevel) (left : Int) (hg : Enc.gd x) (h0 : 0 ≤ left) (h1 : left ≤ 1048576) : Con Try.prog 9 [] [ag x,ai left] [] (I (szr (Enc.wt x) left)) := by
 have g_Rows : Enc.gd x.Rows := hg
 have hw : Enc.wt x = Enc.wt x.Rows := rfl
 have hm1 : decide ((-1 : Int) < 0) = true := rfl
 have hc_Rows := sz_StringS x.Rows (left) g_Rows (by omega) (by omega)
 by_cases n_Rows : left < Enc.wt x.Rows
 ·rw [Yb n_Rows] at hc_Rows
  refine Con.of Try.func9 J Try.ntmps9 J (fun E => ?_)
  refine zy (M1 (Zn J) J J (z1 J (zz (zy (z2 J J J (z3 J (z0 J ?_)))))));refine zx (Qj J J (hc_Rows) J) J ?_;refine z1 J (zz (Qd (zy (z0 J (Za J (zz (Qm J (Qd ?_))))))));refine Qc (z1 J (zz (Q6 (T_r (F_r ?_)))))
  exact Y5 J (Y6 [] J J (I_eq (by rw [Y7])))
 rw [Y8] at hc_Rows
 have hb_Rows : decide (left - Enc.wt x.Rows < 0) = false := decide_eq_false (by omega)
 refine Con.of Try.func9 J Try.ntmps9 J (fun E => ?_)
 refine zy (M1 (Zn J) J J (z1 J (zz (zy (z2 J J J (z3 J (z0 J ?_)))))));refine zx (Qj J J (hc_Rows) J) J ?_;refine z1 J (zz (Qd (zy (z0 J (Za J (zz (Ql J (Qh ?_))))))));refine Qz (zy (z0 J (z1 J (zz (Q6 (F_r ?_))))))
 exact Y5 J (Y6 [] J J (I_eq (by rw [Y8]; omega)))
theorem to_Level (x : TLevel) (hg : Enc.wt x ≤ 1048576) : Con Try.prog 19 [] [ag x] (ownO (Enc.e x)) (.o (.ag (ownV 0 (Enc.e x)))) := by
 have hw : Enc.wt x = Enc.wt x.Rows := rfl
 refine Con.of Try.func19 J Try.ntmps19 J (fun E => ?_)
 refine zy (M1 (Zn J) J J (M1 (Qx J J J) J J (zz (zy (M1 (Qx J J J) J J (zz (Qd ?_)))))));refine Qc (z2 J J J (z3 J ?_));refine M1 (q_call J J (to_StringS x.Rows (by omega)) J J J) J J ?_;refine z2 J J J ?_;refine Q4 J J J J J J J J (zz (zy (z4 J J J ?_)));refine Qy J J J J J J J J J (zz (Q6 (F_r ?_)))
 exact E_cell J J J J (Y6 [3] J J J)
theorem eq_Level (x y : TLevel) (hg : Enc.gd x) : Con Try.prog 30 [] [ag x,ag y] [] (B (decide (x = y))) := by
 have g_Rows : Enc.gd x.Rows := hg
 by_cases e_Rows : ¬ x.Rows = y.Rows
 ·have hc := eq_StringS x.Rows y.Rows g_Rows
  rw [decide_eq_false e_Rows] at hc
  refine Con.of Try.func30 J Try.ntmps30 J (fun E => ?_)
  refine zy (M1 (Zn J) J J (M1 (Zn J) J J (z1 J (zz (Qd (zy (z2 J J J (z3 J ?_))))))));refine z2 J J J (z3 J ?_);refine zx (Qj J J (hc) J) J ?_;refine zn J (zz (Qm J (zy (z1 J (zz (Q6 (T_r (F_r ?_))))))))
  exact Y5 J (Y6 [] J J (Xc (decide_eq_false fun e => e_Rows (by rw [e])).symm))
 have e_Rows := Classical.not_not.1 e_Rows
 have hc_Rows := eq_StringS x.Rows y.Rows g_Rows
 rw [decide_eq_true e_Rows] at hc_Rows
 refine Con.of Try.func30 J Try.ntmps30 J (fun E => ?_)
 refine zy (M1 (Zn J) J J (M1 (Zn J) J J (z1 J (zz (Qd (zy (z2 J J J (z3 J ?_))))))));refine z2 J J J (z3 J ?_);refine zx (Qj J J (hc_Rows) J) J ?_;refine zn J (zz (Ql J (Qh (Qz (zy (z1 J (zz (Q6 ?_))))))));refine F_r ?_
 exact Y5 J (Y6 [] J J (Xc (decide_eq_true (TLevel.same e_Rows)).symm))
theorem sz_Replay (x : TReplay) (left : Int) (hg : Enc.gd x) (h0 : 0 ≤ left) (h1 : left ≤ 1048576) : Con Try.prog 4 [] [ag x,ai left] [] (I (szr (Enc.wt x) left)) := by
 obtain ⟨g_Level,g_Players,g_Seed,g_Every,g_Rows,g_Keys⟩ := hg
 have hw : Enc.wt x = Enc.wt x.Level + Enc.wt x.Rows + Enc.wt x.Keys := rfl
 have hm1 : decide ((-1 : Int) < 0) = true := rfl
 have hc_Level := sz_Level x.Level (left) g_Level (by omega) (by omega)
 by_cases n_Level : left < Enc.wt x.Level
 ·rw [Yb n_Level] at hc_Level
  refine Con.of Try.func4 J Try.ntmps4 J (fun E => ?_)
  refine zy (M1 (Zn J) J J (z1 J (zz (zy (z2 J J J (z4 J J J (z0 J ?_)))))));refine zx (Qj J J (hc_Level) J) J ?_;refine z1 J (zz (Qd (zy (z0 J (Za J (zz (Qm J (Qd ?_))))))));refine Qc (z1 J (zz (Q6 (T_r (F_r ?_)))))
  exact Y5 J (Y6 [] J J (I_eq (by rw [Y7])))
 rw [Y8] at hc_Level
 have hb_Level : decide (left - Enc.wt x.Level < 0) = false := decide_eq_false (by omega)
 have hc_Rows := sz_IntSS x.Rows (left - Enc.wt x.Level) g_Rows (by omega) (by omega)
 by_cases n_Rows : left - Enc.wt x.Level < Enc.wt x.Rows
 ·rw [Yb n_Rows] at hc_Rows
  refine Con.of Try.func4 J Try.ntmps4 J (fun E => ?_)
  refine zy (M1 (Zn J) J J (z1 J (zz (zy (z2 J J J (z4 J J J (z0 J ?_)))))));refine zx (Qj J J (hc_Level) J) J ?_;refine z1 J (zz (Qd (zy (z0 J (Za J (zz (Ql J (Qh ?_))))))));refine Qz (zy (z2 J J J (z3 J (z0 J ?_))));refine zx (Qj J J (hc_Rows) J) J ?_;refine z1 J (zz (Qd (zy (z0 J (Za J (zz (Qm J (Qd ?_))))))));refine Qc (z1 J (zz (Q6 (T_r (F_r ?_)))))
  exact Y5 J (Y6 [] J J (I_eq (by rw [Y7])))
 rw [Y8] at hc_Rows
 have hb_Rows : decide (left - Enc.wt x.Level - Enc.wt x.Rows < 0) = false := decide_eq_false (by omega)
 have hc_Keys := sz_StringS x.Keys (left - Enc.wt x.Level - Enc.wt x.Rows) g_Keys (by omega) (by omega)
 by_cases n_Keys : left - Enc.wt x.Level - Enc.wt x.Rows < Enc.wt x.Keys
 ·rw [Yb n_Keys] at hc_Keys
  refine Con.of Try.func4 J Try.ntmps4 J (fun E => ?_)
  refine zy (M1 (Zn J) J J (z1 J (zz (zy (z2 J J J (z4 J J J (z0 J ?_)))))));refine zx (Qj J J (hc_Level) J) J ?_;refine z1 J (zz (Qd (zy (z0 J (Za J (zz (Ql J (Qh ?_))))))));refine Qz (zy (z2 J J J (z3 J (z0 J ?_))));refine zx (Qj J J (hc_Rows) J) J ?_;refine z1 J (zz (Qd (zy (z0 J (Za J (zz (Ql J (Qh ?_))))))));refine Qz (zy (z2 J J J (z3 J (z0 J ?_))));refine zx (Qj J J (hc_Keys) J) J ?_;refine z1 J (zz (Qd (zy (z0 J (Za J (zz (Qm J (Qd ?_))))))));refine Qc (z1 J (zz (Q6 (T_r (F_r ?_)))))
  exact Y5 J (Y6 [] J J (I_eq (by rw [Y7])))
 rw [Y8] at hc_Keys
 have hb_Keys : decide (left - Enc.wt x.Level - Enc.wt x.Rows - Enc.wt x.Keys < 0) = false := decide_eq_false (by omega)
 refine Con.of Try.func4 J Try.ntmps4 J (fun E => ?_)
 refine zy (M1 (Zn J) J J (z1 J (zz (zy (z2 J J J (z4 J J J (z0 J ?_)))))));refine zx (Qj J J (hc_Level) J) J ?_;refine z1 J (zz (Qd (zy (z0 J (Za J (zz (Ql J (Qh ?_))))))));refine Qz (zy (z2 J J J (z3 J (z0 J ?_))));refine zx (Qj J J (hc_Rows) J) J ?_;refine z1 J (zz (Qd (zy (z0 J (Za J (zz (Ql J (Qh ?_))))))));refine Qz (zy (z2 J J J (z3 J (z0 J ?_))));refine zx (Qj J J (hc_Keys) J) J ?_;refine z1 J (zz (Qd (zy (z0 J (Za J (zz (Ql J (Qh ?_))))))));refine Qz (zy (z0 J (z1 J (zz (Q6 (F_r ?_))))))
 exact Y5 J (Y6 [] J J (I_eq (by rw [Y8]; omega)))
theorem to_Replay (x : TReplay) (hg : Enc.wt x ≤ 1048576) : Con Try.prog 6 [] [ag x] (ownO (Enc.e x)) (.o (.ag (ownV 0 (Enc.e x)))) := by
 have hw : Enc.wt x = Enc.wt x.Level + Enc.wt x.Rows + Enc.wt x.Keys := rfl
 refine Con.of Try.func6 J Try.ntmps6 J (fun E => ?_)
 refine zy (M1 (Zn J) J J (M1 (Qx J J J) J J (zz (zy (M1 (Qx J J J) J J (zz (Qd ?_)))))));refine Qc (z2 J J J (z4 J J J ?_));refine M1 (q_call J J (to_Level x.Level (by omega)) J J J) J J ?_;refine z2 J J J ?_;refine Qy J J J J J J J J J (zz (zy (z2 J J J (z3 J (z2 J J J ?_)))));refine Q4 J J J J J J J J (zz (zy (z2 J J J (z3 J (z2 J J J ?_)))));refine Q4 J J J J J J J J (zz (zy (z2 J J J (z3 J (z2 J J J ?_)))));refine Q4 J J J J J J J J (zz (zy (z2 J J J (z3 J ?_))));refine M1 (q_call J J (to_IntSS x.Rows (by omega)) J J J) J J ?_;refine z2 J J J ?_;refine Q4 J J J J J J J J (zz (zy (z2 J J J (z3 J ?_))));refine M1 (q_call J J (to_StringS x.Keys (by omega)) J J J) J J ?_;refine z2 J J J ?_;refine Q4 J J J J J J J J (zz (zy (z4 J J J ?_)));refine Qy J J J J J J J J J (zz (Q6 (F_r ?_)))
 exact E_cell J J J J (Y6 [3,4,5] J J J)
theorem eq_Replay (x y : TReplay) (hg : Enc.gd x) : Con Try.prog 8 [] [ag x,ag y] [] (B (decide (x = y))) := by
 obtain ⟨g_Level,g_Players,g_Seed,g_Every,g_Rows,g_Keys⟩ := hg
 by_cases e_Level : ¬ x.Level = y.Level
 ·have hc := eq_Level x.Level y.Level g_Level
  rw [decide_eq_false e_Level] at hc
  refine Con.of Try.func8 J Try.ntmps8 J (fun E => ?_)
  refine zy (M1 (Zn J) J J (M1 (Zn J) J J (z1 J (zz (Qd (zy (z2 J J J (z4 J J J ?_))))))));refine z2 J J J (z4 J J J ?_);refine zx (Qj J J (hc) J) J ?_;refine zn J (zz (Qm J (zy (z1 J (zz (Q6 (T_r (F_r ?_))))))))
  exact Y5 J (Y6 [] J J (Xc (decide_eq_false fun e => e_Level (by rw [e])).symm))
 have e_Level := Classical.not_not.1 e_Level
 have hc_Level := eq_Level x.Level y.Level g_Level
 rw [decide_eq_true e_Level] at hc_Level
 by_cases e_Players : ¬ x.Players = y.Players
 ·have hk : decide (x.Players ≠ y.Players) = true := by simp [e_Players]
  refine Con.of Try.func8 J Try.ntmps8 J (fun E => ?_)
  refine zy (M1 (Zn J) J J (M1 (Zn J) J J (z1 J (zz (Qd (zy (z2 J J J (z4 J J J ?_))))))));refine z2 J J J (z4 J J J ?_);refine zx (Qj J J (hc_Level) J) J ?_;refine zn J (zz (Ql J (Qh (Qz (Qd (zy (z2 J J J (z3 J (z2 J J J ?_)))))))));refine z3 J (z9f J (by assumption) (zz (Qm J (zy (z1 J (zz (Q6 (T_r ?_))))))));refine F_r ?_
  exact Y5 J (Y6 [] J J (Xc (decide_eq_false fun e => e_Players (by rw [e])).symm))
 have e_Players := Classical.not_not.1 e_Players
 have k_Players : decide (x.Players ≠ y.Players) = false := by simp [e_Players]
 by_cases e_Seed : ¬ x.Seed = y.Seed
 ·have hk : decide (x.Seed ≠ y.Seed) = true := by simp [e_Seed]
  refine Con.of Try.func8 J Try.ntmps8 J (fun E => ?_)
  refine zy (M1 (Zn J) J J (M1 (Zn J) J J (z1 J (zz (Qd (zy (z2 J J J (z4 J J J ?_))))))));refine z2 J J J (z4 J J J ?_);refine zx (Qj J J (hc_Level) J) J ?_;refine zn J (zz (Ql J (Qh (Qz (Qd (zy (z2 J J J (z3 J (z2 J J J ?_)))))))));refine z3 J (z9f J (by assumption) (zz (Ql J (Qh (Qz (Qd (zy (z2 J J J (z3 J ?_)))))))));refine z2 J J J (z3 J (z9f J (by assumption) (zz (Qm J (zy (z1 J (zz (Q6 ?_))))))));refine T_r (F_r ?_)
  exact Y5 J (Y6 [] J J (Xc (decide_eq_false fun e => e_Seed (by rw [e])).symm))
 have e_Seed := Classical.not_not.1 e_Seed
 have k_Seed : decide (x.Seed ≠ y.Seed) = false := by simp [e_Seed]
 by_cases e_Every : ¬ x.Every = y.Every
 ·have hk : decide (x.Every ≠ y.Every) = true := by simp [e_Every]
  refine Con.of Try.func8 J Try.ntmps8 J (fun E => ?_)
  refine zy (M1 (Zn J) J J (M1 (Zn J) J J (z1 J (zz (Qd (zy (z2 J J J (z4 J J J ?_))))))));refine z2 J J J (z4 J J J ?_);refine zx (Qj J J (hc_Level) J) J ?_;refine zn J (zz (Ql J (Qh (Qz (Qd (zy (z2 J J J (z3 J (z2 J J J ?_)))))))));refine z3 J (z9f J (by assumption) (zz (Ql J (Qh (Qz (Qd (zy (z2 J J J (z3 J ?_)))))))));refine z2 J J J (z3 J (z9f J (by assumption) (zz (Ql J (Qh (Qz (Qd (zy (z2 J J J ?_)))))))));refine z3 J (z2 J J J (z3 J (z9f J (by assumption) (zz (Qm J (zy (z1 J (zz ?_))))))));refine Q6 (T_r (F_r ?_))
  exact Y5 J (Y6 [] J J (Xc (decide_eq_false fun e => e_Every (by rw [e])).symm))
 have e_Every := Classical.not_not.1 e_Every
 have k_Every : decide (x.Every ≠ y.Every) = false := by simp [e_Every]
 by_cases e_Rows : ¬ x.Rows = y.Rows
 ·have hc := eq_IntSS x.Rows y.Rows g_Rows
  rw [decide_eq_false e_Rows] at hc
  refine Con.of Try.func8 J Try.ntmps8 J (fun E => ?_)
  refine zy (M1 (Zn J) J J (M1 (Zn J) J J (z1 J (zz (Qd (zy (z2 J J J (z4 J J J ?_))))))));refine z2 J J J (z4 J J J ?_);refine zx (Qj J J (hc_Level) J) J ?_;refine zn J (zz (Ql J (Qh (Qz (Qd (zy (z2 J J J (z3 J (z2 J J J ?_)))))))));refine z3 J (z9f J (by assumption) (zz (Ql J (Qh (Qz (Qd (zy (z2 J J J (z3 J ?_)))))))));refine z2 J J J (z3 J (z9f J (by assumption) (zz (Ql J (Qh (Qz (Qd (zy (z2 J J J ?_)))))))));refine z3 J (z2 J J J (z3 J (z9f J (by assumption) (zz (Ql J (Qh (Qz (Qd (zy ?_)))))))));refine z2 J J J (z3 J (z2 J J J (z3 J ?_)));refine zx (Qj J J (hc) J) J ?_;refine zn J (zz (Qm J (zy (z1 J (zz (Q6 (T_r (F_r ?_))))))))
  exact Y5 J (Y6 [] J J (Xc (decide_eq_false fun e => e_Rows (by rw [e])).symm))
 have e_Rows := Classical.not_not.1 e_Rows
 have hc_Rows := eq_IntSS x.Rows y.Rows g_Rows
 rw [decide_eq_true e_Rows] at hc_Rows
 by_cases e_Keys : ¬ x.Keys = y.Keys
 ·have hc := eq_StringS x.Keys y.Keys g_Keys
  rw [decide_eq_false e_Keys] at hc
  refine Con.of Try.func8 J Try.ntmps8 J (fun E => ?_)
  refine zy (M1 (Zn J) J J (M1 (Zn J) J J (z1 J (zz (Qd (zy (z2 J J J (z4 J J J ?_))))))));refine z2 J J J (z4 J J J ?_);refine zx (Qj J J (hc_Level) J) J ?_;refine zn J (zz (Ql J (Qh (Qz (Qd (zy (z2 J J J (z3 J (z2 J J J ?_)))))))));refine z3 J (z9f J (by assumption) (zz (Ql J (Qh (Qz (Qd (zy (z2 J J J (z3 J ?_)))))))));refine z2 J J J (z3 J (z9f J (by assumption) (zz (Ql J (Qh (Qz (Qd (zy (z2 J J J ?_)))))))));refine z3 J (z2 J J J (z3 J (z9f J (by assumption) (zz (Ql J (Qh (Qz (Qd (zy ?_)))))))));refine z2 J J J (z3 J (z2 J J J (z3 J ?_)));refine zx (Qj J J (hc_Rows) J) J ?_;refine zn J (zz (Ql J (Qh (Qz (Qd (zy (z2 J J J (z3 J (z2 J J J ?_)))))))));refine z3 J ?_;refine zx (Qj J J (hc) J) J ?_;refine zn J (zz (Qm J (zy (z1 J (zz (Q6 (T_r (F_r ?_))))))))
  exact Y5 J (Y6 [] J J (Xc (decide_eq_false fun e => e_Keys (by rw [e])).symm))
 have e_Keys := Classical.not_not.1 e_Keys
 have hc_Keys := eq_StringS x.Keys y.Keys g_Keys
 rw [decide_eq_true e_Keys] at hc_Keys
 refine Con.of Try.func8 J Try.ntmps8 J (fun E => ?_)
 refine zy (M1 (Zn J) J J (M1 (Zn J) J J (z1 J (zz (Qd (zy (z2 J J J (z4 J J J ?_))))))));refine z2 J J J (z4 J J J ?_);refine zx (Qj J J (hc_Level) J) J ?_;refine zn J (zz (Ql J (Qh (Qz (Qd (zy (z2 J J J (z3 J (z2 J J J ?_)))))))));refine z3 J (z9f J (by assumption) (zz (Ql J (Qh (Qz (Qd (zy (z2 J J J (z3 J ?_)))))))));refine z2 J J J (z3 J (z9f J (by assumption) (zz (Ql J (Qh (Qz (Qd (zy (z2 J J J ?_)))))))));refine z3 J (z2 J J J (z3 J (z9f J (by assumption) (zz (Ql J (Qh (Qz (Qd (zy ?_)))))))));refine z2 J J J (z3 J (z2 J J J (z3 J ?_)));refine zx (Qj J J (hc_Rows) J) J ?_;refine zn J (zz (Ql J (Qh (Qz (Qd (zy (z2 J J J (z3 J (z2 J J J ?_)))))))));refine z3 J ?_;refine zx (Qj J J (hc_Keys) J) J ?_;refine zn J (zz (Ql J (Qh (Qz (zy (z1 J (zz (Q6 ?_))))))));refine F_r ?_
 exact Y5 J (Y6 [] J J (Xc (decide_eq_true (TReplay.same e_Level e_Players e_Seed e_Every e_Rows e_Keys)).symm))
end
section
open Go.RowKit

theorem Con.kit {P : Program} {f : FuncId} {args : List V2} {x : Value} (hx : x.oneCell' = true)
  (h : ∀ (w : World) (H : Hs) (F : Nat → Prop) (vs : List Value),Ok w H F → (∀ p,H p = .nil) → vs.length = args.length → (∀ (i : Nat) (x : V2) (v : Value),args[i]? = some x → vs[i]? = some v → R2 w H F x v) → Calls P f vs.toArray w fun e w' => e = .returned x ∧ Below w.heap.size w w') :
  Con P f [] args [] (.o (.c (.rd [] (.v x)))) := by
 intro w H F vs hok hob hlen hargs
 have hnil : ∀ p,H p = .nil := fun p => by simpa [RB] using hob p
 refine (h w H F vs hok hnil hlen hargs).mono ?_
 rintro e w' ⟨rfl,hb⟩
 refine ⟨H,F,x,J,⟨hb.os,hb.tape,hb.output,hb.size,fun b h1 _ => hb.block b h1,fun _ h => h,fun _ h => .inl h,fun p b hb => .inl ⟨p,hb⟩,fun p i v h => ⟨p,h⟩⟩,⟨fun p => ?_,hok.nodup,hok.disj,hok.free,fun b h => Nat.lt_of_lt_of_le (hok.flt b h) hb.size⟩,fun p => ?_,RO.v _ hx⟩
 ·rw [hnil p]; trivial
 ·show RB w' H F p .gone
  exact hnil p
end
section
open Go.RowKit

def inR (n lo hi : Int) : Bool := decide (lo ≤ n) && decide (n ≤ hi)
theorem inR_iff {n lo hi : Int} : inR n lo hi = true ↔ lo ≤ n ∧ n ≤ hi := by simp [inR]
theorem I_between (n lo hi : Int) : Con Try.prog 43 [] [ai n,ai lo,ai hi] [] (B (inR n lo hi)) := by
 refine Con.of Try.func43 J Try.ntmps43 J (fun E => ?_)
 refine zy (z1 J (zz (zy (z0 J (z0 J (zx (q_geq J J J J) J (z0 J ?_)))))));refine zx (Qt.grdT J J J .stop (fun hgrd => Yo J)) J ?_;refine zx (Qt.grdT J J J (.hit .stop) (fun hgrd => Yo J)) J ?_;refine zx (Qt.grdT J J J (.hit (.hit .stop)) (fun hgrd => q_leq J J J J)) J ?_;refine zx (q_and J J J J) J (z1 J (zz (Q6 (F_r ?_))))
 exact Y5 J (Y6 [] J J J)
theorem S_in (n lo hi : Int) : Con Try.prog 35 [] [ai n,ai lo,ai hi] [] (B (inR n lo hi)) := by
 refine Con.of Try.func35 J Try.ntmps35 J (fun E => ?_)
 refine zy (z1 J (zz (zy (z0 J (z0 J (zx (q_geq J J J J) J (z0 J ?_)))))));refine zx (Qt.grdT J J J .stop (fun hgrd => Yo J)) J ?_;refine zx (Qt.grdT J J J (.hit .stop) (fun hgrd => Yo J)) J ?_;refine zx (Qt.grdT J J J (.hit (.hit .stop)) (fun hgrd => q_leq J J J J)) J ?_;refine zx (q_and J J J J) J (z1 J (zz (Q6 (F_r ?_))))
 exact Y5 J (Y6 [] J J J)

section
variable {α : Type} {p : α → Bool} {xs : List α} {k : Nat}
theorem all_next (h : (xs.take k).all p = true) (hk : k < xs.length) (hp : p xs[k] = true) : (xs.take (k + 1)).all p = true := by
 rw [List.take_succ_eq_append_getElem hk,List.all_append,h]
 simp [hp]
theorem all_no (hk : k < xs.length) (hp : p xs[k] = false) : xs.all p = false := by
 rw [List.all_eq_false]
 exact ⟨_,List.getElem_mem hk,by simp [hp]⟩
theorem all_end (h : (xs.take k).all p = true) (hk : xs.length ≤ k) : xs.all p = true := by rwa [List.take_of_length_le hk] at h
end
def inOk (xs : List Int) : Bool := xs.all fun n => inR n 0 15
def rowOk (xs : List Int) (n : Int) : Bool := decide ((xs.length : Int) = n) && inOk xs

theorem I_inputsOk (xs : List Int) (hn : Enc.gd xs) : Con Try.prog 52 [] [al xs] [] (B (inOk xs)) := by
 have hn1 := hn.1
 have hlx := Xp xs
 refine Con.of Try.func52 J Try.ntmps52 J (fun E => ?_)
 refine zy (z1 J (zz (Qd (zy (z0 J (zx (X4 J J J) J (z0 J (Qe ?_))))))));refine Qz (Qk ?_);refine A_lq (fun m st => ∃ k : Nat,k + m = xs.length ∧ ((xs.take k).all (fun n => inR n 0 15) = true) ∧ st = (⟨_,[(5,L xs),(6,I (els xs).length),(7,I k)],[]⟩ : St)) (xs.length) ⟨_,⟨0,by omega,by simp,J⟩,Zj []⟩ ?_
 rintro m_A _ ⟨k,hk_A,hp_A,rfl⟩
 refine zy (zx (Yi J) J (zz (Qd ?_)))
 refine Q7 J (fun h => ?_) (fun h => ?_)
 ·have h3 : k < xs.length := by have := of_decide_eq_true h; omega
  have hat := Xo h3
  refine Qh (Qz (Qd (Qk (zy (zx (Q1 J J J J (by omega) (by assumption) J) J (zx (Y9 J) J (z1 J (zz (Qd ?_)))))))));refine Qc (z0 J ?_);refine zx (Qj J J (I_between xs[k] 0 15) J) J ?_;refine zn J (zz ?_)
  refine Q7 J (fun h4 => ?_) (fun h4 => ?_)
  ·refine zy (z1 rfl (zz (Q6 (B_r (T_r (T_r (B_r ?_)))))))
   refine T_r (F_r ?_)
   exact Y5 J (Y6 [] J J (Xc (all_no h3 (by simpa using h4)).symm))
  ·refine Qh (Q0 (Qz (Qc (Zb rfl (z0 rfl (Qe ?_))))))
   refine Qz ?_
   exact ⟨xs.length - (k + 1),by omega,_,⟨k + 1,by omega,all_next hp_A h3 (by simpa using h4),J⟩,Zj []⟩
 ·have h3 : ¬ ((k : Int) < (els xs).length) := of_decide_eq_false h
  refine Q5 (T_x (T_x (B_xs (Qz (zy (z1 J (zz (Q6 (F_r ?_)))))))))
  exact Y5 J (Y6 [] J J (Xc (all_end hp_A (by omega)).symm))
theorem I_rowOk (xs : List Int) (n : Int) (hn : Enc.gd xs) : Con Try.prog 44 [] [al xs,ai n] [] (B (rowOk xs n)) := by
 have hlx := Xp xs
 refine Con.of Try.func44 J Try.ntmps44 J (fun E => ?_)
 refine zy (z1 J (zz (zy (z0 J (zx (X4 J J J) J (z0 J (zx (q_eql J J J J) J (z0 J ?_))))))));refine zx (Qt.grdT J J J .stop (fun hgrd => Yo J)) J ?_;refine zx (Qt.grdT J J J (.hit .stop) (fun hgrd => Qj J J (I_inputsOk xs hn) J)) J ?_;refine zx (q_and J J J J) J (z1 J (zz (Q6 (F_r ?_))))
 exact Y5 J (Y6 [] J J (Xc (by rw [hlx]; rfl)))
theorem S_rowOk (xs : List Int) (n : Int) (hn : Enc.gd xs) : Con Try.prog 36 [] [al xs,ai n] [] (B (rowOk xs n)) := by
 have hn1 := hn.1
 have hlx := Xp xs
 refine Con.of Try.func36 J Try.ntmps36 J (fun E => ?_)
 refine zy (z1 J (zz (Qd (zy (z1 J (zz (Qk ?_)))))));refine A_lq (fun m st => ∃ k : Nat,k + m = xs.length ∧ ((xs.take k).all (fun n => inR n 0 15) = true) ∧ st = (⟨_,[(0,L xs),(1,I n),(5,I k)],[]⟩ : St)) (xs.length) ⟨_,⟨0,by omega,by simp,J⟩,Zj []⟩ ?_
 rintro m_A _ ⟨k,hk_A,hp_A,rfl⟩
 refine Qd (zy (z0 J (z0 J (zx (X4 J J J) J (zx (Yi J) J (zz ?_))))))
 refine Q7 J (fun h => ?_) (fun h => ?_)
 ·have h3 : k < xs.length := by have := of_decide_eq_true h; omega
  have hat := Xo h3
  refine Qh (Qz (Qd (Qk (zy (z0 J (z0 J (zx (Q1 J J J J (by omega) (by assumption) J) J (zx (Y9 J) J ?_))))))));refine zx (Qj J J (S_in xs[k] 0 15) J) J ?_;refine zn J (zz ?_)
  refine Q7 J (fun h4 => ?_) (fun h4 => ?_)
  ·refine zy (z1 rfl (zz (Q6 (B_r (T_r (T_r (B_r ?_)))))))
   refine T_r (F_r ?_)
   exact Y5 J (Y6 [] J J (Xc (by unfold rowOk inOk; rw [all_no h3 (by simpa using h4)]; simp)))
  ·refine Qh (Q0 (Qz (Qc (z0 rfl (Zb rfl ?_)))))
   refine z1 J (zz ?_)
   exact ⟨xs.length - (k + 1),by omega,_,⟨k + 1,by omega,all_next hp_A h3 (by simpa using h4),J⟩,Zj []⟩
 ·have h3 : ¬ ((k : Int) < (els xs).length) := of_decide_eq_false h
  refine Q5 (T_x (T_x (B_xs (Qz (zy (z0 J (zx (X4 J J J) J (z0 J (zx (q_eql J J J J) J (z1 J ?_))))))))));refine zz (Q6 (F_r ?_))
  exact Y5 J (Y6 [] J J (Xc (by unfold rowOk inOk; rw [all_end hp_A (by omega),hlx]; simp)))
end
section
open Go.RowKit

theorem str_cells {w : World} {G : Nat → Prop} {xs : List ByteArray} {v : Value} (h : RO w G (sl xs) v) : (xs = [] ∧ ∃ A c,v = .slice A 0 c) ∨ ∃ b o c,v = .slice (some ⟨b,o,none⟩) xs.length c ∧ b < w.heap.size ∧ xs.length ≤ c ∧ ∀ (j : Nat) x,xs[j]? = some x → w.cell? ⟨b,o + j,none⟩ = some (.string x) := by
 have hl := Xp xs
 obtain ⟨A,c,hv,hc,hm⟩ := RO.form h
 rw [hl] at hv hc
 cases xs with
 | nil => exact .inl ⟨rfl,A,c,hv⟩
 | cons x xs =>
  refine .inr ?_
  obtain ⟨b,o,c',hv',_,hp,hk,hcell⟩ := RO.at_ h (i := 0) (e := Enc.e x) rfl
  rw [hv] at hv'
  simp only [Value.slice.injEq] at hv'
  obtain ⟨hA,_,rfl⟩ := hv'
  obtain ⟨u,hu,_⟩ := hcell 0 (.v (.string x)) rfl
  refine ⟨b,o,c,by rw [hv,hA],World.block_lt_of_cell? w _ hu,hc,fun j y hj => ?_⟩
  have hje : (els (x :: xs))[j]? = some (Enc.e y) := by simp only [els,List.getElem?_map,hj,Option.map_some]
  obtain ⟨b2,o2,c2,hv2,_,_,_,hcell2⟩ := RO.at_ h hje
  rw [hv] at hv2
  simp only [Value.slice.injEq] at hv2
  obtain ⟨hA2,_,_⟩ := hv2
  rw [hA] at hA2
  simp only [Option.some.injEq,Addr.mk.injEq] at hA2
  obtain ⟨rfl,rfl,_⟩ := hA2
  obtain ⟨u2,hu2,hr2⟩ := hcell2 0 (.v (.string y)) rfl
  obtain ⟨rfl,_⟩ := RO.plain hr2
  have hk1 : (Enc.k ByteArray) = 1 := rfl
  rw [hk1] at hu2
  simpa using hu2
def joinB (xs : List ByteArray) (sep : ByteArray) : ByteArray := ⟨(Lib.join (xs.map (·.data.toList)) sep.data.toList).toArray⟩
theorem I_Join (xs : List ByteArray) (sep : ByteArray) (h1 : xs.length ≤ 140737488355328) (h2 : (Lib.join (xs.map (·.data.toList)) sep.data.toList).length ≤ 140737488355328) : Con Try.prog 47 [] [al xs,astr sep] [] (S (joinB xs sep)) := by
 refine Con.kit J fun w H F vs hok hnil hlen hargs => ?_
 match vs,hlen with
 | [v,u],_ =>
  have h3 := hargs 0 _ v J J
  have h4 := hargs 1 _ u J J
  obtain ⟨rfl,_⟩ : u = .string sep ∧ _ := RO.plain h4
  rcases str_cells h3 with ⟨rfl,A,c,rfl⟩ | ⟨b,o,c,rfl,hb,hc,hcell⟩
  ·exact (Try.strings_Join_none A c sep w).mono fun e w' ⟨he,hw⟩ => ⟨he,hw ▸ Below.refl _ _⟩
  ·exact Try.strings_Join b o c xs sep w hcell hb h1 hc h2
def joinG (xs : List ByteArray) (sep : ByteArray) : Nat → ByteArray
 | 0 => ⟨#[]⟩
 | k + 1 => (if 0 < k then joinG xs sep k ++ sep else joinG xs sep k) ++ (xs.getD k ⟨#[]⟩)
theorem joinG_list (xs : List ByteArray) (sep : ByteArray) : ∀ k,k ≤ xs.length → (joinG xs sep k).data.toList = Lib.join ((xs.map (·.data.toList)).take k) sep.data.toList
 | 0,_ => rfl
 | k + 1,h => by
  have ih := joinG_list xs sep k (by omega)
  have hk : k < xs.length := by omega
  have hx : (xs.map (·.data.toList))[k]? = some xs[k].data.toList := by rw [List.getElem?_map,List.getElem?_eq_getElem hk]; rfl
  have hd : xs.getD k ⟨#[]⟩ = xs[k] := by simp [List.getD_eq_getElem?_getD,hk]
  cases k with
  | zero =>
   rw [joinG,if_neg (by omega),hd,ByteArray.data_append,Array.toList_append,ih,List.take_add_one,hx]
   simp [Lib.join,List.intercalate]
  | succ j =>
   obtain ⟨x,r,hr⟩ : ∃ x r,xs.map (·.data.toList) = x :: r := by
    cases hm : xs.map (·.data.toList) with
    | nil => rw [hm] at hx; simp at hx
    | cons x r => exact ⟨x,r,rfl⟩
   rw [hr] at ih hx ⊢
   rw [joinG,if_pos (by omega),hd,ByteArray.data_append,Array.toList_append,ByteArray.data_append,Array.toList_append,ih,List.take_succ_cons,Lib.join_cons,List.take_succ_cons,Lib.join_cons,Lib.joinTail_take_succ sep.data.toList r j xs[j + 1].data.toList (by simpa using hx)]
   simp [List.append_assoc]
theorem joinG_all (xs : List ByteArray) (sep : ByteArray) : joinG xs sep xs.length = joinB xs sep := by
 have h := joinG_list xs sep xs.length (Nat.le_refl _)
 rw [List.take_of_length_le (by simp)] at h
 rw [joinB,← h]
theorem joinG_size (xs : List ByteArray) (sep : ByteArray) : ∀ k,k ≤ xs.length → (joinG xs sep k).size ≤ wts (xs.take k) + sep.size * k
 | 0,_ => by show (0 : Nat) ≤ _; omega
 | k + 1,h => by
  have ih := joinG_size xs sep k (by omega)
  have hw := wts_take xs k (by omega)
  have hd : xs.getD k ⟨#[]⟩ = xs[k]'(by omega) := by simp [List.getD_eq_getElem?_getD,show k < xs.length by omega]
  have hws : Enc.wt (xs[k]'(by omega)) = (xs[k]'(by omega)).size := rfl
  rw [joinG,Xn,hd,hw,hws,Nat.mul_succ]
  split
  ·rw [Xn]; omega
  ·omega
theorem joinB_size (xs : List ByteArray) (sep : ByteArray) : (joinB xs sep).size ≤ wts xs + sep.size * xs.length := by
 have h := joinG_size xs sep xs.length (Nat.le_refl _)
 rw [joinG_all,List.take_of_length_le (Nat.le_refl _)] at h
 exact h
theorem joinB_len (xs : List ByteArray) (sep : ByteArray) : (Lib.join (xs.map (·.data.toList)) sep.data.toList).length = (joinB xs sep).size := by simp [joinB,ByteArray.size]
end
end Go.Proofs.Ytmaiojglkojecaa
