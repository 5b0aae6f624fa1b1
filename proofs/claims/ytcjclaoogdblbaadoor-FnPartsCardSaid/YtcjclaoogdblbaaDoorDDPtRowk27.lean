/-
  Parts of the proof (rules, data, and what functions of the program and of the reference return), among them: Drawn levels and plays (l02Levels, l02Level, DrawPlay of the reference); Numbers taken from the code of a law, and drawn plays as valid ones (big, at of the laws).
  Conditions: those that each theorem names.
-/
import Derived.Test.YtcjclaoogdblbaaDoorDDPtRowk19
import Derived.Test.YtcjclaoogdblbaaDoorDDPtRowk24
import Derived.Test.YtcjclaoogdblbaaDoorDDPtRowk26
set_option linter.unusedSimpArgs false
set_option linter.unusedVariables false
set_option maxRecDepth 20000
set_option maxHeartbeats 8000000
namespace Go.Proofs.YtcjclaoogdblbaaDoor
section
open Go.RowKit

/-! ### The cursor's start -/
def hashK (b : List UInt8) : Nat → Int
 | 0 => 33153 + (b.length : Int)
 | k + 1 => (((hashK b k * 131 + ((b.getD k 0).toNat : Int) + 7).toNat &&& (1073741823 : Int).toNat : Nat) : Int)
theorem hashK_rng {b : List UInt8} (hb : b.length ≤ 1048576) : ∀ k,0 ≤ hashK b k ∧ hashK b k ≤ 1073741823
 | 0 => by simp only [hashK]; omega
 | k + 1 => by
  have : (hashK b k * 131 + ((b.getD k 0).toNat : Int) + 7).toNat &&& (1073741823 : Int).toNat ≤ (1073741823 : Int).toNat := Nat.and_le_right
  simp only [hashK]
  omega
def newCu (b : List UInt8) : Cu := ⟨0,hashK b (min b.length 4000)⟩
theorem S_l01New (b : List UInt8) (hb : b.length ≤ 1048576) : Con Tryd.prog 62 [] [al b] [cub b (newCu b)] (.o (.c (.ptr 0 0))) := by
 have hl := X7 b
 refine Con.of Tryd.func62 J Tryd.ntmps62 J (fun E => ?_)
 refine zy (z1 J (zz (zy (z0 J (zx (Y2 J J J) J (z7 J (by omega) (z1 J (Qe ?_))))))));refine Q0 (Qd (zy (z1 J (zz (Qk ?_)))))
 refine Xi (fun m st => ∃ k : Nat,k + m = (min b.length 4000) ∧ (True) ∧ st = (⟨_,[(0,L b),(3,I (hashK b k)),(4,I k)],[]⟩ : St)) ((min b.length 4000)) ⟨(fun k : Nat => (⟨_,[(0,L b),(3,I (hashK b k)),(4,I k)],[]⟩ : St)) 0,⟨0,by omega,trivial,J⟩,Xu [] (by decide) J (by kernel_rfl) (.c J (.cons (Xo (by rw [hl]; rfl)) (.c J (.nil))))⟩ ?_
 rintro m_A _ ⟨k,hk_A,hp_A,rfl⟩
 have hr := hashK_rng hb k
 by_cases h1 : k < b.length
 ·have f1 : decide ((k : Int) < (els b).length) = true := decide_eq_true (by omega)
  by_cases h2 : k < 4000
  ·have f2 : decide ((k : Int) < 4000) = true := decide_eq_true (by omega)
   have hy : b[k]? = some (b.getD k 0) := by rw [List.getD_eq_getElem?_getD,List.getElem?_eq_getElem h1]; rfl
   have he := byte_at hy
   have hy1 : ((b.getD k 0).toNat : Int) ≤ 255 := by have := (b.getD k 0).toNat_lt; omega
   have hy0 : 0 ≤ ((b.getD k 0).toNat : Int) := by omega
   refine Qd (zy (z0 J (z0 J (zx (Y2 J J J) J (z9a J (by assumption) (z0 J (z5 J (z0 J (z5 J (z9a J (by assumption) ?_))))))))));refine zpT J (zz (Qm J (Qh (Q0 (Qd (Qk (Qc (z0 J (zx (Y8 J J J J (by omega)) J (z0 J ?_))))))))));refine z0 J (zx (Q2 J J J J (by omega) (by assumption) J) J (zx (Y6 J J J J) J (zx (Yw J J J J (Zm (by omega))) J (z7 J (by omega) (z7 J (by omega) (zx (Ys J J J J (by omega)) J (z1 J (Qe (Q1 (Q0 (Qc ?_)))))))))));refine z0 J (z7 J (by omega) (z1 J (zz ?_)))
   exact ⟨(min b.length 4000) - (k + 1),by omega,(fun k : Nat => (⟨_,[(0,L b),(3,I (hashK b k)),(4,I k)],[]⟩ : St)) (k + 1),⟨k + 1,by omega,trivial,J⟩,Xu [] (by decide) J (by kernel_rfl) (.c J (.cons (Xo (by rw [hashK])) (.c J (.nil))))⟩
  ·have f2 : decide ((k : Int) < 4000) = false := decide_eq_false (by omega)
   have hk : k = min b.length 4000 := by omega
   refine Qd (zy (z0 J (z0 J (zx (Y2 J J J) J (z9a J (by assumption) (z0 J (z5 J (z0 J (z5 J (z9a J (by assumption) ?_))))))))));refine zpT J (zz (Ql J (Q9 (T_x (T_x (Xj (Q0 (zy (z0 J ?_)))))))));refine z0 J (zx (q_build J J J J J) J (M1 (Qq J J J J) J J (z1 J (zz (Xa (F_r ?_))))))
   exact Xl J J (Xs [0] (by decide) J (by rw [newCu,← hk]; rfl) J)
 ·have f1 : decide ((k : Int) < (els b).length) = false := decide_eq_false (by omega)
  have hk : k = min b.length 4000 := by omega
  refine Qd (zy (z0 J (z0 J (zx (Y2 J J J) J (z9a J (by assumption) (z0 J (z6 J (z6 J (zpF J (Qe ?_))))))))));refine Q0 (Ql J (Q9 (T_x (T_x (Xj (Q0 (zy (z0 J (z0 J (zx (q_build J J J J J) J ?_))))))))));refine M1 (Qq J J J J) J J (z1 J (zz (Xa (F_r ?_))))
  exact Xl J J (Xs [0] (by decide) J (by rw [newCu,← hk]; rfl) J)
/-! ### Levels from texts -/
def splitG (s : ByteArray) : Nat → List ByteArray × Nat
 | 0 => ([],0)
 | k + 1 => if k = s.size ∨ byteAt s k = 47 then ((splitG s k).1 ++ [s.extract (splitG s k).2 k],k + 1) else splitG s k
def parseL (s : ByteArray) : TLevel := ⟨(splitG s (s.size + 1)).1⟩
theorem splitG_le {s : ByteArray} : ∀ k,(splitG s k).2 ≤ k
 | 0 => Nat.le_refl _
 | k + 1 => by
  have := splitG_le (s := s) k
  rw [splitG]
  split
  ·exact Nat.le_refl _
  ·omega
theorem splitG_len {s : ByteArray} : ∀ k,(splitG s k).1.length ≤ k
 | 0 => Nat.le_refl _
 | k + 1 => by
  have := splitG_len (s := s) k
  rw [splitG]
  split
  ·rw [List.length_append]; simp; omega
  ·omega
theorem splitG_size {s : ByteArray} : ∀ k,∀ r ∈ (splitG s k).1,r.size ≤ s.size
 | 0,r,hr => by cases hr
 | k + 1,r,hr => by
  rw [splitG] at hr
  split at hr
  ·rcases List.mem_append.1 hr with h | h
   ·exact splitG_size k r h
   ·rw [List.mem_singleton] at h; subst h; rw [ByteArray.size_extract]; omega
  ·exact splitG_size k r hr
theorem splitG_hit {s : ByteArray} {k : Nat} (h : k = s.size ∨ byteAt s k = 47) : splitG s (k + 1) = ((splitG s k).1 ++ [s.extract (splitG s k).2 k],k + 1) := by rw [splitG,if_pos h]
theorem splitG_no {s : ByteArray} {k : Nat} (h : ¬ (k = s.size ∨ byteAt s k = 47)) : splitG s (k + 1) = splitG s k := by rw [splitG,if_neg h]
def pl7A : List (List Nat) := [[],[0],[],[],[],[2,3,4],[2,3,4,5],[0,1,2,3,4,5,6],[0,1,2,3,4,5,6,7],[0,1,2,3,4,5,6,7,8]]
def pl7M : List (List Nat) := [[24,25,26,27,28,29,30,31,32],[24,25,26,27,28,29,30,31,32],[24,25,26,27,28,29,30,31,32],[24,25,26,27,28,29,30,31,32],[24,25,26,27,28,29,30,31,32],[24,25,26,27,28,29,30,31,32],[24,25,26,27,28,29,30,31,32],[24,25,26,27,28,29,30,31,32],[24,25,26,27,28,29,30,31,32],[24,25,26,27,28,29,30,31,32]]
theorem S_ParseLevel (s : ByteArray) (hs : s.size ≤ 1000) (hok : levelOk (parseL s) = true) : Con Tryd.prog 44 [] [astr s] [.row 1 (els (parseL s).Rows)] (.tu [.ag [.ref 0],.c (bv true)]) := by
 have hgl : Enc.gd (parseL s) := ⟨by have := splitG_len (s := s) (s.size + 1); show (splitG s (s.size + 1)).1.length ≤ _; omega,fun r hr => by have := splitG_size (s := s) (s.size + 1) r hr; show r.size ≤ _; omega⟩
 have co := S_LevelOk (parseL s) hgl
 rw [hok] at co
 refine Con.of Tryd.func44 J Tryd.ntmps44 J (fun E => ?_)
 refine zy (M1 (Qx J J J) J J (z1 J (zz (zy (zx (q_build J J J J J) J (M1 (Qx J J J) J J ?_))))));refine Qy J J J J J J J J J (zz (zy (z1 J (zz (Qd (zy (z1 J ?_)))))));refine zz (Qk ?_);refine AWP.weak (Wk.nilbox (p := 1) (i := 0) 1 J J) ?_;refine Xi (fun m st => ∃ k : Nat,k + m = (s.size + 1) ∧ (True) ∧ st = (⟨_,[(0,S s),(2,.o (.c (.ptr 0 0))),(4,.o (.c (.ptr 1 0))),(5,I (splitG s k).2),(6,I k)],[.box [nilV],.box [.ref 2],.row 1 (els (splitG s k).1)]⟩ : St)) ((s.size + 1)) ⟨_,⟨0,by omega,trivial,J⟩,Xt [0,1,2] (by kernel_rfl)⟩ ?_
 rintro m_A _ ⟨k,hk_A,hp_A,rfl⟩
 have hle := splitG_le (s := s) k
 have hln := splitG_len (s := s) k
 have hll := X7 (splitG s k).1
 by_cases hlt : k < s.size + 1
 ·have f0 : decide ((k : Int) ≤ s.size) = true := decide_eq_true (by omega)
  by_cases h1 : k = s.size
  ·have f1 : decide ((k : Int) = s.size) = true := decide_eq_true (by omega)
   have hn := splitG_hit (s := s) (k := k) (.inl h1)
   have hm := congrArg (fun p => ((p.2 : Nat) : Int)) hn
   refine Qd (zy (z0 J (z0 J (zx (Y4 J J J) J (z9b J (by assumption) (zz (Qm J (Qh (Q0 ?_)))))))));refine Qd (Qk (zy (z0 J (z0 J (zx (Y4 J J J) J (z9e J (by assumption) (z0 J (z6 J (z6 J (z6 J ?_))))))))));refine z6 J (zpT J (zz (Qm J (Qd ?_))))
   refine A_seqW ⟨40,[(0,S s),(2,.o (.c (.ptr 0 0))),(4,.o (.c (.ptr 1 0))),(5,I (splitG s k).2),(6,I k)],[.box [nilV],.box [.ref 2],.row 1 (els (splitG s k).1 ++ els [s.extract (splitG s k).2 k])]⟩ ?_ ?_
   ·
    refine A_drawn (f := 10) J J ?_;refine DAL.fld pl7A [] pl7M 0 _ 24 (by kernel_rfl) J J J J J J (by decide) ?_;refine DAL.mv pl7A [] pl7M 2 _ 26 (by kernel_rfl) J J J J ?_;refine DAL.mv pl7A [] pl7M 3 _ 27 (by kernel_rfl) J J J J ?_;refine DAL.mv pl7A [] pl7M 4 _ 28 (by kernel_rfl) J J J J ?_
    refine DAL.two 1 5 (by kernel_rfl) J J ?_ ?_
    ·
     refine z3 J (zz (DAL.one 5 (by kernel_rfl) J (zx (q_sslice J J J J J (by omega)) J (zz (DAL.one 6 (by kernel_rfl) J (M1 (Yt J J J J J J) J J (zz (DAL.one 7 (by kernel_rfl) J ?_))))))));refine Xp J J J J J J J J J J (by omega) (by omega) ?_;refine zz ?_;refine DAL.fld pl7A [] pl7M 8 _ 32 (by kernel_rfl) J J J J J J (by decide) ?_;refine DAL.one 9 (by kernel_rfl) J ?_;refine Q5 J J J J J J J J (zz ?_)
     refine DAL.nil (by kernel_rfl) (Q0 ?_)
     exact Xt [0,1,2] (by kernel_rfl)
    ·
     refine zx (q_sslice J J J J J (by omega)) J (zz ?_)
     refine DAL.two 1 6 (by kernel_rfl) J J ?_ ?_
     ·
      refine z3 J (zz (DAL.one 6 (by kernel_rfl) J (M1 (Yt J J J J J J) J J (zz (DAL.one 7 (by kernel_rfl) J ?_)))));refine Xp J J J J J J J J J J (by omega) (by omega) ?_;refine zz ?_;refine DAL.fld pl7A [] pl7M 8 _ 32 (by kernel_rfl) J J J J J J (by decide) ?_;refine DAL.one 9 (by kernel_rfl) J ?_;refine Q5 J J J J J J J J (zz ?_)
      refine DAL.nil (by kernel_rfl) (Q0 ?_)
      exact Xt [0,1,2] (by kernel_rfl)
     ·
      refine M1 (Yt J J J J J J) J J (zz (DAL.one 1 (by kernel_rfl) J (z3 J (zz (DAL.one 7 (by kernel_rfl) J ?_)))));refine Xp J J J J J J J J J J (by omega) (by omega) ?_;refine zz ?_;refine DAL.fld pl7A [] pl7M 8 _ 32 (by kernel_rfl) J J J J J J (by decide) ?_;refine DAL.one 9 (by kernel_rfl) J ?_;refine Q5 J J J J J J J J (zz ?_)
      refine DAL.nil (by kernel_rfl) (Q0 ?_)
      exact Xt [0,1,2] (by kernel_rfl)
   refine Qc (z0 J (z7 J (by omega) (z1 J (Qe (Q1 (Q0 (Qc (z0 J (z7 J (by omega) (z1 J (Qe ?_)))))))))));refine Q0 ?_
   exact ⟨(s.size + 1) - (k + 1),by omega,(fun k : Nat => (⟨_,[(0,S s),(2,.o (.c (.ptr 0 0))),(4,.o (.c (.ptr 1 0))),(5,I (splitG s k).2),(6,I k)],[.box [nilV],.box [.ref 2],.row 1 (els (splitG s k).1)]⟩ : St)) (k + 1),⟨k + 1,by omega,trivial,J⟩,Xu [0,1,2] (by decide) J ((by rw [hn,X5]; rfl)) (.c J (.c J (.c J (.cons (Xo hm.symm) (.c J (.nil))))))⟩
  ·have f1 : decide ((k : Int) = s.size) = false := decide_eq_false (by omega)
   by_cases h2 : byteAt s k = 47
   ·have f2 : decide (byteAt s k = 47) = true := decide_eq_true h2
    have hn := splitG_hit (s := s) (k := k) (.inr h2)
    have hm := congrArg (fun p => ((p.2 : Nat) : Int)) hn
    refine Qd (zy (z0 J (z0 J (zx (Y4 J J J) J (z9b J (by assumption) (zz (Qm J (Qh (Q0 ?_)))))))));refine Qd (Qk (zy (z0 J (z0 J (zx (Y4 J J J) J (z9e J (by assumption) (z0 J (z5 J (z0 J (z5 J ?_))))))))));refine z0 J (z5 J (zx (q_byteK J J J J (by assumption) (by omega)) J (z5 J ?_)));refine zx (Qv (b := true) J J J J (by decide)) J ?_;refine zpF J (zz (Qm J (Qd ?_)))
    refine A_seqW ⟨40,[(0,S s),(2,.o (.c (.ptr 0 0))),(4,.o (.c (.ptr 1 0))),(5,I (splitG s k).2),(6,I k)],[.box [nilV],.box [.ref 2],.row 1 (els (splitG s k).1 ++ els [s.extract (splitG s k).2 k])]⟩ ?_ ?_
    ·
     refine A_drawn (f := 10) J J ?_;refine DAL.fld pl7A [] pl7M 0 _ 24 (by kernel_rfl) J J J J J J (by decide) ?_;refine DAL.mv pl7A [] pl7M 2 _ 26 (by kernel_rfl) J J J J ?_;refine DAL.mv pl7A [] pl7M 3 _ 27 (by kernel_rfl) J J J J ?_;refine DAL.mv pl7A [] pl7M 4 _ 28 (by kernel_rfl) J J J J ?_
     refine DAL.two 1 5 (by kernel_rfl) J J ?_ ?_
     ·
      refine z3 J (zz (DAL.one 5 (by kernel_rfl) J (zx (q_sslice J J J J J (by omega)) J (zz (DAL.one 6 (by kernel_rfl) J (M1 (Yt J J J J J J) J J (zz (DAL.one 7 (by kernel_rfl) J ?_))))))));refine Xp J J J J J J J J J J (by omega) (by omega) ?_;refine zz ?_;refine DAL.fld pl7A [] pl7M 8 _ 32 (by kernel_rfl) J J J J J J (by decide) ?_;refine DAL.one 9 (by kernel_rfl) J ?_;refine Q5 J J J J J J J J (zz ?_)
      refine DAL.nil (by kernel_rfl) (Q0 ?_)
      exact Xt [0,1,2] (by kernel_rfl)
     ·
      refine zx (q_sslice J J J J J (by omega)) J (zz ?_)
      refine DAL.two 1 6 (by kernel_rfl) J J ?_ ?_
      ·
       refine z3 J (zz (DAL.one 6 (by kernel_rfl) J (M1 (Yt J J J J J J) J J (zz (DAL.one 7 (by kernel_rfl) J ?_)))));refine Xp J J J J J J J J J J (by omega) (by omega) ?_;refine zz ?_;refine DAL.fld pl7A [] pl7M 8 _ 32 (by kernel_rfl) J J J J J J (by decide) ?_;refine DAL.one 9 (by kernel_rfl) J ?_;refine Q5 J J J J J J J J (zz ?_)
       refine DAL.nil (by kernel_rfl) (Q0 ?_)
       exact Xt [0,1,2] (by kernel_rfl)
      ·
       refine M1 (Yt J J J J J J) J J (zz (DAL.one 1 (by kernel_rfl) J (z3 J (zz (DAL.one 7 (by kernel_rfl) J ?_)))));refine Xp J J J J J J J J J J (by omega) (by omega) ?_;refine zz ?_;refine DAL.fld pl7A [] pl7M 8 _ 32 (by kernel_rfl) J J J J J J (by decide) ?_;refine DAL.one 9 (by kernel_rfl) J ?_;refine Q5 J J J J J J J J (zz ?_)
       refine DAL.nil (by kernel_rfl) (Q0 ?_)
       exact Xt [0,1,2] (by kernel_rfl)
    refine Qc (z0 J (z7 J (by omega) (z1 J (Qe (Q1 (Q0 (Qc (z0 J (z7 J (by omega) (z1 J (Qe ?_)))))))))));refine Q0 ?_
    exact ⟨(s.size + 1) - (k + 1),by omega,(fun k : Nat => (⟨_,[(0,S s),(2,.o (.c (.ptr 0 0))),(4,.o (.c (.ptr 1 0))),(5,I (splitG s k).2),(6,I k)],[.box [nilV],.box [.ref 2],.row 1 (els (splitG s k).1)]⟩ : St)) (k + 1),⟨k + 1,by omega,trivial,J⟩,Xu [0,1,2] (by decide) J ((by rw [hn,X5]; rfl)) (.c J (.c J (.c J (.cons (Xo hm.symm) (.c J (.nil))))))⟩
   ·have f2 : decide (byteAt s k = 47) = false := decide_eq_false h2
    have hn := splitG_no (s := s) (k := k) (by rintro (h | h); exact h1 h; exact h2 h)
    have hm := congrArg (fun p => ((p.2 : Nat) : Int)) hn
    refine Qd (zy (z0 J (z0 J (zx (Y4 J J J) J (z9b J (by assumption) (zz (Qm J (Qh (Q0 ?_)))))))));refine Qd (Qk (zy (z0 J (z0 J (zx (Y4 J J J) J (z9e J (by assumption) (z0 J (z5 J (z0 J (z5 J ?_))))))))));refine z0 J (z5 J (zx (q_byte J J J J (by omega)) J (z5 J (z9e J (by assumption) (zpF J (zz (Ql J (Qh (Q1 (Q0 ?_))))))))));refine Qc (z0 J (z7 J (by omega) (z1 J (zz ?_))))
    exact ⟨(s.size + 1) - (k + 1),by omega,(fun k : Nat => (⟨_,[(0,S s),(2,.o (.c (.ptr 0 0))),(4,.o (.c (.ptr 1 0))),(5,I (splitG s k).2),(6,I k)],[.box [nilV],.box [.ref 2],.row 1 (els (splitG s k).1)]⟩ : St)) (k + 1),⟨k + 1,by omega,trivial,J⟩,Xu [0,1,2] (by decide) J ((by rw [hn]; rfl)) (.c J (.c J (.c J (.cons (Xo hm.symm) (.c J (.nil))))))⟩
 ·have f0 : decide ((k : Int) ≤ s.size) = false := decide_eq_false (by omega)
  have hk : k = s.size + 1 := by omega
  subst hk
  refine Qd (zy (z0 J (z0 J (zx (Y4 J J J) J (z9b J (by assumption) (zz (Ql J (Q9 (T_x ?_)))))))));refine T_x (Xj (Q0 (Qd (zy (z4 J J J ?_)))));refine zx (Qj J J (co) J) J ?_;refine zn J (zz (Ql J (Qh (Q0 (zy (z4 J J J ?_))))));refine Qy J J J J J J J J J (z1 J (zz (Xa (F_r ?_))))
  exact Xk J J J J J (Xs [2] (by decide) J J J)
end
section
open Go.RowKit

/-! ### The levels of a draw -/
def lvS : List ByteArray := [⟨#[35,35,35,35,35,35,47,35,49,46,111,50,35,47,35,46,35,35,46,35,47,35,111,46,46,111,35,47,35,35,35,35,35,35]⟩,⟨#[35,35,35,35,35,35,35,35,35,35,47,35,49,46,46,111,46,46,46,50,35,47,35,46,46,35,35,46,35,35,46,35,47,35,111,46,46,51,46,46,111,52,35,47,35,35,35,35,35,35,35,35,35,35]⟩,⟨#[35,35,35,35,47,35,46,46,35,47,35,35,35,35]⟩,⟨#[35,35,35,35,35,35,35,35,47,35,49,46,50,46,111,111,35,47,35,35,35,35,35,35,35,35]⟩,⟨#[35,35,35,35,35,35,35,47,35,46,46,111,46,46,35,47,35,46,35,35,35,46,35,47,35,46,49,46,50,46,35,47,35,35,35,35,35,35,35]⟩]
def lvT (i : Nat) : ByteArray := lvS.getD i ⟨#[]⟩
theorem lv_ok : ∀ i,i < 5 → levelOk (parseL (lvT i)) = true ∧ (lvT i).size ≤ 1000 := by
 intro i hi
 match i,hi with
 | 0,_ => exact ⟨by kernel_rfl,by decide⟩
 | 1,_ => exact ⟨by kernel_rfl,by decide⟩
 | 2,_ => exact ⟨by kernel_rfl,by decide⟩
 | 3,_ => exact ⟨by kernel_rfl,by decide⟩
 | 4,_ => exact ⟨by kernel_rfl,by decide⟩
theorem S_l02Levels : Con Tryd.prog 101 [] [] [.row 1 (els lvS)] (.o (.c (.ref 0))) := by
 refine Con.of Tryd.func101 J Tryd.ntmps101 J (fun E => ?_)
 refine zy (z1 J (zz (zy (M1 (Yt J J J J J J) J J (z1 J (zz (Xa ?_)))))));refine F_r ?_
 exact Xl J J (W_pre (Wk.sbrow (q := 0) J J (Nat.le_of_ble_eq_true J)) (Xs [0] (by decide) J J J))
def levelC (b : List UInt8) (c : Cu) : TLevel × Cu := (parseL (lvT (belowC b 5 c).1.toNat),(belowC b 5 c).2)
theorem S_l02Level (b : List UInt8) (c : Cu) (hb : b.length ≤ 1048576) (hc : c.i ≤ b.length) : Con Tryd.prog 63 [cub b c,.gh 0 (.c (.ptr 0 0))] [.c (.ptr 0 0)] [cub b (levelC b c).2,.gh 0 (.c (.ptr 0 0)),.row 1 (els (levelC b c).1.Rows)] (.o (.ag [.ref 2])) := by
 have k1 := Xr b 5 c hb hc (by omega)
 have r1 := Xy (b := b) (n := 5) (c := c) (by omega)
 have hl := lv_ok (belowC b 5 c).1.toNat (by omega)
 have k2 := S_ParseLevel (lvT (belowC b 5 c).1.toNat) hl.2 hl.1
 have k3 := S_l02Levels
 rw [levelC]
 generalize belowC b 5 c = p1 at k1 r1 hl k2
 obtain ⟨x1,c1⟩ := p1
 simp only at k1 r1 hl k2
 obtain ⟨i,rfl⟩ : ∃ i : Nat,x1 = i := ⟨x1.toNat,by omega⟩
 have hi : i < lvS.length := by show i < 5; omega
 have he : (els lvS)[(i : Int).toNat]? = some [.v (.string (lvT i))] := by
  rw [Int.toNat_natCast,List.getElem?_map,List.getElem?_eq_getElem hi,lvT,List.getD_eq_getElem?_getD,List.getElem?_eq_getElem hi]; rfl
 rw [Int.toNat_natCast] at k2
 have hll : (els lvS).length = 5 := rfl
 refine Con.of Tryd.func63 J Tryd.ntmps63 J (fun E => ?_)
 refine zy (M1 (Qx J J J) J J (zz (zy ?_)));refine M1 (Yv J J (k3) J J J) J J ?_;refine z0 J ?_;refine Xq (lo := [_]) (gs := [(0,.c (.ptr 0 0))]) (lo' := [_]) (new := []) [0] [(0,0,.ptr 0 0)] (k1) J J J J J J J J J J J J J J J J J ?_;refine zx (Q3 J J J J J (by omega) (by omega)) J (zx (Q7 J J J J (by assumption) J) J ?_);refine M1 (Yv J J (k2) J J J) J J ?_;refine zx (Q8 J J J) J (ze J (ze J (M1 (Qx J J J) J J ?_)));refine Qy J J J J J J J J J (z1 J (zz (zy (z4 J J J ?_))));refine Qy J J J J J J J J J (zz (Xa (F_r ?_)))
 exact E_cell J J J J (Xs [0,1,4] (by decide) J J J)
/-! ### Plays -/
def lvD (b : List UInt8) : TLevel × Cu := levelC b (newCu b)
def nD (b : List UInt8) : Int × Cu := belowC b 4 (lvD b).2
def sdD (b : List UInt8) : Int × Cu := belowC b 65536 (nD b).2
def plN (b : List UInt8) : Nat := (nD b).1.toNat + 1
def plRows (b : List UInt8) : List (List Int) := (drawRows b (plN b) 24 (sdD b).2).1
theorem splitG_ok {s : ByteArray} (h : s.size ≤ 1000) : Enc.gd (parseL s) ∧ (parseL s).Rows.length ≤ 1001 := by
 have h1 := splitG_len (s := s) (s.size + 1)
 exact ⟨⟨by show (splitG s (s.size + 1)).1.length ≤ _; omega,fun r hr => by have := splitG_size (s := s) (s.size + 1) r hr; show r.size ≤ _; omega⟩,by show (splitG s (s.size + 1)).1.length ≤ _; omega⟩
theorem lvD_ok (b : List UInt8) : levelOk (lvD b).1 = true ∧ Enc.gd (lvD b).1 ∧ (lvD b).1.Rows.length ≤ 1001 ∧ (lvD b).2.i ≤ b.length := by
 have r := Xy (b := b) (n := 5) (c := newCu b) (by omega)
 have hl := lv_ok (belowC b 5 (newCu b)).1.toNat (by omega)
 have h2 := splitG_ok hl.2
 exact ⟨hl.1,h2.1,h2.2,Xx (Nat.zero_le _)⟩
theorem nD_rng (b : List UInt8) : (0 ≤ (nD b).1 ∧ (nD b).1 < 4) ∧ (nD b).2.i ≤ b.length := ⟨Xy (by omega),Xx (lvD_ok b).2.2.2⟩
theorem sdD_rng (b : List UInt8) : (0 ≤ (sdD b).1 ∧ (sdD b).1 < 65536) ∧ (sdD b).2.i ≤ b.length := ⟨Xy (by omega),Xx (nD_rng b).2⟩
def dp4A : List (List Nat) := [[],[],[],[2],[0,1,2,3],[0,1,2,3,4],[0,1,2,3,4,5],[0,1,2,3,4,5],[],[0,1,2,3,4,5,6,8],[0,1,2,3,4,5,6,7,8,9]]
def dp4M : List (List Nat) := [[17,18,19,20,21,16,22,23,7,8],[17,18,19,20,21,16,22,23,7,8],[17,18,19,20,21,16,22,23,7,8],[17,18,19,20,21,16,22,23,7,8],[17,18,19,20,21,16,22,23,7,8],[17,18,19,20,21,16,22,23,7,8],[17,18,19,20,21,16,22,23,7,8],[17,18,19,20,21,16,22,23,7,8],[17,18,19,20,21,16,22,23,7,8],[17,18,19,20,21,16,22,23,7,8],[17,18,19,20,21,16,22,23,7,8]]
def dp5A : List (List Nat) := [[],[],[],[1,2],[0,1,2,3],[0,1,2,3,4]]
def dp5M : List (List Nat) := [[24,25,26,27,3],[24,25,26,27,3],[24,25,26,27,3],[24,25,26,27,3],[24,25,26,27,3],[24,25,26,27,3]]
theorem S_DrawPlay (b : List UInt8) (hb : b.length ≤ 1048576) : Con Tryd.prog 25 [] [al b] (ownO (Enc.e (newWorld (lvD b).1 (plN b) (sdD b).1))) (.tu [.ag (ownV 0 (Enc.e (newWorld (lvD b).1 (plN b) (sdD b).1))),.c (.rd [] (sl (plRows b)))]) := by
 have k1 := S_l01New b hb
 have k2 := S_l02Level b (newCu b) hb (Nat.zero_le _)
 have hl := lvD_ok b
 have r3 := nD_rng b
 have r4 := sdD_rng b
 have k3 := Xr b 4 (lvD b).2 hb hl.2.2.2 (by omega)
 have k4 := Xr b 65536 (nD b).2 hb r3.2 (by omega)
 have hn : 1 ≤ plN b ∧ plN b ≤ 4 := by unfold plN; omega
 have k5 := S_NewWorld (lvD b).1 (plN b) (sdD b).1 hl.2.1 (by omega) hl.1 hn (Yi.2 (by omega))
 have k6 := S_l02Rows b (plN b) 24 (sdD b).2 hb r4.2 (by omega) (by omega)
 have hnn : 1 + (nD b).1 = ((plN b : Nat) : Int) := by unfold plN; omega
 change Con _ _ _ _ [cub b (lvD b).2,.gh 0 (.c (.ptr 0 0)),.row 1 (els (lvD b).1.Rows)] _ at k2
 change Con _ _ _ _ [cub b (nD b).2,.gh 0 (.c (.ptr 0 0))] (I (nD b).1) at k3
 change Con _ _ _ _ [cub b (sdD b).2,.gh 0 (.c (.ptr 0 0))] (I (sdD b).1) at k4
 change Con _ _ _ _ _ (.o (.c (.rd [] (sl (plRows b))))) at k6
 generalize (drawRows b (plN b) 24 (sdD b).2).2 = c5 at k6
 generalize plRows b = rows at k6 ⊢
 generalize lvD b = p1 at k2 k3 k5 hl ⊢
 generalize nD b = p2 at k3 k4 r3 hnn
 generalize sdD b = p3 at k4 k5 k6 r4 ⊢
 generalize plN b = n at k5 k6 hn hnn ⊢
 obtain ⟨l,c2⟩ := p1
 obtain ⟨x,c3⟩ := p2
 obtain ⟨seed,c4⟩ := p3
 simp only at k2 k3 k4 k5 k6 hl r3 r4 hnn ⊢
 obtain ⟨W,hW⟩ : ∃ W,W = newWorld l n seed := ⟨_,rfl⟩
 rw [← hW] at k5 ⊢
 refine Con.of Tryd.func25 J Tryd.ntmps25 J (fun E => ?_)
 refine zy (M1 (Qx J J J) J J (z1 J (zz (zy (z0 J ?_)))));refine Xq (lo := []) (gs := []) (lo' := []) (new := [_]) [] [] (k1) J J J J J J J J J J J J J J J J J ?_;refine z1 J (zz (zy (z0 J ?_)));refine AL.weak (st' := (⟨_,[(2,.o (.c (.ptr 0 0))),(4,.o (.c (.ptr 1 0))),(11,.o (.c (.ptr 1 0)))],[.box [nilV,jn 0,jn 0,nilV,nilV],cub b (newCu b)]⟩ : St)) (Xt [0,1] (by kernel_rfl)) ?_;refine Xq (lo := [_]) (gs := [(0,.c (.ptr 0 0))]) (lo' := [_]) (new := [_]) [1] [(0,0,.ptr 0 0)] (k2) J J J J J J J J J J J J J J J J J ?_;refine M1 (Qx J J J) J J ?_;refine Qy J J J J J J J J J (zz (zy (z0 J ?_)));refine AL.weak (st' := (⟨_,[(2,.o (.c (.ptr 0 0))),(4,.o (.c (.ptr 1 0))),(5,.o (.c (.ptr 3 0))),(13,.o (.c (.ptr 1 0)))],[.box [nilV,jn 0,jn 0,nilV,nilV],cub b c2,.row 1 (els l.Rows),.box [.ref 2]]⟩ : St)) (Xt [0,1,2,3] (by kernel_rfl)) ?_;refine Xq (lo := [_]) (gs := [(0,.c (.ptr 0 0))]) (lo' := [_]) (new := []) [1] [(0,0,.ptr 0 0)] (k3) J J J J J J J J J J J J J J J J J ?_;refine z7 J (by omega) (z1 J (zz (Qd ?_)))
 refine AWP.pre (st' := (⟨_,[(2,.o (.c (.ptr 0 0))),(4,.o (.c (.ptr 1 0))),(5,.o (.c (.ptr 3 0))),(6,I n)],[.box [nilV,jn 0,jn 0,nilV,nilV],cub b c3,.row 1 (els l.Rows),.box [.ref 2]]⟩ : St)) ?_ (Xu [0,1,2,3] (by decide) J (by kernel_rfl) (.c J (.c J (.c J (.cons (Xo hnn) (.nil))))))
 refine A_seqW ⟨28,[(2,.o (.c (.ptr 0 0))),(4,.o (.c (.ptr 1 0))),(6,I n),(7,.o (.c (.ptr 2 0)))],[.box [nilV,jn 0,jn 0,nilV,nilV],cub b c4,.box [.ref 3,jn W.Tick,jn W.Seed,.ref 4,.ref 5],.row 1 (els W.Level.Rows),.row 1 (els W.Scores),.row 9 (els W.Bodies)]⟩ ?_ ?_
 ·
  refine A_drawn (f := 11) J J ?_;refine DAL.mv dp4A [] dp4M 1 _ 18 (by kernel_rfl) J J J J ?_;refine DAL.mv dp4A [] dp4M 2 _ 19 (by kernel_rfl) J J J J ?_
  refine DAL.three 0 3 8 (by kernel_rfl) J J J ?_ ?_ ?_
  ·
   refine z4 J J J (zz ?_)
   refine DAL.two 3 8 (by kernel_rfl) J J ?_ ?_
   ·
    refine Xq (lo := [_]) (gs := [(0,.c (.ptr 0 0))]) (lo' := [_]) (new := []) [1] [(0,0,.ptr 0 0)] (k4) J J J J J J J J J J J J J J J J J ?_;refine zz ?_
    refine DAL.two 4 8 (by kernel_rfl) J J ?_ ?_
    ·
     refine M1 (Yv J J (k5) J J J) J J ?_;refine zz ?_;refine DAL.mv dp4A [] dp4M 5 _ 16 (by kernel_rfl) J J J J ?_;refine DAL.ext dp4A [] dp4M 6 _ 22 (by kernel_rfl) J J J J J J ?_;refine DAL.ext dp4A [] dp4M 7 _ 23 (by kernel_rfl) J J J J J J ?_;refine DAL.one 8 (by kernel_rfl) J (M1 (Qx J J J) J J (zz (DAL.one 9 (by kernel_rfl) J ?_)));refine Qy J J J J J J J J J (zz (DAL.one 10 (by kernel_rfl) J (z1 J (zz ?_))))
     refine DAL.nil (by kernel_rfl) (Q0 ?_)
     exact Xt [0,1,7,4,5,6] (by kernel_rfl)
    ·
     refine M1 (Qx J J J) J J (zz (DAL.one 4 (by kernel_rfl) J ?_));refine M1 (Yv J J (k5) J J J) J J ?_;refine zz ?_;refine DAL.mv dp4A [] dp4M 5 _ 16 (by kernel_rfl) J J J J ?_;refine DAL.ext dp4A [] dp4M 6 _ 22 (by kernel_rfl) J J J J J J ?_;refine DAL.ext dp4A [] dp4M 7 _ 23 (by kernel_rfl) J J J J J J ?_;refine DAL.one 9 (by kernel_rfl) J ?_;refine Qy J J J J J J J J J (zz (DAL.one 10 (by kernel_rfl) J (z1 J (zz ?_))))
     refine DAL.nil (by kernel_rfl) (Q0 ?_)
     exact Xt [0,1,4,5,6,7] (by kernel_rfl)
   ·
    refine M1 (Qx J J J) J J (zz (DAL.one 3 (by kernel_rfl) J ?_));refine Xq (lo := [_]) (gs := [(0,.c (.ptr 0 0))]) (lo' := [_]) (new := []) [1] [(0,0,.ptr 0 0)] (k4) J J J J J J J J J J J J J J J J J ?_;refine zz (DAL.one 4 (by kernel_rfl) J ?_);refine M1 (Yv J J (k5) J J J) J J ?_;refine zz ?_;refine DAL.mv dp4A [] dp4M 5 _ 16 (by kernel_rfl) J J J J ?_;refine DAL.ext dp4A [] dp4M 6 _ 22 (by kernel_rfl) J J J J J J ?_;refine DAL.ext dp4A [] dp4M 7 _ 23 (by kernel_rfl) J J J J J J ?_;refine DAL.one 9 (by kernel_rfl) J ?_;refine Qy J J J J J J J J J (zz (DAL.one 10 (by kernel_rfl) J (z1 J (zz ?_))))
    refine DAL.nil (by kernel_rfl) (Q0 ?_)
    exact Xt [0,1,4,5,6,7] (by kernel_rfl)
  ·
   refine Xq (lo := [_]) (gs := [(0,.c (.ptr 0 0))]) (lo' := [_]) (new := []) [1] [(0,0,.ptr 0 0)] (k4) J J J J J J J J J J J J J J J J J ?_;refine zz ?_
   refine DAL.two 0 8 (by kernel_rfl) J J ?_ ?_
   ·
    refine z4 J J J (zz ?_)
    refine DAL.two 4 8 (by kernel_rfl) J J ?_ ?_
    ·
     refine M1 (Yv J J (k5) J J J) J J ?_;refine zz ?_;refine DAL.mv dp4A [] dp4M 5 _ 16 (by kernel_rfl) J J J J ?_;refine DAL.ext dp4A [] dp4M 6 _ 22 (by kernel_rfl) J J J J J J ?_;refine DAL.ext dp4A [] dp4M 7 _ 23 (by kernel_rfl) J J J J J J ?_;refine DAL.one 8 (by kernel_rfl) J (M1 (Qx J J J) J J (zz (DAL.one 9 (by kernel_rfl) J ?_)));refine Qy J J J J J J J J J (zz (DAL.one 10 (by kernel_rfl) J (z1 J (zz ?_))))
     refine DAL.nil (by kernel_rfl) (Q0 ?_)
     exact Xt [0,1,7,4,5,6] (by kernel_rfl)
    ·
     refine M1 (Qx J J J) J J (zz (DAL.one 4 (by kernel_rfl) J ?_));refine M1 (Yv J J (k5) J J J) J J ?_;refine zz ?_;refine DAL.mv dp4A [] dp4M 5 _ 16 (by kernel_rfl) J J J J ?_;refine DAL.ext dp4A [] dp4M 6 _ 22 (by kernel_rfl) J J J J J J ?_;refine DAL.ext dp4A [] dp4M 7 _ 23 (by kernel_rfl) J J J J J J ?_;refine DAL.one 9 (by kernel_rfl) J ?_;refine Qy J J J J J J J J J (zz (DAL.one 10 (by kernel_rfl) J (z1 J (zz ?_))))
     refine DAL.nil (by kernel_rfl) (Q0 ?_)
     exact Xt [0,1,4,5,6,7] (by kernel_rfl)
   ·
    refine M1 (Qx J J J) J J (zz (DAL.one 0 (by kernel_rfl) J (z4 J J J (zz (DAL.one 4 (by kernel_rfl) J ?_)))));refine M1 (Yv J J (k5) J J J) J J ?_;refine zz ?_;refine DAL.mv dp4A [] dp4M 5 _ 16 (by kernel_rfl) J J J J ?_;refine DAL.ext dp4A [] dp4M 6 _ 22 (by kernel_rfl) J J J J J J ?_;refine DAL.ext dp4A [] dp4M 7 _ 23 (by kernel_rfl) J J J J J J ?_;refine DAL.one 9 (by kernel_rfl) J ?_;refine Qy J J J J J J J J J (zz (DAL.one 10 (by kernel_rfl) J (z1 J (zz ?_))))
    refine DAL.nil (by kernel_rfl) (Q0 ?_)
    exact Xt [0,1,4,5,6,7] (by kernel_rfl)
  ·
   refine M1 (Qx J J J) J J (zz ?_)
   refine DAL.two 0 3 (by kernel_rfl) J J ?_ ?_
   ·
    refine z4 J J J (zz (DAL.one 3 (by kernel_rfl) J ?_));refine Xq (lo := [_]) (gs := [(0,.c (.ptr 0 0))]) (lo' := [_]) (new := []) [1] [(0,0,.ptr 0 0)] (k4) J J J J J J J J J J J J J J J J J ?_;refine zz (DAL.one 4 (by kernel_rfl) J ?_);refine M1 (Yv J J (k5) J J J) J J ?_;refine zz ?_;refine DAL.mv dp4A [] dp4M 5 _ 16 (by kernel_rfl) J J J J ?_;refine DAL.ext dp4A [] dp4M 6 _ 22 (by kernel_rfl) J J J J J J ?_;refine DAL.ext dp4A [] dp4M 7 _ 23 (by kernel_rfl) J J J J J J ?_;refine DAL.one 9 (by kernel_rfl) J ?_;refine Qy J J J J J J J J J (zz (DAL.one 10 (by kernel_rfl) J (z1 J (zz ?_))))
    refine DAL.nil (by kernel_rfl) (Q0 ?_)
    exact Xt [0,1,4,5,6,7] (by kernel_rfl)
   ·
    refine Xq (lo := [_]) (gs := [(0,.c (.ptr 0 0))]) (lo' := [_]) (new := []) [1] [(0,0,.ptr 0 0)] (k4) J J J J J J J J J J J J J J J J J ?_;refine zz (DAL.one 0 (by kernel_rfl) J (z4 J J J (zz (DAL.one 4 (by kernel_rfl) J ?_))));refine M1 (Yv J J (k5) J J J) J J ?_;refine zz ?_;refine DAL.mv dp4A [] dp4M 5 _ 16 (by kernel_rfl) J J J J ?_;refine DAL.ext dp4A [] dp4M 6 _ 22 (by kernel_rfl) J J J J J J ?_;refine DAL.ext dp4A [] dp4M 7 _ 23 (by kernel_rfl) J J J J J J ?_;refine DAL.one 9 (by kernel_rfl) J ?_;refine Qy J J J J J J J J J (zz (DAL.one 10 (by kernel_rfl) J (z1 J (zz ?_))))
    refine DAL.nil (by kernel_rfl) (Q0 ?_)
    exact Xt [0,1,4,5,6,7] (by kernel_rfl)
 refine Qd ?_
 refine A_seqW ⟨28,[(2,.o (.c (.ptr 0 0))),(3,.o (.c (.rd [] (sl rows))))],[.box [.ref 3,jn W.Tick,jn W.Seed,.ref 4,.ref 5],cub b c5,.box [.ref 3,jn W.Tick,jn W.Seed,.ref 4,.ref 5],.row 1 (els W.Level.Rows),.row 1 (els W.Scores),.row 9 (els W.Bodies)]⟩ ?_ ?_
 ·
  refine A_drawn (f := 6) J J ?_;refine DAL.mv dp5A [] dp5M 1 _ 25 (by kernel_rfl) J J J J ?_;refine DAL.mv dp5A [] dp5M 2 _ 26 (by kernel_rfl) J J J J ?_
  refine DAL.two 0 3 (by kernel_rfl) J J ?_ ?_
  ·
   refine z4 J J J (zz (DAL.one 3 (by kernel_rfl) J ?_));refine Xq (lo := [_]) (gs := [(0,.c (.ptr 0 0))]) (lo' := [_]) (new := []) [1] [(0,0,.ptr 0 0)] (k6) J J J J J J J J J J J J J J J J J ?_;refine zz (DAL.one 4 (by kernel_rfl) J ?_);refine Qy J J J J J J J J J (zz (DAL.one 5 (by kernel_rfl) J (z1 J (zz ?_))))
   refine DAL.nil (by kernel_rfl) (Q0 ?_)
   exact Xt [0,1,2,3,4,5] (by kernel_rfl)
  ·
   refine Xq (lo := [_]) (gs := [(0,.c (.ptr 0 0))]) (lo' := [_]) (new := []) [1] [(0,0,.ptr 0 0)] (k6) J J J J J J J J J J J J J J J J J ?_;refine zz (DAL.one 0 (by kernel_rfl) J (z4 J J J (zz (DAL.one 4 (by kernel_rfl) J ?_))));refine Qy J J J J J J J J J (zz (DAL.one 5 (by kernel_rfl) J (z1 J (zz ?_))))
   refine DAL.nil (by kernel_rfl) (Q0 ?_)
   exact Xt [0,1,2,3,4,5] (by kernel_rfl)
 refine Xa (F_r ?_)
 exact Xk J J J J J (Xs [3,4,5] (by decide) J J J)
end
section
open Go.RowKit

theorem L_big (b : List UInt8) : Con Tryd.prog 17 [] [al b] [] (B (decide (b.length > 1048576))) := by
 have hl := X7 b
 refine Con.of Tryd.func17 J Tryd.ntmps17 J (fun E => ?_)
 refine zy (z1 J (zz (zy (z0 J (zx (Y2 J J J) J (zx (q_gtr J J J J) J (z1 J (Qe ?_))))))));refine Q0 (Xa (F_r ?_))
 exact Xl J J (Xs [] (by decide) J J (B_eq (by rw [hl]; exact decide_eq_decide.2 (by omega))))
def atM (b : List UInt8) (i : Int) : Int := if b.length = 0 then 0 else ((b.getD ((i * 5 + 1) % (b.length : Int)).toNat 0).toNat : Int)
theorem atM_rng (b : List UInt8) (i : Int) : 0 ≤ atM b i ∧ atM b i ≤ 255 := by
 unfold atM
 split
 ·omega
 ·have := (b.getD ((i * 5 + 1) % (b.length : Int)).toNat 0).toNat_lt; omega
theorem L_at (b : List UInt8) (i : Int) (hi : 0 ≤ i ∧ i ≤ 1000000) (hb : b.length ≤ 1048576) : Con Tryd.prog 18 [] [al b,ai i] [] (I (atM b i)) := by
 have hl := X7 b
 by_cases h0 : b.length = 0
 ·have f0 : decide (((els b).length : Int) = 0) = true := decide_eq_true (by omega)
  rw [atM,if_pos h0]
  refine Con.of Tryd.func18 J Tryd.ntmps18 J (fun E => ?_)
  refine zy (z1 J (zz (Qd (zy (z0 J (zx (Y2 J J J) J (z9e J (by assumption) (Qe ?_))))))));refine Q0 (Qm J (zy (z1 J (zz (Xa (T_r (F_r ?_)))))))
  exact Xl J J (Xs [] (by decide) J J J)
 ·have f0 : decide (((els b).length : Int) = 0) = false := decide_eq_false (by omega)
  have hm : 0 ≤ (i * 5 + 1) % ((els b).length : Int) ∧ (i * 5 + 1) % ((els b).length : Int) < ((els b).length : Int) := ⟨Int.emod_nonneg _ (by omega),Int.emod_lt_of_pos _ (by omega)⟩
  rw [atM,if_neg h0]
  rw [hl] at hm
  have hk : ((i * 5 + 1) % (b.length : Int)).toNat < b.length := by omega
  have hy : b[((i * 5 + 1) % (b.length : Int)).toNat]? = some (b.getD ((i * 5 + 1) % (b.length : Int)).toNat 0) := by rw [List.getD_eq_getElem?_getD,List.getElem?_eq_getElem hk]; rfl
  have he := byte_at hy
  rw [Int.toNat_natCast,← hl] at he
  rw [← hl] at hm ⊢
  generalize b.getD ((i * 5 + 1) % ((els b).length : Int)).toNat 0 = y at he ⊢
  have hy1 : (y.toNat : Int) ≤ 255 := by have := y.toNat_lt; omega
  have hy0 : 0 ≤ (y.toNat : Int) := by omega
  refine Con.of Tryd.func18 J Tryd.ntmps18 J (fun E => ?_)
  refine zy (z1 J (zz (Qd (zy (z0 J (zx (Y2 J J J) J (z9e J (by assumption) (Qe ?_))))))));refine Q0 (Ql J (Qh (Q0 (zy (z0 J (z0 J (zx (Y8 J J J J (by omega)) J (z7 J (by omega) (z0 J (zx (Y2 J J J) J ?_))))))))));refine zx (q_rem J J J J (by omega)) J (zx (Q2 J J J J (by omega) (by assumption) J) J (zx (Y6 J J J J) J (zx (Yw J J J J (Zm (by omega))) J (z1 J (zz (Xa (F_r ?_)))))))
  exact Xl J J (Xs [] (by decide) J J J)
theorem plRows_ok (b : List UInt8) : (plRows b).length ≤ 96 ∧ ∀ r ∈ plRows b,r.length = plN b ∧ ∀ x ∈ r,0 ≤ x ∧ x ≤ 15 := by
 have h1 := Xy (b := b) (n := 24) (c := (sdD b).2) (by omega)
 have h2 := rowsC_len (b := b) (n := plN b) (c := (belowC b 24 (sdD b).2).2) (belowC b 24 (sdD b).2).1.toNat
 refine ⟨?_,fun r hr => rowsC_all _ r hr⟩
 show (rowsC b (plN b) _ _).1.length ≤ 96
 omega
theorem play_rd (b : List UInt8) {e : Nat} (he : 1 ≤ e ∧ e ≤ 100) : RD (lvD b).1 (plN b) (sdD b).1 e (plRows b) := by
 have hl := lvD_ok b
 have hn := nD_rng b
 have hs := sdD_rng b
 have hr := plRows_ok b
 refine ⟨hl.1,hl.2.1,by omega,by unfold plN; omega,Yi.2 (by omega),he,by omega,fun r hm => ?_⟩
 obtain ⟨h1,h2⟩ := hr.2 r hm
 have h3 : inOk r = true := List.all_eq_true.2 fun x hx => Yi.2 (h2 x hx)
 simp only [rowOk,h1,h3,Bool.and_true,decide_eq_true_eq,Bool.and_eq_true,and_true]
theorem gd_rows {rows : List (List Int)} {n : Nat} (hL : rows.length ≤ 1000) (hn : n ≤ 1000) (h : ∀ r ∈ rows,r.length = n ∧ ∀ x ∈ r,0 ≤ x ∧ x ≤ 15) : Enc.gd rows := by
 refine ⟨by omega,fun r hr => ?_⟩
 obtain ⟨h1,h2⟩ := h r hr
 exact ⟨by omega,fun x hx => by have := h2 x hx; exact ⟨by omega,by omega⟩⟩
/-! ### Lockstep worlds -/
section
variable {l : TLevel} {n : Nat} {seed : Int} {e : Nat} {rows : List (List Int)}
theorem lock_run {t u : Nat} (h : t ≤ u) : runM (lockW l n seed rows t) ((rows.take u).drop t) = lockW l n seed rows u := by
 rw [lockW,lockW,← runM_app,show rows.take t = (rows.take u).take t by rw [List.take_take,Nat.min_eq_left h],List.take_append_drop]
theorem lock_from (t : Nat) : runM (lockW l n seed rows 0) (rows.take t) = lockW l n seed rows t := by
 have := lock_run (l := l) (n := n) (seed := seed) (rows := rows) (Nat.zero_le t)
 rwa [List.drop_zero] at this
end
end
end Go.Proofs.YtcjclaoogdblbaaDoor
