/-
  Random numbers, meeting bodies, shots and directions, in the program and in the reference.
  Conditions: numbers in their ranges.
  Steering and moving a body, in the program and in the reference.
  Conditions: a valid body in a valid level.
-/
import Derived.Test.YtbfhboakafjjgaaGreatDDReplRowk13
import Derived.Test.YtbfhboakafjjgaaGreatDDReplRowk23
import Derived.Test.YtbfhboakafjjgaaGreatDDReplRowk24
set_option linter.unusedSimpArgs false
set_option linter.unusedVariables false
set_option maxRecDepth 8000
set_option maxHeartbeats 8000000
namespace Go.Proofs.YtbfhboakafjjgaaGreat
section
open Go.RowKit

theorem I_NextRandom (s : Int) (h : 0 ≤ s ∧ s ≤ 65535) : Con Tryz.prog 128 [] [ai s] [] (I (nextR s)) := by
 have f1 : decide (s < 0) = false := decide_eq_false (by omega)
 have f2 : decide (65535 < s) = false := decide_eq_false (by omega)
 refine Con.of Tryz.func128 J Tryz.ntmps128 J (fun E => ?_)
 refine zy (z1 J (zz (Qd (zy (z0 J (z9a J (by assumption) (z0 J (z5 J ?_))))))));refine z0 J (z5 J (z9c J (by assumption) (zpF J (zz (Ql J (Qh (Q0 (zy (z0 J ?_)))))))));refine zx (Z3 J J J J (by omega)) J (z7 J (by omega) (zx (Z6 J J J J (by omega)) J (z1 J (zz (Xa (F_r ?_))))))
 exact Xp J J (X5 [] (by decide) J J (Xx (by rw [nextR,if_pos h])))
theorem and_64k (n : Int) (h : 0 ≤ n) : ((n.toNat &&& (65535 : Int).toNat : Nat) : Int) = n % 65536 := by
 have := Nat.and_two_pow_sub_one_eq_mod n.toNat 16
 rw [show (65535 : Int).toNat = 2 ^ 16 - 1 from rfl,this]
 omega
theorem S_NextRandom (s : Int) (h : 0 ≤ s ∧ s ≤ 65535) : Con Tryz.prog 101 [] [ai s] [] (I (nextR s)) := by
 have hc := S_in s 0 65535
 rw [Y3.2 h] at hc
 refine Con.of Tryz.func101 J Tryz.ntmps101 J (fun E => ?_)
 refine zy (z1 J (zz (Qd (zy (z0 J ?_)))));refine zx (Qj J J (hc) J) J ?_;refine zn J (zz (Ql J (Qh (Q0 (zy (z0 J (zx (Z3 J J J J (by omega)) J (z7 J (by omega) (zx (Zi J J J J (by omega)) J ?_)))))))));refine z1 J (zz (Xa (F_r ?_)))
 exact Xp J J (X5 [] (by decide) J J (Xx (by rw [nextR,if_pos h,and_64k _ (by omega)])))
theorem I_RandomBelow (s n : Int) (h : 0 ≤ s ∧ s ≤ 65535) (hn : 1 ≤ n ∧ n ≤ 4096) : Con Tryz.prog 130 [] [ai s,ai n] [] (.tu [.c (jn (nextR s)),.c (jn (belowR s n))]) := by
 have f1 : decide (s < 0) = false := decide_eq_false (by omega)
 have f2 : decide (65535 < s) = false := decide_eq_false (by omega)
 have f3 : decide (n < 1) = false := decide_eq_false (by omega)
 have f4 : decide (4096 < n) = false := decide_eq_false (by omega)
 have hc := I_NextRandom s h
 have hr := Za s
 refine Con.of Tryz.func130 J Tryz.ntmps130 J (fun E => ?_)
 refine zy (z1 J (z1 J (zz (Qd (zy (z0 J (z9a J (by assumption) (z0 J ?_))))))));refine z5 J (z0 J (z5 J (z9c J (by assumption) (zpF J (z0 J (z5 J (z0 J (z5 J (z9a J (by assumption) (zpF J (z0 J ?_)))))))))));refine z5 J (z0 J (z5 J (z9c J (by assumption) (zpF J (zz (Ql J (Qh (Q0 (zy ?_)))))))));refine z0 J ?_;refine zx (Qj J J (hc) J) J ?_;refine z1 J (zz (Qd (Xi u8_13 [[],[],[24],[],[24,25,26],[23],[4,23,24,25,26,27]] [[24,25,26,27],[4,23,26],[4,23,26],[4,23,24,25],[4,23],[24,25,26,27],[]] J (DR.s (Qa J J J) J J (DR.s (Qa J J J) J J (DR.s (q_quo J J J J (by omega)) J J (DR.s (Qa J J J) J J (DR.s (Z6 J J J J (by omega)) J J (DR.s (Qb J J J) J J (DR.s (Qb J J J) J J ?_))))))))));refine DR.stop (by kernel_rfl) (by kernel_rfl) (zz (Xa (F_r ?_)))
 exact Xq J J J (X5 [] (by decide) J J J)
theorem S_RandomBelow (s n : Int) (h : 0 ≤ s ∧ s ≤ 65535) (hn : 1 ≤ n ∧ n ≤ 4096) : Con Tryz.prog 103 [] [ai s,ai n] [] (.tu [.c (jn (nextR s)),.c (jn (belowR s n))]) := by
 have c1 := S_in s 0 65535
 have c2 := S_in n 1 4096
 rw [Y3.2 h] at c1
 rw [Y3.2 hn] at c2
 have hc := S_NextRandom s h
 have hr := Za s
 refine Con.of Tryz.func103 J Tryz.ntmps103 J (fun E => ?_)
 refine zy (z1 J (z1 J (zz (Qd (zy (z0 J ?_))))));refine zx (Qj J J (c1) J) J ?_;refine zn J (z0 J (z5 J (z0 J (z5 J ?_))));refine zx (Qj J J (c2) J) J ?_;refine z5 J (zn J (zpF J (zz (Ql J (Qh (Q0 (zy (z0 J ?_))))))));refine zx (Qj J J (hc) J) J ?_;refine z1 J (zz (Qd (Xi u8_13 [[],[],[18],[],[18,19,20],[17],[4,17,18,19,20,21]] [[18,19,20,21],[4,17,20],[4,17,20],[4,17,18,19],[4,17],[18,19,20,21],[]] J (DR.s (Qa J J J) J J (DR.s (Qa J J J) J J (DR.s (q_quo J J J J (by omega)) J J (DR.s (Qa J J J) J J (DR.s (Z6 J J J J (by omega)) J J (DR.s (Qb J J J) J J (DR.s (Qb J J J) J J ?_))))))))));refine DR.stop (by kernel_rfl) (by kernel_rfl) (zz (Xa (F_r ?_)))
 exact Xq J J J (X5 [] (by decide) J J J)
theorem I_ShotOf (b : TBody) (hx : 0 ≤ b.X ∧ b.X ≤ 1000) (hy : 0 ≤ b.Y ∧ b.Y ≤ 1000) (ha : -1 ≤ b.Aim ∧ b.Aim ≤ 1) : Con Tryz.prog 151 [] [ag b] [] (.o (.ag ((Enc.e (shotOf b)).map (V1.rd [])))) := by
 have c1 := Xv b.X 0 1000
 have c2 := Xv b.Y 0 1000
 have c3 := Xv b.Aim (-1) 1
 rw [Y3.2 hx] at c1
 rw [Y3.2 hy] at c2
 rw [Y3.2 ha] at c3
 refine Con.of Tryz.func151 J Tryz.ntmps151 J (fun E => ?_)
 refine zy (M1 (Qq J J J J) J J (M1 (Qx J J J) J J (zz (Qd (zy (z2 J J J (z3 J ?_)))))));refine zx (Qj J J (c1) J) J ?_;refine zn J (z0 J (z5 J (z2 J J J (z5 J (z3 J (z5 J ?_))))));refine zx (Qj J J (c2) J) J ?_;refine z5 J (zn J (zpF J (z0 J (z5 J (z2 J J J (z5 J (z3 J (z5 J ?_))))))));refine zx (Qj J J (c3) J) J ?_;refine z5 J (zn J (zpF J (zz (Ql J (Qh (Q0 (zy (z2 J J J (z3 J ?_)))))))));refine z2 J J J (z3 J (z7 J (by omega) (z2 J J J (z3 J (z7 J (by omega) (z2 J J J (z3 J (zx (Z3 J J J J (by omega)) J (zx (Zl J J J J J) J ?_)))))))));refine Qy J J J J J J J J J (zz (Xa (F_r ?_)))
 exact Xm J J J J (X5 [] (by decide) J J J)
theorem S_ShotOf (b : TBody) (hx : 0 ≤ b.X ∧ b.X ≤ 1000) (hy : 0 ≤ b.Y ∧ b.Y ≤ 1000) (ha : -1 ≤ b.Aim ∧ b.Aim ≤ 1) : Con Tryz.prog 98 [] [ag b] [] (.o (.ag ((Enc.e (shotOf b)).map (V1.rd [])))) := by
 have c1 := S_in b.X 0 1000
 have c2 := S_in b.Y 0 1000
 have c3 := S_in b.Aim (-1) 1
 rw [Y3.2 hx] at c1
 rw [Y3.2 hy] at c2
 rw [Y3.2 ha] at c3
 refine Con.of Tryz.func98 J Tryz.ntmps98 J (fun E => ?_)
 refine zy (M1 (Qq J J J J) J J (M1 (Qx J J J) J J (zz (Qd (zy (z2 J J J (z3 J ?_)))))));refine zx (Qj J J (c1) J) J ?_;refine zn J (z0 J (z5 J (z2 J J J (z5 J (z3 J (z5 J ?_))))));refine zx (Qj J J (c2) J) J ?_;refine z5 J (zn J (zpF J (z0 J (z5 J (z2 J J J (z5 J (z3 J (z5 J ?_))))))));refine zx (Qj J J (c3) J) J ?_;refine z5 J (zn J (zpF J (zz (Ql J (Qh (Q0 (zy (z2 J J J (z3 J ?_)))))))));refine z2 J J J (z3 J (z7 J (by omega) (z2 J J J (z3 J (z7 J (by omega) (z2 J J J (z3 J (zx (Z3 J J J J (by omega)) J (zx (Zl J J J J J) J ?_)))))))));refine Qy J J J J J J J J J (zz (Xa (F_r ?_)))
 exact Xm J J J J (X5 [] (by decide) J J J)
theorem I_direction (v : Int) (h : -15 ≤ v ∧ v ≤ 15) : Con Tryz.prog 159 [] [ai v] [] (.tu [.c (jn (dirOf v)),.c (jn v.natAbs)]) := by
 by_cases hv : v < 0
 ·have f1 : decide (v < 0) = true := decide_eq_true hv
  refine Con.of Tryz.func159 J Tryz.ntmps159 J (fun E => ?_)
  refine zy (z1 J (z1 J (zz (Qd (zy (z0 J (z9a J (by assumption) (Qe ?_))))))));refine Q0 (Qm J (zy (z0 J (zx (q_neg J J J (by omega)) J (z1 J (z1 J (zz (Xa (T_r ?_)))))))));refine F_r ?_
  exact Xq J J J (X5 [] (by decide) J J (tu2 (by rw [dirOf,if_pos hv]) (by omega)))
 ·have f1 : decide (v < 0) = false := decide_eq_false hv
  refine Con.of Tryz.func159 J Tryz.ntmps159 J (fun E => ?_)
  refine zy (z1 J (z1 J (zz (Qd (zy (z0 J (z9a J (by assumption) (Qe ?_))))))));refine Q0 (Ql J (Qh (Q0 (zy (z0 J (z1 J (z1 J (zz (Xa ?_)))))))));refine F_r ?_
  exact Xq J J J (X5 [] (by decide) J J (tu2 (by rw [dirOf,if_neg hv]) (by omega)))
theorem I_BodiesMeet (a b : TBody) (ha : Placed a) (hb : Placed b) : Con Tryz.prog 160 [] [ag a,ag b] [] (B (meetM a b)) := by
 have sa := size_pos ha.k
 have sb := size_pos hb.k
 obtain ⟨ax1,ax2⟩ := ha.x
 obtain ⟨ay1,ay2⟩ := ha.y
 obtain ⟨bx1,bx2⟩ := hb.x
 obtain ⟨by1,by2⟩ := hb.y
 have c1 := I_SizeOf a.Kind
 have c2 := I_SizeOf b.Kind
 have f1 : decide (sizeOf a.Kind = 0) = false := decide_eq_false (by omega)
 have f2 : decide (sizeOf b.Kind = 0) = false := decide_eq_false (by omega)
 have x1 : decide (a.X < 0) = false := decide_eq_false (by omega)
 have x2 : decide (1000 < a.X) = false := decide_eq_false (by omega)
 have x3 : decide (a.Y < 0) = false := decide_eq_false (by omega)
 have x4 : decide (1000 < a.Y) = false := decide_eq_false (by omega)
 have x5 : decide (b.X < 0) = false := decide_eq_false (by omega)
 have x6 : decide (1000 < b.X) = false := decide_eq_false (by omega)
 have x7 : decide (b.Y < 0) = false := decide_eq_false (by omega)
 have x8 : decide (1000 < b.Y) = false := decide_eq_false (by omega)
 refine Con.of Tryz.func160 J Tryz.ntmps160 J (fun E => ?_)
 refine zy (M1 (Qq J J J J) J J (M1 (Qq J J J J) J J (z1 J (zz (zy (z2 J J J (z3 J ?_)))))));refine zx (Qj J J (c1) J) J ?_;refine z1 J (zz (zy (z2 J J J (z3 J ?_))));refine zx (Qj J J (c2) J) J ?_;refine z1 J (zz (Qd (zy (z0 J (z9e J (by assumption) (z0 J (z5 J (z0 J (z5 J ?_)))))))));refine z9e J (by assumption) (zpF J (zz (Ql J (Qh (Q0 (Qd (zy (z2 J J J (z3 J ?_)))))))));refine z2 J J J (z3 J (z2 J J J (z3 J (z2 J J J (z3 J (M1 (Zj J J J J J J) J J (zx (q_lensb J J J) J (z0 J (zz (Qk ?_))))))))));refine A_lq (fun m st => ∃ k : Nat,k + m = 4 ∧ (True) ∧ st = (⟨_,[(2,.o (.c (.ptr 0 0))),(3,.o (.c (.ptr 1 0))),(5,I (sizeOf a.Kind)),(6,I (sizeOf b.Kind)),(29,.o (.c (.sb 2 4 1))),(30,I 4),(31,I k)],[.box ((Enc.e a).map (V1.rd [])),.box ((Enc.e b).map (V1.rd [])),.box [jn a.X,jn a.Y,jn b.X,jn b.Y]]⟩ : St)) (4) ⟨_,⟨0,by omega,trivial,J⟩,W_gj [0,1,2] (by kernel_rfl)⟩ ?_
 rintro m_A _ ⟨k,hk_A,hp_A,rfl⟩
 have hk : k = 0 ∨ k = 1 ∨ k = 2 ∨ k = 3 ∨ k = 4 := by omega
 rcases hk with hk | hk | hk | hk | hk
 ·subst hk
  refine zy ?_;refine zx (Qr (b := true) J J J J (by decide)) J ?_;refine zz (Qd (Qm J (Qh (Q0 (Qd (Qk (zy (zx (q_sbat J J J J (by omega)) J (z3 J ?_)))))))));refine z1 J (zz (zy (z0 J (z9a J (by assumption) (z0 J (z5 J (z0 J (z5 J (z9c J (by assumption) ?_)))))))));refine zpF J (zz (Ql J (Qh (Q1 (Q0 (Qc (z7 J (by omega) (z0 J (zz ?_)))))))))
  exact ⟨4 - (0 + 1),by omega,_,⟨0 + 1,by omega,trivial,J⟩,W_gj [0,1,2] (by kernel_rfl)⟩
 ·subst hk
  refine zy ?_;refine zx (Qr (b := true) J J J J (by decide)) J ?_;refine zz (Qd (Qm J (Qh (Q0 (Qd (Qk (zy (zx (q_sbat J J J J (by omega)) J (z3 J ?_)))))))));refine z1 J (zz (zy (z0 J (z9a J (by assumption) (z0 J (z5 J (z0 J (z5 J (z9c J (by assumption) ?_)))))))));refine zpF J (zz (Ql J (Qh (Q1 (Q0 (Qc (z7 J (by omega) (z0 J (zz ?_)))))))))
  exact ⟨4 - (1 + 1),by omega,_,⟨1 + 1,by omega,trivial,J⟩,W_gj [0,1,2] (by kernel_rfl)⟩
 ·subst hk
  refine zy ?_;refine zx (Qr (b := true) J J J J (by decide)) J ?_;refine zz (Qd (Qm J (Qh (Q0 (Qd (Qk (zy (zx (q_sbat J J J J (by omega)) J (z3 J ?_)))))))));refine z1 J (zz (zy (z0 J (z9a J (by assumption) (z0 J (z5 J (z0 J (z5 J (z9c J (by assumption) ?_)))))))));refine zpF J (zz (Ql J (Qh (Q1 (Q0 (Qc (z7 J (by omega) (z0 J (zz ?_)))))))))
  exact ⟨4 - (2 + 1),by omega,_,⟨2 + 1,by omega,trivial,J⟩,W_gj [0,1,2] (by kernel_rfl)⟩
 ·subst hk
  refine zy ?_;refine zx (Qr (b := true) J J J J (by decide)) J ?_;refine zz (Qd (Qm J (Qh (Q0 (Qd (Qk (zy (zx (q_sbat J J J J (by omega)) J (z3 J ?_)))))))));refine z1 J (zz (zy (z0 J (z9a J (by assumption) (z0 J (z5 J (z0 J (z5 J (z9c J (by assumption) ?_)))))))));refine zpF J (zz (Ql J (Qh (Q1 (Q0 (Qc (z7 J (by omega) (z0 J (zz ?_)))))))))
  exact ⟨4 - (3 + 1),by omega,_,⟨3 + 1,by omega,trivial,J⟩,W_gj [0,1,2] (by kernel_rfl)⟩
 ·subst hk
  refine zy ?_;refine zx (Qr (b := false) J J J J (by decide)) J ?_;refine zz (Qd (Ql J (Q9 (T_x (T_x (Xl (Q0 (zy (z2 J J J ?_)))))))));refine z3 J (z2 J J J (z3 J (z0 J (z7 J (by omega) (zx (Z1 J J J J) J (z0 J ?_))))));refine zx (Qt.grdT J J J .stop (fun hgrd => Qf J J J J (by decide))) J ?_;refine zx (Qt.grdT J J J (.hit .stop) (fun hgrd => Qg J J J J J)) J ?_;refine zx (Qt.grdT J J J (.hit (.hit .stop)) (fun hgrd => Qf J J J J (by decide))) J ?_;refine zx (Qt.grdT J J J (.hit (.hit (.hit .stop))) (fun hgrd => Qg J J J J J)) J ?_;refine zx (Qt.grdT J J J (.hit (.hit (.hit (.hit .stop)))) (fun hgrd => Qa J J J)) J ?_;refine zx (Qt.grdT J J J (.hit (.hit (.hit (.hit (.hit .stop))))) (fun hgrd => Qs J J J J (by omega))) J ?_;refine zx (Qt.grdT J J J (.hit (.hit (.hit (.hit (.hit (.hit .stop)))))) (fun hgrd => Z1 J J J J)) J ?_;refine zx (Zg J J J J) J (z0 J ?_);refine zx (Qt.grdT J J J .stop (fun hgrd => Qf J J J J (by decide))) J ?_;refine zx (Qt.grdT J J J (.hit .stop) (fun hgrd => Qg J J J J J)) J ?_;refine zx (Qt.grdT J J J (.hit (.hit .stop)) (fun hgrd => Qf J J J J (by decide))) J ?_;refine zx (Qt.grdT J J J (.hit (.hit (.hit .stop))) (fun hgrd => Qg J J J J J)) J ?_;refine zx (Qt.grdT J J J (.hit (.hit (.hit (.hit .stop)))) (fun hgrd => Qa J J J)) J ?_;refine zx (Qt.grdT J J J (.hit (.hit (.hit (.hit (.hit .stop))))) (fun hgrd => Qs J J J J (by omega))) J ?_;refine zx (Qt.grdT J J J (.hit (.hit (.hit (.hit (.hit (.hit .stop)))))) (fun hgrd => Z1 J J J J)) J ?_;refine zx (Zg J J J J) J (z0 J ?_);refine zx (Qt.grdT J J J .stop (fun hgrd => Qf J J J J (by decide))) J ?_;refine zx (Qt.grdT J J J (.hit .stop) (fun hgrd => Qg J J J J J)) J ?_;refine zx (Qt.grdT J J J (.hit (.hit .stop)) (fun hgrd => Qf J J J J (by decide))) J ?_;refine zx (Qt.grdT J J J (.hit (.hit (.hit .stop))) (fun hgrd => Qg J J J J J)) J ?_;refine zx (Qt.grdT J J J (.hit (.hit (.hit (.hit .stop)))) (fun hgrd => Qa J J J)) J ?_;refine zx (Qt.grdT J J J (.hit (.hit (.hit (.hit (.hit .stop))))) (fun hgrd => Qs J J J J (by omega))) J ?_;refine zx (Qt.grdT J J J (.hit (.hit (.hit (.hit (.hit (.hit .stop)))))) (fun hgrd => Z1 J J J J)) J ?_;refine zx (Zg J J J J) J (z1 J (zz (Xa (F_r ?_))))
  exact Xp J J (X5 [] (by decide) J J J)
theorem S_BodiesMeet (a b : TBody) (ha : Placed a) (hb : Placed b) : Con Tryz.prog 155 [] [ag a,ag b] [] (B (meetM a b)) := by
 have sa := size_pos ha.k
 have sb := size_pos hb.k
 obtain ⟨ax1,ax2⟩ := ha.x
 obtain ⟨ay1,ay2⟩ := ha.y
 obtain ⟨bx1,bx2⟩ := hb.x
 obtain ⟨by1,by2⟩ := hb.y
 have c1 := S_SizeOf a.Kind
 have c2 := S_SizeOf b.Kind
 have c3 := S_in a.X 0 1000
 have c4 := S_in a.Y 0 1000
 have c5 := S_in b.X 0 1000
 have c6 := S_in b.Y 0 1000
 rw [Y3.2 ha.x] at c3
 rw [Y3.2 ha.y] at c4
 rw [Y3.2 hb.x] at c5
 rw [Y3.2 hb.y] at c6
 have f1 : decide (sizeOf a.Kind = 0) = false := decide_eq_false (by omega)
 have f2 : decide (sizeOf b.Kind = 0) = false := decide_eq_false (by omega)
 refine Con.of Tryz.func155 J Tryz.ntmps155 J (fun E => ?_)
 refine zy (M1 (Qq J J J J) J J (M1 (Qq J J J J) J J (z1 J (zz (zy (z2 J J J (z3 J ?_)))))));refine zx (Qj J J (c1) J) J ?_;refine z1 J (zz (zy (z2 J J J (z3 J ?_))));refine zx (Qj J J (c2) J) J ?_;refine z1 J (zz (Qd (zy (z0 J (z9e J (by assumption) (z0 J (z5 J (z0 J (z5 J ?_)))))))));refine z9e J (by assumption) (zpF J (z0 J (z5 J (z2 J J J (z5 J (z3 J (z5 J ?_)))))));refine zx (Qj J J (c3) J) J ?_;refine z5 J (zn J (zpF J (z0 J (z5 J (z2 J J J (z5 J (z3 J (z5 J ?_))))))));refine zx (Qj J J (c4) J) J ?_;refine z5 J (zn J (zpF J (z0 J (z5 J (z2 J J J (z5 J (z3 J (z5 J ?_))))))));refine zx (Qj J J (c5) J) J ?_;refine z5 J (zn J (zpF J (z0 J (z5 J (z2 J J J (z5 J (z3 J (z5 J ?_))))))));refine zx (Qj J J (c6) J) J ?_;refine z5 J (zn J (zpF J (zz (Ql J (Qh (Q0 (zy (z2 J J J (z3 J ?_)))))))));refine z2 J J J (z3 J (z0 J (z7 J (by omega) (zx (Z1 J J J J) J (z0 J ?_)))));refine zx (Qt.grdT J J J .stop (fun hgrd => Qf J J J J (by decide))) J ?_;refine zx (Qt.grdT J J J (.hit .stop) (fun hgrd => Qg J J J J J)) J ?_;refine zx (Qt.grdT J J J (.hit (.hit .stop)) (fun hgrd => Qf J J J J (by decide))) J ?_;refine zx (Qt.grdT J J J (.hit (.hit (.hit .stop))) (fun hgrd => Qg J J J J J)) J ?_;refine zx (Qt.grdT J J J (.hit (.hit (.hit (.hit .stop)))) (fun hgrd => Qa J J J)) J ?_;refine zx (Qt.grdT J J J (.hit (.hit (.hit (.hit (.hit .stop))))) (fun hgrd => Qs J J J J (by omega))) J ?_;refine zx (Qt.grdT J J J (.hit (.hit (.hit (.hit (.hit (.hit .stop)))))) (fun hgrd => Z1 J J J J)) J ?_;refine zx (Zg J J J J) J (z0 J ?_);refine zx (Qt.grdT J J J .stop (fun hgrd => Qf J J J J (by decide))) J ?_;refine zx (Qt.grdT J J J (.hit .stop) (fun hgrd => Qg J J J J J)) J ?_;refine zx (Qt.grdT J J J (.hit (.hit .stop)) (fun hgrd => Qf J J J J (by decide))) J ?_;refine zx (Qt.grdT J J J (.hit (.hit (.hit .stop))) (fun hgrd => Qg J J J J J)) J ?_;refine zx (Qt.grdT J J J (.hit (.hit (.hit (.hit .stop)))) (fun hgrd => Qa J J J)) J ?_;refine zx (Qt.grdT J J J (.hit (.hit (.hit (.hit (.hit .stop))))) (fun hgrd => Qs J J J J (by omega))) J ?_;refine zx (Qt.grdT J J J (.hit (.hit (.hit (.hit (.hit (.hit .stop)))))) (fun hgrd => Z1 J J J J)) J ?_;refine zx (Zg J J J J) J (z0 J ?_);refine zx (Qt.grdT J J J .stop (fun hgrd => Qf J J J J (by decide))) J ?_;refine zx (Qt.grdT J J J (.hit .stop) (fun hgrd => Qg J J J J J)) J ?_;refine zx (Qt.grdT J J J (.hit (.hit .stop)) (fun hgrd => Qf J J J J (by decide))) J ?_;refine zx (Qt.grdT J J J (.hit (.hit (.hit .stop))) (fun hgrd => Qg J J J J J)) J ?_;refine zx (Qt.grdT J J J (.hit (.hit (.hit (.hit .stop)))) (fun hgrd => Qa J J J)) J ?_;refine zx (Qt.grdT J J J (.hit (.hit (.hit (.hit (.hit .stop))))) (fun hgrd => Qs J J J J (by omega))) J ?_;refine zx (Qt.grdT J J J (.hit (.hit (.hit (.hit (.hit (.hit .stop)))))) (fun hgrd => Z1 J J J J)) J ?_;refine zx (Zg J J J J) J (z1 J (zz (Xa (F_r ?_))))
 exact Xp J J (X5 [] (by decide) J J J)
end
section
open Go.RowKit

theorem Zf {l : TLevel} {x y s : Int} (hl : levelOk l = true) (h1 : 1 ≤ s ∧ s ≤ 16) (h : solidM l x y s = false) : (0 ≤ x ∧ x ≤ 400) ∧ (0 ≤ y ∧ y ≤ 400) := by
 obtain ⟨l3,l12,w,w4,w20,hw⟩ := Y5 hl
 have hn : ¬ hits l x y s := fun hh => by rw [Kj hh] at h; cases h
 have : ¬ (x < 0 ∨ y < 0 ∨ (w : Int) * 16 - s < x ∨ (l.Rows.length : Int) * 16 - s < y) := fun q => hn (out_hits hw h1.1 q)
 omega
theorem solidAt_eq {l : TLevel} {x y s : Int} (hl : levelOk l = true) (h1 : 1 ≤ s ∧ s ≤ 16) : solidAt l x y s = solidM l x y s := by
 rw [solidAt,Y3.2 h1,hl]; rfl
theorem steer_and {i : Int} {k m : Int} (h : (pressed i k && decide (((i.toNat &&& m.toNat : Nat) : Int) = 0)) = true) : (pressed i k && !pressed i m) = true := by
 simp only [Bool.and_eq_true,decide_eq_true_eq,Bool.not_eq_true'] at h ⊢
 exact ⟨h.1,decide_eq_false (fun q => q h.2)⟩
theorem steer_no {i : Int} {k m : Int} (h : (pressed i k && decide (((i.toNat &&& m.toNat : Nat) : Int) = 0)) = false) : (pressed i k && !pressed i m) = false := by
 rw [← Bool.not_eq_true] at h ⊢
 intro q
 simp only [Bool.and_eq_true,decide_eq_true_eq,Bool.not_eq_true',pressed,decide_eq_false_iff_not,Classical.not_not] at h q
 exact h q
@[reducible] def stB (K O X Y VX VY A L T : Int) : List V1 := [jn K,jn O,jn X,jn Y,jn VX,jn VY,jn A,jn L,jn T]
theorem I_SteerPlayer (l : TLevel) (b : TBody) (i : Int) (hg : Enc.gd l) (hl : levelOk l = true) (gb : Enc.gd b) (hk : b.Kind = 0) (ho : 0 ≤ b.Owner ∧ b.Owner ≤ 3) (hf : 1 ≤ b.Life) (hi : 0 ≤ i ∧ i ≤ 15) (hb : bodyM l (b.Owner + 1) b = true) (ht : 0 ≤ b.Timer ∧ b.Timer ≤ 20) (hv : -15 ≤ b.VY ∧ b.VY ≤ 15) (hp : solidM l b.X b.Y 12 = false) : Con Tryz.prog 150 [] [ag l,ag b,ai i] [] (.tu [.ag ((Enc.e (steer l b i).1).map (V1.rd [])),.c (bv (steer l b i).2)]) := by
 obtain ⟨⟨px1,px2⟩,⟨py1,py2⟩⟩ := Zf hl (by decide) hp
 have c1 := Xt l hg
 have c2 := Xv b.Owner 0 3
 have c3 := Xv i 0 15
 have c4 := I_BodyOk l (b.Owner + 1) b hg gb (by omega)
 rw [hl] at c1
 rw [Y3.2 ho] at c2
 rw [Y3.2 hi] at c3
 rw [hl,hb] at c4
 have f1 : decide (b.Kind ≠ 0) = false := decide_eq_false (fun q => q hk)
 have f2 : decide (b.Life < 1) = false := decide_eq_false (by omega)
 have cs := I_SolidAt l b.X (b.Y + 1) 12 hg ⟨by omega,by omega⟩ ⟨by omega,by omega⟩
 rw [solidAt_eq hl (by decide)] at cs
 have cz : Con Tryz.prog 144 [] [ai 0] [] (I 12) := I_SizeOf 0
 obtain ⟨T,hT⟩ : ∃ T,T = (if 0 < b.Timer then b.Timer - 1 else b.Timer) := ⟨_,rfl⟩
 have hT1 : 0 ≤ T ∧ T ≤ 20 := by rw [hT]; split <;> omega
 obtain ⟨R,hR⟩ : ∃ R,R = (pressed i 2 && !pressed i 1) := ⟨_,rfl⟩
 obtain ⟨Lf,hLf⟩ : ∃ Lf,Lf = (pressed i 1 && !pressed i 2) := ⟨_,rfl⟩
 rw [steer,← hT,← hR,← hLf]
 refine Con.of Tryz.func150 J Tryz.ntmps150 J (fun E => ?_)
 refine zy (M1 (Qq J J J J) J J (M1 (Qq J J J J) J J (M1 (Qx J J J) J J (z1 J (zz (Qd (zy (z4 J J J ?_))))))));refine zx (Qj J J (c1) J) J ?_;refine zn J (z0 J (z5 J (z2 J J J (z5 J (z3 J (z5 J (z9f J (by assumption) (zpF J (z0 J (z5 J (z2 J J J ?_)))))))))));refine z5 J (z3 J (z5 J (z9a J (by assumption) (zpF J (z0 J (z5 J (z2 J J J (z5 J (z3 J (z5 J ?_))))))))));refine zx (Qj J J (c2) J) J ?_;refine z5 J (zn J (zpF J (zz (Ql J (Qh (Q0 (Qd (zy (z0 J ?_)))))))));refine zx (Qj J J (c3) J) J ?_;refine zn J (z0 J (z5 J (z4 J J J (z5 J (z2 J J J (z5 J (z3 J (z5 J (z7 J (by omega) (z5 J (z4 J J J ?_)))))))))));refine z5 J ?_;refine zx (Qj J J (c4) J) J ?_;refine z5 J (zn J (zpF J (zz (Ql J (Qh (Q0 (Qd (zy (z2 J J J ?_)))))))));refine z3 J (zx (Zu J J J J) J (zz ?_))
 refine A_join (⟨101,[(2,I i),(3,.o (.c (.ptr 0 0))),(4,.o (.c (.ptr 1 0))),(6,.o (.c (.ptr 2 0)))],[.box ((Enc.e l).map (V1.rd [])),.box (stB b.Kind b.Owner b.X b.Y b.VX b.VY b.Aim b.Life T),.box (stB 0 0 0 0 0 0 0 0 0)]⟩ : St) ?_ ?_
 ·refine Xb rfl (fun h => ?_) (fun h => ?_)
  ·have h := of_decide_eq_true h
   have hT2 : b.Timer - 1 = T := by rw [hT,if_pos h]
   refine Qc (z2 J J J (z3 J (z8 J (by omega) (z2 J J J ?_))));refine Q5 J J J J J J J J (Qe ?_)
   exact Mid.n (by rw [← hT2]; exact W_gj [0,1,2] (by kernel_rfl))
  ·have h := of_decide_eq_false h
   have hT2 : b.Timer = T := by rw [hT,if_neg h]
   refine Qh ?_
   exact Mid.n (by rw [← hT2]; exact W_gj [0,1,2] (by kernel_rfl))
 refine zy (z0 J (zx (Zi J J J J (by omega)) J (zx (Z4 J J J J) J (z1 J (zz (zy (z0 J (zx (Zi J J J J (by omega)) J ?_))))))));refine zx (Z4 J J J J) J (z1 J (zz (zy (z2 J J J ?_))));refine Q5 J J J J J J J J (zz (Qd (zy (z0 J (z0 J ?_)))));refine zx (Qt.grdT J J J .stop (fun hgrd => Qa J J J)) J ?_;refine zx (Qt.grdT J J J (.hit .stop) (fun hgrd => Q4 J J J)) J ?_;refine zx (Zg J J J J) J (zz ?_)
 refine A_join (⟨101,[(2,I i),(3,.o (.c (.ptr 0 0))),(4,.o (.c (.ptr 1 0))),(6,.o (.c (.ptr 2 0))),(8,B (pressed i 1)),(9,B (pressed i 2))],[.box ((Enc.e l).map (V1.rd [])),.box (stB b.Kind b.Owner b.X b.Y (if R = true then 3 else 0) b.VY (if R = true then 1 else b.Aim) b.Life T),.box (stB 0 0 0 0 0 0 0 0 0)]⟩ : St) ?_ ?_
 ·refine Xb rfl (fun h => ?_) (fun h => ?_)
  ·have h2 : R = true := by rw [hR]; exact h
   refine zy (z2 J J J ?_);refine Q5 J J J J J J J J (zz (Qc (z2 J J J ?_)));refine Q5 J J J J J J J J (Qe ?_)
   exact Mid.n (by rw [if_pos h2,if_pos h2]; exact W_gj [0,1,2] (by kernel_rfl))
  ·have h2 : ¬ R = true := by rw [hR]; intro q; exact Bool.false_ne_true (Eq.trans (h).symm q)
   refine Qh ?_
   exact Mid.n (by rw [if_neg h2,if_neg h2]; exact W_gj [0,1,2] (by kernel_rfl))
 refine Qd (zy (z0 J (z0 J ?_)));refine zx (Qt.grdT J J J .stop (fun hgrd => Qa J J J)) J ?_;refine zx (Qt.grdT J J J (.hit .stop) (fun hgrd => Q4 J J J)) J ?_;refine zx (Zg J J J J) J (zz ?_)
 refine A_join (⟨101,[(2,I i),(3,.o (.c (.ptr 0 0))),(4,.o (.c (.ptr 1 0))),(6,.o (.c (.ptr 2 0))),(8,B (pressed i 1)),(9,B (pressed i 2))],[.box ((Enc.e l).map (V1.rd [])),.box (stB b.Kind b.Owner b.X b.Y (if Lf = true then -3 else if R = true then 3 else 0) b.VY (if Lf = true then -1 else if R = true then 1 else b.Aim) b.Life T),.box (stB 0 0 0 0 0 0 0 0 0)]⟩ : St) ?_ ?_
 ·refine Xb rfl (fun h => ?_) (fun h => ?_)
  ·have h2 : Lf = true := by rw [hLf]; exact h
   refine zy (z2 J J J ?_);refine Q5 J J J J J J J J (zz (Qc (z2 J J J ?_)));refine Q5 J J J J J J J J (Qe ?_)
   exact Mid.n (by rw [if_pos h2,if_pos h2]; exact W_gj [0,1,2] (by kernel_rfl))
  ·have h2 : ¬ Lf = true := by rw [hLf]; intro q; exact Bool.false_ne_true (Eq.trans (h).symm q)
   refine Qh ?_
   exact Mid.n (by rw [if_neg h2,if_neg h2]; exact W_gj [0,1,2] (by kernel_rfl))
 obtain ⟨vx,hvx⟩ : ∃ vx,vx = (if Lf = true then -3 else if R = true then 3 else 0) := ⟨_,rfl⟩
 obtain ⟨am,ham⟩ : ∃ am,am = (if Lf = true then -1 else if R = true then 1 else b.Aim) := ⟨_,rfl⟩
 rw [← hvx,← ham]
 obtain ⟨Fi,hFi⟩ : ∃ Fi,Fi = (pressed i 8 && decide (T = 0)) := ⟨_,rfl⟩
 rw [← hFi]
 by_cases hJ : pressed i 4 = true
 ·have fJ : decide (((i.toNat &&& (4 : Int).toNat : Nat) : Int) ≠ 0) = true := hJ
  cases hs : solidM l b.X (b.Y + 1) 12 with
  | true =>
   rw [hs] at cs
   rw [hJ]
   refine Qd (Qd (Xi u8_14 u8_15 u8_16 J (DR.s (Qa J J J) J J (DR.s (Zi J J J J (by omega)) J J (DR.s (Qw J J J J (by assumption)) J J (DR.s (Qa J J J) J J (DR.s (Qt.yes J J J (Qu J J J J J J)) J J (DR.s (Qt.yes J J J (Qf J J J J (by decide))) J J (DR.s (Qt.yes J J J (Qg J J J J J)) J J (DR.s (Qt.yes J J J (Qf J J J J (by decide))) J J (DR.s (Qt.yes J J J (Qg J J J J J)) J J ?_)))))))))));refine DR.s (Qt.yes J J J (Qs J J J J (by omega))) J J ?_;refine DR.s (Qt.yes J J J (Qj J J (cz) J)) J J ?_;refine DR.s (Qt.yes J J J (Qj J J (cs) J)) J J ?_;refine DR.s (Qo J J J J) J J (DR.stop (by kernel_rfl) (by kernel_rfl) (zz (Qm J (Qc (z2 J J J ?_)))));refine Q5 J J J J J J J J (zz (Qd (zy (z0 J (zx (Zi J J J J (by omega)) J (zx (Z4 J J J J) J (z0 J ?_)))))));refine zx (Qt.grdT J J J .stop (fun hgrd => Qf J J J J (by decide))) J ?_;refine zx (Qt.grdT J J J (.hit .stop) (fun hgrd => Qg J J J J J)) J ?_;refine zx (Qt.grdT J J J (.hit (.hit .stop)) (fun hgrd => Zq J J J J)) J ?_;refine zx (Zg J J J J) J (zz ?_)
   refine Xb J (fun h => ?_) (fun h => ?_)
   ·have h2 : Fi = true := by rw [hFi]; exact h
    rw [h2]
    refine zy (z2 J J J ?_);refine Q5 J J J J J J J J (zz (zy (z4 J J J ?_)));refine Qy J J J J J J J J J (z1 J (zz (Xa (T_r (F_r ?_)))))
    exact Xn J J J J J (X5 [] (by decide) J J J)
   ·have h2 : Fi = false := by rw [hFi]; exact h
    rw [h2]
    refine Qh (Q0 (zy (z4 J J J ?_)));refine Qy J J J J J J J J J (z1 J (zz (Xa (F_r ?_))))
    exact Xn J J J J J (X5 [] (by decide) J J J)
  | false =>
   rw [hs] at cs
   rw [hJ]
   refine Qd (Qd (Xi u8_14 u8_15 u8_16 J (DR.s (Qa J J J) J J (DR.s (Zi J J J J (by omega)) J J (DR.s (Qw J J J J (by assumption)) J J (DR.s (Qa J J J) J J (DR.s (Qt.yes J J J (Qu J J J J J J)) J J (DR.s (Qt.yes J J J (Qf J J J J (by decide))) J J (DR.s (Qt.yes J J J (Qg J J J J J)) J J (DR.s (Qt.yes J J J (Qf J J J J (by decide))) J J (DR.s (Qt.yes J J J (Qg J J J J J)) J J ?_)))))))))));refine DR.s (Qt.yes J J J (Qs J J J J (by omega))) J J ?_;refine DR.s (Qt.yes J J J (Qj J J (cz) J)) J J ?_;refine DR.s (Qt.yes J J J (Qj J J (cs) J)) J J ?_;refine DR.s (Qo J J J J) J J (DR.stop (by kernel_rfl) (by kernel_rfl) (zz (Ql J (Qc (z2 J J J (z3 J (z7 J (by omega) (zx (q_min J J J J) J (z2 J J J ?_)))))))));refine Q5 J J J J J J J J (zz (Qd (zy (z0 J (zx (Zi J J J J (by omega)) J (zx (Z4 J J J J) J (z0 J ?_)))))));refine zx (Qt.grdT J J J .stop (fun hgrd => Qf J J J J (by decide))) J ?_;refine zx (Qt.grdT J J J (.hit .stop) (fun hgrd => Qg J J J J J)) J ?_;refine zx (Qt.grdT J J J (.hit (.hit .stop)) (fun hgrd => Zq J J J J)) J ?_;refine zx (Zg J J J J) J (zz ?_)
   refine Xb J (fun h => ?_) (fun h => ?_)
   ·have h2 : Fi = true := by rw [hFi]; exact h
    rw [h2]
    refine zy (z2 J J J ?_);refine Q5 J J J J J J J J (zz (zy (z4 J J J ?_)));refine Qy J J J J J J J J J (z1 J (zz (Xa (T_r (F_r ?_)))))
    exact Xn J J J J J (X5 [] (by decide) J J J)
   ·have h2 : Fi = false := by rw [hFi]; exact h
    rw [h2]
    refine Qh (Q0 (zy (z4 J J J ?_)));refine Qy J J J J J J J J J (z1 J (zz (Xa (F_r ?_))))
    exact Xn J J J J J (X5 [] (by decide) J J J)
 ·have fJ : decide (((i.toNat &&& (4 : Int).toNat : Nat) : Int) ≠ 0) = false := by simpa [pressed] using hJ
  rw [show pressed i 4 = false by simpa using hJ]
  refine Qd (Qd (Xi u8_14 u8_15 u8_16 J (DR.s (Qa J J J) J J (DR.s (Zi J J J J (by omega)) J J (DR.s (Qw J J J J (by assumption)) J J (DR.s (Qa J J J) J J (DR.s (Qt.no J J J J) J J (DR.s (Qt.no J J J J) J J (DR.s (Qt.no J J J J) J J (DR.s (Qt.no J J J J) J J (DR.s (Qt.no J J J J) J J ?_)))))))))));refine DR.s (Qt.no J J J J) J J (DR.s (Qt.no J J J J) J J (DR.s (Qt.no J J J J) J J (DR.s (Qn J J J J) J J (DR.stop (by kernel_rfl) (by kernel_rfl) (zz (Ql J (Qc (z2 J J J (z3 J (z7 J (by omega) ?_))))))))));refine zx (q_min J J J J) J (z2 J J J ?_);refine Q5 J J J J J J J J (zz (Qd (zy (z0 J (zx (Zi J J J J (by omega)) J (zx (Z4 J J J J) J (z0 J ?_)))))));refine zx (Qt.grdT J J J .stop (fun hgrd => Qf J J J J (by decide))) J ?_;refine zx (Qt.grdT J J J (.hit .stop) (fun hgrd => Qg J J J J J)) J ?_;refine zx (Qt.grdT J J J (.hit (.hit .stop)) (fun hgrd => Zq J J J J)) J ?_;refine zx (Zg J J J J) J (zz ?_)
  refine Xb J (fun h => ?_) (fun h => ?_)
  ·have h2 : Fi = true := by rw [hFi]; exact h
   rw [h2]
   refine zy (z2 J J J ?_);refine Q5 J J J J J J J J (zz (zy (z4 J J J ?_)));refine Qy J J J J J J J J J (z1 J (zz (Xa (T_r (F_r ?_)))))
   exact Xn J J J J J (X5 [] (by decide) J J J)
  ·have h2 : Fi = false := by rw [hFi]; exact h
   rw [h2]
   refine Qh (Q0 (zy (z4 J J J ?_)));refine Qy J J J J J J J J J (z1 J (zz (Xa (F_r ?_))))
   exact Xn J J J J J (X5 [] (by decide) J J J)
theorem S_l02Steer (l : TLevel) (b : TBody) (i : Int) (hg : Enc.gd l) (hl : levelOk l = true) (hk : b.Kind = 0) (hi : 0 ≤ i ∧ i ≤ 15) (ht : 0 ≤ b.Timer ∧ b.Timer ≤ 20) (hv : -15 ≤ b.VY ∧ b.VY ≤ 15) (hp : solidM l b.X b.Y 12 = false) : Con Tryz.prog 97 [] [ag l,ag b,ai i] [] (.tu [.ag ((Enc.e (steer l b i).1).map (V1.rd [])),.c (bv (steer l b i).2)]) := by
 obtain ⟨⟨px1,px2⟩,⟨py1,py2⟩⟩ := Zf hl (by decide) hp
 have cs := S_l02Solid l b.X (b.Y + 1) 12 hl ⟨by omega,by omega⟩ ⟨by omega,by omega⟩ (by decide) (by decide)
 have cz : Con Tryz.prog 137 [] [ai b.Kind] [] (I 12) := by rw [hk]; exact S_SizeOf 0
 obtain ⟨T,hT⟩ : ∃ T,T = (if 0 < b.Timer then b.Timer - 1 else b.Timer) := ⟨_,rfl⟩
 have hT1 : 0 ≤ T ∧ T ≤ 20 := by rw [hT]; split <;> omega
 obtain ⟨R,hR⟩ : ∃ R,R = (pressed i 2 && !pressed i 1) := ⟨_,rfl⟩
 obtain ⟨Lf,hLf⟩ : ∃ Lf,Lf = (pressed i 1 && !pressed i 2) := ⟨_,rfl⟩
 rw [steer,← hT,← hR,← hLf]
 refine Con.of Tryz.func97 J Tryz.ntmps97 J (fun E => ?_)
 refine zy (M1 (Qq J J J J) J J (M1 (Qq J J J J) J J (M1 (Qx J J J) J J (z1 J (zz (Qd (zy (z2 J J J ?_))))))));refine z3 J (zx (Zu J J J J) J (zz ?_))
 refine A_join (⟨68,[(2,I i),(3,.o (.c (.ptr 0 0))),(4,.o (.c (.ptr 1 0))),(6,.o (.c (.ptr 2 0)))],[.box ((Enc.e l).map (V1.rd [])),.box (stB b.Kind b.Owner b.X b.Y b.VX b.VY b.Aim b.Life T),.box (stB 0 0 0 0 0 0 0 0 0)]⟩ : St) ?_ ?_
 ·refine Xb rfl (fun h => ?_) (fun h => ?_)
  ·have h := of_decide_eq_true h
   have hT2 : b.Timer - 1 = T := by rw [hT,if_pos h]
   refine Qc (z2 J J J (z3 J (z8 J (by omega) (z2 J J J ?_))));refine Q5 J J J J J J J J (Qe ?_)
   exact Mid.n (by rw [← hT2]; exact W_gj [0,1,2] (by kernel_rfl))
  ·have h := of_decide_eq_false h
   have hT2 : b.Timer = T := by rw [hT,if_neg h]
   refine Qh ?_
   exact Mid.n (by rw [← hT2]; exact W_gj [0,1,2] (by kernel_rfl))
 refine zy (z2 J J J ?_);refine Q5 J J J J J J J J (zz (Qd (zy (z0 J (zx (Zi J J J J (by omega)) J (zx (Z4 J J J J) J (z0 J ?_)))))));refine zx (Qt.grdT J J J .stop (fun hgrd => Qa J J J)) J ?_;refine zx (Qt.grdT J J J (.hit .stop) (fun hgrd => Zi J J J J (by omega))) J ?_;refine zx (Qt.grdT J J J (.hit (.hit .stop)) (fun hgrd => Zq J J J J)) J ?_;refine zx (Zg J J J J) J (zz ?_)
 refine A_join (⟨68,[(2,I i),(3,.o (.c (.ptr 0 0))),(4,.o (.c (.ptr 1 0))),(6,.o (.c (.ptr 2 0)))],[.box ((Enc.e l).map (V1.rd [])),.box (stB b.Kind b.Owner b.X b.Y (if R = true then 3 else 0) b.VY (if R = true then 1 else b.Aim) b.Life T),.box (stB 0 0 0 0 0 0 0 0 0)]⟩ : St) ?_ ?_
 ·refine Xb rfl (fun h => ?_) (fun h => ?_)
  ·have h2 : R = true := by rw [hR]; exact steer_and h
   refine zy (z2 J J J ?_);refine Q5 J J J J J J J J (zz (Qc (z2 J J J ?_)));refine Q5 J J J J J J J J (Qe ?_)
   exact Mid.n (by rw [if_pos h2,if_pos h2]; exact W_gj [0,1,2] (by kernel_rfl))
  ·have h2 : ¬ R = true := by rw [hR]; intro q; exact Bool.false_ne_true (Eq.trans (steer_no h).symm q)
   refine Qh ?_
   exact Mid.n (by rw [if_neg h2,if_neg h2]; exact W_gj [0,1,2] (by kernel_rfl))
 refine Qd (zy (z0 J (zx (Zi J J J J (by omega)) J (zx (Z4 J J J J) J (z0 J ?_)))));refine zx (Qt.grdT J J J .stop (fun hgrd => Qa J J J)) J ?_;refine zx (Qt.grdT J J J (.hit .stop) (fun hgrd => Zi J J J J (by omega))) J ?_;refine zx (Qt.grdT J J J (.hit (.hit .stop)) (fun hgrd => Zq J J J J)) J ?_;refine zx (Zg J J J J) J (zz ?_)
 refine A_join (⟨68,[(2,I i),(3,.o (.c (.ptr 0 0))),(4,.o (.c (.ptr 1 0))),(6,.o (.c (.ptr 2 0)))],[.box ((Enc.e l).map (V1.rd [])),.box (stB b.Kind b.Owner b.X b.Y (if Lf = true then -3 else if R = true then 3 else 0) b.VY (if Lf = true then -1 else if R = true then 1 else b.Aim) b.Life T),.box (stB 0 0 0 0 0 0 0 0 0)]⟩ : St) ?_ ?_
 ·refine Xb rfl (fun h => ?_) (fun h => ?_)
  ·have h2 : Lf = true := by rw [hLf]; exact steer_and h
   refine zy (z2 J J J ?_);refine Q5 J J J J J J J J (zz (Qc (z2 J J J ?_)));refine Q5 J J J J J J J J (Qe ?_)
   exact Mid.n (by rw [if_pos h2,if_pos h2]; exact W_gj [0,1,2] (by kernel_rfl))
  ·have h2 : ¬ Lf = true := by rw [hLf]; intro q; exact Bool.false_ne_true (Eq.trans (steer_no h).symm q)
   refine Qh ?_
   exact Mid.n (by rw [if_neg h2,if_neg h2]; exact W_gj [0,1,2] (by kernel_rfl))
 obtain ⟨vx,hvx⟩ : ∃ vx,vx = (if Lf = true then -3 else if R = true then 3 else 0) := ⟨_,rfl⟩
 obtain ⟨am,ham⟩ : ∃ am,am = (if Lf = true then -1 else if R = true then 1 else b.Aim) := ⟨_,rfl⟩
 rw [← hvx,← ham]
 obtain ⟨Fi,hFi⟩ : ∃ Fi,Fi = (pressed i 8 && decide (T = 0)) := ⟨_,rfl⟩
 rw [← hFi]
 by_cases hJ : pressed i 4 = true
 ·have fJ : decide (((i.toNat &&& (4 : Int).toNat : Nat) : Int) ≠ 0) = true := hJ
  cases hs : solidM l b.X (b.Y + 1) 12 with
  | true =>
   rw [hs] at cs
   rw [hJ]
   refine Qd (Qd (Xi u8_17 u8_18 u8_19 J (DR.s (Qa J J J) J J (DR.s (Zi J J J J (by omega)) J J (DR.s (Qw J J J J (by assumption)) J J (DR.s (Qa J J J) J J (DR.s (Qt.yes J J J (Qu J J J J J J)) J J (DR.s (Qt.yes J J J (Qf J J J J (by decide))) J J (DR.s (Qt.yes J J J (Qg J J J J J)) J J (DR.s (Qt.yes J J J (Qf J J J J (by decide))) J J (DR.s (Qt.yes J J J (Qg J J J J J)) J J ?_)))))))))));refine DR.s (Qt.yes J J J (Qs J J J J (by omega))) J J (DR.s (Qt.yes J J J (Qf J J J J (by decide))) J J (DR.s (Qt.yes J J J (Qg J J J J J)) J J ?_));refine DR.s (Qt.yes J J J (Qj J J (cz) J)) J J ?_;refine DR.s (Qt.yes J J J (Qj J J (cs) J)) J J ?_;refine DR.s (Qo J J J J) J J (DR.stop (by kernel_rfl) (by kernel_rfl) (zz (Qm J (Qc (z2 J J J ?_)))));refine Q5 J J J J J J J J (zz (Qd (zy (z0 J (zx (Zi J J J J (by omega)) J (zx (Z4 J J J J) J (z0 J ?_)))))));refine zx (Qt.grdT J J J .stop (fun hgrd => Qf J J J J (by decide))) J ?_;refine zx (Qt.grdT J J J (.hit .stop) (fun hgrd => Qg J J J J J)) J ?_;refine zx (Qt.grdT J J J (.hit (.hit .stop)) (fun hgrd => Zq J J J J)) J ?_;refine zx (Zg J J J J) J (zz ?_)
   refine Xb J (fun h => ?_) (fun h => ?_)
   ·have h2 : Fi = true := by rw [hFi]; exact h
    rw [h2]
    refine zy (z2 J J J ?_);refine Q5 J J J J J J J J (zz (zy (z4 J J J ?_)));refine Qy J J J J J J J J J (z1 J (zz (Xa (T_r (F_r ?_)))))
    exact Xn J J J J J (X5 [] (by decide) J J J)
   ·have h2 : Fi = false := by rw [hFi]; exact h
    rw [h2]
    refine Qh (Q0 (zy (z4 J J J ?_)));refine Qy J J J J J J J J J (z1 J (zz (Xa (F_r ?_))))
    exact Xn J J J J J (X5 [] (by decide) J J J)
  | false =>
   rw [hs] at cs
   rw [hJ]
   refine Qd (Qd (Xi u8_17 u8_18 u8_19 J (DR.s (Qa J J J) J J (DR.s (Zi J J J J (by omega)) J J (DR.s (Qw J J J J (by assumption)) J J (DR.s (Qa J J J) J J (DR.s (Qt.yes J J J (Qu J J J J J J)) J J (DR.s (Qt.yes J J J (Qf J J J J (by decide))) J J (DR.s (Qt.yes J J J (Qg J J J J J)) J J (DR.s (Qt.yes J J J (Qf J J J J (by decide))) J J (DR.s (Qt.yes J J J (Qg J J J J J)) J J ?_)))))))))));refine DR.s (Qt.yes J J J (Qs J J J J (by omega))) J J (DR.s (Qt.yes J J J (Qf J J J J (by decide))) J J (DR.s (Qt.yes J J J (Qg J J J J J)) J J ?_));refine DR.s (Qt.yes J J J (Qj J J (cz) J)) J J ?_;refine DR.s (Qt.yes J J J (Qj J J (cs) J)) J J ?_;refine DR.s (Qo J J J J) J J (DR.stop (by kernel_rfl) (by kernel_rfl) (zz (Ql J (Qc (z2 J J J (z3 J (z7 J (by omega) (zx (q_min J J J J) J (z2 J J J ?_)))))))));refine Q5 J J J J J J J J (zz (Qd (zy (z0 J (zx (Zi J J J J (by omega)) J (zx (Z4 J J J J) J (z0 J ?_)))))));refine zx (Qt.grdT J J J .stop (fun hgrd => Qf J J J J (by decide))) J ?_;refine zx (Qt.grdT J J J (.hit .stop) (fun hgrd => Qg J J J J J)) J ?_;refine zx (Qt.grdT J J J (.hit (.hit .stop)) (fun hgrd => Zq J J J J)) J ?_;refine zx (Zg J J J J) J (zz ?_)
   refine Xb J (fun h => ?_) (fun h => ?_)
   ·have h2 : Fi = true := by rw [hFi]; exact h
    rw [h2]
    refine zy (z2 J J J ?_);refine Q5 J J J J J J J J (zz (zy (z4 J J J ?_)));refine Qy J J J J J J J J J (z1 J (zz (Xa (T_r (F_r ?_)))))
    exact Xn J J J J J (X5 [] (by decide) J J J)
   ·have h2 : Fi = false := by rw [hFi]; exact h
    rw [h2]
    refine Qh (Q0 (zy (z4 J J J ?_)));refine Qy J J J J J J J J J (z1 J (zz (Xa (F_r ?_))))
    exact Xn J J J J J (X5 [] (by decide) J J J)
 ·have fJ : decide (((i.toNat &&& (4 : Int).toNat : Nat) : Int) ≠ 0) = false := by simpa [pressed] using hJ
  rw [show pressed i 4 = false by simpa using hJ]
  refine Qd (Qd (Xi u8_17 u8_18 u8_19 J (DR.s (Qa J J J) J J (DR.s (Zi J J J J (by omega)) J J (DR.s (Qw J J J J (by assumption)) J J (DR.s (Qa J J J) J J (DR.s (Qt.no J J J J) J J (DR.s (Qt.no J J J J) J J (DR.s (Qt.no J J J J) J J (DR.s (Qt.no J J J J) J J (DR.s (Qt.no J J J J) J J ?_)))))))))));refine DR.s (Qt.no J J J J) J J (DR.s (Qt.no J J J J) J J (DR.s (Qt.no J J J J) J J (DR.s (Qt.no J J J J) J J (DR.s (Qt.no J J J J) J J (DR.s (Qn J J J J) J J (DR.stop (by kernel_rfl) (by kernel_rfl) (zz (Ql J (Qc (z2 J J J ?_))))))))));refine z3 J (z7 J (by omega) (zx (q_min J J J J) J (z2 J J J ?_)));refine Q5 J J J J J J J J (zz (Qd (zy (z0 J (zx (Zi J J J J (by omega)) J (zx (Z4 J J J J) J (z0 J ?_)))))));refine zx (Qt.grdT J J J .stop (fun hgrd => Qf J J J J (by decide))) J ?_;refine zx (Qt.grdT J J J (.hit .stop) (fun hgrd => Qg J J J J J)) J ?_;refine zx (Qt.grdT J J J (.hit (.hit .stop)) (fun hgrd => Zq J J J J)) J ?_;refine zx (Zg J J J J) J (zz ?_)
  refine Xb J (fun h => ?_) (fun h => ?_)
  ·have h2 : Fi = true := by rw [hFi]; exact h
   rw [h2]
   refine zy (z2 J J J ?_);refine Q5 J J J J J J J J (zz (zy (z4 J J J ?_)));refine Qy J J J J J J J J J (z1 J (zz (Xa (T_r (F_r ?_)))))
   exact Xn J J J J J (X5 [] (by decide) J J J)
  ·have h2 : Fi = false := by rw [hFi]; exact h
   rw [h2]
   refine Qh (Q0 (zy (z4 J J J ?_)));refine Qy J J J J J J J J J (z1 J (zz (Xa (F_r ?_))))
   exact Xn J J J J J (X5 [] (by decide) J J J)
end
end Go.Proofs.YtbfhboakafjjgaaGreat
