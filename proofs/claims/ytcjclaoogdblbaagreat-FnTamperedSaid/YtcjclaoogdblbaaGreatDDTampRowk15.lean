/-
  Parts of the proof (rules, data, and what functions of the program and of the reference return), among them: Who is met, and points, in the program and in the reference; The spots of a level, in the program and in the reference.
  Conditions: those that each theorem names.
-/
import Derived.Test.YtcjclaoogdblbaaGreatDDTampRowk14
set_option linter.unusedSimpArgs false
set_option linter.unusedVariables false
set_option maxRecDepth 8000
set_option maxHeartbeats 8000000
namespace Go.Proofs.YtcjclaoogdblbaaGreat
section
open Go.RowKit

theorem I_NextRandom (s : Int) (h : 0 ≤ s ∧ s ≤ 65535) : Con Tryz.prog 80 [] [ai s] [] (I (nextR s)) := by
 have f1 : decide (s < 0) = false := decide_eq_false (by omega)
 have f2 : decide (65535 < s) = false := decide_eq_false (by omega)
 refine Con.of Tryz.func80 J Tryz.ntmps80 J (fun E => ?_)
 refine zy (z1 J (zz (Qd (zy (z0 J (U1 J (z0 J (z5 J ?_))))))));refine z0 J (z5 J (Gb J (zpF J (zz (Ql J (Qh (Q0 (zy (z0 J ?_)))))))));refine zx (Uw J) J (Uh J (zx (Ul J) J (z1 J (zz (Xa (F_r ?_))))))
 exact Ud J (Ue [] J J (Xv (by rw [nextR,if_pos h])))
theorem and_64k (n : Int) (h : 0 ≤ n) : ((n.toNat &&& (65535 : Int).toNat : Nat) : Int) = n % 65536 := by
 have := Nat.and_two_pow_sub_one_eq_mod n.toNat 16
 rw [show (65535 : Int).toNat = 2 ^ 16 - 1 from rfl,this]
 omega
theorem S_NextRandom (s : Int) (h : 0 ≤ s ∧ s ≤ 65535) : Con Tryz.prog 111 [] [ai s] [] (I (nextR s)) := by
 have hc := S_in s 0 65535
 rw [Za.2 h] at hc
 refine Con.of Tryz.func111 J Tryz.ntmps111 J (fun E => ?_)
 refine zy (z1 J (zz (Qd (zy (z0 J ?_)))));refine zx (Qj J J (hc) J) J ?_;refine zn J (zz (Ql J (Qh (Q0 (zy (z0 J (zx (Uw J) J (Uh J (zx (Zv J J J J (by omega)) J ?_)))))))));refine z1 J (zz (Xa (F_r ?_)))
 exact Ud J (Ue [] J J (Xv (by rw [nextR,if_pos h,and_64k _ (by omega)])))
theorem I_RandomBelow (s n : Int) (h : 0 ≤ s ∧ s ≤ 65535) (hn : 1 ≤ n ∧ n ≤ 4096) : Con Tryz.prog 82 [] [ai s,ai n] [] (.tu [.c (jn (nextR s)),.c (jn (belowR s n))]) := by
 have f1 : decide (s < 0) = false := decide_eq_false (by omega)
 have f2 : decide (65535 < s) = false := decide_eq_false (by omega)
 have f3 : decide (n < 1) = false := decide_eq_false (by omega)
 have f4 : decide (4096 < n) = false := decide_eq_false (by omega)
 have hc := I_NextRandom s h
 have hr := Zm s
 refine Con.of Tryz.func82 J Tryz.ntmps82 J (fun E => ?_)
 refine zy (z1 J (z1 J (zz (Qd (zy (z0 J (U1 J (z0 J ?_))))))));refine z5 J (z0 J (z5 J (Gb J (zpF J (z0 J (z5 J (z0 J (z5 J (U1 J (zpF J (z0 J ?_)))))))))));refine z5 J (z0 J (z5 J (Gb J (zpF J (zz (Ql J (Qh (Q0 (zy ?_)))))))));refine z0 J ?_;refine zx (Qj J J (hc) J) J ?_;refine z1 J (zz (Qd (Xh u8_11 [[],[],[24],[],[24,25,26],[23],[4,23,24,25,26,27]] [[24,25,26,27],[4,23,26],[4,23,26],[4,23,24,25],[4,23],[24,25,26,27],[]] J (Ve (Vo J) J (Ve (Vo J) J (Ve (q_quo J J J J (by omega)) J (Ve (Vo J) J (Ve (Ul J) J (Ve (Qb J J J) J (Ve (Qb J J J) J ?_))))))))));refine Vd (zz (Xa (F_r ?_)))
 exact Xp J J J (Ue [] J J J)
theorem S_RandomBelow (s n : Int) (h : 0 ≤ s ∧ s ≤ 65535) (hn : 1 ≤ n ∧ n ≤ 4096) : Con Tryz.prog 113 [] [ai s,ai n] [] (.tu [.c (jn (nextR s)),.c (jn (belowR s n))]) := by
 have c1 := S_in s 0 65535
 have c2 := S_in n 1 4096
 rw [Za.2 h] at c1
 rw [Za.2 hn] at c2
 have hc := S_NextRandom s h
 have hr := Zm s
 refine Con.of Tryz.func113 J Tryz.ntmps113 J (fun E => ?_)
 refine zy (z1 J (z1 J (zz (Qd (zy (z0 J ?_))))));refine zx (Qj J J (c1) J) J ?_;refine zn J (z0 J (z5 J (z0 J (z5 J ?_))));refine zx (Qj J J (c2) J) J ?_;refine z5 J (zn J (zpF J (zz (Ql J (Qh (Q0 (zy (z0 J ?_))))))));refine zx (Qj J J (hc) J) J ?_;refine z1 J (zz (Qd (Xh u8_11 [[],[],[18],[],[18,19,20],[17],[4,17,18,19,20,21]] [[18,19,20,21],[4,17,20],[4,17,20],[4,17,18,19],[4,17],[18,19,20,21],[]] J (Ve (Vo J) J (Ve (Vo J) J (Ve (q_quo J J J J (by omega)) J (Ve (Vo J) J (Ve (Ul J) J (Ve (Qb J J J) J (Ve (Qb J J J) J ?_))))))))));refine Vd (zz (Xa (F_r ?_)))
 exact Xp J J J (Ue [] J J J)
theorem I_ShotOf (b : TBody) (hx : 0 ≤ b.X ∧ b.X ≤ 1000) (hy : 0 ≤ b.Y ∧ b.Y ≤ 1000) (ha : -1 ≤ b.Aim ∧ b.Aim ≤ 1) : Con Tryz.prog 96 [] [ag b] [] (.o (.ag ((Enc.e (shotOf b)).map (V1.rd [])))) := by
 have c1 := Xu b.X 0 1000
 have c2 := Xu b.Y 0 1000
 have c3 := Xu b.Aim (-1) 1
 rw [Za.2 hx] at c1
 rw [Za.2 hy] at c2
 rw [Za.2 ha] at c3
 refine Con.of Tryz.func96 J Tryz.ntmps96 J (fun E => ?_)
 refine zy (Un (Gf J) J (Un (Gh J J) J (zz (Qd (zy (Gg J J (z3 J ?_)))))));refine zx (Qj J J (c1) J) J ?_;refine zn J (z0 J (z5 J (Gg J J (z5 J (z3 J (z5 J ?_))))));refine zx (Qj J J (c2) J) J ?_;refine z5 J (zn J (zpF J (z0 J (z5 J (Gg J J (z5 J (z3 J (z5 J ?_))))))));refine zx (Qj J J (c3) J) J ?_;refine z5 J (zn J (zpF J (zz (Ql J (Qh (Q0 (zy (Gg J J (z3 J ?_)))))))));refine Gg J J (z3 J (Uh J (Gg J J (z3 J (Uh J (Gg J J (z3 J (zx (Uw J) J (zx (Zz J J J J J) J ?_)))))))));refine G1 J J (zz (Xa (F_r ?_)))
 exact Xl J J J J (Ue [] J J J)
theorem S_ShotOf (b : TBody) (hx : 0 ≤ b.X ∧ b.X ≤ 1000) (hy : 0 ≤ b.Y ∧ b.Y ≤ 1000) (ha : -1 ≤ b.Aim ∧ b.Aim ≤ 1) : Con Tryz.prog 108 [] [ag b] [] (.o (.ag ((Enc.e (shotOf b)).map (V1.rd [])))) := by
 have c1 := S_in b.X 0 1000
 have c2 := S_in b.Y 0 1000
 have c3 := S_in b.Aim (-1) 1
 rw [Za.2 hx] at c1
 rw [Za.2 hy] at c2
 rw [Za.2 ha] at c3
 refine Con.of Tryz.func108 J Tryz.ntmps108 J (fun E => ?_)
 refine zy (Un (Gf J) J (Un (Gh J J) J (zz (Qd (zy (Gg J J (z3 J ?_)))))));refine zx (Qj J J (c1) J) J ?_;refine zn J (z0 J (z5 J (Gg J J (z5 J (z3 J (z5 J ?_))))));refine zx (Qj J J (c2) J) J ?_;refine z5 J (zn J (zpF J (z0 J (z5 J (Gg J J (z5 J (z3 J (z5 J ?_))))))));refine zx (Qj J J (c3) J) J ?_;refine z5 J (zn J (zpF J (zz (Ql J (Qh (Q0 (zy (Gg J J (z3 J ?_)))))))));refine Gg J J (z3 J (Uh J (Gg J J (z3 J (Uh J (Gg J J (z3 J (zx (Uw J) J (zx (Zz J J J J J) J ?_)))))))));refine G1 J J (zz (Xa (F_r ?_)))
 exact Xl J J J J (Ue [] J J J)
theorem I_direction (v : Int) (h : -15 ≤ v ∧ v ≤ 15) : Con Tryz.prog 114 [] [ai v] [] (.tu [.c (jn (dirOf v)),.c (jn v.natAbs)]) := by
 by_cases hv : v < 0
 ·have f1 : decide (v < 0) = true := decide_eq_true hv
  refine Con.of Tryz.func114 J Tryz.ntmps114 J (fun E => ?_)
  refine zy (z1 J (z1 J (zz (Qd (zy (z0 J (U1 J (Qe ?_))))))));refine Q0 (Qm J (zy (z0 J (zx (q_neg J J J (by omega)) J (z1 J (z1 J (zz (Xa (T_r ?_)))))))));refine F_r ?_
  exact Xp J J J (Ue [] J J (tu2 (by rw [dirOf,if_pos hv]) (by omega)))
 ·have f1 : decide (v < 0) = false := decide_eq_false hv
  refine Con.of Tryz.func114 J Tryz.ntmps114 J (fun E => ?_)
  refine zy (z1 J (z1 J (zz (Qd (zy (z0 J (U1 J (Qe ?_))))))));refine Q0 (Ql J (Qh (Q0 (zy (z0 J (z1 J (z1 J (zz (Xa ?_)))))))));refine F_r ?_
  exact Xp J J J (Ue [] J J (tu2 (by rw [dirOf,if_neg hv]) (by omega)))
theorem I_BodiesMeet (a b : TBody) (ha : Placed a) (hb : Placed b) : Con Tryz.prog 115 [] [ag a,ag b] [] (B (meetM a b)) := by
 have sa := size_pos ha.k
 have sb := size_pos hb.k
 obtain ⟨ax1,ax2⟩ := ha.x
 obtain ⟨ay1,ay2⟩ := ha.y
 obtain ⟨bx1,bx2⟩ := hb.x
 obtain ⟨by1,by2⟩ := hb.y
 have c1 := I_SizeOf a.Kind
 have c2 := I_SizeOf b.Kind
 have f1 : decide (sizeOf a.Kind = 0) = false := decide_eq_false (by omega)
 have f2 : decide (sizeOf b.Kind = 0) = false := decide_eq_false (by omega)
 have x1 : decide (a.X < 0) = false := decide_eq_false (by omega)
 have x2 : decide (1000 < a.X) = false := decide_eq_false (by omega)
 have x3 : decide (a.Y < 0) = false := decide_eq_false (by omega)
 have x4 : decide (1000 < a.Y) = false := decide_eq_false (by omega)
 have x5 : decide (b.X < 0) = false := decide_eq_false (by omega)
 have x6 : decide (1000 < b.X) = false := decide_eq_false (by omega)
 have x7 : decide (b.Y < 0) = false := decide_eq_false (by omega)
 have x8 : decide (1000 < b.Y) = false := decide_eq_false (by omega)
 refine Con.of Tryz.func115 J Tryz.ntmps115 J (fun E => ?_)
 refine zy (Un (Gf J) J (Un (Gf J) J (z1 J (zz (zy (Gg J J (z3 J ?_)))))));refine zx (Qj J J (c1) J) J ?_;refine z1 J (zz (zy (Gg J J (z3 J ?_))));refine zx (Qj J J (c2) J) J ?_;refine z1 J (zz (Qd (zy (z0 J (Gr J (z0 J (z5 J (z0 J (z5 J ?_)))))))));refine Gr J (zpF J (zz (Ql J (Qh (Q0 (Qd (zy (Gg J J (z3 J ?_)))))))));refine Gg J J (z3 J (Gg J J (z3 J (Gg J J (z3 J (Un (Uo J J) J (zx (q_lensb J J J) J (z0 J (zz (Qk ?_))))))))));refine Xi (fun m st => ∃ k : Nat,k + m = 4 ∧ (True) ∧ st = (⟨_,[(2,.o (.c (.ptr 0 0))),(3,.o (.c (.ptr 1 0))),(5,I (sizeOf a.Kind)),(6,I (sizeOf b.Kind)),(29,.o (.c (.sb 2 4 1))),(30,I 4),(31,I k)],[.box ((Enc.e a).map (V1.rd [])),.box ((Enc.e b).map (V1.rd [])),.box [jn a.X,jn a.Y,jn b.X,jn b.Y]]⟩ : St)) (4) ⟨_,⟨0,by omega,trivial,J⟩,Uf [0,1,2]⟩ ?_
 rintro m_A _ ⟨k,hk_A,hp_A,rfl⟩
 have hk : k = 0 ∨ k = 1 ∨ k = 2 ∨ k = 3 ∨ k = 4 := by omega
 rcases hk with hk | hk | hk | hk | hk
 ·subst hk
  refine zy ?_;refine zx (Qr (b := true) J J J J (by decide)) J ?_;refine zz (Qd (Qm J (Qh (Q0 (Qd (Qk (zy (zx (q_sbat J J J J (by omega)) J (z3 J ?_)))))))));refine z1 J (zz (zy (z0 J (U1 J (z0 J (z5 J (z0 J (z5 J (Gb J ?_)))))))));refine zpF J (zz (Ql J (Qh (Q1 (Q0 (Qc (Uh J (z0 J (zz ?_)))))))))
  exact ⟨4 - (0 + 1),by omega,_,⟨0 + 1,by omega,trivial,J⟩,Uf [0,1,2]⟩
 ·subst hk
  refine zy ?_;refine zx (Qr (b := true) J J J J (by decide)) J ?_;refine zz (Qd (Qm J (Qh (Q0 (Qd (Qk (zy (zx (q_sbat J J J J (by omega)) J (z3 J ?_)))))))));refine z1 J (zz (zy (z0 J (U1 J (z0 J (z5 J (z0 J (z5 J (Gb J ?_)))))))));refine zpF J (zz (Ql J (Qh (Q1 (Q0 (Qc (Uh J (z0 J (zz ?_)))))))))
  exact ⟨4 - (1 + 1),by omega,_,⟨1 + 1,by omega,trivial,J⟩,Uf [0,1,2]⟩
 ·subst hk
  refine zy ?_;refine zx (Qr (b := true) J J J J (by decide)) J ?_;refine zz (Qd (Qm J (Qh (Q0 (Qd (Qk (zy (zx (q_sbat J J J J (by omega)) J (z3 J ?_)))))))));refine z1 J (zz (zy (z0 J (U1 J (z0 J (z5 J (z0 J (z5 J (Gb J ?_)))))))));refine zpF J (zz (Ql J (Qh (Q1 (Q0 (Qc (Uh J (z0 J (zz ?_)))))))))
  exact ⟨4 - (2 + 1),by omega,_,⟨2 + 1,by omega,trivial,J⟩,Uf [0,1,2]⟩
 ·subst hk
  refine zy ?_;refine zx (Qr (b := true) J J J J (by decide)) J ?_;refine zz (Qd (Qm J (Qh (Q0 (Qd (Qk (zy (zx (q_sbat J J J J (by omega)) J (z3 J ?_)))))))));refine z1 J (zz (zy (z0 J (U1 J (z0 J (z5 J (z0 J (z5 J (Gb J ?_)))))))));refine zpF J (zz (Ql J (Qh (Q1 (Q0 (Qc (Uh J (z0 J (zz ?_)))))))))
  exact ⟨4 - (3 + 1),by omega,_,⟨3 + 1,by omega,trivial,J⟩,Uf [0,1,2]⟩
 ·subst hk
  refine zy ?_;refine zx (Qr (b := false) J J J J (by decide)) J ?_;refine zz (Qd (Ql J (Q9 (T_x (T_x (Xk (Q0 (zy (Gg J J ?_)))))))));refine z3 J (Gg J J (z3 J (z0 J (Uh J (zx (Vi J) J (z0 J ?_))))));refine zx (Qt.grdT J J J .stop (fun hgrd => Vq J J)) J ?_;refine zx (Ub J (.hit .stop) (fun hgrd => Vr J)) J ?_;refine zx (Ub J (.hit (.hit .stop)) (fun hgrd => Vq J J)) J ?_;refine zx (Ub J (.hit (.hit (.hit .stop))) (fun hgrd => Vr J)) J ?_;refine zx (Ub J (.hit (.hit (.hit (.hit .stop)))) (fun hgrd => Vo J)) J ?_;refine zx (Ub J (.hit (.hit (.hit (.hit (.hit .stop))))) (fun hgrd => Vt J)) J ?_;refine zx (Ub J (.hit (.hit (.hit (.hit (.hit (.hit .stop)))))) (fun hgrd => Vi J)) J ?_;refine zx (Zt J J J J) J (z0 J ?_);refine zx (Qt.grdT J J J .stop (fun hgrd => Vq J J)) J ?_;refine zx (Ub J (.hit .stop) (fun hgrd => Vr J)) J ?_;refine zx (Ub J (.hit (.hit .stop)) (fun hgrd => Vq J J)) J ?_;refine zx (Ub J (.hit (.hit (.hit .stop))) (fun hgrd => Vr J)) J ?_;refine zx (Ub J (.hit (.hit (.hit (.hit .stop)))) (fun hgrd => Vo J)) J ?_;refine zx (Ub J (.hit (.hit (.hit (.hit (.hit .stop))))) (fun hgrd => Vt J)) J ?_;refine zx (Ub J (.hit (.hit (.hit (.hit (.hit (.hit .stop)))))) (fun hgrd => Vi J)) J ?_;refine zx (Zt J J J J) J (z0 J ?_);refine zx (Qt.grdT J J J .stop (fun hgrd => Vq J J)) J ?_;refine zx (Ub J (.hit .stop) (fun hgrd => Vr J)) J ?_;refine zx (Ub J (.hit (.hit .stop)) (fun hgrd => Vq J J)) J ?_;refine zx (Ub J (.hit (.hit (.hit .stop))) (fun hgrd => Vr J)) J ?_;refine zx (Ub J (.hit (.hit (.hit (.hit .stop)))) (fun hgrd => Vo J)) J ?_;refine zx (Ub J (.hit (.hit (.hit (.hit (.hit .stop))))) (fun hgrd => Vt J)) J ?_;refine zx (Ub J (.hit (.hit (.hit (.hit (.hit (.hit .stop)))))) (fun hgrd => Vi J)) J ?_;refine zx (Zt J J J J) J (z1 J (zz (Xa (F_r ?_))))
  exact Ud J (Ue [] J J J)
theorem S_BodiesMeet (a b : TBody) (ha : Placed a) (hb : Placed b) : Con Tryz.prog 123 [] [ag a,ag b] [] (B (meetM a b)) := by
 have sa := size_pos ha.k
 have sb := size_pos hb.k
 obtain ⟨ax1,ax2⟩ := ha.x
 obtain ⟨ay1,ay2⟩ := ha.y
 obtain ⟨bx1,bx2⟩ := hb.x
 obtain ⟨by1,by2⟩ := hb.y
 have c1 := S_SizeOf a.Kind
 have c2 := S_SizeOf b.Kind
 have c3 := S_in a.X 0 1000
 have c4 := S_in a.Y 0 1000
 have c5 := S_in b.X 0 1000
 have c6 := S_in b.Y 0 1000
 rw [Za.2 ha.x] at c3
 rw [Za.2 ha.y] at c4
 rw [Za.2 hb.x] at c5
 rw [Za.2 hb.y] at c6
 have f1 : decide (sizeOf a.Kind = 0) = false := decide_eq_false (by omega)
 have f2 : decide (sizeOf b.Kind = 0) = false := decide_eq_false (by omega)
 refine Con.of Tryz.func123 J Tryz.ntmps123 J (fun E => ?_)
 refine zy (Un (Gf J) J (Un (Gf J) J (z1 J (zz (zy (Gg J J (z3 J ?_)))))));refine zx (Qj J J (c1) J) J ?_;refine z1 J (zz (zy (Gg J J (z3 J ?_))));refine zx (Qj J J (c2) J) J ?_;refine z1 J (zz (Qd (zy (z0 J (Gr J (z0 J (z5 J (z0 J (z5 J ?_)))))))));refine Gr J (zpF J (z0 J (z5 J (Gg J J (z5 J (z3 J (z5 J ?_)))))));refine zx (Qj J J (c3) J) J ?_;refine z5 J (zn J (zpF J (z0 J (z5 J (Gg J J (z5 J (z3 J (z5 J ?_))))))));refine zx (Qj J J (c4) J) J ?_;refine z5 J (zn J (zpF J (z0 J (z5 J (Gg J J (z5 J (z3 J (z5 J ?_))))))));refine zx (Qj J J (c5) J) J ?_;refine z5 J (zn J (zpF J (z0 J (z5 J (Gg J J (z5 J (z3 J (z5 J ?_))))))));refine zx (Qj J J (c6) J) J ?_;refine z5 J (zn J (zpF J (zz (Ql J (Qh (Q0 (zy (Gg J J (z3 J ?_)))))))));refine Gg J J (z3 J (z0 J (Uh J (zx (Vi J) J (z0 J ?_)))));refine zx (Qt.grdT J J J .stop (fun hgrd => Vq J J)) J ?_;refine zx (Ub J (.hit .stop) (fun hgrd => Vr J)) J ?_;refine zx (Ub J (.hit (.hit .stop)) (fun hgrd => Vq J J)) J ?_;refine zx (Ub J (.hit (.hit (.hit .stop))) (fun hgrd => Vr J)) J ?_;refine zx (Ub J (.hit (.hit (.hit (.hit .stop)))) (fun hgrd => Vo J)) J ?_;refine zx (Ub J (.hit (.hit (.hit (.hit (.hit .stop))))) (fun hgrd => Vt J)) J ?_;refine zx (Ub J (.hit (.hit (.hit (.hit (.hit (.hit .stop)))))) (fun hgrd => Vi J)) J ?_;refine zx (Zt J J J J) J (z0 J ?_);refine zx (Qt.grdT J J J .stop (fun hgrd => Vq J J)) J ?_;refine zx (Ub J (.hit .stop) (fun hgrd => Vr J)) J ?_;refine zx (Ub J (.hit (.hit .stop)) (fun hgrd => Vq J J)) J ?_;refine zx (Ub J (.hit (.hit (.hit .stop))) (fun hgrd => Vr J)) J ?_;refine zx (Ub J (.hit (.hit (.hit (.hit .stop)))) (fun hgrd => Vo J)) J ?_;refine zx (Ub J (.hit (.hit (.hit (.hit (.hit .stop))))) (fun hgrd => Vt J)) J ?_;refine zx (Ub J (.hit (.hit (.hit (.hit (.hit (.hit .stop)))))) (fun hgrd => Vi J)) J ?_;refine zx (Zt J J J J) J (z0 J ?_);refine zx (Qt.grdT J J J .stop (fun hgrd => Vq J J)) J ?_;refine zx (Ub J (.hit .stop) (fun hgrd => Vr J)) J ?_;refine zx (Ub J (.hit (.hit .stop)) (fun hgrd => Vq J J)) J ?_;refine zx (Ub J (.hit (.hit (.hit .stop))) (fun hgrd => Vr J)) J ?_;refine zx (Ub J (.hit (.hit (.hit (.hit .stop)))) (fun hgrd => Vo J)) J ?_;refine zx (Ub J (.hit (.hit (.hit (.hit (.hit .stop))))) (fun hgrd => Vt J)) J ?_;refine zx (Ub J (.hit (.hit (.hit (.hit (.hit (.hit .stop)))))) (fun hgrd => Vi J)) J ?_;refine zx (Zt J J J J) J (z1 J (zz (Xa (F_r ?_))))
 exact Ud J (Ue [] J J J)
end
section
open Go.RowKit

theorem Zs {l : TLevel} {x y s : Int} (hl : levelOk l = true) (h1 : 1 ≤ s ∧ s ≤ 16) (h : solidM l x y s = false) : (0 ≤ x ∧ x ≤ 400) ∧ (0 ≤ y ∧ y ≤ 400) := by
 obtain ⟨l3,l12,w,w4,w20,hw⟩ := Zh hl
 have hn : ¬ hits l x y s := fun hh => by rw [Kz hh] at h; cases h
 have : ¬ (x < 0 ∨ y < 0 ∨ (w : Int) * 16 - s < x ∨ (l.Rows.length : Int) * 16 - s < y) := fun q => hn (out_hits hw h1.1 q)
 omega
theorem solidAt_eq {l : TLevel} {x y s : Int} (hl : levelOk l = true) (h1 : 1 ≤ s ∧ s ≤ 16) : solidAt l x y s = solidM l x y s := by
 rw [solidAt,Za.2 h1,hl]; rfl
theorem steer_and {i : Int} {k m : Int} (h : (pressed i k && decide (((i.toNat &&& m.toNat : Nat) : Int) = 0)) = true) : (pressed i k && !pressed i m) = true := by
 simp only [Bool.and_eq_true,decide_eq_true_eq,Bool.not_eq_true'] at h ⊢
 exact ⟨h.1,decide_eq_false (fun q => q h.2)⟩
theorem steer_no {i : Int} {k m : Int} (h : (pressed i k && decide (((i.toNat &&& m.toNat : Nat) : Int) = 0)) = false) : (pressed i k && !pressed i m) = false := by
 rw [← Bool.not_eq_true] at h ⊢
 intro q
 simp only [Bool.and_eq_true,decide_eq_true_eq,Bool.not_eq_true',pressed,decide_eq_false_iff_not,Classical.not_not] at h q
 exact h q
@[reducible] def stB (K O X Y VX VY A L T : Int) : List V1 := [jn K,jn O,jn X,jn Y,jn VX,jn VY,jn A,jn L,jn T]
theorem I_SteerPlayer (l : TLevel) (b : TBody) (i : Int) (hg : Enc.gd l) (hl : levelOk l = true) (gb : Enc.gd b) (hk : b.Kind = 0) (ho : 0 ≤ b.Owner ∧ b.Owner ≤ 3) (hf : 1 ≤ b.Life) (hi : 0 ≤ i ∧ i ≤ 15) (hb : bodyM l (b.Owner + 1) b = true) (ht : 0 ≤ b.Timer ∧ b.Timer ≤ 20) (hv : -15 ≤ b.VY ∧ b.VY ≤ 15) (hp : solidM l b.X b.Y 12 = false) : Con Tryz.prog 95 [] [ag l,ag b,ai i] [] (.tu [.ag ((Enc.e (steer l b i).1).map (V1.rd [])),.c (bv (steer l b i).2)]) := by
 obtain ⟨⟨px1,px2⟩,⟨py1,py2⟩⟩ := Zs hl (by decide) hp
 have c1 := Xt l hg
 have c2 := Xu b.Owner 0 3
 have c3 := Xu i 0 15
 have c4 := I_BodyOk l (b.Owner + 1) b hg gb (by omega)
 rw [hl] at c1
 rw [Za.2 ho] at c2
 rw [Za.2 hi] at c3
 rw [hl,hb] at c4
 have f1 : decide (b.Kind ≠ 0) = false := decide_eq_false (fun q => q hk)
 have f2 : decide (b.Life < 1) = false := decide_eq_false (by omega)
 have cs := I_SolidAt l b.X (b.Y + 1) 12 hg ⟨by omega,by omega⟩ ⟨by omega,by omega⟩
 rw [solidAt_eq hl (by decide)] at cs
 have cz : Con Tryz.prog 66 [] [ai 0] [] (I 12) := I_SizeOf 0
 obtain ⟨T,hT⟩ : ∃ T,T = (if 0 < b.Timer then b.Timer - 1 else b.Timer) := ⟨_,rfl⟩
 have hT1 : 0 ≤ T ∧ T ≤ 20 := by rw [hT]; split <;> omega
 obtain ⟨R,hR⟩ : ∃ R,R = (pressed i 2 && !pressed i 1) := ⟨_,rfl⟩
 obtain ⟨Lf,hLf⟩ : ∃ Lf,Lf = (pressed i 1 && !pressed i 2) := ⟨_,rfl⟩
 rw [steer,← hT,← hR,← hLf]
 refine Con.of Tryz.func95 J Tryz.ntmps95 J (fun E => ?_)
 refine zy (Un (Gf J) J (Un (Gf J) J (Un (Gh J J) J (z1 J (zz (Qd (zy (Gw J J ?_))))))));refine zx (Qj J J (c1) J) J ?_;refine zn J (z0 J (z5 J (Gg J J (z5 J (z3 J (z5 J (Gn J (zpF J (z0 J (z5 J (Gg J J ?_)))))))))));refine z5 J (z3 J (z5 J (U1 J (zpF J (z0 J (z5 J (Gg J J (z5 J (z3 J (z5 J ?_))))))))));refine zx (Qj J J (c2) J) J ?_;refine z5 J (zn J (zpF J (zz (Ql J (Qh (Q0 (Qd (zy (z0 J ?_)))))))));refine zx (Qj J J (c3) J) J ?_;refine zn J (z0 J (z5 J (Gw J J (z5 J (Gg J J (z5 J (z3 J (z5 J (Uh J (z5 J (Gw J J ?_)))))))))));refine z5 J ?_;refine zx (Qj J J (c4) J) J ?_;refine z5 J (zn J (zpF J (zz (Ql J (Qh (Q0 (Qd (zy (Gg J J ?_)))))))));refine z3 J (zx (Z9 J J J J) J (zz ?_))
 refine A_join (⟨101,[(2,I i),(3,.o (.c (.ptr 0 0))),(4,.o (.c (.ptr 1 0))),(6,.o (.c (.ptr 2 0)))],[.box ((Enc.e l).map (V1.rd [])),.box (stB b.Kind b.Owner b.X b.Y b.VX b.VY b.Aim b.Life T),.box (stB 0 0 0 0 0 0 0 0 0)]⟩ : St) ?_ ?_
 ·refine Xb rfl (fun h => ?_) (fun h => ?_)
  ·have h := of_decide_eq_true h
   have hT2 : b.Timer - 1 = T := by rw [hT,if_pos h]
   refine Qc (Gg J J (z3 J (Ux J (Gg J J ?_))));refine Gl J (Qe ?_)
   exact Mid.n (by rw [← hT2]; exact Uf [0,1,2])
  ·have h := of_decide_eq_false h
   have hT2 : b.Timer = T := by rw [hT,if_neg h]
   refine Qh ?_
   exact Mid.n (by rw [← hT2]; exact Uf [0,1,2])
 refine zy (z0 J (zx (Zv J J J J (by omega)) J (zx (Kj J J J J) J (z1 J (zz (zy (z0 J (zx (Zv J J J J (by omega)) J ?_))))))));refine zx (Kj J J J J) J (z1 J (zz (zy (Gg J J ?_))));refine Gl J (zz (Qd (zy (z0 J (z0 J ?_)))));refine zx (Qt.grdT J J J .stop (fun hgrd => Vo J)) J ?_;refine zx (Ub J (.hit .stop) (fun hgrd => V3 J)) J ?_;refine zx (Zt J J J J) J (zz ?_)
 refine A_join (⟨101,[(2,I i),(3,.o (.c (.ptr 0 0))),(4,.o (.c (.ptr 1 0))),(6,.o (.c (.ptr 2 0))),(8,B (pressed i 1)),(9,B (pressed i 2))],[.box ((Enc.e l).map (V1.rd [])),.box (stB b.Kind b.Owner b.X b.Y (if R = true then 3 else 0) b.VY (if R = true then 1 else b.Aim) b.Life T),.box (stB 0 0 0 0 0 0 0 0 0)]⟩ : St) ?_ ?_
 ·refine Xb rfl (fun h => ?_) (fun h => ?_)
  ·have h2 : R = true := by rw [hR]; exact h
   refine zy (Gg J J ?_);refine Gl J (zz (Qc (Gg J J ?_)));refine Gl J (Qe ?_)
   exact Mid.n (by rw [if_pos h2,if_pos h2]; exact Uf [0,1,2])
  ·have h2 : ¬ R = true := by rw [hR]; intro q; exact Bool.false_ne_true (Eq.trans (h).symm q)
   refine Qh ?_
   exact Mid.n (by rw [if_neg h2,if_neg h2]; exact Uf [0,1,2])
 refine Qd (zy (z0 J (z0 J ?_)));refine zx (Qt.grdT J J J .stop (fun hgrd => Vo J)) J ?_;refine zx (Ub J (.hit .stop) (fun hgrd => V3 J)) J ?_;refine zx (Zt J J J J) J (zz ?_)
 refine A_join (⟨101,[(2,I i),(3,.o (.c (.ptr 0 0))),(4,.o (.c (.ptr 1 0))),(6,.o (.c (.ptr 2 0))),(8,B (pressed i 1)),(9,B (pressed i 2))],[.box ((Enc.e l).map (V1.rd [])),.box (stB b.Kind b.Owner b.X b.Y (if Lf = true then -3 else if R = true then 3 else 0) b.VY (if Lf = true then -1 else if R = true then 1 else b.Aim) b.Life T),.box (stB 0 0 0 0 0 0 0 0 0)]⟩ : St) ?_ ?_
 ·refine Xb rfl (fun h => ?_) (fun h => ?_)
  ·have h2 : Lf = true := by rw [hLf]; exact h
   refine zy (Gg J J ?_);refine Gl J (zz (Qc (Gg J J ?_)));refine Gl J (Qe ?_)
   exact Mid.n (by rw [if_pos h2,if_pos h2]; exact Uf [0,1,2])
  ·have h2 : ¬ Lf = true := by rw [hLf]; intro q; exact Bool.false_ne_true (Eq.trans (h).symm q)
   refine Qh ?_
   exact Mid.n (by rw [if_neg h2,if_neg h2]; exact Uf [0,1,2])
 obtain ⟨vx,hvx⟩ : ∃ vx,vx = (if Lf = true then -3 else if R = true then 3 else 0) := ⟨_,rfl⟩
 obtain ⟨am,ham⟩ : ∃ am,am = (if Lf = true then -1 else if R = true then 1 else b.Aim) := ⟨_,rfl⟩
 rw [← hvx,← ham]
 obtain ⟨Fi,hFi⟩ : ∃ Fi,Fi = (pressed i 8 && decide (T = 0)) := ⟨_,rfl⟩
 rw [← hFi]
 by_cases hJ : pressed i 4 = true
 ·have fJ : decide (((i.toNat &&& (4 : Int).toNat : Nat) : Int) ≠ 0) = true := hJ
  cases hs : solidM l b.X (b.Y + 1) 12 with
  | true =>
   rw [hs] at cs
   rw [hJ]
   refine Qd (Qd (Xh u8_12 u8_13 u8_14 J (Ve (Vo J) J (Ve (Zv J J J J (by omega)) J (Ve (Vy J) J (Ve (Vo J) J (Ve (Gy J (Vs J J)) J (Ve (Gy J (Vq J J)) J (Ve (Gy J (Vr J)) J (Ve (Gy J (Vq J J)) J (Ve (Gy J (Vr J)) J ?_)))))))))));refine Ve (Gy J (Vt J)) J ?_;refine Ve (Gy J (Qj J J (cz) J)) J ?_;refine Ve (Gy J (Qj J J (cs) J)) J ?_;refine Ve (Qo J J J J) J (Vd (zz (Qm J (Qc (Gg J J ?_)))));refine Gl J (zz (Qd (zy (z0 J (zx (Zv J J J J (by omega)) J (zx (Kj J J J J) J (z0 J ?_)))))));refine zx (Qt.grdT J J J .stop (fun hgrd => Vq J J)) J ?_;refine zx (Ub J (.hit .stop) (fun hgrd => Vr J)) J ?_;refine zx (Ub J (.hit (.hit .stop)) (fun hgrd => Z5 J J J J)) J ?_;refine zx (Zt J J J J) J (zz ?_)
   refine Xb J (fun h => ?_) (fun h => ?_)
   ·have h2 : Fi = true := by rw [hFi]; exact h
    rw [h2]
    refine zy (Gg J J ?_);refine Gl J (zz (zy (Gw J J ?_)));refine G1 J J (z1 J (zz (Xa (T_r (F_r ?_)))))
    exact G7 J J (Ue [] J J J)
   ·have h2 : Fi = false := by rw [hFi]; exact h
    rw [h2]
    refine Qh (Q0 (zy (Gw J J ?_)));refine G1 J J (z1 J (zz (Xa (F_r ?_))))
    exact G7 J J (Ue [] J J J)
  | false =>
   rw [hs] at cs
   rw [hJ]
   refine Qd (Qd (Xh u8_12 u8_13 u8_14 J (Ve (Vo J) J (Ve (Zv J J J J (by omega)) J (Ve (Vy J) J (Ve (Vo J) J (Ve (Gy J (Vs J J)) J (Ve (Gy J (Vq J J)) J (Ve (Gy J (Vr J)) J (Ve (Gy J (Vq J J)) J (Ve (Gy J (Vr J)) J ?_)))))))))));refine Ve (Gy J (Vt J)) J ?_;refine Ve (Gy J (Qj J J (cz) J)) J ?_;refine Ve (Gy J (Qj J J (cs) J)) J ?_;refine Ve (Qo J J J J) J (Vd (zz (Ql J (Qc (Gg J J (z3 J (Uh J (zx (q_min J J J J) J (Gg J J ?_)))))))));refine Gl J (zz (Qd (zy (z0 J (zx (Zv J J J J (by omega)) J (zx (Kj J J J J) J (z0 J ?_)))))));refine zx (Qt.grdT J J J .stop (fun hgrd => Vq J J)) J ?_;refine zx (Ub J (.hit .stop) (fun hgrd => Vr J)) J ?_;refine zx (Ub J (.hit (.hit .stop)) (fun hgrd => Z5 J J J J)) J ?_;refine zx (Zt J J J J) J (zz ?_)
   refine Xb J (fun h => ?_) (fun h => ?_)
   ·have h2 : Fi = true := by rw [hFi]; exact h
    rw [h2]
    refine zy (Gg J J ?_);refine Gl J (zz (zy (Gw J J ?_)));refine G1 J J (z1 J (zz (Xa (T_r (F_r ?_)))))
    exact G7 J J (Ue [] J J J)
   ·have h2 : Fi = false := by rw [hFi]; exact h
    rw [h2]
    refine Qh (Q0 (zy (Gw J J ?_)));refine G1 J J (z1 J (zz (Xa (F_r ?_))))
    exact G7 J J (Ue [] J J J)
 ·have fJ : decide (((i.toNat &&& (4 : Int).toNat : Nat) : Int) ≠ 0) = false := by simpa [pressed] using hJ
  rw [show pressed i 4 = false by simpa using hJ]
  refine Qd (Qd (Xh u8_12 u8_13 u8_14 J (Ve (Vo J) J (Ve (Zv J J J J (by omega)) J (Ve (Vy J) J (Ve (Vo J) J (Ve (Gx J) J (Ve (Gx J) J (Ve (Gx J) J (Ve (Gx J) J (Ve (Gx J) J ?_)))))))))));refine Ve (Gx J) J (Ve (Gx J) J (Ve (Gx J) J (Ve (V0 J) J (Vd (zz (Ql J (Qc (Gg J J (z3 J (Uh J ?_))))))))));refine zx (q_min J J J J) J (Gg J J ?_);refine Gl J (zz (Qd (zy (z0 J (zx (Zv J J J J (by omega)) J (zx (Kj J J J J) J (z0 J ?_)))))));refine zx (Qt.grdT J J J .stop (fun hgrd => Vq J J)) J ?_;refine zx (Ub J (.hit .stop) (fun hgrd => Vr J)) J ?_;refine zx (Ub J (.hit (.hit .stop)) (fun hgrd => Z5 J J J J)) J ?_;refine zx (Zt J J J J) J (zz ?_)
  refine Xb J (fun h => ?_) (fun h => ?_)
  ·have h2 : Fi = true := by rw [hFi]; exact h
   rw [h2]
   refine zy (Gg J J ?_);refine Gl J (zz (zy (Gw J J ?_)));refine G1 J J (z1 J (zz (Xa (T_r (F_r ?_)))))
   exact G7 J J (Ue [] J J J)
  ·have h2 : Fi = false := by rw [hFi]; exact h
   rw [h2]
   refine Qh (Q0 (zy (Gw J J ?_)));refine G1 J J (z1 J (zz (Xa (F_r ?_))))
   exact G7 J J (Ue [] J J J)
theorem S_l02Steer (l : TLevel) (b : TBody) (i : Int) (hg : Enc.gd l) (hl : levelOk l = true) (hk : b.Kind = 0) (hi : 0 ≤ i ∧ i ≤ 15) (ht : 0 ≤ b.Timer ∧ b.Timer ≤ 20) (hv : -15 ≤ b.VY ∧ b.VY ≤ 15) (hp : solidM l b.X b.Y 12 = false) : Con Tryz.prog 107 [] [ag l,ag b,ai i] [] (.tu [.ag ((Enc.e (steer l b i).1).map (V1.rd [])),.c (bv (steer l b i).2)]) := by
 obtain ⟨⟨px1,px2⟩,⟨py1,py2⟩⟩ := Zs hl (by decide) hp
 have cs := S_l02Solid l b.X (b.Y + 1) 12 hl ⟨by omega,by omega⟩ ⟨by omega,by omega⟩ (by decide) (by decide)
 have cz : Con Tryz.prog 120 [] [ai b.Kind] [] (I 12) := by rw [hk]; exact S_SizeOf 0
 obtain ⟨T,hT⟩ : ∃ T,T = (if 0 < b.Timer then b.Timer - 1 else b.Timer) := ⟨_,rfl⟩
 have hT1 : 0 ≤ T ∧ T ≤ 20 := by rw [hT]; split <;> omega
 obtain ⟨R,hR⟩ : ∃ R,R = (pressed i 2 && !pressed i 1) := ⟨_,rfl⟩
 obtain ⟨Lf,hLf⟩ : ∃ Lf,Lf = (pressed i 1 && !pressed i 2) := ⟨_,rfl⟩
 rw [steer,← hT,← hR,← hLf]
 refine Con.of Tryz.func107 J Tryz.ntmps107 J (fun E => ?_)
 refine zy (Un (Gf J) J (Un (Gf J) J (Un (Gh J J) J (z1 J (zz (Qd (zy (Gg J J ?_))))))));refine z3 J (zx (Z9 J J J J) J (zz ?_))
 refine A_join (⟨68,[(2,I i),(3,.o (.c (.ptr 0 0))),(4,.o (.c (.ptr 1 0))),(6,.o (.c (.ptr 2 0)))],[.box ((Enc.e l).map (V1.rd [])),.box (stB b.Kind b.Owner b.X b.Y b.VX b.VY b.Aim b.Life T),.box (stB 0 0 0 0 0 0 0 0 0)]⟩ : St) ?_ ?_
 ·refine Xb rfl (fun h => ?_) (fun h => ?_)
  ·have h := of_decide_eq_true h
   have hT2 : b.Timer - 1 = T := by rw [hT,if_pos h]
   refine Qc (Gg J J (z3 J (Ux J (Gg J J ?_))));refine Gl J (Qe ?_)
   exact Mid.n (by rw [← hT2]; exact Uf [0,1,2])
  ·have h := of_decide_eq_false h
   have hT2 : b.Timer = T := by rw [hT,if_neg h]
   refine Qh ?_
   exact Mid.n (by rw [← hT2]; exact Uf [0,1,2])
 refine zy (Gg J J ?_);refine Gl J (zz (Qd (zy (z0 J (zx (Zv J J J J (by omega)) J (zx (Kj J J J J) J (z0 J ?_)))))));refine zx (Qt.grdT J J J .stop (fun hgrd => Vo J)) J ?_;refine zx (Ub J (.hit .stop) (fun hgrd => Zv J J J J (by omega))) J ?_;refine zx (Ub J (.hit (.hit .stop)) (fun hgrd => Z5 J J J J)) J ?_;refine zx (Zt J J J J) J (zz ?_)
 refine A_join (⟨68,[(2,I i),(3,.o (.c (.ptr 0 0))),(4,.o (.c (.ptr 1 0))),(6,.o (.c (.ptr 2 0)))],[.box ((Enc.e l).map (V1.rd [])),.box (stB b.Kind b.Owner b.X b.Y (if R = true then 3 else 0) b.VY (if R = true then 1 else b.Aim) b.Life T),.box (stB 0 0 0 0 0 0 0 0 0)]⟩ : St) ?_ ?_
 ·refine Xb rfl (fun h => ?_) (fun h => ?_)
  ·have h2 : R = true := by rw [hR]; exact steer_and h
   refine zy (Gg J J ?_);refine Gl J (zz (Qc (Gg J J ?_)));refine Gl J (Qe ?_)
   exact Mid.n (by rw [if_pos h2,if_pos h2]; exact Uf [0,1,2])
  ·have h2 : ¬ R = true := by rw [hR]; intro q; exact Bool.false_ne_true (Eq.trans (steer_no h).symm q)
   refine Qh ?_
   exact Mid.n (by rw [if_neg h2,if_neg h2]; exact Uf [0,1,2])
 refine Qd (zy (z0 J (zx (Zv J J J J (by omega)) J (zx (Kj J J J J) J (z0 J ?_)))));refine zx (Qt.grdT J J J .stop (fun hgrd => Vo J)) J ?_;refine zx (Ub J (.hit .stop) (fun hgrd => Zv J J J J (by omega))) J ?_;refine zx (Ub J (.hit (.hit .stop)) (fun hgrd => Z5 J J J J)) J ?_;refine zx (Zt J J J J) J (zz ?_)
 refine A_join (⟨68,[(2,I i),(3,.o (.c (.ptr 0 0))),(4,.o (.c (.ptr 1 0))),(6,.o (.c (.ptr 2 0)))],[.box ((Enc.e l).map (V1.rd [])),.box (stB b.Kind b.Owner b.X b.Y (if Lf = true then -3 else if R = true then 3 else 0) b.VY (if Lf = true then -1 else if R = true then 1 else b.Aim) b.Life T),.box (stB 0 0 0 0 0 0 0 0 0)]⟩ : St) ?_ ?_
 ·refine Xb rfl (fun h => ?_) (fun h => ?_)
  ·have h2 : Lf = true := by rw [hLf]; exact steer_and h
   refine zy (Gg J J ?_);refine Gl J (zz (Qc (Gg J J ?_)));refine Gl J (Qe ?_)
   exact Mid.n (by rw [if_pos h2,if_pos h2]; exact Uf [0,1,2])
  ·have h2 : ¬ Lf = true := by rw [hLf]; intro q; exact Bool.false_ne_true (Eq.trans (steer_no h).symm q)
   refine Qh ?_
   exact Mid.n (by rw [if_neg h2,if_neg h2]; exact Uf [0,1,2])
 obtain ⟨vx,hvx⟩ : ∃ vx,vx = (if Lf = true then -3 else if R = true then 3 else 0) := ⟨_,rfl⟩
 obtain ⟨am,ham⟩ : ∃ am,am = (if Lf = true then -1 else if R = true then 1 else b.Aim) := ⟨_,rfl⟩
 rw [← hvx,← ham]
 obtain ⟨Fi,hFi⟩ : ∃ Fi,Fi = (pressed i 8 && decide (T = 0)) := ⟨_,rfl⟩
 rw [← hFi]
 by_cases hJ : pressed i 4 = true
 ·have fJ : decide (((i.toNat &&& (4 : Int).toNat : Nat) : Int) ≠ 0) = true := hJ
  cases hs : solidM l b.X (b.Y + 1) 12 with
  | true =>
   rw [hs] at cs
   rw [hJ]
   refine Qd (Qd (Xh u8_15 u8_16 u8_17 J (Ve (Vo J) J (Ve (Zv J J J J (by omega)) J (Ve (Vy J) J (Ve (Vo J) J (Ve (Gy J (Vs J J)) J (Ve (Gy J (Vq J J)) J (Ve (Gy J (Vr J)) J (Ve (Gy J (Vq J J)) J (Ve (Gy J (Vr J)) J ?_)))))))))));refine Ve (Gy J (Vt J)) J (Ve (Gy J (Vq J J)) J (Ve (Gy J (Vr J)) J ?_));refine Ve (Gy J (Qj J J (cz) J)) J ?_;refine Ve (Gy J (Qj J J (cs) J)) J ?_;refine Ve (Qo J J J J) J (Vd (zz (Qm J (Qc (Gg J J ?_)))));refine Gl J (zz (Qd (zy (z0 J (zx (Zv J J J J (by omega)) J (zx (Kj J J J J) J (z0 J ?_)))))));refine zx (Qt.grdT J J J .stop (fun hgrd => Vq J J)) J ?_;refine zx (Ub J (.hit .stop) (fun hgrd => Vr J)) J ?_;refine zx (Ub J (.hit (.hit .stop)) (fun hgrd => Z5 J J J J)) J ?_;refine zx (Zt J J J J) J (zz ?_)
   refine Xb J (fun h => ?_) (fun h => ?_)
   ·have h2 : Fi = true := by rw [hFi]; exact h
    rw [h2]
    refine zy (Gg J J ?_);refine Gl J (zz (zy (Gw J J ?_)));refine G1 J J (z1 J (zz (Xa (T_r (F_r ?_)))))
    exact G7 J J (Ue [] J J J)
   ·have h2 : Fi = false := by rw [hFi]; exact h
    rw [h2]
    refine Qh (Q0 (zy (Gw J J ?_)));refine G1 J J (z1 J (zz (Xa (F_r ?_))))
    exact G7 J J (Ue [] J J J)
  | false =>
   rw [hs] at cs
   rw [hJ]
   refine Qd (Qd (Xh u8_15 u8_16 u8_17 J (Ve (Vo J) J (Ve (Zv J J J J (by omega)) J (Ve (Vy J) J (Ve (Vo J) J (Ve (Gy J (Vs J J)) J (Ve (Gy J (Vq J J)) J (Ve (Gy J (Vr J)) J (Ve (Gy J (Vq J J)) J (Ve (Gy J (Vr J)) J ?_)))))))))));refine Ve (Gy J (Vt J)) J (Ve (Gy J (Vq J J)) J (Ve (Gy J (Vr J)) J ?_));refine Ve (Gy J (Qj J J (cz) J)) J ?_;refine Ve (Gy J (Qj J J (cs) J)) J ?_;refine Ve (Qo J J J J) J (Vd (zz (Ql J (Qc (Gg J J (z3 J (Uh J (zx (q_min J J J J) J (Gg J J ?_)))))))));refine Gl J (zz (Qd (zy (z0 J (zx (Zv J J J J (by omega)) J (zx (Kj J J J J) J (z0 J ?_)))))));refine zx (Qt.grdT J J J .stop (fun hgrd => Vq J J)) J ?_;refine zx (Ub J (.hit .stop) (fun hgrd => Vr J)) J ?_;refine zx (Ub J (.hit (.hit .stop)) (fun hgrd => Z5 J J J J)) J ?_;refine zx (Zt J J J J) J (zz ?_)
   refine Xb J (fun h => ?_) (fun h => ?_)
   ·have h2 : Fi = true := by rw [hFi]; exact h
    rw [h2]
    refine zy (Gg J J ?_);refine Gl J (zz (zy (Gw J J ?_)));refine G1 J J (z1 J (zz (Xa (T_r (F_r ?_)))))
    exact G7 J J (Ue [] J J J)
   ·have h2 : Fi = false := by rw [hFi]; exact h
    rw [h2]
    refine Qh (Q0 (zy (Gw J J ?_)));refine G1 J J (z1 J (zz (Xa (F_r ?_))))
    exact G7 J J (Ue [] J J J)
 ·have fJ : decide (((i.toNat &&& (4 : Int).toNat : Nat) : Int) ≠ 0) = false := by simpa [pressed] using hJ
  rw [show pressed i 4 = false by simpa using hJ]
  refine Qd (Qd (Xh u8_15 u8_16 u8_17 J (Ve (Vo J) J (Ve (Zv J J J J (by omega)) J (Ve (Vy J) J (Ve (Vo J) J (Ve (Gx J) J (Ve (Gx J) J (Ve (Gx J) J (Ve (Gx J) J (Ve (Gx J) J ?_)))))))))));refine Ve (Gx J) J (Ve (Gx J) J (Ve (Gx J) J (Ve (Gx J) J (Ve (Gx J) J (Ve (V0 J) J (Vd (zz (Ql J (Qc (Gg J J ?_))))))))));refine z3 J (Uh J (zx (q_min J J J J) J (Gg J J ?_)));refine Gl J (zz (Qd (zy (z0 J (zx (Zv J J J J (by omega)) J (zx (Kj J J J J) J (z0 J ?_)))))));refine zx (Qt.grdT J J J .stop (fun hgrd => Vq J J)) J ?_;refine zx (Ub J (.hit .stop) (fun hgrd => Vr J)) J ?_;refine zx (Ub J (.hit (.hit .stop)) (fun hgrd => Z5 J J J J)) J ?_;refine zx (Zt J J J J) J (zz ?_)
  refine Xb J (fun h => ?_) (fun h => ?_)
  ·have h2 : Fi = true := by rw [hFi]; exact h
   rw [h2]
   refine zy (Gg J J ?_);refine Gl J (zz (zy (Gw J J ?_)));refine G1 J J (z1 J (zz (Xa (T_r (F_r ?_)))))
   exact G7 J J (Ue [] J J J)
  ·have h2 : Fi = false := by rw [hFi]; exact h
   rw [h2]
   refine Qh (Q0 (zy (Gw J J ?_)));refine G1 J J (z1 J (zz (Xa (F_r ?_))))
   exact G7 J J (Ue [] J J J)
end
section
open Go.RowKit

theorem Ky {hit : Int → Bool} {step : Int} : ∀ (n : Nat) (x : Int),hit x = false → hit (slide hit step n x).1 = false
 | 0,x,h => h
 | n + 1,x,h => by
  rw [slide]
  split
  ·exact h
  ·exact Ky n (x + step) (by rename_i q; simpa using q)
section
variable {P : Program} {E : Env} {st st' : St}
theorem A_joinb {c d : Code} {id : Nat} {Q Q' : Exit → St → Prop} (st' : St) (h1 : AWP P E c (blk id (Mid st')) st) (h2 : AWP P E d Q' st') : AWP P E c (blk id (thn (AWP P E d Q') Q)) st :=
 AWP.mono (fun e s h => by
  have hh := h.h
  cases e with
  | normal => obtain ⟨_,hw⟩ := hh.h; exact ⟨⟨AWP.weak hw h2⟩⟩
  | exit id' =>
   by_cases hi : id' = id
   ·subst hi
    have hh : (if id' = id' then Mid st' .normal s else Mid st' (.exit id') s) := hh
    rw [if_pos rfl] at hh
    obtain ⟨_,hw⟩ := hh.h
    exact Xk (Q0 (AWP.weak hw h2))
   ·have hh : (if id' = id then Mid st' .normal s else Mid st' (.exit id') s) := hh
    rw [if_neg hi] at hh
    obtain ⟨he,_⟩ := hh.h
    cases he
  | goto l => obtain ⟨he,_⟩ := Mid.h hh; cases he
  | ret => obtain ⟨he,_⟩ := Mid.h hh; cases he
  | panic c => obtain ⟨he,_⟩ := Mid.h hh; cases he
  | outgrown => obtain ⟨he,_⟩ := Mid.h hh; cases he) h1
end
theorem I_MoveBody (l : TLevel) (b : TBody) (hg : Enc.gd l) (hl : levelOk l = true) (hk : 0 ≤ b.Kind ∧ b.Kind ≤ 2) (hp : solidM l b.X b.Y (sizeOf b.Kind) = false) (hx : -15 ≤ b.VX ∧ b.VX ≤ 15) (hy : -15 ≤ b.VY ∧ b.VY ≤ 15) : Con Tryz.prog 97 [] [ag l,ag b] [] (.tu [.ag ((Enc.e (moveM l b).1).map (V1.rd [])),.c (bv (moveM l b).2)]) := by
 obtain ⟨s4,s12⟩ := size_pos hk
 obtain ⟨s,hs⟩ : ∃ s,s = sizeOf b.Kind := ⟨_,rfl⟩
 rw [← hs] at s4 s12 hp
 have cz := I_SizeOf b.Kind
 rw [← hs] at cz
 obtain ⟨⟨px1,px2⟩,⟨py1,py2⟩⟩ := Zs hl ⟨by omega,by omega⟩ hp
 obtain ⟨X1,b1,hR⟩ : ∃ X1 b1,(X1,b1) = moveX l b := ⟨_,_,rfl⟩
 obtain ⟨Y1,b2,hS⟩ : ∃ Y1 b2,(Y1,b2) = moveY l b := ⟨_,_,rfl⟩
 obtain ⟨N,hN⟩ : ∃ N,N = b.VX.natAbs := ⟨_,rfl⟩
 obtain ⟨M,hM⟩ : ∃ M,M = b.VY.natAbs := ⟨_,rfl⟩
 obtain ⟨d,hd⟩ : ∃ d,d = dirOf b.VX := ⟨_,rfl⟩
 obtain ⟨e,he⟩ : ∃ e,e = dirOf b.VY := ⟨_,rfl⟩
 have hd1 : -1 ≤ d ∧ d ≤ 1 := by rw [hd,dirOf]; split <;> omega
 have he1 : -1 ≤ e ∧ e ≤ 1 := by rw [he,dirOf]; split <;> omega
 have hR1 : slide (fun z => solidM l z b.Y s) d (N - 0) b.X = (X1,b1) := by rw [hs,hd,hN]; exact hR.symm
 have hR2 : slide (fun z => solidM l X1 z s) e (M - 0) b.Y = (Y1,b2) := by rw [show X1 = (moveX l b).1 by rw [← hR],hs,he,hM]; exact hS.symm
 have hp2 : solidM l X1 b.Y s = false := by have h := Ky (hit := fun z => solidM l z b.Y s) (step := d) (N - 0) b.X hp; rw [hR1] at h; exact h
 have hmm : moveM l b = (⟨b.Kind,b.Owner,X1,Y1,if b1 = true then 0 else b.VX,if b2 = true then 0 else b.VY,b.Aim,b.Life,b.Timer⟩,b1 || b2) := by rw [moveM,← hR,← hS]
 rw [hmm]
 have hNb : N ≤ 15 := by omega
 have hMb : M ≤ 15 := by omega
 have ca := I_SolidAt l b.X b.Y s hg ⟨by omega,by omega⟩ ⟨by omega,by omega⟩
 rw [solidAt_eq hl ⟨by omega,by omega⟩,hp] at ca
 have c1 := Xu b.VX (-15) 15
 have c2 := Xu b.VY (-15) 15
 rw [Za.2 hx] at c1
 rw [Za.2 hy] at c2
 have d1 := I_direction b.VX hx
 have d2 := I_direction b.VY hy
 rw [← hd,← hN] at d1
 rw [← he,← hM] at d2
 refine Con.of Tryz.func97 J Tryz.ntmps97 J (fun E => ?_)
 refine zy (Un (Gf J) J (Un (Gf J) J (Un (Gh J J) J (z1 J (zz (zy (Gg J J (z3 J ?_))))))));refine zx (Qj J J (cz) J) J ?_;refine z1 J (zz (Qd (zy (Gw J J (Gg J J (z3 J (Gg J J (z3 J (z0 J ?_)))))))));refine zx (Qj J J (ca) J) J ?_;refine zz (Ql J (Qh (Q0 (Qd (zy (Gg J J (z3 J ?_)))))));refine zx (Qj J J (c1) J) J ?_;refine zn J (z0 J (z5 J (Gg J J (z5 J (z3 J (z5 J ?_))))));refine zx (Qj J J (c2) J) J ?_;refine z5 J (zn J (zpF J (zz (Ql J (Qh (Q0 (zy (z1 J (Qe ?_)))))))));refine Q0 (zy (Gg J J (z3 J ?_)));refine Un (Z3 J J (d1) J J J) J ?_;refine zx (Ga J) J (ze J (ze J (z1 J (z1 J (zz (Qd (zy (z1 J (Qe ?_)))))))));refine Q0 (Qk ?_)
 refine A_joinb (⟨88,[(2,.o (.c (.ptr 0 0))),(3,.o (.c (.ptr 1 0))),(4,.o (.c (.ptr 2 0))),(6,I s),(7,B b1)],[.box ((Enc.e l).map (V1.rd [])),.box (stB b.Kind b.Owner X1 b.Y (if b1 = true then 0 else b.VX) b.VY b.Aim b.Life b.Timer),.box (stB 0 0 0 0 0 0 0 0 0)]⟩ : St) ?_ ?_
 ·skip
  refine Xi (fun m__ st => ∃ (k : Nat) (x : Int),N - k = m__ ∧ (k ≤ N ∧ solidM l x b.Y s = false ∧ slide (fun z => solidM l z b.Y s) d (N - k) x = (X1,b1)) ∧ st = (⟨_,[(2,.o (.c (.ptr 0 0))),(3,.o (.c (.ptr 1 0))),(4,.o (.c (.ptr 2 0))),(6,I s),(7,B false),(8,I d),(9,I N),(10,I k)],[.box ((Enc.e l).map (V1.rd [])),.box (stB b.Kind b.Owner x b.Y b.VX b.VY b.Aim b.Life b.Timer),.box (stB 0 0 0 0 0 0 0 0 0)]⟩ : St)) _ ⟨_,⟨0,b.X,J,⟨by omega,hp,hR1⟩,J⟩,Uf [0,1,2]⟩ ?_
  rintro m_A _ ⟨k,x,hk_A,hp_A,rfl⟩
  obtain ⟨hkn,hfr,hsl⟩ := hp_A
  obtain ⟨⟨qx1,qx2⟩,_⟩ := Zs hl ⟨by omega,by omega⟩ hfr
  by_cases hlt : k < N
  ·have hb : decide ((k : Int) < N) = true := decide_eq_true (by omega)
   have cs := I_solid l (x + d) b.Y s hl ⟨by omega,by omega⟩ ⟨by omega,by omega⟩ (by omega) (by omega)
   obtain ⟨m,hm⟩ : ∃ m,N - k = m + 1 := ⟨N - k - 1,by omega⟩
   cases hh : solidM l (x + d) b.Y s with
   | true =>
    rw [hh] at cs
    rw [hm,slide_hit (hit := fun z => solidM l z b.Y s) hh] at hsl
    obtain ⟨rfl,rfl⟩ := Prod.mk.inj hsl
    refine Qd (zy (z0 J (z0 J (U1 J (zz (Qm J (Qh (Q0 (Qd ?_)))))))));refine Qk (Qd (zy (Gw J J (Gg J J (z3 J (z0 J (Uh J (Gg J J (z3 J (z0 J ?_))))))))));refine zx (Qj J J (cs) J) J ?_;refine zz (Qm J (zy (Gg J J ?_)));refine Gl J (zz (zy (z1 J (zz (Q9 (T_x (B_xo J (T_x ?_))))))));refine T_x (Xk ?_)
    exact Mid.n (Uf [0,1,2])
   | false =>
    rw [hh] at cs
    rw [hm,slide_go (hit := fun z => solidM l z b.Y s) hh] at hsl
    refine Qd (zy (z0 J (z0 J (U1 J (zz (Qm J (Qh (Q0 (Qd ?_)))))))));refine Qk (Qd (zy (Gw J J (Gg J J (z3 J (z0 J (Uh J (Gg J J (z3 J (z0 J ?_))))))))));refine zx (Qj J J (cs) J) J ?_;refine zz (Ql J (Qh (Q0 (Qc (Gg J J (z3 J (z0 J (Uh J (Gg J J ?_)))))))));refine Gl J (Qe (Q1 (Q0 (Qc (z0 J (Uh J (z1 J (zz ?_))))))))
    refine ⟨_,(by omega),_,⟨k + 1,x + d,J,⟨by omega,hh,by rw [show N - (k + 1) = m by omega]; exact hsl⟩,J⟩,Uf [0,1,2]⟩
  ·have hb : decide ((k : Int) < N) = false := decide_eq_false (by omega)
   rw [show N - k = 0 by omega,slide] at hsl
   obtain ⟨rfl,rfl⟩ := Prod.mk.inj hsl
   refine Qd (zy (z0 J (z0 J (U1 J (zz (Ql J (Q9 (T_x (T_x ?_)))))))));refine Xk ?_
   exact Mid.n (Uf [0,1,2])
 refine zy (Gg J J (z3 J ?_));refine Un (Z3 J J (d2) J J J) J ?_;refine zx (Ga J) J (ze J (ze J (z1 J (z1 J (zz (Qd (zy (z1 J (Qe ?_)))))))));refine Q0 (Qk ?_)
 refine A_joinb (⟨88,[(2,.o (.c (.ptr 0 0))),(3,.o (.c (.ptr 1 0))),(4,.o (.c (.ptr 2 0))),(6,I s),(7,B (b1 || b2))],[.box ((Enc.e l).map (V1.rd [])),.box (stB b.Kind b.Owner X1 Y1 (if b1 = true then 0 else b.VX) (if b2 = true then 0 else b.VY) b.Aim b.Life b.Timer),.box (stB 0 0 0 0 0 0 0 0 0)]⟩ : St) ?_ ?_
 ·skip
  refine Xi (fun m__ st => ∃ (k : Nat) (y : Int),M - k = m__ ∧ (k ≤ M ∧ solidM l X1 y s = false ∧ slide (fun z => solidM l X1 z s) e (M - k) y = (Y1,b2)) ∧ st = (⟨_,[(2,.o (.c (.ptr 0 0))),(3,.o (.c (.ptr 1 0))),(4,.o (.c (.ptr 2 0))),(6,I s),(7,B b1),(8,I e),(9,I M),(11,I k)],[.box ((Enc.e l).map (V1.rd [])),.box (stB b.Kind b.Owner X1 y (if b1 = true then 0 else b.VX) b.VY b.Aim b.Life b.Timer),.box (stB 0 0 0 0 0 0 0 0 0)]⟩ : St)) _ ⟨_,⟨0,b.Y,J,⟨by omega,hp2,hR2⟩,J⟩,Uf [0,1,2]⟩ ?_
  rintro m_B _ ⟨k,y,hk_B,hp_B,rfl⟩
  obtain ⟨hkn,hfr,hsl⟩ := hp_B
  obtain ⟨_,⟨qx1,qx2⟩⟩ := Zs hl ⟨by omega,by omega⟩ hfr
  by_cases hlt : k < M
  ·have hb : decide ((k : Int) < M) = true := decide_eq_true (by omega)
   have cs := I_solid l X1 (y + e) s hl ⟨by omega,by omega⟩ ⟨by omega,by omega⟩ (by omega) (by omega)
   obtain ⟨m,hm⟩ : ∃ m,M - k = m + 1 := ⟨M - k - 1,by omega⟩
   cases hh : solidM l X1 (y + e) s with
   | true =>
    rw [hh] at cs
    rw [hm,slide_hit (hit := fun z => solidM l X1 z s) hh] at hsl
    obtain ⟨rfl,rfl⟩ := Prod.mk.inj hsl
    refine Qd (zy (z0 J (z0 J (U1 J (zz (Qm J (Qh (Q0 (Qd ?_)))))))));refine Qk (Qd (zy (Gw J J (Gg J J (z3 J (Gg J J (z3 J (z0 J (Uh J (z0 J ?_))))))))));refine zx (Qj J J (cs) J) J ?_;refine zz (Qm J (zy (Gg J J ?_)));refine Gl J (zz (zy (z1 J (zz (Q9 (T_x (B_xo J (T_x ?_))))))));refine T_x (Xk ?_)
    exact Mid.n (V6 [0,1,2] J (.c J (.c J (.c J (.c J (.cons (by cases b1 <;> rfl) (.nil)))))))
   | false =>
    rw [hh] at cs
    rw [hm,slide_go (hit := fun z => solidM l X1 z s) hh] at hsl
    refine Qd (zy (z0 J (z0 J (U1 J (zz (Qm J (Qh (Q0 (Qd ?_)))))))));refine Qk (Qd (zy (Gw J J (Gg J J (z3 J (Gg J J (z3 J (z0 J (Uh J (z0 J ?_))))))))));refine zx (Qj J J (cs) J) J ?_;refine zz (Ql J (Qh (Q0 (Qc (Gg J J (z3 J (z0 J (Uh J (Gg J J ?_)))))))));refine Gl J (Qe (Q1 (Q0 (Qc (z0 J (Uh J (z1 J (zz ?_))))))))
    refine ⟨_,(by omega),_,⟨k + 1,y + e,J,⟨by omega,hh,by rw [show M - (k + 1) = m by omega]; exact hsl⟩,J⟩,Uf [0,1,2]⟩
  ·have hb : decide ((k : Int) < M) = false := decide_eq_false (by omega)
   rw [show M - k = 0 by omega,slide] at hsl
   obtain ⟨rfl,rfl⟩ := Prod.mk.inj hsl
   refine Qd (zy (z0 J (z0 J (U1 J (zz (Ql J (Q9 (T_x (T_x ?_)))))))));refine Xk ?_
   exact Mid.n (V6 [0,1,2] J (.c J (.c J (.c J (.c J (.cons (by cases b1 <;> rfl) (.nil)))))))
 refine zy (Gw J J (z0 J ?_));refine G1 J J (z1 J (zz (Xa (F_r ?_))))
 exact G7 J J (Ue [] J J J)
theorem S_l02Move (l : TLevel) (b : TBody) (hg : Enc.gd l) (hl : levelOk l = true) (hk : 0 ≤ b.Kind ∧ b.Kind ≤ 2) (hp : solidM l b.X b.Y (sizeOf b.Kind) = false) (hx : -15 ≤ b.VX ∧ b.VX ≤ 15) (hy : -15 ≤ b.VY ∧ b.VY ≤ 15) : Con Tryz.prog 109 [] [ag l,ag b] [] (.tu [.ag ((Enc.e (moveM l b).1).map (V1.rd [])),.c (bv (moveM l b).2)]) := by
 obtain ⟨s4,s12⟩ := size_pos hk
 obtain ⟨s,hs⟩ : ∃ s,s = sizeOf b.Kind := ⟨_,rfl⟩
 rw [← hs] at s4 s12 hp
 have cz := S_SizeOf b.Kind
 rw [← hs] at cz
 obtain ⟨⟨px1,px2⟩,⟨py1,py2⟩⟩ := Zs hl ⟨by omega,by omega⟩ hp
 obtain ⟨X1,b1,hR⟩ : ∃ X1 b1,(X1,b1) = moveX l b := ⟨_,_,rfl⟩
 obtain ⟨Y1,b2,hS⟩ : ∃ Y1 b2,(Y1,b2) = moveY l b := ⟨_,_,rfl⟩
 obtain ⟨N,hN⟩ : ∃ N,N = b.VX.natAbs := ⟨_,rfl⟩
 obtain ⟨M,hM⟩ : ∃ M,M = b.VY.natAbs := ⟨_,rfl⟩
 obtain ⟨d,hd⟩ : ∃ d,d = dirOf b.VX := ⟨_,rfl⟩
 obtain ⟨e,he⟩ : ∃ e,e = dirOf b.VY := ⟨_,rfl⟩
 have hd1 : -1 ≤ d ∧ d ≤ 1 := by rw [hd,dirOf]; split <;> omega
 have he1 : -1 ≤ e ∧ e ≤ 1 := by rw [he,dirOf]; split <;> omega
 have hR1 : slide (fun z => solidM l z b.Y s) d (N - 0) b.X = (X1,b1) := by rw [hs,hd,hN]; exact hR.symm
 have hR2 : slide (fun z => solidM l X1 z s) e (M - 0) b.Y = (Y1,b2) := by rw [show X1 = (moveX l b).1 by rw [← hR],hs,he,hM]; exact hS.symm
 have hp2 : solidM l X1 b.Y s = false := by have h := Ky (hit := fun z => solidM l z b.Y s) (step := d) (N - 0) b.X hp; rw [hR1] at h; exact h
 have hmm : moveM l b = (⟨b.Kind,b.Owner,X1,Y1,if b1 = true then 0 else b.VX,if b2 = true then 0 else b.VY,b.Aim,b.Life,b.Timer⟩,b1 || b2) := by rw [moveM,← hR,← hS]
 rw [hmm]
 have hNb : N ≤ 15 := by omega
 have hMb : M ≤ 15 := by omega
 refine Con.of Tryz.func109 J Tryz.ntmps109 J (fun E => ?_)
 refine zy (Un (Gf J) J (Un (Gf J) J (Un (Gh J J) J (z1 J (zz (zy (Gg J J (z3 J ?_))))))));refine zx (Qj J J (cz) J) J ?_;refine z1 J (zz (zy (z1 J (zz (zy (z1 J (Qe ?_)))))));refine Q0 (zy (Gg J J (z3 J (z1 J (zz (Qd (zy (z0 J ?_))))))));refine zx (Vi J) J (zz ?_)
 refine A_join (⟨65,[(2,.o (.c (.ptr 0 0))),(3,.o (.c (.ptr 1 0))),(4,.o (.c (.ptr 2 0))),(6,I s),(7,B false),(8,I d),(9,I N)],[.box ((Enc.e l).map (V1.rd [])),.box (stB b.Kind b.Owner b.X b.Y b.VX b.VY b.Aim b.Life b.Timer),.box (stB 0 0 0 0 0 0 0 0 0)]⟩ : St) ?_ ?_
 ·refine Xb rfl (fun h => ?_) (fun h => ?_)
  ·have h := of_decide_eq_true h
   obtain rfl : d = -1 := by rw [hd,dirOf,if_pos h]
   have hq : (N : Int) = -b.VX := by omega
   refine zy (z1 J (zz (Qc (z0 J (zx (q_neg J J J (by omega)) J (z1 J (Qe ?_)))))))
   exact Mid.n (V6 [0,1,2] J (.c J (.c J (.c J (.c J (.c J (.c J (.cons (by rw [hq]; rfl) (.nil)))))))))
  ·have h := of_decide_eq_false h
   obtain rfl : d = 1 := by rw [hd,dirOf,if_neg h]
   have hq : (N : Int) = b.VX := by omega
   refine Qh ?_
   exact Mid.n (V6 [0,1,2] J (.c J (.c J (.c J (.c J (.c J (.c J (.cons (by rw [hq]; rfl) (.nil)))))))))
 refine Qd (Qk ?_)
 refine A_joinb (⟨65,[(2,.o (.c (.ptr 0 0))),(3,.o (.c (.ptr 1 0))),(4,.o (.c (.ptr 2 0))),(6,I s),(7,B b1)],[.box ((Enc.e l).map (V1.rd [])),.box (stB b.Kind b.Owner X1 b.Y (if b1 = true then 0 else b.VX) b.VY b.Aim b.Life b.Timer),.box (stB 0 0 0 0 0 0 0 0 0)]⟩ : St) ?_ ?_
 ·skip
  refine Xi (fun m__ st => ∃ (k : Nat) (x : Int),N - k = m__ ∧ (k ≤ N ∧ solidM l x b.Y s = false ∧ slide (fun z => solidM l z b.Y s) d (N - k) x = (X1,b1)) ∧ st = (⟨_,[(2,.o (.c (.ptr 0 0))),(3,.o (.c (.ptr 1 0))),(4,.o (.c (.ptr 2 0))),(6,I s),(7,B false),(8,I d),(9,I ((N : Int) - k))],[.box ((Enc.e l).map (V1.rd [])),.box (stB b.Kind b.Owner x b.Y b.VX b.VY b.Aim b.Life b.Timer),.box (stB 0 0 0 0 0 0 0 0 0)]⟩ : St)) _ ⟨(fun (k : Nat) (x : Int) => (⟨_,[(2,.o (.c (.ptr 0 0))),(3,.o (.c (.ptr 1 0))),(4,.o (.c (.ptr 2 0))),(6,I s),(7,B false),(8,I d),(9,I ((N : Int) - k))],[.box ((Enc.e l).map (V1.rd [])),.box (stB b.Kind b.Owner x b.Y b.VX b.VY b.Aim b.Life b.Timer),.box (stB 0 0 0 0 0 0 0 0 0)]⟩ : St)) (0) (b.X),⟨0,b.X,J,⟨by omega,hp,hR1⟩,J⟩,V6 [0,1,2] J (.c J (.c J (.c J (.c J (.c J (.c J (.cons (by rw [show ((N : Int) - ((0 : Nat) : Int)) = (N : Int) by omega]; rfl) (.nil))))))))⟩ ?_
  rintro m_A _ ⟨k,x,hk_A,hp_A,rfl⟩
  obtain ⟨hkn,hfr,hsl⟩ := hp_A
  obtain ⟨⟨qx1,qx2⟩,_⟩ := Zs hl ⟨by omega,by omega⟩ hfr
  by_cases hlt : k < N
  ·have hb : decide ((0 : Int) < (N : Int) - k) = true := decide_eq_true (by omega)
   have cs := S_l02Solid l (x + d) b.Y s hl ⟨by omega,by omega⟩ ⟨by omega,by omega⟩ (by omega) (by omega)
   obtain ⟨m,hm⟩ : ∃ m,N - k = m + 1 := ⟨N - k - 1,by omega⟩
   cases hh : solidM l (x + d) b.Y s with
   | true =>
    rw [hh] at cs
    rw [hm,slide_hit (hit := fun z => solidM l z b.Y s) hh] at hsl
    obtain ⟨rfl,rfl⟩ := Prod.mk.inj hsl
    refine Qd (zy (z0 J (Gb J (zz (Qm J (Qh (Q0 (Qd (Qk ?_)))))))));refine Qd (zy (Gw J J (Gg J J (z3 J (z0 J (Uh J (Gg J J (z3 J (z0 J ?_)))))))));refine zx (Qj J J (cs) J) J ?_;refine zz (Qm J (zy (Gg J J ?_)));refine Gl J (zz (zy (z1 J (zz (Q9 (T_x (B_xo J (T_x ?_))))))));refine T_x (Xk ?_)
    exact Mid.n (Uf [0,1,2])
   | false =>
    rw [hh] at cs
    rw [hm,slide_go (hit := fun z => solidM l z b.Y s) hh] at hsl
    refine Qd (zy (z0 J (Gb J (zz (Qm J (Qh (Q0 (Qd (Qk ?_)))))))));refine Qd (zy (Gw J J (Gg J J (z3 J (z0 J (Uh J (Gg J J (z3 J (z0 J ?_)))))))));refine zx (Qj J J (cs) J) J ?_;refine zz (Ql J (Qh (Q0 (Qc (Gg J J (z3 J (z0 J (Uh J (Gg J J ?_)))))))));refine Gl J (Qe (Q1 (Q0 (Qc (z0 J (Ux J (z1 J (zz ?_))))))))
    refine ⟨_,(by omega),(fun (k : Nat) (x : Int) => (⟨_,[(2,.o (.c (.ptr 0 0))),(3,.o (.c (.ptr 1 0))),(4,.o (.c (.ptr 2 0))),(6,I s),(7,B false),(8,I d),(9,I ((N : Int) - k))],[.box ((Enc.e l).map (V1.rd [])),.box (stB b.Kind b.Owner x b.Y b.VX b.VY b.Aim b.Life b.Timer),.box (stB 0 0 0 0 0 0 0 0 0)]⟩ : St)) (k + 1) (x + d),⟨k + 1,x + d,J,⟨by omega,hh,by rw [show N - (k + 1) = m by omega]; exact hsl⟩,J⟩,V6 [0,1,2] J (.c J (.c J (.c J (.c J (.c J (.c J (.cons (by rw [show ((N : Int) - ((k + 1 : Nat) : Int)) = (N : Int) - k - 1 by omega]; rfl) (.nil))))))))⟩
  ·have hb : decide ((0 : Int) < (N : Int) - k) = false := decide_eq_false (by omega)
   rw [show N - k = 0 by omega,slide] at hsl
   obtain ⟨rfl,rfl⟩ := Prod.mk.inj hsl
   refine Qd (zy (z0 J (Gb J (zz (Ql J (Q9 (T_x (T_x (Xk ?_)))))))))
   exact Mid.n (Uf [0,1,2])
 refine zy (z1 J (zz (zy (Gg J J (z3 J (z1 J (zz ?_)))))));refine Qd (zy (z0 J (zx (Vi J) J (zz ?_))))
 refine A_join (⟨65,[(2,.o (.c (.ptr 0 0))),(3,.o (.c (.ptr 1 0))),(4,.o (.c (.ptr 2 0))),(6,I s),(7,B b1),(8,I e),(9,I M)],[.box ((Enc.e l).map (V1.rd [])),.box (stB b.Kind b.Owner X1 b.Y (if b1 = true then 0 else b.VX) b.VY b.Aim b.Life b.Timer),.box (stB 0 0 0 0 0 0 0 0 0)]⟩ : St) ?_ ?_
 ·refine Xb rfl (fun h => ?_) (fun h => ?_)
  ·have h := of_decide_eq_true h
   obtain rfl : e = -1 := by rw [he,dirOf,if_pos h]
   have hq : (M : Int) = -b.VY := by omega
   refine zy (z1 J (zz (Qc (z0 J (zx (q_neg J J J (by omega)) J (z1 J (Qe ?_)))))))
   exact Mid.n (V6 [0,1,2] J (.c J (.c J (.c J (.c J (.c J (.c J (.cons (by rw [hq]; rfl) (.nil)))))))))
  ·have h := of_decide_eq_false h
   obtain rfl : e = 1 := by rw [he,dirOf,if_neg h]
   have hq : (M : Int) = b.VY := by omega
   refine Qh ?_
   exact Mid.n (V6 [0,1,2] J (.c J (.c J (.c J (.c J (.c J (.c J (.cons (by rw [hq]; rfl) (.nil)))))))))
 refine Qd (Qk ?_)
 refine A_joinb (⟨65,[(2,.o (.c (.ptr 0 0))),(3,.o (.c (.ptr 1 0))),(4,.o (.c (.ptr 2 0))),(6,I s),(7,B (b1 || b2))],[.box ((Enc.e l).map (V1.rd [])),.box (stB b.Kind b.Owner X1 Y1 (if b1 = true then 0 else b.VX) (if b2 = true then 0 else b.VY) b.Aim b.Life b.Timer),.box (stB 0 0 0 0 0 0 0 0 0)]⟩ : St) ?_ ?_
 ·skip
  refine Xi (fun m__ st => ∃ (k : Nat) (y : Int),M - k = m__ ∧ (k ≤ M ∧ solidM l X1 y s = false ∧ slide (fun z => solidM l X1 z s) e (M - k) y = (Y1,b2)) ∧ st = (⟨_,[(2,.o (.c (.ptr 0 0))),(3,.o (.c (.ptr 1 0))),(4,.o (.c (.ptr 2 0))),(6,I s),(7,B b1),(8,I e),(9,I ((M : Int) - k))],[.box ((Enc.e l).map (V1.rd [])),.box (stB b.Kind b.Owner X1 y (if b1 = true then 0 else b.VX) b.VY b.Aim b.Life b.Timer),.box (stB 0 0 0 0 0 0 0 0 0)]⟩ : St)) _ ⟨(fun (k : Nat) (y : Int) => (⟨_,[(2,.o (.c (.ptr 0 0))),(3,.o (.c (.ptr 1 0))),(4,.o (.c (.ptr 2 0))),(6,I s),(7,B b1),(8,I e),(9,I ((M : Int) - k))],[.box ((Enc.e l).map (V1.rd [])),.box (stB b.Kind b.Owner X1 y (if b1 = true then 0 else b.VX) b.VY b.Aim b.Life b.Timer),.box (stB 0 0 0 0 0 0 0 0 0)]⟩ : St)) (0) (b.Y),⟨0,b.Y,J,⟨by omega,hp2,hR2⟩,J⟩,V6 [0,1,2] J (.c J (.c J (.c J (.c J (.c J (.c J (.cons (by rw [show ((M : Int) - ((0 : Nat) : Int)) = (M : Int) by omega]; rfl) (.nil))))))))⟩ ?_
  rintro m_B _ ⟨k,y,hk_B,hp_B,rfl⟩
  obtain ⟨hkn,hfr,hsl⟩ := hp_B
  obtain ⟨_,⟨qx1,qx2⟩⟩ := Zs hl ⟨by omega,by omega⟩ hfr
  by_cases hlt : k < M
  ·have hb : decide ((0 : Int) < (M : Int) - k) = true := decide_eq_true (by omega)
   have cs := S_l02Solid l X1 (y + e) s hl ⟨by omega,by omega⟩ ⟨by omega,by omega⟩ (by omega) (by omega)
   obtain ⟨m,hm⟩ : ∃ m,M - k = m + 1 := ⟨M - k - 1,by omega⟩
   cases hh : solidM l X1 (y + e) s with
   | true =>
    rw [hh] at cs
    rw [hm,slide_hit (hit := fun z => solidM l X1 z s) hh] at hsl
    obtain ⟨rfl,rfl⟩ := Prod.mk.inj hsl
    refine Qd (zy (z0 J (Gb J (zz (Qm J (Qh (Q0 (Qd (Qk ?_)))))))));refine Qd (zy (Gw J J (Gg J J (z3 J (Gg J J (z3 J (z0 J (Uh J (z0 J ?_)))))))));refine zx (Qj J J (cs) J) J ?_;refine zz (Qm J (zy (Gg J J ?_)));refine Gl J (zz (zy (z1 J (zz (Q9 (T_x (B_xo J (T_x ?_))))))));refine T_x (Xk ?_)
    exact Mid.n (V6 [0,1,2] J (.c J (.c J (.c J (.c J (.cons (by cases b1 <;> rfl) (.nil)))))))
   | false =>
    rw [hh] at cs
    rw [hm,slide_go (hit := fun z => solidM l X1 z s) hh] at hsl
    refine Qd (zy (z0 J (Gb J (zz (Qm J (Qh (Q0 (Qd (Qk ?_)))))))));refine Qd (zy (Gw J J (Gg J J (z3 J (Gg J J (z3 J (z0 J (Uh J (z0 J ?_)))))))));refine zx (Qj J J (cs) J) J ?_;refine zz (Ql J (Qh (Q0 (Qc (Gg J J (z3 J (z0 J (Uh J (Gg J J ?_)))))))));refine Gl J (Qe (Q1 (Q0 (Qc (z0 J (Ux J (z1 J (zz ?_))))))))
    refine ⟨_,(by omega),(fun (k : Nat) (y : Int) => (⟨_,[(2,.o (.c (.ptr 0 0))),(3,.o (.c (.ptr 1 0))),(4,.o (.c (.ptr 2 0))),(6,I s),(7,B b1),(8,I e),(9,I ((M : Int) - k))],[.box ((Enc.e l).map (V1.rd [])),.box (stB b.Kind b.Owner X1 y (if b1 = true then 0 else b.VX) b.VY b.Aim b.Life b.Timer),.box (stB 0 0 0 0 0 0 0 0 0)]⟩ : St)) (k + 1) (y + e),⟨k + 1,y + e,J,⟨by omega,hh,by rw [show M - (k + 1) = m by omega]; exact hsl⟩,J⟩,V6 [0,1,2] J (.c J (.c J (.c J (.c J (.c J (.c J (.cons (by rw [show ((M : Int) - ((k + 1 : Nat) : Int)) = (M : Int) - k - 1 by omega]; rfl) (.nil))))))))⟩
  ·have hb : decide ((0 : Int) < (M : Int) - k) = false := decide_eq_false (by omega)
   rw [show M - k = 0 by omega,slide] at hsl
   obtain ⟨rfl,rfl⟩ := Prod.mk.inj hsl
   refine Qd (zy (z0 J (Gb J (zz (Ql J (Q9 (T_x (T_x (Xk ?_)))))))))
   exact Mid.n (V6 [0,1,2] J (.c J (.c J (.c J (.c J (.cons (by cases b1 <;> rfl) (.nil)))))))
 refine zy (Gw J J (z0 J ?_));refine G1 J J (z1 J (zz (Xa (F_r ?_))))
 exact G7 J J (Ue [] J J J)
end
section
open Go.RowKit

def metC (bs : List TBody) (b : TBody) (o : Int) (k : Nat) : Bool := match bs[k]? with
 | none => false
 | some p => (decide ((k : Int) ≠ o) && decide (0 < p.Life)) && meetM p b
def metF (bs : List TBody) (b : TBody) (o : Int) : Nat → Option Nat
 | 0 => none
 | n + 1 => match metF bs b o n with
  | some k => some k
  | none => if metC bs b o n = true then some n else none
def metI (bs : List TBody) (b : TBody) (o : Int) (n : Nat) : Int := match metF bs b o n with
 | some k => k
 | none => -1
section
variable {bs : List TBody} {b p : TBody} {o : Int} {k n : Nat}
theorem metC_at (h : bs[k]? = some p) : metC bs b o k = ((decide ((k : Int) ≠ o) && decide (0 < p.Life)) && meetM p b) := by rw [metC,h]
theorem metF_no (h : metF bs b o k = none) (hc : metC bs b o k = false) : metF bs b o (k + 1) = none := by rw [metF,h]; simp [hc]
theorem metF_hit (h : metF bs b o k = none) (hc : metC bs b o k = true) : ∀ {n : Nat},k < n → metF bs b o n = some k
 | n + 1,hlt => by
  rcases Nat.lt_or_ge k n with h1 | h1
  ·rw [metF,metF_hit h hc h1]
  ·have : k = n := by omega
   subst this
   rw [metF,h]; simp [hc]
theorem metF_lt : ∀ {n : Nat},metF bs b o n = some k → k < n ∧ metC bs b o k = true
 | 0,h => by cases h
 | n + 1,h => by
  rw [metF] at h
  cases hm : metF bs b o n with
  | some j =>
   rw [hm] at h
   cases h
   have := metF_lt hm
   exact ⟨by omega,this.2⟩
  | none =>
   rw [hm] at h
   simp only at h
   split at h
   ·cases h; rename_i hc; exact ⟨by omega,hc⟩
   ·cases h
theorem metC_life (h : metC bs b o k = true) : ∃ p,bs[k]? = some p ∧ 0 < p.Life ∧ (k : Int) ≠ o ∧ meetM p b = true := by
 unfold metC at h
 split at h
 ·cases h
 ·rename_i p hp
  simp only [Bool.and_eq_true,decide_eq_true_eq] at h
  exact ⟨p,hp,h.1.2,h.1.1,h.2⟩
end
theorem Yz {α : Type} [Enc α] {xs : List α} {i : Nat} {x : α} (h : xs[i]? = some x) : (els xs)[(i : Int).toNat]? = some (Enc.e x) := by simp [els,h]
theorem K0 {α : Type} {xs : List α} {i : Nat} (h : i < xs.length) : ∃ x,xs[i]? = some x := ⟨xs[i],List.getElem?_eq_getElem h⟩
theorem I_playerMet (w : TWorld) (b : TBody) (o : Int) (hn : w.Scores.length ≤ w.Bodies.length) (h4 : w.Scores.length ≤ 4) (hp : ∀ k p,k < w.Scores.length → w.Bodies[k]? = some p → Placed p) (hb : Placed b) : Con Tryz.prog 98 [.box [.ref 1,jn w.Tick,jn w.Seed,.ref 2,.ref 3],.row 1 (els w.Level.Rows),.row 1 (els w.Scores),.row 9 (els w.Bodies),.gh 0 (.c (.ptr 0 0)),.gh 6 (.c (.ref 3))] [.c (.ptr 0 0),ag b,ai o] [.box [.ref 1,jn w.Tick,jn w.Seed,.ref 2,.ref 3],.row 1 (els w.Level.Rows),.row 1 (els w.Scores),.row 9 (els w.Bodies),.gh 0 (.c (.ptr 0 0)),.gh 6 (.c (.ref 3))] (I (metI w.Bodies b o w.Scores.length)) := by
 have hls := Yx w.Scores
 have hlb := Yx w.Bodies
 refine Con.of Tryz.func98 J Tryz.ntmps98 J (fun E => ?_)
 refine zy (Un (Gf J) J (z1 J (zz (Qd (zy (z0 J (zx (qi J) J (Gg J J ?_))))))));refine z3 J (zx (Kc J J J J) J (z0 J (zz (Qk ?_))));refine Xi (fun m st => ∃ k : Nat,k + m = w.Scores.length ∧ (metF w.Bodies b o k = none) ∧ st = (⟨_,[(0,.o (.c (.ptr 0 0))),(2,I o),(4,.o (.c (.ptr 6 0))),(12,I (els w.Scores).length),(13,I k)],[.box [.ref 1,jn w.Tick,jn w.Seed,.ref 2,.ref 3],.row 1 (els w.Level.Rows),.row 1 (els w.Scores),.row 9 (els w.Bodies),.gh 0 (.c (.ptr 0 0)),.gh 6 (.c (.ref 3)),.box ((Enc.e b).map (V1.rd []))]⟩ : St)) (w.Scores.length) ⟨_,⟨0,by omega,J,J⟩,Uf [0,1,2,3,4,5,6]⟩ ?_
 rintro m_A _ ⟨k,hk_A,hp_A,rfl⟩
 by_cases hlt : k < w.Scores.length
 ·have hb0 : decide ((k : Int) < (els w.Scores).length) = true := decide_eq_true (by omega)
  obtain ⟨p,hp1⟩ := K0 (xs := w.Bodies) (i := k) (by omega)
  have he := Yz hp1
  have cm := I_BodiesMeet p b (hp k p hlt hp1) hb
  have hc := metC_at (b := b) (o := o) hp1
  by_cases h1 : (k : Int) = o
  ·have f1 : decide ((k : Int) ≠ o) = false := decide_eq_false (fun q => q h1)
   refine zy (U1 J (zz (Qd (Qm J (Qh (Q0 (Qd (Qk (Qd ?_)))))))));refine Qc (z0 J (z1 J (zz (Qd (Xh u8_18 u8_19 u8_20 J (Ve (Vo J) J (Ve (Vo J) J (Ve (Vy J) J (Ve (Vo J) J (Ve (Gx J) J ?_))))))))));refine Ve (Gx J) J (Ve (Gx J) J (Ve (Gx J) J (Ve (Gx J) J (Ve (Gx J) J (Ve (Gx J) J (Ve (Gx J) J (Ve (Gx J) J (Ve (V0 J) J (Ve (Vo J) J (Ve (Gx J) J (Ve (Gx J) J ?_)))))))))));refine Ve (Gx J) J (Ve (Gx J) J (Ve (Gx J) J (Ve (Gx J) J (Ve (Gx J) J (Ve (Gx J) J (Ve (Gx J) J (Ve (V0 J) J (Vd (zz (Ql J ?_))))))))));refine Qh (Q1 (Q0 (Qc (Uh J (z0 J (zz ?_))))))
   exact ⟨w.Scores.length - (k + 1),by omega,_,⟨k + 1,by omega,metF_no hp_A (by rw [hc,f1]; rfl),J⟩,Uf [0,1,2,3,4,5,6]⟩
  have f1 : decide ((k : Int) ≠ o) = true := decide_eq_true h1
  by_cases h2 : 0 < p.Life
  ·have f2 : decide (0 < p.Life) = true := decide_eq_true h2
   cases h3 : meetM p b with
   | false =>
    rw [h3] at cm
    refine zy (U1 J (zz (Qd (Qm J (Qh (Q0 (Qd (Qk (Qd ?_)))))))));refine Qc (z0 J (z1 J (zz (Qd (Xh u8_18 u8_19 u8_20 J (Ve (Vo J) J (Ve (Vo J) J (Ve (Vy J) J (Ve (Vo J) J (Ve (Gy J (Vo J)) J ?_))))))))));refine Ve (Gy J (qi J)) J (Ve (Gy J (Vq J J)) J (Ve (Gy J (Vr J)) J (Ve (Gy J (Vo J)) J (Ve (Gy J (Q3 J J J J J (by omega) (by omega))) J (Ve (Gy J (qj J J)) J (Ve (Gy J (qk J (by assumption) J)) J (Ve (Gy J (Ka J J J J (by assumption))) J (Ve (Qo J J J J) J (Ve (Vo J) J (Ve (Gy J (Vo J)) J (Ve (Gy J (qi J)) J ?_)))))))))));refine Ve (Gy J (Vq J J)) J (Ve (Gy J (Vr J)) J (Ve (Gy J (Vo J)) J (Ve (Gy J (Q3 J J J J J (by omega) (by omega))) J (Ve (Gy J (Q6 J J J J (by assumption) J J)) J (Ve (Gy J (Vs J J)) J ?_)))));refine Ve (Gy J (Qj J J (cm) J)) J ?_;refine Ve (Qo J J J J) J (Vd (zz (Ql J (Qh (Q1 (Q0 (Qc (Uh J (z0 J (Qe ?_))))))))));refine Q0 ?_
    exact ⟨w.Scores.length - (k + 1),by omega,_,⟨k + 1,by omega,metF_no hp_A (by rw [hc,h3,Bool.and_false]),J⟩,Uf [0,1,2,3,4,5,6]⟩
   | true =>
    rw [h3] at cm
    refine zy (U1 J (zz (Qd (Qm J (Qh (Q0 (Qd (Qk (Qd ?_)))))))));refine Qc (z0 J (z1 J (zz (Qd (Xh u8_18 u8_19 u8_20 J (Ve (Vo J) J (Ve (Vo J) J (Ve (Vy J) J (Ve (Vo J) J (Ve (Gy J (Vo J)) J ?_))))))))));refine Ve (Gy J (qi J)) J (Ve (Gy J (Vq J J)) J (Ve (Gy J (Vr J)) J (Ve (Gy J (Vo J)) J (Ve (Gy J (Q3 J J J J J (by omega) (by omega))) J (Ve (Gy J (qj J J)) J (Ve (Gy J (qk J (by assumption) J)) J (Ve (Gy J (Ka J J J J (by assumption))) J (Ve (Qo J J J J) J (Ve (Vo J) J (Ve (Gy J (Vo J)) J (Ve (Gy J (qi J)) J ?_)))))))))));refine Ve (Gy J (Vq J J)) J (Ve (Gy J (Vr J)) J (Ve (Gy J (Vo J)) J (Ve (Gy J (Q3 J J J J J (by omega) (by omega))) J (Ve (Gy J (Q6 J J J J (by assumption) J J)) J (Ve (Gy J (Vs J J)) J ?_)))));refine Ve (Gy J (Qj J J (cm) J)) J ?_;refine Ve (Qo J J J J) J (Vd (zz (Qm J (zy (z0 J (z1 J (zz (Xa ?_))))))));refine B_r (T_r (T_r (B_r (T_r (F_r ?_)))))
    exact Ud J (Ue [0,1,2,3,4,5] J J (Xv (by rw [metI,metF_hit hp_A (by rw [hc,f1,f2,h3]; rfl) hlt])))
  ·have f2 : decide (0 < p.Life) = false := decide_eq_false h2
   refine zy (U1 J (zz (Qd (Qm J (Qh (Q0 (Qd (Qk (Qd ?_)))))))));refine Qc (z0 J (z1 J (zz (Qd (Xh u8_18 u8_19 u8_20 J (Ve (Vo J) J (Ve (Vo J) J (Ve (Vy J) J (Ve (Vo J) J (Ve (Gy J (Vo J)) J ?_))))))))));refine Ve (Gy J (qi J)) J (Ve (Gy J (Vq J J)) J (Ve (Gy J (Vr J)) J (Ve (Gy J (Vo J)) J (Ve (Gy J (Q3 J J J J J (by omega) (by omega))) J (Ve (Gy J (qj J J)) J (Ve (Gy J (qk J (by assumption) J)) J (Ve (Gy J (Ka J J J J (by assumption))) J (Ve (Qo J J J J) J (Ve (Vo J) J (Ve (Gx J) J (Ve (Gx J) J ?_)))))))))));refine Ve (Gx J) J (Ve (Gx J) J (Ve (Gx J) J (Ve (Gx J) J (Ve (Gx J) J (Ve (Gx J) J (Ve (Gx J) J (Ve (V0 J) J (Vd (zz (Ql J ?_))))))))));refine Qh (Q1 (Q0 (Qc (Uh J (z0 J (zz ?_))))))
   exact ⟨w.Scores.length - (k + 1),by omega,_,⟨k + 1,by omega,metF_no hp_A (by rw [hc,f2,Bool.and_false,Bool.false_and]),J⟩,Uf [0,1,2,3,4,5,6]⟩
 ·have hb0 : decide ((k : Int) < (els w.Scores).length) = false := decide_eq_false (by omega)
  have hk : k = w.Scores.length := by omega
  refine zy (U1 J (zz (Qd (Ql J (Q9 (T_x (T_x (Xk (Q0 ?_)))))))));refine zy (z1 J (zz (Xa (F_r ?_))))
  exact Ud J (Ue [0,1,2,3,4,5] J J (Xv (by rw [metI,← hk,hp_A])))
theorem S_l02Meets (w : TWorld) (b : TBody) (o : Int) (hn : w.Scores.length ≤ w.Bodies.length) (h4 : w.Scores.length ≤ 4) (hp : ∀ k p,k < w.Scores.length → w.Bodies[k]? = some p → Placed p) (hb : Placed b) : Con Tryz.prog 121 [.box [.ref 1,jn w.Tick,jn w.Seed,.ref 2,.ref 3],.row 1 (els w.Level.Rows),.row 1 (els w.Scores),.row 9 (els w.Bodies),.gh 0 (.c (.ptr 0 0)),.gh 6 (.c (.ref 3))] [.c (.ptr 0 0),ag b,ai o] [.box [.ref 1,jn w.Tick,jn w.Seed,.ref 2,.ref 3],.row 1 (els w.Level.Rows),.row 1 (els w.Scores),.row 9 (els w.Bodies),.gh 0 (.c (.ptr 0 0)),.gh 6 (.c (.ref 3))] (I (metI w.Bodies b o w.Scores.length)) := by
 have hls := Yx w.Scores
 have hlb := Yx w.Bodies
 refine Con.of Tryz.func121 J Tryz.ntmps121 J (fun E => ?_)
 refine zy (Un (Gf J) J (z1 J (zz (Qd (zy (z1 J (zz ?_)))))));refine Qk ?_;refine Xi (fun m st => ∃ k : Nat,k + m = w.Scores.length ∧ (metF w.Bodies b o k = none) ∧ st = (⟨_,[(0,.o (.c (.ptr 0 0))),(2,I o),(4,.o (.c (.ptr 6 0))),(7,I k)],[.box [.ref 1,jn w.Tick,jn w.Seed,.ref 2,.ref 3],.row 1 (els w.Level.Rows),.row 1 (els w.Scores),.row 9 (els w.Bodies),.gh 0 (.c (.ptr 0 0)),.gh 6 (.c (.ref 3)),.box ((Enc.e b).map (V1.rd []))]⟩ : St)) (w.Scores.length) ⟨_,⟨0,by omega,J,J⟩,Uf [0,1,2,3,4,5,6]⟩ ?_
 rintro m_A _ ⟨k,hk_A,hp_A,rfl⟩
 by_cases hlt : k < w.Scores.length
 ·have hb0 : decide ((k : Int) < (els w.Scores).length) = true := decide_eq_true (by omega)
  obtain ⟨p,hp1⟩ := K0 (xs := w.Bodies) (i := k) (by omega)
  have he := Yz hp1
  have cm := S_BodiesMeet p b (hp k p hlt hp1) hb
  have hc := metC_at (b := b) (o := o) hp1
  by_cases h1 : (k : Int) = o
  ·have f1 : decide ((k : Int) ≠ o) = false := decide_eq_false (fun q => q h1)
   refine Qd (zy (z0 J (z0 J (zx (qi J) J (Gg J J (z3 J (zx (Kc J J J J) J (U1 J (zz ?_)))))))));refine Qm J (Qh (Q0 (Qd (Qk (Qd (Xh u8_18 u8_21 u8_22 J (Ve (Vo J) J (Ve (Vo J) J (Ve (Vy J) J (Ve (Vo J) J (Ve (Gx J) J ?_)))))))))));refine Ve (Gx J) J (Ve (Gx J) J (Ve (Gx J) J (Ve (Gx J) J (Ve (Gx J) J (Ve (Gx J) J (Ve (Gx J) J (Ve (Gx J) J (Ve (V0 J) J (Ve (Vo J) J (Ve (Gx J) J (Ve (Gx J) J ?_)))))))))));refine Ve (Gx J) J (Ve (Gx J) J (Ve (Gx J) J (Ve (Gx J) J (Ve (Gx J) J (Ve (Gx J) J (Ve (Gx J) J (Ve (V0 J) J (Vd (zz (Ql J ?_))))))))));refine Qh (Q1 (Q0 (Qc (z0 J (Uh J (z1 J (zz ?_)))))))
   exact ⟨w.Scores.length - (k + 1),by omega,_,⟨k + 1,by omega,metF_no hp_A (by rw [hc,f1]; rfl),J⟩,Uf [0,1,2,3,4,5,6]⟩
  have f1 : decide ((k : Int) ≠ o) = true := decide_eq_true h1
  by_cases h2 : 0 < p.Life
  ·have f2 : decide (0 < p.Life) = true := decide_eq_true h2
   cases h3 : meetM p b with
   | false =>
    rw [h3] at cm
    refine Qd (zy (z0 J (z0 J (zx (qi J) J (Gg J J (z3 J (zx (Kc J J J J) J (U1 J (zz ?_)))))))));refine Qm J (Qh (Q0 (Qd (Qk (Qd (Xh u8_18 u8_21 u8_22 J (Ve (Vo J) J (Ve (Vo J) J (Ve (Vy J) J (Ve (Vo J) J (Ve (Gy J (Vo J)) J ?_)))))))))));refine Ve (Gy J (qi J)) J (Ve (Gy J (Vq J J)) J (Ve (Gy J (Vr J)) J (Ve (Gy J (Vo J)) J (Ve (Gy J (Q3 J J J J J (by omega) (by omega))) J (Ve (Gy J (qj J J)) J (Ve (Gy J (qk J (by assumption) J)) J (Ve (Gy J (Ka J J J J (by assumption))) J (Ve (Qo J J J J) J (Ve (Vo J) J (Ve (Gy J (Vo J)) J (Ve (Gy J (qi J)) J ?_)))))))))));refine Ve (Gy J (Vq J J)) J (Ve (Gy J (Vr J)) J (Ve (Gy J (Vo J)) J (Ve (Gy J (Q3 J J J J J (by omega) (by omega))) J (Ve (Gy J (Q6 J J J J (by assumption) J J)) J (Ve (Gy J (Vs J J)) J ?_)))));refine Ve (Gy J (Qj J J (cm) J)) J ?_;refine Ve (Qo J J J J) J (Vd (zz (Ql J (Qh (Q1 (Q0 (Qc (z0 J (Uh J (z1 J ?_))))))))));refine zz ?_
    exact ⟨w.Scores.length - (k + 1),by omega,_,⟨k + 1,by omega,metF_no hp_A (by rw [hc,h3,Bool.and_false]),J⟩,Uf [0,1,2,3,4,5,6]⟩
   | true =>
    rw [h3] at cm
    refine Qd (zy (z0 J (z0 J (zx (qi J) J (Gg J J (z3 J (zx (Kc J J J J) J (U1 J (zz ?_)))))))));refine Qm J (Qh (Q0 (Qd (Qk (Qd (Xh u8_18 u8_21 u8_22 J (Ve (Vo J) J (Ve (Vo J) J (Ve (Vy J) J (Ve (Vo J) J (Ve (Gy J (Vo J)) J ?_)))))))))));refine Ve (Gy J (qi J)) J (Ve (Gy J (Vq J J)) J (Ve (Gy J (Vr J)) J (Ve (Gy J (Vo J)) J (Ve (Gy J (Q3 J J J J J (by omega) (by omega))) J (Ve (Gy J (qj J J)) J (Ve (Gy J (qk J (by assumption) J)) J (Ve (Gy J (Ka J J J J (by assumption))) J (Ve (Qo J J J J) J (Ve (Vo J) J (Ve (Gy J (Vo J)) J (Ve (Gy J (qi J)) J ?_)))))))))));refine Ve (Gy J (Vq J J)) J (Ve (Gy J (Vr J)) J (Ve (Gy J (Vo J)) J (Ve (Gy J (Q3 J J J J J (by omega) (by omega))) J (Ve (Gy J (Q6 J J J J (by assumption) J J)) J (Ve (Gy J (Vs J J)) J ?_)))));refine Ve (Gy J (Qj J J (cm) J)) J ?_;refine Ve (Qo J J J J) J (Vd (zz (Qm J (zy (z0 J (z1 J (zz (Xa ?_))))))));refine B_r (T_r (T_r (B_r (T_r (F_r ?_)))))
    exact Ud J (Ue [0,1,2,3,4,5] J J (Xv (by rw [metI,metF_hit hp_A (by rw [hc,f1,f2,h3]; rfl) hlt])))
  ·have f2 : decide (0 < p.Life) = false := decide_eq_false h2
   refine Qd (zy (z0 J (z0 J (zx (qi J) J (Gg J J (z3 J (zx (Kc J J J J) J (U1 J (zz ?_)))))))));refine Qm J (Qh (Q0 (Qd (Qk (Qd (Xh u8_18 u8_21 u8_22 J (Ve (Vo J) J (Ve (Vo J) J (Ve (Vy J) J (Ve (Vo J) J (Ve (Gy J (Vo J)) J ?_)))))))))));refine Ve (Gy J (qi J)) J (Ve (Gy J (Vq J J)) J (Ve (Gy J (Vr J)) J (Ve (Gy J (Vo J)) J (Ve (Gy J (Q3 J J J J J (by omega) (by omega))) J (Ve (Gy J (qj J J)) J (Ve (Gy J (qk J (by assumption) J)) J (Ve (Gy J (Ka J J J J (by assumption))) J (Ve (Qo J J J J) J (Ve (Vo J) J (Ve (Gx J) J (Ve (Gx J) J ?_)))))))))));refine Ve (Gx J) J (Ve (Gx J) J (Ve (Gx J) J (Ve (Gx J) J (Ve (Gx J) J (Ve (Gx J) J (Ve (Gx J) J (Ve (V0 J) J (Vd (zz (Ql J ?_))))))))));refine Qh (Q1 (Q0 (Qc (z0 J (Uh J (z1 J (zz ?_)))))))
   exact ⟨w.Scores.length - (k + 1),by omega,_,⟨k + 1,by omega,metF_no hp_A (by rw [hc,f2,Bool.and_false,Bool.false_and]),J⟩,Uf [0,1,2,3,4,5,6]⟩
 ·have hb0 : decide ((k : Int) < (els w.Scores).length) = false := decide_eq_false (by omega)
  have hk : k = w.Scores.length := by omega
  refine Qd (zy (z0 J (z0 J (zx (qi J) J (Gg J J (z3 J (zx (Kc J J J J) J (U1 J (zz ?_)))))))));refine Ql J (Q9 (T_x (T_x (Xk (Q0 (zy (z1 J (zz (Xa ?_)))))))));refine F_r ?_
  exact Ud J (Ue [0,1,2,3,4,5] J J (Xv (by rw [metI,← hk,hp_A])))
def addM (ss : List Int) (k : Nat) : List Int := match ss[k]? with
 | none => ss
 | some s => ss.set k (min (s + 1) 1000000)
theorem addM_at {ss : List Int} {k : Nat} {s : Int} (h : ss[k]? = some s) : addM ss k = ss.set k (min (s + 1) 1000000) := by rw [addM,h]
theorem addM_els {ss : List Int} {k : Nat} {s : Int} (h : ss[k]? = some s) : els (addM ss k) = (els ss).set (k : Int).toNat (splice (Enc.e s) 0 [.v (.int .i64 (min (s + 1) 1000000))]) := by
 rw [addM_at h,els_set]; rfl
theorem addM_same {ss : List Int} {k : Nat} {s : Int} (h : ss[k]? = some s) (hs : ¬ s < 1000000) (h1 : s ≤ 1000000) : addM ss k = ss := by
 rw [addM_at h,show min (s + 1) 1000000 = s by omega]
 obtain ⟨hk,rfl⟩ := List.getElem?_eq_some_iff.1 h
 exact List.set_getElem_self hk
theorem I_addScore (w : TWorld) (k : Nat) (s : Int) (hs : w.Scores[k]? = some s) (h0 : 0 ≤ s ∧ s ≤ 1000000) : Con Tryz.prog 99 [.box [.ref 1,jn w.Tick,jn w.Seed,.ref 2,.ref 3],.row 1 (els w.Level.Rows),.row 1 (els w.Scores),.row 9 (els w.Bodies),.gh 0 (.c (.ptr 0 0)),.gh 5 (.c (.ref 3))] [.c (.ptr 0 0),ai k] [.box [.ref 1,jn w.Tick,jn w.Seed,.ref 2,.ref 3],.row 1 (els w.Level.Rows),.row 1 (els (addM w.Scores k)),.row 9 (els w.Bodies),.gh 0 (.c (.ptr 0 0)),.gh 5 (.c (.ref 3))] (.tu []) := by
 have hls := Yx w.Scores
 have hk := Y7 hs
 have he := Yz hs
 by_cases h1 : s < 1000000
 ·have f1 : decide (s < 1000000) = true := decide_eq_true h1
  rw [addM_els hs,show min (s + 1) 1000000 = s + 1 by omega]
  refine Con.of Tryz.func99 J Tryz.ntmps99 J (fun E => ?_)
  refine zy (z0 J (zx (qi J) J (Gg J J (z3 J (z0 J (zx (Q3 J J J J J (by omega) (by omega)) J (zx (qk J (by assumption) J) J (U1 J (zz ?_)))))))));refine Qm J (Qc (z0 J (zx (qi J) J (Gg J J (z3 J (z0 J (zx (Q3 J J J J J (by omega) (by omega)) J (zx (qk J (by assumption) J) J (Uh J (zx (Q3 J J J J J (by omega) (by omega)) J ?_))))))))));refine Xg J J J J J J J J J (by assumption) J J (Qe (F_n ?_))
  exact Xn J (Ue [0,1,2,3,4,5] J J J)
 ·have f1 : decide (s < 1000000) = false := decide_eq_false h1
  rw [addM_same hs h1 h0.2]
  refine Con.of Tryz.func99 J Tryz.ntmps99 J (fun E => ?_)
  refine zy (z0 J (zx (qi J) J (Gg J J (z3 J (z0 J (zx (Q3 J J J J J (by omega) (by omega)) J (zx (qk J (by assumption) J) J (U1 J (zz ?_)))))))));refine Ql J (Qh (F_n ?_))
  exact Xn J (Ue [0,1,2,3,4,5] J J J)
theorem S_l02Point (w : TWorld) (k : Nat) (s : Int) (hs : w.Scores[k]? = some s) (h0 : 0 ≤ s ∧ s ≤ 1000000) : Con Tryz.prog 122 [.box [.ref 1,jn w.Tick,jn w.Seed,.ref 2,.ref 3],.row 1 (els w.Level.Rows),.row 1 (els w.Scores),.row 9 (els w.Bodies),.gh 0 (.c (.ptr 0 0)),.gh 5 (.c (.ref 3))] [.c (.ptr 0 0),ai k] [.box [.ref 1,jn w.Tick,jn w.Seed,.ref 2,.ref 3],.row 1 (els w.Level.Rows),.row 1 (els (addM w.Scores k)),.row 9 (els w.Bodies),.gh 0 (.c (.ptr 0 0)),.gh 5 (.c (.ref 3))] (.tu []) := by
 have hls := Yx w.Scores
 have hk := Y7 hs
 have he := Yz hs
 rw [addM_els hs]
 refine Con.of Tryz.func122 J Tryz.ntmps122 J (fun E => ?_)
 skip
 refine Xh [[],[0],[0,1],[0,1,2],[],[],[5],[5,6],[5,6,7],[],[5,6,7,8,9],[5,6,7,8,9,10],[5,6,7,8,9,10,11],[5,6,7,8,9,10,11,12],(u9 14),(u9 15)] [[],[4],[4,5],[4,5,6],[],[],[9],[9,10],[9,10,11],[],[9,10,11,12,13],[9,10,11,12,13,14],[9,10,11,12,13,14,15],[9,10,11,12,13,14,15,16],[4,5,6,7,8,9,10,11,12,13,14,15,16,17],[4,5,6,7,8,9,10,11,12,13,14,15,16,17,18]] [[8,9,10,11,12,13,14,15,16,17],[8,9,10,11,12,13,14,15,16,17],[8,9,10,11,12,13,14,15,16,17],[8,9,10,11,12,13,14,15,16,17],[4,5,6,7,9,10,11,12,13,14,15,16,17],[4,5,6,7,8,13],[4,5,6,7,8,13],[4,5,6,7,8,13],[4,5,6,7,8,13],[4,5,6,7,8,9,10,11,12],[4,5,6,7,8],[4,5,6,7,8],[4,5,6,7,8],[4,5,6,7,8],[],[],[0,4]] J (Ve (Vo J) J (Ve (qi J) J (Ve (Vq J J) J (Ve (Vr J) J (Ve (Vo J) J (Ve (Vo J) J (Ve (qi J) J (Ve (Vq J J) J (Ve (Vr J) J (Ve (Vo J) J (Ve (Q3 J J J J J (by omega) (by omega)) J ?_)))))))))));refine Ve (qk J (by assumption) J) J (Ve (Vt J) J (Ve (q_min J J J J) J (Ve (Q3 J J J J J (by omega) (by omega)) J (Vd ?_))));refine Xg J J J J J J J J J (by assumption) J J (Qe (F_n ?_))
 exact Xn J (Ue [0,1,2,3,4,5] J J J)
end
section
open Go.RowKit

theorem colSp_len (row : ByteArray) (r : Nat) : ∀ n,(colSp row r n).length ≤ n
 | 0 => Nat.le_refl _
 | n + 1 => by have := colSp_len row r n; rw [colSp]; split <;> simp <;> omega
theorem rowSp_len {rows : List ByteArray} {w : Nat} (hw : ∀ (r : Nat) (hr : r < rows.length),(rows[r]).size = w) : ∀ n,(rowSp rows n).length ≤ n * w
 | 0 => by simp [rowSp]
 | n + 1 => by
  have h := rowSp_len hw n
  rw [rowSp]
  cases hr : rows[n]? with
  | none => simp only; rw [Nat.add_mul]; omega
  | some row =>
   obtain ⟨h1,h2⟩ := List.getElem?_eq_some_iff.1 hr
   have h3 := colSp_len row n row.size
   have h4 : row.size = w := by rw [← h2]; exact hw n h1
   simp only [List.length_append]
   rw [Nat.add_mul]
   omega
def spotsM (l : TLevel) : List (List Int) := rowSp l.Rows l.Rows.length
theorem spots_len {l : TLevel} (hl : levelOk l = true) : (spotsM l).length ≤ 240 := by
 obtain ⟨l3,l12,w,w4,w20,hw⟩ := Zh hl
 have h := rowSp_len hw l.Rows.length
 have h2 : l.Rows.length * w ≤ 12 * 20 := Nat.mul_le_mul l12 w20
 unfold spotsM
 omega
theorem colSp_at {row : ByteArray} {r : Nat} : ∀ {n : Nat} {s : List Int},s ∈ colSp row r n → ∃ c : Nat,c < n ∧ byteAt row c = 111 ∧ s = [(c : Int) * 16 + 4,(r : Int) * 16 + 4]
 | 0,s,h => by simp [colSp] at h
 | n + 1,s,h => by
  rw [colSp] at h
  split at h
  ·rename_i hb
   rcases List.mem_append.1 h with h | h
   ·obtain ⟨c,h1,h2⟩ := colSp_at h; exact ⟨c,by omega,h2⟩
   ·exact ⟨n,by omega,hb,by simpa using h⟩
  ·obtain ⟨c,h1,h2⟩ := colSp_at h; exact ⟨c,by omega,h2⟩
theorem rowSp_at {rows : List ByteArray} : ∀ {n : Nat} {s : List Int},s ∈ rowSp rows n → ∃ (r c : Nat) (row : ByteArray),r < n ∧ rows[r]? = some row ∧ c < row.size ∧ byteAt row c = 111 ∧ s = [(c : Int) * 16 + 4,(r : Int) * 16 + 4]
 | 0,s,h => by simp [rowSp] at h
 | n + 1,s,h => by
  rw [rowSp] at h
  cases hr : rows[n]? with
  | none => rw [hr] at h; obtain ⟨r,c,row,h1,h2⟩ := rowSp_at h; exact ⟨r,c,row,by omega,h2⟩
  | some row =>
   rw [hr] at h
   rcases List.mem_append.1 h with h | h
   ·obtain ⟨r,c,row,h1,h2⟩ := rowSp_at h; exact ⟨r,c,row,by omega,h2⟩
   ·obtain ⟨c,h1,h2⟩ := colSp_at h; exact ⟨n,c,row,by omega,hr,h1,h2⟩
theorem sp_hit {row : ByteArray} {r c : Nat} {A : List (List Int)} {x y : Int} (h : byteAt row c = 111) (hx : x = (c : Int) * 16 + 4) (hy : y = (r : Int) * 16 + 4) : els (A ++ colSp row r (c + 1)) = els (A ++ colSp row r c) ++ [[.sl 1 (els [x,y])]] := by
 rw [colSp,if_pos h,← List.append_assoc,Yu,hx,hy]; rfl
theorem sp_skip {row : ByteArray} {r c : Nat} (h : ¬ byteAt row c = 111) : colSp row r (c + 1) = colSp row r c := by rw [colSp,if_neg h]
theorem sp_row {rows : List ByteArray} {row : ByteArray} {r : Nat} (h : rows[r]? = some row) : rowSp rows (r + 1) = rowSp rows r ++ colSp row r row.size := by rw [rowSp,h]
theorem row2w {a : Ob} {k : Nat} {x y : List (List T)} (h : x = y) : [a,Ob.row k x] = [a,Ob.row k y] := by rw [h]
theorem I_SpotsOf (l : TLevel) (hg : Enc.gd l) (hl : levelOk l = true) : Con Tryz.prog 81 [] [ag l] [.row 1 (els (spotsM l))] (.o (.c (.ref 0))) := by
 have hc := Xt l hg
 rw [hl] at hc
 have hlr := Yx l.Rows
 obtain ⟨l3,l12,w,w4,w20,hw⟩ := Zh hl
 have hrl := rowSp_len hw
 refine Con.of Tryz.func81 J Tryz.ntmps81 J (fun E => ?_)
 refine zy (Un (Gf J) J (z1 J (zz (Qd (zy (Gw J J ?_))))));refine zx (Qj J J (hc) J) J ?_;refine zn J (zz (Ql J (Qh (Q0 (zy (z1 J (zz (Qd ?_))))))));refine zy (Gg J J (z3 J (zx (Kb J J J) J (z0 J (zz (Qk ?_))))))
 refine AWP.pre ?_ (W_nil 3 1 J)
 refine Xi (fun m st => ∃ r : Nat,r + m = l.Rows.length ∧ (True) ∧ st = (⟨_,[(1,.o (.c (.ptr 0 0))),(3,.o (.c (.ref 1))),(11,L l.Rows),(12,I (els l.Rows).length),(13,I r)],[.box ((Enc.e l).map (V1.rd [])),.row 1 (els (rowSp l.Rows r))]⟩ : St)) (l.Rows.length) ⟨_,⟨0,by omega,trivial,J⟩,Uf [0,1]⟩ ?_
 rintro m_A _ ⟨r,hk_A,hp_A,rfl⟩
 by_cases h3 : r < l.Rows.length
 ·have hb0 : decide ((r : Int) < (els l.Rows).length) = true := decide_eq_true (by omega)
  have hat := Yv h3
  have hwr := hw r h3
  have hrow := List.getElem?_eq_getElem h3
  generalize l.Rows[r] = row at hat hwr hrow
  have hr1 := hrl r
  have hr2 : r * w ≤ 12 * 20 := Nat.mul_le_mul (by omega) w20
  refine zy (U1 J (zz (Qd (Qm J (Qh (Q0 (Qd (Qk (Qd ?_)))))))));refine Qc (z0 J (zx (Q2 J J J J (by omega) (by assumption) J) J (zx (Ug J) J (z1 J (z1 J (zz (zy (z1 J (Qe ?_)))))))));refine Q0 (Qk ?_);refine Xi (fun m st => ∃ c : Nat,c + m = row.size ∧ (True) ∧ st = (⟨_,[(1,.o (.c (.ptr 0 0))),(3,.o (.c (.ref 1))),(4,I r),(5,S row),(6,I c),(11,L l.Rows),(12,I (els l.Rows).length),(13,I r)],[.box ((Enc.e l).map (V1.rd [])),.row 1 (els (rowSp l.Rows r ++ colSp row r c))]⟩ : St)) (row.size) ⟨(fun c : Nat => (⟨_,[(1,.o (.c (.ptr 0 0))),(3,.o (.c (.ref 1))),(4,I r),(5,S row),(6,I c),(11,L l.Rows),(12,I (els l.Rows).length),(13,I r)],[.box ((Enc.e l).map (V1.rd [])),.row 1 (els (rowSp l.Rows r ++ colSp row r c))]⟩ : St)) 0,⟨0,by omega,trivial,J⟩,Yb [0,1] (by decide) J (row2w (by rw [colSp,List.append_nil])) (.c J (.c J (.c J (.c J (.c J (.c J (.c J (.c J (.nil)))))))))⟩ ?_
  rintro m_D _ ⟨c,hk_D,hp_D,rfl⟩
  have hcl := colSp_len row r c
  have hel := Yx (rowSp l.Rows r ++ colSp row r c)
  rw [List.length_append] at hel
  by_cases h4 : c < row.size
  ·have hb1 : decide ((c : Int) < row.size) = true := decide_eq_true (by omega)
   have hbt := Yn row c
   have hbt2 := Yn row (c : Int).toNat
   by_cases ho : byteAt row c = 111
   ·have hb2 : decide (byteAt row (c : Int).toNat = 111) = true := decide_eq_true ho
    refine Qd (zy (z0 J (z0 J (zx (Kd J J J) J (U1 J (zz (Qm J (Qh (Q0 ?_)))))))));refine Qd (Qk (zy (z0 J (z0 J (zx (U3 J) J ?_)))));refine zx (Qv (b := true) J J J J (by decide)) J ?_;refine zz (Qm J (Qc (z0 J (z0 J (zx (Uw J) J (Uh J (z0 J (zx (Uw J) J (Uh J (Un (Uo J J) J ?_))))))))));refine AL.weak (Wk.sbrow (q := 2) (es := els [(c : Int) * 16 + 4,(r : Int) * 16 + 4]) J J (Nat.le_of_ble_eq_true J)) ?_;refine Un (Uo J J) J ?_;refine Xw J J J J J J J J J J J J J J (by omega) (by omega) ?_;refine z1 J (Qe (Q1 (Q0 (Qc (z0 J (Uh J (z1 J (zz ?_))))))))
    exact ⟨row.size - (c + 1),by omega,(fun c : Nat => (⟨_,[(1,.o (.c (.ptr 0 0))),(3,.o (.c (.ref 1))),(4,I r),(5,S row),(6,I c),(11,L l.Rows),(12,I (els l.Rows).length),(13,I r)],[.box ((Enc.e l).map (V1.rd [])),.row 1 (els (rowSp l.Rows r ++ colSp row r c))]⟩ : St)) (c + 1),⟨c + 1,by omega,trivial,J⟩,Yb [0,1] (by decide) J (row2w (sp_hit ho (by omega) (by omega))) (.c J (.c J (.c J (.c J (.c J (.c J (.c J (.c J (.nil)))))))))⟩
   ·have hb2 : decide (byteAt row (c : Int).toNat = 111) = false := decide_eq_false ho
    refine Qd (zy (z0 J (z0 J (zx (Kd J J J) J (U1 J (zz (Qm J (Qh (Q0 ?_)))))))));refine Qd (Qk (zy (z0 J (z0 J (zx (V7 J) J (Gr J (zz (Ql J (Qh ?_)))))))));refine Q1 (Q0 (Qc (z0 J (Uh J (z1 J (zz ?_))))))
    exact ⟨row.size - (c + 1),by omega,_,⟨c + 1,by omega,trivial,J⟩,(by rw [sp_skip ho]; exact Uf [0,1])⟩
  ·have hb1 : decide ((c : Int) < row.size) = false := decide_eq_false (by omega)
   have hk : c = row.size := by omega
   refine Qd (zy (z0 J (z0 J (zx (Kd J J J) J (U1 J (zz (Ql J (Q9 (T_x ?_)))))))));refine T_x (Xk (Q1 (Q0 (Qc (Uh J (z0 J (zz ?_)))))))
   exact ⟨l.Rows.length - (r + 1),by omega,_,⟨r + 1,by omega,trivial,J⟩,(by rw [sp_row hrow,hk]; exact Uf [0,1])⟩
 ·have hb0 : decide ((r : Int) < (els l.Rows).length) = false := decide_eq_false (by omega)
  have hk : r = l.Rows.length := by omega
  refine zy (U1 J (zz (Qd (Ql J (Q9 (T_x (T_x (Xk (Q0 ?_)))))))));refine zy (z0 J (z1 J (zz (Xa (F_r ?_)))))
  exact Ud J (Ue [1] J (by rw [spotsM,← hk]; rfl) J)
theorem S_SpotsOf (l : TLevel) (hg : Enc.gd l) (hl : levelOk l = true) : Con Tryz.prog 112 [] [ag l] [.row 1 (els (spotsM l))] (.o (.c (.ref 0))) := by
 have hc := S_LevelOk l hg
 rw [hl] at hc
 have hlr := Yx l.Rows
 obtain ⟨l3,l12,w,w4,w20,hw⟩ := Zh hl
 have hrl := rowSp_len hw
 refine Con.of Tryz.func112 J Tryz.ntmps112 J (fun E => ?_)
 refine zy (Un (Gf J) J (z1 J (zz (zy (Un (Zx J J J) J (z1 J (zz ?_)))))));refine Qd (zy (z1 J (zz (Qk ?_))));refine Xi (fun m st => ∃ r : Nat,r + m = l.Rows.length ∧ (True) ∧ st = (⟨_,[(1,.o (.c (.ptr 0 0))),(3,.o (.c (.ref 1))),(4,I r)],[.box ((Enc.e l).map (V1.rd [])),.row 1 (els (rowSp l.Rows r))]⟩ : St)) (l.Rows.length) ⟨_,⟨0,by omega,trivial,J⟩,Uf [0,1]⟩ ?_
 rintro m_A _ ⟨r,hk_A,hp_A,rfl⟩
 by_cases h3 : r < l.Rows.length
 ·have hb0 : decide ((r : Int) < (els l.Rows).length) = true := decide_eq_true (by omega)
  have hat := Yv h3
  have hwr := hw r h3
  have hrow := List.getElem?_eq_getElem h3
  generalize l.Rows[r] = row at hat hwr hrow
  have hr1 := hrl r
  have hr2 : r * w ≤ 12 * 20 := Nat.mul_le_mul (by omega) w20
  refine Qd (zy (z0 J (Gg J J (z3 J (zx (Kb J J J) J (U1 J (z0 J (z5 J (Gw J J (z5 J ?_))))))))));refine zx (Qj J J (hc) J) J ?_;refine zpT J (zz (Qm J (Qh (Q0 (Qd (Qk (zy (z1 J (Qe ?_)))))))));refine Q0 (Qk ?_);refine Xi (fun m st => ∃ c : Nat,c + m = row.size ∧ (True) ∧ st = (⟨_,[(1,.o (.c (.ptr 0 0))),(3,.o (.c (.ref 1))),(4,I r),(5,I c)],[.box ((Enc.e l).map (V1.rd [])),.row 1 (els (rowSp l.Rows r ++ colSp row r c))]⟩ : St)) (row.size) ⟨(fun c : Nat => (⟨_,[(1,.o (.c (.ptr 0 0))),(3,.o (.c (.ref 1))),(4,I r),(5,I c)],[.box ((Enc.e l).map (V1.rd [])),.row 1 (els (rowSp l.Rows r ++ colSp row r c))]⟩ : St)) 0,⟨0,by omega,trivial,J⟩,Yb [0,1] (by decide) J (row2w (by rw [colSp,List.append_nil])) (.c J (.c J (.c J (.c J (.nil)))))⟩ ?_
  rintro m_D _ ⟨c,hk_D,hp_D,rfl⟩
  have hcl := colSp_len row r c
  have hel := Yx (rowSp l.Rows r ++ colSp row r c)
  rw [List.length_append] at hel
  by_cases h4 : c < row.size
  ·have hb1 : decide ((c : Int) < row.size) = true := decide_eq_true (by omega)
   have hbt := Yn row c
   have hbt2 := Yn row (c : Int).toNat
   by_cases ho : byteAt row c = 111
   ·have hb2 : decide (byteAt row (c : Int).toNat = 111) = true := decide_eq_true ho
    refine Qd (zy (z0 J (Gg J J (z3 J (z0 J (zx (Q2 J J J J (by omega) (by assumption) J) J (zx (Ug J) J (zx (Kd J J J) J (U1 J (Qe ?_))))))))));refine Q0 (Qm J (Qh (Q0 (Qd (Qk (zy (Gg J J (z3 J (z0 J (zx (Q2 J J J J (by omega) (by assumption) J) J ?_))))))))));refine zx (Ug J) J (z0 J (zx (U3 J) J ?_));refine zx (Qv (b := true) J J J J (by decide)) J ?_;refine zz (Qm J (Qc (z0 J (z0 J (zx (Uw J) J (Uh J (z0 J (zx (Uw J) J (Uh J (Un (Uo J J) J ?_))))))))));refine AL.weak (Wk.sbrow (q := 2) (es := els [16 * (c : Int) + 4,16 * (r : Int) + 4]) J J (Nat.le_of_ble_eq_true J)) ?_;refine Un (Uo J J) J ?_;refine Xw J J J J J J J J J J J J J J (by omega) (by omega) ?_;refine z1 J (Qe (Q1 (Q0 (Qc (z0 J (Uh J (z1 J (zz ?_))))))))
    exact ⟨row.size - (c + 1),by omega,(fun c : Nat => (⟨_,[(1,.o (.c (.ptr 0 0))),(3,.o (.c (.ref 1))),(4,I r),(5,I c)],[.box ((Enc.e l).map (V1.rd [])),.row 1 (els (rowSp l.Rows r ++ colSp row r c))]⟩ : St)) (c + 1),⟨c + 1,by omega,trivial,J⟩,Yb [0,1] (by decide) J (row2w (sp_hit ho (by omega) (by omega))) (.c J (.c J (.c J (.c J (.nil)))))⟩
   ·have hb2 : decide (byteAt row (c : Int).toNat = 111) = false := decide_eq_false ho
    refine Qd (zy (z0 J (Gg J J (z3 J (z0 J (zx (Q2 J J J J (by omega) (by assumption) J) J (zx (Ug J) J (zx (Kd J J J) J (U1 J (Qe ?_))))))))));refine Q0 (Qm J (Qh (Q0 (Qd (Qk (zy (Gg J J (z3 J (z0 J (zx (Q2 J J J J (by omega) (by assumption) J) J ?_))))))))));refine zx (Ug J) J (z0 J (zx (V7 J) J (Gr J (zz (Ql J (Qh (Q1 (Q0 (Qc (z0 J ?_))))))))));refine Uh J (z1 J (zz ?_))
    exact ⟨row.size - (c + 1),by omega,_,⟨c + 1,by omega,trivial,J⟩,(by rw [sp_skip ho]; exact Uf [0,1])⟩
  ·have hb1 : decide ((c : Int) < row.size) = false := decide_eq_false (by omega)
   have hk : c = row.size := by omega
   refine Qd (zy (z0 J (Gg J J (z3 J (z0 J (zx (Q2 J J J J (by omega) (by assumption) J) J (zx (Ug J) J (zx (Kd J J J) J (U1 J (Qe ?_))))))))));refine Q0 (Ql J (Q9 (T_x (T_x (Xk (Q1 (Q0 (Qc (z0 J (Uh J (z1 J ?_)))))))))));refine zz ?_
   exact ⟨l.Rows.length - (r + 1),by omega,_,⟨r + 1,by omega,trivial,J⟩,(by rw [sp_row hrow,hk]; exact Uf [0,1])⟩
 ·have hb0 : decide ((r : Int) < (els l.Rows).length) = false := decide_eq_false (by omega)
  have hk : r = l.Rows.length := by omega
  refine Qd (zy (z0 J (Gg J J (z3 J (zx (Kb J J J) J (U1 J (z0 J (z6 J (z6 J (zpF J ?_))))))))));refine zz (Ql J (Q9 (T_x (T_x (Xk (Q0 (zy (z0 J (z1 J ?_)))))))));refine zz (Xa (F_r ?_))
  exact Ud J (Ue [1] J (by rw [spotsM,← hk]; rfl) J)
end
end Go.Proofs.YtcjclaoogdblbaaGreat
