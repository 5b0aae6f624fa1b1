/-
  Walls: SizeOf, solid, SolidAt of the program; SizeOf, l02Solid of the reference.
  Conditions: a valid level, a size from 1 to 16.
-/
import Derived.Test.YtbfhboakafjjgaaGreatDDReplRowk16
import Derived.Test.YtbfhboakafjjgaaGreatDDReplRowk17
set_option linter.unusedSimpArgs false
set_option linter.unusedVariables false
set_option maxRecDepth 8000
set_option maxHeartbeats 8000000
namespace Go.Proofs.YtbfhboakafjjgaaGreat
section
open Go.RowKit

theorem rowsM_size {rows : List ByteArray} {w : Nat} : ∀ n s,rowsM rows w n = some s → ∀ r,r < n → ∃ row,rows[r]? = some row ∧ row.size = w
 | 0,s,_ => fun r hr => by omega
 | n + 1,s,h => fun r hr => by
  rw [rowsM] at h
  split at h
  ·cases h
  ·rename_i s1 h1
   split at h
   ·cases h
   ·rename_i row hrow
    split at h
    ·rename_i hw
     by_cases e : r = n
     ·subst e; exact ⟨row,hrow,hw⟩
     ·exact rowsM_size n s1 h1 r (by omega)
    ·cases h
theorem Y5 {l : TLevel} (h : levelOk l = true) : 3 ≤ l.Rows.length ∧ l.Rows.length ≤ 12 ∧ ∃ w,4 ≤ w ∧ w ≤ 20 ∧ ∀ (r : Nat) (hr : r < l.Rows.length),(l.Rows[r]).size = w := by
 unfold levelOk at h
 simp only [Bool.and_eq_true,decide_eq_true_eq] at h
 obtain ⟨⟨⟨⟨h1,h2⟩,h3⟩,h4⟩,h5⟩ := h
 refine ⟨h1,h2,widthM l.Rows,h3,h4,fun r hr => ?_⟩
 split at h5
 ·rename_i s hs
  obtain ⟨row,h6,h7⟩ := rowsM_size _ s hs r hr
  rw [List.getElem?_eq_getElem hr] at h6
  simp only [Option.some.injEq] at h6
  rw [h6]; exact h7
 ·cases h5
def sizeOf (k : Int) : Int := if k = 0 then 12 else if k = 1 then 4 else if k = 2 then 8 else 0
theorem I_SizeOf (k : Int) : Con Tryz.prog 144 [] [ai k] [] (I (sizeOf k)) := by
 by_cases h0 : k = 0
 ·have hb : decide (k = 0) = true := decide_eq_true h0
  rw [show sizeOf k = 12 by rw [sizeOf,if_pos h0]]
  refine Con.of Tryz.func144 J Tryz.ntmps144 J (fun E => ?_)
  refine zy (z1 J (zz (Qd (zy (z0 J (zz (Qk ?_)))))));refine zy (z9e J (by assumption) (z1 J (zz (Qm J (zy (z1 J (zz ?_)))))));refine Xa (B_r (T_r (F_r ?_)))
  exact Xp J J (X5 [] (by decide) J J J)
 have hb0 : decide (k = 0) = false := decide_eq_false h0
 by_cases h1 : k = 1
 ·have hb : decide (k = 1) = true := decide_eq_true h1
  rw [show sizeOf k = 4 by rw [sizeOf,if_neg h0,if_pos h1]]
  refine Con.of Tryz.func144 J Tryz.ntmps144 J (fun E => ?_)
  refine zy (z1 J (zz (Qd (zy (z0 J (zz (Qk ?_)))))));refine zy (z9e J (by assumption) (z1 J (zz (Ql J (zy (z9e J (by assumption) (z1 J (Qe ?_))))))));refine Q0 (Qm J (zy (z1 J (zz (Xa (B_r (T_r (F_r ?_))))))))
  exact Xp J J (X5 [] (by decide) J J J)
 have hb1 : decide (k = 1) = false := decide_eq_false h1
 by_cases h2 : k = 2
 ·have hb : decide (k = 2) = true := decide_eq_true h2
  rw [show sizeOf k = 8 by rw [sizeOf,if_neg h0,if_neg h1,if_pos h2]]
  refine Con.of Tryz.func144 J Tryz.ntmps144 J (fun E => ?_)
  refine zy (z1 J (zz (Qd (zy (z0 J (zz (Qk ?_)))))));refine zy (z9e J (by assumption) (z1 J (zz (Ql J (zy (z9e J (by assumption) (z1 J (Qe ?_))))))));refine Q0 (Ql J (zy (z9e J (by assumption) (z1 J (zz (Qm J (zy (z1 J ?_))))))));refine zz (Xa (B_r (T_r (F_r ?_))))
  exact Xp J J (X5 [] (by decide) J J J)
 have hb2 : decide (k = 2) = false := decide_eq_false h2
 rw [show sizeOf k = 0 by rw [sizeOf,if_neg h0,if_neg h1,if_neg h2]]
 refine Con.of Tryz.func144 J Tryz.ntmps144 J (fun E => ?_)
 refine zy (z1 J (zz (Qd (zy (z0 J (zz (Qk ?_)))))));refine zy (z9e J (by assumption) (z1 J (zz (Ql J (zy (z9e J (by assumption) (z1 J (Qe ?_))))))));refine Q0 (Ql J (zy (z9e J (by assumption) (z1 J (zz (Ql J (Qh (Q1 (Q0 ?_)))))))));refine zy (z1 J (zz (Xa (F_r ?_))))
 exact Xp J J (X5 [] (by decide) J J J)
theorem S_SizeOf (k : Int) : Con Tryz.prog 137 [] [ai k] [] (I (sizeOf k)) := by
 by_cases h0 : k = 0
 ·have hb : decide (k = 0) = true := decide_eq_true h0
  rw [show sizeOf k = 12 by rw [sizeOf,if_pos h0]]
  refine Con.of Tryz.func137 J Tryz.ntmps137 J (fun E => ?_)
  refine zy (z1 J (zz (Qd (zy (z0 J (zz (Qk ?_)))))));refine zy (z9e J (by assumption) (z1 J (zz (Qm J (zy (z1 J (zz ?_)))))));refine Xa (B_r (T_r (F_r ?_)))
  exact Xp J J (X5 [] (by decide) J J J)
 have hb0 : decide (k = 0) = false := decide_eq_false h0
 by_cases h1 : k = 1
 ·have hb : decide (k = 1) = true := decide_eq_true h1
  rw [show sizeOf k = 4 by rw [sizeOf,if_neg h0,if_pos h1]]
  refine Con.of Tryz.func137 J Tryz.ntmps137 J (fun E => ?_)
  refine zy (z1 J (zz (Qd (zy (z0 J (zz (Qk ?_)))))));refine zy (z9e J (by assumption) (z1 J (zz (Ql J (zy (z9e J (by assumption) (z1 J (Qe ?_))))))));refine Q0 (Qm J (zy (z1 J (zz (Xa (B_r (T_r (F_r ?_))))))))
  exact Xp J J (X5 [] (by decide) J J J)
 have hb1 : decide (k = 1) = false := decide_eq_false h1
 by_cases h2 : k = 2
 ·have hb : decide (k = 2) = true := decide_eq_true h2
  rw [show sizeOf k = 8 by rw [sizeOf,if_neg h0,if_neg h1,if_pos h2]]
  refine Con.of Tryz.func137 J Tryz.ntmps137 J (fun E => ?_)
  refine zy (z1 J (zz (Qd (zy (z0 J (zz (Qk ?_)))))));refine zy (z9e J (by assumption) (z1 J (zz (Ql J (zy (z9e J (by assumption) (z1 J (Qe ?_))))))));refine Q0 (Ql J (zy (z9e J (by assumption) (z1 J (zz (Qm J (zy (z1 J ?_))))))));refine zz (Xa (B_r (T_r (F_r ?_))))
  exact Xp J J (X5 [] (by decide) J J J)
 have hb2 : decide (k = 2) = false := decide_eq_false h2
 rw [show sizeOf k = 0 by rw [sizeOf,if_neg h0,if_neg h1,if_neg h2]]
 refine Con.of Tryz.func137 J Tryz.ntmps137 J (fun E => ?_)
 refine zy (z1 J (zz (Qd (zy (z0 J (zz (Qk ?_)))))));refine zy (z9e J (by assumption) (z1 J (zz (Ql J (zy (z9e J (by assumption) (z1 J (Qe ?_))))))));refine Q0 (Ql J (zy (z9e J (by assumption) (z1 J (zz (Ql J (Qh (Q1 (Q0 ?_)))))))));refine zy (z1 J (zz (Xa (F_r ?_))))
 exact Xp J J (X5 [] (by decide) J J J)
def wallAt (l : TLevel) (r c : Int) : Prop := ∀ (q : Nat) (hq : q < l.Rows.length),r = q → 0 ≤ c → c < (l.Rows[q]).size → byteAt (l.Rows[q]) c.toNat = 35
def hits (l : TLevel) (x y s : Int) : Prop := ∃ r c : Int,y / 16 ≤ r ∧ r ≤ (y + s - 1) / 16 ∧ x / 16 ≤ c ∧ c ≤ (x + s - 1) / 16 ∧ wallAt l r c
noncomputable def solidM (l : TLevel) (x y s : Int) : Bool := @decide (hits l x y s) (Classical.propDecidable _)
theorem Kj {l : TLevel} {x y s : Int} (h : hits l x y s) : solidM l x y s = true := @decide_eq_true _ (Classical.propDecidable _) h
theorem solidM_F {l : TLevel} {x y s : Int} (h : ¬ hits l x y s) : solidM l x y s = false := @decide_eq_false _ (Classical.propDecidable _) h
theorem wall_tile {l : TLevel} {r c : Nat} (hr : r < l.Rows.length) (h : byteAt (l.Rows[r]) c = 35) : wallAt l r c := fun q hq e h0 h1 => by
 have : q = r := by omega
 subst this
 exact h
theorem no_wall {l : TLevel} {r c : Nat} (hr : r < l.Rows.length) (hc : c < (l.Rows[r]).size) (h : byteAt (l.Rows[r]) c ≠ 35) : ¬ wallAt l r c := fun hw => h (hw r hr rfl (by omega) (by omega))
theorem out_hits {l : TLevel} {x y s : Int} {w : Nat} (hw : ∀ (r : Nat) (hr : r < l.Rows.length),(l.Rows[r]).size = w) (h1 : 1 ≤ s) (h : x < 0 ∨ y < 0 ∨ (w : Int) * 16 - s < x ∨ (l.Rows.length : Int) * 16 - s < y) : hits l x y s := by
 by_cases hx : x < 0
 ·exact ⟨y / 16,x / 16,by omega,by omega,by omega,by omega,fun q hq e h0 h1 => by omega⟩
 by_cases hy : y < 0
 ·exact ⟨y / 16,x / 16,by omega,by omega,by omega,by omega,fun q hq e h0 h1 => by omega⟩
 by_cases hx2 : (w : Int) * 16 - s < x
 ·exact ⟨y / 16,(x + s - 1) / 16,by omega,by omega,by omega,by omega,fun q hq e h0 h1 => by have := hw q hq; omega⟩
 ·exact ⟨(y + s - 1) / 16,x / 16,by omega,by omega,by omega,by omega,fun q hq e h0 h1 => by omega⟩
def freeR (l : TLevel) (x s : Int) (a b : Int) : Prop := ∀ r c : Int,a ≤ r → r < b → x / 16 ≤ c → c ≤ (x + s - 1) / 16 → ¬ wallAt l r c
def freeC (l : TLevel) (r : Int) (a b : Int) : Prop := ∀ c : Int,a ≤ c → c < b → ¬ wallAt l r c
theorem free_all {l : TLevel} {x y s b : Int} (h : freeR l x s (y / 16) b) (hb : (y + s - 1) / 16 < b) : ¬ hits l x y s := fun ⟨r,c,h1,h2,h3,h4,h5⟩ => h r c h1 (by omega) h3 h4 h5
theorem free_row {l : TLevel} {x s a b e : Int} (h : freeR l x s a b) (hc : freeC l b (x / 16) e) (he : (x + s - 1) / 16 < e) : freeR l x s a (b + 1) := fun r c h1 h2 h3 h4 => by
 by_cases hr : r < b
 ·exact h r c h1 hr h3 h4
 ·have : r = b := by omega
  subst this
  exact hc c h3 (by omega)
theorem free_col {l : TLevel} {r a b : Int} (h : freeC l r a b) (hn : ¬ wallAt l r b) : freeC l r a (b + 1) := fun c h1 h2 => by
 by_cases hc : c < b
 ·exact h c h1 hc
 ·have : c = b := by omega
  subst this
  exact hn
theorem I_solid (l : TLevel) (x y s : Int) (hl : levelOk l = true) (hx : I64 x) (hy : I64 y) (h1 : 1 ≤ s) (h16 : s ≤ 16) : Con Tryz.prog 156 [] [ag l,ai x,ai y,ai s] [] (B (solidM l x y s)) := by
 obtain ⟨hx1,hx2⟩ := hx
 obtain ⟨hy1,hy2⟩ := hy
 obtain ⟨f3,f12,w,w4,w20,hw⟩ := Y5 hl
 have hlx := Yp l.Rows
 have h0 : 0 < l.Rows.length := by omega
 have hat0 : (els l.Rows)[(0 : Int).toNat]? = some (Enc.e l.Rows[0]) := Yo h0
 have hw0 := hw 0 h0
 refine Con.of Tryz.func156 J Tryz.ntmps156 J (fun E => ?_)
 refine zy (M1 (Qq J J J J) J J (z1 J (zz (zy (z2 J J J (z3 J (zx (Q2 J J J J (by omega) (by assumption) J) J (zx (Z0 J J J J) J ?_))))))));refine zx (Zy J J J) J (zx (Z3 J J J J (by omega)) J (z1 J (zz (zy (z2 J J J (z3 J (zx (Zw J J J) J (zx (Z3 J J J J (by omega)) J (z1 J ?_)))))))));refine zz (Qd (zy (z0 J (zx (Z1 J J J J) J (z0 J ?_)))));refine zx (Qt.grdF J J J .stop (fun hgrd => Qa J J J)) J ?_;refine zx (Qt.grdF J J J (.hit .stop) (fun hgrd => Z1 J J J J)) J ?_;refine zx (Z5 J J J J) J (z0 J ?_);refine zx (Qt.grdF J J J .stop (fun hgrd => Qa J J J)) J ?_;refine zx (Qt.grdF J J J (.hit .stop) (fun hgrd => Qa J J J)) J ?_;refine zx (Qt.grdF J J J (.hit (.hit .stop)) (fun hgrd => Qa J J J)) J ?_;refine zx (Qt.grdF J J J (.hit (.hit (.hit .stop))) (fun hgrd => Xc J J J J (by omega))) J ?_;refine zx (Qt.grdF J J J (.hit (.hit (.hit (.hit .stop)))) (fun hgrd => Zu J J J J)) J ?_;refine zx (Z5 J J J J) J (z0 J ?_);refine zx (Qt.grdF J J J .stop (fun hgrd => Qa J J J)) J ?_;refine zx (Qt.grdF J J J (.hit .stop) (fun hgrd => Qa J J J)) J ?_;refine zx (Qt.grdF J J J (.hit (.hit .stop)) (fun hgrd => Qa J J J)) J ?_;refine zx (Qt.grdF J J J (.hit (.hit (.hit .stop))) (fun hgrd => Xc J J J J (by omega))) J ?_;refine zx (Qt.grdF J J J (.hit (.hit (.hit (.hit .stop)))) (fun hgrd => Zu J J J J)) J ?_;refine zx (Z5 J J J J) J (zz ?_)
 refine Xb J (fun h => ?_) (fun h => ?_)
 ·simp only [Bool.or_eq_true,decide_eq_true_eq] at h
  rw [Kj (out_hits hw h1 (by omega))]
  refine zy (z1 J (zz (Xa (T_r (F_r ?_)))))
  exact Xp J J (X5 [] (by decide) J J J)
 simp only [Bool.or_eq_false_iff,decide_eq_false_iff_not] at h
 refine Qh (Q0 (Qd (zy (z0 J (zx (q_quo J J J J (by omega)) J (z1 J (zz (Qk ?_))))))));refine A_lq (fun m__ st => ∃ (r : Nat),((y + s - 1) / 16 + 1).toNat - r = m__ ∧ (y / 16 ≤ r ∧ (r : Int) ≤ (y + s - 1) / 16 + 1 ∧ freeR l x s (y / 16) r) ∧ st = (⟨_,[(1,I x),(2,I y),(3,I s),(4,.o (.c (.ptr 0 0))),(11,I r)],[.box ((Enc.e l).map (V1.rd []))]⟩ : St)) _ ⟨(fun (r : Nat) => (⟨_,[(1,I x),(2,I y),(3,I s),(4,.o (.c (.ptr 0 0))),(11,I r)],[.box ((Enc.e l).map (V1.rd []))]⟩ : St)) ((y / 16).toNat),⟨(y / 16).toNat,J,⟨by omega,by omega,fun r c h1 h2 => by omega⟩,J⟩,X7 [0] (by decide) J (by kernel_rfl) (.c J (.c J (.c J (.c J (.cons (Xx (by omega)) (.nil))))))⟩ ?_
 rintro m_A _ ⟨r,hk_A,hp_A,rfl⟩
 obtain ⟨hr1,hr2,hfr⟩ := hp_A
 refine Qd (zy (z0 J (z0 J (z0 J (z7 J (by omega) (z8 J (by omega) (zx (q_quo J J J J (by omega)) J (zx (q_leq J J J J) J (zz ?_)))))))))
 refine Xb J (fun h5 => ?_) (fun h5 => ?_)
 ·have h5 := of_decide_eq_true h5
  have hrl : r < l.Rows.length := by omega
  have hat := Yo hrl
  have hwr := hw r hrl
  refine Qh (Q0 (Qd (Qk (zy (z0 J (zx (q_quo J J J J (by omega)) J (z1 J (zz (Qk ?_)))))))));refine A_lq (fun m__ st => ∃ (c : Nat),((x + s - 1) / 16 + 1).toNat - c = m__ ∧ (x / 16 ≤ c ∧ (c : Int) ≤ (x + s - 1) / 16 + 1 ∧ freeC l r (x / 16) c) ∧ st = (⟨_,[(1,I x),(2,I y),(3,I s),(4,.o (.c (.ptr 0 0))),(11,I r),(12,I c)],[.box ((Enc.e l).map (V1.rd []))]⟩ : St)) _ ⟨(fun (c : Nat) => (⟨_,[(1,I x),(2,I y),(3,I s),(4,.o (.c (.ptr 0 0))),(11,I r),(12,I c)],[.box ((Enc.e l).map (V1.rd []))]⟩ : St)) ((x / 16).toNat),⟨(x / 16).toNat,J,⟨by omega,by omega,fun c h1 h2 => by omega⟩,J⟩,X7 [0] (by decide) J (by kernel_rfl) (.c J (.c J (.c J (.c J (.c J (.cons (Xx (by omega)) (.nil)))))))⟩ ?_
  rintro m_B _ ⟨c,hk_B,hp_B,rfl⟩
  obtain ⟨hc1,hc2,hfc⟩ := hp_B
  refine Qd (zy (z0 J (z0 J (z0 J (z7 J (by omega) (z8 J (by omega) (zx (q_quo J J J J (by omega)) J (zx (q_leq J J J J) J (zz ?_)))))))))
  refine Xb J (fun h6 => ?_) (fun h6 => ?_)
  ·have h6 := of_decide_eq_true h6
   refine Qh (Q0 (Qd (Qk (zy (z2 J J J (z3 J (z0 J (zx (Q2 J J J J (by omega) (by assumption) J) J (zx (Z0 J J J J) J (z0 J ?_))))))))));refine zx (Zm J J J J (by omega)) J (zx (Zq J J J J) J (zz ?_))
   refine Xb J (fun h7 => ?_) (fun h7 => ?_)
   ·have h7 := of_decide_eq_true h7
    rw [Kj ⟨(r : Int),(c : Int),hr1,by omega,hc1,by omega,wall_tile hrl h7⟩]
    refine zy (z1 J (zz (Xa (B_r (T_r (T_r (B_r (B_r (T_r ?_)))))))));refine T_r (B_r (T_r (F_r ?_)))
    exact Xp J J (X5 [] (by decide) J J J)
   ·have h7 := of_decide_eq_false h7
    refine Qh (Q1 (Q0 (Qc (z0 J (z7 J (by omega) (z1 J (zz ?_)))))))
    refine ⟨_,(by omega),_,⟨c + 1,J,⟨by omega,by omega,free_col hfc (no_wall hrl (by omega) h7)⟩,J⟩,W_gj [0] (by kernel_rfl)⟩
  ·have h6 := of_decide_eq_false h6
   refine Q9 (T_x (T_x (Xl (Q1 (Q0 (Qc (z0 J (z7 J (by omega) (z1 J (zz ?_))))))))))
   refine ⟨_,(by omega),_,⟨r + 1,J,⟨by omega,by omega,free_row hfr hfc (by omega)⟩,J⟩,W_gj [0] (by kernel_rfl)⟩
 ·have h5 := of_decide_eq_false h5
  rw [solidM_F (free_all hfr (by omega))]
  refine Q9 (T_x (T_x (Xl (Q0 (zy (z1 J (zz (Xa (F_r ?_)))))))))
  exact Xp J J (X5 [] (by decide) J J J)
theorem S_l02Solid (l : TLevel) (x y s : Int) (hl : levelOk l = true) (hx : I64 x) (hy : I64 y) (h1 : 1 ≤ s) (h16 : s ≤ 16) : Con Tryz.prog 136 [] [ag l,ai x,ai y,ai s] [] (B (solidM l x y s)) := by
 obtain ⟨hx1,hx2⟩ := hx
 obtain ⟨hy1,hy2⟩ := hy
 obtain ⟨f3,f12,w,w4,w20,hw⟩ := Y5 hl
 have hlx := Yp l.Rows
 refine Con.of Tryz.func136 J Tryz.ntmps136 J (fun E => ?_)
 refine zy (M1 (Qq J J J J) J J (z1 J (zz (Qd (zy (z0 J ?_))))));refine zx (Qj J J (S_in x 0 1000) J) J ?_;refine zn J (z0 J ?_);refine zx (Qt.grdF J J J .stop (fun hgrd => Qa J J J)) J ?_;refine zx (Qt.grdF J J J (.hit .stop) (fun hgrd => Qj J J (S_in y 0 1000) J)) J ?_;refine zx (Qt.grdF J J J (.hit (.hit .stop)) (fun hgrd => Q4 J J J)) J ?_;refine zx (Z5 J J J J) J (zz ?_)
 refine Xb J (fun h => ?_) (fun h => ?_)
 ·have h : ¬ (0 ≤ x ∧ x ≤ 1000) ∨ ¬ (0 ≤ y ∧ y ≤ 1000) := by
   rw [← Y3,← Y3]
   simpa using h
  rw [Kj (out_hits hw h1 (by omega))]
  refine zy (z1 J (zz (Xa (T_r (F_r ?_)))))
  exact Xp J J (X5 [] (by decide) J J J)
 have h : (0 ≤ x ∧ x ≤ 1000) ∧ (0 ≤ y ∧ y ≤ 1000) := by
  rw [← Y3,← Y3]
  simpa using h
 refine Qh (Q0 (Qd (zy (z0 J (zx (q_quo J J J J (by omega)) J (z1 J (zz (Qk ?_))))))));refine A_lq (fun m__ st => ∃ (r : Nat),((y + s - 1) / 16 + 1).toNat - r = m__ ∧ (y / 16 ≤ r ∧ (r : Int) ≤ (y + s - 1) / 16 + 1 ∧ freeR l x s (y / 16) r) ∧ st = (⟨_,[(1,I x),(2,I y),(3,I s),(4,.o (.c (.ptr 0 0))),(9,I r)],[.box ((Enc.e l).map (V1.rd []))]⟩ : St)) _ ⟨(fun (r : Nat) => (⟨_,[(1,I x),(2,I y),(3,I s),(4,.o (.c (.ptr 0 0))),(9,I r)],[.box ((Enc.e l).map (V1.rd []))]⟩ : St)) ((y / 16).toNat),⟨(y / 16).toNat,J,⟨by omega,by omega,fun r c h1 h2 => by omega⟩,J⟩,X7 [0] (by decide) J (by kernel_rfl) (.c J (.c J (.c J (.c J (.cons (Xx (by omega)) (.nil))))))⟩ ?_
 rintro m_A _ ⟨r,hk_A,hp_A,rfl⟩
 obtain ⟨hr1,hr2,hfr⟩ := hp_A
 refine Qd (zy (z0 J (z0 J (z0 J (z7 J (by omega) (z8 J (by omega) (zx (q_quo J J J J (by omega)) J (zx (q_leq J J J J) J (zz ?_)))))))))
 refine Xb J (fun h5 => ?_) (fun h5 => ?_)
 ·have h5 := of_decide_eq_true h5
  refine Qh (Q0 (Qd (Qk (zy (z0 J (zx (q_quo J J J J (by omega)) J (z1 J (zz (Qk ?_)))))))));refine A_lq (fun m__ st => ∃ (c : Nat),((x + s - 1) / 16 + 1).toNat - c = m__ ∧ (x / 16 ≤ c ∧ (c : Int) ≤ (x + s - 1) / 16 + 1 ∧ freeC l r (x / 16) c) ∧ st = (⟨_,[(1,I x),(2,I y),(3,I s),(4,.o (.c (.ptr 0 0))),(9,I r),(10,I c)],[.box ((Enc.e l).map (V1.rd []))]⟩ : St)) _ ⟨(fun (c : Nat) => (⟨_,[(1,I x),(2,I y),(3,I s),(4,.o (.c (.ptr 0 0))),(9,I r),(10,I c)],[.box ((Enc.e l).map (V1.rd []))]⟩ : St)) ((x / 16).toNat),⟨(x / 16).toNat,J,⟨by omega,by omega,fun c h1 h2 => by omega⟩,J⟩,X7 [0] (by decide) J (by kernel_rfl) (.c J (.c J (.c J (.c J (.c J (.cons (Xx (by omega)) (.nil)))))))⟩ ?_
  rintro m_B _ ⟨c,hk_B,hp_B,rfl⟩
  obtain ⟨hc1,hc2,hfc⟩ := hp_B
  refine Qd (zy (z0 J (z0 J (z0 J (z7 J (by omega) (z8 J (by omega) (zx (q_quo J J J J (by omega)) J (zx (q_leq J J J J) J (zz ?_)))))))))
  refine Xb J (fun h6 => ?_) (fun h6 => ?_)
  ·have h6 := of_decide_eq_true h6
   by_cases hrl : r < l.Rows.length
   ·have hat := Yo hrl
    have hb : decide (((els l.Rows).length : Int) ≤ r) = false := decide_eq_false (by omega)
    by_cases hcl : c < (l.Rows[r]).size
    ·have hb2 : decide (((l.Rows[r]).size : Int) ≤ c) = false := decide_eq_false (by omega)
     by_cases h7 : byteAt (l.Rows[r]) c = 35
     ·have hb3 : decide (byteAt (l.Rows[r]) (c : Int).toNat = 35) = true := decide_eq_true h7
      rw [Kj ⟨(r : Int),(c : Int),hr1,by omega,hc1,by omega,wall_tile hrl h7⟩]
      refine Qh (Q0 (Qd (Qk (zy (z0 J (z2 J J J (z3 J (zx (Zw J J J) J (z9d J (by assumption) (z0 J ?_))))))))));refine z5 J (z0 J (z5 J (z2 J J J (z5 J (z3 J (z5 J (z0 J (z5 J (zx (Q2 J J J J (by omega) (by assumption) J) J (z5 J (zx (Z0 J J J J) J ?_)))))))))));refine z5 J (zx (Zy J J J) J (z5 J (z9d J (by assumption) (zpF J (z0 J (z5 J (z2 J J J (z5 J (z3 J (z5 J (z0 J ?_)))))))))));refine z5 J (zx (Q2 J J J J (by omega) (by assumption) J) J (z5 J (zx (Z0 J J J J) J (z5 J (z0 J (z5 J (zx (Zn J J J J (by assumption) (by omega)) J (z5 J ?_))))))));refine zx (Qv (b := true) J J J J (by decide)) J ?_;refine zpF J (zz (Qm J (zy (z1 J (zz (Xa (B_r (T_r ?_))))))));refine T_r (B_r (B_r (T_r (T_r (B_r (T_r (F_r ?_)))))))
      exact Xp J J (X5 [] (by decide) J J J)
     ·have hb3 : decide (byteAt (l.Rows[r]) (c : Int).toNat = 35) = false := decide_eq_false h7
      refine Qh (Q0 (Qd (Qk (zy (z0 J (z2 J J J (z3 J (zx (Zw J J J) J (z9d J (by assumption) (z0 J ?_))))))))));refine z5 J (z0 J (z5 J (z2 J J J (z5 J (z3 J (z5 J (z0 J (z5 J (zx (Q2 J J J J (by omega) (by assumption) J) J (z5 J (zx (Z0 J J J J) J ?_)))))))))));refine z5 J (zx (Zy J J J) J (z5 J (z9d J (by assumption) (zpF J (z0 J (z5 J (z2 J J J (z5 J (z3 J (z5 J (z0 J ?_)))))))))));refine z5 J (zx (Q2 J J J J (by omega) (by assumption) J) J (z5 J (zx (Z0 J J J J) J (z5 J (z0 J (z5 J (zx (Zm J J J J (by omega)) J (z5 J (z9e J (by assumption) (zpF J (Qe ?_)))))))))));refine Q0 (Ql J (Qh (Q1 (Q0 (Qc (z0 J (z7 J (by omega) (z1 J (zz ?_)))))))))
      refine ⟨_,(by omega),_,⟨c + 1,J,⟨by omega,by omega,free_col hfc (no_wall hrl hcl h7)⟩,J⟩,W_gj [0] (by kernel_rfl)⟩
    ·have hb2 : decide (((l.Rows[r]).size : Int) ≤ c) = true := decide_eq_true (by omega)
     rw [Kj ⟨(r : Int),(c : Int),hr1,by omega,hc1,by omega,fun q hq e g0 g1 => by have : q = r := (by omega); subst this; omega⟩]
     refine Qh (Q0 (Qd (Qk (zy (z0 J (z2 J J J (z3 J (zx (Zw J J J) J (z9d J (by assumption) (z0 J ?_))))))))));refine z5 J (z0 J (z5 J (z2 J J J (z5 J (z3 J (z5 J (z0 J (z5 J (zx (Q2 J J J J (by omega) (by assumption) J) J (z5 J (zx (Z0 J J J J) J ?_)))))))))));refine z5 J (zx (Zy J J J) J (z5 J (z9d J (by assumption) (zpF J (z0 J (z6 J (z6 J (z6 J (z6 J (z6 J (z6 J ?_)))))))))));refine z6 J (z6 J (zpT J (zz (Qm J (zy (z1 J (zz (Xa ?_))))))));refine B_r (T_r (T_r (B_r (B_r (T_r (T_r (B_r (T_r (F_r ?_)))))))))
     exact Xp J J (X5 [] (by decide) J J J)
   ·have hb : decide (((els l.Rows).length : Int) ≤ r) = true := decide_eq_true (by omega)
    rw [Kj ⟨(r : Int),(c : Int),hr1,by omega,hc1,by omega,fun q hq e g0 g1 => by omega⟩]
    refine Qh (Q0 (Qd (Qk (zy (z0 J (z2 J J J (z3 J (zx (Zw J J J) J (z9d J (by assumption) (z0 J ?_))))))))));refine z6 J (z6 J (z6 J (z6 J (z6 J (z6 J (z6 J (z6 J (zpT J (z0 J (z6 J (z6 J ?_)))))))))));refine z6 J (z6 J (z6 J (z6 J (z6 J (z6 J (zpT J (zz (Qm J (zy ?_)))))))));refine z1 J (zz (Xa (B_r (T_r (T_r (B_r (B_r (T_r (T_r (B_r ?_))))))))));refine T_r (F_r ?_)
    exact Xp J J (X5 [] (by decide) J J J)
  ·have h6 := of_decide_eq_false h6
   refine Q9 (T_x (T_x (Xl (Q1 (Q0 (Qc (z0 J (z7 J (by omega) (z1 J (zz ?_))))))))))
   refine ⟨_,(by omega),_,⟨r + 1,J,⟨by omega,by omega,free_row hfr hfc (by omega)⟩,J⟩,W_gj [0] (by kernel_rfl)⟩
 ·have h5 := of_decide_eq_false h5
  rw [solidM_F (free_all hfr (by omega))]
  refine Q9 (T_x (T_x (Xl (Q0 (zy (z1 J (zz (Xa (F_r ?_)))))))))
  exact Xp J J (X5 [] (by decide) J J J)
noncomputable def solidAt (l : TLevel) (x y s : Int) : Bool := (!inR s 1 16 || !levelOk l) || solidM l x y s
theorem I_SolidAt (l : TLevel) (x y s : Int) (hg : Enc.gd l) (hx : I64 x) (hy : I64 y) : Con Tryz.prog 143 [] [ag l,ai x,ai y,ai s] [] (B (solidAt l x y s)) := by
 have hc := Xt l hg
 by_cases hs : ¬ (1 ≤ s ∧ s ≤ 16)
 ·have hf : inR s 1 16 = false := by rw [← Bool.not_eq_true,Y3]; exact hs
  rw [show solidAt l x y s = true by rw [solidAt,hf]; rfl]
  refine Con.of Tryz.func143 J Tryz.ntmps143 J (fun E => ?_)
  refine zy (M1 (Qq J J J J) J J (z1 J (zz (Qd (zy (z0 J (zx (Z1 J J J J) J (z0 J ?_))))))));refine zx (Qt.grdF J J J .stop (fun hgrd => Qa J J J)) J ?_;refine zx (Qt.grdF J J J (.hit .stop) (fun hgrd => Zu J J J J)) J ?_;refine zx (Z5 J J J J) J (z0 J ?_);refine zx (Qt.grdF J J J .stop (fun hgrd => Qu J J J J J J)) J ?_;refine zx (Qt.grdF J J J (.hit .stop) (fun hgrd => Qj J J (hc) J)) J ?_;refine zx (Qt.grdF J J J (.hit (.hit .stop)) (fun hgrd => Q4 J J J)) J ?_;refine zx (Z5 J J J J) J (zz ?_)
  refine Xb J (fun h => ?_) (fun h => ?_)
  ·refine zy (z1 rfl (zz (Xa (T_r (F_r ?_)))))
   exact Xp J J (X5 [] (by decide) J J J)
  ·simp only [Bool.or_eq_false_iff,decide_eq_false_iff_not] at h
   omega
 have hs := Classical.not_not.1 hs
 have hb1 : decide (s < 1) = false := decide_eq_false (by omega)
 have hb2 : decide (16 < s) = false := decide_eq_false (by omega)
 cases ho : levelOk l with
 | false =>
  rw [ho] at hc
  rw [show solidAt l x y s = true by rw [solidAt,ho]; simp]
  refine Con.of Tryz.func143 J Tryz.ntmps143 J (fun E => ?_)
  refine zy (M1 (Qq J J J J) J J (z1 J (zz (Qd (zy (z0 J (z9a J (by assumption) (z0 J ?_))))))));refine z5 J (z0 J (z5 J (z9c J (by assumption) (zpF J (z0 J (z5 J (z4 J J J (z5 J ?_))))))));refine zx (Qj J J (hc) J) J ?_;refine z5 J (zn J (zpF J (zz (Qm J (zy (z1 J (zz (Xa ?_))))))));refine T_r (F_r ?_)
  exact Xp J J (X5 [] (by decide) J J J)
 | true =>
  rw [ho] at hc
  rw [show solidAt l x y s = solidM l x y s by rw [solidAt,ho,Y3.2 hs]; rfl]
  have hd := I_solid l x y s ho hx hy hs.1 hs.2
  refine Con.of Tryz.func143 J Tryz.ntmps143 J (fun E => ?_)
  refine zy (M1 (Qq J J J J) J J (z1 J (zz (Qd (zy (z0 J (z9a J (by assumption) (z0 J ?_))))))));refine z5 J (z0 J (z5 J (z9c J (by assumption) (zpF J (z0 J (z5 J (z4 J J J (z5 J ?_))))))));refine zx (Qj J J (hc) J) J ?_;refine z5 J (zn J (zpF J (zz (Ql J (Qh (Q0 (zy (z4 J J J (z0 J ?_)))))))));refine z0 J (z0 J ?_);refine zx (Qj J J (hd) J) J ?_;refine z1 J (zz (Xa (F_r ?_)))
  exact Xp J J (X5 [] (by decide) J J J)
end
end Go.Proofs.YtbfhboakafjjgaaGreat
