/-
  Parts of the proof (rules, data, and what functions of the program and of the reference return), among them: Comparing replays: what SameReplay and what it calls return, in the program and in the reference; Comparing replays, second part: levels and replays.
  Conditions: those that each theorem names.
-/
import Derived.Test.YtbfhboakafjjgaaGreatDDReplRowk15
import Derived.Test.YtbfhboakafjjgaaGreatDDReplRowk37
set_option linter.unusedSimpArgs false
set_option linter.unusedVariables false
set_option maxRecDepth 8000
set_option maxHeartbeats 8000000
namespace Go.Proofs.YtbfhboakafjjgaaGreat
section
open Go.RowKit

noncomputable def seekM (r : TReplay) (t : Int) : Option TWorld :=
 if replayOk r = true ∧ 0 ≤ t ∧ t ≤ r.Rows.length then
  (match keyAt r (t / r.Every - 1) with
  | none => none
  | some w => some (runM w ((r.Rows.take t.toNat).drop (t / r.Every * r.Every).toNat)))
 else none
theorem seek_no {r : TReplay} {t : Int} (h : ¬ (replayOk r = true ∧ 0 ≤ t ∧ t ≤ r.Rows.length)) : seekM r t = none := if_neg h
theorem seek_none {r : TReplay} {t : Int} (h : replayOk r = true ∧ 0 ≤ t ∧ t ≤ r.Rows.length) (hk : keyAt r (t / r.Every - 1) = none) : seekM r t = none := by rw [seekM,if_pos h,hk]
theorem seek_some {r : TReplay} {t : Int} {w : TWorld} (h : replayOk r = true ∧ 0 ≤ t ∧ t ≤ r.Rows.length) (hk : keyAt r (t / r.Every - 1) = some w) : seekM r t = some (runM w ((r.Rows.take t.toNat).drop (t / r.Every * r.Every).toNat)) := by rw [seekM,if_pos h,hk]
theorem seek_in {r : TReplay} {t : Int} (ir : RepIn r) : WorIn (rwW (seekM r t)) := by
 by_cases h : replayOk r = true ∧ 0 ≤ t ∧ t ≤ r.Rows.length
 ·have hi := keyAt_in (k := t / r.Every - 1) ir
  cases hk : keyAt r (t / r.Every - 1) with
  | none => rw [seek_none h hk]; exact Km
  | some w =>
   rw [hk] at hi
   rw [seek_some h hk]
   exact ran_in _ hi
 ·rw [seek_no h]; exact Km
theorem seek_els {xs : List (List Int)} {a b : Nat} : ((els xs).take a).drop b = els ((xs.take a).drop b) := by rw [els,els,List.map_drop,List.map_take]
theorem gd_part {xs : List (List Int)} (h : Enc.gd xs) (a b : Nat) : Enc.gd ((xs.take a).drop b) := ⟨by have := h.1; rw [List.length_drop,List.length_take]; omega,fun x hx => h.2 x (List.mem_of_mem_take (List.mem_of_mem_drop hx))⟩
theorem I_SeekReplay (r : TReplay) (t : Int) (hg : Enc.gd r) (ht : I64 t) (ir : RepIn r) (hks : ∀ x ∈ r.Keys,x.size ≤ 1048576) : Con Tryz.prog 12 [] [ag r,ai t] (ownO (Enc.e (rwW (seekM r t)))) (.tu [.ag (ownV 0 (Enc.e (rwW (seekM r t)))),.c (bv (rwB (seekM r t)))]) := by
 have cr := Xu r hg
 have hlk := Yp r.Rows
 have hrl := ir.h3
 obtain ⟨hk1,hk2⟩ := ht
 refine Con.of Tryz.func12 J Tryz.ntmps12 J (fun E => ?_)
 refine zy (M1 (Qq J J J J) J J (M1 (Qx J J J) J J (z1 J (zz (Qd (zy (z4 J J J ?_)))))));refine zx (Qj J J (cr) J) J ?_;refine zn J (z0 J ?_);refine zx (Qt.grdF J J J .stop (fun hgrd => Qa J J J)) J ?_;refine zx (Qt.grdF J J J (.hit .stop) (fun hgrd => Z1 J J J J)) J ?_;refine zx (Z5 J J J J) J (z0 J ?_);refine zx (Qt.grdF J J J .stop (fun hgrd => Qa J J J)) J ?_;refine zx (Qt.grdF J J J (.hit .stop) (fun hgrd => Qf J J J J (by decide))) J ?_;refine zx (Qt.grdF J J J (.hit (.hit .stop)) (fun hgrd => Qg J J J J J)) J ?_;refine zx (Qt.grdF J J J (.hit (.hit (.hit .stop))) (fun hgrd => Zw J J J)) J ?_;refine zx (Qt.grdF J J J (.hit (.hit (.hit (.hit .stop)))) (fun hgrd => Zu J J J J)) J ?_;refine zx (Z5 J J J J) J (zz ?_)
 refine Xb J (fun h => ?_) (fun h => ?_)
 ·rw [seek_no (fun ⟨q1,q2,q3⟩ => by rw [q1] at h; simp at h; omega)]
  refine zy (zx (Zl J J J J J) J ?_);refine Qy J J J J J J J J J (z1 J (zz (Xa (T_r (F_r ?_)))))
  exact Xn J J J J J (X6 [1,1,9] [2,3,4] J J (by decide) J J J)
 simp only [Bool.or_eq_false_iff,Bool.not_eq_false',decide_eq_false_iff_not] at h
 have hv : replayOk r = true ∧ 0 ≤ t ∧ t ≤ r.Rows.length := ⟨h.1.1,by omega,by omega⟩
 have hr := rok hv.1
 obtain ⟨he1,he2⟩ := hr.e
 obtain ⟨K,hK⟩ : ∃ K,K = t / r.Every := ⟨_,rfl⟩
 have hK0 : 0 ≤ K := by rw [hK]; exact Int.ediv_nonneg hv.2.1 (by omega)
 have hKt : K ≤ t := by rw [hK]; exact Int.ediv_le_self _ hv.2.1
 have hm0 : 0 ≤ K * r.Every := Int.mul_nonneg hK0 (by omega)
 have hmt : K * r.Every ≤ t := by rw [hK]; exact Int.ediv_mul_le t (by omega)
 have hm1 : (K - 1 + 1) * r.Every = K * r.Every := by rw [Int.sub_add_cancel]
 have hka := I_KeyAt r (K - 1) hg ⟨by omega,by omega⟩ ir hks
 have hin := keyAt_in (k := K - 1) ir
 refine Qh (Q0 (zy (z0 J (z2 J J J (z3 J (zx (q_quo J J J J (by omega)) J (z8 J (by omega) (z1 J (zz ?_)))))))));refine zy (z4 J J J (z0 J ?_));refine AL.weak (st' := (⟨_,[(1,I t),(2,.o (.c (.ptr 0 0))),(4,.o (.c (.ptr 1 0))),(6,I (K - 1)),(30,.o (.ag ((Enc.e r).map (V1.rd [])))),(31,I (K - 1))],[.box ((Enc.e r).map (V1.rd [])),.box [nilV,jn 0,jn 0,nilV,nilV]]⟩ : St)) (X7 [0,1] (by decide) J (by kernel_rfl) (.c J (.c J (.c J (.cons (Xx (by rw [hK])) (.c J (.cons (Xx (by rw [hK])) (.nil)))))))) ?_
 cases hk : keyAt r (K - 1) with
 | none =>
  rw [hk] at hka
  rw [seek_none hv (by rw [← hK]; exact hk)]
  refine M1 (Zo J J (hka) J J J) J J ?_;refine zx (Q8 J J J) J (ze J (ze J (M1 (Qx J J J) J J ?_)));refine Qy J J J J J J J J J (z1 J (zz (Qd (zy (z0 J (zn J (zz (Qm J ?_))))))));refine zy (zx (Zl J J J J J) J ?_);refine Qy J J J J J J J J J (z1 J (zz (Xa (T_r (F_r ?_)))))
  exact Xn J J J J J (X6 [1,1,9] [6,7,8] J J (by decide) J J J)
 | some w =>
  rw [hk] at hka hin
  rw [seek_some hv (by rw [← hK]; exact hk),← hK]
  have iw : WorIn w := hin
  have hrw := I_RunWorld w ((r.Rows.take t.toNat).drop (K * r.Every).toNat) iw (gd_part hg.2.2.2.2.1 _ _)
  have hrw : Con Tryz.prog 44 [] [ag w,.c (.rd [] (.sl (Enc.k (List Int)) (((els r.Rows).take t.toNat).drop ((K - 1 + 1) * r.Every).toNat)))] (ownO (Enc.e (runM w ((r.Rows.take t.toNat).drop (K * r.Every).toNat)))) (.o (.ag (ownV 0 (Enc.e (runM w ((r.Rows.take t.toNat).drop (K * r.Every).toNat)))))) := by rw [hm1,seek_els]; exact hrw
  generalize runM w ((r.Rows.take t.toNat).drop (K * r.Every).toNat) = z at hrw
  have hq : (0 : Int) ≤ (K - 1 + 1) * r.Every ∧ (K - 1 + 1) * r.Every ≤ t ∧ t ≤ ((els r.Rows).length : Nat) := by omega
  refine M1 (Zo J J (hka) J J J) J J ?_;refine zx (Q8 J J J) J (ze J (ze J (M1 (Qx J J J) J J ?_)));refine Qy J J J J J J J J J (z1 J (zz (Qd (zy (z0 J (zn J (zz (Ql J ?_))))))));refine Qh (Q0 (Qd (Xi [[],[],[1],[],[3],[],[5],[3,4,5,6],[],[1,2,3,4,5,6,7,8],(u9 10),(u9 11),(u9 12)] [[],[],[39],[],[41],[],[43],[41,42,43,44],[],[39,40,41,42,43,44,45,46],[38,39,40,41,42,43,44,45,46,47],[38,39,40,41,42,43,44,45,46,47,48],[38,39,40,41,42,43,44,45,46,47,48]] [[39,40,41,42,43,44,45,46,47],[38,41,42,43,44,45,46],[38,41,42,43,44,45,46],[38,39,40,43,44,46],[38,39,40,43,44,46],[38,39,40,41,42,46],[38,39,40,41,42,46],[38,39,40,46],[38,39,40,41,42,43,44,45],[38],[],[],[]] J (DR.s (Qu J J J J J J) J J (DR.s (Qf J J J J (by decide)) J J (DR.s (Qg J J J J J) J J (DR.s (Qa J J J) J J (DR.s (Qs J J J J (by omega)) J J (DR.s (Qf J J J J (by decide)) J J (DR.s (Qg J J J J J) J J (DR.s (Z3 J J J J (by omega)) J J ?_)))))))))));refine DR.s (Qa J J J) J J (DR.s (q_part J J J J J J hq) J J ?_);refine DR.s (Zo J J (hrw) J J J) J J ?_;refine DR.stop (by kernel_rfl) (by kernel_rfl) ?_;refine Qy J J J J J J J J J (z1 J (zz (Xa (F_r ?_))))
  exact Xn J J J J J (X5 [6,7,8] (by decide) J J J)
end
section
open Go.RowKit

theorem slEqS (xs ys : List ByteArray) (hn : Enc.gd xs) : Con Tryz.prog 140 [] [al xs,al ys] [] (B (decide (xs = ys))) := by
 have hn1 := hn.1
 have hlx := Yp xs
 have hly := Yp ys
 by_cases hl : xs.length = ys.length
 ·have hb : decide (((els xs).length : Int) ≠ ((els ys).length : Int)) = false := by rw [hlx,hly,hl]; simp
  refine Con.of Tryz.func140 J Tryz.ntmps140 J (fun E => ?_)
  refine zy (z1 J (zz (Qd (zy (z0 J (zx (Zw J J J) J (z0 J (zx (Zw J J J) J ?_))))))));refine z9f J (by assumption) (zz (Ql J (Qh (Q0 (Qd (zy (z0 J (zx (Zw J J J) J (z0 J ?_)))))))));refine zz (Qk ?_);refine A_lq (fun m st => ∃ k : Nat,k + m = xs.length ∧ (xs.take k = ys.take k) ∧ st = (⟨_,[(0,L xs),(1,L ys),(12,I (els xs).length),(13,I k)],[]⟩ : St)) (xs.length) ⟨_,⟨0,by omega,by simp,J⟩,W_gj [] (by kernel_rfl)⟩ ?_
  rintro m_A _ ⟨k,hk_A,hp_A,rfl⟩
  refine zy (zx (Z1 J J J J) J (zz (Qd ?_)))
  refine Xb J (fun h => ?_) (fun h => ?_)
  ·have h3 : k < xs.length := by have := of_decide_eq_true h; omega
   have h4 : k < ys.length := by omega
   have hat := Yo h3
   have hat2 := Yo h4
   by_cases he : xs[k] = ys[k]
   ·have hk : decide (xs[k] ≠ ys[k]) = false := by simp [he]
    refine Qh (Q0 (Qd (Qk (zy (z0 J (z1 J (zz (Qd (Xi u8_37 u8_38 u8_39 J ?_)))))))));refine DR.s (Qa J J J) J J (DR.s (Qa J J J) J J (DR.s (Q2 J J J J (by omega) (by assumption) J) J J (DR.s (Z0 J J J J) J J (DR.s (Qa J J J) J J (DR.s (Qa J J J) J J (DR.s (Q2 J J J J (by omega) (by assumption) J) J J (DR.s (Z0 J J J J) J J (DR.s (q_sneqK J J J J (by assumption)) J J (DR.stop (by kernel_rfl) (by kernel_rfl) (zz ?_))))))))));refine Ql J (Qh (Q1 (Q0 (Qc (z7 J (by omega) (z0 J (zz ?_)))))))
    exact ⟨xs.length - (k + 1),by omega,_,⟨k + 1,by omega,eq_next h3 h4 hp_A he,J⟩,W_gj [] (by kernel_rfl)⟩
   ·have hk : decide (xs[k] ≠ ys[k]) = true := by simp [he]
    refine Qh (Q0 (Qd (Qk (zy (z0 J (z1 J (zz (Qd (Xi u8_37 u8_38 u8_39 J ?_)))))))));refine DR.s (Qa J J J) J J (DR.s (Qa J J J) J J (DR.s (Q2 J J J J (by omega) (by assumption) J) J J (DR.s (Z0 J J J J) J J (DR.s (Qa J J J) J J (DR.s (Qa J J J) J J (DR.s (Q2 J J J J (by omega) (by assumption) J) J J (DR.s (Z0 J J J J) J J (DR.s (q_sneqK J J J J (by assumption)) J J (DR.stop (by kernel_rfl) (by kernel_rfl) (zz ?_))))))))));refine Qm J (zy (z1 J (zz (Xa (B_r (T_r (T_r (B_r (T_r ?_)))))))));refine F_r ?_
    exact Xp J J (X5 [] (by decide) J J (Xk (eq_ne h3 h4 he).symm))
  ·have h3 : ¬ ((k : Int) < (els xs).length) := of_decide_eq_false h
   refine Q9 (T_x (T_x (Xl (Q0 (zy (z1 J (zz (Xa (F_r ?_)))))))))
   exact Xp J J (X5 [] (by decide) J J (Xk (eq_all (by omega) hl hp_A).symm))
 ·have hb : decide (((els xs).length : Int) ≠ ((els ys).length : Int)) = true := by rw [hlx,hly]; simp; omega
  refine Con.of Tryz.func140 J Tryz.ntmps140 J (fun E => ?_)
  refine zy (z1 J (zz (Qd (zy (z0 J (zx (Zw J J J) J (z0 J (zx (Zw J J J) J ?_))))))));refine z9f J (by assumption) (zz (Qm J (zy (z1 J (zz (Xa (T_r (F_r ?_))))))))
  exact Xp J J (X5 [] (by decide) J J (Xk (eq_len hl).symm))
theorem slEqI (xs ys : List Int) (hn : Enc.gd xs) : Con Tryz.prog 105 [] [al xs,al ys] [] (B (decide (xs = ys))) := by
 have hn1 := hn.1
 have hlx := Yp xs
 have hly := Yp ys
 by_cases hl : xs.length = ys.length
 ·have hb : decide (((els xs).length : Int) ≠ ((els ys).length : Int)) = false := by rw [hlx,hly,hl]; simp
  refine Con.of Tryz.func105 J Tryz.ntmps105 J (fun E => ?_)
  refine zy (z1 J (zz (Qd (zy (z0 J (zx (Zw J J J) J (z0 J (zx (Zw J J J) J ?_))))))));refine z9f J (by assumption) (zz (Ql J (Qh (Q0 (Qd (zy (z0 J (zx (Zw J J J) J (z0 J ?_)))))))));refine zz (Qk ?_);refine A_lq (fun m st => ∃ k : Nat,k + m = xs.length ∧ (xs.take k = ys.take k) ∧ st = (⟨_,[(0,L xs),(1,L ys),(12,I (els xs).length),(13,I k)],[]⟩ : St)) (xs.length) ⟨_,⟨0,by omega,by simp,J⟩,W_gj [] (by kernel_rfl)⟩ ?_
  rintro m_A _ ⟨k,hk_A,hp_A,rfl⟩
  refine zy (zx (Z1 J J J J) J (zz (Qd ?_)))
  refine Xb J (fun h => ?_) (fun h => ?_)
  ·have h3 : k < xs.length := by have := of_decide_eq_true h; omega
   have h4 : k < ys.length := by omega
   have hat := Yo h3
   have hat2 := Yo h4
   by_cases he : xs[k] = ys[k]
   ·have hk : decide (xs[k] ≠ ys[k]) = false := by simp [he]
    refine Qh (Q0 (Qd (Qk (zy (z0 J (z1 J (zz (Qd (Xi u8_37 u8_38 u8_39 J ?_)))))))));refine DR.s (Qa J J J) J J (DR.s (Qa J J J) J J (DR.s (Q2 J J J J (by omega) (by assumption) J) J J (DR.s (Z0 J J J J) J J (DR.s (Qa J J J) J J (DR.s (Qa J J J) J J (DR.s (Q2 J J J J (by omega) (by assumption) J) J J (DR.s (Z0 J J J J) J J (DR.s (Qw J J J J (by assumption)) J J (DR.stop (by kernel_rfl) (by kernel_rfl) (zz ?_))))))))));refine Ql J (Qh (Q1 (Q0 (Qc (z7 J (by omega) (z0 J (zz ?_)))))))
    exact ⟨xs.length - (k + 1),by omega,_,⟨k + 1,by omega,eq_next h3 h4 hp_A he,J⟩,W_gj [] (by kernel_rfl)⟩
   ·have hk : decide (xs[k] ≠ ys[k]) = true := by simp [he]
    refine Qh (Q0 (Qd (Qk (zy (z0 J (z1 J (zz (Qd (Xi u8_37 u8_38 u8_39 J ?_)))))))));refine DR.s (Qa J J J) J J (DR.s (Qa J J J) J J (DR.s (Q2 J J J J (by omega) (by assumption) J) J J (DR.s (Z0 J J J J) J J (DR.s (Qa J J J) J J (DR.s (Qa J J J) J J (DR.s (Q2 J J J J (by omega) (by assumption) J) J J (DR.s (Z0 J J J J) J J (DR.s (Qw J J J J (by assumption)) J J (DR.stop (by kernel_rfl) (by kernel_rfl) (zz ?_))))))))));refine Qm J (zy (z1 J (zz (Xa (B_r (T_r (T_r (B_r (T_r ?_)))))))));refine F_r ?_
    exact Xp J J (X5 [] (by decide) J J (Xk (eq_ne h3 h4 he).symm))
  ·have h3 : ¬ ((k : Int) < (els xs).length) := of_decide_eq_false h
   refine Q9 (T_x (T_x (Xl (Q0 (zy (z1 J (zz (Xa (F_r ?_)))))))))
   exact Xp J J (X5 [] (by decide) J J (Xk (eq_all (by omega) hl hp_A).symm))
 ·have hb : decide (((els xs).length : Int) ≠ ((els ys).length : Int)) = true := by rw [hlx,hly]; simp; omega
  refine Con.of Tryz.func105 J Tryz.ntmps105 J (fun E => ?_)
  refine zy (z1 J (zz (Qd (zy (z0 J (zx (Zw J J J) J (z0 J (zx (Zw J J J) J ?_))))))));refine z9f J (by assumption) (zz (Qm J (zy (z1 J (zz (Xa (T_r (F_r ?_))))))))
  exact Xp J J (X5 [] (by decide) J J (Xk (eq_len hl).symm))
theorem S_ints (xs ys : List Int) (hn : Enc.gd xs) : Con Tryz.prog 46 [] [al xs,al ys] [] (B (decide (xs = ys))) := by
 have hn1 := hn.1
 have hlx := Yp xs
 have hly := Yp ys
 by_cases hl : xs.length = ys.length
 ·have hb : decide (((els xs).length : Int) ≠ ((els ys).length : Int)) = false := by rw [hlx,hly,hl]; simp
  refine Con.of Tryz.func46 J Tryz.ntmps46 J (fun E => ?_)
  refine zy (z1 J (zz (Qd (zy (z0 J (zx (Zw J J J) J (z0 J (zx (Zw J J J) J ?_))))))));refine z9f J (by assumption) (zz (Ql J (Qh (Q0 (Qd (zy (z1 J (zz ?_))))))));refine Qk ?_;refine A_lq (fun m st => ∃ k : Nat,k + m = xs.length ∧ (xs.take k = ys.take k) ∧ st = (⟨_,[(0,L xs),(1,L ys),(5,I k)],[]⟩ : St)) (xs.length) ⟨_,⟨0,by omega,by simp,J⟩,W_gj [] (by kernel_rfl)⟩ ?_
  rintro m_A _ ⟨k,hk_A,hp_A,rfl⟩
  refine Qd (zy (z0 J (z0 J (zx (Zw J J J) J (zx (Z1 J J J J) J (zz ?_))))))
  refine Xb J (fun h => ?_) (fun h => ?_)
  ·have h3 : k < xs.length := by have := of_decide_eq_true h; omega
   have h4 : k < ys.length := by omega
   have hat := Yo h3
   have hat2 := Yo h4
   by_cases he : xs[k] = ys[k]
   ·have hk : decide (xs[k] ≠ ys[k]) = false := by simp [he]
    refine Qh (Q0 (Qd (Qk (Qd (Xi u8_37 u8_40 u8_41 J (DR.s (Qa J J J) J J (DR.s (Qa J J J) J J (DR.s (Q2 J J J J (by omega) (by assumption) J) J J (DR.s (Z0 J J J J) J J (DR.s (Qa J J J) J J (DR.s (Qa J J J) J J ?_)))))))))));refine DR.s (Q2 J J J J (by omega) (by assumption) J) J J (DR.s (Z0 J J J J) J J (DR.s (Qw J J J J (by assumption)) J J (DR.stop (by kernel_rfl) (by kernel_rfl) (zz (Ql J (Qh (Q1 (Q0 (Qc (z0 J ?_))))))))));refine z7 J (by omega) (z1 J (zz ?_))
    exact ⟨xs.length - (k + 1),by omega,_,⟨k + 1,by omega,eq_next h3 h4 hp_A he,J⟩,W_gj [] (by kernel_rfl)⟩
   ·have hk : decide (xs[k] ≠ ys[k]) = true := by simp [he]
    refine Qh (Q0 (Qd (Qk (Qd (Xi u8_37 u8_40 u8_41 J (DR.s (Qa J J J) J J (DR.s (Qa J J J) J J (DR.s (Q2 J J J J (by omega) (by assumption) J) J J (DR.s (Z0 J J J J) J J (DR.s (Qa J J J) J J (DR.s (Qa J J J) J J ?_)))))))))));refine DR.s (Q2 J J J J (by omega) (by assumption) J) J J (DR.s (Z0 J J J J) J J (DR.s (Qw J J J J (by assumption)) J J (DR.stop (by kernel_rfl) (by kernel_rfl) (zz (Qm J (zy (z1 J (zz ?_))))))));refine Xa (B_r (T_r (T_r (B_r (T_r (F_r ?_))))))
    exact Xp J J (X5 [] (by decide) J J (Xk (eq_ne h3 h4 he).symm))
  ·have h3 : ¬ ((k : Int) < (els xs).length) := of_decide_eq_false h
   refine Q9 (T_x (T_x (Xl (Q0 (zy (z1 J (zz (Xa (F_r ?_)))))))))
   exact Xp J J (X5 [] (by decide) J J (Xk (eq_all (by omega) hl hp_A).symm))
 ·have hb : decide (((els xs).length : Int) ≠ ((els ys).length : Int)) = true := by rw [hlx,hly]; simp; omega
  refine Con.of Tryz.func46 J Tryz.ntmps46 J (fun E => ?_)
  refine zy (z1 J (zz (Qd (zy (z0 J (zx (Zw J J J) J (z0 J (zx (Zw J J J) J ?_))))))));refine z9f J (by assumption) (zz (Qm J (zy (z1 J (zz (Xa (T_r (F_r ?_))))))))
  exact Xp J J (X5 [] (by decide) J J (Xk (eq_len hl).symm))
theorem I_sameLevel (x y : TLevel) (hg : Enc.gd x) : Con Tryz.prog 104 [] [ag x,ag y] [] (B (decide (x = y))) := by
 have h : decide (x.Rows = y.Rows) = decide (x = y) := by cases x; cases y; simp
 refine Con.of Tryz.func104 J Tryz.ntmps104 J (fun E => ?_)
 refine zy (M1 (Qq J J J J) J J (M1 (Qq J J J J) J J (z1 J (zz (zy (z2 J J J (z3 J (z2 J J J ?_))))))));refine z3 J ?_;refine zx (Qj J J (slEqS x.Rows y.Rows hg) J) J ?_;refine z1 J (zz (Xa (F_r ?_)))
 exact Xp J J (X5 [] (by decide) J J (Xk h))
end
section
open Go.RowKit

theorem S_sameLevel (x y : TLevel) (hg : Enc.gd x) : Con Tryz.prog 47 [] [ag x,ag y] [] (B (decide (x = y))) := by
 have he : decide (x.Rows = y.Rows) = decide (x = y) := by cases x; cases y; simp
 rw [← he]
 clear he
 obtain ⟨xs⟩ := x
 obtain ⟨ys⟩ := y
 have hn : Enc.gd xs := hg
 have hn1 := hn.1
 show Con _ _ _ _ _ (B (decide (xs = ys)))
 have hlx := Yp xs
 have hly := Yp ys
 by_cases hl : xs.length = ys.length
 ·have hb : decide (((els xs).length : Int) ≠ ((els ys).length : Int)) = false := by rw [hlx,hly,hl]; simp
  refine Con.of Tryz.func47 J Tryz.ntmps47 J (fun E => ?_)
  refine zy (M1 (Qq J J J J) J J (M1 (Qq J J J J) J J (z1 J (zz (Qd (zy (z2 J J J (z3 J ?_))))))));refine zx (Zw J J J) J (z2 J J J (z3 J (zx (Zw J J J) J (z9f J (by assumption) (zz (Ql J (Qh (Q0 (Qd (Qd ?_))))))))));refine Qc (z1 J (zz (Qk ?_)));refine A_lq (fun m st => ∃ k : Nat,k + m = xs.length ∧ (xs.take k = ys.take k) ∧ st = (⟨_,[(2,.o (.c (.ptr 0 0))),(3,.o (.c (.ptr 1 0))),(5,I k)],[.box [.rd [] (sl xs)],.box [.rd [] (sl ys)]]⟩ : St)) (xs.length) ⟨_,⟨0,by omega,by simp,J⟩,W_gj [0,1] (by kernel_rfl)⟩ ?_
  rintro m_A _ ⟨k,hk_A,hp_A,rfl⟩
  refine Qd (zy (z0 J (z2 J J J (z3 J (zx (Zw J J J) J (zx (Z1 J J J J) J (zz ?_)))))))
  refine Xb J (fun h => ?_) (fun h => ?_)
  ·have h3 : k < xs.length := by have := of_decide_eq_true h; omega
   have h4 : k < ys.length := by omega
   have hat := Yo h3
   have hat2 := Yo h4
   by_cases he : xs[k] = ys[k]
   ·have hk : decide (xs[k] ≠ ys[k]) = false := by simp [he]
    refine Qh (Q0 (Qd (Qk (Qd (Xi u8_42 u8_43 u8_44 J (DR.s (Qf J J J J (by decide)) J J (DR.s (Qg J J J J J) J J (DR.s (Qa J J J) J J (DR.s (Q2 J J J J (by omega) (by assumption) J) J J (DR.s (Z0 J J J J) J J (DR.s (Qf J J J J (by decide)) J J ?_)))))))))));refine DR.s (Qg J J J J J) J J (DR.s (Qa J J J) J J (DR.s (Q2 J J J J (by omega) (by assumption) J) J J (DR.s (Z0 J J J J) J J (DR.s (q_sneqK J J J J (by assumption)) J J (DR.stop (by kernel_rfl) (by kernel_rfl) (zz (Ql J (Qh (Q1 (Q0 ?_))))))))));refine Qc (z0 J (z7 J (by omega) (z1 J (zz ?_))))
    exact ⟨xs.length - (k + 1),by omega,_,⟨k + 1,by omega,eq_next h3 h4 hp_A he,J⟩,W_gj [0,1] (by kernel_rfl)⟩
   ·have hk : decide (xs[k] ≠ ys[k]) = true := by simp [he]
    refine Qh (Q0 (Qd (Qk (Qd (Xi u8_42 u8_43 u8_44 J (DR.s (Qf J J J J (by decide)) J J (DR.s (Qg J J J J J) J J (DR.s (Qa J J J) J J (DR.s (Q2 J J J J (by omega) (by assumption) J) J J (DR.s (Z0 J J J J) J J (DR.s (Qf J J J J (by decide)) J J ?_)))))))))));refine DR.s (Qg J J J J J) J J (DR.s (Qa J J J) J J (DR.s (Q2 J J J J (by omega) (by assumption) J) J J (DR.s (Z0 J J J J) J J (DR.s (q_sneqK J J J J (by assumption)) J J (DR.stop (by kernel_rfl) (by kernel_rfl) (zz (Qm J (zy (z1 J ?_)))))))));refine zz (Xa (B_r (T_r (T_r (B_r (T_r (F_r ?_)))))))
    exact Xp J J (X5 [] (by decide) J J (Xk (eq_ne h3 h4 he).symm))
  ·have h3 : ¬ ((k : Int) < (els xs).length) := of_decide_eq_false h
   refine Q9 (T_x (T_x (Xl (Q0 (zy (z1 J (zz (Xa (F_r ?_)))))))))
   exact Xp J J (X5 [] (by decide) J J (Xk (eq_all (by omega) hl hp_A).symm))
 ·have hb : decide (((els xs).length : Int) ≠ ((els ys).length : Int)) = true := by rw [hlx,hly]; simp; omega
  refine Con.of Tryz.func47 J Tryz.ntmps47 J (fun E => ?_)
  refine zy (M1 (Qq J J J J) J J (M1 (Qq J J J J) J J (z1 J (zz (Qd (zy (z2 J J J (z3 J ?_))))))));refine zx (Zw J J J) J (z2 J J J (z3 J (zx (Zw J J J) J (z9f J (by assumption) (zz (Qm J (zy (z1 J (Qe ?_)))))))));refine Q0 (Xa (T_r (F_r ?_)))
  exact Xp J J (X5 [] (by decide) J J (Xk (eq_len hl).symm))
end
end Go.Proofs.YtbfhboakafjjgaaGreat
