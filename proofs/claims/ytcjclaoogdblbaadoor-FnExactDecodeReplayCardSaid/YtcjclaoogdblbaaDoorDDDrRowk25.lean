/-
  Runs of inputs as bytes: PackTrack, and the columns of rows, in the program and in the reference.
  Conditions: at most 400 rows of equal length.
  UnpackTrack, in the program and in the reference.
  Conditions: texts of at most 2^40 bytes.
-/
import Derived.Test.YtcjclaoogdblbaaDoorDDDrRowk22
import Derived.Test.YtcjclaoogdblbaaDoorDDDrRowk24
set_option linter.unusedSimpArgs false
set_option linter.unusedVariables false
set_option maxRecDepth 8000
set_option maxHeartbeats 8000000
namespace Go.Proofs.YtcjclaoogdblbaaDoor
section
open Go.RowKit

def packRuns (xs : List Int) : List UInt8 := match xs with
 | [] => []
 | x :: r => encVar (x + 16 * ((r.takeWhile (· == x)).length + 1 : Nat)) ++ packRuns (r.drop (r.takeWhile (· == x)).length)
termination_by xs.length
decreasing_by simp; omega
theorem tw_len {xs : List Int} {x : Int} : ∀ {n : Nat},(∀ j,j < n → xs[j]? = some x) → (∀ y,xs[n]? = some y → y ≠ x) → (xs.takeWhile (· == x)).length = n := by
 induction xs with
 | nil =>
  intro n h1 h2
  cases n with
  | zero => rfl
  | succ n => have := h1 0 (by omega); simp at this
 | cons a xs ih =>
  intro n h1 h2
  cases n with
  | zero =>
   have := h2 a (by simp)
   rw [List.takeWhile_cons]
   simp [this]
  | succ n =>
   have h0 := h1 0 (by omega)
   simp at h0
   subst h0
   rw [List.takeWhile_cons]
   simp
   exact ih (fun j hj => by have := h1 (j + 1) (by omega); simpa using this) fun y hy => h2 y (by simpa using hy)
theorem runs_step {xs : List Int} {s i : Nat} (hs : s < i) (hl : s < xs.length) (hi : i ≤ xs.length) (hall : ∀ j,s ≤ j → j < i → xs[j]? = some xs[s]) (hstop : ∀ y,xs[i]? = some y → y ≠ xs[s]) : packRuns (xs.drop s) = encVar (xs[s] + 16 * ((i : Int) - (s : Int))) ++ packRuns (xs.drop i) := by
 rw [List.drop_eq_getElem_cons hl,packRuns]
 have h1 : ((xs.drop (s + 1)).takeWhile (· == xs[s])).length = i - (s + 1) := tw_len (fun j hj => by rw [List.getElem?_drop]; exact hall _ (by omega) (by omega)) fun y hy => by rw [List.getElem?_drop,show s + 1 + (i - (s + 1)) = i by omega] at hy; exact hstop y hy
 rw [h1,List.drop_drop,show s + 1 + (i - (s + 1)) = i by omega,show ((i - (s + 1) + 1 : Nat) : Int) = (i : Int) - s by omega]
theorem run_next {xs : List Int} {i j : Nat} {x : Int} (h : ∀ q,i ≤ q → q < j → xs[q]? = some x) (hj : j < xs.length) (he : xs[j] = x) : ∀ q,i ≤ q → q < j + 1 → xs[q]? = some x := fun q h1 h2 => by
 rcases Nat.lt_or_ge q j with h3 | h3
 ·exact h q h1 h3
 ·have : q = j := by omega
  subst this
  rw [List.getElem?_eq_getElem hj,he]
def packTrack (xs : List Int) : ByteArray := if xs.length ≤ 400 ∧ inOk xs = true then bs (packRuns xs) else bs []
theorem packRuns_len (n : Nat) : ∀ xs : List Int,xs.length ≤ n → (packRuns xs).length ≤ 6 * n := by
 induction n with
 | zero => intro xs h; have := List.eq_nil_of_length_eq_zero (by omega : xs.length = 0); subst this; simp [packRuns]
 | succ n ih =>
  intro xs h
  cases xs with
  | nil => simp [packRuns]
  | cons x r =>
   rw [packRuns,List.length_append]
   have h1 := X9 (x + 16 * ((r.takeWhile (· == x)).length + 1 : Nat))
   have h2 := ih (r.drop (r.takeWhile (· == x)).length) (by simp at h ⊢; omega)
   omega
theorem packTrack_size (xs : List Int) : (packTrack xs).size ≤ 2400 := by
 unfold packTrack
 split
 ·rename_i h
  rw [X0]
  have := packRuns_len 400 xs h.1
  omega
 ·rw [X0]; simp
theorem inOk_at {xs : List Int} (h : inOk xs = true) {k : Nat} (hk : k < xs.length) : 0 ≤ xs[k] ∧ xs[k] ≤ 15 := Ye.1 (List.all_eq_true.1 h _ (List.getElem_mem hk))

theorem S_inputsOk (xs : List Int) (hn : Enc.gd xs) : Con Tryd.prog 122 [] [al xs] [] (B (inOk xs)) := by
 have hn1 := hn.1
 have hlx := X8 xs
 refine Con.of Tryd.func122 J Tryd.ntmps122 J (fun E => ?_)
 refine zy (z1 J (zz (Qd (zy (z1 J (zz (Qk ?_)))))));refine Xe (fun m st => ∃ k : Nat,k + m = xs.length ∧ ((xs.take k).all (fun n => inR n 0 15) = true) ∧ st = (⟨_,[(0,L xs),(3,I k)],[]⟩ : St)) (xs.length) ⟨_,⟨0,by omega,by simp,J⟩,Kb []⟩ ?_
 rintro m_A _ ⟨k,hk_A,hp_A,rfl⟩
 refine Qd (zy (z0 J (z0 J (zx (Yw J J J) J (zx (Zl J) J (zz ?_))))))
 refine Q9 J (fun h => ?_) (fun h => ?_)
 ·have h3 : k < xs.length := by have := of_decide_eq_true h; omega
  have hat := X7 h3
  refine Qh (Qz (Qd (Qk (zy (z0 J (z0 J (zx (Q1 J J J J (by omega) (by assumption) J) J (zx (Kc J) J ?_))))))));refine zx (Qj J J (S_in xs[k] 0 15) J) J ?_;refine zn J (zz ?_)
  refine Q9 J (fun h4 => ?_) (fun h4 => ?_)
  ·refine zy (z1 rfl (zz (Q8 (B_r (T_r (T_r (B_r ?_)))))))
   refine T_r (F_r ?_)
   exact Ke J (Kf [] J J (Xf (all_no h3 (by simpa using h4)).symm))
  ·refine Qh (Q0 (Qz (Qc (z0 rfl (Kd rfl ?_)))))
   refine z1 J (zz ?_)
   exact ⟨xs.length - (k + 1),by omega,_,⟨k + 1,by omega,all_next hp_A h3 (by simpa using h4),J⟩,Kb []⟩
 ·have h3 : ¬ ((k : Int) < (els xs).length) := of_decide_eq_false h
  refine Q7 (T_x (T_x (Xg (Qz (zy (z1 J (zz (Q8 (F_r ?_)))))))))
  exact Ke J (Kf [] J J (Xf (all_end hp_A (by omega)).symm))
theorem I_PackTrack (xs : List Int) (hn : Enc.gd xs) : Con Tryd.prog 123 [] [al xs] [] (S (packTrack xs)) := by
 have hlx := X8 xs
 refine Con.of Tryd.func123 J Tryd.ntmps123 J (fun E => ?_)
 refine zy (z1 J (zz (Qd (zy (z0 J (zx (Yw J J J) J (zx (q_gtr J J J J) J (z0 J ?_))))))));refine zx (Qt.grdF J J J .stop (fun hgrd => Zr J)) J ?_;refine zx (Kq J (.hit .stop) (fun hgrd => Qj J J (I_inputsOk xs hn) J)) J ?_;refine zx (Kq J (.hit (.hit .stop)) (fun hgrd => Q3 J J J)) J ?_;refine zx (q_or J J J J) J (zz ?_)
 refine Q9 J (fun h => ?_) (fun h => ?_)
 ·rw [hlx] at h
  refine zy (z1 J (zz (Q8 (T_r (F_r ?_)))))
  exact Xi rfl rfl (Kf [] rfl rfl (S_eq (by rw [packTrack,if_neg (by simp only [Bool.or_eq_true,decide_eq_true_eq,Bool.not_eq_true'] at h; rintro ⟨h1,h2⟩; rcases h with h | h <;> first | omega | simp [h2] at h)])))
 rw [hlx] at h
 have h : xs.length ≤ 400 ∧ inOk xs = true := by
  simp only [Bool.or_eq_false_iff,decide_eq_false_iff_not,Bool.not_eq_false'] at h
  exact ⟨by omega,h.2⟩
 rw [packTrack,if_pos h]
 refine Qh (Qz (zy (z1 J (zz (Qd (zy (z1 J (Qe ?_))))))));refine Qz (Qk ?_)
 refine AWP.pre ?_ (W_nil 3 1 J)
 refine Xe (fun m__ st => ∃ (i : Nat) (acc : List UInt8),xs.length - i = m__ ∧ (acc ++ packRuns (xs.drop i) = packRuns xs ∧ i ≤ xs.length ∧ acc.length ≤ 6 * i) ∧ st = (⟨_,[(0,L xs),(3,.o (.c (.ref 0))),(4,I i)],[.row 1 (bE acc)]⟩ : St)) _ ⟨_,⟨0,[],J,by simp,J⟩,Kb [0]⟩ ?_
 rintro m_A _ ⟨i,acc,hk_A,hp_A,rfl⟩
 refine Qd (zy (z0 J (z0 J (zx (Yw J J J) J (zx (Zl J) J (zz ?_))))))
 refine Q9 J (fun h5 => ?_) (fun h5 => ?_)
 ·have h5 : i < xs.length := by have := of_decide_eq_true h5; omega
  obtain ⟨hp1,hp2,hp3⟩ := hp_A
  have hb := bE_len acc
  have hat := X7 h5
  have hx := inOk_at h.2 h5
  refine Qh (Qz (Qk (zy (z0 J (z1 J (zz (Qd (Qk ?_))))))));refine Xe (fun m__ st => ∃ (j : Nat),xs.length - j = m__ ∧ (i ≤ j ∧ j ≤ xs.length ∧ (∀ q,i ≤ q → q < j → xs[q]? = some xs[i])) ∧ st = (⟨_,[(0,L xs),(3,.o (.c (.ref 0))),(4,I j),(5,I i)],[.row 1 (bE acc)]⟩ : St)) _ ⟨_,⟨i,J,⟨Nat.le_refl _,by omega,fun q h1 h2 => by omega⟩,J⟩,Kb [0]⟩ ?_
  rintro m_D _ ⟨j,hk_D,hp_D,rfl⟩
  obtain ⟨hd1,hd2,hd3⟩ := hp_D
  have hij : i < j → xs.length - j < xs.length - i := fun h => by omega
  by_cases hj : j < xs.length
  ·have hat2 := X7 hj
   have f1 : decide ((j : Int) < ((els xs).length : Int)) = true := decide_eq_true (by omega)
   by_cases he : xs[j] = xs[i]
   ·have f2 : decide (xs[j] = xs[i]) = true := decide_eq_true he
    refine Qd (Qd (Xd u8_12 u8_13 u8_14 J (Zh (Zr J) J (Zh (Zr J) J (Zh (Yw J J J) J (Zh (Qr J J J J (by assumption)) J (Zh (Zr J) J (Zh (Qt.yes J J J (Zr J)) J (Zh (Qt.yes J J J (Zr J)) J (Zh (Qt.yes J J J (Q1 J J J J (by omega) (by assumption) J)) J (Zh (Qt.yes J J J (Kc J)) J ?_)))))))))));refine Zh (Qt.yes J J J (Zr J)) J (Zh (Qt.yes J J J (Zr J)) J (Zh (Qt.yes J J J (Q1 J J J J (by omega) (by assumption) J)) J (Zh (Qt.yes J J J (Kc J)) J (Zh (Qt.yes J J J (Qv J J J J (by assumption))) J (Zh (Qo J J J J) J (Zg (zz (Qm J (Qh (Qz ?_))))))))));refine Qk (Qc (z0 J (Kd J (z1 J (Qe (Q0 (Qz ?_)))))))
    refine ⟨_,(by omega),_,⟨j + 1,J,⟨by omega,by omega,fun q h1 h2 => run_next hd3 hj he q h1 h2⟩,J⟩,Kb [0]⟩
   ·have f2 : decide (xs[j] = xs[i]) = false := decide_eq_false he
    have hlt : i < j := by
     rcases Nat.lt_or_ge i j with h1 | h1
     ·exact h1
     ·exact absurd (by congr 1 <;> omega) he
    have hst := runs_step hlt h5 hd2 hd3 (fun y hy => by rw [List.getElem?_eq_getElem hj] at hy; cases hy; exact he)
    have hb2 := X0 (encVar (xs[i] + 16 * ((j : Int) - (i : Int))))
    have hb3 := X9 (xs[i] + 16 * ((j : Int) - (i : Int)))
    refine Qd (Qd (Xd u8_12 u8_13 u8_14 J (Zh (Zr J) J (Zh (Zr J) J (Zh (Yw J J J) J (Zh (Qr J J J J (by assumption)) J (Zh (Zr J) J (Zh (Qt.yes J J J (Zr J)) J (Zh (Qt.yes J J J (Zr J)) J (Zh (Qt.yes J J J (Q1 J J J J (by omega) (by assumption) J)) J (Zh (Qt.yes J J J (Kc J)) J ?_)))))))))));refine Zh (Qt.yes J J J (Zr J)) J (Zh (Qt.yes J J J (Zr J)) J (Zh (Qt.yes J J J (Q1 J J J J (by omega) (by assumption) J)) J (Zh (Qt.yes J J J (Kc J)) J (Zh (Qt.yes J J J (Qv J J J J (by assumption))) J (Zh (Qo J J J J) J (Zg (zz (Ql J (Q7 (T_x ?_))))))))));refine T_x (Xg (Qz (Qc (z0 J (z0 J (z0 J (zx (Q1 J J J J (by omega) (by assumption) J) J (zx (Kc J) J (z0 J (z0 J (z8 J (by omega) ?_)))))))))));refine zx (q_mul J J J J (by omega)) J (Kd J ?_);refine zx (Qj J J (I_EncodeVarint (xs[i] + 16 * ((j : Int) - (i : Int)))) J) J ?_;refine M_appstr J J J J J J J (by omega) (by omega) ?_;refine z1 J (Qe (Q0 (Qz ?_)))
    refine ⟨_,(by omega),_,⟨j,acc ++ encVar (xs[i] + 16 * ((j : Int) - (i : Int))),J,⟨by rw [← hp1,hst,List.append_assoc],hd2,by rw [List.length_append]; omega⟩,J⟩,(by rw [bs_list,bE_app]; exact Kb [0])⟩
  ·have f1 : decide ((j : Int) < ((els xs).length : Int)) = false := decide_eq_false (by omega)
   have hst := runs_step (show i < j by omega) h5 hd2 hd3 (fun y hy => by rw [List.getElem?_eq_none (by omega)] at hy; cases hy)
   have hb2 := X0 (encVar (xs[i] + 16 * ((j : Int) - (i : Int))))
   have hb3 := X9 (xs[i] + 16 * ((j : Int) - (i : Int)))
   refine Qd (Qd (Xd u8_12 u8_13 u8_14 J (Zh (Zr J) J (Zh (Zr J) J (Zh (Yw J J J) J (Zh (Qr J J J J (by assumption)) J (Zh (Zr J) J (Zh (Qt.no J J J J) J (Zh (Qt.no J J J J) J (Zh (Qt.no J J J J) J (Zh (Qt.no J J J J) J ?_)))))))))));refine Zh (Qt.no J J J J) J (Zh (Qt.no J J J J) J (Zh (Qt.no J J J J) J (Zh (Qt.no J J J J) J (Zh (Qt.no J J J J) J (Zh (Qn J J J J) J (Zg (zz (Ql J (Q7 (T_x ?_))))))))));refine T_x (Xg (Qz (Qc (z0 J (z0 J (z0 J (zx (Q1 J J J J (by omega) (by assumption) J) J (zx (Kc J) J (z0 J (z0 J (z8 J (by omega) ?_)))))))))));refine zx (q_mul J J J J (by omega)) J (Kd J ?_);refine zx (Qj J J (I_EncodeVarint (xs[i] + 16 * ((j : Int) - (i : Int)))) J) J ?_;refine M_appstr J J J J J J J (by omega) (by omega) ?_;refine z1 J (Qe (Q0 (Qz ?_)))
   refine ⟨_,(by omega),_,⟨j,acc ++ encVar (xs[i] + 16 * ((j : Int) - (i : Int))),J,⟨by rw [← hp1,hst,List.append_assoc],hd2,by rw [List.length_append]; omega⟩,J⟩,(by rw [bs_list,bE_app]; exact Kb [0])⟩
 ·have h5 : i = xs.length := by have := of_decide_eq_false h5; omega
  refine Q7 (T_x (T_x (Xg (Qz (zy (z0 J (zx (q_bstr J J J J) J (z1 J (zz ?_)))))))));refine Q8 (F_r ?_)
  exact Ke J (Kf [] J J (S_eq (congrArg bs (by rw [← hp_A.1,h5]; simp [packRuns]))))
theorem els_at2 {α : Type} [Enc α] {xs : List α} {i j : Nat} (h : i + j < xs.length) : (els xs)[((i : Int) + (j : Int)).toNat]? = some (Enc.e xs[i + j]) := by
 have := X7 h
 rwa [Int.natCast_add] at this
theorem S_PackTrack (xs : List Int) (hn : Enc.gd xs) : Con Tryd.prog 90 [] [al xs] [] (S (packTrack xs)) := by
 have hlx := X8 xs
 refine Con.of Tryd.func90 J Tryd.ntmps90 J (fun E => ?_)
 refine zy (z1 J (zz (zy (z1 J (zz (Qd (Qd ?_)))))));refine Qc (z0 J (zx (Yw J J J) J (zx (q_gtr J J J J) J (z0 J ?_))));refine zx (Qt.grdF J J J .stop (fun hgrd => Zr J)) J ?_;refine zx (Kq J (.hit .stop) (fun hgrd => Qj J J (S_inputsOk xs hn) J)) J ?_;refine zx (Kq J (.hit (.hit .stop)) (fun hgrd => Q3 J J J)) J ?_;refine zx (q_or J J J J) J (zz ?_)
 refine Q9 J (fun h => ?_) (fun h => ?_)
 ·rw [hlx] at h
  refine zy (z0 J (z1 J (zz (Q8 (T_r (F_r ?_))))))
  exact Xi rfl rfl (Kf [] rfl rfl (S_eq (by rw [packTrack,if_neg (by simp only [Bool.or_eq_true,decide_eq_true_eq,Bool.not_eq_true'] at h; rintro ⟨h1,h2⟩; rcases h with h | h <;> first | omega | simp [h2] at h)])))
 rw [hlx] at h
 have h : xs.length ≤ 400 ∧ inOk xs = true := by
  simp only [Bool.or_eq_false_iff,decide_eq_false_iff_not,Bool.not_eq_false'] at h
  exact ⟨by omega,h.2⟩
 rw [packTrack,if_pos h]
 refine Qh (Qz (Qd (zy (z1 J (zz (Qk ?_))))));refine Xe (fun m__ st => ∃ (i : Nat) (acc : List UInt8),xs.length - i = m__ ∧ (acc ++ packRuns (xs.drop i) = packRuns xs ∧ i ≤ xs.length ∧ acc.length ≤ 6 * i) ∧ st = (⟨_,[(0,L xs),(3,S (bs acc)),(4,I i)],[]⟩ : St)) _ ⟨_,⟨0,[],J,by simp,J⟩,Kb []⟩ ?_
 rintro m_A _ ⟨i,acc,hk_A,hp_A,rfl⟩
 refine Qd (zy (z0 J (z0 J (zx (Yw J J J) J (zx (Zl J) J (zz ?_))))))
 refine Q9 J (fun h5 => ?_) (fun h5 => ?_)
 ·have h5 : i < xs.length := by have := of_decide_eq_true h5; omega
  obtain ⟨hp1,hp2,hp3⟩ := hp_A
  have hat := X7 h5
  have hx := inOk_at h.2 h5
  refine Qh (Qz (Qk (zy (z1 J (zz (Qd (Qk ?_)))))))
  refine Xe (fun m__ st => ∃ (j : Nat),xs.length - j = m__ ∧ (1 ≤ j ∧ i + j ≤ xs.length ∧ (∀ q,i ≤ q → q < i + j → xs[q]? = some xs[i])) ∧ st = (⟨_,[(0,L xs),(3,S (bs acc)),(4,I i),(5,I j)],[]⟩ : St)) _ ⟨(fun (j : Nat) => (⟨_,[(0,L xs),(3,S (bs acc)),(4,I i),(5,I j)],[]⟩ : St)) (1),⟨1,J,⟨Nat.le_refl _,by omega,fun q h1 h2 => by rw [show q = i by omega]; exact List.getElem?_eq_getElem h5⟩,J⟩,Z7 [] J (.c J (.c J (.c J (.cons (Kt) (.nil)))))⟩ ?_
  rintro m_D _ ⟨j,hk_D,hp_D,rfl⟩
  obtain ⟨hd1,hd2,hd3⟩ := hp_D
  have hb2 := X0 (encVar (xs[i] + 16 * (j : Int)))
  have hb3 := X9 (xs[i] + 16 * (j : Int))
  have hb4 := X0 acc
  have e1 : ((i + j : Nat) : Int) - (i : Int) = j := by omega
  by_cases hj : i + j < xs.length
  ·have hat2 := els_at2 hj
   have f1 : decide ((i : Int) + (j : Int) < ((els xs).length : Int)) = true := decide_eq_true (by omega)
   by_cases he : xs[i + j] = xs[i]
   ·have f2 : decide (xs[i + j] = xs[i]) = true := decide_eq_true he
    refine Qd (Qd (Xd u8_15 u8_16 u8_17 J (Zh (Zr J) J (Zh (Zr J) J (Zh (Qs J J J J (by omega)) J (Zh (Zr J) J (Zh (Yw J J J) J (Zh (Qr J J J J (by assumption)) J (Zh (Zr J) J (Zh (Qt.yes J J J (Zr J)) J (Zh (Qt.yes J J J (Zr J)) J ?_)))))))))));refine Zh (Qt.yes J J J (Zr J)) J (Zh (Qt.yes J J J (Qs J J J J (by omega))) J (Zh (Qt.yes J J J (Q1 J J J J (by omega) (by assumption) J)) J (Zh (Qt.yes J J J (Kc J)) J (Zh (Qt.yes J J J (Zr J)) J (Zh (Qt.yes J J J (Zr J)) J (Zh (Qt.yes J J J (Q1 J J J J (by omega) (by assumption) J)) J (Zh (Qt.yes J J J (Kc J)) J (Zh (Qt.yes J J J (Qv J J J J (by assumption))) J (Zh (Qo J J J J) J (Zg (Qe ?_)))))))))));refine Qz (Qm J (Qh (Qz (Qk (Qc (z0 J (Kd J (z1 J (Qe (Q0 (Qz ?_)))))))))))
    refine ⟨_,(by omega),_,⟨j + 1,J,⟨by omega,by omega,run_next hd3 hj he⟩,J⟩,Kb []⟩
   ·have f2 : decide (xs[i + j] = xs[i]) = false := decide_eq_false he
    have hst := runs_step (show i < i + j by omega) h5 hd2 hd3 (fun y hy => by rw [List.getElem?_eq_getElem hj] at hy; cases hy; exact he)
    rw [e1] at hst
    refine Qd (Qd (Xd u8_15 u8_16 u8_17 J (Zh (Zr J) J (Zh (Zr J) J (Zh (Qs J J J J (by omega)) J (Zh (Zr J) J (Zh (Yw J J J) J (Zh (Qr J J J J (by assumption)) J (Zh (Zr J) J (Zh (Qt.yes J J J (Zr J)) J (Zh (Qt.yes J J J (Zr J)) J ?_)))))))))));refine Zh (Qt.yes J J J (Zr J)) J (Zh (Qt.yes J J J (Qs J J J J (by omega))) J (Zh (Qt.yes J J J (Q1 J J J J (by omega) (by assumption) J)) J (Zh (Qt.yes J J J (Kc J)) J (Zh (Qt.yes J J J (Zr J)) J (Zh (Qt.yes J J J (Zr J)) J (Zh (Qt.yes J J J (Q1 J J J J (by omega) (by assumption) J)) J (Zh (Qt.yes J J J (Kc J)) J (Zh (Qt.yes J J J (Qv J J J J (by assumption))) J (Zh (Qo J J J J) J (Zg (Qe ?_)))))))))));refine Qz (Ql J (Q7 (T_x (T_x (Xg (Qz (zy (z0 J (z0 J (z0 J ?_))))))))));refine zx (Q1 J J J J (by omega) (by assumption) J) J (zx (Kc J) J (z0 J (zx (q_mul J J J J (by omega)) J (Kd J ?_))));refine zx (Qj J J (Xr (xs[i] + 16 * (j : Int))) J) J ?_;refine zx (q_cat J J J J (by omega)) J (z1 J (zz (Qc (z0 J (z0 J (Kd J (z1 J (Qe (Q0 (Qz ?_))))))))))
    refine ⟨_,(by omega),(fun (i : Nat) (acc : List UInt8) => (⟨_,[(0,L xs),(3,S (bs acc)),(4,I i)],[]⟩ : St)) (i + j) (acc ++ encVar (xs[i] + 16 * (j : Int))),⟨i + j,acc ++ encVar (xs[i] + 16 * (j : Int)),J,⟨by rw [← hp1,hst,List.append_assoc],hd2,by rw [List.length_append]; omega⟩,J⟩,Z7 [] J (.c J (.cons (S_eq (Xz _ _)) (.c J (.nil))))⟩
  ·have f1 : decide ((i : Int) + (j : Int) < ((els xs).length : Int)) = false := decide_eq_false (by omega)
   have hst := runs_step (show i < i + j by omega) h5 hd2 hd3 (fun y hy => by rw [List.getElem?_eq_none (by omega)] at hy; cases hy)
   rw [e1] at hst
   refine Qd (Qd (Xd u8_15 u8_16 u8_17 J (Zh (Zr J) J (Zh (Zr J) J (Zh (Qs J J J J (by omega)) J (Zh (Zr J) J (Zh (Yw J J J) J (Zh (Qr J J J J (by assumption)) J (Zh (Zr J) J (Zh (Qt.no J J J J) J (Zh (Qt.no J J J J) J ?_)))))))))));refine Zh (Qt.no J J J J) J (Zh (Qt.no J J J J) J (Zh (Qt.no J J J J) J (Zh (Qt.no J J J J) J (Zh (Qt.no J J J J) J (Zh (Qt.no J J J J) J (Zh (Qt.no J J J J) J (Zh (Qt.no J J J J) J (Zh (Qt.no J J J J) J (Zh (Qn J J J J) J (Zg (Qe ?_)))))))))));refine Qz (Ql J (Q7 (T_x (T_x (Xg (Qz (zy (z0 J (z0 J (z0 J ?_))))))))));refine zx (Q1 J J J J (by omega) (by assumption) J) J (zx (Kc J) J (z0 J (zx (q_mul J J J J (by omega)) J (Kd J ?_))));refine zx (Qj J J (Xr (xs[i] + 16 * (j : Int))) J) J ?_;refine zx (q_cat J J J J (by omega)) J (z1 J (zz (Qc (z0 J (z0 J (Kd J (z1 J (Qe (Q0 (Qz ?_))))))))))
   refine ⟨_,(by omega),(fun (i : Nat) (acc : List UInt8) => (⟨_,[(0,L xs),(3,S (bs acc)),(4,I i)],[]⟩ : St)) (i + j) (acc ++ encVar (xs[i] + 16 * (j : Int))),⟨i + j,acc ++ encVar (xs[i] + 16 * (j : Int)),J,⟨by rw [← hp1,hst,List.append_assoc],hd2,by rw [List.length_append]; omega⟩,J⟩,Z7 [] J (.c J (.cons (S_eq (Xz _ _)) (.c J (.nil))))⟩
 ·have h5 : i = xs.length := by have := of_decide_eq_false h5; omega
  refine Q7 (T_x (T_x (Xg (Qz (zy (z0 J (z1 J (zz (Q8 ?_)))))))));refine F_r ?_
  exact Ke J (Kf [] J J (S_eq (congrArg bs (by rw [← hp_A.1,h5]; simp [packRuns]))))
end
section
open Go.RowKit

def utGo (s : ByteArray) : Nat → Nat → List Int → Option (List Int)
 | 0,pos,acc => some acc
 | f + 1,pos,acc => if pos < s.size then (match decVar s (pos : Int) with
   | none => none
   | some (n,k) => if 400 - (acc.length : Int) < n / 16 then none else utGo s f (pos + k) (acc ++ List.replicate (n / 16).toNat (n % 16))) else some acc
def unpackTrack (s : ByteArray) : Option (List Int) := match utGo s s.size 0 [] with
 | none => none
 | some l => if packTrack l = s then some l else none
@[reducible] def utrO : Option (List Int) → List Ob
 | none => [.row 1 []]
 | some l => [.row 1 (els l)]
@[reducible] def utrR : Option (List Int) → V
 | none => .tu [.c (.ref 0),.c (bv false)]
 | some _ => .tu [.c (.ref 0),.c (bv true)]
theorem gd_small {l : List Int} (h1 : l.length ≤ 400) (h2 : ∀ x ∈ l,I64 x) : Enc.gd l := ⟨by omega,h2⟩
theorem els_rep (acc : List Int) (k : Nat) (v : Int) : els (acc ++ List.replicate (k + 1) v) = els (acc ++ List.replicate k v) ++ [[.v (.int .i64 v)]] := by
 rw [List.replicate_succ',← List.append_assoc,els_snocI]
theorem utGo_end {s : ByteArray} {pos : Nat} (h : ¬ pos < s.size) (f : Nat) (acc : List Int) : utGo s f pos acc = some acc := by
 cases f with
 | zero => rfl
 | succ f => rw [utGo,if_neg h]
theorem I_UnpackTrack (s : ByteArray) (hs : s.size ≤ 1099511627776) : Con Tryd.prog 96 [] [astr s] (utrO (unpackTrack s)) (utrR (unpackTrack s)) := by
 have h00 : ([] : List (List T)).length = 0 := rfl
 refine Con.of Tryd.func96 J Tryd.ntmps96 J (fun E => ?_)
 refine zy (z1 J (z1 J (zz (zy (z1 J (zz (Qd ?_)))))));refine zy (z1 J (zz (Qk ?_)))
 refine AWP.pre ?_ (W_nil 4 1 J)
 refine Xe (fun m__ st => ∃ (pos : Nat) (acc : List Int) (f : Nat),s.size - pos = m__ ∧ (s.size ≤ pos + f ∧ pos ≤ s.size ∧ acc.length ≤ 400 ∧ (∀ x ∈ acc,I64 x) ∧ utGo s f pos acc = utGo s s.size 0 []) ∧ st = (⟨_,[(0,S s),(4,.o (.c (.ref 0))),(5,I pos)],[.row 1 (els acc)]⟩ : St)) _ ⟨_,⟨0,[],s.size,J,⟨by omega,by omega,by simp,by simp,J⟩,J⟩,Kb [0]⟩ ?_
 rintro m_A _ ⟨pos,acc,f,hk_A,hp_A,rfl⟩
 obtain ⟨hfu,hps,hal,hag,hgo⟩ := hp_A
 have hla := X8 acc
 by_cases hlt : (pos : Int) < s.size
 ·have hb : decide ((pos : Int) < s.size) = true := decide_eq_true hlt
  have hd := Xl s (pos : Int) hs ⟨by omega,by omega⟩
  obtain ⟨g,rfl⟩ : ∃ g,f = g + 1 := ⟨f - 1,by omega⟩
  cases hv : decVar s (pos : Int) with
  | none =>
   rw [hv] at hd
   rw [show unpackTrack s = none by rw [unpackTrack,← hgo,utGo,if_pos (by omega),hv]]
   refine Qd (zy (z0 J (z0 J (zx (Yy J J J) J (K0 J (zz (Qm J (Qh (Qz ?_)))))))));refine Qk (zy (z0 J (z0 J ?_)));refine Ki (Yr J J (hd) J J J) J ?_;refine zx (Vw J) J (ze J (ze J (ze J (z1 J (z1 J (z1 J (zz (Qd (zy ?_)))))))));refine z0 J (zn J (z0 J (z6 J (z6 J (z6 J (z6 J (z6 J (z6 J (zpT J (zz ?_))))))))));refine Qm J (zy (z1 J (z1 J (zz (Q8 (T_r (B_r (T_r (B_r ?_)))))))));refine T_r (F_r ?_)
   exact Xj J J J (Xu [1] [1] J J (by decide) J J J)
  | some r =>
   obtain ⟨n,k⟩ := r
   rw [hv] at hd
   have hm := X5 hv
   by_cases hbig : 400 - ((els acc).length : Int) < n / 16
   ·have hb2 : decide (400 - ((els acc).length : Int) < n / 16) = true := decide_eq_true hbig
    rw [show unpackTrack s = none by rw [unpackTrack,← hgo,utGo,if_pos (by omega),hv]; simp only []; rw [if_pos (by omega)]]
    refine Qd (zy (z0 J (z0 J (zx (Yy J J J) J (K0 J (zz (Qm J (Qh (Qz ?_)))))))));refine Qk (zy (z0 J (z0 J ?_)));refine Ki (Yr J J (hd) J J J) J ?_;refine zx (Vw J) J (ze J (ze J (ze J (z1 J (z1 J (z1 J (zz (Qd (zy ?_)))))))));refine z0 J (zn J (z0 J (z5 J (z0 J (z5 J (zx (q_quo J J J J (by omega)) J (z5 J (z0 J (z5 J (zx (Yx J J J J) J (z5 J ?_)))))))))));refine z8 J (by omega) (z5 J (z9c J (by assumption) (zpF J (zz (Qm J (zy (z1 J (z1 J (Qe ?_)))))))));refine Qz (Q8 (T_r (B_r (T_r (B_r (T_r (F_r ?_)))))))
    exact Xj J J J (Xu [1] [1] J J (by decide) J J J)
   have hb2 : decide (400 - ((els acc).length : Int) < n / 16) = false := decide_eq_false hbig
   obtain ⟨m,hm16⟩ : ∃ m : Nat,n / 16 = m := ⟨(n / 16).toNat,by omega⟩
   refine Qd (zy (z0 J (z0 J (zx (Yy J J J) J (K0 J (zz (Qm J (Qh (Qz ?_)))))))));refine Qk (zy (z0 J (z0 J ?_)));refine Ki (Yr J J (hd) J J J) J ?_;refine zx (Vw J) J (ze J (ze J (ze J (z1 J (z1 J (z1 J (zz (Qd (zy ?_)))))))));refine z0 J (zn J (z0 J (z5 J (z0 J (z5 J (zx (q_quo J J J J (by omega)) J (z5 J (z0 J (z5 J (zx (Yx J J J J) J (z5 J ?_)))))))))));refine z8 J (by omega) (z5 J (z9c J (by assumption) (zpF J (zz (Ql J (Qh (Qz (Qd (zy ?_)))))))));refine z1 J (zz (Qk ?_));refine Xe (fun m__ st => ∃ (k2 : Nat),m - k2 = m__ ∧ (k2 ≤ m) ∧ st = (⟨_,[(0,S s),(4,.o (.c (.ref 0))),(5,I pos),(6,I n),(7,I k),(9,I k2)],[.row 1 (els (acc ++ List.replicate k2 (n % 16)))]⟩ : St)) _ ⟨(fun (k2 : Nat) => (⟨_,[(0,S s),(4,.o (.c (.ref 0))),(5,I pos),(6,I n),(7,I k),(9,I k2)],[.row 1 (els (acc ++ List.replicate k2 (n % 16)))]⟩ : St)) (0),⟨0,J,Nat.zero_le _,J⟩,Xw [0] (by decide) J (Y4 (by simp)) (.c J (.c J (.c J (.c J (.c J (.c J (.nil)))))))⟩ ?_
   rintro m_B _ ⟨k2,hk_B,hp_B,rfl⟩
   have hlb := X8 (acc ++ List.replicate k2 (n % 16))
   have hlc : (acc ++ List.replicate k2 (n % 16)).length = acc.length + k2 := by simp
   refine Qd (zy (z0 J (z0 J (zx (q_quo J J J J (by omega)) J (zx (Zl J) J (zz ?_))))))
   refine Q9 J (fun h => ?_) (fun h => ?_)
   ·have h := of_decide_eq_true h
    refine Qh (Qz (Qd (Qk (Qc (z0 J (z0 J (zx (q_rem J J J J (by omega)) J (Ki (Yn J J J J J J) J ?_))))))));refine Xo J J J J J J J J J J (by omega) (by omega) ?_;refine z1 J (Qe (Q0 (Qz (Qc (z0 J (Kd J (z1 J (zz ?_))))))))
    refine ⟨_,(by omega),(fun (k2 : Nat) => (⟨_,[(0,S s),(4,.o (.c (.ref 0))),(5,I pos),(6,I n),(7,I k),(9,I k2)],[.row 1 (els (acc ++ List.replicate k2 (n % 16)))]⟩ : St)) (k2 + 1),⟨k2 + 1,J,by omega,J⟩,Xw [0] (by decide) J (Y4 (els_rep acc k2 (n % 16))) (.c J (.c J (.c J (.c J (.c J (.c J (.nil)))))))⟩
   ·have h := of_decide_eq_false h
    have hk2 : k2 = m := by omega
    subst hk2
    refine Q7 (T_x (T_x (Xg (Qz (Qc (z0 J (z0 J (Kd J (z1 J (Qe (Q0 ?_)))))))))));refine Qz ?_
    refine ⟨_,(by omega),_,⟨pos + k,acc ++ List.replicate k2 (n % 16),g,rfl,⟨by omega,by omega,by omega,fun x hx => by rcases List.mem_append.1 hx with hx | hx; exact hag x hx; have := List.eq_of_mem_replicate hx; exact ⟨by omega,by omega⟩,by rw [← hgo,utGo,if_pos (by omega),hv]; simp only []; rw [if_neg (by omega),hm16]; rfl⟩,rfl⟩,Kb [0]⟩
 ·have hb : decide ((pos : Int) < s.size) = false := decide_eq_false hlt
  have hut := utGo_end (s := s) (pos := pos) (by omega) f acc
  have hpk := I_PackTrack acc (gd_small hal hag)
  by_cases he : packTrack acc = s
  ·have hb2 : decide (packTrack acc ≠ s) = false := decide_eq_false fun h => h he
   rw [show unpackTrack s = some acc by rw [unpackTrack,← hgo,hut]; exact if_pos he]
   refine Qd (zy (z0 J (z0 J (zx (Yy J J J) J (K0 J (zz (Ql J (Q7 (T_x ?_)))))))));refine T_x (Xg (Qz (Qd (zy (z0 J ?_)))));refine zx (Qj J J (hpk) J) J ?_;refine z0 J (zx (Kh J) J (zz (Ql J (Qh (Qz (zy (z0 J (z1 J (z1 J ?_)))))))));refine zz (Q8 (F_r ?_))
   exact Xj J J J (Kf [0] J J J)
  ·have hb2 : decide (packTrack acc ≠ s) = true := decide_eq_true he
   rw [show unpackTrack s = none by rw [unpackTrack,← hgo,hut]; exact if_neg he]
   refine Qd (zy (z0 J (z0 J (zx (Yy J J J) J (K0 J (zz (Ql J (Q7 (T_x ?_)))))))));refine T_x (Xg (Qz (Qd (zy (z0 J ?_)))));refine zx (Qj J J (hpk) J) J ?_;refine z0 J (zx (Kh J) J (zz (Qm J (zy (z1 J (z1 J (zz (Q8 ?_))))))));refine T_r (F_r ?_)
   exact Xj J J J (Xu [1] [1] J J (by decide) J J J)
theorem S_UnpackTrack (s : ByteArray) (hs : s.size ≤ 1099511627776) : Con Tryd.prog 85 [] [astr s] (utrO (unpackTrack s)) (utrR (unpackTrack s)) := by
 have h00 : ([] : List (List T)).length = 0 := rfl
 refine Con.of Tryd.func85 J Tryd.ntmps85 J (fun E => ?_)
 refine zy (z1 J (z1 J (zz (zy (Ki (Yo J J J) J (z1 J (zz ?_)))))));refine Qd (zy (z1 J (zz (Qk ?_))));refine Xe (fun m__ st => ∃ (pos : Nat) (acc : List Int) (f : Nat),s.size - pos = m__ ∧ (s.size ≤ pos + f ∧ pos ≤ s.size ∧ acc.length ≤ 400 ∧ (∀ x ∈ acc,I64 x) ∧ utGo s f pos acc = utGo s s.size 0 []) ∧ st = (⟨_,[(0,S s),(4,.o (.c (.ref 0))),(5,I pos)],[.row 1 (els acc)]⟩ : St)) _ ⟨_,⟨0,[],s.size,J,⟨by omega,by omega,by simp,by simp,J⟩,J⟩,Kb [0]⟩ ?_
 rintro m_A _ ⟨pos,acc,f,hk_A,hp_A,rfl⟩
 obtain ⟨hfu,hps,hal,hag,hgo⟩ := hp_A
 have hla := X8 acc
 by_cases hlt : (pos : Int) < s.size
 ·have hb : decide ((pos : Int) < s.size) = true := decide_eq_true hlt
  have hd := Xq s (pos : Int) hs ⟨by omega,by omega⟩
  obtain ⟨g,rfl⟩ : ∃ g,f = g + 1 := ⟨f - 1,by omega⟩
  cases hv : decVar s (pos : Int) with
  | none =>
   rw [hv] at hd
   rw [show unpackTrack s = none by rw [unpackTrack,← hgo,utGo,if_pos (by omega),hv]]
   refine Qd (zy (z0 J (z0 J (zx (Yy J J J) J (K0 J (zz (Qm J (Qh (Qz ?_)))))))));refine Qk (zy (z0 J (z0 J ?_)));refine Ki (Yr J J (hd) J J J) J ?_;refine zx (Vw J) J (ze J (ze J (ze J (z1 J (z1 J (z1 J (zz (Qd (zy ?_)))))))));refine z0 J (zn J (z0 J (z6 J (z6 J (z6 J (z6 J (z6 J (z6 J (zpT J (zz ?_))))))))));refine Qm J (zy (Ki (Yo J J J) J (z1 J (z1 J (zz (Q8 (T_r (B_r (T_r ?_)))))))));refine B_r (T_r (F_r ?_))
   exact Xj J J J (Kf [1] J J J)
  | some r =>
   obtain ⟨n,k⟩ := r
   rw [hv] at hd
   have hm := X5 hv
   by_cases hbig : 400 - ((els acc).length : Int) < n / 16
   ·have hb2 : decide (400 - ((els acc).length : Int) < n / 16) = true := decide_eq_true hbig
    rw [show unpackTrack s = none by rw [unpackTrack,← hgo,utGo,if_pos (by omega),hv]; simp only []; rw [if_pos (by omega)]]
    refine Qd (zy (z0 J (z0 J (zx (Yy J J J) J (K0 J (zz (Qm J (Qh (Qz ?_)))))))));refine Qk (zy (z0 J (z0 J ?_)));refine Ki (Yr J J (hd) J J J) J ?_;refine zx (Vw J) J (ze J (ze J (ze J (z1 J (z1 J (z1 J (zz (Qd (zy ?_)))))))));refine z0 J (zn J (z0 J (z5 J (z0 J (z5 J (zx (q_quo J J J J (by omega)) J (z5 J (z0 J (z5 J (zx (Yx J J J J) J (z5 J ?_)))))))))));refine z8 J (by omega) (z5 J (z9c J (by assumption) (zpF J (zz (Qm J (zy (Ki (Yo J J J) J (z1 J (z1 J ?_)))))))));refine zz (Q8 (T_r (B_r (T_r (B_r (T_r (F_r ?_)))))))
    exact Xj J J J (Kf [1] J J J)
   have hb2 : decide (400 - ((els acc).length : Int) < n / 16) = false := decide_eq_false hbig
   obtain ⟨m,hm16⟩ : ∃ m : Nat,n / 16 = m := ⟨(n / 16).toNat,by omega⟩
   refine Qd (zy (z0 J (z0 J (zx (Yy J J J) J (K0 J (zz (Qm J (Qh (Qz ?_)))))))));refine Qk (zy (z0 J (z0 J ?_)));refine Ki (Yr J J (hd) J J J) J ?_;refine zx (Vw J) J (ze J (ze J (ze J (z1 J (z1 J (z1 J (zz (Qd (zy ?_)))))))));refine z0 J (zn J (z0 J (z5 J (z0 J (z5 J (zx (q_quo J J J J (by omega)) J (z5 J (z0 J (z5 J (zx (Yx J J J J) J (z5 J ?_)))))))))));refine z8 J (by omega) (z5 J (z9c J (by assumption) (zpF J (zz (Ql J (Qh (Qz (Qd (zy ?_)))))))));refine z0 J (zx (q_quo J J J J (by omega)) J (z1 J (zz (Qk ?_))));refine Xe (fun m__ st => ∃ (k2 : Nat),m - k2 = m__ ∧ (k2 ≤ m) ∧ st = (⟨_,[(0,S s),(4,.o (.c (.ref 0))),(5,I pos),(6,I n),(7,I k),(9,I ((m : Int) - k2))],[.row 1 (els (acc ++ List.replicate k2 (n % 16)))]⟩ : St)) _ ⟨(fun (k2 : Nat) => (⟨_,[(0,S s),(4,.o (.c (.ref 0))),(5,I pos),(6,I n),(7,I k),(9,I ((m : Int) - k2))],[.row 1 (els (acc ++ List.replicate k2 (n % 16)))]⟩ : St)) (0),⟨0,J,Nat.zero_le _,J⟩,Xw [0] (by decide) J (Y4 (by simp)) (.c J (.c J (.c J (.c J (.c J (.cons (Kt) (.nil)))))))⟩ ?_
   rintro m_B _ ⟨k2,hk_B,hp_B,rfl⟩
   have hlb := X8 (acc ++ List.replicate k2 (n % 16))
   have hlc : (acc ++ List.replicate k2 (n % 16)).length = acc.length + k2 := by simp
   refine Qd (zy (z0 J (zx (q_gtr J J J J) J (zz ?_))))
   refine Q9 J (fun h => ?_) (fun h => ?_)
   ·have h := of_decide_eq_true h
    refine Qh (Qz (Qd (Qk (Qc (z0 J (z0 J (zx (q_rem J J J J (by omega)) J (Ki (Yn J J J J J J) J ?_))))))));refine Xo J J J J J J J J J J (by omega) (by omega) ?_;refine z1 J (Qe (Q0 (Qz (Qc (z0 J (z8 J (by omega) (z1 J (zz ?_))))))))
    refine ⟨_,(by omega),(fun (k2 : Nat) => (⟨_,[(0,S s),(4,.o (.c (.ref 0))),(5,I pos),(6,I n),(7,I k),(9,I ((m : Int) - k2))],[.row 1 (els (acc ++ List.replicate k2 (n % 16)))]⟩ : St)) (k2 + 1),⟨k2 + 1,J,by omega,J⟩,Xw [0] (by decide) J (Y4 (els_rep acc k2 (n % 16))) (.c J (.c J (.c J (.c J (.c J (.cons (Kt) (.nil)))))))⟩
   ·have h := of_decide_eq_false h
    have hk2 : k2 = m := by omega
    subst hk2
    refine Q7 (T_x (T_x (Xg (Qz (Qc (z0 J (z0 J (Kd J (z1 J (Qe (Q0 ?_)))))))))));refine Qz ?_
    refine ⟨_,(by omega),_,⟨pos + k,acc ++ List.replicate k2 (n % 16),g,rfl,⟨by omega,by omega,by omega,fun x hx => by rcases List.mem_append.1 hx with hx | hx; exact hag x hx; have := List.eq_of_mem_replicate hx; exact ⟨by omega,by omega⟩,by rw [← hgo,utGo,if_pos (by omega),hv]; simp only []; rw [if_neg (by omega),hm16]; rfl⟩,rfl⟩,Kb [0]⟩
 ·have hb : decide ((pos : Int) < s.size) = false := decide_eq_false hlt
  have hut := utGo_end (s := s) (pos := pos) (by omega) f acc
  have hpk := S_PackTrack acc (gd_small hal hag)
  by_cases he : packTrack acc = s
  ·have hb2 : decide (packTrack acc ≠ s) = false := decide_eq_false fun h => h he
   rw [show unpackTrack s = some acc by rw [unpackTrack,← hgo,hut]; exact if_pos he]
   refine Qd (zy (z0 J (z0 J (zx (Yy J J J) J (K0 J (zz (Ql J (Q7 (T_x ?_)))))))));refine T_x (Xg (Qz (Qd (zy (z0 J ?_)))));refine zx (Qj J J (hpk) J) J ?_;refine z0 J (zx (Kh J) J (zz (Ql J (Qh (Qz (zy (z0 J (z1 J (z1 J ?_)))))))));refine zz (Q8 (F_r ?_))
   exact Xj J J J (Kf [0] J J J)
  ·have hb2 : decide (packTrack acc ≠ s) = true := decide_eq_true he
   rw [show unpackTrack s = none by rw [unpackTrack,← hgo,hut]; exact if_neg he]
   refine Qd (zy (z0 J (z0 J (zx (Yy J J J) J (K0 J (zz (Ql J (Q7 (T_x ?_)))))))));refine T_x (Xg (Qz (Qd (zy (z0 J ?_)))));refine zx (Qj J J (hpk) J) J ?_;refine z0 J (zx (Kh J) J (zz (Qm J (zy (Ki (Yo J J J) J (z1 J (z1 J (zz ?_))))))));refine Q8 (T_r (F_r ?_))
   exact Xj J J J (Kf [1] J J J)
end
end Go.Proofs.YtcjclaoogdblbaaDoor
