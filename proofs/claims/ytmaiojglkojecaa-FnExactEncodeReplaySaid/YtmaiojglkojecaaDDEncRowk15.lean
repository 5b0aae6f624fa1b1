/-
  Numbers as bytes: EncodeVarint, Signless, PackInts, PackText, Checksum, SealText, in the program and in the reference.
  Conditions: lists of at most 2^30 elements.
  Runs of inputs as bytes: PackTrack, and the columns of rows, in the program and in the reference.
  Conditions: at most 400 rows of equal length.
-/
import Derived.Test.YtmaiojglkojecaaDDEncRowk14
set_option linter.unusedSimpArgs false
set_option linter.unusedVariables false
set_option maxRecDepth 8000
set_option maxHeartbeats 8000000
namespace Go.Proofs.Ytmaiojglkojecaa
section
open Go.RowKit

def varN (n : Nat) : List UInt8 := if n < 128 then [UInt8.ofNat n] else UInt8.ofNat (n % 128 + 128) :: varN (n / 128)
termination_by n
decreasing_by omega
def encVar (n : Int) : List UInt8 := if 0 ≤ n ∧ n ≤ 1099511627775 then varN n.toNat else []
theorem varN_small {n : Nat} (h : n < 128) : varN n = [UInt8.ofNat n] := by rw [varN,if_pos h]
theorem varN_big {n : Nat} (h : ¬ n < 128) : varN n = UInt8.ofNat (n % 128 + 128) :: varN (n / 128) := by rw [varN,if_neg h]
theorem varN_len (n : Nat) : 1 ≤ (varN n).length ∧ (varN n).length ≤ n + 1 := by
 induction n using Nat.strongRecOn with
 | ind n ih =>
  by_cases h : n < 128
  ·rw [varN_small h]; simp
  ·rw [varN_big h]
   have := ih (n / 128) (by omega)
   simp only [List.length_cons]
   omega
theorem varN_step {acc : List UInt8} {m : Nat} {l : List UInt8} (h : acc ++ varN m = l) (hm : ¬ m < 128) {x : UInt8} (hx : x = UInt8.ofNat (m % 128 + 128)) : (acc ++ [x]) ++ varN (m / 128) = l := by
 rw [← h,varN_big hm,hx]; simp
theorem varN_end {acc : List UInt8} {m : Nat} {l : List UInt8} (h : acc ++ varN m = l) (hm : m < 128) {x : UInt8} (hx : x = UInt8.ofNat m) : acc ++ [x] = l := by
 rw [← h,varN_small hm,hx]

theorem Xe (n : Int) : Con Try.prog 46 [] [ai n] [] (S (bs (encVar n))) := by
 refine Con.of Try.func46 J Try.ntmps46 J (fun E => ?_)
 refine zy (z1 J (zz (Qd (zy (z0 J (zx (Yi J) J (z0 J ?_)))))));refine zx (Qt.grdF J J J .stop (fun hgrd => Yo J)) J ?_;refine zx (Z2 J (.hit .stop) (fun hgrd => q_gtr J J J J)) J ?_;refine zx (q_or J J J J) J (zz ?_)
 refine Q7 J (fun h => ?_) (fun h => ?_)
 ·simp only [Bool.or_eq_true,decide_eq_true_eq] at h
  refine zy (z1 J (zz (Q6 (T_r (F_r ?_)))))
  exact Y5 J (Y6 [] J J (S_eq (by rw [encVar,if_neg (by omega)])))
 simp only [Bool.or_eq_false_iff,decide_eq_false_iff_not] at h
 have he : encVar n = varN n.toNat := by rw [encVar,if_pos (by omega)]
 rw [he]
 refine Qh (Qz (zy (z1 J (zz (Qd (Qk ?_))))))
 refine AWP.pre ?_ (W_nil 3 1 J)
 refine A_lq (fun m__ st => ∃ (m : Nat) (acc : List UInt8),m = m__ ∧ (acc ++ varN m = varN n.toNat ∧ acc.length + m ≤ 1099511627775) ∧ st = (⟨_,[(0,I m),(3,.o (.c (.ref 0)))],[.row 1 (bE acc)]⟩ : St)) _ ⟨(fun (m : Nat) (acc : List UInt8) => (⟨_,[(0,I m),(3,.o (.c (.ref 0)))],[.row 1 (bE acc)]⟩ : St)) (n.toNat) ([]),⟨n.toNat,[],J,⟨J,by simp <;> omega⟩,J⟩,Y2 [0] J (.cons (I_eq (by omega)) (.c J (.nil)))⟩ ?_
 rintro m_A _ ⟨m,acc,hk_A,hp_A,rfl⟩
 refine Qd (zy (z0 J (zx (q_geq J J J J) J (zz ?_))))
 refine Q7 J (fun h5 => ?_) (fun h5 => ?_)
 ·have h5 : ¬ m < 128 := by have := of_decide_eq_true h5; omega
  have hl := Xl acc
  refine Qh (Qz (Qk (zy (z0 J (z0 J (zx (q_rem J J J J (by omega)) J (Zb J (zx (X2 J J J J (Z6)) J (M1 (X1 J J J J J J) J J ?_)))))))));refine M_appsb J J J J J J J J J J (by omega) (by omega) ?_;refine z1 J (zz (Qc (z0 J (zx (q_quo J J J J (by omega)) J (z1 J (Qe (Q0 (Qz ?_))))))))
  refine ⟨_,(by omega),(fun (m : Nat) (acc : List UInt8) => (⟨_,[(0,I m),(3,.o (.c (.ref 0)))],[.row 1 (bE acc)]⟩ : St)) (m / 128) (acc ++ [UInt8.ofNat ((m : Int) % 128 + 128).toNat]),⟨m / 128,acc ++ [UInt8.ofNat ((m : Int) % 128 + 128).toNat],J,⟨varN_step hp_A.1 h5 (by congr 1 <;> omega),by have := hp_A.2; simp <;> omega⟩,J⟩,Xi [0] (by decide) J (X9 (bE_snoc _ _ (by omega)).symm) (.cons (I_eq (by omega)) (.c J (.nil)))⟩
 ·have h5 : m < 128 := by have := of_decide_eq_false h5; omega
  have hl := Xl acc
  have hb := hp_A.2
  refine Q5 (T_x (T_x (B_xs (Qz (zy (z0 J (z0 J (zx (X2 J J J J (Z6)) J (M1 (X1 J J J J J J) J J ?_)))))))));refine M_appsb J J J J J J J J J J (by omega) (by omega) ?_;refine z1 J (zz (zy (z0 J (zx (q_bstr J J J J) J (z1 J (zz (Q6 (F_r ?_))))))))
  exact Y5 J (Y6 [] J J (S_eq (congrArg bs (varN_end hp_A.1 h5 (by congr 1)))))
theorem Xf (n : Int) : Con Try.prog 37 [] [ai n] [] (S (bs (encVar n))) := by
 refine Con.of Try.func37 J Try.ntmps37 J (fun E => ?_)
 refine zy (z1 J (zz (Qd (zy (z0 J ?_)))));refine zx (Qj J J (S_in n 0 1099511627775) J) J ?_;refine zn J (zz ?_)
 refine Q7 J (fun h => ?_) (fun h => ?_)
 ·have h : ¬ (0 ≤ n ∧ n ≤ 1099511627775) := by rw [← inR_iff]; simpa using h
  refine zy (z1 J (zz (Q6 (T_r (F_r ?_)))))
  exact Y5 J (Y6 [] J J (S_eq (by rw [encVar,if_neg h])))
 have h : 0 ≤ n ∧ n ≤ 1099511627775 := by rw [← inR_iff]; simpa using h
 have he : encVar n = varN n.toNat := by rw [encVar,if_pos h]
 rw [he]
 refine Qh (Qz (zy (M1 (q_bslice0 J J J) J J (z1 J (zz (Qd (Qk ?_)))))))
 refine A_lq (fun m__ st => ∃ (m : Nat) (acc : List UInt8),m = m__ ∧ (acc ++ varN m = varN n.toNat ∧ acc.length + m ≤ 1099511627775) ∧ st = (⟨_,[(0,I m),(3,.o (.c (.ref 0)))],[.row 1 (bE acc)]⟩ : St)) _ ⟨(fun (m : Nat) (acc : List UInt8) => (⟨_,[(0,I m),(3,.o (.c (.ref 0)))],[.row 1 (bE acc)]⟩ : St)) (n.toNat) ([]),⟨n.toNat,[],J,⟨J,by simp <;> omega⟩,J⟩,Y2 [0] J (.cons (I_eq (by omega)) (.c J (.nil)))⟩ ?_
 rintro m_A _ ⟨m,acc,hk_A,hp_A,rfl⟩
 refine Qd (zy (z0 J (zx (q_gtr J J J J) J (zz ?_))))
 refine Q7 J (fun h5 => ?_) (fun h5 => ?_)
 ·have h5 : ¬ m < 128 := by have := of_decide_eq_true h5; omega
  have hl := Xl acc
  have hb := hp_A.2
  have hb1 : (m : Int).toNat &&& (127 : Int).toNat = m % 128 := Nat.and_two_pow_sub_one_eq_mod m 7
  have hb2 : ((m % 128 : Nat) : Int).toNat ||| (128 : Int).toNat = m % 128 + 128 := by
   have := Nat.two_pow_add_eq_or_of_lt (i := 7) (b := m % 128) (by omega) 1
   rw [Nat.or_comm]
   show 128 ||| m % 128 = _
   rw [← this]; omega
  have hb3 : (m : Int) / 2 ^ (7 : Int).toNat = (m / 128 : Nat) := by
   show (m : Int) / 128 = _
   omega
  refine Qh (Qz (Qk (zy (z0 J (z0 J (zx (q_bandK J J J J (by assumption) (by omega)) J (zx (q_borK J J J J (by assumption) (by omega)) J (zx (X2 J J J J (Z6)) J (M1 (X1 J J J J J J) J J ?_)))))))));refine M_appsb J J J J J J J J J J (by omega) (by omega) ?_;refine z1 J (zz (Qc (z0 J (zx (q_shrK J J J J (by assumption) ⟨by omega,by omega,by decide⟩) J (z1 J (Qe (Q0 (Qz ?_))))))))
  refine ⟨_,(by omega),(fun (m : Nat) (acc : List UInt8) => (⟨_,[(0,I m),(3,.o (.c (.ref 0)))],[.row 1 (bE acc)]⟩ : St)) (m / 128) (acc ++ [UInt8.ofNat ((m % 128 + 128 : Nat) : Int).toNat]),⟨m / 128,acc ++ [UInt8.ofNat ((m % 128 + 128 : Nat) : Int).toNat],J,⟨varN_step hp_A.1 h5 (by congr 1),by simp <;> omega⟩,J⟩,Xi [0] (by decide) J (X9 (bE_snoc _ _ (by omega)).symm) (.c J (.c J (.nil)))⟩
 ·have h5 : m < 128 := by have := of_decide_eq_false h5; omega
  have hl := Xl acc
  have hb := hp_A.2
  refine Q5 (T_x (T_x (B_xs (Qz (zy (z0 J (z0 J (zx (X2 J J J J (Z6)) J (M1 (X1 J J J J J J) J J ?_)))))))));refine M_appsb J J J J J J J J J J (by omega) (by omega) ?_;refine zx (q_bstr J J J J) J (z1 J (zz (Q6 (F_r ?_))))
  exact Y5 J (Y6 [] J J (S_eq (congrArg bs (varN_end hp_A.1 h5 (by congr 1)))))

theorem varN_pow : ∀ (j n : Nat),n < 128 ^ (j + 1) → (varN n).length ≤ j + 1
 | 0,n,h => by rw [varN_small (by omega)]; simp
 | j + 1,n,h => by
  by_cases hn : n < 128
  ·rw [varN_small hn]; simp
  ·rw [varN_big hn,List.length_cons]
   have := varN_pow j (n / 128) (by rw [Nat.pow_succ] at h; omega)
   omega
theorem Xq (n : Int) : (encVar n).length ≤ 6 := by
 unfold encVar
 split
 ·exact varN_pow 5 _ (by omega)
 ·simp
def signless (n : Int) : Int := if -549755813888 ≤ n ∧ n ≤ 549755813887 then (if 0 ≤ n then 2 * n else -2 * n - 1) else -1
theorem I_Signless (n : Int) (hn : I64 n) : Con Try.prog 48 [] [ai n] [] (I (signless n)) := by
 obtain ⟨hn1,hn2⟩ := hn
 refine Con.of Try.func48 J Try.ntmps48 J (fun E => ?_)
 refine zy (z1 J (zz (Qd (zy (z0 J (zx (Yi J) J (z0 J ?_)))))));refine zx (Qt.grdF J J J .stop (fun hgrd => Yo J)) J ?_;refine zx (Z2 J (.hit .stop) (fun hgrd => q_gtr J J J J)) J ?_;refine zx (q_or J J J J) J (zz ?_)
 refine Q7 J (fun h => ?_) (fun h => ?_)
 ·simp only [Bool.or_eq_true,decide_eq_true_eq] at h
  refine zy (z1 J (zz (Q6 (T_r (F_r ?_)))))
  exact Y5 J (Y6 [] J J (I_eq (by rw [signless,if_neg (by omega)])))
 simp only [Bool.or_eq_false_iff,decide_eq_false_iff_not] at h
 refine Qh (Qz (Qd (zy (z0 J (zx (q_geq J J J J) J (zz ?_))))))
 refine Q7 J (fun h1 => ?_) (fun h1 => ?_)
 ·have h1 := of_decide_eq_true h1
  refine zy (z0 J (zx (q_mul J J J J (by omega)) J (z1 J (zz (Q6 (T_r (F_r ?_)))))))
  exact Y5 J (Y6 [] J J (I_eq (by rw [signless,if_pos (by omega),if_pos (by omega)])))
 ·have h1 := of_decide_eq_false h1
  refine Qh (Qz (zy (z0 J (zx (q_mul J J J J (by omega)) J (z8 J (by omega) (z1 J (zz (Q6 (F_r ?_)))))))))
  exact Y5 J (Y6 [] J J (I_eq (by rw [signless,if_pos (by omega),if_neg (by omega)])))
theorem S_Signless (n : Int) (hn : I64 n) : Con Try.prog 38 [] [ai n] [] (I (signless n)) := by
 obtain ⟨hn1,hn2⟩ := hn
 refine Con.of Try.func38 J Try.ntmps38 J (fun E => ?_)
 refine zy (z1 J (zz (Qd (zy (z0 J ?_)))));refine zx (Qj J J (S_in n (-549755813888) 549755813887) J) J ?_;refine zn J (zz ?_)
 refine Q7 J (fun h => ?_) (fun h => ?_)
 ·have h : ¬ (-549755813888 ≤ n ∧ n ≤ 549755813887) := by rw [← inR_iff]; simpa using h
  refine zy (z1 J (zz (Q6 (T_r (F_r ?_)))))
  exact Y5 J (Y6 [] J J (I_eq (by rw [signless,if_neg (by omega)])))
 have h : -549755813888 ≤ n ∧ n ≤ 549755813887 := by rw [← inR_iff]; simpa using h
 refine Qh (Qz (Qd (zy (z0 J (zx (q_geq J J J J) J (zz ?_))))))
 refine Q7 J (fun h1 => ?_) (fun h1 => ?_)
 ·have h1 := of_decide_eq_true h1
  refine zy (z0 J (zx (q_mul J J J J (by omega)) J (z1 J (zz (Q6 (T_r (F_r ?_)))))))
  exact Y5 J (Y6 [] J J (I_eq (by rw [signless,if_pos (by omega),if_pos (by omega)])))
 ·have h1 := of_decide_eq_false h1
  refine Qh (Qz (zy (z0 J (zx (q_mul J J J J (by omega)) J (z8 J (by omega) (z1 J (zz (Q6 (F_r ?_)))))))))
  exact Y5 J (Y6 [] J J (I_eq (by rw [signless,if_pos (by omega),if_neg (by omega)])))
def packText (s : ByteArray) : ByteArray := bs (encVar s.size) ++ s
theorem Xz (s : ByteArray) : (packText s).size ≤ s.size + 6 := by
 unfold packText
 rw [Xn,Xm]
 have := Xq s.size
 omega
theorem I_PackText (s : ByteArray) (hs : s.size ≤ 1099511627776) : Con Try.prog 24 [] [astr s] [] (S (packText s)) := by
 have h1 := Xm (encVar s.size)
 have h2 := Xq s.size
 refine Con.of Try.func24 J Try.ntmps24 J (fun E => ?_)
 refine zy (z1 J (zz (zy (z0 J (zx (q_lens J J J) J ?_)))));refine zx (Qj J J (Xe s.size) J) J ?_;refine z0 J (zx (q_cat J J J J (by omega)) J (z1 J (zz (Q6 (F_r ?_)))))
 exact Y5 J (Y6 [] J J J)
theorem S_PackText (s : ByteArray) (hs : s.size ≤ 1099511627776) : Con Try.prog 13 [] [astr s] [] (S (packText s)) := by
 have h1 := Xm (encVar s.size)
 have h2 := Xq s.size
 refine Con.of Try.func13 J Try.ntmps13 J (fun E => ?_)
 refine zy (z1 J (zz (zy (z0 J (zx (q_lens J J J) J ?_)))));refine zx (Qj J J (Xf s.size) J) J ?_;refine z0 J (zx (q_cat J J J J (by omega)) J (z1 J (zz (Q6 (F_r ?_)))))
 exact Y5 J (Y6 [] J J J)
def packK (xs : List Int) (k : Nat) : List UInt8 := encVar xs.length ++ (xs.take k).flatMap fun x => encVar (signless x)
def packInts (xs : List Int) : ByteArray := if xs.all (fun x => decide (0 ≤ signless x)) then bs (packK xs xs.length) else bs []
theorem packK_succ {xs : List Int} {k : Nat} (h : k < xs.length) : packK xs (k + 1) = packK xs k ++ encVar (signless xs[k]) := by
 unfold packK
 rw [List.take_succ_eq_append_getElem h,List.flatMap_append,List.append_assoc]
 simp
theorem packK_len (xs : List Int) : ∀ k,k ≤ xs.length → (packK xs k).length ≤ 6 * k + 6
 | 0,_ => by simp [packK]; exact Xq _
 | k + 1,h => by
  rw [packK_succ (by omega),List.length_append]
  have := packK_len xs k (by omega)
  have := Xq (signless xs[k])
  omega
theorem packInts_size (xs : List Int) : (packInts xs).size ≤ 6 * xs.length + 6 := by
 unfold packInts
 split
 ·rw [Xm]; exact packK_len xs _ (Nat.le_refl _)
 ·rw [Xm]; simp
theorem I_PackInts (xs : List Int) (hg : Enc.gd xs) (hL : xs.length ≤ 1073741824) : Con Try.prog 26 [] [al xs] [] (S (packInts xs)) := by
 have hlx := Xp xs
 have h1 := Xm (encVar (els xs).length)
 have h2 := Xq (els xs).length
 refine Con.of Try.func26 J Try.ntmps26 J (fun E => ?_)
 refine zy (z1 J (zz (zy (z0 J (zx (X4 J J J) J ?_)))));refine zx (Qj J J (Xe (els xs).length) J) J ?_;refine M1 (q_strb J J J (by omega)) J J (z1 J (zz (Qd (zy (z0 J (zx (X4 J J J) J (z0 J (zz ?_))))))));refine Qk ?_
 refine A_lq (fun m st => ∃ k : Nat,k + m = xs.length ∧ ((xs.take k).all (fun x => decide (0 ≤ signless x)) = true) ∧ st = (⟨_,[(3,.o (.c (.ref 0))),(11,L xs),(12,I (els xs).length),(13,I k)],[.row 1 (bE (packK xs k))]⟩ : St)) (xs.length) ⟨(fun k : Nat => (⟨_,[(3,.o (.c (.ref 0))),(11,L xs),(12,I (els xs).length),(13,I k)],[.row 1 (bE (packK xs k))]⟩ : St)) 0,⟨0,by omega,by simp,J⟩,Xi [0] (by decide) J (X9 (by rw [bs_list,hlx]; simp [packK])) (.c J (.c J (.c J (.c J (.nil)))))⟩ ?_
 rintro m_A _ ⟨k,hk_A,hp_A,rfl⟩
 refine zy (zx (Yi J) J (zz (Qd ?_)))
 refine Q7 J (fun h => ?_) (fun h => ?_)
 ·have h3 : k < xs.length := by have := of_decide_eq_true h; omega
  have hat := Xo h3
  have hb1 := Xl (packK xs k)
  have hb2 := packK_len xs k (by omega)
  have hb3 := Xm (encVar (signless xs[k]))
  have hb4 := Xq (signless xs[k])
  refine Qh (Qz (Qd (Qk (zy (zx (Q1 J J J J (by omega) (by assumption) J) J (zx (Y9 J) J (z1 J (zz (Qd ?_)))))))));refine Qc (z0 J ?_);refine zx (Qj J J (I_Signless xs[k] (hg.2 _ (List.getElem_mem h3))) J) J ?_;refine z1 J (zz (Qd (zy (z0 J (zx (Yi J) J (zz ?_))))))
  refine Q7 J (fun h4 => ?_) (fun h4 => ?_)
  ·refine zy (z1 rfl (zz (Q6 (T_r (B_r (T_r (T_r ?_)))))))
   refine B_r (T_r (F_r ?_))
   exact Y5 J (Y6 [] J J (S_eq (by rw [packInts,all_no h3 (by simpa using h4)]; rfl)))
  ·refine Qh (Qz (Qc (z0 rfl (z0 rfl ?_))))
   refine zx (Qj J J (Xe (signless xs[k])) J) J ?_;refine M_appstr J J J J J J J (by omega) (by omega) ?_;refine z1 J (Qe (Q0 (Qz (Qc (Zb J (z0 J (zz ?_)))))))
   exact ⟨xs.length - (k + 1),by omega,_,⟨k + 1,by omega,all_next hp_A h3 (by simpa using h4),J⟩,(by rw [bs_list,bE_app,packK_succ h3]; exact Zj [0])⟩
 ·have h3 : ¬ ((k : Int) < (els xs).length) := of_decide_eq_false h
  have hk : k = xs.length := by omega
  refine Q5 (T_x (T_x (B_xs (Qz (zy (z0 J (zx (q_bstr J J J J) J (z1 J (zz ?_)))))))));refine Q6 (F_r ?_)
  exact Y5 J (Y6 [] J J (S_eq (by rw [packInts,all_end hp_A (by omega),hk]; rfl)))
theorem S_PackInts (xs : List Int) (hg : Enc.gd xs) (hL : xs.length ≤ 1073741824) : Con Try.prog 15 [] [al xs] [] (S (packInts xs)) := by
 have hlx := Xp xs
 refine Con.of Try.func15 J Try.ntmps15 J (fun E => ?_)
 refine zy (z1 J (zz (zy (z0 J (zx (X4 J J J) J ?_)))));refine zx (Qj J J (Xf (els xs).length) J) J ?_;refine z1 J (zz (Qd (zy (z1 J (zz (Qk ?_))))))
 refine A_lq (fun m st => ∃ k : Nat,k + m = xs.length ∧ ((xs.take k).all (fun x => decide (0 ≤ signless x)) = true) ∧ st = (⟨_,[(0,L xs),(3,S (bs (packK xs k))),(4,I k)],[]⟩ : St)) (xs.length) ⟨(fun k : Nat => (⟨_,[(0,L xs),(3,S (bs (packK xs k))),(4,I k)],[]⟩ : St)) 0,⟨0,by omega,by simp,J⟩,Y2 [] J (.c J (.cons (S_eq (by rw [hlx]; simp [packK])) (.c J (.nil))))⟩ ?_
 rintro m_A _ ⟨k,hk_A,hp_A,rfl⟩
 refine Qd (zy (z0 J (z0 J (zx (X4 J J J) J (zx (Yi J) J (zz ?_))))))
 refine Q7 J (fun h => ?_) (fun h => ?_)
 ·have h3 : k < xs.length := by have := of_decide_eq_true h; omega
  have hat := Xo h3
  have hb1 := Xm (packK xs k)
  have hb2 := packK_len xs k (by omega)
  have hb3 := Xm (encVar (signless xs[k]))
  have hb4 := Xq (signless xs[k])
  have hc := S_Signless xs[k] (hg.2 _ (List.getElem_mem h3))
  refine Qh (Qz (Qd (Qk (Qd (zy (z0 J (z0 J (zx (Q1 J J J J (by omega) (by assumption) J) J (zx (Y9 J) J ?_)))))))));refine zx (Qj J J (hc) J) J ?_;refine zx (Yi J) J (zz ?_)
  refine Q7 J (fun h4 => ?_) (fun h4 => ?_)
  ·refine zy (z1 rfl (zz (Q6 (T_r (B_r (T_r (T_r ?_)))))))
   refine B_r (T_r (F_r ?_))
   exact Y5 J (Y6 [] J J (S_eq (by rw [packInts,all_no h3 (by simpa using h4)]; rfl)))
  ·refine Qh (Qz (Qc (z0 rfl (z0 rfl (z0 rfl ?_)))))
   refine zx (Q1 J J J J (by omega) (by assumption) J) J (zx (Y9 J) J ?_);refine zx (Qj J J (hc) J) J ?_;refine zx (Qj J J (Xf (signless xs[k])) J) J ?_;refine zx (q_cat J J J J (by omega)) J (z1 J (Qe (Q0 (Qz (Qc (z0 J (Zb J (z1 J (zz ?_)))))))))
   exact ⟨xs.length - (k + 1),by omega,(fun k : Nat => (⟨_,[(0,L xs),(3,S (bs (packK xs k))),(4,I k)],[]⟩ : St)) (k + 1),⟨k + 1,by omega,all_next hp_A h3 (by simpa using h4),J⟩,Y2 [] J (.c J (.cons (S_eq (by rw [bs_app,packK_succ h3])) (.c J (.nil))))⟩
 ·have h3 : ¬ ((k : Int) < (els xs).length) := of_decide_eq_false h
  have hk : k = xs.length := by omega
  refine Q5 (T_x (T_x (B_xs (Qz (zy (z0 J (z1 J (zz (Q6 ?_)))))))));refine F_r ?_
  exact Y5 J (Y6 [] J J (S_eq (by rw [packInts,all_end hp_A (by omega),hk]; rfl)))

def sumA (s : ByteArray) : Nat → Int
 | 0 => 0
 | k + 1 => (sumA s k + byteAt s k) % 65521
def sumB (s : ByteArray) : Nat → Int
 | 0 => 0
 | k + 1 => (sumB s k + byteAt s k * (((k : Int) + 1) % 65521)) % 65521
def checksum (s : ByteArray) : Int := sumA s s.size + 65536 * sumB s s.size
theorem sumA_lt (s : ByteArray) : ∀ k,0 ≤ sumA s k ∧ sumA s k < 65521
 | 0 => by simp [sumA]
 | k + 1 => by simp only [sumA]; omega
theorem sumB_lt (s : ByteArray) : ∀ k,0 ≤ sumB s k ∧ sumB s k < 65521
 | 0 => by simp [sumB]
 | k + 1 => by simp only [sumB]; omega
theorem checksum_lt (s : ByteArray) : 0 ≤ checksum s ∧ checksum s < 4294967296 := by
 have := sumA_lt s s.size
 have := sumB_lt s s.size
 unfold checksum
 omega
theorem I_Checksum (s : ByteArray) (hs : s.size ≤ 1099511627776) : Con Try.prog 50 [] [astr s] [] (I (checksum s)) := by
 refine Con.of Try.func50 J Try.ntmps50 J (fun E => ?_)
 refine zy (z1 J (zz (zy (z1 J (zz (zy ?_))))));refine z1 J (zz (Qd (zy (z1 J (zz (Qk ?_))))));refine A_lq (fun m st => ∃ k : Nat,k + m = s.size ∧ (True) ∧ st = (⟨_,[(0,S s),(3,I (sumA s k)),(4,I (sumB s k)),(5,I k)],[]⟩ : St)) (s.size) ⟨_,⟨0,by omega,trivial,J⟩,Zj []⟩ ?_
 rintro m_A _ ⟨k,hk_A,hp_A,rfl⟩
 refine Qd (zy (z0 J (z0 J (zx (q_lens J J J) J (zx (Yi J) J (zz ?_))))))
 refine Q7 J (fun h => ?_) (fun h => ?_)
 ·have h3 : k < s.size := by have := of_decide_eq_true h; omega
  have hb1 := sumA_lt s k
  have hb2 := sumB_lt s k
  obtain ⟨t,ht⟩ : ∃ t,byteAt s (k : Int).toNat = t := ⟨_,rfl⟩
  have htb : 0 ≤ t ∧ t ≤ 255 := ht ▸ byteAt_lt _ _
  have hmul : 0 ≤ t * (((k : Int) + 1) % 65521) ∧ t * (((k : Int) + 1) % 65521) ≤ 255 * 65520 := by
   have h5 : 0 ≤ ((k : Int) + 1) % 65521 ∧ ((k : Int) + 1) % 65521 ≤ 65520 := by omega
   exact ⟨Int.mul_nonneg htb.1 h5.1,Int.mul_le_mul htb.2 h5.2 h5.1 (by omega)⟩
  have e1 : sumA s (k + 1) = (sumA s k + t) % 65521 := by rw [sumA,← ht]; rfl
  have e2 : sumB s (k + 1) = (sumB s k + t * (((k : Int) + 1) % 65521)) % 65521 := by rw [sumB,← ht]; rfl
  refine Qh (Qz (Qd (Qk (zy (z0 J (z0 J (z0 J (zx (q_byteK J J J J (by assumption) (by omega)) J (zx (X2 J J J J (wrap_i64 (by omega))) J (Zb J ?_))))))))));refine zx (q_rem J J J J (by omega)) J (z1 J (zz (Qc (z0 J (z0 J (z0 J (zx (q_byteK J J J J (by assumption) (by omega)) J (zx (X2 J J J J (wrap_i64 (by omega))) J (z0 J (Zb J ?_))))))))));refine zx (q_rem J J J J (by omega)) J (zx (q_mul J J J J (by omega)) J (Zb J (zx (q_rem J J J J (by omega)) J (z1 J (Qe (Q0 (Qz (Qc (z0 J (Zb J (z1 J ?_)))))))))));refine zz ?_
  exact ⟨s.size - (k + 1),by omega,(fun k : Nat => (⟨_,[(0,S s),(3,I (sumA s k)),(4,I (sumB s k)),(5,I k)],[]⟩ : St)) (k + 1),⟨k + 1,by omega,trivial,J⟩,Y2 [] J (.c J (.cons (I_eq e1.symm) (.cons (I_eq e2.symm) (.c J (.nil)))))⟩
 ·have h3 : ¬ ((k : Int) < s.size) := of_decide_eq_false h
  have hk : k = s.size := by omega
  have hb1 := sumA_lt s k
  have hb2 := sumB_lt s k
  refine Q5 (T_x (T_x (B_xs (Qz (zy (z0 J (z0 J (zx (q_mul J J J J (by omega)) J (Zb J (z1 J ?_))))))))));refine zz (Q6 (F_r ?_))
  exact Y5 J (Y6 [] J J (I_eq (by rw [checksum,hk])))
theorem S_Checksum (s : ByteArray) (hs : s.size ≤ 1099511627776) : Con Try.prog 40 [] [astr s] [] (I (checksum s)) := by
 refine Con.of Try.func40 J Try.ntmps40 J (fun E => ?_)
 refine zy (z1 J (zz (zy (z1 J (zz (zy ?_))))));refine z1 J (zz (Qd (zy (z1 J (zz (Qk ?_))))));refine A_lq (fun m st => ∃ k : Nat,k + m = s.size ∧ (True) ∧ st = (⟨_,[(0,S s),(3,I (sumA s k)),(4,I (sumB s k)),(5,I k)],[]⟩ : St)) (s.size) ⟨_,⟨0,by omega,trivial,J⟩,Zj []⟩ ?_
 rintro m_A _ ⟨k,hk_A,hp_A,rfl⟩
 refine Qd (zy (z0 J (z0 J (zx (q_lens J J J) J (zx (Yi J) J (zz ?_))))))
 refine Q7 J (fun h => ?_) (fun h => ?_)
 ·have h3 : k < s.size := by have := of_decide_eq_true h; omega
  have hb1 := sumA_lt s k
  have hb2 := sumB_lt s k
  obtain ⟨t,ht⟩ : ∃ t,byteAt s (k : Int).toNat = t := ⟨_,rfl⟩
  have htb : 0 ≤ t ∧ t ≤ 255 := ht ▸ byteAt_lt _ _
  have hmul : 0 ≤ t * (((k : Int) + 1) % 65521) ∧ t * (((k : Int) + 1) % 65521) ≤ 255 * 65520 := by
   have h5 : 0 ≤ ((k : Int) + 1) % 65521 ∧ ((k : Int) + 1) % 65521 ≤ 65520 := by omega
   exact ⟨Int.mul_nonneg htb.1 h5.1,Int.mul_le_mul htb.2 h5.2 h5.1 (by omega)⟩
  have e1 : sumA s (k + 1) = (sumA s k + t) % 65521 := by rw [sumA,← ht]; rfl
  have e2 : sumB s (k + 1) = (sumB s k + t * (((k : Int) + 1) % 65521)) % 65521 := by rw [sumB,← ht]; rfl
  refine Qh (Qz (Qd (Qk (zy (z0 J (z0 J (z0 J (zx (q_byteK J J J J (by assumption) (by omega)) J (zx (X2 J J J J (wrap_i64 (by omega))) J (Zb J ?_))))))))));refine zx (q_rem J J J J (by omega)) J (z1 J (zz (Qc (z0 J (z0 J (z0 J (zx (q_byteK J J J J (by assumption) (by omega)) J (zx (X2 J J J J (wrap_i64 (by omega))) J (z0 J (Zb J ?_))))))))));refine zx (q_rem J J J J (by omega)) J (zx (q_mul J J J J (by omega)) J (Zb J (zx (q_rem J J J J (by omega)) J (z1 J (Qe (Q0 (Qz (Qc (z0 J (Zb J (z1 J ?_)))))))))));refine zz ?_
  exact ⟨s.size - (k + 1),by omega,(fun k : Nat => (⟨_,[(0,S s),(3,I (sumA s k)),(4,I (sumB s k)),(5,I k)],[]⟩ : St)) (k + 1),⟨k + 1,by omega,trivial,J⟩,Y2 [] J (.c J (.cons (I_eq e1.symm) (.cons (I_eq e2.symm) (.c J (.nil)))))⟩
 ·have h3 : ¬ ((k : Int) < s.size) := of_decide_eq_false h
  have hk : k = s.size := by omega
  have hb1 := sumA_lt s k
  have hb2 := sumB_lt s k
  refine Q5 (T_x (T_x (B_xs (Qz (zy (z0 J (z0 J (zx (q_mul J J J J (by omega)) J (Zb J (z1 J ?_))))))))));refine zz (Q6 (F_r ?_))
  exact Y5 J (Y6 [] J J (I_eq (by rw [checksum,hk])))

def seal4 (x : Int) : List UInt8 := [UInt8.ofNat (x % 256).toNat,UInt8.ofNat (x / 256 % 256).toNat,UInt8.ofNat (x / 65536 % 256).toNat,UInt8.ofNat (x / 16777216 % 256).toNat]
def sealText (s : ByteArray) : ByteArray := bs (seal4 (checksum s)) ++ s
theorem I_SealText (s : ByteArray) (hs : s.size ≤ 1099511627776) : Con Try.prog 28 [] [astr s] [] (S (sealText s)) := by
 obtain ⟨x,hx⟩ : ∃ x,checksum s = x := ⟨_,rfl⟩
 have h1 := checksum_lt s
 have hc := I_Checksum s hs
 rw [hx] at h1 hc
 refine Con.of Try.func28 J Try.ntmps28 J (fun E => ?_)
 refine zy (z1 J (zz (zy (z0 J ?_))));refine zx (Qj J J (hc) J) J ?_;refine z1 J (zz (zy (z0 J (zx (q_rem J J J J (by omega)) J (z1 J (zz (zy ?_)))))));refine z0 J (zx (q_quo J J J J (by omega)) J (z1 J (zz (zy (z0 J (zx (q_rem J J J J (by omega)) J (zx (X2 J J J J (Z6)) J (z0 J (zx (q_quo J J J J (by omega)) J ?_)))))))));refine zx (X2 J J J J (Z6)) J (z0 J (zx (q_rem J J J J (by omega)) J (zx (X2 J J J J (Z6)) J (z0 J (zx (q_quo J J J J (by omega)) J (zx (X2 J J J J (Z6)) J (M1 (X1 J J J J J J) J J (z1 J (zz (Qd ?_))))))))));refine Qc (z0 J (zx (q_bstrb J J J J J) J (z0 J ?_)))
 refine M0 (q_cat J J J J (by simp only [Xm,Xn,List.length_cons,List.length_nil,List.length_append]; omega)) J J ?_
 refine z1 J (zz (Q6 (F_r ?_)))
 exact Y5 J (Y6 [] J J (S_eq (by
  rw [sealText,hx,seal4]
  have e1 : x % 65536 % 256 = x % 256 := by omega
  have e2 : x % 65536 / 256 = x / 256 % 256 := by omega
  have e3 : x / 65536 / 256 = x / 16777216 % 256 := by omega
  rw [e1,e2,e3])))
theorem S_SealText (s : ByteArray) (hs : s.size ≤ 1099511627776) : Con Try.prog 18 [] [astr s] [] (S (sealText s)) := by
 obtain ⟨x,hx⟩ : ∃ x,checksum s = x := ⟨_,rfl⟩
 have h1 := checksum_lt s
 have hc := S_Checksum s hs
 rw [hx] at h1 hc
 have f1 : x / 2 ^ (8 : Int).toNat = x / 256 := rfl
 have f2 : x / 2 ^ (16 : Int).toNat = x / 65536 := rfl
 have f3 : x / 2 ^ (24 : Int).toNat = x / 16777216 := rfl
 refine Con.of Try.func18 J Try.ntmps18 J (fun E => ?_)
 refine zy (z1 J (zz (zy (z0 J ?_))));refine zx (Qj J J (hc) J) J ?_;refine z1 J (zz (zy (z0 J (zx (q_conv8 J J J J) J (z0 J (zx (q_shrK J J J J (by assumption) ⟨by omega,by omega,by decide⟩) J (zx (q_conv8 J J J J) J (z0 J (zx (q_shrK J J J J (by assumption) ⟨by omega,by omega,by decide⟩) J ?_)))))))));refine zx (q_conv8 J J J J) J (z0 J (zx (q_shrK J J J J (by assumption) ⟨by omega,by omega,by decide⟩) J (zx (X2 J J J J (Z6)) J (M1 (X1 J J J J J J) J J (zx (q_bstrb J J J J J) J (z0 J ?_))))))
 refine M0 (q_cat J J J J (by simp only [Xm,Xn,List.length_cons,List.length_nil,List.length_append]; omega)) J J ?_
 refine z1 J (zz (Q6 (F_r ?_)))
 exact Y5 J (Y6 [] J J (S_eq (by
  rw [sealText,hx,seal4]
  have e3 : x / 16777216 % 256 = x / 16777216 := by omega
  rw [e3])))
end
section
open Go.RowKit

def packRuns (xs : List Int) : List UInt8 := match xs with
 | [] => []
 | x :: r => encVar (x + 16 * ((r.takeWhile (· == x)).length + 1 : Nat)) ++ packRuns (r.drop (r.takeWhile (· == x)).length)
termination_by xs.length
decreasing_by simp; omega
theorem tw_len {xs : List Int} {x : Int} : ∀ {n : Nat},(∀ j,j < n → xs[j]? = some x) → (∀ y,xs[n]? = some y → y ≠ x) → (xs.takeWhile (· == x)).length = n := by
 induction xs with
 | nil =>
  intro n h1 h2
  cases n with
  | zero => rfl
  | succ n => have := h1 0 (by omega); simp at this
 | cons a xs ih =>
  intro n h1 h2
  cases n with
  | zero =>
   have := h2 a (by simp)
   rw [List.takeWhile_cons]
   simp [this]
  | succ n =>
   have h0 := h1 0 (by omega)
   simp at h0
   subst h0
   rw [List.takeWhile_cons]
   simp
   exact ih (fun j hj => by have := h1 (j + 1) (by omega); simpa using this) fun y hy => h2 y (by simpa using hy)
theorem runs_step {xs : List Int} {s i : Nat} (hs : s < i) (hl : s < xs.length) (hi : i ≤ xs.length) (hall : ∀ j,s ≤ j → j < i → xs[j]? = some xs[s]) (hstop : ∀ y,xs[i]? = some y → y ≠ xs[s]) : packRuns (xs.drop s) = encVar (xs[s] + 16 * ((i : Int) - (s : Int))) ++ packRuns (xs.drop i) := by
 rw [List.drop_eq_getElem_cons hl,packRuns]
 have h1 : ((xs.drop (s + 1)).takeWhile (· == xs[s])).length = i - (s + 1) := tw_len (fun j hj => by rw [List.getElem?_drop]; exact hall _ (by omega) (by omega)) fun y hy => by rw [List.getElem?_drop,show s + 1 + (i - (s + 1)) = i by omega] at hy; exact hstop y hy
 rw [h1,List.drop_drop,show s + 1 + (i - (s + 1)) = i by omega,show ((i - (s + 1) + 1 : Nat) : Int) = (i : Int) - s by omega]
theorem run_next {xs : List Int} {i j : Nat} {x : Int} (h : ∀ q,i ≤ q → q < j → xs[q]? = some x) (hj : j < xs.length) (he : xs[j] = x) : ∀ q,i ≤ q → q < j + 1 → xs[q]? = some x := fun q h1 h2 => by
 rcases Nat.lt_or_ge q j with h3 | h3
 ·exact h q h1 h3
 ·have : q = j := by omega
  subst this
  rw [List.getElem?_eq_getElem hj,he]
def packTrack (xs : List Int) : ByteArray := if xs.length ≤ 400 ∧ inOk xs = true then bs (packRuns xs) else bs []
theorem packRuns_len (n : Nat) : ∀ xs : List Int,xs.length ≤ n → (packRuns xs).length ≤ 6 * n := by
 induction n with
 | zero => intro xs h; have := List.eq_nil_of_length_eq_zero (by omega : xs.length = 0); subst this; simp [packRuns]
 | succ n ih =>
  intro xs h
  cases xs with
  | nil => simp [packRuns]
  | cons x r =>
   rw [packRuns,List.length_append]
   have h1 := Xq (x + 16 * ((r.takeWhile (· == x)).length + 1 : Nat))
   have h2 := ih (r.drop (r.takeWhile (· == x)).length) (by simp at h ⊢; omega)
   omega
theorem X0 (xs : List Int) : (packTrack xs).size ≤ 2400 := by
 unfold packTrack
 split
 ·rename_i h
  rw [Xm]
  have := packRuns_len 400 xs h.1
  omega
 ·rw [Xm]; simp
theorem inOk_at {xs : List Int} (h : inOk xs = true) {k : Nat} (hk : k < xs.length) : 0 ≤ xs[k] ∧ xs[k] ≤ 15 := inR_iff.1 (List.all_eq_true.1 h _ (List.getElem_mem hk))

theorem S_inputsOk (xs : List Int) (hn : Enc.gd xs) : Con Try.prog 39 [] [al xs] [] (B (inOk xs)) := by
 have hn1 := hn.1
 have hlx := Xp xs
 refine Con.of Try.func39 J Try.ntmps39 J (fun E => ?_)
 refine zy (z1 J (zz (Qd (zy (z1 J (zz (Qk ?_)))))));refine A_lq (fun m st => ∃ k : Nat,k + m = xs.length ∧ ((xs.take k).all (fun n => inR n 0 15) = true) ∧ st = (⟨_,[(0,L xs),(3,I k)],[]⟩ : St)) (xs.length) ⟨_,⟨0,by omega,by simp,J⟩,Zj []⟩ ?_
 rintro m_A _ ⟨k,hk_A,hp_A,rfl⟩
 refine Qd (zy (z0 J (z0 J (zx (X4 J J J) J (zx (Yi J) J (zz ?_))))))
 refine Q7 J (fun h => ?_) (fun h => ?_)
 ·have h3 : k < xs.length := by have := of_decide_eq_true h; omega
  have hat := Xo h3
  refine Qh (Qz (Qd (Qk (zy (z0 J (z0 J (zx (Q1 J J J J (by omega) (by assumption) J) J (zx (Y9 J) J ?_))))))));refine zx (Qj J J (S_in xs[k] 0 15) J) J ?_;refine zn J (zz ?_)
  refine Q7 J (fun h4 => ?_) (fun h4 => ?_)
  ·refine zy (z1 rfl (zz (Q6 (B_r (T_r (T_r (B_r ?_)))))))
   refine T_r (F_r ?_)
   exact Y5 J (Y6 [] J J (Xc (all_no h3 (by simpa using h4)).symm))
  ·refine Qh (Q0 (Qz (Qc (z0 rfl (Zb rfl ?_)))))
   refine z1 J (zz ?_)
   exact ⟨xs.length - (k + 1),by omega,_,⟨k + 1,by omega,all_next hp_A h3 (by simpa using h4),J⟩,Zj []⟩
 ·have h3 : ¬ ((k : Int) < (els xs).length) := of_decide_eq_false h
  refine Q5 (T_x (T_x (B_xs (Qz (zy (z1 J (zz (Q6 (F_r ?_)))))))))
  exact Y5 J (Y6 [] J J (Xc (all_end hp_A (by omega)).symm))
theorem I_PackTrack (xs : List Int) (hn : Enc.gd xs) : Con Try.prog 49 [] [al xs] [] (S (packTrack xs)) := by
 have hlx := Xp xs
 refine Con.of Try.func49 J Try.ntmps49 J (fun E => ?_)
 refine zy (z1 J (zz (Qd (zy (z0 J (zx (X4 J J J) J (zx (q_gtr J J J J) J (z0 J ?_))))))));refine zx (Qt.grdF J J J .stop (fun hgrd => Yo J)) J ?_;refine zx (Z2 J (.hit .stop) (fun hgrd => Qj J J (I_inputsOk xs hn) J)) J ?_;refine zx (Z2 J (.hit (.hit .stop)) (fun hgrd => Q3 J J J)) J ?_;refine zx (q_or J J J J) J (zz ?_)
 refine Q7 J (fun h => ?_) (fun h => ?_)
 ·rw [hlx] at h
  refine zy (z1 J (zz (Q6 (T_r (F_r ?_)))))
  exact Xd rfl rfl (Y6 [] rfl rfl (S_eq (by rw [packTrack,if_neg (by simp only [Bool.or_eq_true,decide_eq_true_eq,Bool.not_eq_true'] at h; rintro ⟨h1,h2⟩; rcases h with h | h <;> first | omega | simp [h2] at h)])))
 rw [hlx] at h
 have h : xs.length ≤ 400 ∧ inOk xs = true := by
  simp only [Bool.or_eq_false_iff,decide_eq_false_iff_not,Bool.not_eq_false'] at h
  exact ⟨by omega,h.2⟩
 rw [packTrack,if_pos h]
 refine Qh (Qz (zy (z1 J (zz (Qd (zy (z1 J (Qe ?_))))))));refine Qz (Qk ?_)
 refine AWP.pre ?_ (W_nil 3 1 J)
 refine A_lq (fun m__ st => ∃ (i : Nat) (acc : List UInt8),xs.length - i = m__ ∧ (acc ++ packRuns (xs.drop i) = packRuns xs ∧ i ≤ xs.length ∧ acc.length ≤ 6 * i) ∧ st = (⟨_,[(0,L xs),(3,.o (.c (.ref 0))),(4,I i)],[.row 1 (bE acc)]⟩ : St)) _ ⟨_,⟨0,[],J,by simp,J⟩,Zj [0]⟩ ?_
 rintro m_A _ ⟨i,acc,hk_A,hp_A,rfl⟩
 refine Qd (zy (z0 J (z0 J (zx (X4 J J J) J (zx (Yi J) J (zz ?_))))))
 refine Q7 J (fun h5 => ?_) (fun h5 => ?_)
 ·have h5 : i < xs.length := by have := of_decide_eq_true h5; omega
  obtain ⟨hp1,hp2,hp3⟩ := hp_A
  have hb := Xl acc
  have hat := Xo h5
  have hx := inOk_at h.2 h5
  refine Qh (Qz (Qk (zy (z0 J (z1 J (zz (Qd (Qk ?_))))))));refine A_lq (fun m__ st => ∃ (j : Nat),xs.length - j = m__ ∧ (i ≤ j ∧ j ≤ xs.length ∧ (∀ q,i ≤ q → q < j → xs[q]? = some xs[i])) ∧ st = (⟨_,[(0,L xs),(3,.o (.c (.ref 0))),(4,I j),(5,I i)],[.row 1 (bE acc)]⟩ : St)) _ ⟨_,⟨i,J,⟨Nat.le_refl _,by omega,fun q h1 h2 => by omega⟩,J⟩,Zj [0]⟩ ?_
  rintro m_D _ ⟨j,hk_D,hp_D,rfl⟩
  obtain ⟨hd1,hd2,hd3⟩ := hp_D
  have hij : i < j → xs.length - j < xs.length - i := fun h => by omega
  by_cases hj : j < xs.length
  ·have hat2 := Xo hj
   have f1 : decide ((j : Int) < ((els xs).length : Int)) = true := decide_eq_true (by omega)
   by_cases he : xs[j] = xs[i]
   ·have f2 : decide (xs[j] = xs[i]) = true := decide_eq_true he
    refine Qd (Qd (Xb u8_6 u8_7 u8_8 J (Yf (Yo J) J (Yf (Yo J) J (Yf (X4 J J J) J (Yf (Qr J J J J (by assumption)) J (Yf (Yo J) J (Yf (Qt.yes J J J (Yo J)) J (Yf (Qt.yes J J J (Yo J)) J (Yf (Qt.yes J J J (Q1 J J J J (by omega) (by assumption) J)) J (Yf (Qt.yes J J J (Y9 J)) J ?_)))))))))));refine Yf (Qt.yes J J J (Yo J)) J (Yf (Qt.yes J J J (Yo J)) J (Yf (Qt.yes J J J (Q1 J J J J (by omega) (by assumption) J)) J (Yf (Qt.yes J J J (Y9 J)) J (Yf (Qt.yes J J J (Qv J J J J (by assumption))) J (Yf (Qo J J J J) J (Ye (zz (Qm J (Qh (Qz ?_))))))))));refine Qk (Qc (z0 J (Zb J (z1 J (Qe (Q0 (Qz ?_)))))))
    refine ⟨_,(by omega),_,⟨j + 1,J,⟨by omega,by omega,fun q h1 h2 => run_next hd3 hj he q h1 h2⟩,J⟩,Zj [0]⟩
   ·have f2 : decide (xs[j] = xs[i]) = false := decide_eq_false he
    have hlt : i < j := by
     rcases Nat.lt_or_ge i j with h1 | h1
     ·exact h1
     ·exact absurd (by congr 1 <;> omega) he
    have hst := runs_step hlt h5 hd2 hd3 (fun y hy => by rw [List.getElem?_eq_getElem hj] at hy; cases hy; exact he)
    have hb2 := Xm (encVar (xs[i] + 16 * ((j : Int) - (i : Int))))
    have hb3 := Xq (xs[i] + 16 * ((j : Int) - (i : Int)))
    refine Qd (Qd (Xb u8_6 u8_7 u8_8 J (Yf (Yo J) J (Yf (Yo J) J (Yf (X4 J J J) J (Yf (Qr J J J J (by assumption)) J (Yf (Yo J) J (Yf (Qt.yes J J J (Yo J)) J (Yf (Qt.yes J J J (Yo J)) J (Yf (Qt.yes J J J (Q1 J J J J (by omega) (by assumption) J)) J (Yf (Qt.yes J J J (Y9 J)) J ?_)))))))))));refine Yf (Qt.yes J J J (Yo J)) J (Yf (Qt.yes J J J (Yo J)) J (Yf (Qt.yes J J J (Q1 J J J J (by omega) (by assumption) J)) J (Yf (Qt.yes J J J (Y9 J)) J (Yf (Qt.yes J J J (Qv J J J J (by assumption))) J (Yf (Qo J J J J) J (Ye (zz (Ql J (Q5 (T_x ?_))))))))));refine T_x (B_xs (Qz (Qc (z0 J (z0 J (z0 J (zx (Q1 J J J J (by omega) (by assumption) J) J (zx (Y9 J) J (z0 J (z0 J (z8 J (by omega) ?_)))))))))));refine zx (q_mul J J J J (by omega)) J (Zb J ?_);refine zx (Qj J J (Xe (xs[i] + 16 * ((j : Int) - (i : Int)))) J) J ?_;refine M_appstr J J J J J J J (by omega) (by omega) ?_;refine z1 J (Qe (Q0 (Qz ?_)))
    refine ⟨_,(by omega),_,⟨j,acc ++ encVar (xs[i] + 16 * ((j : Int) - (i : Int))),J,⟨by rw [← hp1,hst,List.append_assoc],hd2,by rw [List.length_append]; omega⟩,J⟩,(by rw [bs_list,bE_app]; exact Zj [0])⟩
  ·have f1 : decide ((j : Int) < ((els xs).length : Int)) = false := decide_eq_false (by omega)
   have hst := runs_step (show i < j by omega) h5 hd2 hd3 (fun y hy => by rw [List.getElem?_eq_none (by omega)] at hy; cases hy)
   have hb2 := Xm (encVar (xs[i] + 16 * ((j : Int) - (i : Int))))
   have hb3 := Xq (xs[i] + 16 * ((j : Int) - (i : Int)))
   refine Qd (Qd (Xb u8_6 u8_7 u8_8 J (Yf (Yo J) J (Yf (Yo J) J (Yf (X4 J J J) J (Yf (Qr J J J J (by assumption)) J (Yf (Yo J) J (Yf (Qt.no J J J J) J (Yf (Qt.no J J J J) J (Yf (Qt.no J J J J) J (Yf (Qt.no J J J J) J ?_)))))))))));refine Yf (Qt.no J J J J) J (Yf (Qt.no J J J J) J (Yf (Qt.no J J J J) J (Yf (Qt.no J J J J) J (Yf (Qt.no J J J J) J (Yf (Qn J J J J) J (Ye (zz (Ql J (Q5 (T_x ?_))))))))));refine T_x (B_xs (Qz (Qc (z0 J (z0 J (z0 J (zx (Q1 J J J J (by omega) (by assumption) J) J (zx (Y9 J) J (z0 J (z0 J (z8 J (by omega) ?_)))))))))));refine zx (q_mul J J J J (by omega)) J (Zb J ?_);refine zx (Qj J J (Xe (xs[i] + 16 * ((j : Int) - (i : Int)))) J) J ?_;refine M_appstr J J J J J J J (by omega) (by omega) ?_;refine z1 J (Qe (Q0 (Qz ?_)))
   refine ⟨_,(by omega),_,⟨j,acc ++ encVar (xs[i] + 16 * ((j : Int) - (i : Int))),J,⟨by rw [← hp1,hst,List.append_assoc],hd2,by rw [List.length_append]; omega⟩,J⟩,(by rw [bs_list,bE_app]; exact Zj [0])⟩
 ·have h5 : i = xs.length := by have := of_decide_eq_false h5; omega
  refine Q5 (T_x (T_x (B_xs (Qz (zy (z0 J (zx (q_bstr J J J J) J (z1 J (zz ?_)))))))));refine Q6 (F_r ?_)
  exact Y5 J (Y6 [] J J (S_eq (congrArg bs (by rw [← hp_A.1,h5]; simp [packRuns]))))
theorem els_at2 {α : Type} [Enc α] {xs : List α} {i j : Nat} (h : i + j < xs.length) : (els xs)[((i : Int) + (j : Int)).toNat]? = some (Enc.e xs[i + j]) := by
 have := Xo h
 rwa [Int.natCast_add] at this
theorem S_PackTrack (xs : List Int) (hn : Enc.gd xs) : Con Try.prog 16 [] [al xs] [] (S (packTrack xs)) := by
 have hlx := Xp xs
 refine Con.of Try.func16 J Try.ntmps16 J (fun E => ?_)
 refine zy (z1 J (zz (zy (z1 J (zz (Qd (Qd ?_)))))));refine Qc (z0 J (zx (X4 J J J) J (zx (q_gtr J J J J) J (z0 J ?_))));refine zx (Qt.grdF J J J .stop (fun hgrd => Yo J)) J ?_;refine zx (Z2 J (.hit .stop) (fun hgrd => Qj J J (S_inputsOk xs hn) J)) J ?_;refine zx (Z2 J (.hit (.hit .stop)) (fun hgrd => Q3 J J J)) J ?_;refine zx (q_or J J J J) J (zz ?_)
 refine Q7 J (fun h => ?_) (fun h => ?_)
 ·rw [hlx] at h
  refine zy (z0 J (z1 J (zz (Q6 (T_r (F_r ?_))))))
  exact Xd rfl rfl (Y6 [] rfl rfl (S_eq (by rw [packTrack,if_neg (by simp only [Bool.or_eq_true,decide_eq_true_eq,Bool.not_eq_true'] at h; rintro ⟨h1,h2⟩; rcases h with h | h <;> first | omega | simp [h2] at h)])))
 rw [hlx] at h
 have h : xs.length ≤ 400 ∧ inOk xs = true := by
  simp only [Bool.or_eq_false_iff,decide_eq_false_iff_not,Bool.not_eq_false'] at h
  exact ⟨by omega,h.2⟩
 rw [packTrack,if_pos h]
 refine Qh (Qz (Qd (zy (z1 J (zz (Qk ?_))))));refine A_lq (fun m__ st => ∃ (i : Nat) (acc : List UInt8),xs.length - i = m__ ∧ (acc ++ packRuns (xs.drop i) = packRuns xs ∧ i ≤ xs.length ∧ acc.length ≤ 6 * i) ∧ st = (⟨_,[(0,L xs),(3,S (bs acc)),(4,I i)],[]⟩ : St)) _ ⟨_,⟨0,[],J,by simp,J⟩,Zj []⟩ ?_
 rintro m_A _ ⟨i,acc,hk_A,hp_A,rfl⟩
 refine Qd (zy (z0 J (z0 J (zx (X4 J J J) J (zx (Yi J) J (zz ?_))))))
 refine Q7 J (fun h5 => ?_) (fun h5 => ?_)
 ·have h5 : i < xs.length := by have := of_decide_eq_true h5; omega
  obtain ⟨hp1,hp2,hp3⟩ := hp_A
  have hat := Xo h5
  have hx := inOk_at h.2 h5
  refine Qh (Qz (Qk (zy (z1 J (zz (Qd (Qk ?_)))))))
  refine A_lq (fun m__ st => ∃ (j : Nat),xs.length - j = m__ ∧ (1 ≤ j ∧ i + j ≤ xs.length ∧ (∀ q,i ≤ q → q < i + j → xs[q]? = some xs[i])) ∧ st = (⟨_,[(0,L xs),(3,S (bs acc)),(4,I i),(5,I j)],[]⟩ : St)) _ ⟨(fun (j : Nat) => (⟨_,[(0,L xs),(3,S (bs acc)),(4,I i),(5,I j)],[]⟩ : St)) (1),⟨1,J,⟨Nat.le_refl _,by omega,fun q h1 h2 => by rw [show q = i by omega]; exact List.getElem?_eq_getElem h5⟩,J⟩,Y2 [] J (.c J (.c J (.c J (.cons (I_eq (by omega)) (.nil)))))⟩ ?_
  rintro m_D _ ⟨j,hk_D,hp_D,rfl⟩
  obtain ⟨hd1,hd2,hd3⟩ := hp_D
  have hb2 := Xm (encVar (xs[i] + 16 * (j : Int)))
  have hb3 := Xq (xs[i] + 16 * (j : Int))
  have hb4 := Xm acc
  have e1 : ((i + j : Nat) : Int) - (i : Int) = j := by omega
  by_cases hj : i + j < xs.length
  ·have hat2 := els_at2 hj
   have f1 : decide ((i : Int) + (j : Int) < ((els xs).length : Int)) = true := decide_eq_true (by omega)
   by_cases he : xs[i + j] = xs[i]
   ·have f2 : decide (xs[i + j] = xs[i]) = true := decide_eq_true he
    refine Qd (Qd (Xb u8_9 u8_10 u8_11 J (Yf (Yo J) J (Yf (Yo J) J (Yf (Qs J J J J (by omega)) J (Yf (Yo J) J (Yf (X4 J J J) J (Yf (Qr J J J J (by assumption)) J (Yf (Yo J) J (Yf (Qt.yes J J J (Yo J)) J (Yf (Qt.yes J J J (Yo J)) J ?_)))))))))));refine Yf (Qt.yes J J J (Yo J)) J (Yf (Qt.yes J J J (Qs J J J J (by omega))) J (Yf (Qt.yes J J J (Q1 J J J J (by omega) (by assumption) J)) J (Yf (Qt.yes J J J (Y9 J)) J (Yf (Qt.yes J J J (Yo J)) J (Yf (Qt.yes J J J (Yo J)) J (Yf (Qt.yes J J J (Q1 J J J J (by omega) (by assumption) J)) J (Yf (Qt.yes J J J (Y9 J)) J (Yf (Qt.yes J J J (Qv J J J J (by assumption))) J (Yf (Qo J J J J) J (Ye (Qe ?_)))))))))));refine Qz (Qm J (Qh (Qz (Qk (Qc (z0 J (Zb J (z1 J (Qe (Q0 (Qz ?_)))))))))))
    refine ⟨_,(by omega),_,⟨j + 1,J,⟨by omega,by omega,run_next hd3 hj he⟩,J⟩,Zj []⟩
   ·have f2 : decide (xs[i + j] = xs[i]) = false := decide_eq_false he
    have hst := runs_step (show i < i + j by omega) h5 hd2 hd3 (fun y hy => by rw [List.getElem?_eq_getElem hj] at hy; cases hy; exact he)
    rw [e1] at hst
    refine Qd (Qd (Xb u8_9 u8_10 u8_11 J (Yf (Yo J) J (Yf (Yo J) J (Yf (Qs J J J J (by omega)) J (Yf (Yo J) J (Yf (X4 J J J) J (Yf (Qr J J J J (by assumption)) J (Yf (Yo J) J (Yf (Qt.yes J J J (Yo J)) J (Yf (Qt.yes J J J (Yo J)) J ?_)))))))))));refine Yf (Qt.yes J J J (Yo J)) J (Yf (Qt.yes J J J (Qs J J J J (by omega))) J (Yf (Qt.yes J J J (Q1 J J J J (by omega) (by assumption) J)) J (Yf (Qt.yes J J J (Y9 J)) J (Yf (Qt.yes J J J (Yo J)) J (Yf (Qt.yes J J J (Yo J)) J (Yf (Qt.yes J J J (Q1 J J J J (by omega) (by assumption) J)) J (Yf (Qt.yes J J J (Y9 J)) J (Yf (Qt.yes J J J (Qv J J J J (by assumption))) J (Yf (Qo J J J J) J (Ye (Qe ?_)))))))))));refine Qz (Ql J (Q5 (T_x (T_x (B_xs (Qz (zy (z0 J (z0 J (z0 J ?_))))))))));refine zx (Q1 J J J J (by omega) (by assumption) J) J (zx (Y9 J) J (z0 J (zx (q_mul J J J J (by omega)) J (Zb J ?_))));refine zx (Qj J J (Xf (xs[i] + 16 * (j : Int))) J) J ?_;refine zx (q_cat J J J J (by omega)) J (z1 J (zz (Qc (z0 J (z0 J (Zb J (z1 J (Qe (Q0 (Qz ?_))))))))))
    refine ⟨_,(by omega),(fun (i : Nat) (acc : List UInt8) => (⟨_,[(0,L xs),(3,S (bs acc)),(4,I i)],[]⟩ : St)) (i + j) (acc ++ encVar (xs[i] + 16 * (j : Int))),⟨i + j,acc ++ encVar (xs[i] + 16 * (j : Int)),J,⟨by rw [← hp1,hst,List.append_assoc],hd2,by rw [List.length_append]; omega⟩,J⟩,Y2 [] J (.c J (.cons (S_eq (bs_app _ _)) (.c J (.nil))))⟩
  ·have f1 : decide ((i : Int) + (j : Int) < ((els xs).length : Int)) = false := decide_eq_false (by omega)
   have hst := runs_step (show i < i + j by omega) h5 hd2 hd3 (fun y hy => by rw [List.getElem?_eq_none (by omega)] at hy; cases hy)
   rw [e1] at hst
   refine Qd (Qd (Xb u8_9 u8_10 u8_11 J (Yf (Yo J) J (Yf (Yo J) J (Yf (Qs J J J J (by omega)) J (Yf (Yo J) J (Yf (X4 J J J) J (Yf (Qr J J J J (by assumption)) J (Yf (Yo J) J (Yf (Qt.no J J J J) J (Yf (Qt.no J J J J) J ?_)))))))))));refine Yf (Qt.no J J J J) J (Yf (Qt.no J J J J) J (Yf (Qt.no J J J J) J (Yf (Qt.no J J J J) J (Yf (Qt.no J J J J) J (Yf (Qt.no J J J J) J (Yf (Qt.no J J J J) J (Yf (Qt.no J J J J) J (Yf (Qt.no J J J J) J (Yf (Qn J J J J) J (Ye (Qe ?_)))))))))));refine Qz (Ql J (Q5 (T_x (T_x (B_xs (Qz (zy (z0 J (z0 J (z0 J ?_))))))))));refine zx (Q1 J J J J (by omega) (by assumption) J) J (zx (Y9 J) J (z0 J (zx (q_mul J J J J (by omega)) J (Zb J ?_))));refine zx (Qj J J (Xf (xs[i] + 16 * (j : Int))) J) J ?_;refine zx (q_cat J J J J (by omega)) J (z1 J (zz (Qc (z0 J (z0 J (Zb J (z1 J (Qe (Q0 (Qz ?_))))))))))
   refine ⟨_,(by omega),(fun (i : Nat) (acc : List UInt8) => (⟨_,[(0,L xs),(3,S (bs acc)),(4,I i)],[]⟩ : St)) (i + j) (acc ++ encVar (xs[i] + 16 * (j : Int))),⟨i + j,acc ++ encVar (xs[i] + 16 * (j : Int)),J,⟨by rw [← hp1,hst,List.append_assoc],hd2,by rw [List.length_append]; omega⟩,J⟩,Y2 [] J (.c J (.cons (S_eq (bs_app _ _)) (.c J (.nil))))⟩
 ·have h5 : i = xs.length := by have := of_decide_eq_false h5; omega
  refine Q5 (T_x (T_x (B_xs (Qz (zy (z0 J (z1 J (zz (Q6 ?_)))))))));refine F_r ?_
  exact Y5 J (Y6 [] J J (S_eq (congrArg bs (by rw [← hp_A.1,h5]; simp [packRuns]))))
end
end Go.Proofs.Ytmaiojglkojecaa
