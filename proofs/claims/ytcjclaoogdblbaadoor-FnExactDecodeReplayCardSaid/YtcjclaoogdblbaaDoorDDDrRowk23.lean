/-
  Numbers read from bytes: DecodeVarint, Signed, UnpackInts, UnpackText, OpenText, in the program and in the reference.
  Conditions: texts of at most 2^40 bytes.
-/
import Derived.Test.YtcjclaoogdblbaaDoorDDDrRowk22
set_option linter.unusedSimpArgs false
set_option linter.unusedVariables false
set_option maxRecDepth 8000
set_option maxHeartbeats 8000000
namespace Go.Proofs.YtcjclaoogdblbaaDoor
section
open Go.RowKit

def dvGo (s : ByteArray) (p : Nat) (n : Int) (k : Nat) : Nat → Option (Int × Nat)
 | 0 => none
 | f + 1 => if p + k < s.size then
   (if 128 ≤ byteAt s (p + k) then dvGo s p (n + byteAt s (p + k) % 128 * 2 ^ (7 * k)) (k + 1) f
    else if (byteAt s (p + k) = 0 ∧ 0 < k) ∨ 1099511627775 < n + byteAt s (p + k) % 128 * 2 ^ (7 * k) then none
    else some (n + byteAt s (p + k) % 128 * 2 ^ (7 * k),k + 1)) else none
def decVar (s : ByteArray) (p : Int) : Option (Int × Nat) := if 0 ≤ p ∧ p < s.size then dvGo s p.toNat 0 0 6 else none
@[reducible] def bv (b : Bool) : V1 := .rd [] (.v (.bool b))
@[reducible] def jn (n : Int) : V1 := .rd [] (.v (.int .i64 n))
@[reducible] def dvR : Option (Int × Nat) → V
 | none => .tu [.c (jn 0),.c (jn 0),.c (bv false)]
 | some (n,k) => .tu [.c (jn n),.c (jn k),.c (bv true)]
theorem pow7 {k : Nat} (h : k ≤ 6) : ∃ M : Nat,2 ^ (7 * k) = M ∧ 1 ≤ M ∧ M ≤ 4398046511104 := by
 refine ⟨_,J,Nat.one_le_two_pow,?_⟩
 exact Nat.le_trans (Nat.pow_le_pow_right (by omega) (show 7 * k ≤ 42 by omega)) (by decide)
theorem pow7s (k : Nat) : 2 ^ (7 * (k + 1)) = 128 * 2 ^ (7 * k) := by
 rw [show 7 * (k + 1) = 7 * k + 7 by omega,Nat.pow_add]
 omega
theorem dv_part {c : Int} {M : Nat} (h0 : 0 ≤ c) (h1 : c < 128) : 0 ≤ c * (M : Int) ∧ c * (M : Int) ≤ 127 * M := by
 refine ⟨Int.mul_nonneg h0 (by omega),Int.mul_le_mul_of_nonneg_right (by omega) (by omega)⟩
theorem pow7i (k : Nat) : (2 : Int) ^ (7 * (k : Int)).toNat = ((2 ^ (7 * k) : Nat) : Int) := by
 rw [show (7 * (k : Int)).toNat = 7 * k by omega]
 norm_cast
theorem Xl (s : ByteArray) (p : Int) (hs : s.size ≤ 1099511627776) (hp : I64 p) : Con Tryd.prog 93 [] [astr s,ai p] [] (dvR (decVar s p)) := by
 obtain ⟨hp1,hp2⟩ := hp
 by_cases hin : ¬ (0 ≤ p ∧ p < s.size)
 ·rw [show decVar s p = none by rw [decVar,if_neg hin]]
  refine Con.of Tryd.func93 J Tryd.ntmps93 J (fun E => ?_)
  refine zy (z1 J (z1 J (z1 J (zz (Qd (zy (z0 J (zx (Zl J) J ?_))))))));refine z0 J ?_;refine zx (Qt.grdF J J J .stop (fun hgrd => Zr J)) J ?_;refine zx (Kq J (.hit .stop) (fun hgrd => Zr J)) J ?_;refine zx (Kq J (.hit (.hit .stop)) (fun hgrd => Yy J J J)) J ?_;refine zx (Kq J (.hit (.hit (.hit .stop))) (fun hgrd => q_geq J J J J)) J ?_;refine zx (q_or J J J J) J (zz ?_)
  refine Q9 J (fun h => ?_) (fun h => ?_)
  ·refine zy (z1 rfl (z1 rfl (z1 rfl (Qe ?_))))
   refine Qz (Q8 (T_r (F_r ?_)))
   exact Xk J J J J (Kf [] J J J)
  ·simp only [Bool.or_eq_false_iff,decide_eq_false_iff_not] at h
   omega
 have hin := Classical.not_not.1 hin
 obtain ⟨q,rfl⟩ : ∃ q : Nat,p = q := ⟨p.toNat,by omega⟩
 rw [show decVar s q = dvGo s q 0 0 6 by rw [decVar,if_pos hin]; rfl]
 have hb1 : decide ((q : Int) < 0) = false := decide_eq_false (by omega)
 have hb2 : decide ((s.size : Int) ≤ q) = false := decide_eq_false (by omega)
 refine Con.of Tryd.func93 J Tryd.ntmps93 J (fun E => ?_)
 refine zy (z1 J (z1 J (z1 J (zz (Qd (zy (z0 J (K0 J ?_))))))));refine z0 J (z5 J (z0 J (z5 J (z0 J (z5 J (zx (Yy J J J) J (z5 J (z9d J (by assumption) (zpF J (zz ?_))))))))));refine Ql J (Qh (Qz (zy (z1 J (zz (Qd (zy (z1 J ?_))))))));refine zz (Qk ?_);refine Xe (fun m__ st => ∃ (k : Nat) (n : Int),6 - k = m__ ∧ (k ≤ 6 ∧ 0 ≤ n ∧ n < ((2 ^ (7 * k) : Nat) : Int) ∧ dvGo s q n k (6 - k) = dvGo s q 0 0 6) ∧ st = (⟨_,[(0,S s),(1,I q),(7,I n),(8,I k)],[]⟩ : St)) _ ⟨_,⟨0,0,J,⟨by omega,by omega,by simp,J⟩,J⟩,Kb []⟩ ?_
 rintro m_A _ ⟨k,n,hk_A,hp_A,rfl⟩
 obtain ⟨hk6,hn0,hn1,hgo⟩ := hp_A
 obtain ⟨M,hM,hM1,hM2⟩ := pow7 hk6
 have hMs := pow7s k
 rw [hM] at hn1 hMs
 rw [← hgo]
 refine Qd (zy (z0 J (zx (Zl J) J (z0 J ?_))));refine zx (Qt.grdT J J J .stop (fun hgrd => Zr J)) J ?_;refine zx (Qt.grdT J J J (.hit .stop) (fun hgrd => Zr J)) J ?_;refine zx (Qt.grdT J J J (.hit (.hit .stop)) (fun hgrd => Yy J J J)) J ?_;refine zx (Qt.grdT J J J (.hit (.hit (.hit .stop))) (fun hgrd => Zr J)) J ?_;refine zx (Qt.grdT J J J (.hit (.hit (.hit (.hit .stop)))) (fun hgrd => Xa J J J J (by omega))) J ?_;refine zx (Qt.grdT J J J (.hit (.hit (.hit (.hit (.hit .stop))))) (fun hgrd => Zl J)) J ?_;refine zx (q_and J J J J) J (zz ?_)
 refine Q9 J (fun h => ?_) (fun h => ?_)
 ·simp only [Bool.and_eq_true,decide_eq_true_eq] at h
  have hlt : q + k < s.size := by omega
  obtain ⟨f,hf⟩ : ∃ f,6 - k = f + 1 := ⟨5 - k,by omega⟩
  obtain ⟨c,hc⟩ : ∃ c,byteAt s (q + k) = c := ⟨_,rfl⟩
  have hcr := X1 s (q + k)
  rw [hc] at hcr
  have hc1 : byteAt s ((q : Int) + (k : Int)).toNat = c := by rw [← hc]; congr 1
  obtain ⟨d,hd⟩ : ∃ d : Nat,c % 128 = d := ⟨(c % 128).toNat,by omega⟩
  have hd1 : c.toNat &&& (127 : Int).toNat = d := by
   rw [show (127 : Int).toNat = 2 ^ 7 - 1 from rfl,Nat.and_two_pow_sub_one_eq_mod]
   omega
  have hdM := dv_part (c := d) (M := M) (by omega) (by omega)
  obtain ⟨r,hr⟩ : ∃ r,(d : Int) * M = r := ⟨_,rfl⟩
  rw [hr] at hdM
  have hr1 : (d : Int) * 2 ^ (7 * (k : Int)).toNat = r := by rw [pow7i,hM,hr]
  have hgo1 : dvGo s q n k (f + 1) = if 128 ≤ c then dvGo s q (n + r) (k + 1) f else if (c = 0 ∧ 0 < k) ∨ 1099511627775 < n + r then none else some (n + r,k + 1) := by
   have h9 : c % 128 * 2 ^ (7 * k) = r := by
    rw [hd,← hr,← hM]
    norm_cast
   rw [dvGo,if_pos hlt,hc,h9]
  rw [hf,hgo1]
  by_cases h7 : 128 ≤ c
  ·have hb7 : decide (128 ≤ c) = true := decide_eq_true h7
   refine Qh (Qz (Qd (Qk (zy (z0 J (z0 J (z0 J (Kd J (zx (Ku J) J (z1 J ?_))))))))));refine zz (zy (z0 J (z0 J (zx (q_band8K J J J J (by assumption) (by omega)) J (zx (Ys J J J J (Z8)) J (z0 J (zx (q_mul J J J J (by omega)) J (zx (q_shlK J J J J (by assumption) (by omega) (by omega)) J (Kd J ?_)))))))));refine z1 J (zz (Qd (zy (z0 J (z9d J (by assumption) (zz (Qm J (Q7 ?_))))))));refine T_x (Xg (Qz (Qc (z0 J (Kd J (z1 J (zz ?_)))))))
   refine ⟨_,(by omega),_,⟨k + 1,n + r,J,⟨by omega,by omega,by rw [hMs]; omega,by rw [if_pos h7,show 6 - (k + 1) = f by omega]⟩,J⟩,Kb []⟩
  have hb7 : decide (128 ≤ c) = false := decide_eq_false h7
  rw [if_neg h7]
  refine Qh (Qz (Qd (Qk (zy (z0 J (z0 J (z0 J (Kd J (zx (Ku J) J (z1 J ?_))))))))));refine zz (zy (z0 J (z0 J (zx (q_band8K J J J J (by assumption) (by omega)) J (zx (Ys J J J J (Z8)) J (z0 J (zx (q_mul J J J J (by omega)) J (zx (q_shlK J J J J (by assumption) (by omega) (by omega)) J (Kd J ?_)))))))));refine z1 J (zz (Qd (zy (z0 J (z9d J (by assumption) (zz (Ql J (Qh ?_))))))));refine Qz (Qd (zy (z0 J (zx (q_eql J J J J) J (z0 J ?_)))));refine zx (Qt.grdT J J J .stop (fun hgrd => Zr J)) J ?_;refine zx (Qt.grdT J J J (.hit .stop) (fun hgrd => q_gtr J J J J)) J ?_;refine zx (q_and J J J J) J (z0 J ?_);refine zx (Qt.grdF J J J .stop (fun hgrd => Zr J)) J ?_;refine zx (Kq J (.hit .stop) (fun hgrd => q_gtr J J J J)) J ?_;refine zx (q_or J J J J) J (zz ?_)
  refine Q9 J (fun h8 => ?_) (fun h8 => ?_)
  ·simp only [Bool.or_eq_true,Bool.and_eq_true,decide_eq_true_eq] at h8
   rw [if_pos (by omega)]
   refine zy (z1 J (z1 J (z1 J (zz (Q8 (T_r (B_r (T_r (T_r ?_)))))))));refine B_r (T_r (F_r ?_))
   exact Xk J J J J (Kf [] J J J)
  ·simp only [Bool.or_eq_false_iff,Bool.and_eq_false_iff,decide_eq_false_iff_not] at h8
   rw [if_neg (by omega)]
   refine Qh (Qz (zy (z0 J (z0 J (Kd J (z1 J (z1 J (z1 J (zz ?_)))))))));refine Q8 (B_r (T_r (T_r (B_r (T_r (F_r ?_))))))
   exact Xk J J J J (Kf [] J J J)
 ·simp only [Bool.and_eq_false_iff,decide_eq_false_iff_not] at h
  rw [show dvGo s q n k (6 - k) = none by
   cases hf : 6 - k with
   | zero => rfl
   | succ f => rw [dvGo,if_neg (by omega)]]
  refine Q7 (T_x (T_x (Xg (Qz (zy (z1 J (z1 J (z1 J (zz ?_)))))))));refine Q8 (F_r ?_)
  exact Xk J J J J (Kf [] J J J)
theorem or_add {n r M : Nat} {k d : Nat} (hM : 2 ^ (7 * k) = M) (hn : n < M) (hr : d * M = r) : n ||| r = n + r := by
 subst hM
 rw [← hr,Nat.mul_comm,Nat.add_comm,Nat.or_comm]
 exact (Nat.two_pow_add_eq_or_of_lt hn d).symm
def bytesL (s : ByteArray) (p k : Nat) : List UInt8 := (s.data.toList.drop p).take k
theorem byteAt_list {s : ByteArray} {i : Nat} (h : i < s.size) : ∃ b : UInt8,s.data.toList[i]? = some b ∧ byteAt s i = (b.toNat : Int) := by
 have h1 : i < s.data.size := h
 refine ⟨s.data[i],by simp [h1],?_⟩
 unfold byteAt
 have : s[i]? = some s.data[i] := by
  rw [getElem?_pos s i h]
  rfl
 rw [this]
 rfl
theorem bytesL_succ {s : ByteArray} {p k : Nat} (h : p + k < s.size) : ∃ b : UInt8,bytesL s p (k + 1) = bytesL s p k ++ [b] ∧ byteAt s (p + k) = (b.toNat : Int) := by
 obtain ⟨b,h1,h2⟩ := byteAt_list h
 refine ⟨b,?_,h2⟩
 unfold bytesL
 rw [List.take_add_one,List.getElem?_drop,h1]
 rfl
def dval : List UInt8 → Nat
 | [] => 0
 | b :: l => b.toNat % 128 + 128 * dval l
theorem dval_snoc (b : UInt8) : ∀ l : List UInt8,dval (l ++ [b]) = dval l + b.toNat % 128 * 2 ^ (7 * l.length)
 | [] => by simp [dval]
 | a :: l => by
  have h1 := dval_snoc b l
  have h2 := pow7s l.length
  simp only [List.cons_append,dval,List.length_cons,h1,h2]
  rw [Nat.mul_add,Nat.add_assoc,Nat.mul_left_comm]
theorem dval_lt : ∀ l : List UInt8,dval l < 2 ^ (7 * l.length)
 | [] => by simp [dval]
 | a :: l => by
  have h1 := dval_lt l
  have h2 := pow7s l.length
  simp only [dval,List.length_cons,h2]
  omega
theorem dval_zero {b : UInt8} (hb : b.toNat < 128) : ∀ {l : List UInt8},dval (l ++ [b]) = 0 → b.toNat = 0
 | [],h => by simp [dval] at h; omega
 | a :: l,h => by
  simp only [List.cons_append,dval] at h
  exact dval_zero hb (l := l) (by omega)
theorem canon {b : UInt8} (hb : b.toNat < 128) : ∀ (l : List UInt8),(∀ a ∈ l,128 ≤ a.toNat) → (varN (dval (l ++ [b])) = l ++ [b] ↔ (l = [] ∨ b.toNat ≠ 0))
 | [],_ => by
  simp only [List.nil_append,dval,true_or,iff_true]
  rw [Nat.mod_eq_of_lt hb,Nat.mul_zero,Nat.add_zero,Zd hb,UInt8.ofNat_toNat]
 | a :: l,h => by
  have ih := canon hb l fun x hx => h x (by simp [hx])
  have ha := h a (by simp)
  have ha2 := a.toNat_lt
  simp only [List.cons_append,dval]
  by_cases hD : dval (l ++ [b]) = 0
  ·have h0 := dval_zero hb hD
   rw [hD,Nat.mul_zero,Nat.add_zero,Zd (by omega)]
   constructor
   ·intro e
    have := congrArg List.length e
    simp at this
   ·intro e
    rcases e with e | e
    ·cases e
    ·exact absurd h0 e
  ·have hm : (a.toNat % 128 + 128 * dval (l ++ [b])) % 128 = a.toNat % 128 := by omega
   have hq : (a.toNat % 128 + 128 * dval (l ++ [b])) / 128 = dval (l ++ [b]) := by omega
   have ha3 : UInt8.ofNat (a.toNat % 128 + 128) = a := by
    rw [show a.toNat % 128 + 128 = a.toNat by omega,UInt8.ofNat_toNat]
   rw [varN_big (by omega),hm,hq,ha3]
   simp only [List.cons.injEq,true_and]
   rw [ih]
   constructor
   ·intro e
    rcases e with rfl | e
    ·refine .inr fun e => hD ?_
     simp [dval,e]
    ·exact .inr e
   ·intro e
    rcases e with e | e
    ·cases e
    ·exact .inr e
theorem extract_list (s : ByteArray) (p q : Nat) : (s.extract p q).data.toList = (s.data.toList.drop p).take (q - p) := by
 rw [ByteArray.data_extract,Array.toList_extract]
theorem extract_bytes (s : ByteArray) (p k : Nat) : s.extract p (p + k) = bs (bytesL s p k) := by
 rw [← bs_of (s.extract p (p + k)),extract_list,show p + k - p = k by omega]
 rfl
theorem Xq (s : ByteArray) (p : Int) (hs : s.size ≤ 1099511627776) (hp : I64 p) : Con Tryd.prog 82 [] [astr s,ai p] [] (dvR (decVar s p)) := by
 obtain ⟨hp1,hp2⟩ := hp
 by_cases hneg : p < 0
 ·have hb1 : decide (p < 0) = true := decide_eq_true hneg
  rw [show decVar s p = none by rw [decVar,if_neg (by omega)]]
  refine Con.of Tryd.func82 J Tryd.ntmps82 J (fun E => ?_)
  refine zy (z1 J (z1 J (z1 J (zz (Qd (zy (z0 J (K0 J ?_))))))));refine zz (Qm J (zy (z1 J (z1 J (z1 J (zz (Q8 (T_r ?_))))))));refine F_r ?_
  exact Xk J J J J (Kf [] J J J)
 have hb1 : decide (p < 0) = false := decide_eq_false hneg
 by_cases hbig : (s.size : Int) ≤ p
 ·have hb2 : decide (p < (s.size : Int)) = false := decide_eq_false (by omega)
  rw [show decVar s p = none by rw [decVar,if_neg (by omega)]]
  refine Con.of Tryd.func82 J Tryd.ntmps82 J (fun E => ?_)
  refine zy (z1 J (z1 J (z1 J (zz (Qd (zy (z0 J (K0 J ?_))))))));refine zz (Ql J (Qh (Qz (zy (z1 J (zz (Qd (Qd ?_))))))));refine Qc (z1 J (zz (Qk ?_)));refine Xe (fun m st => ∃ k : Nat,k + m = 1 ∧ (True) ∧ st = (⟨_,[(0,S s),(1,I p),(8,I k)],[]⟩ : St)) (1) ⟨_,⟨0,by omega,trivial,J⟩,Kb []⟩ ?_
  rintro m_A _ ⟨k,hk_A,hp_A,rfl⟩
  have hkz : k = 0 ∨ k = 1 := by omega
  have hb3 : decide ((k : Int) < 6) = true := decide_eq_true (by omega)
  refine Qd (zy (z0 J (K0 J (z0 J (z5 J (z0 J (z5 J (z0 J (z5 J (zx (Yy J J J) J ?_))))))))));refine z5 J (K0 J (zpT J (z0 J (z6 J (z6 J (z6 J (z6 J (z6 J (z6 J (zpF J (Qe ?_)))))))))));refine Qz (Ql J (Q7 (T_x (T_x (Xg (Qz (zy (z1 J (z1 J (z1 J ?_))))))))));refine zz (Q8 (F_r ?_))
  exact Xk J J J J (Kf [] J J J)
 obtain ⟨q,rfl⟩ : ∃ q : Nat,p = q := ⟨p.toNat,by omega⟩
 have hb2 : decide ((q : Int) < (s.size : Int)) = true := decide_eq_true (by omega)
 rw [show decVar s q = dvGo s q 0 0 6 by rw [decVar,if_pos (by omega)]; rfl]
 refine Con.of Tryd.func82 J Tryd.ntmps82 J (fun E => ?_)
 refine zy (z1 J (z1 J (z1 J (zz (Qd (zy (z0 J (K0 J ?_))))))));refine zz (Ql J (Qh (Qz (zy (z1 J (zz (Qd (Qd ?_))))))));refine Qc (z1 J (zz (Qk ?_)));refine Xe (fun m__ st => ∃ (k : Nat) (n : Nat),6 - k = m__ ∧ (k ≤ 6 ∧ q + k ≤ s.size ∧ (∀ a ∈ bytesL s q k,128 ≤ a.toNat) ∧ n = dval (bytesL s q k) ∧ dvGo s q n k (6 - k) = dvGo s q 0 0 6) ∧ st = (⟨_,[(0,S s),(1,I q),(7,I n),(8,I k)],[]⟩ : St)) _ ⟨_,⟨0,0,J,⟨by omega,by omega,by simp [bytesL],by simp [bytesL,dval],J⟩,J⟩,Kb []⟩ ?_
 rintro m_A _ ⟨k,n,hk_A,hp_A,rfl⟩
 obtain ⟨hk6,hqk,hall,hn,hgo⟩ := hp_A
 have hlen : (bytesL s q k).length = k := by
  have : s.data.toList.length = s.size := by simp
  simp [bytesL]; omega
 have hn1 := dval_lt (bytesL s q k)
 rw [← hn,hlen] at hn1
 obtain ⟨M,hM,hM1,hM2⟩ := pow7 hk6
 have hMs := pow7s k
 rw [hM] at hn1 hMs
 rw [← hgo]
 refine Qd (zy (z0 J (zx (Zl J) J (z0 J ?_))));refine zx (Qt.grdT J J J .stop (fun hgrd => Zr J)) J ?_;refine zx (Qt.grdT J J J (.hit .stop) (fun hgrd => Zr J)) J ?_;refine zx (Qt.grdT J J J (.hit (.hit .stop)) (fun hgrd => Yy J J J)) J ?_;refine zx (Qt.grdT J J J (.hit (.hit (.hit .stop))) (fun hgrd => Qr J J J J (by assumption))) J ?_;refine zx (q_and J J J J) J (z0 J ?_);refine zx (Qt.grdT J J J .stop (fun hgrd => Zr J)) J ?_;refine zx (Qt.grdT J J J (.hit .stop) (fun hgrd => Zr J)) J ?_;refine zx (Qt.grdT J J J (.hit (.hit .stop)) (fun hgrd => Qs J J J J (by omega))) J ?_;refine zx (Qt.grdT J J J (.hit (.hit (.hit .stop))) (fun hgrd => Zr J)) J ?_;refine zx (Qt.grdT J J J (.hit (.hit (.hit (.hit .stop)))) (fun hgrd => Yy J J J)) J ?_;refine zx (Qt.grdT J J J (.hit (.hit (.hit (.hit (.hit .stop))))) (fun hgrd => Zl J)) J ?_;refine zx (q_and J J J J) J (zz ?_)
 refine Q9 J (fun h => ?_) (fun h => ?_)
 ·simp only [Bool.and_eq_true,decide_eq_true_eq] at h
  have hlt : q + k < s.size := by omega
  obtain ⟨f,hf⟩ : ∃ f,6 - k = f + 1 := ⟨5 - k,by omega⟩
  obtain ⟨b,hb,hcb⟩ := bytesL_succ hlt
  obtain ⟨c,hc⟩ : ∃ c : Nat,b.toNat = c := ⟨_,rfl⟩
  rw [hc] at hcb
  have hcr := X1 s (q + k)
  rw [hcb] at hcr
  have hc1 : byteAt s ((q : Int) + (k : Int)).toNat = (c : Int) := by rw [← hcb]; congr 1
  obtain ⟨d,hd⟩ : ∃ d : Nat,c % 128 = d := ⟨_,rfl⟩
  have hd1 : (c : Int).toNat &&& (127 : Int).toNat = d := by
   rw [show (127 : Int).toNat = 2 ^ 7 - 1 from rfl,Nat.and_two_pow_sub_one_eq_mod]
   exact hd
  obtain ⟨r,hr⟩ : ∃ r : Nat,d * M = r := ⟨_,rfl⟩
  have hr2 : r ≤ 127 * M := by rw [← hr]; exact Nat.mul_le_mul_right _ (by omega)
  have hr1 : (d : Int) * 2 ^ (7 * (k : Int)).toNat = (r : Int) := by rw [pow7i,hM,← hr]; norm_cast
  have hor : (n : Int).toNat ||| (r : Int).toNat = n + r := or_add hM hn1 hr
  have hval : n + r = dval (bytesL s q (k + 1)) := by rw [hb,dval_snoc,hlen,hM,hc,hd,hr,← hn]
  have hgo1 : dvGo s q n k (f + 1) = if 128 ≤ (c : Int) then dvGo s q ((n + r : Nat) : Int) (k + 1) f else if ((c : Int) = 0 ∧ 0 < k) ∨ 1099511627775 < ((n + r : Nat) : Int) then none else some (((n + r : Nat) : Int),k + 1) := by
   have h9 : (n : Int) + (c : Int) % 128 * 2 ^ (7 * k) = ((n + r : Nat) : Int) := by
    rw [show (c : Int) % 128 = d by omega,← hr,← hM]
    norm_cast
   rw [dvGo,if_pos hlt,hcb,h9]
  rw [hf,hgo1]
  by_cases h7 : 128 ≤ (c : Int)
  ·have hb7 : decide ((c : Int) < 128) = false := decide_eq_false (by omega)
   refine Qh (Qz (Qd (Qk (zy (z0 J (z0 J (z0 J (z0 J (Kd J (zx (Ku J) J ?_))))))))));refine zx (q_band8K J J J J (by assumption) (by omega)) J (zx (Ys J J J J (Z8)) J (z0 J (zx (q_mul J J J J (by omega)) J (zx (q_shlK J J J J (by assumption) (by omega) (by omega)) J (zx (q_borK J J J J (by assumption) (by omega)) J (z1 J (zz (zy (z0 J ?_)))))))));refine z0 J (z0 J (Kd J (zx (Ku J) J (K0 J (zz (Ql J (Qh (Q0 (Qz (Qc ?_))))))))));refine z0 J (Kd J (z1 J (zz ?_)))
   refine ⟨_,(by omega),_,⟨k + 1,n + r,rfl,⟨by omega,by omega,by rw [hb]; intro a ha; rcases List.mem_append.1 ha with ha | ha; exact hall a ha; simp only [List.mem_singleton] at ha; rw [ha]; omega,hval,by rw [if_pos h7,show 6 - (k + 1) = f by omega]⟩,rfl⟩,Kb []⟩
  have hb7 : decide ((c : Int) < 128) = true := decide_eq_true (by omega)
  rw [if_neg h7]
  have hcan := canon (b := b) (by omega) (bytesL s q k) hall
  rw [← hb,← hval] at hcan
  have hle := X9 ((n + r : Nat) : Int)
  have hex := extract_bytes s q (k + 1)
  have hnil : bytesL s q k = [] ↔ k = 0 := by rw [← List.length_eq_zero_iff,hlen]
  have hne : bytesL s q (k + 1) ≠ [] := by rw [hb]; simp
  have hex1 : s.extract ((q : Int)).toNat ((q : Int) + (k : Int) + 1).toNat = bs (bytesL s q (k + 1)) := by rw [← hex]; congr 1
  have hiff : bs (encVar ((n + r : Nat) : Int)) = bs (bytesL s q (k + 1)) ↔ ¬ (((c : Int) = 0 ∧ 0 < k) ∨ 1099511627775 < ((n + r : Nat) : Int)) := by
   rw [bs_inj,encVar]
   split
   ·rename_i h5
    rw [show (((n + r : Nat) : Int)).toNat = n + r by omega,hcan,hnil]
    omega
   ·exact ⟨fun e => absurd e.symm hne,fun e => by omega⟩
  by_cases h8 : ((c : Int) = 0 ∧ 0 < k) ∨ 1099511627775 < ((n + r : Nat) : Int)
  ·rw [if_pos h8]
   have hb8 : decide (bs (encVar ((n + r : Nat) : Int)) ≠ s.extract ((q : Int)).toNat ((q : Int) + (k : Int) + 1).toNat) = true := decide_eq_true (by rw [hex1]; exact fun e => hiff.1 e h8)
   refine Qh (Qz (Qd (Qk (zy (z0 J (z0 J (z0 J (z0 J (Kd J (zx (Ku J) J ?_))))))))));refine zx (q_band8K J J J J (by assumption) (by omega)) J (zx (Ys J J J J (Z8)) J (z0 J (zx (q_mul J J J J (by omega)) J (zx (q_shlK J J J J (by assumption) (by omega) (by omega)) J (zx (q_borK J J J J (by assumption) (by omega)) J (z1 J (zz (zy (z0 J ?_)))))))));refine z0 J (z0 J (Kd J (zx (Ku J) J (K0 J (zz (Qm J (Qd (Qd (Xd u8_9 u8_10 u8_11 J (Zh (Zr J) J ?_))))))))));refine Zh (Qj J J (Xr ((n + r : Nat) : Int)) J) J ?_;refine Zh (Zr J) J (Zh (Zr J) J (Zh (Zr J) J (Zh (Zr J) J (Zh (Qs J J J J (by omega)) J (Zh (Qs J J J J (by omega)) J (Zh (q_sslice J J J J J (by omega)) J (Zh (Kh J) J (Zg (zz (Qm J ?_))))))))));refine zy (z1 J (z1 J (z1 J (zz (Q8 (T_r (B_r (T_r (T_r ?_)))))))));refine B_r (T_r (F_r ?_))
   exact Xk J J J J (Kf [] J J J)
  ·rw [if_neg h8]
   have hb8 : decide (bs (encVar ((n + r : Nat) : Int)) ≠ s.extract ((q : Int)).toNat ((q : Int) + (k : Int) + 1).toNat) = false := decide_eq_false (by rw [hex1]; exact fun e => e (hiff.2 h8))
   refine Qh (Qz (Qd (Qk (zy (z0 J (z0 J (z0 J (z0 J (Kd J (zx (Ku J) J ?_))))))))));refine zx (q_band8K J J J J (by assumption) (by omega)) J (zx (Ys J J J J (Z8)) J (z0 J (zx (q_mul J J J J (by omega)) J (zx (q_shlK J J J J (by assumption) (by omega) (by omega)) J (zx (q_borK J J J J (by assumption) (by omega)) J (z1 J (zz (zy (z0 J ?_)))))))));refine z0 J (z0 J (Kd J (zx (Ku J) J (K0 J (zz (Qm J (Qd (Qd (Xd u8_9 u8_10 u8_11 J (Zh (Zr J) J ?_))))))))));refine Zh (Qj J J (Xr ((n + r : Nat) : Int)) J) J ?_;refine Zh (Zr J) J (Zh (Zr J) J (Zh (Zr J) J (Zh (Zr J) J (Zh (Qs J J J J (by omega)) J (Zh (Qs J J J J (by omega)) J (Zh (q_sslice J J J J J (by omega)) J (Zh (Kh J) J (Zg (zz (Ql J ?_))))))))));refine Qh (Qz (zy (z0 J (z0 J (Kd J (z1 J (z1 J (z1 J (zz ?_)))))))));refine Q8 (B_r (T_r (T_r (B_r (T_r (F_r ?_))))))
   exact Xk J J J J (Kf [] J J J)
 ·simp only [Bool.and_true,Bool.and_eq_false_iff,decide_eq_false_iff_not] at h
  rw [show dvGo s q n k (6 - k) = none by
   cases hf : 6 - k with
   | zero => rfl
   | succ f => rw [dvGo,if_neg (by omega)]]
  refine Q7 (T_x (T_x (Xg (Qz (zy (z1 J (z1 J (z1 J (zz ?_)))))))));refine Q8 (F_r ?_)
  exact Xk J J J J (Kf [] J J J)
end
end Go.Proofs.YtcjclaoogdblbaaDoor
