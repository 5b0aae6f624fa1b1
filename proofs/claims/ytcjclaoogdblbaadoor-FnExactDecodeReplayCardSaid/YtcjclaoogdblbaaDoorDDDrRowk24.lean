/-
  Lists and texts read from bytes: Signed, UnpackInts, UnpackText, OpenText, in the program and in the reference.
  Conditions: texts of at most 2^40 bytes.
-/
import Derived.Test.YtcjclaoogdblbaaDoorDDDrRowk22
import Derived.Test.YtcjclaoogdblbaaDoorDDDrRowk23
set_option linter.unusedSimpArgs false
set_option linter.unusedVariables false
set_option maxRecDepth 8000
set_option maxHeartbeats 8000000
namespace Go.Proofs.YtcjclaoogdblbaaDoor
section
open Go.RowKit

theorem dvGo_some (s : ByteArray) (q : Nat) : ∀ (f k : Nat) (n m : Int) (j : Nat),0 ≤ n → dvGo s q n k f = some (m,j) → 0 ≤ m ∧ m ≤ 1099511627775 ∧ k < j ∧ j ≤ k + f ∧ q + j ≤ s.size := by
 intro f
 induction f with
 | zero => intro k n m j _ h; simp [dvGo] at h
 | succ f ih =>
  intro k n m j h0 h
  have hb := X1 s (q + k)
  rw [dvGo] at h
  have hp : (0 : Int) ≤ byteAt s (q + k) % 128 * 2 ^ (7 * k) := Int.mul_nonneg (by omega) (Int.le_of_lt (Int.pow_pos (by omega)))
  split at h
  ·split at h
   ·have := ih (k + 1) _ m j (by omega) h
    omega
   ·split at h
    ·cases h
    ·simp only [Option.some.injEq,Prod.mk.injEq] at h
     obtain ⟨rfl,rfl⟩ := h
     omega
  ·cases h
theorem X5 {s : ByteArray} {p m : Int} {j : Nat} (h : decVar s p = some (m,j)) : 0 ≤ p ∧ 0 ≤ m ∧ m ≤ 1099511627775 ∧ 1 ≤ j ∧ j ≤ 6 ∧ p + j ≤ s.size := by
 unfold decVar at h
 split at h
 ·have := dvGo_some s p.toNat 6 0 0 m j (by omega) h
  omega
 ·cases h
theorem q_quoN {P : Program} {ops : Array Oper} {o : Oper} {st : St} {n : Nat} {t t' : TypeId} {y z : Operand} {ps qs : List Nat} {i j r : Int} (ho : o.op = .binOp .quo t y z t') (hg : o.guard = none) (hy : st.ev y = .o (.c (.rd ps (.v (.int .i64 i))))) (hz : st.ev z = .o (.c (.rd qs (.v (.int .i64 j)))))
  (hr : i.tdiv j = r) (hb : -9223372036854775808 ≤ i ∧ i ≤ 9223372036854775807 ∧ 1 ≤ j) : Qt P ops o st (I r) [] n :=
 hr ▸ Ym ho hg hy hz fun w => by
  have : j ≠ 0 := by omega
  simp [binOp,Op.intDiv,this,IntWalk.i64_quo' _ _ hb]
def signed (n : Int) : Int := if 0 ≤ n ∧ n ≤ 1099511627775 then (if n % 2 = 0 then n / 2 else -((n + 1) / 2)) else 0
theorem signed_gd (n : Int) : I64 (signed n) := by
 unfold signed
 split
 ·split <;> exact ⟨by omega,by omega⟩
 ·exact ⟨by omega,by omega⟩
theorem neg_tdiv {n : Int} (h : 0 ≤ n) : (-(n + 1)).tdiv 2 = -((n + 1) / 2) := by
 rw [Int.neg_tdiv,Int.tdiv_eq_ediv_of_nonneg (by omega)]
theorem I_Signed (n : Int) (hn : I64 n) : Con Tryd.prog 95 [] [ai n] [] (I (signed n)) := by
 obtain ⟨hn1,hn2⟩ := hn
 refine Con.of Tryd.func95 J Tryd.ntmps95 J (fun E => ?_)
 refine zy (z1 J (zz (Qd (zy (z0 J (zx (Zl J) J (z0 J ?_)))))));refine zx (Qt.grdF J J J .stop (fun hgrd => Zr J)) J ?_;refine zx (Kq J (.hit .stop) (fun hgrd => q_gtr J J J J)) J ?_;refine zx (q_or J J J J) J (zz ?_)
 refine Q9 J (fun h => ?_) (fun h => ?_)
 ·simp only [Bool.or_eq_true,decide_eq_true_eq] at h
  refine zy (z1 J (zz (Q8 (T_r (F_r ?_)))))
  exact Ke J (Kf [] J J (Xn (by rw [signed,if_neg (by omega)])))
 simp only [Bool.or_eq_false_iff,decide_eq_false_iff_not] at h
 have hv := neg_tdiv (n := n) (by omega)
 refine Qh (Qz (Qd (zy (z0 J (zx (q_rem J J J J (by omega)) J (zx (q_eql J J J J) J (zz ?_)))))))
 refine Q9 J (fun h1 => ?_) (fun h1 => ?_)
 ·have h1 := of_decide_eq_true h1
  refine zy (z0 J (zx (q_quo J J J J (by omega)) J (z1 J (zz (Q8 (T_r (F_r ?_)))))))
  exact Ke J (Kf [] J J (Xn (by rw [signed,if_pos (by omega),if_pos (by omega)])))
 ·have h1 := of_decide_eq_false h1
  refine Qh (Qz (zy (z0 J (Kd J (zx (q_neg J J J (by omega)) J (zx (q_quoN J J J J (by assumption) (by omega)) J (z1 J (zz (Q8 ?_)))))))));refine F_r ?_
  exact Ke J (Kf [] J J (Xn (by rw [signed,if_pos (by omega),if_neg (by omega)])))
theorem S_Signed (n : Int) (hn : I64 n) : Con Tryd.prog 84 [] [ai n] [] (I (signed n)) := by
 obtain ⟨hn1,hn2⟩ := hn
 refine Con.of Tryd.func84 J Tryd.ntmps84 J (fun E => ?_)
 refine zy (z1 J (zz (Qd (zy (z0 J ?_)))));refine zx (Qj J J (S_in n 0 1099511627775) J) J ?_;refine zn J (zz ?_)
 refine Q9 J (fun h => ?_) (fun h => ?_)
 ·have h : ¬ (0 ≤ n ∧ n ≤ 1099511627775) := by rw [← Ye]; simpa using h
  refine zy (z1 J (zz (Q8 (T_r (F_r ?_)))))
  exact Ke J (Kf [] J J (Xn (by rw [signed,if_neg h])))
 have h : 0 ≤ n ∧ n ≤ 1099511627775 := by rw [← Ye]; simpa using h
 have hv := neg_tdiv (n := n) (by omega)
 have hm : n.toNat &&& (1 : Int).toNat = n.toNat % 2 := Nat.and_two_pow_sub_one_eq_mod n.toNat 1
 refine Qh (Qz (Qd (zy (z0 J (zx (q_bandK J J J J (by assumption) (by omega)) J (zx (q_eql J J J J) J (zz ?_)))))))
 refine Q9 J (fun h1 => ?_) (fun h1 => ?_)
 ·have h1 := of_decide_eq_true h1
  refine zy (z0 J (Kd J (zx (q_neg J J J (by omega)) J (zx (q_quoN J J J J (by assumption) (by omega)) J (z1 J (zz (Q8 (T_r (F_r ?_)))))))))
  exact Ke J (Kf [] J J (Xn (by rw [signed,if_pos (by omega),if_neg (by omega)])))
 ·have h1 := of_decide_eq_false h1
  refine Qh (Qz (zy (z0 J (zx (q_quo J J J J (by omega)) J (z1 J (zz (Q8 (F_r ?_))))))))
  exact Ke J (Kf [] J J (Xn (by rw [signed,if_pos (by omega),if_pos (by omega)])))
/-! ### Lists -/
def uiGo (s : ByteArray) (p : Nat) : Nat → Nat → Option (List Int × Nat)
 | 0,pos => some ([],pos)
 | c + 1,pos => match decVar s ((p : Int) + (pos : Int)) with
  | none => none
  | some (v,m) => (uiGo s p c (pos + m)).map fun r => (signed v :: r.1,r.2)
def unpackInts (s : ByteArray) (p : Int) : Option (List Int × Nat) := match decVar s p with
 | none => none
 | some (n,k) => uiGo s p.toNat n.toNat k
@[reducible] def uiO : Option (List Int × Nat) → List Ob
 | none => [.row 1 []]
 | some (l,_) => [.row 1 (els l)]
@[reducible] def uiR : Option (List Int × Nat) → V
 | none => .tu [.c (.ref 0),.c (jn 0),.c (bv false)]
 | some (_,k) => .tu [.c (.ref 0),.c (jn k),.c (bv true)]
theorem uiGo_some (s : ByteArray) (p : Nat) : ∀ (c pos : Nat) (l : List Int) (j : Nat),uiGo s p c pos = some (l,j) → l.length = c ∧ pos + c ≤ j ∧ (0 < c → p + j ≤ s.size) ∧ (∀ x ∈ l,I64 x) := by
 intro c
 induction c with
 | zero =>
  intro pos l j h
  simp only [uiGo,Option.some.injEq,Prod.mk.injEq] at h
  obtain ⟨rfl,rfl⟩ := h
  exact ⟨J,by omega,fun h => by omega,fun x hx => by simp at hx⟩
 | succ c ih =>
  intro pos l j h
  rw [uiGo] at h
  split at h
  ·cases h
  ·rename_i v m hd
   obtain ⟨r,h1,h2⟩ := Option.map_eq_some_iff.1 h
   simp only [Prod.mk.injEq] at h2
   obtain ⟨rfl,rfl⟩ := h2
   have hm := X5 hd
   obtain ⟨a1,a2,a3,a4⟩ := ih (pos + m) r.1 r.2 h1
   refine ⟨by simp [a1],by omega,fun _ => ?_,fun x hx => ?_⟩
   ·by_cases hc : 0 < c
    ·exact a3 hc
    ·have : c = 0 := by omega
     subst this
     simp only [uiGo,Option.some.injEq] at h1
     rw [← h1]
     show p + (pos + m) ≤ s.size
     omega
   ·rcases List.mem_cons.1 hx with rfl | hx
    ·exact signed_gd v
    ·exact a4 x hx
theorem Y9 {s : ByteArray} {p : Int} {l : List Int} {j : Nat} (h : unpackInts s p = some (l,j)) : 0 ≤ p ∧ 1 ≤ j ∧ p + j ≤ s.size ∧ (l.length : Int) + 1 ≤ j ∧ (∀ x ∈ l,I64 x) := by
 unfold unpackInts at h
 split at h
 ·cases h
 ·rename_i n k hd
  have hm := X5 hd
  obtain ⟨a1,a2,a3,a4⟩ := uiGo_some s _ _ _ _ _ h
  refine ⟨hm.1,by omega,?_,by omega,a4⟩
  by_cases hn : 0 < n.toNat
  ·have := a3 hn; omega
  ·have h0 : n.toNat = 0 := by omega
   rw [h0] at h
   simp only [uiGo,Option.some.injEq,Prod.mk.injEq] at h
   omega
theorem els_snocI (acc : List Int) (v : Int) : els (acc ++ [v]) = els acc ++ [[.v (.int .i64 v)]] := by simp [els,Enc.e]
theorem I_UnpackInts (s : ByteArray) (p : Int) (hs : s.size ≤ 1099511627776) (hp : I64 p) : Con Tryd.prog 52 [] [astr s,ai p] (uiO (unpackInts s p)) (uiR (unpackInts s p)) := by
 have hd := Xl s p hs hp
 cases hv : decVar s p with
 | none =>
  rw [hv] at hd
  rw [show unpackInts s p = none by rw [unpackInts,hv]]
  refine Con.of Tryd.func52 J Tryd.ntmps52 J (fun E => ?_)
  refine zy (z1 J (z1 J (z1 J (zz (zy (z0 J (z0 J ?_)))))));refine Ki (Yr J J (hd) J J J) J ?_;refine zx (Vw J) J (ze J (ze J (ze J (z1 J (z1 J (z1 J (zz (Qd (zy ?_)))))))));refine z0 J (zn J (z0 J (z6 J (z6 J (z6 J (z6 J (z6 J (z6 J (z6 J (z6 J (zpT J ?_)))))))))));refine zz (Qm J (zy (z1 J (z1 J (z1 J (zz (Q8 (T_r ?_))))))));refine F_r ?_
  exact Xk J J J J (Xu [1] [0] J J (by decide) J J J)
 | some r =>
  obtain ⟨n,k0⟩ := r
  rw [hv] at hd
  have hm := X5 hv
  obtain ⟨q,rfl⟩ : ∃ q : Nat,p = q := ⟨p.toNat,by omega⟩
  obtain ⟨c,rfl⟩ : ∃ c : Nat,n = c := ⟨n.toNat,by omega⟩
  rw [show unpackInts s q = uiGo s q c k0 by rw [unpackInts,hv]; rfl]
  by_cases hbig : (s.size : Int) - q - k0 < c
  ·have hb : decide ((s.size : Int) - q - k0 < c) = true := decide_eq_true hbig
   have hno : uiGo s q c k0 = none := by
    cases ho : uiGo s q c k0 with
    | none => rfl
    | some r =>
     have := uiGo_some s q c k0 r.1 r.2 ho
     omega
   rw [hno]
   refine Con.of Tryd.func52 J Tryd.ntmps52 J (fun E => ?_)
   refine zy (z1 J (z1 J (z1 J (zz (zy (z0 J (z0 J ?_)))))));refine Ki (Yr J J (hd) J J J) J ?_;refine zx (Vw J) J (ze J (ze J (ze J (z1 J (z1 J (z1 J (zz (Qd (zy ?_)))))))));refine z0 J (zn J (z0 J (z5 J (z0 J (z5 J (z0 J (z5 J (zx (Yy J J J) J (z5 J (z0 J (z5 J ?_)))))))))));refine z8 J (by omega) (z5 J (z0 J (z5 J (z8 J (by omega) (z5 J (z9c J (by assumption) (zpF J (zz (Qm J (Qd ?_))))))))));refine Qc (z1 J (z1 J (z1 J (zz (Q8 (T_r (F_r ?_)))))))
   exact Xk J J J J (Xu [1] [0] J J (by decide) J J J)
  have hb : decide ((s.size : Int) - q - k0 < c) = false := decide_eq_false hbig
  refine Con.of Tryd.func52 J Tryd.ntmps52 J (fun E => ?_)
  refine zy (z1 J (z1 J (z1 J (zz (zy (z0 J (z0 J ?_)))))));refine Ki (Yr J J (hd) J J J) J ?_;refine zx (Vw J) J (ze J (ze J (ze J (z1 J (z1 J (z1 J (zz (Qd (zy ?_)))))))));refine z0 J (zn J (z0 J (z5 J (z0 J (z5 J (z0 J (z5 J (zx (Yy J J J) J (z5 J (z0 J (z5 J ?_)))))))))));refine z8 J (by omega) (z5 J (z0 J (z5 J (z8 J (by omega) (z5 J (z9c J (by assumption) (zpF J (zz (Ql J (Qh ?_))))))))));refine Qz (zy (z0 J ?_));refine Ki (q_makec 1 J J J J (by omega) (by omega) (by omega) (by omega) J (by simp)) J ?_;refine z1 J (zz (Qd (zy (z1 J (zz (Qk ?_))))));refine Xe (fun m__ st => ∃ (k : Nat) (pos : Nat) (acc : List Int),c - k = m__ ∧ (k ≤ c ∧ acc.length = k ∧ q + pos + (c - k) ≤ s.size + (c - k) ∧ q + pos ≤ s.size ∧ (uiGo s q (c - k) pos).map (fun r => (acc ++ r.1,r.2)) = uiGo s q c k0) ∧ st = (⟨_,[(0,S s),(1,I q),(7,I c),(8,I pos),(10,.o (.c (.ref 0))),(11,I k)],[.row 1 (els acc)]⟩ : St)) _ ⟨_,⟨0,k0,[],J,⟨by omega,J,by omega,by omega,by simp⟩,J⟩,Kb [0]⟩ ?_
  rintro m_A _ ⟨k,pos,acc,hk_A,hp_A,rfl⟩
  obtain ⟨hkc,hacc,_,hpos,hgo⟩ := hp_A
  have hla := X8 acc
  rw [← hgo]
  refine Qd (zy (z0 J (z0 J (zx (Zl J) J (zz ?_)))))
  refine Q9 J (fun h => ?_) (fun h => ?_)
  ·have hlt : k < c := by have := of_decide_eq_true h; omega
   have hd2 := Xl s ((q : Int) + (pos : Int)) hs ⟨by omega,by omega⟩
   obtain ⟨f,hf⟩ : ∃ f,c - k = f + 1 := ⟨c - k - 1,by omega⟩
   rw [hf]
   cases hv2 : decVar s ((q : Int) + (pos : Int)) with
   | none =>
    rw [hv2] at hd2
    rw [show uiGo s q (f + 1) pos = none by rw [uiGo,hv2]]
    refine Qh (Qz (Qd (Qk (zy (z0 J (z0 J (z0 J (Kd J ?_))))))));refine Ki (Yr J J (hd2) J J J) J ?_;refine zx (Vw J) J (ze J (ze J (ze J (z1 J (z1 J (z1 J (zz (Qd (zy ?_)))))))));refine z0 J (zn J (zz (Qm J (zy (z1 J (z1 J (z1 J (zz ?_))))))));refine Q8 (T_r (B_r (T_r (T_r (B_r (T_r (F_r ?_)))))))
    exact Xk J J J J (Xu [1] [1] J J (by decide) J J J)
   | some r =>
    obtain ⟨v,m⟩ := r
    rw [hv2] at hd2
    have hm2 := X5 hv2
    have hsg := I_Signed v ⟨by omega,by omega⟩
    refine Qh (Qz (Qd (Qk (zy (z0 J (z0 J (z0 J (Kd J ?_))))))));refine Ki (Yr J J (hd2) J J J) J ?_;refine zx (Vw J) J (ze J (ze J (ze J (z1 J (z1 J (z1 J (zz (Qd (zy ?_)))))))));refine z0 J (zn J (zz (Ql J (Qh (Qz (zy (z0 J (z0 J ?_))))))));refine zx (Qj J J (hsg) J) J ?_;refine Ki (Yn J J J J J J) J ?_;refine Xo J J J J J J J J J J (by omega) (by omega) ?_;refine z1 J (zz (Qc (z0 J (z0 J (Kd J (z1 J (Qe (Q0 (Qz (Qc ?_))))))))));refine z0 J (Kd J (z1 J (zz ?_)))
    refine ⟨_,(by omega),(fun (k : Nat) (pos : Nat) (acc : List Int) => (⟨_,[(0,S s),(1,I q),(7,I c),(8,I pos),(10,.o (.c (.ref 0))),(11,I k)],[.row 1 (els acc)]⟩ : St)) (k + 1) (pos + m) (acc ++ [signed v]),⟨k + 1,pos + m,acc ++ [signed v],J,⟨by omega,by simp [hacc],by omega,by omega,by rw [uiGo,hv2,show c - (k + 1) = f by omega]; simp [Option.map_map]; rfl⟩,J⟩,Xw [0] (by decide) J (Y4 (els_snocI acc _)) (.c J (.c J (.c J (.c J (.c J (.c J (.nil)))))))⟩
  ·have hkk : k = c := by have := of_decide_eq_false h; omega
   subst hkk
   rw [show uiGo s q (k - k) pos = some ([],pos) by rw [Nat.sub_self]; rfl]
   refine Q7 (T_x (T_x (Xg (Qz (zy (z0 J (z0 J (z1 J (z1 J (z1 J ?_))))))))));refine zz (Q8 (F_r ?_))
   exact Xk J J J J (Kf [0] J (Y4 (by simp)) J)
theorem S_UnpackInts (s : ByteArray) (p : Int) (hs : s.size ≤ 1099511627776) (hp : I64 p) : Con Tryd.prog 45 [] [astr s,ai p] (uiO (unpackInts s p)) (uiR (unpackInts s p)) := by
 have hd := Xq s p hs hp
 have h00 : ([] : List (List T)).length = 0 := rfl
 cases hv : decVar s p with
 | none =>
  rw [hv] at hd
  rw [show unpackInts s p = none by rw [unpackInts,hv]]
  have hb0 : decide ((0 : Int) < 0) = false := rfl
  refine Con.of Tryd.func45 J Tryd.ntmps45 J (fun E => ?_)
  refine zy (z1 J (z1 J (z1 J (zz (zy (z0 J (z0 J ?_)))))));refine Ki (Yr J J (hd) J J J) J ?_;refine zx (Vw J) J (ze J (ze J (ze J (z1 J (z1 J (z1 J (zz (zy (Ki (Yo J J J) J ?_)))))))));refine z1 J (zz (Qd (zy (z1 J (zz (Qk ?_))))));refine Xe (fun m st => ∃ k : Nat,k + m = 1 ∧ (k = 0) ∧ st = (⟨_,[(7,I 0),(9,B false),(11,I k)],[]⟩ : St)) (1) ⟨_,⟨0,by omega,J,J⟩,Kb []⟩ ?_
  rintro m_A _ ⟨k,hk_A,hp_A,rfl⟩
  subst hp_A
  refine Qd (zy (z0 J (z0 J (K0 J (z0 J (z6 J (zpF J (zz (Ql J ?_)))))))));refine Q7 (T_x (T_x (Xg (Qz (Qd (zy (z0 J (zn J (zz ?_)))))))));refine Qm J (zy (Ki (Yo J J J) J (z1 J (z1 J (z1 J (zz (Q8 (T_r (F_r ?_)))))))))
  exact Xk J J J J (Kf [0] J J J)
 | some r =>
  obtain ⟨n,k0⟩ := r
  rw [hv] at hd
  have hm := X5 hv
  obtain ⟨q,rfl⟩ : ∃ q : Nat,p = q := ⟨p.toNat,by omega⟩
  obtain ⟨c,rfl⟩ : ∃ c : Nat,n = c := ⟨n.toNat,by omega⟩
  rw [show unpackInts s q = uiGo s q c k0 by rw [unpackInts,hv]; rfl]
  refine Con.of Tryd.func45 J Tryd.ntmps45 J (fun E => ?_)
  refine zy (z1 J (z1 J (z1 J (zz (zy (z0 J (z0 J ?_)))))));refine Ki (Yr J J (hd) J J J) J ?_;refine zx (Vw J) J (ze J (ze J (ze J (z1 J (z1 J (z1 J (zz (zy (Ki (Yo J J J) J ?_)))))))));refine z1 J (zz (Qd (zy (z1 J (zz (Qk ?_))))));refine Xe (fun m__ st => ∃ (k : Nat) (pos : Nat) (acc : List Int) (ok : Bool),c + 1 - k = m__ ∧ (k ≤ c + 1 ∧ acc.length = k ∧ k ≤ s.size + 1 ∧ (ok = true → k ≤ c ∧ k + 1 ≤ pos ∧ q + pos ≤ s.size ∧ (uiGo s q (c - k) pos).map (fun r => (acc ++ r.1,r.2)) = uiGo s q c k0) ∧ (ok = false → uiGo s q c k0 = none) ∧ pos ≤ s.size) ∧ st = (⟨_,[(0,S s),(1,I q),(7,I c),(8,I pos),(9,B ok),(10,.o (.c (.ref 0))),(11,I k)],[.row 1 (els acc)]⟩ : St)) _ ⟨_,⟨0,k0,[],true,J,⟨by omega,J,by omega,fun _ => ⟨by omega,by omega,by omega,by simp⟩,fun e => (by cases e),by omega⟩,J⟩,Kb [0]⟩ ?_
  rintro m_A _ ⟨k,pos,acc,ok,hk_A,hp_A,rfl⟩
  obtain ⟨hkc,hacc,hks,hok,hno,hps⟩ := hp_A
  have hla := X8 acc
  cases ok with
  | false =>
   rw [hno rfl]
   by_cases hlt : (k : Int) < c
   ·have hb : decide ((k : Int) < c) = true := decide_eq_true hlt
    refine Qd (zy (z0 J (z0 J (K0 J (z0 J (z5 J (z0 J (zpT J (zz ?_)))))))));refine Ql J (Q7 (T_x (T_x (Xg (Qz (Qd (zy (z0 J (zn J (Qe ?_))))))))));refine Qz (Qm J (zy (Ki (Yo J J J) J (z1 J (z1 J (z1 J (zz (Q8 (T_r ?_)))))))));refine F_r ?_
    exact Xk J J J J (Kf [1] J J J)
   ·have hb : decide ((k : Int) < c) = false := decide_eq_false hlt
    refine Qd (zy (z0 J (z0 J (K0 J (z0 J (z6 J (zpF J (zz (Ql J ?_)))))))));refine Q7 (T_x (T_x (Xg (Qz (Qd (zy (z0 J (zn J (zz ?_)))))))));refine Qm J (zy (Ki (Yo J J J) J (z1 J (z1 J (z1 J (zz (Q8 (T_r (F_r ?_)))))))))
    exact Xk J J J J (Kf [1] J J J)
  | true =>
   obtain ⟨hkc2,hkp,hpos,hgo⟩ := hok rfl
   rw [← hgo]
   by_cases hlt : (k : Int) < c
   ·have hb : decide ((k : Int) < c) = true := decide_eq_true hlt
    have hd2 := Xq s ((q : Int) + (pos : Int)) hs ⟨by omega,by omega⟩
    obtain ⟨f,hf⟩ : ∃ f,c - k = f + 1 := ⟨c - k - 1,by omega⟩
    rw [hf]
    cases hv2 : decVar s ((q : Int) + (pos : Int)) with
    | none =>
     rw [hv2] at hd2
     rw [show uiGo s q (f + 1) pos = none by rw [uiGo,hv2]]
     have hsg := S_Signed 0 ⟨by omega,by omega⟩
     refine Qd (zy (z0 J (z0 J (K0 J (z0 J (z5 J (z0 J (zpT J (zz ?_)))))))));refine Qm J (Qh (Qz (Qd (Qk (zy (z0 J (z0 J (z0 J (Kd J ?_)))))))));refine Ki (Yr J J (hd2) J J J) J ?_;refine zx (Vw J) J (ze J (ze J (ze J (z1 J (z1 J (z1 J (zz (zy (z0 J ?_)))))))));refine z1 J (zz (zy (z0 J (z0 J (Kd J (z1 J (zz (Qc ?_))))))));refine z0 J (z0 J ?_);refine zx (Qj J J (hsg) J) J ?_;refine Ki (Yn J J J J J J) J ?_;refine Xo J J J J J J J J J J (by omega) (by omega) ?_;refine z1 J (Qe (Q0 (Qz (Qc (z0 J (Kd J (z1 J (zz ?_))))))))
     refine ⟨_,(by omega),(fun (k : Nat) (pos : Nat) (acc : List Int) (ok : Bool) => (⟨_,[(0,S s),(1,I q),(7,I c),(8,I pos),(9,B ok),(10,.o (.c (.ref 0))),(11,I k)],[.row 1 (els acc)]⟩ : St)) (k + 1) (pos) (acc ++ [signed 0]) (false),⟨k + 1,pos,acc ++ [signed 0],false,J,⟨by omega,by simp [hacc],by omega,fun e => (by cases e),fun _ => rfl,hps⟩,J⟩,Xw [0] (by decide) J (Y4 (els_snocI acc _)) (.c J (.c J (.c J (.c J (.c J (.c J (.c J (.nil))))))))⟩
    | some r =>
     obtain ⟨v,m⟩ := r
     rw [hv2] at hd2
     have hm2 := X5 hv2
     have hsg := S_Signed v ⟨by omega,by omega⟩
     refine Qd (zy (z0 J (z0 J (K0 J (z0 J (z5 J (z0 J (zpT J (zz ?_)))))))));refine Qm J (Qh (Qz (Qd (Qk (zy (z0 J (z0 J (z0 J (Kd J ?_)))))))));refine Ki (Yr J J (hd2) J J J) J ?_;refine zx (Vw J) J (ze J (ze J (ze J (z1 J (z1 J (z1 J (zz (zy (z0 J ?_)))))))));refine z1 J (zz (zy (z0 J (z0 J (Kd J (z1 J (zz (Qc ?_))))))));refine z0 J (z0 J ?_);refine zx (Qj J J (hsg) J) J ?_;refine Ki (Yn J J J J J J) J ?_;refine Xo J J J J J J J J J J (by omega) (by omega) ?_;refine z1 J (Qe (Q0 (Qz (Qc (z0 J (Kd J (z1 J (zz ?_))))))))
     refine ⟨_,(by omega),(fun (k : Nat) (pos : Nat) (acc : List Int) (ok : Bool) => (⟨_,[(0,S s),(1,I q),(7,I c),(8,I pos),(9,B ok),(10,.o (.c (.ref 0))),(11,I k)],[.row 1 (els acc)]⟩ : St)) (k + 1) (pos + m) (acc ++ [signed v]) (true),⟨k + 1,pos + m,acc ++ [signed v],true,J,⟨by omega,by simp [hacc],by omega,fun _ => ⟨by omega,by omega,by omega,by rw [uiGo,hv2,show c - (k + 1) = f by omega]; simp [Option.map_map]; rfl⟩,fun e => (by cases e),by omega⟩,J⟩,Xw [0] (by decide) J (Y4 (els_snocI acc _)) (.c J (.c J (.c J (.c J (.c J (.c J (.c J (.nil))))))))⟩
   ·have hb : decide ((k : Int) < c) = false := decide_eq_false hlt
    have hkk : k = c := by omega
    subst hkk
    rw [show uiGo s q (k - k) pos = some ([],pos) by rw [Nat.sub_self]; rfl]
    refine Qd (zy (z0 J (z0 J (K0 J (z0 J (z6 J (zpF J (zz (Ql J ?_)))))))));refine Q7 (T_x (T_x (Xg (Qz (Qd (zy (z0 J (zn J (zz ?_)))))))));refine Ql J (Qh (Qz (zy (z0 J (z0 J (z1 J (z1 J (z1 J (zz ?_)))))))));refine Q8 (F_r ?_)
    exact Xk J J J J (Kf [0] J (Y4 (by simp)) J)
/-! ### Texts -/
def unpackText (s : ByteArray) (p : Int) : Option (ByteArray × Nat) := match decVar s p with
 | none => none
 | some (n,k) => if (s.size : Int) - p - k < n then none else some (s.extract (p + k).toNat (p + k + n).toNat,k + n.toNat)
@[reducible] def utR : Option (ByteArray × Nat) → V
 | none => .tu [.c (.rd [] (.v (.string ⟨#[]⟩))),.c (jn 0),.c (bv false)]
 | some (t,k) => .tu [.c (.rd [] (.v (.string t))),.c (jn k),.c (bv true)]
theorem Zb {s t : ByteArray} {p : Int} {j : Nat} (h : unpackText s p = some (t,j)) : 0 ≤ p ∧ 1 ≤ j ∧ p + j ≤ s.size ∧ t.size + 1 ≤ j ∧ t = s.extract (p + j - t.size).toNat (p + j).toNat := by
 unfold unpackText at h
 split at h
 ·cases h
 ·rename_i n k hd
  have hm := X5 hd
  split at h
  ·cases h
  ·simp only [Option.some.injEq,Prod.mk.injEq] at h
   obtain ⟨rfl,rfl⟩ := h
   have hsz : (s.extract (p + k).toNat (p + k + n).toNat).size = n.toNat := by
    rw [ByteArray.size_extract]; omega
   refine ⟨hm.1,by omega,by omega,by omega,?_⟩
   rw [hsz]
   congr 1 <;> omega
theorem tu3 {a b : V2} {x y : Int} (h : x = y) : V.tu [a,.c (.rd [] (.v (.int .i64 x))),b] = V.tu [a,.c (.rd [] (.v (.int .i64 y))),b] := by rw [h]
theorem I_UnpackText (s : ByteArray) (p : Int) (hs : s.size ≤ 1099511627776) (hp : I64 p) : Con Tryd.prog 50 [] [astr s,ai p] [] (utR (unpackText s p)) := by
 have hd := Xl s p hs hp
 cases hv : decVar s p with
 | none =>
  rw [hv] at hd
  rw [show unpackText s p = none by rw [unpackText,hv]]
  refine Con.of Tryd.func50 J Tryd.ntmps50 J (fun E => ?_)
  refine zy (z1 J (z1 J (z1 J (zz (zy (z0 J (z0 J ?_)))))));refine Ki (Yr J J (hd) J J J) J ?_;refine zx (Vw J) J (ze J (ze J (ze J (z1 J (z1 J (z1 J (zz (Qd (zy ?_)))))))));refine z0 J (zn J (z0 J (z6 J (z6 J (z6 J (z6 J (z6 J (z6 J (z6 J (z6 J (zpT J ?_)))))))))));refine zz (Qm J (zy (z1 J (z1 J (z1 J (zz (Q8 (T_r ?_))))))));refine F_r ?_
  exact Xk J J J J (Kf [] J J J)
 | some r =>
  obtain ⟨n,k⟩ := r
  rw [hv] at hd
  have hm := X5 hv
  by_cases hbig : (s.size : Int) - p - k < n
  ·have hb : decide ((s.size : Int) - p - k < n) = true := decide_eq_true hbig
   rw [show unpackText s p = none by rw [unpackText,hv]; exact if_pos hbig]
   refine Con.of Tryd.func50 J Tryd.ntmps50 J (fun E => ?_)
   refine zy (z1 J (z1 J (z1 J (zz (zy (z0 J (z0 J ?_)))))));refine Ki (Yr J J (hd) J J J) J ?_;refine zx (Vw J) J (ze J (ze J (ze J (z1 J (z1 J (z1 J (zz (Qd (zy ?_)))))))));refine z0 J (zn J (z0 J (z5 J (z0 J (z5 J (z0 J (z5 J (zx (Yy J J J) J (z5 J (z0 J (z5 J ?_)))))))))));refine z8 J (by omega) (z5 J (z0 J (z5 J (z8 J (by omega) (z5 J (z9c J (by assumption) (zpF J (zz (Qm J (Qd ?_))))))))));refine Qc (z1 J (z1 J (z1 J (zz (Q8 (T_r (F_r ?_)))))))
   exact Xk J J J J (Kf [] J J J)
  have hb : decide ((s.size : Int) - p - k < n) = false := decide_eq_false hbig
  rw [show unpackText s p = some (s.extract (p + k).toNat (p + k + n).toNat,k + n.toNat) by rw [unpackText,hv]; exact if_neg hbig]
  refine Con.of Tryd.func50 J Tryd.ntmps50 J (fun E => ?_)
  refine zy (z1 J (z1 J (z1 J (zz (zy (z0 J (z0 J ?_)))))));refine Ki (Yr J J (hd) J J J) J ?_;refine zx (Vw J) J (ze J (ze J (ze J (z1 J (z1 J (z1 J (zz (Qd (zy ?_)))))))));refine z0 J (zn J (z0 J (z5 J (z0 J (z5 J (z0 J (z5 J (zx (Yy J J J) J (z5 J (z0 J (z5 J ?_)))))))))));refine z8 J (by omega) (z5 J (z0 J (z5 J (z8 J (by omega) (z5 J (z9c J (by assumption) (zpF J (zz (Ql J (Qh ?_))))))))));refine Qz (zy (z0 J (z0 J (z0 J (Kd J (z0 J (z0 J (Kd J (z0 J (Kd J ?_))))))))));refine zx (q_sslice J J J J J (by omega)) J (z0 J (z0 J (Kd J (z1 J (z1 J (z1 J (zz (Q8 (F_r ?_)))))))))
  exact Xk J J J J (Kf [] J J (tu3 (by omega)))
theorem Xs (s : ByteArray) (p : Int) (hs : s.size ≤ 1099511627776) (hp : I64 p) : Con Tryd.prog 43 [] [astr s,ai p] [] (utR (unpackText s p)) := by
 have hd := Xq s p hs hp
 cases hv : decVar s p with
 | none =>
  rw [hv] at hd
  rw [show unpackText s p = none by rw [unpackText,hv]]
  refine Con.of Tryd.func43 J Tryd.ntmps43 J (fun E => ?_)
  refine zy (z1 J (z1 J (z1 J (zz (zy (z0 J (z0 J ?_)))))));refine Ki (Yr J J (hd) J J J) J ?_;refine zx (Vw J) J (ze J (ze J (ze J (z1 J (z1 J (z1 J (zz (Qd (zy ?_)))))))));refine z0 J (zn J (z0 J (z6 J (z6 J (z6 J (z6 J (z6 J (z6 J (z6 J (z6 J (zpT J ?_)))))))))));refine zz (Qm J (zy (z1 J (z1 J (z1 J (zz (Q8 (T_r ?_))))))));refine F_r ?_
  exact Xk J J J J (Kf [] J J J)
 | some r =>
  obtain ⟨n,k⟩ := r
  rw [hv] at hd
  have hm := X5 hv
  by_cases hbig : (s.size : Int) - p - k < n
  ·have hb : decide ((s.size : Int) - p - k < n) = true := decide_eq_true hbig
   rw [show unpackText s p = none by rw [unpackText,hv]; exact if_pos hbig]
   refine Con.of Tryd.func43 J Tryd.ntmps43 J (fun E => ?_)
   refine zy (z1 J (z1 J (z1 J (zz (zy (z0 J (z0 J ?_)))))));refine Ki (Yr J J (hd) J J J) J ?_;refine zx (Vw J) J (ze J (ze J (ze J (z1 J (z1 J (z1 J (zz (Qd (zy ?_)))))))));refine z0 J (zn J (z0 J (z5 J (z0 J (z5 J (z0 J (z5 J (zx (Yy J J J) J (z5 J (z0 J (z5 J ?_)))))))))));refine z8 J (by omega) (z5 J (z0 J (z5 J (z8 J (by omega) (z5 J (z9c J (by assumption) (zpF J (zz (Qm J (Qd ?_))))))))));refine Qc (z1 J (z1 J (z1 J (zz (Q8 (T_r (F_r ?_)))))))
   exact Xk J J J J (Kf [] J J J)
  have hb : decide ((s.size : Int) - p - k < n) = false := decide_eq_false hbig
  rw [show unpackText s p = some (s.extract (p + k).toNat (p + k + n).toNat,k + n.toNat) by rw [unpackText,hv]; exact if_neg hbig]
  refine Con.of Tryd.func43 J Tryd.ntmps43 J (fun E => ?_)
  refine zy (z1 J (z1 J (z1 J (zz (zy (z0 J (z0 J ?_)))))));refine Ki (Yr J J (hd) J J J) J ?_;refine zx (Vw J) J (ze J (ze J (ze J (z1 J (z1 J (z1 J (zz (Qd (zy ?_)))))))));refine z0 J (zn J (z0 J (z5 J (z0 J (z5 J (z0 J (z5 J (zx (Yy J J J) J (z5 J (z0 J (z5 J ?_)))))))))));refine z8 J (by omega) (z5 J (z0 J (z5 J (z8 J (by omega) (z5 J (z9c J (by assumption) (zpF J (zz (Ql J (Qh ?_))))))))));refine Qz (zy (z0 J (z0 J (z0 J (Kd J (z0 J (z0 J (Kd J (z0 J (Kd J ?_))))))))));refine zx (q_sslice J J J J J (by omega)) J (z0 J (z0 J (Kd J (z1 J (z1 J (z1 J (zz (Q8 (F_r ?_)))))))))
  exact Xk J J J J (Kf [] J J (tu3 (by omega)))
def openText (s : ByteArray) : Option ByteArray := if s.size < 4 then none else if sealText (s.extract 4 s.size) = s then some (s.extract 4 s.size) else none
@[reducible] def otR : Option ByteArray → V
 | none => .tu [.c (.rd [] (.v (.string ⟨#[]⟩))),.c (bv false)]
 | some t => .tu [.c (.rd [] (.v (.string t))),.c (bv true)]
theorem Yk {s t : ByteArray} (h : openText s = some t) : sealText t = s ∧ t.size + 4 = s.size := by
 unfold openText at h
 split at h
 ·cases h
 ·split at h
  ·rename_i h1 h2
   simp only [Option.some.injEq] at h
   subst h
   refine ⟨h2,?_⟩
   have := congrArg ByteArray.size h2
   rw [sealText_size] at this
   exact this
  ·cases h
theorem openText_seal (t : ByteArray) : openText (sealText t) = some t := by
 have h1 := sealText_size t
 have h2 : (sealText t).extract 4 (sealText t).size = t := by
  rw [← bs_of ((sealText t).extract 4 (sealText t).size),extract_list,h1]
  have h3 : (sealText t).data.toList = seal4 (checksum t) ++ t.data.toList := by
   show (bs (seal4 (checksum t)) ++ t).data.toList = _
   rw [ByteArray.data_append]
   simp
  rw [h3,List.drop_append_of_le_length (by simp [seal4]),show List.drop 4 (seal4 (checksum t)) = [] from rfl,List.nil_append,show t.size + 4 - 4 = t.data.toList.length by simp,List.take_length,bs_of]
 rw [openText,if_neg (by omega),h2,if_pos rfl]
theorem I_OpenText (s : ByteArray) (hs : s.size ≤ 1099511627776) : Con Tryd.prog 49 [] [astr s] [] (otR (openText s)) := by
 by_cases h4 : s.size < 4
 ·have hb : decide ((s.size : Int) < 4) = true := decide_eq_true (by omega)
  rw [show openText s = none by rw [openText,if_pos h4]]
  refine Con.of Tryd.func49 J Tryd.ntmps49 J (fun E => ?_)
  refine zy (z1 J (z1 J (zz (Qd (zy (z0 J (zx (Yy J J J) J (K0 J ?_))))))));refine zz (Qm J (zy (z1 J (z1 J (zz (Q8 (T_r (F_r ?_))))))))
  exact Xj J J J (Kf [] J J J)
 have hb : decide ((s.size : Int) < 4) = false := decide_eq_false (by omega)
 have hsz : (s.extract (4 : Int).toNat s.size).size ≤ 1099511627776 := by rw [ByteArray.size_extract]; omega
 have hsl := I_SealText (s.extract (4 : Int).toNat s.size) hsz
 by_cases he : sealText (s.extract (4 : Int).toNat s.size) = s
 ·have hb2 : decide (sealText (s.extract (4 : Int).toNat s.size) ≠ s) = false := decide_eq_false fun h => h he
  rw [show openText s = some (s.extract (4 : Int).toNat s.size) by rw [openText,if_neg h4]; exact if_pos he]
  refine Con.of Tryd.func49 J Tryd.ntmps49 J (fun E => ?_)
  refine zy (z1 J (z1 J (zz (Qd (zy (z0 J (zx (Yy J J J) J (K0 J ?_))))))));refine zz (Ql J (Qh (Qz (zy (z0 J (zx (q_sslice1 J J J J (by omega)) J (z1 J (zz ?_))))))));refine Qd (zy (z0 J ?_));refine zx (Qj J J (hsl) J) J ?_;refine z0 J (zx (Kh J) J (zz (Ql J (Qh (Qz (zy (z0 J (z1 J (z1 J ?_)))))))));refine zz (Q8 (F_r ?_))
  exact Xj J J J (Kf [] J J J)
 ·have hb2 : decide (sealText (s.extract (4 : Int).toNat s.size) ≠ s) = true := decide_eq_true he
  rw [show openText s = none by rw [openText,if_neg h4]; exact if_neg he]
  refine Con.of Tryd.func49 J Tryd.ntmps49 J (fun E => ?_)
  refine zy (z1 J (z1 J (zz (Qd (zy (z0 J (zx (Yy J J J) J (K0 J ?_))))))));refine zz (Ql J (Qh (Qz (zy (z0 J (zx (q_sslice1 J J J J (by omega)) J (z1 J (zz ?_))))))));refine Qd (zy (z0 J ?_));refine zx (Qj J J (hsl) J) J ?_;refine z0 J (zx (Kh J) J (zz (Qm J (zy (z1 J (z1 J (zz (Q8 ?_))))))));refine T_r (F_r ?_)
  exact Xj J J J (Kf [] J J J)
theorem S_OpenText (s : ByteArray) (hs : s.size ≤ 1099511627776) : Con Tryd.prog 42 [] [astr s] [] (otR (openText s)) := by
 by_cases h4 : s.size < 4
 ·have hb : decide ((s.size : Int) < 4) = true := decide_eq_true (by omega)
  rw [show openText s = none by rw [openText,if_pos h4]]
  refine Con.of Tryd.func42 J Tryd.ntmps42 J (fun E => ?_)
  refine zy (z1 J (z1 J (zz (Qd (zy (z0 J (zx (Yy J J J) J (K0 J ?_))))))));refine z0 J (z6 J (z6 J (z6 J (z6 J (z6 J (zpT J (zz (Qm J (zy ?_)))))))));refine z1 J (z1 J (zz (Q8 (T_r (F_r ?_)))))
  exact Xj J J J (Kf [] J J J)
 have hb : decide ((s.size : Int) < 4) = false := decide_eq_false (by omega)
 have hsz : (s.extract (4 : Int).toNat s.size).size ≤ 1099511627776 := by rw [ByteArray.size_extract]; omega
 have hsl := S_SealText (s.extract (4 : Int).toNat s.size) hsz
 by_cases he : sealText (s.extract (4 : Int).toNat s.size) = s
 ·have hb2 : decide (sealText (s.extract (4 : Int).toNat s.size) ≠ s) = false := decide_eq_false fun h => h he
  rw [show openText s = some (s.extract (4 : Int).toNat s.size) by rw [openText,if_neg h4]; exact if_pos he]
  refine Con.of Tryd.func42 J Tryd.ntmps42 J (fun E => ?_)
  refine zy (z1 J (z1 J (zz (Qd (zy (z0 J (zx (Yy J J J) J (K0 J ?_))))))));refine z0 J (z5 J (z0 J (z5 J (zx (q_sslice1 J J J J (by omega)) J (z5 J ?_)))));refine zx (Qj J J (hsl) J) J ?_;refine z5 J (z0 J (z5 J (zx (Kh J) J (zpF J (zz (Ql J (Qh (Qz (zy ?_)))))))));refine z0 J (zx (q_sslice1 J J J J (by omega)) J (z1 J (z1 J (zz (Q8 (F_r ?_))))))
  exact Xj J J J (Kf [] J J J)
 ·have hb2 : decide (sealText (s.extract (4 : Int).toNat s.size) ≠ s) = true := decide_eq_true he
  rw [show openText s = none by rw [openText,if_neg h4]; exact if_neg he]
  refine Con.of Tryd.func42 J Tryd.ntmps42 J (fun E => ?_)
  refine zy (z1 J (z1 J (zz (Qd (zy (z0 J (zx (Yy J J J) J (K0 J ?_))))))));refine z0 J (z5 J (z0 J (z5 J (zx (q_sslice1 J J J J (by omega)) J (z5 J ?_)))));refine zx (Qj J J (hsl) J) J ?_;refine z5 J (z0 J (z5 J (zx (Kh J) J (zpF J (zz (Qm J (zy (z1 J (z1 J ?_)))))))));refine zz (Q8 (T_r (F_r ?_)))
  exact Xj J J J (Kf [] J J J)
end
end Go.Proofs.YtcjclaoogdblbaaDoor
