/-
  Parts of the proof (rules, data, and what functions of the program and of the reference return), among them: The players' columns read from bytes: unpackColumns of the program, l07Columns of the reference; Streams of rows as bytes: EncodeStream, in the program and in the reference.
  Conditions: those that each theorem names.
-/
import Derived.Test.YtcjclaoogdblbaaDoorDDDrRowk22
import Derived.Test.YtcjclaoogdblbaaDoorDDDrRowk25
import Derived.Test.YtcjclaoogdblbaaDoorDDDrRowk26
set_option linter.unusedSimpArgs false
set_option linter.unusedVariables false
set_option maxRecDepth 8000
set_option maxHeartbeats 8000000
namespace Go.Proofs.YtcjclaoogdblbaaDoor
section
open Go.RowKit

theorem mk_next {α : Type} [Enc α] {ms xs : List α} (hl : ms.length = xs.length) {i : Nat} (h : i < xs.length) {c : T} {e : List T} (hc : Enc.e (ms[i]'(by omega)) = [c]) (he : e.length = 1 := by rfl) : els (ms.take (i + 1) ++ xs.drop (i + 1)) = (els (ms.take i ++ xs.drop i)).set i (splice e 0 [c]) := by
 have h1 : splice e 0 [c] = Enc.e (ms[i]'(by omega)) := by
  rw [hc]
  match e,he with
  | [t],_ => rfl
 have h2 : i < ms.length := by omega
 rw [h1,← els_set]
 congr 1
 have hi : (ms.take i).length = i := by simp; omega
 rw [List.take_succ_eq_append_getElem h2,List.set_append_right _ _ (by omega)]
 have : i - (ms.take i).length = 0 := by omega
 rw [this,List.drop_eq_getElem_cons h,List.set_cons_zero,List.append_assoc]
 rfl
theorem mk_at {α : Type} {ms xs : List α} (hl : ms.length = xs.length) {i : Nat} (h : i < xs.length) (h' : i < (ms.take i ++ xs.drop i).length := by simp; omega) : (ms.take i ++ xs.drop i)[i] = xs[i] := by
 have hi : (ms.take i).length = i := by simp; omega
 rw [List.getElem_append_right (by omega)]
 simp [hi]
theorem mk_len {α : Type} {ms xs : List α} (hl : ms.length = xs.length) {i : Nat} (h : i ≤ xs.length) : (ms.take i ++ xs.drop i).length = xs.length := by simp; omega
theorem mk_end {α : Type} {ms xs : List α} (hl : ms.length = xs.length) {i : Nat} (h : xs.length ≤ i) : ms.take i ++ xs.drop i = ms := by rw [List.take_of_length_le (by omega),List.drop_of_length_le h,List.append_nil]

def markI (xs : List Int) (k : Int) : List Int := (List.range xs.length).map fun (i : Nat) => k + i
theorem markI_len (xs : List Int) (k : Int) : (markI xs k).length = xs.length := by simp [markI]
theorem markI_at {xs : List Int} {k : Int} {i : Nat} (h : i < (markI xs k).length) : (markI xs k)[i] = k + i := by simp [markI]
theorem L_markIntS (xs : List Int) (k : Int) (hL : xs.length ≤ 1073741824) (h0 : 0 < k) (hk : k ≤ 4294967296) : Con Tryd.prog 99 [.row 1 (els xs),.gh 0 (.c (.ref 0))] [.c (.ref 0),ai k] [.row 1 (els (markI xs k)),.gh 0 (.c (.ref 0))] (I (k + xs.length)) := by
 have hml := markI_len xs k
 refine Con.of Tryd.func99 J Tryd.ntmps99 J (fun E => ?_)
 refine zy (z1 J (zz (Qd (zy (z1 J (zz (Qk ?_)))))));refine Xe (fun m st => ∃ i : Nat,i + m = xs.length ∧ (True) ∧ st = (⟨_,[(0,.o (.c (.ref 0))),(1,I (k + i)),(5,I i)],[.row 1 (els ((markI xs k).take i ++ xs.drop i)),.gh 0 (.c (.ref 0))]⟩ : St)) (xs.length) ⟨(fun i : Nat => (⟨_,[(0,.o (.c (.ref 0))),(1,I (k + i)),(5,I i)],[.row 1 (els ((markI xs k).take i ++ xs.drop i)),.gh 0 (.c (.ref 0))]⟩ : St)) 0,⟨0,by omega,trivial,J⟩,Z7 [0,1] J (.c J (.cons (Kt) (.c J (.nil))))⟩ ?_
 rintro m_A _ ⟨i,hk_A,hp_A,rfl⟩
 have hl2 : (els ((markI xs k).take i ++ xs.drop i)).length = xs.length := by rw [X8,mk_len hml (by omega)]
 refine Qd (zy (z0 J (z0 J (zx (Yx J J J J) J (zx (Zl J) J (zz ?_))))))
 refine Q9 J (fun h => ?_) (fun h => ?_)
 ·have h3 : i < xs.length := by have := of_decide_eq_true h; omega
  have hi : i < ((markI xs k).take i ++ xs.drop i).length := by rw [mk_len hml (by omega)]; exact h3
  have hat := X7 hi
  refine Qh (Qz (Qd (Qk (zy (z0 J (z0 J (z0 J (zx (Q2 J J J J J (by omega) (by omega)) J ?_))))))));refine Xc J J J J J J J J J (by assumption) J J (zz (Qc (z0 J (Kd J (z1 J (Qe (Q0 (Qz (Qc (z0 J ?_))))))))));refine Kd J (z1 J (zz ?_))
  exact ⟨xs.length - (i + 1),by omega,(fun i : Nat => (⟨_,[(0,.o (.c (.ref 0))),(1,I (k + i)),(5,I i)],[.row 1 (els ((markI xs k).take i ++ xs.drop i)),.gh 0 (.c (.ref 0))]⟩ : St)) (i + 1),⟨i + 1,by omega,trivial,J⟩,Xw [0,1] (by decide) J (row2 (mk_next hml h3 (by rw [markI_at]; rfl))) (.c J (.cons (Kt) (.c J (.nil))))⟩
 ·have h3 : ¬ ((i : Int) < (els ((markI xs k).take i ++ xs.drop i)).length) := of_decide_eq_false h
  have hi : i = xs.length := by omega
  refine Q7 (T_x (T_x (Xg (Qz (zy (z0 J (z1 J (zz (Q8 ?_)))))))));refine F_r ?_
  exact Ke J (Kf [0,1] J (row2 (by rw [mk_end hml (by omega)])) (Kt))
theorem L_heldIntS (xs : List Int) (k : Int) (hL : xs.length ≤ 1073741824) (h0 : 0 < k) (hk : k ≤ 4294967296) : Con Tryd.prog 100 [] [al (markI xs k),ai k] [] (I (k + xs.length)) := by
 have hlx := X8 (markI xs k)
 rw [markI_len] at hlx
 refine Con.of Tryd.func100 J Tryd.ntmps100 J (fun E => ?_)
 refine zy (z1 J (zz (Qd (zy (z1 J (zz (Qk ?_)))))));refine Xe (fun m st => ∃ i : Nat,i + m = xs.length ∧ (True) ∧ st = (⟨_,[(0,L (markI xs k)),(1,I (k + i)),(5,I i)],[]⟩ : St)) (xs.length) ⟨(fun i : Nat => (⟨_,[(0,L (markI xs k)),(1,I (k + i)),(5,I i)],[]⟩ : St)) 0,⟨0,by omega,trivial,J⟩,Z7 [] J (.c J (.cons (Kt) (.c J (.nil))))⟩ ?_
 rintro m_A _ ⟨i,hk_A,hp_A,rfl⟩
 refine Qd (zy (z0 J (z0 J (zx (Yw J J J) J (zx (Zl J) J (zz ?_))))))
 refine Q9 J (fun h => ?_) (fun h => ?_)
 ·have h3 : i < xs.length := by have := of_decide_eq_true h; omega
  have hi : i < (markI xs k).length := by rw [markI_len]; exact h3
  have hat := X7 hi
  rw [markI_at] at hat
  refine Qh (Qz (Qd (Qk (Qd (zy (z0 J (z0 J (zx (Q1 J J J J (by omega) (by assumption) J) J (zx (Kc J) J (z0 J ?_))))))))));refine zx (q_neqR J J J J) J (zz (Ql J (Qh (Qz (Qc (z0 J (Kd J (z1 J (Qe (Q0 ?_))))))))));refine Qz (Qc (z0 J (Kd J (z1 J (zz ?_)))))
  exact ⟨xs.length - (i + 1),by omega,(fun i : Nat => (⟨_,[(0,L (markI xs k)),(1,I (k + i)),(5,I i)],[]⟩ : St)) (i + 1),⟨i + 1,by omega,trivial,J⟩,Z7 [] J (.c J (.cons (Kt) (.c J (.nil))))⟩
 ·have h3 : ¬ ((i : Int) < (els (markI xs k)).length) := of_decide_eq_false h
  refine Q7 (T_x (T_x (Xg (Qz (zy (z0 J (z1 J (zz (Q8 ?_)))))))));refine F_r ?_
  exact Ke J (Kf [] J J (Kt))

def tot (xs : List (List Int)) : Nat := (xs.map List.length).sum
theorem tot_next {xs : List (List Int)} {i : Nat} (h : i < xs.length) : tot (xs.take (i + 1)) = tot (xs.take i) + xs[i].length := by
 unfold tot
 rw [List.take_succ_eq_append_getElem h,List.map_append,List.sum_append]
 simp
theorem tot_le (xs : List (List Int)) (i : Nat) : tot (xs.take i) ≤ tot xs := by
 unfold tot
 conv => rhs; rw [← List.take_append_drop i xs,List.map_append,List.sum_append]
 omega
theorem tot_at {xs : List (List Int)} {i : Nat} (h : i < xs.length) : tot (xs.take i) + xs[i].length ≤ tot xs := by rw [← tot_next h]; exact tot_le _ _
theorem tot_end {xs : List (List Int)} {i : Nat} (h : xs.length ≤ i) : tot (xs.take i) = tot xs := by rw [List.take_of_length_le h]
def markII (xs : List (List Int)) (k : Int) : List (List Int) := (List.range xs.length).map fun (i : Nat) => markI (xs.getD i []) (k + tot (xs.take i))
theorem markII_len (xs : List (List Int)) (k : Int) : (markII xs k).length = xs.length := by simp [markII]
theorem markII_at {xs : List (List Int)} {k : Int} {i : Nat} (h : i < xs.length) (h' : i < (markII xs k).length := by rw [markII_len]; assumption) : (markII xs k)[i] = markI xs[i] (k + tot (xs.take i)) := by simp [markII,List.getD_eq_getElem?_getD,h]
theorem L_markIntSS (xs : List (List Int)) (k : Int) (hL : xs.length ≤ 1073741824) (ht : tot xs ≤ 1073741824) (h0 : 0 < k) (hk : k ≤ 2147483648) : Con Tryd.prog 59 [.row 1 (els xs),.gh 0 (.c (.ref 0))] [.c (.ref 0),ai k] [.row 1 (els (markII xs k)),.gh 0 (.c (.ref 0))] (I (k + tot xs)) := by
 have hml := markII_len xs k
 refine Con.of Tryd.func59 J Tryd.ntmps59 J (fun E => ?_)
 refine zy (z1 J (zz (Qd (zy (z1 J (zz (Qk ?_)))))));refine Xe (fun m st => ∃ i : Nat,i + m = xs.length ∧ (True) ∧ st = (⟨_,[(0,.o (.c (.ref 0))),(1,I (k + tot (xs.take i))),(5,I i)],[.row 1 (els ((markII xs k).take i ++ xs.drop i)),.gh 0 (.c (.ref 0))]⟩ : St)) (xs.length) ⟨(fun i : Nat => (⟨_,[(0,.o (.c (.ref 0))),(1,I (k + tot (xs.take i))),(5,I i)],[.row 1 (els ((markII xs k).take i ++ xs.drop i)),.gh 0 (.c (.ref 0))]⟩ : St)) 0,⟨0,by omega,trivial,J⟩,Z7 [0,1] J (.c J (.cons (Xn (by simp [tot])) (.c J (.nil))))⟩ ?_
 rintro m_A _ ⟨i,hk_A,hp_A,rfl⟩
 have hl2 : (els ((markII xs k).take i ++ xs.drop i)).length = xs.length := by rw [X8,mk_len hml (by omega)]
 refine Qd (zy (z0 J (z0 J (zx (Yx J J J J) J (zx (Zl J) J (zz ?_))))))
 refine Q9 J (fun h => ?_) (fun h => ?_)
 ·have h3 : i < xs.length := by have := of_decide_eq_true h; omega
  have hi : i < ((markII xs k).take i ++ xs.drop i).length := by rw [mk_len hml (by omega)]; exact h3
  have hat := X7 hi
  rw [mk_at hml h3] at hat
  have ht1 := tot_at h3
  have hc := L_markIntS xs[i] (k + tot (xs.take i)) (by omega) (by omega) (by omega)
  refine Qh (Qz (Qd (Qk (Qc (z0 J (z0 J (zx (Q2 J J J J J (by omega) (by omega)) J (zx (q_lee J J J J (by assumption) J) J (z0 J ?_)))))))));refine M_inner hc J J J J J J J J (by assumption) J ?_;refine z1 J (Qe (Q0 (Qz (Qc (z0 J (Kd J (z1 J (zz ?_))))))))
  exact ⟨xs.length - (i + 1),by omega,(fun i : Nat => (⟨_,[(0,.o (.c (.ref 0))),(1,I (k + tot (xs.take i))),(5,I i)],[.row 1 (els ((markII xs k).take i ++ xs.drop i)),.gh 0 (.c (.ref 0))]⟩ : St)) (i + 1),⟨i + 1,by omega,trivial,J⟩,Xw [0,1] (by decide) J (row2 (mk_next hml h3 (by rw [markII_at h3]; rfl))) (.c J (.cons (Xn (by rw [tot_next h3]; omega)) (.c J (.nil))))⟩
 ·have h3 : ¬ ((i : Int) < (els ((markII xs k).take i ++ xs.drop i)).length) := of_decide_eq_false h
  have ht1 := tot_end (show xs.length ≤ i by omega)
  refine Q7 (T_x (T_x (Xg (Qz (zy (z0 J (z1 J (zz (Q8 ?_)))))))));refine F_r ?_
  exact Ke J (Kf [0,1] J (row2 (by rw [mk_end hml (by omega)])) (Xn (by rw [ht1])))
theorem L_heldIntSS (xs : List (List Int)) (k : Int) (hL : xs.length ≤ 1073741824) (ht : tot xs ≤ 1073741824) (h0 : 0 < k) (hk : k ≤ 2147483648) : Con Tryd.prog 61 [] [al (markII xs k),ai k] [] (I (k + tot xs)) := by
 have hlx := X8 (markII xs k)
 rw [markII_len] at hlx
 refine Con.of Tryd.func61 J Tryd.ntmps61 J (fun E => ?_)
 refine zy (z1 J (zz (Qd (zy (z1 J (zz (Qk ?_)))))));refine Xe (fun m st => ∃ i : Nat,i + m = xs.length ∧ (True) ∧ st = (⟨_,[(0,L (markII xs k)),(1,I (k + tot (xs.take i))),(5,I i)],[]⟩ : St)) (xs.length) ⟨(fun i : Nat => (⟨_,[(0,L (markII xs k)),(1,I (k + tot (xs.take i))),(5,I i)],[]⟩ : St)) 0,⟨0,by omega,trivial,J⟩,Z7 [] J (.c J (.cons (Xn (by simp [tot])) (.c J (.nil))))⟩ ?_
 rintro m_A _ ⟨i,hk_A,hp_A,rfl⟩
 refine Qd (zy (z0 J (z0 J (zx (Yw J J J) J (zx (Zl J) J (zz ?_))))))
 refine Q9 J (fun h => ?_) (fun h => ?_)
 ·have h3 : i < xs.length := by have := of_decide_eq_true h; omega
  have hi : i < (markII xs k).length := by rw [markII_len]; exact h3
  have hat := X7 hi
  rw [markII_at h3] at hat
  have ht1 := tot_at h3
  have hc := L_heldIntS xs[i] (k + tot (xs.take i)) (by omega) (by omega) (by omega)
  have hn : decide (k + (tot (xs.take i) : Int) + xs[i].length < 0) = false := decide_eq_false (by omega)
  refine Qh (Qz (Qd (Qk (zy (z0 J (z0 J (zx (Q1 J J J J (by omega) (by assumption) J) J (zx (Kc J) J (z0 J ?_)))))))));refine zx (Qj J J (hc) J) J ?_;refine z1 J (zz (zy (z0 J (K0 J (zz (Ql J (Qh (Q0 ?_))))))));refine Qz (Qc (z0 J (Kd J (z1 J (zz ?_)))))
  exact ⟨xs.length - (i + 1),by omega,(fun i : Nat => (⟨_,[(0,L (markII xs k)),(1,I (k + tot (xs.take i))),(5,I i)],[]⟩ : St)) (i + 1),⟨i + 1,by omega,trivial,J⟩,Z7 [] J (.c J (.cons (Xn (by rw [tot_next h3]; omega)) (.c J (.nil))))⟩
 ·have h3 : ¬ ((i : Int) < (els (markII xs k)).length) := of_decide_eq_false h
  have ht1 := tot_end (show xs.length ≤ i by omega)
  refine Q7 (T_x (T_x (Xg (Qz (zy (z0 J (z1 J (zz (Q8 ?_)))))))));refine F_r ?_
  exact Ke J (Kf [] J J (Xn (by rw [ht1])))
theorem L_markReplay (x : TReplay) (k : Int) (h1 : x.Level.Rows.length ≤ 1048576) (h2 : x.Keys.length ≤ 1048576) (h3 : x.Rows.length ≤ 1048576) (h4 : tot x.Rows ≤ 1048576) (h0 : 0 < k) (hk : k ≤ 1073741823) : Con Tryd.prog 23 [.row 1 (els x.Level.Rows),.row 1 (els x.Rows),.row 1 (els x.Keys),.gh 0 (.ag (ownV 0 (Enc.e x)))] [.ag (ownV 0 (Enc.e x)),ai k]
  [.row 1 (els (markS x.Level.Rows k)),.row 1 (els (markII x.Rows (k + x.Level.Rows.length))),.row 1 (els (markS x.Keys (k + x.Level.Rows.length + tot x.Rows))),.gh 0 (.ag (ownV 0 (Enc.e x)))] (I (k + x.Level.Rows.length + tot x.Rows + x.Keys.length)) := by
 refine Con.of Tryd.func23 J Tryd.ntmps23 J (fun E => ?_)
 refine zy (Ki (Qq J J J J) J (z1 J (zz (zy (z2 J J J (z4 J J J (z0 J ?_)))))));refine Xb (lo := [_]) (gs := [(0,.ag [.ref 0])]) (lo' := [_]) (new := []) [0] [(0,0,.ref 0)] (L_markLevel x.Level.Rows k h1 h0 (by omega)) J J J J J J J J J J J J J J J J J ?_;refine z1 J (zz (zy (z2 J J J (z3 J (z0 J ?_)))));refine Xb (lo := [_]) (gs := [(0,.c (.ref 0))]) (lo' := [_]) (new := []) [1] [(0,0,.ref 0)] (L_markIntSS x.Rows (k + x.Level.Rows.length) (by omega) (by omega) (by omega) (by omega)) J J J J J J J J J J J J J J J J J ?_;refine z1 J (zz (zy (z2 J J J (z3 J (z0 J ?_)))));refine Xb (lo := [_]) (gs := [(0,.c (.ref 0))]) (lo' := [_]) (new := []) [2] [(0,0,.ref 0)] (L_markStringS x.Keys (k + x.Level.Rows.length + tot x.Rows) h2 (by omega) (by omega)) J J J J J J J J J J J J J J J J J ?_;refine z1 J (zz (zy (z0 J (z1 J (zz (Q8 (F_r ?_)))))))
 exact Ke J (Kf [0,1,2,3] J J J)
def markR (x : TReplay) (k : Int) : TReplay := ⟨⟨markS x.Level.Rows k⟩,x.Players,x.Seed,x.Every,markII x.Rows (k + x.Level.Rows.length),markS x.Keys (k + x.Level.Rows.length + tot x.Rows)⟩
theorem L_heldReplay (x : TReplay) (k : Int) (h1 : x.Level.Rows.length ≤ 1048576) (h2 : x.Keys.length ≤ 1048576) (h3 : x.Rows.length ≤ 1048576) (h4 : tot x.Rows ≤ 1048576) (h0 : 0 < k) (hk : k ≤ 1073741823) : Con Tryd.prog 24 [] [ag (markR x k),ai k] [] (I (k + x.Level.Rows.length + tot x.Rows + x.Keys.length)) := by
 have hn : decide (k + (x.Level.Rows.length : Int) < 0) = false := decide_eq_false (by omega)
 have hm : decide (k + (x.Level.Rows.length : Int) + tot x.Rows < 0) = false := decide_eq_false (by omega)
 have hm2 : decide (k + (x.Level.Rows.length : Int) + tot x.Rows + x.Keys.length < 0) = false := decide_eq_false (by omega)
 refine Con.of Tryd.func24 J Tryd.ntmps24 J (fun E => ?_)
 refine zy (Ki (Qq J J J J) J (z1 J (zz (zy (z2 J J J (z4 J J J (z0 J ?_)))))));refine zx (Qj J J (L_heldLevel x.Level.Rows k h1 h0 (by omega)) J) J ?_;refine z1 J (zz (Qd (zy (z0 J (K0 J (zz (Ql J (Qh ?_))))))));refine Qz (zy (z2 J J J (z3 J (z0 J ?_))));refine zx (Qj J J (L_heldIntSS x.Rows (k + x.Level.Rows.length) (by omega) (by omega) (by omega) (by omega)) J) J ?_;refine z1 J (zz (Qd (zy (z0 J (K0 J (zz (Ql J (Qh ?_))))))));refine Qz (zy (z2 J J J (z3 J (z0 J ?_))));refine zx (Qj J J (L_heldStringS x.Keys (k + x.Level.Rows.length + tot x.Rows) h2 (by omega) (by omega)) J) J ?_;refine z1 J (zz (Qd (zy (z0 J (K0 J (zz (Ql J (Qh ?_))))))));refine Qz (zy (z0 J (z1 J (zz (Q8 (F_r ?_))))))
 exact Ke J (Kf [] J J J)
end
section
open Go.RowKit

def snocs (rows : List (List Int)) (l : List Int) : List (List Int) := List.zipWith (fun r x => r ++ [x]) rows l
def colsGo (s : ByteArray) (n : Nat) : Nat → Nat → List (List Int) → Option (List (List Int) × Nat)
 | 0,pos,rows => some (rows,pos)
 | c + 1,pos,rows => match unpackText s (pos : Int) with
  | none => none
  | some (t,k) => match unpackTrack t with
   | none => none
   | some l => if l.length = n then colsGo s n c (pos + k) (snocs rows l) else none
@[reducible] def ucO : Option (List (List Int) × Nat) → List Ob
 | none => [.row 1 []]
 | some (l,_) => [.row 1 (els l)]
@[reducible] def ucR (p : Nat) : Option (List (List Int) × Nat) → V
 | none => .tu [.c (.ref 0),.c (jn 0),.c (bv false)]
 | some (_,e) => .tu [.c (.ref 0),.c (jn ((e : Int) - p)),.c (bv true)]
@[reducible] def lcR : Option (List (List Int) × Nat) → V
 | none => .tu [.c (.ref 0),.c (jn 0),.c (bv false)]
 | some (_,e) => .tu [.c (.ref 0),.c (jn e),.c (bv true)]
theorem utGo_some (s : ByteArray) : ∀ (f pos : Nat) (acc l : List Int),acc.length ≤ 400 → (∀ x ∈ acc,I64 x) → utGo s f pos acc = some l → l.length ≤ 400 ∧ ∀ x ∈ l,I64 x := by
 intro f
 induction f with
 | zero => intro pos acc l h1 h2 h; simp only [utGo,Option.some.injEq] at h; subst h; exact ⟨h1,h2⟩
 | succ f ih =>
  intro pos acc l h1 h2 h
  rw [utGo] at h
  split at h
  ·split at h
   ·cases h
   ·rename_i n k hd
    have hm := X5 hd
    split at h
    ·cases h
    ·refine ih _ _ l (by simp; omega) (fun x hx => ?_) h
     rcases List.mem_append.1 hx with hx | hx
     ·exact h2 x hx
     ·have := List.eq_of_mem_replicate hx
      exact ⟨by omega,by omega⟩
  ·simp only [Option.some.injEq] at h; subst h; exact ⟨h1,h2⟩
theorem Zc {s : ByteArray} {l : List Int} (h : unpackTrack s = some l) : packTrack l = s ∧ l.length ≤ 400 ∧ ∀ x ∈ l,I64 x := by
 unfold unpackTrack at h
 split at h
 ·cases h
 ·rename_i l' hl
  split at h
  ·simp only [Option.some.injEq] at h
   subst h
   rename_i hp
   exact ⟨hp,utGo_some s _ _ _ _ (by simp) (fun x hx => by simp at hx) hl⟩
  ·cases h
theorem unpackTrack_nil : unpackTrack ⟨#[]⟩ = some [] := by
 have h1 : packTrack [] = ⟨#[]⟩ := by rw [packTrack,if_pos ⟨by simp,by simp [inOk]⟩,packRuns]
 rw [unpackTrack,show utGo ⟨#[]⟩ (ByteArray.mk #[]).size 0 [] = some [] from rfl]
 exact if_pos h1
theorem snocs_len {rows : List (List Int)} {l : List Int} (h : l.length = rows.length) : (snocs rows l).length = rows.length := by simp [snocs,h]
theorem snocs_at {rows : List (List Int)} {l : List Int} {i : Nat} (h1 : i < rows.length) (h2 : i < l.length) (h : i < (snocs rows l).length) : (snocs rows l)[i] = rows[i] ++ [l[i]] := by simp [snocs]
theorem make_rows (n : Nat) : List.replicate (n : Int).toNat ([Value.slice none 0 0].map (zT 1)) = els (List.replicate n ([] : List Int)) := by
 rw [els,List.map_replicate]
 rfl
theorem app_next {ms rows : List (List Int)} (hl : ms.length = rows.length) {i : Nat} (h : i < rows.length) {x : Int} (hm : ms[i]'(by omega) = rows[i] ++ [x]) :
  els (ms.take (i + 1) ++ rows.drop (i + 1)) = ((els (ms.take i ++ rows.drop i)).set i (splice [T.sl 1 (els rows[i])] 0 [.un])).set i (splice (splice [T.sl 1 (els rows[i])] 0 [.un]) 0 [.sl 1 (els rows[i] ++ [[.v (.int .i64 x)]])]) := by
 rw [List.set_set]
 exact mk_next (e := [T.sl 1 (els rows[i])]) hl h (c := .sl 1 (els rows[i] ++ [[.v (.int .i64 x)]])) (by rw [hm,← els_snocI]; rfl)
theorem I_unpackColumns (s : ByteArray) (p c n : Nat) (hs : s.size ≤ 1099511627776) (hp : p ≤ s.size) (hc : c ≤ 4) (hn : n ≤ 400) :
  Con Tryd.prog 54 [] [astr s,ai p,ai c,ai n] (ucO (colsGo s n c p (List.replicate n []))) (ucR p (colsGo s n c p (List.replicate n []))) := by
 refine Con.of Tryd.func54 J Tryd.ntmps54 J (fun E => ?_)
 refine zy (z1 J (z1 J (z1 J (zz (zy (z0 J ?_))))));refine Ki (q_make 1 J J J J (by omega) (by omega) (by omega) J (by simp)) J ?_;refine z1 J (zz (zy (z0 J (z1 J (zz (Qd (zy ?_)))))));refine z1 J (zz (Qk ?_))
 refine Xe (fun m__ st => ∃ (k : Nat) (pos : Nat) (rows : List (List Int)),c - k = m__ ∧ (k ≤ c ∧ rows.length = n ∧ (∀ r ∈ rows,r.length ≤ k) ∧ p ≤ pos ∧ pos ≤ s.size ∧ colsGo s n (c - k) pos rows = colsGo s n c p (List.replicate n [])) ∧ st = (⟨_,[(0,S s),(1,I p),(2,I c),(3,I n),(11,.o (.c (.ref 0))),(12,I pos),(13,I k)],[.row 1 (els rows)]⟩ : St)) _ ⟨(fun (k : Nat) (pos : Nat) (rows : List (List Int)) => (⟨_,[(0,S s),(1,I p),(2,I c),(3,I n),(11,.o (.c (.ref 0))),(12,I pos),(13,I k)],[.row 1 (els rows)]⟩ : St)) (0) (p) (List.replicate n []),⟨0,p,List.replicate n [],J,⟨by omega,by simp,fun r hr => by rw [List.eq_of_mem_replicate hr]; simp,by omega,by omega,J⟩,J⟩,Xw [0] (by decide) J (Y4 (make_rows n).symm) (.c J (.c J (.c J (.c J (.c J (.c J (.c J (.nil))))))))⟩ ?_
 rintro m_A _ ⟨k,pos,rows,hk_A,hp_A,rfl⟩
 obtain ⟨hkc,hrl,hrk,hpp,hps,hgo⟩ := hp_A
 rw [← hgo]
 by_cases hlt : (k : Int) < c
 ·have hb : decide ((k : Int) < c) = true := decide_eq_true hlt
  obtain ⟨f,hf⟩ : ∃ f,c - k = f + 1 := ⟨c - k - 1,by omega⟩
  rw [hf]
  have hut := I_UnpackText s (pos : Int) hs ⟨by omega,by omega⟩
  cases hv : unpackText s (pos : Int) with
  | none =>
   rw [hv] at hut
   rw [show colsGo s n (f + 1) pos rows = none by rw [colsGo,hv]]
   refine Qd (zy (z0 J (z0 J (K0 J (zz (Qm J (Qh (Qz (Qd ?_)))))))));refine Qk (zy (z0 J (z0 J ?_)));refine Ki (Yr J J (hut) J J J) J ?_;refine zx (Vw J) J (ze J (ze J (ze J (z1 J (z1 J (z1 J (zz (Qd (zy ?_)))))))));refine z0 J (zn J (zz (Qm J (zy (z1 J (z1 J (z1 J (zz ?_))))))));refine Q8 (T_r (B_r (T_r (T_r (B_r (T_r (F_r ?_)))))))
   exact Xk J J J J (Xu [1] [1] J J (by decide) J J J)
  | some r =>
   obtain ⟨t,m⟩ := r
   rw [hv] at hut
   have hm := Zb hv
   have htr := I_UnpackTrack t (by omega)
   cases hw : unpackTrack t with
   | none =>
    rw [hw] at htr
    rw [show colsGo s n (f + 1) pos rows = none by rw [colsGo,hv]; simp only []; rw [hw]]
    refine Qd (zy (z0 J (z0 J (K0 J (zz (Qm J (Qh (Qz (Qd ?_)))))))));refine Qk (zy (z0 J (z0 J ?_)));refine Ki (Yr J J (hut) J J J) J ?_;refine zx (Vw J) J (ze J (ze J (ze J (z1 J (z1 J (z1 J (zz (Qd (zy ?_)))))))));refine z0 J (zn J (zz (Ql J (Qh (Qz (zy (z0 J ?_)))))));refine Ki (Yr J J (htr) J J J) J ?_;refine zx (Vw J) J (ze J (ze J (z1 J (z1 J (zz (Qd (zy (z0 J (zn J ?_)))))))));refine z0 J (z6 J (z6 J (z6 J (z6 J (zpT J (zz (Qm J (zy (z1 J ?_)))))))));refine z1 J (z1 J (zz (Q8 (T_r (B_r (T_r (T_r (B_r (T_r (F_r ?_))))))))))
    exact Xk J J J J (Xu [1] [2] J J (by decide) J J J)
   | some l =>
    rw [hw] at htr
    have hlw := Zc hw
    have hll := X8 l
    by_cases hne : ((els l).length : Int) ≠ n
    ·have hb2 : decide (((els l).length : Int) ≠ n) = true := decide_eq_true hne
     rw [show colsGo s n (f + 1) pos rows = none by rw [colsGo,hv]; simp only []; rw [hw]; simp only []; rw [if_neg (by omega)]]
     refine Qd (zy (z0 J (z0 J (K0 J (zz (Qm J (Qh (Qz (Qd ?_)))))))));refine Qk (zy (z0 J (z0 J ?_)));refine Ki (Yr J J (hut) J J J) J ?_;refine zx (Vw J) J (ze J (ze J (ze J (z1 J (z1 J (z1 J (zz (Qd (zy ?_)))))))));refine z0 J (zn J (zz (Ql J (Qh (Qz (zy (z0 J ?_)))))));refine Ki (Yr J J (htr) J J J) J ?_;refine zx (Vw J) J (ze J (ze J (z1 J (z1 J (zz (Qd (zy (z0 J (zn J ?_)))))))));refine z0 J (z5 J (z0 J (z5 J (zx (Yx J J J J) J (z5 J (z0 J (z5 J (Ka J (zpF J (zz ?_))))))))));refine Qm J (zy (z1 J (z1 J (z1 J (zz (Q8 (T_r (B_r (T_r ?_)))))))));refine T_r (B_r (T_r (F_r ?_)))
     exact Xk J J J J (Xu [1] [2] J J (by decide) J J J)
    have hb2 : decide (((els l).length : Int) ≠ n) = false := decide_eq_false hne
    have hne := Classical.not_not.1 hne
    have hsl := snocs_len (rows := rows) (l := l) (by omega)
    have hgo2 : colsGo s n (f + 1) pos rows = colsGo s n f (pos + m) (snocs rows l) := by rw [colsGo,hv]; simp only []; rw [hw]; simp only []; rw [if_pos (by omega)]
    refine Qd (zy (z0 J (z0 J (K0 J (zz (Qm J (Qh (Qz (Qd ?_)))))))));refine Qk (zy (z0 J (z0 J ?_)));refine Ki (Yr J J (hut) J J J) J ?_;refine zx (Vw J) J (ze J (ze J (ze J (z1 J (z1 J (z1 J (zz (Qd (zy ?_)))))))));refine z0 J (zn J (zz (Ql J (Qh (Qz (zy (z0 J ?_)))))));refine Ki (Yr J J (htr) J J J) J ?_;refine zx (Vw J) J (ze J (ze J (z1 J (z1 J (zz (Qd (zy (z0 J (zn J ?_)))))))));refine z0 J (z5 J (z0 J (z5 J (zx (Yx J J J J) J (z5 J (z0 J (z5 J (Ka J (zpF J (zz ?_))))))))));refine Ql J (Qh (Qz (Qd (zy (z0 J (zx (Yx J J J J) J (z0 J (zz (Qk ?_)))))))));refine Xe (fun m__ st => ∃ (i : Nat),n - i = m__ ∧ (i ≤ n) ∧ st = (⟨_,[(0,S s),(1,I p),(2,I c),(3,I n),(11,.o (.c (.ref 0))),(12,I pos),(13,I k),(15,I m),(50,.o (.c (.ref 1))),(51,I (els l).length),(52,I i)],[.row 1 (els ((snocs rows l).take i ++ rows.drop i)),.row 1 (els l)]⟩ : St)) _ ⟨_,⟨0,J,Nat.zero_le _,J⟩,Kb [0,1]⟩ ?_
    rintro m_B _ ⟨i,hk_B,hp_B,rfl⟩
    refine zy (zx (Zl J) J (zz (Qd ?_)))
    refine Q9 J (fun h => ?_) (fun h => ?_)
    ·have h := of_decide_eq_true h
     have hin : i < l.length := by omega
     have hir : i < rows.length := by omega
     have hatl := X7 hin
     have hil : i < ((snocs rows l).take i ++ rows.drop i).length := by rw [mk_len hsl (by omega)]; exact hir
     have hat := X7 hil
     rw [mk_at hsl hir] at hat
     have hrr := hrk _ (List.getElem_mem hir)
     have hlr := X8 rows[i]
     have hln : (els ((snocs rows l).take i ++ rows.drop i)).length = n := by rw [X8,mk_len hsl (by omega)]; omega
     have hat2 : ((els ((snocs rows l).take i ++ rows.drop i)).set (i : Int).toNat (splice (Enc.e rows[i]) 0 [.un]))[(i : Int).toNat]? = some (splice (Enc.e rows[i]) 0 [.un]) := by
      rw [List.getElem?_set_self]
      rw [hln]; omega
     have hln2 : ((els ((snocs rows l).take i ++ rows.drop i)).set (i : Int).toNat (splice (Enc.e rows[i]) 0 [.un])).length = n := by rw [List.length_set]; exact hln
     refine Qh (Qz (Qd (Qk (zy (z0 J (zx (Q2 J J J J J (by omega) (by assumption)) J (zx (Q5 J J J J (by assumption) J) J (z1 J (z1 J (Qe ?_))))))))));refine Qz (Qc (z0 J (z0 J (z0 J (z0 J (zx (Q2 J J J J J (by omega) (by omega)) J ?_))))));refine zx (q_lee (p := 0) J J J J (by assumption) J) J ?_;refine z0 J (Ki (Yn J J J J J J) J ?_)
     refine AL.weak (Wk.split (p := 0) J hat J (by repeat' (first | exact trivial | exact ⟨J,J,J⟩ | refine And.intro ?_ ?_)) (by repeat' (first | exact trivial | exact ⟨J,J,J⟩ | refine And.intro ?_ ?_))) ?_
     refine Xo J J J J J J J J J J (by omega) (by omega) ?_;refine zx (Q2 J J J J J (by omega) (by omega)) J ?_;refine Xc J J J J J J J J J (by assumption) J J (Qe (Q0 (Qz (Qc (Kd J (z0 J (zz ?_)))))))
     refine ⟨_,(by omega),(fun (i : Nat) => (⟨_,[(0,S s),(1,I p),(2,I c),(3,I n),(11,.o (.c (.ref 0))),(12,I pos),(13,I k),(15,I m),(50,.o (.c (.ref 1))),(51,I (els l).length),(52,I i)],[.row 1 (els ((snocs rows l).take i ++ rows.drop i)),.row 1 (els l)]⟩ : St)) (i + 1),⟨i + 1,J,by omega,J⟩,Xw [0,1] (by decide) J (row2 (app_next hsl hir (snocs_at hir hin _))) (.c J (.c J (.c J (.c J (.c J (.c J (.c J (.c J (.c J (.c J (.c J (.nil))))))))))))⟩
    ·have h := of_decide_eq_false h
     refine Q7 (T_x (T_x (Xg (Qz (Qc (z0 J (z0 J (Kd J (z1 J (Qe (Q0 ?_)))))))))));refine Qz (Qc (z0 J (Kd J (z1 J (zz ?_)))))
     have hsn : ∀ r ∈ snocs rows l,r.length ≤ k + 1 := fun r hr => by
      obtain ⟨q,hq,rfl⟩ := List.getElem_of_mem hr
      rw [snocs_at (by omega) (by omega)]
      have := hrk _ (List.getElem_mem (show q < rows.length by omega))
      simp; omega
     have hend := mk_end (i := i) hsl (by omega)
     refine ⟨_,(by omega),_,⟨k + 1,pos + m,snocs rows l,J,⟨by omega,by omega,hsn,by omega,by omega,by rw [hgo2,show c - (k + 1) = f by omega]⟩,J⟩,(by rw [hend]; exact Kb [0])⟩
 ·have hb : decide ((k : Int) < c) = false := decide_eq_false hlt
  have hkk : k = c := by omega
  subst hkk
  rw [show colsGo s n (k - k) pos rows = some (rows,pos) by rw [Nat.sub_self]; rfl]
  refine Qd (zy (z0 J (z0 J (K0 J (zz (Ql J (Q7 (T_x (T_x ?_)))))))));refine Xg (Qz (zy (z0 J (z0 J (z0 J (z8 J (by omega) (z1 J (z1 J (z1 J (Qe ?_))))))))));refine Qz (Q8 (F_r ?_))
  exact Xk J J J J (Kf [0] J J J)
theorem S_l07Columns (s : ByteArray) (p c n : Nat) (hs : s.size ≤ 1099511627776) (hp : p ≤ s.size) (hc : c ≤ 4) (hn : n ≤ 400) :
  Con Tryd.prog 47 [] [astr s,ai p,ai c,ai n] (ucO (colsGo s n c p (List.replicate n []))) (lcR (colsGo s n c p (List.replicate n []))) := by
 refine Con.of Tryd.func47 J Tryd.ntmps47 J (fun E => ?_)
 refine zy (z1 J (z1 J (z1 J (zz (zy (z0 J ?_))))));refine Ki (q_make 1 J J J J (by omega) (by omega) (by omega) J (by simp)) J ?_;refine z1 J (zz (Qd (zy (z1 J (zz (Qk ?_))))))
 refine Xe (fun m__ st => ∃ (k : Nat) (pos : Nat) (rows : List (List Int)),c - k = m__ ∧ (k ≤ c ∧ rows.length = n ∧ (∀ r ∈ rows,r.length ≤ k) ∧ p ≤ pos ∧ pos ≤ s.size ∧ colsGo s n (c - k) pos rows = colsGo s n c p (List.replicate n [])) ∧ st = (⟨_,[(0,S s),(1,I pos),(2,I c),(3,I n),(11,.o (.c (.ref 0))),(12,I k)],[.row 1 (els rows)]⟩ : St)) _ ⟨(fun (k : Nat) (pos : Nat) (rows : List (List Int)) => (⟨_,[(0,S s),(1,I pos),(2,I c),(3,I n),(11,.o (.c (.ref 0))),(12,I k)],[.row 1 (els rows)]⟩ : St)) (0) (p) (List.replicate n []),⟨0,p,List.replicate n [],J,⟨by omega,by simp,fun r hr => by rw [List.eq_of_mem_replicate hr]; simp,by omega,by omega,J⟩,J⟩,Xw [0] (by decide) J (Y4 (make_rows n).symm) (.c J (.c J (.c J (.c J (.c J (.c J (.nil)))))))⟩ ?_
 rintro m_A _ ⟨k,pos,rows,hk_A,hp_A,rfl⟩
 obtain ⟨hkc,hrl,hrk,hpp,hps,hgo⟩ := hp_A
 rw [← hgo]
 by_cases hlt : (k : Int) < c
 ·have hb : decide ((k : Int) < c) = true := decide_eq_true hlt
  obtain ⟨f,hf⟩ : ∃ f,c - k = f + 1 := ⟨c - k - 1,by omega⟩
  rw [hf]
  have hut := Xs s (pos : Int) hs ⟨by omega,by omega⟩
  cases hv : unpackText s (pos : Int) with
  | none =>
   rw [hv] at hut
   rw [show colsGo s n (f + 1) pos rows = none by rw [colsGo,hv]]
   have htr := S_UnpackTrack ⟨#[]⟩ (by show (0 : Nat) ≤ _; omega)
   rw [unpackTrack_nil] at htr
   refine Qd (zy (z0 J (z0 J (K0 J (zz (Qm J (Qh (Qz (Qd ?_)))))))));refine Qk (zy (z0 J (z0 J ?_)));refine Ki (Yr J J (hut) J J J) J ?_;refine zx (Vw J) J (ze J (ze J (ze J (z1 J (z1 J (z1 J (zz (zy (z0 J ?_)))))))));refine Ki (Yr J J (htr) J J J) J ?_;refine zx (Vw J) J (ze J (ze J (z1 J (z1 J (zz (Qd (zy (z0 J (zn J ?_)))))))));refine z0 J (z6 J (z6 J (zpT J (z0 J (z6 J (z6 J (z6 J (z6 J (zpT J (zz ?_))))))))));refine Qm J (zy (z1 J (z1 J (z1 J (zz (Q8 (T_r (B_r (T_r ?_)))))))));refine T_r (B_r (T_r (F_r ?_)))
   exact Xk J J J J (Xu [1] [2] J J (by decide) J J J)
  | some r =>
   obtain ⟨t,m⟩ := r
   rw [hv] at hut
   have hm := Zb hv
   have htr := S_UnpackTrack t (by omega)
   cases hw : unpackTrack t with
   | none =>
    rw [hw] at htr
    rw [show colsGo s n (f + 1) pos rows = none by rw [colsGo,hv]; simp only []; rw [hw]]
    refine Qd (zy (z0 J (z0 J (K0 J (zz (Qm J (Qh (Qz (Qd ?_)))))))));refine Qk (zy (z0 J (z0 J ?_)));refine Ki (Yr J J (hut) J J J) J ?_;refine zx (Vw J) J (ze J (ze J (ze J (z1 J (z1 J (z1 J (zz (zy (z0 J ?_)))))))));refine Ki (Yr J J (htr) J J J) J ?_;refine zx (Vw J) J (ze J (ze J (z1 J (z1 J (zz (Qd (zy (z0 J (zn J ?_)))))))));refine z0 J (z5 J (z0 J (z5 J (zn J (zpF J (z0 J (z6 J (z6 J (z6 J (z6 J (zpT J ?_)))))))))));refine zz (Qm J (zy (z1 J (z1 J (z1 J (zz (Q8 (T_r ?_))))))));refine B_r (T_r (T_r (B_r (T_r (F_r ?_)))))
    exact Xk J J J J (Xu [1] [2] J J (by decide) J J J)
   | some l =>
    rw [hw] at htr
    have hlw := Zc hw
    have hll := X8 l
    by_cases hne : ((els l).length : Int) ≠ n
    ·have hb2 : decide (((els l).length : Int) ≠ n) = true := decide_eq_true hne
     rw [show colsGo s n (f + 1) pos rows = none by rw [colsGo,hv]; simp only []; rw [hw]; simp only []; rw [if_neg (by omega)]]
     refine Qd (zy (z0 J (z0 J (K0 J (zz (Qm J (Qh (Qz (Qd ?_)))))))));refine Qk (zy (z0 J (z0 J ?_)));refine Ki (Yr J J (hut) J J J) J ?_;refine zx (Vw J) J (ze J (ze J (ze J (z1 J (z1 J (z1 J (zz (zy (z0 J ?_)))))))));refine Ki (Yr J J (htr) J J J) J ?_;refine zx (Vw J) J (ze J (ze J (z1 J (z1 J (zz (Qd (zy (z0 J (zn J ?_)))))))));refine z0 J (z5 J (z0 J (z5 J (zn J (zpF J (z0 J (z5 J (z0 J (z5 J (zx (Yx J J J J) J (z5 J ?_)))))))))));refine z0 J (z5 J (Ka J (zpF J (zz (Qm J (zy (z1 J (z1 J (z1 J ?_)))))))));refine zz (Q8 (T_r (B_r (T_r (T_r (B_r (T_r (F_r ?_))))))))
     exact Xk J J J J (Xu [1] [2] J J (by decide) J J J)
    have hb2 : decide (((els l).length : Int) ≠ n) = false := decide_eq_false hne
    have hne := Classical.not_not.1 hne
    have hsl := snocs_len (rows := rows) (l := l) (by omega)
    have hgo2 : colsGo s n (f + 1) pos rows = colsGo s n f (pos + m) (snocs rows l) := by rw [colsGo,hv]; simp only []; rw [hw]; simp only []; rw [if_pos (by omega)]
    refine Qd (zy (z0 J (z0 J (K0 J (zz (Qm J (Qh (Qz (Qd ?_)))))))));refine Qk (zy (z0 J (z0 J ?_)));refine Ki (Yr J J (hut) J J J) J ?_;refine zx (Vw J) J (ze J (ze J (ze J (z1 J (z1 J (z1 J (zz (zy (z0 J ?_)))))))));refine Ki (Yr J J (htr) J J J) J ?_;refine zx (Vw J) J (ze J (ze J (z1 J (z1 J (zz (Qd (zy (z0 J (zn J ?_)))))))));refine z0 J (z5 J (z0 J (z5 J (zn J (zpF J (z0 J (z5 J (z0 J (z5 J (zx (Yx J J J J) J (z5 J ?_)))))))))));refine z0 J (z5 J (Ka J (zpF J (zz (Ql J (Qh (Qz (Qd (zy ?_)))))))));refine z1 J (zz (Qk ?_));refine Xe (fun m__ st => ∃ (i : Nat),n - i = m__ ∧ (i ≤ n) ∧ st = (⟨_,[(0,S s),(1,I pos),(2,I c),(3,I n),(11,.o (.c (.ref 0))),(12,I k),(14,I m),(16,.o (.c (.ref 1))),(18,I i)],[.row 1 (els ((snocs rows l).take i ++ rows.drop i)),.row 1 (els l)]⟩ : St)) _ ⟨_,⟨0,J,Nat.zero_le _,J⟩,Kb [0,1]⟩ ?_
    rintro m_B _ ⟨i,hk_B,hp_B,rfl⟩
    refine Qd (zy (z0 J (z0 J (zx (Zl J) J (zz ?_)))))
    refine Q9 J (fun h => ?_) (fun h => ?_)
    ·have h := of_decide_eq_true h
     have hin : i < l.length := by omega
     have hir : i < rows.length := by omega
     have hatl := X7 hin
     have hil : i < ((snocs rows l).take i ++ rows.drop i).length := by rw [mk_len hsl (by omega)]; exact hir
     have hat := X7 hil
     rw [mk_at hsl hir] at hat
     have hrr := hrk _ (List.getElem_mem hir)
     have hlr := X8 rows[i]
     have hln : (els ((snocs rows l).take i ++ rows.drop i)).length = n := by rw [X8,mk_len hsl (by omega)]; omega
     have hat2 : ((els ((snocs rows l).take i ++ rows.drop i)).set (i : Int).toNat (splice (Enc.e rows[i]) 0 [.un]))[(i : Int).toNat]? = some (splice (Enc.e rows[i]) 0 [.un]) := by
      rw [List.getElem?_set_self]
      rw [hln]; omega
     have hln2 : ((els ((snocs rows l).take i ++ rows.drop i)).set (i : Int).toNat (splice (Enc.e rows[i]) 0 [.un])).length = n := by rw [List.length_set]; exact hln
     refine Qh (Qz (Qd (Qk (Xd [[],[],[],[],[2,3],[2,3,4],[],[],[6,7],[6,7,8],[6,7,8,9],[2,3,4,5,6,7,8,9,10],(u9 12),(u9 13)] [[],[],[],[],[57,58],[57,58,59],[],[],[61,62],[61,62,63],[61,62,63,64],[57,58,59,60,61,62,63,64,65],[55,56,57,58,59,60,61,62,63,64,65,66],[55,56,57,58,59,60,61,62,63,64,65,66,67]] [[56,57,58,59,60,61,62,63,64,65,66],[55,57,58,59,60,61,62,63,64,65,66],[55,56,58,61,62,63,64,65],[55,56,57,61,62,63,64,65],[55,56,61,62,63,64,65],[55,56,61,62,63,64,65],[55,56,57,58,59,60,62],[55,56,57,58,59,60,61],[55,56,57,58,59,60],[55,56,57,58,59,60],[55,56,57,58,59,60],[55,56],[],[],[0,1]] J (Zh (Zr J) J (Zh (Zr J) J (Zh (Zr J) J (Zh (Zr J) J (Zh (Q2 J J J J J (by omega) (by omega)) J ?_)))))))));refine Zh (q_lee (p := 0) J J J J (by assumption) J) J ?_;refine Zh (Zr J) J (Zh (Zr J) J (Zh (Q2 J J J J J (by omega) (by omega)) J (Zh (Q5 J J J J (by assumption) J) J (Zh (Yn J J J J J J) J (Zg ?_)))))
     refine AL.weak (Wk.split (p := 0) J hat J (by repeat' (first | exact trivial | exact ⟨J,J,J⟩ | refine And.intro ?_ ?_)) (by repeat' (first | exact trivial | exact ⟨J,J,J⟩ | refine And.intro ?_ ?_))) ?_
     refine Xo J J J J J J J J J J (by omega) (by omega) ?_;refine zx (Q2 J J J J J (by omega) (by omega)) J ?_;refine Xc J J J J J J J J J (by assumption) J J (Qe (Q0 (Qz (Qc (z0 J (Kd J (z1 J (zz ?_))))))))
     refine ⟨_,(by omega),(fun (i : Nat) => (⟨_,[(0,S s),(1,I pos),(2,I c),(3,I n),(11,.o (.c (.ref 0))),(12,I k),(14,I m),(16,.o (.c (.ref 1))),(18,I i)],[.row 1 (els ((snocs rows l).take i ++ rows.drop i)),.row 1 (els l)]⟩ : St)) (i + 1),⟨i + 1,J,by omega,J⟩,Xw [0,1] (by decide) J (row2 (app_next hsl hir (snocs_at hir hin _))) (.c J (.c J (.c J (.c J (.c J (.c J (.c J (.c J (.c J (.nil))))))))))⟩
    ·have h := of_decide_eq_false h
     refine Q7 (T_x (T_x (Xg (Qz (Qc (z0 J (z0 J (Kd J (z1 J (Qe (Q0 ?_)))))))))));refine Qz (Qc (z0 J (Kd J (z1 J (zz ?_)))))
     have hsn : ∀ r ∈ snocs rows l,r.length ≤ k + 1 := fun r hr => by
      obtain ⟨q,hq,rfl⟩ := List.getElem_of_mem hr
      rw [snocs_at (by omega) (by omega)]
      have := hrk _ (List.getElem_mem (show q < rows.length by omega))
      simp; omega
     have hend := mk_end (i := i) hsl (by omega)
     refine ⟨_,(by omega),_,⟨k + 1,pos + m,snocs rows l,J,⟨by omega,by omega,hsn,by omega,by omega,by rw [hgo2,show c - (k + 1) = f by omega]⟩,J⟩,(by rw [hend]; exact Kb [0])⟩
 ·have hb : decide ((k : Int) < c) = false := decide_eq_false hlt
  have hkk : k = c := by omega
  subst hkk
  rw [show colsGo s n (k - k) pos rows = some (rows,pos) by rw [Nat.sub_self]; rfl]
  refine Qd (zy (z0 J (z0 J (K0 J (zz (Ql J (Q7 (T_x (T_x ?_)))))))));refine Xg (Qz (zy (z0 J (z0 J (z1 J (z1 J (z1 J (zz (Q8 ?_)))))))));refine F_r ?_
  exact Xk J J J J (Kf [0] J J J)
end
section
open Go.RowKit

def colM (rows : List (List Int)) (p : Nat) : List Int := rows.map fun r => r.getD p 0
def colsB (rows : List (List Int)) : Nat → ByteArray
 | 0 => bs []
 | p + 1 => colsB rows p ++ packText (packTrack (colM rows p))
theorem colsB_size (rows : List (List Int)) : ∀ p,(colsB rows p).size ≤ 2406 * p
 | 0 => by simp [colsB,X0]
 | p + 1 => by
  rw [colsB,X4]
  have h1 := colsB_size rows p
  have h2 := Yl (packTrack (colM rows p))
  have h3 := packTrack_size (colM rows p)
  omega
theorem colM_len (rows : List (List Int)) (p : Nat) : (colM rows p).length = rows.length := by simp [colM]
theorem colM_gd {rows : List (List Int)} (hg : Enc.gd rows) (p : Nat) : Enc.gd (colM rows p) := by
 refine ⟨by rw [colM_len]; exact hg.1,fun x hx => ?_⟩
 obtain ⟨r,h1,rfl⟩ := List.mem_map.1 hx
 rw [List.getD_eq_getElem?_getD]
 cases h : r[p]? with
 | none => exact ⟨by decide,by decide⟩
 | some y => exact (hg.2 r h1).2 y (List.mem_of_getElem? h)
theorem colM_next {rows : List (List Int)} {p k : Nat} (hk : k < rows.length) (hp : p < rows[k].length) : els (colM (rows.take k) p) ++ [[.v (.int .i64 rows[k][p])]] = els (colM (rows.take (k + 1)) p) := by
 have h1 : rows[k].getD p 0 = rows[k][p] := by simp [List.getD_eq_getElem?_getD,hp]
 rw [List.take_succ_eq_append_getElem hk]
 unfold colM els
 rw [List.map_append,List.map_append,List.map_cons,List.map_nil,List.map_cons,List.map_nil,h1]
 rfl
theorem S_column (rows : List (List Int)) (p : Nat) (hg : Enc.gd rows) (hL : rows.length ≤ 400) (hall : ∀ r ∈ rows,p < r.length) : Con Tryd.prog 91 [] [al rows,ai p] [.row 1 (els (colM rows p))] (.o (.c (.ref 0))) := by
 have hlx := X8 rows
 refine Con.of Tryd.func91 J Tryd.ntmps91 J (fun E => ?_)
 refine zy (z1 J (zz (zy (Ki (Yo J J J) J (z1 J (zz (Qd ?_)))))));refine zy (z1 J (zz (Qk ?_)));refine Xe (fun m st => ∃ k : Nat,k + m = rows.length ∧ (True) ∧ st = (⟨_,[(0,L rows),(1,I p),(5,.o (.c (.ref 0))),(6,I k)],[.row 1 (els (colM (rows.take k) p))]⟩ : St)) (rows.length) ⟨_,⟨0,by omega,trivial,J⟩,Kb [0]⟩ ?_
 rintro m_A _ ⟨k,hk_A,hp_A,rfl⟩
 refine Qd (zy (z0 J (z0 J (zx (Yw J J J) J (zx (Zl J) J (zz ?_))))))
 refine Q9 J (fun h => ?_) (fun h => ?_)
 ·have h3 : k < rows.length := by have := of_decide_eq_true h; omega
  have hat := X7 h3
  have hp := hall _ (List.getElem_mem h3)
  have hat2 := X7 hp
  have hlc : (els (colM (rows.take k) p)).length = k := by rw [X8,colM_len]; simp; omega
  refine Qh (Qz (Qd (Qk (Qc (z0 J (z0 J (z0 J (zx (Q1 J J J J (by omega) (by assumption) J) J (zx (Kc J) J (z0 J (zx (Q1 J J J J (by omega) (by assumption) J) J ?_)))))))))));refine zx (Kc J) J (Ki (Yn J J J J J J) J ?_);refine Xo J J J J J J J J J J (by omega) (by omega) ?_;refine z1 J (Qe (Q0 (Qz (Qc (z0 J (Kd J (z1 J (zz ?_))))))))
  exact ⟨rows.length - (k + 1),by omega,(fun k : Nat => (⟨_,[(0,L rows),(1,I p),(5,.o (.c (.ref 0))),(6,I k)],[.row 1 (els (colM (rows.take k) p))]⟩ : St)) (k + 1),⟨k + 1,by omega,trivial,J⟩,Xw [0] (by decide) J (Y4 (colM_next h3 hp).symm) (.c J (.c J (.c J (.c J (.nil)))))⟩
 ·have h3 : ¬ ((k : Int) < (els rows).length) := of_decide_eq_false h
  have hk : rows.take k = rows := List.take_of_length_le (by omega)
  refine Q7 (T_x (T_x (Xg (Qz (zy (z0 J (z1 J (zz (Q8 ?_)))))))));refine F_r ?_
  exact Ke J (Kf [0] J (Y4 (by rw [hk])) J)

theorem app_nil (s : ByteArray) : s ++ bs [] = s := by
 apply ByteArray.ext
 rw [ByteArray.data_append]
 simp [bs]
end
end Go.Proofs.YtcjclaoogdblbaaDoor
