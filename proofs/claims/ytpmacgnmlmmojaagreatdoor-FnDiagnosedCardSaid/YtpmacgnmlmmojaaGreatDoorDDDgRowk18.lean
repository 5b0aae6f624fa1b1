/-
  Parts of the proof (rules, data, and what functions of the program and of the reference return), among them: The first phase of a tick: the players, in the program; The second phase of a tick: moving, in the program.
  Conditions: those that each theorem names.
-/
import Derived.Test.YtpmacgnmlmmojaaGreatDoorDDDgRowk17
set_option linter.unusedSimpArgs false
set_option linter.unusedVariables false
set_option maxRecDepth 8000
set_option maxHeartbeats 8000000
namespace Go.Proofs.YtpmacgnmlmmojaaGreatDoor
section
open Go.RowKit

def metC (bs : List TBody) (b : TBody) (o : Int) (k : Nat) : Bool := match bs[k]? with
 | none => false
 | some p => (decide ((k : Int) ≠ o) && decide (0 < p.Life)) && meetM p b
def metF (bs : List TBody) (b : TBody) (o : Int) : Nat → Option Nat
 | 0 => none
 | n + 1 => match metF bs b o n with
  | some k => some k
  | none => if metC bs b o n = true then some n else none
def metI (bs : List TBody) (b : TBody) (o : Int) (n : Nat) : Int := match metF bs b o n with
 | some k => k
 | none => -1
section
variable {bs : List TBody} {b p : TBody} {o : Int} {k n : Nat}
theorem metC_at (h : bs[k]? = some p) : metC bs b o k = ((decide ((k : Int) ≠ o) && decide (0 < p.Life)) && meetM p b) := by rw [metC,h]
theorem metF_no (h : metF bs b o k = none) (hc : metC bs b o k = false) : metF bs b o (k + 1) = none := by rw [metF,h]; simp [hc]
theorem metF_hit (h : metF bs b o k = none) (hc : metC bs b o k = true) : ∀ {n : Nat},k < n → metF bs b o n = some k
 | n + 1,hlt => by
  rcases Nat.lt_or_ge k n with h1 | h1
  ·rw [metF,metF_hit h hc h1]
  ·have : k = n := by omega
   subst this
   rw [metF,h]; simp [hc]
theorem metF_lt : ∀ {n : Nat},metF bs b o n = some k → k < n ∧ metC bs b o k = true
 | 0,h => by cases h
 | n + 1,h => by
  rw [metF] at h
  cases hm : metF bs b o n with
  | some j =>
   rw [hm] at h
   cases h
   have := metF_lt hm
   exact ⟨by omega,this.2⟩
  | none =>
   rw [hm] at h
   simp only at h
   split at h
   ·cases h; rename_i hc; exact ⟨by omega,hc⟩
   ·cases h
theorem metC_life (h : metC bs b o k = true) : ∃ p,bs[k]? = some p ∧ 0 < p.Life ∧ (k : Int) ≠ o ∧ meetM p b = true := by
 unfold metC at h
 split at h
 ·cases h
 ·rename_i p hp
  simp only [Bool.and_eq_true,decide_eq_true_eq] at h
  exact ⟨p,hp,h.1.2,h.1.1,h.2⟩
end
theorem Yo {α : Type} [Enc α] {xs : List α} {i : Nat} {x : α} (h : xs[i]? = some x) : (els xs)[(i : Int).toNat]? = some (Enc.e x) := by simp [els,h]
theorem Kb {α : Type} {xs : List α} {i : Nat} (h : i < xs.length) : ∃ x,xs[i]? = some x := ⟨xs[i],List.getElem?_eq_getElem h⟩
theorem I_playerMet (w : TWorld) (b : TBody) (o : Int) (hn : w.Scores.length ≤ w.Bodies.length) (h4 : w.Scores.length ≤ 4) (hp : ∀ k p,k < w.Scores.length → w.Bodies[k]? = some p → Placed p) (hb : Placed b) : Con Tryz.prog 227 [.box [.ref 1,jn w.Tick,jn w.Seed,.ref 2,.ref 3],.row 1 (els w.Level.Rows),.row 1 (els w.Scores),.row 9 (els w.Bodies),.gh 0 (.c (.ptr 0 0)),.gh 6 (.c (.ref 3))] [.c (.ptr 0 0),ag b,ai o] [.box [.ref 1,jn w.Tick,jn w.Seed,.ref 2,.ref 3],.row 1 (els w.Level.Rows),.row 1 (els w.Scores),.row 9 (els w.Bodies),.gh 0 (.c (.ptr 0 0)),.gh 6 (.c (.ref 3))] (I (metI w.Bodies b o w.Scores.length)) := by
 have hls := Ym w.Scores
 have hlb := Ym w.Bodies
 refine Con.of Tryz.func227 J Tryz.ntmps227 J (fun E => ?_)
 refine Wz [26,56,104,17,112,78,13] ?_;refine Xi (fun m st => ∃ k : Nat,k + m = w.Scores.length ∧ (metF w.Bodies b o k = none) ∧ st = (⟨_,[(0,.o (.c (.ptr 0 0))),(2,I o),(4,.o (.c (.ptr 6 0))),(12,I (els w.Scores).length),(13,I k)],[.box [.ref 1,jn w.Tick,jn w.Seed,.ref 2,.ref 3],.row 1 (els w.Level.Rows),.row 1 (els w.Scores),.row 9 (els w.Bodies),.gh 0 (.c (.ptr 0 0)),.gh 6 (.c (.ref 3)),.box ((Enc.e b).map (V1.rd []))]⟩ : St)) (w.Scores.length) ⟨_,⟨0,by omega,J,J⟩,X7 [0,1,2,3,4,5,6] (by kernel_rfl)⟩ ?_
 rintro m_A _ ⟨k,hk_A,hp_A,rfl⟩
 by_cases hlt : k < w.Scores.length
 ·have hb0 : decide ((k : Int) < (els w.Scores).length) = true := decide_eq_true (by omega)
  obtain ⟨p,hp1⟩ := Kb (xs := w.Bodies) (i := k) (by omega)
  have he := Yo hp1
  have cm := I_BodiesMeet p b (hp k p hlt hp1) hb
  have hc := metC_at (b := b) (o := o) hp1
  by_cases h1 : (k : Int) = o
  ·have f1 : decide ((k : Int) ≠ o) = false := decide_eq_false (fun q => q h1)
   refine Wz [4,10,21,46,52,22] ?_;refine Xh u8_10 u8_11 u8_12 J ?_;refine Wz [3,3,138,3,58,58,131,59,3,58,58,131,59,31,45,38] ?_
   exact ⟨w.Scores.length - (k + 1),by omega,_,⟨k + 1,by omega,metF_no hp_A (by rw [hc,f1]; rfl),J⟩,X7 [0,1,2,3,4,5,6] (by kernel_rfl)⟩
  have f1 : decide ((k : Int) ≠ o) = true := decide_eq_true h1
  by_cases h2 : 0 < p.Life
  ·have f2 : decide (0 < p.Life) = true := decide_eq_true h2
   cases h3 : meetM p b with
   | false =>
    rw [h3] at cm
    refine Wz [4,10,21,46,52,22] ?_;refine Xh u8_10 u8_11 u8_12 J ?_;refine Wz [3,3,138,3,66] ?_;refine DR.s (Qt.yes J J J (Qz J J J)) J J ?_;refine Wz [23,66] ?_;refine DR.s (Qt.yes J J J (Q3 J J J J J (by omega) (by omega))) J J (DR.s (Qt.yes J J J (Zo J J J J (by decide))) J J (DR.s (Qt.yes J J J (Q7 J J J J (by assumption) J)) J J (DR.s (Qt.yes J J J (Zq J J J J (by assumption))) J J ?_)));refine Wz [65,3,66] ?_;refine DR.s (Qt.yes J J J (Qz J J J)) J J ?_;refine Wz [23,66] ?_;refine DR.s (Qt.yes J J J (Q3 J J J J J (by omega) (by omega))) J J (DR.s (Qt.yes J J J (Q6 J J J J (by assumption) J J)) J J (DR.s (Qt.yes J J J (Qu J J J J J J)) J J ?_));refine DR.s (Qt.yes J J J (Qj J J (cm) J)) J J ?_;refine Wz [65,31,45,38] ?_
    exact ⟨w.Scores.length - (k + 1),by omega,_,⟨k + 1,by omega,metF_no hp_A (by rw [hc,h3,Bool.and_false]),J⟩,X7 [0,1,2,3,4,5,6] (by kernel_rfl)⟩
   | true =>
    rw [h3] at cm
    refine Wz [4,10,21,46,52,22] ?_;refine Xh u8_10 u8_11 u8_12 J ?_;refine Wz [3,3,138,3,66] ?_;refine DR.s (Qt.yes J J J (Qz J J J)) J J ?_;refine Wz [23,66] ?_;refine DR.s (Qt.yes J J J (Q3 J J J J J (by omega) (by omega))) J J (DR.s (Qt.yes J J J (Zo J J J J (by decide))) J J (DR.s (Qt.yes J J J (Q7 J J J J (by assumption) J)) J J (DR.s (Qt.yes J J J (Zq J J J J (by assumption))) J J ?_)));refine Wz [65,3,66] ?_;refine DR.s (Qt.yes J J J (Qz J J J)) J J ?_;refine Wz [23,66] ?_;refine DR.s (Qt.yes J J J (Q3 J J J J J (by omega) (by omega))) J J (DR.s (Qt.yes J J J (Q6 J J J J (by assumption) J J)) J J (DR.s (Qt.yes J J J (Qu J J J J J J)) J J ?_));refine DR.s (Qt.yes J J J (Qj J J (cm) J)) J J ?_;refine Wz [65,31,9,7,2,75,63,25] ?_
    exact Xn J J (X6 [0,1,2,3,4,5] (by decide) J J (Xy (by rw [metI,metF_hit hp_A (by rw [hc,f1,f2,h3]; rfl) hlt])))
  ·have f2 : decide (0 < p.Life) = false := decide_eq_false h2
   refine Wz [4,10,21,46,52,22] ?_;refine Xh u8_10 u8_11 u8_12 J ?_;refine Wz [3,3,138,3,66] ?_;refine DR.s (Qt.yes J J J (Qz J J J)) J J ?_;refine Wz [23,66] ?_;refine DR.s (Qt.yes J J J (Q3 J J J J J (by omega) (by omega))) J J (DR.s (Qt.yes J J J (Zo J J J J (by decide))) J J (DR.s (Qt.yes J J J (Q7 J J J J (by assumption) J)) J J (DR.s (Qt.yes J J J (Zq J J J J (by assumption))) J J ?_)));refine Wz [65,3,58,58,131,59,31,45,38] ?_
   exact ⟨w.Scores.length - (k + 1),by omega,_,⟨k + 1,by omega,metF_no hp_A (by rw [hc,f2,Bool.and_false,Bool.false_and]),J⟩,X7 [0,1,2,3,4,5,6] (by kernel_rfl)⟩
 ·have hb0 : decide ((k : Int) < (els w.Scores).length) = false := decide_eq_false (by omega)
  have hk : k = w.Scores.length := by omega
  refine Wz [4,10,21,47,32,11,67] ?_
  exact Xn J J (X6 [0,1,2,3,4,5] (by decide) J J (Xy (by rw [metI,← hk,hp_A])))
def addM (ss : List Int) (k : Nat) : List Int := match ss[k]? with
 | none => ss
 | some s => ss.set k (min (s + 1) 1000000)
theorem addM_at {ss : List Int} {k : Nat} {s : Int} (h : ss[k]? = some s) : addM ss k = ss.set k (min (s + 1) 1000000) := by rw [addM,h]
theorem addM_els {ss : List Int} {k : Nat} {s : Int} (h : ss[k]? = some s) : els (addM ss k) = (els ss).set (k : Int).toNat (splice (Enc.e s) 0 [.v (.int .i64 (min (s + 1) 1000000))]) := by
 rw [addM_at h,els_set]; rfl
theorem addM_same {ss : List Int} {k : Nat} {s : Int} (h : ss[k]? = some s) (hs : ¬ s < 1000000) (h1 : s ≤ 1000000) : addM ss k = ss := by
 rw [addM_at h,show min (s + 1) 1000000 = s by omega]
 obtain ⟨hk,rfl⟩ := List.getElem?_eq_some_iff.1 h
 exact List.set_getElem_self hk
theorem I_addScore (w : TWorld) (k : Nat) (s : Int) (hs : w.Scores[k]? = some s) (h0 : 0 ≤ s ∧ s ≤ 1000000) : Con Tryz.prog 228 [.box [.ref 1,jn w.Tick,jn w.Seed,.ref 2,.ref 3],.row 1 (els w.Level.Rows),.row 1 (els w.Scores),.row 9 (els w.Bodies),.gh 0 (.c (.ptr 0 0)),.gh 5 (.c (.ref 3))] [.c (.ptr 0 0),ai k] [.box [.ref 1,jn w.Tick,jn w.Seed,.ref 2,.ref 3],.row 1 (els w.Level.Rows),.row 1 (els (addM w.Scores k)),.row 9 (els w.Bodies),.gh 0 (.c (.ptr 0 0)),.gh 5 (.c (.ref 3))] (.tu []) := by
 have hls := Ym w.Scores
 have hk := Yx hs
 have he := Yo hs
 by_cases h1 : s < 1000000
 ·have f1 : decide (s < 1000000) = true := decide_eq_true h1
  rw [addM_els hs,show min (s + 1) 1000000 = s + 1 by omega]
  refine Con.of Tryz.func228 J Tryz.ntmps228 J (fun E => ?_)
  refine Wz [7,104,17,0,110,144,10,9,49,104,17,0,110,144,71,110,139,74] ?_;refine F_n ?_
  exact E_none J (X6 [0,1,2,3,4,5] (by decide) J J J)
 ·have f1 : decide (s < 1000000) = false := decide_eq_false h1
  rw [addM_same hs h1 h0.2]
  refine Con.of Tryz.func228 J Tryz.ntmps228 J (fun E => ?_)
  refine Wz [7,104,17,0,110,144,10,45] ?_;refine F_n ?_
  exact E_none J (X6 [0,1,2,3,4,5] (by decide) J J J)
end
section
open Go.RowKit

theorem colSp_len (row : ByteArray) (r : Nat) : ∀ n,(colSp row r n).length ≤ n
 | 0 => Nat.le_refl _
 | n + 1 => by have := colSp_len row r n; rw [colSp]; split <;> simp <;> omega
theorem rowSp_len {rows : List ByteArray} {w : Nat} (hw : ∀ (r : Nat) (hr : r < rows.length),(rows[r]).size = w) : ∀ n,(rowSp rows n).length ≤ n * w
 | 0 => by simp [rowSp]
 | n + 1 => by
  have h := rowSp_len hw n
  rw [rowSp]
  cases hr : rows[n]? with
  | none => simp only; rw [Nat.add_mul]; omega
  | some row =>
   obtain ⟨h1,h2⟩ := List.getElem?_eq_some_iff.1 hr
   have h3 := colSp_len row n row.size
   have h4 : row.size = w := by rw [← h2]; exact hw n h1
   simp only [List.length_append]
   rw [Nat.add_mul]
   omega
def spotsM (l : TLevel) : List (List Int) := rowSp l.Rows l.Rows.length
theorem spots_len {l : TLevel} (hl : levelOk l = true) : (spotsM l).length ≤ 240 := by
 obtain ⟨l3,l12,w,w4,w20,hw⟩ := Y2 hl
 have h := rowSp_len hw l.Rows.length
 have h2 : l.Rows.length * w ≤ 12 * 20 := Nat.mul_le_mul l12 w20
 unfold spotsM
 omega
theorem colSp_at {row : ByteArray} {r : Nat} : ∀ {n : Nat} {s : List Int},s ∈ colSp row r n → ∃ c : Nat,c < n ∧ byteAt row c = 111 ∧ s = [(c : Int) * 16 + 4,(r : Int) * 16 + 4]
 | 0,s,h => by simp [colSp] at h
 | n + 1,s,h => by
  rw [colSp] at h
  split at h
  ·rename_i hb
   rcases List.mem_append.1 h with h | h
   ·obtain ⟨c,h1,h2⟩ := colSp_at h; exact ⟨c,by omega,h2⟩
   ·exact ⟨n,by omega,hb,by simpa using h⟩
  ·obtain ⟨c,h1,h2⟩ := colSp_at h; exact ⟨c,by omega,h2⟩
theorem rowSp_at {rows : List ByteArray} : ∀ {n : Nat} {s : List Int},s ∈ rowSp rows n → ∃ (r c : Nat) (row : ByteArray),r < n ∧ rows[r]? = some row ∧ c < row.size ∧ byteAt row c = 111 ∧ s = [(c : Int) * 16 + 4,(r : Int) * 16 + 4]
 | 0,s,h => by simp [rowSp] at h
 | n + 1,s,h => by
  rw [rowSp] at h
  cases hr : rows[n]? with
  | none => rw [hr] at h; obtain ⟨r,c,row,h1,h2⟩ := rowSp_at h; exact ⟨r,c,row,by omega,h2⟩
  | some row =>
   rw [hr] at h
   rcases List.mem_append.1 h with h | h
   ·obtain ⟨r,c,row,h1,h2⟩ := rowSp_at h; exact ⟨r,c,row,by omega,h2⟩
   ·obtain ⟨c,h1,h2⟩ := colSp_at h; exact ⟨n,c,row,by omega,hr,h1,h2⟩
theorem sp_hit {row : ByteArray} {r c : Nat} {A : List (List Int)} {x y : Int} (h : byteAt row c = 111) (hx : x = (c : Int) * 16 + 4) (hy : y = (r : Int) * 16 + 4) : els (A ++ colSp row r (c + 1)) = els (A ++ colSp row r c) ++ [[.sl 1 (els [x,y])]] := by
 rw [colSp,if_pos h,← List.append_assoc,Yk,hx,hy]; rfl
theorem sp_skip {row : ByteArray} {r c : Nat} (h : ¬ byteAt row c = 111) : colSp row r (c + 1) = colSp row r c := by rw [colSp,if_neg h]
theorem sp_row {rows : List ByteArray} {row : ByteArray} {r : Nat} (h : rows[r]? = some row) : rowSp rows (r + 1) = rowSp rows r ++ colSp row r row.size := by rw [rowSp,h]
theorem row2w {a : Ob} {k : Nat} {x y : List (List T)} (h : x = y) : [a,Ob.row k x] = [a,Ob.row k y] := by rw [h]
theorem I_SpotsOf (l : TLevel) (hg : Enc.gd l) (hl : levelOk l = true) : Con Tryz.prog 202 [] [ag l] [.row 1 (els (spotsM l))] (.o (.c (.ref 0))) := by
 have hc := Xr l hg
 rw [hl] at hc
 have hlr := Ym l.Rows
 obtain ⟨l3,l12,w,w4,w20,hw⟩ := Y2 hl
 have hrl := rowSp_len hw
 refine Con.of Tryz.func202 J Tryz.ntmps202 J (fun E => ?_)
 refine Wz [26,22,15] ?_;refine zx (Qj J J (hc) J) J ?_;refine Wz [14,35,11,20,5,12,78,13] ?_
 refine AWP.pre ?_ (W_nil 3 1 J)
 refine Xi (fun m st => ∃ r : Nat,r + m = l.Rows.length ∧ (True) ∧ st = (⟨_,[(1,.o (.c (.ptr 0 0))),(3,.o (.c (.ref 1))),(11,L l.Rows),(12,I (els l.Rows).length),(13,I r)],[.box ((Enc.e l).map (V1.rd [])),.row 1 (els (rowSp l.Rows r))]⟩ : St)) (l.Rows.length) ⟨_,⟨0,by omega,trivial,J⟩,X7 [0,1] (by kernel_rfl)⟩ ?_
 rintro m_A _ ⟨r,hk_A,hp_A,rfl⟩
 by_cases h3 : r < l.Rows.length
 ·have hb0 : decide ((r : Int) < (els l.Rows).length) = true := decide_eq_true (by omega)
  have hat := Yl h3
  have hwr := hw r h3
  have hrow := List.getElem?_eq_getElem h3
  generalize l.Rows[r] = row at hat hwr hrow
  have hr1 := hrl r
  have hr2 : r * w ≤ 12 * 20 := Nat.mul_le_mul (by omega) w20
  refine Wz [4,10,21,46,52,61,72,2,11,13] ?_;refine Xi (fun m st => ∃ c : Nat,c + m = row.size ∧ (True) ∧ st = (⟨_,[(1,.o (.c (.ptr 0 0))),(3,.o (.c (.ref 1))),(4,I r),(5,S row),(6,I c),(11,L l.Rows),(12,I (els l.Rows).length),(13,I r)],[.box ((Enc.e l).map (V1.rd [])),.row 1 (els (rowSp l.Rows r ++ colSp row r c))]⟩ : St)) (row.size) ⟨(fun c : Nat => (⟨_,[(1,.o (.c (.ptr 0 0))),(3,.o (.c (.ref 1))),(4,I r),(5,S row),(6,I c),(11,L l.Rows),(12,I (els l.Rows).length),(13,I r)],[.box ((Enc.e l).map (V1.rd [])),.row 1 (els (rowSp l.Rows r ++ colSp row r c))]⟩ : St)) 0,⟨0,by omega,trivial,J⟩,X8 [0,1] (by decide) J (row2w (by rw [colSp,List.append_nil])) (.c J (.c J (.c J (.c J (.c J (.c J (.c J (.c J (.nil)))))))))⟩ ?_
  rintro m_D _ ⟨c,hk_D,hp_D,rfl⟩
  have hcl := colSp_len row r c
  have hel := Ym (rowSp l.Rows r ++ colSp row r c)
  rw [List.length_append] at hel
  by_cases h4 : c < row.size
  ·have hb1 : decide ((c : Int) < row.size) = true := decide_eq_true (by omega)
   have hbt := Yh row c
   have hbt2 := Yh row (c : Int).toNat
   by_cases ho : byteAt row c = 111
   ·have hb2 : decide (byteAt row (c : Int).toNat = 111) = true := decide_eq_true ho
    refine Wz [36,80,10,9,29,39,141] ?_;refine zx (Qv (b := true) J J J J (by decide)) J ?_;refine Wz [9,49,0,92,71,0,92,71,54] ?_;refine AL.weak (Wk.sbrow (q := 2) (es := els [(c : Int) * 16 + 4,(r : Int) * 16 + 4]) J J (Nat.le_of_ble_eq_true J)) ?_;refine Wz [54,111,51,50] ?_
    exact ⟨row.size - (c + 1),by omega,(fun c : Nat => (⟨_,[(1,.o (.c (.ptr 0 0))),(3,.o (.c (.ref 1))),(4,I r),(5,S row),(6,I c),(11,L l.Rows),(12,I (els l.Rows).length),(13,I r)],[.box ((Enc.e l).map (V1.rd [])),.row 1 (els (rowSp l.Rows r ++ colSp row r c))]⟩ : St)) (c + 1),⟨c + 1,by omega,trivial,J⟩,X8 [0,1] (by decide) J (row2w (sp_hit ho (by omega) (by omega))) (.c J (.c J (.c J (.c J (.c J (.c J (.c J (.c J (.nil)))))))))⟩
   ·have hb2 : decide (byteAt row (c : Int).toNat = 111) = false := decide_eq_false ho
    refine Wz [36,80,10,9,29,39,106,19,45,50] ?_
    exact ⟨row.size - (c + 1),by omega,_,⟨c + 1,by omega,trivial,J⟩,(by rw [sp_skip ho]; exact X7 [0,1] (by kernel_rfl))⟩
  ·have hb1 : decide ((c : Int) < row.size) = false := decide_eq_false (by omega)
   have hk : c = row.size := by omega
   refine Wz [36,80,10,60,136,38] ?_
   exact ⟨l.Rows.length - (r + 1),by omega,_,⟨r + 1,by omega,trivial,J⟩,(by rw [sp_row hrow,hk]; exact X7 [0,1] (by kernel_rfl))⟩
 ·have hb0 : decide ((r : Int) < (els l.Rows).length) = false := decide_eq_false (by omega)
  have hk : r = l.Rows.length := by omega
  refine Wz [4,10,21,47,32,7,34] ?_
  exact Xn J J (X6 [1] (by decide) J (by rw [spotsM,← hk]; rfl) J)
end
section
open Go.RowKit

def tick1 (b : TBody) : TBody := ⟨b.Kind,b.Owner,b.X,b.Y,b.VX,b.VY,b.Aim,b.Life,b.Timer - 1⟩
noncomputable def plOne (l : TLevel) (i : Int) (k : Nat) (bs : List TBody) (b : TBody) : List TBody :=
 if b.Life = 0 then bs.set k (if b.Timer - 1 = 0 then fresh l k else tick1 b)
 else if (steer l b i).2 = true ∧ bs.length < 24 then bs.set k (steer l b i).1 ++ [shotOf (steer l b i).1] else bs.set k (steer l b i).1
noncomputable def plM (l : TLevel) (row : List Int) (bs : List TBody) : Nat → List TBody
 | 0 => bs
 | k + 1 => match (plM l row bs k)[k]? with
  | none => plM l row bs k
  | some b => plOne l (row.getD k 0) k (plM l row bs k) b
structure BM (l : TLevel) (n : Nat) (b : TBody) : Prop where
 k : 0 ≤ b.Kind ∧ b.Kind ≤ 2
 o : 0 ≤ b.Owner ∧ b.Owner < n
 p : solidM l b.X b.Y (sizeOf b.Kind) = false
 vx : -15 ≤ b.VX ∧ b.VX ≤ 15
 vy : -15 ≤ b.VY ∧ b.VY ≤ 15
 f : 0 ≤ b.Life ∧ b.Life ≤ 3
structure LM (l : TLevel) (n : Nat) (bs : List TBody) : Prop where
 len : n ≤ bs.length ∧ bs.length ≤ 24
 at_ : ∀ k b,bs[k]? = some b → BM l n b ∧ (b.Kind = 0 ↔ k < n)
structure PlI (l : TLevel) (n k : Nat) (b : TBody) : Prop where
 kd : b.Kind = 0
 ow : b.Owner = k
 am : b.Aim = 1 ∨ b.Aim = -1
 tm : 0 ≤ b.Timer ∧ b.Timer ≤ 20
 dd : b.Life = 0 → 1 ≤ b.Timer
 bm : bodyM l (b.Owner + 1) b = true
theorem body_facts {l : TLevel} {n k : Nat} {b : TBody} (h : bodyAt l n k b = true) : BM l n b ∧ (b.Kind = 0 ↔ k < n) ∧ (0 ≤ b.Timer ∧ b.Timer ≤ 25) ∧ (k < n → PlI l n k b) := by
 unfold bodyAt at h
 rw [Bool.and_eq_true] at h
 obtain ⟨h1,h2⟩ := h
 have h1' := h1
 simp only [bodyM,Bool.and_eq_true,Bool.not_eq_true',Y0] at h1
 obtain ⟨hk,ho,hp,hvx,hvy,ht⟩ := h1
 have hbm : bodyM l (b.Owner + 1) b = true := by
  simp only [bodyM,Bool.and_eq_true,Bool.not_eq_true',Y0]
  exact ⟨hk,⟨ho.1,by omega⟩,hp,hvx,hvy,ht⟩
 unfold tailM at ht
 by_cases hkn : k < n
 ·rw [if_pos hkn,decide_eq_true_eq] at h2
  rw [if_pos h2.1,Bool.and_eq_true,Bool.and_eq_true,decide_eq_true_eq,Y0] at ht
  obtain ⟨⟨ha,hf⟩,htm⟩ := ht
  have htt : (0 ≤ b.Timer ∧ b.Timer ≤ 20) ∧ (b.Life = 0 → 1 ≤ b.Timer) := by
   split at htm
   ·have := Y0.1 htm; exact ⟨by omega,fun _ => this.1⟩
   ·have := Y0.1 htm; exact ⟨by omega,fun h => absurd h (by assumption)⟩
  exact ⟨⟨hk,⟨ho.1,by omega⟩,hp,hvx,hvy,hf⟩,⟨fun _ => hkn,fun _ => h2.1⟩,by omega,fun _ => ⟨h2.1,h2.2,ha,htt.1,htt.2,hbm⟩⟩
 ·rw [if_neg hkn,decide_eq_true_eq] at h2
  rw [if_neg h2] at ht
  have htt : (0 ≤ b.Life ∧ b.Life ≤ 3) ∧ (0 ≤ b.Timer ∧ b.Timer ≤ 25) := by
   split at ht
   ·rw [Bool.and_eq_true,decide_eq_true_eq,Y0] at ht; omega
   ·rw [decide_eq_true_eq] at ht; omega
  exact ⟨⟨hk,⟨ho.1,by omega⟩,hp,hvx,hvy,htt.1⟩,⟨fun h => absurd h h2,fun h => absurd h hkn⟩,htt.2,fun h => absurd h hkn⟩
theorem LM.set {l : TLevel} {n k : Nat} {bs : List TBody} {b b' : TBody} (h : LM l n bs) (hb : bs[k]? = some b) (h1 : BM l n b') (h2 : b'.Kind = b.Kind) : LM l n (bs.set k b') := by
 refine ⟨by rw [List.length_set]; exact h.len,fun j c hc => ?_⟩
 rw [List.getElem?_set] at hc
 split at hc
 ·rename_i e
  subst e
  split at hc
  ·cases hc; exact ⟨h1,by rw [h2]; exact (h.at_ _ _ hb).2⟩
  ·cases hc
 ·exact h.at_ _ _ hc
theorem LM.app {l : TLevel} {n : Nat} {bs : List TBody} {c : TBody} (h : LM l n bs) (hl : bs.length < 24) (h1 : BM l n c) (h2 : c.Kind ≠ 0) : LM l n (bs ++ [c]) := by
 have := h.len
 refine ⟨by rw [List.length_append]; simp; omega,fun j d hd => ?_⟩
 rw [List.getElem?_append] at hd
 split at hd
 ·exact h.at_ _ _ hd
 ·rename_i hj
  have hj2 := Yx hd
  simp only [List.length_singleton] at hj2
  have : j = bs.length := by omega
  subst this
  simp only [Nat.sub_self,List.getElem?_cons_zero,Option.some.injEq] at hd
  subst hd
  exact ⟨h1,fun h => absurd h h2,fun h => by omega⟩
theorem shot_free {l : TLevel} {x y : Int} (h : solidM l x y 12 = false) : solidM l (x + 4) (y + 4) 4 = false := by
 refine solidM_F fun ⟨r,c,h1,h2,h3,h4,hw⟩ => ?_
 have : hits l x y 12 := ⟨r,c,by omega,by omega,by omega,by omega,hw⟩
 rw [Ka this] at h
 cases h
theorem steer_aim {l : TLevel} {b : TBody} {i : Int} (h : b.Aim = 1 ∨ b.Aim = -1) : (steer l b i).1.Aim = 1 ∨ (steer l b i).1.Aim = -1 := by
 simp only [steer]
 split
 ·exact .inr rfl
 ·split
  ·exact .inl rfl
  ·exact h
theorem steer_time {l : TLevel} {b : TBody} {i : Int} (h : 0 ≤ b.Timer ∧ b.Timer ≤ 20) : 0 ≤ (steer l b i).1.Timer ∧ (steer l b i).1.Timer ≤ 20 := by
 simp only [steer]
 split
 ·omega
 ·split <;> omega
theorem BM.steer {l : TLevel} {n : Nat} {b : TBody} (h : BM l n b) (i : Int) : BM l n (steer l b i).1 := by
 obtain ⟨hk,ho,hp,hvx,hvy,hf⟩ := h
 refine ⟨hk,ho,hp,?_,?_,hf⟩
 ·simp only [Go.Proofs.YtpmacgnmlmmojaaGreatDoor.steer]
  split
  ·omega
  ·split <;> omega
 ·simp only [Go.Proofs.YtpmacgnmlmmojaaGreatDoor.steer]
  split
  ·omega
  ·rw [Int.min_def]; split <;> omega
theorem BM.shot {l : TLevel} {n : Nat} {b : TBody} (h : BM l n b) (hk : b.Kind = 0) (ha : b.Aim = 1 ∨ b.Aim = -1) : BM l n (shotOf b) :=
 ⟨by simp [shotOf],h.o,by have := h.p; rw [hk] at this; exact shot_free this,by simp only [shotOf]; omega,by simp [shotOf],by simp [shotOf]⟩
theorem BM.fresh {l : TLevel} (hl : levelOk l = true) {n k : Nat} (hk : k < n) (hn : n ≤ 4) : BM l n (fresh l k) := by
 obtain ⟨h1,h2,h3⟩ := fresh_free hl (p := (k : Int)) ⟨by omega,by omega⟩
 exact ⟨by simp [Go.Proofs.YtpmacgnmlmmojaaGreatDoor.fresh],by simp only [Go.Proofs.YtpmacgnmlmmojaaGreatDoor.fresh]; omega,h1,by simp [Go.Proofs.YtpmacgnmlmmojaaGreatDoor.fresh],by simp [Go.Proofs.YtpmacgnmlmmojaaGreatDoor.fresh],by simp [Go.Proofs.YtpmacgnmlmmojaaGreatDoor.fresh]⟩
theorem BM.placed {l : TLevel} (hl : levelOk l = true) {n : Nat} {b : TBody} (h : BM l n b) : Placed b ∧ (b.X ≤ 400 ∧ b.Y ≤ 400) := by
 have hs := size_pos h.k
 have := Zc hl ⟨by omega,by omega⟩ h.p
 exact ⟨⟨h.k,by omega,by omega⟩,by omega⟩
structure P1 (l : TLevel) (n : Nat) (bs0 bs : List TBody) (k : Nat) : Prop where
 lm : LM l n bs
 old : ∀ j,k ≤ j → j < n → bs[j]? = bs0[j]?
 tm : ∀ b ∈ bs,0 ≤ b.Timer ∧ b.Timer ≤ 25
theorem P1.start {l : TLevel} {n : Nat} {bs : List TBody} (h1 : n ≤ bs.length ∧ bs.length ≤ 24) (h : bodiesOk l n bs) : P1 l n bs bs 0 := by
 have hat : ∀ k b,bs[k]? = some b → bodyAt l n k b = true := fun k b hb => by
  obtain ⟨h2,rfl⟩ := List.getElem?_eq_some_iff.1 hb
  exact h k h2
 refine ⟨⟨h1,fun k b hb => ?_⟩,fun _ _ _ => rfl,fun b hb => ?_⟩
 ·have := body_facts (hat k b hb); exact ⟨this.1,this.2.1⟩
 ·obtain ⟨k,hk⟩ := List.getElem?_of_mem hb
  exact (body_facts (hat k b hk)).2.2.1
theorem old_at {l : TLevel} {n k : Nat} {bs : List TBody} {b : TBody} (h : bodiesOk l n bs) (hb : bs[k]? = some b) (hk : k < n) : PlI l n k b := by
 obtain ⟨h2,rfl⟩ := List.getElem?_eq_some_iff.1 hb
 exact (body_facts (h k h2)).2.2.2 hk
section
variable {l : TLevel} {n k : Nat} {bs0 bs : List TBody} {b b' : TBody}
theorem P1.set (h : P1 l n bs0 bs k) (hb : bs[k]? = some b) (h1 : BM l n b') (h2 : b'.Kind = b.Kind) (ht : 0 ≤ b'.Timer ∧ b'.Timer ≤ 25) : P1 l n bs0 (bs.set k b') (k + 1) :=
 ⟨h.lm.set hb h1 h2,fun j hj hn => by rw [List.getElem?_set_ne (by omega)]; exact h.old j (by omega) hn,fun c hc => by
  rcases List.mem_or_eq_of_mem_set hc with h3 | h3
  ·exact h.tm c h3
  ·subst h3; exact ht⟩
theorem P1.app (h : P1 l n bs0 bs k) (hl : bs.length < 24) {c : TBody} (h1 : BM l n c) (h2 : c.Kind ≠ 0) (ht : 0 ≤ c.Timer ∧ c.Timer ≤ 25) : P1 l n bs0 (bs ++ [c]) k :=
 ⟨h.lm.app hl h1 h2,fun j hj hn => by have := h.lm.len; rw [List.getElem?_append_left (by omega)]; exact h.old j hj hn,fun d hd => by
  rcases List.mem_append.1 hd with h3 | h3
  ·exact h.tm d h3
  ·rw [List.mem_singleton] at h3; subst h3; exact ht⟩
end
theorem P1.one {l : TLevel} (hl : levelOk l = true) {n k : Nat} (hn : n ≤ 4) {bs0 bs : List TBody} {b : TBody} (h : P1 l n bs0 bs k) (hk : k < n) (hb : bs[k]? = some b) (hI : PlI l n k b) (i : Int) : P1 l n bs0 (plOne l i k bs b) (k + 1) := by
 have hB := (h.lm.at_ k b hb).1
 unfold plOne
 split
 ·split
  ·exact h.set hb (BM.fresh hl hk hn) (by rw [hI.kd]; rfl) (by simp [fresh])
  ·rename_i hf ht
   have := hI.dd hf
   have := hI.tm
   exact h.set hb ⟨hB.k,hB.o,hB.p,hB.vx,hB.vy,hB.f⟩ J (by simp only [tick1]; omega)
 ·have hs := steer_time (l := l) (i := i) hI.tm
  have h1 := h.set hb (hB.steer i) (by rfl) ⟨hs.1,by omega⟩
  split
  ·rename_i hc
   exact h1.app (by rw [List.length_set]; exact hc.2) ((hB.steer i).shot hI.kd (steer_aim hI.am)) (by simp [shotOf]) (by simp [shotOf])
  ·exact h1
theorem P1.all {l : TLevel} (hl : levelOk l = true) {n : Nat} (hn : n ≤ 4) {bs : List TBody} (h1 : n ≤ bs.length ∧ bs.length ≤ 24) (h : bodiesOk l n bs) (row : List Int) : ∀ k,k ≤ n → P1 l n bs (plM l row bs k) k
 | 0,_ => P1.start h1 h
 | k + 1,hk => by
  have hp := P1.all hl hn h1 h row k (by omega)
  have hlk : k < (plM l row bs k).length := by have := hp.lm.len; omega
  obtain ⟨b,hb⟩ := Kb hlk
  have ho := hp.old k (Nat.le_refl _) (by omega)
  rw [plM,hb]
  exact hp.one hl hn (by omega) hb (old_at h (by rw [← ho]; exact hb) (by omega)) _

/-! ### Moving -/
noncomputable def mvOne (l : TLevel) (b : TBody) : Option TBody :=
 if b.Kind = 0 ∧ 0 < b.Life then some (moveM l b).1
 else if b.Kind = 1 then if (moveM l b).2 = true ∨ b.Timer - 1 = 0 then none else some (tick1 (moveM l b).1)
 else some b
noncomputable def mvM (l : TLevel) (bs : List TBody) : List TBody := bs.filterMap (mvOne l)
theorem BM.move {l : TLevel} {n : Nat} {b : TBody} (h : BM l n b) : BM l n (moveM l b).1 := by
 obtain ⟨hk,ho,hp,hvx,hvy,hf⟩ := h
 have h1 : solidM l (moveX l b).1 b.Y (sizeOf b.Kind) = false := slide_free (hit := fun x => solidM l x b.Y (sizeOf b.Kind)) _ _ hp
 have h2 : solidM l (moveX l b).1 (moveY l b).1 (sizeOf b.Kind) = false := slide_free (hit := fun y => solidM l (moveX l b).1 y (sizeOf b.Kind)) _ _ h1
 refine ⟨hk,ho,h2,?_,?_,hf⟩
 ·simp only [moveM]; split <;> omega
 ·simp only [moveM]; split <;> omega
theorem mvOne_ok {l : TLevel} {n : Nat} {b c : TBody} (h : BM l n b) (hc : mvOne l b = some c) : BM l n c ∧ c.Kind = b.Kind := by
 unfold mvOne at hc
 split at hc
 ·cases hc; exact ⟨h.move,rfl⟩
 ·split at hc
  ·split at hc
   ·cases hc
   ·cases hc
    have := h.move
    exact ⟨⟨this.k,this.o,this.p,this.vx,this.vy,this.f⟩,J⟩
  ·cases hc; exact ⟨h,rfl⟩
theorem mvOne_pl {l : TLevel} {b : TBody} (h : b.Kind = 0) : ∃ c,mvOne l b = some c := by
 unfold mvOne
 split
 ·exact ⟨_,rfl⟩
 ·rw [if_neg (by omega)]; exact ⟨_,rfl⟩
theorem fmap_len {α β : Type} {f : α → Option β} : ∀ (xs : List α),(∀ x ∈ xs,∃ y,f x = some y) → (xs.filterMap f).length = xs.length
 | [],_ => rfl
 | x :: xs,h => by
  obtain ⟨y,hy⟩ := h x (by simp)
  rw [List.filterMap_cons,hy]
  simp only [List.length_cons]
  rw [fmap_len xs fun z hz => h z (by simp [hz])]
theorem LM.move {l : TLevel} {n : Nat} {bs : List TBody} (h : LM l n bs) : LM l n (mvM l bs) := by
 have hlen := h.len
 have hA : ∀ a ∈ bs.take n,BM l n a ∧ a.Kind = 0 := fun a ha => by
  obtain ⟨j,hj⟩ := List.getElem?_of_mem ha
  rw [List.getElem?_take] at hj
  split at hj
  ·have := h.at_ _ _ hj; exact ⟨this.1,this.2.2 (by assumption)⟩
  ·cases hj
 have hB : ∀ a ∈ bs.drop n,BM l n a ∧ a.Kind ≠ 0 := fun a ha => by
  obtain ⟨j,hj⟩ := List.getElem?_of_mem ha
  rw [List.getElem?_drop] at hj
  have := h.at_ _ _ hj
  exact ⟨this.1,fun e => by have := this.2.1 e; omega⟩
 have hs : mvM l bs = (bs.take n).filterMap (mvOne l) ++ (bs.drop n).filterMap (mvOne l) := by
  rw [mvM,← List.filterMap_append,List.take_append_drop]
 have hl1 : ((bs.take n).filterMap (mvOne l)).length = n := by
  rw [fmap_len _ fun a ha => mvOne_pl (hA a ha).2,List.length_take]; omega
 have hl2 := List.length_filterMap_le (mvOne l) (bs.drop n)
 rw [List.length_drop] at hl2
 rw [hs]
 refine ⟨by rw [List.length_append,hl1]; omega,fun k b hb => ?_⟩
 rw [List.getElem?_append,hl1] at hb
 split at hb
 ·obtain ⟨a,ha,hab⟩ := List.mem_filterMap.1 (List.mem_of_getElem? hb)
  have h1 := hA a ha
  have h2 := mvOne_ok h1.1 hab
  exact ⟨h2.1,fun _ => by assumption,fun _ => by rw [h2.2,h1.2]⟩
 ·obtain ⟨a,ha,hab⟩ := List.mem_filterMap.1 (List.mem_of_getElem? hb)
  have h1 := hB a ha
  have h2 := mvOne_ok h1.1 hab
  exact ⟨h2.1,fun e => absurd (by rw [← h2.2]; exact e) h1.2,fun e => absurd e (by assumption)⟩
theorem mv_next {l : TLevel} {bs : List TBody} {k : Nat} {b : TBody} (h : bs[k]? = some b) : (bs.take (k + 1)).filterMap (mvOne l) = (bs.take k).filterMap (mvOne l) ++ (mvOne l b).toList := by
 obtain ⟨hk,rfl⟩ := List.getElem?_eq_some_iff.1 h
 rw [List.take_succ_eq_append_getElem hk,List.filterMap_append]
 congr 1
end
section
open Go.RowKit

theorem rwBo {a b c : Ob} {t : List Ob} {k : Nat} {x y : List (List T)} (h : x = y) : a :: b :: c :: Ob.row k x :: t = a :: b :: c :: Ob.row k y :: t := by rw [h]
theorem pl_next {l : TLevel} {row : List Int} {bs0 bs : List TBody} {k : Nat} {b : TBody} {i : Int} (h : bs = plM l row bs0 k) (hb : bs[k]? = some b) (hi : row[k]? = some i) : plM l row bs0 (k + 1) = plOne l i k bs b := by
 rw [plM,← h,hb,List.getD_eq_getElem?_getD,hi]; rfl
structure PH (w : TWorld) (row : List Int) : Prop where
 hg : Enc.gd w.Level
 gb : ∀ b ∈ w.Bodies,Enc.gd b
 hl : levelOk w.Level = true
 n4 : 1 ≤ w.Scores.length ∧ w.Scores.length ≤ 4
 len : w.Scores.length ≤ w.Bodies.length ∧ w.Bodies.length ≤ 24
 bs : bodiesOk w.Level w.Scores.length w.Bodies
 rl : row.length = w.Scores.length
 ri : ∀ i ∈ row,0 ≤ i ∧ i ≤ 15
theorem I_stepPlayers (w : TWorld) (row : List Int) (h : PH w row) : Con Tryz.prog 197 [.box [.ref 1,jn w.Tick,jn w.Seed,.ref 2,.ref 3],.row 1 (els w.Level.Rows),.row 1 (els w.Scores),.row 9 (els w.Bodies),.gh 0 (.c (.ptr 0 0))] [.c (.ptr 0 0),al row] [.box [.ref 1,jn w.Tick,jn w.Seed,.ref 2,.ref 3],.row 1 (els w.Level.Rows),.row 1 (els w.Scores),.row 9 (els (plM w.Level row w.Bodies w.Scores.length)),.gh 0 (.c (.ptr 0 0))] (.tu []) := by
 obtain ⟨hg,gb,hl,hn4,hlen,hbo,hrl,hri⟩ := h
 have hls := Ym w.Scores
 have hlr := Ym row
 refine Con.of Tryz.func197 J Tryz.ntmps197 J (fun E => ?_)
 refine Wz [7,104,17,112,78,13] ?_;refine Xi (fun m st => ∃ (k : Nat) (bs : List TBody),k + m = w.Scores.length ∧ (bs = plM w.Level row w.Bodies k) ∧ st = (⟨_,[(0,.o (.c (.ptr 0 0))),(1,L row),(12,I (els w.Scores).length),(13,I k)],[.box [.ref 1,jn w.Tick,jn w.Seed,.ref 2,.ref 3],.row 1 (els w.Level.Rows),.row 1 (els w.Scores),.row 9 (els bs),.gh 0 (.c (.ptr 0 0))]⟩ : St)) (w.Scores.length) ⟨_,⟨0,w.Bodies,by omega,J,J⟩,X7 [0,1,2,3,4] (by kernel_rfl)⟩ ?_
 rintro m_A _ ⟨k,bs,hk_A,hp_A,rfl⟩
 by_cases hlt : k < w.Scores.length
 ·have hb0 : decide ((k : Int) < (els w.Scores).length) = true := decide_eq_true (by omega)
  have hP := P1.all hl hn4.2 hlen hbo row k (by omega)
  rw [← hp_A] at hP
  have hln := hP.lm.len
  obtain ⟨b,hb⟩ := Kb (xs := bs) (i := k) (by omega)
  have hold := hP.old k (Nat.le_refl _) hlt
  have hI := old_at hbo (by rw [← hold]; exact hb) hlt
  have hB := (hP.lm.at_ k b hb).1
  obtain ⟨hpl,hpx,hpy⟩ := hB.placed hl
  obtain ⟨i,hi⟩ := Kb (xs := row) (i := k) (by omega)
  have hir := hri i (List.mem_of_getElem? hi)
  have hnx := pl_next hp_A hb hi
  have he := Yo hb
  have her := Yo hi
  have hlb := Ym bs
  have htm := hI.tm
  by_cases hf : b.Life = 0
  ·have f1 : decide (b.Life = 0) = true := decide_eq_true hf
   rw [plOne,if_pos hf] at hnx
   by_cases ht : b.Timer - 1 = 0
   ·have f2 : decide (b.Timer - 1 = 0) = true := decide_eq_true ht
    rw [if_pos ht] at hnx
    have cf := I_fresh w.Level k hg hl ⟨by omega,by omega⟩
    refine Wz [4,10,21,46,52,2,7,104,17,0,110,171,18,40,21,5,19,9,5,73,41,21,5,19,9,49,104,64,27,0] ?_;refine M1 (Zk J J (cf) J J J) J J ?_;refine Wz [40,21] ?_
    refine AWP.pre (st' := (⟨_,[(0,.o (.c (.ptr 0 0))),(1,L row),(4,I k),(5,.o (.c (.ptr 5 0))),(12,I (els w.Scores).length),(13,I k)],[.box [.ref 1,jn w.Tick,jn w.Seed,.ref 2,.ref 3],.row 1 (els w.Level.Rows),.row 1 (els w.Scores),.row 9 (els bs),.gh 0 (.c (.ptr 0 0)),.box ((Enc.e (fresh w.Level k)).map (V1.rd []))]⟩ : St)) ?_ (X7 [0,1,2,3,4,5] (by kernel_rfl))
    refine Xh u8_13 u8_14 u8_15 J ?_;refine Wz [3,93,33,3,100,146,31] ?_;refine AL.weak (st' := (⟨_,[(0,.o (.c (.ptr 0 0))),(1,L row),(45,.o (.c (.el 3 9 k 0))),(44,.o (.ag ((Enc.e (fresh w.Level k)).map (V1.rd [])))),(12,I (els w.Scores).length),(13,I k)],[.box [.ref 1,jn w.Tick,jn w.Seed,.ref 2,.ref 3],.row 1 (els w.Level.Rows),.row 1 (els w.Scores),.row 9 (els bs),.gh 0 (.c (.ptr 0 0))]⟩ : St)) (X7 [0,1,2,3,4] (by kernel_rfl)) ?_;refine Xf J J J J J J J J J J (by assumption) J J ?_;refine Wz [1,143,162,113,81,163] ?_
    exact ⟨w.Scores.length - (k + 1),by omega,_,⟨k + 1,bs.set k (fresh w.Level k),by omega,hnx.symm,J⟩,(by rw [els_set]; exact X7 [0,1,2,3,4] (by kernel_rfl))⟩
   ·have f2 : decide (b.Timer - 1 = 0) = false := decide_eq_false ht
    rw [if_neg ht] at hnx
    refine Wz [4,10,21,46,52,2,7,104,17,0,110,171,18,40,21,5,19,9,5,73,41,21,5,19,60,70] ?_
    refine AWP.pre (st' := (⟨_,[(0,.o (.c (.ptr 0 0))),(1,L row),(4,I k),(5,.o (.c (.ptr 5 0))),(12,I (els w.Scores).length),(13,I k)],[.box [.ref 1,jn w.Tick,jn w.Seed,.ref 2,.ref 3],.row 1 (els w.Level.Rows),.row 1 (els w.Scores),.row 9 (els bs),.gh 0 (.c (.ptr 0 0)),.box ((Enc.e (tick1 b)).map (V1.rd []))]⟩ : St)) ?_ (X7 [0,1,2,3,4,5] (by kernel_rfl))
    refine Xh u8_13 u8_14 u8_15 J ?_;refine Wz [3,93,33,3,100,146,31] ?_;refine AL.weak (st' := (⟨_,[(0,.o (.c (.ptr 0 0))),(1,L row),(45,.o (.c (.el 3 9 k 0))),(44,.o (.ag ((Enc.e (tick1 b)).map (V1.rd [])))),(12,I (els w.Scores).length),(13,I k)],[.box [.ref 1,jn w.Tick,jn w.Seed,.ref 2,.ref 3],.row 1 (els w.Level.Rows),.row 1 (els w.Scores),.row 9 (els bs),.gh 0 (.c (.ptr 0 0))]⟩ : St)) (X7 [0,1,2,3,4] (by kernel_rfl)) ?_;refine Xf J J J J J J J J J J (by assumption) J J ?_;refine Wz [1,143,162,113,81,163] ?_
    exact ⟨w.Scores.length - (k + 1),by omega,_,⟨k + 1,bs.set k (tick1 b),by omega,hnx.symm,J⟩,(by rw [els_set]; exact X7 [0,1,2,3,4] (by kernel_rfl))⟩
  ·have f1 : decide (b.Life = 0) = false := decide_eq_false hf
   rw [plOne,if_neg hf] at hnx
   have hfl := hB.f
   obtain ⟨c,f,hcf⟩ : ∃ c f,(c,f) = steer w.Level b i := ⟨_,_,rfl⟩
   have cs := I_SteerPlayer w.Level b i hg hl (gb b (List.mem_of_getElem? (by rw [← hold]; exact hb))) hI.kd ⟨hB.o.1,by have := hB.o; omega⟩ (by omega) hir hI.bm ⟨by omega,by omega⟩ hB.vy (by have := hB.p; rw [hI.kd] at this; exact this)
   have hca := steer_aim (l := w.Level) (i := i) hI.am
   have hcx : (steer w.Level b i).1.X = b.X ∧ (steer w.Level b i).1.Y = b.Y := ⟨rfl,rfl⟩
   rw [← hcf] at cs hnx hca hcx
   simp only at cs hnx hca hcx
   have csh := I_ShotOf c (by rw [hcx.1]; exact hpl.x) (by rw [hcx.2]; exact hpl.y) (by omega)
   have hlc : (els (bs.set k c)).length = bs.length := by rw [Ym,List.length_set]
   clear hcf hca hcx
   refine Wz [4,10,21,46,52,2,7,104,17,0,110,171,18,40,21,5,19,60,70] ?_
   refine AWP.pre (st' := (⟨_,[(0,.o (.c (.ptr 0 0))),(1,L row),(4,I k),(5,.o (.c (.ptr 5 0))),(12,I (els w.Scores).length),(13,I k)],[.box [.ref 1,jn w.Tick,jn w.Seed,.ref 2,.ref 3],.row 1 (els w.Level.Rows),.row 1 (els w.Scores),.row 9 (els bs),.gh 0 (.c (.ptr 0 0)),.box ((Enc.e b).map (V1.rd []))]⟩ : St)) ?_ (X7 [0,1,2,3,4,5] (by kernel_rfl))
   refine Xh [[],[0],[0,1],[0,1,2],[],[],[],[5,6],[5,6,7],(u9 9),(u9 10),(u9 11),(u9 11),[],[0,1,2,3,4,5,6,7,8,9,10,11,13],(u9 15)] [[],[47],[47,48],[47,48,49],[],[],[],[52,53],[52,53,54],[47,48,49,50,51,52,53,54,55],[47,48,49,50,51,52,53,54,55,56],[46,47,48,49,50,51,52,53,54,55,56],[46,47,48,49,50,51,52,53,54,55,56],[],[6,46,47,48,49,50,51,52,53,54,55,56,57],[6,46,47,48,49,50,51,52,53,54,55,56,57,58]] [[6,51,52,53,54,55],[6,51,52,53,54,55],[6,51,52,53,54,55],[6,51,52,53,54,55],[6,47,48,49,50,52,53,54,55],[6,47,48,49,50,51,53],[6,47,48,49,50,51,52],[6,47,48,49,50,51],[6,47,48,49,50,51],[6],[6],[6,58],[6,57],[46,47,48,49,50,51,52,53,54,55,56,57,58],[58],[],[12]] J ?_;refine Wz [3,93,140,100,100,3,3,101,102] ?_;refine DR.s (Zk J J (cs) J J J) J J ?_;refine DR.s (Q8 J J J) J J (DR.s (Zn J J J J) J J (DR.s (Zn J J J J) J J (DR.s (Qx J J J) J J (DR.stop (by kernel_rfl) (by kernel_rfl) ?_))));refine AL.weak (st' := (⟨_,[(0,.o (.c (.ptr 0 0))),(1,L row),(4,I k),(6,.o (.c (.ptr 5 0))),(57,.o (.ag ((Enc.e c).map (V1.rd [])))),(58,B f),(12,I (els w.Scores).length),(13,I k)],[.box [.ref 1,jn w.Tick,jn w.Seed,.ref 2,.ref 3],.row 1 (els w.Level.Rows),.row 1 (els w.Scores),.row 9 (els bs),.gh 0 (.c (.ptr 0 0)),.box [jn 0,jn 0,jn 0,jn 0,jn 0,jn 0,jn 0,jn 0,jn 0]]⟩ : St)) (X7 [0,1,2,3,4,6] (by kernel_rfl)) ?_;refine Wz [40,22] ?_
   refine AWP.pre (st' := (⟨_,[(0,.o (.c (.ptr 0 0))),(1,L row),(4,I k),(6,.o (.c (.ptr 5 0))),(7,B f),(12,I (els w.Scores).length),(13,I k)],[.box [.ref 1,jn w.Tick,jn w.Seed,.ref 2,.ref 3],.row 1 (els w.Level.Rows),.row 1 (els w.Scores),.row 9 (els bs),.gh 0 (.c (.ptr 0 0)),.box ((Enc.e c).map (V1.rd []))]⟩ : St)) ?_ (X7 [0,1,2,3,4,5] (by kernel_rfl))
   refine Xh u8_13 [[],[59],[59,60],[59,60,61],[],[],[59,60,61,62,63,64],[59,60,61,62,63,64,65]] [[63,64],[63,64],[63,64],[63,64],[59,60,61,62,64],[59,60,61,62,63],[],[]] J ?_;refine Wz [3,93,33,3,100,146,31] ?_;refine AL.weak (st' := (⟨_,[(0,.o (.c (.ptr 0 0))),(1,L row),(6,.o (.c (.ptr 5 0))),(7,B f),(65,.o (.c (.el 3 9 k 0))),(64,.o (.ag ((Enc.e c).map (V1.rd [])))),(12,I (els w.Scores).length),(13,I k)],[.box [.ref 1,jn w.Tick,jn w.Seed,.ref 2,.ref 3],.row 1 (els w.Level.Rows),.row 1 (els w.Scores),.row 9 (els bs),.gh 0 (.c (.ptr 0 0)),.box ((Enc.e c).map (V1.rd []))]⟩ : St)) (X7 [0,1,2,3,4,5] (by kernel_rfl)) ?_
   with_reducible refine Xd ?_
   refine Xf J J J J J J J J J J (by assumption) J J ?_;refine Wz [1] ?_
   refine AWP.pre (st' := (⟨_,[(0,.o (.c (.ptr 0 0))),(1,L row),(6,.o (.c (.ptr 5 0))),(7,B f),(12,I (els w.Scores).length),(13,I k)],[.box [.ref 1,jn w.Tick,jn w.Seed,.ref 2,.ref 3],.row 1 (els w.Level.Rows),.row 1 (els w.Scores),.row 9 (els (bs.set k c)),.gh 0 (.c (.ptr 0 0)),.box ((Enc.e c).map (V1.rd []))]⟩ : St)) ?_ (by rw [els_set]; exact X7 [0,1,2,3,4,5] (by kernel_rfl))
   cases f with
   | false =>
    refine Wz [39,53,53,53,8,45,38] ?_
    exact ⟨w.Scores.length - (k + 1),by omega,_,⟨k + 1,bs.set k c,by omega,(by rw [hnx]; rfl),J⟩,X7 [0,1,2,3,4] (by kernel_rfl)⟩
   | true =>
    by_cases h24 : bs.length < 24
    ·have f3 : decide (((els (bs.set k c)).length : Int) < 24) = true := decide_eq_true (by omega)
     rw [if_pos ⟨rfl,h24⟩] at hnx
     refine Wz [7,30,0] ?_;refine zx (Qt.yes J J J (Qz J J J)) J ?_;refine Wz [6,116,112,6,10,24,9] ?_;refine Xh [[],[],[1],[1,2],[1,2,3],[],[5],[5,6],[1,2,3,4,5,6,7],(u9 9),(u9 10),(u9 11)] [[],[],[76],[76,77],[76,77,78],[],[80],[80,81],[76,77,78,79,80,81,82],[75,76,77,78,79,80,81,82,83],[75,76,77,78,79,80,81,82,83,84],[75,76,77,78,79,80,81,82,83,84,85]] [[76,77,78,79,80,81,82,83],[75,80,81,82],[75,80,81,82],[75,80,81,82],[75,80,81,82],[75,76,77,78,79],[75,76,77,78,79],[75,76,77,78,79],[75],[],[],[],[0]] J ?_;refine Wz [3,3,93,33,100] ?_;refine DR.s (Zk J J (csh) J J J) J J ?_;refine Wz [168,31] ?_;refine AL.weak (st' := (⟨_,[(0,.o (.c (.ptr 0 0))),(1,L row),(75,.o (.c (.ptr 0 0))),(79,.o (.c (.ref 3))),(82,.o (.c (.sb 5 1 9))),(12,I (els w.Scores).length),(13,I k)],[.box [.ref 1,jn w.Tick,jn w.Seed,.ref 2,.ref 3],.row 1 (els w.Level.Rows),.row 1 (els w.Scores),.row 9 (els (bs.set k c)),.gh 0 (.c (.ptr 0 0)),.box ((Enc.e (shotOf c)).map (V1.rd []))]⟩ : St)) (X7 [0,1,2,3,4,6] (by kernel_rfl)) ?_;refine Wz [111,104,41,74,38] ?_
     exact ⟨w.Scores.length - (k + 1),by omega,_,⟨k + 1,bs.set k c ++ [shotOf c],by omega,hnx.symm,J⟩,(by rw [Yk]; exact X7 [0,1,2,3,4] (by kernel_rfl))⟩
    ·have f3 : decide (((els (bs.set k c)).length : Int) < 24) = false := decide_eq_false (by omega)
     rw [if_neg (fun q => h24 q.2)] at hnx
     refine Wz [7,30,0] ?_;refine zx (Qt.yes J J J (Qz J J J)) J ?_;refine Wz [6,116,112,6,10,24,45,38] ?_
     exact ⟨w.Scores.length - (k + 1),by omega,_,⟨k + 1,bs.set k c,by omega,hnx.symm,J⟩,X7 [0,1,2,3,4] (by kernel_rfl)⟩
 ·have hb0 : decide ((k : Int) < (els w.Scores).length) = false := decide_eq_false (by omega)
  have hk : k = w.Scores.length := by omega
  subst hk
  rw [← hp_A]
  refine Wz [4,10,21,47,136] ?_;refine F_n ?_
  exact E_none J (X6 [0,1,2,3,4] (by decide) J J J)
end
section
open Go.RowKit

theorem mv_a {l : TLevel} {b : TBody} (h : b.Kind = 0 ∧ 0 < b.Life) : mvOne l b = some (moveM l b).1 := by rw [mvOne,if_pos h]
theorem mv_n {l : TLevel} {b : TBody} (h : ¬ (b.Kind = 0 ∧ 0 < b.Life)) (h1 : b.Kind = 1) (h2 : (moveM l b).2 = true ∨ b.Timer - 1 = 0) : mvOne l b = none := by rw [mvOne,if_neg h,if_pos h1,if_pos h2]
theorem mv_s {l : TLevel} {b : TBody} (h : ¬ (b.Kind = 0 ∧ 0 < b.Life)) (h1 : b.Kind = 1) (h2 : ¬ ((moveM l b).2 = true ∨ b.Timer - 1 = 0)) : mvOne l b = some (tick1 (moveM l b).1) := by rw [mvOne,if_neg h,if_pos h1,if_neg h2]
theorem mv_k {l : TLevel} {b : TBody} (h : ¬ (b.Kind = 0 ∧ 0 < b.Life)) (h1 : ¬ b.Kind = 1) : mvOne l b = some b := by rw [mvOne,if_neg h,if_neg h1]
theorem mv_len {l : TLevel} {bs lf : List TBody} {k : Nat} (h : lf = (bs.take k).filterMap (mvOne l)) : lf.length ≤ k := by
 rw [h]
 have := List.length_filterMap_le (mvOne l) (bs.take k)
 rw [List.length_take] at this
 omega
theorem mv_some {l : TLevel} {bs lf : List TBody} {k : Nat} {b c : TBody} (h : lf = (bs.take k).filterMap (mvOne l)) (hb : bs[k]? = some b) (hm : mvOne l b = some c) : lf ++ [c] = (bs.take (k + 1)).filterMap (mvOne l) := by rw [mv_next hb,hm,← h]; rfl
theorem mv_none {l : TLevel} {bs lf : List TBody} {k : Nat} {b : TBody} (h : lf = (bs.take k).filterMap (mvOne l)) (hb : bs[k]? = some b) (hm : mvOne l b = none) : lf = (bs.take (k + 1)).filterMap (mvOne l) := by rw [mv_next hb,hm,← h]; simp
theorem I_stepMoves (w : TWorld) (hg : Enc.gd w.Level) (hl : levelOk w.Level = true) (hL : LM w.Level w.Scores.length w.Bodies) (htm : ∀ b ∈ w.Bodies,0 ≤ b.Timer ∧ b.Timer ≤ 25) : Con Tryz.prog 198 [.box [.ref 1,jn w.Tick,jn w.Seed,.ref 2,.ref 3],.row 1 (els w.Level.Rows),.row 1 (els w.Scores),.row 9 (els w.Bodies),.gh 0 (.c (.ptr 0 0))] [.c (.ptr 0 0)] [.box [.ref 1,jn w.Tick,jn w.Seed,.ref 2,.ref 3],.row 1 (els w.Level.Rows),.row 1 (els w.Scores),.row 9 (els (mvM w.Level w.Bodies)),.gh 0 (.c (.ptr 0 0))] (.tu []) := by
 have hlb := Ym w.Bodies
 have hln := hL.len
 refine Con.of Tryz.func198 J Tryz.ntmps198 J (fun E => ?_)
 refine Wz [11,28,104,17,112,78,13] ?_
 refine AWP.pre ?_ (W_nil 2 9 J)
 refine Xi (fun m st => ∃ (k : Nat) (lf : List TBody),k + m = w.Bodies.length ∧ (lf = (w.Bodies.take k).filterMap (mvOne w.Level)) ∧ st = (⟨_,[(0,.o (.c (.ptr 0 0))),(2,.o (.c (.ref 5))),(10,.o (.c (.ref 3))),(11,I (els w.Bodies).length),(12,I k)],[.box [.ref 1,jn w.Tick,jn w.Seed,.ref 2,.ref 3],.row 1 (els w.Level.Rows),.row 1 (els w.Scores),.row 9 (els w.Bodies),.gh 0 (.c (.ptr 0 0)),.row 9 (els lf)]⟩ : St)) (w.Bodies.length) ⟨_,⟨0,[],by omega,J,J⟩,X7 [0,1,2,3,4,5] (by kernel_rfl)⟩ ?_
 rintro m_A _ ⟨k,lf,hk_A,hp_A,rfl⟩
 have hll := Ym lf
 have hlk := mv_len hp_A
 by_cases hlt : k < w.Bodies.length
 ·have hb0 : decide ((k : Int) < (els w.Bodies).length) = true := decide_eq_true (by omega)
  obtain ⟨b,hb⟩ := Kb hlt
  refine Wz [4,10,21,46,29,4,110] ?_
  have he := Yo hb
  with_reducible refine Xe ?_
  refine zx (Q6 J J J J (by assumption) J J) J ?_
  with_reducible refine K_alloc ?_
  refine M1 (Qx J J J) J J ?_
  with_reducible refine Xd ?_
  refine Wz [37] ?_
  refine AWP.pre (st' := (⟨_,[(0,.o (.c (.ptr 0 0))),(2,.o (.c (.ref 5))),(4,.o (.c (.ptr 6 0))),(10,.o (.c (.ref 3))),(11,I (els w.Bodies).length),(12,I k)],[.box [.ref 1,jn w.Tick,jn w.Seed,.ref 2,.ref 3],.row 1 (els w.Level.Rows),.row 1 (els w.Scores),.row 9 (els w.Bodies),.gh 0 (.c (.ptr 0 0)),.row 9 (els lf),.box ((Enc.e b).map (V1.rd []))]⟩ : St)) ?_ (X7 [0,1,2,3,4,5,6] (by kernel_rfl))
  clear he
  have hB := (hL.at_ k b hb).1
  have ht := htm b (List.mem_of_getElem? hb)
  obtain ⟨c,s,hcs⟩ : ∃ c s,(c,s) = moveM w.Level b := ⟨_,_,rfl⟩
  have cm := I_MoveBody w.Level b hg hl hB.k hB.p hB.vx hB.vy
  have hct : (moveM w.Level b).1.Timer = b.Timer := rfl
  have ma := @mv_a w.Level b
  have mn := @mv_n w.Level b
  have ms := @mv_s w.Level b
  have mk := @mv_k w.Level b
  rw [← hcs] at cm hct ma mn ms
  simp only at cm hct ma mn ms
  clear hcs hB
  by_cases hA : b.Kind = 0 ∧ 0 < b.Life
  ·have f1 : decide (b.Kind = 0) = true := decide_eq_true hA.1
   have f2 : decide (0 < b.Life) = true := decide_eq_true hA.2
   have hm := mv_some hp_A hb (ma hA)
   refine Wz [20,13,5,19,57,85,24,2,46] ?_
   refine AWP.pre (st' := (⟨_,[(0,.o (.c (.ptr 0 0))),(2,.o (.c (.ref 5))),(4,.o (.c (.ptr 6 0))),(10,.o (.c (.ref 3))),(11,I (els w.Bodies).length),(12,I k)],[.box [.ref 1,jn w.Tick,jn w.Seed,.ref 2,.ref 3],.row 1 (els w.Level.Rows),.row 1 (els w.Scores),.row 9 (els w.Bodies),.gh 0 (.c (.ptr 0 0)),.row 9 (els lf),.box ((Enc.e b).map (V1.rd []))]⟩ : St)) ?_ (X7 [0,1,2,3,4,5,6] (by kernel_rfl))
   refine Xh [[],[0],[0,1],[0,1,2],[],(u9 5),(u9 6),(u9 7),(u9 7),(u9 8)] [[],[26],[26,27],[26,27,28],[],[26,27,28,29,30],[26,27,28,29,30,31],[25,26,27,28,29,30,31],[25,26,27,28,29,30,31],[25,26,27,28,29,30,31,32]] [[30],[30],[30],[30],[26,27,28,29],[],[],[33],[32],[33],[8]] J ?_;refine Wz [3,93,140,100,100] ?_;refine DR.s (Zk J J (cm) J J J) J J ?_;refine DR.s (Q8 J J J) J J (DR.s (Zn J J J J) J J (DR.s (Zn J J J J) J J (DR.stop (by kernel_rfl) (by kernel_rfl) ?_)));refine AL.weak (st' := (⟨_,[(0,.o (.c (.ptr 0 0))),(2,.o (.c (.ref 5))),(4,.o (.c (.ptr 6 0))),(32,.o (.ag ((Enc.e c).map (V1.rd [])))),(10,.o (.c (.ref 3))),(11,I (els w.Bodies).length),(12,I k)],[.box [.ref 1,jn w.Tick,jn w.Seed,.ref 2,.ref 3],.row 1 (els w.Level.Rows),.row 1 (els w.Scores),.row 9 (els w.Bodies),.gh 0 (.c (.ptr 0 0)),.row 9 (els lf),.box ((Enc.e b).map (V1.rd []))]⟩ : St)) (X7 [0,1,2,3,4,5,6] (by kernel_rfl)) ?_;refine Wz [40,74,124,0,27,54,111,51,38] ?_
   exact ⟨w.Bodies.length - (k + 1),by omega,_,⟨k + 1,lf ++ [c],by omega,hm,J⟩,(by rw [Yk]; exact X7 [0,1,2,3,4,5] (by kernel_rfl))⟩
  by_cases hS : b.Kind = 1
  ·have f3 : decide (b.Kind = 1) = true := decide_eq_true hS
   have f1 : decide (b.Kind = 0) = false := decide_eq_false (by omega)
   refine Wz [20,13,5,19,44,84,8,2,47,5,19,2,46,20] ?_
   refine AWP.pre (st' := (⟨_,[(0,.o (.c (.ptr 0 0))),(2,.o (.c (.ref 5))),(4,.o (.c (.ptr 6 0))),(10,.o (.c (.ref 3))),(11,I (els w.Bodies).length),(12,I k)],[.box [.ref 1,jn w.Tick,jn w.Seed,.ref 2,.ref 3],.row 1 (els w.Level.Rows),.row 1 (els w.Scores),.row 9 (els w.Bodies),.gh 0 (.c (.ptr 0 0)),.row 9 (els lf),.box ((Enc.e b).map (V1.rd []))]⟩ : St)) ?_ (X7 [0,1,2,3,4,5,6] (by kernel_rfl))
   refine Xh [[],[0],[0,1],[0,1,2],[],(u9 5),(u9 6),(u9 7),(u9 7),[],[0,1,2,3,4,5,6,7,9],(u9 11)] [[],[39],[39,40],[39,40,41],[],[39,40,41,42,43],[39,40,41,42,43,44],[38,39,40,41,42,43,44],[38,39,40,41,42,43,44],[],[5,38,39,40,41,42,43,44,45],[5,38,39,40,41,42,43,44,45,46]] [[5,43],[5,43],[5,43],[5,43],[5,39,40,41,42],[5],[5],[5,46],[5,45],[38,39,40,41,42,43,44,45,46],[46],[],[8]] J ?_;refine Wz [3,93,140,100,100] ?_;refine DR.s (Zk J J (cm) J J J) J J ?_;refine DR.s (Q8 J J J) J J (DR.s (Zn J J J J) J J (DR.s (Zn J J J J) J J (DR.s (Qx J J J) J J (DR.stop (by kernel_rfl) (by kernel_rfl) ?_))));refine AL.weak (st' := (⟨_,[(0,.o (.c (.ptr 0 0))),(2,.o (.c (.ref 5))),(4,.o (.c (.ptr 6 0))),(5,.o (.c (.ptr 7 0))),(45,.o (.ag ((Enc.e c).map (V1.rd [])))),(46,B s),(10,.o (.c (.ref 3))),(11,I (els w.Bodies).length),(12,I k)],[.box [.ref 1,jn w.Tick,jn w.Seed,.ref 2,.ref 3],.row 1 (els w.Level.Rows),.row 1 (els w.Scores),.row 9 (els w.Bodies),.gh 0 (.c (.ptr 0 0)),.row 9 (els lf),.box ((Enc.e b).map (V1.rd [])),.box [jn 0,jn 0,jn 0,jn 0,jn 0,jn 0,jn 0,jn 0,jn 0]]⟩ : St)) (X7 [0,1,2,3,4,5,6,7] (by kernel_rfl)) ?_
   with_reducible refine Xd ?_
   refine Qy J J J J J J J J J ?_
   with_reducible refine K_assign ?_
   refine Wz [2] ?_
   repeat (first | refine Qd ?_ | refine Qc ?_)
   with_reducible refine Xe ?_
   refine z4 J J J ?_
   with_reducible refine Xd ?_
   refine Wz [37] ?_
   refine AWP.pre (st' := (⟨_,[(0,.o (.c (.ptr 0 0))),(2,.o (.c (.ref 5))),(4,.o (.c (.ptr 6 0))),(6,B s),(10,.o (.c (.ref 3))),(11,I (els w.Bodies).length),(12,I k)],[.box [.ref 1,jn w.Tick,jn w.Seed,.ref 2,.ref 3],.row 1 (els w.Level.Rows),.row 1 (els w.Scores),.row 9 (els w.Bodies),.gh 0 (.c (.ptr 0 0)),.row 9 (els lf),.box ((Enc.e c).map (V1.rd []))]⟩ : St)) ?_ (X7 [0,1,2,3,4,5,6] (by kernel_rfl))
   rw [← hct] at ht
   cases s with
   | true =>
    have hm := mv_none hp_A hb (mn hA hS (.inl rfl))
    refine Wz [5,73,41,1,39,53,84,24,9,143] ?_;refine B_xo J ?_;refine Wz [162,113,81,163] ?_
    exact ⟨w.Bodies.length - (k + 1),by omega,_,⟨k + 1,lf,by omega,hm,J⟩,X7 [0,1,2,3,4,5] (by kernel_rfl)⟩
   | false =>
    by_cases h1 : c.Timer - 1 = 0
    ·have f4 : decide (c.Timer - 1 = 0) = true := decide_eq_true h1
     have hm := mv_none hp_A hb (mn hA hS (.inr (by rw [← hct]; exact h1)))
     refine Wz [5,73,41,1,7,57,19,8,9,143] ?_;refine B_xo J ?_;refine Wz [162,113,81,163] ?_
     exact ⟨w.Bodies.length - (k + 1),by omega,_,⟨k + 1,lf,by omega,hm,J⟩,X7 [0,1,2,3,4,5] (by kernel_rfl)⟩
    ·have f4 : decide (c.Timer - 1 = 0) = false := decide_eq_false h1
     have hm := mv_some hp_A hb (ms hA hS (fun q => q.elim (fun q => Bool.false_ne_true q) (fun q => h1 (by rw [hct]; exact q))))
     refine Wz [5,73,41,1,7,57,19,8,45,124,0,27,54,111,51,38] ?_
     exact ⟨w.Bodies.length - (k + 1),by omega,_,⟨k + 1,lf ++ [tick1 c],by omega,hm,J⟩,(by rw [Yk]; exact X7 [0,1,2,3,4,5] (by kernel_rfl))⟩
  ·have f3 : decide (b.Kind = 1) = false := decide_eq_false hS
   have hm := mv_some hp_A hb (mk hA hS)
   by_cases hK : b.Kind = 0
   ·have f1 : decide (b.Kind = 0) = true := decide_eq_true hK
    have f2 : decide (0 < b.Life) = false := decide_eq_false (fun q => hA ⟨hK,q⟩)
    refine Wz [20,13,5,19,57,85,24,2,47,5,19,2,47,96,124,0,27,54,111,51,38] ?_
    exact ⟨w.Bodies.length - (k + 1),by omega,_,⟨k + 1,lf ++ [b],by omega,hm,J⟩,(by rw [Yk]; exact X7 [0,1,2,3,4,5] (by kernel_rfl))⟩
   ·have f1 : decide (b.Kind = 0) = false := decide_eq_false hK
    refine Wz [20,13,5,19,44,84,8,2,47,5,19,2,47,96,124,0,27,54,111,51,38] ?_
    exact ⟨w.Bodies.length - (k + 1),by omega,_,⟨k + 1,lf ++ [b],by omega,hm,J⟩,(by rw [Yk]; exact X7 [0,1,2,3,4,5] (by kernel_rfl))⟩
 ·have hb0 : decide ((k : Int) < (els w.Bodies).length) = false := decide_eq_false (by omega)
  have hk : k = w.Bodies.length := by omega
  have hm : lf = mvM w.Level w.Bodies := by rw [hp_A,hk,List.take_length]; rfl
  subst hm
  refine Wz [4,10,21,47,32,49,0,104,41,74] ?_;refine F_n ?_
  exact E_none J (X6 [0,1,2,5,4] (by decide) J J J)
end
end Go.Proofs.YtpmacgnmlmmojaaGreatDoor
