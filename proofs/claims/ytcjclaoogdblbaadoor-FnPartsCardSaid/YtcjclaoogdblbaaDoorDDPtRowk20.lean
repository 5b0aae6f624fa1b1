/-
  Parts of the proof (rules, data, and what functions of the program and of the reference return), among them: Hits and points of a tick, as data, and what holds between them; The first phase of a tick: the players, in the program.
  Conditions: those that each theorem names.
-/
import Derived.Test.YtcjclaoogdblbaaDoorDDPtRowk19
set_option linter.unusedSimpArgs false
set_option linter.unusedVariables false
set_option maxRecDepth 8000
set_option maxHeartbeats 8000000
namespace Go.Proofs.YtcjclaoogdblbaaDoor
section
open Go.RowKit

def metC (bs : List TBody) (b : TBody) (o : Int) (k : Nat) : Bool := match bs[k]? with
 | none => false
 | some p => (decide ((k : Int) ≠ o) && decide (0 < p.Life)) && meetM p b
def metF (bs : List TBody) (b : TBody) (o : Int) : Nat → Option Nat
 | 0 => none
 | n + 1 => match metF bs b o n with
  | some k => some k
  | none => if metC bs b o n = true then some n else none
def metI (bs : List TBody) (b : TBody) (o : Int) (n : Nat) : Int := match metF bs b o n with
 | some k => k
 | none => -1
section
variable {bs : List TBody} {b p : TBody} {o : Int} {k n : Nat}
theorem metC_at (h : bs[k]? = some p) : metC bs b o k = ((decide ((k : Int) ≠ o) && decide (0 < p.Life)) && meetM p b) := by rw [metC,h]
theorem metF_no (h : metF bs b o k = none) (hc : metC bs b o k = false) : metF bs b o (k + 1) = none := by rw [metF,h]; simp [hc]
theorem metF_hit (h : metF bs b o k = none) (hc : metC bs b o k = true) : ∀ {n : Nat},k < n → metF bs b o n = some k
 | n + 1,hlt => by
  rcases Nat.lt_or_ge k n with h1 | h1
  ·rw [metF,metF_hit h hc h1]
  ·have : k = n := by omega
   subst this
   rw [metF,h]; simp [hc]
theorem metF_lt : ∀ {n : Nat},metF bs b o n = some k → k < n ∧ metC bs b o k = true
 | 0,h => by cases h
 | n + 1,h => by
  rw [metF] at h
  cases hm : metF bs b o n with
  | some j =>
   rw [hm] at h
   cases h
   have := metF_lt hm
   exact ⟨by omega,this.2⟩
  | none =>
   rw [hm] at h
   simp only at h
   split at h
   ·cases h; rename_i hc; exact ⟨by omega,hc⟩
   ·cases h
theorem metC_life (h : metC bs b o k = true) : ∃ p,bs[k]? = some p ∧ 0 < p.Life ∧ (k : Int) ≠ o ∧ meetM p b = true := by
 unfold metC at h
 split at h
 ·cases h
 ·rename_i p hp
  simp only [Bool.and_eq_true,decide_eq_true_eq] at h
  exact ⟨p,hp,h.1.2,h.1.1,h.2⟩
end
theorem els_sm {α : Type} [Enc α] {xs : List α} {i : Nat} {x : α} (h : xs[i]? = some x) : (els xs)[(i : Int).toNat]? = some (Enc.e x) := by simp [els,h]
theorem Zi {α : Type} {xs : List α} {i : Nat} (h : i < xs.length) : ∃ x,xs[i]? = some x := ⟨xs[i],List.getElem?_eq_getElem h⟩
theorem S_l02Meets (w : TWorld) (b : TBody) (o : Int) (hn : w.Scores.length ≤ w.Bodies.length) (h4 : w.Scores.length ≤ 4) (hp : ∀ k p,k < w.Scores.length → w.Bodies[k]? = some p → Placed p) (hb : Placed b) : Con Tryd.prog 150 [.box [.ref 1,jn w.Tick,jn w.Seed,.ref 2,.ref 3],.row 1 (els w.Level.Rows),.row 1 (els w.Scores),.row 9 (els w.Bodies),.gh 0 (.c (.ptr 0 0)),.gh 6 (.c (.ref 3))] [.c (.ptr 0 0),ag b,ai o] [.box [.ref 1,jn w.Tick,jn w.Seed,.ref 2,.ref 3],.row 1 (els w.Level.Rows),.row 1 (els w.Scores),.row 9 (els w.Bodies),.gh 0 (.c (.ptr 0 0)),.gh 6 (.c (.ref 3))] (I (metI w.Bodies b o w.Scores.length)) := by
 have hls := X7 w.Scores
 have hlb := X7 w.Bodies
 refine Con.of Tryd.func150 J Tryd.ntmps150 J (fun E => ?_)
 refine zy (M1 (Qq J J J J) J J (z1 J (zz (Qd (zy (z1 J (zz ?_)))))));refine Qk ?_;refine Xi (fun m st => ∃ k : Nat,k + m = w.Scores.length ∧ (metF w.Bodies b o k = none) ∧ st = (⟨_,[(0,.o (.c (.ptr 0 0))),(2,I o),(4,.o (.c (.ptr 6 0))),(7,I k)],[.box [.ref 1,jn w.Tick,jn w.Seed,.ref 2,.ref 3],.row 1 (els w.Level.Rows),.row 1 (els w.Scores),.row 9 (els w.Bodies),.gh 0 (.c (.ptr 0 0)),.gh 6 (.c (.ref 3)),.box ((Enc.e b).map (V1.rd []))]⟩ : St)) (w.Scores.length) ⟨_,⟨0,by omega,J,J⟩,Xt [0,1,2,3,4,5,6] (by kernel_rfl)⟩ ?_
 rintro m_A _ ⟨k,hk_A,hp_A,rfl⟩
 by_cases hlt : k < w.Scores.length
 ·have hb0 : decide ((k : Int) < (els w.Scores).length) = true := decide_eq_true (by omega)
  obtain ⟨p,hp1⟩ := Zi (xs := w.Bodies) (i := k) (by omega)
  have he := els_sm hp1
  have cm := S_BodiesMeet p b (hp k p hlt hp1) hb
  have hc := metC_at (b := b) (o := o) hp1
  by_cases h1 : (k : Int) = o
  ·have f1 : decide ((k : Int) ≠ o) = false := decide_eq_false (fun q => q h1)
   refine Qd (zy (z0 J (z0 J (zx (Qz J J J) J (z2 J J J (z3 J (zx (Y3 J J J J) J (z9a J (by assumption) (zz ?_)))))))));refine Qm J (Qh (Q0 (Qd (Qk (Qd (Xh u8_9 u8_10 u8_11 J (DR.s (Qa J J J) J J (DR.s (Qa J J J) J J (DR.s (Qw J J J J (by assumption)) J J (DR.s (Qa J J J) J J (DR.s (Qt.no J J J J) J J ?_)))))))))));refine DR.s (Qt.no J J J J) J J (DR.s (Qt.no J J J J) J J (DR.s (Qt.no J J J J) J J (DR.s (Qt.no J J J J) J J (DR.s (Qt.no J J J J) J J (DR.s (Qt.no J J J J) J J (DR.s (Qt.no J J J J) J J (DR.s (Qt.no J J J J) J J (DR.s (Qn J J J J) J J (DR.s (Qa J J J) J J (DR.s (Qt.no J J J J) J J (DR.s (Qt.no J J J J) J J ?_)))))))))));refine DR.s (Qt.no J J J J) J J (DR.s (Qt.no J J J J) J J (DR.s (Qt.no J J J J) J J (DR.s (Qt.no J J J J) J J (DR.s (Qt.no J J J J) J J (DR.s (Qt.no J J J J) J J (DR.s (Qt.no J J J J) J J (DR.s (Qn J J J J) J J (DR.stop (by kernel_rfl) (by kernel_rfl) (zz (Ql J ?_))))))))));refine Qh (Q1 (Q0 (Qc (z0 J (z7 J (by omega) (z1 J (zz ?_)))))))
   exact ⟨w.Scores.length - (k + 1),by omega,_,⟨k + 1,by omega,metF_no hp_A (by rw [hc,f1]; rfl),J⟩,Xt [0,1,2,3,4,5,6] (by kernel_rfl)⟩
  have f1 : decide ((k : Int) ≠ o) = true := decide_eq_true h1
  by_cases h2 : 0 < p.Life
  ·have f2 : decide (0 < p.Life) = true := decide_eq_true h2
   cases h3 : meetM p b with
   | false =>
    rw [h3] at cm
    refine Qd (zy (z0 J (z0 J (zx (Qz J J J) J (z2 J J J (z3 J (zx (Y3 J J J J) J (z9a J (by assumption) (zz ?_)))))))));refine Qm J (Qh (Q0 (Qd (Qk (Qd (Xh u8_9 u8_10 u8_11 J (DR.s (Qa J J J) J J (DR.s (Qa J J J) J J (DR.s (Qw J J J J (by assumption)) J J (DR.s (Qa J J J) J J (DR.s (Qt.yes J J J (Qa J J J)) J J ?_)))))))))));refine DR.s (Qt.yes J J J (Qz J J J)) J J (DR.s (Qt.yes J J J (Qf J J J J (by decide))) J J (DR.s (Qt.yes J J J (Qg J J J J J)) J J (DR.s (Qt.yes J J J (Qa J J J)) J J (DR.s (Qt.yes J J J (Q3 J J J J J (by omega) (by omega))) J J (DR.s (Qt.yes J J J (Yy J J J J (by decide))) J J (DR.s (Qt.yes J J J (Q7 J J J J (by assumption) J)) J J (DR.s (Qt.yes J J J (Y0 J J J J (by assumption))) J J (DR.s (Qo J J J J) J J (DR.s (Qa J J J) J J (DR.s (Qt.yes J J J (Qa J J J)) J J (DR.s (Qt.yes J J J (Qz J J J)) J J ?_)))))))))));refine DR.s (Qt.yes J J J (Qf J J J J (by decide))) J J (DR.s (Qt.yes J J J (Qg J J J J J)) J J (DR.s (Qt.yes J J J (Qa J J J)) J J (DR.s (Qt.yes J J J (Q3 J J J J J (by omega) (by omega))) J J (DR.s (Qt.yes J J J (Q6 J J J J (by assumption) J J)) J J (DR.s (Qt.yes J J J (Qu J J J J J J)) J J ?_)))));refine DR.s (Qt.yes J J J (Qj J J (cm) J)) J J ?_;refine DR.s (Qo J J J J) J J (DR.stop (by kernel_rfl) (by kernel_rfl) (zz (Ql J (Qh (Q1 (Q0 (Qc (z0 J (z7 J (by omega) (z1 J ?_))))))))));refine zz ?_
    exact ⟨w.Scores.length - (k + 1),by omega,_,⟨k + 1,by omega,metF_no hp_A (by rw [hc,h3,Bool.and_false]),J⟩,Xt [0,1,2,3,4,5,6] (by kernel_rfl)⟩
   | true =>
    rw [h3] at cm
    refine Qd (zy (z0 J (z0 J (zx (Qz J J J) J (z2 J J J (z3 J (zx (Y3 J J J J) J (z9a J (by assumption) (zz ?_)))))))));refine Qm J (Qh (Q0 (Qd (Qk (Qd (Xh u8_9 u8_10 u8_11 J (DR.s (Qa J J J) J J (DR.s (Qa J J J) J J (DR.s (Qw J J J J (by assumption)) J J (DR.s (Qa J J J) J J (DR.s (Qt.yes J J J (Qa J J J)) J J ?_)))))))))));refine DR.s (Qt.yes J J J (Qz J J J)) J J (DR.s (Qt.yes J J J (Qf J J J J (by decide))) J J (DR.s (Qt.yes J J J (Qg J J J J J)) J J (DR.s (Qt.yes J J J (Qa J J J)) J J (DR.s (Qt.yes J J J (Q3 J J J J J (by omega) (by omega))) J J (DR.s (Qt.yes J J J (Yy J J J J (by decide))) J J (DR.s (Qt.yes J J J (Q7 J J J J (by assumption) J)) J J (DR.s (Qt.yes J J J (Y0 J J J J (by assumption))) J J (DR.s (Qo J J J J) J J (DR.s (Qa J J J) J J (DR.s (Qt.yes J J J (Qa J J J)) J J (DR.s (Qt.yes J J J (Qz J J J)) J J ?_)))))))))));refine DR.s (Qt.yes J J J (Qf J J J J (by decide))) J J (DR.s (Qt.yes J J J (Qg J J J J J)) J J (DR.s (Qt.yes J J J (Qa J J J)) J J (DR.s (Qt.yes J J J (Q3 J J J J J (by omega) (by omega))) J J (DR.s (Qt.yes J J J (Q6 J J J J (by assumption) J J)) J J (DR.s (Qt.yes J J J (Qu J J J J J J)) J J ?_)))));refine DR.s (Qt.yes J J J (Qj J J (cm) J)) J J ?_;refine DR.s (Qo J J J J) J J (DR.stop (by kernel_rfl) (by kernel_rfl) (zz (Qm J (zy (z0 J (z1 J (zz (Xa ?_))))))));refine B_r (T_r (T_r (B_r (T_r (F_r ?_)))))
    exact Xl J J (Xs [0,1,2,3,4,5] (by decide) J J (Xo (by rw [metI,metF_hit hp_A (by rw [hc,f1,f2,h3]; rfl) hlt])))
  ·have f2 : decide (0 < p.Life) = false := decide_eq_false h2
   refine Qd (zy (z0 J (z0 J (zx (Qz J J J) J (z2 J J J (z3 J (zx (Y3 J J J J) J (z9a J (by assumption) (zz ?_)))))))));refine Qm J (Qh (Q0 (Qd (Qk (Qd (Xh u8_9 u8_10 u8_11 J (DR.s (Qa J J J) J J (DR.s (Qa J J J) J J (DR.s (Qw J J J J (by assumption)) J J (DR.s (Qa J J J) J J (DR.s (Qt.yes J J J (Qa J J J)) J J ?_)))))))))));refine DR.s (Qt.yes J J J (Qz J J J)) J J (DR.s (Qt.yes J J J (Qf J J J J (by decide))) J J (DR.s (Qt.yes J J J (Qg J J J J J)) J J (DR.s (Qt.yes J J J (Qa J J J)) J J (DR.s (Qt.yes J J J (Q3 J J J J J (by omega) (by omega))) J J (DR.s (Qt.yes J J J (Yy J J J J (by decide))) J J (DR.s (Qt.yes J J J (Q7 J J J J (by assumption) J)) J J (DR.s (Qt.yes J J J (Y0 J J J J (by assumption))) J J (DR.s (Qo J J J J) J J (DR.s (Qa J J J) J J (DR.s (Qt.no J J J J) J J (DR.s (Qt.no J J J J) J J ?_)))))))))));refine DR.s (Qt.no J J J J) J J (DR.s (Qt.no J J J J) J J (DR.s (Qt.no J J J J) J J (DR.s (Qt.no J J J J) J J (DR.s (Qt.no J J J J) J J (DR.s (Qt.no J J J J) J J (DR.s (Qt.no J J J J) J J (DR.s (Qn J J J J) J J (DR.stop (by kernel_rfl) (by kernel_rfl) (zz (Ql J ?_))))))))));refine Qh (Q1 (Q0 (Qc (z0 J (z7 J (by omega) (z1 J (zz ?_)))))))
   exact ⟨w.Scores.length - (k + 1),by omega,_,⟨k + 1,by omega,metF_no hp_A (by rw [hc,f2,Bool.and_false,Bool.false_and]),J⟩,Xt [0,1,2,3,4,5,6] (by kernel_rfl)⟩
 ·have hb0 : decide ((k : Int) < (els w.Scores).length) = false := decide_eq_false (by omega)
  have hk : k = w.Scores.length := by omega
  refine Qd (zy (z0 J (z0 J (zx (Qz J J J) J (z2 J J J (z3 J (zx (Y3 J J J J) J (z9a J (by assumption) (zz ?_)))))))));refine Ql J (Q9 (T_x (T_x (Xj (Q0 (zy (z1 J (zz (Xa ?_)))))))));refine F_r ?_
  exact Xl J J (Xs [0,1,2,3,4,5] (by decide) J J (Xo (by rw [metI,← hk,hp_A])))
def addM (ss : List Int) (k : Nat) : List Int := match ss[k]? with
 | none => ss
 | some s => ss.set k (min (s + 1) 1000000)
theorem addM_at {ss : List Int} {k : Nat} {s : Int} (h : ss[k]? = some s) : addM ss k = ss.set k (min (s + 1) 1000000) := by rw [addM,h]
theorem addM_els {ss : List Int} {k : Nat} {s : Int} (h : ss[k]? = some s) : els (addM ss k) = (els ss).set (k : Int).toNat (splice (Enc.e s) 0 [.v (.int .i64 (min (s + 1) 1000000))]) := by
 rw [addM_at h,els_set]; rfl
theorem S_l02Point (w : TWorld) (k : Nat) (s : Int) (hs : w.Scores[k]? = some s) (h0 : 0 ≤ s ∧ s ≤ 1000000) : Con Tryd.prog 151 [.box [.ref 1,jn w.Tick,jn w.Seed,.ref 2,.ref 3],.row 1 (els w.Level.Rows),.row 1 (els w.Scores),.row 9 (els w.Bodies),.gh 0 (.c (.ptr 0 0)),.gh 5 (.c (.ref 3))] [.c (.ptr 0 0),ai k] [.box [.ref 1,jn w.Tick,jn w.Seed,.ref 2,.ref 3],.row 1 (els w.Level.Rows),.row 1 (els (addM w.Scores k)),.row 9 (els w.Bodies),.gh 0 (.c (.ptr 0 0)),.gh 5 (.c (.ref 3))] (.tu []) := by
 have hls := X7 w.Scores
 have hk := Yf hs
 have he := els_sm hs
 rw [addM_els hs]
 refine Con.of Tryd.func151 J Tryd.ntmps151 J (fun E => ?_)
 skip
 refine Xh [[],[0],[0,1],[0,1,2],[],[],[5],[5,6],[5,6,7],[],[5,6,7,8,9],[5,6,7,8,9,10],[5,6,7,8,9,10,11],[5,6,7,8,9,10,11,12],(u9 14),(u9 15)] [[],[4],[4,5],[4,5,6],[],[],[9],[9,10],[9,10,11],[],[9,10,11,12,13],[9,10,11,12,13,14],[9,10,11,12,13,14,15],[9,10,11,12,13,14,15,16],[4,5,6,7,8,9,10,11,12,13,14,15,16,17],[4,5,6,7,8,9,10,11,12,13,14,15,16,17,18]] [[8,9,10,11,12,13,14,15,16,17],[8,9,10,11,12,13,14,15,16,17],[8,9,10,11,12,13,14,15,16,17],[8,9,10,11,12,13,14,15,16,17],[4,5,6,7,9,10,11,12,13,14,15,16,17],[4,5,6,7,8,13],[4,5,6,7,8,13],[4,5,6,7,8,13],[4,5,6,7,8,13],[4,5,6,7,8,9,10,11,12],[4,5,6,7,8],[4,5,6,7,8],[4,5,6,7,8],[4,5,6,7,8],[],[],[0,4]] J (DR.s (Qa J J J) J J (DR.s (Qz J J J) J J (DR.s (Qf J J J J (by decide)) J J (DR.s (Qg J J J J J) J J (DR.s (Qa J J J) J J (DR.s (Qa J J J) J J (DR.s (Qz J J J) J J (DR.s (Qf J J J J (by decide)) J J (DR.s (Qg J J J J J) J J (DR.s (Qa J J J) J J (DR.s (Q3 J J J J J (by omega) (by omega)) J J ?_)))))))))));refine DR.s (Q7 J J J J (by assumption) J) J J (DR.s (Qs J J J J (by omega)) J J (DR.s (q_min J J J J) J J (DR.s (Q3 J J J J J (by omega) (by omega)) J J (DR.stop (by kernel_rfl) (by kernel_rfl) ?_))));refine Xg J J J J J J J J J (by assumption) J J (Qe (F_n ?_))
 exact E_none J (Xs [0,1,2,3,4,5] (by decide) J J J)
end
section
open Go.RowKit

theorem colSp_len (row : ByteArray) (r : Nat) : ∀ n,(colSp row r n).length ≤ n
 | 0 => Nat.le_refl _
 | n + 1 => by have := colSp_len row r n; rw [colSp]; split <;> simp <;> omega
theorem rowSp_len {rows : List ByteArray} {w : Nat} (hw : ∀ (r : Nat) (hr : r < rows.length),(rows[r]).size = w) : ∀ n,(rowSp rows n).length ≤ n * w
 | 0 => by simp [rowSp]
 | n + 1 => by
  have h := rowSp_len hw n
  rw [rowSp]
  cases hr : rows[n]? with
  | none => simp only; rw [Nat.add_mul]; omega
  | some row =>
   obtain ⟨h1,h2⟩ := List.getElem?_eq_some_iff.1 hr
   have h3 := colSp_len row n row.size
   have h4 : row.size = w := by rw [← h2]; exact hw n h1
   simp only [List.length_append]
   rw [Nat.add_mul]
   omega
def spotsM (l : TLevel) : List (List Int) := rowSp l.Rows l.Rows.length
theorem spots_len {l : TLevel} (hl : levelOk l = true) : (spotsM l).length ≤ 240 := by
 obtain ⟨l3,l12,w,w4,w20,hw⟩ := Yj hl
 have h := rowSp_len hw l.Rows.length
 have h2 : l.Rows.length * w ≤ 12 * 20 := Nat.mul_le_mul l12 w20
 unfold spotsM
 omega
theorem colSp_at {row : ByteArray} {r : Nat} : ∀ {n : Nat} {s : List Int},s ∈ colSp row r n → ∃ c : Nat,c < n ∧ byteAt row c = 111 ∧ s = [(c : Int) * 16 + 4,(r : Int) * 16 + 4]
 | 0,s,h => by simp [colSp] at h
 | n + 1,s,h => by
  rw [colSp] at h
  split at h
  ·rename_i hb
   rcases List.mem_append.1 h with h | h
   ·obtain ⟨c,h1,h2⟩ := colSp_at h; exact ⟨c,by omega,h2⟩
   ·exact ⟨n,by omega,hb,by simpa using h⟩
  ·obtain ⟨c,h1,h2⟩ := colSp_at h; exact ⟨c,by omega,h2⟩
theorem rowSp_at {rows : List ByteArray} : ∀ {n : Nat} {s : List Int},s ∈ rowSp rows n → ∃ (r c : Nat) (row : ByteArray),r < n ∧ rows[r]? = some row ∧ c < row.size ∧ byteAt row c = 111 ∧ s = [(c : Int) * 16 + 4,(r : Int) * 16 + 4]
 | 0,s,h => by simp [rowSp] at h
 | n + 1,s,h => by
  rw [rowSp] at h
  cases hr : rows[n]? with
  | none => rw [hr] at h; obtain ⟨r,c,row,h1,h2⟩ := rowSp_at h; exact ⟨r,c,row,by omega,h2⟩
  | some row =>
   rw [hr] at h
   rcases List.mem_append.1 h with h | h
   ·obtain ⟨r,c,row,h1,h2⟩ := rowSp_at h; exact ⟨r,c,row,by omega,h2⟩
   ·obtain ⟨c,h1,h2⟩ := colSp_at h; exact ⟨n,c,row,by omega,hr,h1,h2⟩
theorem sp_hit {row : ByteArray} {r c : Nat} {A : List (List Int)} {x y : Int} (h : byteAt row c = 111) (hx : x = (c : Int) * 16 + 4) (hy : y = (r : Int) * 16 + 4) : els (A ++ colSp row r (c + 1)) = els (A ++ colSp row r c) ++ [[.sl 1 (els [x,y])]] := by
 rw [colSp,if_pos h,← List.append_assoc,X5,hx,hy]; rfl
theorem sp_skip {row : ByteArray} {r c : Nat} (h : ¬ byteAt row c = 111) : colSp row r (c + 1) = colSp row r c := by rw [colSp,if_neg h]
theorem sp_row {rows : List ByteArray} {row : ByteArray} {r : Nat} (h : rows[r]? = some row) : rowSp rows (r + 1) = rowSp rows r ++ colSp row r row.size := by rw [rowSp,h]
theorem row2w {a : Ob} {k : Nat} {x y : List (List T)} (h : x = y) : [a,Ob.row k x] = [a,Ob.row k y] := by rw [h]
theorem S_SpotsOf (l : TLevel) (hg : Enc.gd l) (hl : levelOk l = true) : Con Tryd.prog 133 [] [ag l] [.row 1 (els (spotsM l))] (.o (.c (.ref 0))) := by
 have hc := S_LevelOk l hg
 rw [hl] at hc
 have hlr := X7 l.Rows
 obtain ⟨l3,l12,w,w4,w20,hw⟩ := Yj hl
 have hrl := rowSp_len hw
 refine Con.of Tryd.func133 J Tryd.ntmps133 J (fun E => ?_)
 refine zy (M1 (Qq J J J J) J J (z1 J (zz (zy (M1 (Yu J J J) J J (z1 J (zz ?_)))))));refine Qd (zy (z1 J (zz (Qk ?_))));refine Xi (fun m st => ∃ r : Nat,r + m = l.Rows.length ∧ (True) ∧ st = (⟨_,[(1,.o (.c (.ptr 0 0))),(3,.o (.c (.ref 1))),(4,I r)],[.box ((Enc.e l).map (V1.rd [])),.row 1 (els (rowSp l.Rows r))]⟩ : St)) (l.Rows.length) ⟨_,⟨0,by omega,trivial,J⟩,Xt [0,1] (by kernel_rfl)⟩ ?_
 rintro m_A _ ⟨r,hk_A,hp_A,rfl⟩
 by_cases h3 : r < l.Rows.length
 ·have hb0 : decide ((r : Int) < (els l.Rows).length) = true := decide_eq_true (by omega)
  have hat := X6 h3
  have hwr := hw r h3
  have hrow := List.getElem?_eq_getElem h3
  generalize l.Rows[r] = row at hat hwr hrow
  have hr1 := hrl r
  have hr2 : r * w ≤ 12 * 20 := Nat.mul_le_mul (by omega) w20
  refine Qd (zy (z0 J (z2 J J J (z3 J (zx (Y2 J J J) J (z9a J (by assumption) (z0 J (z5 J (z4 J J J (z5 J ?_))))))))));refine zx (Qj J J (hc) J) J ?_;refine zpT J (zz (Qm J (Qh (Q0 (Qd (Qk (zy (z1 J (Qe ?_)))))))));refine Q0 (Qk ?_);refine Xi (fun m st => ∃ c : Nat,c + m = row.size ∧ (True) ∧ st = (⟨_,[(1,.o (.c (.ptr 0 0))),(3,.o (.c (.ref 1))),(4,I r),(5,I c)],[.box ((Enc.e l).map (V1.rd [])),.row 1 (els (rowSp l.Rows r ++ colSp row r c))]⟩ : St)) (row.size) ⟨(fun c : Nat => (⟨_,[(1,.o (.c (.ptr 0 0))),(3,.o (.c (.ref 1))),(4,I r),(5,I c)],[.box ((Enc.e l).map (V1.rd [])),.row 1 (els (rowSp l.Rows r ++ colSp row r c))]⟩ : St)) 0,⟨0,by omega,trivial,J⟩,Xu [0,1] (by decide) J (row2w (by rw [colSp,List.append_nil])) (.c J (.c J (.c J (.c J (.nil)))))⟩ ?_
  rintro m_D _ ⟨c,hk_D,hp_D,rfl⟩
  have hcl := colSp_len row r c
  have hel := X7 (rowSp l.Rows r ++ colSp row r c)
  rw [List.length_append] at hel
  by_cases h4 : c < row.size
  ·have hb1 : decide ((c : Int) < row.size) = true := decide_eq_true (by omega)
   have hbt := X0 row c
   have hbt2 := X0 row (c : Int).toNat
   by_cases ho : byteAt row c = 111
   ·have hb2 : decide (byteAt row (c : Int).toNat = 111) = true := decide_eq_true ho
    refine Qd (zy (z0 J (z2 J J J (z3 J (z0 J (zx (Q2 J J J J (by omega) (by assumption) J) J (zx (Y6 J J J J) J (zx (Y4 J J J) J (z9a J (by assumption) (Qe ?_))))))))));refine Q0 (Qm J (Qh (Q0 (Qd (Qk (zy (z2 J J J (z3 J (z0 J (zx (Q2 J J J J (by omega) (by assumption) J) J ?_))))))))));refine zx (Y6 J J J J) J (z0 J (zx (q_byteK J J J J (by assumption) (by omega)) J ?_));refine zx (Qv (b := true) J J J J (by decide)) J ?_;refine zz (Qm J (Qc (z0 J (z0 J (zx (Y8 J J J J (by omega)) J (z7 J (by omega) (z0 J (zx (Y8 J J J J (by omega)) J (z7 J (by omega) (M1 (Yt J J J J J J) J J ?_))))))))));refine AL.weak (Wk.sbrow (q := 2) (es := els [16 * (c : Int) + 4,16 * (r : Int) + 4]) J J (Nat.le_of_ble_eq_true J)) ?_;refine M1 (Yt J J J J J J) J J ?_;refine M_appo J J J J J J J J J J J J J J (by omega) (by omega) ?_;refine z1 J (Qe (Q1 (Q0 (Qc (z0 J (z7 J (by omega) (z1 J (zz ?_))))))))
    exact ⟨row.size - (c + 1),by omega,(fun c : Nat => (⟨_,[(1,.o (.c (.ptr 0 0))),(3,.o (.c (.ref 1))),(4,I r),(5,I c)],[.box ((Enc.e l).map (V1.rd [])),.row 1 (els (rowSp l.Rows r ++ colSp row r c))]⟩ : St)) (c + 1),⟨c + 1,by omega,trivial,J⟩,Xu [0,1] (by decide) J (row2w (sp_hit ho (by omega) (by omega))) (.c J (.c J (.c J (.c J (.nil)))))⟩
   ·have hb2 : decide (byteAt row (c : Int).toNat = 111) = false := decide_eq_false ho
    refine Qd (zy (z0 J (z2 J J J (z3 J (z0 J (zx (Q2 J J J J (by omega) (by assumption) J) J (zx (Y6 J J J J) J (zx (Y4 J J J) J (z9a J (by assumption) (Qe ?_))))))))));refine Q0 (Qm J (Qh (Q0 (Qd (Qk (zy (z2 J J J (z3 J (z0 J (zx (Q2 J J J J (by omega) (by assumption) J) J ?_))))))))));refine zx (Y6 J J J J) J (z0 J (zx (q_byte J J J J (by omega)) J (z9e J (by assumption) (zz (Ql J (Qh (Q1 (Q0 (Qc (z0 J ?_))))))))));refine z7 J (by omega) (z1 J (zz ?_))
    exact ⟨row.size - (c + 1),by omega,_,⟨c + 1,by omega,trivial,J⟩,(by rw [sp_skip ho]; exact Xt [0,1] (by kernel_rfl))⟩
  ·have hb1 : decide ((c : Int) < row.size) = false := decide_eq_false (by omega)
   have hk : c = row.size := by omega
   refine Qd (zy (z0 J (z2 J J J (z3 J (z0 J (zx (Q2 J J J J (by omega) (by assumption) J) J (zx (Y6 J J J J) J (zx (Y4 J J J) J (z9a J (by assumption) (Qe ?_))))))))));refine Q0 (Ql J (Q9 (T_x (T_x (Xj (Q1 (Q0 (Qc (z0 J (z7 J (by omega) (z1 J ?_)))))))))));refine zz ?_
   exact ⟨l.Rows.length - (r + 1),by omega,_,⟨r + 1,by omega,trivial,J⟩,(by rw [sp_row hrow,hk]; exact Xt [0,1] (by kernel_rfl))⟩
 ·have hb0 : decide ((r : Int) < (els l.Rows).length) = false := decide_eq_false (by omega)
  have hk : r = l.Rows.length := by omega
  refine Qd (zy (z0 J (z2 J J J (z3 J (zx (Y2 J J J) J (z9a J (by assumption) (z0 J (z6 J (z6 J (zpF J ?_))))))))));refine zz (Ql J (Q9 (T_x (T_x (Xj (Q0 (zy (z0 J (z1 J ?_)))))))));refine zz (Xa (F_r ?_))
  exact Xl J J (Xs [1] (by decide) J (by rw [spotsM,← hk]; rfl) J)
end
section
open Go.RowKit

def tick1 (b : TBody) : TBody := ⟨b.Kind,b.Owner,b.X,b.Y,b.VX,b.VY,b.Aim,b.Life,b.Timer - 1⟩
noncomputable def plOne (l : TLevel) (i : Int) (k : Nat) (bs : List TBody) (b : TBody) : List TBody :=
 if b.Life = 0 then bs.set k (if b.Timer - 1 = 0 then fresh l k else tick1 b)
 else if (steer l b i).2 = true ∧ bs.length < 24 then bs.set k (steer l b i).1 ++ [shotOf (steer l b i).1] else bs.set k (steer l b i).1
noncomputable def plM (l : TLevel) (row : List Int) (bs : List TBody) : Nat → List TBody
 | 0 => bs
 | k + 1 => match (plM l row bs k)[k]? with
  | none => plM l row bs k
  | some b => plOne l (row.getD k 0) k (plM l row bs k) b
structure BM (l : TLevel) (n : Nat) (b : TBody) : Prop where
 k : 0 ≤ b.Kind ∧ b.Kind ≤ 2
 o : 0 ≤ b.Owner ∧ b.Owner < n
 p : solidM l b.X b.Y (sizeOf b.Kind) = false
 vx : -15 ≤ b.VX ∧ b.VX ≤ 15
 vy : -15 ≤ b.VY ∧ b.VY ≤ 15
 f : 0 ≤ b.Life ∧ b.Life ≤ 3
structure LM (l : TLevel) (n : Nat) (bs : List TBody) : Prop where
 len : n ≤ bs.length ∧ bs.length ≤ 24
 at_ : ∀ k b,bs[k]? = some b → BM l n b ∧ (b.Kind = 0 ↔ k < n)
structure PlI (l : TLevel) (n k : Nat) (b : TBody) : Prop where
 kd : b.Kind = 0
 ow : b.Owner = k
 am : b.Aim = 1 ∨ b.Aim = -1
 tm : 0 ≤ b.Timer ∧ b.Timer ≤ 20
 dd : b.Life = 0 → 1 ≤ b.Timer
 bm : bodyM l (b.Owner + 1) b = true
theorem body_facts {l : TLevel} {n k : Nat} {b : TBody} (h : bodyAt l n k b = true) : BM l n b ∧ (b.Kind = 0 ↔ k < n) ∧ (0 ≤ b.Timer ∧ b.Timer ≤ 25) ∧ (k < n → PlI l n k b) := by
 unfold bodyAt at h
 rw [Bool.and_eq_true] at h
 obtain ⟨h1,h2⟩ := h
 have h1' := h1
 simp only [bodyM,Bool.and_eq_true,Bool.not_eq_true',Yi] at h1
 obtain ⟨hk,ho,hp,hvx,hvy,ht⟩ := h1
 have hbm : bodyM l (b.Owner + 1) b = true := by
  simp only [bodyM,Bool.and_eq_true,Bool.not_eq_true',Yi]
  exact ⟨hk,⟨ho.1,by omega⟩,hp,hvx,hvy,ht⟩
 unfold tailM at ht
 by_cases hkn : k < n
 ·rw [if_pos hkn,decide_eq_true_eq] at h2
  rw [if_pos h2.1,Bool.and_eq_true,Bool.and_eq_true,decide_eq_true_eq,Yi] at ht
  obtain ⟨⟨ha,hf⟩,htm⟩ := ht
  have htt : (0 ≤ b.Timer ∧ b.Timer ≤ 20) ∧ (b.Life = 0 → 1 ≤ b.Timer) := by
   split at htm
   ·have := Yi.1 htm; exact ⟨by omega,fun _ => this.1⟩
   ·have := Yi.1 htm; exact ⟨by omega,fun h => absurd h (by assumption)⟩
  exact ⟨⟨hk,⟨ho.1,by omega⟩,hp,hvx,hvy,hf⟩,⟨fun _ => hkn,fun _ => h2.1⟩,by omega,fun _ => ⟨h2.1,h2.2,ha,htt.1,htt.2,hbm⟩⟩
 ·rw [if_neg hkn,decide_eq_true_eq] at h2
  rw [if_neg h2] at ht
  have htt : (0 ≤ b.Life ∧ b.Life ≤ 3) ∧ (0 ≤ b.Timer ∧ b.Timer ≤ 25) := by
   split at ht
   ·rw [Bool.and_eq_true,decide_eq_true_eq,Yi] at ht; omega
   ·rw [decide_eq_true_eq] at ht; omega
  exact ⟨⟨hk,⟨ho.1,by omega⟩,hp,hvx,hvy,htt.1⟩,⟨fun h => absurd h h2,fun h => absurd h hkn⟩,htt.2,fun h => absurd h hkn⟩
theorem LM.set {l : TLevel} {n k : Nat} {bs : List TBody} {b b' : TBody} (h : LM l n bs) (hb : bs[k]? = some b) (h1 : BM l n b') (h2 : b'.Kind = b.Kind) : LM l n (bs.set k b') := by
 refine ⟨by rw [List.length_set]; exact h.len,fun j c hc => ?_⟩
 rw [List.getElem?_set] at hc
 split at hc
 ·rename_i e
  subst e
  split at hc
  ·cases hc; exact ⟨h1,by rw [h2]; exact (h.at_ _ _ hb).2⟩
  ·cases hc
 ·exact h.at_ _ _ hc
theorem LM.app {l : TLevel} {n : Nat} {bs : List TBody} {c : TBody} (h : LM l n bs) (hl : bs.length < 24) (h1 : BM l n c) (h2 : c.Kind ≠ 0) : LM l n (bs ++ [c]) := by
 have := h.len
 refine ⟨by rw [List.length_append]; simp; omega,fun j d hd => ?_⟩
 rw [List.getElem?_append] at hd
 split at hd
 ·exact h.at_ _ _ hd
 ·rename_i hj
  have hj2 := Yf hd
  simp only [List.length_singleton] at hj2
  have : j = bs.length := by omega
  subst this
  simp only [Nat.sub_self,List.getElem?_cons_zero,Option.some.injEq] at hd
  subst hd
  exact ⟨h1,fun h => absurd h h2,fun h => by omega⟩
theorem shot_free {l : TLevel} {x y : Int} (h : solidM l x y 12 = false) : solidM l (x + 4) (y + 4) 4 = false := by
 refine solidM_F fun ⟨r,c,h1,h2,h3,h4,hw⟩ => ?_
 have : hits l x y 12 := ⟨r,c,by omega,by omega,by omega,by omega,hw⟩
 rw [Zh this] at h
 cases h
theorem steer_aim {l : TLevel} {b : TBody} {i : Int} (h : b.Aim = 1 ∨ b.Aim = -1) : (steer l b i).1.Aim = 1 ∨ (steer l b i).1.Aim = -1 := by
 simp only [steer]
 split
 ·exact .inr rfl
 ·split
  ·exact .inl rfl
  ·exact h
theorem steer_time {l : TLevel} {b : TBody} {i : Int} (h : 0 ≤ b.Timer ∧ b.Timer ≤ 20) : 0 ≤ (steer l b i).1.Timer ∧ (steer l b i).1.Timer ≤ 20 := by
 simp only [steer]
 split
 ·omega
 ·split <;> omega
theorem BM.steer {l : TLevel} {n : Nat} {b : TBody} (h : BM l n b) (i : Int) : BM l n (steer l b i).1 := by
 obtain ⟨hk,ho,hp,hvx,hvy,hf⟩ := h
 refine ⟨hk,ho,hp,?_,?_,hf⟩
 ·simp only [Go.Proofs.YtcjclaoogdblbaaDoor.steer]
  split
  ·omega
  ·split <;> omega
 ·simp only [Go.Proofs.YtcjclaoogdblbaaDoor.steer]
  split
  ·omega
  ·rw [Int.min_def]; split <;> omega
theorem BM.shot {l : TLevel} {n : Nat} {b : TBody} (h : BM l n b) (hk : b.Kind = 0) (ha : b.Aim = 1 ∨ b.Aim = -1) : BM l n (shotOf b) :=
 ⟨by simp [shotOf],h.o,by have := h.p; rw [hk] at this; exact shot_free this,by simp only [shotOf]; omega,by simp [shotOf],by simp [shotOf]⟩
theorem BM.fresh {l : TLevel} (hl : levelOk l = true) {n k : Nat} (hk : k < n) (hn : n ≤ 4) : BM l n (fresh l k) := by
 obtain ⟨h1,h2,h3⟩ := fresh_free hl (p := (k : Int)) ⟨by omega,by omega⟩
 exact ⟨by simp [Go.Proofs.YtcjclaoogdblbaaDoor.fresh],by simp only [Go.Proofs.YtcjclaoogdblbaaDoor.fresh]; omega,h1,by simp [Go.Proofs.YtcjclaoogdblbaaDoor.fresh],by simp [Go.Proofs.YtcjclaoogdblbaaDoor.fresh],by simp [Go.Proofs.YtcjclaoogdblbaaDoor.fresh]⟩
theorem BM.placed {l : TLevel} (hl : levelOk l = true) {n : Nat} {b : TBody} (h : BM l n b) : Placed b ∧ (b.X ≤ 400 ∧ b.Y ≤ 400) := by
 have hs := size_pos h.k
 have := place_rng hl ⟨by omega,by omega⟩ h.p
 exact ⟨⟨h.k,by omega,by omega⟩,by omega⟩
structure P1 (l : TLevel) (n : Nat) (bs0 bs : List TBody) (k : Nat) : Prop where
 lm : LM l n bs
 old : ∀ j,k ≤ j → j < n → bs[j]? = bs0[j]?
 tm : ∀ b ∈ bs,0 ≤ b.Timer ∧ b.Timer ≤ 25
theorem P1.start {l : TLevel} {n : Nat} {bs : List TBody} (h1 : n ≤ bs.length ∧ bs.length ≤ 24) (h : bodiesOk l n bs) : P1 l n bs bs 0 := by
 have hat : ∀ k b,bs[k]? = some b → bodyAt l n k b = true := fun k b hb => by
  obtain ⟨h2,rfl⟩ := List.getElem?_eq_some_iff.1 hb
  exact h k h2
 refine ⟨⟨h1,fun k b hb => ?_⟩,fun _ _ _ => rfl,fun b hb => ?_⟩
 ·have := body_facts (hat k b hb); exact ⟨this.1,this.2.1⟩
 ·obtain ⟨k,hk⟩ := List.getElem?_of_mem hb
  exact (body_facts (hat k b hk)).2.2.1
theorem old_at {l : TLevel} {n k : Nat} {bs : List TBody} {b : TBody} (h : bodiesOk l n bs) (hb : bs[k]? = some b) (hk : k < n) : PlI l n k b := by
 obtain ⟨h2,rfl⟩ := List.getElem?_eq_some_iff.1 hb
 exact (body_facts (h k h2)).2.2.2 hk
section
variable {l : TLevel} {n k : Nat} {bs0 bs : List TBody} {b b' : TBody}
theorem P1.set (h : P1 l n bs0 bs k) (hb : bs[k]? = some b) (h1 : BM l n b') (h2 : b'.Kind = b.Kind) (ht : 0 ≤ b'.Timer ∧ b'.Timer ≤ 25) : P1 l n bs0 (bs.set k b') (k + 1) :=
 ⟨h.lm.set hb h1 h2,fun j hj hn => by rw [List.getElem?_set_ne (by omega)]; exact h.old j (by omega) hn,fun c hc => by
  rcases List.mem_or_eq_of_mem_set hc with h3 | h3
  ·exact h.tm c h3
  ·subst h3; exact ht⟩
theorem P1.app (h : P1 l n bs0 bs k) (hl : bs.length < 24) {c : TBody} (h1 : BM l n c) (h2 : c.Kind ≠ 0) (ht : 0 ≤ c.Timer ∧ c.Timer ≤ 25) : P1 l n bs0 (bs ++ [c]) k :=
 ⟨h.lm.app hl h1 h2,fun j hj hn => by have := h.lm.len; rw [List.getElem?_append_left (by omega)]; exact h.old j hj hn,fun d hd => by
  rcases List.mem_append.1 hd with h3 | h3
  ·exact h.tm d h3
  ·rw [List.mem_singleton] at h3; subst h3; exact ht⟩
end
theorem P1.one {l : TLevel} (hl : levelOk l = true) {n k : Nat} (hn : n ≤ 4) {bs0 bs : List TBody} {b : TBody} (h : P1 l n bs0 bs k) (hk : k < n) (hb : bs[k]? = some b) (hI : PlI l n k b) (i : Int) : P1 l n bs0 (plOne l i k bs b) (k + 1) := by
 have hB := (h.lm.at_ k b hb).1
 unfold plOne
 split
 ·split
  ·exact h.set hb (BM.fresh hl hk hn) (by rw [hI.kd]; rfl) (by simp [fresh])
  ·rename_i hf ht
   have := hI.dd hf
   have := hI.tm
   exact h.set hb ⟨hB.k,hB.o,hB.p,hB.vx,hB.vy,hB.f⟩ J (by simp only [tick1]; omega)
 ·have hs := steer_time (l := l) (i := i) hI.tm
  have h1 := h.set hb (hB.steer i) (by rfl) ⟨hs.1,by omega⟩
  split
  ·rename_i hc
   exact h1.app (by rw [List.length_set]; exact hc.2) ((hB.steer i).shot hI.kd (steer_aim hI.am)) (by simp [shotOf]) (by simp [shotOf])
  ·exact h1
theorem P1.all {l : TLevel} (hl : levelOk l = true) {n : Nat} (hn : n ≤ 4) {bs : List TBody} (h1 : n ≤ bs.length ∧ bs.length ≤ 24) (h : bodiesOk l n bs) (row : List Int) : ∀ k,k ≤ n → P1 l n bs (plM l row bs k) k
 | 0,_ => P1.start h1 h
 | k + 1,hk => by
  have hp := P1.all hl hn h1 h row k (by omega)
  have hlk : k < (plM l row bs k).length := by have := hp.lm.len; omega
  obtain ⟨b,hb⟩ := Zi hlk
  have ho := hp.old k (Nat.le_refl _) (by omega)
  rw [plM,hb]
  exact hp.one hl hn (by omega) hb (old_at h (by rw [← ho]; exact hb) (by omega)) _

/-! ### Moving -/
noncomputable def mvOne (l : TLevel) (b : TBody) : Option TBody :=
 if b.Kind = 0 ∧ 0 < b.Life then some (moveM l b).1
 else if b.Kind = 1 then if (moveM l b).2 = true ∨ b.Timer - 1 = 0 then none else some (tick1 (moveM l b).1)
 else some b
noncomputable def mvM (l : TLevel) (bs : List TBody) : List TBody := bs.filterMap (mvOne l)
theorem BM.move {l : TLevel} {n : Nat} {b : TBody} (h : BM l n b) : BM l n (moveM l b).1 := by
 obtain ⟨hk,ho,hp,hvx,hvy,hf⟩ := h
 have h1 : solidM l (moveX l b).1 b.Y (sizeOf b.Kind) = false := slide_free (hit := fun x => solidM l x b.Y (sizeOf b.Kind)) _ _ hp
 have h2 : solidM l (moveX l b).1 (moveY l b).1 (sizeOf b.Kind) = false := slide_free (hit := fun y => solidM l (moveX l b).1 y (sizeOf b.Kind)) _ _ h1
 refine ⟨hk,ho,h2,?_,?_,hf⟩
 ·simp only [moveM]; split <;> omega
 ·simp only [moveM]; split <;> omega
theorem mvOne_ok {l : TLevel} {n : Nat} {b c : TBody} (h : BM l n b) (hc : mvOne l b = some c) : BM l n c ∧ c.Kind = b.Kind := by
 unfold mvOne at hc
 split at hc
 ·cases hc; exact ⟨h.move,rfl⟩
 ·split at hc
  ·split at hc
   ·cases hc
   ·cases hc
    have := h.move
    exact ⟨⟨this.k,this.o,this.p,this.vx,this.vy,this.f⟩,J⟩
  ·cases hc; exact ⟨h,rfl⟩
theorem mvOne_pl {l : TLevel} {b : TBody} (h : b.Kind = 0) : ∃ c,mvOne l b = some c := by
 unfold mvOne
 split
 ·exact ⟨_,rfl⟩
 ·rw [if_neg (by omega)]; exact ⟨_,rfl⟩
theorem fmap_len {α β : Type} {f : α → Option β} : ∀ (xs : List α),(∀ x ∈ xs,∃ y,f x = some y) → (xs.filterMap f).length = xs.length
 | [],_ => rfl
 | x :: xs,h => by
  obtain ⟨y,hy⟩ := h x (by simp)
  rw [List.filterMap_cons,hy]
  simp only [List.length_cons]
  rw [fmap_len xs fun z hz => h z (by simp [hz])]
theorem LM.move {l : TLevel} {n : Nat} {bs : List TBody} (h : LM l n bs) : LM l n (mvM l bs) := by
 have hlen := h.len
 have hA : ∀ a ∈ bs.take n,BM l n a ∧ a.Kind = 0 := fun a ha => by
  obtain ⟨j,hj⟩ := List.getElem?_of_mem ha
  rw [List.getElem?_take] at hj
  split at hj
  ·have := h.at_ _ _ hj; exact ⟨this.1,this.2.2 (by assumption)⟩
  ·cases hj
 have hB : ∀ a ∈ bs.drop n,BM l n a ∧ a.Kind ≠ 0 := fun a ha => by
  obtain ⟨j,hj⟩ := List.getElem?_of_mem ha
  rw [List.getElem?_drop] at hj
  have := h.at_ _ _ hj
  exact ⟨this.1,fun e => by have := this.2.1 e; omega⟩
 have hs : mvM l bs = (bs.take n).filterMap (mvOne l) ++ (bs.drop n).filterMap (mvOne l) := by
  rw [mvM,← List.filterMap_append,List.take_append_drop]
 have hl1 : ((bs.take n).filterMap (mvOne l)).length = n := by
  rw [fmap_len _ fun a ha => mvOne_pl (hA a ha).2,List.length_take]; omega
 have hl2 := List.length_filterMap_le (mvOne l) (bs.drop n)
 rw [List.length_drop] at hl2
 rw [hs]
 refine ⟨by rw [List.length_append,hl1]; omega,fun k b hb => ?_⟩
 rw [List.getElem?_append,hl1] at hb
 split at hb
 ·obtain ⟨a,ha,hab⟩ := List.mem_filterMap.1 (List.mem_of_getElem? hb)
  have h1 := hA a ha
  have h2 := mvOne_ok h1.1 hab
  exact ⟨h2.1,fun _ => by assumption,fun _ => by rw [h2.2,h1.2]⟩
 ·obtain ⟨a,ha,hab⟩ := List.mem_filterMap.1 (List.mem_of_getElem? hb)
  have h1 := hB a ha
  have h2 := mvOne_ok h1.1 hab
  exact ⟨h2.1,fun e => absurd (by rw [← h2.2]; exact e) h1.2,fun e => absurd e (by assumption)⟩
theorem mv_next {l : TLevel} {bs : List TBody} {k : Nat} {b : TBody} (h : bs[k]? = some b) : (bs.take (k + 1)).filterMap (mvOne l) = (bs.take k).filterMap (mvOne l) ++ (mvOne l b).toList := by
 obtain ⟨hk,rfl⟩ := List.getElem?_eq_some_iff.1 h
 rw [List.take_succ_eq_append_getElem hk,List.filterMap_append]
 congr 1
end
section
open Go.RowKit

theorem metF_congr {bs bs' : List TBody} {b : TBody} {o : Int} : ∀ {n : Nat},(∀ k,k < n → bs[k]? = bs'[k]?) → metF bs b o n = metF bs' b o n
 | 0,_ => rfl
 | n + 1,h => by
  have h1 : metC bs b o n = metC bs' b o n := by simp only [metC,h n (by omega)]
  rw [metF,metF,metF_congr (fun k hk => h k (by omega)),h1]
def hitB (p : TBody) : TBody := ⟨p.Kind,p.Owner,p.X,p.Y,if p.Life - 1 = 0 then 0 else p.VX,if p.Life - 1 = 0 then 0 else p.VY,p.Aim,p.Life - 1,if p.Life - 1 = 0 then 20 else p.Timer⟩
def shGone (n : Nat) (bs : List TBody) (b : TBody) : Bool := decide (b.Kind = 1) && (metF bs b b.Owner n).isSome
def shOne (n : Nat) (s : List TBody × List Int) (b : TBody) : List TBody × List Int :=
 if b.Kind = 1 then match metF s.1 b b.Owner n with
  | none => s
  | some k => match s.1[k]? with
   | none => s
   | some p => (s.1.set k (hitB p),if p.Life - 1 = 0 then addM s.2 b.Owner.toNat else s.2)
 else s
def shS (n : Nat) (t : List TBody) (s : List TBody × List Int) : Nat → List TBody × List Int
 | 0 => s
 | j + 1 => match t[j]? with
  | none => shS n t s j
  | some b => shOne n (shS n t s j) b
def shF (n : Nat) (t : List TBody) (s : List TBody × List Int) (j : Nat) : Bool := match t[j]? with
 | none => false
 | some b => shGone n (shS n t s j).1 b
def shL (n : Nat) (t : List TBody) (s : List TBody × List Int) : Nat → List TBody
 | 0 => []
 | j + 1 => match t[j]? with
  | none => shL n t s j
  | some b => if shGone n (shS n t s j).1 b = true then shL n t s j else shL n t s j ++ [b]
def itHit (n : Nat) (bs : List TBody) (b : TBody) : Bool := decide (b.Kind = 2) && (metF bs b (-1) n).isSome
def itOne (n : Nat) (bs : List TBody) (ss : List Int) (b : TBody) : List Int :=
 if b.Kind = 2 then match metF bs b (-1) n with
  | none => ss
  | some k => addM ss k
 else ss
def itS (n : Nat) (bs t : List TBody) (ss : List Int) (j : Nat) : List Int := (t.take j).foldl (itOne n bs) ss
def itL (n : Nat) (bs t : List TBody) (j : Nat) : List TBody := (t.take j).filter fun b => !itHit n bs b
def keepR (n : Nat) (t : List TBody) (s : List TBody × List Int) (bs : List TBody) : Nat → List TBody
 | 0 => []
 | j + 1 => match t[j]? with
  | none => keepR n t s bs j
  | some b => if (shF n t s j || itHit n bs b) = true then keepR n t s bs j else keepR n t s bs j ++ [b]
section
variable {l : TLevel} {n k j : Nat} {t bs bs0 lf : List TBody} {ss ss0 : List Int} {s : List TBody × List Int} {b p : TBody}
theorem sh_skip (ht : t[j]? = some b) (hk : ¬ b.Kind = 1) (hs : (bs,ss) = shS n t s j) (hl : lf = shL n t s j) : (bs,ss) = shS n t s (j + 1) ∧ lf ++ [b] = shL n t s (j + 1) ∧ shF n t s j = false := by
 have hg : shGone n (shS n t s j).1 b = false := by rw [shGone,decide_eq_false hk,Bool.false_and]
 refine ⟨by rw [shS,ht]; simp only [shOne,if_neg hk]; exact hs,by rw [shL,ht]; simp only [hg]; rw [← hl]; rfl,by rw [shF,ht]; exact hg⟩
theorem sh_miss (ht : t[j]? = some b) (hm : metF bs b b.Owner n = none) (hs : (bs,ss) = shS n t s j) (hl : lf = shL n t s j) : (bs,ss) = shS n t s (j + 1) ∧ lf ++ [b] = shL n t s (j + 1) ∧ shF n t s j = false := by
 have hm2 : metF (shS n t s j).1 b b.Owner n = none := by rw [← hs]; exact hm
 have hg : shGone n (shS n t s j).1 b = false := by rw [shGone,hm2]; simp
 refine ⟨?_,by rw [shL,ht]; simp only [hg]; rw [← hl]; rfl,by rw [shF,ht]; exact hg⟩
 have h1 : shOne n (bs,ss) b = (bs,ss) := by
  simp only [shOne,hm]
  split <;> rfl
 rw [shS,ht]
 simp only
 rw [← hs,h1]
theorem sh_hit (ht : t[j]? = some b) (hk : b.Kind = 1) (hm : metF bs b b.Owner n = some k) (hp : bs[k]? = some p) (hs : (bs,ss) = shS n t s j) (hl : lf = shL n t s j) : (bs.set k (hitB p),if p.Life - 1 = 0 then addM ss b.Owner.toNat else ss) = shS n t s (j + 1) ∧ lf = shL n t s (j + 1) ∧ shF n t s j = true := by
 have hm2 : metF (shS n t s j).1 b b.Owner n = some k := by rw [← hs]; exact hm
 have hg : shGone n (shS n t s j).1 b = true := by rw [shGone,hm2,decide_eq_true hk]; rfl
 refine ⟨?_,by rw [shL,ht]; simp only [hg,if_true]; exact hl,by rw [shF,ht]; exact hg⟩
 rw [shS,ht]
 simp only [shOne,if_pos hk,hm2]
 rw [← hs]
 simp only [hp]
theorem shL_le : ∀ j,(shL n t s j).length ≤ j
 | 0 => Nat.le_refl _
 | j + 1 => by
  have := shL_le j
  rw [shL]
  split
  ·omega
  ·split
   ·omega
   ·rw [List.length_append]; simp; omega
theorem shL_sub : ∀ j,∀ b ∈ shL n t s j,b ∈ t
 | 0,b,hb => by cases hb
 | j + 1,b,hb => by
  rw [shL] at hb
  split at hb
  ·exact shL_sub j b hb
  ·rename_i c hc
   split at hb
   ·exact shL_sub j b hb
   ·rcases List.mem_append.1 hb with h | h
    ·exact shL_sub j b h
    ·rw [List.mem_singleton] at h; subst h; exact List.mem_of_getElem? hc
theorem addM_len {ss : List Int} {k : Nat} : (addM ss k).length = ss.length := by unfold addM; split <;> simp
theorem addM_rng {ss : List Int} {k : Nat} (h : ∀ x ∈ ss,0 ≤ x ∧ x ≤ 1000000) : ∀ x ∈ addM ss k,0 ≤ x ∧ x ≤ 1000000 := by
 intro x hx
 unfold addM at hx
 split at hx
 ·exact h x hx
 ·rename_i s hs
  rcases List.mem_or_eq_of_mem_set hx with h1 | h1
  ·exact h x h1
  ·have := h s (List.mem_of_getElem? hs); omega
theorem BM.hit (h : BM l n p) (hl : 0 < p.Life) : BM l n (hitB p) := by
 obtain ⟨hk,ho,hp,hvx,hvy,hf⟩ := h
 refine ⟨hk,ho,hp,?_,?_,?_⟩
 ·simp only [hitB]; split <;> omega
 ·simp only [hitB]; split <;> omega
 ·simp only [hitB]; omega
structure SI (l : TLevel) (n : Nat) (bs0 : List TBody) (s : List TBody × List Int) : Prop where
 lm : LM l n s.1
 len : s.1.length = bs0.length
 tl : ∀ k,n ≤ k → s.1[k]? = bs0[k]?
 sl : s.2.length = n
 sc : ∀ x ∈ s.2,0 ≤ x ∧ x ≤ 1000000
theorem SI.one (h : SI l n bs0 s) (b : TBody) : SI l n bs0 (shOne n s b) := by
 unfold shOne
 split
 ·split
  ·exact h
  ·rename_i k hk
   obtain ⟨h1,h2⟩ := metF_lt hk
   obtain ⟨p,hp,hlf,_,_⟩ := metC_life h2
   rw [hp]
   have hB := h.lm.at_ k p hp
   refine ⟨h.lm.set hp (hB.1.hit hlf) J,by simp [h.len],fun j hj => by simp only; rw [List.getElem?_set_ne (by omega)]; exact h.tl j hj,?_,?_⟩
   ·simp only
    split
    ·rw [addM_len]; exact h.sl
    ·exact h.sl
   ·simp only
    split
    ·exact addM_rng h.sc
    ·exact h.sc
 ·exact h
theorem SI.all (h : SI l n bs0 s) (t : List TBody) : ∀ j,SI l n bs0 (shS n t s j)
 | 0 => h
 | j + 1 => by
  rw [shS]
  split
  ·exact SI.all h t j
  ·exact (SI.all h t j).one _
theorem SI.start (h : LM l n bs) (h1 : ss.length = n) (h2 : ∀ x ∈ ss,0 ≤ x ∧ x ≤ 1000000) : SI l n bs (bs,ss) := ⟨h,rfl,fun _ _ => rfl,h1,h2⟩
theorem LM.cut {c : List TBody} (h : LM l n bs) (hc : ∀ b ∈ c,b ∈ bs.drop n) (hl : n + c.length ≤ 24) : LM l n (bs.take n ++ c) := by
 have hlen := h.len
 refine ⟨by rw [List.length_append,List.length_take]; omega,fun k b hb => ?_⟩
 rw [List.getElem?_append,List.length_take,Nat.min_eq_left hlen.1] at hb
 split at hb
 ·rename_i hk
  rw [List.getElem?_take_of_lt hk] at hb
  have := h.at_ k b hb
  exact ⟨this.1,this.2⟩
 ·rename_i hk
  obtain ⟨j,hj⟩ := List.getElem?_of_mem (hc b (List.mem_of_getElem? hb))
  rw [List.getElem?_drop] at hj
  have := h.at_ _ _ hj
  exact ⟨this.1,fun e => by have := this.2.1 e; omega,fun e => absurd e hk⟩
theorem it_skip (ht : t[j]? = some b) (hk : ¬ b.Kind = 2) (hs : ss = itS n bs t ss0 j) (hl : lf = itL n bs t j) : ss = itS n bs t ss0 (j + 1) ∧ lf ++ [b] = itL n bs t (j + 1) ∧ itHit n bs b = false := by
 obtain ⟨hj,rfl⟩ := List.getElem?_eq_some_iff.1 ht
 have hg : itHit n bs t[j] = false := by rw [itHit,decide_eq_false hk,Bool.false_and]
 refine ⟨?_,?_,hg⟩
 ·rw [itS,List.take_succ_eq_append_getElem hj,List.foldl_append,← itS,← hs]
  simp only [List.foldl_cons,List.foldl_nil,itOne,if_neg hk]
 ·rw [itL,List.take_succ_eq_append_getElem hj,List.filter_append,← itL,← hl]
  simp [hg]
theorem it_miss (ht : t[j]? = some b) (hm : metF bs b (-1) n = none) (hs : ss = itS n bs t ss0 j) (hl : lf = itL n bs t j) : ss = itS n bs t ss0 (j + 1) ∧ lf ++ [b] = itL n bs t (j + 1) ∧ itHit n bs b = false := by
 obtain ⟨hj,rfl⟩ := List.getElem?_eq_some_iff.1 ht
 have hg : itHit n bs t[j] = false := by rw [itHit,hm]; simp
 refine ⟨?_,?_,hg⟩
 ·rw [itS,List.take_succ_eq_append_getElem hj,List.foldl_append,← itS,← hs]
  simp only [List.foldl_cons,List.foldl_nil,itOne,hm]
  split <;> rfl
 ·rw [itL,List.take_succ_eq_append_getElem hj,List.filter_append,← itL,← hl]
  simp [hg]
theorem it_hit (ht : t[j]? = some b) (hk : b.Kind = 2) (hm : metF bs b (-1) n = some k) (hs : ss = itS n bs t ss0 j) (hl : lf = itL n bs t j) : addM ss k = itS n bs t ss0 (j + 1) ∧ lf = itL n bs t (j + 1) ∧ itHit n bs b = true := by
 obtain ⟨hj,rfl⟩ := List.getElem?_eq_some_iff.1 ht
 have hg : itHit n bs t[j] = true := by rw [itHit,hm,decide_eq_true hk]; rfl
 refine ⟨?_,?_,hg⟩
 ·rw [itS,List.take_succ_eq_append_getElem hj,List.foldl_append,← itS,← hs]
  simp only [List.foldl_cons,List.foldl_nil,itOne,if_pos hk,hm]
 ·rw [itL,List.take_succ_eq_append_getElem hj,List.filter_append,← itL,← hl]
  simp [hg]
theorem itOne_ok (h1 : ss.length = n) (h2 : ∀ x ∈ ss,0 ≤ x ∧ x ≤ 1000000) (b : TBody) : (itOne n bs ss b).length = n ∧ ∀ x ∈ itOne n bs ss b,0 ≤ x ∧ x ≤ 1000000 := by
 unfold itOne
 split
 ·split
  ·exact ⟨h1,h2⟩
  ·exact ⟨by rw [addM_len]; exact h1,addM_rng h2⟩
 ·exact ⟨h1,h2⟩
theorem itF_ok : ∀ (t : List TBody) {ss : List Int},ss.length = n → (∀ x ∈ ss,0 ≤ x ∧ x ≤ 1000000) → (t.foldl (itOne n bs) ss).length = n ∧ ∀ x ∈ t.foldl (itOne n bs) ss,0 ≤ x ∧ x ≤ 1000000
 | [],_,h1,h2 => ⟨h1,h2⟩
 | b :: t,_,h1,h2 => by
  have := itOne_ok (bs := bs) h1 h2 b
  exact itF_ok t this.1 this.2
theorem itS_ok (h1 : ss.length = n) (h2 : ∀ x ∈ ss,0 ≤ x ∧ x ≤ 1000000) : (itS n bs t ss j).length = n ∧ ∀ x ∈ itS n bs t ss j,0 ≤ x ∧ x ≤ 1000000 := itF_ok _ h1 h2
theorem itL_le : (itL n bs t j).length ≤ j := by
 have := List.length_filter_le (fun b => !itHit n bs b) (t.take j)
 rw [itL]
 rw [List.length_take] at this
 omega
theorem keep_eq : ∀ j,(shL n t s j).filter (fun b => !itHit n bs b) = keepR n t s bs j
 | 0 => rfl
 | j + 1 => by
  have ih := keep_eq j
  rw [shL,keepR,shF]
  cases t[j]? with
  | none => exact ih
  | some b =>
   simp only
   by_cases hg : shGone n (shS n t s j).1 b = true
   ·rw [if_pos hg,if_pos (by rw [hg]; rfl),ih]
   ·have hg' : shGone n (shS n t s j).1 b = false := by simpa using hg
    have hc : (shGone n (shS n t s j).1 b || itHit n bs b) = itHit n bs b := by rw [hg',Bool.false_or]
    by_cases h : itHit n bs b = true
    ·rw [if_neg hg,if_pos (by rw [hc]; exact h),List.filter_append,ih]
     simp [h]
    ·rw [if_neg hg,if_neg (by rw [hc]; exact h),List.filter_append,ih]
     simp [h]
theorem keepR_le : ∀ j,(keepR n t s bs j).length ≤ j
 | 0 => Nat.le_refl _
 | j + 1 => by
  have := keepR_le j
  rw [keepR]
  split
  ·omega
  ·split
   ·omega
   ·rw [List.length_append]; simp; omega
theorem fold_eq : ∀ j,(shL n t s j).foldl (itOne n bs) ss = (t.take j).foldl (itOne n bs) ss
 | 0 => rfl
 | j + 1 => by
  rw [shL]
  cases h : t[j]? with
  | none =>
   simp only
   have := List.getElem?_eq_none_iff.1 h
   rw [fold_eq j,List.take_of_length_le (by omega),List.take_of_length_le (by omega)]
  | some b =>
   obtain ⟨hj,rfl⟩ := List.getElem?_eq_some_iff.1 h
   simp only
   rw [List.take_succ_eq_append_getElem hj,List.foldl_append]
   cases hg : shGone n (shS n t s j).1 t[j] with
   | true =>
    rw [if_pos rfl,fold_eq j]
    have hk : t[j].Kind = 1 := by rw [shGone,Bool.and_eq_true,decide_eq_true_eq] at hg; exact hg.1
    simp only [List.foldl_cons,List.foldl_nil,itOne]
    rw [if_neg (by omega)]
   | false => rw [if_neg (by simp),List.foldl_append,fold_eq j]
end
def hitsP (n : Nat) (bs : List TBody) (ss : List Int) : List TBody × List Int :=
 let s := shS n (bs.drop n) (bs,ss) (bs.drop n).length
 let b := s.1.take n ++ shL n (bs.drop n) (bs,ss) (bs.drop n).length
 (b.take n ++ itL n b (b.drop n) (b.drop n).length,itS n b (b.drop n) s.2 (b.drop n).length)
def hitsR (n : Nat) (bs : List TBody) (ss : List Int) : List TBody × List Int :=
 let t := bs.drop n
 let s := shS n t (bs,ss) t.length
 (s.1.take n ++ keepR n t (bs,ss) s.1 t.length,itS n s.1 t s.2 t.length)
theorem hits_eq {l : TLevel} {n : Nat} {bs : List TBody} {ss : List Int} (h : LM l n bs) (h1 : ss.length = n) (h2 : ∀ x ∈ ss,0 ≤ x ∧ x ≤ 1000000) : hitsP n bs ss = hitsR n bs ss := by
 have hS := (SI.start h h1 h2).all (bs.drop n) (bs.drop n).length
 obtain ⟨s,hs⟩ : ∃ s,s = shS n (bs.drop n) (bs,ss) (bs.drop n).length := ⟨_,rfl⟩
 obtain ⟨c,hc⟩ : ∃ c,c = shL n (bs.drop n) (bs,ss) (bs.drop n).length := ⟨_,rfl⟩
 rw [← hs] at hS
 have hlen := hS.lm.len
 have e1 : (s.1.take n ++ c).take n = s.1.take n := by
  rw [List.take_append_of_le_length (by rw [List.length_take]; omega),List.take_take,Nat.min_self]
 have e2 : (s.1.take n ++ c).drop n = c := by
  rw [List.drop_append_of_le_length (by rw [List.length_take]; omega),List.drop_of_length_le (by rw [List.length_take]; omega),List.nil_append]
 have e3 : ∀ b o,metF (s.1.take n ++ c) b o n = metF s.1 b o n := fun b o => metF_congr fun k hk => by
  rw [List.getElem?_append_left (by rw [List.length_take]; omega),List.getElem?_take_of_lt hk]
 have e4 : itHit n (s.1.take n ++ c) = itHit n s.1 := by
  funext b
  rw [itHit,itHit,e3]
 have e5 : itOne n (s.1.take n ++ c) = itOne n s.1 := by
  funext ss b
  rw [itOne,itOne,e3]
 simp only [hitsP,hitsR,← hs,← hc,e1,e2,itL,itS,List.take_length,e4,e5]
 congr 1
 ·congr 1
  rw [hc,keep_eq]
 ·rw [hc,fold_eq,List.take_length]
end
section
open Go.RowKit

theorem rwBo {a b c : Ob} {t : List Ob} {k : Nat} {x y : List (List T)} (h : x = y) : a :: b :: c :: Ob.row k x :: t = a :: b :: c :: Ob.row k y :: t := by rw [h]
theorem pl_next {l : TLevel} {row : List Int} {bs0 bs : List TBody} {k : Nat} {b : TBody} {i : Int} (h : bs = plM l row bs0 k) (hb : bs[k]? = some b) (hi : row[k]? = some i) : plM l row bs0 (k + 1) = plOne l i k bs b := by
 rw [plM,← h,hb,List.getD_eq_getElem?_getD,hi]; rfl
structure PH (w : TWorld) (row : List Int) : Prop where
 hg : Enc.gd w.Level
 gb : ∀ b ∈ w.Bodies,Enc.gd b
 hl : levelOk w.Level = true
 n4 : 1 ≤ w.Scores.length ∧ w.Scores.length ≤ 4
 len : w.Scores.length ≤ w.Bodies.length ∧ w.Bodies.length ≤ 24
 bs : bodiesOk w.Level w.Scores.length w.Bodies
 rl : row.length = w.Scores.length
 ri : ∀ i ∈ row,0 ≤ i ∧ i ≤ 15
end
end Go.Proofs.YtcjclaoogdblbaaDoor
