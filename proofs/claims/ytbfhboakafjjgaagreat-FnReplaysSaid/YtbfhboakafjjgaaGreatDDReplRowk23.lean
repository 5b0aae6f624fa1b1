/-
  Parts of the proof (rules, data, and what functions of the program and of the reference return), among them: A tick of a world, as data: steering, moving, meeting; StartOf, fresh players and NewWorld, in the program and in the reference.
  Conditions: those that each theorem names.
-/
import Derived.Test.YtbfhboakafjjgaaGreatDDReplRowk22
set_option linter.unusedSimpArgs false
set_option linter.unusedVariables false
set_option maxRecDepth 8000
set_option maxHeartbeats 8000000
namespace Go.Proofs.YtbfhboakafjjgaaGreat
section
open Go.RowKit

def colF (q : Int → Bool) (row : ByteArray) : Nat → Option Nat
 | 0 => none
 | c + 1 => match colF q row c with
  | some x => some x
  | none => if q (byteAt row c) = true then some c else none
def tileF (q : Int → Bool) (rows : List ByteArray) : Nat → Option (Nat × Nat)
 | 0 => none
 | r + 1 => match tileF q rows r with
  | some x => some x
  | none => match rows[r]? with
   | none => none
   | some row => (colF q row row.size).map fun c => (r,c)
def isOpen (t : Int) : Bool := decide (t ≠ 35)
def isDig (p : Int) (t : Int) : Bool := decide (t = 49 + p)
def spX : Option (Nat × Nat) → Int
 | none => -1
 | some (_,c) => 16 * c + 2
def spY : Option (Nat × Nat) → Int
 | none => -1
 | some (r,_) => 16 * r + 2
def startT (l : TLevel) (p : Int) : Option (Nat × Nat) := match tileF (isDig p) l.Rows l.Rows.length with
 | some x => some x
 | none => tileF isOpen l.Rows l.Rows.length
theorem colF_some {q : Int → Bool} {row : ByteArray} : ∀ {n c : Nat},colF q row n = some c → c < n ∧ q (byteAt row c) = true
 | 0,c,h => by cases h
 | n + 1,c,h => by
  rw [colF] at h
  cases h1 : colF q row n with
  | some x => rw [h1] at h; cases h; have := colF_some h1; exact ⟨by omega,this.2⟩
  | none =>
   rw [h1] at h
   by_cases h2 : q (byteAt row n) = true
   ·rw [if_pos h2] at h; cases h; exact ⟨by omega,h2⟩
   ·rw [if_neg h2] at h; cases h
theorem colF_none {q : Int → Bool} {row : ByteArray} : ∀ {n : Nat},colF q row n = none → ∀ c,c < n → q (byteAt row c) = false
 | 0,h,c,hc => by omega
 | n + 1,h,c,hc => by
  rw [colF] at h
  cases h1 : colF q row n with
  | some x => rw [h1] at h; cases h
  | none =>
   rw [h1] at h
   by_cases h2 : q (byteAt row n) = true
   ·rw [if_pos h2] at h; cases h
   ·by_cases e : c = n
    ·subst e; simpa using h2
    ·exact colF_none h1 c (by omega)
theorem tileF_some {q : Int → Bool} {rows : List ByteArray} : ∀ {n r c : Nat},tileF q rows n = some (r,c) → ∃ h : r < rows.length,r < n ∧ c < rows[r].size ∧ q (byteAt rows[r] c) = true
 | 0,r,c,h => by cases h
 | n + 1,r,c,h => by
  rw [tileF] at h
  cases h1 : tileF q rows n with
  | some x => rw [h1] at h; cases h; obtain ⟨a,b,d⟩ := tileF_some h1; exact ⟨a,by omega,d⟩
  | none =>
   rw [h1] at h
   cases h2 : rows[n]? with
   | none => rw [h2] at h; cases h
   | some row =>
    rw [h2] at h
    simp only [Option.map_eq_some_iff,Prod.mk.injEq] at h
    obtain ⟨c',h3,rfl,rfl⟩ := h
    have hn := (List.getElem?_eq_some_iff.1 h2).1
    have he := (List.getElem?_eq_some_iff.1 h2).2
    have := colF_some h3
    exact ⟨hn,by omega,by rw [he]; exact this.1,by rw [he]; exact this.2⟩
theorem tileF_none {q : Int → Bool} {rows : List ByteArray} : ∀ {n : Nat},tileF q rows n = none → ∀ r (h : r < rows.length),r < n → ∀ c,c < rows[r].size → q (byteAt rows[r] c) = false
 | 0,h,r,hr,hn,c,hc => by omega
 | n + 1,h,r,hr,hn,c,hc => by
  rw [tileF] at h
  cases h1 : tileF q rows n with
  | some x => rw [h1] at h; cases h
  | none =>
   rw [h1] at h
   by_cases e : r = n
   ·subst e
    rw [List.getElem?_eq_getElem hr] at h
    simp only [Option.map_eq_none_iff] at h
    exact colF_none h c hc
   ·exact tileF_none h1 r hr (by omega) c hc
theorem tileM_open {e : Bool} {t : Int} {s s' : Seen × Bool} (h : tileM e t s = some s') (ho : s'.2 = true) : s.2 = true ∨ t ≠ 35 := by
 by_cases ht : t = 35
 ·rw [tileM,if_pos ht] at h; cases h; exact .inl ho
 ·exact .inr ht
theorem cols_open {row : ByteArray} {er : Bool} {w : Nat} {s : Seen × Bool} : ∀ {n : Nat} {s' : Seen × Bool},colsM row er w s n = some s' → s'.2 = true → s.2 = true ∨ ∃ c,c < n ∧ byteAt row c ≠ 35
 | 0,s',h,ho => by cases h; exact .inl ho
 | n + 1,s',h,ho => by
  rw [colsM] at h
  cases h1 : colsM row er w s n with
  | none => rw [h1] at h; cases h
  | some s1 =>
   rw [h1] at h
   rcases tileM_open h ho with h2 | h2
   ·rcases cols_open h1 h2 with h3 | ⟨c,hc,h3⟩
    ·exact .inl h3
    ·exact .inr ⟨c,by omega,h3⟩
   ·exact .inr ⟨n,by omega,h2⟩
theorem rows_open {rows : List ByteArray} {w : Nat} : ∀ {n : Nat} {s : Seen × Bool},rowsM rows w n = some s → s.2 = true → ∃ r c,∃ h : r < rows.length,r < n ∧ c < rows[r].size ∧ byteAt rows[r] c ≠ 35
 | 0,s,h,ho => by cases h; cases ho
 | n + 1,s,h,ho => by
  rw [rowsM] at h
  cases h1 : rowsM rows w n with
  | none => rw [h1] at h; cases h
  | some s1 =>
   rw [h1] at h
   cases h2 : rows[n]? with
   | none => rw [h2] at h; cases h
   | some row =>
    rw [h2] at h
    simp only at h
    split at h
    ·rename_i hw
     have hn := (List.getElem?_eq_some_iff.1 h2).1
     have he := (List.getElem?_eq_some_iff.1 h2).2
     rcases cols_open h ho with h3 | ⟨c,hc,h3⟩
     ·obtain ⟨r,c,a,b,d⟩ := rows_open h1 h3
      exact ⟨r,c,a,by omega,d⟩
     ·exact ⟨n,c,hn,by omega,by rw [he]; omega,by rw [he]; exact h3⟩
    ·cases h
theorem level_open {l : TLevel} (h : levelOk l = true) : ∃ r c,∃ h : r < l.Rows.length,c < (l.Rows[r]).size ∧ byteAt (l.Rows[r]) c ≠ 35 := by
 unfold levelOk at h
 simp only [Bool.and_eq_true] at h
 obtain ⟨_,h5⟩ := h
 split at h5
 ·rename_i s hs
  obtain ⟨r,c,a,b,d⟩ := rows_open hs h5
  exact ⟨r,c,a,d⟩
 ·cases h5
theorem start_some {l : TLevel} (hl : levelOk l = true) {p : Int} (hp : 0 ≤ p ∧ p ≤ 3) : ∃ r c,startT l p = some (r,c) ∧ ∃ h : r < l.Rows.length,c < (l.Rows[r]).size ∧ byteAt (l.Rows[r]) c ≠ 35 := by
 unfold startT
 cases h1 : tileF (isDig p) l.Rows l.Rows.length with
 | some x =>
  obtain ⟨r,c⟩ := x
  obtain ⟨a,b,d,e⟩ := tileF_some h1
  refine ⟨r,c,J,a,d,?_⟩
  have := of_decide_eq_true e
  omega
 | none =>
  cases h2 : tileF isOpen l.Rows l.Rows.length with
  | some x =>
   obtain ⟨r,c⟩ := x
   obtain ⟨a,b,d,e⟩ := tileF_some h2
   exact ⟨r,c,J,a,d,of_decide_eq_true e⟩
  | none =>
   obtain ⟨r,c,a,d,e⟩ := level_open hl
   have := tileF_none h2 r a a c d
   exact absurd e (of_decide_eq_false this)
def openF (rows : List ByteArray) (row : ByteArray) (r c : Nat) : Option (Nat × Nat) := match tileF isOpen rows r with
 | some x => some x
 | none => (colF isOpen row c).map fun c => (r,c)
theorem openF_zero {rows : List ByteArray} {row : ByteArray} {r : Nat} : openF rows row r 0 = tileF isOpen rows r := by
 unfold openF
 cases tileF isOpen rows r <;> rfl
theorem openF_end {rows : List ByteArray} {row : ByteArray} {r : Nat} (h : rows[r]? = some row) : openF rows row r row.size = tileF isOpen rows (r + 1) := by
 rw [openF,tileF,h]
theorem Zc {rows : List ByteArray} {row : ByteArray} {r c : Nat} {x : Nat × Nat} (h : openF rows row r c = some x) : openF rows row r (c + 1) = some x := by
 unfold openF at h ⊢
 cases h1 : tileF isOpen rows r with
 | some y => rw [h1] at h; exact h
 | none =>
  rw [h1] at h
  simp only [Option.map_eq_some_iff] at h ⊢
  obtain ⟨a,h2,h3⟩ := h
  exact ⟨a,by rw [colF,h2],h3⟩
theorem Zd {rows : List ByteArray} {row : ByteArray} {r c : Nat} (h : openF rows row r c = none) : openF rows row r (c + 1) = if byteAt row c = 35 then none else some (r,c) := by
 unfold openF at h ⊢
 cases h1 : tileF isOpen rows r with
 | some y => rw [h1] at h; cases h
 | none =>
  rw [h1] at h
  simp only [Option.map_eq_none_iff] at h
  simp only [colF,h]
  by_cases h2 : byteAt row c = 35
  ·rw [if_pos h2,if_neg (show ¬ isOpen (byteAt row c) = true from fun q => of_decide_eq_true q h2)]; rfl
  ·rw [if_neg h2,if_pos (show isOpen (byteAt row c) = true from decide_eq_true h2)]; rfl
theorem colF_step {q : Int → Bool} {row : ByteArray} {c : Nat} (h : colF q row c = none) (hq : q (byteAt row c) = false) : colF q row (c + 1) = none := by rw [colF,h]; simp [hq]
theorem colF_hit {q : Int → Bool} {row : ByteArray} {c : Nat} (h : colF q row c = none) (hq : q (byteAt row c) = true) : ∀ {n : Nat},c < n → colF q row n = some c
 | 0,hn => by omega
 | n + 1,hn => by
  rw [colF]
  by_cases e : c = n
  ·subst e; rw [h]; simp [hq]
  ·rw [colF_hit h hq (by omega)]
theorem tileF_step {q : Int → Bool} {rows : List ByteArray} {row : ByteArray} {r : Nat} (h : tileF q rows r = none) (hr : rows[r]? = some row) (hc : colF q row row.size = none) : tileF q rows (r + 1) = none := by rw [tileF,h,hr]; simp [hc]
theorem tileF_hit {q : Int → Bool} {rows : List ByteArray} {row : ByteArray} {r c : Nat} (h : tileF q rows r = none) (hr : rows[r]? = some row) (hc : colF q row row.size = some c) : ∀ {n : Nat},r < n → tileF q rows n = some (r,c)
 | 0,hn => by omega
 | n + 1,hn => by
  rw [tileF]
  by_cases e : r = n
  ·subst e; rw [h,hr]; simp [hc]
  ·rw [tileF_hit h hr hc (by omega)]
theorem start_dig {l : TLevel} {p : Int} {row : ByteArray} {r c : Nat} (h : tileF (isDig p) l.Rows r = none) (hr : l.Rows[r]? = some row) (hc : colF (isDig p) row c = none) (hcs : c < row.size) (hb : byteAt row c = 49 + p) : startT l p = some (r,c) := by
 have h1 := colF_hit hc (show isDig p (byteAt row c) = true from decide_eq_true hb) hcs
 rw [startT,tileF_hit h hr h1 (List.getElem?_eq_some_iff.1 hr).1]
theorem start_open {l : TLevel} {p : Int} {n : Nat} (h : tileF (isDig p) l.Rows n = none) (hn : n = l.Rows.length) : startT l p = tileF isOpen l.Rows n := by
 subst hn
 rw [startT,h]
theorem spX_neg {o : Option (Nat × Nat)} : spX o < 0 ↔ o = none := by
 cases o with
 | none => simp [spX]
 | some x => obtain ⟨r,c⟩ := x; simp [spX]; omega
def fresh (l : TLevel) (p : Int) : TBody := ⟨0,p,spX (startT l p),spY (startT l p),0,0,1,3,0⟩
theorem fresh_free {l : TLevel} (hl : levelOk l = true) {p : Int} (hp : 0 ≤ p ∧ p ≤ 3) : solidM l (fresh l p).X (fresh l p).Y 12 = false ∧ (0 ≤ (fresh l p).X ∧ (fresh l p).X ≤ 400) ∧ (0 ≤ (fresh l p).Y ∧ (fresh l p).Y ≤ 400) := by
 obtain ⟨r,c,h1,hr,hc,hb⟩ := start_some hl hp
 obtain ⟨l3,l12,w,w4,w20,hw⟩ := Y5 hl
 have hwr := hw r hr
 rw [fresh,h1]
 refine ⟨solidM_F ?_,by simp only [spX]; omega,by simp only [spY]; omega⟩
 rintro ⟨r',c',a1,a2,a3,a4,hwall⟩
 simp only [spX,spY] at a1 a2 a3 a4
 have e1 : r' = r := by omega
 have e2 : c' = c := by omega
 subst e1 e2
 exact no_wall hr hc hb hwall
def newWorld (l : TLevel) (n : Nat) (seed : Int) : TWorld := ⟨l,0,seed,List.replicate n 0,(List.range n).map fun (k : Nat) => fresh l (k : Int)⟩
theorem newWorld_ok {l : TLevel} {n : Nat} {seed : Int} (hl : levelOk l = true) (hn : 1 ≤ n ∧ n ≤ 4) (hs : inR seed 0 65535 = true) : worldOk (newWorld l n seed) = true := by
 refine worldOk_T ⟨hl,J,hs,by simpa [newWorld] using hn,?_,by simp [newWorld]; omega,?_⟩
 ·simp only [newWorld,scoresOk,List.all_replicate]
  simp [inR]
 ·intro k hk
  have hk4 : k < n := by simpa [newWorld] using hk
  have hlen : (newWorld l n seed).Scores.length = n := by simp [newWorld]
  have hb : (newWorld l n seed).Bodies[k] = fresh l k := by simp [newWorld]
  rw [hlen,hb]
  obtain ⟨h1,h2,h3⟩ := fresh_free hl (p := (k : Int)) (by omega)
  show bodyAt l n k (fresh l k) = true
  rw [bodyAt,if_pos hk4,Bool.and_eq_true]
  refine ⟨?_,decide_eq_true ⟨J,J⟩⟩
  rw [bodyM,show sizeOf (fresh l k).Kind = 12 from rfl,h1]
  have e1 : inR (fresh l (k : Int)).Kind 0 2 = true := rfl
  have e2 : inR (fresh l (k : Int)).Owner 0 ((n : Int) - 1) = true := Y3.2 ⟨by show (0 : Int) ≤ k; omega,by show (k : Int) ≤ n - 1; omega⟩
  have e3 : inR (fresh l (k : Int)).VX (-15) 15 = true := rfl
  have e4 : inR (fresh l (k : Int)).VY (-15) 15 = true := rfl
  have e5 : tailM (fresh l (k : Int)) = true := rfl
  rw [e1,e2,e3,e4,e5]
  rfl
theorem bodyOf_app (b : TBody) (r : List Int) : bodyOf (bodyInts b ++ r) = b := by cases b; rfl
theorem flat_drop : ∀ (bs : List TBody) (k : Nat) (h : k < bs.length),∃ r,(bs.flatMap bodyInts).drop (9 * k) = bodyInts bs[k] ++ r
 | [],k,h => by simp at h
 | b :: bs,0,h => ⟨bs.flatMap bodyInts,by simp⟩
 | b :: bs,k + 1,h => by
  obtain ⟨r,hr⟩ := flat_drop bs k (by simpa using h)
  refine ⟨r,?_⟩
  rw [List.flatMap_cons,show 9 * (k + 1) = (bodyInts b).length + 9 * k by simp [bodyInts]; omega,← List.drop_drop,List.drop_left,hr]
  rfl
theorem bodiesOf_flat (bs : List TBody) : bodiesOf (bs.flatMap bodyInts) bs.length = bs := by
 apply List.ext_getElem
 ·simp [bodiesOf]
 ·intro k h1 h2
  obtain ⟨r,hr⟩ := flat_drop bs k h2
  simp only [bodiesOf,List.getElem_map,List.getElem_range,hr,bodyOf_app]
theorem flat_length (bs : List TBody) : (bs.flatMap bodyInts).length = 9 * bs.length := by
 have := flat_len bs bs.length (Nat.le_refl _)
 rwa [List.take_length] at this
theorem worldOf_ints2 (w : TWorld) (h1 : 1 ≤ w.Scores.length) (h2 : w.Scores.length ≤ 4) : worldOf w.Level (worldInts w) = w ∧ formOk (worldInts w) := by
 have hn : (worldInts w).getD 2 0 = (w.Scores.length : Int) := rfl
 have hd : (worldInts w).drop 3 = w.Scores ++ w.Bodies.flatMap bodyInts := by simp [worldInts]
 have hd2 : (worldInts w).drop (3 + w.Scores.length) = w.Bodies.flatMap bodyInts := by rw [← List.drop_drop,hd,List.drop_left]
 have hl : (worldInts w).length = 3 + w.Scores.length + 9 * w.Bodies.length := by
  have := flat_length w.Bodies
  simp only [worldInts,List.length_append,List.length_cons,List.length_nil]
  omega
 constructor
 ·rw [worldOf,hn,hd,show ((w.Scores.length : Nat) : Int).toNat = w.Scores.length by omega,List.take_left,hd2,hl,show (3 + w.Scores.length + 9 * w.Bodies.length - 3 - w.Scores.length) / 9 = w.Bodies.length by omega,bodiesOf_flat]
  rfl
 ·rw [formOk,hn,hl]
  omega
theorem newWorld_back {l : TLevel} {n : Nat} {seed : Int} (hl : levelOk l = true) (hn : 1 ≤ n ∧ n ≤ 4) (hs : inR seed 0 65535 = true) : readWorld l (worldBytes (newWorld l n seed)) = some (newWorld l n seed) := by
 have hok := newWorld_ok hl hn hs
 have hlen : (newWorld l n seed).Scores.length = n := by simp [newWorld]
 obtain ⟨h1,h2⟩ := worldOf_ints2 (newWorld l n seed) (by omega) (by omega)
 have hs := Y3.1 hs
 have hx : ∀ x ∈ worldInts (newWorld l n seed),0 ≤ signless x := by
  intro x hx
  have hb : 0 ≤ x ∧ x ≤ 65535 := by
   simp only [worldInts,List.mem_append,List.mem_cons,List.not_mem_nil,or_false,List.mem_flatMap] at hx
   rcases hx with (h | h) | ⟨b,hb,h⟩
   ·rcases h with h | h | h <;> subst h
    ·show (0 : Int) ≤ 0 ∧ (0 : Int) ≤ 65535; omega
    ·exact hs
    ·omega
   ·have : x = 0 := by simpa [newWorld] using (List.eq_of_mem_replicate h)
    omega
   ·simp only [newWorld,List.mem_map,List.mem_range] at hb
    obtain ⟨k,hk,rfl⟩ := hb
    obtain ⟨_,h3,h4⟩ := fresh_free hl (p := (k : Int)) (by omega)
    simp only [bodyInts,List.mem_cons,List.not_mem_nil,or_false] at h
    rcases h with h | h | h | h | h | h | h | h | h <;> subst h
    ·show (0 : Int) ≤ 0 ∧ (0 : Int) ≤ 65535; omega
    ·show (0 : Int) ≤ k ∧ (k : Int) ≤ 65535; omega
    ·omega
    ·omega
    all_goals (simp only [fresh]; omega)
  unfold signless
  rw [if_pos (by omega),if_pos hb.1]
  omega
 have hL : (worldInts (newWorld l n seed)).length ≤ 1073741824 := by
  have := flat_length (newWorld l n seed).Bodies
  have h5 : (newWorld l n seed).Bodies.length = n := by simp [newWorld]
  simp only [worldInts,List.length_append,List.length_cons,List.length_nil]
  omega
 have hu := unpackInts_enc hx hL
 rw [worldBytes,if_pos hok]
 have := Ka (lv := l) hu ⟨rfl,h2,by rw [show worldOf l (worldInts (newWorld l n seed)) = newWorld l n seed from h1]; exact hok⟩
 rw [this,show worldOf l (worldInts (newWorld l n seed)) = newWorld l n seed from h1]
end
section
open Go.RowKit

def nextR (s : Int) : Int := if 0 ≤ s ∧ s ≤ 65535 then (s * 25173 + 13849) % 65536 else 0
def belowR (s n : Int) : Int := nextR s / 16 % n
theorem Za (s : Int) : 0 ≤ nextR s ∧ nextR s ≤ 65535 := by
 unfold nextR
 split <;> omega
def pressed (i k : Int) : Bool := decide (((i.toNat &&& k.toNat : Nat) : Int) ≠ 0)
noncomputable def steer (l : TLevel) (b : TBody) (i : Int) : TBody × Bool :=
 (⟨b.Kind,b.Owner,b.X,b.Y,
  if (pressed i 1 && !pressed i 2) = true then -3 else if (pressed i 2 && !pressed i 1) = true then 3 else 0,
  if (pressed i 4 && solidM l b.X (b.Y + 1) 12) = true then -9 else min (b.VY + 1) 8,
  if (pressed i 1 && !pressed i 2) = true then -1 else if (pressed i 2 && !pressed i 1) = true then 1 else b.Aim,
  b.Life,
  if (pressed i 8 && decide ((if 0 < b.Timer then b.Timer - 1 else b.Timer) = 0)) = true then 12 else (if 0 < b.Timer then b.Timer - 1 else b.Timer)⟩,
  pressed i 8 && decide ((if 0 < b.Timer then b.Timer - 1 else b.Timer) = 0))
def slide (hit : Int → Bool) (step : Int) : Nat → Int → Int × Bool
 | 0,x => (x,false)
 | n + 1,x => if hit (x + step) = true then (x,true) else slide hit step n (x + step)
theorem slide_hit {hit : Int → Bool} {step x : Int} {n : Nat} (h : hit (x + step) = true) : slide hit step (n + 1) x = (x,true) := by rw [slide,if_pos h]
theorem slide_go {hit : Int → Bool} {step x : Int} {n : Nat} (h : hit (x + step) = false) : slide hit step (n + 1) x = slide hit step n (x + step) := by rw [slide,if_neg (by rw [h]; simp)]
def dirOf (v : Int) : Int := if v < 0 then -1 else 1
noncomputable def moveX (l : TLevel) (b : TBody) : Int × Bool := slide (fun x => solidM l x b.Y (sizeOf b.Kind)) (dirOf b.VX) b.VX.natAbs b.X
noncomputable def moveY (l : TLevel) (b : TBody) : Int × Bool := slide (fun y => solidM l (moveX l b).1 y (sizeOf b.Kind)) (dirOf b.VY) b.VY.natAbs b.Y
noncomputable def moveM (l : TLevel) (b : TBody) : TBody × Bool :=
 (⟨b.Kind,b.Owner,(moveX l b).1,(moveY l b).1,if (moveX l b).2 = true then 0 else b.VX,if (moveY l b).2 = true then 0 else b.VY,b.Aim,b.Life,b.Timer⟩,(moveX l b).2 || (moveY l b).2)
def shotOf (b : TBody) : TBody := ⟨1,b.Owner,b.X + 4,b.Y + 4,6 * b.Aim,0,0,0,25⟩
def meetM (a b : TBody) : Bool :=
 ((decide (a.X < b.X + sizeOf b.Kind) && decide (b.X < a.X + sizeOf a.Kind)) && decide (a.Y < b.Y + sizeOf b.Kind)) && decide (b.Y < a.Y + sizeOf a.Kind)
structure Placed (b : TBody) : Prop where
 k : 0 ≤ b.Kind ∧ b.Kind ≤ 2
 x : 0 ≤ b.X ∧ b.X ≤ 1000
 y : 0 ≤ b.Y ∧ b.Y ≤ 1000
theorem size_pos {k : Int} (h : 0 ≤ k ∧ k ≤ 2) : 4 ≤ sizeOf k ∧ sizeOf k ≤ 12 := by
 unfold sizeOf
 split
 ·omega
 ·split
  ·omega
  ·split <;> omega
def colSp (row : ByteArray) (r : Nat) : Nat → List (List Int)
 | 0 => []
 | c + 1 => if byteAt row c = 111 then colSp row r c ++ [[(c : Int) * 16 + 4,(r : Int) * 16 + 4]] else colSp row r c
def rowSp (rows : List ByteArray) : Nat → List (List Int)
 | 0 => []
 | r + 1 => match rows[r]? with
  | none => rowSp rows r
  | some row => rowSp rows r ++ colSp row r row.size
end
section
open Go.RowKit

theorem openF_35 {rows : List ByteArray} {row : ByteArray} {r c : Nat} (h : byteAt row c = 35) : openF rows row r c = openF rows row r (c + 1) := by
 cases ho : openF rows row r c with
 | some x => rw [Zc ho]
 | none => rw [Zd ho,if_pos h]
theorem tu2 {x y x' y' : Int} (h1 : x = x') (h2 : y = y') : V.tu [.c (jn x),.c (jn y)] = V.tu [.c (jn x'),.c (jn y')] := by rw [h1,h2]
theorem I_StartOf (l : TLevel) (p : Int) (hg : Enc.gd l) (hl : levelOk l = true) (hp : 0 ≤ p ∧ p ≤ 3) : Con Tryz.prog 135 [] [ag l,ai p] [] (.tu [.c (jn (spX (startT l p))),.c (jn (spY (startT l p)))]) := by
 have hc := Xt l hg
 rw [hl] at hc
 have hlr := Yp l.Rows
 have hx : l.Rows.length ≤ 9223372036854775807 := hg.1
 obtain ⟨l3,l12,w,w4,w20,hw⟩ := Y5 hl
 have b1 : decide (p < 0) = false := decide_eq_false (by omega)
 have b2 : decide (p ≥ 4) = false := decide_eq_false (by omega)
 refine Con.of Tryz.func135 J Tryz.ntmps135 J (fun E => ?_)
 refine zy (M1 (Qq J J J J) J J (z1 J (z1 J (zz (Qd (zy (z0 J (z9a J (by assumption) ?_))))))));refine z0 J (z5 J (z0 J (z5 J (z9d J (by assumption) (zpF J (z0 J (z5 J (z4 J J J (z5 J ?_)))))))));refine zx (Qj J J (hc) J) J ?_;refine z5 J (zn J (zpF J (zz (Ql J (Qh (Q0 (zy (z1 J (Qe ?_)))))))));refine Q0 (zy (z1 J (zz (Qd (zy (z2 J J J (z3 J (zx (Zw J J J) J ?_))))))));refine z0 J (zz (Qk ?_));refine A_lq (fun m st => ∃ r : Nat,r + m = l.Rows.length ∧ (tileF (isDig p) l.Rows r = none) ∧ st = (⟨_,[(1,I p),(2,.o (.c (.ptr 0 0))),(6,I (spX (tileF isOpen l.Rows r))),(7,I (spY (tileF isOpen l.Rows r))),(23,L l.Rows),(24,I (els l.Rows).length),(25,I r)],[.box ((Enc.e l).map (V1.rd []))]⟩ : St)) (l.Rows.length) ⟨_,⟨0,by omega,J,J⟩,W_gj [0] (by kernel_rfl)⟩ ?_
 rintro m_A _ ⟨r,hk_A,hp_A,rfl⟩
 refine zy (zx (Z1 J J J J) J (zz (Qd ?_)))
 refine Xb J (fun h => ?_) (fun h => ?_)
 ·have h3 : r < l.Rows.length := by have := of_decide_eq_true h; omega
  have hat := Yo h3
  have hwr := hw r h3
  have hrow := List.getElem?_eq_getElem h3
  generalize l.Rows[r] = row at hat hwr hrow
  refine Qh (Q0 (Qd (Qk (zy (z0 J (zx (Q2 J J J J (by omega) (by assumption) J) J (zx (Z0 J J J J) J (z1 J (z1 J (Qe ?_))))))))));refine Q0 (zy (z1 J (zz (Qk ?_))));refine A_lq (fun m st => ∃ c : Nat,c + m = row.size ∧ (colF (isDig p) row c = none) ∧ st = (⟨_,[(1,I p),(2,.o (.c (.ptr 0 0))),(6,I (spX (openF l.Rows row r c))),(7,I (spY (openF l.Rows row r c))),(8,I r),(9,S row),(10,I c),(23,L l.Rows),(24,I (els l.Rows).length),(25,I r)],[.box ((Enc.e l).map (V1.rd []))]⟩ : St)) (row.size) ⟨(fun c : Nat => (⟨_,[(1,I p),(2,.o (.c (.ptr 0 0))),(6,I (spX (openF l.Rows row r c))),(7,I (spY (openF l.Rows row r c))),(8,I r),(9,S row),(10,I c),(23,L l.Rows),(24,I (els l.Rows).length),(25,I r)],[.box ((Enc.e l).map (V1.rd []))]⟩ : St)) 0,⟨0,by omega,J,J⟩,X7 [0] (by decide) J (by kernel_rfl) (.c J (.c J (.cons (Xx (by rw [openF_zero])) (.cons (Xx (by rw [openF_zero])) (.c J (.c J (.c J (.c J (.c J (.c J (.nil)))))))))))⟩ ?_
  rintro m_D _ ⟨c,hk_D,hp_D,rfl⟩
  refine Qd (zy (z0 J (z0 J (zx (Zy J J J) J (zx (Z1 J J J J) J (zz ?_))))))
  refine Xb J (fun h4 => ?_) (fun h4 => ?_)
  ·have h4 : c < row.size := by have := of_decide_eq_true h4; omega
   have hbt := Yh row c
   have hbt2 := Yh row (c : Int).toNat
   by_cases hd : byteAt row c = 49 + p
   ·have hb : decide (byteAt row (c : Int).toNat = 49 + p) = true := decide_eq_true hd
    rw [start_dig hp_A hrow hp_D h4 hd]
    clear hd
    refine Qh (Q0 (Qd (Qk (Qd (zy (z0 J (z0 J (zx (Zm J J J J (by omega)) J (z0 J (z7 J (by omega) ?_))))))))));refine zx (Zp J J J J (Kq (by omega))) J (z9e J (by assumption) (zz (Qm J (zy (z0 J (zx (Z3 J J J J (by omega)) J (z7 J (by omega) (z0 J (zx (Z3 J J J J (by omega)) J ?_)))))))));refine z7 J (by omega) (z1 J (z1 J (zz (Xa (T_r (B_r (T_r (T_r (B_r (B_r ?_))))))))));refine T_r (T_r (B_r (T_r (F_r ?_))))
    exact Xq J J J (X5 [] (by decide) J J (tu2 (show (c : Int) * 16 + 2 = 16 * (c : Int) + 2 by omega) (show (r : Int) * 16 + 2 = 16 * (r : Int) + 2 by omega)))
   have hb : decide (byteAt row (c : Int).toNat = 49 + p) = false := decide_eq_false hd
   have hnd := colF_step hp_D (show isDig p (byteAt row c) = false from decide_eq_false hd)
   by_cases h35 : byteAt row c = 35
   ·have hb3 : decide (byteAt row (c : Int).toNat ≠ 35) = false := decide_eq_false (fun q => q h35)
    have hnx : spX (openF l.Rows row r c) = spX (openF l.Rows row r (c + 1)) := by rw [openF_35 h35]
    have hny : spY (openF l.Rows row r c) = spY (openF l.Rows row r (c + 1)) := by rw [openF_35 h35]
    clear h35
    refine Qh (Q0 (Qd (Qk (Qd (zy (z0 J (z0 J (zx (Zm J J J J (by omega)) J (z0 J (z7 J (by omega) ?_))))))))));refine zx (Zp J J J J (Kq (by omega))) J (z9e J (by assumption) (zz (Ql J (Qh (Q0 (zy (z0 J (z0 J (zx (Zm J J J J (by omega)) J ?_)))))))));refine z9f J (by assumption) (z0 J (z6 J (z6 J (zpF J (zz (Ql J (Qh (Q1 (Q0 (Qc ?_))))))))));refine z0 J (z7 J (by omega) (z1 J (zz ?_)))
    exact ⟨row.size - (c + 1),by omega,(fun c : Nat => (⟨_,[(1,I p),(2,.o (.c (.ptr 0 0))),(6,I (spX (openF l.Rows row r c))),(7,I (spY (openF l.Rows row r c))),(8,I r),(9,S row),(10,I c),(23,L l.Rows),(24,I (els l.Rows).length),(25,I r)],[.box ((Enc.e l).map (V1.rd []))]⟩ : St)) (c + 1),⟨c + 1,by omega,hnd,J⟩,X7 [0] (by decide) J (by kernel_rfl) (.c J (.c J (.cons (Xx hnx) (.cons (Xx hny) (.c J (.c J (.c J (.c J (.c J (.c J (.nil)))))))))))⟩
   have hb3 : decide (byteAt row (c : Int).toNat ≠ 35) = true := decide_eq_true h35
   have h35' := h35
   cases ho : openF l.Rows row r c with
   | some x =>
    have hlt : decide (spX (openF l.Rows row r c) < 0) = false := decide_eq_false (by rw [spX_neg,ho]; simp)
    have hnx : spX (some x) = spX (openF l.Rows row r (c + 1)) := by rw [Zc ho]
    have hny : spY (some x) = spY (openF l.Rows row r (c + 1)) := by rw [Zc ho]
    rw [ho] at hlt
    refine Qh (Q0 (Qd (Qk (Qd (zy (z0 J (z0 J (zx (Zm J J J J (by omega)) J (z0 J (z7 J (by omega) ?_))))))))));refine zx (Zp J J J J (Kq (by omega))) J (z9e J (by assumption) (zz (Ql J (Qh (Q0 (zy (z0 J (z0 J (zx (Zm J J J J (by omega)) J ?_)))))))));refine z9f J (by assumption) (z0 J (z5 J (z0 J (z5 J (z9a J (by assumption) (zpT J (zz (Ql J (Qh (Q1 ?_))))))))));refine Q0 (Qc (z0 J (z7 J (by omega) (z1 J (zz ?_)))))
    exact ⟨row.size - (c + 1),by omega,(fun c : Nat => (⟨_,[(1,I p),(2,.o (.c (.ptr 0 0))),(6,I (spX (openF l.Rows row r c))),(7,I (spY (openF l.Rows row r c))),(8,I r),(9,S row),(10,I c),(23,L l.Rows),(24,I (els l.Rows).length),(25,I r)],[.box ((Enc.e l).map (V1.rd []))]⟩ : St)) (c + 1),⟨c + 1,by omega,hnd,J⟩,X7 [0] (by decide) J (by kernel_rfl) (.c J (.c J (.cons (Xx hnx) (.cons (Xx hny) (.c J (.c J (.c J (.c J (.c J (.c J (.nil)))))))))))⟩
   | none =>
    have hlt : decide (spX none < 0) = true := rfl
    have hnx : (c : Int) * 16 + 2 = spX (openF l.Rows row r (c + 1)) := by rw [Zd ho,if_neg h35']; show (c : Int) * 16 + 2 = 16 * (c : Int) + 2; omega
    have hny : (r : Int) * 16 + 2 = spY (openF l.Rows row r (c + 1)) := by rw [Zd ho,if_neg h35']; show (r : Int) * 16 + 2 = 16 * (r : Int) + 2; omega
    refine Qh (Q0 (Qd (Qk (Qd (zy (z0 J (z0 J (zx (Zm J J J J (by omega)) J (z0 J (z7 J (by omega) ?_))))))))));refine zx (Zp J J J J (Kq (by omega))) J (z9e J (by assumption) (zz (Ql J (Qh (Q0 (zy (z0 J (z0 J (zx (Zm J J J J (by omega)) J ?_)))))))));refine z9f J (by assumption) (z0 J (z5 J (z0 J (z5 J (z9a J (by assumption) (zpT J (zz (Qm J (zy ?_)))))))));refine z0 J (zx (Z3 J J J J (by omega)) J (z7 J (by omega) (z1 J (zz (Qc (z0 J (zx (Z3 J J J J (by omega)) J (z7 J (by omega) (z1 J (Qe ?_))))))))));refine Q1 (Q0 (Qc (z0 J (z7 J (by omega) (z1 J (zz ?_))))))
    exact ⟨row.size - (c + 1),by omega,(fun c : Nat => (⟨_,[(1,I p),(2,.o (.c (.ptr 0 0))),(6,I (spX (openF l.Rows row r c))),(7,I (spY (openF l.Rows row r c))),(8,I r),(9,S row),(10,I c),(23,L l.Rows),(24,I (els l.Rows).length),(25,I r)],[.box ((Enc.e l).map (V1.rd []))]⟩ : St)) (c + 1),⟨c + 1,by omega,hnd,J⟩,X7 [0] (by decide) J (by kernel_rfl) (.c J (.c J (.cons (Xx hnx) (.cons (Xx hny) (.c J (.c J (.c J (.c J (.c J (.c J (.nil)))))))))))⟩
  ·have h4 : c = row.size := by have := of_decide_eq_false h4; omega
   subst h4
   refine Q9 (T_x (T_x (Xl (Q1 (Q0 (Qc (z7 J (by omega) (z0 J (zz ?_)))))))))
   exact ⟨l.Rows.length - (r + 1),by omega,(fun r : Nat => (⟨_,[(1,I p),(2,.o (.c (.ptr 0 0))),(6,I (spX (tileF isOpen l.Rows r))),(7,I (spY (tileF isOpen l.Rows r))),(23,L l.Rows),(24,I (els l.Rows).length),(25,I r)],[.box ((Enc.e l).map (V1.rd []))]⟩ : St)) (r + 1),⟨r + 1,by omega,tileF_step hp_A hrow hp_D,J⟩,X7 [0] (by decide) J (by kernel_rfl) (.c J (.c J (.cons (Xx (by rw [← openF_end hrow])) (.cons (Xx (by rw [← openF_end hrow])) (.c J (.c J (.c J (.nil))))))))⟩
 ·have h3 : r = l.Rows.length := by have := of_decide_eq_false h; omega
  rw [start_open hp_A h3]
  refine Q9 (T_x (T_x (Xl (Q0 (zy (z0 J (z0 J (z1 J (z1 J (Qe ?_))))))))));refine Q0 (Xa (F_r ?_))
  exact Xq J J J (X5 [] (by decide) J J J)
theorem S_StartOf (l : TLevel) (p : Int) (hg : Enc.gd l) (hl : levelOk l = true) (hp : 0 ≤ p ∧ p ≤ 3) : Con Tryz.prog 133 [] [ag l,ai p] [] (.tu [.c (jn (spX (startT l p))),.c (jn (spY (startT l p)))]) := by
 have hc := S_LevelOk l hg
 rw [hl] at hc
 have hlr := Yp l.Rows
 have hx : l.Rows.length ≤ 9223372036854775807 := hg.1
 obtain ⟨l3,l12,w,w4,w20,hw⟩ := Y5 hl
 have hci := S_in p 0 3
 rw [Y3.2 hp] at hci
 refine Con.of Tryz.func133 J Tryz.ntmps133 J (fun E => ?_)
 refine zy (M1 (Qq J J J J) J J (z1 J (z1 J (zz (zy (z1 J (zz ?_)))))));refine zy (z1 J (zz (Qd (zy (z4 J J J ?_)))));refine zx (Qj J J (hc) J) J ?_;refine zn J (z0 J (z5 J (z0 J (z5 J ?_))));refine zx (Qj J J (hci) J) J ?_;refine z5 J (zn J (zpF J (zz (Ql J (Qh (Q0 (Qd (zy (z1 J ?_)))))))));refine zz (Qk ?_);refine A_lq (fun m st => ∃ r : Nat,r + m = l.Rows.length ∧ (tileF (isDig p) l.Rows r = none) ∧ st = (⟨_,[(1,I p),(2,.o (.c (.ptr 0 0))),(6,I (spX (tileF isOpen l.Rows r))),(7,I (spY (tileF isOpen l.Rows r))),(8,I r)],[.box ((Enc.e l).map (V1.rd []))]⟩ : St)) (l.Rows.length) ⟨_,⟨0,by omega,J,J⟩,W_gj [0] (by kernel_rfl)⟩ ?_
 rintro m_A _ ⟨r,hk_A,hp_A,rfl⟩
 refine Qd (zy (z0 J (z2 J J J (z3 J (zx (Zw J J J) J (zx (Z1 J J J J) J (zz ?_)))))))
 refine Xb J (fun h => ?_) (fun h => ?_)
 ·have h3 : r < l.Rows.length := by have := of_decide_eq_true h; omega
  have hat := Yo h3
  have hwr := hw r h3
  have hrow := List.getElem?_eq_getElem h3
  generalize l.Rows[r] = row at hat hwr hrow
  refine Qh (Q0 (Qd (Qk (zy (z1 J (zz (Qk ?_)))))));refine A_lq (fun m st => ∃ c : Nat,c + m = row.size ∧ (colF (isDig p) row c = none) ∧ st = (⟨_,[(1,I p),(2,.o (.c (.ptr 0 0))),(6,I (spX (openF l.Rows row r c))),(7,I (spY (openF l.Rows row r c))),(8,I r),(9,I c)],[.box ((Enc.e l).map (V1.rd []))]⟩ : St)) (row.size) ⟨(fun c : Nat => (⟨_,[(1,I p),(2,.o (.c (.ptr 0 0))),(6,I (spX (openF l.Rows row r c))),(7,I (spY (openF l.Rows row r c))),(8,I r),(9,I c)],[.box ((Enc.e l).map (V1.rd []))]⟩ : St)) 0,⟨0,by omega,J,J⟩,X7 [0] (by decide) J (by kernel_rfl) (.c J (.c J (.cons (Xx (by rw [openF_zero])) (.cons (Xx (by rw [openF_zero])) (.c J (.c J (.nil)))))))⟩ ?_
  rintro m_D _ ⟨c,hk_D,hp_D,rfl⟩
  refine Qd (zy (z0 J (z2 J J J (z3 J (z0 J (zx (Q2 J J J J (by omega) (by assumption) J) J (zx (Z0 J J J J) J (zx (Zy J J J) J (zx (Z1 J J J J) J (Qe ?_))))))))));refine Q0 ?_
  refine Xb J (fun h4 => ?_) (fun h4 => ?_)
  ·have h4 : c < row.size := by have := of_decide_eq_true h4; omega
   have hbt := Yh row c
   have hbt2 := Yh row (c : Int).toNat
   by_cases hd : byteAt row c = 49 + p
   ·have hb : decide (byteAt row (c : Int).toNat - 49 = p) = true := decide_eq_true (by show byteAt row c - 49 = p; omega)
    have hb3 : decide (byteAt row (c : Int).toNat ≠ 35) = true := decide_eq_true (by show byteAt row c ≠ 35; omega)
    rw [start_dig hp_A hrow hp_D h4 hd]
    clear hd
    cases ho : openF l.Rows row r c with
    | some x =>
     have hlt : decide (spX (openF l.Rows row r c) < 0) = false := decide_eq_false (by rw [spX_neg,ho]; simp)
     rw [ho] at hlt
     refine Qh (Q0 (Qd (Qk (zy (z2 J J J (z3 J (z0 J (zx (Q2 J J J J (by omega) (by assumption) J) J (zx (Z0 J J J J) J (z0 J ?_))))))))));refine zx (Zm J J J J (by omega)) J (z1 J (zz (Qd (zy (z0 J (z9f J (by assumption) (z0 J (z5 J (z0 J ?_)))))))));refine z5 J (z9a J (by assumption) (zpT J (z0 J (z5 J (z0 J (z5 J (zx (Zp J J J J (Kp (by omega))) J (z5 J (z8 J (by omega) (z5 J (z0 J ?_)))))))))));refine z5 J (z9e J (by assumption) (zpF J (zz (Qm J (zy (z0 J (zx (Z3 J J J J (by omega)) J (z7 J (by omega) (z1 J ?_)))))))));refine zz (Qc (z0 J (zx (Z3 J J J J (by omega)) J (z7 J (by omega) (z1 J (zz (zy (z0 J ?_))))))));refine zx (Zp J J J J (Kp (by omega))) J (z8 J (by omega) (z0 J (z9e J (by assumption) (zz (Qm J (zy (z0 J (z0 J (z1 J ?_)))))))));refine z1 J (zz (Xa (B_r (T_r (T_r (B_r (B_r (T_r (T_r (B_r ?_))))))))));refine T_r (F_r ?_)
     exact Xq J J J (X5 [] (by decide) J J J)
    | none =>
     have hlt : decide (spX none < 0) = true := rfl
     refine Qh (Q0 (Qd (Qk (zy (z2 J J J (z3 J (z0 J (zx (Q2 J J J J (by omega) (by assumption) J) J (zx (Z0 J J J J) J (z0 J ?_))))))))));refine zx (Zm J J J J (by omega)) J (z1 J (zz (Qd (zy (z0 J (z9f J (by assumption) (z0 J (z5 J (z0 J ?_)))))))));refine z5 J (z9a J (by assumption) (zpT J (z0 J (z6 J (z6 J (z6 J (z6 J (z6 J (zpT J (zz ?_))))))))));refine Qm J (zy (z0 J (zx (Z3 J J J J (by omega)) J (z7 J (by omega) (z1 J (zz (Qc (z0 J (zx (Z3 J J J J (by omega)) J ?_)))))))));refine z7 J (by omega) (z1 J (zz (zy (z0 J (zx (Zp J J J J (Kp (by omega))) J (z8 J (by omega) (z0 J (z9e J (by assumption) (Qe ?_)))))))));refine Q0 (Qm J (zy (z0 J (z0 J (z1 J (z1 J (zz (Xa (B_r ?_)))))))));refine T_r (T_r (B_r (B_r (T_r (T_r (B_r (T_r (F_r ?_))))))))
     exact Xq J J J (X5 [] (by decide) J J J)
   have hb : decide (byteAt row (c : Int).toNat - 49 = p) = false := decide_eq_false (by show ¬ byteAt row c - 49 = p; omega)
   have hnd := colF_step hp_D (show isDig p (byteAt row c) = false from decide_eq_false hd)
   by_cases h35 : byteAt row c = 35
   ·have hb3 : decide (byteAt row (c : Int).toNat ≠ 35) = false := decide_eq_false (fun q => q h35)
    have hnx : spX (openF l.Rows row r c) = spX (openF l.Rows row r (c + 1)) := by rw [openF_35 h35]
    have hny : spY (openF l.Rows row r c) = spY (openF l.Rows row r (c + 1)) := by rw [openF_35 h35]
    clear h35
    refine Qh (Q0 (Qd (Qk (zy (z2 J J J (z3 J (z0 J (zx (Q2 J J J J (by omega) (by assumption) J) J (zx (Z0 J J J J) J (z0 J ?_))))))))));refine zx (Zm J J J J (by omega)) J (z1 J (zz (Qd (zy (z0 J (z9f J (by assumption) (z0 J (z6 J (z6 J ?_)))))))));refine zpF J (z0 J (z5 J (z0 J (z5 J (zx (Zp J J J J (Kp (by omega))) J (z5 J (z8 J (by omega) (z5 J (z0 J (z5 J (z9e J (by assumption) ?_)))))))))));refine zpF J (zz (Ql J (Qh (Q0 (zy (z0 J (zx (Zp J J J J (Kp (by omega))) J (z8 J (by omega) (z0 J ?_)))))))));refine z9e J (by assumption) (zz (Ql J (Qh (Q1 (Q0 (Qc (z0 J (z7 J (by omega) (z1 J (Qe ?_))))))))));refine Q0 ?_
    exact ⟨row.size - (c + 1),by omega,(fun c : Nat => (⟨_,[(1,I p),(2,.o (.c (.ptr 0 0))),(6,I (spX (openF l.Rows row r c))),(7,I (spY (openF l.Rows row r c))),(8,I r),(9,I c)],[.box ((Enc.e l).map (V1.rd []))]⟩ : St)) (c + 1),⟨c + 1,by omega,hnd,J⟩,X7 [0] (by decide) J (by kernel_rfl) (.c J (.c J (.cons (Xx hnx) (.cons (Xx hny) (.c J (.c J (.nil)))))))⟩
   have hb3 : decide (byteAt row (c : Int).toNat ≠ 35) = true := decide_eq_true h35
   have h35' := h35
   cases ho : openF l.Rows row r c with
   | some x =>
    have hlt : decide (spX (openF l.Rows row r c) < 0) = false := decide_eq_false (by rw [spX_neg,ho]; simp)
    have hnx : spX (some x) = spX (openF l.Rows row r (c + 1)) := by rw [Zc ho]
    have hny : spY (some x) = spY (openF l.Rows row r (c + 1)) := by rw [Zc ho]
    rw [ho] at hlt
    refine Qh (Q0 (Qd (Qk (zy (z2 J J J (z3 J (z0 J (zx (Q2 J J J J (by omega) (by assumption) J) J (zx (Z0 J J J J) J (z0 J ?_))))))))));refine zx (Zm J J J J (by omega)) J (z1 J (zz (Qd (zy (z0 J (z9f J (by assumption) (z0 J (z5 J (z0 J ?_)))))))));refine z5 J (z9a J (by assumption) (zpT J (z0 J (z5 J (z0 J (z5 J (zx (Zp J J J J (Kp (by omega))) J (z5 J (z8 J (by omega) (z5 J (z0 J ?_)))))))))));refine z5 J (z9e J (by assumption) (zpF J (zz (Ql J (Qh (Q0 (zy (z0 J (zx (Zp J J J J (Kp (by omega))) J ?_)))))))));refine z8 J (by omega) (z0 J (z9e J (by assumption) (zz (Ql J (Qh (Q1 (Q0 (Qc (z0 J (z7 J (by omega) ?_))))))))));refine z1 J (zz ?_)
    exact ⟨row.size - (c + 1),by omega,(fun c : Nat => (⟨_,[(1,I p),(2,.o (.c (.ptr 0 0))),(6,I (spX (openF l.Rows row r c))),(7,I (spY (openF l.Rows row r c))),(8,I r),(9,I c)],[.box ((Enc.e l).map (V1.rd []))]⟩ : St)) (c + 1),⟨c + 1,by omega,hnd,J⟩,X7 [0] (by decide) J (by kernel_rfl) (.c J (.c J (.cons (Xx hnx) (.cons (Xx hny) (.c J (.c J (.nil)))))))⟩
   | none =>
    have hlt : decide (spX none < 0) = true := rfl
    have hnx : 16 * (c : Int) + 2 = spX (openF l.Rows row r (c + 1)) := by rw [Zd ho,if_neg h35']; rfl
    have hny : 16 * (r : Int) + 2 = spY (openF l.Rows row r (c + 1)) := by rw [Zd ho,if_neg h35']; rfl
    refine Qh (Q0 (Qd (Qk (zy (z2 J J J (z3 J (z0 J (zx (Q2 J J J J (by omega) (by assumption) J) J (zx (Z0 J J J J) J (z0 J ?_))))))))));refine zx (Zm J J J J (by omega)) J (z1 J (zz (Qd (zy (z0 J (z9f J (by assumption) (z0 J (z5 J (z0 J ?_)))))))));refine z5 J (z9a J (by assumption) (zpT J (z0 J (z6 J (z6 J (z6 J (z6 J (z6 J (zpT J (zz ?_))))))))));refine Qm J (zy (z0 J (zx (Z3 J J J J (by omega)) J (z7 J (by omega) (z1 J (zz (Qc (z0 J (zx (Z3 J J J J (by omega)) J ?_)))))))));refine z7 J (by omega) (z1 J (zz (zy (z0 J (zx (Zp J J J J (Kp (by omega))) J (z8 J (by omega) (z0 J (z9e J (by assumption) (Qe ?_)))))))));refine Q0 (Ql J (Qh (Q1 (Q0 (Qc (z0 J (z7 J (by omega) (z1 J (zz ?_)))))))))
    exact ⟨row.size - (c + 1),by omega,(fun c : Nat => (⟨_,[(1,I p),(2,.o (.c (.ptr 0 0))),(6,I (spX (openF l.Rows row r c))),(7,I (spY (openF l.Rows row r c))),(8,I r),(9,I c)],[.box ((Enc.e l).map (V1.rd []))]⟩ : St)) (c + 1),⟨c + 1,by omega,hnd,J⟩,X7 [0] (by decide) J (by kernel_rfl) (.c J (.c J (.cons (Xx hnx) (.cons (Xx hny) (.c J (.c J (.nil)))))))⟩
  ·have h4 : c = row.size := by have := of_decide_eq_false h4; omega
   subst h4
   refine Q9 (T_x (T_x (Xl (Q1 (Q0 (Qc (z0 J (z7 J (by omega) (z1 J (zz ?_))))))))))
   exact ⟨l.Rows.length - (r + 1),by omega,(fun r : Nat => (⟨_,[(1,I p),(2,.o (.c (.ptr 0 0))),(6,I (spX (tileF isOpen l.Rows r))),(7,I (spY (tileF isOpen l.Rows r))),(8,I r)],[.box ((Enc.e l).map (V1.rd []))]⟩ : St)) (r + 1),⟨r + 1,by omega,tileF_step hp_A hrow hp_D,J⟩,X7 [0] (by decide) J (by kernel_rfl) (.c J (.c J (.cons (Xx (by rw [← openF_end hrow])) (.cons (Xx (by rw [← openF_end hrow])) (.c J (.nil))))))⟩
 ·have h3 : r = l.Rows.length := by have := of_decide_eq_false h; omega
  rw [start_open hp_A h3]
  refine Q9 (T_x (T_x (Xl (Q0 (zy (z0 J (z0 J (z1 J (z1 J (Qe ?_))))))))));refine Q0 (Xa (F_r ?_))
  exact Xq J J J (X5 [] (by decide) J J J)
end
end Go.Proofs.YtbfhboakafjjgaaGreat
