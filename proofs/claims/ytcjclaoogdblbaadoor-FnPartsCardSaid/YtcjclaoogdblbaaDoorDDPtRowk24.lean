/-
  Parts of the proof (rules, data, and what functions of the program and of the reference return), among them: Scores grow slowly, and a world with one point more is valid; A world of which some parts were changed, and how it differs from what it was.
  Conditions: those that each theorem names.
-/
import Derived.Test.YtcjclaoogdblbaaDoorDDPtRowk18
import Derived.Test.YtcjclaoogdblbaaDoorDDPtRowk21
import Derived.Test.YtcjclaoogdblbaaDoorDDPtRowk23
set_option linter.unusedSimpArgs false
set_option linter.unusedVariables false
set_option maxRecDepth 8000
namespace Go.Proofs.YtcjclaoogdblbaaDoor
section
open Go.RowKit

/-! ### Worlds -/
/-! ### Runs -/
theorem runM_app (w : TWorld) (a b : List (List Int)) : runM w (a ++ b) = runM (runM w a) b := by rw [runM,runM,runM,List.foldl_append]
theorem runM_cons (w : TWorld) (r : List Int) (rows : List (List Int)) : runM w (r :: rows) = runM (stepW w r) rows := rfl
theorem tick_tick (w : TWorld) (row : List Int) : (tickM w row).Tick = w.Tick + 1 := by
 unfold tickM lastM
 split
 ·rfl
 ·split <;> rfl
theorem stepW_good {w : TWorld} {row : List Int} (ho : worldOk w = true) (ht : w.Tick < 100000) (hr : rowOk row w.Scores.length = true) : (stepW w row).Tick = w.Tick + 1 := by
 rw [stepW,if_pos ⟨ho,by omega,hr⟩]
 exact tick_tick w row
theorem runM_good : ∀ (rows : List (List Int)) {w : TWorld},WorIn w → worldOk w = true → w.Tick + rows.length ≤ 100000 → (∀ r ∈ rows,rowOk r w.Scores.length = true) → worldOk (runM w rows) = true ∧ (runM w rows).Tick = w.Tick + rows.length ∧ (runM w rows).Level = w.Level ∧ (runM w rows).Scores.length = w.Scores.length
 | [],w,_,ho,_,_ => ⟨ho,by simp [runM],rfl,rfl⟩
 | r :: rows,w,iw,ho,ht,hr => by
  simp only [List.length_cons] at ht
  have h1 := stepW_good ho (by omega) (hr r (by simp))
  have h2 := stepW_fits (w := w) (row := r) iw.1
  have h3 := runM_good rows (w := stepW w r) (step_in iw) (stepW_ok iw.1 ho) (by omega) (fun x hx => by rw [h2.2.1]; exact hr x (by simp [hx]))
  rw [runM_cons]
  refine ⟨h3.1,by rw [h3.2.1,h1,List.length_cons]; omega,by rw [h3.2.2.1,stepW_level],by rw [h3.2.2.2,h2.2.1]⟩
/-! ### The lockstep worlds -/
section
variable {l : TLevel} {n : Nat} {seed : Int} {e : Nat} {rows : List (List Int)}
noncomputable def lockW (l : TLevel) (n : Nat) (seed : Int) (rows : List (List Int)) (t : Nat) : TWorld := runM (newWorld l n seed) (rows.take t)
structure RD (l : TLevel) (n : Nat) (seed : Int) (e : Nat) (rows : List (List Int)) : Prop where
 hl : levelOk l = true
 gl : Enc.gd l
 ll : l.Rows.length ≤ 1048576
 hn : 1 ≤ n ∧ n ≤ 4
 hs : inR seed 0 65535 = true
 he : 1 ≤ e ∧ e ≤ 100
 hL : rows.length ≤ 400
 hr : ∀ r ∈ rows,rowOk r (n : Int) = true
theorem RD.new_in (h : RD l n seed e rows) : WorIn (newWorld l n seed) := by
 have h1 := newWorld_gd h.gl h.hl h.hn h.hs
 have hn := h.hn
 exact ⟨h1,h.ll,by simp only [newWorld,List.length_replicate]; omega,by simp only [newWorld,List.length_map,List.length_range]; omega⟩
theorem RD.new_len (h : RD l n seed e rows) : (newWorld l n seed).Scores.length = n := by simp [newWorld]
theorem RD.good (h : RD l n seed e rows) (t : Nat) : worldOk (lockW l n seed rows t) = true ∧ (lockW l n seed rows t).Tick = ((rows.take t).length : Int) ∧ (lockW l n seed rows t).Level = l ∧ (lockW l n seed rows t).Scores.length = n := by
 have hlen : (rows.take t).length ≤ rows.length := by rw [List.length_take]; omega
 have hL := h.hL
 have h0 : (newWorld l n seed).Tick = 0 := rfl
 have h1 := runM_good (rows.take t) h.new_in (newWorld_ok h.hl h.hn h.hs) (by rw [h0]; omega) (fun r hr => by rw [h.new_len]; exact h.hr r (List.mem_of_mem_take hr))
 exact ⟨h1.1,by rw [lockW,h1.2.1,h0]; omega,h1.2.2.1,by rw [lockW,h1.2.2.2,h.new_len]⟩
theorem RD.in_ (h : RD l n seed e rows) (t : Nat) : WorIn (lockW l n seed rows t) := ran_in _ h.new_in
theorem lockW_zero : lockW l n seed rows 0 = newWorld l n seed := rfl
end
end
section
open Go.RowKit

section
variable {n k j : Nat} {t bs : List TBody} {ss : List Int} {s : List TBody × List Int} {b : TBody} {c : Int}
theorem addM_le (h : ∀ x ∈ ss,x ≤ c) : ∀ x ∈ addM ss k,x ≤ c + 1 := fun x hx => by
 unfold addM at hx
 split at hx
 ·have := h x hx; omega
 ·rename_i s hs
  rcases List.mem_or_eq_of_mem_set hx with h1 | h1
  ·have := h x h1; omega
  ·have := h s (List.mem_of_getElem? hs); omega
theorem le_up (h : ∀ x ∈ ss,x ≤ c) : ∀ x ∈ ss,x ≤ c + 1 := fun x hx => by have := h x hx; omega
theorem shOne_le (h : ∀ x ∈ s.2,x ≤ c) : ∀ x ∈ (shOne n s b).2,x ≤ c + 1 := by
 unfold shOne
 split
 ·split
  ·exact le_up h
  ·split
   ·exact le_up h
   ·simp only
    split
    ·exact addM_le h
    ·exact le_up h
 ·exact le_up h
theorem itOne_le (h : ∀ x ∈ ss,x ≤ c) : ∀ x ∈ itOne n bs ss b,x ≤ c + 1 := by
 unfold itOne
 split
 ·split
  ·exact le_up h
  ·exact addM_le h
 ·exact le_up h
theorem shS_le (h : ∀ x ∈ s.2,x ≤ c) : ∀ j : Nat,∀ x ∈ (shS n t s j).2,x ≤ c + j
 | 0 => fun x hx => by have := h x hx; omega
 | j + 1 => by
  have ih := shS_le h j
  rw [shS]
  split
  ·intro x hx; have := ih x hx; omega
  ·intro x hx; have := shOne_le ih x hx; omega
theorem foldl_le : ∀ (l : List TBody) {ss : List Int} {c : Int},(∀ x ∈ ss,x ≤ c) → ∀ x ∈ l.foldl (itOne n bs) ss,x ≤ c + l.length
 | [],ss,c,h => fun x hx => by have := h x hx; simp; omega
 | b :: l,ss,c,h => fun x hx => by
  have := foldl_le l (itOne_le (n := n) (bs := bs) (b := b) h) x hx
  simp only [List.length_cons]
  omega
theorem hitsR_le (hl : bs.length ≤ 24) (h : ∀ x ∈ ss,x ≤ c) : ∀ x ∈ (hitsR n bs ss).2,x ≤ c + 48 := fun x hx => by
 have h1 := foldl_le (n := n) (bs := (shS n (bs.drop n) (bs,ss) (bs.drop n).length).1) ((bs.drop n).take (bs.drop n).length) (shS_le (n := n) (t := bs.drop n) (s := (bs,ss)) h (bs.drop n).length) x hx
 rw [List.take_length,List.length_drop] at h1
 omega
end
theorem stepW_le {w : TWorld} {row : List Int} {c : Int} (hg : Enc.gd w) (h : ∀ x ∈ w.Scores,x ≤ c) : ∀ x ∈ (stepW w row).Scores,x ≤ c + 48 := by
 unfold stepW
 split
 ·rename_i hh
  have hl := (PH.of hg hh.1 hh.2.2).mv.len.2
  have h1 := hitsR_le (n := w.Scores.length) hl h
  unfold tickM lastM
  split
  ·exact h1
  ·split <;> exact h1
 ·intro x hx; have := h x hx; omega
theorem runM_le : ∀ (rows : List (List Int)) {w : TWorld} {c : Int},Enc.gd w → (∀ x ∈ w.Scores,x ≤ c) → ∀ x ∈ (runM w rows).Scores,x ≤ c + 48 * rows.length
 | [],w,c,hg,h => fun x hx => by have := h x hx; simp; omega
 | r :: rows,w,c,hg,h => fun x hx => by
  have := runM_le rows (stepW_fits (row := r) hg).1 (stepW_le (row := r) hg h) x hx
  simp only [List.length_cons]
  omega
theorem RD.score {l : TLevel} {n : Nat} {seed : Int} {e : Nat} {rows : List (List Int)} (h : RD l n seed e rows) (t : Nat) : ∀ x ∈ (lockW l n seed rows t).Scores,x ≤ 19200 := fun x hx => by
 have hL := h.hL
 have := runM_le (rows.take t) h.new_in.1 (c := 0) (fun x hx => by
  have : x = 0 := List.eq_of_mem_replicate hx
  omega) x hx
 rw [List.length_take] at this
 omega
end
section
open Go.RowKit

def flipB (b : TBody) : TBody := ⟨b.Kind,b.Owner,b.X,b.Y,b.VX,b.VY,-b.Aim,b.Life,b.Timer⟩
def chW (w : TWorld) (s : Int) (k i : Nat) : TWorld := ⟨w.Level,w.Tick,s,w.Scores.set k (w.Scores.getD k 0 + 1),w.Bodies.set i (flipB (w.Bodies.getD i zB))⟩
theorem flip_tail {b : TBody} (hk : b.Kind = 0) (h : tailM b = true) : tailM (flipB b) = true := by
 obtain ⟨h1,h2,h3,h4⟩ := (Zj hk).1 h
 exact (Zj (b := flipB b) hk).2 ⟨by simp only [flipB]; omega,h2,h3,h4⟩
theorem flip_at {l : TLevel} {n k : Nat} {b : TBody} (hk : k < n) (h : bodyAt l n k b = true) : bodyAt l n k (flipB b) = true ∧ (b.Aim = 1 ∨ b.Aim = -1) := by
 unfold bodyAt at h ⊢
 rw [if_pos hk,Bool.and_eq_true,decide_eq_true_eq] at h
 obtain ⟨h1,h2,h3⟩ := h
 have ht := tail_of h1
 refine ⟨?_,((Zj h2).1 ht).1⟩
 rw [if_pos hk,Bool.and_eq_true,decide_eq_true_eq]
 refine ⟨?_,h2,h3⟩
 unfold bodyM at h1 ⊢
 simp only [Bool.and_eq_true] at h1 ⊢
 obtain ⟨g1,g2,g3,g4,g5,g6⟩ := h1
 exact ⟨g1,g2,g3,g4,g5,flip_tail h2 g6⟩
section
variable {w : TWorld} {s : Int} {k i : Nat} (ho : worldOk w = true)
include ho
theorem at_plr (hi : i < w.Scores.length) : ∃ b,w.Bodies[i]? = some b ∧ w.Bodies.getD i zB = b ∧ bodyAt w.Level w.Scores.length i b = true := by
 obtain ⟨g1,g2,g3,g4,g5,g6,g7⟩ := Zl ho
 have h1 : i < w.Bodies.length := by omega
 exact ⟨w.Bodies[i],List.getElem?_eq_getElem h1,by rw [List.getD_eq_getElem?_getD,List.getElem?_eq_getElem h1]; rfl,g7 i h1⟩
theorem chW_ok (hs : 0 ≤ s ∧ s ≤ 65535) (h : ∀ x ∈ w.Scores,x ≤ 999999) (hk : k < w.Scores.length) (hi : i < w.Scores.length) : worldOk (chW w s k i) = true := by
 have hr := Zf ho
 obtain ⟨b,hb,hbd,hbo⟩ := at_plr ho hi
 obtain ⟨g1,g2,g3,g4,g5,g6,g7⟩ := Zl ho
 have hall : ∀ x ∈ w.Scores.set k (w.Scores.getD k 0 + 1),0 ≤ x ∧ x ≤ 1000000 := fun x hx => by
  rcases List.mem_or_eq_of_mem_set hx with h1 | h1
  ·have := hr x h1; omega
  ·have h0 : w.Scores.getD k 0 ∈ w.Scores := by
    rw [List.getD_eq_getElem?_getD,List.getElem?_eq_getElem hk]
    exact List.getElem_mem _
   have h2 := hr _ h0
   have h3 := h _ h0
   omega
 have hl : (chW w s k i).Scores.length = w.Scores.length := List.length_set
 have hlb : (chW w s k i).Bodies.length = w.Bodies.length := List.length_set
 refine worldOk_T ⟨g1,g2,Yi.2 hs,by rw [hl]; exact g4,List.all_eq_true.2 fun x hx => Yi.2 (hall x hx),by rw [hl,hlb]; exact g6,fun j hj => ?_⟩
 rw [hl]
 have hj2 : j < (w.Bodies.set i (flipB (w.Bodies.getD i zB))).length := hj
 show bodyAt w.Level _ j ((w.Bodies.set i (flipB (w.Bodies.getD i zB)))[j]) = true
 rw [List.getElem_set]
 split
 ·rename_i e
  subst e
  rw [hbd]
  exact (flip_at hi hbo).1
 ·exact g7 j (by rw [← hlb]; exact hj)
end
theorem rng_one {n k : Nat} (hk : k < n) {p : Nat → Bool} (h : ∀ j,j < n → p j = decide (j = k)) : (List.range n).filter p = [k] := by
 rw [List.filter_congr (q := fun j => decide (j = k)) (fun j hj => h j (List.mem_range.1 hj))]
 clear h
 induction n with
 | zero => exact absurd hk (Nat.not_lt_zero _)
 | succ n ih =>
  rw [List.range_succ,List.filter_append]
  by_cases e : n = k
  ·subst e
   have : (List.range n).filter (fun j => decide (j = n)) = [] := List.filter_eq_nil_iff.2 fun j hj => by have := List.mem_range.1 hj; simp; omega
   rw [this]
   simp
  ·rw [ih (by omega)]
   simp [e]
theorem rng_nil {n : Nat} {p : Nat → Bool} (h : ∀ j,j < n → p j = false) : (List.range n).filter p = [] := List.filter_eq_nil_iff.2 fun j hj => by rw [h j (List.mem_range.1 hj)]; decide
theorem dif_eq {a b : TWorld} (ha : worldOk a = true) (hb : worldOk b = true) (h1 : a.Scores.length = b.Scores.length) (h2 : a.Bodies.length = b.Bodies.length) : differ a b = (dSeed a b ++ ((List.range a.Scores.length).filter (scDiff a b)).map scoreN) ++ ((List.range a.Bodies.length).filter (boDiff a b)).map bodyN := by
 rw [differ,if_pos ⟨ha,hb⟩,dD,dC,dB,dS,h1,h2,Nat.sub_self,Nat.sub_self]
 simp
def wantP (w : TWorld) (s : Int) (k i : Nat) : List ByteArray := (if w.Seed ≠ s then [seedB] else []) ++ [scoreN k] ++ [bodyN i]
section
variable {w : TWorld} {s : Int} {k i : Nat}
theorem sc_ch (hk : k < w.Scores.length) {j : Nat} (hj : j < w.Scores.length) : scDiff w (chW w s k i) j = decide (j = k) ∧ scDiff (chW w s k i) w j = decide (j = k) := by
 have hl : (chW w s k i).Scores.length = w.Scores.length := List.length_set
 have hg : (chW w s k i).Scores.getD j 0 = if k = j then w.Scores.getD k 0 + 1 else w.Scores.getD j 0 := by
  show (w.Scores.set k _).getD j 0 = _
  rw [List.getD_eq_getElem?_getD,List.getElem?_set,List.getD_eq_getElem?_getD,List.getD_eq_getElem?_getD]
  by_cases e : k = j
  ·subst e; rw [if_pos rfl,if_pos rfl,if_pos hj]; rfl
  ·rw [if_neg e,if_neg e]
 unfold scDiff
 rw [hl,hg,decide_eq_false (p := w.Scores.length ≤ j) (by omega),Bool.false_or,Bool.false_or]
 by_cases e : k = j
 ·subst e
  rw [if_pos rfl]
  exact ⟨by rw [decide_eq_true J]; exact decide_eq_true (by omega),by rw [decide_eq_true J]; exact decide_eq_true (by omega)⟩
 ·rw [if_neg e]
  exact ⟨by rw [decide_eq_false (p := j = k) (fun h => e h.symm)]; exact decide_eq_false (fun h => h J),by rw [decide_eq_false (p := j = k) (fun h => e h.symm)]; exact decide_eq_false (fun h => h J)⟩
theorem ints_aim {b c : TBody} (h : bodyInts b = bodyInts c) : b.Aim = c.Aim := by
 unfold bodyInts at h
 injection h with _ h
 injection h with _ h
 injection h with _ h
 injection h with _ h
 injection h with _ h
 injection h with _ h
 injection h with h _
theorem bo_ch (ho : worldOk w = true) (hi : i < w.Scores.length) {j : Nat} (hj : j < w.Bodies.length) : boDiff w (chW w s k i) j = decide (j = i) ∧ boDiff (chW w s k i) w j = decide (j = i) := by
 have hl : (chW w s k i).Bodies.length = w.Bodies.length := List.length_set
 obtain ⟨b,hb,hbd,hbo⟩ := at_plr ho hi
 have ha := (flip_at hi hbo).2
 have hg : (chW w s k i).Bodies.getD j zB = if i = j then flipB b else w.Bodies.getD j zB := by
  show (w.Bodies.set i _).getD j zB = _
  rw [hbd,List.getD_eq_getElem?_getD,List.getElem?_set,List.getD_eq_getElem?_getD]
  by_cases e : i = j
  ·subst e; rw [if_pos rfl,if_pos rfl,if_pos hj]; rfl
  ·rw [if_neg e,if_neg e]
 unfold boDiff
 rw [hl,hg,decide_eq_false (p := w.Bodies.length ≤ j) (by omega),Bool.false_or,Bool.false_or]
 by_cases e : i = j
 ·subst e
  rw [if_pos rfl,hbd]
  have hne : b.Aim ≠ (flipB b).Aim := by simp only [flipB]; omega
  exact ⟨by rw [decide_eq_true (p := i = i) J]; exact decide_eq_true (fun h => hne (ints_aim h)),by rw [decide_eq_true (p := i = i) J]; exact decide_eq_true (fun h => hne (ints_aim h).symm)⟩
 ·rw [if_neg e]
  exact ⟨by rw [decide_eq_false (p := j = i) (fun h => e h.symm)]; exact decide_eq_false (fun h => h J),by rw [decide_eq_false (p := j = i) (fun h => e h.symm)]; exact decide_eq_false (fun h => h J)⟩
theorem parts_ch (ho : worldOk w = true) (hs : 0 ≤ s ∧ s ≤ 65535) (h : ∀ x ∈ w.Scores,x ≤ 999999) (hk : k < w.Scores.length) (hi : i < w.Scores.length) : differ w (chW w s k i) = wantP w s k i ∧ differ (chW w s k i) w = wantP w s k i ∧ sumOf (partInts (chW w s k i) (scoreN k)) = w.Scores.getD k 0 + 1 := by
 have hv := chW_ok (k := k) ho hs h hk hi
 have hl : (chW w s k i).Scores.length = w.Scores.length := List.length_set
 have hlb : (chW w s k i).Bodies.length = w.Bodies.length := List.length_set
 obtain ⟨g1,g2,g3,g4,g5,g6,g7⟩ := Zl ho
 refine ⟨?_,?_,?_⟩
 ·rw [dif_eq ho hv hl.symm hlb.symm,rng_one hk (fun j hj => (sc_ch (s := s) (i := i) hk hj).1),rng_one (k := i) (by omega) (fun j hj => (bo_ch (s := s) (k := k) ho hi hj).1)]
  rfl
 ·rw [dif_eq hv ho hl hlb,hl,hlb,rng_one hk (fun j hj => (sc_ch (s := s) (i := i) hk hj).2),rng_one (k := i) (by omega) (fun j hj => (bo_ch (s := s) (k := k) ho hi hj).2)]
  have : dSeed (chW w s k i) w = if w.Seed ≠ s then [seedB] else [] := by
   unfold dSeed
   show (if s ≠ w.Seed then _ else _) = _
   by_cases e : w.Seed = s
   ·rw [if_neg (fun h => h e.symm),if_neg (fun h => h e)]
   ·rw [if_pos (fun h => e h.symm),if_pos e]
  rw [this]
  rfl
 ·rw [pI_score hv k (by omega),if_pos (by omega)]
  show (w.Scores.set k _).getD k 0 = _
  rw [List.getD_eq_getElem?_getD,List.getElem?_set_self hk]
  rfl
theorem differ_self (ho : worldOk w = true) : differ w w = [] := by
 have h1 : ∀ j,j < w.Scores.length → scDiff w w j = false := fun j hj => by
  unfold scDiff
  rw [decide_eq_false (p := w.Scores.length ≤ j) (by omega)]
  simp
 have h2 : ∀ j,j < w.Bodies.length → boDiff w w j = false := fun j hj => by
  unfold boDiff
  rw [decide_eq_false (p := w.Bodies.length ≤ j) (by omega)]
  simp
 rw [dif_eq ho ho J J,rng_nil h1,rng_nil h2]
 unfold dSeed
 rw [if_neg (fun h => h rfl)]
 rfl
theorem xor_seed {n : Int} (h : 0 ≤ n ∧ n ≤ 65535) : ((n.toNat ^^^ 1 : Nat) : Int) ≠ n ∧ 0 ≤ ((n.toNat ^^^ 1 : Nat) : Int) ∧ ((n.toNat ^^^ 1 : Nat) : Int) ≤ 65535 := by
 have h1 : n.toNat ^^^ 1 < 2 ^ 16 := Nat.xor_lt_two_pow (by omega) (by decide)
 refine ⟨fun e => ?_,by omega,by omega⟩
 have h2 : n.toNat ^^^ 1 = n.toNat := by omega
 have h3 : n.toNat ^^^ (n.toNat ^^^ 1) = n.toNat ^^^ n.toNat := by rw [h2]
 rw [← Nat.xor_assoc,Nat.xor_self,Nat.zero_xor] at h3
 cases h3
end
end
end Go.Proofs.YtcjclaoogdblbaaDoor
