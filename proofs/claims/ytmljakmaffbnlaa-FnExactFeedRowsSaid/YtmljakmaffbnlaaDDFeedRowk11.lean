/-
  The phases of a tick, as data, and what holds between them. No statement of the program is proved here.
  Conditions: none.
  The first phase of a tick: the players, in the program.
  Conditions: a valid world and row.
  The second phase of a tick: moving, in the program.
  Conditions: bodies in free places.
  Hits and points of a tick, as data, and what holds between them. No statement of the program is proved here.
  Conditions: none.
  `x[n:]` of an owned slice, read while the slice is still written to. No statement of the program is proved here.
  Conditions: none.
  The third and the fourth phase of a tick: shots and items, in the program.
  Conditions: bodies in free places, scores in range.
  The builtin copy over a whole owned slice. No statement of the program is proved here.
  Conditions: none.
  Shots and items in the reference.
  Conditions: bodies in free places, scores in range.
  A whole tick, as data; what it keeps. No statement of the program is proved here.
  Conditions: none.
  Copies of worlds, in the program and in the reference.
  Conditions: lists of at most 2^20 elements.
  StepWorld of the program.
  Conditions: lists of at most 2^20 elements.
-/
import Derived.Test.YtmljakmaffbnlaaDDFeedRowk9
import Derived.Test.YtmljakmaffbnlaaDDFeedRowk10
section
set_option linter.unusedSimpArgs false
set_option linter.unusedVariables false
set_option maxRecDepth 8000
namespace Go.Proofs.Ytmljakmaffbnlaa
open Go.RowKit

def tick1 (b : TBody) : TBody := ⟨b.Kind,b.Owner,b.X,b.Y,b.VX,b.VY,b.Aim,b.Life,b.Timer - 1⟩
noncomputable def plOne (l : TLevel) (i : Int) (k : Nat) (bs : List TBody) (b : TBody) : List TBody :=
  if b.Life = 0 then bs.set k (if b.Timer - 1 = 0 then fresh l k else tick1 b)
  else if (steer l b i).2 = true ∧ bs.length < 24 then bs.set k (steer l b i).1 ++ [shotOf (steer l b i).1] else bs.set k (steer l b i).1
noncomputable def plM (l : TLevel) (row : List Int) (bs : List TBody) : Nat → List TBody
  | 0 => bs
  | k + 1 => match (plM l row bs k)[k]? with
    | none => plM l row bs k
    | some b => plOne l (row.getD k 0) k (plM l row bs k) b
/-- A body in the middle of a tick. -/
structure BM (l : TLevel) (n : Nat) (b : TBody) : Prop where
  k : 0 ≤ b.Kind ∧ b.Kind ≤ 2
  o : 0 ≤ b.Owner ∧ b.Owner < n
  p : solidM l b.X b.Y (sizeOf b.Kind) = false
  vx : -15 ≤ b.VX ∧ b.VX ≤ 15
  vy : -15 ≤ b.VY ∧ b.VY ≤ 15
  f : 0 ≤ b.Life ∧ b.Life ≤ 3
structure LM (l : TLevel) (n : Nat) (bs : List TBody) : Prop where
  len : n ≤ bs.length ∧ bs.length ≤ 24
  at_ : ∀ k b,bs[k]? = some b → BM l n b ∧ (b.Kind = 0 ↔ k < n)
/-- What is known of a player ahead of its turn. -/
structure PlI (l : TLevel) (n k : Nat) (b : TBody) : Prop where
  kd : b.Kind = 0
  ow : b.Owner = k
  am : b.Aim = 1 ∨ b.Aim = -1
  tm : 0 ≤ b.Timer ∧ b.Timer ≤ 20
  dd : b.Life = 0 → 1 ≤ b.Timer
  bm : bodyM l (b.Owner + 1) b = true
theorem body_facts {l : TLevel} {n k : Nat} {b : TBody} (h : bodyAt l n k b = true) : BM l n b ∧ (b.Kind = 0 ↔ k < n) ∧ (0 ≤ b.Timer ∧ b.Timer ≤ 25) ∧ (k < n → PlI l n k b) := by
  unfold bodyAt at h
  rw [Bool.and_eq_true] at h
  obtain ⟨h1,h2⟩ := h
  have h1' := h1
  simp only [bodyM,Bool.and_eq_true,Bool.not_eq_true',inR_iff] at h1
  obtain ⟨hk,ho,hp,hvx,hvy,ht⟩ := h1
  have hbm : bodyM l (b.Owner + 1) b = true := by
    simp only [bodyM,Bool.and_eq_true,Bool.not_eq_true',inR_iff]
    exact ⟨hk,⟨ho.1,by omega⟩,hp,hvx,hvy,ht⟩
  unfold tailM at ht
  by_cases hkn : k < n
  · rw [if_pos hkn,decide_eq_true_eq] at h2
    rw [if_pos h2.1,Bool.and_eq_true,Bool.and_eq_true,decide_eq_true_eq,inR_iff] at ht
    obtain ⟨⟨ha,hf⟩,htm⟩ := ht
    have htt : (0 ≤ b.Timer ∧ b.Timer ≤ 20) ∧ (b.Life = 0 → 1 ≤ b.Timer) := by
      split at htm
      · have := inR_iff.1 htm; exact ⟨by omega,fun _ => this.1⟩
      · have := inR_iff.1 htm; exact ⟨by omega,fun h => absurd h (by assumption)⟩
    exact ⟨⟨hk,⟨ho.1,by omega⟩,hp,hvx,hvy,hf⟩,⟨fun _ => hkn,fun _ => h2.1⟩,by omega,fun _ => ⟨h2.1,h2.2,ha,htt.1,htt.2,hbm⟩⟩
  · rw [if_neg hkn,decide_eq_true_eq] at h2
    rw [if_neg h2] at ht
    have htt : (0 ≤ b.Life ∧ b.Life ≤ 3) ∧ (0 ≤ b.Timer ∧ b.Timer ≤ 25) := by
      split at ht
      · rw [Bool.and_eq_true,decide_eq_true_eq,inR_iff] at ht; omega
      · rw [decide_eq_true_eq] at ht; omega
    exact ⟨⟨hk,⟨ho.1,by omega⟩,hp,hvx,hvy,htt.1⟩,⟨fun h => absurd h h2,fun h => absurd h hkn⟩,htt.2,fun h => absurd h hkn⟩
theorem LM.set {l : TLevel} {n k : Nat} {bs : List TBody} {b b' : TBody} (h : LM l n bs) (hb : bs[k]? = some b) (h1 : BM l n b') (h2 : b'.Kind = b.Kind) : LM l n (bs.set k b') := by
  refine ⟨by rw [List.length_set]; exact h.len,fun j c hc => ?_⟩
  rw [List.getElem?_set] at hc
  split at hc
  · rename_i e
    subst e
    split at hc
    · cases hc; exact ⟨h1,by rw [h2]; exact (h.at_ _ _ hb).2⟩
    · cases hc
  · exact h.at_ _ _ hc
theorem LM.app {l : TLevel} {n : Nat} {bs : List TBody} {c : TBody} (h : LM l n bs) (hl : bs.length < 24) (h1 : BM l n c) (h2 : c.Kind ≠ 0) : LM l n (bs ++ [c]) := by
  have := h.len
  refine ⟨by rw [List.length_append]; simp; omega,fun j d hd => ?_⟩
  rw [List.getElem?_append] at hd
  split at hd
  · exact h.at_ _ _ hd
  · rename_i hj
    have hj2 := getE_lt hd
    simp only [List.length_singleton] at hj2
    have : j = bs.length := by omega
    subst this
    simp only [Nat.sub_self,List.getElem?_cons_zero,Option.some.injEq] at hd
    subst hd
    exact ⟨h1,fun h => absurd h h2,fun h => by omega⟩
theorem shot_free {l : TLevel} {x y : Int} (h : solidM l x y 12 = false) : solidM l (x + 4) (y + 4) 4 = false := by
  refine solidM_F fun ⟨r,c,h1,h2,h3,h4,hw⟩ => ?_
  have : hits l x y 12 := ⟨r,c,by omega,by omega,by omega,by omega,hw⟩
  rw [solidM_T this] at h
  cases h
theorem steer_aim {l : TLevel} {b : TBody} {i : Int} (h : b.Aim = 1 ∨ b.Aim = -1) : (steer l b i).1.Aim = 1 ∨ (steer l b i).1.Aim = -1 := by
  simp only [steer]
  split
  · exact .inr rfl
  · split
    · exact .inl rfl
    · exact h
theorem steer_time {l : TLevel} {b : TBody} {i : Int} (h : 0 ≤ b.Timer ∧ b.Timer ≤ 20) : 0 ≤ (steer l b i).1.Timer ∧ (steer l b i).1.Timer ≤ 20 := by
  simp only [steer]
  split
  · omega
  · split <;> omega
theorem BM.steer {l : TLevel} {n : Nat} {b : TBody} (h : BM l n b) (i : Int) : BM l n (steer l b i).1 := by
  obtain ⟨hk,ho,hp,hvx,hvy,hf⟩ := h
  refine ⟨hk,ho,hp,?_,?_,hf⟩
  · simp only [Go.Proofs.Ytmljakmaffbnlaa.steer]
    split
    · omega
    · split <;> omega
  · simp only [Go.Proofs.Ytmljakmaffbnlaa.steer]
    split
    · omega
    · rw [Int.min_def]; split <;> omega
theorem BM.shot {l : TLevel} {n : Nat} {b : TBody} (h : BM l n b) (hk : b.Kind = 0) (ha : b.Aim = 1 ∨ b.Aim = -1) : BM l n (shotOf b) :=
  ⟨by simp [shotOf],h.o,by have := h.p; rw [hk] at this; exact shot_free this,by simp only [shotOf]; omega,by simp [shotOf],by simp [shotOf]⟩
theorem BM.fresh {l : TLevel} (hl : levelOk l = true) {n k : Nat} (hk : k < n) (hn : n ≤ 4) : BM l n (fresh l k) := by
  obtain ⟨h1,h2,h3⟩ := fresh_free hl (p := (k : Int)) ⟨by omega,by omega⟩
  exact ⟨by simp [Go.Proofs.Ytmljakmaffbnlaa.fresh],by simp only [Go.Proofs.Ytmljakmaffbnlaa.fresh]; omega,h1,by simp [Go.Proofs.Ytmljakmaffbnlaa.fresh],by simp [Go.Proofs.Ytmljakmaffbnlaa.fresh],by simp [Go.Proofs.Ytmljakmaffbnlaa.fresh]⟩
theorem BM.placed {l : TLevel} (hl : levelOk l = true) {n : Nat} {b : TBody} (h : BM l n b) : Placed b ∧ (b.X ≤ 400 ∧ b.Y ≤ 400) := by
  have hs := size_pos h.k
  have := place_rng hl ⟨by omega,by omega⟩ h.p
  exact ⟨⟨h.k,by omega,by omega⟩,by omega⟩
/-- Between two turns of the first phase. -/
structure P1 (l : TLevel) (n : Nat) (bs0 bs : List TBody) (k : Nat) : Prop where
  lm : LM l n bs
  old : ∀ j,k ≤ j → j < n → bs[j]? = bs0[j]?
  tm : ∀ b ∈ bs,0 ≤ b.Timer ∧ b.Timer ≤ 25
theorem P1.start {l : TLevel} {n : Nat} {bs : List TBody} (h1 : n ≤ bs.length ∧ bs.length ≤ 24) (h : bodiesOk l n bs) : P1 l n bs bs 0 := by
  have hat : ∀ k b,bs[k]? = some b → bodyAt l n k b = true := fun k b hb => by
    obtain ⟨h2,rfl⟩ := List.getElem?_eq_some_iff.1 hb
    exact h k h2
  refine ⟨⟨h1,fun k b hb => ?_⟩,fun _ _ _ => rfl,fun b hb => ?_⟩
  · have := body_facts (hat k b hb); exact ⟨this.1,this.2.1⟩
  · obtain ⟨k,hk⟩ := List.getElem?_of_mem hb
    exact (body_facts (hat k b hk)).2.2.1
theorem old_at {l : TLevel} {n k : Nat} {bs : List TBody} {b : TBody} (h : bodiesOk l n bs) (hb : bs[k]? = some b) (hk : k < n) : PlI l n k b := by
  obtain ⟨h2,rfl⟩ := List.getElem?_eq_some_iff.1 hb
  exact (body_facts (h k h2)).2.2.2 hk
section
variable {l : TLevel} {n k : Nat} {bs0 bs : List TBody} {b b' : TBody}
theorem P1.set (h : P1 l n bs0 bs k) (hb : bs[k]? = some b) (h1 : BM l n b') (h2 : b'.Kind = b.Kind) (ht : 0 ≤ b'.Timer ∧ b'.Timer ≤ 25) : P1 l n bs0 (bs.set k b') (k + 1) :=
  ⟨h.lm.set hb h1 h2,fun j hj hn => by rw [List.getElem?_set_ne (by omega)]; exact h.old j (by omega) hn,fun c hc => by
    rcases List.mem_or_eq_of_mem_set hc with h3 | h3
    · exact h.tm c h3
    · subst h3; exact ht⟩
theorem P1.app (h : P1 l n bs0 bs k) (hl : bs.length < 24) {c : TBody} (h1 : BM l n c) (h2 : c.Kind ≠ 0) (ht : 0 ≤ c.Timer ∧ c.Timer ≤ 25) : P1 l n bs0 (bs ++ [c]) k :=
  ⟨h.lm.app hl h1 h2,fun j hj hn => by have := h.lm.len; rw [List.getElem?_append_left (by omega)]; exact h.old j hj hn,fun d hd => by
    rcases List.mem_append.1 hd with h3 | h3
    · exact h.tm d h3
    · rw [List.mem_singleton] at h3; subst h3; exact ht⟩
end
theorem P1.one {l : TLevel} (hl : levelOk l = true) {n k : Nat} (hn : n ≤ 4) {bs0 bs : List TBody} {b : TBody} (h : P1 l n bs0 bs k) (hk : k < n) (hb : bs[k]? = some b) (hI : PlI l n k b) (i : Int) : P1 l n bs0 (plOne l i k bs b) (k + 1) := by
  have hB := (h.lm.at_ k b hb).1
  unfold plOne
  split
  · split
    · exact h.set hb (BM.fresh hl hk hn) (by rw [hI.kd]; rfl) (by simp [fresh])
    · rename_i hf ht
      have := hI.dd hf
      have := hI.tm
      exact h.set hb ⟨hB.k,hB.o,hB.p,hB.vx,hB.vy,hB.f⟩ rfl (by simp only [tick1]; omega)
  · have hs := steer_time (l := l) (i := i) hI.tm
    have h1 := h.set hb (hB.steer i) (by rfl) ⟨hs.1,by omega⟩
    split
    · rename_i hc
      exact h1.app (by rw [List.length_set]; exact hc.2) ((hB.steer i).shot hI.kd (steer_aim hI.am)) (by simp [shotOf]) (by simp [shotOf])
    · exact h1
theorem P1.all {l : TLevel} (hl : levelOk l = true) {n : Nat} (hn : n ≤ 4) {bs : List TBody} (h1 : n ≤ bs.length ∧ bs.length ≤ 24) (h : bodiesOk l n bs) (row : List Int) : ∀ k,k ≤ n → P1 l n bs (plM l row bs k) k
  | 0,_ => P1.start h1 h
  | k + 1,hk => by
    have hp := P1.all hl hn h1 h row k (by omega)
    have hlk : k < (plM l row bs k).length := by have := hp.lm.len; omega
    obtain ⟨b,hb⟩ := some_sm hlk
    have ho := hp.old k (Nat.le_refl _) (by omega)
    rw [plM,hb]
    exact hp.one hl hn (by omega) hb (old_at h (by rw [← ho]; exact hb) (by omega)) _

/-! ### Moving -/
noncomputable def mvOne (l : TLevel) (b : TBody) : Option TBody :=
  if b.Kind = 0 ∧ 0 < b.Life then some (moveM l b).1
  else if b.Kind = 1 then if (moveM l b).2 = true ∨ b.Timer - 1 = 0 then none else some (tick1 (moveM l b).1)
  else some b
noncomputable def mvM (l : TLevel) (bs : List TBody) : List TBody := bs.filterMap (mvOne l)
theorem BM.move {l : TLevel} {n : Nat} {b : TBody} (h : BM l n b) : BM l n (moveM l b).1 := by
  obtain ⟨hk,ho,hp,hvx,hvy,hf⟩ := h
  have h1 : solidM l (moveX l b).1 b.Y (sizeOf b.Kind) = false := slide_free (hit := fun x => solidM l x b.Y (sizeOf b.Kind)) _ _ hp
  have h2 : solidM l (moveX l b).1 (moveY l b).1 (sizeOf b.Kind) = false := slide_free (hit := fun y => solidM l (moveX l b).1 y (sizeOf b.Kind)) _ _ h1
  refine ⟨hk,ho,h2,?_,?_,hf⟩
  · simp only [moveM]; split <;> omega
  · simp only [moveM]; split <;> omega
theorem mvOne_ok {l : TLevel} {n : Nat} {b c : TBody} (h : BM l n b) (hc : mvOne l b = some c) : BM l n c ∧ c.Kind = b.Kind := by
  unfold mvOne at hc
  split at hc
  · cases hc; exact ⟨h.move,rfl⟩
  · split at hc
    · split at hc
      · cases hc
      · cases hc
        have := h.move
        exact ⟨⟨this.k,this.o,this.p,this.vx,this.vy,this.f⟩,rfl⟩
    · cases hc; exact ⟨h,rfl⟩
theorem mvOne_pl {l : TLevel} {b : TBody} (h : b.Kind = 0) : ∃ c,mvOne l b = some c := by
  unfold mvOne
  split
  · exact ⟨_,rfl⟩
  · rw [if_neg (by omega)]; exact ⟨_,rfl⟩
theorem fmap_len {α β : Type} {f : α → Option β} : ∀ (xs : List α),(∀ x ∈ xs,∃ y,f x = some y) → (xs.filterMap f).length = xs.length
  | [],_ => rfl
  | x :: xs,h => by
    obtain ⟨y,hy⟩ := h x (by simp)
    rw [List.filterMap_cons,hy]
    simp only [List.length_cons]
    rw [fmap_len xs fun z hz => h z (by simp [hz])]
theorem LM.move {l : TLevel} {n : Nat} {bs : List TBody} (h : LM l n bs) : LM l n (mvM l bs) := by
  have hlen := h.len
  have hA : ∀ a ∈ bs.take n,BM l n a ∧ a.Kind = 0 := fun a ha => by
    obtain ⟨j,hj⟩ := List.getElem?_of_mem ha
    rw [List.getElem?_take] at hj
    split at hj
    · have := h.at_ _ _ hj; exact ⟨this.1,this.2.2 (by assumption)⟩
    · cases hj
  have hB : ∀ a ∈ bs.drop n,BM l n a ∧ a.Kind ≠ 0 := fun a ha => by
    obtain ⟨j,hj⟩ := List.getElem?_of_mem ha
    rw [List.getElem?_drop] at hj
    have := h.at_ _ _ hj
    exact ⟨this.1,fun e => by have := this.2.1 e; omega⟩
  have hs : mvM l bs = (bs.take n).filterMap (mvOne l) ++ (bs.drop n).filterMap (mvOne l) := by
    rw [mvM,← List.filterMap_append,List.take_append_drop]
  have hl1 : ((bs.take n).filterMap (mvOne l)).length = n := by
    rw [fmap_len _ fun a ha => mvOne_pl (hA a ha).2,List.length_take]; omega
  have hl2 := List.length_filterMap_le (mvOne l) (bs.drop n)
  rw [List.length_drop] at hl2
  rw [hs]
  refine ⟨by rw [List.length_append,hl1]; omega,fun k b hb => ?_⟩
  rw [List.getElem?_append,hl1] at hb
  split at hb
  · obtain ⟨a,ha,hab⟩ := List.mem_filterMap.1 (List.mem_of_getElem? hb)
    have h1 := hA a ha
    have h2 := mvOne_ok h1.1 hab
    exact ⟨h2.1,fun _ => by assumption,fun _ => by rw [h2.2,h1.2]⟩
  · obtain ⟨a,ha,hab⟩ := List.mem_filterMap.1 (List.mem_of_getElem? hb)
    have h1 := hB a ha
    have h2 := mvOne_ok h1.1 hab
    exact ⟨h2.1,fun e => absurd (by rw [← h2.2]; exact e) h1.2,fun e => absurd e (by assumption)⟩
theorem mv_next {l : TLevel} {bs : List TBody} {k : Nat} {b : TBody} (h : bs[k]? = some b) : (bs.take (k + 1)).filterMap (mvOne l) = (bs.take k).filterMap (mvOne l) ++ (mvOne l b).toList := by
  obtain ⟨hk,rfl⟩ := List.getElem?_eq_some_iff.1 h
  rw [List.take_succ_eq_append_getElem hk,List.filterMap_append]
  congr 1
end Go.Proofs.Ytmljakmaffbnlaa
end

section
set_option linter.unusedSimpArgs false
set_option linter.unusedVariables false
set_option maxRecDepth 8000
namespace Go.Proofs.Ytmljakmaffbnlaa
open Go.RowKit

theorem rwBo {a b c : Ob} {t : List Ob} {k : Nat} {x y : List (List T)} (h : x = y) : a :: b :: c :: Ob.row k x :: t = a :: b :: c :: Ob.row k y :: t := by rw [h]
theorem pl_next {l : TLevel} {row : List Int} {bs0 bs : List TBody} {k : Nat} {b : TBody} {i : Int} (h : bs = plM l row bs0 k) (hb : bs[k]? = some b) (hi : row[k]? = some i) : plM l row bs0 (k + 1) = plOne l i k bs b := by
  rw [plM,← h,hb,List.getD_eq_getElem?_getD,hi]; rfl
/-- What a valid world and row give for the first phase. -/
structure PH (w : TWorld) (row : List Int) : Prop where
  hg : Enc.gd w.Level
  gb : ∀ b ∈ w.Bodies,Enc.gd b
  hl : levelOk w.Level = true
  n4 : 1 ≤ w.Scores.length ∧ w.Scores.length ≤ 4
  len : w.Scores.length ≤ w.Bodies.length ∧ w.Bodies.length ≤ 24
  bs : bodiesOk w.Level w.Scores.length w.Bodies
  rl : row.length = w.Scores.length
  ri : ∀ i ∈ row,0 ≤ i ∧ i ≤ 15
set_option maxHeartbeats 8000000 in
theorem I_stepPlayers (w : TWorld) (row : List Int) (h : PH w row) : Con Try.prog 108 [.box [.ref 1,jn w.Tick,jn w.Seed,.ref 2,.ref 3],.row 1 (els w.Level.Rows),.row 1 (els w.Scores),.row 9 (els w.Bodies),.gh 0 (.c (.ptr 0 0))] [.c (.ptr 0 0),al row] [.box [.ref 1,jn w.Tick,jn w.Seed,.ref 2,.ref 3],.row 1 (els w.Level.Rows),.row 1 (els w.Scores),.row 9 (els (plM w.Level row w.Bodies w.Scores.length)),.gh 0 (.c (.ptr 0 0))] (.tu []) := by
  obtain ⟨hg,gb,hl,hn4,hlen,hbo,hrl,hri⟩ := h
  have hls := els_len w.Scores
  have hlr := els_len row
  refine Con.of Try.func108 rfl Try.ntmps108 rfl (fun E => ?_)
  refine Qd (Qc ?_);refine M0 (Qa J J J) J J ?_;refine M0 (Qz J J J) J J ?_;refine M0 (Qf J J J J (by decide)) J J ?_
  refine M0 (Qg J J J J J) J J ?_;refine M0 (q_lenr J J J J) J J ?_;refine M0 (Qa J J J) J J ?_;refine Qe (Q0 (Qk ?_))
  refine A_loop (fun m st => ∃ (k : Nat) (bs : List TBody),k + m = w.Scores.length ∧ (bs = plM w.Level row w.Bodies k) ∧ st = (fun (k : Nat) (bs : List TBody) => (⟨_,[(0,.o (.c (.ptr 0 0))),(1,L row),(12,I (els w.Scores).length),(13,I k)],[.box [.ref 1,jn w.Tick,jn w.Seed,.ref 2,.ref 3],.row 1 (els w.Level.Rows),.row 1 (els w.Scores),.row 9 (els bs),.gh 0 (.c (.ptr 0 0))]⟩ : St)) k bs) (w.Scores.length) ⟨(fun (k : Nat) (bs : List TBody) => (⟨_,[(0,.o (.c (.ptr 0 0))),(1,L row),(12,I (els w.Scores).length),(13,I k)],[.box [.ref 1,jn w.Tick,jn w.Seed,.ref 2,.ref 3],.row 1 (els w.Level.Rows),.row 1 (els w.Scores),.row 9 (els bs),.gh 0 (.c (.ptr 0 0))]⟩ : St)) 0 (w.Bodies),W_go [0,1,2,3,4] (by decide) rfl (rfl) (.cons rfl (.cons rfl (.cons rfl (.cons rfl (.nil))))),0,w.Bodies,by omega,rfl,rfl⟩ ?_
  rintro m_A _ ⟨k,bs,hk_A,hp_A,rfl⟩
  by_cases hlt : k < w.Scores.length
  · have hb0 : decide ((k : Int) < (els w.Scores).length) = true := decide_eq_true (by omega)
    have hP := P1.all hl hn4.2 hlen hbo row k (by omega)
    rw [← hp_A] at hP
    have hln := hP.lm.len
    obtain ⟨b,hb⟩ := some_sm (xs := bs) (i := k) (by omega)
    have hold := hP.old k (Nat.le_refl _) hlt
    have hI := old_at hbo (by rw [← hold]; exact hb) hlt
    have hB := (hP.lm.at_ k b hb).1
    obtain ⟨hpl,hpx,hpy⟩ := hB.placed hl
    obtain ⟨i,hi⟩ := some_sm (xs := row) (i := k) (by omega)
    have hir := hri i (List.mem_of_getElem? hi)
    have hnx := pl_next hp_A hb hi
    have he := els_sm hb
    have her := els_sm hi
    have hlb := els_len bs
    have htm := hI.tm
    by_cases hf : b.Life = 0
    · have f1 : decide (b.Life = 0) = true := decide_eq_true hf
      rw [plOne,if_pos hf] at hnx
      by_cases ht : b.Timer - 1 = 0
      · have f2 : decide (b.Timer - 1 = 0) = true := decide_eq_true ht
        rw [if_pos ht] at hnx
        have cf := I_fresh w.Level k hg hl ⟨by omega,by omega⟩
        refine Qd (Qc ?_);refine M0 (Qr J J J J (by assumption)) J J ?_;refine Qe (Q0 (Qd ?_));refine Qm rfl ?_;refine Qh ?_
        refine Q0 (Qd (Qk (Qd (Qc ?_))));refine M0 (Qa J J J) J J ?_;refine M0 (Qb J J J) J J ?_;refine Qe ?_
        refine Q0 (Qd (Qc ?_));refine M0 (Qa J J J) J J ?_;refine M0 (Qz J J J) J J ?_
        refine M0 (Qf J J J J (by decide)) J J ?_;refine M0 (Qg J J J J J) J J ?_;refine M0 (Qa J J J) J J ?_
        refine M0 (Q3 J J J J J (by omega) (by omega)) J J ?_;refine M0 (Q6 J J J J (by assumption) J J) J J ?_;refine M1 (Qx J J J) J J ?_
        refine Qy J J J J J J J J J ?_;refine Qe (Q0 (Qd (Qd (Qc ?_))))
        refine M0 (Qf J J J J (by decide)) J J ?_;refine M0 (Qg J J J J J) J J ?_;refine M0 (Qv J J J J (by assumption)) J J ?_
        refine Qe (Q0 ?_);refine Qm rfl ?_;refine Qd (Qc ?_);refine M0 (Qf J J J J (by decide)) J J ?_
        refine M0 (Qg J J J J J) J J ?_;refine M0 (Xc J J J J (by omega)) J J ?_;refine M0 (Qf J J J J (by decide)) J J ?_
        refine Q5 J J J J J J J J ?_;refine Qe (Q0 (Qd (Qd (Qc ?_))));refine M0 (Qf J J J J (by decide)) J J ?_
        refine M0 (Qg J J J J J) J J ?_;refine M0 (Qv J J J J (by assumption)) J J ?_;refine Qe (Q0 ?_);refine Qm rfl ?_;refine Qc ?_
        refine M0 (Qa J J J) J J ?_;refine M0 (Qz J J J) J J ?_;refine M0 (Qf J J J J (by decide)) J J ?_
        refine M0 (Qu J J J J J J) J J ?_;refine M0 (Qa J J J) J J ?_;refine M1 (q_call J J (cf) J J J) J J ?_
        refine Qy J J J J J J J J J ?_;refine Qe (Q0 (Qd ?_))
        refine AWP.pre (st' := (⟨_,[(0,.o (.c (.ptr 0 0))),(1,L row),(4,I k),(5,.o (.c (.ptr 5 0))),(12,I (els w.Scores).length),(13,I k)],[.box [.ref 1,jn w.Tick,jn w.Seed,.ref 2,.ref 3],.row 1 (els w.Level.Rows),.row 1 (els w.Scores),.row 9 (els bs),.gh 0 (.c (.ptr 0 0)),.box ((Enc.e (fresh w.Level k)).map (V1.rd []))]⟩ : St)) ?_ (W_go [0,1,2,3,4,5] (by decide) rfl (rfl) (.cons rfl (.cons rfl (.cons rfl (.cons rfl (.cons rfl (.cons rfl (.nil))))))))
        refine A_draw [[],[0],[0,1],[0,1,2],[],[],[0,1,2,3,4,5],[0,1,2,3,4,5,6]] [[],[39],[39,40],[39,40,41],[],[],[39,40,41,42,43,44],[39,40,41,42,43,44,45]] [[43,44],[43,44],[43,44],[43,44],[39,40,41,42,44],[39,40,41,42,43],[],[]] rfl ?_
        refine DR.step (Qa J J J) J J ?_;refine DR.step (Qz J J J) J J ?_;refine DR.step (Qf J J J J (by decide)) J J ?_
        refine DR.step (Qg J J J J J) J J ?_;refine DR.step (Qa J J J) J J ?_;refine DR.step (Qu J J J J J J) J J ?_
        refine DR.step (Q3 J J J J J (by omega) (by omega)) J J ?_;refine DR.stop (by kernel_rfl) (by kernel_rfl) ?_
        refine AL.weak (st' := (⟨_,[(0,.o (.c (.ptr 0 0))),(1,L row),(45,.o (.c (.el 3 9 k 0))),(44,.o (.ag ((Enc.e (fresh w.Level k)).map (V1.rd [])))),(12,I (els w.Scores).length),(13,I k)],[.box [.ref 1,jn w.Tick,jn w.Seed,.ref 2,.ref 3],.row 1 (els w.Level.Rows),.row 1 (els w.Scores),.row 9 (els bs),.gh 0 (.c (.ptr 0 0))]⟩ : St)) (W_go [0,1,2,3,4] (by decide) rfl (rfl) (.cons rfl (.cons rfl (.cons rfl (.cons rfl (.cons rfl (.cons rfl (.nil)))))))) ?_
        refine Xg J J J J J J J J J J (by assumption) J J ?_;refine Qe (Q0 (Q9 (T_x (B_xs (Q0 ?_)))))
        refine Qc ?_;refine M0 (Qs J J J J (by omega)) J J ?_;refine M0 (Qa J J J) J J ?_;refine Qe (Q0 ?_)
        exact ⟨w.Scores.length - (k + 1),by omega,(fun (k : Nat) (bs : List TBody) => (⟨_,[(0,.o (.c (.ptr 0 0))),(1,L row),(12,I (els w.Scores).length),(13,I k)],[.box [.ref 1,jn w.Tick,jn w.Seed,.ref 2,.ref 3],.row 1 (els w.Level.Rows),.row 1 (els w.Scores),.row 9 (els bs),.gh 0 (.c (.ptr 0 0))]⟩ : St)) (k + 1) (bs.set k (fresh w.Level k)),W_go [0,1,2,3,4] (by decide) rfl ((by exact rwBo (by rw [els_set]; rfl))) (.cons rfl (.cons rfl (.cons rfl (.cons rfl (.nil))))),k + 1,bs.set k (fresh w.Level k),by omega,hnx.symm,rfl⟩
      · have f2 : decide (b.Timer - 1 = 0) = false := decide_eq_false ht
        rw [if_neg ht] at hnx
        refine Qd (Qc ?_);refine M0 (Qr J J J J (by assumption)) J J ?_;refine Qe (Q0 (Qd ?_));refine Qm rfl ?_;refine Qh ?_
        refine Q0 (Qd (Qk (Qd (Qc ?_))));refine M0 (Qa J J J) J J ?_;refine M0 (Qb J J J) J J ?_;refine Qe ?_
        refine Q0 (Qd (Qc ?_));refine M0 (Qa J J J) J J ?_;refine M0 (Qz J J J) J J ?_
        refine M0 (Qf J J J J (by decide)) J J ?_;refine M0 (Qg J J J J J) J J ?_;refine M0 (Qa J J J) J J ?_
        refine M0 (Q3 J J J J J (by omega) (by omega)) J J ?_;refine M0 (Q6 J J J J (by assumption) J J) J J ?_;refine M1 (Qx J J J) J J ?_
        refine Qy J J J J J J J J J ?_;refine Qe (Q0 (Qd (Qd (Qc ?_))))
        refine M0 (Qf J J J J (by decide)) J J ?_;refine M0 (Qg J J J J J) J J ?_;refine M0 (Qv J J J J (by assumption)) J J ?_
        refine Qe (Q0 ?_);refine Qm rfl ?_;refine Qd (Qc ?_);refine M0 (Qf J J J J (by decide)) J J ?_
        refine M0 (Qg J J J J J) J J ?_;refine M0 (Xc J J J J (by omega)) J J ?_;refine M0 (Qf J J J J (by decide)) J J ?_
        refine Q5 J J J J J J J J ?_;refine Qe (Q0 (Qd (Qd (Qc ?_))));refine M0 (Qf J J J J (by decide)) J J ?_
        refine M0 (Qg J J J J J) J J ?_;refine M0 (Qv J J J J (by assumption)) J J ?_;refine Qe (Q0 ?_);refine Ql rfl ?_;refine Qh ?_
        refine Q0 (Qd ?_)
        refine AWP.pre (st' := (⟨_,[(0,.o (.c (.ptr 0 0))),(1,L row),(4,I k),(5,.o (.c (.ptr 5 0))),(12,I (els w.Scores).length),(13,I k)],[.box [.ref 1,jn w.Tick,jn w.Seed,.ref 2,.ref 3],.row 1 (els w.Level.Rows),.row 1 (els w.Scores),.row 9 (els bs),.gh 0 (.c (.ptr 0 0)),.box ((Enc.e (tick1 b)).map (V1.rd []))]⟩ : St)) ?_ (W_go [0,1,2,3,4,5] (by decide) rfl (rfl) (.cons rfl (.cons rfl (.cons rfl (.cons rfl (.cons rfl (.cons rfl (.nil))))))))
        refine A_draw [[],[0],[0,1],[0,1,2],[],[],[0,1,2,3,4,5],[0,1,2,3,4,5,6]] [[],[39],[39,40],[39,40,41],[],[],[39,40,41,42,43,44],[39,40,41,42,43,44,45]] [[43,44],[43,44],[43,44],[43,44],[39,40,41,42,44],[39,40,41,42,43],[],[]] rfl ?_
        refine DR.step (Qa J J J) J J ?_;refine DR.step (Qz J J J) J J ?_;refine DR.step (Qf J J J J (by decide)) J J ?_
        refine DR.step (Qg J J J J J) J J ?_;refine DR.step (Qa J J J) J J ?_;refine DR.step (Qu J J J J J J) J J ?_
        refine DR.step (Q3 J J J J J (by omega) (by omega)) J J ?_;refine DR.stop (by kernel_rfl) (by kernel_rfl) ?_
        refine AL.weak (st' := (⟨_,[(0,.o (.c (.ptr 0 0))),(1,L row),(45,.o (.c (.el 3 9 k 0))),(44,.o (.ag ((Enc.e (tick1 b)).map (V1.rd [])))),(12,I (els w.Scores).length),(13,I k)],[.box [.ref 1,jn w.Tick,jn w.Seed,.ref 2,.ref 3],.row 1 (els w.Level.Rows),.row 1 (els w.Scores),.row 9 (els bs),.gh 0 (.c (.ptr 0 0))]⟩ : St)) (W_go [0,1,2,3,4] (by decide) rfl (rfl) (.cons rfl (.cons rfl (.cons rfl (.cons rfl (.cons rfl (.cons rfl (.nil)))))))) ?_
        refine Xg J J J J J J J J J J (by assumption) J J ?_;refine Qe (Q0 (Q9 (T_x (B_xs (Q0 ?_)))))
        refine Qc ?_;refine M0 (Qs J J J J (by omega)) J J ?_;refine M0 (Qa J J J) J J ?_;refine Qe (Q0 ?_)
        exact ⟨w.Scores.length - (k + 1),by omega,(fun (k : Nat) (bs : List TBody) => (⟨_,[(0,.o (.c (.ptr 0 0))),(1,L row),(12,I (els w.Scores).length),(13,I k)],[.box [.ref 1,jn w.Tick,jn w.Seed,.ref 2,.ref 3],.row 1 (els w.Level.Rows),.row 1 (els w.Scores),.row 9 (els bs),.gh 0 (.c (.ptr 0 0))]⟩ : St)) (k + 1) (bs.set k (tick1 b)),W_go [0,1,2,3,4] (by decide) rfl ((by exact rwBo (by rw [els_set]; rfl))) (.cons rfl (.cons rfl (.cons rfl (.cons rfl (.nil))))),k + 1,bs.set k (tick1 b),by omega,hnx.symm,rfl⟩
    · have f1 : decide (b.Life = 0) = false := decide_eq_false hf
      rw [plOne,if_neg hf] at hnx
      have hfl := hB.f
      obtain ⟨c,f,hcf⟩ : ∃ c f,(c,f) = steer w.Level b i := ⟨_,_,rfl⟩
      have cs := I_SteerPlayer w.Level b i hg hl (gb b (List.mem_of_getElem? (by rw [← hold]; exact hb))) hI.kd ⟨hB.o.1,by have := hB.o; omega⟩ (by omega) hir hI.bm ⟨by omega,by omega⟩ hB.vy (by have := hB.p; rw [hI.kd] at this; exact this)
      have hca := steer_aim (l := w.Level) (i := i) hI.am
      have hcx : (steer w.Level b i).1.X = b.X ∧ (steer w.Level b i).1.Y = b.Y := ⟨rfl,rfl⟩
      rw [← hcf] at cs hnx hca hcx
      simp only at cs hnx hca hcx
      have csh := I_ShotOf c (by rw [hcx.1]; exact hpl.x) (by rw [hcx.2]; exact hpl.y) (by omega)
      have hlc : (els (bs.set k c)).length = bs.length := by rw [els_len,List.length_set]
      clear hcf hca hcx
      refine Qd (Qc ?_);refine M0 (Qr J J J J (by assumption)) J J ?_;refine Qe (Q0 (Qd ?_));refine Qm rfl ?_;refine Qh ?_
      refine Q0 (Qd (Qk (Qd (Qc ?_))));refine M0 (Qa J J J) J J ?_;refine M0 (Qb J J J) J J ?_;refine Qe ?_
      refine Q0 (Qd (Qc ?_));refine M0 (Qa J J J) J J ?_;refine M0 (Qz J J J) J J ?_
      refine M0 (Qf J J J J (by decide)) J J ?_;refine M0 (Qg J J J J J) J J ?_;refine M0 (Qa J J J) J J ?_
      refine M0 (Q3 J J J J J (by omega) (by omega)) J J ?_;refine M0 (Q6 J J J J (by assumption) J J) J J ?_;refine M1 (Qx J J J) J J ?_
      refine Qy J J J J J J J J J ?_;refine Qe (Q0 (Qd (Qd (Qc ?_))))
      refine M0 (Qf J J J J (by decide)) J J ?_;refine M0 (Qg J J J J J) J J ?_;refine M0 (Qv J J J J (by assumption)) J J ?_
      refine Qe (Q0 ?_);refine Ql rfl ?_;refine Qh (Q0 (Qd ?_))
      refine AWP.pre (st' := (⟨_,[(0,.o (.c (.ptr 0 0))),(1,L row),(4,I k),(5,.o (.c (.ptr 5 0))),(12,I (els w.Scores).length),(13,I k)],[.box [.ref 1,jn w.Tick,jn w.Seed,.ref 2,.ref 3],.row 1 (els w.Level.Rows),.row 1 (els w.Scores),.row 9 (els bs),.gh 0 (.c (.ptr 0 0)),.box ((Enc.e b).map (V1.rd []))]⟩ : St)) ?_ (W_go [0,1,2,3,4,5] (by decide) rfl (rfl) (.cons rfl (.cons rfl (.cons rfl (.cons rfl (.cons rfl (.cons rfl (.nil))))))))
      refine A_draw [[],[0],[0,1],[0,1,2],[],[],[],[5,6],[5,6,7],[0,1,2,3,4,5,6,7,8],[0,1,2,3,4,5,6,7,8,9],[0,1,2,3,4,5,6,7,8,9,10],[0,1,2,3,4,5,6,7,8,9,10],[],[0,1,2,3,4,5,6,7,8,9,10,11,13],[0,1,2,3,4,5,6,7,8,9,10,11,12,13,14]] [[],[47],[47,48],[47,48,49],[],[],[],[52,53],[52,53,54],[47,48,49,50,51,52,53,54,55],[47,48,49,50,51,52,53,54,55,56],[46,47,48,49,50,51,52,53,54,55,56],[46,47,48,49,50,51,52,53,54,55,56],[],[6,46,47,48,49,50,51,52,53,54,55,56,57],[6,46,47,48,49,50,51,52,53,54,55,56,57,58]] [[6,51,52,53,54,55],[6,51,52,53,54,55],[6,51,52,53,54,55],[6,51,52,53,54,55],[6,47,48,49,50,52,53,54,55],[6,47,48,49,50,51,53],[6,47,48,49,50,51,52],[6,47,48,49,50,51],[6,47,48,49,50,51],[6],[6],[6,58],[6,57],[46,47,48,49,50,51,52,53,54,55,56,57,58],[58],[],[12]] rfl ?_
      refine DR.step (Qa J J J) J J ?_;refine DR.step (Qz J J J) J J ?_;refine DR.step (Qf J J J J (by decide)) J J ?_
      refine DR.step (Qu J J J J J J) J J ?_;refine DR.step (Qu J J J J J J) J J ?_;refine DR.step (Qa J J J) J J ?_
      refine DR.step (Qa J J J) J J ?_;refine DR.step (Q2 J J J J (by omega) (by assumption) rfl) J J ?_;refine DR.step (q_lr1 J J J J) J J ?_
      refine DR.step (q_call J J (cs) J J J) J J ?_;refine DR.step (Q8 J J J) J J ?_;refine DR.step (q_ext J J J J) J J ?_
      refine DR.step (q_ext J J J J) J J ?_;refine DR.step (Qx J J J) J J ?_;refine DR.stop (by kernel_rfl) (by kernel_rfl) ?_
      refine AL.weak (st' := (⟨_,[(0,.o (.c (.ptr 0 0))),(1,L row),(4,I k),(6,.o (.c (.ptr 5 0))),(57,.o (.ag ((Enc.e c).map (V1.rd [])))),(58,B f),(12,I (els w.Scores).length),(13,I k)],[.box [.ref 1,jn w.Tick,jn w.Seed,.ref 2,.ref 3],.row 1 (els w.Level.Rows),.row 1 (els w.Scores),.row 9 (els bs),.gh 0 (.c (.ptr 0 0)),.box [jn 0,jn 0,jn 0,jn 0,jn 0,jn 0,jn 0,jn 0,jn 0]]⟩ : St)) (W_go [0,1,2,3,4,6] (by decide) rfl (rfl) (.cons rfl (.cons rfl (.cons rfl (.cons rfl (.cons rfl (.cons rfl (.cons rfl (.cons rfl (.nil)))))))))) ?_
      refine Qy J J J J J J J J J ?_;refine M0 (Qb J J J) J J ?_;refine Qe (Q0 (Qd ?_))
      refine AWP.pre (st' := (⟨_,[(0,.o (.c (.ptr 0 0))),(1,L row),(4,I k),(6,.o (.c (.ptr 5 0))),(7,B f),(12,I (els w.Scores).length),(13,I k)],[.box [.ref 1,jn w.Tick,jn w.Seed,.ref 2,.ref 3],.row 1 (els w.Level.Rows),.row 1 (els w.Scores),.row 9 (els bs),.gh 0 (.c (.ptr 0 0)),.box ((Enc.e c).map (V1.rd []))]⟩ : St)) ?_ (W_go [0,1,2,3,4,5] (by decide) rfl (rfl) (.cons rfl (.cons rfl (.cons rfl (.cons rfl (.cons rfl (.cons rfl (.cons rfl (.nil)))))))))
      refine A_draw [[],[0],[0,1],[0,1,2],[],[],[0,1,2,3,4,5],[0,1,2,3,4,5,6]] [[],[59],[59,60],[59,60,61],[],[],[59,60,61,62,63,64],[59,60,61,62,63,64,65]] [[63,64],[63,64],[63,64],[63,64],[59,60,61,62,64],[59,60,61,62,63],[],[]] rfl ?_
      refine DR.step (Qa J J J) J J ?_;refine DR.step (Qz J J J) J J ?_;refine DR.step (Qf J J J J (by decide)) J J ?_
      refine DR.step (Qg J J J J J) J J ?_;refine DR.step (Qa J J J) J J ?_;refine DR.step (Qu J J J J J J) J J ?_
      refine DR.step (Q3 J J J J J (by omega) (by omega)) J J ?_;refine DR.stop (by kernel_rfl) (by kernel_rfl) ?_
      refine AL.weak (st' := (⟨_,[(0,.o (.c (.ptr 0 0))),(1,L row),(6,.o (.c (.ptr 5 0))),(7,B f),(65,.o (.c (.el 3 9 k 0))),(64,.o (.ag ((Enc.e c).map (V1.rd [])))),(12,I (els w.Scores).length),(13,I k)],[.box [.ref 1,jn w.Tick,jn w.Seed,.ref 2,.ref 3],.row 1 (els w.Level.Rows),.row 1 (els w.Scores),.row 9 (els bs),.gh 0 (.c (.ptr 0 0)),.box ((Enc.e c).map (V1.rd []))]⟩ : St)) (W_go [0,1,2,3,4,5] (by decide) rfl (rfl) (.cons rfl (.cons rfl (.cons rfl (.cons rfl (.cons rfl (.cons rfl (.cons rfl (.cons rfl (.nil)))))))))) ?_
      with_reducible refine Xe ?_
      refine Xg J J J J J J J J J J (by assumption) J J ?_
      refine Qe ?_
      refine Q0 ?_
      refine AWP.pre (st' := (⟨_,[(0,.o (.c (.ptr 0 0))),(1,L row),(6,.o (.c (.ptr 5 0))),(7,B f),(12,I (els w.Scores).length),(13,I k)],[.box [.ref 1,jn w.Tick,jn w.Seed,.ref 2,.ref 3],.row 1 (els w.Level.Rows),.row 1 (els w.Scores),.row 9 (els (bs.set k c)),.gh 0 (.c (.ptr 0 0)),.box ((Enc.e c).map (V1.rd []))]⟩ : St)) ?_ (W_go [0,1,2,3,4,5] (by decide) rfl ((by exact rwBo (by rw [els_set]; rfl))) (.cons rfl (.cons rfl (.cons rfl (.cons rfl (.cons rfl (.cons rfl (.nil))))))))
      cases f with
      | false =>
        refine Qd (Qc ?_);refine M0 (Qa J J J) J J ?_;refine M0 (Qa J J J) J J ?_;refine Qp J J J J J J ?_
        refine Qp J J J J J J ?_;refine Qp J J J J J J ?_;refine Qp J J J J J J ?_;refine Qp J J J J J J ?_
        refine Qp J J J J J J ?_;refine M0 (Qn J J J J) J J ?_;refine Qe (Q0 ?_);refine Ql rfl ?_;refine Qh (Q1 (Q0 ?_))
        refine Qc ?_;refine M0 (Qs J J J J (by omega)) J J ?_;refine M0 (Qa J J J) J J ?_;refine Qe (Q0 ?_)
        exact ⟨w.Scores.length - (k + 1),by omega,(fun (k : Nat) (bs : List TBody) => (⟨_,[(0,.o (.c (.ptr 0 0))),(1,L row),(12,I (els w.Scores).length),(13,I k)],[.box [.ref 1,jn w.Tick,jn w.Seed,.ref 2,.ref 3],.row 1 (els w.Level.Rows),.row 1 (els w.Scores),.row 9 (els bs),.gh 0 (.c (.ptr 0 0))]⟩ : St)) (k + 1) (bs.set k c),W_go [0,1,2,3,4] (by decide) rfl (rfl) (.cons rfl (.cons rfl (.cons rfl (.cons rfl (.nil))))),k + 1,bs.set k c,by omega,(by rw [hnx]; rfl),rfl⟩
      | true =>
        by_cases h24 : bs.length < 24
        · have f3 : decide (((els (bs.set k c)).length : Int) < 24) = true := decide_eq_true (by omega)
          rw [if_pos ⟨rfl,h24⟩] at hnx
          refine Qd (Qc ?_);refine M0 (Qa J J J) J J ?_;refine M0 (Qa J J J) J J ?_;refine Qi J J J ?_
          refine M0 (Qa J J J) J J ?_;refine M0 (Qt.yes J J J (Qz J J J)) J J ?_;refine Qi J J J ?_
          refine M0 (Qf J J J J (by decide)) J J ?_;refine Qi J J J ?_;refine M0 (Qg J J J J J) J J ?_;refine Qi J J J ?_
          refine M0 (q_lenr J J J J) J J ?_;refine Qi J J J ?_;refine M0 (Qr J J J J (by assumption)) J J ?_;refine M0 (Qo J J J J) J J ?_
          refine Qe (Q0 ?_);refine Qm rfl ?_
          refine A_draw [[],[],[1],[1,2],[1,2,3],[],[5],[5,6],[1,2,3,4,5,6,7],[0,1,2,3,4,5,6,7,8],[0,1,2,3,4,5,6,7,8,9],[0,1,2,3,4,5,6,7,8,9,10]] [[],[],[76],[76,77],[76,77,78],[],[80],[80,81],[76,77,78,79,80,81,82],[75,76,77,78,79,80,81,82,83],[75,76,77,78,79,80,81,82,83,84],[75,76,77,78,79,80,81,82,83,84,85]] [[76,77,78,79,80,81,82,83],[75,80,81,82],[75,80,81,82],[75,80,81,82],[75,80,81,82],[75,76,77,78,79],[75,76,77,78,79],[75,76,77,78,79],[75],[],[],[],[0]] rfl ?_
          refine DR.step (Qa J J J) J J ?_;refine DR.step (Qa J J J) J J ?_;refine DR.step (Qz J J J) J J ?_
          refine DR.step (Qf J J J J (by decide)) J J ?_;refine DR.step (Qg J J J J J) J J ?_;refine DR.step (Qu J J J J J J) J J ?_
          refine DR.step (q_call J J (csh) J J J) J J ?_;refine DR.step (q_bslice J J J J J J) J J ?_;refine DR.stop (by kernel_rfl) (by kernel_rfl) ?_
          refine AL.weak (st' := (⟨_,[(0,.o (.c (.ptr 0 0))),(1,L row),(75,.o (.c (.ptr 0 0))),(79,.o (.c (.ref 3))),(82,.o (.c (.sb 5 1 9))),(12,I (els w.Scores).length),(13,I k)],[.box [.ref 1,jn w.Tick,jn w.Seed,.ref 2,.ref 3],.row 1 (els w.Level.Rows),.row 1 (els w.Scores),.row 9 (els (bs.set k c)),.gh 0 (.c (.ptr 0 0)),.box ((Enc.e (shotOf c)).map (V1.rd []))]⟩ : St)) (W_go [0,1,2,3,4,6] (by decide) rfl (rfl) (.cons rfl (.cons rfl (.cons rfl (.cons rfl (.cons rfl (.cons rfl (.cons rfl (.nil))))))))) ?_
          refine M_appo J J J J J J J J J J J J J J (by omega) (by omega) ?_;refine M0 (Qz J J J) J J ?_
          refine M0 (Qf J J J J (by decide)) J J ?_;refine Q5 J J J J J J J J ?_;refine Qe (Q1 (Q0 (Qc ?_)))
          refine M0 (Qs J J J J (by omega)) J J ?_;refine M0 (Qa J J J) J J ?_;refine Qe (Q0 ?_)
          exact ⟨w.Scores.length - (k + 1),by omega,(fun (k : Nat) (bs : List TBody) => (⟨_,[(0,.o (.c (.ptr 0 0))),(1,L row),(12,I (els w.Scores).length),(13,I k)],[.box [.ref 1,jn w.Tick,jn w.Seed,.ref 2,.ref 3],.row 1 (els w.Level.Rows),.row 1 (els w.Scores),.row 9 (els bs),.gh 0 (.c (.ptr 0 0))]⟩ : St)) (k + 1) (bs.set k c ++ [shotOf c]),W_go [0,1,2,3,4] (by decide) rfl (rwBo (by rw [els_app]; rfl)) (.cons rfl (.cons rfl (.cons rfl (.cons rfl (.nil))))),k + 1,bs.set k c ++ [shotOf c],by omega,hnx.symm,rfl⟩
        · have f3 : decide (((els (bs.set k c)).length : Int) < 24) = false := decide_eq_false (by omega)
          rw [if_neg (fun q => h24 q.2)] at hnx
          refine Qd (Qc ?_);refine M0 (Qa J J J) J J ?_;refine M0 (Qa J J J) J J ?_;refine Qi J J J ?_
          refine M0 (Qa J J J) J J ?_;refine M0 (Qt.yes J J J (Qz J J J)) J J ?_;refine Qi J J J ?_
          refine M0 (Qf J J J J (by decide)) J J ?_;refine Qi J J J ?_;refine M0 (Qg J J J J J) J J ?_;refine Qi J J J ?_
          refine M0 (q_lenr J J J J) J J ?_;refine Qi J J J ?_;refine M0 (Qr J J J J (by assumption)) J J ?_;refine M0 (Qo J J J J) J J ?_
          refine Qe (Q0 ?_);refine Ql rfl ?_;refine Qh (Q1 (Q0 (Qc ?_)));refine M0 (Qs J J J J (by omega)) J J ?_
          refine M0 (Qa J J J) J J ?_;refine Qe (Q0 ?_)
          exact ⟨w.Scores.length - (k + 1),by omega,(fun (k : Nat) (bs : List TBody) => (⟨_,[(0,.o (.c (.ptr 0 0))),(1,L row),(12,I (els w.Scores).length),(13,I k)],[.box [.ref 1,jn w.Tick,jn w.Seed,.ref 2,.ref 3],.row 1 (els w.Level.Rows),.row 1 (els w.Scores),.row 9 (els bs),.gh 0 (.c (.ptr 0 0))]⟩ : St)) (k + 1) (bs.set k c),W_go [0,1,2,3,4] (by decide) rfl (rfl) (.cons rfl (.cons rfl (.cons rfl (.cons rfl (.nil))))),k + 1,bs.set k c,by omega,hnx.symm,rfl⟩
  · have hb0 : decide ((k : Int) < (els w.Scores).length) = false := decide_eq_false (by omega)
    have hk : k = w.Scores.length := by omega
    subst hk
    rw [← hp_A]
    refine Qd (Qc ?_);refine M0 (Qr J J J J (by assumption)) J J ?_;refine Qe (Q0 (Qd ?_));refine Ql rfl ?_;refine Q9 ?_
    refine T_x (T_x (B_xs (F_n ?_)))
    exact E_none rfl (W_end [0,1,2,3,4] (by decide) J J J)
end Go.Proofs.Ytmljakmaffbnlaa
end

section
set_option linter.unusedSimpArgs false
set_option linter.unusedVariables false
set_option maxRecDepth 8000
namespace Go.Proofs.Ytmljakmaffbnlaa
open Go.RowKit

theorem mv_a {l : TLevel} {b : TBody} (h : b.Kind = 0 ∧ 0 < b.Life) : mvOne l b = some (moveM l b).1 := by rw [mvOne,if_pos h]
theorem mv_n {l : TLevel} {b : TBody} (h : ¬ (b.Kind = 0 ∧ 0 < b.Life)) (h1 : b.Kind = 1) (h2 : (moveM l b).2 = true ∨ b.Timer - 1 = 0) : mvOne l b = none := by rw [mvOne,if_neg h,if_pos h1,if_pos h2]
theorem mv_s {l : TLevel} {b : TBody} (h : ¬ (b.Kind = 0 ∧ 0 < b.Life)) (h1 : b.Kind = 1) (h2 : ¬ ((moveM l b).2 = true ∨ b.Timer - 1 = 0)) : mvOne l b = some (tick1 (moveM l b).1) := by rw [mvOne,if_neg h,if_pos h1,if_neg h2]
theorem mv_k {l : TLevel} {b : TBody} (h : ¬ (b.Kind = 0 ∧ 0 < b.Life)) (h1 : ¬ b.Kind = 1) : mvOne l b = some b := by rw [mvOne,if_neg h,if_neg h1]
theorem mv_len {l : TLevel} {bs lf : List TBody} {k : Nat} (h : lf = (bs.take k).filterMap (mvOne l)) : lf.length ≤ k := by
  rw [h]
  have := List.length_filterMap_le (mvOne l) (bs.take k)
  rw [List.length_take] at this
  omega
theorem mv_some {l : TLevel} {bs lf : List TBody} {k : Nat} {b c : TBody} (h : lf = (bs.take k).filterMap (mvOne l)) (hb : bs[k]? = some b) (hm : mvOne l b = some c) : lf ++ [c] = (bs.take (k + 1)).filterMap (mvOne l) := by rw [mv_next hb,hm,← h]; rfl
theorem mv_none {l : TLevel} {bs lf : List TBody} {k : Nat} {b : TBody} (h : lf = (bs.take k).filterMap (mvOne l)) (hb : bs[k]? = some b) (hm : mvOne l b = none) : lf = (bs.take (k + 1)).filterMap (mvOne l) := by rw [mv_next hb,hm,← h]; simp
theorem rw6 {a b c d e : Ob} {t : List Ob} {k : Nat} {x y : List (List T)} (h : x = y) : a :: b :: c :: d :: e :: Ob.row k x :: t = a :: b :: c :: d :: e :: Ob.row k y :: t := by rw [h]
set_option maxHeartbeats 8000000 in
theorem I_stepMoves (w : TWorld) (hg : Enc.gd w.Level) (hl : levelOk w.Level = true) (hL : LM w.Level w.Scores.length w.Bodies) (htm : ∀ b ∈ w.Bodies,0 ≤ b.Timer ∧ b.Timer ≤ 25) : Con Try.prog 109 [.box [.ref 1,jn w.Tick,jn w.Seed,.ref 2,.ref 3],.row 1 (els w.Level.Rows),.row 1 (els w.Scores),.row 9 (els w.Bodies),.gh 0 (.c (.ptr 0 0))] [.c (.ptr 0 0)] [.box [.ref 1,jn w.Tick,jn w.Seed,.ref 2,.ref 3],.row 1 (els w.Level.Rows),.row 1 (els w.Scores),.row 9 (els (mvM w.Level w.Bodies)),.gh 0 (.c (.ptr 0 0))] (.tu []) := by
  have hlb := els_len w.Bodies
  have hln := hL.len
  refine Con.of Try.func109 rfl Try.ntmps109 rfl (fun E => ?_)
  refine Qd (Qc ?_);refine M0 (Qb J J J) J J ?_;refine Qe (Q0 (Qd (Qd (Qc ?_))))
  refine M0 (Qa J J J) J J ?_;refine M0 (Qz J J J) J J ?_;refine M0 (Qf J J J J (by decide)) J J ?_
  refine M0 (Qg J J J J J) J J ?_;refine M0 (q_lenr J J J J) J J ?_;refine M0 (Qa J J J) J J ?_;refine Qe (Q0 (Qk ?_))
  refine AWP.pre ?_ (W_nil 2 9 rfl)
  refine A_loop (fun m st => ∃ (k : Nat) (lf : List TBody),k + m = w.Bodies.length ∧ (lf = (w.Bodies.take k).filterMap (mvOne w.Level)) ∧ st = (fun (k : Nat) (lf : List TBody) => (⟨_,[(0,.o (.c (.ptr 0 0))),(2,.o (.c (.ref 5))),(10,.o (.c (.ref 3))),(11,I (els w.Bodies).length),(12,I k)],[.box [.ref 1,jn w.Tick,jn w.Seed,.ref 2,.ref 3],.row 1 (els w.Level.Rows),.row 1 (els w.Scores),.row 9 (els w.Bodies),.gh 0 (.c (.ptr 0 0)),.row 9 (els lf)]⟩ : St)) k lf) (w.Bodies.length) ⟨(fun (k : Nat) (lf : List TBody) => (⟨_,[(0,.o (.c (.ptr 0 0))),(2,.o (.c (.ref 5))),(10,.o (.c (.ref 3))),(11,I (els w.Bodies).length),(12,I k)],[.box [.ref 1,jn w.Tick,jn w.Seed,.ref 2,.ref 3],.row 1 (els w.Level.Rows),.row 1 (els w.Scores),.row 9 (els w.Bodies),.gh 0 (.c (.ptr 0 0)),.row 9 (els lf)]⟩ : St)) 0 ([]),W_go [0,1,2,3,4,5] (by decide) rfl (rfl) (.cons rfl (.cons rfl (.cons rfl (.cons rfl (.cons rfl (.nil)))))),0,[],by omega,rfl,rfl⟩ ?_
  rintro m_A _ ⟨k,lf,hk_A,hp_A,rfl⟩
  have hll := els_len lf
  have hlk := mv_len hp_A
  by_cases hlt : k < w.Bodies.length
  · have hb0 : decide ((k : Int) < (els w.Bodies).length) = true := decide_eq_true (by omega)
    obtain ⟨b,hb⟩ := some_sm hlt
    refine Qd (Qc ?_);refine M0 (Qr J J J J (by assumption)) J J ?_;refine Qe (Q0 (Qd ?_));refine Qm rfl ?_;refine Qh ?_
    refine Q0 (Qd (Qk (Qd (Qc ?_))));refine M0 (Q3 J J J J J (by omega) (by omega)) J J ?_
    have he := els_sm hb
    with_reducible refine Xf ?_
    refine M0 (Q6 J J J J (by assumption) J J) J J ?_
    with_reducible refine K_alloc ?_
    refine M1 (Qx J J J) J J ?_
    with_reducible refine Xe ?_
    refine Qy J J J J J J J J J ?_
    refine Qe ?_
    refine Q0 ?_
    refine AWP.pre (st' := (⟨_,[(0,.o (.c (.ptr 0 0))),(2,.o (.c (.ref 5))),(4,.o (.c (.ptr 6 0))),(10,.o (.c (.ref 3))),(11,I (els w.Bodies).length),(12,I k)],[.box [.ref 1,jn w.Tick,jn w.Seed,.ref 2,.ref 3],.row 1 (els w.Level.Rows),.row 1 (els w.Scores),.row 9 (els w.Bodies),.gh 0 (.c (.ptr 0 0)),.row 9 (els lf),.box ((Enc.e b).map (V1.rd []))]⟩ : St)) ?_ (W_go [0,1,2,3,4,5,6] (by decide) rfl (rfl) (.cons rfl (.cons rfl (.cons rfl (.cons rfl (.cons rfl (.cons rfl (.nil))))))))
    clear he
    have hB := (hL.at_ k b hb).1
    have ht := htm b (List.mem_of_getElem? hb)
    obtain ⟨c,s,hcs⟩ : ∃ c s,(c,s) = moveM w.Level b := ⟨_,_,rfl⟩
    have cm := I_MoveBody w.Level b hg hl hB.k hB.p hB.vx hB.vy
    have hct : (moveM w.Level b).1.Timer = b.Timer := rfl
    have ma := @mv_a w.Level b
    have mn := @mv_n w.Level b
    have ms := @mv_s w.Level b
    have mk := @mv_k w.Level b
    rw [← hcs] at cm hct ma mn ms
    simp only at cm hct ma mn ms
    clear hcs hB
    by_cases hA : b.Kind = 0 ∧ 0 < b.Life
    · have f1 : decide (b.Kind = 0) = true := decide_eq_true hA.1
      have f2 : decide (0 < b.Life) = true := decide_eq_true hA.2
      have hm := mv_some hp_A hb (ma hA)
      refine Qd (Qk (Qd (Qc ?_)));refine M0 (Qf J J J J (by decide)) J J ?_;refine M0 (Qg J J J J J) J J ?_
      refine M0 (Qv J J J J (by assumption)) J J ?_;refine M0 (Qa J J J) J J ?_;refine Qi J J J ?_
      refine M0 (Qf J J J J (by decide)) J J ?_;refine Qi J J J ?_;refine M0 (Qg J J J J J) J J ?_;refine Qi J J J ?_
      refine M0 (q_gtrK J J J J (by assumption)) J J ?_;refine M0 (Qo J J J J) J J ?_;refine M0 (Qb J J J) J J ?_;refine Qe (Q0 ?_)
      refine Qm rfl ?_
      refine AWP.pre (st' := (⟨_,[(0,.o (.c (.ptr 0 0))),(2,.o (.c (.ref 5))),(4,.o (.c (.ptr 6 0))),(10,.o (.c (.ref 3))),(11,I (els w.Bodies).length),(12,I k)],[.box [.ref 1,jn w.Tick,jn w.Seed,.ref 2,.ref 3],.row 1 (els w.Level.Rows),.row 1 (els w.Scores),.row 9 (els w.Bodies),.gh 0 (.c (.ptr 0 0)),.row 9 (els lf),.box ((Enc.e b).map (V1.rd []))]⟩ : St)) ?_ (W_go [0,1,2,3,4,5,6] (by decide) rfl (rfl) (.cons rfl (.cons rfl (.cons rfl (.cons rfl (.cons rfl (.cons rfl (.nil))))))))
      refine A_draw [[],[0],[0,1],[0,1,2],[],[0,1,2,3,4],[0,1,2,3,4,5],[0,1,2,3,4,5,6],[0,1,2,3,4,5,6],[0,1,2,3,4,5,6,7]] [[],[26],[26,27],[26,27,28],[],[26,27,28,29,30],[26,27,28,29,30,31],[25,26,27,28,29,30,31],[25,26,27,28,29,30,31],[25,26,27,28,29,30,31,32]] [[30],[30],[30],[30],[26,27,28,29],[],[],[33],[32],[33],[8]] rfl ?_
      refine DR.step (Qa J J J) J J ?_;refine DR.step (Qz J J J) J J ?_;refine DR.step (Qf J J J J (by decide)) J J ?_
      refine DR.step (Qu J J J J J J) J J ?_;refine DR.step (Qu J J J J J J) J J ?_;refine DR.step (q_call J J (cm) J J J) J J ?_
      refine DR.step (Q8 J J J) J J ?_;refine DR.step (q_ext J J J J) J J ?_;refine DR.step (q_ext J J J J) J J ?_
      refine DR.stop (by kernel_rfl) (by kernel_rfl) ?_
      refine AL.weak (st' := (⟨_,[(0,.o (.c (.ptr 0 0))),(2,.o (.c (.ref 5))),(4,.o (.c (.ptr 6 0))),(32,.o (.ag ((Enc.e c).map (V1.rd [])))),(10,.o (.c (.ref 3))),(11,I (els w.Bodies).length),(12,I k)],[.box [.ref 1,jn w.Tick,jn w.Seed,.ref 2,.ref 3],.row 1 (els w.Level.Rows),.row 1 (els w.Scores),.row 9 (els w.Bodies),.gh 0 (.c (.ptr 0 0)),.row 9 (els lf),.box ((Enc.e b).map (V1.rd []))]⟩ : St)) (W_go [0,1,2,3,4,5,6] (by decide) rfl (rfl) (.cons rfl (.cons rfl (.cons rfl (.cons rfl (.cons rfl (.cons rfl (.cons rfl (.nil))))))))) ?_
      refine Qy J J J J J J J J J ?_;refine Qe (Q1 (Q0 (Qc ?_)));refine M0 (Qa J J J) J J ?_
      refine M0 (Qu J J J J J J) J J ?_;refine M1 (q_bslice J J J J J J) J J ?_
      refine M_appo J J J J J J J J J J J J J J (by omega) (by omega) ?_;refine M0 (Qb J J J) J J ?_;refine Qe (Q1 (Q0 ?_))
      refine Qc ?_;refine M0 (Qs J J J J (by omega)) J J ?_;refine M0 (Qa J J J) J J ?_;refine Qe (Q0 ?_)
      exact ⟨w.Bodies.length - (k + 1),by omega,(fun (k : Nat) (lf : List TBody) => (⟨_,[(0,.o (.c (.ptr 0 0))),(2,.o (.c (.ref 5))),(10,.o (.c (.ref 3))),(11,I (els w.Bodies).length),(12,I k)],[.box [.ref 1,jn w.Tick,jn w.Seed,.ref 2,.ref 3],.row 1 (els w.Level.Rows),.row 1 (els w.Scores),.row 9 (els w.Bodies),.gh 0 (.c (.ptr 0 0)),.row 9 (els lf)]⟩ : St)) (k + 1) (lf ++ [c]),W_go [0,1,2,3,4,5] (by decide) rfl (rw6 (by rw [els_app]; rfl)) (.cons rfl (.cons rfl (.cons rfl (.cons rfl (.cons rfl (.nil)))))),k + 1,lf ++ [c],by omega,hm,rfl⟩
    by_cases hS : b.Kind = 1
    · have f3 : decide (b.Kind = 1) = true := decide_eq_true hS
      have f1 : decide (b.Kind = 0) = false := decide_eq_false (by omega)
      refine Qd (Qk (Qd (Qc ?_)));refine M0 (Qf J J J J (by decide)) J J ?_;refine M0 (Qg J J J J J) J J ?_
      refine M0 (Qv J J J J (by assumption)) J J ?_;refine M0 (Qa J J J) J J ?_;refine Qp J J J J J J ?_;refine Qp J J J J J J ?_
      refine Qp J J J J J J ?_;refine M0 (Qn J J J J) J J ?_;refine M0 (Qb J J J) J J ?_;refine Qe (Q0 ?_);refine Ql rfl ?_
      refine Qd (Qc ?_);refine M0 (Qf J J J J (by decide)) J J ?_;refine M0 (Qg J J J J J) J J ?_
      refine M0 (Qv J J J J (by assumption)) J J ?_;refine M0 (Qb J J J) J J ?_;refine Qe (Q0 ?_);refine Qm rfl ?_;refine Qd ?_
      refine AWP.pre (st' := (⟨_,[(0,.o (.c (.ptr 0 0))),(2,.o (.c (.ref 5))),(4,.o (.c (.ptr 6 0))),(10,.o (.c (.ref 3))),(11,I (els w.Bodies).length),(12,I k)],[.box [.ref 1,jn w.Tick,jn w.Seed,.ref 2,.ref 3],.row 1 (els w.Level.Rows),.row 1 (els w.Scores),.row 9 (els w.Bodies),.gh 0 (.c (.ptr 0 0)),.row 9 (els lf),.box ((Enc.e b).map (V1.rd []))]⟩ : St)) ?_ (W_go [0,1,2,3,4,5,6] (by decide) rfl (rfl) (.cons rfl (.cons rfl (.cons rfl (.cons rfl (.cons rfl (.cons rfl (.nil))))))))
      refine A_draw [[],[0],[0,1],[0,1,2],[],[0,1,2,3,4],[0,1,2,3,4,5],[0,1,2,3,4,5,6],[0,1,2,3,4,5,6],[],[0,1,2,3,4,5,6,7,9],[0,1,2,3,4,5,6,7,8,9,10]] [[],[39],[39,40],[39,40,41],[],[39,40,41,42,43],[39,40,41,42,43,44],[38,39,40,41,42,43,44],[38,39,40,41,42,43,44],[],[5,38,39,40,41,42,43,44,45],[5,38,39,40,41,42,43,44,45,46]] [[5,43],[5,43],[5,43],[5,43],[5,39,40,41,42],[5],[5],[5,46],[5,45],[38,39,40,41,42,43,44,45,46],[46],[],[8]] rfl ?_
      refine DR.step (Qa J J J) J J ?_;refine DR.step (Qz J J J) J J ?_;refine DR.step (Qf J J J J (by decide)) J J ?_
      refine DR.step (Qu J J J J J J) J J ?_;refine DR.step (Qu J J J J J J) J J ?_;refine DR.step (q_call J J (cm) J J J) J J ?_
      refine DR.step (Q8 J J J) J J ?_;refine DR.step (q_ext J J J J) J J ?_;refine DR.step (q_ext J J J J) J J ?_
      refine DR.step (Qx J J J) J J ?_;refine DR.stop (by kernel_rfl) (by kernel_rfl) ?_
      refine AL.weak (st' := (⟨_,[(0,.o (.c (.ptr 0 0))),(2,.o (.c (.ref 5))),(4,.o (.c (.ptr 6 0))),(5,.o (.c (.ptr 7 0))),(45,.o (.ag ((Enc.e c).map (V1.rd [])))),(46,B s),(10,.o (.c (.ref 3))),(11,I (els w.Bodies).length),(12,I k)],[.box [.ref 1,jn w.Tick,jn w.Seed,.ref 2,.ref 3],.row 1 (els w.Level.Rows),.row 1 (els w.Scores),.row 9 (els w.Bodies),.gh 0 (.c (.ptr 0 0)),.row 9 (els lf),.box ((Enc.e b).map (V1.rd [])),.box [jn 0,jn 0,jn 0,jn 0,jn 0,jn 0,jn 0,jn 0,jn 0]]⟩ : St)) (W_go [0,1,2,3,4,5,6,7] (by decide) rfl (rfl) (.cons rfl (.cons rfl (.cons rfl (.cons rfl (.cons rfl (.cons rfl (.cons rfl (.cons rfl (.cons rfl (.nil))))))))))) ?_
      with_reducible refine Xe ?_
      refine Qy J J J J J J J J J ?_
      with_reducible refine K_assign ?_
      refine M0 (Qb J J J) J J ?_
      refine Qe ?_
      refine Q0 ?_
      repeat (first | refine Qd ?_ | refine Qc ?_)
      with_reducible refine Xf ?_
      refine M0 (Qu J J J J J J) J J ?_
      with_reducible refine Xe ?_
      refine Qy J J J J J J J J J ?_
      refine Qe ?_
      refine Q0 ?_
      refine AWP.pre (st' := (⟨_,[(0,.o (.c (.ptr 0 0))),(2,.o (.c (.ref 5))),(4,.o (.c (.ptr 6 0))),(6,B s),(10,.o (.c (.ref 3))),(11,I (els w.Bodies).length),(12,I k)],[.box [.ref 1,jn w.Tick,jn w.Seed,.ref 2,.ref 3],.row 1 (els w.Level.Rows),.row 1 (els w.Scores),.row 9 (els w.Bodies),.gh 0 (.c (.ptr 0 0)),.row 9 (els lf),.box ((Enc.e c).map (V1.rd []))]⟩ : St)) ?_ (W_go [0,1,2,3,4,5,6] (by decide) rfl (rfl) (.cons rfl (.cons rfl (.cons rfl (.cons rfl (.cons rfl (.cons rfl (.cons rfl (.nil)))))))))
      rw [← hct] at ht
      cases s with
      | true =>
        have hm := mv_none hp_A hb (mn hA hS (.inl rfl))
        refine Qd (Qc ?_);refine M0 (Qf J J J J (by decide)) J J ?_;refine M0 (Qg J J J J J) J J ?_
        refine M0 (Xc J J J J (by omega)) J J ?_;refine M0 (Qf J J J J (by decide)) J J ?_;refine Q5 J J J J J J J J ?_;refine Qe ?_
        refine Q0 (Qd (Qc ?_));refine M0 (Qa J J J) J J ?_;refine M0 (Qa J J J) J J ?_;refine Qp J J J J J J ?_
        refine Qp J J J J J J ?_;refine Qp J J J J J J ?_;refine M0 (Qo J J J J) J J ?_;refine Qe (Q0 ?_);refine Qm rfl ?_
        refine Q9 ?_;refine B_xo rfl ?_;refine T_x (B_xs (Q0 (Qc ?_)));refine M0 (Qs J J J J (by omega)) J J ?_
        refine M0 (Qa J J J) J J ?_;refine Qe (Q0 ?_)
        exact ⟨w.Bodies.length - (k + 1),by omega,(fun (k : Nat) (lf : List TBody) => (⟨_,[(0,.o (.c (.ptr 0 0))),(2,.o (.c (.ref 5))),(10,.o (.c (.ref 3))),(11,I (els w.Bodies).length),(12,I k)],[.box [.ref 1,jn w.Tick,jn w.Seed,.ref 2,.ref 3],.row 1 (els w.Level.Rows),.row 1 (els w.Scores),.row 9 (els w.Bodies),.gh 0 (.c (.ptr 0 0)),.row 9 (els lf)]⟩ : St)) (k + 1) (lf),W_go [0,1,2,3,4,5] (by decide) rfl (rfl) (.cons rfl (.cons rfl (.cons rfl (.cons rfl (.cons rfl (.nil)))))),k + 1,lf,by omega,hm,rfl⟩
      | false =>
        by_cases h1 : c.Timer - 1 = 0
        · have f4 : decide (c.Timer - 1 = 0) = true := decide_eq_true h1
          have hm := mv_none hp_A hb (mn hA hS (.inr (by rw [← hct]; exact h1)))
          refine Qd (Qc ?_);refine M0 (Qf J J J J (by decide)) J J ?_;refine M0 (Qg J J J J J) J J ?_
          refine M0 (Xc J J J J (by omega)) J J ?_;refine M0 (Qf J J J J (by decide)) J J ?_;refine Q5 J J J J J J J J ?_;refine Qe ?_
          refine Q0 (Qd (Qc ?_));refine M0 (Qa J J J) J J ?_;refine M0 (Qa J J J) J J ?_;refine Qi J J J ?_
          refine M0 (Qf J J J J (by decide)) J J ?_;refine Qi J J J ?_;refine M0 (Qg J J J J J) J J ?_;refine Qi J J J ?_
          refine M0 (Qv J J J J (by assumption)) J J ?_;refine M0 (Qn J J J J) J J ?_;refine Qe (Q0 ?_);refine Qm rfl ?_;refine Q9 ?_
          refine B_xo rfl ?_;refine T_x (B_xs (Q0 (Qc ?_)));refine M0 (Qs J J J J (by omega)) J J ?_;refine M0 (Qa J J J) J J ?_
          refine Qe (Q0 ?_)
          exact ⟨w.Bodies.length - (k + 1),by omega,(fun (k : Nat) (lf : List TBody) => (⟨_,[(0,.o (.c (.ptr 0 0))),(2,.o (.c (.ref 5))),(10,.o (.c (.ref 3))),(11,I (els w.Bodies).length),(12,I k)],[.box [.ref 1,jn w.Tick,jn w.Seed,.ref 2,.ref 3],.row 1 (els w.Level.Rows),.row 1 (els w.Scores),.row 9 (els w.Bodies),.gh 0 (.c (.ptr 0 0)),.row 9 (els lf)]⟩ : St)) (k + 1) (lf),W_go [0,1,2,3,4,5] (by decide) rfl (rfl) (.cons rfl (.cons rfl (.cons rfl (.cons rfl (.cons rfl (.nil)))))),k + 1,lf,by omega,hm,rfl⟩
        · have f4 : decide (c.Timer - 1 = 0) = false := decide_eq_false h1
          have hm := mv_some hp_A hb (ms hA hS (fun q => q.elim (fun q => Bool.false_ne_true q) (fun q => h1 (by rw [hct]; exact q))))
          refine Qd (Qc ?_);refine M0 (Qf J J J J (by decide)) J J ?_;refine M0 (Qg J J J J J) J J ?_
          refine M0 (Xc J J J J (by omega)) J J ?_;refine M0 (Qf J J J J (by decide)) J J ?_;refine Q5 J J J J J J J J ?_;refine Qe ?_
          refine Q0 (Qd (Qc ?_));refine M0 (Qa J J J) J J ?_;refine M0 (Qa J J J) J J ?_;refine Qi J J J ?_
          refine M0 (Qf J J J J (by decide)) J J ?_;refine Qi J J J ?_;refine M0 (Qg J J J J J) J J ?_;refine Qi J J J ?_
          refine M0 (Qv J J J J (by assumption)) J J ?_;refine M0 (Qn J J J J) J J ?_;refine Qe (Q0 ?_);refine Ql rfl ?_;refine Qh ?_
          refine Q1 (Q0 (Qc ?_));refine M0 (Qa J J J) J J ?_;refine M0 (Qu J J J J J J) J J ?_
          refine M1 (q_bslice J J J J J J) J J ?_;refine M_appo J J J J J J J J J J J J J J (by omega) (by omega) ?_
          refine M0 (Qb J J J) J J ?_;refine Qe (Q1 (Q0 (Qc ?_)));refine M0 (Qs J J J J (by omega)) J J ?_
          refine M0 (Qa J J J) J J ?_;refine Qe (Q0 ?_)
          exact ⟨w.Bodies.length - (k + 1),by omega,(fun (k : Nat) (lf : List TBody) => (⟨_,[(0,.o (.c (.ptr 0 0))),(2,.o (.c (.ref 5))),(10,.o (.c (.ref 3))),(11,I (els w.Bodies).length),(12,I k)],[.box [.ref 1,jn w.Tick,jn w.Seed,.ref 2,.ref 3],.row 1 (els w.Level.Rows),.row 1 (els w.Scores),.row 9 (els w.Bodies),.gh 0 (.c (.ptr 0 0)),.row 9 (els lf)]⟩ : St)) (k + 1) (lf ++ [tick1 c]),W_go [0,1,2,3,4,5] (by decide) rfl (rw6 (by rw [els_app]; rfl)) (.cons rfl (.cons rfl (.cons rfl (.cons rfl (.cons rfl (.nil)))))),k + 1,lf ++ [tick1 c],by omega,hm,rfl⟩
    · have f3 : decide (b.Kind = 1) = false := decide_eq_false hS
      have hm := mv_some hp_A hb (mk hA hS)
      by_cases hK : b.Kind = 0
      · have f1 : decide (b.Kind = 0) = true := decide_eq_true hK
        have f2 : decide (0 < b.Life) = false := decide_eq_false (fun q => hA ⟨hK,q⟩)
        refine Qd (Qk (Qd (Qc ?_)));refine M0 (Qf J J J J (by decide)) J J ?_;refine M0 (Qg J J J J J) J J ?_
        refine M0 (Qv J J J J (by assumption)) J J ?_;refine M0 (Qa J J J) J J ?_;refine Qi J J J ?_
        refine M0 (Qf J J J J (by decide)) J J ?_;refine Qi J J J ?_;refine M0 (Qg J J J J J) J J ?_;refine Qi J J J ?_
        refine M0 (q_gtrK J J J J (by assumption)) J J ?_;refine M0 (Qo J J J J) J J ?_;refine M0 (Qb J J J) J J ?_;refine Qe (Q0 ?_)
        refine Ql rfl ?_;refine Qd (Qc ?_);refine M0 (Qf J J J J (by decide)) J J ?_;refine M0 (Qg J J J J J) J J ?_
        refine M0 (Qv J J J J (by assumption)) J J ?_;refine M0 (Qb J J J) J J ?_;refine Qe (Q0 ?_);refine Ql rfl ?_;refine Qh ?_
        refine Q1 (Q0 (Qc ?_));refine M0 (Qa J J J) J J ?_;refine M0 (Qu J J J J J J) J J ?_
        refine M1 (q_bslice J J J J J J) J J ?_;refine M_appo J J J J J J J J J J J J J J (by omega) (by omega) ?_
        refine M0 (Qb J J J) J J ?_;refine Qe (Q1 (Q0 (Qc ?_)));refine M0 (Qs J J J J (by omega)) J J ?_
        refine M0 (Qa J J J) J J ?_;refine Qe (Q0 ?_)
        exact ⟨w.Bodies.length - (k + 1),by omega,(fun (k : Nat) (lf : List TBody) => (⟨_,[(0,.o (.c (.ptr 0 0))),(2,.o (.c (.ref 5))),(10,.o (.c (.ref 3))),(11,I (els w.Bodies).length),(12,I k)],[.box [.ref 1,jn w.Tick,jn w.Seed,.ref 2,.ref 3],.row 1 (els w.Level.Rows),.row 1 (els w.Scores),.row 9 (els w.Bodies),.gh 0 (.c (.ptr 0 0)),.row 9 (els lf)]⟩ : St)) (k + 1) (lf ++ [b]),W_go [0,1,2,3,4,5] (by decide) rfl (rw6 (by rw [els_app]; rfl)) (.cons rfl (.cons rfl (.cons rfl (.cons rfl (.cons rfl (.nil)))))),k + 1,lf ++ [b],by omega,hm,rfl⟩
      · have f1 : decide (b.Kind = 0) = false := decide_eq_false hK
        refine Qd (Qk (Qd (Qc ?_)));refine M0 (Qf J J J J (by decide)) J J ?_;refine M0 (Qg J J J J J) J J ?_
        refine M0 (Qv J J J J (by assumption)) J J ?_;refine M0 (Qa J J J) J J ?_;refine Qp J J J J J J ?_;refine Qp J J J J J J ?_
        refine Qp J J J J J J ?_;refine M0 (Qn J J J J) J J ?_;refine M0 (Qb J J J) J J ?_;refine Qe (Q0 ?_);refine Ql rfl ?_
        refine Qd (Qc ?_);refine M0 (Qf J J J J (by decide)) J J ?_;refine M0 (Qg J J J J J) J J ?_
        refine M0 (Qv J J J J (by assumption)) J J ?_;refine M0 (Qb J J J) J J ?_;refine Qe (Q0 ?_);refine Ql rfl ?_;refine Qh ?_
        refine Q1 (Q0 (Qc ?_));refine M0 (Qa J J J) J J ?_;refine M0 (Qu J J J J J J) J J ?_
        refine M1 (q_bslice J J J J J J) J J ?_;refine M_appo J J J J J J J J J J J J J J (by omega) (by omega) ?_
        refine M0 (Qb J J J) J J ?_;refine Qe (Q1 (Q0 (Qc ?_)));refine M0 (Qs J J J J (by omega)) J J ?_
        refine M0 (Qa J J J) J J ?_;refine Qe (Q0 ?_)
        exact ⟨w.Bodies.length - (k + 1),by omega,(fun (k : Nat) (lf : List TBody) => (⟨_,[(0,.o (.c (.ptr 0 0))),(2,.o (.c (.ref 5))),(10,.o (.c (.ref 3))),(11,I (els w.Bodies).length),(12,I k)],[.box [.ref 1,jn w.Tick,jn w.Seed,.ref 2,.ref 3],.row 1 (els w.Level.Rows),.row 1 (els w.Scores),.row 9 (els w.Bodies),.gh 0 (.c (.ptr 0 0)),.row 9 (els lf)]⟩ : St)) (k + 1) (lf ++ [b]),W_go [0,1,2,3,4,5] (by decide) rfl (rw6 (by rw [els_app]; rfl)) (.cons rfl (.cons rfl (.cons rfl (.cons rfl (.cons rfl (.nil)))))),k + 1,lf ++ [b],by omega,hm,rfl⟩
  · have hb0 : decide ((k : Int) < (els w.Bodies).length) = false := decide_eq_false (by omega)
    have hk : k = w.Bodies.length := by omega
    have hm : lf = mvM w.Level w.Bodies := by rw [hp_A,hk,List.take_length]; rfl
    subst hm
    refine Qd (Qc ?_);refine M0 (Qr J J J J (by assumption)) J J ?_;refine Qe (Q0 (Qd ?_));refine Ql rfl ?_;refine Q9 ?_
    refine T_x (T_x (B_xs (Q0 (Qc ?_))));refine M0 (Qa J J J) J J ?_;refine M0 (Qa J J J) J J ?_
    refine M0 (Qz J J J) J J ?_;refine M0 (Qf J J J J (by decide)) J J ?_;refine Q5 J J J J J J J J ?_;refine Qe (F_n ?_)
    exact E_none rfl (W_end [0,1,2,5,4] (by decide) J J J)
end Go.Proofs.Ytmljakmaffbnlaa
end

section
set_option linter.unusedSimpArgs false
set_option linter.unusedVariables false
set_option maxRecDepth 8000
namespace Go.Proofs.Ytmljakmaffbnlaa
open Go.RowKit

theorem metF_congr {bs bs' : List TBody} {b : TBody} {o : Int} : ∀ {n : Nat},(∀ k,k < n → bs[k]? = bs'[k]?) → metF bs b o n = metF bs' b o n
  | 0,_ => rfl
  | n + 1,h => by
    have h1 : metC bs b o n = metC bs' b o n := by simp only [metC,h n (by omega)]
    rw [metF,metF,metF_congr (fun k hk => h k (by omega)),h1]
def hitB (p : TBody) : TBody := ⟨p.Kind,p.Owner,p.X,p.Y,if p.Life - 1 = 0 then 0 else p.VX,if p.Life - 1 = 0 then 0 else p.VY,p.Aim,p.Life - 1,if p.Life - 1 = 0 then 20 else p.Timer⟩
def shGone (n : Nat) (bs : List TBody) (b : TBody) : Bool := decide (b.Kind = 1) && (metF bs b b.Owner n).isSome
def shOne (n : Nat) (s : List TBody × List Int) (b : TBody) : List TBody × List Int :=
  if b.Kind = 1 then match metF s.1 b b.Owner n with
    | none => s
    | some k => match s.1[k]? with
      | none => s
      | some p => (s.1.set k (hitB p),if p.Life - 1 = 0 then addM s.2 b.Owner.toNat else s.2)
  else s
/-- Bodies and scores after the first shots of a list. -/
def shS (n : Nat) (t : List TBody) (s : List TBody × List Int) : Nat → List TBody × List Int
  | 0 => s
  | j + 1 => match t[j]? with
    | none => shS n t s j
    | some b => shOne n (shS n t s j) b
def shF (n : Nat) (t : List TBody) (s : List TBody × List Int) (j : Nat) : Bool := match t[j]? with
  | none => false
  | some b => shGone n (shS n t s j).1 b
/-- What is left of the first of a list. -/
def shL (n : Nat) (t : List TBody) (s : List TBody × List Int) : Nat → List TBody
  | 0 => []
  | j + 1 => match t[j]? with
    | none => shL n t s j
    | some b => if shGone n (shS n t s j).1 b = true then shL n t s j else shL n t s j ++ [b]
def itHit (n : Nat) (bs : List TBody) (b : TBody) : Bool := decide (b.Kind = 2) && (metF bs b (-1) n).isSome
def itOne (n : Nat) (bs : List TBody) (ss : List Int) (b : TBody) : List Int :=
  if b.Kind = 2 then match metF bs b (-1) n with
    | none => ss
    | some k => addM ss k
  else ss
def itS (n : Nat) (bs t : List TBody) (ss : List Int) (j : Nat) : List Int := (t.take j).foldl (itOne n bs) ss
def itL (n : Nat) (bs t : List TBody) (j : Nat) : List TBody := (t.take j).filter fun b => !itHit n bs b
def keepR (n : Nat) (t : List TBody) (s : List TBody × List Int) (bs : List TBody) : Nat → List TBody
  | 0 => []
  | j + 1 => match t[j]? with
    | none => keepR n t s bs j
    | some b => if (shF n t s j || itHit n bs b) = true then keepR n t s bs j else keepR n t s bs j ++ [b]
section
variable {l : TLevel} {n k j : Nat} {t bs bs0 lf : List TBody} {ss ss0 : List Int} {s : List TBody × List Int} {b p : TBody}
theorem sh_skip (ht : t[j]? = some b) (hk : ¬ b.Kind = 1) (hs : (bs,ss) = shS n t s j) (hl : lf = shL n t s j) : (bs,ss) = shS n t s (j + 1) ∧ lf ++ [b] = shL n t s (j + 1) ∧ shF n t s j = false := by
  have hg : shGone n (shS n t s j).1 b = false := by rw [shGone,decide_eq_false hk,Bool.false_and]
  refine ⟨by rw [shS,ht]; simp only [shOne,if_neg hk]; exact hs,by rw [shL,ht]; simp only [hg]; rw [← hl]; rfl,by rw [shF,ht]; exact hg⟩
theorem sh_miss (ht : t[j]? = some b) (hm : metF bs b b.Owner n = none) (hs : (bs,ss) = shS n t s j) (hl : lf = shL n t s j) : (bs,ss) = shS n t s (j + 1) ∧ lf ++ [b] = shL n t s (j + 1) ∧ shF n t s j = false := by
  have hm2 : metF (shS n t s j).1 b b.Owner n = none := by rw [← hs]; exact hm
  have hg : shGone n (shS n t s j).1 b = false := by rw [shGone,hm2]; simp
  refine ⟨?_,by rw [shL,ht]; simp only [hg]; rw [← hl]; rfl,by rw [shF,ht]; exact hg⟩
  have h1 : shOne n (bs,ss) b = (bs,ss) := by
    simp only [shOne,hm]
    split <;> rfl
  rw [shS,ht]
  simp only
  rw [← hs,h1]
theorem sh_hit (ht : t[j]? = some b) (hk : b.Kind = 1) (hm : metF bs b b.Owner n = some k) (hp : bs[k]? = some p) (hs : (bs,ss) = shS n t s j) (hl : lf = shL n t s j) : (bs.set k (hitB p),if p.Life - 1 = 0 then addM ss b.Owner.toNat else ss) = shS n t s (j + 1) ∧ lf = shL n t s (j + 1) ∧ shF n t s j = true := by
  have hm2 : metF (shS n t s j).1 b b.Owner n = some k := by rw [← hs]; exact hm
  have hg : shGone n (shS n t s j).1 b = true := by rw [shGone,hm2,decide_eq_true hk]; rfl
  refine ⟨?_,by rw [shL,ht]; simp only [hg,if_true]; exact hl,by rw [shF,ht]; exact hg⟩
  rw [shS,ht]
  simp only [shOne,if_pos hk,hm2]
  rw [← hs]
  simp only [hp]
theorem shL_le : ∀ j,(shL n t s j).length ≤ j
  | 0 => Nat.le_refl _
  | j + 1 => by
    have := shL_le j
    rw [shL]
    split
    · omega
    · split
      · omega
      · rw [List.length_append]; simp; omega
theorem shL_sub : ∀ j,∀ b ∈ shL n t s j,b ∈ t
  | 0,b,hb => by cases hb
  | j + 1,b,hb => by
    rw [shL] at hb
    split at hb
    · exact shL_sub j b hb
    · rename_i c hc
      split at hb
      · exact shL_sub j b hb
      · rcases List.mem_append.1 hb with h | h
        · exact shL_sub j b h
        · rw [List.mem_singleton] at h; subst h; exact List.mem_of_getElem? hc
theorem addM_len {ss : List Int} {k : Nat} : (addM ss k).length = ss.length := by unfold addM; split <;> simp
theorem addM_rng {ss : List Int} {k : Nat} (h : ∀ x ∈ ss,0 ≤ x ∧ x ≤ 1000000) : ∀ x ∈ addM ss k,0 ≤ x ∧ x ≤ 1000000 := by
  intro x hx
  unfold addM at hx
  split at hx
  · exact h x hx
  · rename_i s hs
    rcases List.mem_or_eq_of_mem_set hx with h1 | h1
    · exact h x h1
    · have := h s (List.mem_of_getElem? hs); omega
theorem BM.hit (h : BM l n p) (hl : 0 < p.Life) : BM l n (hitB p) := by
  obtain ⟨hk,ho,hp,hvx,hvy,hf⟩ := h
  refine ⟨hk,ho,hp,?_,?_,?_⟩
  · simp only [hitB]; split <;> omega
  · simp only [hitB]; split <;> omega
  · simp only [hitB]; omega
/-- While shots hit. -/
structure SI (l : TLevel) (n : Nat) (bs0 : List TBody) (s : List TBody × List Int) : Prop where
  lm : LM l n s.1
  len : s.1.length = bs0.length
  tl : ∀ k,n ≤ k → s.1[k]? = bs0[k]?
  sl : s.2.length = n
  sc : ∀ x ∈ s.2,0 ≤ x ∧ x ≤ 1000000
theorem SI.one (h : SI l n bs0 s) (b : TBody) : SI l n bs0 (shOne n s b) := by
  unfold shOne
  split
  · split
    · exact h
    · rename_i k hk
      obtain ⟨h1,h2⟩ := metF_lt hk
      obtain ⟨p,hp,hlf,_,_⟩ := metC_life h2
      rw [hp]
      have hB := h.lm.at_ k p hp
      refine ⟨h.lm.set hp (hB.1.hit hlf) rfl,by simp [h.len],fun j hj => by simp only; rw [List.getElem?_set_ne (by omega)]; exact h.tl j hj,?_,?_⟩
      · simp only
        split
        · rw [addM_len]; exact h.sl
        · exact h.sl
      · simp only
        split
        · exact addM_rng h.sc
        · exact h.sc
  · exact h
theorem SI.all (h : SI l n bs0 s) (t : List TBody) : ∀ j,SI l n bs0 (shS n t s j)
  | 0 => h
  | j + 1 => by
    rw [shS]
    split
    · exact SI.all h t j
    · exact (SI.all h t j).one _
theorem SI.start (h : LM l n bs) (h1 : ss.length = n) (h2 : ∀ x ∈ ss,0 ≤ x ∧ x ≤ 1000000) : SI l n bs (bs,ss) := ⟨h,rfl,fun _ _ => rfl,h1,h2⟩
theorem LM.cut {c : List TBody} (h : LM l n bs) (hc : ∀ b ∈ c,b ∈ bs.drop n) (hl : n + c.length ≤ 24) : LM l n (bs.take n ++ c) := by
  have hlen := h.len
  refine ⟨by rw [List.length_append,List.length_take]; omega,fun k b hb => ?_⟩
  rw [List.getElem?_append,List.length_take,Nat.min_eq_left hlen.1] at hb
  split at hb
  · rename_i hk
    rw [List.getElem?_take_of_lt hk] at hb
    have := h.at_ k b hb
    exact ⟨this.1,this.2⟩
  · rename_i hk
    obtain ⟨j,hj⟩ := List.getElem?_of_mem (hc b (List.mem_of_getElem? hb))
    rw [List.getElem?_drop] at hj
    have := h.at_ _ _ hj
    exact ⟨this.1,fun e => by have := this.2.1 e; omega,fun e => absurd e hk⟩
theorem it_skip (ht : t[j]? = some b) (hk : ¬ b.Kind = 2) (hs : ss = itS n bs t ss0 j) (hl : lf = itL n bs t j) : ss = itS n bs t ss0 (j + 1) ∧ lf ++ [b] = itL n bs t (j + 1) ∧ itHit n bs b = false := by
  obtain ⟨hj,rfl⟩ := List.getElem?_eq_some_iff.1 ht
  have hg : itHit n bs t[j] = false := by rw [itHit,decide_eq_false hk,Bool.false_and]
  refine ⟨?_,?_,hg⟩
  · rw [itS,List.take_succ_eq_append_getElem hj,List.foldl_append,← itS,← hs]
    simp only [List.foldl_cons,List.foldl_nil,itOne,if_neg hk]
  · rw [itL,List.take_succ_eq_append_getElem hj,List.filter_append,← itL,← hl]
    simp [hg]
theorem it_miss (ht : t[j]? = some b) (hm : metF bs b (-1) n = none) (hs : ss = itS n bs t ss0 j) (hl : lf = itL n bs t j) : ss = itS n bs t ss0 (j + 1) ∧ lf ++ [b] = itL n bs t (j + 1) ∧ itHit n bs b = false := by
  obtain ⟨hj,rfl⟩ := List.getElem?_eq_some_iff.1 ht
  have hg : itHit n bs t[j] = false := by rw [itHit,hm]; simp
  refine ⟨?_,?_,hg⟩
  · rw [itS,List.take_succ_eq_append_getElem hj,List.foldl_append,← itS,← hs]
    simp only [List.foldl_cons,List.foldl_nil,itOne,hm]
    split <;> rfl
  · rw [itL,List.take_succ_eq_append_getElem hj,List.filter_append,← itL,← hl]
    simp [hg]
theorem it_hit (ht : t[j]? = some b) (hk : b.Kind = 2) (hm : metF bs b (-1) n = some k) (hs : ss = itS n bs t ss0 j) (hl : lf = itL n bs t j) : addM ss k = itS n bs t ss0 (j + 1) ∧ lf = itL n bs t (j + 1) ∧ itHit n bs b = true := by
  obtain ⟨hj,rfl⟩ := List.getElem?_eq_some_iff.1 ht
  have hg : itHit n bs t[j] = true := by rw [itHit,hm,decide_eq_true hk]; rfl
  refine ⟨?_,?_,hg⟩
  · rw [itS,List.take_succ_eq_append_getElem hj,List.foldl_append,← itS,← hs]
    simp only [List.foldl_cons,List.foldl_nil,itOne,if_pos hk,hm]
  · rw [itL,List.take_succ_eq_append_getElem hj,List.filter_append,← itL,← hl]
    simp [hg]
theorem itOne_ok (h1 : ss.length = n) (h2 : ∀ x ∈ ss,0 ≤ x ∧ x ≤ 1000000) (b : TBody) : (itOne n bs ss b).length = n ∧ ∀ x ∈ itOne n bs ss b,0 ≤ x ∧ x ≤ 1000000 := by
  unfold itOne
  split
  · split
    · exact ⟨h1,h2⟩
    · exact ⟨by rw [addM_len]; exact h1,addM_rng h2⟩
  · exact ⟨h1,h2⟩
theorem itF_ok : ∀ (t : List TBody) {ss : List Int},ss.length = n → (∀ x ∈ ss,0 ≤ x ∧ x ≤ 1000000) → (t.foldl (itOne n bs) ss).length = n ∧ ∀ x ∈ t.foldl (itOne n bs) ss,0 ≤ x ∧ x ≤ 1000000
  | [],_,h1,h2 => ⟨h1,h2⟩
  | b :: t,_,h1,h2 => by
    have := itOne_ok (bs := bs) h1 h2 b
    exact itF_ok t this.1 this.2
theorem itS_ok (h1 : ss.length = n) (h2 : ∀ x ∈ ss,0 ≤ x ∧ x ≤ 1000000) : (itS n bs t ss j).length = n ∧ ∀ x ∈ itS n bs t ss j,0 ≤ x ∧ x ≤ 1000000 := itF_ok _ h1 h2
theorem itL_le : (itL n bs t j).length ≤ j := by
  have := List.length_filter_le (fun b => !itHit n bs b) (t.take j)
  rw [itL]
  rw [List.length_take] at this
  omega
theorem keep_eq : ∀ j,(shL n t s j).filter (fun b => !itHit n bs b) = keepR n t s bs j
  | 0 => rfl
  | j + 1 => by
    have ih := keep_eq j
    rw [shL,keepR,shF]
    cases t[j]? with
    | none => exact ih
    | some b =>
      simp only
      by_cases hg : shGone n (shS n t s j).1 b = true
      · rw [if_pos hg,if_pos (by rw [hg]; rfl),ih]
      · have hg' : shGone n (shS n t s j).1 b = false := by simpa using hg
        have hc : (shGone n (shS n t s j).1 b || itHit n bs b) = itHit n bs b := by rw [hg',Bool.false_or]
        by_cases h : itHit n bs b = true
        · rw [if_neg hg,if_pos (by rw [hc]; exact h),List.filter_append,ih]
          simp [h]
        · rw [if_neg hg,if_neg (by rw [hc]; exact h),List.filter_append,ih]
          simp [h]
theorem keepR_le : ∀ j,(keepR n t s bs j).length ≤ j
  | 0 => Nat.le_refl _
  | j + 1 => by
    have := keepR_le j
    rw [keepR]
    split
    · omega
    · split
      · omega
      · rw [List.length_append]; simp; omega
theorem fold_eq : ∀ j,(shL n t s j).foldl (itOne n bs) ss = (t.take j).foldl (itOne n bs) ss
  | 0 => rfl
  | j + 1 => by
    rw [shL]
    cases h : t[j]? with
    | none =>
      simp only
      have := List.getElem?_eq_none_iff.1 h
      rw [fold_eq j,List.take_of_length_le (by omega),List.take_of_length_le (by omega)]
    | some b =>
      obtain ⟨hj,rfl⟩ := List.getElem?_eq_some_iff.1 h
      simp only
      rw [List.take_succ_eq_append_getElem hj,List.foldl_append]
      cases hg : shGone n (shS n t s j).1 t[j] with
      | true =>
        rw [if_pos rfl,fold_eq j]
        have hk : t[j].Kind = 1 := by rw [shGone,Bool.and_eq_true,decide_eq_true_eq] at hg; exact hg.1
        simp only [List.foldl_cons,List.foldl_nil,itOne]
        rw [if_neg (by omega)]
      | false => rw [if_neg (by simp),List.foldl_append,fold_eq j]
end
/-- Bodies and scores after shots and items, ass the program does it. -/
def hitsP (n : Nat) (bs : List TBody) (ss : List Int) : List TBody × List Int :=
  let s := shS n (bs.drop n) (bs,ss) (bs.drop n).length
  let b := s.1.take n ++ shL n (bs.drop n) (bs,ss) (bs.drop n).length
  (b.take n ++ itL n b (b.drop n) (b.drop n).length,itS n b (b.drop n) s.2 (b.drop n).length)
/-- As the reference does it. -/
def hitsR (n : Nat) (bs : List TBody) (ss : List Int) : List TBody × List Int :=
  let t := bs.drop n
  let s := shS n t (bs,ss) t.length
  (s.1.take n ++ keepR n t (bs,ss) s.1 t.length,itS n s.1 t s.2 t.length)
theorem hits_eq {l : TLevel} {n : Nat} {bs : List TBody} {ss : List Int} (h : LM l n bs) (h1 : ss.length = n) (h2 : ∀ x ∈ ss,0 ≤ x ∧ x ≤ 1000000) : hitsP n bs ss = hitsR n bs ss := by
  have hS := (SI.start h h1 h2).all (bs.drop n) (bs.drop n).length
  obtain ⟨s,hs⟩ : ∃ s,s = shS n (bs.drop n) (bs,ss) (bs.drop n).length := ⟨_,rfl⟩
  obtain ⟨c,hc⟩ : ∃ c,c = shL n (bs.drop n) (bs,ss) (bs.drop n).length := ⟨_,rfl⟩
  rw [← hs] at hS
  have hlen := hS.lm.len
  have e1 : (s.1.take n ++ c).take n = s.1.take n := by
    rw [List.take_append_of_le_length (by rw [List.length_take]; omega),List.take_take,Nat.min_self]
  have e2 : (s.1.take n ++ c).drop n = c := by
    rw [List.drop_append_of_le_length (by rw [List.length_take]; omega),List.drop_of_length_le (by rw [List.length_take]; omega),List.nil_append]
  have e3 : ∀ b o,metF (s.1.take n ++ c) b o n = metF s.1 b o n := fun b o => metF_congr fun k hk => by
    rw [List.getElem?_append_left (by rw [List.length_take]; omega),List.getElem?_take_of_lt hk]
  have e4 : itHit n (s.1.take n ++ c) = itHit n s.1 := by
    funext b
    rw [itHit,itHit,e3]
  have e5 : itOne n (s.1.take n ++ c) = itOne n s.1 := by
    funext ss b
    rw [itOne,itOne,e3]
  simp only [hitsP,hitsR,← hs,← hc,e1,e2,itL,itS,List.take_length,e4,e5]
  congr 1
  · congr 1
    rw [hc,keep_eq]
  · rw [hc,fold_eq,List.take_length]
end Go.Proofs.Ytmljakmaffbnlaa
end

section
set_option linter.unusedSimpArgs false
set_option linter.unusedVariables false
namespace Go.Proofs.Ytmljakmaffbnlaa
open Go.RowKit

section
variable {P : Program} {ops : Array Oper} {o : Oper} {st : St} {t : TypeId} {y z u : Operand} {rs qs : List Nat} {i j : Int} {m n : Nat} {k : IntKind}
theorem q_tl {p kk : Nat} {es : List (List T)} {e : TypeId} {zs : List Value} {by_ : Nat} [hm : TyMake P t e zs by_] (ho : o.op = .slice t y (some u) none none) (hg : o.guard = none) (hy : st.ev y = .o (.c (.ref p))) (hp : st.objs[p]? = some (.row kk es)) (hu : st.ev u = .o (.c (.rd rs (.v (.int .i64 j))))) (hkz : kk = zs.length) (h0 : 0 ≤ j ∧ j ≤ es.length) : Qt P ops o st (.o (.c (.tl p kk j.toNat))) [] m :=
  .pure hg fun a w H F h1 => by
    obtain ⟨v,fp,e1,e2⟩ := h1.ow hp
    obtain ⟨x',fp',e3⟩ := h1.v1 hy
    rw [e1] at e3
    simp only [Pc.ow.injEq] at e3
    obtain ⟨_,hv,_⟩ := e3
    obtain ⟨A,c,hvA,hc⟩ : ∃ A c,v = .slice A es.length c ∧ es.length ≤ c := by
      rcases e2.open_ with ⟨rfl,rfl,rfl⟩ | ⟨b,o,c,tid,cur,fz,val,fps,rfl,_,_,_,hc,_⟩
      · exact ⟨none,0,rfl,Nat.le_refl _⟩
      · exact ⟨_,c,rfl,hc⟩
    have hrun := run_slice (P := P) (w := w) (t := t) (e := e) (zs := zs) (by_ := by_) (A := A) (m := es.length) (c := c) (some j) none j.toNat es.length ⟨h0.1,rfl⟩ rfl (by omega) hc
    refine ⟨.slice (if c = j.toNat then A else A.map (·.add (j.toNat * zs.length))) (es.length - j.toNat) (c - j.toNat),?_,?_⟩
    · have hu1 := h1.plain hu
      have hvy : a.eval y = .slice A es.length c := by rw [← hv,hvA]
      unfold execOp
      simp only [ho,Option.map_none,Option.map_some,hu1,hvy,Sem.run_bind]
      simp only [Option.map_none,Option.map_some] at hrun
      rw [hrun]
      rfl
    · exact ⟨A,_,es.length,c,_,_,by rw [e1,hvA],rfl,fun hlt => by rw [if_neg (by omega),hkz]⟩
theorem tl_form {w : World} {H : Hs} {F : Nat → Prop} {a : Act} (h1 : R0 w H F st a) {p kk q : Nat} {es : List (List T)} (hy : st.ev y = .o (.c (.tl p kk q))) (hp : st.objs[p]? = some (.row kk es)) :
    ∃ A A' c fp,H p = .ow (.sl kk es) (.slice A es.length c) fp ∧ a.eval y = .slice A' (es.length - q) (c - q) ∧ (q < es.length → A' = A.map (·.add (q * kk))) ∧ OW w (.sl kk es) (.slice A es.length c) fp ∧ es.length ≤ c := by
  obtain ⟨v,fp,e1,e2⟩ := h1.ow hp
  obtain ⟨A,A',m,c,x,fp',e3,hv,hA⟩ := h1.v1 hy
  rw [e1] at e3
  simp only [Pc.ow.injEq] at e3
  obtain ⟨rfl,rfl,rfl⟩ := e3
  have hm : m = es.length ∧ es.length ≤ c := by
    rcases e2.open_ with ⟨h,rfl,rfl⟩ | ⟨b,o,c',tid,cur,fz,val,fps,h,_,_,_,hc,_⟩
    · cases h; exact ⟨rfl,Nat.le_refl _⟩
    · cases h; exact ⟨rfl,hc⟩
  obtain ⟨rfl,hc⟩ := hm
  exact ⟨A,A',c,fp,e1,hv,hA,e2,hc⟩
theorem q_lentl {p kk q : Nat} {es : List (List T)} {e : TypeId} {zs : List Value} {by_ : Nat} [hm : TyMake P t e zs by_] (ho : o.op = .call { callee := .builtin .len,args := #[y],argTypes := #[t] }) (hg : o.guard = none) (hy : st.ev y = .o (.c (.tl p kk q))) (hp : st.objs[p]? = some (.row kk es)) : Qt P ops o st (I ((es.length - q : Nat) : Int)) [] n :=
  .pure hg fun a w H F hr => ⟨.int .i64 ((es.length - q : Nat) : Int),by
    obtain ⟨A,A',c,fp,_,hv,_⟩ := tl_form hr hy hp
    exact len_run ho hv,plainV _ rfl⟩
theorem q_attl {p kk q : Nat} {es : List (List T)} {et : TypeId} {zs : List Value} {by_ : Nat} [hm : TyMake P t et zs by_] (ho : o.op = .indexAddr t y z) (hg : o.guard = none) (hy : st.ev y = .o (.c (.tl p kk q))) (hz : st.ev z = .o (.c (.rd qs (.v (.int k i))))) (hp : st.objs[p]? = some (.row kk es)) (hkz : kk = zs.length) (h0 : 0 ≤ i) (hi : q + i < es.length) :
    Qt P ops o st (.o (.c (.el p kk (q + i.toNat) 0))) [] n :=
  .pure hg fun a w H F hr => by
    obtain ⟨A,A',c,fp,e1,hv,hA,e2,hc⟩ := tl_form hr hy hp
    have h2 := hr.plain hz
    have hx : es[q + i.toNat]? = some es[q + i.toNat] := List.getElem?_eq_getElem (by omega)
    obtain ⟨b,o',c',h1,_⟩ := RO.at_ e2.ro hx
    cases h1
    have hA2 := hA (by omega)
    simp only [Option.map_some] at hA2
    refine ⟨.pointer (some ⟨b,o' + q * kk + i.toNat * zs.length,none⟩),?_,b,o',es.length,c,.sl kk es,fp,e1,by rw [← hkz,Nat.add_mul]; simp [Nat.add_assoc]⟩
    rw [hA2] at hv
    have hv2 : a.eval y = .slice (some ⟨b,o' + q * kk,none⟩) (es.length - q) (c - q) := by rw [hv]; simp [Addr.add]
    simp only [execOp,ho,hv2,h2,Sem.run_bind,run_indexAt_sl (P := P) (w := w) t b (o' + q * kk) (es.length - q) (c - q) k i h0 (by omega),Result.andThen_ok]
    rfl
end
end Go.Proofs.Ytmljakmaffbnlaa
end

section
set_option linter.unusedSimpArgs false
set_option linter.unusedVariables false
set_option maxRecDepth 8000
namespace Go.Proofs.Ytmljakmaffbnlaa
open Go.RowKit

theorem st_el {bs : List TBody} {i j : Nat} {p p' : TBody} {ts : List T} (h : splice (Enc.e p) j ts = Enc.e p') : els (bs.set i p') = (els (bs.set i p)).set i (splice (Enc.e p) j ts) := by
  rw [h,els,els,← List.map_set,List.set_set]
theorem st_el0 {bs : List TBody} {i j : Nat} {p p' : TBody} {ts : List T} (h : splice (Enc.e p) j ts = Enc.e p') : els (bs.set i p') = (els bs).set i (splice (Enc.e p) j ts) := by
  rw [h,els,els,← List.map_set]
def lifeM (p : TBody) : TBody := ⟨p.Kind,p.Owner,p.X,p.Y,p.VX,p.VY,p.Aim,p.Life - 1,p.Timer⟩
def stopX (p : TBody) : TBody := ⟨p.Kind,p.Owner,p.X,p.Y,0,p.VY,p.Aim,p.Life - 1,p.Timer⟩
def stopY (p : TBody) : TBody := ⟨p.Kind,p.Owner,p.X,p.Y,0,0,p.Aim,p.Life - 1,p.Timer⟩
def downM (p : TBody) : TBody := ⟨p.Kind,p.Owner,p.X,p.Y,0,0,p.Aim,p.Life - 1,20⟩
theorem hit_alive {p : TBody} (h : ¬ p.Life - 1 = 0) : hitB p = lifeM p := by simp only [hitB,lifeM,if_neg h]
theorem hit_down {p : TBody} (h : p.Life - 1 = 0) : hitB p = downM p := by simp only [hitB,downM,if_pos h]
theorem met_I {bs : List TBody} {b : TBody} {o : Int} {n k : Nat} (h : metF bs b o n = some k) : metI bs b o n = k := by rw [metI,h]
theorem met_no {bs : List TBody} {b : TBody} {o : Int} {n : Nat} (h : metF bs b o n = none) : metI bs b o n = -1 := by rw [metI,h]
theorem tl_el {bs : List TBody} {ss : List Int} {k : Nat} {b : TBody} (h : bs[ss.length + k]? = some b) : (els bs)[(els ss).length + (k : Int).toNat]? = some (Enc.e b) := by
  rw [els_len,Int.toNat_natCast,els,List.getElem?_map,h]; rfl
theorem tk_app {bs lf : List TBody} {n m : Nat} (h : m = n) : els (bs.take n ++ lf) = (els bs).take m ++ els lf := by rw [h,els_app,els_takeE2]
theorem els_pl9 (bs : List TBody) : plainT (els bs) := fun e he t ht => by
  obtain ⟨x,_,rfl⟩ := List.mem_map.1 he
  simp only [Enc.e] at ht
  revert ht
  simp only [List.mem_cons,List.not_mem_nil,or_false]
  rintro (rfl | rfl | rfl | rfl | rfl | rfl | rfl | rfl | rfl) <;> exact ⟨_,rfl⟩
theorem els_k9 (bs : List TBody) : ∀ e ∈ els bs,e.length = 9 := fun e he => by
  obtain ⟨x,_,rfl⟩ := List.mem_map.1 he
  rfl
set_option maxHeartbeats 8000000 in
theorem I_stepShots (w : TWorld) (hg : Enc.gd w.Level) (hl : levelOk w.Level = true) (hn4 : 1 ≤ w.Scores.length ∧ w.Scores.length ≤ 4) (hL : LM w.Level w.Scores.length w.Bodies) (hsc : ∀ x ∈ w.Scores,0 ≤ x ∧ x ≤ 1000000) : Con Try.prog 110 [.box [.ref 1,jn w.Tick,jn w.Seed,.ref 2,.ref 3],.row 1 (els w.Level.Rows),.row 1 (els w.Scores),.row 9 (els w.Bodies),.gh 0 (.c (.ptr 0 0))] [.c (.ptr 0 0)] [.box [.ref 1,jn w.Tick,jn w.Seed,.ref 2,.ref 3],.row 1 (els w.Level.Rows),.row 1 (els (shS w.Scores.length (w.Bodies.drop w.Scores.length) (w.Bodies,w.Scores) (w.Bodies.drop w.Scores.length).length).2),.row 9 (els ((shS w.Scores.length (w.Bodies.drop w.Scores.length) (w.Bodies,w.Scores) (w.Bodies.drop w.Scores.length).length).1.take w.Scores.length ++ shL w.Scores.length (w.Bodies.drop w.Scores.length) (w.Bodies,w.Scores) (w.Bodies.drop w.Scores.length).length)),.gh 0 (.c (.ptr 0 0))] (.tu []) := by
  have hlb := els_len w.Bodies
  have hls := els_len w.Scores
  have hln := hL.len
  have hT : (w.Bodies.drop w.Scores.length).length = w.Bodies.length - w.Scores.length := List.length_drop
  refine Con.of Try.func110 rfl Try.ntmps110 rfl (fun E => ?_)
  refine Qd (Qc ?_);refine M0 (Qb J J J) J J ?_;refine Qe (Q0 (Qd (Qd ?_)))
  refine AWP.pre ?_ (W_nil 2 9 rfl)
  refine A_draw [[],[0],[0,1],[0,1,2],[],[4],[4,5],[4,5,6],[4,5,6,7],[0,1,2,3,4,5,6,7,8],[0,1,2,3,4,5,6,7,8,9],[]] [[],[7],[7,8],[7,8,9],[],[11],[11,12],[11,12,13],[11,12,13,14],[7,8,9,10,11,12,13,14,15],[7,8,9,10,11,12,13,14,15,16],[]] [[11,12,13,14,15,18],[11,12,13,14,15,18],[11,12,13,14,15,18],[11,12,13,14,15,18],[7,8,9,10,18],[7,8,9,10,18],[7,8,9,10,18],[7,8,9,10,18],[7,8,9,10,18],[18],[18],[7,8,9,10,11,12,13,14,15,16,17],[0]] rfl ?_
  refine DR.step (Qa J J J) J J ?_;refine DR.step (Qz J J J) J J ?_;refine DR.step (Qf J J J J (by decide)) J J ?_
  refine DR.step (Qg J J J J J) J J ?_;refine DR.step (Qa J J J) J J ?_;refine DR.step (Qz J J J) J J ?_
  refine DR.step (Qf J J J J (by decide)) J J ?_;refine DR.step (Qg J J J J J) J J ?_;refine DR.step (q_lenr J J J J) J J ?_
  refine DR.step (q_tl J J J J J J (by omega)) J J ?_;refine DR.step (q_lentl J J J J) J J ?_;refine DR.step (Qa J J J) J J ?_
  refine DR.stop (by kernel_rfl) (by kernel_rfl) ?_
  refine Qe (Q0 (Qk ?_))
  refine AWP.pre (st' := (⟨_,[(0,.o (.c (.ptr 0 0))),(2,.o (.c (.ref 5))),(16,.o (.c (.tl 3 9 (els w.Scores).length))),(17,I (((els w.Bodies).length - (els w.Scores).length : Nat) : Int)),(18,I 0)],[.box [.ref 1,jn w.Tick,jn w.Seed,.ref 2,.ref 3],.row 1 (els w.Level.Rows),.row 1 (els w.Scores),.row 9 (els w.Bodies),.gh 0 (.c (.ptr 0 0)),.row 9 []]⟩ : St)) ?_ (W_go [0,1,2,3,4,5] (by decide) rfl (rfl) (.cons rfl (.cons rfl (.cons rfl (.cons rfl (.cons rfl (.nil)))))))
  refine A_loop (fun m__ st => ∃ (k : Nat) (bs : List TBody) (ss : List Int) (lf : List TBody),(w.Bodies.drop w.Scores.length).length - k = m__ ∧ (k ≤ (w.Bodies.drop w.Scores.length).length ∧ (bs,ss) = shS w.Scores.length (w.Bodies.drop w.Scores.length) (w.Bodies,w.Scores) k ∧ lf = shL w.Scores.length (w.Bodies.drop w.Scores.length) (w.Bodies,w.Scores) k) ∧ st = (fun (k : Nat) (bs : List TBody) (ss : List Int) (lf : List TBody) => (⟨_,[(0,.o (.c (.ptr 0 0))),(2,.o (.c (.ref 5))),(16,.o (.c (.tl 3 9 (els w.Scores).length))),(17,I (((els w.Bodies).length - (els w.Scores).length : Nat) : Int)),(18,I k)],[.box [.ref 1,jn w.Tick,jn w.Seed,.ref 2,.ref 3],.row 1 (els w.Level.Rows),.row 1 (els ss),.row 9 (els bs),.gh 0 (.c (.ptr 0 0)),.row 9 (els lf)]⟩ : St)) (k) (bs) (ss) (lf)) ((fun (k : Nat) (bs : List TBody) (ss : List Int) (lf : List TBody) => (w.Bodies.drop w.Scores.length).length - k) (0) (w.Bodies) (w.Scores) ([])) ⟨(fun (k : Nat) (bs : List TBody) (ss : List Int) (lf : List TBody) => (⟨_,[(0,.o (.c (.ptr 0 0))),(2,.o (.c (.ref 5))),(16,.o (.c (.tl 3 9 (els w.Scores).length))),(17,I (((els w.Bodies).length - (els w.Scores).length : Nat) : Int)),(18,I k)],[.box [.ref 1,jn w.Tick,jn w.Seed,.ref 2,.ref 3],.row 1 (els w.Level.Rows),.row 1 (els ss),.row 9 (els bs),.gh 0 (.c (.ptr 0 0)),.row 9 (els lf)]⟩ : St)) (0) (w.Bodies) (w.Scores) ([]),W_go [0,1,2,3,4,5] (by decide) rfl (rfl) (.cons rfl (.cons rfl (.cons rfl (.cons rfl (.cons rfl (.nil)))))),0,w.Bodies,w.Scores,[],rfl,⟨by omega,rfl,rfl⟩,rfl⟩ ?_
  rintro m_A _ ⟨k,bs,ss,lf,hk_A,hp_A,rfl⟩
  obtain ⟨hk,hs,hlf⟩ := hp_A
  have hS := (SI.start hL rfl hsc).all (w.Bodies.drop w.Scores.length) k
  rw [← hs] at hS
  obtain ⟨hSL,hSn,hSt,hSs,hSc⟩ := hS
  simp only at hSL hSn hSt hSs hSc
  have hll := els_len lf
  have hlk : lf.length ≤ k := by rw [hlf]; exact shL_le k
  have hlbs := els_len bs
  have hlss := els_len ss
  by_cases hlt : k < (w.Bodies.drop w.Scores.length).length
  · have hb0 : decide ((k : Int) < (((els w.Bodies).length - (els w.Scores).length : Nat) : Int)) = true := decide_eq_true (by omega)
    obtain ⟨b,hb⟩ := some_sm hlt
    have hbb : bs[w.Scores.length + k]? = some b := by rw [hSt _ (by omega),← List.getElem?_drop]; exact hb
    have hB := (hSL.at_ _ b hbb).1
    have hpl := (hB.placed hl).1
    refine Qd (Qc ?_);refine M0 (Qr J J J J (by assumption)) J J ?_;refine Qe (Q0 (Qd ?_));refine Qm rfl ?_;refine Qh ?_
    refine Q0 (Qd (Qk (Qd (Qc ?_))));refine M0 (q_attl J J J J J J (by omega) (by omega)) J J ?_
    have he := tl_el hbb
    with_reducible refine Xf ?_
    refine M0 (Q6 J J J J (by assumption) J J) J J ?_
    with_reducible refine K_alloc ?_
    refine M1 (Qx J J J) J J ?_
    with_reducible refine Xe ?_
    refine Qy J J J J J J J J J ?_
    refine Qe ?_
    refine Q0 ?_
    refine AWP.pre (st' := (⟨_,[(0,.o (.c (.ptr 0 0))),(2,.o (.c (.ref 5))),(16,.o (.c (.tl 3 9 (els w.Scores).length))),(17,I (((els w.Bodies).length - (els w.Scores).length : Nat) : Int)),(18,I k),(4,.o (.c (.ptr 6 0)))],[.box [.ref 1,jn w.Tick,jn w.Seed,.ref 2,.ref 3],.row 1 (els w.Level.Rows),.row 1 (els ss),.row 9 (els bs),.gh 0 (.c (.ptr 0 0)),.row 9 (els lf),.box ((Enc.e b).map (V1.rd []))]⟩ : St)) ?_ (W_go [0,1,2,3,4,5,6] (by decide) rfl (rfl) (.cons rfl (.cons rfl (.cons rfl (.cons rfl (.cons rfl (.cons rfl (.nil))))))))
    clear he
    by_cases hK : b.Kind = 1
    case neg =>
      have f1 : decide (b.Kind ≠ 1) = true := decide_eq_true hK
      obtain ⟨n1,n2,_⟩ := sh_skip hb hK hs hlf
      refine Qd (Qd (Qc ?_));refine M0 (Qf J J J J (by decide)) J J ?_;refine M0 (Qg J J J J J) J J ?_
      refine M0 (Qw J J J J (by assumption)) J J ?_;refine Qe (Q0 ?_);refine Qm rfl ?_;refine Qd (Qc ?_)
      refine M0 (Qa J J J) J J ?_;refine M0 (Qu J J J J J J) J J ?_;refine M1 (q_bslice J J J J J J) J J ?_
      refine M_appo J J J J J J J J J J J J J J (by omega) (by omega) ?_;refine M0 (Qb J J J) J J ?_;refine Qe (Q0 ?_)
      refine Q9 (T_x (B_xs (Q0 (Qc ?_))));refine M0 (Qs J J J J (by omega)) J J ?_;refine M0 (Qa J J J) J J ?_
      refine Qe (Q0 ?_)
      refine ⟨(w.Bodies.drop w.Scores.length).length - (k + 1),(by omega),(fun (k : Nat) (bs : List TBody) (ss : List Int) (lf : List TBody) => (⟨_,[(0,.o (.c (.ptr 0 0))),(2,.o (.c (.ref 5))),(16,.o (.c (.tl 3 9 (els w.Scores).length))),(17,I (((els w.Bodies).length - (els w.Scores).length : Nat) : Int)),(18,I k)],[.box [.ref 1,jn w.Tick,jn w.Seed,.ref 2,.ref 3],.row 1 (els w.Level.Rows),.row 1 (els ss),.row 9 (els bs),.gh 0 (.c (.ptr 0 0)),.row 9 (els lf)]⟩ : St)) (k + 1) (bs) (ss) (lf ++ [b]),W_go [0,1,2,3,4,5] (by decide) rfl (rw6 (by rw [els_app]; rfl)) (.cons rfl (.cons rfl (.cons rfl (.cons rfl (.cons rfl (.nil)))))),k + 1,bs,ss,lf ++ [b],rfl,⟨by omega,n1,n2⟩,rfl⟩
    have f1 : decide (b.Kind ≠ 1) = false := decide_eq_false (fun q => q hK)
    have cm := I_playerMet ⟨w.Level,w.Tick,w.Seed,ss,bs⟩ b b.Owner (by simp only; omega) (by simp only; omega) (fun j p _ h => ((hSL.at_ j p h).1.placed hl).1) hpl
    simp only [hSs] at cm
    refine Qd (Qd (Qc ?_));refine M0 (Qf J J J J (by decide)) J J ?_;refine M0 (Qg J J J J J) J J ?_
    refine M0 (Qw J J J J (by assumption)) J J ?_;refine Qe (Q0 ?_);refine Ql rfl ?_;refine Qh (Q0 (Qd (Qc ?_)))
    refine M0 (Qa J J J) J J ?_;refine M0 (Qu J J J J J J) J J ?_;refine M0 (Qf J J J J (by decide)) J J ?_
    refine M0 (Qg J J J J J) J J ?_
    refine Xd (lo := [_,_,_,_]) (gs := [(0,.c (.ptr 0 0)),(6,.c (.ref 3))]) (lo' := [_,_,_,_]) (new := []) [0,1,2,3] [(0,0,.ptr 0 0),(1,0,.ref 3)] (cm) J J J J J J J J J J J J J J J J J ?_
    refine M0 (Qb J J J) J J ?_;refine Qe (Q0 (Qd (Qd (Qc ?_))));refine M0 (Qa J J J) J J ?_
    refine M0 (q_lss J J J J) J J ?_;refine Qe (Q0 ?_)
    refine AWP.pre (st' := (⟨_,[(0,.o (.c (.ptr 0 0))),(2,.o (.c (.ref 5))),(16,.o (.c (.tl 3 9 (els w.Scores).length))),(17,I (((els w.Bodies).length - (els w.Scores).length : Nat) : Int)),(18,I k),(4,.o (.c (.ptr 6 0))),(5,I (metI bs b b.Owner w.Scores.length)),(35,B (decide (metI bs b b.Owner w.Scores.length < 0)))],[.box [.ref 1,jn w.Tick,jn w.Seed,.ref 2,.ref 3],.row 1 (els w.Level.Rows),.row 1 (els ss),.row 9 (els bs),.gh 0 (.c (.ptr 0 0)),.row 9 (els lf),.box ((Enc.e b).map (V1.rd []))]⟩ : St)) ?_ (W_go [0,1,2,3,4,5,6] (by decide) rfl (rfl) (.cons rfl (.cons rfl (.cons rfl (.cons rfl (.cons rfl (.cons rfl (.cons rfl (.cons rfl (.nil))))))))))
    cases hm : metF bs b b.Owner w.Scores.length with
    | none =>
      obtain ⟨mi,hmi⟩ : ∃ mi : Int,metI bs b b.Owner w.Scores.length = mi := ⟨_,rfl⟩
      rw [hmi]
      rw [met_no hm] at hmi
      have f2 : decide (mi < 0) = true := decide_eq_true (by omega)
      rw [f2]
      obtain ⟨n1,n2,_⟩ := sh_miss hb hm hs hlf
      refine Qm rfl ?_;refine Qd (Qc ?_);refine M0 (Qa J J J) J J ?_;refine M0 (Qu J J J J J J) J J ?_
      refine M1 (q_bslice J J J J J J) J J ?_;refine M_appo J J J J J J J J J J J J J J (by omega) (by omega) ?_
      refine M0 (Qb J J J) J J ?_;refine Qe (Q0 (Q9 (T_x (B_xs (Q0 (Qc ?_))))))
      refine M0 (Qs J J J J (by omega)) J J ?_;refine M0 (Qa J J J) J J ?_;refine Qe (Q0 ?_)
      refine ⟨(w.Bodies.drop w.Scores.length).length - (k + 1),(by omega),(fun (k : Nat) (bs : List TBody) (ss : List Int) (lf : List TBody) => (⟨_,[(0,.o (.c (.ptr 0 0))),(2,.o (.c (.ref 5))),(16,.o (.c (.tl 3 9 (els w.Scores).length))),(17,I (((els w.Bodies).length - (els w.Scores).length : Nat) : Int)),(18,I k)],[.box [.ref 1,jn w.Tick,jn w.Seed,.ref 2,.ref 3],.row 1 (els w.Level.Rows),.row 1 (els ss),.row 9 (els bs),.gh 0 (.c (.ptr 0 0)),.row 9 (els lf)]⟩ : St)) (k + 1) (bs) (ss) (lf ++ [b]),W_go [0,1,2,3,4,5] (by decide) rfl (rw6 (by rw [els_app]; rfl)) (.cons rfl (.cons rfl (.cons rfl (.cons rfl (.cons rfl (.nil)))))),k + 1,bs,ss,lf ++ [b],rfl,⟨by omega,n1,n2⟩,rfl⟩
    | some j =>
      rw [met_I hm]
      have f2 : decide ((j : Int) < 0) = false := decide_eq_false (by omega)
      obtain ⟨hj,hc⟩ := metF_lt hm
      obtain ⟨p,hp,hpl,_,_⟩ := metC_life hc
      have hpB := (hSL.at_ j p hp).1.f
      have hjl := getE_lt hp
      obtain ⟨n1,n2,_⟩ := sh_hit hb hK hm hp hs hlf
      have he := els_sm hp
      refine Ql rfl ?_;refine Qh (Q0 (Qd (Qc ?_)));refine M0 (Qa J J J) J J ?_;refine M0 (Qz J J J) J J ?_
      refine M0 (Qf J J J J (by decide)) J J ?_;refine M0 (Qg J J J J J) J J ?_;refine M0 (Qa J J J) J J ?_
      refine M0 (Q3 J J J J J (by omega) (by omega)) J J ?_;refine M0 (Qb J J J) J J ?_;refine Qe (Q0 (Qd (Qc ?_)))
      refine M0 (Qa J J J) J J ?_;refine M0 (q_nile J J J) J J ?_;refine M0 (q_flde J J J J (by decide)) J J ?_
      refine M0 (Q7 J J J J (by assumption) rfl) J J ?_;refine M0 (Xc J J J J (by omega)) J J ?_;refine M0 (q_nile J J J) J J ?_
      refine M0 (q_flde J J J J (by decide)) J J ?_;refine Xh J J J J J J J J J (by assumption) J J ?_;refine Qe (Q0 (Qd ?_))
      refine Qc ?_;refine M0 (Qa J J J) J J ?_;refine M0 (q_nile J J J) J J ?_;refine M0 (q_flde J J J J (by decide)) J J ?_
      refine AL.weak (st' := (⟨_,[(0,.o (.c (.ptr 0 0))),(2,.o (.c (.ref 5))),(16,.o (.c (.tl 3 9 (els w.Scores).length))),(17,I (((els w.Bodies).length - (els w.Scores).length : Nat) : Int)),(18,I k),(4,.o (.c (.ptr 6 0))),(6,.o (.c (.el 3 9 j 0))),(55,.o (.c (.el 3 9 j 7)))],[.box [.ref 1,jn w.Tick,jn w.Seed,.ref 2,.ref 3],.row 1 (els w.Level.Rows),.row 1 (els ss),.row 9 (els (bs.set j (lifeM p))),.gh 0 (.c (.ptr 0 0)),.row 9 (els lf),.box ((Enc.e b).map (V1.rd []))]⟩ : St)) (W_go [0,1,2,3,4,5,6] (by decide) rfl ((by exact rwBo (st_el0 rfl))) (.cons rfl (.cons rfl (.cons rfl (.cons rfl (.cons rfl (.cons rfl (.cons rfl (.cons rfl (.nil)))))))))) ?_
      clear he
      have he : (els (bs.set j (lifeM p)))[(j : Int).toNat]? = some (Enc.e (lifeM p)) := els_sm (by rw [List.getElem?_set_self hjl])
      by_cases hz : p.Life - 1 = 0
      case neg =>
        have f3 : decide (p.Life - 1 = 0) = false := decide_eq_false hz
        rw [hit_alive hz,if_neg hz] at n1
        refine M0 (Q7 J J J J (by assumption) rfl) J J ?_;refine M0 (Qv J J J J (by assumption)) J J ?_;refine Qe (Q0 ?_);refine Ql rfl ?_
        refine Qh (Q1 (Q0 (Qc ?_)));refine M0 (Qs J J J J (by omega)) J J ?_;refine M0 (Qa J J J) J J ?_;refine Qe ?_
        refine Q0 ?_
        refine ⟨(w.Bodies.drop w.Scores.length).length - (k + 1),(by omega),(fun (k : Nat) (bs : List TBody) (ss : List Int) (lf : List TBody) => (⟨_,[(0,.o (.c (.ptr 0 0))),(2,.o (.c (.ref 5))),(16,.o (.c (.tl 3 9 (els w.Scores).length))),(17,I (((els w.Bodies).length - (els w.Scores).length : Nat) : Int)),(18,I k)],[.box [.ref 1,jn w.Tick,jn w.Seed,.ref 2,.ref 3],.row 1 (els w.Level.Rows),.row 1 (els ss),.row 9 (els bs),.gh 0 (.c (.ptr 0 0)),.row 9 (els lf)]⟩ : St)) (k + 1) (bs.set j (lifeM p)) (ss) (lf),W_go [0,1,2,3,4,5] (by decide) rfl (rfl) (.cons rfl (.cons rfl (.cons rfl (.cons rfl (.cons rfl (.nil)))))),k + 1,bs.set j (lifeM p),ss,lf,rfl,⟨by omega,n1,n2⟩,rfl⟩
      have f3 : decide (p.Life - 1 = 0) = true := decide_eq_true hz
      rw [hit_down hz,if_pos hz] at n1
      have ho := hB.o
      obtain ⟨q,hq⟩ : ∃ q : Nat,b.Owner = q := ⟨b.Owner.toNat,by omega⟩
      obtain ⟨s,hs1⟩ := some_sm (xs := ss) (i := q) (by omega)
      have cp := I_addScore ⟨w.Level,w.Tick,w.Seed,ss,bs.set j (lifeM p)⟩ q s hs1 (hSc s (List.mem_of_getElem? hs1))
      simp only [← hq] at cp
      rw [hq,Int.toNat_natCast] at n1
      refine M0 (Q7 J J J J (by assumption) rfl) J J ?_;refine M0 (Qv J J J J (by assumption)) J J ?_;refine Qe (Q0 ?_);refine Qm rfl ?_
      refine Qd (Qc ?_);refine M0 (Qa J J J) J J ?_;refine M0 (Qf J J J J (by decide)) J J ?_;refine M0 (Qg J J J J J) J J ?_
      refine Xd (lo := [_,_,_,_]) (gs := [(0,.c (.ptr 0 0)),(5,.c (.ref 3))]) (lo' := [_,_,_,_]) (new := []) [0,1,2,3] [(0,0,.ptr 0 0),(1,0,.ref 3)] (cp) J J J J J J J J J J J J J J J J J ?_
      refine Qe (Q0 (Qd (Qc ?_)));refine M0 (Qa J J J) J J ?_;refine M0 (q_nile J J J) J J ?_
      refine M0 (q_flde J J J J (by decide)) J J ?_;refine Xh J J J J J J J J J (by assumption) J J ?_;refine Qe (Q0 (Qd ?_))
      refine Qc ?_;refine M0 (Qa J J J) J J ?_;refine M0 (q_nile J J J) J J ?_;refine M0 (q_flde J J J J (by decide)) J J ?_
      refine AL.weak (st' := (⟨_,[(0,.o (.c (.ptr 0 0))),(2,.o (.c (.ref 5))),(16,.o (.c (.tl 3 9 (els w.Scores).length))),(17,I (((els w.Bodies).length - (els w.Scores).length : Nat) : Int)),(18,I k),(4,.o (.c (.ptr 6 0))),(6,.o (.c (.el 3 9 j 0))),(67,.o (.c (.el 3 9 j 5)))],[.box [.ref 1,jn w.Tick,jn w.Seed,.ref 2,.ref 3],.row 1 (els w.Level.Rows),.row 1 (els (addM ss q)),.row 9 (els (bs.set j (stopX p))),.gh 0 (.c (.ptr 0 0)),.row 9 (els lf),.box ((Enc.e b).map (V1.rd []))]⟩ : St)) (W_go [0,1,2,3,4,5,6] (by decide) rfl ((by exact rwBo (st_el rfl))) (.cons rfl (.cons rfl (.cons rfl (.cons rfl (.cons rfl (.cons rfl (.cons rfl (.cons rfl (.nil)))))))))) ?_
      clear he
      have he : (els (bs.set j (stopX p)))[(j : Int).toNat]? = some (Enc.e (stopX p)) := els_sm (by rw [List.getElem?_set_self hjl])
      refine Xh J J J J J J J J J (by assumption) J J ?_;refine Qe (Q0 (Qc ?_));refine M0 (Qa J J J) J J ?_
      refine M0 (q_nile J J J) J J ?_;refine M0 (q_flde J J J J (by decide)) J J ?_
      refine AL.weak (st' := (⟨_,[(0,.o (.c (.ptr 0 0))),(2,.o (.c (.ref 5))),(16,.o (.c (.tl 3 9 (els w.Scores).length))),(17,I (((els w.Bodies).length - (els w.Scores).length : Nat) : Int)),(18,I k),(4,.o (.c (.ptr 6 0))),(6,.o (.c (.el 3 9 j 0))),(70,.o (.c (.el 3 9 j 8)))],[.box [.ref 1,jn w.Tick,jn w.Seed,.ref 2,.ref 3],.row 1 (els w.Level.Rows),.row 1 (els (addM ss q)),.row 9 (els (bs.set j (stopY p))),.gh 0 (.c (.ptr 0 0)),.row 9 (els lf),.box ((Enc.e b).map (V1.rd []))]⟩ : St)) (W_go [0,1,2,3,4,5,6] (by decide) rfl ((by exact rwBo (st_el rfl))) (.cons rfl (.cons rfl (.cons rfl (.cons rfl (.cons rfl (.cons rfl (.cons rfl (.cons rfl (.nil)))))))))) ?_
      clear he
      have he : (els (bs.set j (stopY p)))[(j : Int).toNat]? = some (Enc.e (stopY p)) := els_sm (by rw [List.getElem?_set_self hjl])
      refine Xh J J J J J J J J J (by assumption) J J ?_;refine Qe (Q1 (Q0 (Qc ?_)))
      refine M0 (Qs J J J J (by omega)) J J ?_;refine M0 (Qa J J J) J J ?_;refine Qe (Q0 ?_)
      refine ⟨(w.Bodies.drop w.Scores.length).length - (k + 1),(by omega),(fun (k : Nat) (bs : List TBody) (ss : List Int) (lf : List TBody) => (⟨_,[(0,.o (.c (.ptr 0 0))),(2,.o (.c (.ref 5))),(16,.o (.c (.tl 3 9 (els w.Scores).length))),(17,I (((els w.Bodies).length - (els w.Scores).length : Nat) : Int)),(18,I k)],[.box [.ref 1,jn w.Tick,jn w.Seed,.ref 2,.ref 3],.row 1 (els w.Level.Rows),.row 1 (els ss),.row 9 (els bs),.gh 0 (.c (.ptr 0 0)),.row 9 (els lf)]⟩ : St)) (k + 1) (bs.set j (downM p)) (addM ss q) (lf),W_go [0,1,2,3,4,5] (by decide) rfl ((by exact rwBo (st_el rfl))) (.cons rfl (.cons rfl (.cons rfl (.cons rfl (.cons rfl (.nil)))))),k + 1,bs.set j (downM p),addM ss q,lf,rfl,⟨by omega,n1,n2⟩,rfl⟩
  · have hb0 : decide ((k : Int) < (((els w.Bodies).length - (els w.Scores).length : Nat) : Int)) = false := decide_eq_false (by omega)
    have hk : k = (w.Bodies.drop w.Scores.length).length := by omega
    rw [hk] at hs hlf
    rw [← hs,← hlf]
    have hq : ((els ss).length : Int).toNat = w.Scores.length := by omega
    have hpl := els_pl9 lf
    have hkk := els_k9 lf
    refine Qd (Qc ?_);refine M0 (Qr J J J J (by assumption)) J J ?_;refine Qe (Q0 (Qd ?_));refine Ql rfl ?_;refine Q9 ?_
    refine T_x (T_x (B_xs (Q0 ?_)))
    refine A_draw [[],[],[1],[1,2],[1,2,3],[],[5],[5,6],[5,6,7],[5,6,7,8],[1,2,3,4,5,6,7,8,9],[],[1,2,3,4,5,6,7,8,9,10,11],[0,1,2,3,4,5,6,7,8,9,10,11,12],[0,1,2,3,4,5,6,7,8,9,10,11,12,13],[0,1,2,3,4,5,6,7,8,9,10,11,12,13,14]] [[],[],[73],[73,74],[73,74,75],[],[77],[77,78],[77,78,79],[77,78,79,80],[73,74,75,76,77,78,79,80,81],[],[73,74,75,76,77,78,79,80,81,82,83],[72,73,74,75,76,77,78,79,80,81,82,83,84],[72,73,74,75,76,77,78,79,80,81,82,83,84,85],[72,73,74,75,76,77,78,79,80,81,82,83,84,85,86]] [[73,74,75,76,77,78,79,80,81,82,83,84],[72,77,78,79,80,81,83],[72,77,78,79,80,81,83],[72,77,78,79,80,81,83],[72,77,78,79,80,81,83],[72,73,74,75,76,83],[72,73,74,75,76,83],[72,73,74,75,76,83],[72,73,74,75,76,83],[72,73,74,75,76,83],[72,83],[72,73,74,75,76,77,78,79,80,81,82],[72],[],[],[],[0,1]] rfl ?_
    refine DR.step (Qa J J J) J J ?_;refine DR.step (Qa J J J) J J ?_;refine DR.step (Qz J J J) J J ?_
    refine DR.step (Qf J J J J (by decide)) J J ?_;refine DR.step (Qg J J J J J) J J ?_;refine DR.step (Qa J J J) J J ?_
    refine DR.step (Qz J J J) J J ?_;refine DR.step (Qf J J J J (by decide)) J J ?_;refine DR.step (Qg J J J J J) J J ?_
    refine DR.step (q_lenr J J J J) J J ?_;refine DR.step (q_hd J J J J J J (by omega)) J J ?_;refine DR.step (Qa J J J) J J ?_
    refine DR.stop (by kernel_rfl) (by kernel_rfl) ?_
    refine AL.weak (Wk.head (p := 3) (els ss).length rfl (by omega) (by repeat' (first | exact trivial | exact rfl | refine And.intro ?_ ?_)) (by repeat' (first | exact trivial | exact rfl | refine And.intro ?_ ?_))) ?_
    have ht2 : ((els bs).take (els ss).length).length = w.Scores.length := by rw [List.length_take]; omega
    refine AL.weak (st' := (⟨_,[(72,.o (.c (.ptr 0 0))),(82,.o (.c (.ref 3))),(83,.o (.c (.ref 5)))],[.box [.ref 1,jn w.Tick,jn w.Seed,.ref 2,.un],.row 1 (els w.Level.Rows),.row 1 (els ss),.row 9 ((els bs).take (els ss).length),.gh 0 (.c (.ptr 0 0)),.row 9 (els lf)]⟩ : St)) (W_go [0,1,2,3,4,5] (by decide) rfl (rfl) (.cons rfl (.cons rfl (.cons rfl (.nil))))) ?_
    refine M_app J J J J J J J J J J hpl hkk (by omega) (by omega) ?_;refine M0 (Qz J J J) J J ?_
    refine M0 (Qf J J J J (by decide)) J J ?_;refine Q5 J J J J J J J J ?_;refine Qe (F_n ?_)
    exact E_none rfl (W_end [0,1,2,3,4] (by decide) rfl (by exact rwBo (tk_app hq)) rfl)
set_option maxHeartbeats 8000000 in
theorem I_stepItems (w : TWorld) (hg : Enc.gd w.Level) (hl : levelOk w.Level = true) (hn4 : 1 ≤ w.Scores.length ∧ w.Scores.length ≤ 4) (hL : LM w.Level w.Scores.length w.Bodies) (hsc : ∀ x ∈ w.Scores,0 ≤ x ∧ x ≤ 1000000) : Con Try.prog 111 [.box [.ref 1,jn w.Tick,jn w.Seed,.ref 2,.ref 3],.row 1 (els w.Level.Rows),.row 1 (els w.Scores),.row 9 (els w.Bodies),.gh 0 (.c (.ptr 0 0))] [.c (.ptr 0 0)] [.box [.ref 1,jn w.Tick,jn w.Seed,.ref 2,.ref 3],.row 1 (els w.Level.Rows),.row 1 (els (itS w.Scores.length w.Bodies (w.Bodies.drop w.Scores.length) w.Scores (w.Bodies.drop w.Scores.length).length)),.row 9 (els (w.Bodies.take w.Scores.length ++ itL w.Scores.length w.Bodies (w.Bodies.drop w.Scores.length) (w.Bodies.drop w.Scores.length).length)),.gh 0 (.c (.ptr 0 0))] (.tu []) := by
  have hlb := els_len w.Bodies
  have hls := els_len w.Scores
  have hln := hL.len
  have hT : (w.Bodies.drop w.Scores.length).length = w.Bodies.length - w.Scores.length := List.length_drop
  refine Con.of Try.func111 rfl Try.ntmps111 rfl (fun E => ?_)
  refine Qd (Qc ?_);refine M0 (Qb J J J) J J ?_;refine Qe (Q0 (Qd (Qd ?_)))
  refine AWP.pre ?_ (W_nil 2 9 rfl)
  refine A_draw [[],[0],[0,1],[0,1,2],[],[4],[4,5],[4,5,6],[4,5,6,7],[0,1,2,3,4,5,6,7,8],[0,1,2,3,4,5,6,7,8,9],[]] [[],[6],[6,7],[6,7,8],[],[10],[10,11],[10,11,12],[10,11,12,13],[6,7,8,9,10,11,12,13,14],[6,7,8,9,10,11,12,13,14,15],[]] [[10,11,12,13,14,17],[10,11,12,13,14,17],[10,11,12,13,14,17],[10,11,12,13,14,17],[6,7,8,9,17],[6,7,8,9,17],[6,7,8,9,17],[6,7,8,9,17],[6,7,8,9,17],[17],[17],[6,7,8,9,10,11,12,13,14,15,16],[0]] rfl ?_
  refine DR.step (Qa J J J) J J ?_;refine DR.step (Qz J J J) J J ?_;refine DR.step (Qf J J J J (by decide)) J J ?_
  refine DR.step (Qg J J J J J) J J ?_;refine DR.step (Qa J J J) J J ?_;refine DR.step (Qz J J J) J J ?_
  refine DR.step (Qf J J J J (by decide)) J J ?_;refine DR.step (Qg J J J J J) J J ?_;refine DR.step (q_lenr J J J J) J J ?_
  refine DR.step (q_tl J J J J J J (by omega)) J J ?_;refine DR.step (q_lentl J J J J) J J ?_;refine DR.step (Qa J J J) J J ?_
  refine DR.stop (by kernel_rfl) (by kernel_rfl) ?_
  refine Qe (Q0 (Qk ?_))
  refine AWP.pre (st' := (⟨_,[(0,.o (.c (.ptr 0 0))),(2,.o (.c (.ref 5))),(15,.o (.c (.tl 3 9 (els w.Scores).length))),(16,I (((els w.Bodies).length - (els w.Scores).length : Nat) : Int)),(17,I 0)],[.box [.ref 1,jn w.Tick,jn w.Seed,.ref 2,.ref 3],.row 1 (els w.Level.Rows),.row 1 (els w.Scores),.row 9 (els w.Bodies),.gh 0 (.c (.ptr 0 0)),.row 9 []]⟩ : St)) ?_ (W_go [0,1,2,3,4,5] (by decide) rfl (rfl) (.cons rfl (.cons rfl (.cons rfl (.cons rfl (.cons rfl (.nil)))))))
  refine A_loop (fun m__ st => ∃ (k : Nat) (ss : List Int) (lf : List TBody),(w.Bodies.drop w.Scores.length).length - k = m__ ∧ (k ≤ (w.Bodies.drop w.Scores.length).length ∧ ss = itS w.Scores.length w.Bodies (w.Bodies.drop w.Scores.length) w.Scores k ∧ lf = itL w.Scores.length w.Bodies (w.Bodies.drop w.Scores.length) k) ∧ st = (fun (k : Nat) (ss : List Int) (lf : List TBody) => (⟨_,[(0,.o (.c (.ptr 0 0))),(2,.o (.c (.ref 5))),(15,.o (.c (.tl 3 9 (els w.Scores).length))),(16,I (((els w.Bodies).length - (els w.Scores).length : Nat) : Int)),(17,I k)],[.box [.ref 1,jn w.Tick,jn w.Seed,.ref 2,.ref 3],.row 1 (els w.Level.Rows),.row 1 (els ss),.row 9 (els w.Bodies),.gh 0 (.c (.ptr 0 0)),.row 9 (els lf)]⟩ : St)) (k) (ss) (lf)) ((fun (k : Nat) (ss : List Int) (lf : List TBody) => (w.Bodies.drop w.Scores.length).length - k) (0) (w.Scores) ([])) ⟨(fun (k : Nat) (ss : List Int) (lf : List TBody) => (⟨_,[(0,.o (.c (.ptr 0 0))),(2,.o (.c (.ref 5))),(15,.o (.c (.tl 3 9 (els w.Scores).length))),(16,I (((els w.Bodies).length - (els w.Scores).length : Nat) : Int)),(17,I k)],[.box [.ref 1,jn w.Tick,jn w.Seed,.ref 2,.ref 3],.row 1 (els w.Level.Rows),.row 1 (els ss),.row 9 (els w.Bodies),.gh 0 (.c (.ptr 0 0)),.row 9 (els lf)]⟩ : St)) (0) (w.Scores) ([]),W_go [0,1,2,3,4,5] (by decide) rfl (rfl) (.cons rfl (.cons rfl (.cons rfl (.cons rfl (.cons rfl (.nil)))))),0,w.Scores,[],rfl,⟨by omega,rfl,rfl⟩,rfl⟩ ?_
  rintro m_A _ ⟨k,ss,lf,hk_A,hp_A,rfl⟩
  obtain ⟨hk,hs,hlf⟩ := hp_A
  have hSs : ss.length = w.Scores.length := by rw [hs]; exact (itS_ok rfl hsc).1
  have hSc : ∀ x ∈ ss,0 ≤ x ∧ x ≤ 1000000 := by rw [hs]; exact (itS_ok rfl hsc).2
  have hll := els_len lf
  have hlk : lf.length ≤ k := by rw [hlf]; exact itL_le
  have hlss := els_len ss
  by_cases hlt : k < (w.Bodies.drop w.Scores.length).length
  · have hb0 : decide ((k : Int) < (((els w.Bodies).length - (els w.Scores).length : Nat) : Int)) = true := decide_eq_true (by omega)
    obtain ⟨b,hb⟩ := some_sm hlt
    have hbb : w.Bodies[w.Scores.length + k]? = some b := by rw [← List.getElem?_drop]; exact hb
    have hB := (hL.at_ _ b hbb).1
    have hpl := (hB.placed hl).1
    refine Qd (Qc ?_);refine M0 (Qr J J J J (by assumption)) J J ?_;refine Qe (Q0 (Qd ?_));refine Qm rfl ?_;refine Qh ?_
    refine Q0 (Qd (Qk (Qd (Qc ?_))));refine M0 (q_attl J J J J J J (by omega) (by omega)) J J ?_
    have he := tl_el hbb
    with_reducible refine Xf ?_
    refine M0 (Q6 J J J J (by assumption) J J) J J ?_
    with_reducible refine K_alloc ?_
    refine M1 (Qx J J J) J J ?_
    with_reducible refine Xe ?_
    refine Qy J J J J J J J J J ?_
    refine Qe ?_
    refine Q0 ?_
    refine AWP.pre (st' := (⟨_,[(0,.o (.c (.ptr 0 0))),(2,.o (.c (.ref 5))),(15,.o (.c (.tl 3 9 (els w.Scores).length))),(16,I (((els w.Bodies).length - (els w.Scores).length : Nat) : Int)),(17,I k),(4,.o (.c (.ptr 6 0)))],[.box [.ref 1,jn w.Tick,jn w.Seed,.ref 2,.ref 3],.row 1 (els w.Level.Rows),.row 1 (els ss),.row 9 (els w.Bodies),.gh 0 (.c (.ptr 0 0)),.row 9 (els lf),.box ((Enc.e b).map (V1.rd []))]⟩ : St)) ?_ (W_go [0,1,2,3,4,5,6] (by decide) rfl (rfl) (.cons rfl (.cons rfl (.cons rfl (.cons rfl (.cons rfl (.cons rfl (.nil))))))))
    clear he
    by_cases hK : b.Kind = 2
    case neg =>
      have f1 : decide (b.Kind = 2) = false := decide_eq_false hK
      obtain ⟨n1,n2,_⟩ := it_skip hb hK hs hlf
      refine Qd (Qd (Qc ?_));refine M0 (Qf J J J J (by decide)) J J ?_;refine M0 (Qg J J J J J) J J ?_
      refine M0 (Qv J J J J (by assumption)) J J ?_;refine Qe (Q0 ?_);refine Ql rfl ?_;refine Qh (Q0 (Qc ?_))
      refine M0 (Qa J J J) J J ?_;refine M0 (Qu J J J J J J) J J ?_;refine M1 (q_bslice J J J J J J) J J ?_
      refine M_appo J J J J J J J J J J J J J J (by omega) (by omega) ?_;refine M0 (Qb J J J) J J ?_;refine Qe (Q1 (Q0 ?_))
      refine Qc ?_;refine M0 (Qs J J J J (by omega)) J J ?_;refine M0 (Qa J J J) J J ?_;refine Qe (Q0 ?_)
      refine ⟨(w.Bodies.drop w.Scores.length).length - (k + 1),(by omega),(fun (k : Nat) (ss : List Int) (lf : List TBody) => (⟨_,[(0,.o (.c (.ptr 0 0))),(2,.o (.c (.ref 5))),(15,.o (.c (.tl 3 9 (els w.Scores).length))),(16,I (((els w.Bodies).length - (els w.Scores).length : Nat) : Int)),(17,I k)],[.box [.ref 1,jn w.Tick,jn w.Seed,.ref 2,.ref 3],.row 1 (els w.Level.Rows),.row 1 (els ss),.row 9 (els w.Bodies),.gh 0 (.c (.ptr 0 0)),.row 9 (els lf)]⟩ : St)) (k + 1) (ss) (lf ++ [b]),W_go [0,1,2,3,4,5] (by decide) rfl (rw6 (by rw [els_app]; rfl)) (.cons rfl (.cons rfl (.cons rfl (.cons rfl (.cons rfl (.nil)))))),k + 1,ss,lf ++ [b],rfl,⟨by omega,n1,n2⟩,rfl⟩
    have f1 : decide (b.Kind = 2) = true := decide_eq_true hK
    have cm := I_playerMet ⟨w.Level,w.Tick,w.Seed,ss,w.Bodies⟩ b (-1) (by simp only; omega) (by simp only; omega) (fun j p _ h => ((hL.at_ j p h).1.placed hl).1) hpl
    simp only [hSs] at cm
    refine Qd (Qd (Qc ?_));refine M0 (Qf J J J J (by decide)) J J ?_;refine M0 (Qg J J J J J) J J ?_
    refine M0 (Qv J J J J (by assumption)) J J ?_;refine Qe (Q0 ?_);refine Qm rfl ?_;refine Qd (Qc ?_)
    refine M0 (Qa J J J) J J ?_;refine M0 (Qu J J J J J J) J J ?_
    refine Xd (lo := [_,_,_,_]) (gs := [(0,.c (.ptr 0 0)),(6,.c (.ref 3))]) (lo' := [_,_,_,_]) (new := []) [0,1,2,3] [(0,0,.ptr 0 0),(1,0,.ref 3)] (cm) J J J J J J J J J J J J J J J J J ?_
    refine M0 (Qb J J J) J J ?_;refine Qe (Q0 (Qd (Qc ?_)));refine M0 (Qa J J J) J J ?_
    refine M0 (q_geq J J J J) J J ?_;refine Qe (Q0 ?_)
    refine AWP.pre (st' := (⟨_,[(0,.o (.c (.ptr 0 0))),(2,.o (.c (.ref 5))),(15,.o (.c (.tl 3 9 (els w.Scores).length))),(16,I (((els w.Bodies).length - (els w.Scores).length : Nat) : Int)),(17,I k),(4,.o (.c (.ptr 6 0))),(5,I (metI w.Bodies b (-1) w.Scores.length)),(28,B (decide (metI w.Bodies b (-1) w.Scores.length ≥ 0)))],[.box [.ref 1,jn w.Tick,jn w.Seed,.ref 2,.ref 3],.row 1 (els w.Level.Rows),.row 1 (els ss),.row 9 (els w.Bodies),.gh 0 (.c (.ptr 0 0)),.row 9 (els lf),.box ((Enc.e b).map (V1.rd []))]⟩ : St)) ?_ (W_go [0,1,2,3,4,5,6] (by decide) rfl (rfl) (.cons rfl (.cons rfl (.cons rfl (.cons rfl (.cons rfl (.cons rfl (.cons rfl (.cons rfl (.nil))))))))))
    cases hm : metF w.Bodies b (-1) w.Scores.length with
    | none =>
      obtain ⟨mi,hmi⟩ : ∃ mi : Int,metI w.Bodies b (-1) w.Scores.length = mi := ⟨_,rfl⟩
      rw [hmi]
      rw [met_no hm] at hmi
      have f2 : decide (mi ≥ 0) = false := decide_eq_false (by omega)
      rw [f2]
      obtain ⟨n1,n2,_⟩ := it_miss hb hm hs hlf
      refine Ql rfl ?_;refine Qh (Q0 (Qc ?_));refine M0 (Qa J J J) J J ?_;refine M0 (Qu J J J J J J) J J ?_
      refine M1 (q_bslice J J J J J J) J J ?_;refine M_appo J J J J J J J J J J J J J J (by omega) (by omega) ?_
      refine M0 (Qb J J J) J J ?_;refine Qe (Q1 (Q0 (Qc ?_)));refine M0 (Qs J J J J (by omega)) J J ?_
      refine M0 (Qa J J J) J J ?_;refine Qe (Q0 ?_)
      refine ⟨(w.Bodies.drop w.Scores.length).length - (k + 1),(by omega),(fun (k : Nat) (ss : List Int) (lf : List TBody) => (⟨_,[(0,.o (.c (.ptr 0 0))),(2,.o (.c (.ref 5))),(15,.o (.c (.tl 3 9 (els w.Scores).length))),(16,I (((els w.Bodies).length - (els w.Scores).length : Nat) : Int)),(17,I k)],[.box [.ref 1,jn w.Tick,jn w.Seed,.ref 2,.ref 3],.row 1 (els w.Level.Rows),.row 1 (els ss),.row 9 (els w.Bodies),.gh 0 (.c (.ptr 0 0)),.row 9 (els lf)]⟩ : St)) (k + 1) (ss) (lf ++ [b]),W_go [0,1,2,3,4,5] (by decide) rfl (rw6 (by rw [els_app]; rfl)) (.cons rfl (.cons rfl (.cons rfl (.cons rfl (.cons rfl (.nil)))))),k + 1,ss,lf ++ [b],rfl,⟨by omega,n1,n2⟩,rfl⟩
    | some j =>
      rw [met_I hm]
      have f2 : decide ((j : Int) ≥ 0) = true := decide_eq_true (by omega)
      obtain ⟨hj,hc⟩ := metF_lt hm
      obtain ⟨s,hs1⟩ := some_sm (xs := ss) (i := j) (by omega)
      have cp := I_addScore ⟨w.Level,w.Tick,w.Seed,ss,w.Bodies⟩ j s hs1 (hSc s (List.mem_of_getElem? hs1))
      simp only at cp
      obtain ⟨n1,n2,_⟩ := it_hit hb hK hm hs hlf
      refine Qm rfl ?_;refine Qd (Qc ?_);refine M0 (Qa J J J) J J ?_;refine M0 (Qa J J J) J J ?_
      refine Xd (lo := [_,_,_,_]) (gs := [(0,.c (.ptr 0 0)),(5,.c (.ref 3))]) (lo' := [_,_,_,_]) (new := []) [0,1,2,3] [(0,0,.ptr 0 0),(1,0,.ref 3)] (cp) J J J J J J J J J J J J J J J J J ?_
      refine Qe (Q0 (Q9 (T_x (B_xs (Q0 (Qc ?_))))));refine M0 (Qs J J J J (by omega)) J J ?_
      refine M0 (Qa J J J) J J ?_;refine Qe (Q0 ?_)
      refine ⟨(w.Bodies.drop w.Scores.length).length - (k + 1),(by omega),(fun (k : Nat) (ss : List Int) (lf : List TBody) => (⟨_,[(0,.o (.c (.ptr 0 0))),(2,.o (.c (.ref 5))),(15,.o (.c (.tl 3 9 (els w.Scores).length))),(16,I (((els w.Bodies).length - (els w.Scores).length : Nat) : Int)),(17,I k)],[.box [.ref 1,jn w.Tick,jn w.Seed,.ref 2,.ref 3],.row 1 (els w.Level.Rows),.row 1 (els ss),.row 9 (els w.Bodies),.gh 0 (.c (.ptr 0 0)),.row 9 (els lf)]⟩ : St)) (k + 1) (addM ss j) (lf),W_go [0,1,2,3,4,5] (by decide) rfl (rfl) (.cons rfl (.cons rfl (.cons rfl (.cons rfl (.cons rfl (.nil)))))),k + 1,addM ss j,lf,rfl,⟨by omega,n1,n2⟩,rfl⟩
  · have hb0 : decide ((k : Int) < (((els w.Bodies).length - (els w.Scores).length : Nat) : Int)) = false := decide_eq_false (by omega)
    have hk : k = (w.Bodies.drop w.Scores.length).length := by omega
    rw [hk] at hs hlf
    rw [← hs,← hlf]
    have hq : ((els ss).length : Int).toNat = w.Scores.length := by omega
    have hpl := els_pl9 lf
    have hkk := els_k9 lf
    refine Qd (Qc ?_);refine M0 (Qr J J J J (by assumption)) J J ?_;refine Qe (Q0 (Qd ?_));refine Ql rfl ?_;refine Q9 ?_
    refine T_x (T_x (B_xs (Q0 ?_)))
    refine A_draw [[],[],[1],[1,2],[1,2,3],[],[5],[5,6],[5,6,7],[5,6,7,8],[1,2,3,4,5,6,7,8,9],[],[1,2,3,4,5,6,7,8,9,10,11],[0,1,2,3,4,5,6,7,8,9,10,11,12],[0,1,2,3,4,5,6,7,8,9,10,11,12,13],[0,1,2,3,4,5,6,7,8,9,10,11,12,13,14]] [[],[],[38],[38,39],[38,39,40],[],[42],[42,43],[42,43,44],[42,43,44,45],[38,39,40,41,42,43,44,45,46],[],[38,39,40,41,42,43,44,45,46,47,48],[37,38,39,40,41,42,43,44,45,46,47,48,49],[37,38,39,40,41,42,43,44,45,46,47,48,49,50],[37,38,39,40,41,42,43,44,45,46,47,48,49,50,51]] [[38,39,40,41,42,43,44,45,46,47,48,49],[37,42,43,44,45,46,48],[37,42,43,44,45,46,48],[37,42,43,44,45,46,48],[37,42,43,44,45,46,48],[37,38,39,40,41,48],[37,38,39,40,41,48],[37,38,39,40,41,48],[37,38,39,40,41,48],[37,38,39,40,41,48],[37,48],[37,38,39,40,41,42,43,44,45,46,47],[37],[],[],[],[0,1]] rfl ?_
    refine DR.step (Qa J J J) J J ?_;refine DR.step (Qa J J J) J J ?_;refine DR.step (Qz J J J) J J ?_
    refine DR.step (Qf J J J J (by decide)) J J ?_;refine DR.step (Qg J J J J J) J J ?_;refine DR.step (Qa J J J) J J ?_
    refine DR.step (Qz J J J) J J ?_;refine DR.step (Qf J J J J (by decide)) J J ?_;refine DR.step (Qg J J J J J) J J ?_
    refine DR.step (q_lenr J J J J) J J ?_;refine DR.step (q_hd J J J J J J (by omega)) J J ?_;refine DR.step (Qa J J J) J J ?_
    refine DR.stop (by kernel_rfl) (by kernel_rfl) ?_
    refine AL.weak (Wk.head (p := 3) (els ss).length rfl (by omega) (by repeat' (first | exact trivial | exact rfl | refine And.intro ?_ ?_)) (by repeat' (first | exact trivial | exact rfl | refine And.intro ?_ ?_))) ?_
    have ht2 : ((els w.Bodies).take (els ss).length).length = w.Scores.length := by rw [List.length_take]; omega
    refine AL.weak (st' := (⟨_,[(37,.o (.c (.ptr 0 0))),(47,.o (.c (.ref 3))),(48,.o (.c (.ref 5)))],[.box [.ref 1,jn w.Tick,jn w.Seed,.ref 2,.un],.row 1 (els w.Level.Rows),.row 1 (els ss),.row 9 ((els w.Bodies).take (els ss).length),.gh 0 (.c (.ptr 0 0)),.row 9 (els lf)]⟩ : St)) (W_go [0,1,2,3,4,5] (by decide) rfl (rfl) (.cons rfl (.cons rfl (.cons rfl (.nil))))) ?_
    refine M_app J J J J J J J J J J hpl hkk (by omega) (by omega) ?_;refine M0 (Qz J J J) J J ?_
    refine M0 (Qf J J J J (by decide)) J J ?_;refine Q5 J J J J J J J J ?_;refine Qe (F_n ?_)
    exact E_none rfl (W_end [0,1,2,3,4] (by decide) rfl (by exact rwBo (tk_app hq)) rfl)
end Go.Proofs.Ytmljakmaffbnlaa
end

section
set_option linter.unusedSimpArgs false
set_option linter.unusedVariables false
namespace Go.Proofs.Ytmljakmaffbnlaa
open Go.RowKit

section
variable {P : Program} {w : World}
theorem run_copy_src (t tx ty e : TypeId) (i : TypeInfo) (ht : P.underlying t = some (.slice e)) (hi : P.info? e = some i) (b o c n : Nat) (x : Value) (news : List Value) (hs : Src P i.size tx x n news w) (hc : ∀ j,j < news.length → (w.cell? ⟨b,o + j,none⟩).isSome = true) (hf : ∀ j,j < news.length → w.frozen? ⟨b,o + j,none⟩ = false) :
    (Builtin.copy_ #[t,tx] ty #[.slice (some ⟨b,o,none⟩) n c,x]).run P w = .ok (.int .i64 n) (w.setCells b o news) := by
  have hst := run_storeCells_cells (P := P) b o news 0 w (by simpa using hc) (by simpa using hf) hs.one
  simp only [Nat.add_zero] at hst
  simp [Builtin.copy_,run_underlying ht,Go.sizeOf,typeInfo,hi,hs.len,hs.cells,hst,goInt]
theorem OW.fill {k : Nat} {es es' : List (List T)} {v : Value} {fp : List Nat} {t tx ty e : TypeId} {zs : List Value} {by_ : Nat} [hm : TyMake P t e zs by_] (h : OW w (.sl k es) v fp) (hnd : fp.Nodup) (hkz : k = zs.length) {x : Value} (hl : es'.length = es.length) (h0 : 0 < es.length) (hpl : plainT es') (hkk : ∀ e ∈ es',e.length = k)
    (hsrc : Src P k tx x es'.length (flatV (plainV' es') es'.length k) w) :
    ∃ w' fp',(Builtin.copy_ #[t,tx] ty #[v,x]).run P w = .ok (.int .i64 es.length) w' ∧ OW w' (.sl k es') v fp' ∧ fp'.Nodup ∧ (∀ b ∈ fp',b ∈ fp) ∧ Keeps w w' fp := by
  obtain ⟨i,hi,hzz⟩ := Option.map_eq_some_iff.1 hm.info
  simp only [Prod.mk.injEq] at hzz
  obtain ⟨hz1,hs,hb1⟩ := hzz
  have hsk : i.size = k := by rw [hs,hkz]
  have hsrc2 : Src P i.size tx x es.length (flatV (plainV' es') es'.length k) w := by rw [hsk,← hl]; exact hsrc
  rcases h.open_ with ⟨rfl,rfl,rfl⟩ | ⟨b,o,c,tid,cur,fz,val,fps,rfl,rfl,hg,hzf,hc,hcm,hcs,hp,hk,hf,hfk,hv,ht⟩
  · simp at h0
  · have hmul : es'.length * k ≤ c * k := Nat.mul_le_mul_right _ (by omega)
    have hr := run_copy_src (P := P) (w := w) t tx ty e i hm.slice hi b o c es.length x _ hsrc2 (fun j hj => by
      rw [cell_of_row w b _ cur tid fz hg]
      rw [flatV_len] at hj
      simp
      omega) (fun j hj => by
      rw [flatV_len] at hj
      exact frozen_fz hg hzf (by omega))
    obtain ⟨cur',k1,k2,k3,k4⟩ := heap_setCells b tid fz (flatV (plainV' es') es'.length k) o w cur hg (by rw [flatV_len]; omega)
    obtain ⟨s1,s2,s3,s4,s5⟩ := setCells_keep w b (flatV (plainV' es') es'.length k) o
    have hnil : (es'.map fun e => e.map fun _ => ([] : List Nat)).flatten.flatten = [] := by
      rw [List.flatten_eq_nil_iff]
      intro l hl
      rw [List.mem_flatten] at hl
      obtain ⟨f,hf,hl⟩ := hl
      obtain ⟨e,_,rfl⟩ := List.mem_map.1 hf
      obtain ⟨_,_,rfl⟩ := List.mem_map.1 hl
      rfl
    refine ⟨_,b :: (es'.map fun e => e.map fun _ => ([] : List Nat)).flatten.flatten,hr,?_,by rw [hnil]; simp,fun x hx => ?_,s1,s2,s3,by omega,fun b'' _ hb'' => s5 b'' fun e => hb'' (by simp [e])⟩
    · rw [← hl]
      refine .sl es' b o k c tid cur' fz (plainV' es') (es'.map fun e => e.map fun _ => []) k1 (by rw [k2]; exact hzf) (by omega) hcm (by rw [k2]; exact hcs) hp hkk (by simp) (fun f hf => ?_) (fun i j hi hj => ?_) fun i j e t fs f h6 h7 h8 h9 => ?_
      · obtain ⟨e,h6,rfl⟩ := List.mem_map.1 hf
        simpa using hkk e h6
      · have h1 := ij_lt hi hj
        rw [Nat.add_assoc,k3 _ (by rw [flatV_len]; exact h1)]
        exact flatV_at hi hj
      · rw [List.getElem?_map,h6] at h8
        simp only [Option.map_some,Option.some.injEq] at h8
        subst h8
        rw [List.getElem?_map,h7] at h9
        simp only [Option.map_some,Option.some.injEq] at h9
        subst h9
        obtain ⟨u,rfl⟩ := hpl e (getE_mem h6) t (getE_mem h7)
        rw [plainV'_at h6 h7]
        refine .v u ?_
        have hi := getE_lt h6
        have hj : j < k := by rw [← hkk e (getE_mem h6)]; exact getE_lt h7
        have := hsrc.one _ (getE_mem (flatV_at (val := plainV' es') hi hj))
        rwa [plainV'_at h6 h7] at this
    · rw [hnil] at hx
      rcases List.mem_cons.1 hx with rfl | hx
      · simp
      · cases hx
end
section
variable {P : Program} {E : Env} {ops : Array Oper} {o : Oper} {st : St} {n : Nat} {rest : List Oper} {QQ : Exit → St → Prop} {t : TypeId} {y z : Operand}
theorem exec_copy {a : Act} {w w' : World} {v : Value} (ho : o.op = .call { callee := .builtin .copy,args := #[y,z],argTypes := #[t,t] }) (h : (Builtin.copy_ #[t,t] o.type #[a.eval y,a.eval z]).run P w = .ok v w') : (execOp a.eval o).run P w = .ok (.value v) w' := by
  unfold execOp
  simp only [ho,resolve,invoke,builtin,Sem.run_bind,Sem.run_pure,Result.andThen_ok,List.map_toArray,List.map_cons,List.map_nil,h]
/-- copy of ass many elements ass there are. -/
theorem L_copy {p kk : Nat} {es es' : List (List T)} {x : V1} {e : TypeId} {zs : List Value} {by_ : Nat} [hm : TyMake P t e zs by_] (ho : o.op = .call { callee := .builtin .copy,args := #[y,z],argTypes := #[t,t] }) (hg : o.guard = none) (hy : st.ev y = .o (.c (.ref p))) (hp : st.objs[p]? = some (.row kk es)) (hz : st.ev z = .o (.c x)) (hs : srcOf st.objs x = some es')
    (hkz : kk = zs.length) (hz0 : zs ≠ []) (hd : dstOk st.n o.dst = true) (hpl : plainT es') (hkk : ∀ e ∈ es',e.length = kk) (hl : es'.length = es.length) (h0 : 0 < es.length)
    (h : AL P E ops QQ rest ⟨st.n,setT (st.tmps.map fun e => (e.1,e.2.kille p [])) o.dst (I es.length),(st.objs.map (Ob.kille p [])).set p (.row kk es')⟩) : AL P E ops QQ (o :: rest) st := by
  refine ⟨fun a w ⟨H,F,h1,h2⟩ => ?_⟩
  obtain ⟨v,fp,e1,e2⟩ := h1.ow hp
  obtain ⟨x',fp',e3⟩ := h1.v1 hy
  rw [e1] at e3
  simp only [Pc.ow.injEq] at e3
  obtain ⟨_,hv,_⟩ := e3
  have hnd := h1.ok.nodup p
  rw [e1] at hnd
  have hsrc := src_any (P := P) (t := t) (e := e) (by_ := by_) (kk := kk) h1 hkz hz0 (h1.v1 hz) hs hpl hkk
  obtain ⟨w',fp'',hr,h3,h4,h5,h6⟩ := OW.fill (P := P) (t := t) (ty := o.type) e2 hnd hkz hl h0 hpl hkk hsrc
  obtain ⟨hok,htn⟩ := h1.ok.turn (p := p) (fp := fp) (by rw [e1]; rfl) h6 (.ow (.sl kk es') v fp'') h3 h4 trivial (fun b hb => .inl (h5 b hb))
  obtain ⟨hplt,_⟩ := List.getElem?_eq_some_iff.1 hp
  have hR := h1.turne (rs := []) htn hok e1 (Hs.put_self _ _ _) (by simp) (by simp) (ob := .row kk es') ⟨_,_,Hs.put_self _ _ _⟩ hplt
  have hR2 := hR.put (x := I es.length) o.dst hd (v := .int .i64 es.length) (plainV _ rfl)
  refine wpList_step fun K hK => ?_
  rw [if_pos (by unfold Region.wanted; rw [hg])]
  unfold Oper.wp
  rw [exec_copy ho (by rw [← hv]; exact hr)]
  exact hK _ _ (h.h _ _ ⟨_,F,hR2,h2.turn htn⟩)
theorem M_copy {d : Nat} {ts : List (Nat × V)} {obs : List Ob} {p kk : Nat} {es es' : List (List T)} {x : V1} {e : TypeId} {zs : List Value} {by_ : Nat} [hm : TyMake P t e zs by_] (ho : o.op = .call { callee := .builtin .copy,args := #[y,z],argTypes := #[t,t] }) (hg : o.guard = none) (hy : St.ev ⟨n,ts,obs⟩ y = .o (.c (.ref p))) (hp : obs[p]? = some (.row kk es)) (hz : St.ev ⟨n,ts,obs⟩ z = .o (.c x)) (hs : srcOf obs x = some es')
    (hkz : kk = zs.length) (hz0 : zs.isEmpty = false) (hd : o.dst = some d) (hl : Nat.blt d n = true) (hpl : plainT es') (hkk : ∀ e ∈ es',e.length = kk) (hle : es'.length = es.length) (h0 : 0 < es.length)
    (h : AL P E ops QQ rest ⟨n,(d,I es.length) :: (ts.map fun e => (e.1,e.2.kille p [])),(obs.map (Ob.kille p [])).set p (.row kk es')⟩) : AL P E ops QQ (o :: rest) ⟨n,ts,obs⟩ :=
  L_copy ho hg hy hp hz hs hkz (by intro e; rw [e] at hz0; cases hz0) (by rw [hd]; exact hl) hpl hkk hle h0 (by rw [hd]; exact h)
end
end Go.Proofs.Ytmljakmaffbnlaa
end

section
set_option linter.unusedSimpArgs false
set_option linter.unusedVariables false
set_option maxRecDepth 8000
namespace Go.Proofs.Ytmljakmaffbnlaa
open Go.RowKit

theorem rw6g {a b c d e f : Ob} {t : List Ob} {m : Nat} {u v : List (List T)} (h2 : u = v) : a :: b :: c :: d :: e :: f :: Ob.row m u :: t = a :: b :: c :: d :: e :: f :: Ob.row m v :: t := by rw [h2]
theorem rw2k {a b c d e : Ob} {k m : Nat} {x y u v : List (List T)} (h : x = y) (h2 : u = v) : [a,b,c,d,e,Ob.row k x,Ob.row m u] = [a,b,c,d,e,Ob.row k y,Ob.row m v] := by rw [h,h2]
theorem mk_gone {N : Nat} {i : Int} {kk : Nat} (h : i.toNat = N) : els (List.replicate N false) = List.replicate i.toNat ([Value.bool false].map (zT kk)) := by
  rw [h,els,List.map_replicate]; rfl
theorem at_el {bs : List TBody} {ss : List Int} {k : Nat} {b : TBody} (h : bs[ss.length + k]? = some b) : (els bs)[(((els ss).length + k : Nat) : Int).toNat]? = some (Enc.e b) := by
  rw [els_len,Int.toNat_natCast,els,List.getElem?_map,h]; rfl
theorem at_gl {gl : List Bool} {ss : List Int} {k : Nat} {b : Bool} (h : gl[ss.length + k]? = some b) : (els gl)[(((els ss).length + k : Nat) : Int).toNat]? = some (Enc.e b) := by
  rw [els_len,Int.toNat_natCast,els,List.getElem?_map,h]; rfl
theorem st_gl {gl : List Bool} {ss : List Int} {k : Nat} {b : Bool} : els (gl.set (ss.length + k) true) = (els gl).set (((els ss).length + k : Nat) : Int).toNat (splice (Enc.e b) 0 [.v (.bool true)]) := by
  rw [els_len,Int.toNat_natCast,els,List.map_set]; rfl
theorem gl_set {gl : List Bool} {n m k N : Nat} {f g : Nat → Bool} (hl : gl.length = N) (h : ∀ i,i < m → n + i < N → gl[n + i]? = some (f i)) (hk : g k = true) (hf : ∀ i,i ≠ k → g i = f i) : (gl.set (n + k) true).length = N ∧ ∀ i,i < m → n + i < N → (gl.set (n + k) true)[n + i]? = some (g i) := by
  refine ⟨by rw [List.length_set]; exact hl,fun i hi hN => ?_⟩
  by_cases e : i = k
  · subst e
    rw [List.getElem?_set_self (by omega),hk]
  · rw [List.getElem?_set_ne (by omega),h i hi hN,hf i e]
theorem gl_same {gl : List Bool} {n m N : Nat} {f g : Nat → Bool} (hl : gl.length = N) (h : ∀ i,i < m → n + i < N → gl[n + i]? = some (f i)) (hf : ∀ i,g i = f i) : gl.length = N ∧ ∀ i,i < m → n + i < N → gl[n + i]? = some (g i) :=
  ⟨hl,fun i hi hN => by rw [h i hi hN,hf]⟩
def itF (n : Nat) (t bs : List TBody) (i : Nat) : Bool := match t[i]? with
  | none => false
  | some b => itHit n bs b
theorem itF_at {n i : Nat} {t bs : List TBody} {b : TBody} (h : t[i]? = some b) : itF n t bs i = itHit n bs b := by rw [itF,h]
theorem f1_ne {i k : Nat} {c : Bool} (h : i ≠ k) : (decide (i < k + 1) && c) = (decide (i < k) && c) := by
  rw [show decide (i < k + 1) = decide (i < k) from decide_eq_decide.2 (by omega)]
theorem f1_step {k : Nat} {c : Nat → Bool} (h : c k = false) (i : Nat) : (decide (i < k + 1) && c i) = (decide (i < k) && c i) := by
  by_cases e : i = k
  · subst e; rw [h,Bool.and_false,Bool.and_false]
  · exact f1_ne e
theorem f2_ne {i k : Nat} {c d : Bool} (h : i ≠ k) : (d || (decide (i < k + 1) && c)) = (d || (decide (i < k) && c)) := by rw [f1_ne h]
theorem f2_step {k : Nat} {c d : Nat → Bool} (h : c k = false) (i : Nat) : (d i || (decide (i < k + 1) && c i)) = (d i || (decide (i < k) && c i)) := by rw [f1_step h]
set_option maxHeartbeats 8000000 in
theorem S_l02Hits (w : TWorld) (hg : Enc.gd w.Level) (hl : levelOk w.Level = true) (hn4 : 1 ≤ w.Scores.length ∧ w.Scores.length ≤ 4) (hL : LM w.Level w.Scores.length w.Bodies) (hsc : ∀ x ∈ w.Scores,0 ≤ x ∧ x ≤ 1000000) : Con Try.prog 125 [.box [.ref 1,jn w.Tick,jn w.Seed,.ref 2,.ref 3],.row 1 (els w.Level.Rows),.row 1 (els w.Scores),.row 9 (els w.Bodies),.gh 0 (.c (.ptr 0 0))] [.c (.ptr 0 0)] [.box [.ref 1,jn w.Tick,jn w.Seed,.ref 2,.ref 3],.row 1 (els w.Level.Rows),.row 1 (els (hitsR w.Scores.length w.Bodies w.Scores).2),.row 9 (els (hitsR w.Scores.length w.Bodies w.Scores).1),.gh 0 (.c (.ptr 0 0))] (.tu []) := by
  have hlb := els_len w.Bodies
  have hls := els_len w.Scores
  have hln := hL.len
  have hT : (w.Bodies.drop w.Scores.length).length = w.Bodies.length - w.Scores.length := List.length_drop
  have htk : ((els w.Bodies).take ((els w.Scores).length : Int).toNat).length = w.Scores.length := by rw [List.length_take,Int.toNat_natCast]; omega
  refine Con.of Try.func125 rfl Try.ntmps125 rfl (fun E => ?_)
  refine Qd (Qc ?_);refine M0 (Qa J J J) J J ?_;refine M0 (Qz J J J) J J ?_;refine M0 (Qf J J J J (by decide)) J J ?_
  refine M0 (Qg J J J J J) J J ?_;refine M0 (q_lenr J J J J) J J ?_;refine M0 (Qb J J J) J J ?_;refine Qe (Q0 (Qd ?_))
  refine Qc ?_;refine M1 (q_bslicez J J J) J J ?_;refine M0 (Qa J J J) J J ?_;refine M0 (Qz J J J) J J ?_
  refine M0 (Qf J J J J (by decide)) J J ?_;refine M0 (Qg J J J J J) J J ?_;refine M0 (Qa J J J) J J ?_
  refine M0 (q_partr0 J J J J J J (by omega)) J J ?_
  refine M1 (q_appz J J J J J J (fun e he => els_pl9 _ e (List.mem_of_mem_take he)) (fun e he => els_k9 _ e (List.mem_of_mem_take he)) (by omega) (by omega) (by omega)) J J ?_
  refine M0 (Qb J J J) J J ?_;refine Qe (Q0 (Qd (Qc ?_)));refine M0 (Qa J J J) J J ?_
  refine M0 (Qz J J J) J J ?_;refine M0 (Qf J J J J (by decide)) J J ?_;refine M0 (Qg J J J J J) J J ?_
  refine M0 (q_lenr J J J J) J J ?_;refine M1 (q_make 1 J J J J (by omega) (by omega) (by omega) rfl (by decide)) J J ?_
  refine M0 (Qb J J J) J J ?_;refine Qe (Q0 (Qd (Qd (Qc ?_))));refine M0 (Qa J J J) J J ?_
  refine M0 (Qb J J J) J J ?_;refine Qe (Q0 (Qk ?_))
  refine AWP.pre (st' := (⟨_,[(0,.o (.c (.ptr 0 0))),(2,I (els w.Scores).length),(3,.o (.c (.ref 5))),(4,.o (.c (.ref 6))),(5,I (els w.Scores).length)],[.box [.ref 1,jn w.Tick,jn w.Seed,.ref 2,.ref 3],.row 1 (els w.Level.Rows),.row 1 (els w.Scores),.row 9 (els w.Bodies),.gh 0 (.c (.ptr 0 0)),.row 9 (els (w.Bodies.take w.Scores.length)),.row 1 (els (List.replicate w.Bodies.length false))]⟩ : St)) ?_ (W_go [0,1,2,3,4,6,7] (by decide) rfl ((by exact rw2k (by rw [els_takeE2,hls,Int.toNat_natCast]) (mk_gone (by rw [Int.toNat_natCast,hlb])))) (.cons rfl (.cons rfl (.cons rfl (.cons rfl (.cons rfl (.nil)))))))
  refine A_loop (fun m__ st => ∃ (k : Nat) (bs : List TBody) (ss : List Int) (gl : List Bool),(w.Bodies.drop w.Scores.length).length - k = m__ ∧ (k ≤ (w.Bodies.drop w.Scores.length).length ∧ (bs,ss) = shS w.Scores.length (w.Bodies.drop w.Scores.length) (w.Bodies,w.Scores) k ∧ (gl.length = w.Bodies.length ∧ ∀ i,i < (w.Bodies.drop w.Scores.length).length → w.Scores.length + i < w.Bodies.length → gl[w.Scores.length + i]? = some (decide (i < k) && shF w.Scores.length (w.Bodies.drop w.Scores.length) (w.Bodies,w.Scores) i))) ∧ st = (fun (k : Nat) (bs : List TBody) (ss : List Int) (gl : List Bool) => (⟨_,[(0,.o (.c (.ptr 0 0))),(2,I (els w.Scores).length),(3,.o (.c (.ref 5))),(4,.o (.c (.ref 6))),(5,I (((els w.Scores).length + k : Nat) : Int))],[.box [.ref 1,jn w.Tick,jn w.Seed,.ref 2,.ref 3],.row 1 (els w.Level.Rows),.row 1 (els ss),.row 9 (els bs),.gh 0 (.c (.ptr 0 0)),.row 9 (els (w.Bodies.take w.Scores.length)),.row 1 (els gl)]⟩ : St)) (k) (bs) (ss) (gl)) ((fun (k : Nat) (bs : List TBody) (ss : List Int) (gl : List Bool) => (w.Bodies.drop w.Scores.length).length - k) (0) (w.Bodies) (w.Scores) (List.replicate w.Bodies.length false)) ⟨(fun (k : Nat) (bs : List TBody) (ss : List Int) (gl : List Bool) => (⟨_,[(0,.o (.c (.ptr 0 0))),(2,I (els w.Scores).length),(3,.o (.c (.ref 5))),(4,.o (.c (.ref 6))),(5,I (((els w.Scores).length + k : Nat) : Int))],[.box [.ref 1,jn w.Tick,jn w.Seed,.ref 2,.ref 3],.row 1 (els w.Level.Rows),.row 1 (els ss),.row 9 (els bs),.gh 0 (.c (.ptr 0 0)),.row 9 (els (w.Bodies.take w.Scores.length)),.row 1 (els gl)]⟩ : St)) (0) (w.Bodies) (w.Scores) (List.replicate w.Bodies.length false),W_go [0,1,2,3,4,5,6] (by decide) rfl (rfl) (.cons rfl (.cons rfl (.cons rfl (.cons rfl (.cons (I_eq (by omega)) (.nil)))))),0,w.Bodies,w.Scores,List.replicate w.Bodies.length false,rfl,⟨by omega,rfl,by simp,fun i _ hi => by rw [List.getElem?_replicate,if_pos hi]; simp⟩,rfl⟩ ?_
  rintro m_A _ ⟨k,bs,ss,gl,hk_A,hp_A,rfl⟩
  obtain ⟨hk,hs,hgl,hg2⟩ := hp_A
  have hS := (SI.start hL rfl hsc).all (w.Bodies.drop w.Scores.length) k
  rw [← hs] at hS
  obtain ⟨hSL,hSn,hSt,hSs,hSc⟩ := hS
  simp only at hSL hSn hSt hSs hSc
  have hlbs := els_len bs
  have hlss := els_len ss
  have hlgl := els_len gl
  by_cases hlt : k < (w.Bodies.drop w.Scores.length).length
  · have hb0 : decide ((((els w.Scores).length + k : Nat) : Int) < (els bs).length) = true := decide_eq_true (by omega)
    obtain ⟨b,hb⟩ := some_sm hlt
    have hbb : bs[w.Scores.length + k]? = some b := by rw [hSt _ (by omega),← List.getElem?_drop]; exact hb
    have hB := (hSL.at_ _ b hbb).1
    have hpl := (hB.placed hl).1
    have hgk := hg2 k hlt (by omega)
    rw [decide_eq_false (Nat.lt_irrefl k),Bool.false_and] at hgk
    refine Qd (Qd (Qc ?_));refine M0 (Qa J J J) J J ?_;refine M0 (Qa J J J) J J ?_;refine M0 (Qz J J J) J J ?_
    refine M0 (Qf J J J J (by decide)) J J ?_;refine M0 (Qg J J J J J) J J ?_;refine M0 (q_lenr J J J J) J J ?_
    refine M0 (Qr J J J J (by assumption)) J J ?_;refine Qe (Q0 ?_);refine Qm rfl ?_;refine Qh (Q0 (Qd (Qk ?_)))
    refine Qd (Qc ?_);refine M0 (Qa J J J) J J ?_;refine M0 (Qz J J J) J J ?_;refine M0 (Qf J J J J (by decide)) J J ?_
    refine M0 (Qg J J J J J) J J ?_;refine M0 (Qa J J J) J J ?_;refine M0 (Q3 J J J J J (by omega) (by omega)) J J ?_
    have he := at_el hbb
    with_reducible refine Xf ?_
    refine M0 (Q6 J J J J (by assumption) J J) J J ?_
    with_reducible refine K_alloc ?_
    refine M1 (Qx J J J) J J ?_
    with_reducible refine Xe ?_
    refine Qy J J J J J J J J J ?_
    refine Qe ?_
    refine Q0 ?_
    refine AWP.pre (st' := (⟨_,[(0,.o (.c (.ptr 0 0))),(2,I (els w.Scores).length),(3,.o (.c (.ref 5))),(4,.o (.c (.ref 6))),(5,I (((els w.Scores).length + k : Nat) : Int)),(6,.o (.c (.ptr 7 0)))],[.box [.ref 1,jn w.Tick,jn w.Seed,.ref 2,.ref 3],.row 1 (els w.Level.Rows),.row 1 (els ss),.row 9 (els bs),.gh 0 (.c (.ptr 0 0)),.row 9 (els (w.Bodies.take w.Scores.length)),.row 1 (els gl),.box ((Enc.e b).map (V1.rd []))]⟩ : St)) ?_ (W_go [0,1,2,3,4,5,6,7] (by decide) rfl (rfl) (.cons rfl (.cons rfl (.cons rfl (.cons rfl (.cons rfl (.cons rfl (.nil))))))))
    clear he
    by_cases hK : b.Kind = 1
    case neg =>
      have f1 : decide (b.Kind ≠ 1) = true := decide_eq_true hK
      obtain ⟨n1,_,n3⟩ := sh_skip hb hK hs (lf := shL w.Scores.length (w.Bodies.drop w.Scores.length) (w.Bodies,w.Scores) k) rfl
      refine Qd (Qd (Qc ?_));refine M0 (Qf J J J J (by decide)) J J ?_;refine M0 (Qg J J J J J) J J ?_
      refine M0 (Qw J J J J (by assumption)) J J ?_;refine Qe (Q0 ?_);refine Qm rfl ?_;refine Q9 (T_x (B_xs (Q0 ?_)))
      refine Qc ?_;refine M0 (Qa J J J) J J ?_;refine M0 (Qs J J J J (by omega)) J J ?_;refine M0 (Qb J J J) J J ?_;refine Qe ?_
      refine Q0 ?_
      refine ⟨(w.Bodies.drop w.Scores.length).length - (k + 1),(by omega),(fun (k : Nat) (bs : List TBody) (ss : List Int) (gl : List Bool) => (⟨_,[(0,.o (.c (.ptr 0 0))),(2,I (els w.Scores).length),(3,.o (.c (.ref 5))),(4,.o (.c (.ref 6))),(5,I (((els w.Scores).length + k : Nat) : Int))],[.box [.ref 1,jn w.Tick,jn w.Seed,.ref 2,.ref 3],.row 1 (els w.Level.Rows),.row 1 (els ss),.row 9 (els bs),.gh 0 (.c (.ptr 0 0)),.row 9 (els (w.Bodies.take w.Scores.length)),.row 1 (els gl)]⟩ : St)) (k + 1) (bs) (ss) (gl),W_go [0,1,2,3,4,5,6] (by decide) rfl (rfl) (.cons rfl (.cons rfl (.cons rfl (.cons rfl (.cons (I_eq (by omega)) (.nil)))))),k + 1,bs,ss,gl,rfl,⟨by omega,n1,gl_same hgl hg2 (f1_step n3)⟩,rfl⟩
    have f1 : decide (b.Kind ≠ 1) = false := decide_eq_false (fun q => q hK)
    have cm := S_l02Meets ⟨w.Level,w.Tick,w.Seed,ss,bs⟩ b b.Owner (by simp only; omega) (by simp only; omega) (fun j p _ h => ((hSL.at_ j p h).1.placed hl).1) hpl
    simp only [hSs] at cm
    refine Qd (Qd (Qc ?_));refine M0 (Qf J J J J (by decide)) J J ?_;refine M0 (Qg J J J J J) J J ?_
    refine M0 (Qw J J J J (by assumption)) J J ?_;refine Qe (Q0 ?_);refine Ql rfl ?_;refine Qh (Q0 (Qd (Qc ?_)))
    refine M0 (Qa J J J) J J ?_;refine M0 (Qu J J J J J J) J J ?_;refine M0 (Qf J J J J (by decide)) J J ?_
    refine M0 (Qg J J J J J) J J ?_
    refine Xd (lo := [_,_,_,_]) (gs := [(0,.c (.ptr 0 0)),(6,.c (.ref 3))]) (lo' := [_,_,_,_]) (new := []) [0,1,2,3] [(0,0,.ptr 0 0),(1,0,.ref 3)] (cm) J J J J J J J J J J J J J J J J J ?_
    refine M0 (Qb J J J) J J ?_;refine Qe (Q0 (Qd (Qd (Qc ?_))));refine M0 (Qa J J J) J J ?_
    refine M0 (q_lss J J J J) J J ?_;refine Qe (Q0 ?_)
    refine AWP.pre (st' := (⟨_,[(0,.o (.c (.ptr 0 0))),(2,I (els w.Scores).length),(3,.o (.c (.ref 5))),(4,.o (.c (.ref 6))),(5,I (((els w.Scores).length + k : Nat) : Int)),(6,.o (.c (.ptr 7 0))),(7,I (metI bs b b.Owner w.Scores.length)),(56,B (decide (metI bs b b.Owner w.Scores.length < 0)))],[.box [.ref 1,jn w.Tick,jn w.Seed,.ref 2,.ref 3],.row 1 (els w.Level.Rows),.row 1 (els ss),.row 9 (els bs),.gh 0 (.c (.ptr 0 0)),.row 9 (els (w.Bodies.take w.Scores.length)),.row 1 (els gl),.box ((Enc.e b).map (V1.rd []))]⟩ : St)) ?_ (W_go [0,1,2,3,4,5,6,7] (by decide) rfl (rfl) (.cons rfl (.cons rfl (.cons rfl (.cons rfl (.cons rfl (.cons rfl (.cons rfl (.cons rfl (.nil))))))))))
    cases hm : metF bs b b.Owner w.Scores.length with
    | none =>
      obtain ⟨mi,hmi⟩ : ∃ mi : Int,metI bs b b.Owner w.Scores.length = mi := ⟨_,rfl⟩
      rw [hmi]
      rw [met_no hm] at hmi
      have f2 : decide (mi < 0) = true := decide_eq_true (by omega)
      rw [f2]
      obtain ⟨n1,_,n3⟩ := sh_miss hb hm hs (lf := shL w.Scores.length (w.Bodies.drop w.Scores.length) (w.Bodies,w.Scores) k) rfl
      refine Qm rfl ?_;refine Q9 (T_x (B_xs (Q0 (Qc ?_))));refine M0 (Qa J J J) J J ?_
      refine M0 (Qs J J J J (by omega)) J J ?_;refine M0 (Qb J J J) J J ?_;refine Qe (Q0 ?_)
      refine ⟨(w.Bodies.drop w.Scores.length).length - (k + 1),(by omega),(fun (k : Nat) (bs : List TBody) (ss : List Int) (gl : List Bool) => (⟨_,[(0,.o (.c (.ptr 0 0))),(2,I (els w.Scores).length),(3,.o (.c (.ref 5))),(4,.o (.c (.ref 6))),(5,I (((els w.Scores).length + k : Nat) : Int))],[.box [.ref 1,jn w.Tick,jn w.Seed,.ref 2,.ref 3],.row 1 (els w.Level.Rows),.row 1 (els ss),.row 9 (els bs),.gh 0 (.c (.ptr 0 0)),.row 9 (els (w.Bodies.take w.Scores.length)),.row 1 (els gl)]⟩ : St)) (k + 1) (bs) (ss) (gl),W_go [0,1,2,3,4,5,6] (by decide) rfl (rfl) (.cons rfl (.cons rfl (.cons rfl (.cons rfl (.cons (I_eq (by omega)) (.nil)))))),k + 1,bs,ss,gl,rfl,⟨by omega,n1,gl_same hgl hg2 (f1_step n3)⟩,rfl⟩
    | some j =>
      rw [met_I hm]
      have f2 : decide ((j : Int) < 0) = false := decide_eq_false (by omega)
      obtain ⟨hj,hc⟩ := metF_lt hm
      obtain ⟨p,hp,hpl,_,_⟩ := metC_life hc
      have hpB := (hSL.at_ j p hp).1.f
      have hjl := getE_lt hp
      obtain ⟨n1,_,n3⟩ := sh_hit hb hK hm hp hs (lf := shL w.Scores.length (w.Bodies.drop w.Scores.length) (w.Bodies,w.Scores) k) rfl
      have ng := gl_set (k := k) (g := fun i => decide (i < k + 1) && shF w.Scores.length (w.Bodies.drop w.Scores.length) (w.Bodies,w.Scores) i) hgl hg2 (by simp only [n3,Bool.and_true,decide_eq_true_eq]; exact Nat.lt_succ_self k) (fun i hi => f1_ne hi)
      have heg := at_gl hgk
      refine Ql rfl ?_;refine Qh (Q0 (Qd (Qc ?_)));refine M0 (Qa J J J) J J ?_;refine M0 (Qa J J J) J J ?_
      refine M0 (Q3 J J J J J (by omega) (by omega)) J J ?_;refine Xh J J J J J J J J J (by assumption) J J ?_;refine Qe (Q0 ?_)
      refine Qd (Qc ?_);refine M0 (Qa J J J) J J ?_;refine M0 (Qz J J J) J J ?_;refine M0 (Qf J J J J (by decide)) J J ?_
      refine M0 (Qg J J J J J) J J ?_;refine M0 (Qa J J J) J J ?_;refine M0 (Q3 J J J J J (by omega) (by omega)) J J ?_
      refine M0 (q_flde J J J J (by decide)) J J ?_
      refine AL.weak (st' := (⟨_,[(0,.o (.c (.ptr 0 0))),(2,I (els w.Scores).length),(3,.o (.c (.ref 5))),(4,.o (.c (.ref 6))),(5,I (((els w.Scores).length + k : Nat) : Int)),(6,.o (.c (.ptr 7 0))),(7,I (j : Int)),(63,.o (.c (.ref 3))),(64,I (j : Int)),(66,.o (.c (.el 3 9 j 7)))],[.box [.ref 1,jn w.Tick,jn w.Seed,.ref 2,.ref 3],.row 1 (els w.Level.Rows),.row 1 (els ss),.row 9 (els bs),.gh 0 (.c (.ptr 0 0)),.row 9 (els (w.Bodies.take w.Scores.length)),.row 1 (els (gl.set (w.Scores.length + k) true)),.box ((Enc.e b).map (V1.rd []))]⟩ : St)) (W_go [0,1,2,3,4,5,6,7] (by decide) rfl ((by exact rw6g st_gl)) (.cons rfl (.cons rfl (.cons rfl (.cons rfl (.cons rfl (.cons rfl (.cons rfl (.cons rfl (.cons rfl (.cons rfl (.nil)))))))))))) ?_
      clear heg
      have he := els_sm hp
      refine M0 (Q7 J J J J (by assumption) rfl) J J ?_;refine M0 (Xc J J J J (by omega)) J J ?_
      refine M0 (Q3 J J J J J (by omega) (by omega)) J J ?_;refine M0 (q_flde J J J J (by decide)) J J ?_
      refine Xh J J J J J J J J J (by assumption) J J ?_;refine Qe (Q0 (Qd (Qc ?_)));refine M0 (Qa J J J) J J ?_
      refine M0 (Qz J J J) J J ?_;refine M0 (Qf J J J J (by decide)) J J ?_;refine M0 (Qg J J J J J) J J ?_
      refine M0 (Qa J J J) J J ?_
      refine AL.weak (st' := (⟨_,[(0,.o (.c (.ptr 0 0))),(2,I (els w.Scores).length),(3,.o (.c (.ref 5))),(4,.o (.c (.ref 6))),(5,I (((els w.Scores).length + k : Nat) : Int)),(6,.o (.c (.ptr 7 0))),(7,I (j : Int)),(74,.o (.c (.ref 3))),(75,I (j : Int))],[.box [.ref 1,jn w.Tick,jn w.Seed,.ref 2,.ref 3],.row 1 (els w.Level.Rows),.row 1 (els ss),.row 9 (els (bs.set j (lifeM p))),.gh 0 (.c (.ptr 0 0)),.row 9 (els (w.Bodies.take w.Scores.length)),.row 1 (els (gl.set (w.Scores.length + k) true)),.box ((Enc.e b).map (V1.rd []))]⟩ : St)) (W_go [0,1,2,3,4,5,6,7] (by decide) rfl ((by exact rwBo (st_el0 rfl))) (.cons rfl (.cons rfl (.cons rfl (.cons rfl (.cons rfl (.cons rfl (.cons rfl (.cons rfl (.cons rfl (.nil))))))))))) ?_
      clear he
      have he : (els (bs.set j (lifeM p)))[(j : Int).toNat]? = some (Enc.e (lifeM p)) := els_sm (by rw [List.getElem?_set_self hjl])
      have hls2 : (els (bs.set j (lifeM p))).length = bs.length := by rw [els_len,List.length_set]
      by_cases hz : p.Life - 1 = 0
      case neg =>
        have f3 : decide (p.Life - 1 = 0) = false := decide_eq_false hz
        rw [hit_alive hz,if_neg hz] at n1
        refine M0 (Q3 J J J J J (by omega) (by omega)) J J ?_;refine M0 (q_flde J J J J (by decide)) J J ?_
        refine M0 (Q7 J J J J (by assumption) rfl) J J ?_;refine M0 (Qv J J J J (by assumption)) J J ?_;refine Qe (Q0 ?_);refine Ql rfl ?_
        refine Qh (Q1 (Q0 (Qc ?_)));refine M0 (Qa J J J) J J ?_;refine M0 (Qs J J J J (by omega)) J J ?_
        refine M0 (Qb J J J) J J ?_;refine Qe (Q0 ?_)
        refine ⟨(w.Bodies.drop w.Scores.length).length - (k + 1),(by omega),(fun (k : Nat) (bs : List TBody) (ss : List Int) (gl : List Bool) => (⟨_,[(0,.o (.c (.ptr 0 0))),(2,I (els w.Scores).length),(3,.o (.c (.ref 5))),(4,.o (.c (.ref 6))),(5,I (((els w.Scores).length + k : Nat) : Int))],[.box [.ref 1,jn w.Tick,jn w.Seed,.ref 2,.ref 3],.row 1 (els w.Level.Rows),.row 1 (els ss),.row 9 (els bs),.gh 0 (.c (.ptr 0 0)),.row 9 (els (w.Bodies.take w.Scores.length)),.row 1 (els gl)]⟩ : St)) (k + 1) (bs.set j (lifeM p)) (ss) (gl.set (w.Scores.length + k) true),W_go [0,1,2,3,4,5,6] (by decide) rfl (rfl) (.cons rfl (.cons rfl (.cons rfl (.cons rfl (.cons (I_eq (by omega)) (.nil)))))),k + 1,bs.set j (lifeM p),ss,gl.set (w.Scores.length + k) true,rfl,⟨by omega,n1,ng⟩,rfl⟩
      have f3 : decide (p.Life - 1 = 0) = true := decide_eq_true hz
      rw [hit_down hz,if_pos hz] at n1
      have ho := hB.o
      obtain ⟨q,hq⟩ : ∃ q : Nat,b.Owner = q := ⟨b.Owner.toNat,by omega⟩
      obtain ⟨s,hs1⟩ := some_sm (xs := ss) (i := q) (by omega)
      have cp := S_l02Point ⟨w.Level,w.Tick,w.Seed,ss,bs.set j (lifeM p)⟩ q s hs1 (hSc s (List.mem_of_getElem? hs1))
      simp only [← hq] at cp
      rw [hq,Int.toNat_natCast] at n1
      refine M0 (Q3 J J J J J (by omega) (by omega)) J J ?_;refine M0 (q_flde J J J J (by decide)) J J ?_
      refine M0 (Q7 J J J J (by assumption) rfl) J J ?_;refine M0 (Qv J J J J (by assumption)) J J ?_;refine Qe (Q0 ?_);refine Qm rfl ?_
      refine Qd (Qc ?_);refine M0 (Qa J J J) J J ?_;refine M0 (Qf J J J J (by decide)) J J ?_;refine M0 (Qg J J J J J) J J ?_
      refine Xd (lo := [_,_,_,_]) (gs := [(0,.c (.ptr 0 0)),(5,.c (.ref 3))]) (lo' := [_,_,_,_]) (new := []) [0,1,2,3] [(0,0,.ptr 0 0),(1,0,.ref 3)] (cp) J J J J J J J J J J J J J J J J J ?_
      refine Qe (Q0 (Qd (Qc ?_)));refine M0 (Qa J J J) J J ?_;refine M0 (Qz J J J) J J ?_
      refine M0 (Qf J J J J (by decide)) J J ?_;refine M0 (Qg J J J J J) J J ?_;refine M0 (Qa J J J) J J ?_
      refine M0 (Q3 J J J J J (by omega) (by omega)) J J ?_;refine M0 (q_flde J J J J (by decide)) J J ?_
      refine Xh J J J J J J J J J (by assumption) J J ?_;refine Qe (Q0 (Qd (Qc ?_)));refine M0 (Qa J J J) J J ?_
      refine M0 (Qz J J J) J J ?_;refine M0 (Qf J J J J (by decide)) J J ?_;refine M0 (Qg J J J J J) J J ?_
      refine M0 (Qa J J J) J J ?_
      refine AL.weak (st' := (⟨_,[(0,.o (.c (.ptr 0 0))),(2,I (els w.Scores).length),(3,.o (.c (.ref 5))),(4,.o (.c (.ref 6))),(5,I (((els w.Scores).length + k : Nat) : Int)),(6,.o (.c (.ptr 7 0))),(7,I (j : Int)),(94,.o (.c (.ref 3))),(95,I (j : Int))],[.box [.ref 1,jn w.Tick,jn w.Seed,.ref 2,.ref 3],.row 1 (els w.Level.Rows),.row 1 (els (addM ss q)),.row 9 (els (bs.set j (stopX p))),.gh 0 (.c (.ptr 0 0)),.row 9 (els (w.Bodies.take w.Scores.length)),.row 1 (els (gl.set (w.Scores.length + k) true)),.box ((Enc.e b).map (V1.rd []))]⟩ : St)) (W_go [0,1,2,3,4,5,6,7] (by decide) rfl ((by exact rwBo (st_el rfl))) (.cons rfl (.cons rfl (.cons rfl (.cons rfl (.cons rfl (.cons rfl (.cons rfl (.cons rfl (.cons rfl (.nil))))))))))) ?_
      clear he
      have he : (els (bs.set j (stopX p)))[(j : Int).toNat]? = some (Enc.e (stopX p)) := els_sm (by rw [List.getElem?_set_self hjl])
      have hls3 : (els (bs.set j (stopX p))).length = bs.length := by rw [els_len,List.length_set]
      have hls4 : (els (bs.set j (stopY p))).length = bs.length := by rw [els_len,List.length_set]
      refine M0 (Q3 J J J J J (by omega) (by omega)) J J ?_;refine M0 (q_flde J J J J (by decide)) J J ?_
      refine Xh J J J J J J J J J (by assumption) J J ?_;refine Qe (Q0 (Qc ?_));refine M0 (Qa J J J) J J ?_
      refine M0 (Qz J J J) J J ?_;refine M0 (Qf J J J J (by decide)) J J ?_;refine M0 (Qg J J J J J) J J ?_
      refine M0 (Qa J J J) J J ?_
      refine AL.weak (st' := (⟨_,[(0,.o (.c (.ptr 0 0))),(2,I (els w.Scores).length),(3,.o (.c (.ref 5))),(4,.o (.c (.ref 6))),(5,I (((els w.Scores).length + k : Nat) : Int)),(6,.o (.c (.ptr 7 0))),(7,I (j : Int)),(101,.o (.c (.ref 3))),(102,I (j : Int))],[.box [.ref 1,jn w.Tick,jn w.Seed,.ref 2,.ref 3],.row 1 (els w.Level.Rows),.row 1 (els (addM ss q)),.row 9 (els (bs.set j (stopY p))),.gh 0 (.c (.ptr 0 0)),.row 9 (els (w.Bodies.take w.Scores.length)),.row 1 (els (gl.set (w.Scores.length + k) true)),.box ((Enc.e b).map (V1.rd []))]⟩ : St)) (W_go [0,1,2,3,4,5,6,7] (by decide) rfl ((by exact rwBo (st_el rfl))) (.cons rfl (.cons rfl (.cons rfl (.cons rfl (.cons rfl (.cons rfl (.cons rfl (.cons rfl (.cons rfl (.nil))))))))))) ?_
      clear he
      have he : (els (bs.set j (stopY p)))[(j : Int).toNat]? = some (Enc.e (stopY p)) := els_sm (by rw [List.getElem?_set_self hjl])
      refine M0 (Q3 J J J J J (by omega) (by omega)) J J ?_;refine M0 (q_flde J J J J (by decide)) J J ?_
      refine Xh J J J J J J J J J (by assumption) J J ?_;refine Qe (Q1 (Q0 (Qc ?_)));refine M0 (Qa J J J) J J ?_
      refine M0 (Qs J J J J (by omega)) J J ?_;refine M0 (Qb J J J) J J ?_;refine Qe (Q0 ?_)
      refine ⟨(w.Bodies.drop w.Scores.length).length - (k + 1),(by omega),(fun (k : Nat) (bs : List TBody) (ss : List Int) (gl : List Bool) => (⟨_,[(0,.o (.c (.ptr 0 0))),(2,I (els w.Scores).length),(3,.o (.c (.ref 5))),(4,.o (.c (.ref 6))),(5,I (((els w.Scores).length + k : Nat) : Int))],[.box [.ref 1,jn w.Tick,jn w.Seed,.ref 2,.ref 3],.row 1 (els w.Level.Rows),.row 1 (els ss),.row 9 (els bs),.gh 0 (.c (.ptr 0 0)),.row 9 (els (w.Bodies.take w.Scores.length)),.row 1 (els gl)]⟩ : St)) (k + 1) (bs.set j (downM p)) (addM ss q) (gl.set (w.Scores.length + k) true),W_go [0,1,2,3,4,5,6] (by decide) rfl ((by exact rwBo (st_el rfl))) (.cons rfl (.cons rfl (.cons rfl (.cons rfl (.cons (I_eq (by omega)) (.nil)))))),k + 1,bs.set j (downM p),addM ss q,gl.set (w.Scores.length + k) true,rfl,⟨by omega,n1,ng⟩,rfl⟩
  have hb0 : decide ((((els w.Scores).length + k : Nat) : Int) < (els bs).length) = false := decide_eq_false (by omega)
  have hk : k = (w.Bodies.drop w.Scores.length).length := by omega
  have hg3 : ∀ i,i < (w.Bodies.drop w.Scores.length).length → w.Scores.length + i < w.Bodies.length → gl[w.Scores.length + i]? = some (shF w.Scores.length (w.Bodies.drop w.Scores.length) (w.Bodies,w.Scores) i || (decide (i < 0) && itF w.Scores.length (w.Bodies.drop w.Scores.length) bs i)) := fun i h1 h2 => by
    rw [hg2 i h1 h2,decide_eq_true (by omega : i < k)]; simp
  rw [hk] at hs
  clear hg2
  refine Qd (Qd (Qc ?_));refine M0 (Qa J J J) J J ?_;refine M0 (Qa J J J) J J ?_;refine M0 (Qz J J J) J J ?_
  refine M0 (Qf J J J J (by decide)) J J ?_;refine M0 (Qg J J J J J) J J ?_;refine M0 (q_lenr J J J J) J J ?_
  refine M0 (Qr J J J J (by assumption)) J J ?_;refine Qe (Q0 ?_);refine Ql rfl ?_;refine Q9 (T_x (T_x (B_xs (Q0 ?_))))
  refine Qd (Qd (Qc ?_));refine M0 (Qa J J J) J J ?_;refine M0 (Qb J J J) J J ?_;refine Qe (Q0 (Qk ?_))
  refine A_loop (fun m__ st => ∃ (i : Nat) (s2 : List Int) (g2 : List Bool),(w.Bodies.drop w.Scores.length).length - i = m__ ∧ (i ≤ (w.Bodies.drop w.Scores.length).length ∧ s2 = itS w.Scores.length bs (w.Bodies.drop w.Scores.length) ss i ∧ (g2.length = w.Bodies.length ∧ ∀ j,j < (w.Bodies.drop w.Scores.length).length → w.Scores.length + j < w.Bodies.length → g2[w.Scores.length + j]? = some (shF w.Scores.length (w.Bodies.drop w.Scores.length) (w.Bodies,w.Scores) j || (decide (j < i) && itF w.Scores.length (w.Bodies.drop w.Scores.length) bs j)))) ∧ st = (fun (i : Nat) (s2 : List Int) (g2 : List Bool) => (⟨_,[(0,.o (.c (.ptr 0 0))),(2,I (els w.Scores).length),(3,.o (.c (.ref 5))),(4,.o (.c (.ref 6))),(8,I (((els w.Scores).length + i : Nat) : Int))],[.box [.ref 1,jn w.Tick,jn w.Seed,.ref 2,.ref 3],.row 1 (els w.Level.Rows),.row 1 (els s2),.row 9 (els bs),.gh 0 (.c (.ptr 0 0)),.row 9 (els (w.Bodies.take w.Scores.length)),.row 1 (els g2)]⟩ : St)) (i) (s2) (g2)) ((fun (i : Nat) (s2 : List Int) (g2 : List Bool) => (w.Bodies.drop w.Scores.length).length - i) (0) (ss) (gl)) ⟨(fun (i : Nat) (s2 : List Int) (g2 : List Bool) => (⟨_,[(0,.o (.c (.ptr 0 0))),(2,I (els w.Scores).length),(3,.o (.c (.ref 5))),(4,.o (.c (.ref 6))),(8,I (((els w.Scores).length + i : Nat) : Int))],[.box [.ref 1,jn w.Tick,jn w.Seed,.ref 2,.ref 3],.row 1 (els w.Level.Rows),.row 1 (els s2),.row 9 (els bs),.gh 0 (.c (.ptr 0 0)),.row 9 (els (w.Bodies.take w.Scores.length)),.row 1 (els g2)]⟩ : St)) (0) (ss) (gl),W_go [0,1,2,3,4,5,6] (by decide) rfl (rfl) (.cons rfl (.cons rfl (.cons rfl (.cons rfl (.cons (I_eq (by omega)) (.nil)))))),0,ss,gl,rfl,⟨by omega,rfl,hgl,hg3⟩,rfl⟩ ?_
  rintro m_B _ ⟨i,s2,g2,hk_B,hp_B,rfl⟩
  obtain ⟨hi,hs2,hgl2,hgi⟩ := hp_B
  have hSs2 : s2.length = w.Scores.length := by rw [hs2]; exact (itS_ok hSs hSc).1
  have hSc2 : ∀ x ∈ s2,0 ≤ x ∧ x ≤ 1000000 := by rw [hs2]; exact (itS_ok hSs hSc).2
  have hlgl2 := els_len g2
  clear hb0 hgl hg3
  by_cases hlt : i < (w.Bodies.drop w.Scores.length).length
  · have hb0 : decide ((((els w.Scores).length + i : Nat) : Int) < (els bs).length) = true := decide_eq_true (by omega)
    obtain ⟨b,hb⟩ := some_sm hlt
    have hbb : bs[w.Scores.length + i]? = some b := by rw [hSt _ (by omega),← List.getElem?_drop]; exact hb
    have hB := (hSL.at_ _ b hbb).1
    have hpl := (hB.placed hl).1
    obtain ⟨g0,hgk⟩ := some_sm (xs := g2) (i := w.Scores.length + i) (by omega)
    have heg := at_gl hgk
    have he := at_el hbb
    by_cases hK : b.Kind = 2
    case neg =>
      have f1 : decide (b.Kind ≠ 2) = true := decide_eq_true hK
      obtain ⟨n1,_,n3⟩ := it_skip hb hK hs2 (lf := itL w.Scores.length bs (w.Bodies.drop w.Scores.length) i) rfl
      refine Qd (Qd (Qc ?_));refine M0 (Qa J J J) J J ?_;refine M0 (Qa J J J) J J ?_;refine M0 (Qz J J J) J J ?_
      refine M0 (Qf J J J J (by decide)) J J ?_;refine M0 (Qg J J J J J) J J ?_;refine M0 (q_lenr J J J J) J J ?_
      refine M0 (Qr J J J J (by assumption)) J J ?_;refine Qe (Q0 ?_);refine Qm rfl ?_;refine Qh (Q0 (Qd (Qk ?_)))
      refine Qd (Qd (Qc ?_));refine M0 (Qa J J J) J J ?_;refine M0 (Qz J J J) J J ?_
      refine M0 (Qf J J J J (by decide)) J J ?_;refine M0 (Qg J J J J J) J J ?_;refine M0 (Qa J J J) J J ?_
      refine M0 (Q3 J J J J J (by omega) (by omega)) J J ?_;refine M0 (q_flde J J J J (by decide)) J J ?_
      refine M0 (Q7 J J J J (by assumption) rfl) J J ?_;refine M0 (Qw J J J J (by assumption)) J J ?_;refine Qe (Q0 ?_);refine Qm rfl ?_
      refine Q9 (T_x (B_xs (Q0 (Qc ?_))));refine M0 (Qa J J J) J J ?_;refine M0 (Qs J J J J (by omega)) J J ?_
      refine M0 (Qb J J J) J J ?_;refine Qe (Q0 ?_)
      refine ⟨(w.Bodies.drop w.Scores.length).length - (i + 1),(by omega),(fun (i : Nat) (s2 : List Int) (g2 : List Bool) => (⟨_,[(0,.o (.c (.ptr 0 0))),(2,I (els w.Scores).length),(3,.o (.c (.ref 5))),(4,.o (.c (.ref 6))),(8,I (((els w.Scores).length + i : Nat) : Int))],[.box [.ref 1,jn w.Tick,jn w.Seed,.ref 2,.ref 3],.row 1 (els w.Level.Rows),.row 1 (els s2),.row 9 (els bs),.gh 0 (.c (.ptr 0 0)),.row 9 (els (w.Bodies.take w.Scores.length)),.row 1 (els g2)]⟩ : St)) (i + 1) (s2) (g2),W_go [0,1,2,3,4,5,6] (by decide) rfl (rfl) (.cons rfl (.cons rfl (.cons rfl (.cons rfl (.cons (I_eq (by omega)) (.nil)))))),i + 1,s2,g2,rfl,⟨by omega,n1,gl_same hgl2 hgi (f2_step (by rw [itF_at hb]; exact n3))⟩,rfl⟩
    have f1 : decide (b.Kind ≠ 2) = false := decide_eq_false (fun q => q hK)
    have cm := S_l02Meets ⟨w.Level,w.Tick,w.Seed,s2,bs⟩ b (-1) (by simp only; omega) (by simp only; omega) (fun j p _ h => ((hSL.at_ j p h).1.placed hl).1) hpl
    simp only [hSs2] at cm
    refine Qd (Qd (Qc ?_));refine M0 (Qa J J J) J J ?_;refine M0 (Qa J J J) J J ?_;refine M0 (Qz J J J) J J ?_
    refine M0 (Qf J J J J (by decide)) J J ?_;refine M0 (Qg J J J J J) J J ?_;refine M0 (q_lenr J J J J) J J ?_
    refine M0 (Qr J J J J (by assumption)) J J ?_;refine Qe (Q0 ?_);refine Qm rfl ?_;refine Qh (Q0 (Qd (Qk ?_)))
    refine Qd (Qd (Qc ?_));refine M0 (Qa J J J) J J ?_;refine M0 (Qz J J J) J J ?_
    refine M0 (Qf J J J J (by decide)) J J ?_;refine M0 (Qg J J J J J) J J ?_;refine M0 (Qa J J J) J J ?_
    refine M0 (Q3 J J J J J (by omega) (by omega)) J J ?_;refine M0 (q_flde J J J J (by decide)) J J ?_
    refine M0 (Q7 J J J J (by assumption) rfl) J J ?_;refine M0 (Qw J J J J (by assumption)) J J ?_;refine Qe (Q0 ?_);refine Ql rfl ?_
    refine Qh (Q0 (Qd (Qc ?_)));refine M0 (Qa J J J) J J ?_;refine M0 (Qa J J J) J J ?_
    refine M0 (Qz J J J) J J ?_;refine M0 (Qf J J J J (by decide)) J J ?_;refine M0 (Qg J J J J J) J J ?_
    refine M0 (Qa J J J) J J ?_;refine M0 (Q3 J J J J J (by omega) (by omega)) J J ?_;refine M0 (Q6 J J J J (by assumption) J J) J J ?_
    refine Xd (lo := [_,_,_,_]) (gs := [(0,.c (.ptr 0 0)),(6,.c (.ref 3))]) (lo' := [_,_,_,_]) (new := []) [0,1,2,3] [(0,0,.ptr 0 0),(1,0,.ref 3)] (cm) J J J J J J J J J J J J J J J J J ?_
    refine M0 (Qb J J J) J J ?_;refine Qe (Q0 (Qd (Qc ?_)));refine M0 (Qa J J J) J J ?_
    refine M0 (q_geq J J J J) J J ?_;refine Qe (Q0 ?_)
    refine AWP.pre (st' := (⟨_,[(0,.o (.c (.ptr 0 0))),(2,I (els w.Scores).length),(3,.o (.c (.ref 5))),(4,.o (.c (.ref 6))),(8,I (((els w.Scores).length + i : Nat) : Int)),(9,I (metI bs b (-1) w.Scores.length)),(134,B (decide (metI bs b (-1) w.Scores.length ≥ 0)))],[.box [.ref 1,jn w.Tick,jn w.Seed,.ref 2,.ref 3],.row 1 (els w.Level.Rows),.row 1 (els s2),.row 9 (els bs),.gh 0 (.c (.ptr 0 0)),.row 9 (els (w.Bodies.take w.Scores.length)),.row 1 (els g2)]⟩ : St)) ?_ (W_go [0,1,2,3,4,5,6] (by decide) rfl (rfl) (.cons rfl (.cons rfl (.cons rfl (.cons rfl (.cons rfl (.cons rfl (.cons rfl (.nil)))))))))
    cases hm : metF bs b (-1) w.Scores.length with
    | none =>
      obtain ⟨mi,hmi⟩ : ∃ mi : Int,metI bs b (-1) w.Scores.length = mi := ⟨_,rfl⟩
      rw [hmi]
      rw [met_no hm] at hmi
      have f2 : decide (mi ≥ 0) = false := decide_eq_false (by omega)
      rw [f2]
      obtain ⟨n1,_,n3⟩ := it_miss hb hm hs2 (lf := itL w.Scores.length bs (w.Bodies.drop w.Scores.length) i) rfl
      refine Ql rfl ?_;refine Qh (Q1 (Q0 (Qc ?_)));refine M0 (Qa J J J) J J ?_;refine M0 (Qs J J J J (by omega)) J J ?_
      refine M0 (Qb J J J) J J ?_;refine Qe (Q0 ?_)
      refine ⟨(w.Bodies.drop w.Scores.length).length - (i + 1),(by omega),(fun (i : Nat) (s2 : List Int) (g2 : List Bool) => (⟨_,[(0,.o (.c (.ptr 0 0))),(2,I (els w.Scores).length),(3,.o (.c (.ref 5))),(4,.o (.c (.ref 6))),(8,I (((els w.Scores).length + i : Nat) : Int))],[.box [.ref 1,jn w.Tick,jn w.Seed,.ref 2,.ref 3],.row 1 (els w.Level.Rows),.row 1 (els s2),.row 9 (els bs),.gh 0 (.c (.ptr 0 0)),.row 9 (els (w.Bodies.take w.Scores.length)),.row 1 (els g2)]⟩ : St)) (i + 1) (s2) (g2),W_go [0,1,2,3,4,5,6] (by decide) rfl (rfl) (.cons rfl (.cons rfl (.cons rfl (.cons rfl (.cons (I_eq (by omega)) (.nil)))))),i + 1,s2,g2,rfl,⟨by omega,n1,gl_same hgl2 hgi (f2_step (by rw [itF_at hb]; exact n3))⟩,rfl⟩
    | some j =>
      rw [met_I hm]
      have f2 : decide ((j : Int) ≥ 0) = true := decide_eq_true (by omega)
      obtain ⟨hj,hc⟩ := metF_lt hm
      obtain ⟨s,hs1⟩ := some_sm (xs := s2) (i := j) (by omega)
      have cp := S_l02Point ⟨w.Level,w.Tick,w.Seed,s2,bs⟩ j s hs1 (hSc2 s (List.mem_of_getElem? hs1))
      simp only at cp
      obtain ⟨n1,_,n3⟩ := it_hit hb hK hm hs2 (lf := itL w.Scores.length bs (w.Bodies.drop w.Scores.length) i) rfl
      have ng := gl_set (k := i) (g := fun j => shF w.Scores.length (w.Bodies.drop w.Scores.length) (w.Bodies,w.Scores) j || (decide (j < i + 1) && itF w.Scores.length (w.Bodies.drop w.Scores.length) bs j)) hgl2 hgi (by simp only [itF_at hb,n3,Bool.and_true]; rw [decide_eq_true (Nat.lt_succ_self i),Bool.or_true]) (fun j hj => f2_ne hj)
      refine Qm rfl ?_;refine Qd (Qc ?_);refine M0 (Qa J J J) J J ?_;refine M0 (Qa J J J) J J ?_
      refine M0 (Q3 J J J J J (by omega) (by omega)) J J ?_;refine Xh J J J J J J J J J (by assumption) J J ?_;refine Qe (Q0 ?_)
      refine Qc ?_;refine M0 (Qa J J J) J J ?_;refine M0 (Qa J J J) J J ?_
      refine Xd (lo := [_,_,_,_]) (gs := [(0,.c (.ptr 0 0)),(5,.c (.ref 3))]) (lo' := [_,_,_,_]) (new := []) [0,1,2,3] [(0,0,.ptr 0 0),(1,0,.ref 3)] (cp) J J J J J J J J J J J J J J J J J ?_
      refine Qe (Q1 (Q0 (Qc ?_)));refine M0 (Qa J J J) J J ?_;refine M0 (Qs J J J J (by omega)) J J ?_
      refine M0 (Qb J J J) J J ?_;refine Qe (Q0 ?_)
      refine ⟨(w.Bodies.drop w.Scores.length).length - (i + 1),(by omega),(fun (i : Nat) (s2 : List Int) (g2 : List Bool) => (⟨_,[(0,.o (.c (.ptr 0 0))),(2,I (els w.Scores).length),(3,.o (.c (.ref 5))),(4,.o (.c (.ref 6))),(8,I (((els w.Scores).length + i : Nat) : Int))],[.box [.ref 1,jn w.Tick,jn w.Seed,.ref 2,.ref 3],.row 1 (els w.Level.Rows),.row 1 (els s2),.row 9 (els bs),.gh 0 (.c (.ptr 0 0)),.row 9 (els (w.Bodies.take w.Scores.length)),.row 1 (els g2)]⟩ : St)) (i + 1) (addM s2 j) (g2.set (w.Scores.length + i) true),W_go [0,1,2,3,4,5,6] (by decide) rfl ((by exact rw6g st_gl)) (.cons rfl (.cons rfl (.cons rfl (.cons rfl (.cons (I_eq (by omega)) (.nil)))))),i + 1,addM s2 j,g2.set (w.Scores.length + i) true,rfl,⟨by omega,n1,ng⟩,rfl⟩
  have hb0 : decide ((((els w.Scores).length + i : Nat) : Int) < (els bs).length) = false := decide_eq_false (by omega)
  have hi2 : i = (w.Bodies.drop w.Scores.length).length := by omega
  rw [hi2] at hs2
  have hg4 : ∀ j,j < (w.Bodies.drop w.Scores.length).length → g2[w.Scores.length + j]? = some (shF w.Scores.length (w.Bodies.drop w.Scores.length) (w.Bodies,w.Scores) j || itF w.Scores.length (w.Bodies.drop w.Scores.length) bs j) := fun j h1 => by
    rw [hgi j h1 (by omega),decide_eq_true (by omega : j < i)]; simp
  have hlk : (els (w.Bodies.take w.Scores.length)).length = w.Scores.length := by rw [els_len,List.length_take]; omega
  have hcl : ((els bs).take ((els w.Scores).length : Int).toNat).length = (els (w.Bodies.take w.Scores.length)).length := by rw [hlk,List.length_take,Int.toNat_natCast]; omega
  refine Qd (Qd (Qc ?_));refine M0 (Qa J J J) J J ?_;refine M0 (Qa J J J) J J ?_;refine M0 (Qz J J J) J J ?_
  refine M0 (Qf J J J J (by decide)) J J ?_;refine M0 (Qg J J J J J) J J ?_;refine M0 (q_lenr J J J J) J J ?_
  refine M0 (Qr J J J J (by assumption)) J J ?_;refine Qe (Q0 ?_);refine Ql rfl ?_;refine Q9 (T_x (T_x (B_xs (Q0 ?_))))
  refine Qd (Qc ?_);refine M0 (Qa J J J) J J ?_;refine M0 (Qa J J J) J J ?_;refine M0 (Qz J J J) J J ?_
  refine M0 (Qf J J J J (by decide)) J J ?_;refine M0 (Qg J J J J J) J J ?_;refine M0 (Qa J J J) J J ?_
  refine M0 (q_partr0 J J J J J J (by omega)) J J ?_
  refine M_copy J J J J J J J J J J (fun e he => els_pl9 _ e (List.mem_of_mem_take he)) (fun e he => els_k9 _ e (List.mem_of_mem_take he)) hcl (by omega) ?_
  refine Qe (Q0 (Qd (Qd (Qc ?_))));refine M0 (Qa J J J) J J ?_;refine M0 (Qb J J J) J J ?_;refine Qe ?_
  refine Q0 (Qk ?_)
  refine A_loop (fun m__ st => ∃ (j : Nat) (kr : List TBody),(w.Bodies.drop w.Scores.length).length - j = m__ ∧ (j ≤ (w.Bodies.drop w.Scores.length).length ∧ kr = keepR w.Scores.length (w.Bodies.drop w.Scores.length) (w.Bodies,w.Scores) bs j) ∧ st = (fun (j : Nat) (kr : List TBody) => (⟨_,[(0,.o (.c (.ptr 0 0))),(2,I (els w.Scores).length),(3,.o (.c (.ref 5))),(4,.o (.c (.ref 6))),(10,I (((els w.Scores).length + j : Nat) : Int))],[.box [.ref 1,jn w.Tick,jn w.Seed,.ref 2,.ref 3],.row 1 (els w.Level.Rows),.row 1 (els s2),.row 9 (els bs),.gh 0 (.c (.ptr 0 0)),.row 9 (els (bs.take w.Scores.length ++ kr)),.row 1 (els g2)]⟩ : St)) (j) (kr)) ((fun (j : Nat) (kr : List TBody) => (w.Bodies.drop w.Scores.length).length - j) (0) ([])) ⟨(fun (j : Nat) (kr : List TBody) => (⟨_,[(0,.o (.c (.ptr 0 0))),(2,I (els w.Scores).length),(3,.o (.c (.ref 5))),(4,.o (.c (.ref 6))),(10,I (((els w.Scores).length + j : Nat) : Int))],[.box [.ref 1,jn w.Tick,jn w.Seed,.ref 2,.ref 3],.row 1 (els w.Level.Rows),.row 1 (els s2),.row 9 (els bs),.gh 0 (.c (.ptr 0 0)),.row 9 (els (bs.take w.Scores.length ++ kr)),.row 1 (els g2)]⟩ : St)) (0) ([]),W_go [0,1,2,3,4,5,6] (by decide) rfl ((by exact rw6 (by rw [List.append_nil,els_takeE2,hls,Int.toNat_natCast]))) (.cons rfl (.cons rfl (.cons rfl (.cons rfl (.cons (I_eq (by omega)) (.nil)))))),0,[],rfl,⟨by omega,rfl⟩,rfl⟩ ?_
  rintro m_C _ ⟨j,kr,hk_C,hp_C,rfl⟩
  obtain ⟨hj,hkr⟩ := hp_C
  have hlkr : (els (bs.take w.Scores.length ++ kr)).length = w.Scores.length + kr.length := by rw [els_len,List.length_append,List.length_take]; omega
  have hkl : kr.length ≤ j := by rw [hkr]; exact keepR_le j
  clear hb0
  by_cases hlt : j < (w.Bodies.drop w.Scores.length).length
  · have hb0 : decide ((((els w.Scores).length + j : Nat) : Int) < (els bs).length) = true := decide_eq_true (by omega)
    obtain ⟨b,hb⟩ := some_sm hlt
    have hbb : bs[w.Scores.length + j]? = some b := by rw [hSt _ (by omega),← List.getElem?_drop]; exact hb
    have hgj := hg4 j hlt
    have hnx : keepR w.Scores.length (w.Bodies.drop w.Scores.length) (w.Bodies,w.Scores) bs (j + 1) = if (shF w.Scores.length (w.Bodies.drop w.Scores.length) (w.Bodies,w.Scores) j || itF w.Scores.length (w.Bodies.drop w.Scores.length) bs j) = true then kr else kr ++ [b] := by
      rw [keepR,hb,hkr,itF,hb]
    have he := at_el hbb
    cases hf : (shF w.Scores.length (w.Bodies.drop w.Scores.length) (w.Bodies,w.Scores) j || itF w.Scores.length (w.Bodies.drop w.Scores.length) bs j) with
    | true =>
      rw [hf] at hgj hnx
      have heg := at_gl hgj
      refine Qd (Qd (Qc ?_));refine M0 (Qa J J J) J J ?_;refine M0 (Qa J J J) J J ?_;refine M0 (Qz J J J) J J ?_
      refine M0 (Qf J J J J (by decide)) J J ?_;refine M0 (Qg J J J J J) J J ?_;refine M0 (q_lenr J J J J) J J ?_
      refine M0 (Qr J J J J (by assumption)) J J ?_;refine Qe (Q0 ?_);refine Qm rfl ?_;refine Qh (Q0 (Qd (Qk ?_)))
      refine Qd (Qc ?_);refine M0 (Qa J J J) J J ?_;refine M0 (Qa J J J) J J ?_
      refine M0 (Q3 J J J J J (by omega) (by omega)) J J ?_;refine M0 (Q7 J J J J (by assumption) rfl) J J ?_;refine M0 (Q4 J J J) J J ?_
      refine Qe (Q0 ?_);refine Ql rfl ?_;refine Qh (Q1 (Q0 (Qc ?_)));refine M0 (Qa J J J) J J ?_
      refine M0 (Qs J J J J (by omega)) J J ?_;refine M0 (Qb J J J) J J ?_;refine Qe (Q0 ?_)
      refine ⟨(w.Bodies.drop w.Scores.length).length - (j + 1),(by omega),(fun (j : Nat) (kr : List TBody) => (⟨_,[(0,.o (.c (.ptr 0 0))),(2,I (els w.Scores).length),(3,.o (.c (.ref 5))),(4,.o (.c (.ref 6))),(10,I (((els w.Scores).length + j : Nat) : Int))],[.box [.ref 1,jn w.Tick,jn w.Seed,.ref 2,.ref 3],.row 1 (els w.Level.Rows),.row 1 (els s2),.row 9 (els bs),.gh 0 (.c (.ptr 0 0)),.row 9 (els (bs.take w.Scores.length ++ kr)),.row 1 (els g2)]⟩ : St)) (j + 1) (kr),W_go [0,1,2,3,4,5,6] (by decide) rfl (rfl) (.cons rfl (.cons rfl (.cons rfl (.cons rfl (.cons (I_eq (by omega)) (.nil)))))),j + 1,kr,rfl,⟨by omega,hnx.symm⟩,rfl⟩
    | false =>
      rw [hf] at hgj hnx
      have heg := at_gl hgj
      refine Qd (Qd (Qc ?_));refine M0 (Qa J J J) J J ?_;refine M0 (Qa J J J) J J ?_;refine M0 (Qz J J J) J J ?_
      refine M0 (Qf J J J J (by decide)) J J ?_;refine M0 (Qg J J J J J) J J ?_;refine M0 (q_lenr J J J J) J J ?_
      refine M0 (Qr J J J J (by assumption)) J J ?_;refine Qe (Q0 ?_);refine Qm rfl ?_;refine Qh (Q0 (Qd (Qk ?_)))
      refine Qd (Qc ?_);refine M0 (Qa J J J) J J ?_;refine M0 (Qa J J J) J J ?_
      refine M0 (Q3 J J J J J (by omega) (by omega)) J J ?_;refine M0 (Q7 J J J J (by assumption) rfl) J J ?_;refine M0 (Q4 J J J) J J ?_
      refine Qe (Q0 ?_);refine Qm rfl ?_;refine Qc ?_;refine M0 (Qa J J J) J J ?_;refine M0 (Qa J J J) J J ?_
      refine M0 (Qz J J J) J J ?_;refine M0 (Qf J J J J (by decide)) J J ?_;refine M0 (Qg J J J J J) J J ?_
      refine M0 (Qa J J J) J J ?_;refine M0 (Q3 J J J J J (by omega) (by omega)) J J ?_;refine M0 (Q6 J J J J (by assumption) J J) J J ?_
      refine M1 (q_bslice J J J J J J) J J ?_;refine M_appo J J J J J J J J J J J J J J (by omega) (by omega) ?_
      refine M0 (Qb J J J) J J ?_;refine Qe (Q1 (Q0 (Qc ?_)));refine M0 (Qa J J J) J J ?_
      refine M0 (Qs J J J J (by omega)) J J ?_;refine M0 (Qb J J J) J J ?_;refine Qe (Q0 ?_)
      refine ⟨(w.Bodies.drop w.Scores.length).length - (j + 1),(by omega),(fun (j : Nat) (kr : List TBody) => (⟨_,[(0,.o (.c (.ptr 0 0))),(2,I (els w.Scores).length),(3,.o (.c (.ref 5))),(4,.o (.c (.ref 6))),(10,I (((els w.Scores).length + j : Nat) : Int))],[.box [.ref 1,jn w.Tick,jn w.Seed,.ref 2,.ref 3],.row 1 (els w.Level.Rows),.row 1 (els s2),.row 9 (els bs),.gh 0 (.c (.ptr 0 0)),.row 9 (els (bs.take w.Scores.length ++ kr)),.row 1 (els g2)]⟩ : St)) (j + 1) (kr ++ [b]),W_go [0,1,2,3,4,5,6] (by decide) rfl ((by exact rw6 (by rw [← List.append_assoc,els_app]; rfl))) (.cons rfl (.cons rfl (.cons rfl (.cons rfl (.cons (I_eq (by omega)) (.nil)))))),j + 1,kr ++ [b],rfl,⟨by omega,hnx.symm⟩,rfl⟩
  have hb0 : decide ((((els w.Scores).length + j : Nat) : Int) < (els bs).length) = false := decide_eq_false (by omega)
  have hj2 : j = (w.Bodies.drop w.Scores.length).length := by omega
  rw [hj2] at hkr
  have hres : hitsR w.Scores.length w.Bodies w.Scores = (bs.take w.Scores.length ++ kr,s2) := by
    simp only [hitsR,← hs]
    rw [← hkr,← hs2]
  rw [hres]
  refine Qd (Qd (Qc ?_));refine M0 (Qa J J J) J J ?_;refine M0 (Qa J J J) J J ?_;refine M0 (Qz J J J) J J ?_
  refine M0 (Qf J J J J (by decide)) J J ?_;refine M0 (Qg J J J J J) J J ?_;refine M0 (q_lenr J J J J) J J ?_
  refine M0 (Qr J J J J (by assumption)) J J ?_;refine Qe (Q0 ?_);refine Ql rfl ?_;refine Q9 (T_x (T_x (B_xs (Q0 ?_))))
  refine Qc ?_;refine M0 (Qa J J J) J J ?_;refine M0 (Qa J J J) J J ?_;refine M0 (Qz J J J) J J ?_
  refine M0 (Qf J J J J (by decide)) J J ?_;refine Q5 J J J J J J J J ?_;refine Qe (F_n ?_)
  exact E_none rfl (W_end [0,1,2,5,4] (by decide) J J J)
end Go.Proofs.Ytmljakmaffbnlaa
end

section
set_option linter.unusedSimpArgs false
set_option linter.unusedVariables false
set_option maxRecDepth 8000
namespace Go.Proofs.Ytmljakmaffbnlaa
open Go.RowKit

def itemB (x y : Int) : TBody := ⟨2,0,x,y,0,0,0,0,0⟩
def isItem (x y : Int) (b : TBody) : Bool := decide (b.Kind = 2 ∧ b.X = x ∧ b.Y = y)
def itemAt (bs : List TBody) (x y : Int) : Bool := bs.any (isItem x y)
def spotOf (l : TLevel) (seed : Int) : List Int := (spotsM l).getD (belowR seed (spotsM l).length).toNat []
/-- The last part of a tick. -/
def lastM (l : TLevel) (tick seed : Int) (ss : List Int) (bs : List TBody) : TWorld :=
  if tick % 16 ≠ 0 ∨ (spotsM l).length = 0 ∨ 24 ≤ bs.length then ⟨l,tick,seed,ss,bs⟩
  else if itemAt bs ((spotOf l seed).getD 0 0) ((spotOf l seed).getD 1 0) = true then ⟨l,tick,nextR seed,ss,bs⟩
  else ⟨l,tick,nextR seed,ss,bs ++ [itemB ((spotOf l seed).getD 0 0) ((spotOf l seed).getD 1 0)]⟩
noncomputable def movedM (w : TWorld) (row : List Int) : List TBody := mvM w.Level (plM w.Level row w.Bodies w.Scores.length)
noncomputable def tickM (w : TWorld) (row : List Int) : TWorld :=
  lastM w.Level (w.Tick + 1) (nextR w.Seed) (hitsR w.Scores.length (movedM w row) w.Scores).2 (hitsR w.Scores.length (movedM w row) w.Scores).1
noncomputable def stepW (w : TWorld) (row : List Int) : TWorld := if worldOk w = true ∧ w.Tick ≠ 100000 ∧ rowOk row w.Scores.length = true then tickM w row else w
theorem PH.of {w : TWorld} {row : List Int} (hg : Enc.gd w) (ho : worldOk w = true) (hr : rowOk row w.Scores.length = true) : PH w row := by
  obtain ⟨gL,gT,gS,gSc,gB⟩ := hg
  obtain ⟨hl,ht,hs,hn,hsc,hlen,hbo⟩ := worldOk_spec ho
  rw [rowOk,Bool.and_eq_true,decide_eq_true_eq] at hr
  refine ⟨gL,gB.2,hl,hn,hlen,hbo,by omega,fun i hi => ?_⟩
  have := List.all_eq_true.1 hr.2 i hi
  exact inR_iff.1 this
theorem scores_rng {w : TWorld} (ho : worldOk w = true) : ∀ x ∈ w.Scores,0 ≤ x ∧ x ≤ 1000000 := fun x hx => by
  obtain ⟨_,_,_,_,hsc,_,_⟩ := worldOk_spec ho
  exact inR_iff.1 (List.all_eq_true.1 hsc x hx)
section
variable {w : TWorld} {row : List Int}
theorem PH.pl (h : PH w row) : P1 w.Level w.Scores.length w.Bodies (plM w.Level row w.Bodies w.Scores.length) w.Scores.length := P1.all h.hl h.n4.2 h.len h.bs row _ (Nat.le_refl _)
theorem PH.mv (h : PH w row) : LM w.Level w.Scores.length (movedM w row) := h.pl.lm.move
end
section
variable {l : TLevel} {n : Nat} {bs : List TBody} {ss : List Int}
theorem SI.drop {bs0 : List TBody} {s : List TBody × List Int} (h : SI l n bs0 s) : s.1.drop n = bs0.drop n := by
  apply List.ext_getElem?
  intro i
  rw [List.getElem?_drop,List.getElem?_drop]
  exact h.tl _ (by omega)
theorem SI.shots (h : LM l n bs) (h1 : ss.length = n) (h2 : ∀ x ∈ ss,0 ≤ x ∧ x ≤ 1000000) : LM l n ((shS n (bs.drop n) (bs,ss) (bs.drop n).length).1.take n ++ shL n (bs.drop n) (bs,ss) (bs.drop n).length) := by
  have hS := (SI.start h h1 h2).all (bs.drop n) (bs.drop n).length
  have hl := h.len
  have hd := hS.drop
  have h3 := shL_le (n := n) (t := bs.drop n) (s := (bs,ss)) (bs.drop n).length
  have h4 : (bs.drop n).length = bs.length - n := List.length_drop
  exact hS.lm.cut (fun b hb => by rw [hd]; exact shL_sub _ b hb) (by omega)
theorem LM.items {j : Nat} (h : LM l n bs) (hj : j ≤ bs.length - n) : LM l n (bs.take n ++ itL n bs (bs.drop n) j) := by
  have hl := h.len
  have h3 := itL_le (n := n) (bs := bs) (t := bs.drop n) (j := j)
  exact h.cut (fun b hb => List.mem_of_mem_take (List.mem_filter.1 hb).1) (by omega)
theorem hits_lm (h : LM l n bs) (h1 : ss.length = n) (h2 : ∀ x ∈ ss,0 ≤ x ∧ x ≤ 1000000) : LM l n (hitsR n bs ss).1 ∧ (hitsR n bs ss).2.length = n ∧ ∀ x ∈ (hitsR n bs ss).2,0 ≤ x ∧ x ≤ 1000000 := by
  have hS := (SI.start h h1 h2).all (bs.drop n) (bs.drop n).length
  rw [← hits_eq h h1 h2]
  exact ⟨(SI.shots h h1 h2).items (by rw [List.length_drop]; exact Nat.le_refl _),itS_ok hS.sl hS.sc⟩
end
/-! ### What fits -/
def TA (b : TBody) : Prop := (-2 ≤ b.Timer ∧ b.Timer ≤ 25) ∧ (-1 ≤ b.Aim ∧ b.Aim ≤ 1)
theorem body_aim {l : TLevel} {n k : Nat} {b : TBody} (h : bodyAt l n k b = true) : -1 ≤ b.Aim ∧ b.Aim ≤ 1 := by
  rw [bodyAt,Bool.and_eq_true] at h
  have h1 := h.1
  simp only [bodyM,Bool.and_eq_true] at h1
  obtain ⟨_,_,_,_,_,ht⟩ := h1
  unfold tailM at ht
  split at ht
  · simp only [Bool.and_eq_true,decide_eq_true_eq] at ht; omega
  · split at ht
    · simp only [Bool.and_eq_true,decide_eq_true_eq] at ht; omega
    · simp only [decide_eq_true_eq] at ht; omega
theorem pl_aim {l : TLevel} {row : List Int} {bs : List TBody} (h : ∀ b ∈ bs,-1 ≤ b.Aim ∧ b.Aim ≤ 1) : ∀ k,∀ b ∈ plM l row bs k,-1 ≤ b.Aim ∧ b.Aim ≤ 1
  | 0,b,hb => h b hb
  | k + 1,b,hb => by
    have ih := pl_aim (row := row) (l := l) h k
    rw [plM] at hb
    split at hb
    · exact ih b hb
    · rename_i p hp
      have hp2 := ih p (List.mem_of_getElem? hp)
      have hs : -1 ≤ (steer l p (row.getD k 0)).1.Aim ∧ (steer l p (row.getD k 0)).1.Aim ≤ 1 := by
        simp only [steer]
        split
        · omega
        · split <;> omega
      have key : ∀ {c : TBody},(-1 ≤ c.Aim ∧ c.Aim ≤ 1) → b ∈ (plM l row bs k).set k c → -1 ≤ b.Aim ∧ b.Aim ≤ 1 := fun hc hb => by
        rcases List.mem_or_eq_of_mem_set hb with h1 | h1
        · exact ih b h1
        · subst h1; exact hc
      unfold plOne at hb
      split at hb
      · refine key ?_ hb
        split
        · simp [fresh]
        · exact hp2
      · split at hb
        · rcases List.mem_append.1 hb with h1 | h1
          · exact key hs h1
          · rw [List.mem_singleton] at h1; subst h1; simp [shotOf]
        · exact key hs hb
theorem mv_ta {l : TLevel} {bs : List TBody} (h : ∀ b ∈ bs,(0 ≤ b.Timer ∧ b.Timer ≤ 25) ∧ (-1 ≤ b.Aim ∧ b.Aim ≤ 1)) : ∀ b ∈ mvM l bs,TA b := fun b hb => by
  obtain ⟨c,hc,hcb⟩ := List.mem_filterMap.1 hb
  have hh := h c hc
  unfold mvOne at hcb
  split at hcb
  · cases hcb
    exact ⟨⟨by simp only [moveM]; omega,by simp only [moveM]; omega⟩,hh.2⟩
  · split at hcb
    · split at hcb
      · cases hcb
      · cases hcb
        exact ⟨⟨by simp only [tick1,moveM]; omega,by simp only [tick1,moveM]; omega⟩,hh.2⟩
    · cases hcb; exact ⟨by omega,hh.2⟩
theorem sh_ta {n : Nat} {t : List TBody} {s : List TBody × List Int} (h : ∀ b ∈ s.1,TA b) : ∀ j,∀ b ∈ (shS n t s j).1,TA b
  | 0,b,hb => h b hb
  | j + 1,b,hb => by
    have ih := sh_ta (n := n) (t := t) h j
    rw [shS] at hb
    split at hb
    · exact ih b hb
    · unfold shOne at hb
      split at hb
      · split at hb
        · exact ih b hb
        · split at hb
          · exact ih b hb
          · rename_i p hp
            rcases List.mem_or_eq_of_mem_set hb with h1 | h1
            · exact ih b h1
            · subst h1
              have h2 := ih p (List.mem_of_getElem? hp)
              refine ⟨?_,h2.2⟩
              simp only [hitB]
              split
              · omega
              · exact h2.1
      · exact ih b hb
theorem keepR_sub {n : Nat} {t bs : List TBody} {s : List TBody × List Int} : ∀ j,∀ b ∈ keepR n t s bs j,b ∈ t
  | 0,b,hb => by cases hb
  | j + 1,b,hb => by
    rw [keepR] at hb
    split at hb
    · exact keepR_sub j b hb
    · rename_i c hc
      split at hb
      · exact keepR_sub j b hb
      · rcases List.mem_append.1 hb with h | h
        · exact keepR_sub j b h
        · rw [List.mem_singleton] at h; subst h; exact List.mem_of_getElem? hc
theorem hits_ta {n : Nat} {bs : List TBody} {ss : List Int} (h : ∀ b ∈ bs,TA b) : ∀ b ∈ (hitsR n bs ss).1,TA b := fun b hb => by
  rcases List.mem_append.1 hb with h1 | h1
  · exact sh_ta (s := (bs,ss)) h _ b (List.mem_of_mem_take h1)
  · exact h b (List.mem_of_mem_drop (keepR_sub _ b h1))
theorem body_gd {l : TLevel} {n : Nat} {b : TBody} (hl : levelOk l = true) (hn : n ≤ 4) (h : BM l n b) (ht : TA b) : Enc.gd b := by
  have hp := (h.placed hl).1
  obtain ⟨hk,ho,_,hvx,hvy,hf⟩ := h
  obtain ⟨_,hx,hy⟩ := hp
  obtain ⟨h1,h2⟩ := ht
  refine ⟨⟨?_,?_⟩,⟨?_,?_⟩,⟨?_,?_⟩,⟨?_,?_⟩,⟨?_,?_⟩,⟨?_,?_⟩,⟨?_,?_⟩,⟨?_,?_⟩,⟨?_,?_⟩⟩ <;> omega
theorem spot_rng {l : TLevel} (hl : levelOk l = true) {sp : List Int} (h : sp ∈ spotsM l) : ∃ x y : Int,sp = [x,y] ∧ (0 ≤ x ∧ x ≤ 400) ∧ (0 ≤ y ∧ y ≤ 400) := by
  obtain ⟨l3,l12,w,w4,w20,hw⟩ := level_facts hl
  obtain ⟨r,c,row,h1,h2,h3,_,h5⟩ := rowSp_at h
  obtain ⟨h6,h7⟩ := List.getElem?_eq_some_iff.1 h2
  have h8 := hw r h6
  rw [h7] at h8
  exact ⟨_,_,h5,by omega,by omega⟩
theorem spotOf_mem {l : TLevel} {seed : Int} (h : (spotsM l).length ≠ 0) : ∃ (i : Nat),belowR seed (spotsM l).length = i ∧ i < (spotsM l).length ∧ (spotsM l)[i]? = some (spotOf l seed) := by
  have h1 := nextR_rng seed
  have h2 : 0 ≤ belowR seed (spotsM l).length ∧ belowR seed (spotsM l).length < (spotsM l).length := by
    unfold belowR
    exact ⟨Int.emod_nonneg _ (by omega),Int.emod_lt_of_pos _ (by omega)⟩
  obtain ⟨i,hi⟩ : ∃ i : Nat,belowR seed (spotsM l).length = i := ⟨_,(Int.toNat_of_nonneg h2.1).symm⟩
  refine ⟨i,hi,by omega,?_⟩
  rw [spotOf,hi,Int.toNat_natCast,List.getD_eq_getElem?_getD,List.getElem?_eq_getElem (by omega)]
  rfl
theorem item_gd {x y : Int} (hx : 0 ≤ x ∧ x ≤ 400) (hy : 0 ≤ y ∧ y ≤ 400) : Enc.gd (itemB x y) := by
  refine ⟨⟨?_,?_⟩,⟨?_,?_⟩,⟨?_,?_⟩,⟨?_,?_⟩,⟨?_,?_⟩,⟨?_,?_⟩,⟨?_,?_⟩,⟨?_,?_⟩,⟨?_,?_⟩⟩ <;> simp only [itemB] <;> omega
/-- What a tick keeps. -/
structure Fits (w : TWorld) (n : Nat) : Prop where
  gd : Enc.gd w
  sl : w.Scores.length = n
  bl : w.Bodies.length ≤ 24
theorem last_fits {l : TLevel} {tick seed : Int} {ss : List Int} {bs : List TBody} {n : Nat} (hl : levelOk l = true) (gl : Enc.gd l) (ht : 0 ≤ tick ∧ tick ≤ 100000) (hs : 0 ≤ seed ∧ seed ≤ 65535) (h1 : ss.length = n) (hn : n ≤ 4) (h2 : ∀ x ∈ ss,0 ≤ x ∧ x ≤ 1000000) (h3 : bs.length ≤ 24) (h4 : ∀ b ∈ bs,Enc.gd b) : Fits (lastM l tick seed ss bs) n := by
  have g2 : Enc.gd ss := ⟨by omega,fun x hx => by have := h2 x hx; exact ⟨by omega,by omega⟩⟩
  have g1 : Enc.gd bs := ⟨by omega,h4⟩
  have gt : Enc.gd tick := ⟨by omega,by omega⟩
  have gs : Enc.gd seed := ⟨by omega,by omega⟩
  have hnx := nextR_rng seed
  have gn : Enc.gd (nextR seed) := ⟨by omega,by omega⟩
  unfold lastM
  split
  · exact ⟨⟨gl,gt,gs,g2,g1⟩,h1,h3⟩
  · rename_i hc
    split
    · exact ⟨⟨gl,gt,gn,g2,g1⟩,h1,h3⟩
    · obtain ⟨i,_,_,hi⟩ := spotOf_mem (l := l) (seed := seed) (fun e => hc (.inr (.inl e)))
      obtain ⟨x,y,he,hx,hy⟩ := spot_rng hl (List.mem_of_getElem? hi)
      have hb : bs.length < 24 := by
        rcases Nat.lt_or_ge bs.length 24 with h | h
        · exact h
        · exact absurd (.inr (.inr h)) hc
      have hli : (bs ++ [itemB ((spotOf l seed).getD 0 0) ((spotOf l seed).getD 1 0)]).length ≤ 24 := by rw [List.length_append]; simp; omega
      refine ⟨⟨gl,gt,gn,g2,Nat.le_trans hli (by decide),fun b hb2 => ?_⟩,h1,hli⟩
      rcases List.mem_append.1 hb2 with h5 | h5
      · exact h4 b h5
      · rw [List.mem_singleton] at h5
        subst h5
        rw [he]
        exact item_gd hx hy
theorem tick_fits {w : TWorld} {row : List Int} (hg : Enc.gd w) (ho : worldOk w = true) (ht : w.Tick ≠ 100000) (hr : rowOk row w.Scores.length = true) : Fits (tickM w row) w.Scores.length := by
  have hP := PH.of hg ho hr
  obtain ⟨hl,htk,hs,hn,hsc,hlen,hbo⟩ := worldOk_spec ho
  have htk := inR_iff.1 htk
  have hM := hits_lm hP.mv rfl (scores_rng ho)
  have hta : ∀ b ∈ movedM w row,TA b := mv_ta fun b hb => ⟨hP.pl.tm b hb,pl_aim (fun c hc => by
    obtain ⟨j,hj,rfl⟩ := List.mem_iff_getElem.1 hc
    exact body_aim (hbo j hj)) _ b hb⟩
  have hnx := nextR_rng w.Seed
  refine last_fits hl hg.1 ⟨by omega,by omega⟩ hnx hM.2.1 hn.2 hM.2.2 hM.1.len.2 fun b hb => ?_
  obtain ⟨j,hj⟩ := List.getElem?_of_mem hb
  exact body_gd hl hn.2 (hM.1.at_ j b hj).1 (hits_ta hta b hb)
theorem stepW_level (w : TWorld) (row : List Int) : (stepW w row).Level = w.Level := by
  unfold stepW
  split
  · unfold tickM lastM
    split
    · rfl
    · split <;> rfl
  · rfl
theorem stepW_fits {w : TWorld} {row : List Int} (hg : Enc.gd w) : Enc.gd (stepW w row) ∧ (stepW w row).Scores.length = w.Scores.length ∧ (stepW w row).Bodies.length ≤ max w.Bodies.length 24 := by
  unfold stepW
  split
  · rename_i h
    have := tick_fits hg h.1 h.2.1 h.2.2
    exact ⟨this.gd,this.sl,by have := this.bl; omega⟩
  · exact ⟨hg,rfl,by omega⟩
end Go.Proofs.Ytmljakmaffbnlaa
end

section
set_option linter.unusedSimpArgs false
set_option linter.unusedVariables false
set_option maxRecDepth 8000
namespace Go.Proofs.Ytmljakmaffbnlaa
open Go.RowKit

instance : PlainE TBody := ⟨fun x t h => els_pl9 [x] (Enc.e x) (by simp [els]) t h⟩
set_option maxHeartbeats 8000000 in
theorem I_copyWorld (w : TWorld) (hg : Enc.gd w) (h1 : w.Level.Rows.length ≤ 1048576) (h2 : w.Scores.length ≤ 1048576) (h3 : w.Bodies.length ≤ 1048576) : Con Try.prog 63 [] [ag w] [.row 1 (els w.Level.Rows),.row 1 (els w.Scores),.row 9 (els w.Bodies)] (.o (.ag [.ref 0,jn w.Tick,jn w.Seed,.ref 1,.ref 2])) := by
  have hls := els_len w.Scores
  have hlb := els_len w.Bodies
  refine Con.of Try.func63 rfl Try.ntmps63 rfl (fun E => ?_)
  refine Qd (Qc ?_);refine M1 (Qq J J J J) J J ?_;refine M1 (Qx J J J) J J ?_;refine Qe (Q0 (Qd ?_))
  refine Qc ?_;refine M0 (Qf J J J J (by decide)) J J ?_;refine M0 (Qu J J J J J J) J J ?_
  refine M1 (q_call J J (I_copyLevel w.Level hg.1 h1) J J J) J J ?_;refine M0 (Qf J J J J (by decide)) J J ?_
  refine Qy J J J J J J J J J ?_;refine Qe (Q0 (Qd (Qc ?_)));refine M0 (Qf J J J J (by decide)) J J ?_
  refine M0 (Qg J J J J J) J J ?_;refine M_appnil J J J J J J J J (els_plain _) (els_k _) (by omega) (by omega) ?_
  refine M0 (Qf J J J J (by decide)) J J ?_;refine Q5 J J J J J J J J ?_;refine Qe (Q0 (Qd (Qc ?_)))
  refine M0 (Qf J J J J (by decide)) J J ?_;refine M0 (Qg J J J J J) J J ?_
  refine M_appnil J J J J J J J J (els_plain _) (els_k _) (by omega) (by omega) ?_;refine M0 (Qf J J J J (by decide)) J J ?_
  refine Q5 J J J J J J J J ?_;refine Qe (Q0 (Qd (Qc ?_)));refine M0 (Qu J J J J J J) J J ?_
  refine Qy J J J J J J J J J ?_;refine Qe (Q0 (Xa (F_r ?_)))
  exact E_cell J J J J (W_end [2,3,4] (by decide) J J J)
set_option maxHeartbeats 8000000 in
theorem S_copyWorld (w : TWorld) (hg : Enc.gd w) (h1 : w.Level.Rows.length ≤ 1048576) (h2 : w.Scores.length ≤ 1048576) (h3 : w.Bodies.length ≤ 1048576) : Con Try.prog 58 [] [ag w] [.row 1 (els w.Level.Rows),.row 1 (els w.Scores),.row 9 (els w.Bodies)] (.o (.ag [.ref 0,jn w.Tick,jn w.Seed,.ref 1,.ref 2])) := by
  have hls := els_len w.Scores
  have hlb := els_len w.Bodies
  have h00 : ([] : List (List T)).length = 0 := rfl
  refine Con.of Try.func58 rfl Try.ntmps58 rfl (fun E => ?_)
  refine Qd (Qc ?_);refine M1 (Qq J J J J) J J ?_;refine M1 (Qx J J J) J J ?_;refine Qe (Q0 (Qd ?_))
  refine Qc ?_;refine M0 (Qf J J J J (by decide)) J J ?_;refine M0 (Qu J J J J J J) J J ?_
  refine M1 (q_call J J (S_copyLevel w.Level hg.1 h1) J J J) J J ?_;refine M0 (Qf J J J J (by decide)) J J ?_
  refine Qy J J J J J J J J J ?_;refine Qe (Q0 (Qd (Qc ?_)));refine M1 (q_bslice0 J J J) J J ?_
  refine M0 (Qf J J J J (by decide)) J J ?_;refine M0 (Qg J J J J J) J J ?_
  refine M_app J J J J J J J J J J (els_plain _) (els_k _) (by omega) (by omega) ?_;refine M0 (Qf J J J J (by decide)) J J ?_
  refine Q5 J J J J J J J J ?_;refine Qe (Q0 (Qd (Qc ?_)));refine M1 (q_bslice0 J J J) J J ?_
  refine M0 (Qf J J J J (by decide)) J J ?_;refine M0 (Qg J J J J J) J J ?_
  refine M_app J J J J J J J J J J (els_plain _) (els_k _) (by omega) (by omega) ?_;refine M0 (Qf J J J J (by decide)) J J ?_
  refine Q5 J J J J J J J J ?_;refine Qe (Q0 (Qd (Qc ?_)));refine M0 (Qu J J J J J J) J J ?_
  refine Qy J J J J J J J J J ?_;refine Qe (Q0 (Xa (F_r ?_)))
  exact E_cell J J J J (W_end [2,3,4] (by decide) J J J)
end Go.Proofs.Ytmljakmaffbnlaa
end

section
set_option linter.unusedSimpArgs false
set_option linter.unusedVariables false
set_option maxRecDepth 8000
namespace Go.Proofs.Ytmljakmaffbnlaa
open Go.RowKit

theorem step_T {w : TWorld} {row : List Int} (h : worldOk w = true ∧ w.Tick ≠ 100000 ∧ rowOk row w.Scores.length = true) : stepW w row = tickM w row := by rw [stepW,if_pos h]
theorem step_F {w : TWorld} {row : List Int} (h : ¬ (worldOk w = true ∧ w.Tick ≠ 100000 ∧ rowOk row w.Scores.length = true)) : stepW w row = w := by rw [stepW,if_neg h]
theorem last_1 {l : TLevel} {tick seed : Int} {ss : List Int} {bs : List TBody} (h : tick % 16 ≠ 0 ∨ (spotsM l).length = 0 ∨ 24 ≤ bs.length) : lastM l tick seed ss bs = ⟨l,tick,seed,ss,bs⟩ := by rw [lastM,if_pos h]
theorem last_2 {l : TLevel} {tick seed : Int} {ss : List Int} {bs : List TBody} {x y : Int} (h : ¬ (tick % 16 ≠ 0 ∨ (spotsM l).length = 0 ∨ 24 ≤ bs.length)) (hs : spotOf l seed = [x,y]) (hi : itemAt bs x y = true) : lastM l tick seed ss bs = ⟨l,tick,nextR seed,ss,bs⟩ := by
  rw [lastM,if_neg h,hs]
  exact if_pos hi
theorem last_3 {l : TLevel} {tick seed : Int} {ss : List Int} {bs : List TBody} {x y : Int} (h : ¬ (tick % 16 ≠ 0 ∨ (spotsM l).length = 0 ∨ 24 ≤ bs.length)) (hs : spotOf l seed = [x,y]) (hi : itemAt bs x y = false) : lastM l tick seed ss bs = ⟨l,tick,nextR seed,ss,bs ++ [itemB x y]⟩ := by
  rw [lastM,if_neg h,hs]
  exact if_neg (by show ¬ itemAt bs x y = true; rw [hi]; simp)
theorem at_hit {bs : List TBody} {x y : Int} {k : Nat} {b : TBody} (hb : bs[k]? = some b) (h : b.Kind = 2 ∧ b.X = x ∧ b.Y = y) : itemAt bs x y = true := by
  rw [itemAt,List.any_eq_true]
  exact ⟨b,List.mem_of_getElem? hb,decide_eq_true h⟩
theorem at_go {bs : List TBody} {x y : Int} {k : Nat} {b : TBody} (hb : bs[k]? = some b) (h : ¬ (b.Kind = 2 ∧ b.X = x ∧ b.Y = y)) (hi : itemAt (bs.take k) x y = false) : itemAt (bs.take (k + 1)) x y = false := by
  obtain ⟨hk,rfl⟩ := List.getElem?_eq_some_iff.1 hb
  rw [List.take_succ_eq_append_getElem hk,itemAt,List.any_append,← itemAt,hi]
  simp only [List.any_cons,List.any_nil,Bool.or_false,Bool.false_or]
  exact decide_eq_false h
theorem rwS2 {a b : Ob} {t : List Ob} {k : Nat} {x y : List (List T)} (h : x = y) : a :: b :: Ob.row k x :: t = a :: b :: Ob.row k y :: t := by rw [h]
set_option maxHeartbeats 8000000 in
theorem I_StepWorld (w : TWorld) (row : List Int) (hg : Enc.gd w) (gr : Enc.gd row) (h1 : w.Level.Rows.length ≤ 1048576) (h2 : w.Scores.length ≤ 1048576) (h3 : w.Bodies.length ≤ 1048576) : Con Try.prog 89 [] [ag w,al row] [.row 1 (els w.Level.Rows),.row 1 (els (stepW w row).Scores),.row 9 (els (stepW w row).Bodies)] (.o (.ag [.ref 0,jn (stepW w row).Tick,jn (stepW w row).Seed,.ref 1,.ref 2])) := by
  have hls := els_len w.Scores
  have hlb := els_len w.Bodies
  have c1 := I_copyWorld w hg h1 h2 h3
  have c2 := I_WorldOk w hg
  have c3 := I_rowOk row ((els w.Scores).length : Int) gr
  rw [show rowOk row ((els w.Scores).length : Int) = rowOk row (w.Scores.length : Int) by rw [hls]] at c3
  cases ho : worldOk w with
  | false =>
    rw [step_F (fun q => by rw [ho] at q; cases q.1)]
    rw [ho] at c2
    refine Con.of Try.func89 rfl Try.ntmps89 rfl (fun E => ?_)
    refine Qd (Qc ?_);refine M1 (Qq J J J J) J J ?_;refine M1 (Qx J J J) J J ?_;refine Qe (Q0 (Qd ?_))
    refine Qc ?_;refine M0 (Qu J J J J J J) J J ?_;refine M1 (q_call J J (c1) J J J) J J ?_;refine M1 (Qx J J J) J J ?_
    refine Qy J J J J J J J J J ?_;refine Qe (Q0 (Qd (Qd (Qc ?_))));refine M0 (Qu J J J J J J) J J ?_
    refine M0 (Qj J J (c2) rfl) J J ?_;refine M0 (Q4 J J J) J J ?_;refine M0 (Qa J J J) J J ?_;refine Qp J J J J J J ?_
    refine Qp J J J J J J ?_;refine Qp J J J J J J ?_;refine M0 (Qo J J J J) J J ?_;refine M0 (Qa J J J) J J ?_
    refine Qp J J J J J J ?_;refine Qp J J J J J J ?_;refine Qp J J J J J J ?_;refine Qp J J J J J J ?_
    refine Qp J J J J J J ?_;refine Qp J J J J J J ?_;refine M0 (Qo J J J J) J J ?_;refine Qe (Q0 ?_);refine Qm rfl ?_
    refine Qd (Qc ?_);refine M0 (Qu J J J J J J) J J ?_;refine Qy J J J J J J J J J ?_;refine Qe (Q0 (Xa ?_))
    refine T_r (F_r ?_)
    exact E_cell J J J J (W_end [2,3,4] (by decide) J J J)
  | true =>
  rw [ho] at c2
  by_cases ht : w.Tick = 100000
  · have f1 : decide (w.Tick = 100000) = true := decide_eq_true ht
    rw [step_F (fun q => q.2.1 ht)]
    refine Con.of Try.func89 rfl Try.ntmps89 rfl (fun E => ?_)
    refine Qd (Qc ?_);refine M1 (Qq J J J J) J J ?_;refine M1 (Qx J J J) J J ?_;refine Qe (Q0 (Qd ?_))
    refine Qc ?_;refine M0 (Qu J J J J J J) J J ?_;refine M1 (q_call J J (c1) J J J) J J ?_;refine M1 (Qx J J J) J J ?_
    refine Qy J J J J J J J J J ?_;refine Qe (Q0 (Qd (Qd (Qc ?_))));refine M0 (Qu J J J J J J) J J ?_
    refine M0 (Qj J J (c2) rfl) J J ?_;refine M0 (Q4 J J J) J J ?_;refine M0 (Qa J J J) J J ?_;refine Qi J J J ?_
    refine M0 (Qf J J J J (by decide)) J J ?_;refine Qi J J J ?_;refine M0 (Qg J J J J J) J J ?_;refine Qi J J J ?_
    refine M0 (Qv J J J J (by assumption)) J J ?_;refine M0 (Qn J J J J) J J ?_;refine M0 (Qa J J J) J J ?_
    refine Qp J J J J J J ?_;refine Qp J J J J J J ?_;refine Qp J J J J J J ?_;refine Qp J J J J J J ?_
    refine Qp J J J J J J ?_;refine Qp J J J J J J ?_;refine M0 (Qo J J J J) J J ?_;refine Qe (Q0 ?_);refine Qm rfl ?_
    refine Qd (Qc ?_);refine M0 (Qu J J J J J J) J J ?_;refine Qy J J J J J J J J J ?_;refine Qe (Q0 (Xa ?_))
    refine T_r (F_r ?_)
    exact E_cell J J J J (W_end [2,3,4] (by decide) J J J)
  have f1 : decide (w.Tick = 100000) = false := decide_eq_false ht
  cases hr : rowOk row (w.Scores.length : Int) with
  | false =>
    rw [step_F (fun q => by rw [hr] at q; cases q.2.2)]
    rw [hr] at c3
    refine Con.of Try.func89 rfl Try.ntmps89 rfl (fun E => ?_)
    refine Qd (Qc ?_);refine M1 (Qq J J J J) J J ?_;refine M1 (Qx J J J) J J ?_;refine Qe (Q0 (Qd ?_))
    refine Qc ?_;refine M0 (Qu J J J J J J) J J ?_;refine M1 (q_call J J (c1) J J J) J J ?_;refine M1 (Qx J J J) J J ?_
    refine Qy J J J J J J J J J ?_;refine Qe (Q0 (Qd (Qd (Qc ?_))));refine M0 (Qu J J J J J J) J J ?_
    refine M0 (Qj J J (c2) rfl) J J ?_;refine M0 (Q4 J J J) J J ?_;refine M0 (Qa J J J) J J ?_;refine Qi J J J ?_
    refine M0 (Qf J J J J (by decide)) J J ?_;refine Qi J J J ?_;refine M0 (Qg J J J J J) J J ?_;refine Qi J J J ?_
    refine M0 (Qv J J J J (by assumption)) J J ?_;refine M0 (Qn J J J J) J J ?_;refine M0 (Qa J J J) J J ?_;refine Qi J J J ?_
    refine M0 (Qa J J J) J J ?_;refine Qi J J J ?_;refine M0 (Qf J J J J (by decide)) J J ?_;refine Qi J J J ?_
    refine M0 (Qg J J J J J) J J ?_;refine Qi J J J ?_;refine M0 (q_len J J J) J J ?_;refine Qi J J J ?_
    refine M0 (Qj J J (c3) rfl) J J ?_;refine Qi J J J ?_;refine M0 (Q4 J J J) J J ?_;refine M0 (Qn J J J J) J J ?_;refine Qe ?_
    refine Q0 ?_;refine Qm rfl ?_;refine Qd (Qc ?_);refine M0 (Qu J J J J J J) J J ?_;refine Qy J J J J J J J J J ?_
    refine Qe (Q0 (Xa (T_r (F_r ?_))))
    exact E_cell J J J J (W_end [2,3,4] (by decide) J J J)
  | true =>
  rw [hr] at c3
  rw [step_T ⟨ho,ht,hr⟩]
  have hP := PH.of hg ho hr
  have hsr := scores_rng ho
  have hM := hits_lm hP.mv rfl hsr
  have hSh := SI.shots hP.mv rfl hsr
  have hSI := (SI.start hP.mv rfl hsr).all ((movedM w row).drop w.Scores.length) ((movedM w row).drop w.Scores.length).length
  have hEq := hits_eq hP.mv rfl hsr
  obtain ⟨hl,htk,hsd,hn,_,hlen,hbo⟩ := worldOk_spec ho
  have htk := inR_iff.1 htk
  have hsd := inR_iff.1 hsd
  have d1 := I_stepPlayers w row hP
  have d2 := I_stepMoves ⟨w.Level,w.Tick,w.Seed,w.Scores,plM w.Level row w.Bodies w.Scores.length⟩ hg.1 hl hP.pl.lm hP.pl.tm
  have d3 := I_stepShots ⟨w.Level,w.Tick,w.Seed,w.Scores,movedM w row⟩ hg.1 hl hn hP.mv hsr
  have hsl := hSI.sl
  have hsc := hSI.sc
  simp only at d2 d3
  obtain ⟨s3,hs3⟩ : ∃ s3,s3 = (shS w.Scores.length ((movedM w row).drop w.Scores.length) (movedM w row,w.Scores) ((movedM w row).drop w.Scores.length).length).2 := ⟨_,rfl⟩
  obtain ⟨b3,hb3⟩ : ∃ b3,b3 = (shS w.Scores.length ((movedM w row).drop w.Scores.length) (movedM w row,w.Scores) ((movedM w row).drop w.Scores.length).length).1.take w.Scores.length ++ shL w.Scores.length ((movedM w row).drop w.Scores.length) (movedM w row,w.Scores) ((movedM w row).drop w.Scores.length).length := ⟨_,rfl⟩
  have hP2 : hitsP w.Scores.length (movedM w row) w.Scores = (b3.take w.Scores.length ++ itL w.Scores.length b3 (b3.drop w.Scores.length) (b3.drop w.Scores.length).length,itS w.Scores.length b3 (b3.drop w.Scores.length) s3 (b3.drop w.Scores.length).length) := by rw [hitsP,hs3,hb3]
  rw [← hs3] at d3 hsl hsc
  rw [← hb3] at d3 hSh
  have d4 := I_stepItems ⟨w.Level,w.Tick,w.Seed,s3,b3⟩ hg.1 hl (by simp only; omega) (by simp only; rw [hsl]; exact hSh) hsc
  simp only at d4
  rw [hsl] at d4
  obtain ⟨s4,hs4⟩ : ∃ s4,s4 = itS w.Scores.length b3 (b3.drop w.Scores.length) s3 (b3.drop w.Scores.length).length := ⟨_,rfl⟩
  obtain ⟨b4,hb4⟩ : ∃ b4,b4 = b3.take w.Scores.length ++ itL w.Scores.length b3 (b3.drop w.Scores.length) (b3.drop w.Scores.length).length := ⟨_,rfl⟩
  rw [← hs4,← hb4] at d4
  rw [← hs4,← hb4,hEq] at hP2
  rw [tickM,hP2]
  rw [hP2] at hM
  obtain ⟨hM1,hM2,hM3⟩ := hM
  simp only at hM1 hM2 hM3
  have e1 := I_NextRandom w.Seed ⟨by omega,by omega⟩
  have e2 := I_SpotsOf w.Level hg.1 hl
  have hlb4 := els_len b4
  have hbl := hM1.len
  have hlsp := els_len (spotsM w.Level)
  have hsl2 := spots_len hl
  have hnr := nextR_rng w.Seed
  clear hEq hP2 hSI hSh hb4 hs4 hb3 hs3 hbo hsl hsc
  refine Con.of Try.func89 rfl Try.ntmps89 rfl (fun E => ?_)
  refine Qd (Qc ?_);refine M1 (Qq J J J J) J J ?_;refine M1 (Qx J J J) J J ?_;refine Qe (Q0 (Qd ?_))
  refine Qc ?_;refine M0 (Qu J J J J J J) J J ?_;refine M1 (q_call J J (c1) J J J) J J ?_;refine M1 (Qx J J J) J J ?_
  refine Qy J J J J J J J J J ?_;refine Qe (Q0 (Qd (Qd (Qc ?_))));refine M0 (Qu J J J J J J) J J ?_
  refine M0 (Qj J J (c2) rfl) J J ?_;refine M0 (Q4 J J J) J J ?_;refine M0 (Qa J J J) J J ?_;refine Qi J J J ?_
  refine M0 (Qf J J J J (by decide)) J J ?_;refine Qi J J J ?_;refine M0 (Qg J J J J J) J J ?_;refine Qi J J J ?_
  refine M0 (Qv J J J J (by assumption)) J J ?_;refine M0 (Qn J J J J) J J ?_;refine M0 (Qa J J J) J J ?_;refine Qi J J J ?_
  refine M0 (Qa J J J) J J ?_;refine Qi J J J ?_;refine M0 (Qf J J J J (by decide)) J J ?_;refine Qi J J J ?_
  refine M0 (Qg J J J J J) J J ?_;refine Qi J J J ?_;refine M0 (q_len J J J) J J ?_;refine Qi J J J ?_
  refine M0 (Qj J J (c3) rfl) J J ?_;refine Qi J J J ?_;refine M0 (Q4 J J J) J J ?_;refine M0 (Qn J J J J) J J ?_;refine Qe ?_
  refine Q0 ?_;refine Ql rfl ?_;refine Qh (Q0 (Qd (Qc ?_)));refine M0 (Qa J J J) J J ?_
  refine AL.weak (st' := (⟨_,[(1,L row),(4,.o (.c (.ptr 4 0))),(5,.o (.c (.ptr 0 0))),(32,L row)],[.box [.ref 1,jn w.Tick,jn w.Seed,.ref 2,.ref 3],.row 1 (els w.Level.Rows),.row 1 (els w.Scores),.row 9 (els w.Bodies),.box [nilV,jn 0,jn 0,nilV,nilV]]⟩ : St)) (W_go [5,2,3,4,1] (by decide) rfl (rfl) (.cons rfl (.cons rfl (.cons rfl (.cons rfl (.nil)))))) ?_
  clear c1 c2 c3 f1
  refine Xd (lo := [_,_,_,_]) (gs := [(0,.c (.ptr 0 0))]) (lo' := [_,_,_,_]) (new := []) [0,1,2,3] [(0,0,.ptr 0 0)] (d1) J J J J J J J J J J J J J J J J J ?_
  refine Qe (Q0 (Qd (Qc ?_)))
  refine AL.weak (st' := (⟨_,[(1,L row),(4,.o (.c (.ptr 4 0))),(5,.o (.c (.ptr 0 0)))],[.box [.ref 1,jn w.Tick,jn w.Seed,.ref 2,.ref 3],.row 1 (els w.Level.Rows),.row 1 (els w.Scores),.row 9 (els (plM w.Level row w.Bodies w.Scores.length)),.box [nilV,jn 0,jn 0,nilV,nilV]]⟩ : St)) (W_go [0,1,2,3,4] (by decide) rfl (rfl) (.cons rfl (.cons rfl (.cons rfl (.nil))))) ?_
  clear d1
  refine Xd (lo := [_,_,_,_]) (gs := [(0,.c (.ptr 0 0))]) (lo' := [_,_,_,_]) (new := []) [0,1,2,3] [(0,0,.ptr 0 0)] (d2) J J J J J J J J J J J J J J J J J ?_
  refine Qe (Q0 (Qd (Qc ?_)))
  refine AL.weak (st' := (⟨_,[(1,L row),(4,.o (.c (.ptr 4 0))),(5,.o (.c (.ptr 0 0)))],[.box [.ref 1,jn w.Tick,jn w.Seed,.ref 2,.ref 3],.row 1 (els w.Level.Rows),.row 1 (els w.Scores),.row 9 (els (movedM w row)),.box [nilV,jn 0,jn 0,nilV,nilV]]⟩ : St)) (W_go [0,1,2,3,4] (by decide) rfl (rfl) (.cons rfl (.cons rfl (.cons rfl (.nil))))) ?_
  clear d2
  refine Xd (lo := [_,_,_,_]) (gs := [(0,.c (.ptr 0 0))]) (lo' := [_,_,_,_]) (new := []) [0,1,2,3] [(0,0,.ptr 0 0)] (d3) J J J J J J J J J J J J J J J J J ?_
  refine Qe (Q0 (Qd (Qc ?_)))
  refine AL.weak (st' := (⟨_,[(1,L row),(4,.o (.c (.ptr 4 0))),(5,.o (.c (.ptr 0 0)))],[.box [.ref 1,jn w.Tick,jn w.Seed,.ref 2,.ref 3],.row 1 (els w.Level.Rows),.row 1 (els s3),.row 9 (els b3),.box [nilV,jn 0,jn 0,nilV,nilV]]⟩ : St)) (W_go [0,1,2,3,4] (by decide) rfl (rfl) (.cons rfl (.cons rfl (.cons rfl (.nil))))) ?_
  clear d3
  refine Xd (lo := [_,_,_,_]) (gs := [(0,.c (.ptr 0 0))]) (lo' := [_,_,_,_]) (new := []) [0,1,2,3] [(0,0,.ptr 0 0)] (d4) J J J J J J J J J J J J J J J J J ?_
  refine Qe (Q0 (Qd (Qc ?_)));refine M0 (Qf J J J J (by decide)) J J ?_;refine M0 (Qg J J J J J) J J ?_
  refine M0 (Qs J J J J (by omega)) J J ?_;refine M0 (Qf J J J J (by decide)) J J ?_;refine Q5 J J J J J J J J ?_;refine Qe ?_
  refine Q0 (Qd (Qc ?_));refine M0 (Qf J J J J (by decide)) J J ?_;refine M0 (Qg J J J J J) J J ?_
  refine AL.weak (st' := (⟨_,[(1,L row),(4,.o (.c (.ptr 4 0))),(5,.o (.c (.ptr 0 0))),(42,I w.Seed)],[.box [.ref 1,jn (w.Tick + 1),jn w.Seed,.ref 2,.ref 3],.row 1 (els w.Level.Rows),.row 1 (els s4),.row 9 (els b4),.box [nilV,jn 0,jn 0,nilV,nilV]]⟩ : St)) (W_go [0,1,2,3,4] (by decide) rfl (rfl) (.cons rfl (.cons rfl (.cons rfl (.cons rfl (.nil)))))) ?_
  clear d4
  refine M0 (Qj J J (e1) rfl) J J ?_;refine M0 (Qf J J J J (by decide)) J J ?_;refine Q5 J J J J J J J J ?_;refine Qe (Q0 ?_)
  refine Qd (Qc ?_);refine M0 (Qf J J J J (by decide)) J J ?_;refine M0 (Qu J J J J J J) J J ?_
  refine AL.weak (st' := (⟨_,[(1,L row),(4,.o (.c (.ptr 4 0))),(5,.o (.c (.ptr 0 0))),(46,.o (.ag [.ref 1]))],[.box [.ref 1,jn (w.Tick + 1),jn (nextR w.Seed),.ref 2,.ref 3],.row 1 (els w.Level.Rows),.row 1 (els s4),.row 9 (els b4),.box [nilV,jn 0,jn 0,nilV,nilV]]⟩ : St)) (W_go [0,1,2,3,4] (by decide) rfl (rfl) (.cons rfl (.cons rfl (.cons rfl (.cons rfl (.nil)))))) ?_
  clear e1
  obtain ⟨sd,hsd2⟩ : ∃ sd,sd = nextR w.Seed := ⟨_,rfl⟩
  rw [← hsd2] at hnr
  rw [← hsd2]
  by_cases q1 : (w.Tick + 1) % 16 ≠ 0
  · have g1 : decide ((w.Tick + 1) % 16 ≠ 0) = true := decide_eq_true q1
    rw [last_1 (.inl q1)]
    refine M1 (q_call J J (e2) J J J) J J ?_;refine M0 (Qb J J J) J J ?_;refine Qe (Q0 (Qd (Qd (Qc ?_))))
    refine M0 (Qf J J J J (by decide)) J J ?_;refine M0 (Qg J J J J J) J J ?_;refine M0 (q_rem J J J J (by omega)) J J ?_
    refine M0 (Qw J J J J (by assumption)) J J ?_;refine M0 (Qa J J J) J J ?_;refine Qp J J J J J J ?_;refine Qp J J J J J J ?_
    refine Qp J J J J J J ?_;refine M0 (Qo J J J J) J J ?_;refine M0 (Qa J J J) J J ?_;refine Qp J J J J J J ?_
    refine Qp J J J J J J ?_;refine Qp J J J J J J ?_;refine Qp J J J J J J ?_;refine M0 (Qo J J J J) J J ?_;refine Qe ?_
    refine Q0 ?_;refine Qm rfl ?_;refine Qd (Qc ?_);refine M0 (Qu J J J J J J) J J ?_;refine Qy J J J J J J J J J ?_
    refine Qe (Q0 (Xa (T_r (F_r ?_))))
    exact E_cell J J J J (W_end [1,2,3] (by decide) J J J)
  have g1 : decide ((w.Tick + 1) % 16 ≠ 0) = false := decide_eq_false q1
  by_cases q2 : (spotsM w.Level).length = 0
  · have g2 : decide (((els (spotsM w.Level)).length : Int) = 0) = true := decide_eq_true (by omega)
    rw [last_1 (.inr (.inl q2))]
    refine M1 (q_call J J (e2) J J J) J J ?_;refine M0 (Qb J J J) J J ?_;refine Qe (Q0 (Qd (Qd (Qc ?_))))
    refine M0 (Qf J J J J (by decide)) J J ?_;refine M0 (Qg J J J J J) J J ?_;refine M0 (q_rem J J J J (by omega)) J J ?_
    refine M0 (Qw J J J J (by assumption)) J J ?_;refine M0 (Qa J J J) J J ?_;refine Qi J J J ?_;refine M0 (Qa J J J) J J ?_
    refine Qi J J J ?_;refine M0 (q_lenr J J J J) J J ?_;refine Qi J J J ?_;refine M0 (Qv J J J J (by assumption)) J J ?_
    refine M0 (Qn J J J J) J J ?_;refine M0 (Qa J J J) J J ?_;refine Qp J J J J J J ?_;refine Qp J J J J J J ?_
    refine Qp J J J J J J ?_;refine Qp J J J J J J ?_;refine M0 (Qo J J J J) J J ?_;refine Qe (Q0 ?_);refine Qm rfl ?_
    refine Qd (Qc ?_);refine M0 (Qu J J J J J J) J J ?_;refine Qy J J J J J J J J J ?_;refine Qe (Q0 (Xa ?_))
    refine T_r (F_r ?_)
    exact E_cell J J J J (W_end [1,2,3] (by decide) J J J)
  have g2 : decide (((els (spotsM w.Level)).length : Int) = 0) = false := decide_eq_false (by omega)
  by_cases q3 : 24 ≤ b4.length
  · have g3 : decide (((els b4).length : Int) ≥ 24) = true := decide_eq_true (by omega)
    rw [last_1 (.inr (.inr q3))]
    refine M1 (q_call J J (e2) J J J) J J ?_;refine M0 (Qb J J J) J J ?_;refine Qe (Q0 (Qd (Qd (Qc ?_))))
    refine M0 (Qf J J J J (by decide)) J J ?_;refine M0 (Qg J J J J J) J J ?_;refine M0 (q_rem J J J J (by omega)) J J ?_
    refine M0 (Qw J J J J (by assumption)) J J ?_;refine M0 (Qa J J J) J J ?_;refine Qi J J J ?_;refine M0 (Qa J J J) J J ?_
    refine Qi J J J ?_;refine M0 (q_lenr J J J J) J J ?_;refine Qi J J J ?_;refine M0 (Qv J J J J (by assumption)) J J ?_
    refine M0 (Qn J J J J) J J ?_;refine M0 (Qa J J J) J J ?_;refine Qi J J J ?_;refine M0 (Qf J J J J (by decide)) J J ?_
    refine Qi J J J ?_;refine M0 (Qg J J J J J) J J ?_;refine Qi J J J ?_;refine M0 (q_lenr J J J J) J J ?_;refine Qi J J J ?_
    refine M0 (q_geqK J J J J (by assumption)) J J ?_;refine M0 (Qn J J J J) J J ?_;refine Qe (Q0 ?_);refine Qm rfl ?_;refine Qd ?_
    refine Qc ?_;refine M0 (Qu J J J J J J) J J ?_;refine Qy J J J J J J J J J ?_;refine Qe (Q0 (Xa (T_r ?_)))
    refine F_r ?_
    exact E_cell J J J J (W_end [1,2,3] (by decide) J J J)
  have g3 : decide (((els b4).length : Int) ≥ 24) = false := decide_eq_false (by omega)
  have q : ¬ ((w.Tick + 1) % 16 ≠ 0 ∨ (spotsM w.Level).length = 0 ∨ 24 ≤ b4.length) := fun h => h.elim q1 fun h => h.elim q2 q3
  obtain ⟨i,hi1,hi2,hi3⟩ := spotOf_mem (seed := sd) q2
  obtain ⟨x,y,hxy,hx,hy⟩ := spot_rng hl (List.mem_of_getElem? hi3)
  have e3 := I_RandomBelow sd ((els (spotsM w.Level)).length : Int) hnr ⟨by omega,by omega⟩
  rw [show belowR sd ((els (spotsM w.Level)).length : Int) = i by rw [hlsp]; exact hi1] at e3
  have hsp : (els (spotsM w.Level))[(i : Int).toNat]? = some (Enc.e [x,y]) := els_sm (by rw [hi3,hxy])
  refine M1 (q_call J J (e2) J J J) J J ?_;refine M0 (Qb J J J) J J ?_;refine Qe (Q0 (Qd (Qd (Qc ?_))))
  refine M0 (Qf J J J J (by decide)) J J ?_;refine M0 (Qg J J J J J) J J ?_;refine M0 (q_rem J J J J (by omega)) J J ?_
  refine M0 (Qw J J J J (by assumption)) J J ?_;refine M0 (Qa J J J) J J ?_;refine Qi J J J ?_;refine M0 (Qa J J J) J J ?_
  refine Qi J J J ?_;refine M0 (q_lenr J J J J) J J ?_;refine Qi J J J ?_;refine M0 (Qv J J J J (by assumption)) J J ?_
  refine M0 (Qn J J J J) J J ?_;refine M0 (Qa J J J) J J ?_;refine Qi J J J ?_;refine M0 (Qf J J J J (by decide)) J J ?_
  refine Qi J J J ?_;refine M0 (Qg J J J J J) J J ?_;refine Qi J J J ?_;refine M0 (q_lenr J J J J) J J ?_;refine Qi J J J ?_
  refine M0 (q_geqK J J J J (by assumption)) J J ?_;refine M0 (Qn J J J J) J J ?_;refine Qe (Q0 ?_);refine Ql rfl ?_;refine Qh ?_
  refine Q0 (Qd (Qc ?_));refine M0 (Qf J J J J (by decide)) J J ?_;refine M0 (Qg J J J J J) J J ?_
  refine M0 (Qa J J J) J J ?_;refine M0 (q_lenr J J J J) J J ?_;refine M1 (q_call J J (e3) J J J) J J ?_
  refine M0 (Q8 J J J) J J ?_;refine M0 (q_ext J J J J) J J ?_;refine M0 (q_ext J J J J) J J ?_;refine M0 (Qb J J J) J J ?_
  refine M0 (Qb J J J) J J ?_;refine Qe (Q0 (Qd (Qc ?_)));refine M0 (Qa J J J) J J ?_
  refine M0 (Qf J J J J (by decide)) J J ?_;refine Q5 J J J J J J J J ?_;refine Qe (Q0 (Qd (Qc ?_)))
  refine M0 (Qa J J J) J J ?_;refine M0 (Qa J J J) J J ?_;refine M0 (Q3 J J J J J (by omega) (by omega)) J J ?_
  refine M0 (Q7 J J J J (by assumption) rfl) J J ?_
  refine AL.weak (st' := (⟨_,[(4,.o (.c (.ptr 4 0))),(5,.o (.c (.ptr 0 0))),(6,.o (.c (.ref 5))),(8,I (i : Int)),(77,.o (.c (.rd [5] (.sl 1 (els [x,y])))))],[.box [.ref 1,jn (w.Tick + 1),jn (nextR sd),.ref 2,.ref 3],.row 1 (els w.Level.Rows),.row 1 (els s4),.row 9 (els b4),.box [nilV,jn 0,jn 0,nilV,nilV],.row 1 (els (spotsM w.Level))]⟩ : St)) (W_go [0,1,2,3,4,5] (by decide) rfl (rfl) (.cons rfl (.cons rfl (.cons rfl (.cons rfl (.cons rfl (.nil))))))) ?_
  clear e2 e3 g1 g2 g3
  have hx0 : (els [x,y])[(0 : Int).toNat]? = some (Enc.e x) := rfl
  have hy0 : (els [x,y])[(1 : Int).toNat]? = some (Enc.e y) := rfl
  refine M0 (Q2 J J J J (by omega) (by assumption) rfl) J J ?_;refine M0 (q_lr1 J J J J) J J ?_;refine M0 (Qb J J J) J J ?_;refine Qe ?_
  refine Q0 (Qd (Qc ?_));refine M0 (Qa J J J) J J ?_;refine M0 (Qa J J J) J J ?_
  refine M0 (Q3 J J J J J (by omega) (by omega)) J J ?_;refine M0 (Q7 J J J J (by assumption) rfl) J J ?_
  refine M0 (Q2 J J J J (by omega) (by assumption) rfl) J J ?_;refine M0 (q_lr1 J J J J) J J ?_;refine M0 (Qb J J J) J J ?_;refine Qe ?_
  refine Q0 (Qd (Qd (Qc ?_)));refine M0 (Qf J J J J (by decide)) J J ?_;refine M0 (Qg J J J J J) J J ?_
  refine M0 (q_lenr J J J J) J J ?_;refine M0 (Qa J J J) J J ?_;refine Qe (Q0 (Qk ?_))
  refine A_loop (fun m st => ∃ k : Nat,k + m = b4.length ∧ (itemAt (b4.take k) x y = false) ∧ st = (fun k : Nat => (⟨_,[(4,.o (.c (.ptr 4 0))),(5,.o (.c (.ptr 0 0))),(9,I x),(10,I y),(87,.o (.c (.ref 3))),(88,I (els b4).length),(89,I k)],[.box [.ref 1,jn (w.Tick + 1),jn (nextR sd),.ref 2,.ref 3],.row 1 (els w.Level.Rows),.row 1 (els s4),.row 9 (els b4),.box [nilV,jn 0,jn 0,nilV,nilV]]⟩ : St)) k) (b4.length) ⟨(fun k : Nat => (⟨_,[(4,.o (.c (.ptr 4 0))),(5,.o (.c (.ptr 0 0))),(9,I x),(10,I y),(87,.o (.c (.ref 3))),(88,I (els b4).length),(89,I k)],[.box [.ref 1,jn (w.Tick + 1),jn (nextR sd),.ref 2,.ref 3],.row 1 (els w.Level.Rows),.row 1 (els s4),.row 9 (els b4),.box [nilV,jn 0,jn 0,nilV,nilV]]⟩ : St)) 0,W_go [0,1,2,3,4] (by decide) rfl (rfl) (.cons rfl (.cons rfl (.cons rfl (.cons rfl (.cons rfl (.cons rfl (.cons rfl (.nil)))))))),0,by omega,rfl,rfl⟩ ?_
  rintro m_A _ ⟨k,hk_A,hp_A,rfl⟩
  by_cases hlt : k < b4.length
  · have hb0 : decide ((k : Int) < (els b4).length) = true := decide_eq_true (by omega)
    obtain ⟨b,hb⟩ := some_sm hlt
    refine Qd (Qc ?_);refine M0 (Qr J J J J (by assumption)) J J ?_;refine Qe (Q0 (Qd ?_));refine Qm rfl ?_;refine Qh ?_
    refine Q0 (Qd (Qk (Qd (Qc ?_))));refine M0 (Q3 J J J J J (by omega) (by omega)) J J ?_
    have he := els_sm hb
    with_reducible refine Xf ?_
    refine M0 (Q6 J J J J (by assumption) J J) J J ?_
    with_reducible refine K_alloc ?_
    refine M1 (Qx J J J) J J ?_
    with_reducible refine Xe ?_
    refine Qy J J J J J J J J J ?_
    refine Qe ?_
    refine Q0 ?_
    refine AWP.pre (st' := (⟨_,[(4,.o (.c (.ptr 4 0))),(5,.o (.c (.ptr 0 0))),(9,I x),(10,I y),(87,.o (.c (.ref 3))),(88,I (els b4).length),(89,I k),(12,.o (.c (.ptr 5 0)))],[.box [.ref 1,jn (w.Tick + 1),jn (nextR sd),.ref 2,.ref 3],.row 1 (els w.Level.Rows),.row 1 (els s4),.row 9 (els b4),.box [nilV,jn 0,jn 0,nilV,nilV],.box ((Enc.e b).map (V1.rd []))]⟩ : St)) ?_ (W_go [0,1,2,3,4,5] (by decide) rfl (rfl) (.cons rfl (.cons rfl (.cons rfl (.cons rfl (.cons rfl (.cons rfl (.cons rfl (.cons rfl (.nil))))))))))
    clear he
    by_cases k1 : b.Kind = 2
    case neg =>
      have p1 : decide (b.Kind = 2) = false := decide_eq_false k1
      refine Qd (Qc ?_);refine M0 (Qf J J J J (by decide)) J J ?_;refine M0 (Qg J J J J J) J J ?_
      refine M0 (Qv J J J J (by assumption)) J J ?_;refine M0 (Qa J J J) J J ?_;refine Qp J J J J J J ?_;refine Qp J J J J J J ?_
      refine Qp J J J J J J ?_;refine Qp J J J J J J ?_;refine M0 (Qn J J J J) J J ?_;refine M0 (Qa J J J) J J ?_
      refine Qp J J J J J J ?_;refine Qp J J J J J J ?_;refine Qp J J J J J J ?_;refine Qp J J J J J J ?_
      refine M0 (Qn J J J J) J J ?_;refine Qe (Q0 ?_);refine Ql rfl ?_;refine Qh (Q1 (Q0 (Qc ?_)))
      refine M0 (Qs J J J J (by omega)) J J ?_;refine M0 (Qa J J J) J J ?_;refine Qe (Q0 ?_)
      exact ⟨b4.length - (k + 1),by omega,(fun k : Nat => (⟨_,[(4,.o (.c (.ptr 4 0))),(5,.o (.c (.ptr 0 0))),(9,I x),(10,I y),(87,.o (.c (.ref 3))),(88,I (els b4).length),(89,I k)],[.box [.ref 1,jn (w.Tick + 1),jn (nextR sd),.ref 2,.ref 3],.row 1 (els w.Level.Rows),.row 1 (els s4),.row 9 (els b4),.box [nilV,jn 0,jn 0,nilV,nilV]]⟩ : St)) (k + 1),W_go [0,1,2,3,4] (by decide) rfl (rfl) (.cons rfl (.cons rfl (.cons rfl (.cons rfl (.cons rfl (.cons rfl (.cons rfl (.nil)))))))),k + 1,by omega,at_go hb (fun h => k1 h.1) hp_A,rfl⟩
    have p1 : decide (b.Kind = 2) = true := decide_eq_true k1
    by_cases k2 : b.X = x
    case neg =>
      have p2 : decide (b.X = x) = false := decide_eq_false k2
      refine Qd (Qc ?_);refine M0 (Qf J J J J (by decide)) J J ?_;refine M0 (Qg J J J J J) J J ?_
      refine M0 (Qv J J J J (by assumption)) J J ?_;refine M0 (Qa J J J) J J ?_;refine Qi J J J ?_
      refine M0 (Qf J J J J (by decide)) J J ?_;refine Qi J J J ?_;refine M0 (Qg J J J J J) J J ?_;refine Qi J J J ?_
      refine M0 (Qa J J J) J J ?_;refine Qi J J J ?_;refine M0 (Qv J J J J (by assumption)) J J ?_;refine M0 (Qo J J J J) J J ?_
      refine M0 (Qa J J J) J J ?_;refine Qp J J J J J J ?_;refine Qp J J J J J J ?_;refine Qp J J J J J J ?_
      refine Qp J J J J J J ?_;refine M0 (Qn J J J J) J J ?_;refine Qe (Q0 ?_);refine Ql rfl ?_;refine Qh (Q1 (Q0 ?_))
      refine Qc ?_;refine M0 (Qs J J J J (by omega)) J J ?_;refine M0 (Qa J J J) J J ?_;refine Qe (Q0 ?_)
      exact ⟨b4.length - (k + 1),by omega,(fun k : Nat => (⟨_,[(4,.o (.c (.ptr 4 0))),(5,.o (.c (.ptr 0 0))),(9,I x),(10,I y),(87,.o (.c (.ref 3))),(88,I (els b4).length),(89,I k)],[.box [.ref 1,jn (w.Tick + 1),jn (nextR sd),.ref 2,.ref 3],.row 1 (els w.Level.Rows),.row 1 (els s4),.row 9 (els b4),.box [nilV,jn 0,jn 0,nilV,nilV]]⟩ : St)) (k + 1),W_go [0,1,2,3,4] (by decide) rfl (rfl) (.cons rfl (.cons rfl (.cons rfl (.cons rfl (.cons rfl (.cons rfl (.cons rfl (.nil)))))))),k + 1,by omega,at_go hb (fun h => k2 h.2.1) hp_A,rfl⟩
    have p2 : decide (b.X = x) = true := decide_eq_true k2
    by_cases k3 : b.Y = y
    case neg =>
      have p3 : decide (b.Y = y) = false := decide_eq_false k3
      refine Qd (Qc ?_);refine M0 (Qf J J J J (by decide)) J J ?_;refine M0 (Qg J J J J J) J J ?_
      refine M0 (Qv J J J J (by assumption)) J J ?_;refine M0 (Qa J J J) J J ?_;refine Qi J J J ?_
      refine M0 (Qf J J J J (by decide)) J J ?_;refine Qi J J J ?_;refine M0 (Qg J J J J J) J J ?_;refine Qi J J J ?_
      refine M0 (Qa J J J) J J ?_;refine Qi J J J ?_;refine M0 (Qv J J J J (by assumption)) J J ?_;refine M0 (Qo J J J J) J J ?_
      refine M0 (Qa J J J) J J ?_;refine Qi J J J ?_;refine M0 (Qf J J J J (by decide)) J J ?_;refine Qi J J J ?_
      refine M0 (Qg J J J J J) J J ?_;refine Qi J J J ?_;refine M0 (Qa J J J) J J ?_;refine Qi J J J ?_
      refine M0 (Qv J J J J (by assumption)) J J ?_;refine M0 (Qo J J J J) J J ?_;refine Qe (Q0 ?_);refine Ql rfl ?_;refine Qh ?_
      refine Q1 (Q0 (Qc ?_));refine M0 (Qs J J J J (by omega)) J J ?_;refine M0 (Qa J J J) J J ?_;refine Qe (Q0 ?_)
      exact ⟨b4.length - (k + 1),by omega,(fun k : Nat => (⟨_,[(4,.o (.c (.ptr 4 0))),(5,.o (.c (.ptr 0 0))),(9,I x),(10,I y),(87,.o (.c (.ref 3))),(88,I (els b4).length),(89,I k)],[.box [.ref 1,jn (w.Tick + 1),jn (nextR sd),.ref 2,.ref 3],.row 1 (els w.Level.Rows),.row 1 (els s4),.row 9 (els b4),.box [nilV,jn 0,jn 0,nilV,nilV]]⟩ : St)) (k + 1),W_go [0,1,2,3,4] (by decide) rfl (rfl) (.cons rfl (.cons rfl (.cons rfl (.cons rfl (.cons rfl (.cons rfl (.cons rfl (.nil)))))))),k + 1,by omega,at_go hb (fun h => k3 h.2.2) hp_A,rfl⟩
    have p3 : decide (b.Y = y) = true := decide_eq_true k3
    rw [last_2 q hxy (at_hit hb ⟨k1,k2,k3⟩)]
    refine Qd (Qc ?_);refine M0 (Qf J J J J (by decide)) J J ?_;refine M0 (Qg J J J J J) J J ?_
    refine M0 (Qv J J J J (by assumption)) J J ?_;refine M0 (Qa J J J) J J ?_;refine Qi J J J ?_
    refine M0 (Qf J J J J (by decide)) J J ?_;refine Qi J J J ?_;refine M0 (Qg J J J J J) J J ?_;refine Qi J J J ?_
    refine M0 (Qa J J J) J J ?_;refine Qi J J J ?_;refine M0 (Qv J J J J (by assumption)) J J ?_;refine M0 (Qo J J J J) J J ?_
    refine M0 (Qa J J J) J J ?_;refine Qi J J J ?_;refine M0 (Qf J J J J (by decide)) J J ?_;refine Qi J J J ?_
    refine M0 (Qg J J J J J) J J ?_;refine Qi J J J ?_;refine M0 (Qa J J J) J J ?_;refine Qi J J J ?_
    refine M0 (Qv J J J J (by assumption)) J J ?_;refine M0 (Qo J J J J) J J ?_;refine Qe (Q0 ?_);refine Qm rfl ?_;refine Qd ?_
    refine Qc ?_;refine M0 (Qu J J J J J J) J J ?_;refine Qy J J J J J J J J J ?_;refine Qe (Q0 (Xa (B_r ?_)))
    refine T_r (T_r (B_r (T_r (F_r ?_))))
    exact E_cell J J J J (W_end [1,2,3] (by decide) J J J)
  · have hb0 : decide ((k : Int) < (els b4).length) = false := decide_eq_false (by omega)
    have hk : k = b4.length := by omega
    rw [hk,List.take_length] at hp_A
    rw [last_3 q hxy hp_A]
    refine Qd (Qc ?_);refine M0 (Qr J J J J (by assumption)) J J ?_;refine Qe (Q0 (Qd ?_));refine Ql rfl ?_;refine Q9 ?_
    refine T_x (T_x (B_xs (Q0 (Qd (Qc ?_)))));refine M0 (Qf J J J J (by decide)) J J ?_
    refine M0 (Qg J J J J J) J J ?_;refine M0 (Qa J J J) J J ?_;refine M0 (Qa J J J) J J ?_
    refine M0 (q_build J J J J J) J J ?_;refine M1 (q_bslice J J J J J J) J J ?_
    refine M_appo J J J J J J J J J J J J J J (by omega) (by omega) ?_;refine M0 (Qf J J J J (by decide)) J J ?_
    refine Q5 J J J J J J J J ?_;refine Qe (Q0 (Qd (Qc ?_)));refine M0 (Qu J J J J J J) J J ?_
    refine Qy J J J J J J J J J ?_;refine Qe (Q0 (Xa (F_r ?_)))
    exact E_cell J J J J (W_end [1,2,3] (by decide) rfl (by exact rwS2 (by rw [els_app]; rfl)) rfl)
end Go.Proofs.Ytmljakmaffbnlaa
end
