/-
  Parts of the proof (rules, data, and what functions of the program and of the reference return), among them: The third and the fourth phase of a tick: shots and items, in the program; The builtin copy over a whole owned slice.
  Conditions: those that each theorem names.
-/
import Derived.Test.YtcjclaoogdblbaaDoorDDPtRowk17
import Derived.Test.YtcjclaoogdblbaaDoorDDPtRowk20
set_option linter.unusedSimpArgs false
set_option linter.unusedVariables false
set_option maxRecDepth 8000
namespace Go.Proofs.YtcjclaoogdblbaaDoor
section
open Go.RowKit

def itemB (x y : Int) : TBody := ⟨2,0,x,y,0,0,0,0,0⟩
def isItem (x y : Int) (b : TBody) : Bool := decide (b.Kind = 2 ∧ b.X = x ∧ b.Y = y)
def itemAt (bs : List TBody) (x y : Int) : Bool := bs.any (isItem x y)
def spotOf (l : TLevel) (seed : Int) : List Int := (spotsM l).getD (belowR seed (spotsM l).length).toNat []
def lastM (l : TLevel) (tick seed : Int) (ss : List Int) (bs : List TBody) : TWorld :=
 if tick % 16 ≠ 0 ∨ (spotsM l).length = 0 ∨ 24 ≤ bs.length then ⟨l,tick,seed,ss,bs⟩
 else if itemAt bs ((spotOf l seed).getD 0 0) ((spotOf l seed).getD 1 0) = true then ⟨l,tick,nextR seed,ss,bs⟩
 else ⟨l,tick,nextR seed,ss,bs ++ [itemB ((spotOf l seed).getD 0 0) ((spotOf l seed).getD 1 0)]⟩
noncomputable def movedM (w : TWorld) (row : List Int) : List TBody := mvM w.Level (plM w.Level row w.Bodies w.Scores.length)
noncomputable def tickM (w : TWorld) (row : List Int) : TWorld :=
 lastM w.Level (w.Tick + 1) (nextR w.Seed) (hitsR w.Scores.length (movedM w row) w.Scores).2 (hitsR w.Scores.length (movedM w row) w.Scores).1
noncomputable def stepW (w : TWorld) (row : List Int) : TWorld := if worldOk w = true ∧ w.Tick ≠ 100000 ∧ rowOk row w.Scores.length = true then tickM w row else w
theorem PH.of {w : TWorld} {row : List Int} (hg : Enc.gd w) (ho : worldOk w = true) (hr : rowOk row w.Scores.length = true) : PH w row := by
 obtain ⟨gL,gT,gS,gSc,gB⟩ := hg
 obtain ⟨hl,ht,hs,hn,hsc,hlen,hbo⟩ := Zl ho
 rw [rowOk,Bool.and_eq_true,decide_eq_true_eq] at hr
 refine ⟨gL,gB.2,hl,hn,hlen,hbo,by omega,fun i hi => ?_⟩
 have := List.all_eq_true.1 hr.2 i hi
 exact Yi.1 this
theorem Zf {w : TWorld} (ho : worldOk w = true) : ∀ x ∈ w.Scores,0 ≤ x ∧ x ≤ 1000000 := fun x hx => by
 obtain ⟨_,_,_,_,hsc,_,_⟩ := Zl ho
 exact Yi.1 (List.all_eq_true.1 hsc x hx)
section
variable {w : TWorld} {row : List Int}
theorem PH.pl (h : PH w row) : P1 w.Level w.Scores.length w.Bodies (plM w.Level row w.Bodies w.Scores.length) w.Scores.length := P1.all h.hl h.n4.2 h.len h.bs row _ (Nat.le_refl _)
theorem PH.mv (h : PH w row) : LM w.Level w.Scores.length (movedM w row) := h.pl.lm.move
end
section
variable {l : TLevel} {n : Nat} {bs : List TBody} {ss : List Int}
theorem SI.drop {bs0 : List TBody} {s : List TBody × List Int} (h : SI l n bs0 s) : s.1.drop n = bs0.drop n := by
 apply List.ext_getElem?
 intro i
 rw [List.getElem?_drop,List.getElem?_drop]
 exact h.tl _ (by omega)
theorem SI.shots (h : LM l n bs) (h1 : ss.length = n) (h2 : ∀ x ∈ ss,0 ≤ x ∧ x ≤ 1000000) : LM l n ((shS n (bs.drop n) (bs,ss) (bs.drop n).length).1.take n ++ shL n (bs.drop n) (bs,ss) (bs.drop n).length) := by
 have hS := (SI.start h h1 h2).all (bs.drop n) (bs.drop n).length
 have hl := h.len
 have hd := hS.drop
 have h3 := shL_le (n := n) (t := bs.drop n) (s := (bs,ss)) (bs.drop n).length
 have h4 : (bs.drop n).length = bs.length - n := List.length_drop
 exact hS.lm.cut (fun b hb => by rw [hd]; exact shL_sub _ b hb) (by omega)
theorem LM.items {j : Nat} (h : LM l n bs) (hj : j ≤ bs.length - n) : LM l n (bs.take n ++ itL n bs (bs.drop n) j) := by
 have hl := h.len
 have h3 := itL_le (n := n) (bs := bs) (t := bs.drop n) (j := j)
 exact h.cut (fun b hb => List.mem_of_mem_take (List.mem_filter.1 hb).1) (by omega)
theorem hits_lm (h : LM l n bs) (h1 : ss.length = n) (h2 : ∀ x ∈ ss,0 ≤ x ∧ x ≤ 1000000) : LM l n (hitsR n bs ss).1 ∧ (hitsR n bs ss).2.length = n ∧ ∀ x ∈ (hitsR n bs ss).2,0 ≤ x ∧ x ≤ 1000000 := by
 have hS := (SI.start h h1 h2).all (bs.drop n) (bs.drop n).length
 rw [← hits_eq h h1 h2]
 exact ⟨(SI.shots h h1 h2).items (by rw [List.length_drop]; exact Nat.le_refl _),itS_ok hS.sl hS.sc⟩
end
/-! ### What fits -/
def TA (b : TBody) : Prop := (-2 ≤ b.Timer ∧ b.Timer ≤ 25) ∧ (-1 ≤ b.Aim ∧ b.Aim ≤ 1)
theorem body_aim {l : TLevel} {n k : Nat} {b : TBody} (h : bodyAt l n k b = true) : -1 ≤ b.Aim ∧ b.Aim ≤ 1 := by
 rw [bodyAt,Bool.and_eq_true] at h
 have h1 := h.1
 simp only [bodyM,Bool.and_eq_true] at h1
 obtain ⟨_,_,_,_,_,ht⟩ := h1
 unfold tailM at ht
 split at ht
 ·simp only [Bool.and_eq_true,decide_eq_true_eq] at ht; omega
 ·split at ht
  ·simp only [Bool.and_eq_true,decide_eq_true_eq] at ht; omega
  ·simp only [decide_eq_true_eq] at ht; omega
theorem pl_aim {l : TLevel} {row : List Int} {bs : List TBody} (h : ∀ b ∈ bs,-1 ≤ b.Aim ∧ b.Aim ≤ 1) : ∀ k,∀ b ∈ plM l row bs k,-1 ≤ b.Aim ∧ b.Aim ≤ 1
 | 0,b,hb => h b hb
 | k + 1,b,hb => by
  have ih := pl_aim (row := row) (l := l) h k
  rw [plM] at hb
  split at hb
  ·exact ih b hb
  ·rename_i p hp
   have hp2 := ih p (List.mem_of_getElem? hp)
   have hs : -1 ≤ (steer l p (row.getD k 0)).1.Aim ∧ (steer l p (row.getD k 0)).1.Aim ≤ 1 := by
    simp only [steer]
    split
    ·omega
    ·split <;> omega
   have key : ∀ {c : TBody},(-1 ≤ c.Aim ∧ c.Aim ≤ 1) → b ∈ (plM l row bs k).set k c → -1 ≤ b.Aim ∧ b.Aim ≤ 1 := fun hc hb => by
    rcases List.mem_or_eq_of_mem_set hb with h1 | h1
    ·exact ih b h1
    ·subst h1; exact hc
   unfold plOne at hb
   split at hb
   ·refine key ?_ hb
    split
    ·simp [fresh]
    ·exact hp2
   ·split at hb
    ·rcases List.mem_append.1 hb with h1 | h1
     ·exact key hs h1
     ·rw [List.mem_singleton] at h1; subst h1; simp [shotOf]
    ·exact key hs hb
theorem mv_ta {l : TLevel} {bs : List TBody} (h : ∀ b ∈ bs,(0 ≤ b.Timer ∧ b.Timer ≤ 25) ∧ (-1 ≤ b.Aim ∧ b.Aim ≤ 1)) : ∀ b ∈ mvM l bs,TA b := fun b hb => by
 obtain ⟨c,hc,hcb⟩ := List.mem_filterMap.1 hb
 have hh := h c hc
 unfold mvOne at hcb
 split at hcb
 ·cases hcb
  exact ⟨⟨by simp only [moveM]; omega,by simp only [moveM]; omega⟩,hh.2⟩
 ·split at hcb
  ·split at hcb
   ·cases hcb
   ·cases hcb
    exact ⟨⟨by simp only [tick1,moveM]; omega,by simp only [tick1,moveM]; omega⟩,hh.2⟩
  ·cases hcb; exact ⟨by omega,hh.2⟩
theorem sh_ta {n : Nat} {t : List TBody} {s : List TBody × List Int} (h : ∀ b ∈ s.1,TA b) : ∀ j,∀ b ∈ (shS n t s j).1,TA b
 | 0,b,hb => h b hb
 | j + 1,b,hb => by
  have ih := sh_ta (n := n) (t := t) h j
  rw [shS] at hb
  split at hb
  ·exact ih b hb
  ·unfold shOne at hb
   split at hb
   ·split at hb
    ·exact ih b hb
    ·split at hb
     ·exact ih b hb
     ·rename_i p hp
      rcases List.mem_or_eq_of_mem_set hb with h1 | h1
      ·exact ih b h1
      ·subst h1
       have h2 := ih p (List.mem_of_getElem? hp)
       refine ⟨?_,h2.2⟩
       simp only [hitB]
       split
       ·omega
       ·exact h2.1
   ·exact ih b hb
theorem keepR_sub {n : Nat} {t bs : List TBody} {s : List TBody × List Int} : ∀ j,∀ b ∈ keepR n t s bs j,b ∈ t
 | 0,b,hb => by cases hb
 | j + 1,b,hb => by
  rw [keepR] at hb
  split at hb
  ·exact keepR_sub j b hb
  ·rename_i c hc
   split at hb
   ·exact keepR_sub j b hb
   ·rcases List.mem_append.1 hb with h | h
    ·exact keepR_sub j b h
    ·rw [List.mem_singleton] at h; subst h; exact List.mem_of_getElem? hc
theorem hits_ta {n : Nat} {bs : List TBody} {ss : List Int} (h : ∀ b ∈ bs,TA b) : ∀ b ∈ (hitsR n bs ss).1,TA b := fun b hb => by
 rcases List.mem_append.1 hb with h1 | h1
 ·exact sh_ta (s := (bs,ss)) h _ b (List.mem_of_mem_take h1)
 ·exact h b (List.mem_of_mem_drop (keepR_sub _ b h1))
theorem body_gd {l : TLevel} {n : Nat} {b : TBody} (hl : levelOk l = true) (hn : n ≤ 4) (h : BM l n b) (ht : TA b) : Enc.gd b := by
 have hp := (h.placed hl).1
 obtain ⟨hk,ho,_,hvx,hvy,hf⟩ := h
 obtain ⟨_,hx,hy⟩ := hp
 obtain ⟨h1,h2⟩ := ht
 refine ⟨⟨?_,?_⟩,⟨?_,?_⟩,⟨?_,?_⟩,⟨?_,?_⟩,⟨?_,?_⟩,⟨?_,?_⟩,⟨?_,?_⟩,⟨?_,?_⟩,⟨?_,?_⟩⟩ <;> omega
theorem spot_rng {l : TLevel} (hl : levelOk l = true) {sp : List Int} (h : sp ∈ spotsM l) : ∃ x y : Int,sp = [x,y] ∧ (0 ≤ x ∧ x ≤ 400) ∧ (0 ≤ y ∧ y ≤ 400) := by
 obtain ⟨l3,l12,w,w4,w20,hw⟩ := Yj hl
 obtain ⟨r,c,row,h1,h2,h3,_,h5⟩ := rowSp_at h
 obtain ⟨h6,h7⟩ := List.getElem?_eq_some_iff.1 h2
 have h8 := hw r h6
 rw [h7] at h8
 exact ⟨_,_,h5,by omega,by omega⟩
theorem spotOf_mem {l : TLevel} {seed : Int} (h : (spotsM l).length ≠ 0) : ∃ (i : Nat),belowR seed (spotsM l).length = i ∧ i < (spotsM l).length ∧ (spotsM l)[i]? = some (spotOf l seed) := by
 have h1 := Yn seed
 have h2 : 0 ≤ belowR seed (spotsM l).length ∧ belowR seed (spotsM l).length < (spotsM l).length := by
  unfold belowR
  exact ⟨Int.emod_nonneg _ (by omega),Int.emod_lt_of_pos _ (by omega)⟩
 obtain ⟨i,hi⟩ : ∃ i : Nat,belowR seed (spotsM l).length = i := ⟨_,(Int.toNat_of_nonneg h2.1).symm⟩
 refine ⟨i,hi,by omega,?_⟩
 rw [spotOf,hi,Int.toNat_natCast,List.getD_eq_getElem?_getD,List.getElem?_eq_getElem (by omega)]
 rfl
theorem item_gd {x y : Int} (hx : 0 ≤ x ∧ x ≤ 400) (hy : 0 ≤ y ∧ y ≤ 400) : Enc.gd (itemB x y) := by
 refine ⟨⟨?_,?_⟩,⟨?_,?_⟩,⟨?_,?_⟩,⟨?_,?_⟩,⟨?_,?_⟩,⟨?_,?_⟩,⟨?_,?_⟩,⟨?_,?_⟩,⟨?_,?_⟩⟩ <;> simp only [itemB] <;> omega
structure Fits (w : TWorld) (n : Nat) : Prop where
 gd : Enc.gd w
 sl : w.Scores.length = n
 bl : w.Bodies.length ≤ 24
theorem last_fits {l : TLevel} {tick seed : Int} {ss : List Int} {bs : List TBody} {n : Nat} (hl : levelOk l = true) (gl : Enc.gd l) (ht : 0 ≤ tick ∧ tick ≤ 100000) (hs : 0 ≤ seed ∧ seed ≤ 65535) (h1 : ss.length = n) (hn : n ≤ 4) (h2 : ∀ x ∈ ss,0 ≤ x ∧ x ≤ 1000000) (h3 : bs.length ≤ 24) (h4 : ∀ b ∈ bs,Enc.gd b) : Fits (lastM l tick seed ss bs) n := by
 have g2 : Enc.gd ss := ⟨by omega,fun x hx => by have := h2 x hx; exact ⟨by omega,by omega⟩⟩
 have g1 : Enc.gd bs := ⟨by omega,h4⟩
 have gt : Enc.gd tick := ⟨by omega,by omega⟩
 have gs : Enc.gd seed := ⟨by omega,by omega⟩
 have hnx := Yn seed
 have gn : Enc.gd (nextR seed) := ⟨by omega,by omega⟩
 unfold lastM
 split
 ·exact ⟨⟨gl,gt,gs,g2,g1⟩,h1,h3⟩
 ·rename_i hc
  split
  ·exact ⟨⟨gl,gt,gn,g2,g1⟩,h1,h3⟩
  ·obtain ⟨i,_,_,hi⟩ := spotOf_mem (l := l) (seed := seed) (fun e => hc (.inr (.inl e)))
   obtain ⟨x,y,he,hx,hy⟩ := spot_rng hl (List.mem_of_getElem? hi)
   have hb : bs.length < 24 := by
    rcases Nat.lt_or_ge bs.length 24 with h | h
    ·exact h
    ·exact absurd (.inr (.inr h)) hc
   have hli : (bs ++ [itemB ((spotOf l seed).getD 0 0) ((spotOf l seed).getD 1 0)]).length ≤ 24 := by rw [List.length_append]; simp; omega
   refine ⟨⟨gl,gt,gn,g2,Nat.le_trans hli (by decide),fun b hb2 => ?_⟩,h1,hli⟩
   rcases List.mem_append.1 hb2 with h5 | h5
   ·exact h4 b h5
   ·rw [List.mem_singleton] at h5
    subst h5
    rw [he]
    exact item_gd hx hy
theorem tick_fits {w : TWorld} {row : List Int} (hg : Enc.gd w) (ho : worldOk w = true) (ht : w.Tick ≠ 100000) (hr : rowOk row w.Scores.length = true) : Fits (tickM w row) w.Scores.length := by
 have hP := PH.of hg ho hr
 obtain ⟨hl,htk,hs,hn,hsc,hlen,hbo⟩ := Zl ho
 have htk := Yi.1 htk
 have hM := hits_lm hP.mv rfl (Zf ho)
 have hta : ∀ b ∈ movedM w row,TA b := mv_ta fun b hb => ⟨hP.pl.tm b hb,pl_aim (fun c hc => by
  obtain ⟨j,hj,rfl⟩ := List.mem_iff_getElem.1 hc
  exact body_aim (hbo j hj)) _ b hb⟩
 have hnx := Yn w.Seed
 refine last_fits hl hg.1 ⟨by omega,by omega⟩ hnx hM.2.1 hn.2 hM.2.2 hM.1.len.2 fun b hb => ?_
 obtain ⟨j,hj⟩ := List.getElem?_of_mem hb
 exact body_gd hl hn.2 (hM.1.at_ j b hj).1 (hits_ta hta b hb)
theorem stepW_level (w : TWorld) (row : List Int) : (stepW w row).Level = w.Level := by
 unfold stepW
 split
 ·unfold tickM lastM
  split
  ·rfl
  ·split <;> rfl
 ·rfl
theorem stepW_fits {w : TWorld} {row : List Int} (hg : Enc.gd w) : Enc.gd (stepW w row) ∧ (stepW w row).Scores.length = w.Scores.length ∧ (stepW w row).Bodies.length ≤ max w.Bodies.length 24 := by
 unfold stepW
 split
 ·rename_i h
  have := tick_fits hg h.1 h.2.1 h.2.2
  exact ⟨this.gd,this.sl,by have := this.bl; omega⟩
 ·exact ⟨hg,rfl,by omega⟩
end
section
open Go.RowKit

theorem tail_bodyM {l : TLevel} {n : Nat} {b : TBody} (h : BM l n b) (ht : tailM b = true) : bodyM l n b = true := by
 obtain ⟨hk,ho,hp,hvx,hvy,hf⟩ := h
 simp only [bodyM,Bool.and_eq_true,Bool.not_eq_true',Yi]
 exact ⟨hk,⟨ho.1,by omega⟩,hp,hvx,hvy,ht⟩
theorem tail_of {l : TLevel} {n : Int} {b : TBody} (h : bodyM l n b = true) : tailM b = true := by
 simp only [bodyM,Bool.and_eq_true] at h
 exact h.2.2.2.2.2
theorem Zj {b : TBody} (h : b.Kind = 0) : tailM b = true ↔ (b.Aim = 1 ∨ b.Aim = -1) ∧ (0 ≤ b.Life ∧ b.Life ≤ 3) ∧ (b.Life = 0 → 1 ≤ b.Timer ∧ b.Timer ≤ 20) ∧ (b.Life ≠ 0 → 0 ≤ b.Timer ∧ b.Timer ≤ 12) := by
 unfold tailM
 rw [if_pos h,Bool.and_eq_true,Bool.and_eq_true,decide_eq_true_eq,Yi]
 constructor
 ·rintro ⟨⟨h1,h2⟩,h3⟩
  refine ⟨h1,h2,fun e => ?_,fun e => ?_⟩
  ·rw [if_pos e] at h3; exact Yi.1 h3
  ·rw [if_neg e] at h3; exact Yi.1 h3
 ·rintro ⟨h1,h2,h3,h4⟩
  refine ⟨⟨h1,h2⟩,?_⟩
  split
  ·exact Yi.2 (h3 (by assumption))
  ·exact Yi.2 (h4 (by assumption))
theorem tail_shot {b : TBody} (h : b.Kind = 1) : tailM b = true ↔ (b.Aim = 0 ∧ b.Life = 0) ∧ (1 ≤ b.Timer ∧ b.Timer ≤ 25) := by
 unfold tailM
 rw [if_neg (by omega),if_pos h,Bool.and_eq_true,decide_eq_true_eq,Yi]
structure TK (n : Nat) (bs : List TBody) : Prop where
 tl : ∀ b ∈ bs,tailM b = true
 ow : ∀ k,k < n → ∀ b,bs[k]? = some b → b.Owner = k
theorem TK.set {n k : Nat} {bs : List TBody} {b c : TBody} (h : TK n bs) (hb : bs[k]? = some b) (h1 : tailM c = true) (h2 : k < n → c.Owner = k) : TK n (bs.set k c) := by
 refine ⟨fun d hd => ?_,fun j hj d hd => ?_⟩
 ·rcases List.mem_or_eq_of_mem_set hd with h3 | h3
  ·exact h.tl d h3
  ·subst h3; exact h1
 ·rw [List.getElem?_set] at hd
  split at hd
  ·rename_i e
   subst e
   split at hd
   ·cases hd; exact h2 hj
   ·cases hd
  ·exact h.ow j hj d hd
theorem TK.app {n : Nat} {bs : List TBody} {c : TBody} (h : TK n bs) (hl : n ≤ bs.length) (h1 : tailM c = true) : TK n (bs ++ [c]) := by
 refine ⟨fun d hd => ?_,fun j hj d hd => ?_⟩
 ·rcases List.mem_append.1 hd with h3 | h3
  ·exact h.tl d h3
  ·rw [List.mem_singleton] at h3; subst h3; exact h1
 ·rw [List.getElem?_append_left (by omega)] at hd
  exact h.ow j hj d hd
theorem fresh_tail (l : TLevel) (k : Int) : tailM (fresh l k) = true := by
 rw [Zj (by rfl)]
 refine ⟨.inl J,⟨by simp [fresh],by simp [fresh]⟩,fun h => by simp [fresh] at h,fun _ => ⟨by simp [fresh],by simp [fresh]⟩⟩
theorem tick1_tail {b : TBody} (h : b.Kind = 0) (h2 : b.Life = 0) (h3 : ¬ b.Timer - 1 = 0) (ht : tailM b = true) : tailM (tick1 b) = true := by
 obtain ⟨ha,hl,h4,h5⟩ := (Zj h).1 ht
 have := h4 h2
 refine (Zj (b := tick1 b) h).2 ⟨ha,hl,fun _ => ?_,fun e => absurd h2 e⟩
 simp only [tick1]
 omega
theorem steer_tail {l : TLevel} {b : TBody} {i : Int} (h : b.Kind = 0) (h2 : ¬ b.Life = 0) (ht : tailM b = true) : tailM (steer l b i).1 = true := by
 obtain ⟨ha,hl,h4,h5⟩ := (Zj h).1 ht
 have h6 := h5 h2
 refine (Zj (b := (steer l b i).1) h).2 ⟨steer_aim ha,hl,fun e => absurd e h2,fun _ => ?_⟩
 simp only [steer]
 split
 ·omega
 ·split <;> omega
theorem shotOf_tail (b : TBody) : tailM (shotOf b) = true := (tail_shot (b := shotOf b) rfl).2 ⟨⟨rfl,rfl⟩,by simp [shotOf]⟩
theorem TK.one {l : TLevel} {n k : Nat} {bs : List TBody} {b : TBody} (h : TK n bs) (hn : n ≤ bs.length) (hb : bs[k]? = some b) (hk : b.Kind = 0) (hkn : k < n) (i : Int) : TK n (plOne l i k bs b) := by
 have ht := h.tl b (List.mem_of_getElem? hb)
 have ho := h.ow k hkn b hb
 unfold plOne
 split
 ·split
  ·exact h.set hb (fresh_tail l k) fun _ => rfl
  ·exact h.set hb (tick1_tail hk (by assumption) (by assumption) ht) fun _ => ho
 ·have h1 : TK n (bs.set k (steer l b i).1) := h.set hb (steer_tail hk (by assumption) ht) fun _ => ho
  split
  ·exact h1.app (by rw [List.length_set]; exact hn) (shotOf_tail _)
  ·exact h1
theorem TK.pl {l : TLevel} (hl : levelOk l = true) {n : Nat} (hn : n ≤ 4) {bs : List TBody} (h1 : n ≤ bs.length ∧ bs.length ≤ 24) (hb : bodiesOk l n bs) (h : TK n bs) (row : List Int) : ∀ k,k ≤ n → TK n (plM l row bs k)
 | 0,_ => h
 | k + 1,hk => by
  have ih := TK.pl hl hn h1 hb h row k (by omega)
  have hp := P1.all hl hn h1 hb row k (by omega)
  rw [plM]
  split
  ·exact ih
  ·rename_i b hs
   exact ih.one hp.lm.len.1 hs ((hp.lm.at_ k b hs).2.2 (by omega)) (by omega) _
theorem move_tail {l : TLevel} {b c : TBody} (h : mvOne l b = some c) (ht : tailM b = true) : tailM c = true ∧ c.Owner = b.Owner := by
 unfold mvOne at h
 split at h
 ·rename_i hk
  cases h
  refine ⟨?_,J⟩
  have := (Zj hk.1).1 ht
  exact (Zj (b := (moveM l b).1) hk.1).2 this
 ·split at h
  ·rename_i hk
   split at h
   ·cases h
   ·rename_i hm
    cases h
    have h2 := (tail_shot hk).1 ht
    refine ⟨(tail_shot (b := tick1 (moveM l b).1) hk).2 ⟨h2.1,?_⟩,J⟩
    have : ¬ b.Timer - 1 = 0 := fun e => hm (.inr e)
    simp only [tick1,moveM]
    omega
  ·cases h; exact ⟨ht,rfl⟩
theorem fmap_at {α β : Type} {f : α → Option β} : ∀ (xs : List α) (n : Nat),(∀ j x,j < n → xs[j]? = some x → ∃ y,f x = some y) → ∀ k y,k < n → (xs.filterMap f)[k]? = some y → k < xs.length → ∃ x,xs[k]? = some x ∧ f x = some y
 | [],_,_,k,y,_,hy,hx => by simp at hx
 | x :: xs,0,h,k,y,hk,_,_ => by omega
 | x :: xs,n + 1,h,k,y,hk,hy,hx => by
  obtain ⟨z,hz⟩ := h 0 x (by omega) rfl
  rw [List.filterMap_cons,hz] at hy
  cases k with
  | zero =>
   simp only [List.getElem?_cons_zero] at hy
   exact ⟨x,J,by rw [hz]; exact hy⟩
  | succ k =>
   simp only [List.getElem?_cons_succ] at hy
   simp only [List.length_cons] at hx
   obtain ⟨a,h1,h2⟩ := fmap_at xs n (fun j w hj hw => h (j + 1) w (by omega) (by simpa using hw)) k y (by omega) hy (by omega)
   exact ⟨a,by simpa using h1,h2⟩
theorem TK.mv {l : TLevel} {n : Nat} {bs : List TBody} (hL : LM l n bs) (h : TK n bs) : TK n (mvM l bs) := by
 have hlen := hL.len
 refine ⟨fun c hc => ?_,fun k hk c hc => ?_⟩
 ·obtain ⟨a,ha,hac⟩ := List.mem_filterMap.1 hc
  exact (move_tail hac (h.tl a ha)).1
 ·obtain ⟨a,ha,hac⟩ := fmap_at bs n (fun j x hj hx => mvOne_pl ((hL.at_ j x hx).2.2 hj)) k c hk hc (by omega)
  rw [(move_tail hac (h.tl a (List.mem_of_getElem? ha))).2]
  exact h.ow k hk a ha
theorem hit_tail {p : TBody} (hk : p.Kind = 0) (hl : 0 < p.Life) (h : tailM p = true) : tailM (hitB p) = true := by
 obtain ⟨ha,hf,h4,h5⟩ := (Zj hk).1 h
 have h6 := h5 (by omega)
 refine (Zj (b := hitB p) hk).2 ⟨ha,by simp only [hitB]; omega,fun e => ?_,fun e => ?_⟩
 ·simp only [hitB] at e ⊢
  rw [if_pos e]; omega
 ·simp only [hitB] at e ⊢
  rw [if_neg e]; exact h6
theorem TK.sh1 {l : TLevel} {n : Nat} {bs0 : List TBody} {s : List TBody × List Int} (hS : SI l n bs0 s) (h : TK n s.1) (b : TBody) : TK n (shOne n s b).1 := by
 unfold shOne
 split
 ·split
  ·exact h
  ·rename_i k hk
   obtain ⟨h1,h2⟩ := metF_lt hk
   obtain ⟨p,hp,hlf,_,_⟩ := metC_life h2
   rw [hp]
   exact h.set hp (hit_tail ((hS.lm.at_ k p hp).2.2 h1) hlf (h.tl p (List.mem_of_getElem? hp))) fun _ => h.ow k h1 p hp
 ·exact h
theorem TK.sh {l : TLevel} {n : Nat} {bs0 : List TBody} {s : List TBody × List Int} (hS : SI l n bs0 s) (h : TK n s.1) (t : List TBody) : ∀ j,TK n (shS n t s j).1
 | 0 => h
 | j + 1 => by
  rw [shS]
  split
  ·exact TK.sh hS h t j
  ·exact TK.sh1 (hS.all t j) (TK.sh hS h t j) _
theorem TK.hits {l : TLevel} {n : Nat} {bs : List TBody} {ss : List Int} (hL : LM l n bs) (h1 : ss.length = n) (h2 : ∀ x ∈ ss,0 ≤ x ∧ x ≤ 1000000) (h : TK n bs) : TK n (hitsR n bs ss).1 := by
 have hS := (SI.start hL h1 h2).all (bs.drop n) (bs.drop n).length
 have hT : TK n (shS n (bs.drop n) (bs,ss) (bs.drop n).length).1 := TK.sh (SI.start hL h1 h2) h _ _
 have hlen := hS.lm.len
 refine ⟨fun c hc => ?_,fun k hk c hc => ?_⟩
 ·rcases List.mem_append.1 hc with h3 | h3
  ·exact hT.tl c (List.mem_of_mem_take h3)
  ·exact h.tl c (List.mem_of_mem_drop (keepR_sub _ c h3))
 ·simp only [hitsR] at hc
  rw [List.getElem?_append_left (by rw [List.length_take]; omega),List.getElem?_take_of_lt hk] at hc
  exact hT.ow k hk c hc
theorem spot_free {l : TLevel} {x y : Int} (h : [x,y] ∈ spotsM l) : solidM l x y 8 = false := by
 obtain ⟨r,c,row,h1,h2,h3,h4,h5⟩ := rowSp_at h
 simp only [List.cons.injEq,and_true] at h5
 obtain ⟨rfl,rfl⟩ := h5
 obtain ⟨h6,h7⟩ := List.getElem?_eq_some_iff.1 h2
 refine solidM_F fun ⟨r',c',e1,e2,e3,e4,hw⟩ => ?_
 have er : r' = r := by omega
 have ec : c' = c := by omega
 subst er; subst ec
 exact no_wall h6 (by rw [h7]; exact h3) (by rw [h7,h4]; decide) hw
theorem item_bm {l : TLevel} {n : Nat} (hn : 1 ≤ n) {x y : Int} (h : [x,y] ∈ spotsM l) : BM l n (itemB x y) :=
 ⟨by simp [itemB],by simp only [itemB]; omega,spot_free h,by simp [itemB],by simp [itemB],by simp [itemB]⟩
theorem worldOk_mk {l : TLevel} {n : Nat} {bs : List TBody} {ss : List Int} {t s : Int} (hl : levelOk l = true) (ht : 0 ≤ t ∧ t ≤ 100000) (hs : 0 ≤ s ∧ s ≤ 65535) (hn : 1 ≤ n ∧ n ≤ 4) (h1 : ss.length = n) (h2 : ∀ x ∈ ss,0 ≤ x ∧ x ≤ 1000000) (hL : LM l n bs) (hT : TK n bs) : worldOk ⟨l,t,s,ss,bs⟩ = true := by
 subst h1
 refine worldOk_T ⟨hl,Yi.2 ht,Yi.2 hs,hn,List.all_eq_true.2 fun x hx => Yi.2 (h2 x hx),hL.len,fun k hk => ?_⟩
 have hb : bs[k]? = some bs[k] := List.getElem?_eq_getElem hk
 have h3 := hL.at_ k _ hb
 unfold bodyAt
 rw [Bool.and_eq_true]
 refine ⟨tail_bodyM h3.1 (hT.tl _ (List.getElem_mem hk)),?_⟩
 simp only
 split
 ·rename_i hkn
  exact decide_eq_true ⟨h3.2.2 hkn,hT.ow k hkn _ hb⟩
 ·rename_i hkn
  exact decide_eq_true fun e => hkn (h3.2.1 e)
theorem TK.start {l : TLevel} {n : Nat} {bs : List TBody} (h : bodiesOk l n bs) : TK n bs := by
 refine ⟨fun b hb => ?_,fun k hk b hb => ?_⟩
 ·obtain ⟨j,hj,rfl⟩ := List.mem_iff_getElem.1 hb
  have := h j hj
  unfold bodyAt at this
  rw [Bool.and_eq_true] at this
  exact tail_of this.1
 ·exact (old_at h hb hk).ow
theorem tick_ok {w : TWorld} {row : List Int} (hg : Enc.gd w) (ho : worldOk w = true) (ht : w.Tick ≠ 100000) (hr : rowOk row w.Scores.length = true) : worldOk (tickM w row) = true := by
 have hP := PH.of hg ho hr
 obtain ⟨hl,htk,hs,hn,hsc,hlen,hbo⟩ := Zl ho
 have htk := Yi.1 htk
 have hM := hits_lm hP.mv rfl (Zf ho)
 have hT : TK w.Scores.length (hitsR w.Scores.length (movedM w row) w.Scores).1 := TK.hits hP.mv rfl (Zf ho) (TK.mv hP.pl.lm (TK.pl hl hn.2 hlen hbo (TK.start hbo) row _ (Nat.le_refl _)))
 have hnx := Yn w.Seed
 have hn2 := Yn (nextR w.Seed)
 unfold tickM lastM
 split
 ·exact worldOk_mk hl ⟨by omega,by omega⟩ hnx hn hM.2.1 hM.2.2 hM.1 hT
 ·rename_i hc
  split
  ·exact worldOk_mk hl ⟨by omega,by omega⟩ hn2 hn hM.2.1 hM.2.2 hM.1 hT
  ·obtain ⟨i,_,_,hi⟩ := spotOf_mem (l := w.Level) (seed := nextR w.Seed) (fun e => hc (.inr (.inl e)))
   have hmem := List.mem_of_getElem? hi
   obtain ⟨x,y,he,_,_⟩ := spot_rng hl hmem
   have hb : (hitsR w.Scores.length (movedM w row) w.Scores).1.length < 24 := by
    rcases Nat.lt_or_ge (hitsR w.Scores.length (movedM w row) w.Scores).1.length 24 with h | h
    ·exact h
    ·exact absurd (.inr (.inr h)) hc
   rw [he] at hmem ⊢
   exact worldOk_mk hl ⟨by omega,by omega⟩ hn2 hn hM.2.1 hM.2.2 (hM.1.app hb (item_bm hn.1 hmem) (by simp [itemB])) (hT.app hM.1.len.1 J)
theorem stepW_ok {w : TWorld} {row : List Int} (hg : Enc.gd w) (ho : worldOk w = true) : worldOk (stepW w row) = true := by
 unfold stepW
 split
 ·rename_i h
  exact tick_ok hg h.1 h.2.1 h.2.2
 ·exact ho
end
section
open Go.RowKit

theorem mv_a {l : TLevel} {b : TBody} (h : b.Kind = 0 ∧ 0 < b.Life) : mvOne l b = some (moveM l b).1 := by rw [mvOne,if_pos h]
theorem mv_n {l : TLevel} {b : TBody} (h : ¬ (b.Kind = 0 ∧ 0 < b.Life)) (h1 : b.Kind = 1) (h2 : (moveM l b).2 = true ∨ b.Timer - 1 = 0) : mvOne l b = none := by rw [mvOne,if_neg h,if_pos h1,if_pos h2]
theorem mv_s {l : TLevel} {b : TBody} (h : ¬ (b.Kind = 0 ∧ 0 < b.Life)) (h1 : b.Kind = 1) (h2 : ¬ ((moveM l b).2 = true ∨ b.Timer - 1 = 0)) : mvOne l b = some (tick1 (moveM l b).1) := by rw [mvOne,if_neg h,if_pos h1,if_neg h2]
theorem mv_len {l : TLevel} {bs lf : List TBody} {k : Nat} (h : lf = (bs.take k).filterMap (mvOne l)) : lf.length ≤ k := by
 rw [h]
 have := List.length_filterMap_le (mvOne l) (bs.take k)
 rw [List.length_take] at this
 omega
theorem mv_some {l : TLevel} {bs lf : List TBody} {k : Nat} {b c : TBody} (h : lf = (bs.take k).filterMap (mvOne l)) (hb : bs[k]? = some b) (hm : mvOne l b = some c) : lf ++ [c] = (bs.take (k + 1)).filterMap (mvOne l) := by rw [mv_next hb,hm,← h]; rfl
theorem mv_none {l : TLevel} {bs lf : List TBody} {k : Nat} {b : TBody} (h : lf = (bs.take k).filterMap (mvOne l)) (hb : bs[k]? = some b) (hm : mvOne l b = none) : lf = (bs.take (k + 1)).filterMap (mvOne l) := by rw [mv_next hb,hm,← h]; simp
theorem rw6 {a b c d e : Ob} {t : List Ob} {k : Nat} {x y : List (List T)} (h : x = y) : a :: b :: c :: d :: e :: Ob.row k x :: t = a :: b :: c :: d :: e :: Ob.row k y :: t := by rw [h]
end
section
open Go.RowKit

section
variable {P : Program} {ops : Array Oper} {o : Oper} {st : St} {t : TypeId} {y z u : Operand} {rs qs : List Nat} {i j : Int} {m n : Nat} {k : IntKind}
end
end
section
open Go.RowKit

theorem st_el {bs : List TBody} {i j : Nat} {p p' : TBody} {ts : List T} (h : splice (Enc.e p) j ts = Enc.e p') : els (bs.set i p') = (els (bs.set i p)).set i (splice (Enc.e p) j ts) := by
 rw [h,els,els,← List.map_set,List.set_set]
theorem st_el0 {bs : List TBody} {i j : Nat} {p p' : TBody} {ts : List T} (h : splice (Enc.e p) j ts = Enc.e p') : els (bs.set i p') = (els bs).set i (splice (Enc.e p) j ts) := by
 rw [h,els,els,← List.map_set]
def lifeM (p : TBody) : TBody := ⟨p.Kind,p.Owner,p.X,p.Y,p.VX,p.VY,p.Aim,p.Life - 1,p.Timer⟩
def stopX (p : TBody) : TBody := ⟨p.Kind,p.Owner,p.X,p.Y,0,p.VY,p.Aim,p.Life - 1,p.Timer⟩
def stopY (p : TBody) : TBody := ⟨p.Kind,p.Owner,p.X,p.Y,0,0,p.Aim,p.Life - 1,p.Timer⟩
def downM (p : TBody) : TBody := ⟨p.Kind,p.Owner,p.X,p.Y,0,0,p.Aim,p.Life - 1,20⟩
theorem hit_alive {p : TBody} (h : ¬ p.Life - 1 = 0) : hitB p = lifeM p := by simp only [hitB,lifeM,if_neg h]
theorem hit_down {p : TBody} (h : p.Life - 1 = 0) : hitB p = downM p := by simp only [hitB,downM,if_pos h]
theorem met_I {bs : List TBody} {b : TBody} {o : Int} {n k : Nat} (h : metF bs b o n = some k) : metI bs b o n = k := by rw [metI,h]
theorem met_no {bs : List TBody} {b : TBody} {o : Int} {n : Nat} (h : metF bs b o n = none) : metI bs b o n = -1 := by rw [metI,h]
theorem els_pl9 (bs : List TBody) : plainT (els bs) := fun e he t ht => by
 obtain ⟨x,_,rfl⟩ := List.mem_map.1 he
 simp only [Enc.e] at ht
 revert ht
 simp only [List.mem_cons,List.not_mem_nil,or_false]
 rintro (rfl | rfl | rfl | rfl | rfl | rfl | rfl | rfl | rfl) <;> exact ⟨_,rfl⟩
theorem els_k9 (bs : List TBody) : ∀ e ∈ els bs,e.length = 9 := fun e he => by
 obtain ⟨x,_,rfl⟩ := List.mem_map.1 he
 rfl
end
section
open Go.RowKit

section
variable {P : Program} {w : World}
theorem run_copy_src (t tx ty e : TypeId) (i : TypeInfo) (ht : P.underlying t = some (.slice e)) (hi : P.info? e = some i) (b o c n : Nat) (x : Value) (news : List Value) (hs : Src P i.size tx x n news w) (hc : ∀ j,j < news.length → (w.cell? ⟨b,o + j,none⟩).isSome = true) (hf : ∀ j,j < news.length → w.frozen? ⟨b,o + j,none⟩ = false) :
  (Builtin.copy_ #[t,tx] ty #[.slice (some ⟨b,o,none⟩) n c,x]).run P w = .ok (.int .i64 n) (w.setCells b o news) := by
 have hst := run_storeCells_cells (P := P) b o news 0 w (by simpa using hc) (by simpa using hf) hs.one
 simp only [Nat.add_zero] at hst
 simp [Builtin.copy_,run_underlying ht,Go.sizeOf,typeInfo,hi,hs.len,hs.cells,hst,goInt]
theorem OW.fill {k : Nat} {es es' : List (List T)} {v : Value} {fp : List Nat} {t tx ty e : TypeId} {zs : List Value} {by_ : Nat} [hm : TyMake P t e zs by_] (h : OW w (.sl k es) v fp) (hnd : fp.Nodup) (hkz : k = zs.length) {x : Value} (hl : es'.length = es.length) (h0 : 0 < es.length) (hpl : plainT es') (hkk : ∀ e ∈ es',e.length = k)
  (hsrc : Src P k tx x es'.length (flatV (plainV' es') es'.length k) w) :
  ∃ w' fp',(Builtin.copy_ #[t,tx] ty #[v,x]).run P w = .ok (.int .i64 es.length) w' ∧ OW w' (.sl k es') v fp' ∧ fp'.Nodup ∧ (∀ b ∈ fp',b ∈ fp) ∧ Keeps w w' fp := by
 obtain ⟨i,hi,hzz⟩ := Option.map_eq_some_iff.1 hm.info
 simp only [Prod.mk.injEq] at hzz
 obtain ⟨hz1,hs,hb1⟩ := hzz
 have hsk : i.size = k := by rw [hs,hkz]
 have hsrc2 : Src P i.size tx x es.length (flatV (plainV' es') es'.length k) w := by rw [hsk,← hl]; exact hsrc
 rcases h.open_ with ⟨rfl,rfl,rfl⟩ | ⟨b,o,c,tid,cur,fz,val,fps,rfl,rfl,hg,hzf,hc,hcm,hcs,hp,hk,hf,hfk,hv,ht⟩
 ·simp at h0
 ·have hmul : es'.length * k ≤ c * k := Nat.mul_le_mul_right _ (by omega)
  have hr := run_copy_src (P := P) (w := w) t tx ty e i hm.slice hi b o c es.length x _ hsrc2 (fun j hj => by
   rw [cell_of_row w b _ cur tid fz hg]
   rw [Yc] at hj
   simp
   omega) (fun j hj => by
   rw [Yc] at hj
   exact frozen_fz hg hzf (by omega))
  obtain ⟨cur',k1,k2,k3,k4⟩ := Yh b tid fz (flatV (plainV' es') es'.length k) o w cur hg (by rw [Yc]; omega)
  obtain ⟨s1,s2,s3,s4,s5⟩ := Zg w b (flatV (plainV' es') es'.length k) o
  have hnil : (es'.map fun e => e.map fun _ => ([] : List Nat)).flatten.flatten = [] := by
   rw [List.flatten_eq_nil_iff]
   intro l hl
   rw [List.mem_flatten] at hl
   obtain ⟨f,hf,hl⟩ := hl
   obtain ⟨e,_,rfl⟩ := List.mem_map.1 hf
   obtain ⟨_,_,rfl⟩ := List.mem_map.1 hl
   rfl
  refine ⟨_,b :: (es'.map fun e => e.map fun _ => ([] : List Nat)).flatten.flatten,hr,?_,by rw [hnil]; simp,fun x hx => ?_,s1,s2,s3,by omega,fun b'' _ hb'' => s5 b'' fun e => hb'' (by simp [e])⟩
  ·rw [← hl]
   refine .sl es' b o k c tid cur' fz (plainV' es') (es'.map fun e => e.map fun _ => []) k1 (by rw [k2]; exact hzf) (by omega) hcm (by rw [k2]; exact hcs) hp hkk (by simp) (fun f hf => ?_) (fun i j hi hj => ?_) fun i j e t fs f h6 h7 h8 h9 => ?_
   ·obtain ⟨e,h6,rfl⟩ := List.mem_map.1 hf
    simpa using hkk e h6
   ·have h1 := ij_lt hi hj
    rw [Nat.add_assoc,k3 _ (by rw [Yc]; exact h1)]
    exact flatV_at hi hj
   ·rw [List.getElem?_map,h6] at h8
    simp only [Option.map_some,Option.some.injEq] at h8
    subst h8
    rw [List.getElem?_map,h7] at h9
    simp only [Option.map_some,Option.some.injEq] at h9
    subst h9
    obtain ⟨u,rfl⟩ := hpl e (Yg h6) t (Yg h7)
    rw [plainV'_at h6 h7]
    refine .v u ?_
    have hi := Yf h6
    have hj : j < k := by rw [← hkk e (Yg h6)]; exact Yf h7
    have := hsrc.one _ (Yg (flatV_at (val := plainV' es') hi hj))
    rwa [plainV'_at h6 h7] at this
  ·rw [hnil] at hx
   rcases List.mem_cons.1 hx with rfl | hx
   ·simp
   ·cases hx
end
section
variable {P : Program} {E : Env} {ops : Array Oper} {o : Oper} {st : St} {n : Nat} {rest : List Oper} {QQ : Exit → St → Prop} {t : TypeId} {y z : Operand}
theorem exec_copy {a : Act} {w w' : World} {v : Value} (ho : o.op = .call { callee := .builtin .copy,args := #[y,z],argTypes := #[t,t] }) (h : (Builtin.copy_ #[t,t] o.type #[a.eval y,a.eval z]).run P w = .ok v w') : (execOp a.eval o).run P w = .ok (.value v) w' := by
 unfold execOp
 simp only [ho,resolve,invoke,builtin,Sem.run_bind,Sem.run_pure,Result.andThen_ok,List.map_toArray,List.map_cons,List.map_nil,h]
theorem L_copy {p kk : Nat} {es es' : List (List T)} {x : V1} {e : TypeId} {zs : List Value} {by_ : Nat} [hm : TyMake P t e zs by_] (ho : o.op = .call { callee := .builtin .copy,args := #[y,z],argTypes := #[t,t] }) (hg : o.guard = none) (hy : st.ev y = .o (.c (.ref p))) (hp : st.objs[p]? = some (.row kk es)) (hz : st.ev z = .o (.c x)) (hs : srcOf st.objs x = some es')
  (hkz : kk = zs.length) (hz0 : zs ≠ []) (hd : dstOk st.n o.dst = true) (hpl : plainT es') (hkk : ∀ e ∈ es',e.length = kk) (hl : es'.length = es.length) (h0 : 0 < es.length)
  (h : AL P E ops QQ rest ⟨st.n,setT (st.tmps.map fun e => (e.1,e.2.kille p [])) o.dst (I es.length),(st.objs.map (Ob.kille p [])).set p (.row kk es')⟩) : AL P E ops QQ (o :: rest) st := by
 refine ⟨fun a w ⟨H,F,h1,h2⟩ => ?_⟩
 obtain ⟨v,fp,e1,e2⟩ := h1.ow hp
 obtain ⟨x',fp',e3⟩ := h1.v1 hy
 rw [e1] at e3
 simp only [Pc.ow.injEq] at e3
 obtain ⟨_,hv,_⟩ := e3
 have hnd := h1.ok.nodup p
 rw [e1] at hnd
 have hsrc := src_any (P := P) (t := t) (e := e) (by_ := by_) (kk := kk) h1 hkz hz0 (h1.v1 hz) hs hpl hkk
 obtain ⟨w',fp'',hr,h3,h4,h5,h6⟩ := OW.fill (P := P) (t := t) (ty := o.type) e2 hnd hkz hl h0 hpl hkk hsrc
 obtain ⟨hok,htn⟩ := h1.ok.turn (p := p) (fp := fp) (by rw [e1]; rfl) h6 (.ow (.sl kk es') v fp'') h3 h4 trivial (fun b hb => .inl (h5 b hb))
 obtain ⟨hplt,_⟩ := List.getElem?_eq_some_iff.1 hp
 have hR := h1.turne (rs := []) htn hok e1 (Hs.put_self _ _ _) (by simp) (by simp) (ob := .row kk es') ⟨_,_,Hs.put_self _ _ _⟩ hplt
 have hR2 := hR.put (x := I es.length) o.dst hd (v := .int .i64 es.length) (plainV _ rfl)
 refine wpList_step fun K hK => ?_
 rw [if_pos (by unfold Region.wanted; rw [hg])]
 unfold Oper.wp
 rw [exec_copy ho (by rw [← hv]; exact hr)]
 exact hK _ _ (h.h _ _ ⟨_,F,hR2,h2.turn htn⟩)
theorem M_copy {d : Nat} {ts : List (Nat × V)} {obs : List Ob} {p kk : Nat} {es es' : List (List T)} {x : V1} {e : TypeId} {zs : List Value} {by_ : Nat} [hm : TyMake P t e zs by_] (ho : o.op = .call { callee := .builtin .copy,args := #[y,z],argTypes := #[t,t] }) (hg : o.guard = none) (hy : St.ev ⟨n,ts,obs⟩ y = .o (.c (.ref p))) (hp : obs[p]? = some (.row kk es)) (hz : St.ev ⟨n,ts,obs⟩ z = .o (.c x)) (hs : srcOf obs x = some es')
  (hkz : kk = zs.length) (hz0 : zs.isEmpty = false) (hd : o.dst = some d) (hl : Nat.blt d n = true) (hpl : plainT es') (hkk : ∀ e ∈ es',e.length = kk) (hle : es'.length = es.length) (h0 : 0 < es.length)
  (h : AL P E ops QQ rest ⟨n,(d,I es.length) :: (ts.map fun e => (e.1,e.2.kille p [])),(obs.map (Ob.kille p [])).set p (.row kk es')⟩) : AL P E ops QQ (o :: rest) ⟨n,ts,obs⟩ :=
 L_copy ho hg hy hp hz hs hkz (by intro e; rw [e] at hz0; cases hz0) (by rw [hd]; exact hl) hpl hkk hle h0 (by rw [hd]; exact h)
end
end
end Go.Proofs.YtcjclaoogdblbaaDoor
