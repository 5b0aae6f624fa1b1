/-
  Parts of the proof (rules, data, and what functions of the program and of the reference return), among them: The tick of the reference; StepWorld of the reference.
  Conditions: those that each theorem names.
-/
import Derived.Test.YtpmacgnmlmmojaaGreatDoorDDDgRowk11
import Derived.Test.YtpmacgnmlmmojaaGreatDoorDDDgRowk13
import Derived.Test.YtpmacgnmlmmojaaGreatDoorDDDgRowk15
import Derived.Test.YtpmacgnmlmmojaaGreatDoorDDDgRowk16
import Derived.Test.YtpmacgnmlmmojaaGreatDoorDDDgRowk18
import Derived.Test.YtpmacgnmlmmojaaGreatDoorDDDgRowk19
set_option linter.unusedSimpArgs false
set_option linter.unusedVariables false
set_option maxRecDepth 8000
set_option maxHeartbeats 8000000
namespace Go.Proofs.YtpmacgnmlmmojaaGreatDoor
section
open Go.RowKit

def itemB (x y : Int) : TBody := ⟨2,0,x,y,0,0,0,0,0⟩
def isItem (x y : Int) (b : TBody) : Bool := decide (b.Kind = 2 ∧ b.X = x ∧ b.Y = y)
def itemAt (bs : List TBody) (x y : Int) : Bool := bs.any (isItem x y)
def spotOf (l : TLevel) (seed : Int) : List Int := (spotsM l).getD (belowR seed (spotsM l).length).toNat []
def lastM (l : TLevel) (tick seed : Int) (ss : List Int) (bs : List TBody) : TWorld :=
 if tick % 16 ≠ 0 ∨ (spotsM l).length = 0 ∨ 24 ≤ bs.length then ⟨l,tick,seed,ss,bs⟩
 else if itemAt bs ((spotOf l seed).getD 0 0) ((spotOf l seed).getD 1 0) = true then ⟨l,tick,nextR seed,ss,bs⟩
 else ⟨l,tick,nextR seed,ss,bs ++ [itemB ((spotOf l seed).getD 0 0) ((spotOf l seed).getD 1 0)]⟩
noncomputable def movedM (w : TWorld) (row : List Int) : List TBody := mvM w.Level (plM w.Level row w.Bodies w.Scores.length)
noncomputable def tickM (w : TWorld) (row : List Int) : TWorld :=
 lastM w.Level (w.Tick + 1) (nextR w.Seed) (hitsR w.Scores.length (movedM w row) w.Scores).2 (hitsR w.Scores.length (movedM w row) w.Scores).1
noncomputable def stepW (w : TWorld) (row : List Int) : TWorld := if worldOk w = true ∧ w.Tick ≠ 100000 ∧ rowOk row w.Scores.length = true then tickM w row else w
theorem PH.of {w : TWorld} {row : List Int} (hg : Enc.gd w) (ho : worldOk w = true) (hr : rowOk row w.Scores.length = true) : PH w row := by
 obtain ⟨gL,gT,gS,gSc,gB⟩ := hg
 obtain ⟨hl,ht,hs,hn,hsc,hlen,hbo⟩ := Kh ho
 rw [rowOk,Bool.and_eq_true,decide_eq_true_eq] at hr
 refine ⟨gL,gB.2,hl,hn,hlen,hbo,by omega,fun i hi => ?_⟩
 have := List.all_eq_true.1 hr.2 i hi
 exact Y0.1 this
theorem Z8 {w : TWorld} (ho : worldOk w = true) : ∀ x ∈ w.Scores,0 ≤ x ∧ x ≤ 1000000 := fun x hx => by
 obtain ⟨_,_,_,_,hsc,_,_⟩ := Kh ho
 exact Y0.1 (List.all_eq_true.1 hsc x hx)
section
variable {w : TWorld} {row : List Int}
theorem PH.pl (h : PH w row) : P1 w.Level w.Scores.length w.Bodies (plM w.Level row w.Bodies w.Scores.length) w.Scores.length := P1.all h.hl h.n4.2 h.len h.bs row _ (Nat.le_refl _)
theorem PH.mv (h : PH w row) : LM w.Level w.Scores.length (movedM w row) := h.pl.lm.move
end
section
variable {l : TLevel} {n : Nat} {bs : List TBody} {ss : List Int}
theorem SI.drop {bs0 : List TBody} {s : List TBody × List Int} (h : SI l n bs0 s) : s.1.drop n = bs0.drop n := by
 apply List.ext_getElem?
 intro i
 rw [List.getElem?_drop,List.getElem?_drop]
 exact h.tl _ (by omega)
theorem SI.shots (h : LM l n bs) (h1 : ss.length = n) (h2 : ∀ x ∈ ss,0 ≤ x ∧ x ≤ 1000000) : LM l n ((shS n (bs.drop n) (bs,ss) (bs.drop n).length).1.take n ++ shL n (bs.drop n) (bs,ss) (bs.drop n).length) := by
 have hS := (SI.start h h1 h2).all (bs.drop n) (bs.drop n).length
 have hl := h.len
 have hd := hS.drop
 have h3 := shL_le (n := n) (t := bs.drop n) (s := (bs,ss)) (bs.drop n).length
 have h4 : (bs.drop n).length = bs.length - n := List.length_drop
 exact hS.lm.cut (fun b hb => by rw [hd]; exact shL_sub _ b hb) (by omega)
theorem LM.items {j : Nat} (h : LM l n bs) (hj : j ≤ bs.length - n) : LM l n (bs.take n ++ itL n bs (bs.drop n) j) := by
 have hl := h.len
 have h3 := itL_le (n := n) (bs := bs) (t := bs.drop n) (j := j)
 exact h.cut (fun b hb => List.mem_of_mem_take (List.mem_filter.1 hb).1) (by omega)
theorem hits_lm (h : LM l n bs) (h1 : ss.length = n) (h2 : ∀ x ∈ ss,0 ≤ x ∧ x ≤ 1000000) : LM l n (hitsR n bs ss).1 ∧ (hitsR n bs ss).2.length = n ∧ ∀ x ∈ (hitsR n bs ss).2,0 ≤ x ∧ x ≤ 1000000 := by
 have hS := (SI.start h h1 h2).all (bs.drop n) (bs.drop n).length
 rw [← hits_eq h h1 h2]
 exact ⟨(SI.shots h h1 h2).items (by rw [List.length_drop]; exact Nat.le_refl _),itS_ok hS.sl hS.sc⟩
end
/-! ### What fits -/
def TA (b : TBody) : Prop := (-2 ≤ b.Timer ∧ b.Timer ≤ 25) ∧ (-1 ≤ b.Aim ∧ b.Aim ≤ 1)
theorem body_aim {l : TLevel} {n k : Nat} {b : TBody} (h : bodyAt l n k b = true) : -1 ≤ b.Aim ∧ b.Aim ≤ 1 := by
 rw [bodyAt,Bool.and_eq_true] at h
 have h1 := h.1
 simp only [bodyM,Bool.and_eq_true] at h1
 obtain ⟨_,_,_,_,_,ht⟩ := h1
 unfold tailM at ht
 split at ht
 ·simp only [Bool.and_eq_true,decide_eq_true_eq] at ht; omega
 ·split at ht
  ·simp only [Bool.and_eq_true,decide_eq_true_eq] at ht; omega
  ·simp only [decide_eq_true_eq] at ht; omega
theorem pl_aim {l : TLevel} {row : List Int} {bs : List TBody} (h : ∀ b ∈ bs,-1 ≤ b.Aim ∧ b.Aim ≤ 1) : ∀ k,∀ b ∈ plM l row bs k,-1 ≤ b.Aim ∧ b.Aim ≤ 1
 | 0,b,hb => h b hb
 | k + 1,b,hb => by
  have ih := pl_aim (row := row) (l := l) h k
  rw [plM] at hb
  split at hb
  ·exact ih b hb
  ·rename_i p hp
   have hp2 := ih p (List.mem_of_getElem? hp)
   have hs : -1 ≤ (steer l p (row.getD k 0)).1.Aim ∧ (steer l p (row.getD k 0)).1.Aim ≤ 1 := by
    simp only [steer]
    split
    ·omega
    ·split <;> omega
   have key : ∀ {c : TBody},(-1 ≤ c.Aim ∧ c.Aim ≤ 1) → b ∈ (plM l row bs k).set k c → -1 ≤ b.Aim ∧ b.Aim ≤ 1 := fun hc hb => by
    rcases List.mem_or_eq_of_mem_set hb with h1 | h1
    ·exact ih b h1
    ·subst h1; exact hc
   unfold plOne at hb
   split at hb
   ·refine key ?_ hb
    split
    ·simp [fresh]
    ·exact hp2
   ·split at hb
    ·rcases List.mem_append.1 hb with h1 | h1
     ·exact key hs h1
     ·rw [List.mem_singleton] at h1; subst h1; simp [shotOf]
    ·exact key hs hb
theorem mv_ta {l : TLevel} {bs : List TBody} (h : ∀ b ∈ bs,(0 ≤ b.Timer ∧ b.Timer ≤ 25) ∧ (-1 ≤ b.Aim ∧ b.Aim ≤ 1)) : ∀ b ∈ mvM l bs,TA b := fun b hb => by
 obtain ⟨c,hc,hcb⟩ := List.mem_filterMap.1 hb
 have hh := h c hc
 unfold mvOne at hcb
 split at hcb
 ·cases hcb
  exact ⟨⟨by simp only [moveM]; omega,by simp only [moveM]; omega⟩,hh.2⟩
 ·split at hcb
  ·split at hcb
   ·cases hcb
   ·cases hcb
    exact ⟨⟨by simp only [tick1,moveM]; omega,by simp only [tick1,moveM]; omega⟩,hh.2⟩
  ·cases hcb; exact ⟨by omega,hh.2⟩
theorem sh_ta {n : Nat} {t : List TBody} {s : List TBody × List Int} (h : ∀ b ∈ s.1,TA b) : ∀ j,∀ b ∈ (shS n t s j).1,TA b
 | 0,b,hb => h b hb
 | j + 1,b,hb => by
  have ih := sh_ta (n := n) (t := t) h j
  rw [shS] at hb
  split at hb
  ·exact ih b hb
  ·unfold shOne at hb
   split at hb
   ·split at hb
    ·exact ih b hb
    ·split at hb
     ·exact ih b hb
     ·rename_i p hp
      rcases List.mem_or_eq_of_mem_set hb with h1 | h1
      ·exact ih b h1
      ·subst h1
       have h2 := ih p (List.mem_of_getElem? hp)
       refine ⟨?_,h2.2⟩
       simp only [hitB]
       split
       ·omega
       ·exact h2.1
   ·exact ih b hb
theorem keepR_sub {n : Nat} {t bs : List TBody} {s : List TBody × List Int} : ∀ j,∀ b ∈ keepR n t s bs j,b ∈ t
 | 0,b,hb => by cases hb
 | j + 1,b,hb => by
  rw [keepR] at hb
  split at hb
  ·exact keepR_sub j b hb
  ·rename_i c hc
   split at hb
   ·exact keepR_sub j b hb
   ·rcases List.mem_append.1 hb with h | h
    ·exact keepR_sub j b h
    ·rw [List.mem_singleton] at h; subst h; exact List.mem_of_getElem? hc
theorem hits_ta {n : Nat} {bs : List TBody} {ss : List Int} (h : ∀ b ∈ bs,TA b) : ∀ b ∈ (hitsR n bs ss).1,TA b := fun b hb => by
 rcases List.mem_append.1 hb with h1 | h1
 ·exact sh_ta (s := (bs,ss)) h _ b (List.mem_of_mem_take h1)
 ·exact h b (List.mem_of_mem_drop (keepR_sub _ b h1))
theorem body_gd {l : TLevel} {n : Nat} {b : TBody} (hl : levelOk l = true) (hn : n ≤ 4) (h : BM l n b) (ht : TA b) : Enc.gd b := by
 have hp := (h.placed hl).1
 obtain ⟨hk,ho,_,hvx,hvy,hf⟩ := h
 obtain ⟨_,hx,hy⟩ := hp
 obtain ⟨h1,h2⟩ := ht
 refine ⟨⟨?_,?_⟩,⟨?_,?_⟩,⟨?_,?_⟩,⟨?_,?_⟩,⟨?_,?_⟩,⟨?_,?_⟩,⟨?_,?_⟩,⟨?_,?_⟩,⟨?_,?_⟩⟩ <;> omega
theorem spot_rng {l : TLevel} (hl : levelOk l = true) {sp : List Int} (h : sp ∈ spotsM l) : ∃ x y : Int,sp = [x,y] ∧ (0 ≤ x ∧ x ≤ 400) ∧ (0 ≤ y ∧ y ≤ 400) := by
 obtain ⟨l3,l12,w,w4,w20,hw⟩ := Y2 hl
 obtain ⟨r,c,row,h1,h2,h3,_,h5⟩ := rowSp_at h
 obtain ⟨h6,h7⟩ := List.getElem?_eq_some_iff.1 h2
 have h8 := hw r h6
 rw [h7] at h8
 exact ⟨_,_,h5,by omega,by omega⟩
theorem spotOf_mem {l : TLevel} {seed : Int} (h : (spotsM l).length ≠ 0) : ∃ (i : Nat),belowR seed (spotsM l).length = i ∧ i < (spotsM l).length ∧ (spotsM l)[i]? = some (spotOf l seed) := by
 have h1 := Y7 seed
 have h2 : 0 ≤ belowR seed (spotsM l).length ∧ belowR seed (spotsM l).length < (spotsM l).length := by
  unfold belowR
  exact ⟨Int.emod_nonneg _ (by omega),Int.emod_lt_of_pos _ (by omega)⟩
 obtain ⟨i,hi⟩ : ∃ i : Nat,belowR seed (spotsM l).length = i := ⟨_,(Int.toNat_of_nonneg h2.1).symm⟩
 refine ⟨i,hi,by omega,?_⟩
 rw [spotOf,hi,Int.toNat_natCast,List.getD_eq_getElem?_getD,List.getElem?_eq_getElem (by omega)]
 rfl
theorem item_gd {x y : Int} (hx : 0 ≤ x ∧ x ≤ 400) (hy : 0 ≤ y ∧ y ≤ 400) : Enc.gd (itemB x y) := by
 refine ⟨⟨?_,?_⟩,⟨?_,?_⟩,⟨?_,?_⟩,⟨?_,?_⟩,⟨?_,?_⟩,⟨?_,?_⟩,⟨?_,?_⟩,⟨?_,?_⟩,⟨?_,?_⟩⟩ <;> simp only [itemB] <;> omega
structure Fits (w : TWorld) (n : Nat) : Prop where
 gd : Enc.gd w
 sl : w.Scores.length = n
 bl : w.Bodies.length ≤ 24
theorem last_fits {l : TLevel} {tick seed : Int} {ss : List Int} {bs : List TBody} {n : Nat} (hl : levelOk l = true) (gl : Enc.gd l) (ht : 0 ≤ tick ∧ tick ≤ 100000) (hs : 0 ≤ seed ∧ seed ≤ 65535) (h1 : ss.length = n) (hn : n ≤ 4) (h2 : ∀ x ∈ ss,0 ≤ x ∧ x ≤ 1000000) (h3 : bs.length ≤ 24) (h4 : ∀ b ∈ bs,Enc.gd b) : Fits (lastM l tick seed ss bs) n := by
 have g2 : Enc.gd ss := ⟨by omega,fun x hx => by have := h2 x hx; exact ⟨by omega,by omega⟩⟩
 have g1 : Enc.gd bs := ⟨by omega,h4⟩
 have gt : Enc.gd tick := ⟨by omega,by omega⟩
 have gs : Enc.gd seed := ⟨by omega,by omega⟩
 have hnx := Y7 seed
 have gn : Enc.gd (nextR seed) := ⟨by omega,by omega⟩
 unfold lastM
 split
 ·exact ⟨⟨gl,gt,gs,g2,g1⟩,h1,h3⟩
 ·rename_i hc
  split
  ·exact ⟨⟨gl,gt,gn,g2,g1⟩,h1,h3⟩
  ·obtain ⟨i,_,_,hi⟩ := spotOf_mem (l := l) (seed := seed) (fun e => hc (.inr (.inl e)))
   obtain ⟨x,y,he,hx,hy⟩ := spot_rng hl (List.mem_of_getElem? hi)
   have hb : bs.length < 24 := by
    rcases Nat.lt_or_ge bs.length 24 with h | h
    ·exact h
    ·exact absurd (.inr (.inr h)) hc
   have hli : (bs ++ [itemB ((spotOf l seed).getD 0 0) ((spotOf l seed).getD 1 0)]).length ≤ 24 := by rw [List.length_append]; simp; omega
   refine ⟨⟨gl,gt,gn,g2,Nat.le_trans hli (by decide),fun b hb2 => ?_⟩,h1,hli⟩
   rcases List.mem_append.1 hb2 with h5 | h5
   ·exact h4 b h5
   ·rw [List.mem_singleton] at h5
    subst h5
    rw [he]
    exact item_gd hx hy
theorem tick_fits {w : TWorld} {row : List Int} (hg : Enc.gd w) (ho : worldOk w = true) (ht : w.Tick ≠ 100000) (hr : rowOk row w.Scores.length = true) : Fits (tickM w row) w.Scores.length := by
 have hP := PH.of hg ho hr
 obtain ⟨hl,htk,hs,hn,hsc,hlen,hbo⟩ := Kh ho
 have htk := Y0.1 htk
 have hM := hits_lm hP.mv rfl (Z8 ho)
 have hta : ∀ b ∈ movedM w row,TA b := mv_ta fun b hb => ⟨hP.pl.tm b hb,pl_aim (fun c hc => by
  obtain ⟨j,hj,rfl⟩ := List.mem_iff_getElem.1 hc
  exact body_aim (hbo j hj)) _ b hb⟩
 have hnx := Y7 w.Seed
 refine last_fits hl hg.1 ⟨by omega,by omega⟩ hnx hM.2.1 hn.2 hM.2.2 hM.1.len.2 fun b hb => ?_
 obtain ⟨j,hj⟩ := List.getElem?_of_mem hb
 exact body_gd hl hn.2 (hM.1.at_ j b hj).1 (hits_ta hta b hb)
theorem stepW_level (w : TWorld) (row : List Int) : (stepW w row).Level = w.Level := by
 unfold stepW
 split
 ·unfold tickM lastM
  split
  ·rfl
  ·split <;> rfl
 ·rfl
theorem stepW_fits {w : TWorld} {row : List Int} (hg : Enc.gd w) : Enc.gd (stepW w row) ∧ (stepW w row).Scores.length = w.Scores.length ∧ (stepW w row).Bodies.length ≤ max w.Bodies.length 24 := by
 unfold stepW
 split
 ·rename_i h
  have := tick_fits hg h.1 h.2.1 h.2.2
  exact ⟨this.gd,this.sl,by have := this.bl; omega⟩
 ·exact ⟨hg,rfl,by omega⟩
end
section
open Go.RowKit

instance : PlainE TBody := ⟨fun x t h => els_pl9 [x] (Enc.e x) (by simp [els]) t h⟩
theorem Xx (w : TWorld) (hg : Enc.gd w) (h1 : w.Level.Rows.length ≤ 1048576) (h2 : w.Scores.length ≤ 1048576) (h3 : w.Bodies.length ≤ 1048576) : Con Tryz.prog 41 [] [ag w] [.row 1 (els w.Level.Rows),.row 1 (els w.Scores),.row 9 (els w.Bodies)] (.o (.ag [.ref 0,jn w.Tick,jn w.Seed,.ref 1,.ref 2])) := by
 have hls := Ym w.Scores
 have hlb := Ym w.Bodies
 refine Con.of Tryz.func41 J Tryz.ntmps41 J (fun E => ?_)
 refine Wz [26,18,1,4,64,27] ?_;refine M1 (Zk J J (I_copyLevel w.Level hg.1 h1) J J J) J J ?_;refine Wz [64,37,5] ?_;refine M_appnil J J J J J J J J (Yn _) (els_k _) (by omega) (by omega) ?_;refine Wz [41,1,5] ?_;refine M_appnil J J J J J J J J (Yn _) (els_k _) (by omega) (by omega) ?_;refine Wz [41,1,15,37,67] ?_
 exact Xl J J J J (X6 [2,3,4] (by decide) J J J)
end
section
open Go.RowKit


@[reducible] def pX (x : TPeer) (a b c d e f g h i j : V1) : List V1 := [jn x.Me,jn x.Delay,jn x.Ahead,jn x.Seed,a,b,jn x.Base.Tick,jn x.Base.Seed,c,d,e,jn x.Now.Tick,jn x.Now.Seed,f,g,h,i,j,jn x.Fault.Tick,jn x.Fault.Player,jn x.Fault.Add,jn x.Rolls,jn x.Again]
@[reducible] def pC (x : TPeer) (a b c d e f g h i j : Nat) : List V1 := pX x (.ref a) (.ref b) (.ref c) (.ref d) (.ref e) (.ref f) (.ref g) (.ref h) (.ref i) (.ref j)
@[reducible] def wR (w : TWorld) (l : List Ob) : List Ob := .row 1 (els w.Level.Rows) :: .row 1 (els w.Scores) :: .row 9 (els w.Bodies) :: l
@[reducible] def pR (x : TPeer) (l : List Ob) : List Ob := .row 1 (els x.Tracks) :: wR x.Base (wR x.Now (.row 1 (els x.Used) :: .row 2 (els x.Saves) :: .row 1 (els x.Sums) :: l))
@[reducible] def sr {α : Type} [Enc α] (xs : List α) : V1 := .rd [] (sl xs)
@[reducible] def pD (x : TPeer) : List V1 := pX x (sr x.Tracks) (sr x.Base.Level.Rows) (sr x.Base.Scores) (sr x.Base.Bodies) (sr x.Now.Level.Rows) (sr x.Now.Scores) (sr x.Now.Bodies) (sr x.Used) (sr x.Saves) (sr x.Sums)
@[reducible] def wD (w : TWorld) : List V1 := [sr w.Level.Rows,jn w.Tick,jn w.Seed,sr w.Scores,sr w.Bodies]
@[reducible] def nv : V1 := .rd [] (.v (.slice none 0 0))
structure PeerIn (x : TPeer) : Prop where
 gd : Enc.gd x
 tr : x.Tracks.length ≤ 1000 ∧ ∀ t ∈ x.Tracks,t.Inputs.length ≤ 1048576
 bw : x.Base.Level.Rows.length ≤ 1048576 ∧ x.Base.Scores.length ≤ 1048576 ∧ x.Base.Bodies.length ≤ 1048576
 nw : x.Now.Level.Rows.length ≤ 1048576 ∧ x.Now.Scores.length ≤ 1048576 ∧ x.Now.Bodies.length ≤ 1048576
 us : x.Used.length ≤ 1000 ∧ ∀ r ∈ x.Used,r.length ≤ 1048576
 sv : x.Saves.length ≤ 1000
 sm : x.Sums.length ≤ 1048576
instance : PlainE TSave := ⟨fun x t h => by
 have h2 : t ∈ [T.v (.int .i64 x.Tick),T.v (.string x.Delta)] := h
 simp only [List.mem_cons,List.not_mem_nil,or_false] at h2
 rcases h2 with rfl | rfl <;> exact ⟨_,rfl⟩⟩
theorem I_copyTrack (t : TTrack) (hL : t.Inputs.length ≤ 1048576) : Con Tryz.prog 194 [] [ag t] [.row 1 (els t.Inputs)] (.o (.ag [.ref 0])) := by
 refine Con.of Tryz.func194 J Tryz.ntmps194 J (fun E => ?_)
 refine Wz [26,18,1,5] ?_;refine M1 (Zk J J (I_copyInts t.Inputs hL) J J J) J J ?_;refine Wz [108,37,67] ?_
 exact Xl J J J J (X6 [2] (by decide) J J J)
theorem I_copyTracks (xs : List TTrack) (hL : xs.length ≤ 1000) (hr : ∀ t ∈ xs,t.Inputs.length ≤ 1048576) : Con Tryz.prog 124 [] [al xs] [.row 1 (els xs)] (.o (.c (.ref 0))) := by
 have hlx := Ym xs
 refine Con.of Tryz.func124 J Tryz.ntmps124 J (fun E => ?_)
 refine Wz [11,11,28,12,78,13] ?_
 refine AWP.pre ?_ (W_nil 3 1 J)
 refine Xi (fun m st => ∃ k : Nat,k + m = xs.length ∧ (True) ∧ st = (⟨_,[(3,.o (.c (.ref 0))),(6,L xs),(7,I (els xs).length),(8,I k)],[.row 1 (els (xs.take k))]⟩ : St)) (xs.length) ⟨_,⟨0,by omega,trivial,J⟩,X7 [0] (by kernel_rfl)⟩ ?_
 rintro m_A _ ⟨k,hk_A,hp_A,rfl⟩
 have hl2 : (els (xs.take k)).length = k := by rw [Ym]; simp; omega
 refine Wz [4,48,21] ?_
 refine Xb J (fun h => ?_) (fun h => ?_)
 ·have h3 : k < xs.length := by have := of_decide_eq_true h; omega
  have hat := Yl h3
  refine Wz [29,4,77,107,18,37,49,27] ?_;refine M1 (Zk J J (I_copyTrack xs[k] (hr _ (List.getElem_mem h3))) J J J) J J ?_;refine Wz [54,111,51,38] ?_
  exact ⟨xs.length - (k + 1),by omega,(fun k : Nat => (⟨_,[(3,.o (.c (.ref 0))),(6,L xs),(7,I (els xs).length),(8,I k)],[.row 1 (els (xs.take k))]⟩ : St)) (k + 1),⟨k + 1,by omega,trivial,J⟩,X8 [0] (by decide) J (row_eq (els_snoc h3)) (.c J (.c J (.c J (.c J (.nil)))))⟩
 ·have h3 : ¬ ((k : Int) < (els xs).length) := of_decide_eq_false h
  have hk : xs.take k = xs := List.take_of_length_le (by omega)
  refine Wz [32,7,34] ?_
  exact Xn J J (X6 [0] (by decide) J (row_eq (by rw [hk])) J)
@[reducible] def zP : List V1 := [jn 0,jn 0,jn 0,jn 0,nv,nv,jn 0,jn 0,nv,nv,nv,jn 0,jn 0,nv,nv,nv,nv,nv,jn 0,jn 0,jn 0,jn 0,jn 0]
theorem I_copyPeer (x : TPeer) (h : PeerIn x) : Con Tryz.prog 44 [] [ag x] (pR x []) (.o (.ag (pC x 0 1 2 3 4 5 6 7 8 9))) := by
 obtain ⟨_,_,_,_,gT,gB,gN,gU,gS,gM,gF,_,_⟩ := h.gd
 have hls := Ym x.Saves
 have hsv := h.sv
 have c1 := I_copyTracks x.Tracks h.tr.1 h.tr.2
 have c2 := Xx x.Base gB h.bw.1 h.bw.2.1 h.bw.2.2
 have c3 := Xx x.Now gN h.nw.1 h.nw.2.1 h.nw.2.2
 have c4 := I_copyRows x.Used gU (by have := h.us.1; omega) h.us.2
 have c5 := I_copyInts x.Sums h.sm
 refine Con.of Tryz.func44 J Tryz.ntmps44 J (fun E => ?_)
 refine Wz [26,18,1,5] ?_;refine AL.weak (st' := (⟨_,[(1,.o (.c (.ptr 0 0))),(2,.o (.c (.ptr 1 0))),(4,L x.Tracks)],[.box (pX x (sr x.Tracks) (sr x.Base.Level.Rows) (sr x.Base.Scores) (sr x.Base.Bodies) (sr x.Now.Level.Rows) (sr x.Now.Scores) (sr x.Now.Bodies) (sr x.Used) (sr x.Saves) (sr x.Sums)),.box zP]⟩ : St)) (X8 [0,1] (by decide) J ((by kernel_rfl)) (.c J (.c J (.c J (.nil))))) ?_;refine M1 (Zk J J (c1) J J J) J J ?_;refine Wz [41,1,4,64,27] ?_;refine AL.weak (st' := (⟨_,[(1,.o (.c (.ptr 0 0))),(2,.o (.c (.ptr 1 0))),(8,.o (.ag (wD x.Base)))],[.box (pX x (.ref 2) (sr x.Base.Level.Rows) (sr x.Base.Scores) (sr x.Base.Bodies) (sr x.Now.Level.Rows) (sr x.Now.Scores) (sr x.Now.Bodies) (sr x.Used) (sr x.Saves) (sr x.Sums)),.box zP,.row 1 (els x.Tracks)]⟩ : St)) (X8 [0,1,2] (by decide) J ((by kernel_rfl)) (.c J (.c J (.c J (.nil))))) ?_;refine M1 (Zk J J (c2) J J J) J J ?_;refine Wz [64,37,4,64,27] ?_;refine AL.weak (st' := (⟨_,[(1,.o (.c (.ptr 0 0))),(2,.o (.c (.ptr 1 0))),(12,.o (.ag (wD x.Now)))],[.box (pX x (.ref 2) (.ref 3) (.ref 4) (.ref 5) (sr x.Now.Level.Rows) (sr x.Now.Scores) (sr x.Now.Bodies) (sr x.Used) (sr x.Saves) (sr x.Sums)),.box zP,.row 1 (els x.Tracks),.row 1 (els x.Base.Level.Rows),.row 1 (els x.Base.Scores),.row 9 (els x.Base.Bodies)]⟩ : St)) (X8 [0,1,2,3,4,5] (by decide) J ((by kernel_rfl)) (.c J (.c J (.c J (.nil))))) ?_;refine M1 (Zk J J (c3) J J J) J J ?_;refine Wz [64,37,5] ?_;refine AL.weak (st' := (⟨_,[(1,.o (.c (.ptr 0 0))),(2,.o (.c (.ptr 1 0))),(16,L x.Used)],[.box (pX x (.ref 2) (.ref 3) (.ref 4) (.ref 5) (.ref 6) (.ref 7) (.ref 8) (sr x.Used) (sr x.Saves) (sr x.Sums)),.box zP,.row 1 (els x.Tracks),.row 1 (els x.Base.Level.Rows),.row 1 (els x.Base.Scores),.row 9 (els x.Base.Bodies),.row 1 (els x.Now.Level.Rows),.row 1 (els x.Now.Scores),.row 9 (els x.Now.Bodies)]⟩ : St)) (X8 [0,1,2,3,4,5,6,7,8] (by decide) J ((by kernel_rfl)) (.c J (.c J (.c J (.nil))))) ?_;refine M1 (Zk J J (c4) J J J) J J ?_;refine Wz [41,1,5] ?_;refine M_appnil J J J J J J J J (Yn _) (els_k _) (by omega) (by omega) ?_;refine Wz [41,1,5] ?_;refine AL.weak (st' := (⟨_,[(1,.o (.c (.ptr 0 0))),(2,.o (.c (.ptr 1 0))),(24,L x.Sums)],[.box (pX x (.ref 2) (.ref 3) (.ref 4) (.ref 5) (.ref 6) (.ref 7) (.ref 8) (.ref 9) (.ref 10) (sr x.Sums)),.box zP,.row 1 (els x.Tracks),.row 1 (els x.Base.Level.Rows),.row 1 (els x.Base.Scores),.row 9 (els x.Base.Bodies),.row 1 (els x.Now.Level.Rows),.row 1 (els x.Now.Scores),.row 9 (els x.Now.Bodies),.row 1 (els x.Used),.row 2 (els x.Saves)]⟩ : St)) (X8 [0,1,2,3,4,5,6,7,8,9,10] (by decide) J ((by kernel_rfl)) (.c J (.c J (.c J (.nil))))) ?_;refine M1 (Zk J J (c5) J J J) J J ?_;refine AL.weak (st' := (⟨_,[(1,.o (.c (.ptr 0 0))),(2,.o (.c (.ptr 1 0))),(25,.o (.c (.ref 11)))],[.box (pX x (.ref 2) (.ref 3) (.ref 4) (.ref 5) (.ref 6) (.ref 7) (.ref 8) (.ref 9) (.ref 10) (sr x.Sums)),.box (zP),.row 1 (els x.Tracks),.row 1 (els x.Base.Level.Rows),.row 1 (els x.Base.Scores),.row 9 (els x.Base.Bodies),.row 1 (els x.Now.Level.Rows),.row 1 (els x.Now.Scores),.row 9 (els x.Now.Bodies),.row 1 (els x.Used),.row 2 (els x.Saves),.row 1 (els x.Sums)]⟩ : St)) (X8 [0,1,2,3,4,5,6,7,8,9,10,11] (by decide) J ((by kernel_rfl)) (.c J (.c J (.c J (.nil))))) ?_;refine Wz [41,1,4] ?_;refine AL.weak (st' := (⟨_,[(1,.o (.c (.ptr 0 0))),(2,.o (.c (.ptr 1 0)))],[.box (pX x (.ref 2) (.ref 3) (.ref 4) (.ref 5) (.ref 6) (.ref 7) (.ref 8) (.ref 9) (.ref 10) (.ref 11)),.box (zP),.row 1 (els x.Tracks),.row 1 (els x.Base.Level.Rows),.row 1 (els x.Base.Scores),.row 9 (els x.Base.Bodies),.row 1 (els x.Now.Level.Rows),.row 1 (els x.Now.Scores),.row 9 (els x.Now.Bodies),.row 1 (els x.Used),.row 2 (els x.Saves),.row 1 (els x.Sums)]⟩ : St)) (X8 [0,1,2,3,4,5,6,7,8,9,10,11] (by decide) J ((by kernel_rfl)) (.c J (.c J (.nil)))) ?_;refine z4 J J J ?_;refine AL.weak (st' := (⟨_,[(1,.o (.c (.ptr 0 0))),(2,.o (.c (.ptr 1 0))),(27,.o (.ag (pC x 2 3 4 5 6 7 8 9 10 11)))],[.box (pX x (.ref 2) (.ref 3) (.ref 4) (.ref 5) (.ref 6) (.ref 7) (.ref 8) (.ref 9) (.ref 10) (.ref 11)),.box (zP),.row 1 (els x.Tracks),.row 1 (els x.Base.Level.Rows),.row 1 (els x.Base.Scores),.row 9 (els x.Base.Bodies),.row 1 (els x.Now.Level.Rows),.row 1 (els x.Now.Scores),.row 9 (els x.Now.Bodies),.row 1 (els x.Used),.row 2 (els x.Saves),.row 1 (els x.Sums)]⟩ : St)) (X8 [0,1,2,3,4,5,6,7,8,9,10,11] (by decide) J ((by kernel_rfl)) (.c J (.c J (.c J (.nil))))) ?_;refine Qy J J J J J J J J J ?_;refine AL.weak (st' := (⟨_,[(1,.o (.c (.ptr 0 0))),(2,.o (.c (.ptr 1 0)))],[.box (pX x (.ref 2) (.ref 3) (.ref 4) (.ref 5) (.ref 6) (.ref 7) (.ref 8) (.ref 9) (.ref 10) (.ref 11)),.box (pC x 2 3 4 5 6 7 8 9 10 11),.row 1 (els x.Tracks),.row 1 (els x.Base.Level.Rows),.row 1 (els x.Base.Scores),.row 9 (els x.Base.Bodies),.row 1 (els x.Now.Level.Rows),.row 1 (els x.Now.Scores),.row 9 (els x.Now.Bodies),.row 1 (els x.Used),.row 2 (els x.Saves),.row 1 (els x.Sums)]⟩ : St)) (X8 [0,1,2,3,4,5,6,7,8,9,10,11] (by decide) J ((by kernel_rfl)) (.c J (.c J (.nil)))) ?_;refine Wz [1,67] ?_
 exact Xl (cs := pC x 2 3 4 5 6 7 8 9 10 11) J J J J (X6 [2,3,4,5,6,7,8,9,10,11] (by decide) J (by kernel_rfl) (by kernel_rfl))
end
section
open Go.RowKit

def trackOk (t : TTrack) : Bool := decide ((t.Inputs.length : Int) ≤ 400) && inOk t.Inputs
def tracksOk (l : List TTrack) : Bool := (decide (1 ≤ l.length) && decide (l.length ≤ 4)) && l.all trackOk
theorem tracks_no {l : List TTrack} (h : l.length < 1 ∨ 4 < l.length) : tracksOk l = false := by
 rw [tracksOk]
 rcases h with h | h
 ·rw [decide_eq_false (by omega : ¬ 1 ≤ l.length)]; rfl
 ·rw [decide_eq_false (by omega : ¬ l.length ≤ 4),Bool.and_false]; rfl
theorem tracks_bad {l : List TTrack} (h : l.all trackOk = false) : tracksOk l = false := by rw [tracksOk,h,Bool.and_false]
theorem tracks_yes {l : List TTrack} (h1 : 1 ≤ l.length) (h2 : l.length ≤ 4) (h : l.all trackOk = true) : tracksOk l = true := by rw [tracksOk,h,decide_eq_true h1,decide_eq_true h2]; rfl
theorem Kf {l : List TTrack} (h : tracksOk l = true) : 1 ≤ l.length ∧ l.length ≤ 4 := by
 simp only [tracksOk,Bool.and_eq_true,decide_eq_true_eq] at h
 exact h.1
def lenAt (l : List TTrack) (k : Nat) : Nat := (l.getD k ⟨[]⟩).Inputs.length
def leastK (l : List TTrack) : Nat → Nat
 | 0 => lenAt l 0
 | k + 1 => min (leastK l k) (lenAt l k)
def knownTicks (l : List TTrack) : Nat := if tracksOk l = true then leastK l l.length else 0
theorem lenAt_is {l : List TTrack} {k : Nat} (h : k < l.length) : lenAt l k = l[k].Inputs.length := by simp [lenAt,List.getD_eq_getElem?_getD,h]
theorem least_0 (l : List TTrack) : leastK l 0 = lenAt l 0 := rfl
def faultOk (f : TFault) (n : Int) : Bool := ((inR f.Tick 0 400 && decide (0 ≤ f.Player)) && decide (f.Player < n)) && inR f.Add 0 9
def PeerP (p : TPeer) : Prop :=
 (tracksOk p.Tracks = true ∧ worldOk p.Base = true ∧ worldOk p.Now = true ∧ p.Base.Level = p.Now.Level) ∧
 (p.Base.Scores.length = p.Tracks.length ∧ p.Now.Scores.length = p.Tracks.length ∧ faultOk p.Fault p.Tracks.length = true) ∧
 ((0 ≤ p.Me ∧ p.Me ≤ (p.Tracks.length : Int) - 1) ∧ (0 ≤ p.Delay ∧ p.Delay ≤ 5) ∧ (1 ≤ p.Ahead ∧ p.Ahead ≤ 8)) ∧
 ((0 ≤ p.Seed ∧ p.Seed ≤ 65535) ∧ (0 ≤ p.Rolls ∧ p.Rolls ≤ 1000000) ∧ (0 ≤ p.Again ∧ p.Again ≤ 1000000)) ∧
 ((0 ≤ p.Now.Tick - p.Base.Tick ∧ p.Now.Tick - p.Base.Tick ≤ p.Ahead) ∧ (p.Used.length : Int) = p.Now.Tick - p.Base.Tick ∧ (p.Saves.length : Int) = p.Now.Tick - p.Base.Tick) ∧
 ((p.Used.all fun row => rowOk row p.Tracks.length) = true ∧ ∀ k (h : k < p.Saves.length),p.Saves[k].Tick = p.Base.Tick + k) ∧
 p.Base.Tick ≤ knownTicks p.Tracks ∧ p.Now.Tick ≤ lenAt p.Tracks p.Me.toNat ∧ (p.Sums.length : Int) = p.Base.Tick + 1
noncomputable def peerOk (p : TPeer) : Bool := @decide (PeerP p) (Classical.propDecidable _)
theorem peer_T {p : TPeer} (h : PeerP p) : peerOk p = true := @decide_eq_true _ (Classical.propDecidable _) h
theorem peer_F {p : TPeer} (h : ¬ PeerP p) : peerOk p = false := @decide_eq_false _ (Classical.propDecidable _) h
theorem peer_spec {p : TPeer} (h : peerOk p = true) : PeerP p := @of_decide_eq_true _ (Classical.propDecidable _) h
end
section
open Go.RowKit

theorem slEqS (xs ys : List ByteArray) (hn : Enc.gd xs) : Con Tryz.prog 80 [] [al xs,al ys] [] (B (decide (xs = ys))) := by
 have hn1 := hn.1
 have hlx := Ym xs
 have hly := Ym ys
 by_cases hl : xs.length = ys.length
 ·have hb : decide (((els xs).length : Int) ≠ ((els ys).length : Int)) = false := by rw [hlx,hly,hl]; simp
  refine Con.of Tryz.func80 J Tryz.ntmps80 J (fun E => ?_)
  refine Wz [11,28,12,0,12,69,35,28,12,78,13] ?_;refine Xi (fun m st => ∃ k : Nat,k + m = xs.length ∧ (xs.take k = ys.take k) ∧ st = (⟨_,[(0,L xs),(1,L ys),(12,I (els xs).length),(13,I k)],[]⟩ : St)) (xs.length) ⟨_,⟨0,by omega,by simp,J⟩,X7 [] (by kernel_rfl)⟩ ?_
  rintro m_A _ ⟨k,hk_A,hp_A,rfl⟩
  refine Wz [4,48,21] ?_
  refine Xb J (fun h => ?_) (fun h => ?_)
  ·have h3 : k < xs.length := by have := of_decide_eq_true h; omega
   have h4 : k < ys.length := by omega
   have hat := Yl h3
   have hat2 := Yl h4
   by_cases he : xs[k] = ys[k]
   ·have hk : decide (xs[k] ≠ ys[k]) = false := by simp [he]
    refine Wz [52,22] ?_;refine Xh u8_18 u8_19 u8_20 J ?_;refine Wz [3,3,101,102,3,3,101,102] ?_;refine DR.s (q_sneqK J J J J (by assumption)) J J ?_;refine Wz [31,45,38] ?_
    exact ⟨xs.length - (k + 1),by omega,_,⟨k + 1,by omega,eq_next h3 h4 hp_A he,J⟩,X7 [] (by kernel_rfl)⟩
   ·have hk : decide (xs[k] ≠ ys[k]) = true := by simp [he]
    refine Wz [52,22] ?_;refine Xh u8_18 u8_19 u8_20 J ?_;refine Wz [3,3,101,102,3,3,101,102] ?_;refine DR.s (q_sneqK J J J J (by assumption)) J J ?_;refine Wz [31,9,62,63,25] ?_
    exact Xn J J (X6 [] (by decide) J J (Xj (eq_ne h3 h4 he).symm))
  ·have h3 : ¬ ((k : Int) < (els xs).length) := of_decide_eq_false h
   refine Wz [32,11,67] ?_
   exact Xn J J (X6 [] (by decide) J J (Xj (eq_all (by omega) hl hp_A).symm))
 ·have hb : decide (((els xs).length : Int) ≠ ((els ys).length : Int)) = true := by rw [hlx,hly]; simp; omega
  refine Con.of Tryz.func80 J Tryz.ntmps80 J (fun E => ?_)
  refine Wz [11,28,12,0,12,69,9,55] ?_
  exact Xn J J (X6 [] (by decide) J J (Xj (eq_len hl).symm))
theorem slEqI (xs ys : List Int) (hn : Enc.gd xs) : Con Tryz.prog 135 [] [al xs,al ys] [] (B (decide (xs = ys))) := by
 have hn1 := hn.1
 have hlx := Ym xs
 have hly := Ym ys
 by_cases hl : xs.length = ys.length
 ·have hb : decide (((els xs).length : Int) ≠ ((els ys).length : Int)) = false := by rw [hlx,hly,hl]; simp
  refine Con.of Tryz.func135 J Tryz.ntmps135 J (fun E => ?_)
  refine Wz [11,28,12,0,12,69,35,28,12,78,13] ?_;refine Xi (fun m st => ∃ k : Nat,k + m = xs.length ∧ (xs.take k = ys.take k) ∧ st = (⟨_,[(0,L xs),(1,L ys),(12,I (els xs).length),(13,I k)],[]⟩ : St)) (xs.length) ⟨_,⟨0,by omega,by simp,J⟩,X7 [] (by kernel_rfl)⟩ ?_
  rintro m_A _ ⟨k,hk_A,hp_A,rfl⟩
  refine Wz [4,48,21] ?_
  refine Xb J (fun h => ?_) (fun h => ?_)
  ·have h3 : k < xs.length := by have := of_decide_eq_true h; omega
   have h4 : k < ys.length := by omega
   have hat := Yl h3
   have hat2 := Yl h4
   by_cases he : xs[k] = ys[k]
   ·have hk : decide (xs[k] ≠ ys[k]) = false := by simp [he]
    refine Wz [52,22] ?_;refine Xh u8_18 u8_19 u8_20 J ?_;refine Wz [3,3,101,102,3,3,101,102,138,31,45,38] ?_
    exact ⟨xs.length - (k + 1),by omega,_,⟨k + 1,by omega,eq_next h3 h4 hp_A he,J⟩,X7 [] (by kernel_rfl)⟩
   ·have hk : decide (xs[k] ≠ ys[k]) = true := by simp [he]
    refine Wz [52,22] ?_;refine Xh u8_18 u8_19 u8_20 J ?_;refine Wz [3,3,101,102,3,3,101,102,138,31,9,62,63,25] ?_
    exact Xn J J (X6 [] (by decide) J J (Xj (eq_ne h3 h4 he).symm))
  ·have h3 : ¬ ((k : Int) < (els xs).length) := of_decide_eq_false h
   refine Wz [32,11,67] ?_
   exact Xn J J (X6 [] (by decide) J J (Xj (eq_all (by omega) hl hp_A).symm))
 ·have hb : decide (((els xs).length : Int) ≠ ((els ys).length : Int)) = true := by rw [hlx,hly]; simp; omega
  refine Con.of Tryz.func135 J Tryz.ntmps135 J (fun E => ?_)
  refine Wz [11,28,12,0,12,69,9,55] ?_
  exact Xn J J (X6 [] (by decide) J J (Xj (eq_len hl).symm))
theorem I_sameLevel (x y : TLevel) (hg : Enc.gd x) : Con Tryz.prog 78 [] [ag x,ag y] [] (B (decide (x = y))) := by
 have h : decide (x.Rows = y.Rows) = decide (x = y) := by cases x; cases y; simp
 refine Con.of Tryz.func78 J Tryz.ntmps78 J (fun E => ?_)
 refine Wz [26,79,2,5,17] ?_;refine zx (Qj J J (slEqS x.Rows y.Rows hg) J) J ?_;refine Wz [34] ?_
 exact Xn J J (X6 [] (by decide) J J (Xj h))
end
section
open Go.RowKit
end
section
open Go.RowKit

theorem I_TrackOk (t : TTrack) (g : Enc.gd t) : Con Tryz.prog 193 [] [ag t] [] (B (trackOk t)) := by
 have hl := Ym t.Inputs
 refine Con.of Tryz.func193 J Tryz.ntmps193 J (fun E => ?_)
 refine Wz [26,2,5,12] ?_;refine zx (q_leq J J J J) J ?_;refine Wz [0,98,99] ?_;refine zx (Qt.grdT J J J (.hit (.hit .stop)) (fun hgrd => Qj J J (I_inputsOk t.Inputs g) J)) J ?_;refine Wz [76,34] ?_
 exact Xn J J (X6 [] (by decide) J J (Xj (by rw [hl]; rfl)))
theorem Xu (xs : List TTrack) (g : Enc.gd xs) : Con Tryz.prog 121 [] [al xs] [] (B (tracksOk xs)) := by
 have hl := Ym xs
 refine Con.of Tryz.func121 J Tryz.ntmps121 J (fun E => ?_)
 refine Wz [11,28,12,48,0,91] ?_;refine zx (Qt.grdF J J J (.hit .stop) (fun hgrd => Zr J J J)) J ?_;refine zx (Qt.grdF J J J (.hit (.hit .stop)) (fun hgrd => q_gtr J J J J)) J ?_;refine Wz [43,1] ?_
 refine Xb J (fun h => ?_) (fun h => ?_)
 ·simp only [Bool.or_eq_true,decide_eq_true_eq] at h
  rw [tracks_no (by omega)]
  refine Wz [55] ?_
  exact Xn J J (X6 [] (by decide) J J J)
 simp only [Bool.or_eq_false_iff,decide_eq_false_iff_not] at h
 refine Wz [68,28,12,78,13] ?_;refine Xi (fun m st => ∃ k : Nat,k + m = xs.length ∧ ((xs.take k).all trackOk = true) ∧ st = (⟨_,[(13,L xs),(14,I (els xs).length),(15,I k)],[]⟩ : St)) (xs.length) ⟨_,⟨0,by omega,by simp,J⟩,X7 [] (by kernel_rfl)⟩ ?_
 rintro m_A _ ⟨k,hk_A,hp_A,rfl⟩
 refine Wz [4,48,21] ?_
 refine Xb J (fun h => ?_) (fun h => ?_)
 ·have h3 : k < xs.length := by have := of_decide_eq_true h; omega
  have hat := Yl h3
  have hc := I_TrackOk xs[k] (g.2 _ (List.getElem_mem h3))
  cases ho : trackOk xs[k] with
  | false =>
   rw [ho] at hc
   rw [tracks_bad (all_no h3 ho)]
   refine Wz [29,4,77,107,18,37,15] ?_;refine zx (Qj J J (hc) J) J ?_;refine Wz [14,9,62,63,25] ?_
   exact Xn J J (X6 [] (by decide) J J J)
  | true =>
   rw [ho] at hc
   refine Wz [29,4,77,107,18,37,15] ?_;refine zx (Qj J J (hc) J) J ?_;refine Wz [14,45,38] ?_
   exact ⟨xs.length - (k + 1),by omega,_,⟨k + 1,by omega,all_next hp_A h3 ho,J⟩,X7 [] (by kernel_rfl)⟩
 ·have h3 : ¬ ((k : Int) < (els xs).length) := of_decide_eq_false h
  rw [tracks_yes (by omega) (by omega) (all_end hp_A (by omega))]
  refine Wz [32,11,67] ?_
  exact Xn J J (X6 [] (by decide) J J J)
theorem least_next {l : List TTrack} {k : Nat} (h : k < l.length) : ((leastK l (k + 1) : Nat) : Int) = min ((leastK l k : Nat) : Int) ((els l[k].Inputs).length : Int) := by
 rw [leastK,lenAt_is h,Ym]
 omega
theorem Xq (xs : List TTrack) (g : Enc.gd xs) : Con Tryz.prog 51 [] [al xs] [] (I (knownTicks xs : Nat)) := by
 have hl := Ym xs
 have hc := Xu xs g
 cases ho : tracksOk xs with
 | false =>
  rw [ho] at hc
  rw [show knownTicks xs = 0 from if_neg (by rw [ho]; decide)]
  refine Con.of Tryz.func51 J Tryz.ntmps51 J (fun E => ?_)
  refine Wz [11,28] ?_;refine zx (Qj J J (hc) J) J ?_;refine Wz [14,9,55] ?_
  exact Xn J J (X6 [] (by decide) J J J)
 | true =>
  rw [ho] at hc
  rw [show knownTicks xs = leastK xs xs.length from if_pos ho]
  obtain ⟨h1,h4⟩ := Kf ho
  have h0 : 0 < xs.length := by omega
  have hat0 : (els xs)[(0 : Int).toNat]? = some (Enc.e xs[0]) := Yl h0
  refine Con.of Tryz.func51 J Tryz.ntmps51 J (fun E => ?_)
  refine Wz [11,28] ?_;refine zx (Qj J J (hc) J) J ?_;refine Wz [14,35,7,77] ?_;refine zx (q_fldr J J J J (by decide)) J ?_;refine Wz [117,12,56,12,78,13] ?_;refine Xi (fun m st => ∃ k : Nat,k + m = xs.length ∧ (True) ∧ st = (⟨_,[(3,I (leastK xs k : Nat)),(14,L xs),(15,I (els xs).length),(16,I k)],[]⟩ : St)) (xs.length) ⟨(fun k : Nat => (⟨_,[(3,I (leastK xs k : Nat)),(14,L xs),(15,I (els xs).length),(16,I k)],[]⟩ : St)) 0,⟨0,by omega,trivial,J⟩,X8 [] (by decide) J (by kernel_rfl) (.cons (Xy (by rw [least_0,lenAt_is h0,Ym])) (.c J (.c J (.c J (.nil)))))⟩ ?_
  rintro m_A _ ⟨k,hk_A,hp_A,rfl⟩
  refine Wz [4,48,21] ?_
  refine Xb J (fun h => ?_) (fun h => ?_)
  ·have h3 : k < xs.length := by have := of_decide_eq_true h; omega
   have hat := Yl h3
   refine Wz [29,4,77,107,18,37,49,17,12] ?_;refine zx (q_min J J J J) J ?_;refine Wz [51,38] ?_
   exact ⟨xs.length - (k + 1),by omega,(fun k : Nat => (⟨_,[(3,I (leastK xs k : Nat)),(14,L xs),(15,I (els xs).length),(16,I k)],[]⟩ : St)) (k + 1),⟨k + 1,by omega,trivial,J⟩,X8 [] (by decide) J (by kernel_rfl) (.cons (Xy (least_next h3).symm) (.c J (.c J (.c J (.nil)))))⟩
  ·have h3 : ¬ ((k : Int) < (els xs).length) := of_decide_eq_false h
   have hk : k = xs.length := by omega
   rw [hk]
   refine Wz [32,7,34] ?_
   exact Xn J J (X6 [] (by decide) J J J)
theorem I_FaultOk (f : TFault) (n : Int) (hn : 0 ≤ n) : Con Tryz.prog 122 [] [ag f,ai n] [] (B (faultOk f n)) := by
 refine Con.of Tryz.func122 J Tryz.ntmps122 J (fun E => ?_)
 refine Wz [26,2,5] ?_;refine zx (Qj J J (Xw f.Tick 0 400) J) J ?_;refine Wz [0,98,99] ?_;refine zx (Qt.grdT J J J (.hit (.hit .stop)) (fun hgrd => q_geq J J J J)) J ?_;refine Wz [76,0,98,99] ?_;refine zx (Qt.grdT J J J (.hit (.hit .stop)) (fun hgrd => Qa J J J)) J ?_;refine zx (Qt.grdT J J J (.hit (.hit (.hit .stop))) (fun hgrd => Zx J J J J)) J ?_;refine Wz [76,0,98,99] ?_;refine zx (Qt.grdT J J J (.hit (.hit .stop)) (fun hgrd => Qj J J (Xw f.Add 0 9) J)) J ?_;refine Wz [76,34] ?_
 exact Xn J J (X6 [] (by decide) J J J)
end
section
open Go.RowKit

theorem step_T {w : TWorld} {row : List Int} (h : worldOk w = true ∧ w.Tick ≠ 100000 ∧ rowOk row w.Scores.length = true) : stepW w row = tickM w row := by rw [stepW,if_pos h]
theorem step_F {w : TWorld} {row : List Int} (h : ¬ (worldOk w = true ∧ w.Tick ≠ 100000 ∧ rowOk row w.Scores.length = true)) : stepW w row = w := by rw [stepW,if_neg h]
theorem last_1 {l : TLevel} {tick seed : Int} {ss : List Int} {bs : List TBody} (h : tick % 16 ≠ 0 ∨ (spotsM l).length = 0 ∨ 24 ≤ bs.length) : lastM l tick seed ss bs = ⟨l,tick,seed,ss,bs⟩ := by rw [lastM,if_pos h]
theorem last_2 {l : TLevel} {tick seed : Int} {ss : List Int} {bs : List TBody} {x y : Int} (h : ¬ (tick % 16 ≠ 0 ∨ (spotsM l).length = 0 ∨ 24 ≤ bs.length)) (hs : spotOf l seed = [x,y]) (hi : itemAt bs x y = true) : lastM l tick seed ss bs = ⟨l,tick,nextR seed,ss,bs⟩ := by
 rw [lastM,if_neg h,hs]
 exact if_pos hi
theorem last_3 {l : TLevel} {tick seed : Int} {ss : List Int} {bs : List TBody} {x y : Int} (h : ¬ (tick % 16 ≠ 0 ∨ (spotsM l).length = 0 ∨ 24 ≤ bs.length)) (hs : spotOf l seed = [x,y]) (hi : itemAt bs x y = false) : lastM l tick seed ss bs = ⟨l,tick,nextR seed,ss,bs ++ [itemB x y]⟩ := by
 rw [lastM,if_neg h,hs]
 exact if_neg (by show ¬ itemAt bs x y = true; rw [hi]; simp)
theorem at_hit {bs : List TBody} {x y : Int} {k : Nat} {b : TBody} (hb : bs[k]? = some b) (h : b.Kind = 2 ∧ b.X = x ∧ b.Y = y) : itemAt bs x y = true := by
 rw [itemAt,List.any_eq_true]
 exact ⟨b,List.mem_of_getElem? hb,decide_eq_true h⟩
theorem at_go {bs : List TBody} {x y : Int} {k : Nat} {b : TBody} (hb : bs[k]? = some b) (h : ¬ (b.Kind = 2 ∧ b.X = x ∧ b.Y = y)) (hi : itemAt (bs.take k) x y = false) : itemAt (bs.take (k + 1)) x y = false := by
 obtain ⟨hk,rfl⟩ := List.getElem?_eq_some_iff.1 hb
 rw [List.take_succ_eq_append_getElem hk,itemAt,List.any_append,← itemAt,hi]
 simp only [List.any_cons,List.any_nil,Bool.or_false,Bool.false_or]
 exact decide_eq_false h
theorem rwS2 {a b : Ob} {t : List Ob} {k : Nat} {x y : List (List T)} (h : x = y) : a :: b :: Ob.row k x :: t = a :: b :: Ob.row k y :: t := by rw [h]
theorem I_StepWorld (w : TWorld) (row : List Int) (hg : Enc.gd w) (gr : Enc.gd row) (h1 : w.Level.Rows.length ≤ 1048576) (h2 : w.Scores.length ≤ 1048576) (h3 : w.Bodies.length ≤ 1048576) : Con Tryz.prog 134 [] [ag w,al row] [.row 1 (els w.Level.Rows),.row 1 (els (stepW w row).Scores),.row 9 (els (stepW w row).Bodies)] (.o (.ag [.ref 0,jn (stepW w row).Tick,jn (stepW w row).Seed,.ref 1,.ref 2])) := by
 have hls := Ym w.Scores
 have hlb := Ym w.Bodies
 have c1 := Xx w hg h1 h2 h3
 have c2 := Xv w hg
 have c3 := I_rowOk row ((els w.Scores).length : Int) gr
 rw [show rowOk row ((els w.Scores).length : Int) = rowOk row (w.Scores.length : Int) by rw [hls]] at c3
 cases ho : worldOk w with
 | false =>
  rw [step_F (fun q => by rw [ho] at q; cases q.1)]
  rw [ho] at c2
  refine Con.of Tryz.func134 J Tryz.ntmps134 J (fun E => ?_)
  refine Wz [26,18,1,15] ?_;refine M1 (Zk J J (c1) J J J) J J ?_;refine Wz [18,40,21,15] ?_;refine zx (Qj J J (c2) J) J ?_;refine Wz [14,44,84,24,44,53,53,24,9,15,37,75,25] ?_
  exact Xl J J J J (X6 [2,3,4] (by decide) J J J)
 | true =>
 rw [ho] at c2
 by_cases ht : w.Tick = 100000
 ·have f1 : decide (w.Tick = 100000) = true := decide_eq_true ht
  rw [step_F (fun q => q.2.1 ht)]
  refine Con.of Tryz.func134 J Tryz.ntmps134 J (fun E => ?_)
  refine Wz [26,18,1,15] ?_;refine M1 (Zk J J (c1) J J J) J J ?_;refine Wz [18,40,21,15] ?_;refine zx (Qj J J (c2) J) J ?_;refine Wz [14,57,19,8,44,53,53,24,9,15,37,75,25] ?_
  exact Xl J J J J (X6 [2,3,4] (by decide) J J J)
 have f1 : decide (w.Tick = 100000) = false := decide_eq_false ht
 cases hr : rowOk row (w.Scores.length : Int) with
 | false =>
  rw [step_F (fun q => by rw [hr] at q; cases q.2.2)]
  rw [hr] at c3
  refine Con.of Tryz.func134 J Tryz.ntmps134 J (fun E => ?_)
  refine Wz [26,18,1,15] ?_;refine M1 (Zk J J (c1) J J J) J J ?_;refine Wz [18,40,21,15] ?_;refine zx (Qj J J (c2) J) J ?_;refine Wz [14,57,19,8,16,116,12,6] ?_;refine zx (Qj J J (c3) J) J ?_;refine Wz [6,14,8,9,15,37,75,25] ?_
  exact Xl J J J J (X6 [2,3,4] (by decide) J J J)
 | true =>
 rw [hr] at c3
 rw [step_T ⟨ho,ht,hr⟩]
 have hP := PH.of hg ho hr
 have hsr := Z8 ho
 have hM := hits_lm hP.mv rfl hsr
 have hSh := SI.shots hP.mv rfl hsr
 have hSI := (SI.start hP.mv rfl hsr).all ((movedM w row).drop w.Scores.length) ((movedM w row).drop w.Scores.length).length
 have hEq := hits_eq hP.mv rfl hsr
 obtain ⟨hl,htk,hsd,hn,_,hlen,hbo⟩ := Kh ho
 have htk := Y0.1 htk
 have hsd := Y0.1 hsd
 have d1 := I_stepPlayers w row hP
 have d2 := I_stepMoves ⟨w.Level,w.Tick,w.Seed,w.Scores,plM w.Level row w.Bodies w.Scores.length⟩ hg.1 hl hP.pl.lm hP.pl.tm
 have d3 := I_stepShots ⟨w.Level,w.Tick,w.Seed,w.Scores,movedM w row⟩ hg.1 hl hn hP.mv hsr
 have hsl := hSI.sl
 have hsc := hSI.sc
 simp only at d2 d3
 obtain ⟨s3,hs3⟩ : ∃ s3,s3 = (shS w.Scores.length ((movedM w row).drop w.Scores.length) (movedM w row,w.Scores) ((movedM w row).drop w.Scores.length).length).2 := ⟨_,rfl⟩
 obtain ⟨b3,hb3⟩ : ∃ b3,b3 = (shS w.Scores.length ((movedM w row).drop w.Scores.length) (movedM w row,w.Scores) ((movedM w row).drop w.Scores.length).length).1.take w.Scores.length ++ shL w.Scores.length ((movedM w row).drop w.Scores.length) (movedM w row,w.Scores) ((movedM w row).drop w.Scores.length).length := ⟨_,rfl⟩
 have hP2 : hitsP w.Scores.length (movedM w row) w.Scores = (b3.take w.Scores.length ++ itL w.Scores.length b3 (b3.drop w.Scores.length) (b3.drop w.Scores.length).length,itS w.Scores.length b3 (b3.drop w.Scores.length) s3 (b3.drop w.Scores.length).length) := by rw [hitsP,hs3,hb3]
 rw [← hs3] at d3 hsl hsc
 rw [← hb3] at d3 hSh
 have d4 := I_stepItems ⟨w.Level,w.Tick,w.Seed,s3,b3⟩ hg.1 hl (by simp only; omega) (by simp only; rw [hsl]; exact hSh) hsc
 simp only at d4
 rw [hsl] at d4
 obtain ⟨s4,hs4⟩ : ∃ s4,s4 = itS w.Scores.length b3 (b3.drop w.Scores.length) s3 (b3.drop w.Scores.length).length := ⟨_,rfl⟩
 obtain ⟨b4,hb4⟩ : ∃ b4,b4 = b3.take w.Scores.length ++ itL w.Scores.length b3 (b3.drop w.Scores.length) (b3.drop w.Scores.length).length := ⟨_,rfl⟩
 rw [← hs4,← hb4] at d4
 rw [← hs4,← hb4,hEq] at hP2
 rw [tickM,hP2]
 rw [hP2] at hM
 obtain ⟨hM1,hM2,hM3⟩ := hM
 simp only at hM1 hM2 hM3
 have e1 := I_NextRandom w.Seed ⟨by omega,by omega⟩
 have e2 := I_SpotsOf w.Level hg.1 hl
 have hlb4 := Ym b4
 have hbl := hM1.len
 have hlsp := Ym (spotsM w.Level)
 have hsl2 := spots_len hl
 have hnr := Y7 w.Seed
 clear hEq hP2 hSI hSh hb4 hs4 hb3 hs3 hbo hsl hsc
 refine Con.of Tryz.func134 J Tryz.ntmps134 J (fun E => ?_)
 refine Wz [26,18,1,15] ?_;refine M1 (Zk J J (c1) J J J) J J ?_;refine Wz [18,40,21,15] ?_;refine zx (Qj J J (c2) J) J ?_;refine Wz [14,57,19,8,16,116,12,6] ?_;refine zx (Qj J J (c3) J) J ?_;refine Wz [6,14,8,35,7] ?_;refine AL.weak (st' := (⟨_,[(1,L row),(4,.o (.c (.ptr 4 0))),(5,.o (.c (.ptr 0 0))),(32,L row)],[.box [.ref 1,jn w.Tick,jn w.Seed,.ref 2,.ref 3],.row 1 (els w.Level.Rows),.row 1 (els w.Scores),.row 9 (els w.Bodies),.box [nilV,jn 0,jn 0,nilV,nilV]]⟩ : St)) (X7 [5,2,3,4,1] (by kernel_rfl)) ?_
 clear c1 c2 c3 f1
 refine X4 (lo := [_,_,_,_]) (gs := [(0,.c (.ptr 0 0))]) (lo' := [_,_,_,_]) (new := []) [0,1,2,3] [(0,0,.ptr 0 0)] (d1) J J J J J J J J J J J J J J J J J ?_;refine Wz [1,4] ?_;refine AL.weak (st' := (⟨_,[(1,L row),(4,.o (.c (.ptr 4 0))),(5,.o (.c (.ptr 0 0)))],[.box [.ref 1,jn w.Tick,jn w.Seed,.ref 2,.ref 3],.row 1 (els w.Level.Rows),.row 1 (els w.Scores),.row 9 (els (plM w.Level row w.Bodies w.Scores.length)),.box [nilV,jn 0,jn 0,nilV,nilV]]⟩ : St)) (X7 [0,1,2,3,4] (by kernel_rfl)) ?_
 clear d1
 refine X4 (lo := [_,_,_,_]) (gs := [(0,.c (.ptr 0 0))]) (lo' := [_,_,_,_]) (new := []) [0,1,2,3] [(0,0,.ptr 0 0)] (d2) J J J J J J J J J J J J J J J J J ?_;refine Wz [1,4] ?_;refine AL.weak (st' := (⟨_,[(1,L row),(4,.o (.c (.ptr 4 0))),(5,.o (.c (.ptr 0 0)))],[.box [.ref 1,jn w.Tick,jn w.Seed,.ref 2,.ref 3],.row 1 (els w.Level.Rows),.row 1 (els w.Scores),.row 9 (els (movedM w row)),.box [nilV,jn 0,jn 0,nilV,nilV]]⟩ : St)) (X7 [0,1,2,3,4] (by kernel_rfl)) ?_
 clear d2
 refine X4 (lo := [_,_,_,_]) (gs := [(0,.c (.ptr 0 0))]) (lo' := [_,_,_,_]) (new := []) [0,1,2,3] [(0,0,.ptr 0 0)] (d3) J J J J J J J J J J J J J J J J J ?_;refine Wz [1,4] ?_;refine AL.weak (st' := (⟨_,[(1,L row),(4,.o (.c (.ptr 4 0))),(5,.o (.c (.ptr 0 0)))],[.box [.ref 1,jn w.Tick,jn w.Seed,.ref 2,.ref 3],.row 1 (els w.Level.Rows),.row 1 (els s3),.row 9 (els b3),.box [nilV,jn 0,jn 0,nilV,nilV]]⟩ : St)) (X7 [0,1,2,3,4] (by kernel_rfl)) ?_
 clear d3
 refine X4 (lo := [_,_,_,_]) (gs := [(0,.c (.ptr 0 0))]) (lo' := [_,_,_,_]) (new := []) [0,1,2,3] [(0,0,.ptr 0 0)] (d4) J J J J J J J J J J J J J J J J J ?_;refine Wz [1,5,71,41,1,5] ?_;refine AL.weak (st' := (⟨_,[(1,L row),(4,.o (.c (.ptr 4 0))),(5,.o (.c (.ptr 0 0))),(42,I w.Seed)],[.box [.ref 1,jn (w.Tick + 1),jn w.Seed,.ref 2,.ref 3],.row 1 (els w.Level.Rows),.row 1 (els s4),.row 9 (els b4),.box [nilV,jn 0,jn 0,nilV,nilV]]⟩ : St)) (X7 [0,1,2,3,4] (by kernel_rfl)) ?_
 clear d4
 refine zx (Qj J J (e1) J) J ?_;refine Wz [41,1,4,64,27] ?_;refine AL.weak (st' := (⟨_,[(1,L row),(4,.o (.c (.ptr 4 0))),(5,.o (.c (.ptr 0 0))),(46,.o (.ag [.ref 1]))],[.box [.ref 1,jn (w.Tick + 1),jn (nextR w.Seed),.ref 2,.ref 3],.row 1 (els w.Level.Rows),.row 1 (els s4),.row 9 (els b4),.box [nilV,jn 0,jn 0,nilV,nilV]]⟩ : St)) (X7 [0,1,2,3,4] (by kernel_rfl)) ?_
 clear e1
 obtain ⟨sd,hsd2⟩ : ∃ sd,sd = nextR w.Seed := ⟨_,rfl⟩
 rw [← hsd2] at hnr
 rw [← hsd2]
 by_cases q1 : (w.Tick + 1) % 16 ≠ 0
 ·have g1 : decide ((w.Tick + 1) % 16 ≠ 0) = true := decide_eq_true q1
  rw [last_1 (.inl q1)]
  refine M1 (Zk J J (e2) J J J) J J ?_;refine Wz [22,5,122,69,44,84,24,44,53,24,9,15,37,75,25] ?_
  exact Xl J J J J (X6 [1,2,3] (by decide) J J J)
 have g1 : decide ((w.Tick + 1) % 16 ≠ 0) = false := decide_eq_false q1
 by_cases q2 : (spotsM w.Level).length = 0
 ·have g2 : decide (((els (spotsM w.Level)).length : Int) = 0) = true := decide_eq_true (by omega)
  rw [last_1 (.inr (.inl q2))]
  refine M1 (Zk J J (e2) J J J) J J ?_;refine Wz [22,5,122,69,16,112,6,19,8,44,53,24,9,15,37,75,25] ?_
  exact Xl J J J J (X6 [1,2,3] (by decide) J J J)
 have g2 : decide (((els (spotsM w.Level)).length : Int) = 0) = false := decide_eq_false (by omega)
 by_cases q3 : 24 ≤ b4.length
 ·have g3 : decide (((els b4).length : Int) ≥ 24) = true := decide_eq_true (by omega)
  rw [last_1 (.inr (.inr q3))]
  refine M1 (Zk J J (e2) J J J) J J ?_;refine Wz [22,5,122,69,16,112,6,19,8,57,112,6,95,8,9,15,37,75,25] ?_
  exact Xl J J J J (X6 [1,2,3] (by decide) J J J)
 have g3 : decide (((els b4).length : Int) ≥ 24) = false := decide_eq_false (by omega)
 have q : ¬ ((w.Tick + 1) % 16 ≠ 0 ∨ (spotsM w.Level).length = 0 ∨ 24 ≤ b4.length) := fun h => h.elim q1 fun h => h.elim q2 q3
 obtain ⟨i,hi1,hi2,hi3⟩ := spotOf_mem (seed := sd) q2
 obtain ⟨x,y,hxy,hx,hy⟩ := spot_rng hl (List.mem_of_getElem? hi3)
 have e3 := I_RandomBelow sd ((els (spotsM w.Level)).length : Int) hnr ⟨by omega,by omega⟩
 rw [show belowR sd ((els (spotsM w.Level)).length : Int) = i by rw [hlsp]; exact hi1] at e3
 have hsp : (els (spotsM w.Level))[(i : Int).toNat]? = some (Enc.e [x,y]) := Yo (by rw [hi3,hxy])
 refine M1 (Zk J J (e2) J J J) J J ?_;refine Wz [22,5,122,69,16,112,6,19,8,57,112,6,95,8,35,5,0,112] ?_;refine M1 (Zk J J (e3) J J J) J J ?_;refine Wz [88,42,42,72,2,7,41,1,39,110,144] ?_;refine AL.weak (st' := (⟨_,[(4,.o (.c (.ptr 4 0))),(5,.o (.c (.ptr 0 0))),(6,.o (.c (.ref 5))),(8,I (i : Int)),(77,.o (.c (.rd [5] (.sl 1 (els [x,y])))))],[.box [.ref 1,jn (w.Tick + 1),jn (nextR sd),.ref 2,.ref 3],.row 1 (els w.Level.Rows),.row 1 (els s4),.row 9 (els b4),.box [nilV,jn 0,jn 0,nilV,nilV],.row 1 (els (spotsM w.Level))]⟩ : St)) (X7 [0,1,2,3,4,5] (by kernel_rfl)) ?_
 clear e2 e3 g1 g2 g3
 have hx0 : (els [x,y])[(0 : Int).toNat]? = some (Enc.e x) := rfl
 have hy0 : (els [x,y])[(1 : Int).toNat]? = some (Enc.e y) := rfl
 refine Wz [61,2,39,110,144,61,22,5,112,78,13] ?_;refine Xi (fun m st => ∃ k : Nat,k + m = b4.length ∧ (itemAt (b4.take k) x y = false) ∧ st = (⟨_,[(4,.o (.c (.ptr 4 0))),(5,.o (.c (.ptr 0 0))),(9,I x),(10,I y),(87,.o (.c (.ref 3))),(88,I (els b4).length),(89,I k)],[.box [.ref 1,jn (w.Tick + 1),jn (nextR sd),.ref 2,.ref 3],.row 1 (els w.Level.Rows),.row 1 (els s4),.row 9 (els b4),.box [nilV,jn 0,jn 0,nilV,nilV]]⟩ : St)) (b4.length) ⟨_,⟨0,by omega,J,J⟩,X7 [0,1,2,3,4] (by kernel_rfl)⟩ ?_
 rintro m_A _ ⟨k,hk_A,hp_A,rfl⟩
 by_cases hlt : k < b4.length
 ·have hb0 : decide ((k : Int) < (els b4).length) = true := decide_eq_true (by omega)
  obtain ⟨b,hb⟩ := Kb hlt
  refine Wz [4,10,21,46,29,4,110] ?_
  have he := Yo hb
  with_reducible refine Xe ?_
  refine zx (Q6 J J J J (by assumption) J J) J ?_
  with_reducible refine K_alloc ?_
  refine M1 (Qx J J J) J J ?_
  with_reducible refine Xd ?_
  refine Wz [37] ?_
  refine AWP.pre (st' := (⟨_,[(4,.o (.c (.ptr 4 0))),(5,.o (.c (.ptr 0 0))),(9,I x),(10,I y),(87,.o (.c (.ref 3))),(88,I (els b4).length),(89,I k),(12,.o (.c (.ptr 5 0)))],[.box [.ref 1,jn (w.Tick + 1),jn (nextR sd),.ref 2,.ref 3],.row 1 (els w.Level.Rows),.row 1 (els s4),.row 9 (els b4),.box [nilV,jn 0,jn 0,nilV,nilV],.box ((Enc.e b).map (V1.rd []))]⟩ : St)) ?_ (X7 [0,1,2,3,4,5] (by kernel_rfl))
  clear he
  by_cases k1 : b.Kind = 2
  case neg =>
   have p1 : decide (b.Kind = 2) = false := decide_eq_false k1
   refine Wz [5,19,44,53,8,44,53,8,45,38] ?_
   exact ⟨b4.length - (k + 1),by omega,_,⟨k + 1,by omega,at_go hb (fun h => k1 h.1) hp_A,J⟩,X7 [0,1,2,3,4] (by kernel_rfl)⟩
  have p1 : decide (b.Kind = 2) = true := decide_eq_true k1
  by_cases k2 : b.X = x
  case neg =>
   have p2 : decide (b.X = x) = false := decide_eq_false k2
   refine Wz [5,19,57,30,19,24,44,53,8,45,38] ?_
   exact ⟨b4.length - (k + 1),by omega,_,⟨k + 1,by omega,at_go hb (fun h => k2 h.2.1) hp_A,J⟩,X7 [0,1,2,3,4] (by kernel_rfl)⟩
  have p2 : decide (b.X = x) = true := decide_eq_true k2
  by_cases k3 : b.Y = y
  case neg =>
   have p3 : decide (b.Y = y) = false := decide_eq_false k3
   refine Wz [5,19,57,30,19,24,57,30,19,24,45,38] ?_
   exact ⟨b4.length - (k + 1),by omega,_,⟨k + 1,by omega,at_go hb (fun h => k3 h.2.2) hp_A,J⟩,X7 [0,1,2,3,4] (by kernel_rfl)⟩
  have p3 : decide (b.Y = y) = true := decide_eq_true k3
  rw [last_2 q hxy (at_hit hb ⟨k1,k2,k3⟩)]
  refine Wz [5,19,57,30,19,24,57,30,19,24,9,15,37,75,63,25] ?_
  exact Xl J J J J (X6 [1,2,3] (by decide) J J J)
 ·have hb0 : decide ((k : Int) < (els b4).length) = false := decide_eq_false (by omega)
  have hk : k = b4.length := by omega
  rw [hk,List.take_length] at hp_A
  rw [last_3 q hxy hp_A]
  refine Wz [4,10,21,47,32,5,0,0,108,54,111,41,1,15,37,67] ?_
  exact Xl J J J J (X6 [1,2,3] (by decide) J (by exact rwS2 (by rw [Yk]; rfl)) J)
end
section
open Go.RowKit
end
section
open Go.RowKit
end
end Go.Proofs.YtpmacgnmlmmojaaGreatDoor
