/-
  Parts of the proof (rules, data, and what functions of the program and of the reference return), among them: Texts with runs of zeros packed: what is read back; append(x, make([]byte, n)...): the compiler's append of n zeros.
  Conditions: those that each theorem names.
-/
import Derived.Test.YtpmacgnmlmmojaaGreatDoorDDDgRowk13
import Derived.Test.YtpmacgnmlmmojaaGreatDoorDDDgRowk16
import Derived.Test.YtpmacgnmlmmojaaGreatDoorDDDgRowk20
set_option linter.unusedSimpArgs false
set_option linter.unusedVariables false
set_option maxRecDepth 8000
set_option maxHeartbeats 8000000
namespace Go.Proofs.YtpmacgnmlmmojaaGreatDoor
section
open Go.RowKit

def faultS (f : TFault) (w : TWorld) : TWorld := ⟨w.Level,w.Tick,w.Seed,w.Scores.set f.Player.toNat (min (w.Scores.getD f.Player.toNat 0 + f.Add) 1000000),w.Bodies⟩
def faultD (f : TFault) (w v : TWorld) : Prop := faultOk f w.Scores.length = true ∧ v.Tick = f.Tick ∧ w.Tick < v.Tick
noncomputable instance (f : TFault) (w v : TWorld) : Decidable (faultD f w v) := Classical.propDecidable _
noncomputable def stepF (w : TWorld) (row : List Int) (f : TFault) : TWorld := if faultD f w (stepW w row) then faultS f (stepW w row) else stepW w row
theorem I_FaultyStep (w : TWorld) (row : List Int) (f : TFault) (hg : Enc.gd w) (gr : Enc.gd row) (gf : Enc.gd f) (h1 : w.Level.Rows.length ≤ 1048576) (h2 : w.Scores.length ≤ 1048576) (h3 : w.Bodies.length ≤ 1048576) (hl : (stepW w row).Scores.length = w.Scores.length) (hs : ∀ x ∈ (stepW w row).Scores,0 ≤ x ∧ x ≤ 1000000) (hlv : (stepW w row).Level = w.Level) : Con Tryz.prog 50 [] [ag w,al row,ag f] (wR (stepF w row f) []) (.o (.ag [.ref 0,jn (stepF w row f).Tick,jn (stepF w row f).Seed,.ref 1,.ref 2])) := by
 have cs := I_StepWorld w row hg gr h1 h2 h3
 have hls := Ym w.Scores
 have cf := I_FaultOk f (els w.Scores).length (by omega)
 rw [← hlv] at cs
 rw [show faultOk f ((els w.Scores).length : Int) = faultOk f w.Scores.length by rw [hls]] at cf
 obtain ⟨_,gt,_,_,_⟩ := hg
 obtain ⟨ft,fp,fa⟩ := gf
 unfold stepF
 obtain ⟨v,hv⟩ : ∃ v,stepW w row = v := ⟨_,rfl⟩
 rw [hv] at cs hl hs ⊢
 by_cases hd : faultD f w v
 case neg =>
  rw [if_neg hd]
  by_cases k1 : faultOk f w.Scores.length = true
  case neg =>
   have k1 : faultOk f w.Scores.length = false := by simpa using k1
   rw [k1] at cf
   refine Con.of Tryz.func50 J Tryz.ntmps50 J (fun E => ?_)
   refine Wz [26,79,18,1,15,0] ?_;refine M1 (Zk J J (cs) J J J) J J ?_;refine Wz [18,40,21,15,17,12] ?_;refine zx (Qj J J (cf) J) J ?_;refine Wz [14,44,53,84,24,44,53,84,24,9,15,37,75,25] ?_
   exact Xl J J J J (X6 [3,4,5] (by decide) J J J)
  rw [k1] at cf
  by_cases k2 : v.Tick = f.Tick
  case neg =>
   have k2' : decide (v.Tick ≠ f.Tick) = true := decide_eq_true k2
   refine Con.of Tryz.func50 J Tryz.ntmps50 J (fun E => ?_)
   refine Wz [26,79,18,1,15,0] ?_;refine M1 (Zk J J (cs) J J J) J J ?_;refine Wz [18,40,21,15,17,12] ?_;refine zx (Qj J J (cf) J) J ?_;refine Wz [14,57,116,69,8,44,53,84,24,9,15,37,75,25] ?_
   exact Xl J J J J (X6 [3,4,5] (by decide) J J J)
  have k2' : decide (v.Tick ≠ f.Tick) = false := decide_eq_false (fun h => h k2)
  have k3 : decide (v.Tick ≤ w.Tick) = true := decide_eq_true (by
   refine Int.not_lt.1 fun h => hd ⟨k1,k2,h⟩)
  refine Con.of Tryz.func50 J Tryz.ntmps50 J (fun E => ?_)
  refine Wz [26,79,18,1,15,0] ?_;refine M1 (Zk J J (cs) J J J) J J ?_;refine Wz [18,40,21,15,17,12] ?_;refine zx (Qj J J (cf) J) J ?_;refine Wz [14,57,116,69,8,57,116,130,8,9,15,37,75,25] ?_
  exact Xl J J J J (X6 [3,4,5] (by decide) J J J)
 rw [if_pos hd]
 obtain ⟨k1,k2,k3⟩ := hd
 have hfo := k1
 unfold faultOk at hfo
 simp only [Bool.and_eq_true,decide_eq_true_eq,Y0] at hfo
 obtain ⟨⟨⟨_,p0⟩,p1⟩,a1⟩ := hfo
 obtain ⟨q,hq⟩ : ∃ q : Nat,f.Player = q := ⟨f.Player.toNat,by omega⟩
 obtain ⟨s,hsq⟩ := Kb (xs := v.Scores) (i := q) (by omega)
 have he := Yo hsq
 have hlv2 := Ym v.Scores
 have hs0 := hs s (List.mem_of_getElem? hsq)
 have hS : (faultS f v).Scores = v.Scores.set q (min (s + f.Add) 1000000) := by
  unfold faultS
  rw [hq]
  simp only [Int.toNat_natCast,List.getD_eq_getElem?_getD,hsq,Option.getD_some]
 have hE : els (faultS f v).Scores = (els v.Scores).set (f.Player).toNat (splice (Enc.e s) 0 [.v (.int .i64 (min (s + f.Add) 1000000))]) := by
  rw [hS,els_set,hq]; rfl
 have hP : wR (faultS f v) [] = [.row 1 (els v.Level.Rows),.row 1 ((els v.Scores).set (f.Player).toNat (splice (Enc.e s) 0 [.v (.int .i64 (min (s + f.Add) 1000000))])),.row 9 (els v.Bodies)] := by rw [← hE]; rfl
 rw [hP]
 rw [k1] at cf
 have k2' : decide (v.Tick ≠ f.Tick) = false := decide_eq_false (fun h => h k2)
 have k3 : decide (v.Tick ≤ w.Tick) = false := decide_eq_false (by omega)
 refine Con.of Tryz.func50 J Tryz.ntmps50 J (fun E => ?_)
 refine Wz [26,79,18,1,15,0] ?_;refine M1 (Zk J J (cs) J J J) J J ?_;refine Wz [18,40,21,15,17,12] ?_;refine zx (Qj J J (cf) J) J ?_;refine Wz [14,57,116,69,8,57,116,130,8,60,70] ?_
 refine AWP.pre (st' := (⟨_,[(3,.o (.c (.ptr 0 0))),(5,.o (.c (.ptr 1 0))),(6,.o (.c (.ptr 2 0))),(7,.o (.c (.ptr 6 0)))],[.box (wD w),.box [jn f.Tick,jn f.Player,jn f.Add],.box [nv,jn 0,jn 0,nv,nv],.row 1 (els v.Level.Rows),.row 1 (els v.Scores),.row 9 (els v.Bodies),.box [.ref 3,jn v.Tick,jn v.Seed,.ref 4,.ref 5]]⟩ : St)) ?_ (X7 [0,1,2,3,4,5,6] (by kernel_rfl))
 rw [← hq] at he
 refine Xh [[],[0],[],[2],[],[4],[],[6],[4,5,6,7],[4,5,6,7,8],[],[10],[4,5,6,7,8,9,10,11],[4,5,6,7,8,9,10,11,12],(u9 14),(u9 15)] [[],[32],[],[34],[],[36],[],[38],[36,37,38,39],[36,37,38,39,40],[],[42],[36,37,38,39,40,41,42,43],[36,37,38,39,40,41,42,43,44],[32,33,34,35,36,37,38,39,40,41,42,43,44,45],[32,33,34,35,36,37,38,39,40,41,42,43,44,45,46]] [[34,35,36,37,38,39,40,41,42,43,44,45],[34,35,36,37,38,39,40,41,42,43,44,45],[32,33,36,37,38,39,40,41,42,43,44,45],[32,33,36,37,38,39,40,41,42,43,44,45],[32,33,34,35,38,39,42,43],[32,33,34,35,38,39,42,43],[32,33,34,35,36,37,42,43],[32,33,34,35,36,37,42,43],[32,33,34,35,42,43],[32,33,34,35,42,43],[32,33,34,35,36,37,38,39,40,41],[32,33,34,35,36,37,38,39,40,41],[32,33,34,35],[32,33,34,35],[],[]] J ?_;refine Wz [33,33,33,33,146] ?_;refine DR.s (Q7 J J J J (by assumption) J) J J ?_;refine Wz [33] ?_;refine DR.s (Qs J J J J (by omega)) J J (DR.s (q_min J J J J) J J ?_);refine Wz [146,31,139,1,15,37,67] ?_
 exact Xl J J J J (X6 [3,4,5] (by decide) J J J)
end
section
open Go.RowKit

theorem tail_bodyM {l : TLevel} {n : Nat} {b : TBody} (h : BM l n b) (ht : tailM b = true) : bodyM l n b = true := by
 obtain ⟨hk,ho,hp,hvx,hvy,hf⟩ := h
 simp only [bodyM,Bool.and_eq_true,Bool.not_eq_true',Y0]
 exact ⟨hk,⟨ho.1,by omega⟩,hp,hvx,hvy,ht⟩
theorem tail_of {l : TLevel} {n : Int} {b : TBody} (h : bodyM l n b = true) : tailM b = true := by
 simp only [bodyM,Bool.and_eq_true] at h
 exact h.2.2.2.2.2
theorem tail_pl {b : TBody} (h : b.Kind = 0) : tailM b = true ↔ (b.Aim = 1 ∨ b.Aim = -1) ∧ (0 ≤ b.Life ∧ b.Life ≤ 3) ∧ (b.Life = 0 → 1 ≤ b.Timer ∧ b.Timer ≤ 20) ∧ (b.Life ≠ 0 → 0 ≤ b.Timer ∧ b.Timer ≤ 12) := by
 unfold tailM
 rw [if_pos h,Bool.and_eq_true,Bool.and_eq_true,decide_eq_true_eq,Y0]
 constructor
 ·rintro ⟨⟨h1,h2⟩,h3⟩
  refine ⟨h1,h2,fun e => ?_,fun e => ?_⟩
  ·rw [if_pos e] at h3; exact Y0.1 h3
  ·rw [if_neg e] at h3; exact Y0.1 h3
 ·rintro ⟨h1,h2,h3,h4⟩
  refine ⟨⟨h1,h2⟩,?_⟩
  split
  ·exact Y0.2 (h3 (by assumption))
  ·exact Y0.2 (h4 (by assumption))
theorem tail_shot {b : TBody} (h : b.Kind = 1) : tailM b = true ↔ (b.Aim = 0 ∧ b.Life = 0) ∧ (1 ≤ b.Timer ∧ b.Timer ≤ 25) := by
 unfold tailM
 rw [if_neg (by omega),if_pos h,Bool.and_eq_true,decide_eq_true_eq,Y0]
structure TK (n : Nat) (bs : List TBody) : Prop where
 tl : ∀ b ∈ bs,tailM b = true
 ow : ∀ k,k < n → ∀ b,bs[k]? = some b → b.Owner = k
theorem TK.set {n k : Nat} {bs : List TBody} {b c : TBody} (h : TK n bs) (hb : bs[k]? = some b) (h1 : tailM c = true) (h2 : k < n → c.Owner = k) : TK n (bs.set k c) := by
 refine ⟨fun d hd => ?_,fun j hj d hd => ?_⟩
 ·rcases List.mem_or_eq_of_mem_set hd with h3 | h3
  ·exact h.tl d h3
  ·subst h3; exact h1
 ·rw [List.getElem?_set] at hd
  split at hd
  ·rename_i e
   subst e
   split at hd
   ·cases hd; exact h2 hj
   ·cases hd
  ·exact h.ow j hj d hd
theorem TK.app {n : Nat} {bs : List TBody} {c : TBody} (h : TK n bs) (hl : n ≤ bs.length) (h1 : tailM c = true) : TK n (bs ++ [c]) := by
 refine ⟨fun d hd => ?_,fun j hj d hd => ?_⟩
 ·rcases List.mem_append.1 hd with h3 | h3
  ·exact h.tl d h3
  ·rw [List.mem_singleton] at h3; subst h3; exact h1
 ·rw [List.getElem?_append_left (by omega)] at hd
  exact h.ow j hj d hd
theorem fresh_tail (l : TLevel) (k : Int) : tailM (fresh l k) = true := by
 rw [tail_pl (by rfl)]
 refine ⟨.inl J,⟨by simp [fresh],by simp [fresh]⟩,fun h => by simp [fresh] at h,fun _ => ⟨by simp [fresh],by simp [fresh]⟩⟩
theorem tick1_tail {b : TBody} (h : b.Kind = 0) (h2 : b.Life = 0) (h3 : ¬ b.Timer - 1 = 0) (ht : tailM b = true) : tailM (tick1 b) = true := by
 obtain ⟨ha,hl,h4,h5⟩ := (tail_pl h).1 ht
 have := h4 h2
 refine (tail_pl (b := tick1 b) h).2 ⟨ha,hl,fun _ => ?_,fun e => absurd h2 e⟩
 simp only [tick1]
 omega
theorem steer_tail {l : TLevel} {b : TBody} {i : Int} (h : b.Kind = 0) (h2 : ¬ b.Life = 0) (ht : tailM b = true) : tailM (steer l b i).1 = true := by
 obtain ⟨ha,hl,h4,h5⟩ := (tail_pl h).1 ht
 have h6 := h5 h2
 refine (tail_pl (b := (steer l b i).1) h).2 ⟨steer_aim ha,hl,fun e => absurd e h2,fun _ => ?_⟩
 simp only [steer]
 split
 ·omega
 ·split <;> omega
theorem shotOf_tail (b : TBody) : tailM (shotOf b) = true := (tail_shot (b := shotOf b) rfl).2 ⟨⟨rfl,rfl⟩,by simp [shotOf]⟩
theorem TK.one {l : TLevel} {n k : Nat} {bs : List TBody} {b : TBody} (h : TK n bs) (hn : n ≤ bs.length) (hb : bs[k]? = some b) (hk : b.Kind = 0) (hkn : k < n) (i : Int) : TK n (plOne l i k bs b) := by
 have ht := h.tl b (List.mem_of_getElem? hb)
 have ho := h.ow k hkn b hb
 unfold plOne
 split
 ·split
  ·exact h.set hb (fresh_tail l k) fun _ => rfl
  ·exact h.set hb (tick1_tail hk (by assumption) (by assumption) ht) fun _ => ho
 ·have h1 : TK n (bs.set k (steer l b i).1) := h.set hb (steer_tail hk (by assumption) ht) fun _ => ho
  split
  ·exact h1.app (by rw [List.length_set]; exact hn) (shotOf_tail _)
  ·exact h1
theorem TK.pl {l : TLevel} (hl : levelOk l = true) {n : Nat} (hn : n ≤ 4) {bs : List TBody} (h1 : n ≤ bs.length ∧ bs.length ≤ 24) (hb : bodiesOk l n bs) (h : TK n bs) (row : List Int) : ∀ k,k ≤ n → TK n (plM l row bs k)
 | 0,_ => h
 | k + 1,hk => by
  have ih := TK.pl hl hn h1 hb h row k (by omega)
  have hp := P1.all hl hn h1 hb row k (by omega)
  rw [plM]
  split
  ·exact ih
  ·rename_i b hs
   exact ih.one hp.lm.len.1 hs ((hp.lm.at_ k b hs).2.2 (by omega)) (by omega) _
theorem move_tail {l : TLevel} {b c : TBody} (h : mvOne l b = some c) (ht : tailM b = true) : tailM c = true ∧ c.Owner = b.Owner := by
 unfold mvOne at h
 split at h
 ·rename_i hk
  cases h
  refine ⟨?_,J⟩
  have := (tail_pl hk.1).1 ht
  exact (tail_pl (b := (moveM l b).1) hk.1).2 this
 ·split at h
  ·rename_i hk
   split at h
   ·cases h
   ·rename_i hm
    cases h
    have h2 := (tail_shot hk).1 ht
    refine ⟨(tail_shot (b := tick1 (moveM l b).1) hk).2 ⟨h2.1,?_⟩,J⟩
    have : ¬ b.Timer - 1 = 0 := fun e => hm (.inr e)
    simp only [tick1,moveM]
    omega
  ·cases h; exact ⟨ht,rfl⟩
theorem fmap_at {α β : Type} {f : α → Option β} : ∀ (xs : List α) (n : Nat),(∀ j x,j < n → xs[j]? = some x → ∃ y,f x = some y) → ∀ k y,k < n → (xs.filterMap f)[k]? = some y → k < xs.length → ∃ x,xs[k]? = some x ∧ f x = some y
 | [],_,_,k,y,_,hy,hx => by simp at hx
 | x :: xs,0,h,k,y,hk,_,_ => by omega
 | x :: xs,n + 1,h,k,y,hk,hy,hx => by
  obtain ⟨z,hz⟩ := h 0 x (by omega) rfl
  rw [List.filterMap_cons,hz] at hy
  cases k with
  | zero =>
   simp only [List.getElem?_cons_zero] at hy
   exact ⟨x,J,by rw [hz]; exact hy⟩
  | succ k =>
   simp only [List.getElem?_cons_succ] at hy
   simp only [List.length_cons] at hx
   obtain ⟨a,h1,h2⟩ := fmap_at xs n (fun j w hj hw => h (j + 1) w (by omega) (by simpa using hw)) k y (by omega) hy (by omega)
   exact ⟨a,by simpa using h1,h2⟩
theorem TK.mv {l : TLevel} {n : Nat} {bs : List TBody} (hL : LM l n bs) (h : TK n bs) : TK n (mvM l bs) := by
 have hlen := hL.len
 refine ⟨fun c hc => ?_,fun k hk c hc => ?_⟩
 ·obtain ⟨a,ha,hac⟩ := List.mem_filterMap.1 hc
  exact (move_tail hac (h.tl a ha)).1
 ·obtain ⟨a,ha,hac⟩ := fmap_at bs n (fun j x hj hx => mvOne_pl ((hL.at_ j x hx).2.2 hj)) k c hk hc (by omega)
  rw [(move_tail hac (h.tl a (List.mem_of_getElem? ha))).2]
  exact h.ow k hk a ha
theorem hit_tail {p : TBody} (hk : p.Kind = 0) (hl : 0 < p.Life) (h : tailM p = true) : tailM (hitB p) = true := by
 obtain ⟨ha,hf,h4,h5⟩ := (tail_pl hk).1 h
 have h6 := h5 (by omega)
 refine (tail_pl (b := hitB p) hk).2 ⟨ha,by simp only [hitB]; omega,fun e => ?_,fun e => ?_⟩
 ·simp only [hitB] at e ⊢
  rw [if_pos e]; omega
 ·simp only [hitB] at e ⊢
  rw [if_neg e]; exact h6
theorem TK.sh1 {l : TLevel} {n : Nat} {bs0 : List TBody} {s : List TBody × List Int} (hS : SI l n bs0 s) (h : TK n s.1) (b : TBody) : TK n (shOne n s b).1 := by
 unfold shOne
 split
 ·split
  ·exact h
  ·rename_i k hk
   obtain ⟨h1,h2⟩ := metF_lt hk
   obtain ⟨p,hp,hlf,_,_⟩ := metC_life h2
   rw [hp]
   exact h.set hp (hit_tail ((hS.lm.at_ k p hp).2.2 h1) hlf (h.tl p (List.mem_of_getElem? hp))) fun _ => h.ow k h1 p hp
 ·exact h
theorem TK.sh {l : TLevel} {n : Nat} {bs0 : List TBody} {s : List TBody × List Int} (hS : SI l n bs0 s) (h : TK n s.1) (t : List TBody) : ∀ j,TK n (shS n t s j).1
 | 0 => h
 | j + 1 => by
  rw [shS]
  split
  ·exact TK.sh hS h t j
  ·exact TK.sh1 (hS.all t j) (TK.sh hS h t j) _
theorem TK.hits {l : TLevel} {n : Nat} {bs : List TBody} {ss : List Int} (hL : LM l n bs) (h1 : ss.length = n) (h2 : ∀ x ∈ ss,0 ≤ x ∧ x ≤ 1000000) (h : TK n bs) : TK n (hitsR n bs ss).1 := by
 have hS := (SI.start hL h1 h2).all (bs.drop n) (bs.drop n).length
 have hT : TK n (shS n (bs.drop n) (bs,ss) (bs.drop n).length).1 := TK.sh (SI.start hL h1 h2) h _ _
 have hlen := hS.lm.len
 refine ⟨fun c hc => ?_,fun k hk c hc => ?_⟩
 ·rcases List.mem_append.1 hc with h3 | h3
  ·exact hT.tl c (List.mem_of_mem_take h3)
  ·exact h.tl c (List.mem_of_mem_drop (keepR_sub _ c h3))
 ·simp only [hitsR] at hc
  rw [List.getElem?_append_left (by rw [List.length_take]; omega),List.getElem?_take_of_lt hk] at hc
  exact hT.ow k hk c hc
theorem spot_free {l : TLevel} {x y : Int} (h : [x,y] ∈ spotsM l) : solidM l x y 8 = false := by
 obtain ⟨r,c,row,h1,h2,h3,h4,h5⟩ := rowSp_at h
 simp only [List.cons.injEq,and_true] at h5
 obtain ⟨rfl,rfl⟩ := h5
 obtain ⟨h6,h7⟩ := List.getElem?_eq_some_iff.1 h2
 refine solidM_F fun ⟨r',c',e1,e2,e3,e4,hw⟩ => ?_
 have er : r' = r := by omega
 have ec : c' = c := by omega
 subst er; subst ec
 exact no_wall h6 (by rw [h7]; exact h3) (by rw [h7,h4]; decide) hw
theorem item_bm {l : TLevel} {n : Nat} (hn : 1 ≤ n) {x y : Int} (h : [x,y] ∈ spotsM l) : BM l n (itemB x y) :=
 ⟨by simp [itemB],by simp only [itemB]; omega,spot_free h,by simp [itemB],by simp [itemB],by simp [itemB]⟩
theorem worldOk_mk {l : TLevel} {n : Nat} {bs : List TBody} {ss : List Int} {t s : Int} (hl : levelOk l = true) (ht : 0 ≤ t ∧ t ≤ 100000) (hs : 0 ≤ s ∧ s ≤ 65535) (hn : 1 ≤ n ∧ n ≤ 4) (h1 : ss.length = n) (h2 : ∀ x ∈ ss,0 ≤ x ∧ x ≤ 1000000) (hL : LM l n bs) (hT : TK n bs) : worldOk ⟨l,t,s,ss,bs⟩ = true := by
 subst h1
 refine worldOk_T ⟨hl,Y0.2 ht,Y0.2 hs,hn,List.all_eq_true.2 fun x hx => Y0.2 (h2 x hx),hL.len,fun k hk => ?_⟩
 have hb : bs[k]? = some bs[k] := List.getElem?_eq_getElem hk
 have h3 := hL.at_ k _ hb
 unfold bodyAt
 rw [Bool.and_eq_true]
 refine ⟨tail_bodyM h3.1 (hT.tl _ (List.getElem_mem hk)),?_⟩
 simp only
 split
 ·rename_i hkn
  exact decide_eq_true ⟨h3.2.2 hkn,hT.ow k hkn _ hb⟩
 ·rename_i hkn
  exact decide_eq_true fun e => hkn (h3.2.1 e)
theorem TK.start {l : TLevel} {n : Nat} {bs : List TBody} (h : bodiesOk l n bs) : TK n bs := by
 refine ⟨fun b hb => ?_,fun k hk b hb => ?_⟩
 ·obtain ⟨j,hj,rfl⟩ := List.mem_iff_getElem.1 hb
  have := h j hj
  unfold bodyAt at this
  rw [Bool.and_eq_true] at this
  exact tail_of this.1
 ·exact (old_at h hb hk).ow
theorem tick_ok {w : TWorld} {row : List Int} (hg : Enc.gd w) (ho : worldOk w = true) (ht : w.Tick ≠ 100000) (hr : rowOk row w.Scores.length = true) : worldOk (tickM w row) = true := by
 have hP := PH.of hg ho hr
 obtain ⟨hl,htk,hs,hn,hsc,hlen,hbo⟩ := Kh ho
 have htk := Y0.1 htk
 have hM := hits_lm hP.mv rfl (Z8 ho)
 have hT : TK w.Scores.length (hitsR w.Scores.length (movedM w row) w.Scores).1 := TK.hits hP.mv rfl (Z8 ho) (TK.mv hP.pl.lm (TK.pl hl hn.2 hlen hbo (TK.start hbo) row _ (Nat.le_refl _)))
 have hnx := Y7 w.Seed
 have hn2 := Y7 (nextR w.Seed)
 unfold tickM lastM
 split
 ·exact worldOk_mk hl ⟨by omega,by omega⟩ hnx hn hM.2.1 hM.2.2 hM.1 hT
 ·rename_i hc
  split
  ·exact worldOk_mk hl ⟨by omega,by omega⟩ hn2 hn hM.2.1 hM.2.2 hM.1 hT
  ·obtain ⟨i,_,_,hi⟩ := spotOf_mem (l := w.Level) (seed := nextR w.Seed) (fun e => hc (.inr (.inl e)))
   have hmem := List.mem_of_getElem? hi
   obtain ⟨x,y,he,_,_⟩ := spot_rng hl hmem
   have hb : (hitsR w.Scores.length (movedM w row) w.Scores).1.length < 24 := by
    rcases Nat.lt_or_ge (hitsR w.Scores.length (movedM w row) w.Scores).1.length 24 with h | h
    ·exact h
    ·exact absurd (.inr (.inr h)) hc
   rw [he] at hmem ⊢
   exact worldOk_mk hl ⟨by omega,by omega⟩ hn2 hn hM.2.1 hM.2.2 (hM.1.app hb (item_bm hn.1 hmem) (by simp [itemB])) (hT.app hM.1.len.1 J)
theorem stepW_ok {w : TWorld} {row : List Int} (hg : Enc.gd w) (ho : worldOk w = true) : worldOk (stepW w row) = true := by
 unfold stepW
 split
 ·rename_i h
  exact tick_ok hg h.1 h.2.1 h.2.2
 ·exact ho
end
section
open Go.RowKit

structure RepIn (y : TReplay) : Prop where
 gd : Enc.gd y
 h1 : y.Level.Rows.length ≤ 1048576
 h2 : y.Keys.length ≤ 1048576
 h3 : y.Rows.length ≤ 1048576
 h4 : tot y.Rows ≤ 1048576
structure WorIn (w : TWorld) : Prop where
 gd : Enc.gd w
 h1 : w.Level.Rows.length ≤ 1048576
 h2 : w.Scores.length ≤ 1048576
 h3 : w.Bodies.length ≤ 1048576
end
section
open Go.RowKit

noncomputable def runM (w : TWorld) (rows : List (List Int)) : TWorld := rows.foldl stepW w
theorem step_in {w : TWorld} {row : List Int} (h : WorIn w) : WorIn (stepW w row) := by
 have h1 := stepW_fits (row := row) h.gd
 exact ⟨h1.1,by rw [stepW_level]; exact h.h1,by rw [h1.2.1]; exact h.h2,by have := h.h3; omega⟩
theorem ran_in : ∀ (rows : List (List Int)) {w : TWorld},WorIn w → WorIn (runM w rows)
 | [],_,h => h
 | r :: rs,w,h => ran_in rs (w := stepW w r) (step_in h)
end
section
open Go.RowKit

/-! ### Worlds -/
theorem ints_rng {w : TWorld} (ho : worldOk w = true) : ∀ x ∈ worldInts w,0 ≤ signless x := by
 obtain ⟨hl,ht,hs,hn,hsc,hb,hbo⟩ := Kh ho
 have ht := Y0.1 ht
 have hs := Y0.1 hs
 intro x hx
 have hb : -549755813888 ≤ x ∧ x ≤ 549755813887 := by
  simp only [worldInts,List.mem_append,List.mem_cons,List.not_mem_nil,or_false,List.mem_flatMap] at hx
  rcases hx with (h | h) | ⟨b,hb,h⟩
  ·omega
  ·have := Z8 ho x h; omega
  ·obtain ⟨k,hk,rfl⟩ := List.mem_iff_getElem.1 hb
   have h1 := hbo k hk
   unfold bodyAt at h1
   rw [Bool.and_eq_true] at h1
   have h2 := h1.1
   simp only [bodyM,Bool.and_eq_true,Bool.not_eq_true',Y0] at h2
   obtain ⟨hk1,ho1,hp,hvx,hvy,htl⟩ := h2
   have hpl := Zc hl (size_in (Y0.2 hk1)) hp
   have htt : (-2 ≤ w.Bodies[k].Aim ∧ w.Bodies[k].Aim ≤ 2) ∧ (0 ≤ w.Bodies[k].Life ∧ w.Bodies[k].Life ≤ 3) ∧ (0 ≤ w.Bodies[k].Timer ∧ w.Bodies[k].Timer ≤ 25) := by
    unfold tailM at htl
    split at htl
    ·simp only [Bool.and_eq_true,decide_eq_true_eq,Y0] at htl
     obtain ⟨⟨h4,h5⟩,h6⟩ := htl
     split at h6
     ·have := Y0.1 h6; omega
     ·have := Y0.1 h6; omega
    ·split at htl
     ·simp only [Bool.and_eq_true,decide_eq_true_eq,Y0] at htl; omega
     ·simp only [decide_eq_true_eq] at htl; omega
   simp only [bodyInts,List.mem_cons,List.not_mem_nil,or_false] at h
   omega
 unfold signless
 rw [if_pos hb]
 split <;> omega
/-! ### Runs -/
theorem runM_app (w : TWorld) (a b : List (List Int)) : runM w (a ++ b) = runM (runM w a) b := by rw [runM,runM,runM,List.foldl_append]
theorem runM_cons (w : TWorld) (r : List Int) (rows : List (List Int)) : runM w (r :: rows) = runM (stepW w r) rows := rfl
theorem tick_tick (w : TWorld) (row : List Int) : (tickM w row).Tick = w.Tick + 1 := by
 unfold tickM lastM
 split
 ·rfl
 ·split <;> rfl
theorem stepW_good {w : TWorld} {row : List Int} (ho : worldOk w = true) (ht : w.Tick < 100000) (hr : rowOk row w.Scores.length = true) : (stepW w row).Tick = w.Tick + 1 := by
 rw [stepW,if_pos ⟨ho,by omega,hr⟩]
 exact tick_tick w row
theorem runM_good : ∀ (rows : List (List Int)) {w : TWorld},WorIn w → worldOk w = true → w.Tick + rows.length ≤ 100000 → (∀ r ∈ rows,rowOk r w.Scores.length = true) → worldOk (runM w rows) = true ∧ (runM w rows).Tick = w.Tick + rows.length ∧ (runM w rows).Level = w.Level ∧ (runM w rows).Scores.length = w.Scores.length
 | [],w,_,ho,_,_ => ⟨ho,by simp [runM],rfl,rfl⟩
 | r :: rows,w,iw,ho,ht,hr => by
  simp only [List.length_cons] at ht
  have h1 := stepW_good ho (by omega) (hr r (by simp))
  have h2 := stepW_fits (w := w) (row := r) iw.1
  have h3 := runM_good rows (w := stepW w r) (step_in iw) (stepW_ok iw.1 ho) (by omega) (fun x hx => by rw [h2.2.1]; exact hr x (by simp [hx]))
  rw [runM_cons]
  refine ⟨h3.1,by rw [h3.2.1,h1,List.length_cons]; omega,by rw [h3.2.2.1,stepW_level],by rw [h3.2.2.2,h2.2.1]⟩
/-! ### The lockstep worlds -/
section
variable {l : TLevel} {n : Nat} {seed : Int} {e : Nat} {rows : List (List Int)}
noncomputable def lockW (l : TLevel) (n : Nat) (seed : Int) (rows : List (List Int)) (t : Nat) : TWorld := runM (newWorld l n seed) (rows.take t)
structure RD (l : TLevel) (n : Nat) (seed : Int) (e : Nat) (rows : List (List Int)) : Prop where
 hl : levelOk l = true
 gl : Enc.gd l
 ll : l.Rows.length ≤ 1048576
 hn : 1 ≤ n ∧ n ≤ 4
 hs : inR seed 0 65535 = true
 he : 1 ≤ e ∧ e ≤ 100
 hL : rows.length ≤ 400
 hr : ∀ r ∈ rows,rowOk r (n : Int) = true
theorem RD.new_in (h : RD l n seed e rows) : WorIn (newWorld l n seed) := by
 have h1 := newWorld_gd h.gl h.hl h.hn h.hs
 have hn := h.hn
 exact ⟨h1,h.ll,by simp only [newWorld,List.length_replicate]; omega,by simp only [newWorld,List.length_map,List.length_range]; omega⟩
theorem RD.new_len (h : RD l n seed e rows) : (newWorld l n seed).Scores.length = n := by simp [newWorld]
theorem RD.good (h : RD l n seed e rows) (t : Nat) : worldOk (lockW l n seed rows t) = true ∧ (lockW l n seed rows t).Tick = ((rows.take t).length : Int) ∧ (lockW l n seed rows t).Level = l ∧ (lockW l n seed rows t).Scores.length = n := by
 have hlen : (rows.take t).length ≤ rows.length := by rw [List.length_take]; omega
 have hL := h.hL
 have h0 : (newWorld l n seed).Tick = 0 := rfl
 have h1 := runM_good (rows.take t) h.new_in (newWorld_ok h.hl h.hn h.hs) (by rw [h0]; omega) (fun r hr => by rw [h.new_len]; exact h.hr r (List.mem_of_mem_take hr))
 exact ⟨h1.1,by rw [lockW,h1.2.1,h0]; omega,h1.2.2.1,by rw [lockW,h1.2.2.2,h.new_len]⟩
theorem RD.in_ (h : RD l n seed e rows) (t : Nat) : WorIn (lockW l n seed rows t) := ran_in _ h.new_in
theorem lockW_zero : lockW l n seed rows 0 = newWorld l n seed := rfl
end
end
section
open Go.RowKit

section
variable {n k j : Nat} {t bs : List TBody} {ss : List Int} {s : List TBody × List Int} {b : TBody} {c : Int}
theorem addM_le (h : ∀ x ∈ ss,x ≤ c) : ∀ x ∈ addM ss k,x ≤ c + 1 := fun x hx => by
 unfold addM at hx
 split at hx
 ·have := h x hx; omega
 ·rename_i s hs
  rcases List.mem_or_eq_of_mem_set hx with h1 | h1
  ·have := h x h1; omega
  ·have := h s (List.mem_of_getElem? hs); omega
theorem le_up (h : ∀ x ∈ ss,x ≤ c) : ∀ x ∈ ss,x ≤ c + 1 := fun x hx => by have := h x hx; omega
theorem shOne_le (h : ∀ x ∈ s.2,x ≤ c) : ∀ x ∈ (shOne n s b).2,x ≤ c + 1 := by
 unfold shOne
 split
 ·split
  ·exact le_up h
  ·split
   ·exact le_up h
   ·simp only
    split
    ·exact addM_le h
    ·exact le_up h
 ·exact le_up h
theorem itOne_le (h : ∀ x ∈ ss,x ≤ c) : ∀ x ∈ itOne n bs ss b,x ≤ c + 1 := by
 unfold itOne
 split
 ·split
  ·exact le_up h
  ·exact addM_le h
 ·exact le_up h
theorem shS_le (h : ∀ x ∈ s.2,x ≤ c) : ∀ j : Nat,∀ x ∈ (shS n t s j).2,x ≤ c + j
 | 0 => fun x hx => by have := h x hx; omega
 | j + 1 => by
  have ih := shS_le h j
  rw [shS]
  split
  ·intro x hx; have := ih x hx; omega
  ·intro x hx; have := shOne_le ih x hx; omega
theorem foldl_le : ∀ (l : List TBody) {ss : List Int} {c : Int},(∀ x ∈ ss,x ≤ c) → ∀ x ∈ l.foldl (itOne n bs) ss,x ≤ c + l.length
 | [],ss,c,h => fun x hx => by have := h x hx; simp; omega
 | b :: l,ss,c,h => fun x hx => by
  have := foldl_le l (itOne_le (n := n) (bs := bs) (b := b) h) x hx
  simp only [List.length_cons]
  omega
theorem hitsR_le (hl : bs.length ≤ 24) (h : ∀ x ∈ ss,x ≤ c) : ∀ x ∈ (hitsR n bs ss).2,x ≤ c + 48 := fun x hx => by
 have h1 := foldl_le (n := n) (bs := (shS n (bs.drop n) (bs,ss) (bs.drop n).length).1) ((bs.drop n).take (bs.drop n).length) (shS_le (n := n) (t := bs.drop n) (s := (bs,ss)) h (bs.drop n).length) x hx
 rw [List.take_length,List.length_drop] at h1
 omega
end
theorem stepW_le {w : TWorld} {row : List Int} {c : Int} (hg : Enc.gd w) (h : ∀ x ∈ w.Scores,x ≤ c) : ∀ x ∈ (stepW w row).Scores,x ≤ c + 48 := by
 unfold stepW
 split
 ·rename_i hh
  have hl := (PH.of hg hh.1 hh.2.2).mv.len.2
  have h1 := hitsR_le (n := w.Scores.length) hl h
  unfold tickM lastM
  split
  ·exact h1
  ·split <;> exact h1
 ·intro x hx; have := h x hx; omega
theorem runM_le : ∀ (rows : List (List Int)) {w : TWorld} {c : Int},Enc.gd w → (∀ x ∈ w.Scores,x ≤ c) → ∀ x ∈ (runM w rows).Scores,x ≤ c + 48 * rows.length
 | [],w,c,hg,h => fun x hx => by have := h x hx; simp; omega
 | r :: rows,w,c,hg,h => fun x hx => by
  have := runM_le rows (stepW_fits (row := r) hg).1 (stepW_le (row := r) hg h) x hx
  simp only [List.length_cons]
  omega
theorem RD.score {l : TLevel} {n : Nat} {seed : Int} {e : Nat} {rows : List (List Int)} (h : RD l n seed e rows) (t : Nat) : ∀ x ∈ (lockW l n seed rows t).Scores,x ≤ 19200 := fun x hx => by
 have hL := h.hL
 have := runM_le (rows.take t) h.new_in.1 (c := 0) (fun x hx => by
  have : x = 0 := List.eq_of_mem_replicate hx
  omega) x hx
 rw [List.length_take] at this
 omega
end
section
open Go.RowKit

def plusL (ss : List Int) (P : Nat) (a : Int) : List Int := ss.set P (ss.getD P 0 + a)
def plusW (w : TWorld) (P : Nat) (a : Int) : TWorld := ⟨w.Level,w.Tick,w.Seed,plusL w.Scores P a,w.Bodies⟩
section
variable {n k j P : Nat} {t bs : List TBody} {ss : List Int} {s : List TBody × List Int} {b : TBody} {c a : Int}
theorem Zd : (plusL ss P a).length = ss.length := List.length_set
theorem plus_at {i : Nat} (hP : P < ss.length) : (plusL ss P a)[i]? = if i = P then some (ss[P] + a) else ss[i]? := by
 unfold plusL
 rw [List.getElem?_set,List.getD_eq_getElem?_getD,List.getElem?_eq_getElem hP]
 by_cases h : i = P
 ·subst h; simp [hP]
 ·rw [if_neg h,if_neg (fun e => h e.symm)]
theorem addM_plus (hP : P < ss.length) (h : ∀ x ∈ ss,x ≤ c) (hc : c + 1 + a ≤ 1000000) (ha : 0 ≤ a) : addM (plusL ss P a) k = plusL (addM ss k) P a := by
 have hP' : P < (addM ss k).length := by rw [addM_len]; exact hP
 refine List.ext_getElem? fun i => ?_
 rw [plus_at hP']
 by_cases hk : k < ss.length
 ·have hx := h _ (List.getElem_mem hk)
  have hxP := h _ (List.getElem_mem hP)
  have e1 : addM ss k = ss.set k (min (ss[k] + 1) 1000000) := addM_at (List.getElem?_eq_getElem hk)
  by_cases hkP : k = P
  ·subst hkP
   have e2 : addM (plusL ss k a) k = (plusL ss k a).set k (min (ss[k] + a + 1) 1000000) := addM_at (by rw [plus_at hk,if_pos rfl])
   rw [e2,List.getElem?_set,plus_at hk,Zd]
   by_cases hi : k = i
   ·subst hi
    simp only [if_pos rfl,hk,if_true]
    simp only [e1,List.getElem_set_self]
    congr 1
    omega
   ·rw [if_neg hi,if_neg (fun e => hi e.symm),if_neg (fun e => hi e.symm),e1,List.getElem?_set_ne hi]
  ·have e2 : addM (plusL ss P a) k = (plusL ss P a).set k (min (ss[k] + 1) 1000000) := addM_at (by rw [plus_at hP,if_neg hkP,List.getElem?_eq_getElem hk])
   rw [e2,List.getElem?_set,plus_at hP,Zd]
   by_cases hi : k = i
   ·subst hi
    rw [if_pos rfl,if_pos hk,if_neg hkP,e1,List.getElem?_set_self hk]
   ·rw [if_neg hi]
    by_cases hiP : i = P
    ·subst hiP
     rw [if_pos rfl,if_pos rfl]
     simp only [e1,List.getElem_set_ne hi]
    ·rw [if_neg hiP,if_neg hiP,e1,List.getElem?_set_ne hi]
 ·have e1 : addM ss k = ss := by rw [addM,List.getElem?_eq_none (by omega)]
  have e2 : addM (plusL ss P a) k = plusL ss P a := by rw [addM,List.getElem?_eq_none (by rw [Zd]; omega)]
  rw [e2,plus_at hP]
  simp only [e1]
theorem shOne_len : (shOne n s b).2.length = s.2.length := by
 unfold shOne
 split
 ·split
  ·rfl
  ·split
   ·rfl
   ·simp only
    split
    ·exact addM_len
    ·rfl
 ·rfl
theorem shOne_plus (hP : P < s.2.length) (h : ∀ x ∈ s.2,x ≤ c) (hc : c + 1 + a ≤ 1000000) (ha : 0 ≤ a) : shOne n (s.1,plusL s.2 P a) b = ((shOne n s b).1,plusL (shOne n s b).2 P a) := by
 unfold shOne
 by_cases hb : b.Kind = 1
 ·rw [if_pos hb,if_pos hb]
  cases metF s.1 b b.Owner n with
  | none => rfl
  | some q =>
   simp only
   cases s.1[q]? with
   | none => rfl
   | some p =>
    simp only
    by_cases hz : p.Life - 1 = 0
    ·rw [if_pos hz,if_pos hz,addM_plus hP h hc ha]
    ·rw [if_neg hz,if_neg hz]
 ·rw [if_neg hb,if_neg hb]
theorem shS_len : ∀ j,(shS n t s j).2.length = s.2.length
 | 0 => rfl
 | j + 1 => by
  rw [shS]
  split
  ·exact shS_len j
  ·rw [shOne_len,shS_len j]
theorem shS_plus (hP : P < ss.length) (h : ∀ x ∈ ss,x ≤ c) (ha : 0 ≤ a) : ∀ j : Nat,c + j + a ≤ 1000000 → shS n t (bs,plusL ss P a) j = ((shS n t (bs,ss) j).1,plusL (shS n t (bs,ss) j).2 P a)
 | 0,_ => rfl
 | j + 1,hc => by
  have ih := shS_plus hP h ha j (by omega)
  rw [shS,shS,ih]
  cases t[j]? with
  | none => rfl
  | some b => exact shOne_plus (by rw [shS_len]; exact hP) (shS_le (s := (bs,ss)) h j) (by omega) ha
theorem shF_plus (hP : P < ss.length) (h : ∀ x ∈ ss,x ≤ c) (ha : 0 ≤ a) (hc : c + j + a ≤ 1000000) : shF n t (bs,plusL ss P a) j = shF n t (bs,ss) j := by
 unfold shF
 rw [shS_plus hP h ha j hc]
theorem keepR_plus {bs' : List TBody} (hP : P < ss.length) (h : ∀ x ∈ ss,x ≤ c) (ha : 0 ≤ a) : ∀ j : Nat,c + j + a ≤ 1000000 → keepR n t (bs,plusL ss P a) bs' j = keepR n t (bs,ss) bs' j
 | 0,_ => rfl
 | j + 1,hc => by
  have ih := keepR_plus (bs' := bs') hP h ha j (by omega)
  rw [keepR,keepR,ih,shF_plus hP h ha (by omega)]
theorem itOne_len : (itOne n bs ss b).length = ss.length := by
 unfold itOne
 split
 ·split
  ·rfl
  ·exact addM_len
 ·rfl
theorem itOne_plus (hP : P < ss.length) (h : ∀ x ∈ ss,x ≤ c) (hc : c + 1 + a ≤ 1000000) (ha : 0 ≤ a) : itOne n bs (plusL ss P a) b = plusL (itOne n bs ss b) P a := by
 unfold itOne
 split
 ·split
  ·rfl
  ·exact addM_plus hP h hc ha
 ·rfl
theorem foldl_plus (ha : 0 ≤ a) : ∀ (l : List TBody) {ss : List Int} {c : Int},P < ss.length → (∀ x ∈ ss,x ≤ c) → c + l.length + a ≤ 1000000 → l.foldl (itOne n bs) (plusL ss P a) = plusL (l.foldl (itOne n bs) ss) P a
 | [],ss,c,_,_,_ => rfl
 | b :: l,ss,c,hP,h,hc => by
  simp only [List.length_cons] at hc
  rw [List.foldl_cons,List.foldl_cons,itOne_plus hP h (by omega) ha]
  exact foldl_plus ha l (by rw [itOne_len]; exact hP) (itOne_le h) (by omega)
theorem hitsR_plus (hl : bs.length ≤ 24) (hP : P < ss.length) (h : ∀ x ∈ ss,x ≤ c) (ha : 0 ≤ a) (hc : c + 48 + a ≤ 1000000) : hitsR n bs (plusL ss P a) = ((hitsR n bs ss).1,plusL (hitsR n bs ss).2 P a) := by
 have hd : (bs.drop n).length ≤ 24 := by rw [List.length_drop]; omega
 unfold hitsR
 simp only
 rw [shS_plus hP h ha _ (by omega),keepR_plus hP h ha _ (by omega)]
 congr 1
 simp only [itS,List.take_length]
 exact foldl_plus ha _ (by rw [shS_len]; exact hP) (shS_le (s := (bs,ss)) h _) (by omega)
end
theorem plus_ok {w : TWorld} {P : Nat} {a c : Int} (ho : worldOk w = true) (hP : P < w.Scores.length) (h : ∀ x ∈ w.Scores,x ≤ c) (ha : 0 ≤ a) (hc : c + a ≤ 1000000) : worldOk (plusW w P a) = true := by
 have hs := Z8 ho
 obtain ⟨g1,g2,g3,g4,g5,g6,g7⟩ := Kh ho
 have hl : (plusW w P a).Scores.length = w.Scores.length := Zd
 refine worldOk_T ⟨g1,g2,g3,by rw [hl]; exact g4,List.all_eq_true.2 fun x hx => Y0.2 ?_,by rw [hl]; exact g6,by rw [hl]; exact g7⟩
 have h2 := hs _ (List.getElem_mem hP)
 have h3 := h _ (List.getElem_mem hP)
 rcases List.mem_or_eq_of_mem_set hx with h1 | h1
 ·exact hs x h1
 ·rw [List.getD_eq_getElem?_getD,List.getElem?_eq_getElem hP,Option.getD_some] at h1
  omega
theorem stepW_plus {w : TWorld} {row : List Int} {P : Nat} {a c : Int} (hg : Enc.gd w) (ho : worldOk w = true) (hP : P < w.Scores.length) (h : ∀ x ∈ w.Scores,x ≤ c) (ha : 0 ≤ a) (hc : c + 48 + a ≤ 1000000) : stepW (plusW w P a) row = plusW (stepW w row) P a := by
 have ho' := plus_ok (a := a) ho hP h ha (by omega)
 have hl : (plusW w P a).Scores.length = w.Scores.length := Zd
 unfold stepW
 by_cases hh : w.Tick ≠ 100000 ∧ rowOk row w.Scores.length = true
 ·rw [if_pos ⟨ho',hh.1,by rw [hl]; exact hh.2⟩,if_pos ⟨ho,hh⟩]
  have hm := (PH.of hg ho hh.2).mv.len.2
  have h1 := hitsR_plus (n := w.Scores.length) (bs := movedM w row) hm hP h ha hc
  have e1 : movedM (plusW w P a) row = movedM w row := by unfold movedM; rw [hl]; rfl
  unfold tickM
  rw [hl,e1]
  show lastM w.Level (w.Tick + 1) (nextR w.Seed) (hitsR w.Scores.length (movedM w row) (plusL w.Scores P a)).2 (hitsR w.Scores.length (movedM w row) (plusL w.Scores P a)).1 = _
  rw [h1]
  simp only [lastM]
  split
  ·rfl
  ·split <;> rfl
 ·rw [if_neg (fun e => hh ⟨e.2.1,by have := e.2.2; rw [hl] at this; exact this⟩),if_neg (fun e => hh e.2)]
end
section
open Go.RowKit

noncomputable def wsum (w : TWorld) : Int := checksum (worldBytes w)
def bsum : List UInt8 → Nat
 | [] => 0
 | b :: l => b.toNat + bsum l
theorem bsum_app : ∀ a b : List UInt8,bsum (a ++ b) = bsum a + bsum b
 | [],b => by simp [bsum]
 | x :: a,b => by rw [List.cons_append,bsum,bsum,bsum_app a b]; omega
theorem sumA_take (s : ByteArray) : ∀ k,k ≤ s.size → sumA s k = ((bsum (s.data.toList.take k) % 65521 : Nat) : Int)
 | 0,_ => by simp [sumA,bsum]
 | k + 1,hk => by
  obtain ⟨b,h1,h2⟩ := byteAt_list (s := s) (i := k) (by omega)
  rw [sumA,sumA_take s k (by omega),h2,List.take_add_one,h1,bsum_app]
  simp only [Option.toList_some,bsum]
  omega
theorem sumA_all (s : ByteArray) : sumA s s.size = ((bsum s.data.toList % 65521 : Nat) : Int) := by
 rw [sumA_take s s.size (Nat.le_refl _),List.take_of_length_le (by simp)]
theorem sum_ne {s t : ByteArray} (h : bsum s.data.toList % 65521 ≠ bsum t.data.toList % 65521) : checksum s ≠ checksum t := fun e => by
 have a1 := sumA_all s
 have a2 := sumA_all t
 have b1 := sumA_lt s s.size
 have b2 := sumA_lt t t.size
 have c1 := sumB_lt s s.size
 have c2 := sumB_lt t t.size
 unfold checksum at e
 omega
theorem var_1 {m : Nat} (h : m < 128) : bsum (varN m) = m := by
 rw [varN_small h]
 simp only [bsum,UInt8.toNat_ofNat']
 omega
theorem var_up {m : Nat} (h : ¬ m < 128) : bsum (varN m) = m % 128 + 128 + bsum (varN (m / 128)) := by
 rw [varN_big h]
 simp only [bsum,UInt8.toNat_ofNat']
 omega
theorem var_is {m : Nat} (h : m < 2097152) : bsum (varN m) = if m < 128 then m else if m < 16384 then m % 128 + 128 + m / 128 else m % 128 + 128 + (m / 128 % 128 + 128 + m / 128 / 128) := by
 by_cases h1 : m < 128
 ·rw [if_pos h1,var_1 h1]
 ·rw [if_neg h1,var_up h1]
  by_cases h2 : m < 16384
  ·rw [if_pos h2,var_1 (by omega)]
  ·rw [if_neg h2,var_up (by omega),var_1 (by omega)]
theorem var_ne {m a : Nat} (h : m ≤ 100000) (ha : 1 ≤ a ∧ a ≤ 9) : bsum (varN (m + 2 * a)) ≠ bsum (varN m) ∧ bsum (varN m) ≤ 1000 ∧ bsum (varN (m + 2 * a)) ≤ 1000 := by
 rw [var_is (by omega),var_is (m := m) (by omega)]
 split
 ·split
  ·omega
  ·omega
 ·split
  ·split
   ·omega
   ·split <;> omega
  ·split
   ·omega
   ·split <;> omega
def encS (x : Int) : List UInt8 := encVar (signless x)
theorem encS_nat {s : Nat} (h : s ≤ 1000000) : encS (s : Int) = varN (2 * s) := by
 rw [encS,signless,if_pos (by omega),if_pos (by omega),encVar,if_pos (by omega),show (2 * (s : Int)).toNat = 2 * s by omega]
theorem bflat_set : ∀ (xs : List Int) (P : Nat) (hP : P < xs.length) (v : Int),bsum ((xs.set P v).flatMap encS) + bsum (encS xs[P]) = bsum (xs.flatMap encS) + bsum (encS v)
 | [],P,hP,v => absurd hP (Nat.not_lt_zero _)
 | x :: xs,0,hP,v => by
  simp only [List.set_cons_zero,List.flatMap_cons,bsum_app,List.getElem_cons_zero]
  omega
 | x :: xs,P + 1,hP,v => by
  have ih := bflat_set xs P (by simpa using hP) v
  simp only [List.set_cons_succ,List.flatMap_cons,bsum_app,List.getElem_cons_succ]
  omega
theorem ints_len {w : TWorld} {P : Nat} {a : Int} : (worldInts (plusW w P a)).length = (worldInts w).length := by
 simp only [worldInts,plusW,List.length_append,Zd,List.length_cons]
theorem packInts_list {xs : List Int} (h : ∀ x ∈ xs,0 ≤ signless x) : (packInts xs).data.toList = encVar xs.length ++ xs.flatMap encS := by
 have hall : xs.all (fun x => decide (0 ≤ signless x)) = true := by simpa using h
 rw [packInts,if_pos hall,Yf,packK,List.take_length]
 rfl
theorem wsum_ne {w : TWorld} {P : Nat} {a : Nat} (ho : worldOk w = true) (hP : P < w.Scores.length) (h : ∀ x ∈ w.Scores,x ≤ 19200) (ha : 1 ≤ a ∧ a ≤ 9) : wsum (plusW w P a) ≠ wsum w := by
 have ho' := plus_ok (a := (a : Int)) ho hP h (by omega) (by omega)
 have hs := Z8 ho _ (List.getElem_mem hP)
 have hs2 := h _ (List.getElem_mem hP)
 obtain ⟨s,hsn⟩ : ∃ s : Nat,w.Scores[P] = s := ⟨w.Scores[P].toNat,by omega⟩
 have e1 := encS_nat (s := s) (by omega)
 have e2 := encS_nat (s := s + a) (by omega)
 have hv := var_ne (m := 2 * s) (a := a) (by omega) ha
 have hf := bflat_set w.Scores P hP ((s : Int) + a)
 rw [hsn,e1,show ((s : Int) + (a : Int)) = ((s + a : Nat) : Int) by omega,e2,show 2 * (s + a) = 2 * s + 2 * a by omega] at hf
 unfold wsum worldBytes
 rw [if_pos ho,if_pos ho']
 refine sum_ne ?_
 rw [packInts_list (ints_rng ho),packInts_list (ints_rng ho'),ints_len]
 have hl : (plusW w P a).Scores.length = w.Scores.length := Zd
 have hp : (plusW w P (a : Int)).Scores = w.Scores.set P ((s + a : Nat) : Int) := by
  show plusL _ _ _ = _
  unfold plusL
  rw [List.getD_eq_getElem?_getD,List.getElem?_eq_getElem hP,Option.getD_some,hsn]
  congr 1
 simp only [worldInts,hp,List.length_set,List.flatMap_append,bsum_app]
 show (_ + ((bsum ([w.Tick,w.Seed,(w.Scores.length : Int)].flatMap encS) + _) + bsum ((w.Bodies.flatMap bodyInts).flatMap encS))) % 65521 ≠ _
 omega
end
section
open Go.RowKit

def zeroB (b : UInt8) : Bool := b == 0
def someB (b : UInt8) : Bool := !(b == 0)
def packZ (l : List UInt8) : List UInt8 := match l with
 | [] => []
 | x :: r => encVar (((x :: r).takeWhile zeroB).length : Nat) ++ (encVar ((((x :: r).dropWhile zeroB).takeWhile someB).length : Nat) ++ ((x :: r).dropWhile zeroB).takeWhile someB) ++ packZ (((x :: r).dropWhile zeroB).dropWhile someB)
termination_by l.length
decreasing_by
 by_cases h : zeroB x = true
 ·rw [List.dropWhile_cons,if_pos h]
  have h1 := (List.dropWhile_sublist someB (l := r.dropWhile zeroB)).length_le
  have h2 := (List.dropWhile_sublist zeroB (l := r)).length_le
  simp only [List.length_cons]; omega
 ·rw [List.dropWhile_cons,if_neg h,List.dropWhile_cons,if_pos (by simpa [zeroB,someB] using h)]
  have h1 := (List.dropWhile_sublist someB (l := r)).length_le
  simp only [List.length_cons]; omega
theorem packZ_ne (x : UInt8) (r : List UInt8) : ¬ (((x :: r).takeWhile zeroB).length = 0 ∧ (((x :: r).dropWhile zeroB).takeWhile someB).length = 0) := by
 intro ⟨h1,h2⟩
 by_cases h : zeroB x = true
 ·rw [List.takeWhile_cons,if_pos h] at h1; simp at h1
 ·rw [List.dropWhile_cons,if_neg h,List.takeWhile_cons,if_pos (by simpa [zeroB,someB] using h)] at h2; simp at h2
def uzGo (s : ByteArray) (strict : Bool) : Nat → Nat → List UInt8 → Option (List UInt8)
 | 0,pos,out => if pos < s.size then none else some out
 | f + 1,pos,out => if pos < s.size then (match decVar s pos with
  | none => none
  | some (n,j) => match unpackText s ((pos : Int) + (j : Int)) with
   | none => none
   | some (t,k) => if (20000 : Int) - out.length < n + t.size then none else if strict = true ∧ n = 0 ∧ t.size = 0 then none else uzGo s strict f (pos + j + k) (out ++ List.replicate n.toNat 0 ++ t.data.toList)) else some out
def unpackZ (strict : Bool) (s : ByteArray) : Option ByteArray := match uzGo s strict s.size 0 [] with
 | none => none
 | some out => if bs (packZ out) = s then some (bs out) else none
theorem tw_gen {q : UInt8 → Bool} : ∀ {xs : List UInt8} {n : Nat},(∀ j,j < n → ∃ y,xs[j]? = some y ∧ q y = true) → (∀ y,xs[n]? = some y → q y = false) → xs.takeWhile q = xs.take n ∧ xs.dropWhile q = xs.drop n
 | [],n,_,_ => by simp
 | x :: xs,0,_,h2 => by
  have := h2 x (by simp)
  rw [List.takeWhile_cons,List.dropWhile_cons,this]
  simp
 | x :: xs,n + 1,h1,h2 => by
  obtain ⟨y,hy,hq⟩ := h1 0 (by omega)
  simp at hy
  subst hy
  obtain ⟨a,b⟩ := tw_gen (q := q) (xs := xs) (n := n) (fun j hj => by have := h1 (j + 1) (by omega); simpa using this) (fun y hy => h2 y (by simpa using hy))
  rw [List.takeWhile_cons,List.dropWhile_cons,hq]
  simp [a,b]
theorem byte_some {s : ByteArray} {a j : Nat} {b : UInt8} (h : (s.data.toList.drop a)[j]? = some b) : a + j < s.size ∧ byteAt s (a + j) = (b.toNat : Int) := by
 rw [List.getElem?_drop] at h
 have hl := (List.getElem?_eq_some_iff.1 h).1
 have e : s.data.toList.length = s.size := by simp
 obtain ⟨b',h1,h2⟩ := byteAt_list (s := s) (i := a + j) (by omega)
 rw [h] at h1
 cases h1
 exact ⟨by omega,h2⟩
theorem zero_iff {b : UInt8} : zeroB b = true ↔ (b.toNat : Int) = 0 := by
 simp only [zeroB,beq_iff_eq]
 constructor
 ·intro h; subst h; rfl
 ·intro h; exact UInt8.toNat_inj.1 (by simpa using h)
theorem text_list (t : ByteArray) : (packText t).data.toList = encVar (t.size : Nat) ++ t.data.toList := by simp [packText,ByteArray.append,bs]
theorem packZ_step {s : ByteArray} {a m i : Nat} (h1 : a ≤ m) (h2 : m ≤ i) (h3 : i ≤ s.size) (hlt : a < i) (hz : ∀ j,a ≤ j → j < m → byteAt s j = 0) (hm : m < s.size → byteAt s m ≠ 0) (hn : ∀ j,m ≤ j → j < i → byteAt s j ≠ 0) (hi : i < s.size → byteAt s i = 0) :
  packZ (s.data.toList.drop a) = encVar ((m - a : Nat) : Int) ++ (packText (s.extract m i)).data.toList ++ packZ (s.data.toList.drop i) := by
 have e : s.data.toList.length = s.size := by simp
 have ht1 := tw_gen (q := zeroB) (xs := s.data.toList.drop a) (n := m - a) (fun j hj => by
  obtain ⟨y,hy⟩ : ∃ y,(s.data.toList.drop a)[j]? = some y := ⟨_,List.getElem?_eq_getElem (by simp; omega)⟩
  exact ⟨y,hy,zero_iff.2 (by rw [← (byte_some hy).2]; exact hz _ (by omega) (by omega))⟩) (fun y hy => by
  have := byte_some hy
  rw [show a + (m - a) = m by omega] at this
  rw [← Bool.not_eq_true,zero_iff,← this.2]
  exact hm this.1)
 rw [List.drop_drop,show a + (m - a) = m by omega] at ht1
 have ht2 := tw_gen (q := someB) (xs := s.data.toList.drop m) (n := i - m) (fun j hj => by
  obtain ⟨y,hy⟩ : ∃ y,(s.data.toList.drop m)[j]? = some y := ⟨_,List.getElem?_eq_getElem (by simp; omega)⟩
  refine ⟨y,hy,?_⟩
  have h4 : ¬ zeroB y = true := by rw [zero_iff,← (byte_some hy).2]; exact hn _ (by omega) (by omega)
  simpa [zeroB,someB] using h4) (fun y hy => by
  have := byte_some hy
  rw [show m + (i - m) = i by omega] at this
  have h4 : zeroB y = true := by rw [zero_iff,← this.2]; exact hi this.1
  simpa [zeroB,someB] using h4)
 rw [List.drop_drop,show m + (i - m) = i by omega] at ht2
 have hne : s.data.toList.drop a ≠ [] := by
  intro h
  have := congrArg List.length h
  simp only [List.length_drop,List.length_nil] at this
  omega
 have hx : (s.extract m i).data.toList = (s.data.toList.drop m).take (i - m) := extract_list s m i
 have hsz : (s.extract m i).size = i - m := by rw [ByteArray.size_extract]; omega
 rw [text_list,hx,hsz]
 cases hd : s.data.toList.drop a with
 | nil => exact absurd hd hne
 | cons x r =>
  rw [packZ,← hd,ht1.1,ht1.2,ht2.1,ht2.2,List.length_take,List.length_take,List.length_drop,List.length_drop,show min (m - a) (s.data.toList.length - a) = m - a by omega,show min (i - m) (s.data.toList.length - m) = i - m by omega]
theorem packZ_nil : packZ [] = [] := by rw [packZ]
end
section
open Go.RowKit

section
variable {P : Program} {E : Env} {ops : Array Oper} {rest : List Oper} {o : Oper} {QQ : Exit → St → Prop} {st : St} {t : TypeId} {y z : Operand} {qs : List Nat}
end
end
end Go.Proofs.YtpmacgnmlmmojaaGreatDoor
