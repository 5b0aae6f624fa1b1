/-
  Parts of the proof (rules, data, and what functions of the program and of the reference return), among them: The builtin copy over a whole owned slice; Shots and items in the reference.
  Conditions: those that each theorem names.
-/
import Derived.Test.YtpmacgnmlmmojaaGreatDoorDDDgRowk11
import Derived.Test.YtpmacgnmlmmojaaGreatDoorDDDgRowk13
import Derived.Test.YtpmacgnmlmmojaaGreatDoorDDDgRowk18
set_option linter.unusedSimpArgs false
set_option linter.unusedVariables false
set_option maxRecDepth 8000
set_option maxHeartbeats 8000000
namespace Go.Proofs.YtpmacgnmlmmojaaGreatDoor
section
open Go.RowKit

theorem metF_congr {bs bs' : List TBody} {b : TBody} {o : Int} : ∀ {n : Nat},(∀ k,k < n → bs[k]? = bs'[k]?) → metF bs b o n = metF bs' b o n
 | 0,_ => rfl
 | n + 1,h => by
  have h1 : metC bs b o n = metC bs' b o n := by simp only [metC,h n (by omega)]
  rw [metF,metF,metF_congr (fun k hk => h k (by omega)),h1]
def hitB (p : TBody) : TBody := ⟨p.Kind,p.Owner,p.X,p.Y,if p.Life - 1 = 0 then 0 else p.VX,if p.Life - 1 = 0 then 0 else p.VY,p.Aim,p.Life - 1,if p.Life - 1 = 0 then 20 else p.Timer⟩
def shGone (n : Nat) (bs : List TBody) (b : TBody) : Bool := decide (b.Kind = 1) && (metF bs b b.Owner n).isSome
def shOne (n : Nat) (s : List TBody × List Int) (b : TBody) : List TBody × List Int :=
 if b.Kind = 1 then match metF s.1 b b.Owner n with
  | none => s
  | some k => match s.1[k]? with
   | none => s
   | some p => (s.1.set k (hitB p),if p.Life - 1 = 0 then addM s.2 b.Owner.toNat else s.2)
 else s
def shS (n : Nat) (t : List TBody) (s : List TBody × List Int) : Nat → List TBody × List Int
 | 0 => s
 | j + 1 => match t[j]? with
  | none => shS n t s j
  | some b => shOne n (shS n t s j) b
def shF (n : Nat) (t : List TBody) (s : List TBody × List Int) (j : Nat) : Bool := match t[j]? with
 | none => false
 | some b => shGone n (shS n t s j).1 b
def shL (n : Nat) (t : List TBody) (s : List TBody × List Int) : Nat → List TBody
 | 0 => []
 | j + 1 => match t[j]? with
  | none => shL n t s j
  | some b => if shGone n (shS n t s j).1 b = true then shL n t s j else shL n t s j ++ [b]
def itHit (n : Nat) (bs : List TBody) (b : TBody) : Bool := decide (b.Kind = 2) && (metF bs b (-1) n).isSome
def itOne (n : Nat) (bs : List TBody) (ss : List Int) (b : TBody) : List Int :=
 if b.Kind = 2 then match metF bs b (-1) n with
  | none => ss
  | some k => addM ss k
 else ss
def itS (n : Nat) (bs t : List TBody) (ss : List Int) (j : Nat) : List Int := (t.take j).foldl (itOne n bs) ss
def itL (n : Nat) (bs t : List TBody) (j : Nat) : List TBody := (t.take j).filter fun b => !itHit n bs b
def keepR (n : Nat) (t : List TBody) (s : List TBody × List Int) (bs : List TBody) : Nat → List TBody
 | 0 => []
 | j + 1 => match t[j]? with
  | none => keepR n t s bs j
  | some b => if (shF n t s j || itHit n bs b) = true then keepR n t s bs j else keepR n t s bs j ++ [b]
section
variable {l : TLevel} {n k j : Nat} {t bs bs0 lf : List TBody} {ss ss0 : List Int} {s : List TBody × List Int} {b p : TBody}
theorem sh_skip (ht : t[j]? = some b) (hk : ¬ b.Kind = 1) (hs : (bs,ss) = shS n t s j) (hl : lf = shL n t s j) : (bs,ss) = shS n t s (j + 1) ∧ lf ++ [b] = shL n t s (j + 1) ∧ shF n t s j = false := by
 have hg : shGone n (shS n t s j).1 b = false := by rw [shGone,decide_eq_false hk,Bool.false_and]
 refine ⟨by rw [shS,ht]; simp only [shOne,if_neg hk]; exact hs,by rw [shL,ht]; simp only [hg]; rw [← hl]; rfl,by rw [shF,ht]; exact hg⟩
theorem sh_miss (ht : t[j]? = some b) (hm : metF bs b b.Owner n = none) (hs : (bs,ss) = shS n t s j) (hl : lf = shL n t s j) : (bs,ss) = shS n t s (j + 1) ∧ lf ++ [b] = shL n t s (j + 1) ∧ shF n t s j = false := by
 have hm2 : metF (shS n t s j).1 b b.Owner n = none := by rw [← hs]; exact hm
 have hg : shGone n (shS n t s j).1 b = false := by rw [shGone,hm2]; simp
 refine ⟨?_,by rw [shL,ht]; simp only [hg]; rw [← hl]; rfl,by rw [shF,ht]; exact hg⟩
 have h1 : shOne n (bs,ss) b = (bs,ss) := by
  simp only [shOne,hm]
  split <;> rfl
 rw [shS,ht]
 simp only
 rw [← hs,h1]
theorem sh_hit (ht : t[j]? = some b) (hk : b.Kind = 1) (hm : metF bs b b.Owner n = some k) (hp : bs[k]? = some p) (hs : (bs,ss) = shS n t s j) (hl : lf = shL n t s j) : (bs.set k (hitB p),if p.Life - 1 = 0 then addM ss b.Owner.toNat else ss) = shS n t s (j + 1) ∧ lf = shL n t s (j + 1) ∧ shF n t s j = true := by
 have hm2 : metF (shS n t s j).1 b b.Owner n = some k := by rw [← hs]; exact hm
 have hg : shGone n (shS n t s j).1 b = true := by rw [shGone,hm2,decide_eq_true hk]; rfl
 refine ⟨?_,by rw [shL,ht]; simp only [hg,if_true]; exact hl,by rw [shF,ht]; exact hg⟩
 rw [shS,ht]
 simp only [shOne,if_pos hk,hm2]
 rw [← hs]
 simp only [hp]
theorem shL_le : ∀ j,(shL n t s j).length ≤ j
 | 0 => Nat.le_refl _
 | j + 1 => by
  have := shL_le j
  rw [shL]
  split
  ·omega
  ·split
   ·omega
   ·rw [List.length_append]; simp; omega
theorem shL_sub : ∀ j,∀ b ∈ shL n t s j,b ∈ t
 | 0,b,hb => by cases hb
 | j + 1,b,hb => by
  rw [shL] at hb
  split at hb
  ·exact shL_sub j b hb
  ·rename_i c hc
   split at hb
   ·exact shL_sub j b hb
   ·rcases List.mem_append.1 hb with h | h
    ·exact shL_sub j b h
    ·rw [List.mem_singleton] at h; subst h; exact List.mem_of_getElem? hc
theorem addM_len {ss : List Int} {k : Nat} : (addM ss k).length = ss.length := by unfold addM; split <;> simp
theorem addM_rng {ss : List Int} {k : Nat} (h : ∀ x ∈ ss,0 ≤ x ∧ x ≤ 1000000) : ∀ x ∈ addM ss k,0 ≤ x ∧ x ≤ 1000000 := by
 intro x hx
 unfold addM at hx
 split at hx
 ·exact h x hx
 ·rename_i s hs
  rcases List.mem_or_eq_of_mem_set hx with h1 | h1
  ·exact h x h1
  ·have := h s (List.mem_of_getElem? hs); omega
theorem BM.hit (h : BM l n p) (hl : 0 < p.Life) : BM l n (hitB p) := by
 obtain ⟨hk,ho,hp,hvx,hvy,hf⟩ := h
 refine ⟨hk,ho,hp,?_,?_,?_⟩
 ·simp only [hitB]; split <;> omega
 ·simp only [hitB]; split <;> omega
 ·simp only [hitB]; omega
structure SI (l : TLevel) (n : Nat) (bs0 : List TBody) (s : List TBody × List Int) : Prop where
 lm : LM l n s.1
 len : s.1.length = bs0.length
 tl : ∀ k,n ≤ k → s.1[k]? = bs0[k]?
 sl : s.2.length = n
 sc : ∀ x ∈ s.2,0 ≤ x ∧ x ≤ 1000000
theorem SI.one (h : SI l n bs0 s) (b : TBody) : SI l n bs0 (shOne n s b) := by
 unfold shOne
 split
 ·split
  ·exact h
  ·rename_i k hk
   obtain ⟨h1,h2⟩ := metF_lt hk
   obtain ⟨p,hp,hlf,_,_⟩ := metC_life h2
   rw [hp]
   have hB := h.lm.at_ k p hp
   refine ⟨h.lm.set hp (hB.1.hit hlf) J,by simp [h.len],fun j hj => by simp only; rw [List.getElem?_set_ne (by omega)]; exact h.tl j hj,?_,?_⟩
   ·simp only
    split
    ·rw [addM_len]; exact h.sl
    ·exact h.sl
   ·simp only
    split
    ·exact addM_rng h.sc
    ·exact h.sc
 ·exact h
theorem SI.all (h : SI l n bs0 s) (t : List TBody) : ∀ j,SI l n bs0 (shS n t s j)
 | 0 => h
 | j + 1 => by
  rw [shS]
  split
  ·exact SI.all h t j
  ·exact (SI.all h t j).one _
theorem SI.start (h : LM l n bs) (h1 : ss.length = n) (h2 : ∀ x ∈ ss,0 ≤ x ∧ x ≤ 1000000) : SI l n bs (bs,ss) := ⟨h,rfl,fun _ _ => rfl,h1,h2⟩
theorem LM.cut {c : List TBody} (h : LM l n bs) (hc : ∀ b ∈ c,b ∈ bs.drop n) (hl : n + c.length ≤ 24) : LM l n (bs.take n ++ c) := by
 have hlen := h.len
 refine ⟨by rw [List.length_append,List.length_take]; omega,fun k b hb => ?_⟩
 rw [List.getElem?_append,List.length_take,Nat.min_eq_left hlen.1] at hb
 split at hb
 ·rename_i hk
  rw [List.getElem?_take_of_lt hk] at hb
  have := h.at_ k b hb
  exact ⟨this.1,this.2⟩
 ·rename_i hk
  obtain ⟨j,hj⟩ := List.getElem?_of_mem (hc b (List.mem_of_getElem? hb))
  rw [List.getElem?_drop] at hj
  have := h.at_ _ _ hj
  exact ⟨this.1,fun e => by have := this.2.1 e; omega,fun e => absurd e hk⟩
theorem it_skip (ht : t[j]? = some b) (hk : ¬ b.Kind = 2) (hs : ss = itS n bs t ss0 j) (hl : lf = itL n bs t j) : ss = itS n bs t ss0 (j + 1) ∧ lf ++ [b] = itL n bs t (j + 1) ∧ itHit n bs b = false := by
 obtain ⟨hj,rfl⟩ := List.getElem?_eq_some_iff.1 ht
 have hg : itHit n bs t[j] = false := by rw [itHit,decide_eq_false hk,Bool.false_and]
 refine ⟨?_,?_,hg⟩
 ·rw [itS,List.take_succ_eq_append_getElem hj,List.foldl_append,← itS,← hs]
  simp only [List.foldl_cons,List.foldl_nil,itOne,if_neg hk]
 ·rw [itL,List.take_succ_eq_append_getElem hj,List.filter_append,← itL,← hl]
  simp [hg]
theorem it_miss (ht : t[j]? = some b) (hm : metF bs b (-1) n = none) (hs : ss = itS n bs t ss0 j) (hl : lf = itL n bs t j) : ss = itS n bs t ss0 (j + 1) ∧ lf ++ [b] = itL n bs t (j + 1) ∧ itHit n bs b = false := by
 obtain ⟨hj,rfl⟩ := List.getElem?_eq_some_iff.1 ht
 have hg : itHit n bs t[j] = false := by rw [itHit,hm]; simp
 refine ⟨?_,?_,hg⟩
 ·rw [itS,List.take_succ_eq_append_getElem hj,List.foldl_append,← itS,← hs]
  simp only [List.foldl_cons,List.foldl_nil,itOne,hm]
  split <;> rfl
 ·rw [itL,List.take_succ_eq_append_getElem hj,List.filter_append,← itL,← hl]
  simp [hg]
theorem it_hit (ht : t[j]? = some b) (hk : b.Kind = 2) (hm : metF bs b (-1) n = some k) (hs : ss = itS n bs t ss0 j) (hl : lf = itL n bs t j) : addM ss k = itS n bs t ss0 (j + 1) ∧ lf = itL n bs t (j + 1) ∧ itHit n bs b = true := by
 obtain ⟨hj,rfl⟩ := List.getElem?_eq_some_iff.1 ht
 have hg : itHit n bs t[j] = true := by rw [itHit,hm,decide_eq_true hk]; rfl
 refine ⟨?_,?_,hg⟩
 ·rw [itS,List.take_succ_eq_append_getElem hj,List.foldl_append,← itS,← hs]
  simp only [List.foldl_cons,List.foldl_nil,itOne,if_pos hk,hm]
 ·rw [itL,List.take_succ_eq_append_getElem hj,List.filter_append,← itL,← hl]
  simp [hg]
theorem itOne_ok (h1 : ss.length = n) (h2 : ∀ x ∈ ss,0 ≤ x ∧ x ≤ 1000000) (b : TBody) : (itOne n bs ss b).length = n ∧ ∀ x ∈ itOne n bs ss b,0 ≤ x ∧ x ≤ 1000000 := by
 unfold itOne
 split
 ·split
  ·exact ⟨h1,h2⟩
  ·exact ⟨by rw [addM_len]; exact h1,addM_rng h2⟩
 ·exact ⟨h1,h2⟩
theorem itF_ok : ∀ (t : List TBody) {ss : List Int},ss.length = n → (∀ x ∈ ss,0 ≤ x ∧ x ≤ 1000000) → (t.foldl (itOne n bs) ss).length = n ∧ ∀ x ∈ t.foldl (itOne n bs) ss,0 ≤ x ∧ x ≤ 1000000
 | [],_,h1,h2 => ⟨h1,h2⟩
 | b :: t,_,h1,h2 => by
  have := itOne_ok (bs := bs) h1 h2 b
  exact itF_ok t this.1 this.2
theorem itS_ok (h1 : ss.length = n) (h2 : ∀ x ∈ ss,0 ≤ x ∧ x ≤ 1000000) : (itS n bs t ss j).length = n ∧ ∀ x ∈ itS n bs t ss j,0 ≤ x ∧ x ≤ 1000000 := itF_ok _ h1 h2
theorem itL_le : (itL n bs t j).length ≤ j := by
 have := List.length_filter_le (fun b => !itHit n bs b) (t.take j)
 rw [itL]
 rw [List.length_take] at this
 omega
theorem keep_eq : ∀ j,(shL n t s j).filter (fun b => !itHit n bs b) = keepR n t s bs j
 | 0 => rfl
 | j + 1 => by
  have ih := keep_eq j
  rw [shL,keepR,shF]
  cases t[j]? with
  | none => exact ih
  | some b =>
   simp only
   by_cases hg : shGone n (shS n t s j).1 b = true
   ·rw [if_pos hg,if_pos (by rw [hg]; rfl),ih]
   ·have hg' : shGone n (shS n t s j).1 b = false := by simpa using hg
    have hc : (shGone n (shS n t s j).1 b || itHit n bs b) = itHit n bs b := by rw [hg',Bool.false_or]
    by_cases h : itHit n bs b = true
    ·rw [if_neg hg,if_pos (by rw [hc]; exact h),List.filter_append,ih]
     simp [h]
    ·rw [if_neg hg,if_neg (by rw [hc]; exact h),List.filter_append,ih]
     simp [h]
theorem fold_eq : ∀ j,(shL n t s j).foldl (itOne n bs) ss = (t.take j).foldl (itOne n bs) ss
 | 0 => rfl
 | j + 1 => by
  rw [shL]
  cases h : t[j]? with
  | none =>
   simp only
   have := List.getElem?_eq_none_iff.1 h
   rw [fold_eq j,List.take_of_length_le (by omega),List.take_of_length_le (by omega)]
  | some b =>
   obtain ⟨hj,rfl⟩ := List.getElem?_eq_some_iff.1 h
   simp only
   rw [List.take_succ_eq_append_getElem hj,List.foldl_append]
   cases hg : shGone n (shS n t s j).1 t[j] with
   | true =>
    rw [if_pos rfl,fold_eq j]
    have hk : t[j].Kind = 1 := by rw [shGone,Bool.and_eq_true,decide_eq_true_eq] at hg; exact hg.1
    simp only [List.foldl_cons,List.foldl_nil,itOne]
    rw [if_neg (by omega)]
   | false => rw [if_neg (by simp),List.foldl_append,fold_eq j]
end
def hitsP (n : Nat) (bs : List TBody) (ss : List Int) : List TBody × List Int :=
 let s := shS n (bs.drop n) (bs,ss) (bs.drop n).length
 let b := s.1.take n ++ shL n (bs.drop n) (bs,ss) (bs.drop n).length
 (b.take n ++ itL n b (b.drop n) (b.drop n).length,itS n b (b.drop n) s.2 (b.drop n).length)
def hitsR (n : Nat) (bs : List TBody) (ss : List Int) : List TBody × List Int :=
 let t := bs.drop n
 let s := shS n t (bs,ss) t.length
 (s.1.take n ++ keepR n t (bs,ss) s.1 t.length,itS n s.1 t s.2 t.length)
theorem hits_eq {l : TLevel} {n : Nat} {bs : List TBody} {ss : List Int} (h : LM l n bs) (h1 : ss.length = n) (h2 : ∀ x ∈ ss,0 ≤ x ∧ x ≤ 1000000) : hitsP n bs ss = hitsR n bs ss := by
 have hS := (SI.start h h1 h2).all (bs.drop n) (bs.drop n).length
 obtain ⟨s,hs⟩ : ∃ s,s = shS n (bs.drop n) (bs,ss) (bs.drop n).length := ⟨_,rfl⟩
 obtain ⟨c,hc⟩ : ∃ c,c = shL n (bs.drop n) (bs,ss) (bs.drop n).length := ⟨_,rfl⟩
 rw [← hs] at hS
 have hlen := hS.lm.len
 have e1 : (s.1.take n ++ c).take n = s.1.take n := by
  rw [List.take_append_of_le_length (by rw [List.length_take]; omega),List.take_take,Nat.min_self]
 have e2 : (s.1.take n ++ c).drop n = c := by
  rw [List.drop_append_of_le_length (by rw [List.length_take]; omega),List.drop_of_length_le (by rw [List.length_take]; omega),List.nil_append]
 have e3 : ∀ b o,metF (s.1.take n ++ c) b o n = metF s.1 b o n := fun b o => metF_congr fun k hk => by
  rw [List.getElem?_append_left (by rw [List.length_take]; omega),List.getElem?_take_of_lt hk]
 have e4 : itHit n (s.1.take n ++ c) = itHit n s.1 := by
  funext b
  rw [itHit,itHit,e3]
 have e5 : itOne n (s.1.take n ++ c) = itOne n s.1 := by
  funext ss b
  rw [itOne,itOne,e3]
 simp only [hitsP,hitsR,← hs,← hc,e1,e2,itL,itS,List.take_length,e4,e5]
 congr 1
 ·congr 1
  rw [hc,keep_eq]
 ·rw [hc,fold_eq,List.take_length]
end
section
open Go.RowKit

section
variable {P : Program} {ops : Array Oper} {o : Oper} {st : St} {t : TypeId} {y z u : Operand} {rs qs : List Nat} {i j : Int} {m n : Nat} {k : IntKind}
theorem q_tl {p kk : Nat} {es : List (List T)} {e : TypeId} {zs : List Value} {by_ : Nat} [hm : TyMake P t e zs by_] (ho : o.op = .slice t y (some u) none none) (hg : o.guard = none) (hy : st.ev y = .o (.c (.ref p))) (hp : st.objs[p]? = some (.row kk es)) (hu : st.ev u = .o (.c (.rd rs (.v (.int .i64 j))))) (hkz : kk = zs.length) (h0 : 0 ≤ j ∧ j ≤ es.length) : Qt P ops o st (.o (.c (.tl p kk j.toNat))) [] m :=
 .pure hg fun a w H F h1 => by
  obtain ⟨v,fp,e1,e2⟩ := h1.ow hp
  obtain ⟨x',fp',e3⟩ := h1.v1 hy
  rw [e1] at e3
  simp only [Pc.ow.injEq] at e3
  obtain ⟨_,hv,_⟩ := e3
  obtain ⟨A,c,hvA,hc⟩ : ∃ A c,v = .slice A es.length c ∧ es.length ≤ c := by
   rcases e2.open_ with ⟨rfl,rfl,rfl⟩ | ⟨b,o,c,tid,cur,fz,val,fps,rfl,_,_,_,hc,_⟩
   ·exact ⟨none,0,rfl,Nat.le_refl _⟩
   ·exact ⟨_,c,rfl,hc⟩
  have hrun := run_slice (P := P) (w := w) (t := t) (e := e) (zs := zs) (by_ := by_) (A := A) (m := es.length) (c := c) (some j) none j.toNat es.length ⟨h0.1,rfl⟩ rfl (by omega) hc
  refine ⟨.slice (if c = j.toNat then A else A.map (·.add (j.toNat * zs.length))) (es.length - j.toNat) (c - j.toNat),?_,?_⟩
  ·have hu1 := h1.plain hu
   have hvy : a.eval y = .slice A es.length c := by rw [← hv,hvA]
   unfold execOp
   simp only [ho,Option.map_none,Option.map_some,hu1,hvy,Sem.run_bind]
   simp only [Option.map_none,Option.map_some] at hrun
   rw [hrun]
   rfl
  ·exact ⟨A,_,es.length,c,_,_,by rw [e1,hvA],rfl,fun hlt => by rw [if_neg (by omega),hkz]⟩
theorem tl_form {w : World} {H : Hs} {F : Nat → Prop} {a : Act} (h1 : R0 w H F st a) {p kk q : Nat} {es : List (List T)} (hy : st.ev y = .o (.c (.tl p kk q))) (hp : st.objs[p]? = some (.row kk es)) :
  ∃ A A' c fp,H p = .ow (.sl kk es) (.slice A es.length c) fp ∧ a.eval y = .slice A' (es.length - q) (c - q) ∧ (q < es.length → A' = A.map (·.add (q * kk))) ∧ OW w (.sl kk es) (.slice A es.length c) fp ∧ es.length ≤ c := by
 obtain ⟨v,fp,e1,e2⟩ := h1.ow hp
 obtain ⟨A,A',m,c,x,fp',e3,hv,hA⟩ := h1.v1 hy
 rw [e1] at e3
 simp only [Pc.ow.injEq] at e3
 obtain ⟨rfl,rfl,rfl⟩ := e3
 have hm : m = es.length ∧ es.length ≤ c := by
  rcases e2.open_ with ⟨h,rfl,rfl⟩ | ⟨b,o,c',tid,cur,fz,val,fps,h,_,_,_,hc,_⟩
  ·cases h; exact ⟨rfl,Nat.le_refl _⟩
  ·cases h; exact ⟨rfl,hc⟩
 obtain ⟨rfl,hc⟩ := hm
 exact ⟨A,A',c,fp,e1,hv,hA,e2,hc⟩
theorem q_lentl {p kk q : Nat} {es : List (List T)} {e : TypeId} {zs : List Value} {by_ : Nat} [hm : TyMake P t e zs by_] (ho : o.op = .call { callee := .builtin .len,args := #[y],argTypes := #[t] }) (hg : o.guard = none) (hy : st.ev y = .o (.c (.tl p kk q))) (hp : st.objs[p]? = some (.row kk es)) : Qt P ops o st (I ((es.length - q : Nat) : Int)) [] n :=
 .pure hg fun a w H F hr => ⟨.int .i64 ((es.length - q : Nat) : Int),by
  obtain ⟨A,A',c,fp,_,hv,_⟩ := tl_form hr hy hp
  exact len_run ho hv,plainV _ J⟩
theorem q_attl {p kk q : Nat} {es : List (List T)} {et : TypeId} {zs : List Value} {by_ : Nat} [hm : TyMake P t et zs by_] (ho : o.op = .indexAddr t y z) (hg : o.guard = none) (hy : st.ev y = .o (.c (.tl p kk q))) (hz : st.ev z = .o (.c (.rd qs (.v (.int k i))))) (hp : st.objs[p]? = some (.row kk es)) (hkz : kk = zs.length) (h0 : 0 ≤ i) (hi : q + i < es.length) :
  Qt P ops o st (.o (.c (.el p kk (q + i.toNat) 0))) [] n :=
 .pure hg fun a w H F hr => by
  obtain ⟨A,A',c,fp,e1,hv,hA,e2,hc⟩ := tl_form hr hy hp
  have h2 := hr.plain hz
  have hx : es[q + i.toNat]? = some es[q + i.toNat] := List.getElem?_eq_getElem (by omega)
  obtain ⟨b,o',c',h1,_⟩ := RO.at_ e2.ro hx
  cases h1
  have hA2 := hA (by omega)
  simp only [Option.map_some] at hA2
  refine ⟨.pointer (some ⟨b,o' + q * kk + i.toNat * zs.length,none⟩),?_,b,o',es.length,c,.sl kk es,fp,e1,by rw [← hkz,Nat.add_mul]; simp [Nat.add_assoc]⟩
  rw [hA2] at hv
  have hv2 : a.eval y = .slice (some ⟨b,o' + q * kk,none⟩) (es.length - q) (c - q) := by rw [hv]; simp [Addr.add]
  simp only [execOp,ho,hv2,h2,Sem.run_bind,Z5 (P := P) (w := w) t b (o' + q * kk) (es.length - q) (c - q) k i h0 (by omega),Result.andThen_ok]
  rfl
end
end
section
open Go.RowKit

theorem st_el {bs : List TBody} {i j : Nat} {p p' : TBody} {ts : List T} (h : splice (Enc.e p) j ts = Enc.e p') : els (bs.set i p') = (els (bs.set i p)).set i (splice (Enc.e p) j ts) := by
 rw [h,els,els,← List.map_set,List.set_set]
theorem st_el0 {bs : List TBody} {i j : Nat} {p p' : TBody} {ts : List T} (h : splice (Enc.e p) j ts = Enc.e p') : els (bs.set i p') = (els bs).set i (splice (Enc.e p) j ts) := by
 rw [h,els,els,← List.map_set]
def lifeM (p : TBody) : TBody := ⟨p.Kind,p.Owner,p.X,p.Y,p.VX,p.VY,p.Aim,p.Life - 1,p.Timer⟩
def stopX (p : TBody) : TBody := ⟨p.Kind,p.Owner,p.X,p.Y,0,p.VY,p.Aim,p.Life - 1,p.Timer⟩
def stopY (p : TBody) : TBody := ⟨p.Kind,p.Owner,p.X,p.Y,0,0,p.Aim,p.Life - 1,p.Timer⟩
def downM (p : TBody) : TBody := ⟨p.Kind,p.Owner,p.X,p.Y,0,0,p.Aim,p.Life - 1,20⟩
theorem hit_alive {p : TBody} (h : ¬ p.Life - 1 = 0) : hitB p = lifeM p := by simp only [hitB,lifeM,if_neg h]
theorem hit_down {p : TBody} (h : p.Life - 1 = 0) : hitB p = downM p := by simp only [hitB,downM,if_pos h]
theorem met_I {bs : List TBody} {b : TBody} {o : Int} {n k : Nat} (h : metF bs b o n = some k) : metI bs b o n = k := by rw [metI,h]
theorem met_no {bs : List TBody} {b : TBody} {o : Int} {n : Nat} (h : metF bs b o n = none) : metI bs b o n = -1 := by rw [metI,h]
theorem tl_el {bs : List TBody} {ss : List Int} {k : Nat} {b : TBody} (h : bs[ss.length + k]? = some b) : (els bs)[(els ss).length + (k : Int).toNat]? = some (Enc.e b) := by
 rw [Ym,Int.toNat_natCast,els,List.getElem?_map,h]; rfl
theorem tk_app {bs lf : List TBody} {n m : Nat} (h : m = n) : els (bs.take n ++ lf) = (els bs).take m ++ els lf := by rw [h,Yk,els_takeE2]
theorem els_pl9 (bs : List TBody) : plainT (els bs) := fun e he t ht => by
 obtain ⟨x,_,rfl⟩ := List.mem_map.1 he
 simp only [Enc.e] at ht
 revert ht
 simp only [List.mem_cons,List.not_mem_nil,or_false]
 rintro (rfl | rfl | rfl | rfl | rfl | rfl | rfl | rfl | rfl) <;> exact ⟨_,rfl⟩
theorem els_k9 (bs : List TBody) : ∀ e ∈ els bs,e.length = 9 := fun e he => by
 obtain ⟨x,_,rfl⟩ := List.mem_map.1 he
 rfl
theorem I_stepShots (w : TWorld) (hg : Enc.gd w.Level) (hl : levelOk w.Level = true) (hn4 : 1 ≤ w.Scores.length ∧ w.Scores.length ≤ 4) (hL : LM w.Level w.Scores.length w.Bodies) (hsc : ∀ x ∈ w.Scores,0 ≤ x ∧ x ≤ 1000000) : Con Tryz.prog 199 [.box [.ref 1,jn w.Tick,jn w.Seed,.ref 2,.ref 3],.row 1 (els w.Level.Rows),.row 1 (els w.Scores),.row 9 (els w.Bodies),.gh 0 (.c (.ptr 0 0))] [.c (.ptr 0 0)] [.box [.ref 1,jn w.Tick,jn w.Seed,.ref 2,.ref 3],.row 1 (els w.Level.Rows),.row 1 (els (shS w.Scores.length (w.Bodies.drop w.Scores.length) (w.Bodies,w.Scores) (w.Bodies.drop w.Scores.length).length).2),.row 9 (els ((shS w.Scores.length (w.Bodies.drop w.Scores.length) (w.Bodies,w.Scores) (w.Bodies.drop w.Scores.length).length).1.take w.Scores.length ++ shL w.Scores.length (w.Bodies.drop w.Scores.length) (w.Bodies,w.Scores) (w.Bodies.drop w.Scores.length).length)),.gh 0 (.c (.ptr 0 0))] (.tu []) := by
 have hlb := Ym w.Bodies
 have hls := Ym w.Scores
 have hln := hL.len
 have hT : (w.Bodies.drop w.Scores.length).length = w.Bodies.length - w.Scores.length := List.length_drop
 refine Con.of Tryz.func199 J Tryz.ntmps199 J (fun E => ?_)
 refine Wz [11,20,20] ?_
 refine AWP.pre ?_ (W_nil 2 9 J)
 refine Xh u8_16 [[],[7],[7,8],[7,8,9],[],[11],[11,12],[11,12,13],[11,12,13,14],[7,8,9,10,11,12,13,14,15],[7,8,9,10,11,12,13,14,15,16],[]] [[11,12,13,14,15,18],[11,12,13,14,15,18],[11,12,13,14,15,18],[11,12,13,14,15,18],[7,8,9,10,18],[7,8,9,10,18],[7,8,9,10,18],[7,8,9,10,18],[7,8,9,10,18],[18],[18],[7,8,9,10,11,12,13,14,15,16,17],[0]] J ?_;refine Wz [3,93,33,3,93,33] ?_;refine DR.s (Zs J J J J) J J (DR.s (q_tl J J J J J J (by omega)) J J (DR.s (q_lentl J J J J) J J ?_));refine Wz [3,31,1,13] ?_
 refine AWP.pre (st' := (⟨_,[(0,.o (.c (.ptr 0 0))),(2,.o (.c (.ref 5))),(16,.o (.c (.tl 3 9 (els w.Scores).length))),(17,I (((els w.Bodies).length - (els w.Scores).length : Nat) : Int)),(18,I 0)],[.box [.ref 1,jn w.Tick,jn w.Seed,.ref 2,.ref 3],.row 1 (els w.Level.Rows),.row 1 (els w.Scores),.row 9 (els w.Bodies),.gh 0 (.c (.ptr 0 0)),.row 9 []]⟩ : St)) ?_ (X7 [0,1,2,3,4,5] (by kernel_rfl))
 refine Xi (fun m__ st => ∃ (k : Nat) (bs : List TBody) (ss : List Int) (lf : List TBody),(w.Bodies.drop w.Scores.length).length - k = m__ ∧ (k ≤ (w.Bodies.drop w.Scores.length).length ∧ (bs,ss) = shS w.Scores.length (w.Bodies.drop w.Scores.length) (w.Bodies,w.Scores) k ∧ lf = shL w.Scores.length (w.Bodies.drop w.Scores.length) (w.Bodies,w.Scores) k) ∧ st = (⟨_,[(0,.o (.c (.ptr 0 0))),(2,.o (.c (.ref 5))),(16,.o (.c (.tl 3 9 (els w.Scores).length))),(17,I (((els w.Bodies).length - (els w.Scores).length : Nat) : Int)),(18,I k)],[.box [.ref 1,jn w.Tick,jn w.Seed,.ref 2,.ref 3],.row 1 (els w.Level.Rows),.row 1 (els ss),.row 9 (els bs),.gh 0 (.c (.ptr 0 0)),.row 9 (els lf)]⟩ : St)) _ ⟨_,⟨0,w.Bodies,w.Scores,[],J,⟨by omega,J,J⟩,J⟩,X7 [0,1,2,3,4,5] (by kernel_rfl)⟩ ?_
 rintro m_A _ ⟨k,bs,ss,lf,hk_A,hp_A,rfl⟩
 obtain ⟨hk,hs,hlf⟩ := hp_A
 have hS := (SI.start hL rfl hsc).all (w.Bodies.drop w.Scores.length) k
 rw [← hs] at hS
 obtain ⟨hSL,hSn,hSt,hSs,hSc⟩ := hS
 simp only at hSL hSn hSt hSs hSc
 have hll := Ym lf
 have hlk : lf.length ≤ k := by rw [hlf]; exact shL_le k
 have hlbs := Ym bs
 have hlss := Ym ss
 by_cases hlt : k < (w.Bodies.drop w.Scores.length).length
 ·have hb0 : decide ((k : Int) < (((els w.Bodies).length - (els w.Scores).length : Nat) : Int)) = true := decide_eq_true (by omega)
  obtain ⟨b,hb⟩ := Kb hlt
  have hbb : bs[w.Scores.length + k]? = some b := by rw [hSt _ (by omega),← List.getElem?_drop]; exact hb
  have hB := (hSL.at_ _ b hbb).1
  have hpl := (hB.placed hl).1
  refine Wz [4,10,21,46,29,4] ?_;refine zx (q_attl J J J J J J (by omega) (by omega)) J ?_
  have he := tl_el hbb
  with_reducible refine Xe ?_
  refine zx (Q6 J J J J (by assumption) J J) J ?_
  with_reducible refine K_alloc ?_
  refine M1 (Qx J J J) J J ?_
  with_reducible refine Xd ?_
  refine Wz [37] ?_
  refine AWP.pre (st' := (⟨_,[(0,.o (.c (.ptr 0 0))),(2,.o (.c (.ref 5))),(16,.o (.c (.tl 3 9 (els w.Scores).length))),(17,I (((els w.Bodies).length - (els w.Scores).length : Nat) : Int)),(18,I k),(4,.o (.c (.ptr 6 0)))],[.box [.ref 1,jn w.Tick,jn w.Seed,.ref 2,.ref 3],.row 1 (els w.Level.Rows),.row 1 (els ss),.row 9 (els bs),.gh 0 (.c (.ptr 0 0)),.row 9 (els lf),.box ((Enc.e b).map (V1.rd []))]⟩ : St)) ?_ (X7 [0,1,2,3,4,5,6] (by kernel_rfl))
  clear he
  by_cases hK : b.Kind = 1
  case neg =>
   have f1 : decide (b.Kind ≠ 1) = true := decide_eq_true hK
   obtain ⟨n1,n2,_⟩ := sh_skip hb hK hs hlf
   refine Wz [20,5,69,9,7,27,54,111,2,143,162,113,81,163] ?_
   refine ⟨_,(by omega),_,⟨k + 1,bs,ss,lf ++ [b],J,⟨by omega,n1,n2⟩,J⟩,(by rw [Yk]; exact X7 [0,1,2,3,4,5] (by kernel_rfl))⟩
  have f1 : decide (b.Kind ≠ 1) = false := decide_eq_false (fun q => q hK)
  have cm := I_playerMet ⟨w.Level,w.Tick,w.Seed,ss,bs⟩ b b.Owner (by simp only; omega) (by simp only; omega) (fun j p _ h => ((hSL.at_ j p h).1.placed hl).1) hpl
  simp only [hSs] at cm
  refine Wz [20,5,69,35,7,27,17] ?_;refine X4 (lo := [_,_,_,_]) (gs := [(0,.c (.ptr 0 0)),(6,.c (.ref 3))]) (lo' := [_,_,_,_]) (new := []) [0,1,2,3] [(0,0,.ptr 0 0),(1,0,.ref 3)] (cm) J J J J J J J J J J J J J J J J J ?_;refine Wz [56,48,1] ?_
  refine AWP.pre (st' := (⟨_,[(0,.o (.c (.ptr 0 0))),(2,.o (.c (.ref 5))),(16,.o (.c (.tl 3 9 (els w.Scores).length))),(17,I (((els w.Bodies).length - (els w.Scores).length : Nat) : Int)),(18,I k),(4,.o (.c (.ptr 6 0))),(5,I (metI bs b b.Owner w.Scores.length)),(35,B (decide (metI bs b b.Owner w.Scores.length < 0)))],[.box [.ref 1,jn w.Tick,jn w.Seed,.ref 2,.ref 3],.row 1 (els w.Level.Rows),.row 1 (els ss),.row 9 (els bs),.gh 0 (.c (.ptr 0 0)),.row 9 (els lf),.box ((Enc.e b).map (V1.rd []))]⟩ : St)) ?_ (X7 [0,1,2,3,4,5,6] (by kernel_rfl))
  cases hm : metF bs b b.Owner w.Scores.length with
  | none =>
   obtain ⟨mi,hmi⟩ : ∃ mi : Int,metI bs b b.Owner w.Scores.length = mi := ⟨_,rfl⟩
   rw [hmi]
   rw [met_no hm] at hmi
   have f2 : decide (mi < 0) = true := decide_eq_true (by omega)
   rw [f2]
   obtain ⟨n1,n2,_⟩ := sh_miss hb hm hs hlf
   refine Wz [46,7,27,54,111,2,143,162,113,81,163] ?_
   refine ⟨_,(by omega),_,⟨k + 1,bs,ss,lf ++ [b],J,⟨by omega,n1,n2⟩,J⟩,(by rw [Yk]; exact X7 [0,1,2,3,4,5] (by kernel_rfl))⟩
  | some j =>
   rw [met_I hm]
   have f2 : decide ((j : Int) < 0) = false := decide_eq_false (by omega)
   obtain ⟨hj,hc⟩ := metF_lt hm
   obtain ⟨p,hp,hpl,_,_⟩ := metC_life hc
   have hpB := (hSL.at_ j p hp).1.f
   have hjl := Yx hp
   obtain ⟨n1,n2,_⟩ := sh_hit hb hK hm hp hs hlf
   have he := Yo hp
   refine Wz [47,68,7,104,17,0,110,2,7] ?_;refine zx (q_nile J J J) J ?_;refine Wz [164,144,73] ?_;refine zx (q_nile J J J) J ?_;refine Wz [164,139,1,7] ?_;refine zx (q_nile J J J) J (zx (Zo J J J J (by decide)) J ?_);refine AL.weak (st' := (⟨_,[(0,.o (.c (.ptr 0 0))),(2,.o (.c (.ref 5))),(16,.o (.c (.tl 3 9 (els w.Scores).length))),(17,I (((els w.Bodies).length - (els w.Scores).length : Nat) : Int)),(18,I k),(4,.o (.c (.ptr 6 0))),(6,.o (.c (.el 3 9 j 0))),(55,.o (.c (.el 3 9 j 7)))],[.box [.ref 1,jn w.Tick,jn w.Seed,.ref 2,.ref 3],.row 1 (els w.Level.Rows),.row 1 (els ss),.row 9 (els (bs.set j (lifeM p))),.gh 0 (.c (.ptr 0 0)),.row 9 (els lf),.box ((Enc.e b).map (V1.rd []))]⟩ : St)) (X8 [0,1,2,3,4,5,6] (by decide) J ((by exact rwBo (st_el0 J))) (.c J (.c J (.c J (.c J (.c J (.c J (.c J (.c J (.nil)))))))))) ?_
   clear he
   have he : (els (bs.set j (lifeM p)))[(j : Int).toNat]? = some (Enc.e (lifeM p)) := Yo (by rw [List.getElem?_set_self hjl])
   by_cases hz : p.Life - 1 = 0
   case neg =>
    have f3 : decide (p.Life - 1 = 0) = false := decide_eq_false hz
    rw [hit_alive hz,if_neg hz] at n1
    refine Wz [144,19,45,38] ?_
    refine ⟨_,(by omega),_,⟨k + 1,bs.set j (lifeM p),ss,lf,J,⟨by omega,n1,n2⟩,J⟩,X7 [0,1,2,3,4,5] (by kernel_rfl)⟩
   have f3 : decide (p.Life - 1 = 0) = true := decide_eq_true hz
   rw [hit_down hz,if_pos hz] at n1
   have ho := hB.o
   obtain ⟨q,hq⟩ : ∃ q : Nat,b.Owner = q := ⟨b.Owner.toNat,by omega⟩
   obtain ⟨s,hs1⟩ := Kb (xs := ss) (i := q) (by omega)
   have cp := I_addScore ⟨w.Level,w.Tick,w.Seed,ss,bs.set j (lifeM p)⟩ q s hs1 (hSc s (List.mem_of_getElem? hs1))
   simp only [← hq] at cp
   rw [hq,Int.toNat_natCast] at n1
   refine Wz [144,19,9,7,17] ?_;refine X4 (lo := [_,_,_,_]) (gs := [(0,.c (.ptr 0 0)),(5,.c (.ref 3))]) (lo' := [_,_,_,_]) (new := []) [0,1,2,3] [(0,0,.ptr 0 0),(1,0,.ref 3)] (cp) J J J J J J J J J J J J J J J J J ?_;refine Wz [1,7] ?_;refine zx (q_nile J J J) J ?_;refine Wz [164,139,1,7] ?_;refine zx (q_nile J J J) J (zx (Zo J J J J (by decide)) J ?_);refine AL.weak (st' := (⟨_,[(0,.o (.c (.ptr 0 0))),(2,.o (.c (.ref 5))),(16,.o (.c (.tl 3 9 (els w.Scores).length))),(17,I (((els w.Bodies).length - (els w.Scores).length : Nat) : Int)),(18,I k),(4,.o (.c (.ptr 6 0))),(6,.o (.c (.el 3 9 j 0))),(67,.o (.c (.el 3 9 j 5)))],[.box [.ref 1,jn w.Tick,jn w.Seed,.ref 2,.ref 3],.row 1 (els w.Level.Rows),.row 1 (els (addM ss q)),.row 9 (els (bs.set j (stopX p))),.gh 0 (.c (.ptr 0 0)),.row 9 (els lf),.box ((Enc.e b).map (V1.rd []))]⟩ : St)) (X8 [0,1,2,3,4,5,6] (by decide) J ((by exact rwBo (st_el J))) (.c J (.c J (.c J (.c J (.c J (.c J (.c J (.c J (.nil)))))))))) ?_
   clear he
   have he : (els (bs.set j (stopX p)))[(j : Int).toNat]? = some (Enc.e (stopX p)) := Yo (by rw [List.getElem?_set_self hjl])
   refine Wz [139,1,49] ?_;refine zx (q_nile J J J) J (zx (Zo J J J J (by decide)) J ?_);refine AL.weak (st' := (⟨_,[(0,.o (.c (.ptr 0 0))),(2,.o (.c (.ref 5))),(16,.o (.c (.tl 3 9 (els w.Scores).length))),(17,I (((els w.Bodies).length - (els w.Scores).length : Nat) : Int)),(18,I k),(4,.o (.c (.ptr 6 0))),(6,.o (.c (.el 3 9 j 0))),(70,.o (.c (.el 3 9 j 8)))],[.box [.ref 1,jn w.Tick,jn w.Seed,.ref 2,.ref 3],.row 1 (els w.Level.Rows),.row 1 (els (addM ss q)),.row 9 (els (bs.set j (stopY p))),.gh 0 (.c (.ptr 0 0)),.row 9 (els lf),.box ((Enc.e b).map (V1.rd []))]⟩ : St)) (X8 [0,1,2,3,4,5,6] (by decide) J ((by exact rwBo (st_el J))) (.c J (.c J (.c J (.c J (.c J (.c J (.c J (.c J (.nil)))))))))) ?_
   clear he
   have he : (els (bs.set j (stopY p)))[(j : Int).toNat]? = some (Enc.e (stopY p)) := Yo (by rw [List.getElem?_set_self hjl])
   refine Wz [139,74,38] ?_
   refine ⟨_,(by omega),(fun (k : Nat) (bs : List TBody) (ss : List Int) (lf : List TBody) => (⟨_,[(0,.o (.c (.ptr 0 0))),(2,.o (.c (.ref 5))),(16,.o (.c (.tl 3 9 (els w.Scores).length))),(17,I (((els w.Bodies).length - (els w.Scores).length : Nat) : Int)),(18,I k)],[.box [.ref 1,jn w.Tick,jn w.Seed,.ref 2,.ref 3],.row 1 (els w.Level.Rows),.row 1 (els ss),.row 9 (els bs),.gh 0 (.c (.ptr 0 0)),.row 9 (els lf)]⟩ : St)) (k + 1) (bs.set j (downM p)) (addM ss q) (lf),⟨k + 1,bs.set j (downM p),addM ss q,lf,J,⟨by omega,n1,n2⟩,J⟩,X8 [0,1,2,3,4,5] (by decide) J ((by exact rwBo (st_el J))) (.c J (.c J (.c J (.c J (.c J (.nil))))))⟩
 ·have hb0 : decide ((k : Int) < (((els w.Bodies).length - (els w.Scores).length : Nat) : Int)) = false := decide_eq_false (by omega)
  have hk : k = (w.Bodies.drop w.Scores.length).length := by omega
  rw [hk] at hs hlf
  rw [← hs,← hlf]
  have hq : ((els ss).length : Int).toNat = w.Scores.length := by omega
  have hpl := els_pl9 lf
  have hkk := els_k9 lf
  refine Wz [4,10,21,47,32] ?_;refine Xh u8_17 [[],[],[73],[73,74],[73,74,75],[],[77],[77,78],[77,78,79],[77,78,79,80],[73,74,75,76,77,78,79,80,81],[],[73,74,75,76,77,78,79,80,81,82,83],[72,73,74,75,76,77,78,79,80,81,82,83,84],[72,73,74,75,76,77,78,79,80,81,82,83,84,85],[72,73,74,75,76,77,78,79,80,81,82,83,84,85,86]] [[73,74,75,76,77,78,79,80,81,82,83,84],[72,77,78,79,80,81,83],[72,77,78,79,80,81,83],[72,77,78,79,80,81,83],[72,77,78,79,80,81,83],[72,73,74,75,76,83],[72,73,74,75,76,83],[72,73,74,75,76,83],[72,73,74,75,76,83],[72,73,74,75,76,83],[72,83],[72,73,74,75,76,77,78,79,80,81,82],[72],[],[],[],[0,1]] J ?_;refine Wz [3,3,93,33,3,93,33] ?_;refine DR.s (Zs J J J J) J J (DR.s (q_hd J J J J J J (by omega)) J J ?_);refine Wz [3,31] ?_
  refine AL.weak (Wk.head (p := 3) (els ss).length J (by omega) (by repeat' (first | exact trivial | exact rfl | refine And.intro ?_ ?_)) (by repeat' (first | exact trivial | exact rfl | refine And.intro ?_ ?_))) ?_
  have ht2 : ((els bs).take (els ss).length).length = w.Scores.length := by rw [List.length_take]; omega
  refine AL.weak (st' := (⟨_,[(72,.o (.c (.ptr 0 0))),(82,.o (.c (.ref 3))),(83,.o (.c (.ref 5)))],[.box [.ref 1,jn w.Tick,jn w.Seed,.ref 2,.un],.row 1 (els w.Level.Rows),.row 1 (els ss),.row 9 ((els bs).take (els ss).length),.gh 0 (.c (.ptr 0 0)),.row 9 (els lf)]⟩ : St)) (X7 [0,1,2,3,4,5] (by kernel_rfl)) ?_;refine M_app J J J J J J J J J J hpl hkk (by omega) (by omega) ?_;refine Wz [104,41,74] ?_;refine F_n ?_
  exact E_none J (X6 [0,1,2,3,4] (by decide) J (by exact rwBo (tk_app hq)) J)
theorem I_stepItems (w : TWorld) (hg : Enc.gd w.Level) (hl : levelOk w.Level = true) (hn4 : 1 ≤ w.Scores.length ∧ w.Scores.length ≤ 4) (hL : LM w.Level w.Scores.length w.Bodies) (hsc : ∀ x ∈ w.Scores,0 ≤ x ∧ x ≤ 1000000) : Con Tryz.prog 200 [.box [.ref 1,jn w.Tick,jn w.Seed,.ref 2,.ref 3],.row 1 (els w.Level.Rows),.row 1 (els w.Scores),.row 9 (els w.Bodies),.gh 0 (.c (.ptr 0 0))] [.c (.ptr 0 0)] [.box [.ref 1,jn w.Tick,jn w.Seed,.ref 2,.ref 3],.row 1 (els w.Level.Rows),.row 1 (els (itS w.Scores.length w.Bodies (w.Bodies.drop w.Scores.length) w.Scores (w.Bodies.drop w.Scores.length).length)),.row 9 (els (w.Bodies.take w.Scores.length ++ itL w.Scores.length w.Bodies (w.Bodies.drop w.Scores.length) (w.Bodies.drop w.Scores.length).length)),.gh 0 (.c (.ptr 0 0))] (.tu []) := by
 have hlb := Ym w.Bodies
 have hls := Ym w.Scores
 have hln := hL.len
 have hT : (w.Bodies.drop w.Scores.length).length = w.Bodies.length - w.Scores.length := List.length_drop
 refine Con.of Tryz.func200 J Tryz.ntmps200 J (fun E => ?_)
 refine Wz [11,20,20] ?_
 refine AWP.pre ?_ (W_nil 2 9 J)
 refine Xh u8_16 [[],[6],[6,7],[6,7,8],[],[10],[10,11],[10,11,12],[10,11,12,13],[6,7,8,9,10,11,12,13,14],[6,7,8,9,10,11,12,13,14,15],[]] [[10,11,12,13,14,17],[10,11,12,13,14,17],[10,11,12,13,14,17],[10,11,12,13,14,17],[6,7,8,9,17],[6,7,8,9,17],[6,7,8,9,17],[6,7,8,9,17],[6,7,8,9,17],[17],[17],[6,7,8,9,10,11,12,13,14,15,16],[0]] J ?_;refine Wz [3,93,33,3,93,33] ?_;refine DR.s (Zs J J J J) J J (DR.s (q_tl J J J J J J (by omega)) J J (DR.s (q_lentl J J J J) J J ?_));refine Wz [3,31,1,13] ?_
 refine AWP.pre (st' := (⟨_,[(0,.o (.c (.ptr 0 0))),(2,.o (.c (.ref 5))),(15,.o (.c (.tl 3 9 (els w.Scores).length))),(16,I (((els w.Bodies).length - (els w.Scores).length : Nat) : Int)),(17,I 0)],[.box [.ref 1,jn w.Tick,jn w.Seed,.ref 2,.ref 3],.row 1 (els w.Level.Rows),.row 1 (els w.Scores),.row 9 (els w.Bodies),.gh 0 (.c (.ptr 0 0)),.row 9 []]⟩ : St)) ?_ (X7 [0,1,2,3,4,5] (by kernel_rfl))
 refine Xi (fun m__ st => ∃ (k : Nat) (ss : List Int) (lf : List TBody),(w.Bodies.drop w.Scores.length).length - k = m__ ∧ (k ≤ (w.Bodies.drop w.Scores.length).length ∧ ss = itS w.Scores.length w.Bodies (w.Bodies.drop w.Scores.length) w.Scores k ∧ lf = itL w.Scores.length w.Bodies (w.Bodies.drop w.Scores.length) k) ∧ st = (⟨_,[(0,.o (.c (.ptr 0 0))),(2,.o (.c (.ref 5))),(15,.o (.c (.tl 3 9 (els w.Scores).length))),(16,I (((els w.Bodies).length - (els w.Scores).length : Nat) : Int)),(17,I k)],[.box [.ref 1,jn w.Tick,jn w.Seed,.ref 2,.ref 3],.row 1 (els w.Level.Rows),.row 1 (els ss),.row 9 (els w.Bodies),.gh 0 (.c (.ptr 0 0)),.row 9 (els lf)]⟩ : St)) _ ⟨_,⟨0,w.Scores,[],J,⟨by omega,J,J⟩,J⟩,X7 [0,1,2,3,4,5] (by kernel_rfl)⟩ ?_
 rintro m_A _ ⟨k,ss,lf,hk_A,hp_A,rfl⟩
 obtain ⟨hk,hs,hlf⟩ := hp_A
 have hSs : ss.length = w.Scores.length := by rw [hs]; exact (itS_ok rfl hsc).1
 have hSc : ∀ x ∈ ss,0 ≤ x ∧ x ≤ 1000000 := by rw [hs]; exact (itS_ok rfl hsc).2
 have hll := Ym lf
 have hlk : lf.length ≤ k := by rw [hlf]; exact itL_le
 have hlss := Ym ss
 by_cases hlt : k < (w.Bodies.drop w.Scores.length).length
 ·have hb0 : decide ((k : Int) < (((els w.Bodies).length - (els w.Scores).length : Nat) : Int)) = true := decide_eq_true (by omega)
  obtain ⟨b,hb⟩ := Kb hlt
  have hbb : w.Bodies[w.Scores.length + k]? = some b := by rw [← List.getElem?_drop]; exact hb
  have hB := (hL.at_ _ b hbb).1
  have hpl := (hB.placed hl).1
  refine Wz [4,10,21,46,29,4] ?_;refine zx (q_attl J J J J J J (by omega) (by omega)) J ?_
  have he := tl_el hbb
  with_reducible refine Xe ?_
  refine zx (Q6 J J J J (by assumption) J J) J ?_
  with_reducible refine K_alloc ?_
  refine M1 (Qx J J J) J J ?_
  with_reducible refine Xd ?_
  refine Wz [37] ?_
  refine AWP.pre (st' := (⟨_,[(0,.o (.c (.ptr 0 0))),(2,.o (.c (.ref 5))),(15,.o (.c (.tl 3 9 (els w.Scores).length))),(16,I (((els w.Bodies).length - (els w.Scores).length : Nat) : Int)),(17,I k),(4,.o (.c (.ptr 6 0)))],[.box [.ref 1,jn w.Tick,jn w.Seed,.ref 2,.ref 3],.row 1 (els w.Level.Rows),.row 1 (els ss),.row 9 (els w.Bodies),.gh 0 (.c (.ptr 0 0)),.row 9 (els lf),.box ((Enc.e b).map (V1.rd []))]⟩ : St)) ?_ (X7 [0,1,2,3,4,5,6] (by kernel_rfl))
  clear he
  by_cases hK : b.Kind = 2
  case neg =>
   have f1 : decide (b.Kind = 2) = false := decide_eq_false hK
   obtain ⟨n1,n2,_⟩ := it_skip hb hK hs hlf
   refine Wz [20,5,19,35,49,27,54,111,51,38] ?_
   refine ⟨_,(by omega),_,⟨k + 1,ss,lf ++ [b],J,⟨by omega,n1,n2⟩,J⟩,(by rw [Yk]; exact X7 [0,1,2,3,4,5] (by kernel_rfl))⟩
  have f1 : decide (b.Kind = 2) = true := decide_eq_true hK
  have cm := I_playerMet ⟨w.Level,w.Tick,w.Seed,ss,w.Bodies⟩ b (-1) (by simp only; omega) (by simp only; omega) (fun j p _ h => ((hL.at_ j p h).1.placed hl).1) hpl
  simp only [hSs] at cm
  refine Wz [20,5,19,9,7,27] ?_;refine X4 (lo := [_,_,_,_]) (gs := [(0,.c (.ptr 0 0)),(6,.c (.ref 3))]) (lo' := [_,_,_,_]) (new := []) [0,1,2,3] [(0,0,.ptr 0 0),(1,0,.ref 3)] (cm) J J J J J J J J J J J J J J J J J ?_;refine Wz [2,7,165,1] ?_
  refine AWP.pre (st' := (⟨_,[(0,.o (.c (.ptr 0 0))),(2,.o (.c (.ref 5))),(15,.o (.c (.tl 3 9 (els w.Scores).length))),(16,I (((els w.Bodies).length - (els w.Scores).length : Nat) : Int)),(17,I k),(4,.o (.c (.ptr 6 0))),(5,I (metI w.Bodies b (-1) w.Scores.length)),(28,B (decide (metI w.Bodies b (-1) w.Scores.length ≥ 0)))],[.box [.ref 1,jn w.Tick,jn w.Seed,.ref 2,.ref 3],.row 1 (els w.Level.Rows),.row 1 (els ss),.row 9 (els w.Bodies),.gh 0 (.c (.ptr 0 0)),.row 9 (els lf),.box ((Enc.e b).map (V1.rd []))]⟩ : St)) ?_ (X7 [0,1,2,3,4,5,6] (by kernel_rfl))
  cases hm : metF w.Bodies b (-1) w.Scores.length with
  | none =>
   obtain ⟨mi,hmi⟩ : ∃ mi : Int,metI w.Bodies b (-1) w.Scores.length = mi := ⟨_,rfl⟩
   rw [hmi]
   rw [met_no hm] at hmi
   have f2 : decide (mi ≥ 0) = false := decide_eq_false (by omega)
   rw [f2]
   obtain ⟨n1,n2,_⟩ := it_miss hb hm hs hlf
   refine Wz [47,68,49,27,54,111,51,38] ?_
   refine ⟨_,(by omega),_,⟨k + 1,ss,lf ++ [b],J,⟨by omega,n1,n2⟩,J⟩,(by rw [Yk]; exact X7 [0,1,2,3,4,5] (by kernel_rfl))⟩
  | some j =>
   rw [met_I hm]
   have f2 : decide ((j : Int) ≥ 0) = true := decide_eq_true (by omega)
   obtain ⟨hj,hc⟩ := metF_lt hm
   obtain ⟨s,hs1⟩ := Kb (xs := ss) (i := j) (by omega)
   have cp := I_addScore ⟨w.Level,w.Tick,w.Seed,ss,w.Bodies⟩ j s hs1 (hSc s (List.mem_of_getElem? hs1))
   simp only at cp
   obtain ⟨n1,n2,_⟩ := it_hit hb hK hm hs hlf
   refine Wz [46,39] ?_;refine X4 (lo := [_,_,_,_]) (gs := [(0,.c (.ptr 0 0)),(5,.c (.ref 3))]) (lo' := [_,_,_,_]) (new := []) [0,1,2,3] [(0,0,.ptr 0 0),(1,0,.ref 3)] (cp) J J J J J J J J J J J J J J J J J ?_;refine Wz [1,143,162,113,81,163] ?_
   refine ⟨_,(by omega),_,⟨k + 1,addM ss j,lf,J,⟨by omega,n1,n2⟩,J⟩,X7 [0,1,2,3,4,5] (by kernel_rfl)⟩
 ·have hb0 : decide ((k : Int) < (((els w.Bodies).length - (els w.Scores).length : Nat) : Int)) = false := decide_eq_false (by omega)
  have hk : k = (w.Bodies.drop w.Scores.length).length := by omega
  rw [hk] at hs hlf
  rw [← hs,← hlf]
  have hq : ((els ss).length : Int).toNat = w.Scores.length := by omega
  have hpl := els_pl9 lf
  have hkk := els_k9 lf
  refine Wz [4,10,21,47,32] ?_;refine Xh u8_17 [[],[],[38],[38,39],[38,39,40],[],[42],[42,43],[42,43,44],[42,43,44,45],[38,39,40,41,42,43,44,45,46],[],[38,39,40,41,42,43,44,45,46,47,48],[37,38,39,40,41,42,43,44,45,46,47,48,49],[37,38,39,40,41,42,43,44,45,46,47,48,49,50],[37,38,39,40,41,42,43,44,45,46,47,48,49,50,51]] [[38,39,40,41,42,43,44,45,46,47,48,49],[37,42,43,44,45,46,48],[37,42,43,44,45,46,48],[37,42,43,44,45,46,48],[37,42,43,44,45,46,48],[37,38,39,40,41,48],[37,38,39,40,41,48],[37,38,39,40,41,48],[37,38,39,40,41,48],[37,38,39,40,41,48],[37,48],[37,38,39,40,41,42,43,44,45,46,47],[37],[],[],[],[0,1]] J ?_;refine Wz [3,3,93,33,3,93,33] ?_;refine DR.s (Zs J J J J) J J (DR.s (q_hd J J J J J J (by omega)) J J ?_);refine Wz [3,31] ?_
  refine AL.weak (Wk.head (p := 3) (els ss).length J (by omega) (by repeat' (first | exact trivial | exact rfl | refine And.intro ?_ ?_)) (by repeat' (first | exact trivial | exact rfl | refine And.intro ?_ ?_))) ?_
  have ht2 : ((els w.Bodies).take (els ss).length).length = w.Scores.length := by rw [List.length_take]; omega
  refine AL.weak (st' := (⟨_,[(37,.o (.c (.ptr 0 0))),(47,.o (.c (.ref 3))),(48,.o (.c (.ref 5)))],[.box [.ref 1,jn w.Tick,jn w.Seed,.ref 2,.un],.row 1 (els w.Level.Rows),.row 1 (els ss),.row 9 ((els w.Bodies).take (els ss).length),.gh 0 (.c (.ptr 0 0)),.row 9 (els lf)]⟩ : St)) (X7 [0,1,2,3,4,5] (by kernel_rfl)) ?_;refine M_app J J J J J J J J J J hpl hkk (by omega) (by omega) ?_;refine Wz [104,41,74] ?_;refine F_n ?_
  exact E_none J (X6 [0,1,2,3,4] (by decide) J (by exact rwBo (tk_app hq)) J)
end
section
open Go.RowKit

section
variable {P : Program} {w : World}
theorem run_copy_src (t tx ty e : TypeId) (i : TypeInfo) (ht : P.underlying t = some (.slice e)) (hi : P.info? e = some i) (b o c n : Nat) (x : Value) (news : List Value) (hs : Src P i.size tx x n news w) (hc : ∀ j,j < news.length → (w.cell? ⟨b,o + j,none⟩).isSome = true) (hf : ∀ j,j < news.length → w.frozen? ⟨b,o + j,none⟩ = false) :
  (Builtin.copy_ #[t,tx] ty #[.slice (some ⟨b,o,none⟩) n c,x]).run P w = .ok (.int .i64 n) (w.setCells b o news) := by
 have hst := run_storeCells_cells (P := P) b o news 0 w (by simpa using hc) (by simpa using hf) hs.one
 simp only [Nat.add_zero] at hst
 simp [Builtin.copy_,run_underlying ht,Go.sizeOf,typeInfo,hi,hs.len,hs.cells,hst,goInt]
theorem OW.fill {k : Nat} {es es' : List (List T)} {v : Value} {fp : List Nat} {t tx ty e : TypeId} {zs : List Value} {by_ : Nat} [hm : TyMake P t e zs by_] (h : OW w (.sl k es) v fp) (hnd : fp.Nodup) (hkz : k = zs.length) {x : Value} (hl : es'.length = es.length) (h0 : 0 < es.length) (hpl : plainT es') (hkk : ∀ e ∈ es',e.length = k)
  (hsrc : Src P k tx x es'.length (flatV (plainV' es') es'.length k) w) :
  ∃ w' fp',(Builtin.copy_ #[t,tx] ty #[v,x]).run P w = .ok (.int .i64 es.length) w' ∧ OW w' (.sl k es') v fp' ∧ fp'.Nodup ∧ (∀ b ∈ fp',b ∈ fp) ∧ Keeps w w' fp := by
 obtain ⟨i,hi,hzz⟩ := Option.map_eq_some_iff.1 hm.info
 simp only [Prod.mk.injEq] at hzz
 obtain ⟨hz1,hs,hb1⟩ := hzz
 have hsk : i.size = k := by rw [hs,hkz]
 have hsrc2 : Src P i.size tx x es.length (flatV (plainV' es') es'.length k) w := by rw [hsk,← hl]; exact hsrc
 rcases h.open_ with ⟨rfl,rfl,rfl⟩ | ⟨b,o,c,tid,cur,fz,val,fps,rfl,rfl,hg,hzf,hc,hcm,hcs,hp,hk,hf,hfk,hv,ht⟩
 ·simp at h0
 ·have hmul : es'.length * k ≤ c * k := Nat.mul_le_mul_right _ (by omega)
  have hr := run_copy_src (P := P) (w := w) t tx ty e i hm.slice hi b o c es.length x _ hsrc2 (fun j hj => by
   rw [cell_of_row w b _ cur tid fz hg]
   rw [Yu] at hj
   simp
   omega) (fun j hj => by
   rw [Yu] at hj
   exact frozen_fz hg hzf (by omega))
  obtain ⟨cur',k1,k2,k3,k4⟩ := Yz b tid fz (flatV (plainV' es') es'.length k) o w cur hg (by rw [Yu]; omega)
  obtain ⟨s1,s2,s3,s4,s5⟩ := Z9 w b (flatV (plainV' es') es'.length k) o
  have hnil : (es'.map fun e => e.map fun _ => ([] : List Nat)).flatten.flatten = [] := by
   rw [List.flatten_eq_nil_iff]
   intro l hl
   rw [List.mem_flatten] at hl
   obtain ⟨f,hf,hl⟩ := hl
   obtain ⟨e,_,rfl⟩ := List.mem_map.1 hf
   obtain ⟨_,_,rfl⟩ := List.mem_map.1 hl
   rfl
  refine ⟨_,b :: (es'.map fun e => e.map fun _ => ([] : List Nat)).flatten.flatten,hr,?_,by rw [hnil]; simp,fun x hx => ?_,s1,s2,s3,by omega,fun b'' _ hb'' => s5 b'' fun e => hb'' (by simp [e])⟩
  ·rw [← hl]
   refine .sl es' b o k c tid cur' fz (plainV' es') (es'.map fun e => e.map fun _ => []) k1 (by rw [k2]; exact hzf) (by omega) hcm (by rw [k2]; exact hcs) hp hkk (by simp) (fun f hf => ?_) (fun i j hi hj => ?_) fun i j e t fs f h6 h7 h8 h9 => ?_
   ·obtain ⟨e,h6,rfl⟩ := List.mem_map.1 hf
    simpa using hkk e h6
   ·have h1 := ij_lt hi hj
    rw [Nat.add_assoc,k3 _ (by rw [Yu]; exact h1)]
    exact flatV_at hi hj
   ·rw [List.getElem?_map,h6] at h8
    simp only [Option.map_some,Option.some.injEq] at h8
    subst h8
    rw [List.getElem?_map,h7] at h9
    simp only [Option.map_some,Option.some.injEq] at h9
    subst h9
    obtain ⟨u,rfl⟩ := hpl e (Yy h6) t (Yy h7)
    rw [plainV'_at h6 h7]
    refine .v u ?_
    have hi := Yx h6
    have hj : j < k := by rw [← hkk e (Yy h6)]; exact Yx h7
    have := hsrc.one _ (Yy (flatV_at (val := plainV' es') hi hj))
    rwa [plainV'_at h6 h7] at this
  ·rw [hnil] at hx
   rcases List.mem_cons.1 hx with rfl | hx
   ·simp
   ·cases hx
end
section
variable {P : Program} {E : Env} {ops : Array Oper} {o : Oper} {st : St} {n : Nat} {rest : List Oper} {QQ : Exit → St → Prop} {t : TypeId} {y z : Operand}
end
end
section
open Go.RowKit
end
end Go.Proofs.YtpmacgnmlmmojaaGreatDoor
