/-
  One element's slice of an owned slice of slices, taken out to be written to. No statement of the program is proved here.
  Conditions: none.
  Literal slices of no elements, and appending to them in statements whose order is open. No statement of the program is proved here.
  Conditions: none.
-/
import Derived.Test.YtbpebmolbdplmaaDDSnapRowk8
import Derived.Test.YtbpebmolbdplmaaDDSnapRowk10
section
set_option linter.unusedSimpArgs false
set_option linter.unusedVariables false
namespace Go.Proofs.Ytbpebmolbdplmaa
open Go.RowKit

def V2.allk (f : V1 → Prop) : V2 → Prop
  | .c x => f x
  | .ag xs => allP f xs
def V.allk (f : V1 → Prop) : V → Prop
  | .o x => x.allk f
  | .tu xs => allP (V2.allk f) xs
  | .iff _ x => x.allk f
def Ob.allk (f : V1 → Prop) : Ob → Prop
  | .box cs => allP f cs
  | .gh _ x => x.allk f
  | _ => True
section
variable {f : V1 → Prop} {g h : V1 → V1} (hgh : ∀ x, f x → g x = h x)
include hgh
theorem V2.allk_eq (x : V2) (hx : x.allk f) : x.mapk g = x.mapk h := by
  cases x with
  | c x => exact congrArg V2.c (hgh x hx)
  | ag xs => exact congrArg V2.ag (allP_map hgh hx)
theorem V.allk_eq (x : V) (hx : x.allk f) : x.mapk g = x.mapk h := by
  cases x with
  | o x => exact congrArg V.o (V2.allk_eq hgh x hx)
  | tu xs => exact congrArg V.tu (allP_map (V2.allk_eq hgh) hx)
  | iff cs x => exact congrArg (V.iff cs) (V2.allk_eq hgh x hx)
theorem Ob.allk_eq (x : Ob) (hx : x.allk f) : x.mapk g = x.mapk h := by
  cases x with
  | box cs => exact congrArg Ob.box (allP_map hgh hx)
  | gh i x => exact congrArg (Ob.gh i) (V2.allk_eq hgh x hx)
  | _ => rfl
end
/-- What is said of elements' cells of p is said of this one. -/
def V1.leok (p kk i j : Nat) : V1 → Prop
  | .le q k a b => match Nat.beq q p with
    | true => k = kk ∧ a = i ∧ b = j
    | false => True
  | _ => True
def V1.tole (p m : Nat) : V1 → V1
  | .le q k a b => match Nat.beq q p with
    | true => .ref m
    | false => (V1.le q k a b).killw [p, m] [p]
  | x => x.killw [p, m] [p]
def V1.tole0 (p m kk i j : Nat) : V1 → V1
  | .le q k a b => match Nat.beq q p with
    | true => if k = kk ∧ a = i ∧ b = j then .ref m else .un
    | false => (V1.le q k a b).killw [p, m] [p]
  | x => x.killw [p, m] [p]
theorem V1.tole_eq {p m kk i j : Nat} (x : V1) (hx : x.leok p kk i j) : x.tole0 p m kk i j = x.tole p m := by
  cases x with
  | le q k a b =>
    simp only [V1.tole0, V1.tole]
    simp only [V1.leok] at hx
    split
    · rename_i hq
      rw [hq] at hx
      exact if_pos hx
    · rfl
  | _ => rfl
theorem Wk.split0 {st : St} {p kk i j k' : Nat} {es es0 : List (List T)} {e : List T} (hp : st.objs[p]? = some (.row kk es)) (he : es[i]? = some e) (hx : e[j]? = some (.sl k' es0)) :
    Wk st ⟨st.n, st.tmps.map fun t => (t.1, t.2.mapk (V1.tole0 p st.objs.length kk i j)), ((st.objs.map (Ob.mapk (V1.tole0 p st.objs.length kk i j))).set p (.row kk (es.set i (splice e j [.un])))) ++ [.row k' es0]⟩ := by
  intro w H F a h1
  obtain ⟨v, fp, e1, e2⟩ := h1.ow hp
  have hnd := h1.ok.nodup p
  rw [e1] at hnd
  have hnil : H st.objs.length = .nil := by
    have := h1.obs st.objs.length
    simpa [List.getD_eq_getElem?_getD, RB] using this
  have hplt := getE_lt hp
  obtain ⟨b, o, c, u, f, rfl, hbf, hcell, hO, hfn, hsub, hback⟩ := e2.inner hnd he hx
  have hlt : ∀ x ∈ fp, x < w.heap.size := fun x hx => h1.ok.lt (p := p) (by rw [e1]; exact hx)
  have hu1 : u.oneCell' = true := OW.one hO
  obtain ⟨fp', g1, g2, g3⟩ := hback w .un [] (fun _ _ _ => rfl) (.un u hu1) List.nodup_nil (fun x hx => by simp at hx) hlt
  have g4 : ∀ x ∈ fp', x ∈ fp ∧ x ∉ f := fun x hx => (g3 x hx).resolve_right (by simp)
  obtain ⟨N, hN⟩ : ∃ N, N = st.objs.length := ⟨_, rfl⟩
  rw [← hN] at hnil ⊢
  have hNp : N ≠ p := by omega
  obtain ⟨H', hH'⟩ : ∃ H' : Hs, H' = fun q => if q = N then .ow (.sl k' es0) u f else if q = p then .ow (.sl kk (es.set i (splice e j [.un]))) (.slice (some ⟨b, o, none⟩) es.length c) fp' else H q := ⟨_, rfl⟩
  have hHN : H' N = .ow (.sl k' es0) u f := by rw [hH']; exact if_pos rfl
  have hHp : H' p = .ow (.sl kk (es.set i (splice e j [.un]))) (.slice (some ⟨b, o, none⟩) es.length c) fp' := by rw [hH']; simp [Ne.symm hNp]
  have hHo : ∀ q, q ≠ N → q ≠ p → H' q = H q := fun q h1 h2 => by rw [hH']; simp only; rw [if_neg h1, if_neg h2]
  have hin : ∀ q x, x ∈ (H' q).fp → (q = N ∧ x ∈ f) ∨ (q = p ∧ x ∈ fp ∧ x ∉ f) ∨ (q ≠ N ∧ q ≠ p ∧ x ∈ (H q).fp) := fun q x hx => by
    by_cases hq : q = N
    · subst hq; rw [hHN] at hx; exact .inl ⟨rfl, hx⟩
    · by_cases hqp : q = p
      · subst hqp; rw [hHp] at hx; exact .inr (.inl ⟨rfl, g4 x hx⟩)
      · rw [hHo q hq hqp] at hx; exact .inr (.inr ⟨hq, hqp, hx⟩)
  have hpf : ∀ x, x ∈ fp → x ∈ (H p).fp := fun x hx => by rw [e1]; exact hx
  have hok : Ok w H' F := by
    refine ⟨fun q => ?_, fun q => ?_, fun q r x h2 h3 => ?_, fun q x h2 => ?_, h1.ok.flt⟩
    · by_cases hq : q = N
      · subst hq; rw [hHN]; exact hO
      · by_cases hqp : q = p
        · subst hqp; rw [hHp]; exact g1
        · rw [hHo q hq hqp]; exact h1.ok.says q
    · by_cases hq : q = N
      · subst hq; rw [hHN]; exact hfn
      · by_cases hqp : q = p
        · subst hqp; rw [hHp]; exact g2
        · rw [hHo q hq hqp]; exact h1.ok.nodup q
    · rcases hin q x h2 with ⟨rfl, k1⟩ | ⟨rfl, k1, k2⟩ | ⟨k1, k2, k3⟩ <;> rcases hin r x h3 with ⟨e5, m1⟩ | ⟨e5, m1, m2⟩ | ⟨m1, m2, m3⟩
      · exact e5.symm
      · exact absurd k1 m2
      · exact absurd (h1.ok.disj r p x m3 (hpf x (hsub x k1))) m2
      · exact absurd m1 k2
      · exact e5.symm
      · exact absurd (h1.ok.disj r q x m3 (hpf x k1)) m2
      · exact absurd (h1.ok.disj q p x k3 (hpf x (hsub x m1))) k2
      · exact absurd (h1.ok.disj q p x k3 (hpf x m1)) k2
      · exact h1.ok.disj q r x k3 m3
    · rcases hin q x h2 with ⟨rfl, k1⟩ | ⟨rfl, k1, k2⟩ | ⟨k1, k2, k3⟩
      · exact h1.ok.free p x (hpf x (hsub x k1))
      · exact h1.ok.free q x (hpf x k1)
      · exact h1.ok.free q x k3
  have hfpo : ∀ q x, x ∈ (H' q).fp → ∃ r, x ∈ (H r).fp := fun q x hx => by
    rcases hin q x hx with ⟨rfl, k1⟩ | ⟨rfl, k1, k2⟩ | ⟨k1, k2, k3⟩
    · exact ⟨p, hpf x (hsub x k1)⟩
    · exact ⟨q, hpf x k1⟩
    · exact ⟨q, k3⟩
  have hghs : ∀ q i v, H' q = .gh i v → ∃ r, H r = .gh i v := fun q i v hq => by
    by_cases hqN : q = N
    · subst hqN; rw [hHN] at hq; cases hq
    · by_cases hqp : q = p
      · subst hqp; rw [hHp] at hq; cases hq
      · exact ⟨q, by rw [← hHo q hqN hqp]; exact hq⟩
  have htn : Turn w H w H' [p, N] := ⟨rfl, rfl, rfl, Nat.le_refl _, fun _ _ _ => rfl, fun q hq => hHo q (fun e => hq (by simp [e])) (fun e => hq (by simp [e])), fun q x hx => .inl (hfpo q x hx), hghs⟩
  have hplace : ∀ q ∈ [p], Place (H q) (H' q) := fun q hq => by
    have : q = p := by simpa using hq
    subst this
    exact .inl ⟨_, _, _, _, _, e1, hHp⟩
  have hone : ∀ x v, R1 w H F x v → R1 w H' F (V1.tole0 p N kk i j x) v := fun x v hx => by
    cases x with
    | le q k a b' =>
      simp only [V1.tole0]
      split
      · rename_i hq
        have hqp := Nat.eq_of_beq_eq_true hq
        subst hqp
        split
        · rename_i hc
          rw [hc.1, hc.2.1, hc.2.2] at hx
          obtain ⟨b2, o2, n2, c2, x2, fp2, k1, k2, k3, k4⟩ := hx
          rw [e1] at k1
          simp only [Pc.ow.injEq, Value.slice.injEq, Option.some.injEq, Addr.mk.injEq] at k1
          obtain ⟨_, ⟨⟨rfl, rfl, _⟩, _, _⟩, _⟩ := k1
          rw [hcell] at k4
          simp only [Option.some.injEq] at k4
          subst k4
          exact ⟨_, _, hHN⟩
        · trivial
      · exact R1.killw h1.ok htn hplace hx
    | _ => exact R1.killw h1.ok htn hplace hx
  refine ⟨H', h1.mapk (V1.tole0 p N kk i j) hone hok _ (fun q => ?_), hfpo, hghs⟩
  by_cases hqN : q = N
  · subst hqN
    rw [getD_of (x := .row k' es0) (by rw [List.getElem?_append_right (by simp; omega)]; simp [hN])]
    exact ⟨_, _, hHN⟩
  by_cases hqp : q = p
  · subst hqp
    rw [getD_of (x := .row kk (es.set i (splice e j [.un]))) (by rw [List.getElem?_append_left (by simpa using hplt)]; simp [hplt])]
    exact ⟨_, _, hHp⟩
  · rcases Nat.lt_or_ge q st.objs.length with hlt2 | hge
    · rw [List.getD_eq_getElem?_getD, List.getElem?_append_left (by simpa using hlt2), List.getElem?_set_ne (Ne.symm hqp), List.getElem?_map]
      have h2 := h1.obs q
      rw [List.getD_eq_getElem?_getD] at h2
      have h3 : H' q = H q := hHo q hqN hqp
      cases ho : st.objs[q]? with
      | none => rw [ho] at h2; exact h3.trans h2
      | some ob => rw [ho] at h2; exact RB.mapk hone h3 h2
    · rw [List.getD_eq_getElem?_getD, List.getElem?_eq_none (by simp; omega)]
      have h2 := h1.obs q
      rw [List.getD_eq_getElem?_getD, List.getElem?_eq_none hge] at h2
      exact (hHo q hqN hqp).trans h2
theorem Wk.split {st : St} {p kk i j k' : Nat} {es es0 : List (List T)} {e : List T} (hp : st.objs[p]? = some (.row kk es)) (he : es[i]? = some e) (hx : e[j]? = some (.sl k' es0)) (ht : allP (fun t : Nat × V => t.2.allk (V1.leok p kk i j)) st.tmps) (ho : allP (Ob.allk (V1.leok p kk i j)) st.objs) :
    Wk st ⟨st.n, st.tmps.map fun t => (t.1, t.2.mapk (V1.tole p st.objs.length)), ((st.objs.map (Ob.mapk (V1.tole p st.objs.length))).set p (.row kk (es.set i (splice e j [.un])))) ++ [.row k' es0]⟩ := by
  have h := Wk.split0 hp he hx
  rw [allP_map (g := fun e : Nat × V => (e.1, e.2.mapk (V1.tole0 p st.objs.length kk i j))) (h := fun e : Nat × V => (e.1, e.2.mapk (V1.tole p st.objs.length))) (fun e he => by rw [V.allk_eq V1.tole_eq e.2 he]) ht, allP_map (fun x hx => Ob.allk_eq V1.tole_eq x hx) ho] at h
  exact h
end Go.Proofs.Ytbpebmolbdplmaa
end

section
set_option linter.unusedSimpArgs false
set_option linter.unusedVariables false
namespace Go.Proofs.Ytbpebmolbdplmaa
open Go.RowKit

section
variable {P : Program} {ops : Array Oper} {o : Oper} {st : St} {m : Nat} {t e : TypeId} {y z : Operand} {zs : List Value} {by_ : Nat}
end
end Go.Proofs.Ytbpebmolbdplmaa
end
