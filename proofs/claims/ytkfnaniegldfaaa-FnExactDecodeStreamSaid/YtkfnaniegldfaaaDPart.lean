/-
  Parts of owned slices that replace them. No statement of the program is proved here.
  Conditions: none.
-/
import Derived.Test.YtkfnaniegldfaaaDLend
set_option linter.unusedSimpArgs false
set_option linter.unusedVariables false
namespace Go.Proofs.Ytkfnaniegldfaaa
open Go.RowKit

theorem OW.take {w : World} {k : Nat} {es : List (List T)} {v : Value} {fp : List Nat} (h : OW w (.sl k es) v fp) (hnd : fp.Nodup) {n : Nat} (hn : n ≤ es.length) : ∃ A c fp', v = .slice A es.length c ∧ es.length ≤ c ∧ OW w (.sl k (es.take n)) (.slice (if c = 0 then A else A.map (·.add (0 * k))) (n - 0) (c - 0)) fp' ∧ (∀ b ∈ fp', b ∈ fp) ∧ fp'.Nodup := by
  cases h with
  | nil =>
    have : n = 0 := by simpa using hn
    subst this
    exact ⟨none, 0, [], rfl, Nat.le_refl _, by simpa using OW.nil (w := w) k, by simp, by simp⟩
  | sl _ b o _ c tid cur fz val fps hg hz hc hm hs hp hk hf hfk hv ht =>
    have hA : (if c = 0 then some (⟨b, o, none⟩ : Addr) else (some (⟨b, o, none⟩ : Addr)).map (·.add (0 * k))) = some ⟨b, o, none⟩ := by
      split
      · rfl
      · simp [Addr.add]
    have hl : (es.take n).length = n := by simp; omega
    have hfl : fps.flatten.flatten = (fps.take n).flatten.flatten ++ (fps.drop n).flatten.flatten := by
      rw [← List.flatten_append, ← List.flatten_append, List.take_append_drop]
    refine ⟨some ⟨b, o, none⟩, c, b :: (fps.take n).flatten.flatten, rfl, hc, ?_, fun x hx => ?_, ?_⟩
    · rw [hA]
      have h1 := OW.sl (w := w) (es.take n) b o k c tid cur fz val (fps.take n) hg hz (by omega) hm hs hp (fun e he => hk e (List.mem_of_mem_take he)) (by simp [hf]) (fun f hf' => hfk f (List.mem_of_mem_take hf'))
        (fun i j hi hj => hv i j (by omega) hj) (fun i j e t fs f g1 g2 g3 g4 => by
          have hi := getE_lt g1
          rw [hl] at hi
          rw [List.getElem?_take, if_pos hi] at g1 g3
          exact ht i j e t fs f g1 g2 g3 g4)
      rw [hl] at h1
      simpa using h1
    · rcases List.mem_cons.1 hx with rfl | hx
      · simp
      · exact List.mem_cons_of_mem _ (by rw [hfl]; exact List.mem_append_left _ hx)
    · rw [hfl, ← List.cons_append] at hnd
      exact (List.nodup_append.1 hnd).1

/-- The first n elements of piece p, told apart: they become the piece. -/
def V1.tohd (p n : Nat) : V1 → V1
  | .hd q m => match Nat.beq q p with
    | true => match Nat.beq m n with
      | true => .ref p
      | false => .un
    | false => .hd q m
  | x => x.kill [p]
theorem Wk.head0 {st : St} {p k : Nat} {es : List (List T)} (n : Nat) (hp : st.objs[p]? = some (.row k es)) (hn : n ≤ es.length) : Wk st ⟨st.n, st.tmps.map fun e => (e.1, e.2.mapk (V1.tohd p n)), (st.objs.map (Ob.mapk (V1.tohd p n))).set p (.row k (es.take n))⟩ := by
  intro w H F a h1
  obtain ⟨v, fp, e1, e2⟩ := h1.ow hp
  have hnd := h1.ok.nodup p
  rw [e1] at hnd
  obtain ⟨A, c, fp'', hvA, hc, h3, h5, h4⟩ := e2.take hnd hn
  have hA : (if c = 0 then A else A.map (·.add (0 * k))) = A := by
    split
    · rfl
    · cases A <;> simp [Addr.add]
  rw [hA, Nat.sub_zero, Nat.sub_zero] at h3
  have hkeep : Keeps w w fp := ⟨rfl, rfl, rfl, Nat.le_refl _, fun _ _ _ => rfl⟩
  obtain ⟨hok, htn⟩ := h1.ok.turn (p := p) (fp := fp) (by rw [e1]; rfl) hkeep (.ow (.sl k (es.take n)) _ fp'') h3 h4 trivial (fun b hb => .inl (h5 b hb))
  have hone : ∀ x v, R1 w H F x v → R1 w (H.put p (.ow (.sl k (es.take n)) (.slice A n c) fp'')) F (V1.tohd p n x) v := fun x u hx => by
    cases x with
    | hd q m =>
      simp only [V1.tohd]
      obtain ⟨A', m', c', x, fp', e3, rfl⟩ := hx
      split
      · rename_i hq
        have hqp := Nat.eq_of_beq_eq_true hq
        subst hqp
        split
        · rename_i hm
          have := Nat.eq_of_beq_eq_true hm
          subst this
          rw [e1] at e3
          simp only [Pc.ow.injEq] at e3
          obtain ⟨_, e4, _⟩ := e3
          rw [hvA] at e4
          simp only [Value.slice.injEq] at e4
          obtain ⟨rfl, _, rfl⟩ := e4
          exact ⟨_, _, Hs.put_self _ _ _⟩
        · trivial
      · rename_i hq
        have hqp : q ≠ p := fun e => by rw [e, show Nat.beq p p = true from Nat.beq_refl p] at hq; cases hq
        exact ⟨A', m', c', x, fp', by rw [Hs.put_ne _ _ hqp, e3], rfl⟩
    | _ => exact R1.killed h1.ok htn hx
  obtain ⟨hplt, _⟩ := List.getElem?_eq_some_iff.1 hp
  refine ⟨_, h1.mapk (V1.tohd p n) hone hok ((st.objs.map (Ob.mapk (V1.tohd p n))).set p (.row k (es.take n))) (fun q => ?_), fun q b hb => ?_, htn.gh⟩
  · by_cases hqp : q = p
    · subst hqp
      rw [getD_of (x := .row k (es.take n)) (by simp [hplt])]
      exact ⟨_, _, Hs.put_self _ _ _⟩
    · rw [List.getD_eq_getElem?_getD, List.getElem?_set_ne (Ne.symm hqp), List.getElem?_map]
      have h2 := h1.obs q
      rw [List.getD_eq_getElem?_getD] at h2
      have h3 : H.put p (.ow (.sl k (es.take n)) (.slice A n c) fp'') q = H q := Hs.put_ne _ _ hqp
      cases ho : st.objs[q]? with
      | none => rw [ho] at h2; exact h3.trans h2
      | some ob => rw [ho] at h2; exact RB.mapk hone h3 h2
  · by_cases hqp : q = p
    · subst hqp
      rw [Hs.put_self] at hb
      exact ⟨q, by rw [e1]; exact h5 b hb⟩
    · exact ⟨q, by rw [← Hs.put_ne H _ hqp]; exact hb⟩
/-- All of a list. -/
def allP {α : Type} (f : α → Prop) : List α → Prop
  | [] => True
  | x :: l => f x ∧ allP f l
theorem allP_map {α β : Type} {f : α → Prop} {g h : α → β} (hgh : ∀ x, f x → g x = h x) : ∀ {l : List α}, allP f l → l.map g = l.map h
  | [], _ => rfl
  | x :: l, hl => by rw [List.map_cons, List.map_cons, hgh x hl.1, allP_map hgh hl.2]
def V1.hdok (p n : Nat) : V1 → Prop
  | .hd q m => match Nat.beq q p with
    | true => m = n
    | false => True
  | _ => True
def V2.hdok (p n : Nat) : V2 → Prop
  | .c x => x.hdok p n
  | .ag xs => allP (V1.hdok p n) xs
def V.hdok (p n : Nat) : V → Prop
  | .o x => x.hdok p n
  | .tu xs => allP (V2.hdok p n) xs
  | .iff _ x => x.hdok p n
def Ob.hdok (p n : Nat) : Ob → Prop
  | .box cs => allP (V1.hdok p n) cs
  | .gh _ x => x.hdok p n
  | _ => True
def V1.tohe (p : Nat) : V1 → V1
  | .hd q m => match Nat.beq q p with
    | true => .ref p
    | false => .hd q m
  | x => x.kill [p]
theorem V1.tohe_eq {p n : Nat} (x : V1) (h : x.hdok p n) : x.tohd p n = x.tohe p := by
  cases x with
  | hd q m =>
    simp only [V1.tohd, V1.tohe]
    cases hq : Nat.beq q p with
    | true =>
      simp only [V1.hdok, hq] at h
      subst h
      simp only [show Nat.beq m m = true from Nat.beq_refl m]
    | false => rfl
  | _ => rfl
theorem V2.tohe_eq {p n : Nat} (x : V2) (h : x.hdok p n) : x.mapk (V1.tohd p n) = x.mapk (V1.tohe p) := by
  cases x with
  | c x => exact congrArg V2.c (V1.tohe_eq x h)
  | ag xs => exact congrArg V2.ag (allP_map (fun x hx => V1.tohe_eq x hx) h)
theorem V.tohe_eq {p n : Nat} (x : V) (h : x.hdok p n) : x.mapk (V1.tohd p n) = x.mapk (V1.tohe p) := by
  cases x with
  | o x => exact congrArg V.o (V2.tohe_eq x h)
  | tu xs => exact congrArg V.tu (allP_map (fun x hx => V2.tohe_eq x hx) h)
  | iff cs x => exact congrArg (V.iff cs) (V2.tohe_eq x h)
theorem Ob.tohe_eq {p n : Nat} (x : Ob) (h : x.hdok p n) : x.mapk (V1.tohd p n) = x.mapk (V1.tohe p) := by
  cases x with
  | box cs => exact congrArg Ob.box (allP_map (fun x hx => V1.tohe_eq x hx) h)
  | gh i x => exact congrArg (Ob.gh i) (V2.tohe_eq x h)
  | _ => rfl
theorem Wk.head {st : St} {p k : Nat} {es : List (List T)} (n : Nat) (hp : st.objs[p]? = some (.row k es)) (hn : n ≤ es.length) (ht : allP (fun e : Nat × V => e.2.hdok p n) st.tmps) (ho : allP (Ob.hdok p n) st.objs) : Wk st ⟨st.n, st.tmps.map fun e => (e.1, e.2.mapk (V1.tohe p)), (st.objs.map (Ob.mapk (V1.tohe p))).set p (.row k (es.take n))⟩ := by
  have h := Wk.head0 n hp hn
  rw [allP_map (g := fun e : Nat × V => (e.1, e.2.mapk (V1.tohd p n))) (h := fun e : Nat × V => (e.1, e.2.mapk (V1.tohe p))) (fun e he => by rw [V.tohe_eq e.2 he]) ht, allP_map (fun x hx => Ob.tohe_eq x hx) ho] at h
  exact h
section
variable {P : Program} {E : Env} {ops : Array Oper} {o : Oper} {st : St} {rest : List Oper} {QQ : Exit → St → Prop} {t : TypeId} {y u : Operand} {rs : List Nat} {j : Int} {m : Nat}
/-- The first elements of an owned slice, quietly. -/
theorem q_hd {p kk : Nat} {es : List (List T)} {e : TypeId} {zs : List Value} {by_ : Nat} [hm : TyMake P t e zs by_] (ho : o.op = .slice t y none (some u) none) (hg : o.guard = none) (hy : st.ev y = .o (.c (.ref p))) (hp : st.objs[p]? = some (.row kk es)) (hu : st.ev u = .o (.c (.rd rs (.v (.int .i64 j))))) (hkz : kk = zs.length) (h0 : 0 ≤ j ∧ j ≤ es.length) : Qt P ops o st (.o (.c (.hd p j.toNat))) [] m :=
  .pure hg fun a w H F h1 => by
    obtain ⟨v, fp, e1, e2⟩ := h1.ow hp
    obtain ⟨x', fp', e3⟩ := h1.v1 hy
    rw [e1] at e3
    simp only [Pc.ow.injEq] at e3
    obtain ⟨_, hv, _⟩ := e3
    have hnd := h1.ok.nodup p
    rw [e1] at hnd
    obtain ⟨A, c, fp'', hvA, hc, h3, h5, h4⟩ := e2.take hnd (n := j.toNat) (by omega)
    have hA : (if c = 0 then A else A.map (·.add (0 * kk))) = A := by
      split
      · rfl
      · cases A <;> simp [Addr.add]
    have hrun := run_slice (P := P) (w := w) (t := t) (e := e) (zs := zs) (by_ := by_) (A := A) (m := es.length) (c := c) none (some j) 0 j.toNat rfl ⟨h0.1, rfl⟩ (Nat.zero_le _) (by omega)
    rw [← hkz, hA, Nat.sub_zero, Nat.sub_zero] at hrun
    refine ⟨.slice A j.toNat c, ?_, ?_⟩
    · have hu1 := h1.plain hu
      have hvy : a.eval y = .slice A es.length c := by rw [← hv, hvA]
      unfold execOp
      simp only [ho, Option.map_none, Option.map_some, hu1, hvy, Sem.run_bind]
      simp only [Option.map_none, Option.map_some] at hrun
      rw [hrun]
      rfl
    · exact ⟨A, es.length, c, _, _, by rw [e1, hvA], rfl⟩
end
section
variable {P : Program} {E : Env} {ops : Array Oper} {o : Oper} {st : St} {rest : List Oper} {QQ : Exit → St → Prop} {t : TypeId} {y u : Operand} {rs : List Nat} {j : Int}
/-- The first elements of an owned slice take its place. -/
theorem L_head {p kk : Nat} {es : List (List T)} {e : TypeId} {zs : List Value} {by_ : Nat} [hm : TyMake P t e zs by_] (ho : o.op = .slice t y none (some u) none) (hg : o.guard = none) (hy : st.ev y = .o (.c (.ref p))) (hp : st.objs[p]? = some (.row kk es)) (hu : st.ev u = .o (.c (.rd rs (.v (.int .i64 j))))) (hkz : kk = zs.length) (h0 : 0 ≤ j ∧ j ≤ es.length)
    (hd : dstOk st.n o.dst = true) (h : AL P E ops QQ rest ⟨st.n, setT (st.tmps.map fun e => (e.1, e.2.kill [p])) o.dst (.o (.c (.ref p))), (st.objs.map (Ob.kill [p])).set p (.row kk (es.take j.toNat))⟩) : AL P E ops QQ (o :: rest) st := by
  refine ⟨fun a w ⟨H, F, h1, h2⟩ => ?_⟩
  obtain ⟨v, fp, e1, e2⟩ := h1.ow hp
  obtain ⟨x', fp', e3⟩ := h1.v1 hy
  rw [e1] at e3
  simp only [Pc.ow.injEq] at e3
  obtain ⟨_, hv, _⟩ := e3
  have hnd := h1.ok.nodup p
  rw [e1] at hnd
  obtain ⟨A, c, fp'', hvA, hc, h3, h5, h4⟩ := e2.take hnd (n := j.toNat) (by omega)
  have hrun := run_slice (P := P) (w := w) (t := t) (e := e) (zs := zs) (by_ := by_) (A := A) (m := es.length) (c := c) none (some j) 0 j.toNat rfl ⟨h0.1, rfl⟩ (Nat.zero_le _) (by omega)
  rw [← hkz] at hrun
  have hex : (execOp a.eval o).run P w = .ok (.value (.slice (if c = 0 then A else A.map (·.add (0 * kk))) (j.toNat - 0) (c - 0))) w := by
    have hu1 := h1.plain hu
    have hvy : a.eval y = .slice A es.length c := by rw [← hv, hvA]
    unfold execOp
    simp only [ho, Option.map_none, Option.map_some, hu1, hvy, Sem.run_bind]
    simp only [Option.map_none, Option.map_some] at hrun
    rw [hrun]
    rfl
  have hkeep : Keeps w w fp := ⟨rfl, rfl, rfl, Nat.le_refl _, fun _ _ _ => rfl⟩
  obtain ⟨hok, htn⟩ := h1.ok.turn (p := p) (fp := fp) (by rw [e1]; rfl) hkeep (.ow (.sl kk (es.take j.toNat)) _ fp'') h3 h4 trivial (fun b hb => .inl (h5 b hb))
  obtain ⟨hplt, _⟩ := List.getElem?_eq_some_iff.1 hp
  have hR := h1.turn htn hok ((st.objs.map (Ob.kill [p])).set p (.row kk (es.take j.toNat))) (fun q hq => ?_) (fun q hq => ?_)
  · have hR2 := hR.put (x := .o (.c (.ref p))) o.dst hd (v := .slice (if c = 0 then A else A.map (·.add (0 * kk))) (j.toNat - 0) (c - 0)) ⟨_, _, Hs.put_self _ _ _⟩
    refine wpList_step fun K hK => ?_
    rw [if_pos (by unfold Region.wanted; rw [hg])]
    unfold Oper.wp
    rw [hex]
    exact hK _ _ (h.h _ _ ⟨_, F, hR2, h2.turn htn⟩)
  · have hqp : q ≠ p := by simpa using hq
    rw [List.getD_eq_getElem?_getD, List.getElem?_set_ne (Ne.symm hqp), List.getElem?_map, List.getD_eq_getElem?_getD]
    cases st.objs[q]? <;> rfl
  · have hqp : q = p := by simpa using hq
    subst hqp
    rw [getD_of (x := .row kk (es.take j.toNat)) (by simp [hplt])]
    exact ⟨_, _, Hs.put_self _ _ _⟩
theorem M_head {n d : Nat} {ts : List (Nat × V)} {obs : List Ob} {p kk : Nat} {es : List (List T)} {e : TypeId} {zs : List Value} {by_ : Nat} [hm : TyMake P t e zs by_] (ho : o.op = .slice t y none (some u) none) (hg : o.guard = none) (hy : St.ev ⟨n, ts, obs⟩ y = .o (.c (.ref p))) (hp : obs[p]? = some (.row kk es)) (hu : St.ev ⟨n, ts, obs⟩ u = .o (.c (.rd rs (.v (.int .i64 j))))) (hkz : kk = zs.length) (hd : o.dst = some d) (hl : Nat.blt d n = true) (h0 : 0 ≤ j ∧ j ≤ es.length)
    (h : AL P E ops QQ rest ⟨n, (d, .o (.c (.ref p))) :: (ts.map fun e => (e.1, e.2.kill [p])), (obs.map (Ob.kill [p])).set p (.row kk (es.take j.toNat))⟩) : AL P E ops QQ (o :: rest) ⟨n, ts, obs⟩ :=
  L_head (st := ⟨n, ts, obs⟩) ho hg hy hp hu hkz h0 (by rw [hd]; exact hl) (by rw [hd]; exact h)
end
end Go.Proofs.Ytkfnaniegldfaaa
