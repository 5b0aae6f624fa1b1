/-
  From a function's body to what a call of it does: entry, results. No statement of the program is proved here.
  Conditions: none.
-/
import Derived.Test.YtkfnaniegldfaaaDTurn
set_option linter.unusedSimpArgs false
set_option linter.unusedVariables false
namespace Go.Proofs.Ytkfnaniegldfaaa
open Go.RowKit

/-! ### nil as a slice of one's own -/
def V1.isNil : V1 → Bool
  | .rd _ (.v (.slice none 0 0)) => true
  | _ => false
def fill1 : Nat → List V1 → List V1
  | _, [] => []
  | n, x :: xs => if x.isNil then .ref n :: fill1 (n + 1) xs else x :: fill1 n xs
def cnt1 : List V1 → Nat
  | [] => 0
  | x :: xs => if x.isNil then cnt1 xs + 1 else cnt1 xs
def V2.fill (n : Nat) : V2 → V2
  | .c x => if x.isNil then .c (.ref n) else .c x
  | .ag xs => .ag (fill1 n xs)
def V2.cnt : V2 → Nat
  | .c x => if x.isNil then 1 else 0
  | .ag xs => cnt1 xs
def fillL : Nat → List V2 → List V2
  | _, [] => []
  | n, x :: xs => x.fill n :: fillL (n + x.cnt) xs
def cntL : List V2 → Nat
  | [] => 0
  | x :: xs => x.cnt + cntL xs
def V.fill (n : Nat) : V → V
  | .o x => .o (x.fill n)
  | .tu xs => .tu (fillL n xs)
  | .iff cs x => .iff cs x
def V.cnt : V → Nat
  | .o x => x.cnt
  | .tu xs => cntL xs
  | .iff _ _ => 0

section
variable {w : World} {H H' : Hs} {F : Nat → Prop} {N m : Nat}
theorem nil_val {x : V1} {v : Value} (hx : x.isNil = true) (h : R1 w H F x v) : v = .slice none 0 0 := by
  unfold V1.isNil at hx
  split at hx
  · exact (RO.plain h).1
  · cases hx
theorem fill1_ok (hg : ∀ {x : V1} {v : Value}, R1 w H F x v → R1 w H' F x v) (hn : ∀ p, N ≤ p → p < N + m → ∃ k, H' p = .ow (.sl k []) (.slice none 0 0) []) :
    ∀ (xs : List V1) (us : List Value) (n : Nat), N ≤ n → n + cnt1 xs ≤ N + m → us.length = xs.length → (∀ (i : Nat) (x : V1) (u : Value), xs[i]? = some x → us[i]? = some u → R1 w H F x u) →
      (fill1 n xs).length = xs.length ∧ ∀ (i : Nat) (x : V1) (u : Value), (fill1 n xs)[i]? = some x → us[i]? = some u → R1 w H' F x u
  | [], us, n, _, _, _, _ => ⟨rfl, fun i x u h => by simp [fill1] at h⟩
  | x :: xs, [], n, _, _, hl, _ => by simp at hl
  | x :: xs, u :: us, n, h1, h2, hl, hr => by
    have h0 := hr 0 x u rfl rfl
    have hr' : ∀ (i : Nat) (x : V1) (u : Value), xs[i]? = some x → us[i]? = some u → R1 w H F x u := fun i x u h3 h4 => hr (i + 1) x u (by simpa using h3) (by simpa using h4)
    simp only [fill1, cnt1] at h2 ⊢
    split
    · rename_i hx
      rw [if_pos hx] at h2
      obtain ⟨h3, h4⟩ := fill1_ok hg hn xs us (n + 1) (by omega) (by omega) (by simpa using hl) hr'
      refine ⟨by simp [h3], fun i y v hi hv => ?_⟩
      cases i with
      | zero =>
        simp only [List.getElem?_cons_zero, Option.some.injEq] at hi hv
        subst hi hv
        obtain ⟨k, e⟩ := hn n h1 (by omega)
        exact ⟨_, _, by rw [e, nil_val hx h0]⟩
      | succ i => exact h4 i y v (by simpa using hi) (by simpa using hv)
    · rename_i hx
      rw [if_neg hx] at h2
      obtain ⟨h3, h4⟩ := fill1_ok hg hn xs us n h1 h2 (by simpa using hl) hr'
      refine ⟨by simp [h3], fun i y v hi hv => ?_⟩
      cases i with
      | zero =>
        simp only [List.getElem?_cons_zero, Option.some.injEq] at hi hv
        subst hi hv
        exact hg h0
      | succ i => exact h4 i y v (by simpa using hi) (by simpa using hv)
theorem fill2_ok (hg : ∀ {x : V1} {v : Value}, R1 w H F x v → R1 w H' F x v) (hn : ∀ p, N ≤ p → p < N + m → ∃ k, H' p = .ow (.sl k []) (.slice none 0 0) []) {x : V2} {v : Value} {n : Nat} (h1 : N ≤ n) (h2 : n + x.cnt ≤ N + m) (h : R2 w H F x v) : R2 w H' F (x.fill n) v := by
  cases x with
  | c x =>
    simp only [V2.fill, V2.cnt] at h2 ⊢
    split
    · rename_i hx
      rw [if_pos hx] at h2
      obtain ⟨k, e⟩ := hn n h1 (by omega)
      exact ⟨_, _, by rw [e, nil_val hx h]⟩
    · exact hg h
  | ag xs =>
    obtain ⟨us, e, hl, hr⟩ := h
    obtain ⟨h3, h4⟩ := fill1_ok hg hn xs us n h1 h2 hl hr
    exact ⟨us, e, by rw [hl]; exact h3.symm, h4⟩
theorem fillL_ok (hg : ∀ {x : V1} {v : Value}, R1 w H F x v → R1 w H' F x v) (hn : ∀ p, N ≤ p → p < N + m → ∃ k, H' p = .ow (.sl k []) (.slice none 0 0) []) :
    ∀ (xs : List V2) (us : List Value) (n : Nat), N ≤ n → n + cntL xs ≤ N + m → us.length = xs.length → (∀ (i : Nat) (x : V2) (u : Value), xs[i]? = some x → us[i]? = some u → R2 w H F x u) →
      (fillL n xs).length = xs.length ∧ ∀ (i : Nat) (x : V2) (u : Value), (fillL n xs)[i]? = some x → us[i]? = some u → R2 w H' F x u
  | [], us, n, _, _, _, _ => ⟨rfl, fun i x u h => by simp [fillL] at h⟩
  | x :: xs, [], n, _, _, hl, _ => by simp at hl
  | x :: xs, u :: us, n, h1, h2, hl, hr => by
    have h0 := hr 0 x u rfl rfl
    simp only [fillL, cntL] at h2 ⊢
    obtain ⟨h3, h4⟩ := fillL_ok hg hn xs us (n + x.cnt) (by omega) (by omega) (by simpa using hl) fun i x u h3 h4 => hr (i + 1) x u (by simpa using h3) (by simpa using h4)
    refine ⟨by simp [h3], fun i y v hi hv => ?_⟩
    cases i with
    | zero =>
      simp only [List.getElem?_cons_zero, Option.some.injEq] at hi hv
      subst hi hv
      exact fill2_ok hg hn h1 (by omega) h0
    | succ i => exact h4 i y v (by simpa using hi) (by simpa using hv)
theorem fillV_ok (hg : ∀ {x : V1} {v : Value}, R1 w H F x v → R1 w H' F x v) (hn : ∀ p, N ≤ p → p < N + m → ∃ k, H' p = .ow (.sl k []) (.slice none 0 0) []) {x : V} {v : Value} (h2 : x.cnt ≤ m) (h : RV w H F x v) : RV w H' F (x.fill N) v := by
  cases x with
  | o x => exact fill2_ok hg hn (Nat.le_refl _) (by simp only [V.cnt] at h2; omega) h
  | tu xs =>
    obtain ⟨us, e, hl, hr⟩ := h
    obtain ⟨h3, h4⟩ := fillL_ok hg hn xs us N (Nat.le_refl _) (by simp only [V.cnt] at h2; omega) hl hr
    exact ⟨us, e, by rw [hl]; exact h3.symm, h4⟩
  | iff cs x =>
    refine ⟨fun hc => ?_, h.2⟩
    cases x with
    | c x => exact hg (h.1 hc)
    | ag xs => obtain ⟨us, e, hl, hr⟩ := h.1 hc; exact ⟨us, e, hl, fun i x u h1 h2 => hg (hr i x u h1 h2)⟩
end

/-- In slot d each nil becomes a slice of one's own, without elements; ks: the numbers of cells of their elements. -/
theorem Wk.nils {st : St} (d : Nat) (ks : List Nat) {x : V} (hx : look st.tmps d = x) (hk : x.cnt = ks.length) : Wk st ⟨st.n, (d, x.fill st.objs.length) :: st.tmps, st.objs ++ ks.map fun k => .row k []⟩ := by
  intro w H F a h
  have hnil : ∀ p, st.objs.length ≤ p → H p = .nil := fun p hp => by
    have := h.obs p
    simpa [List.getD_eq_getElem?_getD, RB, hp] using this
  obtain ⟨H', hH'⟩ : ∃ H' : Hs, H' = fun p => if st.objs.length ≤ p ∧ p < st.objs.length + ks.length then .ow (.sl (ks.getD (p - st.objs.length) 0) []) (.slice none 0 0) [] else H p := ⟨_, rfl⟩
  have hin : ∀ p, st.objs.length ≤ p → p < st.objs.length + ks.length → H' p = .ow (.sl (ks.getD (p - st.objs.length) 0) []) (.slice none 0 0) [] := fun p h1 h2 => by rw [hH']; exact if_pos ⟨h1, h2⟩
  have hout : ∀ p, ¬ (st.objs.length ≤ p ∧ p < st.objs.length + ks.length) → H' p = H p := fun p h1 => by rw [hH']; exact if_neg h1
  have hfp : ∀ p, (H' p).fp = (H p).fp := fun p => by
    by_cases e : st.objs.length ≤ p ∧ p < st.objs.length + ks.length
    · rw [hin p e.1 e.2, hnil p e.1]; rfl
    · rw [hout p e]
  have hgh : ∀ p i v, H' p = .gh i v → ∃ q, H q = .gh i v := fun p i v hp => by
    by_cases e : st.objs.length ≤ p ∧ p < st.objs.length + ks.length
    · rw [hin p e.1 e.2] at hp; cases hp
    · exact ⟨p, by rw [← hout p e]; exact hp⟩
  have hgr : Grow w H F w H' F := ⟨Below.refl _ _, fun p hp => hout p fun e => hp (hnil p e.1), fun _ h => h, fun _ h => .inl h, fun p hp b hb => by rw [hfp, hp] at hb; simp [Pc.fp] at hb, hgh⟩
  refine ⟨H', ⟨⟨fun p => ?_, fun p => by rw [hfp]; exact h.ok.nodup p, fun p q b h1 h2 => by rw [hfp] at h1 h2; exact h.ok.disj p q b h1 h2, fun p b h1 => by rw [hfp] at h1; exact h.ok.free p b h1, h.ok.flt⟩, fun p => ?_, fun e => ?_, h.size, h.defers⟩, fun p b hb => ⟨p, by rw [← hfp]; exact hb⟩, hgh⟩
  · by_cases e : st.objs.length ≤ p ∧ p < st.objs.length + ks.length
    · rw [hin p e.1 e.2]; exact OW.nil _
    · rw [hout p e]; exact h.ok.says p
  · show RB w H' F p ((st.objs ++ ks.map fun k => Ob.row k []).getD p .gone)
    rcases Nat.lt_or_ge p st.objs.length with h1 | h1
    · rw [show (st.objs ++ ks.map fun k => Ob.row k []).getD p .gone = st.objs.getD p .gone by simp [List.getD_eq_getElem?_getD, List.getElem?_append_left h1]]
      by_cases hn : H p = .nil
      · have h2 := h.obs p
        have h3 : H' p = .nil := (hout p (by omega)).trans hn
        cases ho : st.objs.getD p .gone with
        | gone => exact h3
        | hole => trivial
        | box cs => rw [ho] at h2; obtain ⟨a, t, vs, e, _⟩ := h2; rw [hn] at e; cases e
        | row k es => rw [ho] at h2; obtain ⟨v, fp, e⟩ := h2; rw [hn] at e; cases e
        | gh i x => rw [ho] at h2; obtain ⟨v, e, _⟩ := h2; rw [hn] at e; cases e
      · exact hgr.rb hn (h.obs p)
    · rcases Nat.lt_or_ge p (st.objs.length + ks.length) with h2 | h2
      · have h3 : p - st.objs.length < ks.length := by omega
        rw [show (st.objs ++ ks.map fun k => Ob.row k []).getD p .gone = .row (ks.getD (p - st.objs.length) 0) [] by simp [List.getD_eq_getElem?_getD, List.getElem?_append_right h1, h3]]
        exact ⟨_, _, hin p h1 h2⟩
      · rw [show (st.objs ++ ks.map fun k => Ob.row k []).getD p .gone = Ob.gone by
          rw [List.getD_eq_getElem?_getD, List.getElem?_eq_none (by simp; omega)]; rfl]
        exact (hout p (by omega)).trans (hnil p h1)
  · show RV w H' F (look ((d, x.fill st.objs.length) :: st.tmps) e) _
    rw [look_cons]
    split
    · rename_i e0
      subst e0
      subst hx
      exact fillV_ok (fun h => hgr.r1 h) (fun p h1 h2 => ⟨_, hin p h1 h2⟩) (Nat.le_of_eq hk) (h.tmp d)
    · exact hgr.rv (h.tmp e)

/-! ### Results -/
def argT : Nat → List V2 → List (Nat × V)
  | _, [] => []
  | k, x :: xs => (k, .o x) :: argT (k + 1) xs
structure Ends (P : Program) (fn : Func) (objs' : List Ob) (res : V) (st : St) : Prop where
  mk' ::
  h : ∀ (w : World) (H : Hs) (F : Nat → Prop) (a : Act), R0 w H F st a → ∃ H' rv, (results fn a.tmps).run P w = .ok rv w ∧ Ok w H' F ∧ (∀ p, RB w H' F p (objs'.getD p .gone)) ∧ RV w H' F res rv ∧ (∀ p b, b ∈ (H' p).fp → ∃ q, b ∈ (H q).fp) ∧ ∀ p i v, H' p = .gh i v → ∃ q, H q = .gh i v
def Fin0 (P : Program) (fn : Func) (objs' : List Ob) (res : V) : Exit → St → Prop
  | .ret, st => Ends P fn objs' res st
  | .normal, st => Ends P fn objs' res st
  | _, _ => False

structure Fin (P : Program) (fn : Func) (objs' : List Ob) (res : V) (e : Exit) (st : St) : Prop where
  h : Fin0 P fn objs' res e st

section
variable {P : Program} {fn : Func} {objs objs' : List Ob} {res x : V} {st : St} {args : List V2} {f : FuncId} {c : Code}

theorem argT_look : ∀ (args : List V2) (k d : Nat), look (argT k args) d = if k ≤ d then ((args[d - k]?).map V.o).getD U else U
  | [], k, d => by simp [argT, look]
  | x :: xs, k, d => by
    rw [argT, look_cons, argT_look xs (k + 1) d]
    by_cases h1 : k = d
    · subst h1; simp
    · rw [if_neg h1]
      by_cases h2 : k + 1 ≤ d
      · rw [if_pos h2, if_pos (by omega), show d - k = (d - (k + 1)) + 1 by omega, List.getElem?_cons_succ]
      · rw [if_neg h2, if_neg (by omega)]
theorem Con.of {nt : Nat} (hf : P.funcs[f]? = some fn) (hb : fn.body = some c) (hn : fn.ntmps = nt) (hle : Nat.ble args.length nt = true) (h : ∀ E, AWP P E c (Fin P fn objs' res) ⟨nt, argT 0 args, objs⟩) : Con P f objs args objs' res := by
  intro w H F vs hok hob hlen hargs
  refine calls_of_wp hf hb (wp_mono ((h ⟨w, H, F⟩).h _ w ⟨H, F, ⟨hok, hob, fun d => ?_, ?_, rfl⟩, Since.refl w H F⟩) ?_)
  · show RV w H F (look (argT 0 args) d) _
    rw [argT_look, if_pos (Nat.zero_le _), Nat.sub_zero]
    cases h1 : args[d]? with
    | none => trivial
    | some z =>
      have hd : d < vs.length := by rw [hlen]; exact getE_lt h1
      have h2 := hargs d z vs[d] h1 (List.getElem?_eq_getElem hd)
      have h3 : (vs.toArray ++ Array.replicate (fn.ntmps - vs.toArray.size) undef).getD d undef = vs[d] := by
        simp [Array.getD_eq_getD_getElem?, Array.getElem?_append, hd]
      rw [h3]
      exact h2
  · have hle' := Nat.le_of_ble_eq_true hle
    simp only [Array.size_append, Array.size_replicate, List.size_toArray, hlen, hn]
    omega
  · rintro e a' w' ⟨st', hq, H', F', h1, h2⟩
    have hend : ∀ (hE : Ends P fn objs' res st'), a'.defers = [] ∧ ∃ v, (results fn a'.tmps).run P w' = .ok v w' ∧ ∃ H'' F'' rv, Ending.returned v = .returned rv ∧ Since ⟨w, H, F⟩ w' H'' F'' ∧ Ok w' H'' F'' ∧ (∀ p, RB w' H'' F'' p (objs'.getD p .gone)) ∧ RV w' H'' F'' res rv := fun hE => by
      obtain ⟨H'', rv, h3, h4, h5, h6, h7, g7⟩ := hE.h w' H' F' a' h1
      exact ⟨h1.defers, rv, h3, H'', F', rv, rfl, ⟨h2.os, h2.tape, h2.output, h2.size, h2.keep, h2.fF, h2.fF', fun p b hb => by obtain ⟨q, hq⟩ := h7 p b hb; exact h2.org q b hq, fun p i v hp => by obtain ⟨q, hq⟩ := g7 p i v hp; exact h2.gh q i v hq⟩, h4, h5, h6⟩
    have hq := hq.h
    cases e with
    | normal => exact hend hq
    | ret => exact hend hq
    | _ => exact hq.elim

theorem Ends.of {rs : V} (hr : ∀ (w : World) (H : Hs) (F : Nat → Prop) (a : Act), R0 w H F st a → ∃ rv, (results fn a.tmps).run P w = .ok rv w ∧ RV w H F rs rv) (hw : ∃ l, Wk ⟨1, [(0, rs)], st.objs⟩ ⟨1, (0, res) :: l, objs'⟩) : Ends P fn objs' res st := by
  refine ⟨fun w H F a h => ?_⟩
  obtain ⟨rv, h1, h2⟩ := hr w H F a h
  obtain ⟨l, hw⟩ := hw
  obtain ⟨H', h3, h4⟩ := hw w H F ⟨#[rv], []⟩ ⟨h.ok, h.obs, fun d => by
    show RV w H F (look [(0, rs)] d) _
    rw [look_cons]
    split
    · rename_i e0; subst e0; exact h2
    · trivial, rfl, rfl⟩
  exact ⟨H', rv, h1, h3.ok, h3.obs, h3.tmp 0, h4⟩

theorem cell_res {w : World} {H : Hs} {F : Nat → Prop} {a : Act} (h : R0 w H F st a) {c p n : Nat} {t : TypeId} {cs : List V1} [TyRow P t n] (hc : look st.tmps c = .o (.c (.ptr p 0))) (hp : st.objs[p]? = some (.box cs)) (hl : cs.length = n) :
    ∃ (us : List Value) (g : Nat), a.tmps.getD c undef = .pointer (some ⟨g, 0, none⟩) ∧ (loadVar t ⟨g, 0, none⟩).run P w = .ok (.agg us.toArray) w ∧ R2 w H F (.ag cs) (.agg us.toArray) := by
  have h1 := h.at_ c
  rw [hc] at h1
  obtain ⟨g, tt, vs, e1, e2⟩ := h1
  obtain ⟨g', t', vs', e3, e4, hl', hcs⟩ := h.bx hp
  rw [e1] at e3
  simp only [Pc.box.injEq] at e3
  obtain ⟨rfl, rfl, rfl⟩ := e3
  have hcells := box_cells e4 0 n
  rw [List.drop_zero, List.take_of_length_le (by omega)] at hcells
  have hld := run_loadAt_cells (P := P) (w := w) t g 0 n vs hcells (by omega)
  simp only [Instr.loadAt, Instr.sureAddr, Sem.run_bind, Sem.run_pure, Result.andThen_ok] at hld
  exact ⟨vs, g, e2, hld, vs, rfl, hl', fun i x u h5 h6 => (hcs i x u h5 h6).1⟩

theorem E_tmp {t : Tmp} {x : V2} (hf : fn.results = #[.tmp t]) (hx : look st.tmps t = .o x) (hw : ∃ l, Wk ⟨1, [(0, .o x)], st.objs⟩ ⟨1, (0, res) :: l, objs'⟩) : Ends P fn objs' res st :=
  .of (fun w H F a h => ⟨a.tmps.getD t undef, results_tmp hf _ _ _, by have := h.at_ t; rwa [hx] at this⟩) hw
theorem E_none (hf : fn.results = #[]) (hw : ∃ l, Wk ⟨1, [(0, .tu [])], st.objs⟩ ⟨1, (0, res) :: l, objs'⟩) : Ends P fn objs' res st :=
  .of (rs := .tu []) (fun w H F a h => ⟨.tuple #[], results_none hf _ _ _, [], rfl, rfl, fun i x u h => by simp at h⟩) hw
theorem E_tmp2 {t u : Tmp} {x y : V2} (hf : fn.results = #[.tmp t, .tmp u]) (hx : look st.tmps t = .o x) (hy : look st.tmps u = .o y) (hw : ∃ l, Wk ⟨1, [(0, .tu [x, y])], st.objs⟩ ⟨1, (0, res) :: l, objs'⟩) : Ends P fn objs' res st :=
  .of (rs := .tu [x, y]) (fun w H F a h => ⟨_, results_tmp2 hf _ _ _, [a.tmps.getD t undef, a.tmps.getD u undef], rfl, rfl, fun i z v h1 h2 => by
    have h3 := h.at_ t
    have h4 := h.at_ u
    rw [hx] at h3
    rw [hy] at h4
    match i with
    | 0 => simp only [List.getElem?_cons_zero, Option.some.injEq] at h1 h2; subst h1 h2; exact h3
    | 1 => simp only [List.getElem?_cons_succ, List.getElem?_cons_zero, Option.some.injEq] at h1 h2; subst h1 h2; exact h4
    | i + 2 => simp at h1⟩) hw
theorem E_tmp3 {t u r : Tmp} {x y z : V2} (hf : fn.results = #[.tmp t, .tmp u, .tmp r]) (hx : look st.tmps t = .o x) (hy : look st.tmps u = .o y) (hz : look st.tmps r = .o z) (hw : ∃ l, Wk ⟨1, [(0, .tu [x, y, z])], st.objs⟩ ⟨1, (0, res) :: l, objs'⟩) : Ends P fn objs' res st :=
  .of (rs := .tu [x, y, z]) (fun w H F a h => ⟨.tuple #[a.tmps.getD t undef, a.tmps.getD u undef, a.tmps.getD r undef], by simp [results, hf], [a.tmps.getD t undef, a.tmps.getD u undef, a.tmps.getD r undef], rfl, rfl, fun i q v h1 h2 => by
    have h3 := h.at_ t
    have h4 := h.at_ u
    have h5 := h.at_ r
    rw [hx] at h3
    rw [hy] at h4
    rw [hz] at h5
    match i with
    | 0 => simp only [List.getElem?_cons_zero, Option.some.injEq] at h1 h2; subst h1 h2; exact h3
    | 1 => simp only [List.getElem?_cons_succ, List.getElem?_cons_zero, Option.some.injEq] at h1 h2; subst h1 h2; exact h4
    | 2 => simp only [List.getElem?_cons_succ, List.getElem?_cons_zero, Option.some.injEq] at h1 h2; subst h1 h2; exact h5
    | i + 3 => simp at h1⟩) hw
theorem E_cell {c p n : Nat} {t : TypeId} {cs : List V1} [TyRow P t n] (hf : fn.results = #[.cell c t]) (hc : look st.tmps c = .o (.c (.ptr p 0))) (hp : st.objs[p]? = some (.box cs)) (hl : cs.length = n) (hw : ∃ l, Wk ⟨1, [(0, .o (.ag cs))], st.objs⟩ ⟨1, (0, res) :: l, objs'⟩) : Ends P fn objs' res st :=
  .of (fun w H F a h => by
    obtain ⟨us, g, h2, h3, h4⟩ := cell_res (P := P) (t := t) h hc hp hl
    rw [Array.getD_eq_getD_getElem?] at h2
    exact ⟨.agg us.toArray, by simp [results, hf, h2, asAddr, h3], h4⟩) hw
theorem E_cellt {c p n : Nat} {t : TypeId} {u : Tmp} {y : V2} {cs : List V1} [TyRow P t n] (hf : fn.results = #[.cell c t, .tmp u]) (hc : look st.tmps c = .o (.c (.ptr p 0))) (hp : st.objs[p]? = some (.box cs)) (hl : cs.length = n) (hy : look st.tmps u = .o y)
    (hw : ∃ l, Wk ⟨1, [(0, .tu [.ag cs, y])], st.objs⟩ ⟨1, (0, res) :: l, objs'⟩) : Ends P fn objs' res st :=
  .of (rs := .tu [.ag cs, y]) (fun w H F a h => by
    obtain ⟨us, g, h2, h3, h4⟩ := cell_res (P := P) (t := t) h hc hp hl
    have h5 := h.at_ u
    rw [hy] at h5
    rw [Array.getD_eq_getD_getElem?] at h2
    refine ⟨.tuple #[.agg us.toArray, a.tmps.getD u undef], by simp [results, hf, h2, asAddr, h3], [.agg us.toArray, a.tmps.getD u undef], rfl, rfl, fun i z v h6 h7 => ?_⟩
    match i with
    | 0 => simp only [List.getElem?_cons_zero, Option.some.injEq] at h6 h7; subst h6 h7; exact h4
    | 1 => simp only [List.getElem?_cons_succ, List.getElem?_cons_zero, Option.some.injEq] at h6 h7; subst h6 h7; exact h5
    | i + 2 => simp at h6) hw
end
end Go.Proofs.Ytkfnaniegldfaaa
