/-
  A new replay, in the program and in the reference.
  Conditions: none.
-/
import Derived.Test.YtkfnaniegldfaaaDReplayOk
set_option linter.unusedSimpArgs false
set_option linter.unusedVariables false
namespace Go.Proofs.Ytkfnaniegldfaaa
open Go.RowKit

/-- An argument that is nil is an empty slice. -/
inductive Den1 : V1 → V1 → Prop
  | same (x : V1) : Den1 x x
  | nil (qs : List Nat) (k : Nat) : Den1 (.rd qs (.v (.slice none 0 0))) (.rd qs (.sl k []))
inductive DenL : List V1 → List V1 → Prop
  | nil : DenL [] []
  | cons {x y : V1} {xs ys : List V1} (h : Den1 x y) (t : DenL xs ys) : DenL (x :: xs) (y :: ys)
inductive Den2 : V2 → V2 → Prop
  | same (x : V2) : Den2 x x
  | ag {xs ys : List V1} (h : DenL xs ys) : Den2 (.ag xs) (.ag ys)
inductive DenA : List V2 → List V2 → Prop
  | nil : DenA [] []
  | cons {x y : V2} {xs ys : List V2} (h : Den2 x y) (t : DenA xs ys) : DenA (x :: xs) (y :: ys)
section
variable {w : World} {H : Hs} {F : Nat → Prop}
theorem Den1.r {x y : V1} (h : Den1 x y) {v : Value} (hx : R1 w H F x v) : R1 w H F y v := by
  cases h with
  | same => exact hx
  | nil qs k => obtain ⟨rfl, _⟩ := RO.plain hx; exact .nil _ _ _ (by simp)
theorem DenL.r : ∀ {xs ys : List V1}, DenL xs ys → xs.length = ys.length ∧ ∀ (i : Nat) (y : V1), ys[i]? = some y → ∃ x, xs[i]? = some x ∧ Den1 x y
  | _, _, .nil => ⟨rfl, fun i y h => by simp at h⟩
  | _, _, .cons (x := x) h t => by
    obtain ⟨h1, h2⟩ := DenL.r t
    refine ⟨by simp [h1], fun i y hy => ?_⟩
    cases i with
    | zero => simp at hy; subst hy; exact ⟨x, rfl, h⟩
    | succ i => simpa using h2 i y (by simpa using hy)
theorem Den2.r {x y : V2} (h : Den2 x y) {v : Value} (hx : R2 w H F x v) : R2 w H F y v := by
  cases h with
  | same => exact hx
  | ag h =>
    obtain ⟨h1, h2⟩ := h.r
    obtain ⟨us, e, hl, hr⟩ := hx
    refine ⟨us, e, by omega, fun i y u h3 h4 => ?_⟩
    obtain ⟨x, h5, h6⟩ := h2 i y h3
    exact h6.r (hr i x u h5 h4)
theorem DenA.r : ∀ {xs ys : List V2}, DenA xs ys → xs.length = ys.length ∧ ∀ (i : Nat) (y : V2), ys[i]? = some y → ∃ x, xs[i]? = some x ∧ Den2 x y
  | _, _, .nil => ⟨rfl, fun i y h => by simp at h⟩
  | _, _, .cons (x := x) h t => by
    obtain ⟨h1, h2⟩ := DenA.r t
    refine ⟨by simp [h1], fun i y hy => ?_⟩
    cases i with
    | zero => simp at hy; subst hy; exact ⟨x, rfl, h⟩
    | succ i => simpa using h2 i y (by simpa using hy)
theorem Con.den {P : Program} {f : FuncId} {objs objs' : List Ob} {args args2 : List V2} {res : V} (hc : Con P f objs args objs' res) (h : DenA args2 args) : Con P f objs args2 objs' res := fun w H F vs hok hob hvl hr => by
  obtain ⟨h1, h2⟩ := h.r
  exact hc w H F vs hok hob (by omega) fun i y v hy hv => by
    obtain ⟨x, h3, h4⟩ := h2 i y hy
    exact h4.r (hr i x v h3 hv)
end
def nilV : V1 := .rd [] (.v (.slice none 0 0))
set_option maxHeartbeats 8000000 in
theorem I_copyLevel (x : TLevel) (hg : Enc.gd x) (hL : x.Rows.length ≤ 1048576) : Con Try.prog 96 [] [ag x] [.row 1 (els x.Rows)] (.o (.ag [.ref 0])) := by
  have hlx := els_len x.Rows
  have hg1 := hg.1
  refine Con.of Try.func96 rfl Try.ntmps96 rfl (fun E => ?_)
  refine A_seq ?_; refine A_region ?_; refine M1 (q_boxN rfl rfl rfl rfl) rfl rfl ?_; refine M1 (q_alloc rfl rfl rfl) rfl rfl ?_; refine L_nil ?_; refine T_n ?_; refine A_seq ?_
  refine A_region ?_; refine M0 (q_fldp rfl rfl rfl rfl (by decide)) rfl rfl ?_; refine M0 (q_ld1 rfl rfl rfl rfl rfl) rfl rfl ?_
  refine M_appnil rfl rfl rfl rfl rfl rfl rfl rfl (els_plain _) (els_k _) (by omega) (by omega) ?_; refine M0 (q_build rfl rfl rfl rfl rfl) rfl rfl ?_
  refine M_stN rfl rfl rfl rfl rfl rfl rfl rfl rfl ?_; refine L_nil ?_; refine T_n ?_; refine A_ret ?_; refine F_r ?_
  exact E_cell rfl rfl rfl rfl (W_end [2] (by decide) rfl rfl rfl)
set_option maxHeartbeats 8000000 in
theorem S_copyLevel (x : TLevel) (hg : Enc.gd x) (hL : x.Rows.length ≤ 1048576) : Con Try.prog 92 [] [ag x] [.row 1 (els x.Rows)] (.o (.ag [.ref 0])) := by
  have hlx := els_len x.Rows
  have hg1 := hg.1
  have h00 : ([] : List (List T)).length = 0 := rfl
  refine Con.of Try.func92 rfl Try.ntmps92 rfl (fun E => ?_)
  refine A_seq ?_; refine A_region ?_; refine M1 (q_boxN rfl rfl rfl rfl) rfl rfl ?_; refine M1 (q_alloc rfl rfl rfl) rfl rfl ?_; refine L_nil ?_; refine T_n ?_; refine A_seq ?_
  refine A_region ?_; refine M1 (q_bslice0 rfl rfl rfl) rfl rfl ?_; refine M0 (q_fldp rfl rfl rfl rfl (by decide)) rfl rfl ?_; refine M0 (q_ld1 rfl rfl rfl rfl rfl) rfl rfl ?_
  refine M_app rfl rfl rfl rfl rfl rfl rfl rfl rfl rfl (els_plain _) (els_k _) (by omega) (by omega) ?_; refine M0 (q_build rfl rfl rfl rfl rfl) rfl rfl ?_
  refine M_stN rfl rfl rfl rfl rfl rfl rfl rfl rfl ?_; refine L_nil ?_; refine T_n ?_; refine A_ret ?_; refine F_r ?_
  exact E_cell rfl rfl rfl rfl (W_end [2] (by decide) rfl rfl rfl)
def zeroReplay : TReplay := ⟨⟨[]⟩, 0, 0, 0, [], []⟩
def newReplay (l : TLevel) (p s e : Int) : TReplay := if replayOk ⟨l, p, s, e, [], []⟩ = true then ⟨l, p, s, e, [], []⟩ else zeroReplay
end Go.Proofs.Ytkfnaniegldfaaa
