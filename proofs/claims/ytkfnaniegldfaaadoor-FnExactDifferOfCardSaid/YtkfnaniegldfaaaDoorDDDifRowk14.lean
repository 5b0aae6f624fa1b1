/-
  The statement FnExactDifferOf, and its tied card: for every input the law returns true, and each argument reads afterwards as it read before.
  Conditions: none.
-/
import Derived.Test.YtkfnaniegldfaaaDoorRows
import Derived.Test.YtkfnaniegldfaaaDoorTie
import Derived.Test.YtkfnaniegldfaaaDoorCards
import Derived.SevenTiedAt
import Derived.LaidMore
import Derived.ProofKit
import Derived.Stop.Joined
import Derived.OpenShut
import Derived.ShutString
import Derived.ChangeOld
import Derived.Test.YtkfnaniegldfaaaDoorDDDifRowk13
section
set_option linter.unusedVariables false
namespace Go.Proofs.YtkfnaniegldfaaaDoor
open Go.ChangeShapes Go.WideShapes Go.ChangeAt Go.RowKit

theorem all2_nil {w : World} {H : Hs} {F : Nat → Prop} : ∀ (i : Nat) (x : V2) (v : Value), ([] : List V2)[i]? = some x → ([] : List Value)[i]? = some v → R2 w H F x v := fun _ _ _ h => by simp at h
theorem all2_cons {w : World} {H : Hs} {F : Nat → Prop} {a : V2} {u : Value} {bs : List V2} {us : List Value} (h : R2 w H F a u) (hs : ∀ (i : Nat) (x : V2) (v : Value), bs[i]? = some x → us[i]? = some v → R2 w H F x v) : ∀ (i : Nat) (x : V2) (v : Value), (a :: bs)[i]? = some x → (u :: us)[i]? = some v → R2 w H F x v
  | 0, x, v, h1, h2 => by simp at h1 h2; subst h1 h2; exact h
  | i + 1, x, v, h1, h2 => hs i x v (by simpa using h1) (by simpa using h2)

theorem door_fnExactDifferOf (os : Os) (args : Array Value) : laidMetH Tryd.prog Rows.fnExactDifferOfRow.laid ((World.doorLaid Tryd.prog 40 os).forCall (fun _ _ => 0) ⟨#[], args, []⟩).memory :=
  laidMetH_of_parts3 (fuel := 8) (laidMet_of_run' 8 (by kernel_rfl) (by kernel_rfl)) (by kernel_rfl) (by kernel_rfl)
theorem own_fnExactDifferOf : ownKnob Tryd.prog.godebug = none := by kernel_rfl
theorem laidOut_fnExactDifferOf : laidOutB Tryd.prog = true := by kernel_rfl
set_option maxRecDepth 100000 in
theorem fnExactDifferOf_lifted (os : Os) (started : os.Started) (H : Type) (enc : TypeId × Value → H) :
    ReturnsInHanded {} Tryd.checked os 6 .any (fun w args => (Rows.fnExactDifferOfSpec.pre enc Tryd.prog Tryd.f6 [] false w args ∧ laidMetH Tryd.prog Rows.fnExactDifferOfRow.laid w) ∧ sizedMet enc Tryd.prog Tryd.f6 (OpenSpec.ofChange Rows.fnExactDifferOfSpec) false w args) (Rows.fnExactDifferOfSpec.post enc Tryd.prog Tryd.f6 false true false false) := by
  refine returnsInHanded_of_change_and (C := Tryd.checked) (X := fun w _ => laidMetH Tryd.prog Rows.fnExactDifferOfRow.laid w) (fun _ _ _ hh h => h.of_heap hh) own_fnExactDifferOf started (by kernel_rfl) Tryd.func6
    (ChangeSpec.witness_shaped (enc := enc) (C := Tryd.checked) (os := os) (X := fun w _ => laidMetH Tryd.prog Rows.fnExactDifferOfRow.laid w) false (World.doorLaid Tryd.prog 40 os) #[.agg #[.slice none 0 0, .int .i64 0, .int .i64 0, .slice none 0 0, .slice none 0 0], .agg #[.slice none 0 0, .int .i64 0, .int .i64 0, .slice none 0 0, .slice none 0 0]] 8 rfl (World.shaped_of_RefB (by kernel_rfl) (by kernel_rfl)) (by kernel_rfl) (by kernel_rfl) (by kernel_rfl) (door_fnExactDifferOf os _)) ?_
  intro W base args ds gs before hval0 hW _ _ hL _
  have hval : ∀ (j : Nat) t v, Tryd.f6.params[j]? = some t → args[j]? = some v → Value.okWide Tryd.prog W .any base t v := hval0
  have hW' := hW
  obtain ⟨p, q, hA0, hV, rfl, hfz, hnd⟩ := hW
  have hA : DataW.TrodAll enc Tryd.prog W 0 (fun _ => true) true Tryd.f6.params.toList args.toList ds p := hA0
  rw [Tryd.params6] at hA hval
  obtain ⟨v0, vs0, d0, ds0, p0, q0, hargs, rfl, rfl, h0, r0⟩ := trodAll_cons hA
  obtain ⟨v1, vs1, d1, ds1, p1, q1, rfl, rfl, rfl, h1, r1⟩ := trodAll_cons r0
  obtain ⟨rfl, rfl, rfl⟩ := trodAll_nil r1
  obtain rfl : args = #[v0, v1] := by cases args; simp_all
  obtain ⟨rfl, rfl⟩ := trodVars_none hV
  have k0 := h0
  have lt0 : ∀ x ∈ p0, x.block < W.heap.size := by obtain ⟨m, hm⟩ := k0; exact DataW.trod_lt m _ _ _ hm
  obtain ⟨⟨cs0⟩, rfl, _⟩ := okWide_struct Tryd.underlying35 (hval 0 35 v0 rfl rfl)
  obtain ⟨y0, g0y, r0y⟩ := reads_of_Trod (P := Tryd.prog) (t := 35) h0
  have k1 := h1
  have lt1 : ∀ x ∈ p1, x.block < W.heap.size := by obtain ⟨m, hm⟩ := k1; exact DataW.trod_lt m _ _ _ hm
  obtain ⟨⟨cs1⟩, rfl, _⟩ := okWide_struct Tryd.underlying35 (hval 1 35 v1 rfl rfl)
  obtain ⟨y1, g1y, r1y⟩ := reads_of_Trod (P := Tryd.prog) (t := 35) h1
  clear hA0 hval0
  refine (law_calls (law_DifferOf y0 y1 g0y g1y) W [.agg (List.toArray cs0), .agg (List.toArray cs1)] rfl (all2_cons (r2_agg r0y) (all2_cons (r2_agg r1y) all2_nil))).mono fun e W' ⟨he, bel⟩ => ?_
  subst he
  exact ⟨_, rfl, _, _, _, [], _, [], hW', trodAll_mk1 (shut_bool Tryd.underlying4 _), (trodAll_cons_mk (Below.trod laidOut_fnExactDifferOf (by kernel_rfl) (of_decide_eq_true (by kernel_rfl)) k0 bel lt0) (trodAll_cons_mk (Below.trod laidOut_fnExactDifferOf (by kernel_rfl) (of_decide_eq_true (by kernel_rfl)) k1 bel lt1) trodAll_mk0)), rfl, bel.frame _, fun h => by cases h⟩

theorem fnExactDifferOf_holds : Rows.FnExactDifferOfSaid :=
  OpenClaim.holds_of_wide 6 Tryd.f6 rfl rfl rfl rfl rfl rfl rfl ⟨rfl, rfl, rfl, rfl, rfl⟩ rfl rfl rfl rfl rfl (by kernel_rfl) Tryd.func6 (by kernel_rfl)
    (of_decide_eq_true (by kernel_rfl)) (by unfold Func.isWrapper; first | (rw [if_pos (by decide +kernel)]; kernel_rfl) | (rw [if_neg (by decide +kernel)]; exact ⟨rfl, rfl⟩))
    (fun os started H enc _ => fnExactDifferOf_lifted os started H enc)
#print axioms fnExactDifferOf_holds
theorem fnExactDifferOfCard_holds : Rows.FnExactDifferOfCardSaid :=
  Claim7.holds_tied_plain_at .later [] Rows.fnExactDifferOfCard.laidKinds true Rows.fnExactDifferOfCard.stood.harness false
    fnExactDifferOf_holds (fun _ h => by cases h) (by kernel_rfl) (fun _ h => by cases h) fnExactDifferOf_row_tie rfl ⟨rfl, rfl⟩ (by kernel_rfl) rfl
    (fun f fn hf hfn => by
      obtain rfl : f = 6 := Option.some.inj ((show Tryd.prog.funcNamed "loop.example/g03315/laws.FnExactDifferOf" = some 6 by kernel_rfl).symm.trans hf) |>.symm
      obtain rfl : fn = Tryd.f6 := (Option.some.inj (Tryd.func6.symm.trans hfn)).symm
      exact ⟨by kernel_rfl, fun j t ht => by
        rw [Tryd.params6] at ht
        have hm : t ∈ [35, 35] := by simpa using Array.mem_of_getElem? ht
        have hall : ([35, 35].all fun u => !Tryd.prog.wantsStandIn u) = true := by kernel_rfl
        exact (show Tryd.prog.wantsStandIn t = false by simpa using List.all_eq_true.1 hall t hm)⟩)
    (by kernel_rfl)
#print axioms fnExactDifferOfCard_holds

end Go.Proofs.YtkfnaniegldfaaaDoor
end
