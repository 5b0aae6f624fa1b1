/-
  The statement FnExactPartSum, and its tied card: for every input the law returns true, and each argument reads afterwards as it read before.
  Conditions: none.
-/
import Derived.Test.YtkfnaniegldfaaaDoorRows
import Derived.Test.YtkfnaniegldfaaaDoorTie
import Derived.Test.YtkfnaniegldfaaaDoorCards
import Derived.SevenTiedAt
import Derived.LaidMore
import Derived.ProofKit
import Derived.Stop.Joined
import Derived.OpenShut
import Derived.ShutString
import Derived.ChangeOld
import Derived.Test.YtkfnaniegldfaaaDoorDDSumRowk12
section
set_option linter.unusedVariables false
namespace Go.Proofs.YtkfnaniegldfaaaDoor
open Go.ChangeShapes Go.WideShapes Go.ChangeAt Go.RowKit

theorem all2_nil {w : World} {H : Hs} {F : Nat → Prop} : ∀ (i : Nat) (x : V2) (v : Value), ([] : List V2)[i]? = some x → ([] : List Value)[i]? = some v → R2 w H F x v := fun _ _ _ h => by simp at h
theorem all2_cons {w : World} {H : Hs} {F : Nat → Prop} {a : V2} {u : Value} {bs : List V2} {us : List Value} (h : R2 w H F a u) (hs : ∀ (i : Nat) (x : V2) (v : Value), bs[i]? = some x → us[i]? = some v → R2 w H F x v) : ∀ (i : Nat) (x : V2) (v : Value), (a :: bs)[i]? = some x → (u :: us)[i]? = some v → R2 w H F x v
  | 0, x, v, h1, h2 => by simp at h1 h2; subst h1 h2; exact h
  | i + 1, x, v, h1, h2 => hs i x v (by simpa using h1) (by simpa using h2)

theorem door_fnExactPartSum (os : Os) (args : Array Value) : laidMetH Tryd.prog Rows.fnExactPartSumRow.laid ((World.doorLaid Tryd.prog 40 os).forCall (fun _ _ => 0) ⟨#[], args, []⟩).memory :=
  laidMetH_of_parts3 (fuel := 8) (laidMet_of_run' 8 (by kernel_rfl) (by kernel_rfl)) (by kernel_rfl) (by kernel_rfl)
theorem own_fnExactPartSum : ownKnob Tryd.prog.godebug = none := by kernel_rfl
theorem laidOut_fnExactPartSum : laidOutB Tryd.prog = true := by kernel_rfl
set_option maxRecDepth 100000 in
theorem fnExactPartSum_lifted (os : Os) (started : os.Started) (H : Type) (enc : TypeId × Value → H) :
    ReturnsInHanded {} Tryd.checked os 5 .any (fun w args => (Rows.fnExactPartSumSpec.pre enc Tryd.prog Tryd.f5 [] false w args ∧ laidMetH Tryd.prog Rows.fnExactPartSumRow.laid w) ∧ sizedMet enc Tryd.prog Tryd.f5 (OpenSpec.ofChange Rows.fnExactPartSumSpec) false w args) (Rows.fnExactPartSumSpec.post enc Tryd.prog Tryd.f5 false true false false) := by
  refine returnsInHanded_of_change_and (C := Tryd.checked) (X := fun w _ => laidMetH Tryd.prog Rows.fnExactPartSumRow.laid w) (fun _ _ _ hh h => h.of_heap hh) own_fnExactPartSum started (by kernel_rfl) Tryd.func5
    (ChangeSpec.witness_shaped (enc := enc) (C := Tryd.checked) (os := os) (X := fun w _ => laidMetH Tryd.prog Rows.fnExactPartSumRow.laid w) false (World.doorLaid Tryd.prog 40 os) #[.agg #[.slice none 0 0, .int .i64 0, .int .i64 0, .slice none 0 0, .slice none 0 0], .string ⟨#[]⟩] 8 rfl (World.shaped_of_RefB (by kernel_rfl) (by kernel_rfl)) (by kernel_rfl) (by kernel_rfl) (by kernel_rfl) (door_fnExactPartSum os _)) ?_
  intro W base args ds gs before hval0 hW _ _ hL _
  have hval : ∀ (j : Nat) t v, Tryd.f5.params[j]? = some t → args[j]? = some v → Value.okWide Tryd.prog W .any base t v := hval0
  have hW' := hW
  obtain ⟨p, q, hA0, hV, rfl, hfz, hnd⟩ := hW
  have hA : DataW.TrodAll enc Tryd.prog W 0 (fun _ => true) true Tryd.f5.params.toList args.toList ds p := hA0
  rw [Tryd.params5] at hA hval
  obtain ⟨v0, vs0, d0, ds0, p0, q0, hargs, rfl, rfl, h0, r0⟩ := trodAll_cons hA
  obtain ⟨v1, vs1, d1, ds1, p1, q1, rfl, rfl, rfl, h1, r1⟩ := trodAll_cons r0
  obtain ⟨rfl, rfl, rfl⟩ := trodAll_nil r1
  obtain rfl : args = #[v0, v1] := by cases args; simp_all
  obtain ⟨rfl, rfl⟩ := trodVars_none hV
  have k0 := h0
  have lt0 : ∀ x ∈ p0, x.block < W.heap.size := by obtain ⟨m, hm⟩ := k0; exact DataW.trod_lt m _ _ _ hm
  obtain ⟨⟨cs0⟩, rfl, _⟩ := okWide_struct Tryd.underlying35 (hval 0 35 v0 rfl rfl)
  obtain ⟨y0, g0y, r0y⟩ := reads_of_Trod (P := Tryd.prog) (t := 35) h0
  have k1 := h1
  have lt1 : ∀ x ∈ p1, x.block < W.heap.size := by obtain ⟨m, hm⟩ := k1; exact DataW.trod_lt m _ _ _ hm
  obtain ⟨a1, rfl, rfl, rfl, w1⟩ := ChangeMaps.open_string Tryd.underlying9 (hval 1 9 v1 rfl rfl) h1
  clear hA0 hval0
  refine (law_calls (law_PartSum y0 a1 g0y (by simpa [maxLen, Enc.gd] using w1)) W [.agg (List.toArray cs0), .string a1] rfl (all2_cons (r2_agg r0y) (all2_cons (r2_string a1) all2_nil))).mono fun e W' ⟨he, bel⟩ => ?_
  subst he
  exact ⟨_, rfl, _, _, _, [], _, [], hW', trodAll_mk1 (shut_bool Tryd.underlying4 _), (trodAll_cons_mk (Below.trod laidOut_fnExactPartSum (by kernel_rfl) (of_decide_eq_true (by kernel_rfl)) k0 bel lt0) (trodAll_cons_mk (Below.trod laidOut_fnExactPartSum (by kernel_rfl) (of_decide_eq_true (by kernel_rfl)) k1 bel lt1) trodAll_mk0)), rfl, bel.frame _, fun h => by cases h⟩

theorem fnExactPartSum_holds : Rows.FnExactPartSumSaid :=
  OpenClaim.holds_of_wide 5 Tryd.f5 rfl rfl rfl rfl rfl rfl rfl ⟨rfl, rfl, rfl, rfl, rfl⟩ rfl rfl rfl rfl rfl (by kernel_rfl) Tryd.func5 (by kernel_rfl)
    (of_decide_eq_true (by kernel_rfl)) (by unfold Func.isWrapper; first | (rw [if_pos (by decide +kernel)]; kernel_rfl) | (rw [if_neg (by decide +kernel)]; exact ⟨rfl, rfl⟩))
    (fun os started H enc _ => fnExactPartSum_lifted os started H enc)
#print axioms fnExactPartSum_holds
theorem fnExactPartSumCard_holds : Rows.FnExactPartSumCardSaid :=
  Claim7.holds_tied_plain_at .later [] Rows.fnExactPartSumCard.laidKinds true Rows.fnExactPartSumCard.stood.harness false
    fnExactPartSum_holds (fun _ h => by cases h) (by kernel_rfl) (fun _ h => by cases h) fnExactPartSum_row_tie rfl ⟨rfl, rfl⟩ (by kernel_rfl) rfl
    (fun f fn hf hfn => by
      obtain rfl : f = 5 := Option.some.inj ((show Tryd.prog.funcNamed "loop.example/g03315/laws.FnExactPartSum" = some 5 by kernel_rfl).symm.trans hf) |>.symm
      obtain rfl : fn = Tryd.f5 := (Option.some.inj (Tryd.func5.symm.trans hfn)).symm
      exact ⟨by kernel_rfl, fun j t ht => by
        rw [Tryd.params5] at ht
        have hm : t ∈ [35, 9] := by simpa using Array.mem_of_getElem? ht
        have hall : ([35, 9].all fun u => !Tryd.prog.wantsStandIn u) = true := by kernel_rfl
        exact (show Tryd.prog.wantsStandIn t = false by simpa using List.all_eq_true.1 hall t hm)⟩)
    (by kernel_rfl)
#print axioms fnExactPartSumCard_holds

end Go.Proofs.YtkfnaniegldfaaaDoor
end
