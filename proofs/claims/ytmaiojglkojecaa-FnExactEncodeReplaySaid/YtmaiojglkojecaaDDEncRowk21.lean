/-
  The statement FnExactEncodeReplay: for every input the law returns true, and each argument reads afterwards as it read before.
  Conditions: none.
-/
import Derived.Test.YtmaiojglkojecaaRows
import Derived.OpenShut
import Derived.ShutString
import Derived.ChangeOld
import Derived.Test.YtmaiojglkojecaaDDEncRowk20
set_option linter.unusedVariables false
namespace Go.Proofs.Ytmaiojglkojecaa
section
open Go.ChangeShapes Go.WideShapes Go.ChangeAt Go.RowKit

theorem all2_nil {w : World} {H : Hs} {F : Nat → Prop} : ∀ (i : Nat) (x : V2) (v : Value),([] : List V2)[i]? = some x → ([] : List Value)[i]? = some v → R2 w H F x v := fun _ _ _ h => by simp at h
theorem all2_cons {w : World} {H : Hs} {F : Nat → Prop} {a : V2} {u : Value} {bs : List V2} {us : List Value} (h : R2 w H F a u) (hs : ∀ (i : Nat) (x : V2) (v : Value),bs[i]? = some x → us[i]? = some v → R2 w H F x v) : ∀ (i : Nat) (x : V2) (v : Value),(a :: bs)[i]? = some x → (u :: us)[i]? = some v → R2 w H F x v
 | 0,x,v,h1,h2 => by simp at h1 h2; subst h1 h2; exact h
 | i + 1,x,v,h1,h2 => hs i x v (by simpa using h1) (by simpa using h2)

theorem own_fnExactEncodeReplay : ownKnob Try.prog.godebug = none := by kernel_rfl
theorem laidOut_fnExactEncodeReplay : laidOutB Try.prog = true := by kernel_rfl
set_option maxRecDepth 100000 in
theorem fnExactEncodeReplay_lifted (os : Os) (started : os.Started) (H : Type) (enc : TypeId × Value → H) :
  ReturnsInHanded {} Try.checked os 3 .any (Rows.fnExactEncodeReplaySpec.pre6 enc Try.prog Try.f3 Rows.fnExactEncodeReplayRow.domain false) (Rows.fnExactEncodeReplaySpec.post enc Try.prog Try.f3 false true false false) := by
 refine returnsInHanded_of_change (C := Try.checked) own_fnExactEncodeReplay started (by kernel_rfl) Try.func3
  (ChangeSpec.witness6 (enc := enc) (C := Try.checked) false ⟨#[],#[.agg #[.slice none 0 0,.int .i64 0,.int .i64 0,.int .i64 0,.slice none 0 0,.slice none 0 0]],[]⟩ 8 (by kernel_rfl) (by kernel_rfl) (by kernel_rfl) (by kernel_rfl)) ?_
 intro W base args ds gs before hval0 hW hcnd _
 have hval : ∀ (j : Nat) t v,Try.f3.params[j]? = some t → args[j]? = some v → Value.okWide Try.prog W .any base t v := hval0
 have hW' := hW
 obtain ⟨p,q,hA0,hV,rfl,hfz,hnd⟩ := hW
 have hA : DataW.TrodAll enc Try.prog W 0 (fun _ => true) true Try.f3.params.toList args.toList ds p := hA0
 rw [Try.params3] at hA hval
 obtain ⟨v0,vs0,d0,ds0,p0,q0,hargs,rfl,rfl,h0,r0⟩ := trodAll_cons hA
 obtain ⟨rfl,rfl,rfl⟩ := trodAll_nil r0
 obtain rfl : args = #[v0] := by cases args; simp_all
 obtain ⟨rfl,rfl⟩ := trodVars_none hV
 have k0 := h0
 have lt0 : ∀ x ∈ p0,x.block < W.heap.size := by obtain ⟨m,hm⟩ := k0; exact DataW.trod_lt m _ _ _ hm
 obtain ⟨⟨cs0⟩,rfl,_⟩ := okWide_struct Try.underlying27 (hval 0 27 v0 rfl rfl)
 obtain ⟨y0,g0y,r0y⟩ := reads_of_Trod (P := Try.prog) (t := 27) h0
 clear hA0 hval0
 refine (law_calls (law_EncodeReplay y0 g0y) W [.agg (List.toArray cs0)] J (all2_cons (r2_agg r0y) all2_nil)).mono fun e W' ⟨he,bel⟩ => ?_
 subst he
 exact ⟨_,J,_,_,_,[],_,[],hW',trodAll_mk1 (shut_bool Try.underlying4 _),(trodAll_cons_mk (Below.trod laidOut_fnExactEncodeReplay (by kernel_rfl) (of_decide_eq_true (by kernel_rfl)) k0 bel lt0) trodAll_mk0),J,bel.frame _,fun h => by cases h⟩

theorem fnExactEncodeReplay_holds : Rows.FnExactEncodeReplaySaid :=
 OpenClaim.holds_of_wide 3 Try.f3 J J J J J J J ⟨rfl,rfl,rfl,rfl,rfl⟩ J J J J J (by kernel_rfl) Try.func3 (by kernel_rfl)
  (of_decide_eq_true (by kernel_rfl)) (by unfold Func.isWrapper; first | (rw [if_pos (by decide +kernel)]; kernel_rfl) | (rw [if_neg (by decide +kernel)]; exact ⟨rfl,rfl⟩))
  (fun os started H enc _ => fnExactEncodeReplay_lifted os started H enc)
#print axioms fnExactEncodeReplay_holds
end
end Go.Proofs.Ytmaiojglkojecaa
