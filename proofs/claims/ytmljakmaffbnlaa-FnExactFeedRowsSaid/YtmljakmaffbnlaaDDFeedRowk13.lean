/-
  The statement FnExactFeedRows: for every input the law returns true, and each argument reads afterwards as it read before.
  Conditions: none.
-/
import Derived.Test.YtmljakmaffbnlaaRows
import Derived.OpenShut
import Derived.ShutString
import Derived.ChangeOld
import Derived.Test.YtmljakmaffbnlaaDDFeedRowk12
section
set_option linter.unusedVariables false
namespace Go.Proofs.Ytmljakmaffbnlaa
open Go.ChangeShapes Go.WideShapes Go.ChangeAt Go.RowKit

theorem all2_nil {w : World} {H : Hs} {F : Nat → Prop} : ∀ (i : Nat) (x : V2) (v : Value),([] : List V2)[i]? = some x → ([] : List Value)[i]? = some v → R2 w H F x v := fun _ _ _ h => by simp at h
theorem all2_cons {w : World} {H : Hs} {F : Nat → Prop} {a : V2} {u : Value} {bs : List V2} {us : List Value} (h : R2 w H F a u) (hs : ∀ (i : Nat) (x : V2) (v : Value),bs[i]? = some x → us[i]? = some v → R2 w H F x v) : ∀ (i : Nat) (x : V2) (v : Value),(a :: bs)[i]? = some x → (u :: us)[i]? = some v → R2 w H F x v
  | 0,x,v,h1,h2 => by simp at h1 h2; subst h1 h2; exact h
  | i + 1,x,v,h1,h2 => hs i x v (by simpa using h1) (by simpa using h2)

theorem own_fnExactFeedRows : ownKnob Try.prog.godebug = none := by kernel_rfl
theorem laidOut_fnExactFeedRows : laidOutB Try.prog = true := by kernel_rfl
set_option maxRecDepth 100000 in
theorem fnExactFeedRows_lifted (os : Os) (started : os.Started) (H : Type) (enc : TypeId × Value → H) :
    ReturnsInHanded {} Try.checked os 5 .any (Rows.fnExactFeedRowsSpec.pre6 enc Try.prog Try.f5 Rows.fnExactFeedRowsRow.domain false) (Rows.fnExactFeedRowsSpec.post enc Try.prog Try.f5 false true false false) := by
  refine returnsInHanded_of_change (C := Try.checked) own_fnExactFeedRows started (by kernel_rfl) Try.func5
    (ChangeSpec.witness6 (enc := enc) (C := Try.checked) false ⟨#[],#[.agg #[.slice none 0 0,.int .i64 0,.int .i64 0,.slice none 0 0,.slice none 0 0,.int .i64 0],.int .i64 0,.slice none 0 0],[]⟩ 8 (by kernel_rfl) (by kernel_rfl) (by kernel_rfl) (by kernel_rfl)) ?_
  intro W base args ds gs before hval0 hW hcnd _
  have hval : ∀ (j : Nat) t v,Try.f5.params[j]? = some t → args[j]? = some v → Value.okWide Try.prog W .any base t v := hval0
  have hW' := hW
  obtain ⟨p,q,hA0,hV,rfl,hfz,hnd⟩ := hW
  have hA : DataW.TrodAll enc Try.prog W 0 (fun _ => true) true Try.f5.params.toList args.toList ds p := hA0
  rw [Try.params5] at hA hval
  obtain ⟨v0,vs0,d0,ds0,p0,q0,hargs,rfl,rfl,h0,r0⟩ := trodAll_cons hA
  obtain ⟨v1,vs1,d1,ds1,p1,q1,rfl,rfl,rfl,h1,r1⟩ := trodAll_cons r0
  obtain ⟨v2,vs2,d2,ds2,p2,q2,rfl,rfl,rfl,h2,r2⟩ := trodAll_cons r1
  obtain ⟨rfl,rfl,rfl⟩ := trodAll_nil r2
  obtain rfl : args = #[v0,v1,v2] := by cases args; simp_all
  obtain ⟨rfl,rfl⟩ := trodVars_none hV
  have k0 := h0
  have lt0 : ∀ x ∈ p0,x.block < W.heap.size := by obtain ⟨m,hm⟩ := k0; exact DataW.trod_lt m _ _ _ hm
  obtain ⟨⟨cs0⟩,rfl,_⟩ := okWide_struct Try.underlying48 (hval 0 48 v0 rfl rfl)
  obtain ⟨y0,g0y,r0y⟩ := reads_of_Trod (P := Try.prog) (t := 48) h0
  have k1 := h1
  have lt1 : ∀ x ∈ p1,x.block < W.heap.size := by obtain ⟨m,hm⟩ := k1; exact DataW.trod_lt m _ _ _ hm
  obtain ⟨a1,rfl,rfl,rfl,w1⟩ := open_int Try.underlying3 (hval 1 3 v1 rfl rfl) h1
  have k2 := h2
  have lt2 : ∀ x ∈ p2,x.block < W.heap.size := by obtain ⟨m,hm⟩ := k2; exact DataW.trod_lt m _ _ _ hm
  obtain ⟨a2,len2,cap2,rfl⟩ := okWide_slice Try.underlying25 (hval 2 25 v2 rfl rfl)
  obtain ⟨y2,g2y,r2y⟩ := reads_of_Trod (P := Try.prog) (t := 25) h2
  clear hA0 hval0
  refine (law_calls (law_FeedRows y0 a1 y2 g0y (i64_of_wf w1) g2y) W [.agg (List.toArray cs0),.int .i64 a1,.slice a2 len2 cap2] rfl (all2_cons (r2_agg r0y) (all2_cons (r2_int a1) (all2_cons (r2_slice r2y) all2_nil)))).mono fun e W' ⟨he,bel⟩ => ?_
  subst he
  exact ⟨_,rfl,_,_,_,[],_,[],hW',trodAll_mk1 (shut_bool Try.underlying4 _),(trodAll_cons_mk (Below.trod laidOut_fnExactFeedRows (by kernel_rfl) (of_decide_eq_true (by kernel_rfl)) k0 bel lt0) (trodAll_cons_mk (Below.trod laidOut_fnExactFeedRows (by kernel_rfl) (of_decide_eq_true (by kernel_rfl)) k1 bel lt1) (trodAll_cons_mk (Below.trod laidOut_fnExactFeedRows (by kernel_rfl) (of_decide_eq_true (by kernel_rfl)) k2 bel lt2) trodAll_mk0))),rfl,bel.frame _,fun h => by cases h⟩

theorem fnExactFeedRows_holds : Rows.FnExactFeedRowsSaid :=
  OpenClaim.holds_of_wide 5 Try.f5 J J J J J J J ⟨rfl,rfl,rfl,rfl,rfl⟩ J J J J J (by kernel_rfl) Try.func5 (by kernel_rfl)
    (of_decide_eq_true (by kernel_rfl)) (by unfold Func.isWrapper; first | (rw [if_pos (by decide +kernel)]; kernel_rfl) | (rw [if_neg (by decide +kernel)]; exact ⟨rfl,rfl⟩))
    (fun os started H enc _ => fnExactFeedRows_lifted os started H enc)
#print axioms fnExactFeedRows_holds

end Go.Proofs.Ytmljakmaffbnlaa
end
