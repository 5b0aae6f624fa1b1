/-
  The statement FnExactDecodeReplay, and its tied card: for every input the law returns true, and each argument reads afterwards as it read before.
  Conditions: none.
-/
import Derived.Test.YtcjclaoogdblbaaDoorRows
import Derived.Test.YtcjclaoogdblbaaDoorTie
import Derived.Test.YtcjclaoogdblbaaDoorCards
import Derived.SevenTiedAt
import Derived.LaidMore
import Derived.ProofKit
import Derived.Lay
import Derived.Shelf.Vars
import Derived.Stop.Joined
import Derived.OpenShut
import Derived.ShutString
import Derived.ChangeOld
import Derived.Test.YtcjclaoogdblbaaDoorDDDrRowk30
import Derived.Test.YtcjclaoogdblbaaDoorDDDrRowk31
set_option linter.unusedVariables false
namespace Go.Proofs.YtcjclaoogdblbaaDoor
section
open Go.ChangeShapes Go.WideShapes Go.ChangeAt Go.RowKit

theorem all2_nil {w : World} {H : Hs} {F : Nat → Prop} : ∀ (i : Nat) (x : V2) (v : Value),([] : List V2)[i]? = some x → ([] : List Value)[i]? = some v → R2 w H F x v := fun _ _ _ h => by simp at h
theorem all2_cons {w : World} {H : Hs} {F : Nat → Prop} {a : V2} {u : Value} {bs : List V2} {us : List Value} (h : R2 w H F a u) (hs : ∀ (i : Nat) (x : V2) (v : Value),bs[i]? = some x → us[i]? = some v → R2 w H F x v) : ∀ (i : Nat) (x : V2) (v : Value),(a :: bs)[i]? = some x → (u :: us)[i]? = some v → R2 w H F x v
 | 0,x,v,h1,h2 => by simp at h1 h2; subst h1 h2; exact h
 | i + 1,x,v,h1,h2 => hs i x v (by simpa using h1) (by simpa using h2)

theorem own_fnExactDecodeReplay : ownKnob Tryd.prog.godebug = none := by kernel_rfl
theorem laidOut_fnExactDecodeReplay : laidOutB Tryd.prog = true := by kernel_rfl
set_option maxRecDepth 100000 in
theorem fnExactDecodeReplay_lifted (os : Os) (started : os.Started) (H : Type) (enc : TypeId × Value → H) :
  ReturnsInHanded {} Tryd.checked os 6 .any (fun w args => (Rows.fnExactDecodeReplaySpec.pre enc Tryd.prog Tryd.f6 [] false w args ∧ laidMetH Tryd.prog Rows.fnExactDecodeReplayRow.laid w) ∧ sizedMet enc Tryd.prog Tryd.f6 (OpenSpec.ofChange Rows.fnExactDecodeReplaySpec) false w args) (Rows.fnExactDecodeReplaySpec.post enc Tryd.prog Tryd.f6 false true false false) := by
 refine ret_and_shaped (C := Tryd.checked) (X := fun w _ => laidMetH Tryd.prog Rows.fnExactDecodeReplayRow.laid w) (fun _ _ _ hh h => h.of_heap hh) own_fnExactDecodeReplay started (by kernel_rfl) Tryd.func6
  (ChangeSpec.witness_shaped (enc := enc) (C := Tryd.checked) (os := os) (X := fun w _ => laidMetH Tryd.prog Rows.fnExactDecodeReplayRow.laid w) false (World.laidAll Tryd.prog os Rows.fnExactDecodeReplayRow.laid) #[.string ⟨#[]⟩] 8 (World.laidAll_os _ _ _)
   (World.shaped_of_ZipB (by kernel_rfl) (by kernel_rfl)) (by kernel_rfl) (by kernel_rfl) (by kernel_rfl)
   (by rw [MakeChecks.laidMetH_plain _ _ _ (by kernel_rfl)]; exact laidMet_laidAll _ (by kernel_rfl) (by kernel_rfl))) ?_
 intro W base args ds gs before hval0 hW _ _ hL hSh _
 have hval : ∀ (j : Nat) t v,Tryd.f6.params[j]? = some t → args[j]? = some v → Value.okWide Tryd.prog W .any base t v := hval0
 have hW' := hW
 obtain ⟨p,q,hA0,hV,rfl,hfz,hnd⟩ := hW
 have hA : DataW.TrodAll enc Tryd.prog W 0 (fun _ => true) true Tryd.f6.params.toList args.toList ds p := hA0
 rw [Tryd.params6] at hA hval
 obtain ⟨v0,vs0,d0,ds0,p0,q0,hargs,rfl,rfl,h0,r0⟩ := trodAll_cons hA
 obtain ⟨rfl,rfl,rfl⟩ := trodAll_nil r0
 obtain rfl : args = #[v0] := by cases args; simp_all
 obtain ⟨rfl,rfl⟩ := trodVars_none hV
 have k0 := h0
 have lt0 : ∀ x ∈ p0,x.block < W.heap.size := by obtain ⟨m,hm⟩ := k0; exact DataW.trod_lt m _ _ _ hm
 obtain ⟨a0,rfl,rfl,rfl,w0⟩ := ChangeMaps.open_string Tryd.underlying9 (hval 0 9 v0 rfl rfl) h0
 clear hA0 hval0
 refine (law_callsP (law_DecodeReplay a0 (by simpa [maxLen,Enc.gd] using w0)) W (Go.Proofs.cell_of_shapedOpen_int (zero := #[.int .i64 0]) (t := 3) hSh (of_decide_eq_true (by kernel_rfl)) (by kernel_rfl) J (by kernel_rfl) (by kernel_rfl) Tryd.underlying3) [.string a0] J (all2_cons (r2_string a0) all2_nil)).mono fun e W' ⟨he,bel⟩ => ?_
 subst he
 exact ⟨_,J,_,_,_,[],_,[],hW',trodAll_mk1 (shut_bool Tryd.underlying4 _),(trodAll_cons_mk (Below.trod laidOut_fnExactDecodeReplay (by kernel_rfl) (of_decide_eq_true (by kernel_rfl)) k0 bel lt0) trodAll_mk0),J,bel.frame _,fun h => by cases h⟩

theorem fnExactDecodeReplay_holds : Rows.FnExactDecodeReplaySaid :=
 OpenClaim.holds_of_wide 6 Tryd.f6 J J J J J J J ⟨rfl,rfl,rfl,rfl,rfl⟩ J J J J J (by kernel_rfl) Tryd.func6 (by kernel_rfl)
  (of_decide_eq_true (by kernel_rfl)) (by unfold Func.isWrapper; first | (rw [if_pos (by decide +kernel)]; kernel_rfl) | (rw [if_neg (by decide +kernel)]; exact ⟨rfl,rfl⟩))
  (fun os started H enc _ => fnExactDecodeReplay_lifted os started H enc)
#print axioms fnExactDecodeReplay_holds
theorem fnExactDecodeReplayCard_holds : Rows.FnExactDecodeReplayCardSaid :=
 Claim7.holds_tied_plain_at .later [] Rows.fnExactDecodeReplayCard.laidKinds true Rows.fnExactDecodeReplayCard.stood.harness false
  fnExactDecodeReplay_holds (fun _ h => by cases h) (by kernel_rfl) (fun _ h => by cases h) fnExactDecodeReplay_row_tie rfl ⟨rfl,rfl⟩ (by kernel_rfl) rfl
  (fun f fn hf hfn => by
   obtain rfl : f = 6 := Option.some.inj ((show Tryd.prog.funcNamed "loop.example/g03315/laws.FnExactDecodeReplay" = some 6 by kernel_rfl).symm.trans hf) |>.symm
   obtain rfl : fn = Tryd.f6 := (Option.some.inj (Tryd.func6.symm.trans hfn)).symm
   exact ⟨by kernel_rfl,fun j t ht => by
    rw [Tryd.params6] at ht
    have hm : t ∈ [9] := by simpa using Array.mem_of_getElem? ht
    have hall : ([9].all fun u => !Tryd.prog.wantsStandIn u) = true := by kernel_rfl
    exact (show Tryd.prog.wantsStandIn t = false by simpa using List.all_eq_true.1 hall t hm)⟩)
  (by kernel_rfl)
#print axioms fnExactDecodeReplayCard_holds
end
end Go.Proofs.YtcjclaoogdblbaaDoor
