/-
  The statement FnExactJoinWatcher: for every input the law returns true, and each argument reads afterwards as it read before.
  Conditions: none.
-/
import Derived.Test.YtoecjaohdnoenaaGreatRows
import Derived.OpenShut
import Derived.ShutString
import Derived.ChangeOld
import Derived.Test.YtoecjaohdnoenaaGreatDDJoinRowk33
set_option linter.unusedVariables false
set_option linter.unusedSimpArgs false
set_option maxHeartbeats 8000000
namespace Go.Proofs.YtoecjaohdnoenaaGreat
section
open Go.ChangeShapes Go.WideShapes Go.ChangeAt Go.RowKit

theorem all2_nil {w:World} {H:Hs} {F:Nat→Prop}:∀ (i:Nat) (x:V2) (v:Value),([]:List V2)[i]? = some x→([]:List Value)[i]? = some v→R2 w H F x v:=fun _ _ _ h=>by simp at h
theorem all2_cons {w:World} {H:Hs} {F:Nat→Prop} {a:V2} {u:Value} {bs:List V2} {us:List Value} (h:R2 w H F a u) (hs:∀ (i:Nat) (x:V2) (v:Value),bs[i]? = some x→us[i]? = some v→R2 w H F x v):∀ (i:Nat) (x:V2) (v:Value),(a::bs)[i]? = some x→(u::us)[i]? = some v→R2 w H F x v
 |0,x,v,h1,h2=>by simp at h1 h2; subst h1 h2; exact h
 |i+1,x,v,h1,h2=>hs i x v (by simpa using h1) (by simpa using h2)

theorem own_fnExactJoinWatcher:ownKnob Tryz.prog.godebug=none:=by kernel_rfl
theorem laidOut_fnExactJoinWatcher:laidOutB Tryz.prog=true:=by kernel_rfl
set_option maxRecDepth 100000 in
theorem fnExactJoinWatcher_lifted (os:Os) (started:os.Started) (H:Type) (enc:TypeId×Value→H) :
  ReturnsInHanded {} Tryz.checked os 8 .any (Rows.fnExactJoinWatcherSpec.pre6 enc Tryz.prog Tryz.f8 Rows.fnExactJoinWatcherRow.domain false) (Rows.fnExactJoinWatcherSpec.post enc Tryz.prog Tryz.f8 false true false false):=by
 refine returnsInHanded_of_change (C:=Tryz.checked) own_fnExactJoinWatcher started (by kernel_rfl) Tryz.func8
  (ChangeSpec.witness6 (enc:=enc) (C:=Tryz.checked) false ⟨#[],#[.agg #[.slice none 0 0,.int .i64 0,.int .i64 0,.slice none 0 0,.slice none 0 0,.slice none 0 0,.slice none 0 0,.slice none 0 0,.int .i64 0,.slice none 0 0,.slice none 0 0,.slice none 0 0,.int .i64 0]],[]⟩ 8 (by kernel_rfl) (by kernel_rfl) (by kernel_rfl) (by kernel_rfl)) ?_
 intro W base args ds gs before hval0 hW hcnd _
 have hval:∀ (j:Nat) t v,Tryz.f8.params[j]? = some t→args[j]? = some v→Value.okWide Tryz.prog W .any base t v:=hval0
 have hW':=hW
 obtain⟨p,q,hA0,hV,rfl,hfz,hnd⟩:=hW
 have hA:DataW.TrodAll enc Tryz.prog W 0 (fun _=>true) true Tryz.f8.params.toList args.toList ds p:=hA0
 rw[Tryz.params8] at hA hval
 obtain⟨v0,vs0,d0,ds0,p0,q0,hargs,rfl,rfl,h0,r0⟩:=trodAll_cons hA
 obtain⟨rfl,rfl,rfl⟩:=trodAll_nil r0
 obtain rfl:args=#[v0]:=by cases args; simp_all
 obtain⟨rfl,rfl⟩:=trodVars_none hV
 have k0:=h0
 have lt0:∀ x∈p0,x.block<W.heap.size:=by obtain⟨m,hm⟩:=k0; exact DataW.trod_lt m _ _ _ hm
 obtain⟨⟨cs0⟩,rfl,_⟩:=okWide_struct Tryz.underlying99 (hval 0 99 v0 rfl rfl)
 obtain⟨y0,g0y,r0y⟩:=reads_of_Trod (P:=Tryz.prog) (t:=99) h0
 clear hA0 hval0
 refine (law_calls (law_JoinWatcher y0 g0y) W [.agg (List.toArray cs0)] J (all2_cons (r2_agg r0y) all2_nil)).mono fun e W' ⟨he,bel⟩ => ?_
 subst he
 exact⟨_,J,_,_,_,[],_,[],hW',trodAll_mk1 (shut_bool Tryz.underlying4 _),(trodAll_cons_mk (Below.trod laidOut_fnExactJoinWatcher (by kernel_rfl) (Gqc (by kernel_rfl)) k0 bel lt0) trodAll_mk0),J,bel.frame _,fun h=>by cases h⟩

theorem and_t {a b:Bool} (h:a=true) (k:b=true):(a&&b)=true:=by rw[h,k]; rfl
set_option maxRecDepth 100000 in
theorem fnExactJoinWatcher_ca:(Rows.fnExactJoinWatcherRow.inPlace == (Tryz.checked.prog).inPlace 8)=true:=by kernel_rfl
set_option maxRecDepth 100000 in
theorem fnExactJoinWatcher_cb:(Rows.fnExactJoinWatcherRow.unfollowed == (Tryz.checked.prog).unfollowed 8)=true:=by kernel_rfl
set_option maxRecDepth 100000 in
theorem fnExactJoinWatcher_cc:(Rows.fnExactJoinWatcherRow.recurses == (Tryz.checked.prog).recurses 8)=true:=by kernel_rfl
set_option maxRecDepth 100000 in
theorem fnExactJoinWatcher_cd:(Rows.fnExactJoinWatcherRow.named == (Tryz.checked.prog).varsNamed 8)=true:=by kernel_rfl
set_option maxRecDepth 100000 in
theorem fnExactJoinWatcher_closed:joinedFacts Tryz.checked.prog 8 Tryz.f8 Rows.fnExactJoinWatcherSpec Rows.fnExactJoinWatcherRow=true:=by
 unfold joinedFacts
 repeat' with_reducible refine and_t ?_ ?_
 all_goals first | (with_reducible exact fnExactJoinWatcher_ca) | (with_reducible exact fnExactJoinWatcher_cb) | (with_reducible exact fnExactJoinWatcher_cc) | (with_reducible exact fnExactJoinWatcher_cd) | (as_aux_lemma=>kernel_rfl)
theorem fnExactJoinWatcher_holds:Rows.FnExactJoinWatcherSaid :=
 OpenClaim.holds_of_wide 8 Tryz.f8 J J J J J J J ⟨rfl,rfl,rfl,rfl,rfl⟩ J J J J J (by kernel_rfl) Tryz.func8 fnExactJoinWatcher_closed
  (Gqc (by kernel_rfl)) (by unfold Func.isWrapper; first | (rw[if_pos (by decide +kernel)]; kernel_rfl) | (rw[if_neg (by decide +kernel)]; exact⟨rfl,rfl⟩))
  (fun os started H enc _=>fnExactJoinWatcher_lifted os started H enc)
#print axioms fnExactJoinWatcher_holds
end
end Go.Proofs.YtoecjaohdnoenaaGreat
