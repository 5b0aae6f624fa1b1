/-
  The statement FnExactLockstepAt: for every input the law returns true, and each argument reads afterwards as it read before.
  Conditions: none.
-/
import Derived.Test.YtoecjaohdnoenaaGreatRows
import Derived.OpenShut
import Derived.ShutString
import Derived.ChangeOld
import Derived.Test.YtoecjaohdnoenaaGreatDDLockRowk35
set_option linter.unusedVariables false
set_option linter.unusedSimpArgs false
set_option maxHeartbeats 8000000
namespace Go.Proofs.YtoecjaohdnoenaaGreat
section
open Go.ChangeShapes Go.WideShapes Go.ChangeAt Go.RowKit

theorem all2_nil {w:World} {H:Hs} {F:Nat→Prop}:∀ (i:Nat) (x:V2) (v:Value),([]:List V2)[i]? = some x→([]:List Value)[i]? = some v→R2 w H F x v:=fun _ _ _ h=>by simp at h
theorem all2_cons {w:World} {H:Hs} {F:Nat→Prop} {a:V2} {u:Value} {bs:List V2} {us:List Value} (h:R2 w H F a u) (hs:∀ (i:Nat) (x:V2) (v:Value),bs[i]? = some x→us[i]? = some v→R2 w H F x v):∀ (i:Nat) (x:V2) (v:Value),(a::bs)[i]? = some x→(u::us)[i]? = some v→R2 w H F x v
 |0,x,v,h1,h2=>by simp at h1 h2; subst h1 h2; exact h
 |i+1,x,v,h1,h2=>hs i x v (by simpa using h1) (by simpa using h2)

theorem own_fnExactLockstepAt:ownKnob Tryz.prog.godebug=none:=by kernel_rfl
theorem laidOut_fnExactLockstepAt:laidOutB Tryz.prog=true:=by kernel_rfl
set_option maxRecDepth 100000 in
theorem fnExactLockstepAt_lifted (os:Os) (started:os.Started) (H:Type) (enc:TypeId×Value→H) :
  ReturnsInHanded {} Tryz.checked os 7 .any (Rows.fnExactLockstepAtSpec.pre6 enc Tryz.prog Tryz.f7 Rows.fnExactLockstepAtRow.domain false) (Rows.fnExactLockstepAtSpec.post enc Tryz.prog Tryz.f7 false true false false):=by
 refine returnsInHanded_of_change (C:=Tryz.checked) own_fnExactLockstepAt started (by kernel_rfl) Tryz.func7
  (ChangeSpec.witness6 (enc:=enc) (C:=Tryz.checked) false ⟨#[],#[.agg #[.slice none 0 0,.int .i64 0,.int .i64 0,.slice none 0 0,.slice none 0 0,.slice none 0 0,.slice none 0 0,.slice none 0 0,.int .i64 0,.slice none 0 0,.slice none 0 0,.slice none 0 0,.int .i64 0],.int .i64 0,.agg #[.int .i64 0,.int .i64 0,.int .i64 0]],[]⟩ 8 (by kernel_rfl) (by kernel_rfl) (by kernel_rfl) (by kernel_rfl)) ?_
 intro W base args ds gs before hval0 hW hcnd _
 have hval:∀ (j:Nat) t v,Tryz.f7.params[j]? = some t→args[j]? = some v→Value.okWide Tryz.prog W .any base t v:=hval0
 have hW':=hW
 obtain⟨p,q,hA0,hV,rfl,hfz,hnd⟩:=hW
 have hA:DataW.TrodAll enc Tryz.prog W 0 (fun _=>true) true Tryz.f7.params.toList args.toList ds p:=hA0
 rw[Tryz.params7] at hA hval
 obtain⟨v0,vs0,d0,ds0,p0,q0,hargs,rfl,rfl,h0,r0⟩:=trodAll_cons hA
 obtain⟨v1,vs1,d1,ds1,p1,q1,rfl,rfl,rfl,h1,r1⟩:=trodAll_cons r0
 obtain⟨v2,vs2,d2,ds2,p2,q2,rfl,rfl,rfl,h2,r2⟩:=trodAll_cons r1
 obtain⟨rfl,rfl,rfl⟩:=trodAll_nil r2
 obtain rfl:args=#[v0,v1,v2]:=by cases args; simp_all
 obtain⟨rfl,rfl⟩:=trodVars_none hV
 have k0:=h0
 have lt0:∀ x∈p0,x.block<W.heap.size:=by obtain⟨m,hm⟩:=k0; exact DataW.trod_lt m _ _ _ hm
 obtain⟨⟨cs0⟩,rfl,_⟩:=okWide_struct Tryz.underlying99 (hval 0 99 v0 rfl rfl)
 obtain⟨y0,g0y,r0y⟩:=reads_of_Trod (P:=Tryz.prog) (t:=99) h0
 have k1:=h1
 have lt1:∀ x∈p1,x.block<W.heap.size:=by obtain⟨m,hm⟩:=k1; exact DataW.trod_lt m _ _ _ hm
 obtain⟨a1,rfl,rfl,rfl,w1⟩:=open_int Tryz.underlying3 (hval 1 3 v1 rfl rfl) h1
 have k2:=h2
 have lt2:∀ x∈p2,x.block<W.heap.size:=by obtain⟨m,hm⟩:=k2; exact DataW.trod_lt m _ _ _ hm
 obtain⟨⟨cs2⟩,rfl,_⟩:=okWide_struct Tryz.underlying70 (hval 2 70 v2 rfl rfl)
 obtain⟨y2,g2y,r2y⟩:=reads_of_Trod (P:=Tryz.prog) (t:=70) h2
 clear hA0 hval0
 refine (law_calls (law_LockstepAt y0 a1 y2 g0y (i64_of_wf w1) g2y) W [.agg (List.toArray cs0),.int .i64 a1,.agg (List.toArray cs2)] J (all2_cons (r2_agg r0y) (all2_cons (r2_int a1) (all2_cons (r2_agg r2y) all2_nil)))).mono fun e W' ⟨he,bel⟩ => ?_
 subst he
 exact⟨_,J,_,_,_,[],_,[],hW',trodAll_mk1 (shut_bool Tryz.underlying4 _),(trodAll_cons_mk (Below.trod laidOut_fnExactLockstepAt (by kernel_rfl) (Gqc (by kernel_rfl)) k0 bel lt0) (trodAll_cons_mk (Below.trod laidOut_fnExactLockstepAt (by kernel_rfl) (Gqc (by kernel_rfl)) k1 bel lt1) (trodAll_cons_mk (Below.trod laidOut_fnExactLockstepAt (by kernel_rfl) (Gqc (by kernel_rfl)) k2 bel lt2) trodAll_mk0))),J,bel.frame _,fun h=>by cases h⟩

theorem and_t {a b:Bool} (h:a=true) (k:b=true):(a&&b)=true:=by rw[h,k]; rfl
set_option maxRecDepth 100000 in
theorem fnExactLockstepAt_ca:(Rows.fnExactLockstepAtRow.inPlace == (Tryz.checked.prog).inPlace 7)=true:=by kernel_rfl
set_option maxRecDepth 100000 in
theorem fnExactLockstepAt_cb:(Rows.fnExactLockstepAtRow.unfollowed == (Tryz.checked.prog).unfollowed 7)=true:=by kernel_rfl
set_option maxRecDepth 100000 in
theorem fnExactLockstepAt_cc:(Rows.fnExactLockstepAtRow.recurses == (Tryz.checked.prog).recurses 7)=true:=by kernel_rfl
set_option maxRecDepth 100000 in
theorem fnExactLockstepAt_cd:(Rows.fnExactLockstepAtRow.named == (Tryz.checked.prog).varsNamed 7)=true:=by kernel_rfl
set_option maxRecDepth 100000 in
theorem fnExactLockstepAt_closed:joinedFacts Tryz.checked.prog 7 Tryz.f7 Rows.fnExactLockstepAtSpec Rows.fnExactLockstepAtRow=true:=by
 unfold joinedFacts
 repeat' with_reducible refine and_t ?_ ?_
 all_goals first | (with_reducible exact fnExactLockstepAt_ca) | (with_reducible exact fnExactLockstepAt_cb) | (with_reducible exact fnExactLockstepAt_cc) | (with_reducible exact fnExactLockstepAt_cd) | (as_aux_lemma=>kernel_rfl)
theorem fnExactLockstepAt_holds:Rows.FnExactLockstepAtSaid :=
 OpenClaim.holds_of_wide 7 Tryz.f7 J J J J J J J ⟨rfl,rfl,rfl,rfl,rfl⟩ J J J J J (by kernel_rfl) Tryz.func7 fnExactLockstepAt_closed
  (Gqc (by kernel_rfl)) (by unfold Func.isWrapper; first | (rw[if_pos (by decide +kernel)]; kernel_rfl) | (rw[if_neg (by decide +kernel)]; exact⟨rfl,rfl⟩))
  (fun os started H enc _=>fnExactLockstepAt_lifted os started H enc)
#print axioms fnExactLockstepAt_holds
end
end Go.Proofs.YtoecjaohdnoenaaGreat
