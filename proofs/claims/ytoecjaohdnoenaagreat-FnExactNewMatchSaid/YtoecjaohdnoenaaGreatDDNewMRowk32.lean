/-
  The statement FnExactNewMatch: for every input the law returns true, and each argument reads afterwards as it read before.
  Conditions: none.
-/
import Derived.Test.YtoecjaohdnoenaaGreatRows
import Derived.OpenShut
import Derived.ShutString
import Derived.ChangeOld
import Derived.Test.YtoecjaohdnoenaaGreatDDNewMRowk31
set_option linter.unusedVariables false
set_option linter.unusedSimpArgs false
set_option maxHeartbeats 8000000
namespace Go.Proofs.YtoecjaohdnoenaaGreat
section
open Go.ChangeShapes Go.WideShapes Go.ChangeAt Go.RowKit

theorem all2_nil {w:World} {H:Hs} {F:Nat→Prop}:∀ (i:Nat) (x:V2) (v:Value),([]:List V2)[i]? = some x→([]:List Value)[i]? = some v→R2 w H F x v:=fun _ _ _ h=>by simp at h
theorem all2_cons {w:World} {H:Hs} {F:Nat→Prop} {a:V2} {u:Value} {bs:List V2} {us:List Value} (h:R2 w H F a u) (hs:∀ (i:Nat) (x:V2) (v:Value),bs[i]? = some x→us[i]? = some v→R2 w H F x v):∀ (i:Nat) (x:V2) (v:Value),(a::bs)[i]? = some x→(u::us)[i]? = some v→R2 w H F x v
 |0,x,v,h1,h2=>by simp at h1 h2; subst h1 h2; exact h
 |i+1,x,v,h1,h2=>hs i x v (by simpa using h1) (by simpa using h2)

instance:RdOf Tryz.prog 26 (List TFault):=Zu Tryz.underlying26 (by kernel_rfl)
theorem own_fnExactNewMatch:ownKnob Tryz.prog.godebug=none:=by kernel_rfl
theorem laidOut_fnExactNewMatch:laidOutB Tryz.prog=true:=by kernel_rfl
set_option maxRecDepth 100000 in
theorem fnExactNewMatch_lifted (os:Os) (started:os.Started) (H:Type) (enc:TypeId×Value→H) :
  ReturnsInHanded {} Tryz.checked os 3 .any (Rows.fnExactNewMatchSpec.pre6 enc Tryz.prog Tryz.f3 Rows.fnExactNewMatchRow.domain false) (Rows.fnExactNewMatchSpec.post enc Tryz.prog Tryz.f3 false true false false):=by
 refine returnsInHanded_of_change (C:=Tryz.checked) own_fnExactNewMatch started (by kernel_rfl) Tryz.func3
  (ChangeSpec.witness6 (enc:=enc) (C:=Tryz.checked) false ⟨#[],#[.agg #[.slice none 0 0],.slice none 0 0,.int .i64 0,.int .i64 0,.int .i64 0,.slice none 0 0,.agg #[.int .i64 0,.int .i64 0,.int .i64 0,.int .i64 0,.int .i64 0,.int .i64 0,.int .i64 0,.slice none 0 0,.int .i64 0,.int .i64 0]],[]⟩ 8 (by kernel_rfl) (by kernel_rfl) (by kernel_rfl) (by kernel_rfl)) ?_
 intro W base args ds gs before hval0 hW hcnd _
 have hval:∀ (j:Nat) t v,Tryz.f3.params[j]? = some t→args[j]? = some v→Value.okWide Tryz.prog W .any base t v:=hval0
 have hW':=hW
 obtain⟨p,q,hA0,hV,rfl,hfz,hnd⟩:=hW
 have hA:DataW.TrodAll enc Tryz.prog W 0 (fun _=>true) true Tryz.f3.params.toList args.toList ds p:=hA0
 rw[Tryz.params3] at hA hval
 obtain⟨v0,vs0,d0,ds0,p0,q0,hargs,rfl,rfl,h0,r0⟩:=trodAll_cons hA
 obtain⟨v1,vs1,d1,ds1,p1,q1,rfl,rfl,rfl,h1,r1⟩:=trodAll_cons r0
 obtain⟨v2,vs2,d2,ds2,p2,q2,rfl,rfl,rfl,h2,r2⟩:=trodAll_cons r1
 obtain⟨v3,vs3,d3,ds3,p3,q3,rfl,rfl,rfl,h3,r3⟩:=trodAll_cons r2
 obtain⟨v4,vs4,d4,ds4,p4,q4,rfl,rfl,rfl,h4,r4⟩:=trodAll_cons r3
 obtain⟨v5,vs5,d5,ds5,p5,q5,rfl,rfl,rfl,h5,r5⟩:=trodAll_cons r4
 obtain⟨v6,vs6,d6,ds6,p6,q6,rfl,rfl,rfl,h6,r6⟩:=trodAll_cons r5
 obtain⟨rfl,rfl,rfl⟩:=trodAll_nil r6
 obtain rfl:args=#[v0,v1,v2,v3,v4,v5,v6]:=by cases args; simp_all
 obtain⟨rfl,rfl⟩:=trodVars_none hV
 have k0:=h0
 have lt0:∀ x∈p0,x.block<W.heap.size:=by obtain⟨m,hm⟩:=k0; exact DataW.trod_lt m _ _ _ hm
 obtain⟨⟨cs0⟩,rfl,_⟩:=okWide_struct Tryz.underlying24 (hval 0 24 v0 rfl rfl)
 obtain⟨y0,g0y,r0y⟩:=Zx (P:=Tryz.prog) (t:=24) h0
 have k1:=h1
 have lt1:∀ x∈p1,x.block<W.heap.size:=by obtain⟨m,hm⟩:=k1; exact DataW.trod_lt m _ _ _ hm
 obtain⟨a1,len1,cap1,rfl⟩:=okWide_slice Tryz.underlying25 (hval 1 25 v1 rfl rfl)
 obtain⟨y1,g1y,r1y⟩:=Zx (P:=Tryz.prog) (t:=25) h1
 have k2:=h2
 have lt2:∀ x∈p2,x.block<W.heap.size:=by obtain⟨m,hm⟩:=k2; exact DataW.trod_lt m _ _ _ hm
 obtain⟨a2,rfl,rfl,rfl,w2⟩:=open_int Tryz.underlying3 (hval 2 3 v2 rfl rfl) h2
 have k3:=h3
 have lt3:∀ x∈p3,x.block<W.heap.size:=by obtain⟨m,hm⟩:=k3; exact DataW.trod_lt m _ _ _ hm
 obtain⟨a3,rfl,rfl,rfl,w3⟩:=open_int Tryz.underlying3 (hval 3 3 v3 rfl rfl) h3
 have k4:=h4
 have lt4:∀ x∈p4,x.block<W.heap.size:=by obtain⟨m,hm⟩:=k4; exact DataW.trod_lt m _ _ _ hm
 obtain⟨a4,rfl,rfl,rfl,w4⟩:=open_int Tryz.underlying3 (hval 4 3 v4 rfl rfl) h4
 have k5:=h5
 have lt5:∀ x∈p5,x.block<W.heap.size:=by obtain⟨m,hm⟩:=k5; exact DataW.trod_lt m _ _ _ hm
 obtain⟨a5,len5,cap5,rfl⟩:=okWide_slice Tryz.underlying26 (hval 5 26 v5 rfl rfl)
 obtain⟨y5,g5y,r5y⟩:=Zx (P:=Tryz.prog) (t:=26) h5
 have k6:=h6
 have lt6:∀ x∈p6,x.block<W.heap.size:=by obtain⟨m,hm⟩:=k6; exact DataW.trod_lt m _ _ _ hm
 obtain⟨⟨cs6⟩,rfl,_⟩:=okWide_struct Tryz.underlying29 (hval 6 29 v6 rfl rfl)
 obtain⟨y6,g6y,r6y⟩:=Zx (P:=Tryz.prog) (t:=29) h6
 clear hA0 hval0
 refine (law_calls (law_NewMatch y0 y1 a2 a3 a4 y5 y6 g0y g1y (i64_of_wf w2) (i64_of_wf w3) (i64_of_wf w4) g5y g6y) W [.agg (List.toArray cs0),.slice a1 len1 cap1,.int .i64 a2,.int .i64 a3,.int .i64 a4,.slice a5 len5 cap5,.agg (List.toArray cs6)] J (all2_cons (r2_agg r0y) (all2_cons (r2_slice r1y) (all2_cons (r2_int a2) (all2_cons (r2_int a3) (all2_cons (r2_int a4) (all2_cons (r2_slice r5y) (all2_cons (r2_agg r6y) all2_nil)))))))).mono fun e W' ⟨he,bel⟩ => ?_
 subst he
 exact⟨_,J,_,_,_,[],_,[],hW',trodAll_mk1 (shut_bool Tryz.underlying4 _),(trodAll_cons_mk (Below.trod laidOut_fnExactNewMatch (by kernel_rfl) (Gqc (by kernel_rfl)) k0 bel lt0) (trodAll_cons_mk (Below.trod laidOut_fnExactNewMatch (by kernel_rfl) (Gqc (by kernel_rfl)) k1 bel lt1) (trodAll_cons_mk (Below.trod laidOut_fnExactNewMatch (by kernel_rfl) (Gqc (by kernel_rfl)) k2 bel lt2) (trodAll_cons_mk (Below.trod laidOut_fnExactNewMatch (by kernel_rfl) (Gqc (by kernel_rfl)) k3 bel lt3) (trodAll_cons_mk (Below.trod laidOut_fnExactNewMatch (by kernel_rfl) (Gqc (by kernel_rfl)) k4 bel lt4) (trodAll_cons_mk (Below.trod laidOut_fnExactNewMatch (by kernel_rfl) (Gqc (by kernel_rfl)) k5 bel lt5) (trodAll_cons_mk (Below.trod laidOut_fnExactNewMatch (by kernel_rfl) (Gqc (by kernel_rfl)) k6 bel lt6) trodAll_mk0))))))),J,bel.frame _,fun h=>by cases h⟩

theorem and_t {a b:Bool} (h:a=true) (k:b=true):(a&&b)=true:=by rw[h,k]; rfl
set_option maxRecDepth 100000 in
theorem fnExactNewMatch_ca:(Rows.fnExactNewMatchRow.inPlace == (Tryz.checked.prog).inPlace 3)=true:=by kernel_rfl
set_option maxRecDepth 100000 in
theorem fnExactNewMatch_cb:(Rows.fnExactNewMatchRow.unfollowed == (Tryz.checked.prog).unfollowed 3)=true:=by kernel_rfl
set_option maxRecDepth 100000 in
theorem fnExactNewMatch_cc:(Rows.fnExactNewMatchRow.recurses == (Tryz.checked.prog).recurses 3)=true:=by kernel_rfl
set_option maxRecDepth 100000 in
theorem fnExactNewMatch_cd:(Rows.fnExactNewMatchRow.named == (Tryz.checked.prog).varsNamed 3)=true:=by kernel_rfl
set_option maxRecDepth 100000 in
theorem fnExactNewMatch_closed:joinedFacts Tryz.checked.prog 3 Tryz.f3 Rows.fnExactNewMatchSpec Rows.fnExactNewMatchRow=true:=by
 unfold joinedFacts
 repeat' with_reducible refine and_t ?_ ?_
 all_goals first | (with_reducible exact fnExactNewMatch_ca) | (with_reducible exact fnExactNewMatch_cb) | (with_reducible exact fnExactNewMatch_cc) | (with_reducible exact fnExactNewMatch_cd) | (as_aux_lemma=>kernel_rfl)
theorem fnExactNewMatch_holds:Rows.FnExactNewMatchSaid :=
 OpenClaim.holds_of_wide 3 Tryz.f3 J J J J J J J ⟨rfl,rfl,rfl,rfl,rfl⟩ J J J J J (by kernel_rfl) Tryz.func3 fnExactNewMatch_closed
  (Gqc (by kernel_rfl)) (by unfold Func.isWrapper; first | (rw[if_pos (by decide +kernel)]; kernel_rfl) | (rw[if_neg (by decide +kernel)]; exact⟨rfl,rfl⟩))
  (fun os started H enc _=>fnExactNewMatch_lifted os started H enc)
#print axioms fnExactNewMatch_holds
end
end Go.Proofs.YtoecjaohdnoenaaGreat
