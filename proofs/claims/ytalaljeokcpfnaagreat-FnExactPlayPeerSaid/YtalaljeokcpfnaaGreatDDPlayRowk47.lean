/-
  The statement FnExactPlayPeer: for every input the law returns true, and each argument reads afterwards as it read before.
  Conditions: none.
-/
import Derived.Test.YtalaljeokcpfnaaGreatRows
import Derived.OpenShut
import Derived.ShutString
import Derived.ChangeOld
import Derived.Test.YtalaljeokcpfnaaGreatDDPlayRowk46
set_option linter.unusedVariables false
set_option linter.unusedSimpArgs false
set_option maxHeartbeats 8000000
namespace Go.Proofs.YtalaljeokcpfnaaGreat
section
open Go.ChangeShapes Go.WideShapes Go.ChangeAt Go.RowKit

theorem all2_nil {w:World} {H:Hs} {F:Nat→Prop}:∀ (i:Nat) (x:V2) (v:Value),([]:List V2)[i]? = some x→([]:List Value)[i]? = some v→R2 w H F x v:=fun _ _ _ h=>by simp at h
theorem all2_cons {w:World} {H:Hs} {F:Nat→Prop} {a:V2} {u:Value} {bs:List V2} {us:List Value} (h:R2 w H F a u) (hs:∀ (i:Nat) (x:V2) (v:Value),bs[i]? = some x→us[i]? = some v→R2 w H F x v):∀ (i:Nat) (x:V2) (v:Value),(a::bs)[i]? = some x→(u::us)[i]? = some v→R2 w H F x v
 |0,x,v,h1,h2=>by simp at h1 h2; subst h1 h2; exact h
 |i+1,x,v,h1,h2=>hs i x v (by simpa using h1) (by simpa using h2)

theorem own_fnExactPlayPeer:ownKnob Tryz.prog.godebug=none:=Aqb
theorem laidOut_fnExactPlayPeer:laidOutB Tryz.prog=true:=Aqb
set_option maxRecDepth 100000 in
theorem fnExactPlayPeer_lifted (os:Os) (started:os.Started) (H:Type) (enc:TypeId×Value→H) :
  ReturnsInHanded {} Tryz.checked os 3 .any (Rows.fnExactPlayPeerSpec.pre6 enc Tryz.prog Tryz.f3 Rows.fnExactPlayPeerRow.domain false) (Rows.fnExactPlayPeerSpec.post enc Tryz.prog Tryz.f3 false true false false):=by
 refine returnsInHanded_of_change (C:=Tryz.checked) own_fnExactPlayPeer started Aqb Tryz.func3
  (ChangeSpec.witness6 (enc:=enc) (C:=Tryz.checked) false ⟨#[],#[.agg #[.slice none 0 0,.int .i64 0,.int .i64 0,.slice none 0 0,.slice none 0 0,.slice none 0 0,.slice none 0 0,.slice none 0 0,.int .i64 0,.slice none 0 0,.slice none 0 0,.slice none 0 0,.int .i64 0],.int .i64 0],[]⟩ 8 Aqb Aqb Aqb Aqb) ?_
 intro W base args ds gs before hval0 hW hcnd _
 have hval:∀ (j:Nat) t v,Tryz.f3.params[j]? = some t→args[j]? = some v→Value.okWide Tryz.prog W .any base t v:=hval0
 have hW':=hW
 obtain⟨p,q,hA0,hV,rfl,hfz,hnd⟩:=hW
 have hA:DataW.TrodAll enc Tryz.prog W 0 (fun _=>true) true Tryz.f3.params.toList args.toList ds p:=hA0
 rw[Tryz.params3] at hA hval
 obtain⟨v0,vs0,d0,ds0,p0,q0,hargs,rfl,rfl,h0,r0⟩:=trodAll_cons hA
 obtain⟨v1,vs1,d1,ds1,p1,q1,rfl,rfl,rfl,h1,r1⟩:=trodAll_cons r0
 obtain⟨rfl,rfl,rfl⟩:=trodAll_nil r1
 obtain rfl:args=#[v0,v1]:=by cases args; simp_all
 obtain⟨rfl,rfl⟩:=trodVars_none hV
 have k0:=h0
 have lt0:∀ x∈p0,x.block<W.heap.size:=by obtain⟨m,hm⟩:=k0; exact DataW.trod_lt m _ _ _ hm
 obtain⟨⟨cs0⟩,rfl,_⟩:=okWide_struct Tryz.underlying33 (hval 0 33 v0 rfl rfl)
 obtain⟨y0,g0y,r0y⟩:=reads_of_Trod (P:=Tryz.prog) (t:=33) h0
 have k1:=h1
 have lt1:∀ x∈p1,x.block<W.heap.size:=by obtain⟨m,hm⟩:=k1; exact DataW.trod_lt m _ _ _ hm
 obtain⟨a1,rfl,rfl,rfl,w1⟩:=open_int Tryz.underlying3 (hval 1 3 v1 rfl rfl) h1
 clear hA0 hval0
 refine (law_calls (law_PlayPeer y0 a1 g0y (i64_of_wf w1)) W [.agg (List.toArray cs0),.int .i64 a1] J (all2_cons (r2_agg r0y) (all2_cons (r2_int a1) all2_nil))).mono fun e W' ⟨he,bel⟩ => ?_
 subst he
 exact⟨_,J,_,_,_,[],_,[],hW',trodAll_mk1 (shut_bool Tryz.underlying4 _),(trodAll_cons_mk (Below.trod laidOut_fnExactPlayPeer Aqb (Gqc Aqb) k0 bel lt0) (trodAll_cons_mk (Below.trod laidOut_fnExactPlayPeer Aqb (Gqc Aqb) k1 bel lt1) trodAll_mk0)),J,bel.frame _,fun h=>by cases h⟩

theorem and_t {a b:Bool} (h:a=true) (k:b=true):(a&&b)=true:=by rw[h,k]; rfl
set_option maxRecDepth 100000 in
theorem fnExactPlayPeer_ca:(Rows.fnExactPlayPeerRow.inPlace == (Tryz.checked.prog).inPlace 3)=true:=Aqb
set_option maxRecDepth 100000 in
theorem fnExactPlayPeer_cb:(Rows.fnExactPlayPeerRow.unfollowed == (Tryz.checked.prog).unfollowed 3)=true:=Aqb
set_option maxRecDepth 100000 in
theorem fnExactPlayPeer_cc:(Rows.fnExactPlayPeerRow.recurses == (Tryz.checked.prog).recurses 3)=true:=Aqb
set_option maxRecDepth 100000 in
theorem fnExactPlayPeer_cd:(Rows.fnExactPlayPeerRow.named == (Tryz.checked.prog).varsNamed 3)=true:=Aqb
set_option maxRecDepth 100000 in
theorem fnExactPlayPeer_closed:joinedFacts Tryz.checked.prog 3 Tryz.f3 Rows.fnExactPlayPeerSpec Rows.fnExactPlayPeerRow=true:=by
 unfold joinedFacts
 repeat' with_reducible refine and_t ?_ ?_
 all_goals first | (with_reducible exact fnExactPlayPeer_ca) | (with_reducible exact fnExactPlayPeer_cb) | (with_reducible exact fnExactPlayPeer_cc) | (with_reducible exact fnExactPlayPeer_cd) | (as_aux_lemma=>kernel_rfl)
theorem fnExactPlayPeer_holds:Rows.FnExactPlayPeerSaid :=
 OpenClaim.holds_of_wide 3 Tryz.f3 J J J J J J J ⟨rfl,rfl,rfl,rfl,rfl⟩ J J J J J Aqb Tryz.func3 fnExactPlayPeer_closed
  (Gqc Aqb) (by unfold Func.isWrapper; first | (rw[if_pos (by decide +kernel)]; kernel_rfl) | (rw[if_neg (by decide +kernel)]; exact⟨rfl,rfl⟩))
  (fun os started H enc _=>fnExactPlayPeer_lifted os started H enc)
#print axioms fnExactPlayPeer_holds
end
end Go.Proofs.YtalaljeokcpfnaaGreat
