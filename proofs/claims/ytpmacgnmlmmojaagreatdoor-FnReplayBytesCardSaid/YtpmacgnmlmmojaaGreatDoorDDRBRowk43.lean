/-
  The statement FnReplayBytes, and its tied card: for every input the law returns true, and each argument reads afterwards as it read before.
  Conditions: none.
-/
import Derived.Test.YtpmacgnmlmmojaaGreatDoorRows
import Derived.Test.YtpmacgnmlmmojaaGreatDoorTie
import Derived.Test.YtpmacgnmlmmojaaGreatDoorCards
import Derived.SevenTiedAt
import Derived.LaidMore
import Derived.Lay
import Derived.Shelf.Vars
import Derived.Stop.Joined
import Derived.OpenShut
import Derived.ShutString
import Derived.ChangeOld
import Derived.Test.YtpmacgnmlmmojaaGreatDoorDDRBRowk41
import Derived.Test.YtpmacgnmlmmojaaGreatDoorDDRBRowk42
set_option linter.unusedVariables false
set_option linter.unusedSimpArgs false
namespace Go.Proofs.YtpmacgnmlmmojaaGreatDoor
section
open Go.ChangeShapes Go.WideShapes Go.ChangeAt Go.RowKit

theorem all2_nil {w:World} {H:Hs} {F:Nat→Prop}:∀ (i:Nat) (x:V2) (v:Value),([]:List V2)[i]? = some x→([]:List Value)[i]? = some v→R2 w H F x v:=fun _ _ _ h=>by simp at h
theorem all2_cons {w:World} {H:Hs} {F:Nat→Prop} {a:V2} {u:Value} {bs:List V2} {us:List Value} (h:R2 w H F a u) (hs:∀ (i:Nat) (x:V2) (v:Value),bs[i]? = some x→us[i]? = some v→R2 w H F x v):∀ (i:Nat) (x:V2) (v:Value),(a::bs)[i]? = some x→(u::us)[i]? = some v→R2 w H F x v
 |0,x,v,h1,h2=>by simp at h1 h2; subst h1 h2; exact h
 |i+1,x,v,h1,h2=>hs i x v (by simpa using h1) (by simpa using h2)

theorem own_fnReplayBytes:ownKnob Tryz.prog.godebug=none:=by kernel_rfl
theorem laidOut_fnReplayBytes:laidOutB Tryz.prog=true:=by kernel_rfl
set_option maxRecDepth 100000 in
theorem fnReplayBytes_lifted (os:Os) (started:os.Started) (H:Type) (enc:TypeId×Value→H) :
  ReturnsInHanded {} Tryz.checked os 4 .any (fun w args=>(Rows.fnReplayBytesSpec.pre enc Tryz.prog Tryz.f4 [] false w args∧laidMetH Tryz.prog Rows.fnReplayBytesRow.laid w)∧sizedMet enc Tryz.prog Tryz.f4 (OpenSpec.ofChange Rows.fnReplayBytesSpec) false w args) (Rows.fnReplayBytesSpec.post enc Tryz.prog Tryz.f4 false true false false):=by
 refine ret_and_shaped (C:=Tryz.checked) (X:=fun w _=>laidMetH Tryz.prog Rows.fnReplayBytesRow.laid w) (fun _ _ _ hh h=>h.of_heap hh) own_fnReplayBytes started (by kernel_rfl) Tryz.func4
  (ChangeSpec.witness_shaped (enc:=enc) (C:=Tryz.checked) (os:=os) (X:=fun w _=>laidMetH Tryz.prog Rows.fnReplayBytesRow.laid w) false (World.laidAll Tryz.prog os Rows.fnReplayBytesRow.laid) #[.slice none 0 0] 8 (World.laidAll_os _ _ _)
   (World.shaped_of_ZipB (by kernel_rfl) (by kernel_rfl)) (by kernel_rfl) (by kernel_rfl) (by kernel_rfl)
   (by rw[MakeChecks.laidMetH_plain _ _ _ (by kernel_rfl)]; exact laidMet_laidAll _ (by kernel_rfl) (by kernel_rfl))) ?_
 intro W base args ds gs before hval0 hW _ _ hL hSh _
 have hval:∀ (j:Nat) t v,Tryz.f4.params[j]? = some t→args[j]? = some v→Value.okWide Tryz.prog W .any base t v:=hval0
 have hW':=hW
 obtain⟨p,q,hA0,hV,rfl,hfz,hnd⟩:=hW
 have hA:DataW.TrodAll enc Tryz.prog W 0 (fun _=>true) true Tryz.f4.params.toList args.toList ds p:=hA0
 rw[Tryz.params4] at hA hval
 obtain⟨v0,vs0,d0,ds0,p0,q0,hargs,rfl,rfl,h0,r0⟩:=trodAll_cons hA
 obtain⟨rfl,rfl,rfl⟩:=trodAll_nil r0
 obtain rfl:args=#[v0]:=by cases args; simp_all
 obtain⟨rfl,rfl⟩:=trodVars_none hV
 have k0:=h0
 have lt0:∀ x∈p0,x.block<W.heap.size:=by obtain⟨m,hm⟩:=k0; exact DataW.trod_lt m _ _ _ hm
 obtain⟨a0,len0,cap0,rfl⟩:=okWide_slice Tryz.underlying22 (hval 0 22 v0 rfl rfl)
 obtain⟨y0,g0y,r0y⟩:=reads_of_Trod (P:=Tryz.prog) (t:=22) h0
 clear hA0 hval0
 refine (law_callsP (law_ReplayBytes y0 g0y) W (Go.Proofs.cell_of_shapedOpen_int (zero:=#[.int .i64 0]) (t:=3) hSh (Gqi (by kernel_rfl)) (by kernel_rfl) J (by kernel_rfl) (by kernel_rfl) Tryz.underlying3) [.slice a0 len0 cap0] J (all2_cons (r2_slice r0y) all2_nil)).mono fun e W' ⟨he,bel⟩ => ?_
 subst he
 exact⟨_,J,_,_,_,[],_,[],hW',trodAll_mk1 (shut_bool Tryz.underlying4 _),(trodAll_cons_mk (Below.trod laidOut_fnReplayBytes (by kernel_rfl) (Gqi (by kernel_rfl)) k0 bel lt0) trodAll_mk0),J,bel.frame _,fun h=>by cases h⟩

theorem fnReplayBytes_holds:Rows.FnReplayBytesSaid :=
 OpenClaim.holds_of_wide 4 Tryz.f4 J J J J J J J ⟨rfl,rfl,rfl,rfl,rfl⟩ J J J J J (by kernel_rfl) Tryz.func4 (by kernel_rfl)
  (Gqi (by kernel_rfl)) (by unfold Func.isWrapper; first | (rw[if_pos (by decide +kernel)]; kernel_rfl) | (rw[if_neg (by decide +kernel)]; exact⟨rfl,rfl⟩))
  (fun os started H enc _=>fnReplayBytes_lifted os started H enc)
#print axioms fnReplayBytes_holds
theorem fnReplayBytesCard_holds:Rows.FnReplayBytesCardSaid :=
 Claim7.holds_tied_plain_at .later [] Rows.fnReplayBytesCard.laidKinds true Rows.fnReplayBytesCard.stood.harness false
  fnReplayBytes_holds (fun _ h=>by cases h) (by kernel_rfl) (fun _ h=>by cases h) fnReplayBytes_row_tie rfl ⟨rfl,rfl⟩ (by kernel_rfl) rfl
  (fun f fn hf hfn=>by
   obtain rfl : f = 4 := Option.some.inj ((show Tryz.prog.funcNamed "loop.example/g03315/laws.FnReplayBytes" = some 4 by kernel_rfl).symm.trans hf) |>.symm
   obtain rfl:fn=Tryz.f4:=(Option.some.inj (Tryz.func4.symm.trans hfn)).symm
   exact⟨by kernel_rfl,fun j t ht=>by
    rw[Tryz.params4] at ht
    have hm:t ∈ [22]:=by simpa using Array.mem_of_getElem? ht
    have hall:([22].all fun u => !Tryz.prog.wantsStandIn u)=true:=by kernel_rfl
    exact (show Tryz.prog.wantsStandIn t=false by simpa using Gqk.1 hall t hm)⟩)
  (by kernel_rfl)
#print axioms fnReplayBytesCard_holds
end
end Go.Proofs.YtpmacgnmlmmojaaGreatDoor
