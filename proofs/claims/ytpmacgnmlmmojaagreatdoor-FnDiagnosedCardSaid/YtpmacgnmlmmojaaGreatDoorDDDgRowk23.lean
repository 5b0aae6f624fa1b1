/-
  Parts of the proof (rules, data, and what functions of the program and of the reference return), among them: Knowing less of one cell; an empty tail of an owned slice is an empty slice; Confirm: a peer whose first used row was right confirms one more tick.
  Conditions: those that each theorem names.
-/
import Derived.Test.YtpmacgnmlmmojaaGreatDoorDDDgRowk10
import Derived.Test.YtpmacgnmlmmojaaGreatDoorDDDgRowk11
import Derived.Test.YtpmacgnmlmmojaaGreatDoorDDDgRowk19
import Derived.Test.YtpmacgnmlmmojaaGreatDoorDDDgRowk20
import Derived.Test.YtpmacgnmlmmojaaGreatDoorDDDgRowk22
set_option linter.unusedSimpArgs false
set_option linter.unusedVariables false
set_option maxRecDepth 8000
set_option maxHeartbeats 8000000
namespace Go.Proofs.YtpmacgnmlmmojaaGreatDoor
section
open Go.RowKit

/-! ### Turning a piece into read-only data -/
def V1.fz (p : Nat) (t : T) : V1 → V1
 | .rd qs x => .rd (qs.filter fun q => !Nat.beq q p) x
 | .rp qs xs => .rp (qs.filter fun q => !Nat.beq q p) xs
 | .ref q => match Nat.beq q p with
  | true => .rd [] t
  | false => .ref q
 | .el q k i j => match Nat.beq q p with
  | true => .un
  | false => .el q k i j
 | .le q k i j => match Nat.beq q p with
  | true => .un
  | false => .le q k i j
 | .hd q n => match Nat.beq q p with
  | true => .un
  | false => .hd q n
 | .tl q k n => match Nat.beq q p with
  | true => .un
  | false => .tl q k n
 | .ptr q i => .ptr q i
 | .sb q n k => .sb q n k
 | .un => .un
section
variable {P : Program} {E : Env} {ops : Array Oper} {o : Oper} {st : St} {n : Nat} {rest : List Oper} {QQ : Exit → St → Prop} {w w' : World} {H H' : Hs} {F F' : Nat → Prop} {a : Act} {y z : Operand} {t t' : TypeId} {ps qs : List Nat} {i j : Int} {k : IntKind}
theorem R1.fz {p : Nat} {x t : T} {vv : Value} {fp : List Nat} (hp : H p = .ow x vv fp) (hro : RO w (fun b => F b ∨ b ∈ fp) t vv) {c : V1} {v : Value} (h : R1 w H F c v) : R1 w (H.put p .nil) (fun b => F b ∨ b ∈ fp) (c.fz p t) v := by
 have hbq : ∀ {q : Nat},q ≠ p → (!Nat.beq q p) = true := fun {q} hqp => by
  cases h : Nat.beq q p with
  | false => rfl
  | true => exact absurd (Nat.eq_of_beq_eq_true h) hqp
 have hin : ∀ (qs : List Nat) b,inP H F qs b → inP (H.put p .nil) (fun b => F b ∨ b ∈ fp) (qs.filter fun q => !Nat.beq q p) b := fun qs b hb => by
  rcases hb with hb | ⟨q,hq,x',v',fp',e,hb⟩
  ·exact .inl (.inl hb)
  ·by_cases hqp : q = p
   ·subst hqp
    rw [hp] at e
    simp only [Pc.ow.injEq] at e
    obtain ⟨_,_,rfl⟩ := e
    exact .inl (.inr hb)
   ·exact .inr ⟨q,List.mem_filter.2 ⟨hq,hbq hqp⟩,x',v',fp',by rw [Hs.put_ne _ _ hqp]; exact e,hb⟩
 have hne : ∀ {q : Nat},Nat.beq q p = false → (H.put p .nil) q = H q := fun hq => Hs.put_ne _ _ fun e => by
  subst e
  rw [show Nat.beq _ _ = true from Nat.beq_refl _] at hq
  cases hq
 have hbox : ∀ {q g : Nat} {t : TypeId} {vs : List Value},H q = .box g t vs → (H.put p .nil) q = H q := fun e => Hs.put_ne _ _ fun e2 => by
  subst e2
  rw [hp] at e
  cases e
 cases c with
 | rd qs x => exact RO.weak h fun b hb _ => hin qs b hb
 | rp qs xs =>
  obtain ⟨b,o,e,hb,hr⟩ := h
  exact ⟨b,o,e,hin qs b hb,fun j t hj => by obtain ⟨u,h1,h2⟩ := hr j t hj; exact ⟨u,h1,h2.weak fun b hb _ => hin qs b hb⟩⟩
 | ref q =>
  simp only [V1.fz]
  split
  ·rename_i hq
   have := Nat.eq_of_beq_eq_true hq
   subst this
   obtain ⟨x',fp',e⟩ := h
   rw [hp] at e
   simp only [Pc.ow.injEq] at e
   obtain ⟨_,rfl,_⟩ := e
   exact RO.weak hro fun b hb _ => .inl hb
  ·rename_i hq
   obtain ⟨x',fp',e⟩ := h
   exact ⟨x',fp',by rw [hne hq]; exact e⟩
 | el q k i j =>
  simp only [V1.fz]
  split
  ·trivial
  ·rename_i hq
   obtain ⟨b,o,n,c,x,fp,e,hv⟩ := h
   exact ⟨b,o,n,c,x,fp,by rw [hne hq]; exact e,hv⟩
 | le q k i j =>
  simp only [V1.fz]
  split
  ·trivial
  ·rename_i hq
   obtain ⟨b,o,n,c,x,fp,e,hv⟩ := h
   exact ⟨b,o,n,c,x,fp,by rw [hne hq]; exact e,hv⟩
 | hd q m =>
  simp only [V1.fz]
  split
  ·trivial
  ·rename_i hq
   obtain ⟨A,m',c,x,fp,e,hv⟩ := h
   exact ⟨A,m',c,x,fp,by rw [hne hq]; exact e,hv⟩
 | tl q k m =>
  simp only [V1.fz]
  split
  ·trivial
  ·rename_i hq
   obtain ⟨A,A',m',c,x,fp,e,hv⟩ := h
   exact ⟨A,A',m',c,x,fp,by rw [hne hq]; exact e,hv⟩
 | ptr q i => obtain ⟨g,t,vs,e,hv⟩ := h; exact ⟨g,t,vs,by rw [hbox e]; exact e,hv⟩
 | sb q i j => obtain ⟨g,t,vs,e,hv⟩ := h; exact ⟨g,t,vs,by rw [hbox e]; exact e,hv⟩
 | un => trivial
theorem Rel.freeze {p : Nat} {t : T} (hpw : ∀ w H F a,R0 w H F st a → ∃ x vv fp,H p = .ow x vv fp ∧ RO w (fun b => F b ∨ b ∈ fp) t vv) (h : Rel E st a w) : Rel E ⟨st.n,st.tmps.map fun e => (e.1,e.2.mapk (V1.fz p t)),(st.objs.map (Ob.mapk (V1.fz p t))).set p .gone⟩ a w := by
 obtain ⟨H,F,h1,h2⟩ := h
 obtain ⟨x,vv,fp,hp,hro⟩ := hpw w H F a h1
 have hne : ∀ q,q ≠ p → (H.put p .nil) q = H q := fun q hq => Hs.put_ne _ _ hq
 have hfp : ∀ b,b ∈ fp → b ∈ (H p).fp := fun b hb => by rw [hp]; exact hb
 have hsub : ∀ q b,b ∈ ((H.put p .nil) q).fp → q ≠ p ∧ b ∈ (H q).fp := fun q b hb => by
  by_cases e : q = p
  ·subst e
   rw [Hs.put_self] at hb
   simp [Pc.fp] at hb
  ·rw [hne q e] at hb
   exact ⟨e,hb⟩
 have hk : ∀ c v,R1 w H F c v → R1 w (H.put p .nil) (fun b => F b ∨ b ∈ fp) (c.fz p t) v := fun c v hc => R1.fz hp hro hc
 have hok : Ok w (H.put p .nil) (fun b => F b ∨ b ∈ fp) := by
  refine ⟨fun q => ?_,fun q => ?_,fun q r b hb hc => ?_,fun q b hb hc => ?_,fun b hb => ?_⟩
  ·by_cases e : q = p
   ·subst e; rw [Hs.put_self]; trivial
   ·rw [hne q e]; exact h1.ok.says q
  ·by_cases e : q = p
   ·subst e; rw [Hs.put_self]; exact List.nodup_nil
   ·rw [hne q e]; exact h1.ok.nodup q
  ·exact h1.ok.disj q r b (hsub q b hb).2 (hsub r b hc).2
  ·obtain ⟨hq,hb⟩ := hsub q b hb
   rcases hc with hc | hc
   ·exact h1.ok.free q b hb hc
   ·exact hq (h1.ok.disj q p b hb (hfp b hc))
  ·rcases hb with hb | hb
   ·exact h1.ok.flt b hb
   ·exact h1.ok.lt (hfp b hb)
 refine ⟨H.put p .nil,fun b => F b ∨ b ∈ fp,h1.mapkF (V1.fz p t) hk hok _ (fun q => ?_),h2.os,h2.tape,h2.output,h2.size,h2.keep,fun b hb => .inl (h2.fF b hb),fun b hb => ?_,fun q b hb => h2.org q b (hsub q b hb).2,fun q i v hq => ?_⟩
 ·have hpl : p < st.objs.length := by
   refine Nat.lt_of_not_le fun hge => ?_
   have h3 := h1.obs p
   rw [List.getD_eq_getElem?_getD,List.getElem?_eq_none hge] at h3
   have h4 : H p = .nil := h3
   rw [hp] at h4
   cases h4
  by_cases e : q = p
  ·subst e
   rw [List.getD_eq_getElem?_getD,List.getElem?_set_self (by simpa using hpl)]
   exact Hs.put_self _ _ _
  ·rw [List.getD_eq_getElem?_getD,List.getElem?_set_ne (Ne.symm e),List.getElem?_map]
   have h3 := h1.obs q
   rw [List.getD_eq_getElem?_getD] at h3
   cases ho : st.objs[q]? with
   | none => rw [ho] at h3; exact (hne q e).trans h3
   | some ob => rw [ho] at h3; exact RB.mapk hk (hne q e) h3
 ·rcases hb with hb | hb
  ·exact h2.fF' b hb
  ·rcases h2.org p b (hfp b hb) with h3 | h3
   ·exact .inr (.inr h3)
   ·exact .inr (.inl h3)
 ·by_cases e : q = p
  ·subst e; rw [Hs.put_self] at hq; cases hq
  ·rw [hne q e] at hq; exact h2.gh q i v hq
theorem row_ro {p kk : Nat} {es : List (List T)} (hp : st.objs[p]? = some (.row kk es)) : ∀ w H F a,R0 w H F st a → ∃ x vv fp,H p = .ow x vv fp ∧ RO w (fun b => F b ∨ b ∈ fp) (.sl kk es) vv := fun w H F a h => by
 obtain ⟨v,fp,e1,e2⟩ := h.ow hp
 exact ⟨_,_,_,e1,(OW.ro e2).weak fun b hb _ => .inr hb⟩
theorem shr_ro {p : Nat} {ts : List T} (hp : st.objs[p]? = some (.shr ts)) : ∀ w H F a,R0 w H F st a → ∃ x vv fp,H p = .ow x vv fp ∧ RO w (fun b => F b ∨ b ∈ fp) (.sl 1 (ts.map fun t => [t])) vv := fun w H F a h => by
 have h1 := h.obs p
 rw [Yw hp] at h1
 obtain ⟨us,v,fp,e,hl,hr⟩ := h1
 refine ⟨_,_,_,e,?_⟩
 have h2 := h.ok.says p
 rw [e] at h2
 have h3 := OW.ro h2
 obtain ⟨es0,hes0⟩ : ∃ es0,es0 = us.map fun u => [T.v u] := ⟨_,rfl⟩
 rw [← hes0] at h3
 cases h3 with
 | nil A _ c hm =>
  have hu0 : us = [] := List.map_eq_nil_iff.1 hes0.symm
  subst hu0
  have : ts = [] := List.length_eq_zero_iff.1 hl.symm
  subst this
  exact .nil _ _ _ hm
 | sl _ b o _ c val hF hc hm hp hk hv ht =>
  have hl2 : es0.length = (ts.map fun t => [t]).length := by simp [hes0,hl]
  rw [hl2]
  refine .sl (ts.map fun t => [t]) b o 1 c val (.inr hF) (by rw [← hl2]; exact hc) hm (by omega) (fun e he => by obtain ⟨t,_,rfl⟩ := List.mem_map.1 he; rfl) (fun i j hi hj => hv i j (by rw [hl2]; exact hi) hj) fun i j e t h4 h5 => ?_
  rw [List.getElem?_map,Option.map_eq_some_iff] at h4
  obtain ⟨t',h6,rfl⟩ := h4
  cases j with
  | succ j => simp at h5
  | zero =>
   simp only [List.getElem?_cons_zero,Option.some.injEq] at h5
   subst h5
   have hi : i < us.length := by rw [hl]; exact Yx h6
   have h7 : us[i]? = some us[i] := List.getElem?_eq_getElem hi
   have h8 := ht i 0 [T.v us[i]] (T.v us[i]) (by rw [hes0,List.getElem?_map,h7]; rfl) rfl
   obtain ⟨h9,_⟩ := RO.plain h8
   rw [h9]
   exact (hr i _ _ h6 h7).weak fun b hb _ => by
    rcases hb with hb | ⟨q,hq,_⟩
    ·exact .inl hb
    ·cases hq
theorem AWP.freeze {c : Code} {p kk : Nat} {es : List (List T)} (hp : st.objs[p]? = some (.row kk es)) (h : AWP P E c QQ ⟨st.n,st.tmps.map fun e => (e.1,e.2.mapk (V1.fz p (.sl kk es))),(st.objs.map (Ob.mapk (V1.fz p (.sl kk es)))).set p .gone⟩) : AWP P E c QQ st := ⟨fun a w hr => h.h a w (hr.freeze (row_ro hp))⟩
theorem AWP.freezeS {c : Code} {p : Nat} {ts : List T} (hp : st.objs[p]? = some (.shr ts)) (h : AWP P E c QQ ⟨st.n,st.tmps.map fun e => (e.1,e.2.mapk (V1.fz p (.sl 1 (ts.map fun t => [t])))),(st.objs.map (Ob.mapk (V1.fz p (.sl 1 (ts.map fun t => [t]))))).set p .gone⟩) : AWP P E c QQ st := ⟨fun a w hr => h.h a w (hr.freeze (shr_ro hp))⟩
theorem AL.freeze {p kk : Nat} {es : List (List T)} (hp : st.objs[p]? = some (.row kk es)) (h : AL P E ops QQ rest ⟨st.n,st.tmps.map fun e => (e.1,e.2.mapk (V1.fz p (.sl kk es))),(st.objs.map (Ob.mapk (V1.fz p (.sl kk es)))).set p .gone⟩) : AL P E ops QQ rest st := ⟨fun a w hr => h.h a w (hr.freeze (row_ro hp))⟩
/-! ### Shared rows -/
theorem Wk.toshr {p : Nat} (hp : st.objs[p]? = some (.row 1 [])) : Wk st ⟨st.n,st.tmps,st.objs.set p (.shr [])⟩ := fun w H F a h => by
 refine ⟨H,⟨h.ok,fun q => ?_,h.tmp,h.size,h.defers⟩,fun q b hb => ⟨q,hb⟩,fun q i v hq => ⟨q,hq⟩⟩
 show RB w H F q ((st.objs.set p (.shr [])).getD q .gone)
 by_cases e : q = p
 ·subst e
  rw [List.getD_eq_getElem?_getD,List.getElem?_set_self (Yx hp)]
  have h1 := h.obs q
  rw [Yw hp] at h1
  obtain ⟨v,fp,e⟩ := h1
  exact ⟨[],v,fp,e,J,fun i t u h2 _ => by simp at h2⟩
 ·rw [List.getD_eq_getElem?_getD,List.getElem?_set_ne (Ne.symm e),← List.getD_eq_getElem?_getD]
  exact h.obs q
theorem L_appshr {p m : Nat} {t0 : T} {ts : List T} {e : TypeId} {z0 : Value} {by_ : Nat} [hm : TyMake P t e [z0] by_] (ho : o.op = .call { callee := .builtin .append,args := #[y,z],argTypes := #[t,t] }) (hg : o.guard = none) (hy : st.ev y = .o (.c (.ref p))) (hp : st.objs[p]? = some (.shr ts)) (hz : st.ev z = .o (.c (.sb m 1 1))) (hx : st.objs[m]? = some (.box [.rd [] t0]))
  (hb : (ts.length + 1) * by_ ≤ 140737488355328) (h63 : ts.length + 1 ≤ 9223372036854775807)
  (hd : dstOk st.n o.dst = true) (h : AL P E ops QQ rest ⟨st.n,setT (st.tmps.map fun e => (e.1,e.2.kill [p])) o.dst (.o (.c (.ref p))),(st.objs.map (Ob.kill [p])).set p (.shr (ts ++ [t0]))⟩) : AL P E ops QQ (o :: rest) st := by
 refine ⟨fun a w ⟨H,F,h1,h2⟩ => ?_⟩
 have ho1 := h1.obs p
 rw [Yw hp] at ho1
 obtain ⟨us,v,fp,e1,hul,hur⟩ := ho1
 have e2 := h1.ok.says p
 rw [e1] at e2
 obtain ⟨x',fp',e3⟩ := h1.v1 hy
 rw [e1] at e3
 simp only [Pc.ow.injEq] at e3
 obtain ⟨_,hv,_⟩ := e3
 have hnd := h1.ok.nodup p
 rw [e1] at hnd
 have ho2 := h1.obs m
 rw [Yw hx] at ho2
 obtain ⟨g,tg,vs,f1,f2,f3⟩ := ho2
 obtain ⟨g',tg',vs',k1,k2,k3,k4⟩ := h1.v1 hz
 rw [f1] at k1
 simp only [Pc.box.injEq] at k1
 obtain ⟨rfl,rfl,rfl⟩ := k1
 obtain ⟨u,rfl⟩ : ∃ u,vs = [u] := by
  cases vs with
  | nil => simp at f2
  | cons u vs => cases vs with
   | nil => exact ⟨u,rfl⟩
   | cons u' vs => simp at f2
 obtain ⟨hu1,hu2⟩ := f3 0 _ _ rfl rfl
 have hsay := h1.ok.says m
 rw [f1] at hsay
 have hcell : w.cell? ⟨g,0,none⟩ = some u := by
  rw [cell_of_row w g _ [u].toArray tg (0,0) hsay]
  rfl
 have hpl : plainT [[T.v u]] := fun e he t ht => by
  rw [List.mem_singleton] at he
  subst he
  rw [List.mem_singleton] at ht
  exact ⟨u,ht⟩
 have hsrc : Src P 1 t (a.eval z) 1 (flatV (plainV' [[T.v u]]) 1 1) w := by
  rw [k4]
  refine src_slice (zs := [z0]) [[T.v u]] (plainV' [[T.v u]]) (some ⟨g,0,none⟩) 1 (fun _ => ⟨g,0,J,fun i j hi hj => ?_⟩) fun i j hi hj => ?_
  ·have hi0 : i = 0 := by simp at hi; omega
   have hj0 : j = 0 := by simp at hj; omega
   subst hi0 hj0
   exact hcell
  ·have hi0 : i = 0 := by simp at hi; omega
   have hj0 : j = 0 := by simp at hj; omega
   subst hi0 hj0
   exact hu2
 obtain ⟨v',w',fp'',hr,h3,h4,h5,h6⟩ := append_src (P := P) (o := o) (t := t) (zs := [z0]) (es := us.map fun u => [T.v u]) (es' := [[T.v u]]) e2 hnd rfl (by simp) hsrc hpl (fun e he => by rw [List.mem_singleton] at he; subst he; rfl) (by simpa [hul] using hb) (by simpa [hul] using h63)
 obtain ⟨hok,htn⟩ := h1.ok.turn (p := p) (fp := fp) (by rw [e1]; rfl) h6 (.ow (.sl 1 ((us.map fun u => [T.v u]) ++ [[T.v u]])) v' fp'') h3 h4 trivial h5
 have hplt := Yx hp
 have hR := h1.turn htn hok ((st.objs.map (Ob.kill [p])).set p (.shr (ts ++ [t0]))) (fun q hq => ?_) (fun q hq => ?_)
 ·have hR2 := hR.put (x := .o (.c (.ref p))) o.dst hd (v := v') ⟨_,_,Hs.put_self _ _ _⟩
  refine wpList_step fun K hK => ?_
  rw [if_pos (by unfold Region.wanted; rw [hg])]
  unfold Oper.wp
  rw [Yr ho (by rw [← hv]; exact hr)]
  exact hK _ _ (h.h _ _ ⟨_,F,hR2,h2.turn htn⟩)
 ·have hqp : q ≠ p := by simpa using hq
  rw [List.getD_eq_getElem?_getD,List.getElem?_set_ne (Ne.symm hqp),List.getElem?_map,List.getD_eq_getElem?_getD]
  cases st.objs[q]? <;> rfl
 ·have hqp : q = p := by simpa using hq
  subst hqp
  rw [Yw (x := .shr (ts ++ [t0])) (by simp [hplt])]
  refine ⟨us ++ [u],v',fp'',by rw [List.map_append]; exact Hs.put_self _ _ _,by simp [hul],fun i t u' hi hu' => ?_⟩
  rw [List.getElem?_append] at hi hu'
  split at hi
  ·rename_i hlt
   rw [if_pos (by omega)] at hu'
   exact R1.turn h1.ok htn (x := .rd [] t) J (hur i t u' hi hu')
  ·rename_i hlt
   rw [if_neg (by omega)] at hu'
   have h7 : i = ts.length := by have := Yx hi; simp at this; omega
   subst h7
   rw [hul] at hu'
   simp only [Nat.sub_self,List.getElem?_cons_zero,Option.some.injEq] at hi hu'
   subst hi hu'
   exact R1.turn h1.ok htn (x := .rd [] _) J hu1
/-! ### Arithmetic that may wrap around -/
theorem q_addW (ho : o.op = .binOp .add t y z t') (hg : o.guard = none) (hy : st.ev y = .o (.c (.rd ps (.v (.int .i64 i))))) (hz : st.ev z = .o (.c (.rd qs (.v (.int .i64 j))))) : Qt P ops o st (I (IntKind.i64.wrap (i + j))) [] n :=
 Zf ho hg hy hz fun w => by simp [binOp,Op.intArith]
theorem q_mulW (ho : o.op = .binOp .mul t y z t') (hg : o.guard = none) (hy : st.ev y = .o (.c (.rd ps (.v (.int .i64 i))))) (hz : st.ev z = .o (.c (.rd qs (.v (.int .i64 j))))) : Qt P ops o st (I (IntKind.i64.wrap (i * j))) [] n :=
 Zf ho hg hy hz fun w => by simp [binOp,Op.intArith]
def xorI (i j : Int) : Int := IntKind.i64.wrap (((BitVec.ofInt 64 i) ^^^ (BitVec.ofInt 64 j)).toNat : Nat)
def andI (i j : Int) : Int := IntKind.i64.wrap (((BitVec.ofInt 64 i) &&& (BitVec.ofInt 64 j)).toNat : Nat)
theorem q_xorW (ho : o.op = .binOp .xor t y z t') (hg : o.guard = none) (hy : st.ev y = .o (.c (.rd ps (.v (.int .i64 i))))) (hz : st.ev z = .o (.c (.rd qs (.v (.int .i64 j))))) : Qt P ops o st (I (xorI i j)) [] n :=
 Zf ho hg hy hz fun w => by
  simp only [binOp,Op.intBits]
  rfl
theorem q_andW (ho : o.op = .binOp .and t y z t') (hg : o.guard = none) (hy : st.ev y = .o (.c (.rd ps (.v (.int .i64 i))))) (hz : st.ev z = .o (.c (.rd qs (.v (.int .i64 j))))) : Qt P ops o st (I (andI i j)) [] n :=
 Zf ho hg hy hz fun w => by
  simp only [binOp,Op.intBits]
  rfl
theorem q_shrW {k' : IntKind} (ho : o.op = .binOp .shr t y z t') (hg : o.guard = none) (hy : st.ev y = .o (.c (.rd ps (.v (.int k i))))) (hz : st.ev z = .o (.c (.rd qs (.v (.int k' j))))) (h0 : 0 ≤ j ∧ j ≤ k.bits) : Qt P ops o st (VI k (i.fdiv (2 ^ j.toNat))) [] n :=
 .pure hg fun a w H F hr => ⟨.int k (i.fdiv (2 ^ j.toNat)),by
  have h1 := hr.plain hy
  have h2 := hr.plain hz
  have h3 : ¬ j < 0 := by omega
  have h4 : min j.toNat k.bits = j.toNat := by omega
  simp [execOp,ho,h1,h2,eqGuard,binOp,Op.shift,h3,h4],plainV _ rfl⟩
theorem andI_rng {i j : Int} (hj : 0 ≤ j ∧ j ≤ 4611686018427387904) : 0 ≤ andI i j ∧ andI i j ≤ j := by
 have h2 : (BitVec.ofInt 64 j).toNat = j.toNat := bits_in (m := 64) ⟨by omega,by omega⟩
 have h3 : ((BitVec.ofInt 64 i) &&& (BitVec.ofInt 64 j)).toNat ≤ j.toNat := by rw [BitVec.toNat_and,h2]; exact Nat.and_le_right
 unfold andI
 rw [Ki (by omega)]
 omega
end
end
section
open Go.RowKit

section
variable {P : Program} {E : Env} {ops : Array Oper} {rest : List Oper} {st : St} {QQ : Exit → St → Prop}
theorem AL.freezeS {p : Nat} {ts : List T} (hp : st.objs[p]? = some (.shr ts)) (h : AL P E ops QQ rest ⟨st.n,st.tmps.map fun e => (e.1,e.2.mapk (V1.fz p (.sl 1 (ts.map fun t => [t])))),(st.objs.map (Ob.mapk (V1.fz p (.sl 1 (ts.map fun t => [t]))))).set p .gone⟩) : AL P E ops QQ rest st := ⟨fun a w hr => h.h a w (hr.freeze (shr_ro hp))⟩
end
theorem I_CanAdvance (x : TPeer) (m : Nat) (g : Enc.gd x) (ho : peerOk x = true) (hu : (x.Used.length : Int) < x.Ahead) (hm : x.Me = m) (hml : m < x.Tracks.length) (hk : x.Now.Tick < x.Tracks[m].Inputs.length) : Con Tryz.prog 45 [] [ag x] [] (B true) := by
 have c1 := Xs x g
 rw [ho] at c1
 have hlu := Ym x.Used
 have hlt := Ym x.Tracks
 have hli := Ym x.Tracks[m].Inputs
 have hat : (els x.Tracks)[x.Me.toNat]? = some (Enc.e x.Tracks[m]) := by rw [hm]; exact Yl hml
 have f1 : decide (((els x.Used).length : Int) < x.Ahead) = true := decide_eq_true (by omega)
 have f2 : decide (x.Now.Tick < ((els x.Tracks[m].Inputs).length : Int)) = true := decide_eq_true (by omega)
 refine Con.of Tryz.func45 J Tryz.ntmps45 J (fun E => ?_)
 refine Wz [26,22] ?_;refine Xh [[],[0],[0,1],[0,1,2],(u9 4),(u9 5),[0,1,2],[0,1,2,6],(u9 8),(u9 9),(u9 10),(u9 11),(u9 12),(u9 11),[0,1,2,3,4,5,6,7,8,9,10,13],(u9 15),(u9 16),(u9 17),(u9 18),(u9 11),[0,1,2,3,4,5,6,7,8,9,10,19],[0,1,2,3,4,5,6,7,8,9,10,19,20],(u9 22),(u9 23),(u9 24)] [[],[3],[3,4],[3,4,5],[3,4,5,6],[3,4,5,6,7],[3,4,5],[3,4,5,9],[3,4,5,6,7,8,9,10],[3,4,5,6,7,8,9,10,11],[3,4,5,6,7,8,9,10,11,12],[3,4,5,6,7,8,9,10,11,12,13],[3,4,5,6,7,8,9,10,11,12,13,14],[3,4,5,6,7,8,9,10,11,12,13],[3,4,5,6,7,8,9,10,11,12,13,16],[3,4,5,6,7,8,9,10,11,12,13,14,15,16,17],[3,4,5,6,7,8,9,10,11,12,13,14,15,16,17,18],[3,4,5,6,7,8,9,10,11,12,13,14,15,16,17,18,19],[3,4,5,6,7,8,9,10,11,12,13,14,15,16,17,18,19,20],[3,4,5,6,7,8,9,10,11,12,13],[3,4,5,6,7,8,9,10,11,12,13,22],[3,4,5,6,7,8,9,10,11,12,13,22,23],[3,4,5,6,7,8,9,10,11,12,13,14,15,16,17,18,19,20,21,22,23,24],[3,4,5,6,7,8,9,10,11,12,13,14,15,16,17,18,19,20,21,22,23,24,25],[3,4,5,6,7,8,9,10,11,12,13,14,15,16,17,18,19,20,21,22,23,24,25,26]] [[],[],[],[9,10],[9,10],[9,10],[6,7,8],[6,7,8],[],[],[],[16,17,22,23,24],[16,17,22,23,24],[14,15,22,23,24],[14,15,22,23,24],[22,23,24],[22,23,24],[22,23,24],[22,23,24],[14,15,16,17,18,19,20,21],[14,15,16,17,18,19,20,21],[14,15,16,17,18,19,20,21],[],[],[]] J (DR.s (Qu J J J J J J) J J ?_);refine DR.s (Qj J J (c1) J) J J ?_;refine Wz [3,23,147,23] ?_;refine DR.s (Qt.yes J J J (Qr J J J J (by assumption))) J J ?_;refine Wz [65,3,23,23,103] ?_;refine DR.s (Qt.yes J J J (q_fldr J J J J (by decide))) J J ?_;refine Wz [127,147,167,23] ?_;refine DR.s (Qt.yes J J J (Zq J J J J (by assumption))) J J ?_;refine Wz [65,109,31,1,67] ?_
 exact Xn J J (X6 [] (by decide) J J J)
noncomputable def advP (x : TPeer) (row : List Int) : TPeer := ⟨x.Me,x.Delay,x.Ahead,x.Seed,x.Tracks,x.Base,stepF x.Now row x.Fault,[row],[⟨x.Now.Tick,deltaT (worldBytes x.Base) (worldBytes x.Now)⟩],x.Sums,x.Fault,x.Rolls,x.Again⟩
structure AdvIn (x : TPeer) (m t : Nat) : Prop where
 inn : PeerIn x
 ok : peerOk x = true
 u0 : x.Used = []
 s0 : x.Saves = []
 me : x.Me = m
 ml : m < x.Tracks.length
 tk : x.Now.Tick = t
 kn : ∀ y ∈ x.Tracks,t < y.Inputs.length
 gr : Enc.gd (rowAt x.Tracks t)
 sl_ : (stepW x.Now (rowAt x.Tracks t)).Scores.length = x.Now.Scores.length
 ss : ∀ s ∈ (stepW x.Now (rowAt x.Tracks t)).Scores,0 ≤ s ∧ s ≤ 1000000
 lv : (stepW x.Now (rowAt x.Tracks t)).Level = x.Now.Level
theorem I_Advance (x : TPeer) (m t : Nat) (h : AdvIn x m t) : Con Tryz.prog 10 [] [ag x] [.row 1 (els x.Tracks),.row 1 (els x.Base.Level.Rows),.row 1 (els x.Base.Scores),.row 9 (els x.Base.Bodies),.row 1 (els (advP x (rowAt x.Tracks t)).Now.Level.Rows),.row 1 (els (advP x (rowAt x.Tracks t)).Now.Scores),.row 9 (els (advP x (rowAt x.Tracks t)).Now.Bodies),.row 2 (els (advP x (rowAt x.Tracks t)).Saves),.row 1 (els x.Sums)] (.tu [.ag (pX (advP x (rowAt x.Tracks t)) (.ref 0) (.ref 1) (.ref 2) (.ref 3) (.ref 4) (.ref 5) (.ref 6) (sr (advP x (rowAt x.Tracks t)).Used) (.ref 7) (.ref 8)),.c (bv true)]) := by
 obtain ⟨inn,ok,u0,s0,me,ml,tk,kn,gr,hsl,hss,hlv⟩ := h
 have ⟨⟨o1,o2,o3,o4⟩,⟨o5,o6,o7⟩,⟨o8,o9,o10⟩,_⟩ := peer_spec ok
 obtain ⟨_,_,_,_,gT,gB,gN,gU,gS,gM,gF,_,_⟩ := inn.gd
 have hu' : els x.Used = [] := by rw [u0]; rfl
 have hs' : els x.Saves = [] := by rw [s0]; rfl
 have hul : x.Used.length = 0 := by rw [u0]; rfl
 have c1 := I_copyPeer x inn
 have c2 := I_CanAdvance x m inn.gd ok (by omega) me ml (by rw [tk]; have := kn _ (List.getElem_mem ml); omega)
 have c3 := I_RowAt x.Tracks t gT o1 kn
 rw [← tk] at c3
 have c4 := I_WorldBytes x.Base gB
 have c5 := I_WorldBytes x.Now gN
 have b1 := bytes_len x.Base
 have b2 := bytes_len x.Now
 have c6 := I_DeltaText (worldBytes x.Base) (worldBytes x.Now) (by omega) (by omega)
 obtain ⟨row,hrow⟩ : ∃ r,rowAt x.Tracks t = r := ⟨_,rfl⟩
 rw [hrow] at c3 gr hsl hss hlv ⊢
 have c7 := I_FaultyStep x.Now row x.Fault gN gr gF inn.nw.1 inn.nw.2.1 inn.nw.2.2 hsl hss hlv
 have f1 : decide ((0 : Int) < ((els x.Saves).length : Int)) = false := by rw [hs']; rfl
 refine Con.of Tryz.func10 J Tryz.ntmps10 J (fun E => ?_)
 refine Wz [26,18,2,15] ?_;refine AL.weak (st' := (⟨_,[(1,.o (.c (.ptr 0 0))),(2,.o (.c (.ptr 1 0))),(3,B false),(11,.o (.ag (pD x)))],[.box (pD x),.box zP]⟩ : St)) (X8 [0,1] (by decide) J ((by kernel_rfl)) (.c J (.c J (.c J (.c J (.nil)))))) ?_;refine M1 (Zk J J (c1) J J J) J J ?_;refine AL.weak (st' := (⟨_,[(1,.o (.c (.ptr 0 0))),(2,.o (.c (.ptr 1 0))),(3,B false),(12,.o (.ag (pC x 2 3 4 5 6 7 8 9 10 11)))],[.box (pD x),.box zP,.row 1 (els x.Tracks),.row 1 (els x.Base.Level.Rows),.row 1 (els x.Base.Scores),.row 9 (els x.Base.Bodies),.row 1 (els x.Now.Level.Rows),.row 1 (els x.Now.Scores),.row 9 (els x.Now.Bodies),.row 1 (els x.Used),.row 2 (els x.Saves),.row 1 (els x.Sums)]⟩ : St)) (X8 [0,1,2,3,4,5,6,7,8,9,10,11] (by decide) J ((by kernel_rfl)) (.c J (.c J (.c J (.c J (.nil)))))) ?_;refine Wz [18,40,21,15] ?_;refine AL.weak (st' := (⟨_,[(1,.o (.c (.ptr 0 0))),(2,.o (.c (.ptr 1 0))),(3,B false),(4,.o (.c (.ptr 12 0))),(13,.o (.ag (pD x)))],[.box (pD x),.box zP,.row 1 (els x.Tracks),.row 1 (els x.Base.Level.Rows),.row 1 (els x.Base.Scores),.row 9 (els x.Base.Bodies),.row 1 (els x.Now.Level.Rows),.row 1 (els x.Now.Scores),.row 9 (els x.Now.Bodies),.row 1 (els x.Used),.row 2 (els x.Saves),.row 1 (els x.Sums),.box (pC x 2 3 4 5 6 7 8 9 10 11)]⟩ : St)) (X8 [0,1,2,3,4,5,6,7,8,9,10,11,12] (by decide) J ((by kernel_rfl)) (.c J (.c J (.c J (.c J (.c J (.nil))))))) ?_;refine zx (Qj J J (c2) J) J ?_;refine Wz [14,35,4,64,27,18,40,21,5,12,85,35,5,64,17] ?_;refine AL.weak (st' := (⟨_,[(1,.o (.c (.ptr 0 0))),(2,.o (.c (.ptr 1 0))),(3,B false),(4,.o (.c (.ptr 12 0))),(5,.o (.c (.ptr 13 0))),(43,L x.Tracks),(46,I x.Now.Tick)],[.box (pD x),.box zP,.row 1 (els x.Tracks),.row 1 (els x.Base.Level.Rows),.row 1 (els x.Base.Scores),.row 9 (els x.Base.Bodies),.row 1 (els x.Now.Level.Rows),.row 1 (els x.Now.Scores),.row 9 (els x.Now.Bodies),.row 1 (els x.Used),.row 2 (els x.Saves),.row 1 (els x.Sums),.box (pC x 2 3 4 5 6 7 8 9 10 11),.box (wD x.Base)]⟩ : St)) (X8 [0,1,2,3,4,5,6,7,8,9,10,11,12,13] (by decide) J ((by kernel_rfl)) (.c J (.c J (.c J (.c J (.c J (.c J (.c J (.nil))))))))) ?_;refine M1 (Zk J J (c3) J J J) J J ?_;refine AL.freeze (p := 14) J ?_;refine AL.weak (st' := (⟨_,[(1,.o (.c (.ptr 0 0))),(2,.o (.c (.ptr 1 0))),(3,B false),(4,.o (.c (.ptr 12 0))),(5,.o (.c (.ptr 13 0))),(47,.tu [.c (.rd [] (sl row)),.c (bv true)])],[.box (pD x),.box zP,.row 1 (els x.Tracks),.row 1 (els x.Base.Level.Rows),.row 1 (els x.Base.Scores),.row 9 (els x.Base.Bodies),.row 1 (els x.Now.Level.Rows),.row 1 (els x.Now.Scores),.row 9 (els x.Now.Bodies),.row 1 (els x.Used),.row 2 (els x.Saves),.row 1 (els x.Sums),.box (pC x 2 3 4 5 6 7 8 9 10 11),.box (wD x.Base)]⟩ : St)) (X8 [0,1,2,3,4,5,6,7,8,9,10,11,12,13] (by decide) J ((by kernel_rfl)) (.c J (.c J (.c J (.c J (.c J (.c J (.nil)))))))) ?_;refine Wz [88,42,42,72,22] ?_;refine Xh [[],[0],[],[2],(u9 4),(u9 5),(u9 6)] [[],[50],[],[52],[50,51,52,53],[50,51,52,53,54],[50,51,52,53,54,55]] [[52,53],[52,53],[50,51],[50,51],[],[],[]] J (DR.s (Qu J J J J J J) J J ?_);refine DR.s (Qj J J (c4) J) J J ?_;refine Wz [140,100] ?_;refine DR.s (Qj J J (c5) J) J J ?_;refine DR.s (Qj J J (c6) J) J J ?_;refine Wz [109,31,1] ?_
 refine AWP.pre (st' := (⟨_,[(1,.o (.c (.ptr 0 0))),(2,.o (.c (.ptr 1 0))),(3,B false),(4,.o (.c (.ptr 12 0))),(8,.o (.c (.rd [] (sl row)))),(10,S (deltaT (worldBytes x.Base) (worldBytes x.Now)))],[.box (pD x),.box zP,.row 1 (els x.Tracks),.row 1 (els x.Base.Level.Rows),.row 1 (els x.Base.Scores),.row 9 (els x.Base.Bodies),.row 1 (els x.Now.Level.Rows),.row 1 (els x.Now.Scores),.row 9 (els x.Now.Bodies),.row 1 [],.row 2 [],.row 1 (els x.Sums),.box (pC x 2 3 4 5 6 7 8 9 10 11)]⟩ : St)) ?_ (X8 [0,1,2,3,4,5,6,7,8,9,10,11,12] (by decide) J ((by rw [hu',hs']; kernel_rfl)) (.c J (.c J (.c J (.c J (.c J (.c J (.nil))))))))
 refine AWP.pre ?_ (Wk.toshr (p := 9) J)
 refine AWP.pre (st' := (⟨_,[(1,.o (.c (.ptr 0 0))),(2,.o (.c (.ptr 1 0))),(3,B false),(4,.o (.c (.ptr 12 0))),(8,.o (.c (.rd [] (sl row)))),(10,S (deltaT (worldBytes x.Base) (worldBytes x.Now)))],[.box (pD x),.box zP,.row 1 (els x.Tracks),.row 1 (els x.Base.Level.Rows),.row 1 (els x.Base.Scores),.row 9 (els x.Base.Bodies),.row 1 (els x.Now.Level.Rows),.row 1 (els x.Now.Scores),.row 9 (els x.Now.Bodies),.shr [],.row 2 [],.row 1 (els x.Sums),.box (pC x 2 3 4 5 6 7 8 9 10 11)]⟩ : St)) ?_ (X8 [0,1,2,3,4,5,6,7,8,9,10,11,12] (by decide) J ((by kernel_rfl)) (.c J (.c J (.c J (.c J (.c J (.c J (.nil))))))))
 have h00 : ([] : List (List T)).length = 0 := rfl
 have h01 : ([] : List T).length = 0 := rfl
 refine Wz [5,64,17,0,108,54,111,41,1,5,0,54] ?_;refine L_appshr J J J J J J (by omega) (by omega) J ?_;refine Wz [41,1,4,64,27,0,64,27] ?_;refine AL.weak (st' := (⟨_,[(1,.o (.c (.ptr 0 0))),(2,.o (.c (.ptr 1 0))),(3,B false),(4,.o (.c (.ptr 12 0))),(73,.o (.ag (wD x.Now))),(74,.o (.c (.rd [] (sl row)))),(76,.o (.ag [jn x.Fault.Tick,jn x.Fault.Player,jn x.Fault.Add]))],[.box (pD x),.box zP,.row 1 (els x.Tracks),.row 1 (els x.Base.Level.Rows),.row 1 (els x.Base.Scores),.row 9 (els x.Base.Bodies),.row 1 (els x.Now.Level.Rows),.row 1 (els x.Now.Scores),.row 9 (els x.Now.Bodies),.shr [sl row],.row 2 (els (advP x row).Saves),.row 1 (els x.Sums),.box (pC x 2 3 4 5 6 7 8 9 10 11)]⟩ : St)) (X8 [0,1,2,3,4,5,6,7,8,9,10,11,12] (by decide) J ((by kernel_rfl)) (.c J (.c J (.c J (.c J (.c J (.c J (.c J (.nil))))))))) ?_;refine M1 (Zk J J (c7) J J J) J J ?_;refine AL.weak (st' := (⟨_,[(1,.o (.c (.ptr 0 0))),(2,.o (.c (.ptr 1 0))),(3,B false),(4,.o (.c (.ptr 12 0))),(77,.o (.ag [.ref 13,jn (advP x row).Now.Tick,jn (advP x row).Now.Seed,.ref 14,.ref 15]))],[.box (pD x),.box zP,.row 1 (els x.Tracks),.row 1 (els x.Base.Level.Rows),.row 1 (els x.Base.Scores),.row 9 (els x.Base.Bodies),.row 1 (els x.Now.Level.Rows),.row 1 (els x.Now.Scores),.row 9 (els x.Now.Bodies),.shr [sl row],.row 2 (els (advP x row).Saves),.row 1 (els x.Sums),.box (pC x 2 3 4 5 6 7 8 9 10 11),.row 1 (els (advP x row).Now.Level.Rows),.row 1 (els (advP x row).Now.Scores),.row 9 (els (advP x row).Now.Bodies)]⟩ : St)) (X8 [0,1,2,3,4,5,6,7,8,9,10,11,12,13,14,15] (by decide) J ((by kernel_rfl)) (.c J (.c J (.c J (.c J (.c J (.nil))))))) ?_;refine Wz [64,37,4] ?_;refine AL.weak (st' := (⟨_,[(2,.o (.c (.ptr 1 0))),(3,B false),(4,.o (.c (.ptr 12 0)))],[.box (pD x),.box zP,.row 1 (els x.Tracks),.row 1 (els x.Base.Level.Rows),.row 1 (els x.Base.Scores),.row 9 (els x.Base.Bodies),.row 1 (els x.Now.Level.Rows),.row 1 (els x.Now.Scores),.row 9 (els x.Now.Bodies),.shr [sl row],.row 2 (els (advP x row).Saves),.row 1 (els x.Sums),.box (pX (advP x row) (.ref 2) (.ref 3) (.ref 4) (.ref 5) (.ref 13) (.ref 14) (.ref 15) (.ref 9) (.ref 10) (.ref 11)),.row 1 (els (advP x row).Now.Level.Rows),.row 1 (els (advP x row).Now.Scores),.row 9 (els (advP x row).Now.Bodies)]⟩ : St)) (X8 [0,1,2,3,4,5,6,7,8,9,10,11,12,13,14,15] (by decide) J ((by kernel_rfl)) (.c J (.c J (.c J (.nil))))) ?_;refine AL.freezeS (p := 9) J ?_;refine AL.weak (st' := (⟨_,[(2,.o (.c (.ptr 1 0))),(3,B false),(4,.o (.c (.ptr 12 0)))],[.box (pD x),.box zP,.row 1 (els x.Tracks),.row 1 (els x.Base.Level.Rows),.row 1 (els x.Base.Scores),.row 9 (els x.Base.Bodies),.row 1 (els x.Now.Level.Rows),.row 1 (els x.Now.Scores),.row 9 (els x.Now.Bodies),.gone,.row 2 (els (advP x row).Saves),.row 1 (els x.Sums),.box (pX (advP x row) (.ref 2) (.ref 3) (.ref 4) (.ref 5) (.ref 13) (.ref 14) (.ref 15) (sr (advP x row).Used) (.ref 10) (.ref 11)),.row 1 (els (advP x row).Now.Level.Rows),.row 1 (els (advP x row).Now.Scores),.row 9 (els (advP x row).Now.Bodies)]⟩ : St)) (X8 [0,1,2,3,4,5,6,7,8,9,10,11,12,13,14,15] (by decide) J ((by kernel_rfl)) (.c J (.c J (.c J (.nil))))) ?_;refine z4 J J J ?_;refine AL.weak (st' := (⟨_,[(2,.o (.c (.ptr 1 0))),(3,B false),(79,.o (.ag (pX (advP x row) (.ref 2) (.ref 3) (.ref 4) (.ref 5) (.ref 13) (.ref 14) (.ref 15) (sr (advP x row).Used) (.ref 10) (.ref 11))))],[.box (pD x),.box zP,.row 1 (els x.Tracks),.row 1 (els x.Base.Level.Rows),.row 1 (els x.Base.Scores),.row 9 (els x.Base.Bodies),.row 1 (els x.Now.Level.Rows),.row 1 (els x.Now.Scores),.row 9 (els x.Now.Bodies),.gone,.row 2 (els (advP x row).Saves),.row 1 (els x.Sums),.box (pX (advP x row) (.ref 2) (.ref 3) (.ref 4) (.ref 5) (.ref 13) (.ref 14) (.ref 15) (sr (advP x row).Used) (.ref 10) (.ref 11)),.row 1 (els (advP x row).Now.Level.Rows),.row 1 (els (advP x row).Now.Scores),.row 9 (els (advP x row).Now.Bodies)]⟩ : St)) (X8 [0,1,2,3,4,5,6,7,8,9,10,11,12,13,14,15] (by decide) J ((by kernel_rfl)) (.c J (.c J (.c J (.nil))))) ?_;refine Qy J J J J J J J J J ?_;refine AL.weak (st' := (⟨_,[(2,.o (.c (.ptr 1 0))),(3,B false)],[.box (pD x),.box (pX (advP x row) (.ref 2) (.ref 3) (.ref 4) (.ref 5) (.ref 13) (.ref 14) (.ref 15) (sr (advP x row).Used) (.ref 10) (.ref 11)),.row 1 (els x.Tracks),.row 1 (els x.Base.Level.Rows),.row 1 (els x.Base.Scores),.row 9 (els x.Base.Bodies),.row 1 (els x.Now.Level.Rows),.row 1 (els x.Now.Scores),.row 9 (els x.Now.Bodies),.gone,.row 2 (els (advP x row).Saves),.row 1 (els x.Sums),.box (pX (advP x row) (.ref 2) (.ref 3) (.ref 4) (.ref 5) (.ref 13) (.ref 14) (.ref 15) (sr (advP x row).Used) (.ref 10) (.ref 11)),.row 1 (els (advP x row).Now.Level.Rows),.row 1 (els (advP x row).Now.Scores),.row 9 (els (advP x row).Now.Bodies)]⟩ : St)) (X8 [0,1,2,3,4,5,6,7,8,9,10,11,12,13,14,15] (by decide) J ((by kernel_rfl)) (.c J (.c J (.nil)))) ?_;refine Wz [34] ?_
 exact Xm (cs := pX (advP x row) (.ref 2) (.ref 3) (.ref 4) (.ref 5) (.ref 13) (.ref 14) (.ref 15) (sr (advP x row).Used) (.ref 10) (.ref 11)) J J J J J (X6 [2,3,4,5,13,14,15,10,11] (by decide) J (by kernel_rfl) (by kernel_rfl))
end
section
open Go.RowKit

theorem Wk.cell {st : St} {p i : Nat} {cs : List V1} {c c' : V1} (hp : st.objs[p]? = some (.box cs)) (hc : cs[i]? = some c) (himp : ∀ w H F a u,R0 w H F st a → R1 w H F c u → R1 w H F c' u) : Wk st ⟨st.n,st.tmps,st.objs.set p (.box (cs.set i c'))⟩ := fun w H F a h =>
 ⟨H,⟨h.ok,fun q => by
  show RB w H F q ((st.objs.set p (.box (cs.set i c'))).getD q .gone)
  by_cases hq : q = p
  ·subst hq
   rw [show (st.objs.set q (.box (cs.set i c'))).getD q .gone = .box (cs.set i c') by simp [List.getD_eq_getElem?_getD,Yx hp]]
   have hb := h.obs q
   rw [Yw hp] at hb
   obtain ⟨g,t,vs,k1,k2,k3⟩ := hb
   refine ⟨g,t,vs,k1,by simpa using k2,fun j c1 u h4 h5 => ?_⟩
   rw [List.getElem?_set] at h4
   split at h4
   ·rename_i hij
    subst hij
    split at h4
    ·cases h4
     have := k3 i c u hc h5
     exact ⟨himp w H F a u h this.1,this.2⟩
    ·cases h4
   ·exact k3 j c1 u h4 h5
  ·rw [show (st.objs.set p (.box (cs.set i c'))).getD q .gone = st.objs.getD q .gone by simp [List.getD_eq_getElem?_getD,List.getElem?_set_ne (fun e => hq e.symm)]]
   exact h.obs q,h.tmp,h.size,h.defers⟩,fun q b hb => ⟨q,hb⟩,fun q i v hv => ⟨q,hv⟩⟩
theorem Wk.tlend {st : St} {p i q k n : Nat} {cs : List V1} {es : List (List T)} (hp : st.objs[p]? = some (.box cs)) (hc : cs[i]? = some (.tl q k n)) (hq : st.objs[q]? = some (.row k es)) (hn : es.length = n) : Wk st ⟨st.n,st.tmps,st.objs.set p (.box (cs.set i (.rd [] (.sl k []))))⟩ :=
 Wk.cell hp hc fun w H F a u h hu => by
  obtain ⟨v,fp,e1,e2⟩ := h.ow hq
  obtain ⟨A,A',m,c,x,fp',e3,hv,hA⟩ := hu
  rw [e1] at e3
  simp only [Pc.ow.injEq] at e3
  obtain ⟨rfl,rfl,rfl⟩ := e3
  have hm : m = es.length ∧ c ≤ maxLen := by
   rcases e2.open_ with ⟨h,rfl,rfl⟩ | ⟨b,o,c',tid,cur,fz,val,fps,h,_,_,_,hc,_⟩
   ·cases h; exact ⟨rfl,Nat.zero_le _⟩
   ·cases h
    have hr := e2.ro
    refine ⟨J,?_⟩
    cases hr with
    | nil _ _ _ hm => exact hm
    | sl _ _ _ _ _ _ _ _ hm => exact hm
  rw [hv,hm.1,hn,Nat.sub_self]
  exact RO.nil A' k (c - n) (Nat.le_trans (Nat.sub_le _ _) hm.2)
end
section
open Go.RowKit

theorem I_FirstWrong (x : TPeer) (b : Nat) (g : Enc.gd x) (ho : peerOk x = true) (hb : x.Base.Tick = b) (hL : x.Used.length ≤ 1000) (hb2 : b ≤ 100000) (hU : ∀ k (h : k < x.Used.length),x.Used[k] = rowAt x.Tracks (b + k) ∧ ∀ y ∈ x.Tracks,b + k < y.Inputs.length) : Con Tryz.prog 52 [] [ag x] [] (I (-1)) := by
 have c1 := Xs x g
 rw [ho] at c1
 have hlu := Ym x.Used
 obtain ⟨_,_,_,_,gT,gB,gN,gU,gS,gM,gF,_,_⟩ := g
 have ⟨⟨o1,_⟩,_⟩ := peer_spec ho
 refine Con.of Tryz.func52 J Tryz.ntmps52 J (fun E => ?_)
 refine Wz [26,22,15] ?_;refine zx (Qj J J (c1) J) J ?_;refine Wz [14,60,70,5,12,78,13] ?_;refine Xi (fun m st => ∃ k : Nat,k + m = x.Used.length ∧ (True) ∧ st = (⟨_,[(1,.o (.c (.ptr 0 0))),(11,L x.Used),(12,I (els x.Used).length),(13,I k)],[.box (pD x)]⟩ : St)) (x.Used.length) ⟨_,⟨0,by omega,trivial,J⟩,X7 [0] (by kernel_rfl)⟩ ?_
 rintro m_A _ ⟨k,hk_A,hp_A,rfl⟩
 by_cases h3 : k < x.Used.length
 ·have f2 : decide ((k : Int) < ((els x.Used).length : Int)) = true := decide_eq_true (by omega)
  have hat := Yl h3
  obtain ⟨e1,e2⟩ := hU k h3
  have c2 := I_RowAt x.Tracks (b + k) gT o1 e2
  rw [show ((b + k : Nat) : Int) = x.Base.Tick + k by omega] at c2
  have c3 := slEqI (rowAt x.Tracks (b + k)) x.Used[k] (by rw [← e1]; exact gU.2 _ (List.getElem_mem h3))
  rw [decide_eq_true e1.symm] at c3
  refine Wz [4,10,21,46,52,61,72,2,5,64,17,89] ?_;refine M1 (Zk J J (c2) J J J) J J ?_;refine Wz [88,42,42,72,2,39] ?_;refine zx (Qj J J (c3) J) J ?_;refine Wz [14,45,38] ?_
  exact ⟨x.Used.length - (k + 1),by omega,_,⟨k + 1,by omega,trivial,J⟩,X7 [0] (by kernel_rfl)⟩
 have f2 : decide ((k : Int) < ((els x.Used).length : Int)) = false := decide_eq_false (by omega)
 refine Wz [4,10,21,47,32,11,67] ?_
 exact Xn J J (X6 [] (by decide) J J J)
theorem I_nextConfirmed (x : TPeer) (h : PeerIn x) (hb : 0 ≤ x.Base.Tick ∧ x.Base.Tick ≤ 100000) (ht : x.Base.Tick + 1 = x.Now.Tick) : Con Tryz.prog 53 [] [ag x] (wR x.Now []) (.tu [.ag [.ref 0,jn x.Now.Tick,jn x.Now.Seed,.ref 1,.ref 2],.c (bv true)]) := by
 obtain ⟨_,_,_,_,gT,gB,gN,gU,gS,gM,gF,_,_⟩ := h.gd
 have c1 := Xx x.Now gN h.nw.1 h.nw.2.1 h.nw.2.2
 have f1 : decide (x.Base.Tick + 1 = x.Now.Tick) = true := decide_eq_true ht
 refine Con.of Tryz.func53 J Tryz.ntmps53 J (fun E => ?_)
 refine Wz [26,18,22,4,64,17,71,64,17,19,9,4,64,27] ?_;refine M1 (Zk J J (c1) J J J) J J ?_;refine Wz [40,2,75,25] ?_
 exact Xm J J J J J (X6 [2,3,4] (by decide) J J J)
noncomputable def conP (x : TPeer) : TPeer := ⟨x.Me,x.Delay,x.Ahead,x.Seed,x.Tracks,x.Now,x.Now,[],[],x.Sums ++ [wsum x.Now],x.Fault,x.Rolls,x.Again⟩
theorem least_gt {l : List TTrack} {t : Nat} (h : ∀ y ∈ l,t < y.Inputs.length) (hl : 1 ≤ l.length) : ∀ k,k ≤ l.length → t < leastK l k
 | 0,_ => by rw [least_0,lenAt_is (by omega)]; exact h _ (List.getElem_mem (by omega))
 | k + 1,hk => by
  have ih := least_gt h hl k (by omega)
  have h1 := least_next (l := l) (k := k) (by omega)
  have h2 := h _ (List.getElem_mem (show k < l.length by omega))
  have h3 := Ym (l[k]'(by omega)).Inputs
  omega
structure ConIn (x : TPeer) (t : Nat) : Prop where
 inn : PeerIn x
 ok : peerOk x = true
 bt : x.Base.Tick = t
 tl : t ≤ 1000
 nt : x.Now.Tick = t + 1
 us : x.Used = [rowAt x.Tracks t]
 kn : ∀ y ∈ x.Tracks,t < y.Inputs.length
theorem I_Confirm (x : TPeer) (t : Nat) (h : ConIn x t) : Con Tryz.prog 11 [] [ag x] (.row 1 (els x.Tracks) :: wR x.Now (wR x.Now [.row 1 (els (conP x).Sums)])) (.o (.ag (pX (conP x) (.ref 0) (.ref 1) (.ref 2) (.ref 3) (.ref 4) (.ref 5) (.ref 6) (sr ([] : List (List Int))) (sr ([] : List TSave)) (.ref 7)))) := by
 obtain ⟨inn,ok,bt,tl,nt,us,kn⟩ := h
 have ⟨⟨o1,_⟩,_,_,_,⟨_,_,o9⟩,_⟩ := peer_spec ok
 have hts := Kf o1
 have hsm := inn.sm
 obtain ⟨_,_,_,_,gT,gB,gN,gU,gS,gM,gF,_,_⟩ := inn.gd
 have hlu := Ym x.Used
 have hls := Ym x.Saves
 have hlm := Ym x.Sums
 have hul : x.Used.length = 1 := by rw [us]; rfl
 have hlu1 : (els x.Used).length = 1 := by omega
 have hls1 : (els x.Saves).length = 1 := by omega
 have c1 := I_copyPeer x inn
 have c2 := Xs x inn.gd
 rw [ok] at c2
 have c3 := Xq x.Tracks gT
 have hK : t < knownTicks x.Tracks := by rw [knownTicks,if_pos o1]; exact least_gt kn hts.1 _ (Nat.le_refl _)
 have c4 := I_FirstWrong x t inn.gd ok bt (by omega) (by omega) (fun k hk => by
  have hk0 : k = 0 := by omega
  subst hk0
  simp only [us,Nat.add_zero,List.getElem_cons_zero]
  exact ⟨trivial,kn⟩)
 have c5 := I_nextConfirmed x inn (by omega) (by omega)
 have cw := I_WorldSum x.Now gN
 have hse : els (conP x).Sums = els x.Sums ++ [[.v (.int .i64 (wsum x.Now))]] := by
  show els (x.Sums ++ [wsum x.Now]) = _
  rw [Yk]
  rfl
 have f1 : decide (x.Base.Tick < x.Now.Tick) = true := decide_eq_true (by omega)
 have f1' : decide (x.Now.Tick < x.Now.Tick) = false := decide_eq_false (by omega)
 have f2 : decide (x.Base.Tick < ((knownTicks x.Tracks : Nat) : Int)) = true := decide_eq_true (by omega)
 have f3 : decide ((-1 : Int) ≠ x.Base.Tick) = true := decide_eq_true (by omega)
 refine Con.of Tryz.func11 J Tryz.ntmps11 J (fun E => ?_)
 refine Wz [26,18,1,15] ?_;refine AL.weak (st' := (⟨_,[(1,.o (.c (.ptr 0 0))),(2,.o (.c (.ptr 1 0))),(8,.o (.ag (pD x)))],[.box (pD x),.box zP]⟩ : St)) (X8 [0,1] (by decide) J ((by kernel_rfl)) (.c J (.c J (.c J (.nil))))) ?_;refine M1 (Zk J J (c1) J J J) J J ?_;refine AL.weak (st' := (⟨_,[(1,.o (.c (.ptr 0 0))),(2,.o (.c (.ptr 1 0))),(9,.o (.ag (pC x 2 3 4 5 6 7 8 9 10 11)))],[.box (pD x),.box zP,.row 1 (els x.Tracks),.row 1 (els x.Base.Level.Rows),.row 1 (els x.Base.Scores),.row 9 (els x.Base.Bodies),.row 1 (els x.Now.Level.Rows),.row 1 (els x.Now.Scores),.row 9 (els x.Now.Bodies),.row 1 (els x.Used),.row 2 (els x.Saves),.row 1 (els x.Sums)]⟩ : St)) (X8 [0,1,2,3,4,5,6,7,8,9,10,11] (by decide) J ((by kernel_rfl)) (.c J (.c J (.c J (.nil))))) ?_;refine Wz [18,40,21,15] ?_;refine AL.weak (st' := (⟨_,[(1,.o (.c (.ptr 0 0))),(2,.o (.c (.ptr 1 0))),(3,.o (.c (.ptr 12 0))),(10,.o (.ag (pD x)))],[.box (pD x),.box zP,.row 1 (els x.Tracks),.row 1 (els x.Base.Level.Rows),.row 1 (els x.Base.Scores),.row 9 (els x.Base.Bodies),.row 1 (els x.Now.Level.Rows),.row 1 (els x.Now.Scores),.row 9 (els x.Now.Bodies),.row 1 (els x.Used),.row 2 (els x.Saves),.row 1 (els x.Sums),.box (pC x 2 3 4 5 6 7 8 9 10 11)]⟩ : St)) (X8 [0,1,2,3,4,5,6,7,8,9,10,11,12] (by decide) J ((by kernel_rfl)) (.c J (.c J (.c J (.c J (.nil)))))) ?_;refine zx (Qj J J (c2) J) J ?_;refine Wz [14,35,5] ?_;refine zx (Qj J J (c3) J) J ?_;refine Wz [22,13] ?_;refine @A_loop _ _ _ _ _ (fun m st => (m = 1 ∧ st = (⟨77,[(1,.o (.c (.ptr 0 0))),(2,.o (.c (.ptr 1 0))),(3,.o (.c (.ptr 12 0))),(4,I (knownTicks x.Tracks : Nat))],[.box (pD x),.box zP,.row 1 (els x.Tracks),.row 1 (els x.Base.Level.Rows),.row 1 (els x.Base.Scores),.row 9 (els x.Base.Bodies),.row 1 (els x.Now.Level.Rows),.row 1 (els x.Now.Scores),.row 9 (els x.Now.Bodies),.row 1 (els x.Used),.row 2 (els x.Saves),.row 1 (els x.Sums),.box (pC x 2 3 4 5 6 7 8 9 10 11)]⟩ : St)) ∨ (m = 0 ∧ st = (⟨77,[(1,.o (.c (.ptr 0 0))),(2,.o (.c (.ptr 1 0))),(3,.o (.c (.ptr 10 0))),(4,I (knownTicks x.Tracks : Nat))],[.box (pD x),.box zP,.row 1 (els x.Tracks),.row 1 (els x.Now.Level.Rows),.row 1 (els x.Now.Scores),.row 9 (els x.Now.Bodies),.row 1 (els x.Now.Level.Rows),.row 1 (els x.Now.Scores),.row 9 (els x.Now.Bodies),.row 1 (els (conP x).Sums),.box (pX (conP x) (.ref 2) (.ref 3) (.ref 4) (.ref 5) (.ref 6) (.ref 7) (.ref 8) (sr ([] : List (List Int))) (sr ([] : List TSave)) (.ref 9))]⟩ : St))) 1 ⟨_,X7 [0,1,2,3,4,5,6,7,8,9,10,11,12] (by kernel_rfl),.inl ⟨J,J⟩⟩ ?_
 rintro m st (⟨rfl,rfl⟩ | ⟨rfl,rfl⟩)
 ·refine Wz [20,20] ?_
  refine Xh u8_24 u8_25 u8_26 J ?_;refine Wz [140,33,140,33] ?_;refine DR.s (Qr J J J J (by assumption)) J J ?_;refine Wz [3,167,23,66] ?_;refine DR.s (Qt.yes J J J (Qr J J J J (by assumption))) J J ?_;refine Wz [65,3,119] ?_;refine DR.s (Qt.yes J J J (Qj J J (c4) J)) J J ?_;refine Wz [167,23] ?_;refine DR.s (Qt.yes J J J (Qw J J J J (by assumption))) J J ?_;refine Wz [65,31,1] ?_
  refine AWP.pre (st' := (⟨_,[(1,.o (.c (.ptr 0 0))),(2,.o (.c (.ptr 1 0))),(3,.o (.c (.ptr 12 0))),(4,I (knownTicks x.Tracks : Nat)),(38,B true)],[.box (pD x),.box zP,.row 1 (els x.Tracks),.row 1 (els x.Base.Level.Rows),.row 1 (els x.Base.Scores),.row 9 (els x.Base.Bodies),.row 1 (els x.Now.Level.Rows),.row 1 (els x.Now.Scores),.row 9 (els x.Now.Bodies),.row 1 (els x.Used),.row 2 (els x.Saves),.row 1 (els x.Sums),.box (pC x 2 3 4 5 6 7 8 9 10 11)]⟩ : St)) ?_ (X8 [0,1,2,3,4,5,6,7,8,9,10,11,12] (by decide) J ((by kernel_rfl)) (.c J (.c J (.c J (.c J (.c J (.nil)))))))
  refine Wz [46,68,13,15] ?_;refine AL.weak (st' := (⟨_,[(1,.o (.c (.ptr 0 0))),(2,.o (.c (.ptr 1 0))),(3,.o (.c (.ptr 12 0))),(4,I (knownTicks x.Tracks : Nat)),(40,.o (.ag (pC x 2 3 4 5 6 7 8 9 10 11)))],[.box (pD x),.box zP,.row 1 (els x.Tracks),.row 1 (els x.Base.Level.Rows),.row 1 (els x.Base.Scores),.row 9 (els x.Base.Bodies),.row 1 (els x.Now.Level.Rows),.row 1 (els x.Now.Scores),.row 9 (els x.Now.Bodies),.row 1 (els x.Used),.row 2 (els x.Saves),.row 1 (els x.Sums),.box (pC x 2 3 4 5 6 7 8 9 10 11)]⟩ : St)) (X8 [0,1,2,3,4,5,6,7,8,9,10,11,12] (by decide) J ((by kernel_rfl)) (.c J (.c J (.c J (.c J (.c J (.nil))))))) ?_;refine M1 (Zk J J (c5) J J J) J J ?_;refine AL.weak (st' := (⟨_,[(1,.o (.c (.ptr 0 0))),(2,.o (.c (.ptr 1 0))),(3,.o (.c (.ptr 12 0))),(4,I (knownTicks x.Tracks : Nat)),(41,.tu [.ag [.ref 13,jn x.Now.Tick,jn x.Now.Seed,.ref 14,.ref 15],.c (bv true)])],[.box (pD x),.box zP,.row 1 (els x.Tracks),.row 1 (els x.Base.Level.Rows),.row 1 (els x.Base.Scores),.row 9 (els x.Base.Bodies),.row 1 (els x.Now.Level.Rows),.row 1 (els x.Now.Scores),.row 9 (els x.Now.Bodies),.row 1 (els x.Used),.row 2 (els x.Saves),.row 1 (els x.Sums),.box (pC x 2 3 4 5 6 7 8 9 10 11),.row 1 (els x.Now.Level.Rows),.row 1 (els x.Now.Scores),.row 9 (els x.Now.Bodies)]⟩ : St)) (X8 [0,1,2,3,4,5,6,7,8,9,10,11,12,13,14,15] (by decide) J ((by kernel_rfl)) (.c J (.c J (.c J (.c J (.c J (.nil))))))) ?_;refine Wz [88,42,42,18,40,56,14,35,15,64,40,21] ?_
  refine AWP.pre (st' := (⟨_,[(1,.o (.c (.ptr 0 0))),(2,.o (.c (.ptr 1 0))),(3,.o (.c (.ptr 12 0))),(4,I (knownTicks x.Tracks : Nat)),(5,.o (.c (.ptr 16 0)))],[.box (pD x),.box zP,.row 1 (els x.Tracks),.row 1 (els x.Base.Level.Rows),.row 1 (els x.Base.Scores),.row 9 (els x.Base.Bodies),.row 1 (els x.Now.Level.Rows),.row 1 (els x.Now.Scores),.row 9 (els x.Now.Bodies),.row 1 (els x.Used),.row 2 (els x.Saves),.row 1 (els x.Sums),.box (pX (conP x) (.ref 2) (.ref 13) (.ref 14) (.ref 15) (.ref 6) (.ref 7) (.ref 8) (.ref 9) (.ref 10) (.ref 11)),.row 1 (els x.Now.Level.Rows),.row 1 (els x.Now.Scores),.row 9 (els x.Now.Bodies),.box [.ref 13,jn x.Now.Tick,jn x.Now.Seed,.ref 14,.ref 15]]⟩ : St)) ?_ (X8 [0,1,2,3,4,5,6,7,8,9,10,11,12,13,14,15,16] (by decide) J ((by kernel_rfl)) (.c J (.c J (.c J (.c J (.c J (.nil)))))))
  refine Xh [[],[0],[],[2],[2,3],(u9 5),(u9 6),(u9 7)] [[],[48],[],[50],[50,51],[48,49,50,51,52],[48,49,50,51,52,53],[48,49,50,51,52,53,54]] [[50,51,52],[50,51,52],[48,49],[48,49],[48,49],[],[],[]] J ?_;refine Wz [33,100] ?_;refine DR.s (Qj J J (cw) J) J J ?_;refine Wz [168,31,87,41,1,5] ?_
  refine AL.weak (st' := (⟨_,[(1,.o (.c (.ptr 0 0))),(2,.o (.c (.ptr 1 0))),(3,.o (.c (.ptr 12 0))),(4,I (knownTicks x.Tracks : Nat)),(5,.o (.c (.ptr 16 0))),(56,.o (.c (.ref 9)))],[.box (pD x),.box zP,.row 1 (els x.Tracks),.row 1 (els x.Base.Level.Rows),.row 1 (els x.Base.Scores),.row 9 (els x.Base.Bodies),.row 1 (els x.Now.Level.Rows),.row 1 (els x.Now.Scores),.row 9 (els x.Now.Bodies),.row 1 (els x.Used),.row 2 (els x.Saves),.row 1 (els (conP x).Sums),.box (pX (conP x) (.ref 2) (.ref 13) (.ref 14) (.ref 15) (.ref 6) (.ref 7) (.ref 8) (.ref 9) (.ref 10) (.ref 11)),.row 1 (els x.Now.Level.Rows),.row 1 (els x.Now.Scores),.row 9 (els x.Now.Bodies),.box [.ref 13,jn x.Now.Tick,jn x.Now.Seed,.ref 14,.ref 15]]⟩ : St)) (X8 [0,1,2,3,4,5,6,7,8,9,10,11,12,13,14,15,16] (by decide) J ((by rw [hse]; kernel_rfl)) (.c J (.c J (.c J (.c J (.c J (.c J (.nil)))))))) ?_
  refine zx (q_tl J J J J J J (by omega)) J ?_;refine Wz [41] ?_;refine AL.weak (Wk.tlend (p := 12) (i := 15) J J J hlu1) ?_;refine AL.weak (st' := (⟨_,[(1,.o (.c (.ptr 0 0))),(2,.o (.c (.ptr 1 0))),(3,.o (.c (.ptr 12 0))),(4,I (knownTicks x.Tracks : Nat)),(5,.o (.c (.ptr 16 0)))],[.box (pD x),.box zP,.row 1 (els x.Tracks),.row 1 (els x.Base.Level.Rows),.row 1 (els x.Base.Scores),.row 9 (els x.Base.Bodies),.row 1 (els x.Now.Level.Rows),.row 1 (els x.Now.Scores),.row 9 (els x.Now.Bodies),.row 1 (els x.Used),.row 2 (els x.Saves),.row 1 (els (conP x).Sums),.box (pX (conP x) (.ref 2) (.ref 13) (.ref 14) (.ref 15) (.ref 6) (.ref 7) (.ref 8) (sr ([] : List (List Int))) (.ref 10) (.ref 11)),.row 1 (els x.Now.Level.Rows),.row 1 (els x.Now.Scores),.row 9 (els x.Now.Bodies),.box [.ref 13,jn x.Now.Tick,jn x.Now.Seed,.ref 14,.ref 15]]⟩ : St)) (X8 [0,1,2,3,4,5,6,7,8,9,10,11,12,13,14,15,16] (by decide) J ((by kernel_rfl)) (.c J (.c J (.c J (.c J (.c J (.nil))))))) ?_;refine Wz [1,5] ?_;refine AL.weak (st' := (⟨_,[(1,.o (.c (.ptr 0 0))),(2,.o (.c (.ptr 1 0))),(3,.o (.c (.ptr 12 0))),(4,I (knownTicks x.Tracks : Nat)),(5,.o (.c (.ptr 16 0))),(60,.o (.c (.ref 10)))],[.box (pD x),.box zP,.row 1 (els x.Tracks),.row 1 (els x.Base.Level.Rows),.row 1 (els x.Base.Scores),.row 9 (els x.Base.Bodies),.row 1 (els x.Now.Level.Rows),.row 1 (els x.Now.Scores),.row 9 (els x.Now.Bodies),.row 1 (els x.Used),.row 2 (els x.Saves),.row 1 (els (conP x).Sums),.box (pX (conP x) (.ref 2) (.ref 13) (.ref 14) (.ref 15) (.ref 6) (.ref 7) (.ref 8) (sr ([] : List (List Int))) (.ref 10) (.ref 11)),.row 1 (els x.Now.Level.Rows),.row 1 (els x.Now.Scores),.row 9 (els x.Now.Bodies),.box [.ref 13,jn x.Now.Tick,jn x.Now.Seed,.ref 14,.ref 15]]⟩ : St)) (X8 [0,1,2,3,4,5,6,7,8,9,10,11,12,13,14,15,16] (by decide) J ((by kernel_rfl)) (.c J (.c J (.c J (.c J (.c J (.c J (.nil)))))))) ?_;refine zx (q_tl J J J J J J (by omega)) J ?_;refine Wz [41] ?_;refine AL.weak (Wk.tlend (p := 12) (i := 16) J J J hls1) ?_;refine AL.weak (st' := (⟨_,[(1,.o (.c (.ptr 0 0))),(2,.o (.c (.ptr 1 0))),(3,.o (.c (.ptr 12 0))),(4,I (knownTicks x.Tracks : Nat)),(5,.o (.c (.ptr 16 0)))],[.box (pD x),.box zP,.row 1 (els x.Tracks),.row 1 (els x.Base.Level.Rows),.row 1 (els x.Base.Scores),.row 9 (els x.Base.Bodies),.row 1 (els x.Now.Level.Rows),.row 1 (els x.Now.Scores),.row 9 (els x.Now.Bodies),.row 1 (els x.Used),.row 2 (els x.Saves),.row 1 (els (conP x).Sums),.box (pX (conP x) (.ref 2) (.ref 13) (.ref 14) (.ref 15) (.ref 6) (.ref 7) (.ref 8) (sr ([] : List (List Int))) (sr ([] : List TSave)) (.ref 11)),.row 1 (els x.Now.Level.Rows),.row 1 (els x.Now.Scores),.row 9 (els x.Now.Bodies),.box [.ref 13,jn x.Now.Tick,jn x.Now.Seed,.ref 14,.ref 15]]⟩ : St)) (X8 [0,1,2,3,4,5,6,7,8,9,10,11,12,13,14,15,16] (by decide) J ((by kernel_rfl)) (.c J (.c J (.c J (.c J (.c J (.nil))))))) ?_;refine Wz [1,5,12] ?_;refine zx (Zq (b := false) J J J J (by decide)) J ?_;refine Wz [45,90] ?_
  refine ⟨0,by omega,(⟨77,[(1,.o (.c (.ptr 0 0))),(2,.o (.c (.ptr 1 0))),(3,.o (.c (.ptr 10 0))),(4,I (knownTicks x.Tracks : Nat))],[.box (pD x),.box zP,.row 1 (els x.Tracks),.row 1 (els x.Now.Level.Rows),.row 1 (els x.Now.Scores),.row 9 (els x.Now.Bodies),.row 1 (els x.Now.Level.Rows),.row 1 (els x.Now.Scores),.row 9 (els x.Now.Bodies),.row 1 (els (conP x).Sums),.box (pX (conP x) (.ref 2) (.ref 3) (.ref 4) (.ref 5) (.ref 6) (.ref 7) (.ref 8) (sr ([] : List (List Int))) (sr ([] : List TSave)) (.ref 9))]⟩ : St),X7 [0,1,2,13,14,15,6,7,8,11,12] (by kernel_rfl),.inr ⟨J,J⟩⟩
 refine Wz [20,20] ?_;refine Xh u8_24 u8_25 u8_26 J ?_;refine Wz [140,33,140,33] ?_;refine DR.s (Qr J J J J (by assumption)) J J ?_;refine Wz [3,58,131,59,3,58,145,59,31,1] ?_
 refine AWP.pre (st' := (⟨_,[(2,.o (.c (.ptr 1 0))),(3,.o (.c (.ptr 10 0))),(38,B false)],[.box (pD x),.box zP,.row 1 (els x.Tracks),.row 1 (els x.Now.Level.Rows),.row 1 (els x.Now.Scores),.row 9 (els x.Now.Bodies),.row 1 (els x.Now.Level.Rows),.row 1 (els x.Now.Scores),.row 9 (els x.Now.Bodies),.row 1 (els (conP x).Sums),.box (pX (conP x) (.ref 2) (.ref 3) (.ref 4) (.ref 5) (.ref 6) (.ref 7) (.ref 8) (sr ([] : List (List Int))) (sr ([] : List TSave)) (.ref 9))]⟩ : St)) ?_ (X8 [0,1,2,3,4,5,6,7,8,9,10] (by decide) J ((by kernel_rfl)) (.c J (.c J (.c J (.nil)))))
 refine Wz [47,32,15] ?_;refine AL.weak (st' := (⟨_,[(2,.o (.c (.ptr 1 0))),(3,.o (.c (.ptr 10 0))),(76,.o (.ag (pX (conP x) (.ref 2) (.ref 3) (.ref 4) (.ref 5) (.ref 6) (.ref 7) (.ref 8) (sr ([] : List (List Int))) (sr ([] : List TSave)) (.ref 9))))],[.box (pD x),.box zP,.row 1 (els x.Tracks),.row 1 (els x.Now.Level.Rows),.row 1 (els x.Now.Scores),.row 9 (els x.Now.Bodies),.row 1 (els x.Now.Level.Rows),.row 1 (els x.Now.Scores),.row 9 (els x.Now.Bodies),.row 1 (els (conP x).Sums),.box (pX (conP x) (.ref 2) (.ref 3) (.ref 4) (.ref 5) (.ref 6) (.ref 7) (.ref 8) (sr ([] : List (List Int))) (sr ([] : List TSave)) (.ref 9))]⟩ : St)) (X8 [0,1,2,3,4,5,6,7,8,9,10] (by decide) J ((by kernel_rfl)) (.c J (.c J (.c J (.nil))))) ?_;refine Qy J J J J J J J J J ?_;refine AL.weak (st' := (⟨_,[(2,.o (.c (.ptr 1 0)))],[.box (pD x),.box (pX (conP x) (.ref 2) (.ref 3) (.ref 4) (.ref 5) (.ref 6) (.ref 7) (.ref 8) (sr ([] : List (List Int))) (sr ([] : List TSave)) (.ref 9)),.row 1 (els x.Tracks),.row 1 (els x.Now.Level.Rows),.row 1 (els x.Now.Scores),.row 9 (els x.Now.Bodies),.row 1 (els x.Now.Level.Rows),.row 1 (els x.Now.Scores),.row 9 (els x.Now.Bodies),.row 1 (els (conP x).Sums),.box (pX (conP x) (.ref 2) (.ref 3) (.ref 4) (.ref 5) (.ref 6) (.ref 7) (.ref 8) (sr ([] : List (List Int))) (sr ([] : List TSave)) (.ref 9))]⟩ : St)) (X8 [0,1,2,3,4,5,6,7,8,9,10] (by decide) J ((by kernel_rfl)) (.c J (.nil))) ?_;refine Wz [1,67] ?_
 exact Xl (cs := pX (conP x) (.ref 2) (.ref 3) (.ref 4) (.ref 5) (.ref 6) (.ref 7) (.ref 8) (sr ([] : List (List Int))) (sr ([] : List TSave)) (.ref 9)) J J J J (X6 [2,3,4,5,6,7,8,9] (by decide) J (by kernel_rfl) (by kernel_rfl))
end
end Go.Proofs.YtpmacgnmlmmojaaGreatDoor
