/-
  Parts of the proof (rules, data, and what functions of the program and of the reference return), among them: Nil checks of pointers to one's own memory; two branches that come to one state; A statement whose order Go leaves open, order by order: every operation that is ready is tried; plain moves are taken first.
  Conditions: those that each theorem names.
-/
import Derived.Test.YtbfhboakafjjgaaGreatDDReplRowk6
import Derived.Test.YtbfhboakafjjgaaGreatDDReplRowk10
import Derived.Test.YtbfhboakafjjgaaGreatDDReplRowk12
set_option linter.unusedSimpArgs false
set_option linter.unusedVariables false
namespace Go.Proofs.YtbfhboakafjjgaaGreat
section
open Go.RowKit

/-! ### Turning a piece into read-only data -/
def V1.fz (p : Nat) (t : T) : V1 → V1
 | .rd qs x => .rd (qs.filter fun q => !Nat.beq q p) x
 | .rp qs xs => .rp (qs.filter fun q => !Nat.beq q p) xs
 | .ref q => match Nat.beq q p with
  | true => .rd [] t
  | false => .ref q
 | .el q k i j => match Nat.beq q p with
  | true => .un
  | false => .el q k i j
 | .le q k i j => match Nat.beq q p with
  | true => .un
  | false => .le q k i j
 | .hd q n => match Nat.beq q p with
  | true => .un
  | false => .hd q n
 | .tl q k n => match Nat.beq q p with
  | true => .un
  | false => .tl q k n
 | .ptr q i => .ptr q i
 | .sb q n k => .sb q n k
 | .un => .un
section
variable {P : Program} {E : Env} {ops : Array Oper} {o : Oper} {st : St} {n : Nat} {rest : List Oper} {QQ : Exit → St → Prop} {w w' : World} {H H' : Hs} {F F' : Nat → Prop} {a : Act} {y z : Operand} {t t' : TypeId} {ps qs : List Nat} {i j : Int} {k : IntKind}
theorem R1.fz {p : Nat} {x t : T} {vv : Value} {fp : List Nat} (hp : H p = .ow x vv fp) (hro : RO w (fun b => F b ∨ b ∈ fp) t vv) {c : V1} {v : Value} (h : R1 w H F c v) : R1 w (H.put p .nil) (fun b => F b ∨ b ∈ fp) (c.fz p t) v := by
 have hbq : ∀ {q : Nat},q ≠ p → (!Nat.beq q p) = true := fun {q} hqp => by
  cases h : Nat.beq q p with
  | false => rfl
  | true => exact absurd (Nat.eq_of_beq_eq_true h) hqp
 have hin : ∀ (qs : List Nat) b,inP H F qs b → inP (H.put p .nil) (fun b => F b ∨ b ∈ fp) (qs.filter fun q => !Nat.beq q p) b := fun qs b hb => by
  rcases hb with hb | ⟨q,hq,x',v',fp',e,hb⟩
  ·exact .inl (.inl hb)
  ·by_cases hqp : q = p
   ·subst hqp
    rw [hp] at e
    simp only [Pc.ow.injEq] at e
    obtain ⟨_,_,rfl⟩ := e
    exact .inl (.inr hb)
   ·exact .inr ⟨q,List.mem_filter.2 ⟨hq,hbq hqp⟩,x',v',fp',by rw [Hs.put_ne _ _ hqp]; exact e,hb⟩
 have hne : ∀ {q : Nat},Nat.beq q p = false → (H.put p .nil) q = H q := fun hq => Hs.put_ne _ _ fun e => by
  subst e
  rw [show Nat.beq _ _ = true from Nat.beq_refl _] at hq
  cases hq
 have hbox : ∀ {q g : Nat} {t : TypeId} {vs : List Value},H q = .box g t vs → (H.put p .nil) q = H q := fun e => Hs.put_ne _ _ fun e2 => by
  subst e2
  rw [hp] at e
  cases e
 cases c with
 | rd qs x => exact RO.weak h fun b hb _ => hin qs b hb
 | rp qs xs =>
  obtain ⟨b,o,e,hb,hr⟩ := h
  exact ⟨b,o,e,hin qs b hb,fun j t hj => by obtain ⟨u,h1,h2⟩ := hr j t hj; exact ⟨u,h1,h2.weak fun b hb _ => hin qs b hb⟩⟩
 | ref q =>
  simp only [V1.fz]
  split
  ·rename_i hq
   have := Nat.eq_of_beq_eq_true hq
   subst this
   obtain ⟨x',fp',e⟩ := h
   rw [hp] at e
   simp only [Pc.ow.injEq] at e
   obtain ⟨_,rfl,_⟩ := e
   exact RO.weak hro fun b hb _ => .inl hb
  ·rename_i hq
   obtain ⟨x',fp',e⟩ := h
   exact ⟨x',fp',by rw [hne hq]; exact e⟩
 | el q k i j =>
  simp only [V1.fz]
  split
  ·trivial
  ·rename_i hq
   obtain ⟨b,o,n,c,x,fp,e,hv⟩ := h
   exact ⟨b,o,n,c,x,fp,by rw [hne hq]; exact e,hv⟩
 | le q k i j =>
  simp only [V1.fz]
  split
  ·trivial
  ·rename_i hq
   obtain ⟨b,o,n,c,x,fp,e,hv⟩ := h
   exact ⟨b,o,n,c,x,fp,by rw [hne hq]; exact e,hv⟩
 | hd q m =>
  simp only [V1.fz]
  split
  ·trivial
  ·rename_i hq
   obtain ⟨A,m',c,x,fp,e,hv⟩ := h
   exact ⟨A,m',c,x,fp,by rw [hne hq]; exact e,hv⟩
 | tl q k m =>
  simp only [V1.fz]
  split
  ·trivial
  ·rename_i hq
   obtain ⟨A,A',m',c,x,fp,e,hv⟩ := h
   exact ⟨A,A',m',c,x,fp,by rw [hne hq]; exact e,hv⟩
 | ptr q i => obtain ⟨g,t,vs,e,hv⟩ := h; exact ⟨g,t,vs,by rw [hbox e]; exact e,hv⟩
 | sb q i j => obtain ⟨g,t,vs,e,hv⟩ := h; exact ⟨g,t,vs,by rw [hbox e]; exact e,hv⟩
 | un => trivial
theorem Rel.freeze {p : Nat} {t : T} (hpw : ∀ w H F a,R0 w H F st a → ∃ x vv fp,H p = .ow x vv fp ∧ RO w (fun b => F b ∨ b ∈ fp) t vv) (h : Rel E st a w) : Rel E ⟨st.n,st.tmps.map fun e => (e.1,e.2.mapk (V1.fz p t)),(st.objs.map (Ob.mapk (V1.fz p t))).set p .gone⟩ a w := by
 obtain ⟨H,F,h1,h2⟩ := h
 obtain ⟨x,vv,fp,hp,hro⟩ := hpw w H F a h1
 have hne : ∀ q,q ≠ p → (H.put p .nil) q = H q := fun q hq => Hs.put_ne _ _ hq
 have hfp : ∀ b,b ∈ fp → b ∈ (H p).fp := fun b hb => by rw [hp]; exact hb
 have hsub : ∀ q b,b ∈ ((H.put p .nil) q).fp → q ≠ p ∧ b ∈ (H q).fp := fun q b hb => by
  by_cases e : q = p
  ·subst e
   rw [Hs.put_self] at hb
   simp [Pc.fp] at hb
  ·rw [hne q e] at hb
   exact ⟨e,hb⟩
 have hk : ∀ c v,R1 w H F c v → R1 w (H.put p .nil) (fun b => F b ∨ b ∈ fp) (c.fz p t) v := fun c v hc => R1.fz hp hro hc
 have hok : Ok w (H.put p .nil) (fun b => F b ∨ b ∈ fp) := by
  refine ⟨fun q => ?_,fun q => ?_,fun q r b hb hc => ?_,fun q b hb hc => ?_,fun b hb => ?_⟩
  ·by_cases e : q = p
   ·subst e; rw [Hs.put_self]; trivial
   ·rw [hne q e]; exact h1.ok.says q
  ·by_cases e : q = p
   ·subst e; rw [Hs.put_self]; exact List.nodup_nil
   ·rw [hne q e]; exact h1.ok.nodup q
  ·exact h1.ok.disj q r b (hsub q b hb).2 (hsub r b hc).2
  ·obtain ⟨hq,hb⟩ := hsub q b hb
   rcases hc with hc | hc
   ·exact h1.ok.free q b hb hc
   ·exact hq (h1.ok.disj q p b hb (hfp b hc))
  ·rcases hb with hb | hb
   ·exact h1.ok.flt b hb
   ·exact h1.ok.lt (hfp b hb)
 refine ⟨H.put p .nil,fun b => F b ∨ b ∈ fp,h1.mapkF (V1.fz p t) hk hok _ (fun q => ?_),h2.os,h2.tape,h2.output,h2.size,h2.keep,fun b hb => .inl (h2.fF b hb),fun b hb => ?_,fun q b hb => h2.org q b (hsub q b hb).2,fun q i v hq => ?_⟩
 ·have hpl : p < st.objs.length := by
   refine Nat.lt_of_not_le fun hge => ?_
   have h3 := h1.obs p
   rw [List.getD_eq_getElem?_getD,List.getElem?_eq_none hge] at h3
   have h4 : H p = .nil := h3
   rw [hp] at h4
   cases h4
  by_cases e : q = p
  ·subst e
   rw [List.getD_eq_getElem?_getD,List.getElem?_set_self (by simpa using hpl)]
   exact Hs.put_self _ _ _
  ·rw [List.getD_eq_getElem?_getD,List.getElem?_set_ne (Ne.symm e),List.getElem?_map]
   have h3 := h1.obs q
   rw [List.getD_eq_getElem?_getD] at h3
   cases ho : st.objs[q]? with
   | none => rw [ho] at h3; exact (hne q e).trans h3
   | some ob => rw [ho] at h3; exact RB.mapk hk (hne q e) h3
 ·rcases hb with hb | hb
  ·exact h2.fF' b hb
  ·rcases h2.org p b (hfp b hb) with h3 | h3
   ·exact .inr (.inr h3)
   ·exact .inr (.inl h3)
 ·by_cases e : q = p
  ·subst e; rw [Hs.put_self] at hq; cases hq
  ·rw [hne q e] at hq; exact h2.gh q i v hq
theorem row_ro {p kk : Nat} {es : List (List T)} (hp : st.objs[p]? = some (.row kk es)) : ∀ w H F a,R0 w H F st a → ∃ x vv fp,H p = .ow x vv fp ∧ RO w (fun b => F b ∨ b ∈ fp) (.sl kk es) vv := fun w H F a h => by
 obtain ⟨v,fp,e1,e2⟩ := h.ow hp
 exact ⟨_,_,_,e1,(OW.ro e2).weak fun b hb _ => .inr hb⟩
theorem shr_ro {p : Nat} {ts : List T} (hp : st.objs[p]? = some (.shr ts)) : ∀ w H F a,R0 w H F st a → ∃ x vv fp,H p = .ow x vv fp ∧ RO w (fun b => F b ∨ b ∈ fp) (.sl 1 (ts.map fun t => [t])) vv := fun w H F a h => by
 have h1 := h.obs p
 rw [Yx hp] at h1
 obtain ⟨us,v,fp,e,hl,hr⟩ := h1
 refine ⟨_,_,_,e,?_⟩
 have h2 := h.ok.says p
 rw [e] at h2
 have h3 := OW.ro h2
 obtain ⟨es0,hes0⟩ : ∃ es0,es0 = us.map fun u => [T.v u] := ⟨_,rfl⟩
 rw [← hes0] at h3
 cases h3 with
 | nil A _ c hm =>
  have hu0 : us = [] := List.map_eq_nil_iff.1 hes0.symm
  subst hu0
  have : ts = [] := List.length_eq_zero_iff.1 hl.symm
  subst this
  exact .nil _ _ _ hm
 | sl _ b o _ c val hF hc hm hp hk hv ht =>
  have hl2 : es0.length = (ts.map fun t => [t]).length := by simp [hes0,hl]
  rw [hl2]
  refine .sl (ts.map fun t => [t]) b o 1 c val (.inr hF) (by rw [← hl2]; exact hc) hm (by omega) (fun e he => by obtain ⟨t,_,rfl⟩ := List.mem_map.1 he; rfl) (fun i j hi hj => hv i j (by rw [hl2]; exact hi) hj) fun i j e t h4 h5 => ?_
  rw [List.getElem?_map,Option.map_eq_some_iff] at h4
  obtain ⟨t',h6,rfl⟩ := h4
  cases j with
  | succ j => simp at h5
  | zero =>
   simp only [List.getElem?_cons_zero,Option.some.injEq] at h5
   subst h5
   have hi : i < us.length := by rw [hl]; exact Yy h6
   have h7 : us[i]? = some us[i] := List.getElem?_eq_getElem hi
   have h8 := ht i 0 [T.v us[i]] (T.v us[i]) (by rw [hes0,List.getElem?_map,h7]; rfl) rfl
   obtain ⟨h9,_⟩ := RO.plain h8
   rw [h9]
   exact (hr i _ _ h6 h7).weak fun b hb _ => by
    rcases hb with hb | ⟨q,hq,_⟩
    ·exact .inl hb
    ·cases hq
theorem AWP.freeze {c : Code} {p kk : Nat} {es : List (List T)} (hp : st.objs[p]? = some (.row kk es)) (h : AWP P E c QQ ⟨st.n,st.tmps.map fun e => (e.1,e.2.mapk (V1.fz p (.sl kk es))),(st.objs.map (Ob.mapk (V1.fz p (.sl kk es)))).set p .gone⟩) : AWP P E c QQ st := ⟨fun a w hr => h.h a w (hr.freeze (row_ro hp))⟩
theorem AWP.freezeS {c : Code} {p : Nat} {ts : List T} (hp : st.objs[p]? = some (.shr ts)) (h : AWP P E c QQ ⟨st.n,st.tmps.map fun e => (e.1,e.2.mapk (V1.fz p (.sl 1 (ts.map fun t => [t])))),(st.objs.map (Ob.mapk (V1.fz p (.sl 1 (ts.map fun t => [t]))))).set p .gone⟩) : AWP P E c QQ st := ⟨fun a w hr => h.h a w (hr.freeze (shr_ro hp))⟩
theorem AL.freeze {p kk : Nat} {es : List (List T)} (hp : st.objs[p]? = some (.row kk es)) (h : AL P E ops QQ rest ⟨st.n,st.tmps.map fun e => (e.1,e.2.mapk (V1.fz p (.sl kk es))),(st.objs.map (Ob.mapk (V1.fz p (.sl kk es)))).set p .gone⟩) : AL P E ops QQ rest st := ⟨fun a w hr => h.h a w (hr.freeze (row_ro hp))⟩
/-! ### Shared rows -/
theorem Wk.toshr {p : Nat} (hp : st.objs[p]? = some (.row 1 [])) : Wk st ⟨st.n,st.tmps,st.objs.set p (.shr [])⟩ := fun w H F a h => by
 refine ⟨H,⟨h.ok,fun q => ?_,h.tmp,h.size,h.defers⟩,fun q b hb => ⟨q,hb⟩,fun q i v hq => ⟨q,hq⟩⟩
 show RB w H F q ((st.objs.set p (.shr [])).getD q .gone)
 by_cases e : q = p
 ·subst e
  rw [List.getD_eq_getElem?_getD,List.getElem?_set_self (Yy hp)]
  have h1 := h.obs q
  rw [Yx hp] at h1
  obtain ⟨v,fp,e⟩ := h1
  exact ⟨[],v,fp,e,J,fun i t u h2 _ => by simp at h2⟩
 ·rw [List.getD_eq_getElem?_getD,List.getElem?_set_ne (Ne.symm e),← List.getD_eq_getElem?_getD]
  exact h.obs q
theorem L_appshr {p m : Nat} {t0 : T} {ts : List T} {e : TypeId} {z0 : Value} {by_ : Nat} [hm : TyMake P t e [z0] by_] (ho : o.op = .call { callee := .builtin .append,args := #[y,z],argTypes := #[t,t] }) (hg : o.guard = none) (hy : st.ev y = .o (.c (.ref p))) (hp : st.objs[p]? = some (.shr ts)) (hz : st.ev z = .o (.c (.sb m 1 1))) (hx : st.objs[m]? = some (.box [.rd [] t0]))
  (hb : (ts.length + 1) * by_ ≤ 140737488355328) (h63 : ts.length + 1 ≤ 9223372036854775807)
  (hd : dstOk st.n o.dst = true) (h : AL P E ops QQ rest ⟨st.n,setT (st.tmps.map fun e => (e.1,e.2.kill [p])) o.dst (.o (.c (.ref p))),(st.objs.map (Ob.kill [p])).set p (.shr (ts ++ [t0]))⟩) : AL P E ops QQ (o :: rest) st := by
 refine ⟨fun a w ⟨H,F,h1,h2⟩ => ?_⟩
 have ho1 := h1.obs p
 rw [Yx hp] at ho1
 obtain ⟨us,v,fp,e1,hul,hur⟩ := ho1
 have e2 := h1.ok.says p
 rw [e1] at e2
 obtain ⟨x',fp',e3⟩ := h1.v1 hy
 rw [e1] at e3
 simp only [Pc.ow.injEq] at e3
 obtain ⟨_,hv,_⟩ := e3
 have hnd := h1.ok.nodup p
 rw [e1] at hnd
 have ho2 := h1.obs m
 rw [Yx hx] at ho2
 obtain ⟨g,tg,vs,f1,f2,f3⟩ := ho2
 obtain ⟨g',tg',vs',k1,k2,k3,k4⟩ := h1.v1 hz
 rw [f1] at k1
 simp only [Pc.box.injEq] at k1
 obtain ⟨rfl,rfl,rfl⟩ := k1
 obtain ⟨u,rfl⟩ : ∃ u,vs = [u] := by
  cases vs with
  | nil => simp at f2
  | cons u vs => cases vs with
   | nil => exact ⟨u,rfl⟩
   | cons u' vs => simp at f2
 obtain ⟨hu1,hu2⟩ := f3 0 _ _ rfl rfl
 have hsay := h1.ok.says m
 rw [f1] at hsay
 have hcell : w.cell? ⟨g,0,none⟩ = some u := by
  rw [cell_of_row w g _ [u].toArray tg (0,0) hsay]
  rfl
 have hpl : plainT [[T.v u]] := fun e he t ht => by
  rw [List.mem_singleton] at he
  subst he
  rw [List.mem_singleton] at ht
  exact ⟨u,ht⟩
 have hsrc : Src P 1 t (a.eval z) 1 (flatV (plainV' [[T.v u]]) 1 1) w := by
  rw [k4]
  refine src_slice (zs := [z0]) [[T.v u]] (plainV' [[T.v u]]) (some ⟨g,0,none⟩) 1 (fun _ => ⟨g,0,J,fun i j hi hj => ?_⟩) fun i j hi hj => ?_
  ·have hi0 : i = 0 := by simp at hi; omega
   have hj0 : j = 0 := by simp at hj; omega
   subst hi0 hj0
   exact hcell
  ·have hi0 : i = 0 := by simp at hi; omega
   have hj0 : j = 0 := by simp at hj; omega
   subst hi0 hj0
   exact hu2
 obtain ⟨v',w',fp'',hr,h3,h4,h5,h6⟩ := append_src (P := P) (o := o) (t := t) (zs := [z0]) (es := us.map fun u => [T.v u]) (es' := [[T.v u]]) e2 hnd rfl (by simp) hsrc hpl (fun e he => by rw [List.mem_singleton] at he; subst he; rfl) (by simpa [hul] using hb) (by simpa [hul] using h63)
 obtain ⟨hok,htn⟩ := h1.ok.turn (p := p) (fp := fp) (by rw [e1]; rfl) h6 (.ow (.sl 1 ((us.map fun u => [T.v u]) ++ [[T.v u]])) v' fp'') h3 h4 trivial h5
 have hplt := Yy hp
 have hR := h1.turn htn hok ((st.objs.map (Ob.kill [p])).set p (.shr (ts ++ [t0]))) (fun q hq => ?_) (fun q hq => ?_)
 ·have hR2 := hR.put (x := .o (.c (.ref p))) o.dst hd (v := v') ⟨_,_,Hs.put_self _ _ _⟩
  refine wpList_step fun K hK => ?_
  rw [if_pos (by unfold Region.wanted; rw [hg])]
  unfold Oper.wp
  rw [Yu ho (by rw [← hv]; exact hr)]
  exact hK _ _ (h.h _ _ ⟨_,F,hR2,h2.turn htn⟩)
 ·have hqp : q ≠ p := by simpa using hq
  rw [List.getD_eq_getElem?_getD,List.getElem?_set_ne (Ne.symm hqp),List.getElem?_map,List.getD_eq_getElem?_getD]
  cases st.objs[q]? <;> rfl
 ·have hqp : q = p := by simpa using hq
  subst hqp
  rw [Yx (x := .shr (ts ++ [t0])) (by simp [hplt])]
  refine ⟨us ++ [u],v',fp'',by rw [List.map_append]; exact Hs.put_self _ _ _,by simp [hul],fun i t u' hi hu' => ?_⟩
  rw [List.getElem?_append] at hi hu'
  split at hi
  ·rename_i hlt
   rw [if_pos (by omega)] at hu'
   exact R1.turn h1.ok htn (x := .rd [] t) J (hur i t u' hi hu')
  ·rename_i hlt
   rw [if_neg (by omega)] at hu'
   have h7 : i = ts.length := by have := Yy hi; simp at this; omega
   subst h7
   rw [hul] at hu'
   simp only [Nat.sub_self,List.getElem?_cons_zero,Option.some.injEq] at hi hu'
   subst hi hu'
   exact R1.turn h1.ok htn (x := .rd [] _) J hu1
/-! ### Arithmetic that may wrap around -/
theorem q_addW (ho : o.op = .binOp .add t y z t') (hg : o.guard = none) (hy : st.ev y = .o (.c (.rd ps (.v (.int .i64 i))))) (hz : st.ev z = .o (.c (.rd qs (.v (.int .i64 j))))) : Qt P ops o st (I (IntKind.i64.wrap (i + j))) [] n :=
 Zh ho hg hy hz fun w => by simp [binOp,Op.intArith]
theorem q_mulW (ho : o.op = .binOp .mul t y z t') (hg : o.guard = none) (hy : st.ev y = .o (.c (.rd ps (.v (.int .i64 i))))) (hz : st.ev z = .o (.c (.rd qs (.v (.int .i64 j))))) : Qt P ops o st (I (IntKind.i64.wrap (i * j))) [] n :=
 Zh ho hg hy hz fun w => by simp [binOp,Op.intArith]
def xorI (i j : Int) : Int := IntKind.i64.wrap (((BitVec.ofInt 64 i) ^^^ (BitVec.ofInt 64 j)).toNat : Nat)
def andI (i j : Int) : Int := IntKind.i64.wrap (((BitVec.ofInt 64 i) &&& (BitVec.ofInt 64 j)).toNat : Nat)
theorem q_xorW (ho : o.op = .binOp .xor t y z t') (hg : o.guard = none) (hy : st.ev y = .o (.c (.rd ps (.v (.int .i64 i))))) (hz : st.ev z = .o (.c (.rd qs (.v (.int .i64 j))))) : Qt P ops o st (I (xorI i j)) [] n :=
 Zh ho hg hy hz fun w => by
  simp only [binOp,Op.intBits]
  rfl
theorem q_andW (ho : o.op = .binOp .and t y z t') (hg : o.guard = none) (hy : st.ev y = .o (.c (.rd ps (.v (.int .i64 i))))) (hz : st.ev z = .o (.c (.rd qs (.v (.int .i64 j))))) : Qt P ops o st (I (andI i j)) [] n :=
 Zh ho hg hy hz fun w => by
  simp only [binOp,Op.intBits]
  rfl
theorem q_shrW {k' : IntKind} (ho : o.op = .binOp .shr t y z t') (hg : o.guard = none) (hy : st.ev y = .o (.c (.rd ps (.v (.int k i))))) (hz : st.ev z = .o (.c (.rd qs (.v (.int k' j))))) (h0 : 0 ≤ j ∧ j ≤ k.bits) : Qt P ops o st (VI k (i.fdiv (2 ^ j.toNat))) [] n :=
 .pure hg fun a w H F hr => ⟨.int k (i.fdiv (2 ^ j.toNat)),by
  have h1 := hr.plain hy
  have h2 := hr.plain hz
  have h3 : ¬ j < 0 := by omega
  have h4 : min j.toNat k.bits = j.toNat := by omega
  simp [execOp,ho,h1,h2,eqGuard,binOp,Op.shift,h3,h4],plainV _ rfl⟩
theorem andI_rng {i j : Int} (hj : 0 ≤ j ∧ j ≤ 4611686018427387904) : 0 ≤ andI i j ∧ andI i j ≤ j := by
 have h2 : (BitVec.ofInt 64 j).toNat = j.toNat := bits_in (m := 64) ⟨by omega,by omega⟩
 have h3 : ((BitVec.ofInt 64 i) &&& (BitVec.ofInt 64 j)).toNat ≤ j.toNat := by rw [BitVec.toNat_and,h2]; exact Nat.and_le_right
 unfold andI
 rw [Kp (by omega)]
 omega
end
end
section
open Go.RowKit

section
variable {P : Program} {E : Env} {ops : Array Oper} {o : Oper} {st : St} {n : Nat} {y : Operand}
theorem Qz {p i : Nat} (ho : o.op = .nilCheck y) (hg : o.guard = none) (hy : st.ev y = .o (.c (.ptr p i))) : Qt P ops o st (.o (.c (.ptr p i))) [] n :=
 .pure hg fun a w H F hr => by
  obtain ⟨g,tt,vs,e1,e2⟩ := hr.v1 hy
  exact ⟨.pointer (some ⟨g,i,none⟩),by simp [execOp,ho,e2],g,tt,vs,e1,J⟩
theorem q_nile {p k i j : Nat} (ho : o.op = .nilCheck y) (hg : o.guard = none) (hy : st.ev y = .o (.c (.el p k i j))) : Qt P ops o st (.o (.c (.el p k i j))) [] n :=
 .pure hg fun a w H F hr => by
  obtain ⟨b,o',m',c,x,fp,e1,e2⟩ := hr.v1 hy
  exact ⟨.pointer (some ⟨b,o' + i * k + j,none⟩),by simp [execOp,ho,e2],b,o',m',c,x,fp,e1,J⟩
end
structure Mid (st' : St) (e : Exit) (st : St) : Prop where
 h : e = .normal ∧ Wk st st'
section
variable {P : Program} {E : Env} {st st' : St}
theorem Mid.n (h : Wk st st') : Mid st' .normal st := ⟨rfl,h⟩
theorem A_join {c d : Code} {Q Q' : Exit → St → Prop} (st' : St) (h1 : AWP P E c (Mid st') st) (h2 : AWP P E d Q' st') : AWP P E c (thn (AWP P E d Q') Q) st :=
 AWP.mono (fun e s h => by obtain ⟨rfl,hw⟩ := h.h; exact ⟨AWP.weak hw h2⟩) h1
end
end
section
open Go.RowKit

section
variable {P : Program} {E : Env} {l : List Oper} {Q : Exit → St → Prop} {st : St} {a : Act} {w : World}
structure DAL (P : Program) (E : Env) (l : List Oper) (Q : Exit → St → Prop) (f : Nat) (listed : Array Bool) (st : St) : Prop where
 h : ∀ a w,Rel E st a w → wpAny P .any l.toArray (fun e a' w' => ∃ st',Q e st' ∧ Rel E st' a' w') f listed a w
theorem wpop_of {K : St → Prop} {K' : Act → World → Prop} {i : Nat} {o : Oper} (h : wpList P l.toArray (fun e a' w' => ∃ st',thn K Q e st' ∧ Rel E st' a' w') [o] a w) (hi : l[i]? = some o) (hK : ∀ st a' w',K st → Rel E st a' w' → K' a' w') :
  wpOp P l.toArray (fun e a' w' => ∃ st',Q e st' ∧ Rel E st' a' w') i K' a w := by
 have hoi : l.toArray[i]? = some o := by simpa using hi
 unfold wpOp
 simp only [hoi]
 have hn : ∀ a' w',wpList P l.toArray (fun e a' w' => ∃ st',thn K Q e st' ∧ Rel E st' a' w') [] a' w' → K' a' w' := fun a' w' h' => by
  obtain ⟨st',h1,h2⟩ := h'
  exact hK st' a' w' h1.h h2
 unfold wpList at h
 split
 ·rename_i hw
  rw [if_pos hw] at h
  rcases h with h | ⟨h,a1,w1,st1,h1,h2⟩
  ·left
   unfold Oper.wp at h ⊢
   generalize (execOp a.eval o).run P w = r at h ⊢
   cases r with
   | ok n w' =>
    cases n <;> simp only [Oper.upon] at h ⊢ <;>
     first
      | exact hn _ _ h
      | exact Calls.mono h (fun e w'' he => by
        cases e
        ·exact hn _ _ he
        ·obtain ⟨st',h1,h2⟩ := he; exact ⟨st',h1.h,h2⟩
        ·obtain ⟨a1,w1,st',h1,h2⟩ := he; exact ⟨a1,w1,st',h1.h,h2⟩)
      | exact Rows.mono h (fun _ _ he => hn _ _ he)
   | halt x w' =>
    cases x <;> simp only [Oper.upon] at h ⊢ <;>
     first
      | exact h
      | (obtain ⟨st',h1,h2⟩ := h; exact ⟨st',h1.h,h2⟩)
      | (obtain ⟨a1,w1,st',h1,h2⟩ := h; exact ⟨a1,w1,st',h1.h,h2⟩)
  ·exact .inr ⟨h,a1,w1,st1,h1.h,h2⟩
 ·rename_i hw
  rw [if_neg hw] at h
  exact hn _ _ h
theorem DAL.nil {listed : Array Bool} (hr : Region.ready .any l.toArray listed = []) (h : Q .normal st) : DAL P E l Q 0 listed st := ⟨fun a w hR => ⟨hr,st,h,hR⟩⟩
theorem DAL.weak {f : Nat} {listed : Array Bool} {st' : St} (hw : Wk st st') (h : DAL P E l Q f listed st') : DAL P E l Q f listed st := ⟨fun a w hr => h.h a w (hr.weak hw)⟩
theorem DAL.one {f : Nat} {listed : Array Bool} (i : Nat) {o : Oper} (hr : Region.ready .any l.toArray listed = [i]) (ho : l[i]? = some o) (h : AL P E l.toArray (thn (DAL P E l Q f (listed.setIfInBounds i true)) Q) [o] st) : DAL P E l Q (f + 1) listed st :=
 ⟨fun a w hR => ⟨fun e => (List.cons_ne_nil _ _ (hr.symm.trans e)).elim,fun j hj => by
  rw [hr,List.mem_singleton] at hj
  subst hj
  exact wpop_of (h.h a w hR) ho fun st' a' w' h1 h2 => h1.h a' w' h2⟩⟩
theorem DAL.two {f : Nat} {listed : Array Bool} (i k : Nat) {o p : Oper} (hr : Region.ready .any l.toArray listed = [i,k]) (ho : l[i]? = some o) (hp : l[k]? = some p) (h : AL P E l.toArray (thn (DAL P E l Q f (listed.setIfInBounds i true)) Q) [o] st) (h2 : AL P E l.toArray (thn (DAL P E l Q f (listed.setIfInBounds k true)) Q) [p] st) : DAL P E l Q (f + 1) listed st :=
 ⟨fun a w hR => ⟨fun e => (List.cons_ne_nil _ _ (hr.symm.trans e)).elim,fun j hj => by
  rw [hr] at hj
  simp only [List.mem_cons,List.not_mem_nil,or_false] at hj
  rcases hj with rfl | rfl
  ·exact wpop_of (h.h a w hR) ho fun st' a' w' h1 h2 => h1.h a' w' h2
  ·exact wpop_of (h2.h a w hR) hp fun st' a' w' h1 h2 => h1.h a' w' h2⟩⟩
def src2 : Op → Option Nat
 | .fieldAddr _ (.tmp t) _ => some t
 | o => srcO o
theorem src2_exec {o : Oper} {t : Nat} (h : src2 o.op = some t) : ∀ r r' : Operand → Value,r (.tmp t) = r' (.tmp t) → execOp r o = execOp r' o := fun r r' e => by
 unfold src2 at h
 split at h
 ·rename_i ho
  cases h
  simp only [execOp,ho,e]
 ·exact srcO_exec h r r' e
def late2 (ops : List Oper) (A : List (List Nat)) (m : Nat) : Bool := match ops[m]? with
 | some o => match src2 o.op,o.dst with
  | some t,some d => o.guard.isNone && !Nat.beq t d && allB ops.length fun j => Nat.beq j m || match ops[j]? with
   | some oj => oj.guard.isNone && (oj.dst != some t || memN (A.getD m []) j) && oj.dst != some d && (memN (A.getD j []) m || blindO d oj.op)
   | none => true
  | _,_ => false
 | none => false
theorem late2_spec {A : List (List Nat)} {m : Nat} (h : late2 l A m = true) : ∃ o t d,l[m]? = some o ∧ src2 o.op = some t ∧ o.dst = some d ∧ o.guard = none ∧ t ≠ d ∧
  ∀ j oj,j ≠ m → l[j]? = some oj → oj.guard = none ∧ (oj.dst ≠ some t ∨ j ∈ A.getD m []) ∧ oj.dst ≠ some d ∧ (m ∈ A.getD j [] ∨ blindO d oj.op = true) := by
 unfold late2 at h
 split at h
 ·rename_i o hl
  split at h
  ·rename_i t d ho hd
   simp only [Bool.and_eq_true] at h
   obtain ⟨⟨h1,h3⟩,h4⟩ := h
   refine ⟨o,t,d,hl,ho,hd,by simpa using h1,fun e => ?_,fun j oj hj hoj => ?_⟩
   ·subst e
    rw [show Nat.beq t t = true from Nat.beq_refl t] at h3
    cases h3
   ·have h5 := X8 h4 (Yy hoj)
    rw [hoj,Bool.or_eq_true] at h5
    rcases h5 with h5 | h5
    ·exact absurd (Nat.eq_of_beq_eq_true h5) hj
    ·simp only [Bool.and_eq_true] at h5
     obtain ⟨⟨⟨h6,h7⟩,h8⟩,h9⟩ := h5
     refine ⟨by simpa using h6,?_,by simpa using h8,?_⟩
     ·rw [Bool.or_eq_true] at h7
      exact h7.imp (fun h => by simpa using h) (Y8 _ _).1
     ·rw [Bool.or_eq_true] at h9
      exact h9.imp (Y8 _ _).1 id
  ·cases h
 ·cases h
def cloB (l : List Oper) (listed : Array Bool) : Bool := allB l.length fun i => !listed.getD i false || (preAt l i).all fun k => listed.getD k false
def hoB (l : List Oper) (A S M : List (List Nat)) (m : Nat) (listed : Array Bool) : Bool :=
 drawB l A S M l.length && late2 l A m && cloB l listed && !listed.getD m false && ((preAt l m).all fun k => listed.getD k false) && Nat.beq listed.size l.length
theorem DAL.hoist [hnp : NP Q] {f : Nat} {listed : Array Bool} {A S M : List (List Nat)} {m t d : Nat} {n : Nat} {ts : List (Nat × V)} {obs : List Ob} {o : Oper} {x : V} (hc : hoB l A S M m listed = true) (ho : l[m]? = some o) (hs : src2 o.op = some t) (hdd : o.dst = some d) (hd : Nat.blt d n = true)
  (hx : ∀ a w H F,R0 w H F ⟨n,ts,obs⟩ a → ∃ u,(∀ w2,(execOp a.eval o).run P w2 = .ok (.value u) w2) ∧ RV w H F x u)
  (h : DAL P E l Q f (listed.setIfInBounds m true) ⟨n,(d,x) :: ts,obs⟩) : DAL P E l Q (f + 1) listed ⟨n,ts,obs⟩ := by
 unfold hoB at hc
 simp only [Bool.and_eq_true] at hc
 obtain ⟨⟨⟨⟨⟨c1,c2⟩,c3⟩,c4⟩,c5⟩,c6⟩ := hc
 have hk := drawB_spec c1
 obtain ⟨o',t0,d0,l1,l2,l3,l4,l5,l6⟩ := late2_spec c2
 rw [ho] at l1
 cases l1
 rw [hs] at l2
 cases l2
 rw [hdd] at l3
 cases l3
 have hsz : listed.size = l.length := Nat.eq_of_beq_eq_true c6
 have hcl : Clo l listed := fun i hi k hkk => by
  have hi' : i < l.length := by
   rw [← hsz]
   unfold Lst at hi
   refine Nat.lt_of_not_le fun hge => ?_
   rw [Array.getD_eq_getD_getElem?,Array.getElem?_eq_none hge] at hi
   cases hi
  have h1 := X8 c3 hi'
  rw [show listed.getD i false = true from hi] at h1
  rw [Bool.not_true,Bool.false_or] at h1
  exact List.all_eq_true.1 h1 k hkk
 refine ⟨fun a w hR => ?_⟩
 obtain ⟨H,F,h1,h2⟩ := hR
 obtain ⟨u,hu,hv⟩ := hx a w H F h1
 refine Go.Proofs.YtbfhboakafjjgaaGreat.hoist hk ho (src2_exec hs) hdd l4 l6 (fun c a w ⟨st',hq,_⟩ => hnp.no c st' hq) f listed a w u hu hsz hcl (fun hh => ?_) (fun k hkk => List.all_eq_true.1 c5 k hkk) ?_
 ·rw [show listed.getD m false = true from hh] at c4
  cases c4
 ·refine h.h _ w ⟨H,F,?_,h2⟩
  exact h1.put (x := x) (some d) (by simpa [dstOk] using hd) hv
theorem DAL.mv [hnp : NP Q] {f : Nat} {listed : Array Bool} (A S M : List (List Nat)) (m t d : Nat) {n : Nat} {ts : List (Nat × V)} {obs : List Ob} {o : Oper} (hc : hoB l A S M m listed = true) (ho : l[m]? = some o) (hop : o.op = .move (.tmp t)) (hdd : o.dst = some d) (hd : Nat.blt d n = true) (h : DAL P E l Q f (listed.setIfInBounds m true) ⟨n,(d,look ts t) :: ts,obs⟩) : DAL P E l Q (f + 1) listed ⟨n,ts,obs⟩ :=
 DAL.hoist hc ho (by rw [hop]; rfl) hdd hd (fun a w H F hR => ⟨a.eval (.tmp t),fun w2 => by simp [execOp,hop],hR.tmp t⟩) h
theorem DAL.fld [hnp : NP Q] {f : Nat} {listed : Array Bool} (A S M : List (List Nat)) (m t d : Nat) {n : Nat} {ts : List (Nat × V)} {obs : List Ob} {o : Oper} {ty : TypeId} {p q ff off sz : Nat} {pl : List (Nat × Nat)} [hpl : TyPl P ty pl] (hc : hoB l A S M m listed = true) (ho : l[m]? = some o) (hop : o.op = .fieldAddr ty (.tmp t) ff) (hdd : o.dst = some d) (hd : Nat.blt d n = true) (hy : look ts t = .o (.c (.ptr p q))) (hf : pl[ff]? = some (off,sz)) (hsz : sz ≠ 0) (h : DAL P E l Q f (listed.setIfInBounds m true) ⟨n,(d,.o (.c (.ptr p (q + off)))) :: ts,obs⟩) : DAL P E l Q (f + 1) listed ⟨n,ts,obs⟩ :=
 DAL.hoist hc ho (by rw [hop]; rfl) hdd hd (fun a w H F hR => by
  obtain ⟨g,tt,vs,e1,e2⟩ := hR.v1 (y := .tmp t) hy
  refine ⟨.pointer (some ⟨g,q + off,none⟩),fun w2 => ?_,g,tt,vs,e1,J⟩
  simp only [execOp,hop,e2,Sem.run_bind,run_fieldAt (P := P) (w := w2) ty g q ff hf hsz,Result.andThen_ok]
  rfl) h
theorem DAL.three {f : Nat} {listed : Array Bool} (i k m : Nat) {o p r : Oper} (hr : Region.ready .any l.toArray listed = [i,k,m]) (ho : l[i]? = some o) (hp : l[k]? = some p) (hq : l[m]? = some r) (h : AL P E l.toArray (thn (DAL P E l Q f (listed.setIfInBounds i true)) Q) [o] st) (h2 : AL P E l.toArray (thn (DAL P E l Q f (listed.setIfInBounds k true)) Q) [p] st) (h3 : AL P E l.toArray (thn (DAL P E l Q f (listed.setIfInBounds m true)) Q) [r] st) : DAL P E l Q (f + 1) listed st :=
 ⟨fun a w hR => ⟨fun e => (List.cons_ne_nil _ _ (hr.symm.trans e)).elim,fun j hj => by
  rw [hr] at hj
  simp only [List.mem_cons,List.not_mem_nil,or_false] at hj
  rcases hj with rfl | rfl | rfl
  ·exact wpop_of (h.h a w hR) ho fun st' a' w' h1 h2 => h1.h a' w' h2
  ·exact wpop_of (h2.h a w hR) hp fun st' a' w' h1 h2 => h1.h a' w' h2
  ·exact wpop_of (h3.h a w hR) hq fun st' a' w' h1 h2 => h1.h a' w' h2⟩⟩
theorem DAL.ext [hnp : NP Q] {f : Nat} {listed : Array Bool} (A S M : List (List Nat)) (m t d : Nat) {n : Nat} {ts : List (Nat × V)} {obs : List Ob} {o : Oper} {i : Nat} {xs : List V2} {y : V2} (hc : hoB l A S M m listed = true) (ho : l[m]? = some o) (hop : o.op = .extract (.tmp t) i) (hdd : o.dst = some d) (hd : Nat.blt d n = true) (hy : look ts t = .tu xs) (hi : xs[i]? = some y) (h : DAL P E l Q f (listed.setIfInBounds m true) ⟨n,(d,.o y) :: ts,obs⟩) : DAL P E l Q (f + 1) listed ⟨n,ts,obs⟩ :=
 DAL.hoist hc ho (by rw [hop]; rfl) hdd hd (fun a w H F hR => by
  have h1 := hR.tmp t
  rw [show look (St.tmps ⟨n,ts,obs⟩) t = .tu xs from hy] at h1
  obtain ⟨us,e,hl,hr⟩ := h1
  have hlt : i < us.length := by rw [hl]; exact Yy hi
  refine ⟨us[i],fun w2 => ?_,hr i y _ hi (List.getElem?_eq_getElem hlt)⟩
  have e2 : a.eval (.tmp t) = .tuple us.toArray := e
  simp [execOp,hop,Instr.extract,e2,hlt]) h
theorem A_seqW {x y : Code} {st : St} (st0 : St) (hx : AWP P E x (thn (fun st => Wk st st0) Q) st) (hy : AWP P E y Q st0) : AWP P E x (thn (AWP P E y Q) Q) st := AWP.mono (fun e st h => by
 have h1 := h.h
 refine ⟨?_⟩
 cases e with
 | normal => exact AWP.weak h1 hy
 | _ => exact h1) hx
theorem A_drawn {id : Nat} {f : Nat} (hm : P.follows .mixedOrders = true) (hf : f = l.length) (h : DAL P E l Q f (Array.replicate f false) st) : AWP P E (.region id l.toArray true) Q st := by
 refine ⟨fun a w ⟨H,F,hr,hsi⟩ => wp_region_any hm ?_⟩
 have hgr : Grow w H F { w with drawn := w.drawn + 1 } H F := ⟨(Below.refl _ _).drew,fun _ _ => rfl,fun _ h => h,fun _ h => .inl h,fun p hp b hb => by rw [hp] at hb; simp [Pc.fp] at hb,fun p i v h => ⟨p,h⟩⟩
 have hok : Ok { w with drawn := w.drawn + 1 } H F := ⟨fun p => Pc.frame (w := w) (fun _ _ => rfl) (hr.ok.says p),hr.ok.nodup,hr.ok.disj,hr.ok.free,hr.ok.flt⟩
 have hR : R0 { w with drawn := w.drawn + 1 } H F st a := ⟨hok,fun p => rb_grow hgr (fun h => h) (hr.obs p),fun d => hgr.rv (hr.tmp d),hr.size,hr.defers⟩
 have := h.h a { w with drawn := w.drawn + 1 } ⟨H,F,hR,hsi.grow hgr⟩
 subst hf
 simpa using this
end
end
end Go.Proofs.YtbfhboakafjjgaaGreat
