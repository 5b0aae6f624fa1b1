/-
  Parts of the proof (rules, data, and what functions of the program and of the reference return), among them: The cursor of a draw: bytes, mixed with numbers that follow from them (l01New, l01Byte, l01Below, l01PickInt of the reference); Drawn inputs and rows of inputs (l02Input, l02Row, l02Rows of the reference).
  Conditions: those that each theorem names.
-/
import Derived.Test.YtcjclaoogdblbaaDoorDDPtRowk7
import Derived.Test.YtcjclaoogdblbaaDoorDDPtRowk11
import Derived.Test.YtcjclaoogdblbaaDoorDDPtRowk13
import Derived.Test.YtcjclaoogdblbaaDoorDDPtRowk14
import Derived.Test.YtcjclaoogdblbaaDoorDDPtRowk17
import Derived.Test.YtcjclaoogdblbaaDoorDDPtRowk18
import Derived.Test.YtcjclaoogdblbaaDoorDDPtRowk19
set_option linter.unusedSimpArgs false
set_option linter.unusedVariables false
set_option maxRecDepth 8000
set_option maxHeartbeats 8000000
namespace Go.Proofs.YtcjclaoogdblbaaDoor
section
open Go.RowKit

/-! ### Turning a piece into read-only data -/
def V1.fz (p : Nat) (t : T) : V1 → V1
 | .rd qs x => .rd (qs.filter fun q => !Nat.beq q p) x
 | .rp qs xs => .rp (qs.filter fun q => !Nat.beq q p) xs
 | .ref q => match Nat.beq q p with
  | true => .rd [] t
  | false => .ref q
 | .el q k i j => match Nat.beq q p with
  | true => .un
  | false => .el q k i j
 | .le q k i j => match Nat.beq q p with
  | true => .un
  | false => .le q k i j
 | .hd q n => match Nat.beq q p with
  | true => .un
  | false => .hd q n
 | .tl q k n => match Nat.beq q p with
  | true => .un
  | false => .tl q k n
 | .ptr q i => .ptr q i
 | .sb q n k => .sb q n k
 | .un => .un
section
variable {P : Program} {E : Env} {ops : Array Oper} {o : Oper} {st : St} {n : Nat} {rest : List Oper} {QQ : Exit → St → Prop} {w w' : World} {H H' : Hs} {F F' : Nat → Prop} {a : Act} {y z : Operand} {t t' : TypeId} {ps qs : List Nat} {i j : Int} {k : IntKind}
theorem R1.fz {p : Nat} {x t : T} {vv : Value} {fp : List Nat} (hp : H p = .ow x vv fp) (hro : RO w (fun b => F b ∨ b ∈ fp) t vv) {c : V1} {v : Value} (h : R1 w H F c v) : R1 w (H.put p .nil) (fun b => F b ∨ b ∈ fp) (c.fz p t) v := by
 have hbq : ∀ {q : Nat},q ≠ p → (!Nat.beq q p) = true := fun {q} hqp => by
  cases h : Nat.beq q p with
  | false => rfl
  | true => exact absurd (Nat.eq_of_beq_eq_true h) hqp
 have hin : ∀ (qs : List Nat) b,inP H F qs b → inP (H.put p .nil) (fun b => F b ∨ b ∈ fp) (qs.filter fun q => !Nat.beq q p) b := fun qs b hb => by
  rcases hb with hb | ⟨q,hq,x',v',fp',e,hb⟩
  ·exact .inl (.inl hb)
  ·by_cases hqp : q = p
   ·subst hqp
    rw [hp] at e
    simp only [Pc.ow.injEq] at e
    obtain ⟨_,_,rfl⟩ := e
    exact .inl (.inr hb)
   ·exact .inr ⟨q,List.mem_filter.2 ⟨hq,hbq hqp⟩,x',v',fp',by rw [Hs.put_ne _ _ hqp]; exact e,hb⟩
 have hne : ∀ {q : Nat},Nat.beq q p = false → (H.put p .nil) q = H q := fun hq => Hs.put_ne _ _ fun e => by
  subst e
  rw [show Nat.beq _ _ = true from Nat.beq_refl _] at hq
  cases hq
 have hbox : ∀ {q g : Nat} {t : TypeId} {vs : List Value},H q = .box g t vs → (H.put p .nil) q = H q := fun e => Hs.put_ne _ _ fun e2 => by
  subst e2
  rw [hp] at e
  cases e
 cases c with
 | rd qs x => exact RO.weak h fun b hb _ => hin qs b hb
 | rp qs xs =>
  obtain ⟨b,o,e,hb,hr⟩ := h
  exact ⟨b,o,e,hin qs b hb,fun j t hj => by obtain ⟨u,h1,h2⟩ := hr j t hj; exact ⟨u,h1,h2.weak fun b hb _ => hin qs b hb⟩⟩
 | ref q =>
  simp only [V1.fz]
  split
  ·rename_i hq
   have := Nat.eq_of_beq_eq_true hq
   subst this
   obtain ⟨x',fp',e⟩ := h
   rw [hp] at e
   simp only [Pc.ow.injEq] at e
   obtain ⟨_,rfl,_⟩ := e
   exact RO.weak hro fun b hb _ => .inl hb
  ·rename_i hq
   obtain ⟨x',fp',e⟩ := h
   exact ⟨x',fp',by rw [hne hq]; exact e⟩
 | el q k i j =>
  simp only [V1.fz]
  split
  ·trivial
  ·rename_i hq
   obtain ⟨b,o,n,c,x,fp,e,hv⟩ := h
   exact ⟨b,o,n,c,x,fp,by rw [hne hq]; exact e,hv⟩
 | le q k i j =>
  simp only [V1.fz]
  split
  ·trivial
  ·rename_i hq
   obtain ⟨b,o,n,c,x,fp,e,hv⟩ := h
   exact ⟨b,o,n,c,x,fp,by rw [hne hq]; exact e,hv⟩
 | hd q m =>
  simp only [V1.fz]
  split
  ·trivial
  ·rename_i hq
   obtain ⟨A,m',c,x,fp,e,hv⟩ := h
   exact ⟨A,m',c,x,fp,by rw [hne hq]; exact e,hv⟩
 | tl q k m =>
  simp only [V1.fz]
  split
  ·trivial
  ·rename_i hq
   obtain ⟨A,A',m',c,x,fp,e,hv⟩ := h
   exact ⟨A,A',m',c,x,fp,by rw [hne hq]; exact e,hv⟩
 | ptr q i => obtain ⟨g,t,vs,e,hv⟩ := h; exact ⟨g,t,vs,by rw [hbox e]; exact e,hv⟩
 | sb q i j => obtain ⟨g,t,vs,e,hv⟩ := h; exact ⟨g,t,vs,by rw [hbox e]; exact e,hv⟩
 | un => trivial
theorem Rel.freeze {p : Nat} {t : T} (hpw : ∀ w H F a,R0 w H F st a → ∃ x vv fp,H p = .ow x vv fp ∧ RO w (fun b => F b ∨ b ∈ fp) t vv) (h : Rel E st a w) : Rel E ⟨st.n,st.tmps.map fun e => (e.1,e.2.mapk (V1.fz p t)),(st.objs.map (Ob.mapk (V1.fz p t))).set p .gone⟩ a w := by
 obtain ⟨H,F,h1,h2⟩ := h
 obtain ⟨x,vv,fp,hp,hro⟩ := hpw w H F a h1
 have hne : ∀ q,q ≠ p → (H.put p .nil) q = H q := fun q hq => Hs.put_ne _ _ hq
 have hfp : ∀ b,b ∈ fp → b ∈ (H p).fp := fun b hb => by rw [hp]; exact hb
 have hsub : ∀ q b,b ∈ ((H.put p .nil) q).fp → q ≠ p ∧ b ∈ (H q).fp := fun q b hb => by
  by_cases e : q = p
  ·subst e
   rw [Hs.put_self] at hb
   simp [Pc.fp] at hb
  ·rw [hne q e] at hb
   exact ⟨e,hb⟩
 have hk : ∀ c v,R1 w H F c v → R1 w (H.put p .nil) (fun b => F b ∨ b ∈ fp) (c.fz p t) v := fun c v hc => R1.fz hp hro hc
 have hok : Ok w (H.put p .nil) (fun b => F b ∨ b ∈ fp) := by
  refine ⟨fun q => ?_,fun q => ?_,fun q r b hb hc => ?_,fun q b hb hc => ?_,fun b hb => ?_⟩
  ·by_cases e : q = p
   ·subst e; rw [Hs.put_self]; trivial
   ·rw [hne q e]; exact h1.ok.says q
  ·by_cases e : q = p
   ·subst e; rw [Hs.put_self]; exact List.nodup_nil
   ·rw [hne q e]; exact h1.ok.nodup q
  ·exact h1.ok.disj q r b (hsub q b hb).2 (hsub r b hc).2
  ·obtain ⟨hq,hb⟩ := hsub q b hb
   rcases hc with hc | hc
   ·exact h1.ok.free q b hb hc
   ·exact hq (h1.ok.disj q p b hb (hfp b hc))
  ·rcases hb with hb | hb
   ·exact h1.ok.flt b hb
   ·exact h1.ok.lt (hfp b hb)
 refine ⟨H.put p .nil,fun b => F b ∨ b ∈ fp,h1.mapkF (V1.fz p t) hk hok _ (fun q => ?_),h2.os,h2.tape,h2.output,h2.size,h2.keep,fun b hb => .inl (h2.fF b hb),fun b hb => ?_,fun q b hb => h2.org q b (hsub q b hb).2,fun q i v hq => ?_⟩
 ·have hpl : p < st.objs.length := by
   refine Nat.lt_of_not_le fun hge => ?_
   have h3 := h1.obs p
   rw [List.getD_eq_getElem?_getD,List.getElem?_eq_none hge] at h3
   have h4 : H p = .nil := h3
   rw [hp] at h4
   cases h4
  by_cases e : q = p
  ·subst e
   rw [List.getD_eq_getElem?_getD,List.getElem?_set_self (by simpa using hpl)]
   exact Hs.put_self _ _ _
  ·rw [List.getD_eq_getElem?_getD,List.getElem?_set_ne (Ne.symm e),List.getElem?_map]
   have h3 := h1.obs q
   rw [List.getD_eq_getElem?_getD] at h3
   cases ho : st.objs[q]? with
   | none => rw [ho] at h3; exact (hne q e).trans h3
   | some ob => rw [ho] at h3; exact RB.mapk hk (hne q e) h3
 ·rcases hb with hb | hb
  ·exact h2.fF' b hb
  ·rcases h2.org p b (hfp b hb) with h3 | h3
   ·exact .inr (.inr h3)
   ·exact .inr (.inl h3)
 ·by_cases e : q = p
  ·subst e; rw [Hs.put_self] at hq; cases hq
  ·rw [hne q e] at hq; exact h2.gh q i v hq
theorem row_ro {p kk : Nat} {es : List (List T)} (hp : st.objs[p]? = some (.row kk es)) : ∀ w H F a,R0 w H F st a → ∃ x vv fp,H p = .ow x vv fp ∧ RO w (fun b => F b ∨ b ∈ fp) (.sl kk es) vv := fun w H F a h => by
 obtain ⟨v,fp,e1,e2⟩ := h.ow hp
 exact ⟨_,_,_,e1,(OW.ro e2).weak fun b hb _ => .inr hb⟩
theorem shr_ro {p : Nat} {ts : List T} (hp : st.objs[p]? = some (.shr ts)) : ∀ w H F a,R0 w H F st a → ∃ x vv fp,H p = .ow x vv fp ∧ RO w (fun b => F b ∨ b ∈ fp) (.sl 1 (ts.map fun t => [t])) vv := fun w H F a h => by
 have h1 := h.obs p
 rw [Ye hp] at h1
 obtain ⟨us,v,fp,e,hl,hr⟩ := h1
 refine ⟨_,_,_,e,?_⟩
 have h2 := h.ok.says p
 rw [e] at h2
 have h3 := OW.ro h2
 obtain ⟨es0,hes0⟩ : ∃ es0,es0 = us.map fun u => [T.v u] := ⟨_,rfl⟩
 rw [← hes0] at h3
 cases h3 with
 | nil A _ c hm =>
  have hu0 : us = [] := List.map_eq_nil_iff.1 hes0.symm
  subst hu0
  have : ts = [] := List.length_eq_zero_iff.1 hl.symm
  subst this
  exact .nil _ _ _ hm
 | sl _ b o _ c val hF hc hm hp hk hv ht =>
  have hl2 : es0.length = (ts.map fun t => [t]).length := by simp [hes0,hl]
  rw [hl2]
  refine .sl (ts.map fun t => [t]) b o 1 c val (.inr hF) (by rw [← hl2]; exact hc) hm (by omega) (fun e he => by obtain ⟨t,_,rfl⟩ := List.mem_map.1 he; rfl) (fun i j hi hj => hv i j (by rw [hl2]; exact hi) hj) fun i j e t h4 h5 => ?_
  rw [List.getElem?_map,Option.map_eq_some_iff] at h4
  obtain ⟨t',h6,rfl⟩ := h4
  cases j with
  | succ j => simp at h5
  | zero =>
   simp only [List.getElem?_cons_zero,Option.some.injEq] at h5
   subst h5
   have hi : i < us.length := by rw [hl]; exact Yf h6
   have h7 : us[i]? = some us[i] := List.getElem?_eq_getElem hi
   have h8 := ht i 0 [T.v us[i]] (T.v us[i]) (by rw [hes0,List.getElem?_map,h7]; rfl) rfl
   obtain ⟨h9,_⟩ := RO.plain h8
   rw [h9]
   exact (hr i _ _ h6 h7).weak fun b hb _ => by
    rcases hb with hb | ⟨q,hq,_⟩
    ·exact .inl hb
    ·cases hq
theorem AWP.freeze {c : Code} {p kk : Nat} {es : List (List T)} (hp : st.objs[p]? = some (.row kk es)) (h : AWP P E c QQ ⟨st.n,st.tmps.map fun e => (e.1,e.2.mapk (V1.fz p (.sl kk es))),(st.objs.map (Ob.mapk (V1.fz p (.sl kk es)))).set p .gone⟩) : AWP P E c QQ st := ⟨fun a w hr => h.h a w (hr.freeze (row_ro hp))⟩
theorem AWP.freezeS {c : Code} {p : Nat} {ts : List T} (hp : st.objs[p]? = some (.shr ts)) (h : AWP P E c QQ ⟨st.n,st.tmps.map fun e => (e.1,e.2.mapk (V1.fz p (.sl 1 (ts.map fun t => [t])))),(st.objs.map (Ob.mapk (V1.fz p (.sl 1 (ts.map fun t => [t]))))).set p .gone⟩) : AWP P E c QQ st := ⟨fun a w hr => h.h a w (hr.freeze (shr_ro hp))⟩
theorem AL.freeze {p kk : Nat} {es : List (List T)} (hp : st.objs[p]? = some (.row kk es)) (h : AL P E ops QQ rest ⟨st.n,st.tmps.map fun e => (e.1,e.2.mapk (V1.fz p (.sl kk es))),(st.objs.map (Ob.mapk (V1.fz p (.sl kk es)))).set p .gone⟩) : AL P E ops QQ rest st := ⟨fun a w hr => h.h a w (hr.freeze (row_ro hp))⟩
/-! ### Shared rows -/
theorem Wk.toshr {p : Nat} (hp : st.objs[p]? = some (.row 1 [])) : Wk st ⟨st.n,st.tmps,st.objs.set p (.shr [])⟩ := fun w H F a h => by
 refine ⟨H,⟨h.ok,fun q => ?_,h.tmp,h.size,h.defers⟩,fun q b hb => ⟨q,hb⟩,fun q i v hq => ⟨q,hq⟩⟩
 show RB w H F q ((st.objs.set p (.shr [])).getD q .gone)
 by_cases e : q = p
 ·subst e
  rw [List.getD_eq_getElem?_getD,List.getElem?_set_self (Yf hp)]
  have h1 := h.obs q
  rw [Ye hp] at h1
  obtain ⟨v,fp,e⟩ := h1
  exact ⟨[],v,fp,e,J,fun i t u h2 _ => by simp at h2⟩
 ·rw [List.getD_eq_getElem?_getD,List.getElem?_set_ne (Ne.symm e),← List.getD_eq_getElem?_getD]
  exact h.obs q
theorem L_appshr {p m : Nat} {t0 : T} {ts : List T} {e : TypeId} {z0 : Value} {by_ : Nat} [hm : TyMake P t e [z0] by_] (ho : o.op = .call { callee := .builtin .append,args := #[y,z],argTypes := #[t,t] }) (hg : o.guard = none) (hy : st.ev y = .o (.c (.ref p))) (hp : st.objs[p]? = some (.shr ts)) (hz : st.ev z = .o (.c (.sb m 1 1))) (hx : st.objs[m]? = some (.box [.rd [] t0]))
  (hb : (ts.length + 1) * by_ ≤ 140737488355328) (h63 : ts.length + 1 ≤ 9223372036854775807)
  (hd : dstOk st.n o.dst = true) (h : AL P E ops QQ rest ⟨st.n,setT (st.tmps.map fun e => (e.1,e.2.kill [p])) o.dst (.o (.c (.ref p))),(st.objs.map (Ob.kill [p])).set p (.shr (ts ++ [t0]))⟩) : AL P E ops QQ (o :: rest) st := by
 refine ⟨fun a w ⟨H,F,h1,h2⟩ => ?_⟩
 have ho1 := h1.obs p
 rw [Ye hp] at ho1
 obtain ⟨us,v,fp,e1,hul,hur⟩ := ho1
 have e2 := h1.ok.says p
 rw [e1] at e2
 obtain ⟨x',fp',e3⟩ := h1.v1 hy
 rw [e1] at e3
 simp only [Pc.ow.injEq] at e3
 obtain ⟨_,hv,_⟩ := e3
 have hnd := h1.ok.nodup p
 rw [e1] at hnd
 have ho2 := h1.obs m
 rw [Ye hx] at ho2
 obtain ⟨g,tg,vs,f1,f2,f3⟩ := ho2
 obtain ⟨g',tg',vs',k1,k2,k3,k4⟩ := h1.v1 hz
 rw [f1] at k1
 simp only [Pc.box.injEq] at k1
 obtain ⟨rfl,rfl,rfl⟩ := k1
 obtain ⟨u,rfl⟩ : ∃ u,vs = [u] := by
  cases vs with
  | nil => simp at f2
  | cons u vs => cases vs with
   | nil => exact ⟨u,rfl⟩
   | cons u' vs => simp at f2
 obtain ⟨hu1,hu2⟩ := f3 0 _ _ rfl rfl
 have hsay := h1.ok.says m
 rw [f1] at hsay
 have hcell : w.cell? ⟨g,0,none⟩ = some u := by
  rw [cell_of_row w g _ [u].toArray tg (0,0) hsay]
  rfl
 have hpl : plainT [[T.v u]] := fun e he t ht => by
  rw [List.mem_singleton] at he
  subst he
  rw [List.mem_singleton] at ht
  exact ⟨u,ht⟩
 have hsrc : Src P 1 t (a.eval z) 1 (flatV (plainV' [[T.v u]]) 1 1) w := by
  rw [k4]
  refine src_slice (zs := [z0]) [[T.v u]] (plainV' [[T.v u]]) (some ⟨g,0,none⟩) 1 (fun _ => ⟨g,0,J,fun i j hi hj => ?_⟩) fun i j hi hj => ?_
  ·have hi0 : i = 0 := by simp at hi; omega
   have hj0 : j = 0 := by simp at hj; omega
   subst hi0 hj0
   exact hcell
  ·have hi0 : i = 0 := by simp at hi; omega
   have hj0 : j = 0 := by simp at hj; omega
   subst hi0 hj0
   exact hu2
 obtain ⟨v',w',fp'',hr,h3,h4,h5,h6⟩ := append_src (P := P) (o := o) (t := t) (zs := [z0]) (es := us.map fun u => [T.v u]) (es' := [[T.v u]]) e2 hnd rfl (by simp) hsrc hpl (fun e he => by rw [List.mem_singleton] at he; subst he; rfl) (by simpa [hul] using hb) (by simpa [hul] using h63)
 obtain ⟨hok,htn⟩ := h1.ok.turn (p := p) (fp := fp) (by rw [e1]; rfl) h6 (.ow (.sl 1 ((us.map fun u => [T.v u]) ++ [[T.v u]])) v' fp'') h3 h4 trivial h5
 have hplt := Yf hp
 have hR := h1.turn htn hok ((st.objs.map (Ob.kill [p])).set p (.shr (ts ++ [t0]))) (fun q hq => ?_) (fun q hq => ?_)
 ·have hR2 := hR.put (x := .o (.c (.ref p))) o.dst hd (v := v') ⟨_,_,Hs.put_self _ _ _⟩
  refine wpList_step fun K hK => ?_
  rw [if_pos (by unfold Region.wanted; rw [hg])]
  unfold Oper.wp
  rw [X9 ho (by rw [← hv]; exact hr)]
  exact hK _ _ (h.h _ _ ⟨_,F,hR2,h2.turn htn⟩)
 ·have hqp : q ≠ p := by simpa using hq
  rw [List.getD_eq_getElem?_getD,List.getElem?_set_ne (Ne.symm hqp),List.getElem?_map,List.getD_eq_getElem?_getD]
  cases st.objs[q]? <;> rfl
 ·have hqp : q = p := by simpa using hq
  subst hqp
  rw [Ye (x := .shr (ts ++ [t0])) (by simp [hplt])]
  refine ⟨us ++ [u],v',fp'',by rw [List.map_append]; exact Hs.put_self _ _ _,by simp [hul],fun i t u' hi hu' => ?_⟩
  rw [List.getElem?_append] at hi hu'
  split at hi
  ·rename_i hlt
   rw [if_pos (by omega)] at hu'
   exact R1.turn h1.ok htn (x := .rd [] t) J (hur i t u' hi hu')
  ·rename_i hlt
   rw [if_neg (by omega)] at hu'
   have h7 : i = ts.length := by have := Yf hi; simp at this; omega
   subst h7
   rw [hul] at hu'
   simp only [Nat.sub_self,List.getElem?_cons_zero,Option.some.injEq] at hi hu'
   subst hi hu'
   exact R1.turn h1.ok htn (x := .rd [] _) J hu1
/-! ### Arithmetic that may wrap around -/
theorem q_addW (ho : o.op = .binOp .add t y z t') (hg : o.guard = none) (hy : st.ev y = .o (.c (.rd ps (.v (.int .i64 i))))) (hz : st.ev z = .o (.c (.rd qs (.v (.int .i64 j))))) : Qt P ops o st (I (IntKind.i64.wrap (i + j))) [] n :=
 Yr ho hg hy hz fun w => by simp [binOp,Op.intArith]
theorem q_mulW (ho : o.op = .binOp .mul t y z t') (hg : o.guard = none) (hy : st.ev y = .o (.c (.rd ps (.v (.int .i64 i))))) (hz : st.ev z = .o (.c (.rd qs (.v (.int .i64 j))))) : Qt P ops o st (I (IntKind.i64.wrap (i * j))) [] n :=
 Yr ho hg hy hz fun w => by simp [binOp,Op.intArith]
def xorI (i j : Int) : Int := IntKind.i64.wrap (((BitVec.ofInt 64 i) ^^^ (BitVec.ofInt 64 j)).toNat : Nat)
def andI (i j : Int) : Int := IntKind.i64.wrap (((BitVec.ofInt 64 i) &&& (BitVec.ofInt 64 j)).toNat : Nat)
theorem q_xorW (ho : o.op = .binOp .xor t y z t') (hg : o.guard = none) (hy : st.ev y = .o (.c (.rd ps (.v (.int .i64 i))))) (hz : st.ev z = .o (.c (.rd qs (.v (.int .i64 j))))) : Qt P ops o st (I (xorI i j)) [] n :=
 Yr ho hg hy hz fun w => by
  simp only [binOp,Op.intBits]
  rfl
theorem q_andW (ho : o.op = .binOp .and t y z t') (hg : o.guard = none) (hy : st.ev y = .o (.c (.rd ps (.v (.int .i64 i))))) (hz : st.ev z = .o (.c (.rd qs (.v (.int .i64 j))))) : Qt P ops o st (I (andI i j)) [] n :=
 Yr ho hg hy hz fun w => by
  simp only [binOp,Op.intBits]
  rfl
theorem q_shrW {k' : IntKind} (ho : o.op = .binOp .shr t y z t') (hg : o.guard = none) (hy : st.ev y = .o (.c (.rd ps (.v (.int k i))))) (hz : st.ev z = .o (.c (.rd qs (.v (.int k' j))))) (h0 : 0 ≤ j ∧ j ≤ k.bits) : Qt P ops o st (VI k (i.fdiv (2 ^ j.toNat))) [] n :=
 .pure hg fun a w H F hr => ⟨.int k (i.fdiv (2 ^ j.toNat)),by
  have h1 := hr.plain hy
  have h2 := hr.plain hz
  have h3 : ¬ j < 0 := by omega
  have h4 : min j.toNat k.bits = j.toNat := by omega
  simp [execOp,ho,h1,h2,eqGuard,binOp,Op.shift,h3,h4],plainV _ rfl⟩
theorem andI_rng {i j : Int} (hj : 0 ≤ j ∧ j ≤ 4611686018427387904) : 0 ≤ andI i j ∧ andI i j ≤ j := by
 have h2 : (BitVec.ofInt 64 j).toNat = j.toNat := bits_in (m := 64) ⟨by omega,by omega⟩
 have h3 : ((BitVec.ofInt 64 i) &&& (BitVec.ofInt 64 j)).toNat ≤ j.toNat := by rw [BitVec.toNat_and,h2]; exact Nat.and_le_right
 unfold andI
 rw [Zm (by omega)]
 omega
end
end
section
open Go.RowKit

section
variable {P : Program} {E : Env} {l : List Oper} {Q : Exit → St → Prop} {st : St} {a : Act} {w : World}
structure DAL (P : Program) (E : Env) (l : List Oper) (Q : Exit → St → Prop) (f : Nat) (listed : Array Bool) (st : St) : Prop where
 h : ∀ a w,Rel E st a w → wpAny P .any l.toArray (fun e a' w' => ∃ st',Q e st' ∧ Rel E st' a' w') f listed a w
theorem wpop_of {K : St → Prop} {K' : Act → World → Prop} {i : Nat} {o : Oper} (h : wpList P l.toArray (fun e a' w' => ∃ st',thn K Q e st' ∧ Rel E st' a' w') [o] a w) (hi : l[i]? = some o) (hK : ∀ st a' w',K st → Rel E st a' w' → K' a' w') :
  wpOp P l.toArray (fun e a' w' => ∃ st',Q e st' ∧ Rel E st' a' w') i K' a w := by
 have hoi : l.toArray[i]? = some o := by simpa using hi
 unfold wpOp
 simp only [hoi]
 have hn : ∀ a' w',wpList P l.toArray (fun e a' w' => ∃ st',thn K Q e st' ∧ Rel E st' a' w') [] a' w' → K' a' w' := fun a' w' h' => by
  obtain ⟨st',h1,h2⟩ := h'
  exact hK st' a' w' h1.h h2
 unfold wpList at h
 split
 ·rename_i hw
  rw [if_pos hw] at h
  rcases h with h | ⟨h,a1,w1,st1,h1,h2⟩
  ·left
   unfold Oper.wp at h ⊢
   generalize (execOp a.eval o).run P w = r at h ⊢
   cases r with
   | ok n w' =>
    cases n <;> simp only [Oper.upon] at h ⊢ <;>
     first
      | exact hn _ _ h
      | exact Calls.mono h (fun e w'' he => by
        cases e
        ·exact hn _ _ he
        ·obtain ⟨st',h1,h2⟩ := he; exact ⟨st',h1.h,h2⟩
        ·obtain ⟨a1,w1,st',h1,h2⟩ := he; exact ⟨a1,w1,st',h1.h,h2⟩)
      | exact Rows.mono h (fun _ _ he => hn _ _ he)
   | halt x w' =>
    cases x <;> simp only [Oper.upon] at h ⊢ <;>
     first
      | exact h
      | (obtain ⟨st',h1,h2⟩ := h; exact ⟨st',h1.h,h2⟩)
      | (obtain ⟨a1,w1,st',h1,h2⟩ := h; exact ⟨a1,w1,st',h1.h,h2⟩)
  ·exact .inr ⟨h,a1,w1,st1,h1.h,h2⟩
 ·rename_i hw
  rw [if_neg hw] at h
  exact hn _ _ h
theorem DAL.nil {listed : Array Bool} (hr : Region.ready .any l.toArray listed = []) (h : Q .normal st) : DAL P E l Q 0 listed st := ⟨fun a w hR => ⟨hr,st,h,hR⟩⟩
theorem DAL.weak {f : Nat} {listed : Array Bool} {st' : St} (hw : Wk st st') (h : DAL P E l Q f listed st') : DAL P E l Q f listed st := ⟨fun a w hr => h.h a w (hr.weak hw)⟩
theorem DAL.one {f : Nat} {listed : Array Bool} (i : Nat) {o : Oper} (hr : Region.ready .any l.toArray listed = [i]) (ho : l[i]? = some o) (h : AL P E l.toArray (thn (DAL P E l Q f (listed.setIfInBounds i true)) Q) [o] st) : DAL P E l Q (f + 1) listed st :=
 ⟨fun a w hR => ⟨fun e => (List.cons_ne_nil _ _ (hr.symm.trans e)).elim,fun j hj => by
  rw [hr,List.mem_singleton] at hj
  subst hj
  exact wpop_of (h.h a w hR) ho fun st' a' w' h1 h2 => h1.h a' w' h2⟩⟩
theorem DAL.two {f : Nat} {listed : Array Bool} (i k : Nat) {o p : Oper} (hr : Region.ready .any l.toArray listed = [i,k]) (ho : l[i]? = some o) (hp : l[k]? = some p) (h : AL P E l.toArray (thn (DAL P E l Q f (listed.setIfInBounds i true)) Q) [o] st) (h2 : AL P E l.toArray (thn (DAL P E l Q f (listed.setIfInBounds k true)) Q) [p] st) : DAL P E l Q (f + 1) listed st :=
 ⟨fun a w hR => ⟨fun e => (List.cons_ne_nil _ _ (hr.symm.trans e)).elim,fun j hj => by
  rw [hr] at hj
  simp only [List.mem_cons,List.not_mem_nil,or_false] at hj
  rcases hj with rfl | rfl
  ·exact wpop_of (h.h a w hR) ho fun st' a' w' h1 h2 => h1.h a' w' h2
  ·exact wpop_of (h2.h a w hR) hp fun st' a' w' h1 h2 => h1.h a' w' h2⟩⟩
def src2 : Op → Option Nat
 | .fieldAddr _ (.tmp t) _ => some t
 | o => srcO o
theorem src2_exec {o : Oper} {t : Nat} (h : src2 o.op = some t) : ∀ r r' : Operand → Value,r (.tmp t) = r' (.tmp t) → execOp r o = execOp r' o := fun r r' e => by
 unfold src2 at h
 split at h
 ·rename_i ho
  cases h
  simp only [execOp,ho,e]
 ·exact srcO_exec h r r' e
def late2 (ops : List Oper) (A : List (List Nat)) (m : Nat) : Bool := match ops[m]? with
 | some o => match src2 o.op,o.dst with
  | some t,some d => o.guard.isNone && !Nat.beq t d && allB ops.length fun j => Nat.beq j m || match ops[j]? with
   | some oj => oj.guard.isNone && (oj.dst != some t || memN (A.getD m []) j) && oj.dst != some d && (memN (A.getD j []) m || blindO d oj.op)
   | none => true
  | _,_ => false
 | none => false
theorem late2_spec {A : List (List Nat)} {m : Nat} (h : late2 l A m = true) : ∃ o t d,l[m]? = some o ∧ src2 o.op = some t ∧ o.dst = some d ∧ o.guard = none ∧ t ≠ d ∧
  ∀ j oj,j ≠ m → l[j]? = some oj → oj.guard = none ∧ (oj.dst ≠ some t ∨ j ∈ A.getD m []) ∧ oj.dst ≠ some d ∧ (m ∈ A.getD j [] ∨ blindO d oj.op = true) := by
 unfold late2 at h
 split at h
 ·rename_i o hl
  split at h
  ·rename_i t d ho hd
   simp only [Bool.and_eq_true] at h
   obtain ⟨⟨h1,h3⟩,h4⟩ := h
   refine ⟨o,t,d,hl,ho,hd,by simpa using h1,fun e => ?_,fun j oj hj hoj => ?_⟩
   ·subst e
    rw [show Nat.beq t t = true from Nat.beq_refl t] at h3
    cases h3
   ·have h5 := Xv h4 (Yf hoj)
    rw [hoj,Bool.or_eq_true] at h5
    rcases h5 with h5 | h5
    ·exact absurd (Nat.eq_of_beq_eq_true h5) hj
    ·simp only [Bool.and_eq_true] at h5
     obtain ⟨⟨⟨h6,h7⟩,h8⟩,h9⟩ := h5
     refine ⟨by simpa using h6,?_,by simpa using h8,?_⟩
     ·rw [Bool.or_eq_true] at h7
      exact h7.imp (fun h => by simpa using h) (Ym _ _).1
     ·rw [Bool.or_eq_true] at h9
      exact h9.imp (Ym _ _).1 id
  ·cases h
 ·cases h
def cloB (l : List Oper) (listed : Array Bool) : Bool := allB l.length fun i => !listed.getD i false || (preAt l i).all fun k => listed.getD k false
def hoB (l : List Oper) (A S M : List (List Nat)) (m : Nat) (listed : Array Bool) : Bool :=
 drawB l A S M l.length && late2 l A m && cloB l listed && !listed.getD m false && ((preAt l m).all fun k => listed.getD k false) && Nat.beq listed.size l.length
theorem DAL.hoist [hnp : NP Q] {f : Nat} {listed : Array Bool} {A S M : List (List Nat)} {m t d : Nat} {n : Nat} {ts : List (Nat × V)} {obs : List Ob} {o : Oper} {x : V} (hc : hoB l A S M m listed = true) (ho : l[m]? = some o) (hs : src2 o.op = some t) (hdd : o.dst = some d) (hd : Nat.blt d n = true)
  (hx : ∀ a w H F,R0 w H F ⟨n,ts,obs⟩ a → ∃ u,(∀ w2,(execOp a.eval o).run P w2 = .ok (.value u) w2) ∧ RV w H F x u)
  (h : DAL P E l Q f (listed.setIfInBounds m true) ⟨n,(d,x) :: ts,obs⟩) : DAL P E l Q (f + 1) listed ⟨n,ts,obs⟩ := by
 unfold hoB at hc
 simp only [Bool.and_eq_true] at hc
 obtain ⟨⟨⟨⟨⟨c1,c2⟩,c3⟩,c4⟩,c5⟩,c6⟩ := hc
 have hk := drawB_spec c1
 obtain ⟨o',t0,d0,l1,l2,l3,l4,l5,l6⟩ := late2_spec c2
 rw [ho] at l1
 cases l1
 rw [hs] at l2
 cases l2
 rw [hdd] at l3
 cases l3
 have hsz : listed.size = l.length := Nat.eq_of_beq_eq_true c6
 have hcl : Clo l listed := fun i hi k hkk => by
  have hi' : i < l.length := by
   rw [← hsz]
   unfold Lst at hi
   refine Nat.lt_of_not_le fun hge => ?_
   rw [Array.getD_eq_getD_getElem?,Array.getElem?_eq_none hge] at hi
   cases hi
  have h1 := Xv c3 hi'
  rw [show listed.getD i false = true from hi] at h1
  rw [Bool.not_true,Bool.false_or] at h1
  exact List.all_eq_true.1 h1 k hkk
 refine ⟨fun a w hR => ?_⟩
 obtain ⟨H,F,h1,h2⟩ := hR
 obtain ⟨u,hu,hv⟩ := hx a w H F h1
 refine Go.Proofs.YtcjclaoogdblbaaDoor.hoist hk ho (src2_exec hs) hdd l4 l6 (fun c a w ⟨st',hq,_⟩ => hnp.no c st' hq) f listed a w u hu hsz hcl (fun hh => ?_) (fun k hkk => List.all_eq_true.1 c5 k hkk) ?_
 ·rw [show listed.getD m false = true from hh] at c4
  cases c4
 ·refine h.h _ w ⟨H,F,?_,h2⟩
  exact h1.put (x := x) (some d) (by simpa [dstOk] using hd) hv
theorem DAL.mv [hnp : NP Q] {f : Nat} {listed : Array Bool} (A S M : List (List Nat)) (m t d : Nat) {n : Nat} {ts : List (Nat × V)} {obs : List Ob} {o : Oper} (hc : hoB l A S M m listed = true) (ho : l[m]? = some o) (hop : o.op = .move (.tmp t)) (hdd : o.dst = some d) (hd : Nat.blt d n = true) (h : DAL P E l Q f (listed.setIfInBounds m true) ⟨n,(d,look ts t) :: ts,obs⟩) : DAL P E l Q (f + 1) listed ⟨n,ts,obs⟩ :=
 DAL.hoist hc ho (by rw [hop]; rfl) hdd hd (fun a w H F hR => ⟨a.eval (.tmp t),fun w2 => by simp [execOp,hop],hR.tmp t⟩) h
theorem DAL.fld [hnp : NP Q] {f : Nat} {listed : Array Bool} (A S M : List (List Nat)) (m t d : Nat) {n : Nat} {ts : List (Nat × V)} {obs : List Ob} {o : Oper} {ty : TypeId} {p q ff off sz : Nat} {pl : List (Nat × Nat)} [hpl : TyPl P ty pl] (hc : hoB l A S M m listed = true) (ho : l[m]? = some o) (hop : o.op = .fieldAddr ty (.tmp t) ff) (hdd : o.dst = some d) (hd : Nat.blt d n = true) (hy : look ts t = .o (.c (.ptr p q))) (hf : pl[ff]? = some (off,sz)) (hsz : sz ≠ 0) (h : DAL P E l Q f (listed.setIfInBounds m true) ⟨n,(d,.o (.c (.ptr p (q + off)))) :: ts,obs⟩) : DAL P E l Q (f + 1) listed ⟨n,ts,obs⟩ :=
 DAL.hoist hc ho (by rw [hop]; rfl) hdd hd (fun a w H F hR => by
  obtain ⟨g,tt,vs,e1,e2⟩ := hR.v1 (y := .tmp t) hy
  refine ⟨.pointer (some ⟨g,q + off,none⟩),fun w2 => ?_,g,tt,vs,e1,J⟩
  simp only [execOp,hop,e2,Sem.run_bind,run_fieldAt (P := P) (w := w2) ty g q ff hf hsz,Result.andThen_ok]
  rfl) h
theorem DAL.three {f : Nat} {listed : Array Bool} (i k m : Nat) {o p r : Oper} (hr : Region.ready .any l.toArray listed = [i,k,m]) (ho : l[i]? = some o) (hp : l[k]? = some p) (hq : l[m]? = some r) (h : AL P E l.toArray (thn (DAL P E l Q f (listed.setIfInBounds i true)) Q) [o] st) (h2 : AL P E l.toArray (thn (DAL P E l Q f (listed.setIfInBounds k true)) Q) [p] st) (h3 : AL P E l.toArray (thn (DAL P E l Q f (listed.setIfInBounds m true)) Q) [r] st) : DAL P E l Q (f + 1) listed st :=
 ⟨fun a w hR => ⟨fun e => (List.cons_ne_nil _ _ (hr.symm.trans e)).elim,fun j hj => by
  rw [hr] at hj
  simp only [List.mem_cons,List.not_mem_nil,or_false] at hj
  rcases hj with rfl | rfl | rfl
  ·exact wpop_of (h.h a w hR) ho fun st' a' w' h1 h2 => h1.h a' w' h2
  ·exact wpop_of (h2.h a w hR) hp fun st' a' w' h1 h2 => h1.h a' w' h2
  ·exact wpop_of (h3.h a w hR) hq fun st' a' w' h1 h2 => h1.h a' w' h2⟩⟩
theorem DAL.ext [hnp : NP Q] {f : Nat} {listed : Array Bool} (A S M : List (List Nat)) (m t d : Nat) {n : Nat} {ts : List (Nat × V)} {obs : List Ob} {o : Oper} {i : Nat} {xs : List V2} {y : V2} (hc : hoB l A S M m listed = true) (ho : l[m]? = some o) (hop : o.op = .extract (.tmp t) i) (hdd : o.dst = some d) (hd : Nat.blt d n = true) (hy : look ts t = .tu xs) (hi : xs[i]? = some y) (h : DAL P E l Q f (listed.setIfInBounds m true) ⟨n,(d,.o y) :: ts,obs⟩) : DAL P E l Q (f + 1) listed ⟨n,ts,obs⟩ :=
 DAL.hoist hc ho (by rw [hop]; rfl) hdd hd (fun a w H F hR => by
  have h1 := hR.tmp t
  rw [show look (St.tmps ⟨n,ts,obs⟩) t = .tu xs from hy] at h1
  obtain ⟨us,e,hl,hr⟩ := h1
  have hlt : i < us.length := by rw [hl]; exact Yf hi
  refine ⟨us[i],fun w2 => ?_,hr i y _ hi (List.getElem?_eq_getElem hlt)⟩
  have e2 : a.eval (.tmp t) = .tuple us.toArray := e
  simp [execOp,hop,Instr.extract,e2,hlt]) h
theorem DAL.join {f : Nat} {listed listed' : Array Bool} {st' : St} (he : listed = listed') (hw : Wk st st') (h : DAL P E l Q f listed' st') : DAL P E l Q f listed st := by subst he; exact DAL.weak hw h
def ms (n m : Nat) : Array Bool := ((List.range n).map fun i => Nat.testBit m i).toArray
theorem A_seqW {x y : Code} {st : St} (st0 : St) (hx : AWP P E x (thn (fun st => Wk st st0) Q) st) (hy : AWP P E y Q st0) : AWP P E x (thn (AWP P E y Q) Q) st := AWP.mono (fun e st h => by
 have h1 := h.h
 refine ⟨?_⟩
 cases e with
 | normal => exact AWP.weak h1 hy
 | _ => exact h1) hx
theorem A_drawn {id : Nat} {f : Nat} (hm : P.follows .mixedOrders = true) (hf : f = l.length) (h : DAL P E l Q f (Array.replicate f false) st) : AWP P E (.region id l.toArray true) Q st := by
 refine ⟨fun a w ⟨H,F,hr,hsi⟩ => wp_region_any hm ?_⟩
 have hgr : Grow w H F { w with drawn := w.drawn + 1 } H F := ⟨(Below.refl _ _).drew,fun _ _ => rfl,fun _ h => h,fun _ h => .inl h,fun p hp b hb => by rw [hp] at hb; simp [Pc.fp] at hb,fun p i v h => ⟨p,h⟩⟩
 have hok : Ok { w with drawn := w.drawn + 1 } H F := ⟨fun p => Pc.frame (w := w) (fun _ _ => rfl) (hr.ok.says p),hr.ok.nodup,hr.ok.disj,hr.ok.free,hr.ok.flt⟩
 have hR : R0 { w with drawn := w.drawn + 1 } H F st a := ⟨hok,fun p => rb_grow hgr (fun h => h) (hr.obs p),fun d => hgr.rv (hr.tmp d),hr.size,hr.defers⟩
 have := h.h a { w with drawn := w.drawn + 1 } ⟨H,F,hR,hsi.grow hgr⟩
 subst hf
 simpa using this
end
end
section
open Go.RowKit

instance : Enc UInt8 := ⟨1,by omega,fun b => [.v (.int .u8 (b.toNat : Int))],fun _ => rfl,fun _ => True,fun _ => 0⟩
structure Cu where
 i : Nat
 h : Int
@[reducible] def cub (b : List UInt8) (c : Cu) : Ob := .box [.rd [] (sl b),jn c.i,jn c.h]
def nextH (h : Int) : Int := IntKind.i64.wrap (IntKind.i64.wrap (h * 6364136223846793005) + 1442695040888963407)
def rawX (h : Int) : Int := andI (xorI (h.fdiv (2 ^ (33 : Int).toNat)) (h.fdiv (2 ^ (45 : Int).toNat))) 255
def addX (x : Int) (y : UInt8) : Int := (((x + (y.toNat : Int)).toNat &&& (255 : Int).toNat : Nat) : Int)
def byteC (b : List UInt8) (c : Cu) : Int × Cu := match b[c.i]? with
 | some y => (addX (rawX (nextH c.h)) y,⟨c.i + 1,nextH c.h⟩)
 | none => (rawX (nextH c.h),⟨c.i,nextH c.h⟩)
theorem rawX_rng (h : Int) : 0 ≤ rawX h ∧ rawX h ≤ 255 := andI_rng (by omega)
theorem addX_rng (x : Int) (y : UInt8) : 0 ≤ addX x y ∧ addX x y ≤ 255 := by
 unfold addX
 have : (x + (y.toNat : Int)).toNat &&& (255 : Int).toNat ≤ (255 : Int).toNat := Nat.and_le_right
 omega
theorem byteC_rng (b : List UInt8) (c : Cu) : 0 ≤ (byteC b c).1 ∧ (byteC b c).1 ≤ 255 := by
 unfold byteC
 split
 ·exact addX_rng _ _
 ·exact rawX_rng _
theorem X3 {b : List UInt8} {c : Cu} (h : c.i ≤ b.length) : (byteC b c).2.i ≤ b.length := by
 unfold byteC
 split
 ·rename_i y hy; have := Yf hy; simp only; omega
 ·exact h
theorem byte_at {b : List UInt8} {i : Nat} {y : UInt8} (h : b[i]? = some y) : (els b)[(i : Int).toNat]? = some (Enc.e y) := by
 rw [Int.toNat_natCast,List.getElem?_map,h]
 rfl
theorem S_l01Byte (b : List UInt8) (c : Cu) (hb : b.length ≤ 1048576) (hc : c.i ≤ b.length) : Con Tryd.prog 102 [cub b c,.gh 0 (.c (.ptr 0 0))] [.c (.ptr 0 0)] [cub b (byteC b c).2,.gh 0 (.c (.ptr 0 0))] (I (byteC b c).1) := by
 have hl := X7 b
 have hx := rawX_rng (nextH c.h)
 cases h : b[c.i]? with
 | none =>
  have e : byteC b c = (rawX (nextH c.h),⟨c.i,nextH c.h⟩) := by rw [byteC,h]
  rw [e]
  have hge := List.getElem?_eq_none_iff.1 h
  have f1 : decide ((c.i : Int) < (els b).length) = false := decide_eq_false (by omega)
  refine Con.of Tryd.func102 J Tryd.ntmps102 J (fun E => ?_)
  refine zy (z1 J (zz (zy (z0 J (z0 J (zx (Qz J J J) J (z2 J J J (z3 J ?_))))))));refine zx (q_mulW J J J J) J (zx (q_addW J J J J) J (zx (Qz J J J) J (z2 J J J ?_)));refine Q5 J J J J J J J J (zz (Qd ?_))
  refine AWP.pre (st' := (⟨_,[(0,.o (.c (.ptr 0 0)))],[.box [.rd [] (sl b),jn c.i,jn (nextH c.h)],.gh 0 (.c (.ptr 0 0))]⟩ : St)) ?_ (Xt [0,1] (by kernel_rfl))
  skip
  refine Xh u8_23 u8_24 u8_25 J (DR.s (Qa J J J) J J (DR.s (Qz J J J) J J (DR.s (Qf J J J J (by decide)) J J (DR.s (Qg J J J J J) J J (DR.s (q_shrW J J J J ⟨by omega,by decide⟩) J J (DR.s (Qa J J J) J J (DR.s (Qz J J J) J J (DR.s (Qf J J J J (by decide)) J J (DR.s (Qg J J J J J) J J (DR.s (q_shrW J J J J ⟨by omega,by decide⟩) J J (DR.s (q_xorW J J J J) J J ?_)))))))))));refine DR.s (q_andW J J J J) J J (DR.s (Qb J J J) J J (DR.stop (by kernel_rfl) (by kernel_rfl) (zz ?_)))
  refine AWP.pre (st' := (⟨_,[(0,.o (.c (.ptr 0 0))),(3,I (rawX (nextH c.h)))],[.box [.rd [] (sl b),jn c.i,jn (nextH c.h)],.gh 0 (.c (.ptr 0 0))]⟩ : St)) ?_ (Xt [0,1] (by kernel_rfl))
  refine Qd (Qd (Xh u8_26 u8_27 u8_28 J (DR.s (Qa J J J) J J (DR.s (Qz J J J) J J (DR.s (Qf J J J J (by decide)) J J (DR.s (Qg J J J J J) J J (DR.s (Qa J J J) J J (DR.s (Qz J J J) J J (DR.s (Qf J J J J (by decide)) J J (DR.s (Qg J J J J J) J J (DR.s (Y2 J J J) J J ?_)))))))))));refine DR.s (Qr J J J J (by assumption)) J J (DR.stop (by kernel_rfl) (by kernel_rfl) (zz ?_))
  refine AWP.pre (st' := (⟨_,[(0,.o (.c (.ptr 0 0))),(3,I (rawX (nextH c.h))),(34,B false)],[.box [.rd [] (sl b),jn c.i,jn (nextH c.h)],.gh 0 (.c (.ptr 0 0))]⟩ : St)) ?_ (Xt [0,1] (by kernel_rfl))
  refine Ql J (Qh (Q0 (zy (z0 J (z1 J (zz (Xa (F_r ?_))))))))
  exact Xl J J (Xs [0,1] (by decide) J J J)
 | some y =>
  have e : byteC b c = (addX (rawX (nextH c.h)) y,⟨c.i + 1,nextH c.h⟩) := by rw [byteC,h]
  rw [e]
  have hlt := Yf h
  have hy : (y.toNat : Int) ≤ 255 := by have := y.toNat_lt; omega
  have hy0 : 0 ≤ (y.toNat : Int) := by omega
  have f1 : decide ((c.i : Int) < (els b).length) = true := decide_eq_true (by omega)
  refine Con.of Tryd.func102 J Tryd.ntmps102 J (fun E => ?_)
  refine zy (z1 J (zz (zy (z0 J (z0 J (zx (Qz J J J) J (z2 J J J (z3 J ?_))))))));refine zx (q_mulW J J J J) J (zx (q_addW J J J J) J (zx (Qz J J J) J (z2 J J J ?_)));refine Q5 J J J J J J J J (zz (Qd ?_))
  refine AWP.pre (st' := (⟨_,[(0,.o (.c (.ptr 0 0)))],[.box [.rd [] (sl b),jn c.i,jn (nextH c.h)],.gh 0 (.c (.ptr 0 0))]⟩ : St)) ?_ (Xt [0,1] (by kernel_rfl))
  skip
  refine Xh u8_23 u8_24 u8_25 J (DR.s (Qa J J J) J J (DR.s (Qz J J J) J J (DR.s (Qf J J J J (by decide)) J J (DR.s (Qg J J J J J) J J (DR.s (q_shrW J J J J ⟨by omega,by decide⟩) J J (DR.s (Qa J J J) J J (DR.s (Qz J J J) J J (DR.s (Qf J J J J (by decide)) J J (DR.s (Qg J J J J J) J J (DR.s (q_shrW J J J J ⟨by omega,by decide⟩) J J (DR.s (q_xorW J J J J) J J ?_)))))))))));refine DR.s (q_andW J J J J) J J (DR.s (Qb J J J) J J (DR.stop (by kernel_rfl) (by kernel_rfl) (zz ?_)))
  refine AWP.pre (st' := (⟨_,[(0,.o (.c (.ptr 0 0))),(3,I (rawX (nextH c.h)))],[.box [.rd [] (sl b),jn c.i,jn (nextH c.h)],.gh 0 (.c (.ptr 0 0))]⟩ : St)) ?_ (Xt [0,1] (by kernel_rfl))
  refine Qd (Qd (Xh u8_26 u8_27 u8_28 J (DR.s (Qa J J J) J J (DR.s (Qz J J J) J J (DR.s (Qf J J J J (by decide)) J J (DR.s (Qg J J J J J) J J (DR.s (Qa J J J) J J (DR.s (Qz J J J) J J (DR.s (Qf J J J J (by decide)) J J (DR.s (Qg J J J J J) J J (DR.s (Y2 J J J) J J ?_)))))))))));refine DR.s (Qr J J J J (by assumption)) J J (DR.stop (by kernel_rfl) (by kernel_rfl) (zz ?_))
  refine AWP.pre (st' := (⟨_,[(0,.o (.c (.ptr 0 0))),(3,I (rawX (nextH c.h))),(34,B true)],[.box [.rd [] (sl b),jn c.i,jn (nextH c.h)],.gh 0 (.c (.ptr 0 0))]⟩ : St)) ?_ (Xt [0,1] (by kernel_rfl))
  refine Qm J (Qd ?_)
  have he := byte_at h
  skip
  refine Xh [[],[],[1],[1,2],[1,2,3],[],[5],[5,6],[5,6,7],[1,2,3,4,5,6,7,8],[1,2,3,4,5,6,7,8,9],[1,2,3,4,5,6,7,8,9,10],(u9 12),(u9 13),(u9 14)] [[],[],[36],[36,37],[36,37,38],[],[40],[40,41],[40,41,42],[36,37,38,39,40,41,42,43],[36,37,38,39,40,41,42,43,44],[36,37,38,39,40,41,42,43,44,45],[35,36,37,38,39,40,41,42,43,44,45,46],[35,36,37,38,39,40,41,42,43,44,45,46,47],[35,36,37,38,39,40,41,42,43,44,45,46,47,48]] [[36,37,38,39,40,41,42,43,44,45,46],[35,40,41,42,43],[35,40,41,42,43],[35,40,41,42,43],[35,40,41,42,43],[35,36,37,38,39],[35,36,37,38,39],[35,36,37,38,39],[35,36,37,38,39],[35],[35],[35],[],[],[]] J (DR.s (Qa J J J) J J (DR.s (Qa J J J) J J (DR.s (Qz J J J) J J (DR.s (Qf J J J J (by decide)) J J (DR.s (Qg J J J J J) J J (DR.s (Qa J J J) J J (DR.s (Qz J J J) J J (DR.s (Qf J J J J (by decide)) J J (DR.s (Qg J J J J J) J J (DR.s (Q2 J J J J (by omega) (by assumption) J) J J (DR.s (Y6 J J J J) J J ?_)))))))))));refine DR.s (Yw J J J J (Zm (by omega))) J J (DR.s (Qs J J J J (by omega)) J J (DR.s (Ys J J J J (by omega)) J J (DR.s (Qb J J J) J J (DR.stop (by kernel_rfl) (by kernel_rfl) (zz ?_)))))
  refine AWP.pre (st' := (⟨_,[(0,.o (.c (.ptr 0 0))),(3,I (addX (rawX (nextH c.h)) y))],[.box [.rd [] (sl b),jn c.i,jn (nextH c.h)],.gh 0 (.c (.ptr 0 0))]⟩ : St)) ?_ (Xt [0,1] (by kernel_rfl))
  refine Qc (z0 J (z0 J (zx (Qz J J J) J (z2 J J J (z3 J (z7 J (by omega) (zx (Qz J J J) J (z2 J J J ?_))))))));refine Q5 J J J J J J J J (zz (zy (z0 J (z1 J (zz (Xa (F_r ?_)))))))
  exact Xl J J (Xs [0,1] (by decide) J J J)
def belowC (b : List UInt8) (n : Int) (c : Cu) : Int × Cu :=
 if n ≤ 0 then (0,c) else if n ≤ 256 then ((byteC b c).1 % n,(byteC b c).2)
 else ((((byteC b c).1 * 16777216 + (byteC b (byteC b c).2).1 * 65536) + (byteC b (byteC b (byteC b c).2).2).1 * 256 + (byteC b (byteC b (byteC b (byteC b c).2).2).2).1) % n,(byteC b (byteC b (byteC b (byteC b c).2).2).2).2)
theorem Xy {b : List UInt8} {n : Int} {c : Cu} (h : 0 < n) : 0 ≤ (belowC b n c).1 ∧ (belowC b n c).1 < n := by
 unfold belowC
 rw [if_neg (by omega)]
 split
 ·exact ⟨Int.emod_nonneg _ (by omega),Int.emod_lt_of_pos _ h⟩
 ·exact ⟨Int.emod_nonneg _ (by omega),Int.emod_lt_of_pos _ h⟩
theorem Xx {b : List UInt8} {n : Int} {c : Cu} (h : c.i ≤ b.length) : (belowC b n c).2.i ≤ b.length := by
 unfold belowC
 split
 ·exact h
 ·split
  ·exact X3 h
  ·exact X3 (X3 (X3 (X3 h)))
theorem Xr (b : List UInt8) (n : Int) (c : Cu) (hb : b.length ≤ 1048576) (hc : c.i ≤ b.length) (hn : n ≤ 1099511627776) : Con Tryd.prog 64 [cub b c,.gh 0 (.c (.ptr 0 0))] [.c (.ptr 0 0),ai n] [cub b (belowC b n c).2,.gh 0 (.c (.ptr 0 0))] (I (belowC b n c).1) := by
 by_cases h0 : n ≤ 0
 ·have e : belowC b n c = (0,c) := by rw [belowC,if_pos h0]
  rw [e]
  have f0 : decide (n ≤ 0) = true := decide_eq_true h0
  refine Con.of Tryd.func64 J Tryd.ntmps64 J (fun E => ?_)
  refine zy (z1 J (zz (Qd (zy (z0 J (z9b J (by assumption) (zz ?_)))))));refine Qm J (zy (z1 J (zz (Xa (T_r (F_r ?_))))))
  exact Xl J J (Xs [0,1] (by decide) J J J)
 have f0 : decide (n ≤ 0) = false := decide_eq_false h0
 by_cases h1 : n ≤ 256
 ·have e : belowC b n c = ((byteC b c).1 % n,(byteC b c).2) := by rw [belowC,if_neg h0,if_pos h1]
  rw [e]
  have f1 : decide (n ≤ 256) = true := decide_eq_true h1
  have k1 := S_l01Byte b c hb hc
  have r1 := byteC_rng b c
  generalize byteC b c = p1 at k1 r1
  obtain ⟨x1,c1⟩ := p1
  simp only at k1 r1
  refine Con.of Tryd.func64 J Tryd.ntmps64 J (fun E => ?_)
  refine zy (z1 J (zz (Qd (zy (z0 J (z9b J (by assumption) (zz ?_)))))));refine Ql J (Qh (Q0 (Qd (zy (z0 J (z9b J (by assumption) (zz (Qm J (Qd ?_)))))))));refine Qc (z0 J ?_);refine Xq (lo := [_]) (gs := [(0,.c (.ptr 0 0))]) (lo' := [_]) (new := []) [0] [(0,0,.ptr 0 0)] (k1) J J J J J J J J J J J J J J J J J ?_;refine z0 J (zx (q_rem J J J J (by omega)) J (z1 J (zz (Xa (T_r (F_r ?_))))))
  exact Xl J J (Xs [0,1] (by decide) J J J)
 ·have f1 : decide (n ≤ 256) = false := decide_eq_false h1
  have e : belowC b n c = ((((byteC b c).1 * 16777216 + (byteC b (byteC b c).2).1 * 65536) + (byteC b (byteC b (byteC b c).2).2).1 * 256 + (byteC b (byteC b (byteC b (byteC b c).2).2).2).1) % n,(byteC b (byteC b (byteC b (byteC b c).2).2).2).2) := by rw [belowC,if_neg h0,if_neg h1]
  rw [e]
  have k1 := S_l01Byte b c hb hc
  have k2 := S_l01Byte b (byteC b c).2 hb (X3 hc)
  have k3 := S_l01Byte b (byteC b (byteC b c).2).2 hb (X3 (X3 hc))
  have k4 := S_l01Byte b (byteC b (byteC b (byteC b c).2).2).2 hb (X3 (X3 (X3 hc)))
  have r1 := byteC_rng b c
  have r2 := byteC_rng b (byteC b c).2
  have r3 := byteC_rng b (byteC b (byteC b c).2).2
  have r4 := byteC_rng b (byteC b (byteC b (byteC b c).2).2).2
  generalize byteC b (byteC b (byteC b (byteC b c).2).2).2 = p4 at k4 r4
  generalize byteC b (byteC b (byteC b c).2).2 = p3 at k3 r3 k4
  generalize byteC b (byteC b c).2 = p2 at k2 r2 k3
  generalize byteC b c = p1 at k1 r1 k2
  obtain ⟨x1,c1⟩ := p1
  obtain ⟨x2,c2⟩ := p2
  obtain ⟨x3,c3⟩ := p3
  obtain ⟨x4,c4⟩ := p4
  simp only at k1 k2 k3 k4 r1 r2 r3 r4
  refine Con.of Tryd.func64 J Tryd.ntmps64 J (fun E => ?_)
  refine zy (z1 J (zz (Qd (zy (z0 J (z9b J (by assumption) (zz ?_)))))));refine Ql J (Qh (Q0 (Qd (zy (z0 J (z9b J (by assumption) (zz (Ql J (Qh ?_)))))))));refine Q0 (zy (z0 J ?_));refine Xq (lo := [_]) (gs := [(0,.c (.ptr 0 0))]) (lo' := [_]) (new := []) [0] [(0,0,.ptr 0 0)] (k1) J J J J J J J J J J J J J J J J J ?_;refine z1 J (zz (zy (z0 J ?_)));refine Xq (lo := [_]) (gs := [(0,.c (.ptr 0 0))]) (lo' := [_]) (new := []) [0] [(0,0,.ptr 0 0)] (k2) J J J J J J J J J J J J J J J J J ?_;refine z1 J (zz (zy (z0 J ?_)));refine Xq (lo := [_]) (gs := [(0,.c (.ptr 0 0))]) (lo' := [_]) (new := []) [0] [(0,0,.ptr 0 0)] (k3) J J J J J J J J J J J J J J J J J ?_;refine z1 J (zz (zy (z0 J ?_)));refine Xq (lo := [_]) (gs := [(0,.c (.ptr 0 0))]) (lo' := [_]) (new := []) [0] [(0,0,.ptr 0 0)] (k4) J J J J J J J J J J J J J J J J J ?_;refine z1 J (zz (zy (z0 J (zx (Y8 J J J J (by omega)) J (z0 J (zx (Y8 J J J J (by omega)) J (z7 J (by omega) (z0 J (zx (Y8 J J J J (by omega)) J ?_)))))))));refine z7 J (by omega) (z0 J (z7 J (by omega) (z0 J (zx (q_rem J J J J (by omega)) J (z1 J (zz (Xa (F_r ?_))))))))
  exact Xl J J (Xs [0,1] (by decide) J J J)
def pickC_ (b : List UInt8) (xs : List Int) (c : Cu) : Int × Cu := (xs.getD (belowC b xs.length c).1.toNat 0,(belowC b xs.length c).2)
theorem S_l01PickInt (b : List UInt8) (xs : List Int) (c : Cu) (hb : b.length ≤ 1048576) (hc : c.i ≤ b.length) (hx : 0 < xs.length) (hx2 : xs.length ≤ 1000) : Con Tryd.prog 149 [cub b c,.gh 0 (.c (.ptr 0 0))] [.c (.ptr 0 0),al xs] [cub b (pickC_ b xs c).2,.gh 0 (.c (.ptr 0 0))] (I (pickC_ b xs c).1) := by
 have hl := X7 xs
 have k1 := Xr b xs.length c hb hc (by omega)
 have r1 := Xy (b := b) (n := xs.length) (c := c) (by omega)
 rw [pickC_]
 generalize belowC b xs.length c = p1 at k1 r1
 obtain ⟨x1,c1⟩ := p1
 simp only at k1 r1
 rw [← hl] at k1
 obtain ⟨i,rfl⟩ : ∃ i : Nat,x1 = i := ⟨x1.toNat,by omega⟩
 have hi : i < xs.length := by omega
 have he : (els xs)[(i : Int).toNat]? = some (Enc.e xs[i]) := by rw [Int.toNat_natCast,List.getElem?_map,List.getElem?_eq_getElem hi]; rfl
 rw [show xs.getD ((i : Int),c1).1.toNat 0 = xs[i] by simp [List.getD_eq_getElem?_getD,hi]]
 refine Con.of Tryd.func149 J Tryd.ntmps149 J (fun E => ?_)
 refine zy (z1 J (zz (zy (z0 J (z0 J (z0 J (zx (Y2 J J J) J ?_)))))));refine Xq (lo := [_]) (gs := [(0,.c (.ptr 0 0))]) (lo' := [_]) (new := []) [0] [(0,0,.ptr 0 0)] (k1) J J J J J J J J J J J J J J J J J ?_;refine zx (Q2 J J J J (by omega) (by assumption) J) J (zx (Y6 J J J J) J (z1 J (zz (Xa (F_r ?_)))))
 exact Xl J J (Xs [0,1] (by decide) J J J)
end
section
open Go.RowKit

def inputC (b : List UInt8) (c : Cu) : Int × Cu := pickC_ b [0,1,2,2,6,8,10,12,9,(belowC b 16 c).1] (belowC b 16 c).2
theorem pickC_ok {b : List UInt8} {xs : List Int} {c : Cu} (h : c.i ≤ b.length) : (pickC_ b xs c).2.i ≤ b.length := Xx h
theorem inputC_ok {b : List UInt8} {c : Cu} (h : c.i ≤ b.length) : (inputC b c).2.i ≤ b.length := pickC_ok (Xx h)
theorem pickC_all {b : List UInt8} {xs : List Int} {c : Cu} {q : Int → Prop} (h0 : 0 < xs.length) (h : ∀ x ∈ xs,q x) : q (pickC_ b xs c).1 := by
 have r := Xy (b := b) (n := xs.length) (c := c) (by omega)
 have hi : (belowC b xs.length c).1.toNat < xs.length := by omega
 simp only [pickC_,List.getD_eq_getElem?_getD,List.getElem?_eq_getElem hi,Option.getD_some]
 exact h _ (List.getElem_mem hi)
theorem inputC_rng (b : List UInt8) (c : Cu) : 0 ≤ (inputC b c).1 ∧ (inputC b c).1 ≤ 15 := by
 have r := Xy (b := b) (n := 16) (c := c) (by omega)
 refine pickC_all (q := fun x => 0 ≤ x ∧ x ≤ 15) (by simp) fun x hx => ?_
 simp only [List.mem_cons,List.not_mem_nil,or_false] at hx
 omega
def rowC (b : List UInt8) : Nat → Cu → List Int × Cu
 | 0,c => ([],c)
 | n + 1,c => ((rowC b n c).1 ++ [(inputC b (rowC b n c).2).1],(inputC b (rowC b n c).2).2)
theorem rowC_ok {b : List UInt8} {c : Cu} (h : c.i ≤ b.length) : ∀ n,(rowC b n c).2.i ≤ b.length
 | 0 => h
 | n + 1 => inputC_ok (rowC_ok h n)
theorem rowC_len {b : List UInt8} {c : Cu} : ∀ n,(rowC b n c).1.length = n
 | 0 => rfl
 | n + 1 => by rw [rowC,List.length_append,rowC_len n]; rfl
theorem rowC_rng {b : List UInt8} {c : Cu} : ∀ n,∀ x ∈ (rowC b n c).1,0 ≤ x ∧ x ≤ 15
 | 0,x,hx => by cases hx
 | n + 1,x,hx => by
  rw [rowC] at hx
  rcases List.mem_append.1 hx with h | h
  ·exact rowC_rng n x h
  ·rw [List.mem_singleton] at h; subst h; exact inputC_rng _ _
def rowsC (b : List UInt8) (n : Nat) : Nat → Cu → List (List Int) × Cu
 | 0,c => ([],c)
 | k + 1,c => ((rowsC b n k c).1 ++ List.replicate ((belowC b 4 (rowC b n (rowsC b n k c).2).2).1.toNat + 1) (rowC b n (rowsC b n k c).2).1,(belowC b 4 (rowC b n (rowsC b n k c).2).2).2)
theorem rowsC_ok {b : List UInt8} {n : Nat} {c : Cu} (h : c.i ≤ b.length) : ∀ k,(rowsC b n k c).2.i ≤ b.length
 | 0 => h
 | k + 1 => Xx (rowC_ok (rowsC_ok h k) n)
theorem rowsC_all {b : List UInt8} {n : Nat} {c : Cu} : ∀ k,∀ r ∈ (rowsC b n k c).1,r.length = n ∧ ∀ x ∈ r,0 ≤ x ∧ x ≤ 15
 | 0,r,hr => by cases hr
 | k + 1,r,hr => by
  rw [rowsC] at hr
  rcases List.mem_append.1 hr with h | h
  ·exact rowsC_all k r h
  ·rw [List.eq_of_mem_replicate h]
   exact ⟨rowC_len n,rowC_rng n⟩
theorem rowsC_len {b : List UInt8} {n : Nat} {c : Cu} : ∀ k,(rowsC b n k c).1.length ≤ 4 * k
 | 0 => by simp [rowsC]
 | k + 1 => by
  have h := rowsC_len (b := b) (n := n) (c := c) k
  have r := Xy (b := b) (n := 4) (c := (rowC b n (rowsC b n k c).2).2) (by omega)
  rw [rowsC,List.length_append,List.length_replicate]
  omega
def drawRows (b : List UInt8) (n : Nat) (most : Int) (c : Cu) : List (List Int) × Cu := rowsC b n (belowC b most c).1.toNat (belowC b most c).2
theorem S_l02Input (b : List UInt8) (c : Cu) (hb : b.length ≤ 1048576) (hc : c.i ≤ b.length) : Con Tryd.prog 127 [cub b c,.gh 0 (.c (.ptr 0 0))] [.c (.ptr 0 0)] [cub b (inputC b c).2,.gh 0 (.c (.ptr 0 0))] (I (inputC b c).1) := by
 have k1 := Xr b 16 c hb hc (by omega)
 have k2 := S_l01PickInt b [0,1,2,2,6,8,10,12,9,(belowC b 16 c).1] (belowC b 16 c).2 hb (Xx hc) (by simp) (by simp)
 rw [inputC]
 generalize belowC b 16 c = p1 at k1 k2
 obtain ⟨x1,c1⟩ := p1
 simp only at k1 k2
 generalize pickC_ b [0,1,2,2,6,8,10,12,9,x1] c1 = p2 at k2
 obtain ⟨x2,c2⟩ := p2
 simp only at k2
 refine Con.of Tryd.func127 J Tryd.ntmps127 J (fun E => ?_)
 refine zy (z1 J (zz (zy (z0 J (z0 J ?_)))));refine Xq (lo := [_]) (gs := [(0,.c (.ptr 0 0))]) (lo' := [_]) (new := []) [0] [(0,0,.ptr 0 0)] (k1) J J J J J J J J J J J J J J J J J ?_;refine M1 (Yt J J J J J J) J J ?_;refine AL.weak (Wk.sbrow (q := 2) J J (Nat.le_of_ble_eq_true J)) ?_;refine AL.freeze (p := 2) J ?_;refine AL.weak (st' := (⟨_,[(3,.o (.c (.ptr 0 0))),(6,.o (.c (.rd [] (sl [0,1,2,2,6,8,10,12,9,x1]))))],[cub b c1,.gh 0 (.c (.ptr 0 0))]⟩ : St)) (Xt [0,1] (by kernel_rfl)) ?_;refine Xq (lo := [_]) (gs := [(0,.c (.ptr 0 0))]) (lo' := [_]) (new := []) [0] [(0,0,.ptr 0 0)] (k2) J J J J J J J J J J J J J J J J J ?_;refine z1 J (zz (Xa (F_r ?_)))
 exact Xl J J (Xs [0,1] (by decide) J J J)
theorem S_l02Row (b : List UInt8) (n : Nat) (c : Cu) (hb : b.length ≤ 1048576) (hc : c.i ≤ b.length) (hn : n ≤ 1000) : Con Tryd.prog 106 [cub b c,.gh 0 (.c (.ptr 0 0))] [.c (.ptr 0 0),ai n] [cub b (rowC b n c).2,.gh 0 (.c (.ptr 0 0)),.row 1 (els (rowC b n c).1)] (.o (.c (.ref 2))) := by
 refine Con.of Tryd.func106 J Tryd.ntmps106 J (fun E => ?_)
 refine zy (z1 J (zz (zy (M1 (Yu J J J) J J (z1 J (zz (Qd ?_)))))));refine Qk ?_;refine Xi (fun m st => ∃ k : Nat,k + m = n ∧ (True) ∧ st = (⟨_,[(0,.o (.c (.ptr 0 0))),(1,I n),(5,.o (.c (.ref 2)))],[cub b (rowC b k c).2,.gh 0 (.c (.ptr 0 0)),.row 1 (els (rowC b k c).1)]⟩ : St)) (n) ⟨_,⟨0,by omega,trivial,J⟩,Xt [0,1,2] (by kernel_rfl)⟩ ?_
 rintro m_A _ ⟨k,hk_A,hp_A,rfl⟩
 have hl := X7 (rowC b k c).1
 have hl2 := rowC_len (b := b) (c := c) k
 by_cases hlt : k < n
 ·have f0 : decide (((els (rowC b k c).1).length : Int) < n) = true := decide_eq_true (by omega)
  have k1 := S_l02Input b (rowC b k c).2 hb (rowC_ok hc k)
  refine Qd (zy (z0 J (zx (Y3 J J J J) J (z0 J (z9a J (by assumption) (zz (Qm J (Qh (Q0 ?_)))))))));refine Qk (Qc (z0 J (z0 J ?_)));refine Xq (lo := [_]) (gs := [(0,.c (.ptr 0 0))]) (lo' := [_]) (new := []) [0] [(0,0,.ptr 0 0)] (k1) J J J J J J J J J J J J J J J J J ?_;refine M1 (Yt J J J J J J) J J ?_;refine Xp J J J J J J J J J J (by omega) (by omega) ?_;refine z1 J (Qe (Q1 (Q0 ?_)))
  exact ⟨n - (k + 1),by omega,_,⟨k + 1,by omega,trivial,J⟩,(by rw [rowC,X5]; exact Xt [0,1,2] (by kernel_rfl))⟩
 ·have f0 : decide (((els (rowC b k c).1).length : Int) < n) = false := decide_eq_false (by omega)
  have hk : k = n := by omega
  subst hk
  refine Qd (zy (z0 J (zx (Y3 J J J J) J (z0 J (z9a J (by assumption) (zz (Ql J (Q9 (T_x ?_)))))))));refine T_x (Xj (Q0 (zy (z0 J (z1 J (zz (Xa (F_r ?_))))))))
  exact Xl J J (Xs [0,1,2] (by decide) J J J)
theorem rw3s {a b : Ob} {x y : List T} (h : x = y) : [a,b,Ob.shr x] = [a,b,Ob.shr y] := by rw [h]
theorem S_l02Rows (b : List UInt8) (n : Nat) (most : Int) (c : Cu) (hb : b.length ≤ 1048576) (hc : c.i ≤ b.length) (hn : n ≤ 1000) (hm : 1 ≤ most ∧ most ≤ 256) : Con Tryd.prog 66 [cub b c,.gh 0 (.c (.ptr 0 0))] [.c (.ptr 0 0),ai n,ai most] [cub b (drawRows b n most c).2,.gh 0 (.c (.ptr 0 0))] (.o (.c (.rd [] (sl (drawRows b n most c).1)))) := by
 have k1 := Xr b most c hb hc (by omega)
 have r1 := Xy (b := b) (n := most) (c := c) (by omega)
 have o1 := Xx (n := most) hc
 rw [drawRows]
 generalize belowC b most c = p1 at k1 r1 o1
 obtain ⟨x1,c1⟩ := p1
 simp only at k1 r1 o1
 obtain ⟨N0,rfl⟩ : ∃ N0 : Nat,x1 = N0 := ⟨x1.toNat,by omega⟩
 simp only [Int.toNat_natCast]
 refine Con.of Tryd.func66 J Tryd.ntmps66 J (fun E => ?_)
 refine zy (z1 J (zz (zy (M1 (Yu J J J) J J (z1 J (zz (Qd ?_)))))));refine zy (z0 J (z0 J ?_));refine AL.weak (Wk.toshr (p := 2) J) ?_;refine AL.weak (st' := (⟨_,[(0,.o (.c (.ptr 0 0))),(1,I n),(2,I most),(7,.o (.c (.ref 2))),(12,.o (.c (.ptr 0 0))),(13,I most)],[cub b c,.gh 0 (.c (.ptr 0 0)),.shr []]⟩ : St)) (Xt [0,1,2] (by kernel_rfl)) ?_;refine Xq (lo := [_]) (gs := [(0,.c (.ptr 0 0))]) (lo' := [_]) (new := []) [0] [(0,0,.ptr 0 0)] (k1) J J J J J J J J J J J J J J J J J ?_;refine z1 J (zz (Qk ?_));refine Xi (fun m st => ∃ k : Nat,k + m = N0 ∧ (True) ∧ st = (⟨_,[(0,.o (.c (.ptr 0 0))),(1,I n),(7,.o (.c (.ref 2))),(8,I ((N0 : Int) - k))],[cub b (rowsC b n k c1).2,.gh 0 (.c (.ptr 0 0)),.shr ((rowsC b n k c1).1.map sl)]⟩ : St)) (N0) ⟨(fun k : Nat => (⟨_,[(0,.o (.c (.ptr 0 0))),(1,I n),(7,.o (.c (.ref 2))),(8,I ((N0 : Int) - k))],[cub b (rowsC b n k c1).2,.gh 0 (.c (.ptr 0 0)),.shr ((rowsC b n k c1).1.map sl)]⟩ : St)) 0,⟨0,by omega,trivial,J⟩,Xu [0,1,2] (by decide) J (by kernel_rfl) (.c J (.c J (.c J (.cons (Xo (by omega)) (.nil)))))⟩ ?_
 rintro m_A _ ⟨k,hk_A,hp_A,rfl⟩
 by_cases hlt : k < N0
 ·have f0 : decide ((N0 : Int) - k > 0) = true := decide_eq_true (by omega)
  have f1 : decide (0 < (N0 : Int) - k) = true := decide_eq_true (by omega)
  have k2 := S_l02Row b n (rowsC b n k c1).2 hb (rowsC_ok o1 k) hn
  have k3 := Xr b 4 (rowC b n (rowsC b n k c1).2).2 hb (rowC_ok (rowsC_ok o1 k) n) (by omega)
  have r3 := Xy (b := b) (n := 4) (c := (rowC b n (rowsC b n k c1).2).2) (by omega)
  have hnext : rowsC b n (k + 1) c1 = ((rowsC b n k c1).1 ++ List.replicate ((belowC b 4 (rowC b n (rowsC b n k c1).2).2).1.toNat + 1) (rowC b n (rowsC b n k c1).2).1,(belowC b 4 (rowC b n (rowsC b n k c1).2).2).2) := rfl
  have hlk := rowsC_len (b := b) (n := n) (c := c1) k
  generalize belowC b 4 (rowC b n (rowsC b n k c1).2).2 = p3 at k3 r3 hnext
  obtain ⟨x3,c3⟩ := p3
  generalize rowC b n (rowsC b n k c1).2 = p2 at k2 k3 hnext
  obtain ⟨row,c2⟩ := p2
  simp only at k2 k3 r3 hnext
  obtain ⟨q,rfl⟩ : ∃ q : Nat,x3 = q := ⟨x3.toNat,by omega⟩
  simp only [Int.toNat_natCast] at hnext
  refine Qd (zy (z0 J (z9c J (by assumption) (zz (Qm J (Qh (Q0 (Qd (Qk ?_)))))))));refine zy (z0 J (z0 J ?_));refine Xq (lo := [_]) (gs := [(0,.c (.ptr 0 0))]) (lo' := [_]) (new := [_]) [0] [(0,0,.ptr 0 0)] (k2) J J J J J J J J J J J J J J J J J ?_;refine z1 J (zz (zy (z0 J ?_)));refine AL.freeze (p := 3) J ?_;refine AL.weak (st' := (⟨_,[(0,.o (.c (.ptr 0 0))),(22,.o (.c (.ptr 0 0))),(1,I n),(7,.o (.c (.ref 2))),(8,I ((N0 : Int) - k)),(9,.o (.c (.rd [] (sl row))))],[cub b c2,.gh 0 (.c (.ptr 0 0)),.shr ((rowsC b n k c1).1.map sl)]⟩ : St)) (Xt [0,1,2] (by kernel_rfl)) ?_;refine Xq (lo := [_]) (gs := [(0,.c (.ptr 0 0))]) (lo' := [_]) (new := []) [0] [(0,0,.ptr 0 0)] (k3) J J J J J J J J J J J J J J J J J ?_;refine z1 J (zz (Qk ?_));refine Xi (fun m st => ∃ i : Nat,i + m = (q + 1) ∧ (True) ∧ st = (⟨_,[(0,.o (.c (.ptr 0 0))),(1,I n),(7,.o (.c (.ref 2))),(8,I ((N0 : Int) - k)),(9,.o (.c (.rd [] (sl row)))),(10,I ((q : Int) - i))],[cub b c3,.gh 0 (.c (.ptr 0 0)),.shr ((rowsC b n k c1).1.map sl ++ List.replicate i (sl row))]⟩ : St)) ((q + 1)) ⟨(fun i : Nat => (⟨_,[(0,.o (.c (.ptr 0 0))),(1,I n),(7,.o (.c (.ref 2))),(8,I ((N0 : Int) - k)),(9,.o (.c (.rd [] (sl row)))),(10,I ((q : Int) - i))],[cub b c3,.gh 0 (.c (.ptr 0 0)),.shr ((rowsC b n k c1).1.map sl ++ List.replicate i (sl row))]⟩ : St)) 0,⟨0,by omega,trivial,J⟩,Xu [0,1,2] (by decide) J (rw3s (by simp)) (.c J (.c J (.c J (.c J (.c J (.cons (Xo (by omega)) (.nil)))))))⟩ ?_
  rintro m_B _ ⟨i,hk_B,hp_B,rfl⟩
  by_cases hli : i < q + 1
  ·have g0 : decide ((q : Int) - i ≥ 0) = true := decide_eq_true (by omega)
   have g1 : decide (0 ≤ (q : Int) - i) = true := decide_eq_true (by omega)
   have hll : ((rowsC b n k c1).1.map sl ++ List.replicate i (sl row)).length = (rowsC b n k c1).1.length + i := by simp
   refine Qd (zy (z0 J (z9d J (by assumption) (zz (Qm J (Qh (Q0 (Qd (Qk ?_)))))))));refine Qc (z0 J (z0 J (M1 (Yt J J J J J J) J J ?_)));refine L_appshr J J J J J J (by omega) (by omega) J ?_;refine z1 J (Qe (Q1 (Q0 (Qc (z0 J (z8 J (by omega) (z1 J (zz ?_))))))))
   exact ⟨(q + 1) - (i + 1),by omega,(fun i : Nat => (⟨_,[(0,.o (.c (.ptr 0 0))),(1,I n),(7,.o (.c (.ref 2))),(8,I ((N0 : Int) - k)),(9,.o (.c (.rd [] (sl row)))),(10,I ((q : Int) - i))],[cub b c3,.gh 0 (.c (.ptr 0 0)),.shr ((rowsC b n k c1).1.map sl ++ List.replicate i (sl row))]⟩ : St)) (i + 1),⟨i + 1,by omega,trivial,J⟩,Xu [0,1,2] (by decide) J (rw3s (by rw [List.append_assoc,← List.replicate_succ'])) (.c J (.c J (.c J (.c J (.c J (.cons (Xo (by omega)) (.nil)))))))⟩
  ·have g0 : decide ((q : Int) - i ≥ 0) = false := decide_eq_false (by omega)
   have g1 : decide (0 ≤ (q : Int) - i) = false := decide_eq_false (by omega)
   have hi : i = q + 1 := by omega
   subst hi
   refine Qd (zy (z0 J (z9d J (by assumption) (zz (Ql J (Q9 (T_x (T_x (Xj ?_)))))))));refine Q1 (Q0 (Qc (z0 J (z8 J (by omega) (z1 J (zz ?_))))))
   exact ⟨N0 - (k + 1),by omega,(fun k : Nat => (⟨_,[(0,.o (.c (.ptr 0 0))),(1,I n),(7,.o (.c (.ref 2))),(8,I ((N0 : Int) - k))],[cub b (rowsC b n k c1).2,.gh 0 (.c (.ptr 0 0)),.shr ((rowsC b n k c1).1.map sl)]⟩ : St)) (k + 1),⟨k + 1,by omega,trivial,J⟩,Xu [0,1,2] (by decide) J ((by rw [hnext,List.map_append,List.map_replicate]; rfl)) (.c J (.c J (.c J (.cons (Xo (by omega)) (.nil)))))⟩
 ·have f0 : decide ((N0 : Int) - k > 0) = false := decide_eq_false (by omega)
  have f1 : decide (0 < (N0 : Int) - k) = false := decide_eq_false (by omega)
  have hk : k = N0 := by omega
  subst hk
  have hsl : T.sl 1 (((rowsC b n k c1).1.map sl).map fun t => [t]) = sl (rowsC b n k c1).1 := by rw [List.map_map]; rfl
  refine AWP.freezeS (p := 2) J ?_
  rw [hsl]
  refine AWP.pre (st' := (⟨_,[(0,.o (.c (.ptr 0 0))),(7,.o (.c (.rd [] (sl (rowsC b n k c1).1)))),(8,I ((k : Int) - k))],[cub b (rowsC b n k c1).2,.gh 0 (.c (.ptr 0 0))]⟩ : St)) ?_ (Xt [0,1] (by kernel_rfl))
  refine Qd (zy (z0 J (z9c J (by assumption) (zz (Ql J (Q9 (T_x (T_x (Xj ?_)))))))));refine Q0 (zy (z0 J (z1 J (zz (Xa (F_r ?_))))))
  exact Xl J J (Xs [0,1] (by decide) J J J)
end
end Go.Proofs.YtcjclaoogdblbaaDoor
