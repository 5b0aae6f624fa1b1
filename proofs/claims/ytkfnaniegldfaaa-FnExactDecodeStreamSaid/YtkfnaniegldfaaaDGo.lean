/-
  The rules in the form in which a walk uses them, continued. No statement of the program is proved here.
  Conditions: none.
-/
import Derived.Test.YtkfnaniegldfaaaDLit
import Derived.KernelRfl
namespace Go.Proofs.Ytkfnaniegldfaaa
open Go.RowKit

def nodupB : List Nat → Bool
  | [] => true
  | x :: xs => !memN xs x && nodupB xs
theorem nodupB_spec : ∀ {xs : List Nat}, nodupB xs = true → xs.Nodup
  | [], _ => List.nodup_nil
  | x :: xs, h => by
    simp only [nodupB, Bool.and_eq_true, Bool.not_eq_true'] at h
    exact List.nodup_cons.2 ⟨memN_not h.1, nodupB_spec h.2⟩

section
variable {P : Program} {E : Env} {ops : Array Oper} {o : Oper} {n : Nat} {ts : List (Nat × V)} {obs : List Ob} {rest : List Oper} {Q : Exit → St → Prop} {d : Nat} {fn : Func} {objs' : List Ob} {res x : V} {st : St}

theorem Qt.yes {j e : Nat} {b : Bool} {ps : List Nat} {obs1 : List Ob} {m : Nat} (hg : o.guard = some (j, b)) (hj : (ops[j]?).bind (·.dst) = some e) (hy : look st.tmps e = .o (.c (.rd ps (.v (.bool b)))))
    (h : Qt P ops ⟨o.dst, o.op, o.type, o.pos, o.after, none⟩ st x obs1 m) : Qt P ops o st x obs1 m := by
  refine ⟨fun a w H F Q K hr hf hK => ?_⟩
  have h1 := h.h a w H F Q K hr hf hK
  have h3 := hr.tmp e
  rw [hy] at h3
  have h4 : a.tmps.getD e undef = .bool b := (RO.plain h3).1
  have hlt : e < a.tmps.size := by
    rcases Nat.lt_or_ge e a.tmps.size with h | h
    · exact h
    · rw [Array.getD_eq_getD_getElem?, Array.getElem?_eq_none h] at h4
      cases h4
  have h5 : a.tmps[e]? = some (.bool b) := by
    rw [Array.getD_eq_getD_getElem?, Array.getElem?_eq_getElem hlt] at h4
    rw [Array.getElem?_eq_getElem hlt]
    exact congrArg some h4
  rw [if_pos (by rfl)] at h1
  rw [if_pos (by simp [Region.wanted, hg, yielded, hj, h5])]
  exact h1
theorem Qt.no {j e : Nat} {b y : Bool} {ps : List Nat} {m : Nat} (hg : o.guard = some (j, b)) (hj : (ops[j]?).bind (·.dst) = some e) (hy : look st.tmps e = .o (.c (.rd ps (.v (.bool y))))) (hne : (y != b) = true) : Qt P ops o st NO [] m := by
  refine ⟨fun a w H F Q K hr hf hK => ?_⟩
  have h3 := hr.tmp e
  rw [hy] at h3
  have h4 : a.tmps.getD e undef = .bool y := (RO.plain h3).1
  have hlt : e < a.tmps.size := by
    rcases Nat.lt_or_ge e a.tmps.size with h | h
    · exact h
    · rw [Array.getD_eq_getD_getElem?, Array.getElem?_eq_none h] at h4
      cases h4
  have h5 : a.tmps[e]? = some (.bool y) := by
    rw [Array.getD_eq_getD_getElem?, Array.getElem?_eq_getElem hlt] at h4
    rw [Array.getElem?_eq_getElem hlt]
    exact congrArg some h4
  have hne' : y ≠ b := by simpa using hne
  rw [if_neg (by simp [Region.wanted, hg, yielded, hj, h5, hne'])]
  exact hK undef w H F (Grow.refl w H F) hr.ok (fun i ob hi => by simp at hi) (fun p hp _ => hp) ⟨fun h => by simp at h, fun _ _ _ => rfl⟩

section
variable {y z : Operand} {t t' : TypeId} {k : IntKind} {i j : Int} {qs : List Nat}
theorem M_ste1 {p kk i j : Nat} {es : List (List T)} {e : List T} {c : V1} {u : T} {rs : List Nat} [TyOne P t] (ho : o.op = .store t y z) (hg : o.guard = none) (hd : o.dst = none) (hy : St.ev ⟨n, ts, obs⟩ y = .o (.c (.el p kk i j))) (hz : St.ev ⟨n, ts, obs⟩ z = .o (.c c)) (hp : obs[p]? = some (.row kk es)) (hu : tkT obs c = u) (hrs : tkR c = rs)
    (hok : tkOk obs c = true) (he : es[i]? = some e) (hj : Nat.ble (j + 1) e.length = true) (hnd : nodupB (p :: rs) = true)
    (h : AL P E ops Q rest ⟨n, ts.map fun e => (e.1, e.2.kille p rs), gone ((obs.map (Ob.kille p rs)).set p (.row kk (es.set i (splice e j [u])))) rs⟩) : AL P E ops Q (o :: rest) ⟨n, ts, obs⟩ := by
  subst hu hrs
  exact L_ste1 ho hg hd hy hz hp he (Nat.le_of_ble_eq_true hj) hok (nodupB_spec hnd) h
theorem M_steN {p kk i j n' : Nat} {es : List (List T)} {e : List T} {ds : List V1} {us : List T} {rs : List Nat} [hr' : TyRow P t n'] (ho : o.op = .store t y z) (hg : o.guard = none) (hd : o.dst = none) (hy : St.ev ⟨n, ts, obs⟩ y = .o (.c (.el p kk i j))) (hz : St.ev ⟨n, ts, obs⟩ z = .o (.ag ds)) (hp : obs[p]? = some (.row kk es)) (hl : ds.length = n') (hu : ds.map (tkT obs) = us) (hrs : ds.flatMap tkR = rs)
    (hok : ds.all (tkOk obs) = true) (he : es[i]? = some e) (hj : Nat.ble (j + ds.length) e.length = true) (hnd : nodupB (p :: rs) = true)
    (h : AL P E ops Q rest ⟨n, ts.map fun e => (e.1, e.2.kille p rs), gone ((obs.map (Ob.kille p rs)).set p (.row kk (es.set i (splice e j us)))) rs⟩) : AL P E ops Q (o :: rest) ⟨n, ts, obs⟩ := by
  subst hu hrs
  exact L_steN ho hg hd hy hz hp he hl (Nat.le_of_ble_eq_true hj) hok (nodupB_spec hnd) h
theorem M_appo {p q kk : Nat} {es : List (List T)} {ds : List V1} {e : TypeId} {zs : List Value} {by_ : Nat} {us : List T} {rs : List Nat} [hm : TyMake P t e zs by_] (ho : o.op = .call { callee := .builtin .append, args := #[y, z], argTypes := #[t, t] }) (hg : o.guard = none) (hy : St.ev ⟨n, ts, obs⟩ y = .o (.c (.ref p))) (hp : obs[p]? = some (.row kk es)) (hz : St.ev ⟨n, ts, obs⟩ z = .o (.c (.sb q 1 kk))) (hq : obs[q]? = some (.box ds))
    (hkz : kk = zs.length) (hz0 : zs.isEmpty = false) (hok : ds.all (tkOk obs) = true) (hu : ds.map (tkT obs) = us) (hrs : ds.flatMap tkR = rs) (hnd : nodupB (p :: rs) = true) (hd : o.dst = some d) (hl : Nat.blt d n = true) (hb : (es.length + 1) * by_ ≤ 140737488355328) (h63 : es.length + 1 ≤ 9223372036854775807)
    (h : AL P E ops Q rest ⟨n, (d, .o (.c (.ref p))) :: (ts.map fun e => (e.1, e.2.kill (p :: rs))), gone ((obs.map (Ob.kill (p :: rs))).set p (.row kk (es ++ [us]))) rs⟩) : AL P E ops Q (o :: rest) ⟨n, ts, obs⟩ := by
  subst hu hrs
  exact L_appo ho hg hy hp hz hq hkz (by intro e; rw [e] at hz0; cases hz0) hok (nodupB_spec hnd) hb h63 (by rw [hd]; exact hl) (by rw [hd]; exact h)
end

section
variable {y z : Operand} {t t' : TypeId} {ps qs : List Nat} {m : Nat} {u v b : Bool}
theorem run_eqin {w : World} [hb : TyBool P t] (d : Nat) (u v : Bool) : (Op.equalIn (d + 1) t (.bool u) (.bool v)).run P w = .ok (u == v) w := by
  rw [Op.equalIn]
  simp [run_underlying hb.bool]
theorem run_beq {w : World} [hb : TyBool P t] (u v : Bool) : (binOp .eql t (.bool u) (.bool v)).run P w = .ok (.bool (u == v)) w := by
  have h := run_eqin (P := P) (t := t) (w := w) 9999 u v
  simp only [binOp, Op.equal, show Op.maxDepth = 9999 + 1 from rfl]
  simp [h]
theorem run_bne {w : World} [hb : TyBool P t] (u v : Bool) : (binOp .neq t (.bool u) (.bool v)).run P w = .ok (.bool (!(u == v))) w := by
  have h := run_eqin (P := P) (t := t) (w := w) 9999 u v
  simp only [binOp, Op.equal, show Op.maxDepth = 9999 + 1 from rfl]
  simp [h]
theorem q_bneq [TyBool P t] (ho : o.op = .binOp .neq t y z t') (hg : o.guard = none) (hy : st.ev y = .o (.c (.rd ps (.v (.bool u))))) (hz : st.ev z = .o (.c (.rd qs (.v (.bool v))))) : Qt P ops o st (B (!(u == v))) [] m :=
  .pure hg fun a w H F hr => ⟨.bool (!(u == v)), by
    have h1 := hr.plain hy
    have h2 := hr.plain hz
    simp only [execOp, ho, h1, h2, eqGuard]
    simp [run_bne], plainV _ rfl⟩
theorem q_beql [TyBool P t] (ho : o.op = .binOp .eql t y z t') (hg : o.guard = none) (hy : st.ev y = .o (.c (.rd ps (.v (.bool u))))) (hz : st.ev z = .o (.c (.rd qs (.v (.bool v))))) : Qt P ops o st (B (u == v)) [] m :=
  .pure hg fun a w H F hr => ⟨.bool (u == v), by
    have h1 := hr.plain hy
    have h2 := hr.plain hz
    simp only [execOp, ho, h1, h2, eqGuard]
    simp [run_beq], plainV _ rfl⟩
/-- A call of a function value. -/
theorem q_callv {f : FuncId} [hf : FunOk P f] {y : Operand} {as : Array Operand} {tys : Array TypeId} {args : List V2} {objs' : List Ob} {res : V} (ho : o.op = .call { callee := .value y, args := as, argTypes := tys }) (hg : o.guard = none) (hy : st.ev y = .o (.c (.rd ps (.v (.func (.func f) #[] #[])))))
    (hc : Con P f [] args objs' res) (ha : as.toList.map (fun y => lend2 st.objs (st.ev y)) = args) (hcl : res.closed = true) (hob : objs'.all Ob.closed = true) : Qt P ops o st (res.ren (m + ·)) (objs'.map (Ob.ren (m + ·))) m := by
  have h0 : Qt P ops { o with op := .call { callee := .value (.func f), args := as, argTypes := tys } } st (res.ren (m + ·)) (objs'.map (Ob.ren (m + ·))) m := q_call (f := f) rfl hg hc ha hcl hob
  refine ⟨fun a w H F Q K hr hfree hK => ?_⟩
  have h1 := h0.h a w H F Q K hr hfree hK
  rw [if_pos (by unfold Region.wanted; rw [hg])] at h1 ⊢
  have h2 : execOp a.eval o = execOp a.eval { o with op := .call { callee := .value (.func f), args := as, argTypes := tys } } := by
    have h3 := hr.plain hy
    simp only [execOp, ho, resolve, Act.eval] at h3 ⊢
    cases y <;> simp_all
  unfold Oper.wp at h1 ⊢
  rw [h2]
  exact h1
end

/-- A nil in slot d becomes a slice of one's own (elements of k cells). -/
theorem W_nil (d k : Nat) {qs : List Nat} (hx : look ts d = .o (.c (.rd qs (.v (.slice none 0 0))))) : Wk ⟨n, ts, obs⟩ ⟨n, (d, .o (.c (.ref obs.length))) :: ts, obs ++ [.row k []]⟩ := Wk.nils (st := ⟨n, ts, obs⟩) d [k] hx rfl
/-- Fewer pieces and slots (ρ: the old numbers of those that stay). -/
theorem W_go {tmps : List (Nat × V)} {objs : List Ob} (ρ : List Nat) (hnd : ρ.Nodup) (hl : objs.length = ρ.length) (ho : objs.map (Ob.ren (rho ρ obs.length)) = ρ.map fun p => obs.getD p .gone) (ht : Wl ts (tmps.map fun e => (e.1, e.2.ren (rho ρ obs.length)))) : Wk ⟨n, ts, obs⟩ ⟨n, tmps, objs⟩ :=
  Wk.ren (st := ⟨n, ts, obs⟩) ρ objs tmps hnd hl ho ht
theorem AWP.pre {c : Code} {st st' : St} (h : AWP P E c Q st') (hw : Wk st st') : AWP P E c Q st := h.weak hw
theorem AL.weak {l : List Oper} {st st' : St} (hw : Wk st st') (h : AL P E ops Q l st') : AL P E ops Q l st := ⟨fun a w hr => h.h a w (hr.weak hw)⟩
end
end Go.Proofs.Ytkfnaniegldfaaa
