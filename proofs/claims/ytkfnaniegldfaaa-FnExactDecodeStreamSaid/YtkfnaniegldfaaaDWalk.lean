/-
  The rules in the form in which a walk uses them: the state written out. No statement of the program is proved here.
  Conditions: none.
-/
import Derived.Test.YtkfnaniegldfaaaDFin
namespace Go.Proofs.Ytkfnaniegldfaaa
open Go.RowKit

section
variable {P : Program} {E : Env} {ops : Array Oper} {o : Oper} {n : Nat} {ts : List (Nat × V)} {obs : List Ob} {rest : List Oper} {Q : Exit → St → Prop} {d : Nat} {fn : Func} {objs' : List Ob} {res x : V} {st : St}

theorem F_r (h : Ends P fn objs' res st) : Fin P fn objs' res .ret st := ⟨h⟩
theorem F_n (h : Ends P fn objs' res st) : Fin P fn objs' res .normal st := ⟨h⟩

/-- an operation that makes nothing new -/
theorem M0 (hq : Qt P ops o ⟨n, ts, obs⟩ x [] obs.length) (hd : o.dst = some d) (hl : Nat.blt d n = true) (h : AL P E ops Q rest ⟨n, (d, x) :: ts, obs⟩) : AL P E ops Q (o :: rest) ⟨n, ts, obs⟩ :=
  L_q0 hq (by rw [hd]; exact hl) (by rw [hd]; exact h)
/-- an operation that makes new pieces -/
theorem M1 {obs1 : List Ob} (hq : Qt P ops o ⟨n, ts, obs⟩ x obs1 obs.length) (hd : o.dst = some d) (hl : Nat.blt d n = true) (h : AL P E ops Q rest ⟨n, (d, x) :: ts, obs ++ obs1⟩) : AL P E ops Q (o :: rest) ⟨n, ts, obs⟩ :=
  L_q hq (by rw [hd]; exact hl) (by rw [hd]; exact h)
/-- an operation whose guard says yes, no -/
theorem M_yes {j e : Nat} {b : Bool} {ps : List Nat} (hg : o.guard = some (j, b)) (hj : (ops[j]?).bind (·.dst) = some e) (hy : look ts e = .o (.c (.rd ps (.v (.bool b)))))
    (h : AL P E ops Q (⟨o.dst, o.op, o.type, o.pos, o.after, none⟩ :: rest) ⟨n, ts, obs⟩) : AL P E ops Q (o :: rest) ⟨n, ts, obs⟩ := L_yes hg hj hy h
theorem M_no {j e : Nat} {b y : Bool} {ps : List Nat} (hg : o.guard = some (j, b)) (hj : (ops[j]?).bind (·.dst) = some e) (hy : look ts e = .o (.c (.rd ps (.v (.bool y))))) (hne : (y != b) = true) (hd : o.dst = some d) (hl : Nat.blt d n = true)
    (h : AL P E ops Q rest ⟨n, (d, NO) :: ts, obs⟩) : AL P E ops Q (o :: rest) ⟨n, ts, obs⟩ := L_no hg hj hy hne (by rw [hd]; exact hl) (by rw [hd]; exact h)
theorem M_noo {j e : Nat} {b y : Bool} {ps : List Nat} (hg : o.guard = some (j, b)) (hj : (ops[j]?).bind (·.dst) = some e) (hy : look ts e = .o (.c (.rd ps (.v (.bool y))))) (hne : (y != b) = true) (hd : o.dst = none)
    (h : AL P E ops Q rest ⟨n, ts, obs⟩) : AL P E ops Q (o :: rest) ⟨n, ts, obs⟩ := L_no hg hj hy hne (by rw [hd]; rfl) (by rw [hd]; exact h)

section
variable {y z : Operand} {t t' : TypeId} {k : IntKind} {i j : Int} {qs : List Nat}
theorem M_st1 {p m : Nat} {cs : List V1} {c : V1} [TyOne P t] (ho : o.op = .store t y z) (hg : o.guard = none) (hd : o.dst = none) (hy : St.ev ⟨n, ts, obs⟩ y = .o (.c (.ptr p m))) (hz : St.ev ⟨n, ts, obs⟩ z = .o (.c c)) (hp : obs[p]? = some (.box cs)) (hm : Nat.blt m cs.length = true) (hk : c.known = true)
    (h : AL P E ops Q rest ⟨n, ts, obs.set p (.box (cs.set m c))⟩) : AL P E ops Q (o :: rest) ⟨n, ts, obs⟩ := L_st1 ho hg hd hy hz hp (Nat.le_of_ble_eq_true hm) hk h
theorem M_stN {p m n' : Nat} {cs ds : List V1} [hr : TyRow P t n'] (ho : o.op = .store t y z) (hg : o.guard = none) (hd : o.dst = none) (hy : St.ev ⟨n, ts, obs⟩ y = .o (.c (.ptr p m))) (hz : St.ev ⟨n, ts, obs⟩ z = .o (.ag ds)) (hp : obs[p]? = some (.box cs)) (hl : ds.length = n') (hm : Nat.ble (m + ds.length) cs.length = true) (hk : ds.all V1.known = true)
    (h : AL P E ops Q rest ⟨n, ts, obs.set p (.box (setFrom cs m ds))⟩) : AL P E ops Q (o :: rest) ⟨n, ts, obs⟩ := L_stN ho hg hd hy hz hp hl (Nat.le_of_ble_eq_true hm) hk h
theorem M_app {p kk : Nat} {es es' : List (List T)} {x : V1} {e : TypeId} {zs : List Value} {by_ : Nat} [hm : TyMake P t e zs by_] (ho : o.op = .call { callee := .builtin .append, args := #[y, z], argTypes := #[t, t] }) (hg : o.guard = none) (hy : St.ev ⟨n, ts, obs⟩ y = .o (.c (.ref p))) (hp : obs[p]? = some (.row kk es)) (hz : St.ev ⟨n, ts, obs⟩ z = .o (.c x)) (hs : srcOf obs x = some es')
    (hkz : kk = zs.length) (hz0 : zs.isEmpty = false) (hd : o.dst = some d) (hl : Nat.blt d n = true) (hpl : plainT es') (hkk : ∀ e ∈ es', e.length = kk) (hb : (es.length + es'.length) * by_ ≤ 140737488355328) (h63 : es.length + es'.length ≤ 9223372036854775807)
    (h : AL P E ops Q rest ⟨n, (d, .o (.c (.ref p))) :: (ts.map fun e => (e.1, e.2.kill [p])), (obs.map (Ob.kill [p])).set p (.row kk (es ++ es'))⟩) : AL P E ops Q (o :: rest) ⟨n, ts, obs⟩ :=
  L_app ho hg hy hp hz hs hkz (by intro e; rw [e] at hz0; cases hz0) hpl hkk hb h63 (by rw [hd]; exact hl) (by rw [hd]; exact h)
theorem M_appnil {es' : List (List T)} {x : V1} {e : TypeId} {zs : List Value} {by_ : Nat} [hm : TyMake P t e zs by_] (ho : o.op = .call { callee := .builtin .append, args := #[y, z], argTypes := #[t, t] }) (hg : o.guard = none) (hy : St.ev ⟨n, ts, obs⟩ y = .o (.c (.rd qs (.v (.slice none 0 0))))) (hz : St.ev ⟨n, ts, obs⟩ z = .o (.c x)) (hs : srcOf obs x = some es')
    (hz0 : zs.isEmpty = false) (hd : o.dst = some d) (hl : Nat.blt d n = true) (hpl : plainT es') (hkk : ∀ e ∈ es', e.length = zs.length) (hb : es'.length * by_ ≤ 140737488355328) (h63 : es'.length ≤ 9223372036854775807)
    (h : AL P E ops Q rest ⟨n, (d, .o (.c (.ref obs.length))) :: ts, obs ++ [.row zs.length es']⟩) : AL P E ops Q (o :: rest) ⟨n, ts, obs⟩ :=
  L_appnil ho hg hy hz hs (by intro e; rw [e] at hz0; cases hz0) hpl hkk hb h63 (by rw [hd]; exact hl) (by rw [hd]; exact h)
end

/-! ### Tests whose outcome is known -/
section
variable {y z : Operand} {t t' : TypeId} {k : IntKind} {i j : Int} {ps qs : List Nat} {b : Bool} {st : St} {m : Nat}
theorem q_lssK (ho : o.op = .binOp .lss t y z t') (hg : o.guard = none) (hy : st.ev y = .o (.c (.rd ps (.v (.int k i))))) (hz : st.ev z = .o (.c (.rd qs (.v (.int k j))))) (hb : decide (i < j) = b) : Qt P ops o st (B b) [] m := hb ▸ q_lss ho hg hy hz
theorem q_leqK (ho : o.op = .binOp .leq t y z t') (hg : o.guard = none) (hy : st.ev y = .o (.c (.rd ps (.v (.int k i))))) (hz : st.ev z = .o (.c (.rd qs (.v (.int k j))))) (hb : decide (i ≤ j) = b) : Qt P ops o st (B b) [] m := hb ▸ q_leq ho hg hy hz
theorem q_gtrK (ho : o.op = .binOp .gtr t y z t') (hg : o.guard = none) (hy : st.ev y = .o (.c (.rd ps (.v (.int k i))))) (hz : st.ev z = .o (.c (.rd qs (.v (.int k j))))) (hb : decide (j < i) = b) : Qt P ops o st (B b) [] m := hb ▸ q_gtr ho hg hy hz
theorem q_geqK (ho : o.op = .binOp .geq t y z t') (hg : o.guard = none) (hy : st.ev y = .o (.c (.rd ps (.v (.int k i))))) (hz : st.ev z = .o (.c (.rd qs (.v (.int k j))))) (hb : decide (j ≤ i) = b) : Qt P ops o st (B b) [] m := hb ▸ q_geq ho hg hy hz
theorem q_eqlK (ho : o.op = .binOp .eql t y z t') (hg : o.guard = none) (hy : st.ev y = .o (.c (.rd ps (.v (.int k i))))) (hz : st.ev z = .o (.c (.rd qs (.v (.int k j))))) (hb : decide (i = j) = b) : Qt P ops o st (B b) [] m := hb ▸ q_eql ho hg hy hz
theorem q_seqlK {s u : ByteArray} (ho : o.op = .binOp .eql t y z t') (hg : o.guard = none) (hy : st.ev y = .o (.c (.rd ps (.v (.string s))))) (hz : st.ev z = .o (.c (.rd qs (.v (.string u))))) (hb : decide (s = u) = b) : Qt P ops o st (B b) [] m := hb ▸ q_seql ho hg hy hz
theorem q_sneqK {s u : ByteArray} (ho : o.op = .binOp .neq t y z t') (hg : o.guard = none) (hy : st.ev y = .o (.c (.rd ps (.v (.string s))))) (hz : st.ev z = .o (.c (.rd qs (.v (.string u))))) (hb : decide (s ≠ u) = b) : Qt P ops o st (B b) [] m := hb ▸ q_sneq ho hg hy hz
theorem q_neqK (ho : o.op = .binOp .neq t y z t') (hg : o.guard = none) (hy : st.ev y = .o (.c (.rd ps (.v (.int k i))))) (hz : st.ev z = .o (.c (.rd qs (.v (.int k j))))) (hb : decide (i ≠ j) = b) : Qt P ops o st (B b) [] m := hb ▸ q_neq ho hg hy hz
end

/-! ### Ends -/
theorem W_end {v : V} (ρ : List Nat) (hnd : ρ.Nodup) (hl : objs'.length = ρ.length) (ho : objs'.map (Ob.ren (rho ρ obs.length)) = ρ.map fun p => obs.getD p .gone) (hv : v = res.ren (rho ρ obs.length)) : ∃ l, Wk ⟨1, [(0, v)], obs⟩ ⟨1, (0, res) :: l, objs'⟩ :=
  ⟨[], Wk.ren (st := ⟨1, [(0, v)], obs⟩) ρ objs' [(0, res)] hnd hl ho (.cons hv .nil)⟩
/-- nils filled first -/
theorem W_fill {v v' : V} (ks ρ : List Nat) (hk : v.cnt = ks.length) (hf : v.fill obs.length = v') (hnd : ρ.Nodup) (hl : objs'.length = ρ.length) (ho : objs'.map (Ob.ren (rho ρ (obs ++ ks.map fun k => Ob.row k []).length)) = ρ.map fun p => (obs ++ ks.map fun k => Ob.row k []).getD p .gone)
    (hv : v' = res.ren (rho ρ (obs ++ ks.map fun k => Ob.row k []).length)) : ∃ l, Wk ⟨1, [(0, v)], obs⟩ ⟨1, (0, res) :: l, objs'⟩ :=
  ⟨[], (Wk.nils (st := ⟨1, [(0, v)], obs⟩) 0 ks rfl hk).trans (Wk.ren (st := ⟨1, (0, v.fill obs.length) :: [(0, v)], obs ++ ks.map fun k => Ob.row k []⟩) ρ objs' [(0, res)] hnd hl ho (.cons (hf.trans hv) .nil))⟩
end
end Go.Proofs.Ytkfnaniegldfaaa
