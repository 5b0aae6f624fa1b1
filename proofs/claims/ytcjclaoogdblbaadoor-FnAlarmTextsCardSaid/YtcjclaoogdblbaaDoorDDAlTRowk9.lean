/-
  The rules in the form in which a walk uses them, continued. No statement of the program is proved here.
  Conditions: none.
  Operations behind && and ||: what they yield is known where they are executed. No statement of the program is proved here.
  Conditions: none.
-/
import Derived.KernelRfl
import Derived.Test.YtcjclaoogdblbaaDoorDDAlTRowk8
set_option linter.unusedSimpArgs false
set_option linter.unusedVariables false
namespace Go.Proofs.YtcjclaoogdblbaaDoor
section
open Go.RowKit

section
variable {P : Program} {E : Env} {ops : Array Oper} {o : Oper} {n : Nat} {ts : List (Nat × V)} {obs : List Ob} {rest : List Oper} {Q : Exit → St → Prop} {d : Nat} {fn : Func} {objs' : List Ob} {res x : V} {st : St}

theorem Qt.no {j e : Nat} {b y : Bool} {ps : List Nat} {m : Nat} (hg : o.guard = some (j,b)) (hj : (ops[j]?).bind (·.dst) = some e) (hy : look st.tmps e = .o (.c (.rd ps (.v (.bool y))))) (hne : (y != b) = true) : Qt P ops o st NO [] m := by
 refine ⟨fun a w H F Q K hr hf hK => ?_⟩
 have h3 := hr.tmp e
 rw [hy] at h3
 have h4 : a.tmps.getD e undef = .bool y := (RO.plain h3).1
 have hlt : e < a.tmps.size := by
  rcases Nat.lt_or_ge e a.tmps.size with h | h
  ·exact h
  ·rw [Array.getD_eq_getD_getElem?,Array.getElem?_eq_none h] at h4
   cases h4
 have h5 : a.tmps[e]? = some (.bool y) := by
  rw [Array.getD_eq_getD_getElem?,Array.getElem?_eq_getElem hlt] at h4
  rw [Array.getElem?_eq_getElem hlt]
  exact congrArg some h4
 have hne' : y ≠ b := by simpa using hne
 rw [if_neg (by simp [Region.wanted,hg,yielded,hj,h5,hne'])]
 exact hK undef w H F (Grow.refl w H F) hr.ok (fun i ob hi => by simp at hi) (fun p hp _ => hp) ⟨fun h => by simp at h,fun _ _ _ => rfl⟩

section
variable {y z : Operand} {t t' : TypeId} {k : IntKind} {i j : Int} {qs : List Nat}
end

section
variable {y z : Operand} {t t' : TypeId} {ps qs : List Nat} {m : Nat} {u v b : Bool}
end

theorem W_go {tmps : List (Nat × V)} {objs : List Ob} (ρ : List Nat) (hnd : ρ.Nodup) (hl : objs.length = ρ.length) (ho : objs.map (Ob.ren (rho ρ obs.length)) = ρ.map fun p => obs.getD p .gone) (ht : Wl ts (tmps.map fun e => (e.1,e.2.ren (rho ρ obs.length)))) : Wk ⟨n,ts,obs⟩ ⟨n,tmps,objs⟩ :=
 Wk.ren (st := ⟨n,ts,obs⟩) ρ objs tmps hnd hl ho ht
theorem AWP.pre {c : Code} {st st' : St} (h : AWP P E c Q st') (hw : Wk st st') : AWP P E c Q st := h.weak hw
theorem AL.weak {l : List Oper} {st st' : St} (hw : Wk st st') (h : AL P E ops Q l st') : AL P E ops Q l st := ⟨fun a w hr => h.h a w (hr.weak hw)⟩
end
def ndB : List Nat → Bool
 | [] => true
 | x :: l => (l.all fun y => !Nat.beq x y) && ndB l
def selL (ts : List (Nat × V)) : List (Nat × V) → List (Nat × V)
 | [] => []
 | e :: l => (e.1,look ts e.1) :: selL ts l
theorem selL_wl {ts : List (Nat × V)} : ∀ {l ys : List (Nat × V)},selL ts l = ys → Wl ts ys
 | [],_,rfl => .nil
 | e :: l,_,rfl => .cons rfl (selL_wl rfl)
theorem ndB_nd : ∀ {l : List Nat},ndB l = true → l.Nodup
 | [],_ => List.nodup_nil
 | x :: l,h => by
  rw [ndB,Bool.and_eq_true,List.all_eq_true] at h
  refine List.nodup_cons.2 ⟨fun hm => ?_,ndB_nd h.2⟩
  have := h.1 x hm
  rw [show Nat.beq x x = true from Nat.beq_refl x] at this
  cases this
theorem W_gj {n : Nat} {ts tmps : List (Nat × V)} {obs objs : List Ob} (ρ : List Nat) (h : (ndB ρ,objs.length,objs.map (Ob.ren (rho ρ obs.length)),selL ts tmps) = (true,ρ.length,ρ.map (fun p => obs.getD p .gone),tmps.map fun e => (e.1,e.2.ren (rho ρ obs.length)))) : Wk ⟨n,ts,obs⟩ ⟨n,tmps,objs⟩ := by
 simp only [Prod.mk.injEq] at h
 exact W_go ρ (ndB_nd h.1) h.2.1 h.2.2.1 (selL_wl h.2.2.2)
theorem X9 {n : Nat} {ts tmps : List (Nat × V)} {obs objs : List Ob} (ρ : List Nat) (h : (ndB ρ,objs.length,objs.map (Ob.ren (rho ρ obs.length)),selL ts tmps) = (true,ρ.length,ρ.map (fun p => obs.getD p .gone),tmps.map fun e => (e.1,e.2.ren (rho ρ obs.length))) := by kernel_rfl) : Wk ⟨n,ts,obs⟩ ⟨n,tmps,objs⟩ := W_gj ρ h
end
section
open Go.RowKit

inductive Fc : List Bool → List (Nat × V) → List (Nat × V) → Prop
 | stop {cs : List Bool} {ts : List (Nat × V)} : Fc cs ts ts
 | hit {cs : List Bool} {ts ts' : List (Nat × V)} {d : Nat} {x : V2} (h : Fc cs ts ts') : Fc cs ((d,.iff cs x) :: ts) ((d,.o x) :: ts')
 | hit1 {c : Bool} {cs : List Bool} {ts ts' : List (Nat × V)} {d : Nat} {x : V2} (h : Fc (c :: cs) ts ts') : Fc (c :: cs) ((d,.iff cs x) :: ts) ((d,.o x) :: ts')
 | hit2 {b c : Bool} {cs : List Bool} {ts ts' : List (Nat × V)} {d : Nat} {x : V2} (h : Fc (b :: c :: cs) ts ts') : Fc (b :: c :: cs) ((d,.iff cs x) :: ts) ((d,.o x) :: ts')
 | part {c : Bool} {cs : List Bool} {ts ts' : List (Nat × V)} {d : Nat} {x : V2} (h : Fc cs ts ts') : Fc cs ((d,.iff (c :: cs) x) :: ts) ((d,.iff [c] x) :: ts')
 | skip {cs : List Bool} {ts ts' : List (Nat × V)} {e : Nat × V} (h : Fc cs ts ts') : Fc cs (e :: ts) (e :: ts')

section
variable {P : Program} {E : Env} {ops : Array Oper} {o : Oper} {n : Nat} {ts ts' : List (Nat × V)} {obs : List Ob} {rest : List Oper} {Q : Exit → St → Prop} {d : Nat} {st : St} {w : World} {H : Hs} {F : Nat → Prop} {a : Act}

theorem Fc.look {cs : List Bool} (h : Fc cs ts ts') (hc : ∀ c ∈ cs,c = true) : ∀ (d : Nat) (v : Value),RV w H F (Go.Proofs.YtcjclaoogdblbaaDoor.look ts d) v → RV w H F (Go.Proofs.YtcjclaoogdblbaaDoor.look ts' d) v := by
 induction h with
 | stop => exact fun d v h => h
 | hit h ih | hit1 h ih | hit2 h ih | part h ih | skip h ih => ?_
 ·intro d v hv
  rw [Xk] at hv ⊢
  split
  ·rw [if_pos (by assumption)] at hv; exact hv.1 hc
  ·rw [if_neg (by assumption)] at hv; exact ih hc d v hv
 ·intro d v hv
  rw [Xk] at hv ⊢
  split
  ·rw [if_pos (by assumption)] at hv; exact hv.1 fun c h => hc c (List.mem_cons_of_mem _ h)
  ·rw [if_neg (by assumption)] at hv; exact ih hc d v hv
 ·intro d v hv
  rw [Xk] at hv ⊢
  split
  ·rw [if_pos (by assumption)] at hv; exact hv.1 fun c h => hc c (List.mem_cons_of_mem _ (List.mem_cons_of_mem _ h))
  ·rw [if_neg (by assumption)] at hv; exact ih hc d v hv
 ·intro d v hv
  rw [Xk] at hv ⊢
  split
  ·rw [if_pos (by assumption)] at hv
   exact ⟨fun h1 => hv.1 fun c h => (List.mem_cons.1 h).elim (fun e => h1 c (by simp [e])) (hc c),fun c h1 h2 => hv.2 c (by simp at h1; simp [h1]) h2⟩
  ·rw [if_neg (by assumption)] at hv; exact ih hc d v hv
 ·rename_i e
  obtain ⟨e1,e2⟩ := e
  intro d v hv
  rw [Xk] at hv ⊢
  split
  ·rw [if_pos (by assumption)] at hv; exact hv
  ·rw [if_neg (by assumption)] at hv; exact ih hc d v hv
theorem wanted_undef {j e : Nat} {b : Bool} (hg : o.guard = some (j,b)) (hj : (ops[j]?).bind (·.dst) = some e) (h4 : a.tmps.getD e undef = undef) : Region.wanted o (yielded ops a.tmps) = false := by
 have h5 : a.tmps[e]? = none ∨ a.tmps[e]? = some undef := by
  rcases Nat.lt_or_ge e a.tmps.size with h | h
  ·rw [Array.getD_eq_getD_getElem?,Array.getElem?_eq_getElem h] at h4
   exact .inr (by rw [Array.getElem?_eq_getElem h]; exact congrArg some h4)
  ·exact .inl (Array.getElem?_eq_none h)
 rcases h5 with h5 | h5 <;> simp [Region.wanted,hg,yielded,hj,h5,undef]

section
variable {j e m : Nat} {y : Bool} {ps : List Nat} {x : V2} {cs : List Bool}
theorem Qt.no2 {j b e m} {x : V2} (hg : o.guard = some (j,b)) (hj : (ops[j]?).bind (·.dst) = some e) (hy : look st.tmps e = .iff [false] x) : Qt P ops o st NO [] m := by
 refine ⟨fun a w H F Q K hr hf hK => ?_⟩
 have h3 := hr.tmp e
 rw [hy] at h3
 rw [wanted_undef (o := o) (ops := ops) (a := a) hg hj (h3.2 false (by simp) rfl),if_neg (by simp)]
 exact hK undef w H F (Grow.refl w H F) hr.ok (fun i ob hi => by simp at hi) (fun p hp _ => hp) ⟨fun h => by simp at h,fun _ _ _ => rfl⟩
end
end
end
end Go.Proofs.YtcjclaoogdblbaaDoor
