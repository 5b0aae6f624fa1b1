/-
  Calls that read a table of Go's library which the world holds at the entry; numbers as text for every int (FormatInt, in the program and in the reference).
  Conditions: the table is there.
-/
import Derived.Lib.LaidTab
import Derived.Lib.ItoaMem
import Derived.WalkSmall
import Derived.Test.YtcjclaoogdblbaaDoorDDAlTRowk12
import Derived.Test.YtcjclaoogdblbaaDoorDDAlTRowk13
set_option linter.unusedSimpArgs false
set_option linter.unusedVariables false
set_option maxRecDepth 8000
set_option maxHeartbeats 8000000
namespace Go.Proofs.YtcjclaoogdblbaaDoor
section
open Go.RowKit

structure Kept (Φ : World → Prop) : Prop where
 h : ∀ (w w' : World),Φ w → (∀ b,b < w.heap.size → w'.heap[b]? = w.heap[b]?) → Φ w'
theorem var_kept {P : Program} {n : String} {x : Array Value} : Kept fun w => w.var? P n = some x := ⟨fun w w' h hk => by
 unfold World.var? at h ⊢
 cases hg : P.globalNamed n with
 | none => rw [hg] at h; cases h
 | some g =>
  rw [hg] at h
  simp only [Option.bind_some] at h ⊢
  cases hb : w.heap[g]? with
  | none => rw [hb] at h; cases h
  | some c =>
   rw [hk g (Array.getElem?_eq_some_iff.1 hb).1,hb]
   rw [hb] at h
   exact h⟩
def ConP (Φ : World → Prop) (P : Program) (f : FuncId) (args : List V2) (objs' : List Ob) (res : V) : Prop := ∀ w,Φ w → ConAt P f [] args objs' res w
theorem Con.p {Φ : World → Prop} {P : Program} {f : FuncId} {args : List V2} {objs' : List Ob} {res : V} (h : Con P f [] args objs' res) : ConP Φ P f args objs' res := fun w _ => h w
theorem ConP.of {Φ : World → Prop} {P : Program} {fn : Func} {res : V} {objs' : List Ob} {args : List V2} {f : FuncId} {c : Code} {nt : Nat} (hf : P.funcs[f]? = some fn) (hb : fn.body = some c) (hn : fn.ntmps = nt) (hle : Nat.ble args.length nt = true) (h : ∀ E : Env,(∀ p,E.H p = .nil) → Φ E.w → AWP P E c (Fin P fn objs' res) ⟨nt,argT 0 args,[]⟩) : ConP Φ P f args objs' res :=
 fun w hw => ConAt.of hf hb hn hle fun H F hH => h ⟨w,H,F⟩ (fun p => hH p) hw
theorem ConP.kit {Φ : World → Prop} {P : Program} {f : FuncId} {args : List V2} {x : Value} (hx : x.oneCell' = true)
  (h : ∀ (w : World) (H : Hs) (F : Nat → Prop) (vs : List Value),Φ w → Ok w H F → vs.length = args.length → (∀ (i : Nat) (x : V2) (v : Value),args[i]? = some x → vs[i]? = some v → R2 w H F x v) → Calls P f vs.toArray w fun e w' => e = .returned x ∧ Below w.heap.size w w') :
  ConP Φ P f args [] (.o (.c (.rd [] (.v x)))) := by
 intro w hw H F vs hok hob hlen hargs
 have hnil : ∀ p,H p = .nil := fun p => hob p
 refine (h w H F vs hw hok hlen hargs).mono ?_
 rintro e w' ⟨rfl,hb⟩
 refine ⟨H,F,x,J,⟨hb.os,hb.tape,hb.output,hb.size,fun b h1 _ => hb.block b h1,fun _ h => h,fun _ h => .inl h,fun p b hb => .inl ⟨p,hb⟩,fun p i v h => ⟨p,h⟩⟩,⟨fun p => ?_,hok.nodup,hok.disj,hok.free,fun b h => Nat.lt_of_lt_of_le (hok.flt b h) hb.size⟩,fun p => ?_,RO.v _ hx⟩
 ·rw [hnil p]; trivial
 ·show RB w' H F p .gone
  exact hnil p
section
variable {Φ : World → Prop} {P : Program} {E : Env} {ops : Array Oper} {o : Oper} {n d : Nat} {rest : List Oper} {QQ : Exit → St → Prop} {ts : List (Nat × V)} {obs : List Ob}
theorem Q8 {f : FuncId} [hf : FunOk P f] {ass : Array Operand} {tys : Array TypeId} {args : List V2} {objs' : List Ob} {res : V} (hk : Kept Φ) (hE : ∀ p,E.H p = .nil) (hT : Φ E.w) (hc : ConP Φ P f args objs' res) (ho : o.op = .call { callee := .value (.func f),args := ass,argTypes := tys }) (hg : o.guard = none)
  (ha : ass.toList.map (fun y => lend2 obs (St.ev ⟨n,ts,obs⟩ y)) = args) (hcl : res.closed = true) (hob : objs'.all Ob.closed = true) (hd : o.dst = some d) (hl : Nat.blt d n = true) (h : AL P E ops QQ rest ⟨n,(d,res.ren (obs.length + ·)) :: ts,obs ++ objs'.map (Ob.ren (obs.length + ·))⟩) : AL P E ops QQ (o :: rest) ⟨n,ts,obs⟩ := by
 refine ⟨fun a w ⟨H,F,h1,h2⟩ => ?_⟩
 refine wpList_step fun K hK => ?_
 have hT' : Φ w := hk.h _ _ hT fun b hb => h2.keep b hb fun p => by rw [hE p]; simp [Pc.fp]
 refine call_at (n := obs.length) ho hg (hc w hT') ha hcl hob h1 (fun i _ => ?_) fun v w' H' F' g hok hob hno hv => ?_
 ·have := h1.obs (obs.length + i)
  simpa [List.getD_eq_getElem?_getD,RB] using this
 ·have hr := h1.grow (dst := o.dst) (by rw [hd]; exact hl) g hok hob hno hv
  rw [hd] at hr ⊢
  exact hK _ _ (h.h _ _ ⟨H',F',hr,h2.grow g⟩)
end
@[reducible] def TabW (P : Program) (w : World) : Prop := Lib.TabIs P w "internal/strconv.uint64pow10" .u64 Lib.pow10Tab
theorem tab_kept {P : Program} : Kept (TabW P) := var_kept
def itoaB (n : Int) : ByteArray := bs (Lib.itoa n)
theorem I_ItoaT (n : Int) (h : I64 n) : ConP (TabW Tryd.prog) Tryd.prog 74 [ai n] [] (S (itoaB n)) := by
 refine ConP.kit J fun w H F vs hT hok hlen hargs => ?_
 match vs,hlen with
 | [v],_ =>
  obtain ⟨rfl,_⟩ : v = .int .i64 n ∧ _ := RO.plain (hargs 0 _ v rfl rfl)
  refine (Tryd.strconv_Itoa n h.1 h.2 w hT).mono ?_
  rintro e w' ⟨rfl,k,os,rfl⟩
  have h1 : Below w.heap.size w (w.drewN k) := below_drewN (Below.refl _ _) k
  have h2 : Below w.heap.size (w.drewN k) (Sort.grow (w.drewN k) os) := ⟨rfl,rfl,rfl,by simp [Sort.grow],fun b hb => by
   have hb2 : b < (w.drewN k).heap.size := Nat.lt_of_lt_of_le hb h1.size
   simp [Sort.grow,Array.getElem?_append]
   intro h
   omega⟩
  exact ⟨J,h1.trans h2⟩
theorem I_FormatIntT (n : Int) (h : I64 n) : ConP (TabW Tryd.prog) Tryd.prog 33 [ai n] [] (S (itoaB n)) := by
 have hc := I_ItoaT n h
 refine ConP.of Tryd.func33 J Tryd.ntmps33 J (fun E hE hT => ?_)
 refine zy (z1 J (zz (zy (z0 J ?_))));refine Q8 tab_kept hE hT (hc) J J J J J J J ?_;refine z1 J (zz (Q6 (F_r ?_)))
 exact E_tmp J J (Q9 [] (by decide) J J J)
theorem q_remT {P : Program} {ops : Array Oper} {o : Oper} {st : St} {n : Nat} {t t' : TypeId} {y z : Operand} {ps qs : List Nat} {i j r : Int} (hr : i.tmod j = r) (hb : 1 ≤ j) (ho : o.op = .binOp .rem t y z t') (hg : o.guard = none) (hy : st.ev y = .o (.c (.rd ps (.v (.int .i64 i))))) (hz : st.ev z = .o (.c (.rd qs (.v (.int .i64 j))))) : Qt P ops o st (I r) [] n :=
 hr ▸ q_arith ho hg hy hz fun w => by
  have : j ≠ 0 := by omega
  simp [binOp,Op.intDiv,this]
theorem dec_len20 {m : Nat} (h : m ≤ 9223372036854775808) : (Lib.decDigits m).length ≤ 20 := by
 rw [Lib.decDigits_length]
 refine Nat.le_of_not_lt fun hlt => ?_
 have h1 := (Lib.numDigits_eq (max m 1) (by omega) (by omega))
 have h2 : Lib.nDigits (max m 1) = Lib.nDigits m := by
  by_cases h0 : m = 0
  ·subst h0; rw [show max 0 1 = 1 from rfl,Lib.nDigits_small (by omega),Lib.nDigits_small (by omega)]
  ·rw [Nat.max_eq_left (by omega)]
 rw [h2] at h1
 have h3 := h1.1
 split at h3 <;> omega
end
end Go.Proofs.YtcjclaoogdblbaaDoor
