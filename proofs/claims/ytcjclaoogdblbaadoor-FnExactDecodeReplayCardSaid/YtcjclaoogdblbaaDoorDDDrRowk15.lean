/-
  Calls that read a table of Go's library which the world holds at the entry; numbers as text for every int (FormatInt, in the program and in the reference).
  Conditions: the table is there.
-/
import Derived.Lib.LaidTab
import Derived.Lib.ItoaMem
import Derived.WalkSmall
import Derived.Test.YtcjclaoogdblbaaDoorDDDrRowk13
import Derived.Test.YtcjclaoogdblbaaDoorDDDrRowk14
set_option linter.unusedSimpArgs false
set_option linter.unusedVariables false
set_option maxRecDepth 8000
namespace Go.Proofs.YtcjclaoogdblbaaDoor
section
open Go.RowKit

structure Kept (Φ : World → Prop) : Prop where
 h : ∀ (w w' : World),Φ w → (∀ b,b < w.heap.size → w'.heap[b]? = w.heap[b]?) → Φ w'
def ConP (Φ : World → Prop) (P : Program) (f : FuncId) (args : List V2) (objs' : List Ob) (res : V) : Prop := ∀ w,Φ w → ConAt P f [] args objs' res w
theorem Con.p {Φ : World → Prop} {P : Program} {f : FuncId} {args : List V2} {objs' : List Ob} {res : V} (h : Con P f [] args objs' res) : ConP Φ P f args objs' res := fun w _ => h w
theorem ConP.of {Φ : World → Prop} {P : Program} {fn : Func} {res : V} {objs' : List Ob} {args : List V2} {f : FuncId} {c : Code} {nt : Nat} (hf : P.funcs[f]? = some fn) (hb : fn.body = some c) (hn : fn.ntmps = nt) (hle : Nat.ble args.length nt = true) (h : ∀ E : Env,(∀ p,E.H p = .nil) → Φ E.w → AWP P E c (Fin P fn objs' res) ⟨nt,argT 0 args,[]⟩) : ConP Φ P f args objs' res :=
 fun w hw => ConAt.of hf hb hn hle fun H F hH => h ⟨w,H,F⟩ (fun p => hH p) hw
section
variable {Φ : World → Prop} {P : Program} {E : Env} {ops : Array Oper} {o : Oper} {n d : Nat} {rest : List Oper} {QQ : Exit → St → Prop} {ts : List (Nat × V)} {obs : List Ob}
theorem Xp {f : FuncId} [hf : FunOk P f] {ass : Array Operand} {tys : Array TypeId} {args : List V2} {objs' : List Ob} {res : V} (hk : Kept Φ) (hE : ∀ p,E.H p = .nil) (hT : Φ E.w) (hc : ConP Φ P f args objs' res) (ho : o.op = .call { callee := .value (.func f),args := ass,argTypes := tys }) (hg : o.guard = none)
  (ha : ass.toList.map (fun y => lend2 obs (St.ev ⟨n,ts,obs⟩ y)) = args) (hcl : res.closed = true) (hob : objs'.all Ob.closed = true) (hd : o.dst = some d) (hl : Nat.blt d n = true) (h : AL P E ops QQ rest ⟨n,(d,res.ren (obs.length + ·)) :: ts,obs ++ objs'.map (Ob.ren (obs.length + ·))⟩) : AL P E ops QQ (o :: rest) ⟨n,ts,obs⟩ := by
 refine ⟨fun a w ⟨H,F,h1,h2⟩ => ?_⟩
 refine wpList_step fun K hK => ?_
 have hT' : Φ w := hk.h _ _ hT fun b hb => h2.keep b hb fun p => by rw [hE p]; simp [Pc.fp]
 refine call_at (n := obs.length) ho hg (hc w hT') ha hcl hob h1 (fun i _ => ?_) fun v w' H' F' g hok hob hno hv => ?_
 ·have := h1.obs (obs.length + i)
  simpa [List.getD_eq_getElem?_getD,RB] using this
 ·have hr := h1.grow (dst := o.dst) (by rw [hd]; exact hl) g hok hob hno hv
  rw [hd] at hr ⊢
  exact hK _ _ (h.h _ _ ⟨H',F',hr,h2.grow g⟩)
end
end
end Go.Proofs.YtcjclaoogdblbaaDoor
