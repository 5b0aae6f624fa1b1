/-
  Calls that read a table of Go's library which the world holds at the entry; numbers as text for every int (FormatInt, in the program and in the reference).
  Conditions: the table is there.
-/
import Derived.Lib.LaidTab
import Derived.Lib.ItoaMem
import Derived.WalkSmall
import Derived.Test.YtpmacgnmlmmojaaGreatDoorDDRBRowk13
import Derived.Test.YtpmacgnmlmmojaaGreatDoorDDRBRowk14
set_option linter.unusedSimpArgs false
set_option linter.unusedVariables false
set_option maxRecDepth 8000
namespace Go.Proofs.YtpmacgnmlmmojaaGreatDoor
section
open Go.RowKit

structure Kept (Φ:World→Prop):Prop where
 h:∀ (w w':World),Φ w→(∀ b,b<w.heap.size→w'.heap[b]? = w.heap[b]?)→Φ w'
def ConP (Φ:World→Prop) (P:Program) (f:FuncId) (args:List V2) (objs':List Ob) (res:V):Prop:=∀ w,Φ w→ConAt P f [] args objs' res w
theorem Con.p {Φ:World→Prop} {P:Program} {f:FuncId} {args:List V2} {objs':List Ob} {res:V} (h:Con P f [] args objs' res):ConP Φ P f args objs' res:=fun w _=>h w
theorem ConP.of {Φ:World→Prop} {P:Program} {fn:Func} {res:V} {objs':List Ob} {args:List V2} {f:FuncId} {c:Code} {nt:Nat} (hf:P.funcs[f]? = some fn) (hb:fn.body=some c) (hn:fn.ntmps=nt) (hle:Nat.ble args.length nt=true) (h:∀ E:Env,(∀ p,E.H p = .nil)→Φ E.w→AWP P E c (Fin P fn objs' res) ⟨nt,argT 0 args,[]⟩):ConP Φ P f args objs' res :=
 fun w hw=>ConAt.of hf hb hn hle fun H F hH=>h ⟨w,H,F⟩ (fun p=>hH p) hw
theorem ConP.kit {Φ:World→Prop} {P:Program} {f:FuncId} {args:List V2} {x:Value} (hx:x.oneCell'=true)
  (h:∀ (w:World) (H:Hs) (F:Nat→Prop) (vs:List Value),Φ w→Ok w H F→vs.length=args.length→(∀ (i:Nat) (x:V2) (v:Value),args[i]? = some x→vs[i]? = some v→R2 w H F x v)→Calls P f vs.toArray w fun e w'=>e = .returned x∧Below w.heap.size w w') :
  ConP Φ P f args [] (.o (.c (.rd [] (.v x)))):=by
 intro w hw H F vs hok hob hlen hargs
 have hnil:∀ p,H p = .nil:=fun p=>hob p
 refine (h w H F vs hw hok hlen hargs).mono ?_
 rintro e w' ⟨rfl,hb⟩
 refine⟨H,F,x,J,⟨hb.os,hb.tape,hb.output,hb.size,fun b h1 _=>hb.block b h1,fun _ h=>h,fun _ h => .inl h,fun p b hb => .inl ⟨p,hb⟩,fun p i v h=>⟨p,h⟩⟩,⟨fun p => ?_,hok.nodup,hok.disj,hok.free,fun b h=>Gxv (hok.flt b h) hb.size⟩,fun p => ?_,RO.v _ hx⟩
 ·rw[hnil p]; trivial
 ·show RB w' H F p .gone
  exact hnil p
section
variable {Φ:World→Prop} {P:Program} {E:Env} {ops:Array Oper} {o:Oper} {n d:Nat} {rest:List Oper} {QQ:Exit→St→Prop} {ts:List (Nat×V)} {obs:List Ob}
theorem X5 {f:FuncId} [hf:FunOk P f] {ass:Array Operand} {tys:Array TypeId} {args:List V2} {objs':List Ob} {res:V} (hk:Kept Φ) (hE:∀ p,E.H p = .nil) (hT:Φ E.w) (hc:ConP Φ P f args objs' res) (ho:o.op = .call { callee := .value (.func f),args:=ass,argTypes:=tys }) (hg:o.guard=none)
  (ha:ass.toList.map (fun y=>lend2 obs (St.ev ⟨n,ts,obs⟩ y))=args) (hcl:res.closed=true) (hob:objs'.all Ob.closed=true) (hd:o.dst=some d) (hl:Nat.blt d n=true) (h:AL P E ops QQ rest ⟨n,(d,res.ren (obs.length+·))::ts,obs++objs'.map (Ob.ren (obs.length+·))⟩):AL P E ops QQ (o::rest) ⟨n,ts,obs⟩:=by
 refine⟨fun a w ⟨H,F,h1,h2⟩ => ?_⟩
 refine wpList_step fun K hK => ?_
 have hT':Φ w:=hk.h _ _ hT fun b hb=>h2.keep b hb fun p=>by rw[hE p]; simp[Pc.fp]
 refine call_at (n:=obs.length) ho hg (hc w hT') ha hcl hob h1 (fun i _ => ?_) fun v w' H' F' g hok hob hno hv => ?_
 ·have:=h1.obs (obs.length+i)
  simpa[Gqc,RB] using this
 ·have hr:=h1.grow (dst:=o.dst) (by rw[hd]; exact hl) g hok hob hno hv
  rw[hd] at hr ⊢
  exact hK _ _ (h.h _ _ ⟨H',F',hr,h2.grow g⟩)
end
end
end Go.Proofs.YtpmacgnmlmmojaaGreatDoor
