/-
  Rules for operations that change nothing that was there: what each comes to, over what a call knows. No statement of the program is proved here.
  Conditions: none.
-/
import Derived.IntWalk
import Derived.Lib.SlicesS
import Derived.Test.YtalaljeokcpfnaaGreatDDPlayRowk2
set_option linter.unusedSimpArgs false
set_option linter.unusedVariables false
namespace Go.Proofs.YtalaljeokcpfnaaGreat
section
open Go.RowKit

@[reducible] def VI (k:IntKind) (n:Int):V := .o (.c (.rd [] (.v (.int k n))))
@[reducible] def S (s:ByteArray):V := .o (.c (.rd [] (.v (.string s))))
def rdm (ps:List Nat):T→V1
 | .v x => .rd [] (.v x)
 | .sl k es => .rd ps (.sl k es)
 | .un => .un
def setT (ts:List (Nat×V)):Option Tmp→V→List (Nat×V)
 |some d,x=>(d,x)::ts
 |none,_=>ts
def dstOk (n:Nat):Option Tmp→Bool
 |some d=>Nat.blt d n
 |none=>true

structure Qt (P:Program) (ops:Array Oper) (o:Oper) (st:St) (x:V) (obs:List Ob) (n:Nat):Prop where
 mk' ::
 h:∀ (a:Act) (w:World) (H:Hs) (F:Nat→Prop) (Q:Exit→Act→World→Prop) (K:Act→World→Prop),R0 w H F st a→(∀ i,i<obs.length→H (n+i) = .nil) →
  (∀ v w' H' F',Grow w H F w' H' F'→Ok w' H' F'→(∀ i ob,obs[i]? = some ob→RB w' H' F' (n+i) ob)→(∀ p,H p = .nil→(p<n∨n+obs.length≤p)→H' p = .nil)→RV w' H' F' x v→K (a.put o.dst v) w') →
  if Region.wanted o (yielded ops a.tmps)=true then o.wp P a w K Q else K (a.put o.dst undef) w

section
variable {P:Program} {E:Env} {ops:Array Oper} {o:Oper} {st:St} {n:Nat} {rest:List Oper} {QQ:Exit→St→Prop}

theorem R0.grow {w w':World} {H H':Hs} {F F':Nat→Prop} {a:Act} {x:V} {v:Value} {obs:List Ob} {dst:Option Tmp} (h:R0 w H F st a) (hd:dstOk st.n dst=true) (g:Grow w H F w' H' F') (hok:Ok w' H' F')
  (hob:∀ i ob,obs[i]? = some ob→RB w' H' F' (st.objs.length+i) ob) (hno:∀ p,H p = .nil→(p<st.objs.length∨st.objs.length+obs.length≤p)→H' p = .nil) (hv:RV w' H' F' x v) :
  R0 w' H' F' ⟨st.n,setT st.tmps dst x,st.objs++obs⟩ (a.put dst v):=by
 refine⟨hok,fun p=>?_,fun d=>?_,?_,?_⟩
 ·have hp:=h.obs p
  rcases Gqr p st.objs.length with h1 | h1
  ·have e1:(st.objs++obs).getD p .gone=st.objs.getD p .gone:=by simp[Gqf,Gq2 h1]
   show RB w' H' F' p ((st.objs++obs).getD p .gone)
   rw[e1]
   by_cases hn:H p = .nil
   ·have e2:=hno p hn (.inl h1)
    cases ho:st.objs.getD p .gone with
    |gone=>exact e2
    |hole=>trivial
    |box cs=>rw[ho] at hp; obtain⟨a,t,vs,e,_⟩:=hp; rw[hn] at e; cases e
    |row k es=>rw[ho] at hp; obtain⟨v,fp,e⟩:=hp; rw[hn] at e; cases e
    |gh i x=>rw[ho] at hp; obtain⟨v,e,_⟩:=hp; rw[hn] at e; cases e
    |lk x y=>rw[ho] at hp; obtain⟨v,e,_⟩:=hp; rw[hn] at e; cases e
   ·exact g.rb hn hp
  ·have hn:H p = .nil:=by
    have:st.objs.getD p .gone = .gone:=by simp[Gqf,h1]
    rw[this] at hp
    exact hp
   have e1:(st.objs++obs).getD p .gone=obs.getD (p-st.objs.length) .gone:=by simp[Gqf,Gq3 h1]
   show RB w' H' F' p ((st.objs++obs).getD p .gone)
   rw[e1]
   rcases Gqr (p-st.objs.length) obs.length with h2 | h2
   ·have h3:=hob (p-st.objs.length) _ (Gqg h2)
    rw[show st.objs.length+(p-st.objs.length)=p by omega] at h3
    rw[Zi (Gqg h2)]
    exact h3
   ·rw[show obs.getD (p-st.objs.length) .gone = .gone by simp[Gqf,h2]]
    exact hno p hn (.inr Aqa)
 ·cases dst with
  |none=>exact g.rv (h.tmp d)
  | some e =>
   show RV w' H' F' (look ((e,x)::st.tmps) d) _
   rw[Zq]
   have he:e<a.tmps.size:=by rw[←h.size]; exact Gqx hd
   split
   ·rename_i hde
    subst hde
    simpa[Act.put,he] using hv
   ·rename_i hne
    have:=g.rv (h.tmp d)
    simpa[Act.put,Array.getElem?_setIfInBounds_ne hne] using this
 ·cases dst with
  |none=>exact h.size
  |some e=>simpa[Act.put] using h.size
 ·cases dst with
  |none=>exact h.defers
  |some e=>exact h.defers

theorem L_q {x:V} {obs:List Ob} (hq:Qt P ops o st x obs st.objs.length) (hd:dstOk st.n o.dst=true) (h:AL P E ops QQ rest ⟨st.n,setT st.tmps o.dst x,st.objs++obs⟩):AL P E ops QQ (o::rest) st:=by
 refine⟨fun a w ⟨H,F,h1,h2⟩ => ?_⟩
 refine wpList_step fun K hK=>?_
 refine hq.h a w H F _ K h1 (fun i _=>?_) fun v w' H' F' g hok hob hno hv=>hK _ _ (h.h _ _ ⟨H',F',h1.grow hd g hok hob hno hv,h2.grow g⟩)
 have:=h1.obs (st.objs.length+i)
 simpa[Gqf,RB] using this
theorem L_q0 {x:V} (hq:Qt P ops o st x [] st.objs.length) (hd:dstOk st.n o.dst=true) (h:AL P E ops QQ rest ⟨st.n,setT st.tmps o.dst x,st.objs⟩):AL P E ops QQ (o::rest) st :=
 L_q hq hd (by rw[Gqy]; exact h)
theorem L_no {j d:Nat} {b:Bool} {ps:List Nat} {y:Bool} (hg:o.guard=some (j,b)) (hj:(ops[j]?).bind (·.dst)=some d) (hy:look st.tmps d = .o (.c (.rd ps (.v (.bool y))))) (hne:(y != b)=true) (hd:dstOk st.n o.dst=true)
  (h:AL P E ops QQ rest ⟨st.n,setT st.tmps o.dst NO,st.objs⟩):AL P E ops QQ (o::rest) st:=by
 refine⟨fun a w ⟨H,F,h1,h2⟩ => ?_⟩
 have h3:=h1.tmp d
 rw[hy] at h3
 have h4:a.tmps.getD d undef = .bool y:=(RO.plain h3).1
 have hlt:d<a.tmps.size:=by
  rcases Gqr d a.tmps.size with h | h
  ·exact h
  ·rw[Gq5,Array.getElem?_eq_none h] at h4
   cases h4
 have hw:Region.wanted o (yielded ops a.tmps)=false:=by
  have h5:a.tmps[d]? = some (.bool y):=by
   rw[Gq5,Gxe hlt] at h4
   rw[Gxe hlt]
   exact congrArg some h4
  have hne':y≠b:=by simpa using hne
  simp[Region.wanted,hg,yielded,hj,h5,hne']
 refine wpList_step fun K hK=>?_
 rw[hw]
 have hgr:=h1.grow (x:=NO) (v:=undef) (obs := []) (dst:=o.dst) hd (Grow.refl w H F) h1.ok (fun i ob hi=>by simp at hi) (fun p hp _=>hp) ⟨fun h=>by simp at h,fun _ _ _=>rfl⟩
 rw[Gqy] at hgr
 exact hK _ _ (h.h _ _ ⟨H,F,hgr,h2⟩)
theorem L_yes {j d:Nat} {b:Bool} {ps:List Nat} (hg:o.guard=some (j,b)) (hj:(ops[j]?).bind (·.dst)=some d) (hy:look st.tmps d = .o (.c (.rd ps (.v (.bool b)))))
  (h:AL P E ops QQ ({ o with guard:=none }::rest) st):AL P E ops QQ (o::rest) st:=by
 refine⟨fun a w hr=>?_⟩
 have h6:=h.h a w hr
 obtain⟨H,F,h1,h2⟩:=hr
 have h3:=h1.tmp d
 rw[hy] at h3
 have h4:a.tmps.getD d undef = .bool b:=(RO.plain h3).1
 have hlt:d<a.tmps.size:=by
  rcases Gqr d a.tmps.size with h | h
  ·exact h
  ·rw[Gq5,Array.getElem?_eq_none h] at h4
   cases h4
 have hw:Region.wanted o (yielded ops a.tmps)=true:=by
  have h5:a.tmps[d]? = some (.bool b):=by
   rw[Gq5,Gxe hlt] at h4
   rw[Gxe hlt]
   exact congrArg some h4
  simp[Region.wanted,hg,yielded,hj,h5]
 unfold wpList at h6 ⊢
 rw[if_pos (by rfl)] at h6
 rw[if_pos hw]
 exact h6

/-! ### Operations that only read -/
theorem Qt.pure {x:V} (hg:o.guard=none) (h:∀ a w H F,R0 w H F st a→∃ v,(execOp a.eval o).run P w = .ok (.value v) w∧RV w H F x v):Qt P ops o st x [] n:=by
 refine⟨fun a w H F Q K hr _ hK=>?_⟩
 obtain⟨v,h1,h2⟩:=h a w H F hr
 rw[if_pos Bq6]
 unfold Oper.wp
 rw[h1]
 exact hK v w H F (Grow.refl w H F) hr.ok (fun i ob hi=>by simp at hi) (fun p hp _=>hp) h2

theorem R0.v1 {w:World} {H:Hs} {F:Nat→Prop} {a:Act} (h:R0 w H F st a) {y:Operand} {q:V1} (he:st.ev y = .o (.c q)):R1 w H F q (a.eval y):=by
 have:=h.ev y
 rw[he] at this
 exact this
theorem plainV {w:World} {H:Hs} {F:Nat→Prop} {ps:List Nat} (v:Value) (h:v.oneCell'=true):RV w H F (.o (.c (.rd ps (.v v)))) v:=RO.v v h

theorem q_move {y:Operand} {x:V2} (ho:o.op = .move y) (hg:o.guard=none) (hy:st.ev y = .o x):Qt P ops o st (.o x) [] n :=
 .pure hg fun a w H F hr=>⟨a.eval y,by simp[execOp,ho],by rw[←hy]; exact hr.ev y⟩
theorem q_assign {y:Operand} {x:V2} (ho:o.op = .assign y) (hg:o.guard=none) (hy:st.ev y = .o x):Qt P ops o st (.o x) [] n :=
 .pure hg fun a w H F hr=>⟨a.eval y,by simp[execOp,ho],by rw[←hy]; exact hr.ev y⟩
theorem Qa {y:Operand} {x:V1} (ho:o.op = .move y) (hg:o.guard=none) (hy:st.ev y = .o (.c x)):Qt P ops o st (.o (.c x)) [] n:=q_move ho hg hy
theorem Qb {y:Operand} {x:V1} (ho:o.op = .assign y) (hg:o.guard=none) (hy:st.ev y = .o (.c x)):Qt P ops o st (.o (.c x)) [] n:=q_assign ho hg hy
theorem Qo {c y z:Operand} {x:V1} {ps:List Nat} (ho:o.op = .pick c y z) (hg:o.guard=none) (hc:st.ev c = .o (.c (.rd ps (.v (.bool true))))) (hy:st.ev y = .o (.c x)):Qt P ops o st (.o (.c x)) [] n :=
 .pure hg fun a w H F hr=>⟨a.eval y,by
  have h1:=hr.plain hc
  simp[execOp,ho,h1,asBool],by rw[←hy]; exact hr.ev y⟩
theorem Qn {c y z:Operand} {x:V1} {ps:List Nat} (ho:o.op = .pick c y z) (hg:o.guard=none) (hc:st.ev c = .o (.c (.rd ps (.v (.bool false))))) (hy:st.ev z = .o (.c x)):Qt P ops o st (.o (.c x)) [] n :=
 .pure hg fun a w H F hr=>⟨a.eval z,by
  have h1:=hr.plain hc
  simp[execOp,ho,h1,asBool],by rw[←hy]; exact hr.ev z⟩

section
variable {y z:Operand} {t t':TypeId} {k:IntKind} {i j:Int} {ps qs:List Nat}
theorem Kj {op:BinOp} {r:Int} (ho:o.op = .binOp op t y z t') (hg:o.guard=none) (hy:st.ev y = .o (.c (.rd ps (.v (.int k i))))) (hz:st.ev z = .o (.c (.rd qs (.v (.int k j)))))
  (hop:∀ w,(binOp op t (.int k i) (.int k j)).run P w = .ok (.int k r) w) (he:(op matches .eql | .neq)=false:=by rfl):Qt P ops o st (VI k r) [] n :=
 .pure hg fun a w H F hr=>⟨.int k r,by
  have h1:=hr.plain hy
  have h2:=hr.plain hz
  have h3:=hop w
  cases op <;> simp at he <;> simp[execOp,ho,h1,h2,h3,eqGuard],plainV _ rfl⟩
theorem Qs (ho:o.op = .binOp .add t y z t') (hg:o.guard=none) (hy:st.ev y = .o (.c (.rd ps (.v (.int .i64 i))))) (hz:st.ev z = .o (.c (.rd qs (.v (.int .i64 j)))))
  (hb : -9223372036854775808≤i+j∧i+j≤9223372036854775807):Qt P ops o st (I (i+j)) [] n :=
 Kj ho hg hy hz fun w=>by simp[binOp,Op.intArith,IntWalk.i64_in _ hb]
theorem Xc (ho:o.op = .binOp .sub t y z t') (hg:o.guard=none) (hy:st.ev y = .o (.c (.rd ps (.v (.int .i64 i))))) (hz:st.ev z = .o (.c (.rd qs (.v (.int .i64 j)))))
  (hb : -9223372036854775808≤i-j∧i-j≤9223372036854775807):Qt P ops o st (I (i-j)) [] n :=
 Kj ho hg hy hz fun w=>by simp[binOp,Op.intArith,IntWalk.i64_in _ hb]
theorem Vj (ho:o.op = .binOp .mul t y z t') (hg:o.guard=none) (hy:st.ev y = .o (.c (.rd ps (.v (.int .i64 i))))) (hz:st.ev z = .o (.c (.rd qs (.v (.int .i64 j)))))
  (hb : -9223372036854775808≤i*j∧i*j≤9223372036854775807):Qt P ops o st (I (i*j)) [] n :=
 Kj ho hg hy hz fun w=>by simp[binOp,Op.intArith,IntWalk.i64_in _ hb]
theorem q_quo (ho:o.op = .binOp .quo t y z t') (hg:o.guard=none) (hy:st.ev y = .o (.c (.rd ps (.v (.int .i64 i))))) (hz:st.ev z = .o (.c (.rd qs (.v (.int .i64 j)))))
  (hb:0≤i∧i≤9223372036854775807∧1≤j):Qt P ops o st (I (i/j)) [] n :=
 Kj ho hg hy hz fun w=>by
  have:j≠0:=Aqa
  simp[binOp,Op.intDiv,this,IntWalk.i64_quo _ _ hb]
theorem Vn (ho:o.op = .binOp .rem t y z t') (hg:o.guard=none) (hy:st.ev y = .o (.c (.rd ps (.v (.int .i64 i))))) (hz:st.ev z = .o (.c (.rd qs (.v (.int .i64 j)))))
  (hb:0≤i∧1≤j):Qt P ops o st (I (i%j)) [] n :=
 Kj ho hg hy hz fun w=>by
  have:j≠0:=Aqa
  simp[binOp,Op.intDiv,this,Int.tmod_eq_emod_of_nonneg hb.1]
theorem q_cmp {op:BinOp} {r:Bool} (ho:o.op = .binOp op t y z t') (hg:o.guard=none) (hy:st.ev y = .o (.c (.rd ps (.v (.int k i))))) (hz:st.ev z = .o (.c (.rd qs (.v (.int k j)))))
  (hop:∀ w,(binOp op t (.int k i) (.int k j)).run P w = .ok (.bool r) w):Qt P ops o st (B r) [] n :=
 .pure hg fun a w H F hr=>⟨.bool r,by
  have h1:=hr.plain hy
  have h2:=hr.plain hz
  have h3:=hop w
  cases op <;> simp[execOp,ho,h1,h2,h3,eqGuard],plainV _ rfl⟩
theorem Vh (ho:o.op = .binOp .lss t y z t') (hg:o.guard=none) (hy:st.ev y = .o (.c (.rd ps (.v (.int k i))))) (hz:st.ev z = .o (.c (.rd qs (.v (.int k j))))):Qt P ops o st (B (decide (i<j))) [] n :=
 q_cmp ho hg hy hz fun w=>by simp[binOp,Op.intCmp]
theorem q_leq (ho:o.op = .binOp .leq t y z t') (hg:o.guard=none) (hy:st.ev y = .o (.c (.rd ps (.v (.int k i))))) (hz:st.ev z = .o (.c (.rd qs (.v (.int k j))))):Qt P ops o st (B (decide (i≤j))) [] n :=
 q_cmp ho hg hy hz fun w=>by simp[binOp,Op.intCmp]
theorem Kz (ho:o.op = .binOp .gtr t y z t') (hg:o.guard=none) (hy:st.ev y = .o (.c (.rd ps (.v (.int k i))))) (hz:st.ev z = .o (.c (.rd qs (.v (.int k j))))):Qt P ops o st (B (decide (j<i))) [] n :=
 q_cmp ho hg hy hz fun w=>by simp[binOp,Op.intCmp]
theorem Kx (ho:o.op = .binOp .geq t y z t') (hg:o.guard=none) (hy:st.ev y = .o (.c (.rd ps (.v (.int k i))))) (hz:st.ev z = .o (.c (.rd qs (.v (.int k j))))):Qt P ops o st (B (decide (j≤i))) [] n :=
 q_cmp ho hg hy hz fun w=>by simp[binOp,Op.intCmp]
theorem Kt (ho:o.op = .binOp .eql t y z t') (hg:o.guard=none) (hy:st.ev y = .o (.c (.rd ps (.v (.int k i))))) (hz:st.ev z = .o (.c (.rd qs (.v (.int k j))))):Qt P ops o st (B (decide (i=j))) [] n :=
 q_cmp ho hg hy hz fun w=>by simp only[binOp,Op.intCmp]; simp; rfl
theorem Vk (ho:o.op = .binOp .neq t y z t') (hg:o.guard=none) (hy:st.ev y = .o (.c (.rd ps (.v (.int k i))))) (hz:st.ev z = .o (.c (.rd qs (.v (.int k j))))):Qt P ops o st (B (decide (i≠j))) [] n :=
 q_cmp ho hg hy hz fun w=>by simp only[binOp,Op.intCmp]; by_cases e:i=j <;> simp[e]
theorem bytes_eq (x y:ByteArray):(x.toList == y.toList)=decide (x=y):=by
 by_cases e:x=y
 ·rw[Gqb e]; exact (Lib.bytes_beq_iff _ _).2 e
 ·rw[Gqa e]; exact (Lib.bytes_beq_false_iff _ _).2 e
theorem q_sneq {s u:ByteArray} (ho:o.op = .binOp .neq t y z t') (hg:o.guard=none) (hy:st.ev y = .o (.c (.rd ps (.v (.string s))))) (hz:st.ev z = .o (.c (.rd qs (.v (.string u))))):Qt P ops o st (B (decide (s≠u))) [] n :=
 .pure hg fun a w H F hr=>⟨.bool (decide (s≠u)),by
  have h1:=hr.plain hy
  have h2:=hr.plain hz
  simp[execOp,ho,h1,h2,eqGuard,binOp,Op.stringOp,bytes_eq],plainV _ rfl⟩
theorem q_cat {s u:ByteArray} (ho:o.op = .binOp .add t y z t') (hg:o.guard=none) (hy:st.ev y = .o (.c (.rd ps (.v (.string s))))) (hz:st.ev z = .o (.c (.rd qs (.v (.string u)))))
  (hb:s.size+u.size≤9223372036854775807):Qt P ops o st (S (s++u)) [] n :=
 .pure hg fun a w H F hr=>⟨.string (s++u),by
  have h1:=hr.plain hy
  have h2:=hr.plain hz
  have h3:¬(((s.size+u.size:Nat):Int)>IntKind.i64.max):=by
   show ¬(((s.size+u.size:Nat):Int)>9223372036854775807)
   omega
  simp only[execOp,ho,h1,h2,eqGuard,binOp,Op.stringOp,if_neg h3]
  rfl,plainV _ rfl⟩
theorem Q4 {b:Bool} (ho:o.op = .unOp .not t y) (hg:o.guard=none) (hy:st.ev y = .o (.c (.rd ps (.v (.bool b))))):Qt P ops o st (B (!b)) [] n :=
 .pure hg fun a w H F hr=>⟨.bool (!b),by
  have h1:=hr.plain hy
  simp[execOp,ho,h1,Op.unary],plainV _ rfl⟩
theorem q_conv {k':IntKind} [hk:TyInt P t' k'] (hs:(P.underlying t).isSome=true) (ho:o.op = .convert t t' y) (hg:o.guard=none) (hy:st.ev y = .o (.c (.rd ps (.v (.int k i))))):Qt P ops o st (VI k' (k'.wrap i)) [] n :=
 .pure hg fun a w H F hr=>⟨.int k' (k'.wrap i),by
  have h1:=hr.plain hy
  obtain⟨d,hd⟩:=Option.isSome_iff_exists.mp hs
  simp[execOp,ho,h1,convert,run_underlying hd,run_underlying hk.int,Conv.intToInt],plainV _ rfl⟩

/-! ### Lengths, places, loads -/
theorem Vd {s:ByteArray} [hs:TyStr P t] (ho:o.op = .call { callee := .builtin .len,args:=#[y],argTypes:=#[t] }) (hg:o.guard=none) (hy:st.ev y = .o (.c (.rd ps (.v (.string s))))):Qt P ops o st (I s.size) [] n :=
 .pure hg fun a w H F hr=>⟨.int .i64 s.size,by
  have h1:=hr.plain hy
  simp[execOp,ho,resolve,invoke,builtin,h1,Builtin.len_,run_underlying hs.str,goInt],plainV _ rfl⟩
theorem len_run {e:TypeId} {zs:List Value} {by_:Nat} [hm:TyMake P t e zs by_] (ho:o.op = .call { callee := .builtin .len,args:=#[y],argTypes:=#[t] }) {a:Act} {w:World} {A:Option Addr} {m c:Nat} (h1:a.eval y = .slice A m c) :
  (execOp a.eval o).run P w = .ok (.value (.int .i64 m)) w:=by
 simp[execOp,ho,resolve,invoke,builtin,h1,Builtin.len_,run_underlying hm.slice,goInt]
theorem Vb {kk:Nat} {es:List (List T)} {e:TypeId} {zs:List Value} {by_:Nat} [hm:TyMake P t e zs by_] (ho:o.op = .call { callee := .builtin .len,args:=#[y],argTypes:=#[t] }) (hg:o.guard=none) (hy:st.ev y = .o (.c (.rd ps (.sl kk es)))):Qt P ops o st (I es.length) [] n :=
 .pure hg fun a w H F hr=>⟨.int .i64 es.length,by
  obtain⟨A,c,h1,_⟩:=RO.form (hr.v1 hy)
  exact len_run ho h1,plainV _ J⟩
theorem R0.ow {w:World} {H:Hs} {F:Nat→Prop} {a:Act} {p kk:Nat} {es:List (List T)} (h:R0 w H F st a) (hp:st.objs[p]? = some (.row kk es)):∃ v fp,H p = .ow (.sl kk es) v fp∧OW w (.sl kk es) v fp:=by
 have h1:=h.obs p
 rw[Zi hp] at h1
 obtain⟨v,fp,e⟩:=h1
 have h2:=h.ok.says p
 rw[e] at h2
 exact⟨v,fp,e,h2⟩
theorem Vc {p kk:Nat} {es:List (List T)} {e:TypeId} {zs:List Value} {by_:Nat} [hm:TyMake P t e zs by_] (ho:o.op = .call { callee := .builtin .len,args:=#[y],argTypes:=#[t] }) (hg:o.guard=none) (hy:st.ev y = .o (.c (.ref p))) (hp:st.objs[p]? = some (.row kk es)):Qt P ops o st (I es.length) [] n :=
 .pure hg fun a w H F hr=>⟨.int .i64 es.length,by
  obtain⟨v,fp,e1,e2⟩:=hr.ow hp
  obtain⟨x,fp',e3⟩:=hr.v1 hy
  rw[e1] at e3
  simp only[Pc.ow.injEq] at e3
  obtain⟨A,c,h1,_⟩:=RO.form e2.ro
  exact len_run ho (e3.2.1.symm.trans h1),plainV _ J⟩
theorem q_index {s:ByteArray} {b:UInt8} [hs:TyStr P t] (ho:o.op = .index t y z) (hg:o.guard=none) (hy:st.ev y = .o (.c (.rd ps (.v (.string s))))) (hz:st.ev z = .o (.c (.rd qs (.v (.int k i))))) (h0:0≤i) (hb:s[i.toNat]? = some b):Qt P ops o st (VI .u8 b.toNat) [] n :=
 .pure hg fun a w H F hr=>⟨.int .u8 b.toNat,by
  have h1:=hr.plain hy
  have h2:=hr.plain hz
  simp[execOp,ho,h1,h2,Instr.index,asIntOf,run_underlying hs.str,h0,hb],plainV _ rfl⟩
theorem Q2 {kk:Nat} {es:List (List T)} {e:List T} {et:TypeId} {zs:List Value} {by_:Nat} [hm:TyMake P t et zs by_] (ho:o.op = .indexAddr t y z) (hg:o.guard=none) (hy:st.ev y = .o (.c (.rd ps (.sl kk es)))) (hz:st.ev z = .o (.c (.rd qs (.v (.int k i))))) (h0:0≤i) (he:es[i.toNat]? = some e) (hl:kk=zs.length) :
  Qt P ops o st (.o (.c (.rp ps e))) [] n :=
 .pure hg fun a w H F hr=>by
  obtain⟨b,o',c,h1,hF,hp,_,hc⟩:=RO.at_ (hr.v1 hy) he
  have h2:=hr.plain hz
  refine⟨.pointer (some ⟨b,o'+i.toNat*zs.length,none⟩),?_,b,_,J,hF,by rwa[hl] at hc⟩
  have:=Zj he
  simp only[execOp,ho,h1,h2,Sem.run_bind,Vz (P:=P) (w:=w) t b o' es.length c k i h0 Aqa,Result.andThen_ok]
  rfl
theorem Q3 {p kk:Nat} {es:List (List T)} {et:TypeId} {zs:List Value} {by_:Nat} [hm:TyMake P t et zs by_] (ho:o.op = .indexAddr t y z) (hg:o.guard=none) (hy:st.ev y = .o (.c (.ref p))) (hz:st.ev z = .o (.c (.rd qs (.v (.int k i))))) (hp:st.objs[p]? = some (.row kk es)) (h0:0≤i) (hi:i<es.length) :
  Qt P ops o st (.o (.c (.el p zs.length i.toNat 0))) [] n :=
 .pure hg fun a w H F hr=>by
  obtain⟨v,fp,e1,e2⟩:=hr.ow hp
  obtain⟨x,fp',e3⟩:=hr.v1 hy
  rw[e1] at e3
  simp only[Pc.ow.injEq] at e3
  have h2:=hr.plain hz
  have hx:es[i.toNat]? = some es[i.toNat]:=Gqg Aqa 
  obtain⟨b,o',c,h1,_⟩:=RO.at_ e2.ro hx
  refine⟨.pointer (some ⟨b,o'+i.toNat*zs.length,none⟩),?_,b,o',es.length,c,.sl kk es,fp,by rw[e1,h1],Aqd⟩
  simp only[execOp,ho,e3.2.1.symm.trans h1,h2,Sem.run_bind,Vz (P:=P) (w:=w) t b o' es.length c k i h0 Aqa,Result.andThen_ok]
  rfl
theorem Qf {p m f off sz:Nat} {pl:List (Nat×Nat)} [hpl:TyPl P t pl] (ho:o.op = .fieldAddr t y f) (hg:o.guard=none) (hy:st.ev y = .o (.c (.ptr p m))) (hf:pl[f]? = some (off,sz)) (hsz:sz≠0):Qt P ops o st (.o (.c (.ptr p (m+off)))) [] n :=
 .pure hg fun a w H F hr=>by
  obtain⟨g,tt,vs,e1,e2⟩:=hr.v1 hy
  refine⟨.pointer (some ⟨g,m+off,none⟩),?_,g,tt,vs,e1,J⟩
  simp only[execOp,ho,e2,Sem.run_bind,run_fieldAt (P:=P) (w:=w) t g m f hf hsz,Result.andThen_ok]
  rfl
theorem Kv {p kk ii m f off sz:Nat} {pl:List (Nat×Nat)} [hpl:TyPl P t pl] (ho:o.op = .fieldAddr t y f) (hg:o.guard=none) (hy:st.ev y = .o (.c (.el p kk ii m))) (hf:pl[f]? = some (off,sz)) (hsz:sz≠0):Qt P ops o st (.o (.c (.el p kk ii (m+off)))) [] n :=
 .pure hg fun a w H F hr=>by
  obtain⟨b,o',m',c,x,fp,e1,e2⟩:=hr.v1 hy
  refine⟨.pointer (some ⟨b,o'+ii*kk+m+off,none⟩),?_,b,o',m',c,x,fp,e1,by simp[Gxx]⟩
  simp only[execOp,ho,e2,Sem.run_bind,run_fieldAt (P:=P) (w:=w) t b _ f hf hsz,Result.andThen_ok]
  rfl
theorem Kw {xs:List T} {f off sz:Nat} {pl:List (Nat×Nat)} [hpl:TyPl P t pl] (ho:o.op = .fieldAddr t y f) (hg:o.guard=none) (hy:st.ev y = .o (.c (.rp ps xs))) (hf:pl[f]? = some (off,sz)) (hsz:sz≠0):Qt P ops o st (.o (.c (.rp ps (xs.drop off)))) [] n :=
 .pure hg fun a w H F hr=>by
  obtain⟨b,o',e1,hF,hc⟩:=hr.v1 hy
  refine⟨.pointer (some ⟨b,o'+off,none⟩),?_,b,_,J,hF,fun j t hj=>by rw[Gxx]; exact hc (off+j) t Bxm⟩
  simp only[execOp,ho,e1,Sem.run_bind,run_fieldAt (P:=P) (w:=w) t b _ f hf hsz,Result.andThen_ok]
  rfl

theorem Zg {a:Act} {w:World} {v u:Value} (ho:o.op = .load t y) (hx:a.eval y=u) (h:(Instr.loadAt t u).run P w = .ok v w):(execOp a.eval o).run P w = .ok (.value v) w:=by
 unfold execOp
 simp only[ho,hx,Sem.run_bind,h,Result.andThen_ok]
 rfl
theorem R0.bx {w:World} {H:Hs} {F:Nat→Prop} {a:Act} {p:Nat} {cs:List V1} (h:R0 w H F st a) (hp:st.objs[p]? = some (.box cs)):∃ g t vs,H p = .box g t vs∧w.heap[g]? = some (.cells vs.toArray t (0,0))∧vs.length=cs.length∧∀ (i:Nat) (c:V1) (u:Value),cs[i]? = some c→vs[i]? = some u→R1 w H F c u∧u.oneCell'=true:=by
 have h1:=h.obs p
 rw[Zi hp] at h1
 obtain⟨g,t,vs,e,hl,hr⟩:=h1
 have h2:=h.ok.says p
 rw[e] at h2
 exact⟨g,t,vs,e,h2,hl,hr⟩
theorem box_cells {w:World} {g:Nat} {t:TypeId} {vs:List Value} (h:w.heap[g]? = some (.cells vs.toArray t (0,0))) (i m:Nat):Cells w g i ((vs.drop i).take m):=by
 intro j u hu
 rw[cell_of_row w g (i+j) vs.toArray t (0,0) h]
 rw[Gxh] at hu
 split at hu
 ·simpa using hu
 ·cases hu
theorem r1_rdm {w:World} {H:Hs} {F:Nat→Prop} {t:T} {v:Value} (h:RO w (inP H F ps) t v):R1 w H F (rdm ps t) v:=by
 cases t with
 |v x=>obtain⟨rfl,h1⟩:=RO.plain h; exact RO.v _ h1
 |sl k es=>exact h
 |un=>trivial
theorem Qg {p i:Nat} {cs:List V1} {c:V1} [TyOne P t] (ho:o.op = .load t y) (hg:o.guard=none) (hy:st.ev y = .o (.c (.ptr p i))) (hp:st.objs[p]? = some (.box cs)) (hc:cs[i]? = some c):Qt P ops o st (.o (.c c)) [] n :=
 .pure hg fun a w H F hr=>by
  obtain⟨g,tt,vs,e1,e2⟩:=hr.v1 hy
  obtain⟨g',t',vs',e3,e4,hl,hcs⟩:=hr.bx hp
  rw[e1] at e3
  simp only[Pc.box.injEq] at e3
  obtain⟨rfl,rfl,rfl⟩:=e3
  have hi:i<vs.length:=by rw[hl]; exact Zj hc
  refine⟨vs[i],Zg ho e2 (V0 t g i _ ?_),(hcs i c _ hc (Gqg hi)).1⟩
  rw[cell_of_row w g i vs.toArray tt (0,0) e4]
  simp[hi]
theorem Qu {p i m:Nat} {cs ds:List V1} [TyRow P t m] (ho:o.op = .load t y) (hg:o.guard=none) (hy:st.ev y = .o (.c (.ptr p i))) (hp:st.objs[p]? = some (.box cs)) (hd:(cs.drop i).take m=ds) (hl:ds.length=m):Qt P ops o st (.o (.ag ds)) [] n :=
 .pure hg fun a w H F hr=>by
  obtain⟨g,tt,vs,e1,e2⟩:=hr.v1 hy
  obtain⟨g',t',vs',e3,e4,hl',hcs⟩:=hr.bx hp
  rw[e1] at e3
  simp only[Pc.box.injEq] at e3
  obtain⟨rfl,rfl,rfl⟩:=e3
  have hlen:((vs.drop i).take m).length=m:=by
   rw[←hd] at hl
   simp only[Gq4,Gq9] at hl ⊢
   omega
  refine⟨.agg ((vs.drop i).take m).toArray,Zg ho e2 (V3 t g i m _ (box_cells e4 i m) hlen),_,J,by rw[hlen,hl],fun j x u hj hu=>?_⟩
  subst hd
  rw[Gxh] at hj hu
  split at hj
  ·rename_i h7
   rw[if_pos h7] at hu
   exact (hcs (i+j) x u Bxm (by simpa using hu)).1
  ·cases hj
theorem Vf {xs:List T} {x:T} [TyOne P t] (ho:o.op = .load t y) (hg:o.guard=none) (hy:st.ev y = .o (.c (.rp ps xs))) (hx:xs[0]? = some x):Qt P ops o st (.o (.c (rdm ps x))) [] n :=
 .pure hg fun a w H F hr=>by
  obtain⟨b,o',e1,hF,hc⟩:=hr.v1 hy
  obtain⟨u,h1,h2⟩:=hc 0 x hx
  exact⟨u,Zg ho e1 (V0 t b o' u h1),r1_rdm h2⟩
theorem cells_of {w:World} {b:Nat} {G:Nat→Prop}:∀ (xs:List T) (o':Nat),(∀ (j:Nat) (t:T),xs[j]? = some t→∃ u,w.cell? ⟨b,o'+j,none⟩=some u∧RO w G t u) →
  ∃ us:List Value,us.length=xs.length∧Cells w b o' us∧∀ (j:Nat) (t:T) (u:Value),xs[j]? = some t→us[j]? = some u→RO w G t u
 | [],_,_=>⟨[],rfl,fun j u h=>by simp at h,fun j t u h=>by simp at h⟩
 | x::xs,o',h=>by
  obtain⟨u,h1,h2⟩:=h 0 x rfl
  obtain⟨us,h3,h4,h5⟩:=cells_of xs (o'+1) fun j t hj=>by
   obtain⟨u,h6,h7⟩:=h (j+1) t Bxm
   exact⟨u,by rw[show o'+1+j=o'+(j+1) by omega]; exact h6,h7⟩
  refine⟨u::us,by simp[h3],fun j v hj=>?_,fun j t v h6 h7=>?_⟩
  ·cases j with
   |zero=>simp at hj; subst hj; exact h1
   |succ j=>rw[show o'+(j+1)=o'+1+j by omega]; exact h4 j v Bxm
  ·cases j with
   |zero=>simp at h6 h7; subst h6 h7; exact h2
   |succ j=>exact h5 j t v (by simpa using h6) (by simpa using h7)
theorem Vg {xs ds:List T} {m:Nat} [TyRow P t m] (ho:o.op = .load t y) (hg:o.guard=none) (hy:st.ev y = .o (.c (.rp ps xs))) (hd:xs.take m=ds) (hl:ds.length=m):Qt P ops o st (.o (.ag (ds.map (rdm ps)))) [] n :=
 .pure hg fun a w H F hr=>by
  obtain⟨b,o',e1,hF,hc⟩:=hr.v1 hy
  obtain⟨us,h1,h2,h3⟩:=cells_of (w:=w) (b:=b) ds o' fun j t hj=>hc j t (by
   subst hd
   rw[Gxh] at hj
   split at hj
   ·exact hj
   ·cases hj)
  refine⟨.agg us.toArray,Zg ho e1 (V3 t b o' m _ h2 (by rw[h1,hl])),us,J,by simp[h1],fun j x u hj hu=>?_⟩
  rw[Gqk] at hj
  obtain⟨t,h4,rfl⟩:=Option.map_eq_some_iff.1 hj
  exact r1_rdm (h3 j t u h4 hu)
theorem el_cells {w:World} {H:Hs} {F:Nat→Prop} {a:Act} {p kk i j:Nat} {es:List (List T)} {e:List T} (hr:R0 w H F st a) (hy:st.ev y = .o (.c (.el p kk i j))) (hp:st.objs[p]? = some (.row kk es)) (he:es[i]? = some e) :
  ∃ b o',a.eval y = .pointer (some ⟨b,o',none⟩)∧∀ (q:Nat) (t:T),(e.drop j)[q]? = some t→∃ u,w.cell? ⟨b,o'+q,none⟩=some u∧RO w (inP H F [p]) t u:=by
 obtain⟨b,o',m',c,x,fp,e1,e2⟩:=hr.v1 hy
 obtain⟨v,fp',e3,e4⟩:=hr.ow hp
 rw[e1] at e3
 simp only[Pc.ow.injEq] at e3
 obtain⟨rfl,rfl,rfl⟩:=e3
 obtain⟨b',o'',c',h1,_,_,_,hc⟩:=RO.at_ e4.ro he
 simp only[Value.slice.injEq,Option.some.injEq,Addr.mk.injEq] at h1
 obtain⟨⟨rfl,rfl,_⟩,_,_⟩:=h1
 refine⟨b,_,e2,fun q t hq=>?_⟩
 obtain⟨u,h2,h3⟩:=hc (j+q) t Bxd
 exact⟨u,by rw[←h2,Gxx],h3.weak fun b hb _ => .inr ⟨p,Aqd,_,_,_,e1,hb⟩⟩
theorem Q7 {p kk i j:Nat} {es:List (List T)} {e:List T} {x:T} [TyOne P t] (ho:o.op = .load t y) (hg:o.guard=none) (hy:st.ev y = .o (.c (.el p kk i j))) (hp:st.objs[p]? = some (.row kk es)) (he:es[i]? = some e) (hx:e[j]? = some x):Qt P ops o st (.o (.c (rdm [p] x))) [] n :=
 .pure hg fun a w H F hr=>by
  obtain⟨b,o',e1,hc⟩:=el_cells hr hy hp he
  obtain⟨u,h1,h2⟩:=hc 0 x (by simpa using hx)
  exact⟨u,Zg ho e1 (V0 t b o' u h1),r1_rdm h2⟩
theorem Q6 {p kk i j m:Nat} {es:List (List T)} {e ds:List T} [TyRow P t m] (ho:o.op = .load t y) (hg:o.guard=none) (hy:st.ev y = .o (.c (.el p kk i j))) (hp:st.objs[p]? = some (.row kk es)) (he:es[i]? = some e) (hd:(e.drop j).take m=ds) (hl:ds.length=m):Qt P ops o st (.o (.ag (ds.map (rdm [p])))) [] n :=
 .pure hg fun a w H F hr=>by
  obtain⟨b,o',e1,hc⟩:=el_cells hr hy hp he
  obtain⟨us,h1,h2,h3⟩:=cells_of (w:=w) (b:=b) ds o' fun j t hj=>hc j t (by
   subst hd
   rw[Gxh] at hj
   split at hj
   ·exact hj
   ·cases hj)
  refine⟨.agg us.toArray,Zg ho e1 (V3 t b o' m _ h2 (by rw[h1,hl])),us,J,by simp[h1],fun j x u hj hu=>?_⟩
  rw[Gqk] at hj
  obtain⟨t,h4,rfl⟩:=Option.map_eq_some_iff.1 hj
  exact r1_rdm (h3 j t u h4 hu)
theorem Ku {xs:List V2} {x:V2} {i:Nat} (ho:o.op = .extract y i) (hg:o.guard=none) (hy:st.ev y = .tu xs) (hx:xs[i]? = some x):Qt P ops o st (.o x) [] n :=
 .pure hg fun a w H F hr=>by
  have h1:=hr.ev y
  rw[hy] at h1
  obtain⟨us,e,hl,hc⟩:=h1
  have hi:i<us.length:=by rw[hl]; exact Zj hx
  exact⟨us[i],by simp[execOp,ho,e,Instr.extract,hi],hc i x _ hx (Gqg hi)⟩
end
end
end
end Go.Proofs.YtalaljeokcpfnaaGreat
