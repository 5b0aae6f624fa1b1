/-
  Rules for strings, bytes, parts of slices, arrays and numbers. No statement of the program is proved here.
  Conditions: none.
  The kinds of operations, told apart at once. No statement of the program is proved here.
  Conditions: none.
-/
import Derived.Laws.IdiomStrings
import Derived.Test.YtcjclaoogdblbaaDoorDDAlTRowk9
set_option linter.unusedSimpArgs false
set_option linter.unusedVariables false
namespace Go.Proofs.YtcjclaoogdblbaaDoor
section
open Go.RowKit

def byteAt (s : ByteArray) (i : Nat) : Int := ((s[i]?).map fun b => (b.toNat : Int)).getD 0
theorem byteAt_lt (s : ByteArray) (i : Nat) : 0 ≤ byteAt s i ∧ byteAt s i ≤ 255 := by
 unfold byteAt
 cases s[i]? with
 | none => simp
 | some b => have := b.toNat_lt; simp; omega

section
variable {P : Program} {E : Env} {ops : Array Oper} {o : Oper} {st : St} {n : Nat} {rest : List Oper} {QQ : Exit → St → Prop} {y z u : Operand} {t t' : TypeId} {k : IntKind} {i j : Int} {ps qs rs : List Nat} {s : ByteArray}

theorem q_byte [hs : TyStr P t] (ho : o.op = .index t y z) (hg : o.guard = none) (hy : st.ev y = .o (.c (.rd ps (.v (.string s))))) (hz : st.ev z = .o (.c (.rd qs (.v (.int k i))))) (h0 : 0 ≤ i ∧ i < s.size) : Qt P ops o st (VI .u8 (byteAt s i.toNat)) [] n := by
 have h1 : i.toNat < s.size := by omega
 have h2 : s[i.toNat]? = some s[i.toNat] := by simp [h1]
 have h3 : byteAt s i.toNat = (s[i.toNat].toNat : Int) := by simp [byteAt,h2]
 rw [h3]
 exact q_index ho hg hy hz h0.1 h2
theorem Xn {b : Int} [hs : TyStr P t] (ho : o.op = .index t y z) (hg : o.guard = none) (hy : st.ev y = .o (.c (.rd ps (.v (.string s))))) (hz : st.ev z = .o (.c (.rd qs (.v (.int k i))))) (hb : byteAt s i.toNat = b) (h0 : 0 ≤ i ∧ i < s.size) : Qt P ops o st (VI .u8 b) [] n := hb ▸ q_byte ho hg hy hz h0

theorem Ya {b : Int} [hs : TyStr P t] (h0_ : (o.op, o.guard, st.ev y, st.ev z) = (.index t y z, none, .o (.c (.rd ps (.v (.string s)))), .o (.c (.rd qs (.v (.int k i)))))) (hb : byteAt s i.toNat = b := by assumption) (h0 : 0 ≤ i ∧ i < s.size := by omega) : Qt P ops o st (VI .u8 b) [] n := by
 simp only [Prod.mk.injEq] at h0_
 exact Xn h0_.1 h0_.2.1 h0_.2.2.1 h0_.2.2.2 hb h0
/-! ### Parts of strings -/
/-! ### Parts of slices -/
theorem RO.part {w : World} {F : Nat → Prop} {kk : Nat} {es : List (List T)} {A : Option Addr} {m c l h : Nat} (hr : RO w F (.sl kk es) (.slice A m c)) (hl : l ≤ h) (hh : h ≤ m) : RO w F (.sl kk ((es.take h).drop l)) (.slice (if c = l then A else A.map (·.add (l * kk))) (h - l) (c - l)) := by
 cases hr with
 | nil _ _ _ hm =>
  have h0 : h = 0 := by simpa using hh
  have l0 : l = 0 := by omega
  subst h0 l0
  simpa using RO.nil (F := F) (if c = 0 then A else A.map (·.add (0 * kk))) kk c hm
 | sl _ b o _ _ val hF hc hm hp hk hv ht =>
  have hlen : ((es.take h).drop l).length = h - l := by simp; omega
  by_cases he : h - l = 0
  ·have h1 : (es.take h).drop l = [] := List.eq_nil_of_length_eq_zero (by omega)
   rw [h1,he]
   exact .nil _ _ _ (by omega)
  ·have hcl : ¬ c = l := by omega
   have hm' := RO.sl (w := w) (F := F) ((es.take h).drop l) b (o + l * kk) kk (c - l) (fun i j => val (l + i) j) hF (by rw [hlen]; omega) (by omega) hp (fun e he => hk e (List.mem_of_mem_take (List.mem_of_mem_drop he))) (fun i j hi hj => ?_) (fun i j e t h1 h2 => ?_)
   ·rw [hlen] at hm'
    rw [if_neg hcl]
    simp only [Option.map_some,add_lit]
    exact hm'
   ·rw [hlen] at hi
    have := hv (l + i) j (by omega) hj
    rwa [show o + (l + i) * kk + j = o + l * kk + i * kk + j by rw [Nat.add_mul]; omega] at this
   ·rw [List.getElem?_drop,List.getElem?_take] at h1
    split at h1
    ·exact ht (l + i) j e t h1 h2
    ·cases h1

section
variable {kk : Nat} {es : List (List T)} {e : TypeId} {zs : List Value} {by_ : Nat}
end

/-! ### Arrays and literal slices -/
theorem q_sbat {p N kk : Nat} {e : TypeId} {zs : List Value} {by_ : Nat} [hm : TyMake P t e zs by_] (ho : o.op = .indexAddr t y z) (hg : o.guard = none) (hy : st.ev y = .o (.c (.sb p N kk))) (hz : st.ev z = .o (.c (.rd qs (.v (.int k i))))) (h0 : 0 ≤ i ∧ i < N) : Qt P ops o st (.o (.c (.ptr p (i.toNat * zs.length)))) [] n :=
 .pure hg fun a w H F hr => by
  obtain ⟨g,tt,vs,e1,e2,e3,e4⟩ := hr.v1 hy
  have h2 := hr.plain hz
  refine ⟨.pointer (some ⟨g,i.toNat * zs.length,none⟩),?_,g,tt,vs,e1,J⟩
  have := run_indexAt_sl (P := P) (w := w) t g 0 N N k i (zs := zs) h0.1 h0.2
  rw [Nat.zero_add] at this
  simp only [execOp,ho,e4,h2,Sem.run_bind,this,Result.andThen_ok]
  rfl
/-! ### Numbers -/
theorem wrap_u8 (i : Int) : IntKind.u8.wrap i = i % 256 := by simp [IntKind.wrap,IntKind.signed,IntKind.bits]
theorem q_sub8 (ho : o.op = .binOp .sub t y z t') (hg : o.guard = none) (hy : st.ev y = .o (.c (.rd ps (.v (.int .u8 i))))) (hz : st.ev z = .o (.c (.rd qs (.v (.int .u8 j)))))
  (hb : 0 ≤ i - j ∧ i - j ≤ 255) : Qt P ops o st (VI .u8 (i - j)) [] n :=
 q_arith ho hg hy hz fun w => by simp [binOp,Op.intArith,wrap_u8,Int.emod_eq_of_lt hb.1 (show i - j < 256 by omega)]
theorem q_convI {k' : IntKind} [hk : TyInt P t' k'] (hs : (P.underlying t).isSome = true) (ho : o.op = .convert t t' y) (hg : o.guard = none) (hy : st.ev y = .o (.c (.rd ps (.v (.int k i))))) (hw : k'.wrap i = i) : Qt P ops o st (VI k' i) [] n := by
 have := q_conv (n := n) (P := P) (ops := ops) hs ho hg hy (hk := hk)
 rwa [hw] at this
theorem wrap_i64 {i : Int} (h : -9223372036854775808 ≤ i ∧ i ≤ 9223372036854775807) : IntKind.i64.wrap i = i := IntWalk.i64_in _ h
/-! ### Bytes -/
class IsB (es : List (List T)) (l : outParam (List UInt8)) : Prop where
 len : es.length = l.length
 at_ : ∀ (i : Nat) (e : List T),es[i]? = some e → ∃ n : Int,e = [.v (.int .u8 n)] ∧ l[i]? = some (UInt8.ofNat n.toNat)
instance (l : List UInt8) : IsB (bE l) l := ⟨bE_len l,fun i e h => by
 unfold bE at h
 rw [List.getElem?_map] at h
 obtain ⟨b,h1,rfl⟩ := Option.map_eq_some_iff.1 h
 exact ⟨b.toNat,J,by rw [h1]; simp⟩⟩
instance {es es' : List (List T)} {l l' : List UInt8} [h : IsB es l] [h' : IsB es' l'] : IsB (es ++ es') (l ++ l') := ⟨by simp [h.len,h'.len],fun i e hi => by
 rcases Nat.lt_or_ge i es.length with h1 | h1
 ·rw [List.getElem?_append_left h1] at hi
  rw [List.getElem?_append_left (by rw [← h.len]; exact h1)]
  exact h.at_ i e hi
 ·rw [List.getElem?_append_right h1] at hi
  rw [List.getElem?_append_right (by rw [← h.len]; exact h1),← h.len]
  exact h'.at_ _ e hi⟩
instance : IsB [] [] := ⟨rfl,fun i e h => by simp at h⟩
instance {n : Int} {es : List (List T)} {l : List UInt8} [h : IsB es l] : IsB ([.v (.int .u8 n)] :: es) (UInt8.ofNat n.toNat :: l) := ⟨by simp [h.len],fun i e hi => by
 cases i with
 | zero => simp at hi; exact ⟨n,hi.symm,rfl⟩
 | succ i => exact h.at_ i e (by simpa using hi)⟩

class TyBytes (P : Program) (t : TypeId) : Prop where
 bytes : (match P.underlying t with | some (.slice e) => (match P.underlying e with | some (.int .u8) => true | _ => false) | _ => false) = true
theorem TyBytes.of {P : Program} {t : TypeId} [h : TyBytes P t] : ∃ e,P.underlying t = some (.slice e) ∧ P.underlying e = some (.int .u8) := by
 have h1 := h.bytes
 split at h1
 ·rename_i e he
  split at h1
  ·exact ⟨e,he,by assumption⟩
  ·cases h1
 ·cases h1
section
variable {kk p : Nat} {es : List (List T)} {l : List UInt8}
end
end
end
section
open Go.RowKit

section
variable {P : Program} {E : Env} {ops : Array Oper} {rest : List Oper} {Q : Exit → St → Prop} {d : Option Tmp} {st : St} {t' : TypeId} {p' : String} {af : Array Edge} {g : Nat × Bool} {l : List Oper} {A S M : List (List Nat)} {N : Nat} {ts : List (Nat × V)} {obs : List Ob} {aS mS : List (List Nat)} {done : List Hd} {k c : Nat}
variable {x y z : Operand} {t u : TypeId} {parts : Array (Nat × Operand)} {i n : Nat} {a b e : Option Operand} {bo : BinOp} {uo : UnOp} {cl : Call} {op : Op} {v : V} {m : Nat} {ob1 : List Ob}
/-! ### Append, continued -/
theorem sbE_plain : ∀ (cs : List V1) (es : List (List T)),sbE cs = some es → plainT es ∧ ∀ e ∈ es,e.length = 1 := fun cs es h => by
 obtain ⟨h1,h2⟩ := sbE_ok cs es h
 refine ⟨fun e he t ht => ?_,fun e he => ?_⟩
 ·obtain ⟨i,hi⟩ := List.getElem?_of_mem he
  obtain ⟨_,u,_,h3⟩ := h2 i e hi
  subst h3
  simp at ht
  exact ⟨u,ht⟩
 ·obtain ⟨i,hi⟩ := List.getElem?_of_mem he
  obtain ⟨_,u,_,h3⟩ := h2 i e hi
  rw [h3]; rfl
section
variable {o : Oper} {dd : Nat} {qs rs : List Nat} {p q NN by_ : Nat} {es es' : List (List T)} {cs : List V1} {z0 : Value} {ee tx : TypeId} {s : ByteArray}
theorem M_appsb [hm : TyMake P t ee [z0] by_] (ho : o.op = .call { callee := .builtin .append,args := #[y,z],argTypes := #[t,t] }) (hg : o.guard = none) (hd : o.dst = some dd) (hl : Nat.blt dd N = true) (hy : St.ev ⟨N,ts,obs⟩ y = .o (.c (.ref p))) (hp : obs[p]? = some (.row 1 es)) (hz : St.ev ⟨N,ts,obs⟩ z = .o (.c (.sb q NN 1))) (hq : obs[q]? = some (.box cs)) (hc : cs.length = NN) (hs : sbE cs = some es')
  (hb : (es.length + NN) * by_ ≤ 140737488355328) (h63 : es.length + NN ≤ 9223372036854775807)
  (h : AL P E ops Q rest ⟨N,(dd,.o (.c (.ref p))) :: (ts.map fun e => (e.1,e.2.kill [p])),(obs.map (Ob.kill [p])).set p (.row 1 (es ++ es'))⟩) : AL P E ops Q (o :: rest) ⟨N,ts,obs⟩ := by
 have h1 := sbE_plain cs es' hs
 have h2 := (sbE_ok cs es' hs).1
 exact L_app (kk := 1) (zs := [z0]) ho hg hy hp hz (by simp only [srcOf,Xg hq]; exact hs) J (by simp) h1.1 h1.2 (by rw [h2,hc]; exact hb) (by rw [h2,hc]; exact h63) (by rw [hd]; exact hl) (by rw [hd]; exact h)
end

theorem Qj {f : FuncId} [hf : FunOk P f] {o : Oper} {ass : Array Operand} {tys : Array TypeId} {args : List V2} {w : Value} {ps : List Nat} (ho : o.op = .call { callee := .value (.func f),args := ass,argTypes := tys }) (hg : o.guard = none)
  (hc : Con P f [] args [] (.o (.c (.rd ps (.v w))))) (ha : ass.toList.map (fun y => lend2 st.objs (st.ev y)) = args) : Qt P ops o st (.o (.c (.rd [] (.v w)))) [] m := by
 have h := q_call (n := m) (P := P) (ops := ops) (o := o) ho hg hc ha J J
 refine ⟨fun a w' H F Q K hr hfree hK => h.h a w' H F Q K hr hfree fun v w'' H' F' hgr hok hob hno hv => hK v w'' H' F' hgr hok hob hno ?_⟩
 have h1 : R1 w'' H' F' (.rd (ps.map (m + ·)) (.v w)) v := hv
 obtain ⟨rfl,h2⟩ := RO.plain h1
 exact RO.v _ h2
end
end
end Go.Proofs.YtcjclaoogdblbaaDoor
