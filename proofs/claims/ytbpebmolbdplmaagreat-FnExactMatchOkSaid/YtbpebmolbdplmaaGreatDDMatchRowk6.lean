/-
  Rules for strings, bytes, parts of slices, arrays and numbers. No statement of the program is proved here.
  Conditions: none.
  The kinds of operations, told apart at once. No statement of the program is proved here.
  Conditions: none.
  Calls of functions that write to what they are lent. No statement of the program is proved here.
  Conditions: none.
-/
import Derived.Laws.IdiomStrings
import Derived.Test.YtbpebmolbdplmaaGreatDDMatchRowk5
section
set_option linter.unusedSimpArgs false
set_option linter.unusedVariables false
namespace Go.Proofs.YtbpebmolbdplmaaGreat
open Go.RowKit

/-- Byte i of a string; 0 if there is none. -/
def byteAt (s : ByteArray) (i : Nat) : Int := ((s[i]?).map fun b => (b.toNat : Int)).getD 0
theorem byteAt_lt (s : ByteArray) (i : Nat) : 0 ≤ byteAt s i ∧ byteAt s i ≤ 255 := by
  unfold byteAt
  cases s[i]? with
  | none => simp
  | some b => have := b.toNat_lt; simp; omega

section
variable {P : Program} {E : Env} {ops : Array Oper} {o : Oper} {st : St} {n : Nat} {rest : List Oper} {QQ : Exit → St → Prop} {y z u : Operand} {t t' : TypeId} {k : IntKind} {i j : Int} {ps qs rs : List Nat} {s : ByteArray}

theorem q_byte [hs : TyStr P t] (ho : o.op = .index t y z) (hg : o.guard = none) (hy : st.ev y = .o (.c (.rd ps (.v (.string s))))) (hz : st.ev z = .o (.c (.rd qs (.v (.int k i))))) (h0 : 0 ≤ i ∧ i < s.size) : Qt P ops o st (VI .u8 (byteAt s i.toNat)) [] n := by
  have h1 : i.toNat < s.size := by omega
  have h2 : s[i.toNat]? = some s[i.toNat] := by simp [h1]
  have h3 : byteAt s i.toNat = (s[i.toNat].toNat : Int) := by simp [byteAt,h2]
  rw [h3]
  exact q_index ho hg hy hz h0.1 h2
theorem q_byteK {b : Int} [hs : TyStr P t] (ho : o.op = .index t y z) (hg : o.guard = none) (hy : st.ev y = .o (.c (.rd ps (.v (.string s))))) (hz : st.ev z = .o (.c (.rd qs (.v (.int k i))))) (hb : byteAt s i.toNat = b) (h0 : 0 ≤ i ∧ i < s.size) : Qt P ops o st (VI .u8 b) [] n := hb ▸ q_byte ho hg hy hz h0

/-! ### Parts of strings -/
/-! ### Parts of slices -/
theorem RO.part {w : World} {F : Nat → Prop} {kk : Nat} {es : List (List T)} {A : Option Addr} {m c l h : Nat} (hr : RO w F (.sl kk es) (.slice A m c)) (hl : l ≤ h) (hh : h ≤ m) : RO w F (.sl kk ((es.take h).drop l)) (.slice (if c = l then A else A.map (·.add (l * kk))) (h - l) (c - l)) := by
  cases hr with
  | nil _ _ _ hm =>
    have h0 : h = 0 := by simpa using hh
    have l0 : l = 0 := by omega
    subst h0 l0
    simpa using RO.nil (F := F) (if c = 0 then A else A.map (·.add (0 * kk))) kk c hm
  | sl _ b o _ _ val hF hc hm hp hk hv ht =>
    have hlen : ((es.take h).drop l).length = h - l := by simp; omega
    by_cases he : h - l = 0
    · have h1 : (es.take h).drop l = [] := List.eq_nil_of_length_eq_zero (by omega)
      rw [h1,he]
      exact .nil _ _ _ (by omega)
    · have hcl : ¬ c = l := by omega
      have hm' := RO.sl (w := w) (F := F) ((es.take h).drop l) b (o + l * kk) kk (c - l) (fun i j => val (l + i) j) hF (by rw [hlen]; omega) (by omega) hp (fun e he => hk e (List.mem_of_mem_take (List.mem_of_mem_drop he))) (fun i j hi hj => ?_) (fun i j e t h1 h2 => ?_)
      · rw [hlen] at hm'
        rw [if_neg hcl]
        simp only [Option.map_some,add_lit]
        exact hm'
      · rw [hlen] at hi
        have := hv (l + i) j (by omega) hj
        rwa [show o + (l + i) * kk + j = o + l * kk + i * kk + j by rw [Nat.add_mul]; omega] at this
      · rw [List.getElem?_drop,List.getElem?_take] at h1
        split at h1
        · exact ht (l + i) j e t h1 h2
        · cases h1

section
variable {kk : Nat} {es : List (List T)} {e : TypeId} {zs : List Value} {by_ : Nat}
end

/-! ### Arrays and literal slices -/
theorem run_indexAt_arr {P : Program} {w : World} (t : TypeId) (b o m kk : Nat) (k : IntKind) (i : Int) [ha : TyArr P t m kk] (h0 : 0 ≤ i) (h1 : i < m) :
    (Instr.indexAt t (.pointer (some ⟨b,o,none⟩)) (.int k i)).run P w = .ok (.pointer (some ⟨b,o + i.toNat * kk,none⟩)) w := by
  have h := ha.arr
  split at h
  · rename_i n' e hu
    obtain ⟨inf,h2,h3⟩ := Option.map_eq_some_iff.1 h
    simp only [Prod.mk.injEq] at h3
    obtain ⟨rfl,h4⟩ := h3
    have hc : (0 ≤ i ∧ i < (n' : Int)) := ⟨h0,h1⟩
    simp only [Instr.indexAt,asIntOf,Sem.run_bind,Sem.run_pure,Result.andThen_ok,run_underlying hu,Instr.sureAddr]
    rw [if_pos hc]
    simp [sizeOf,typeInfo,h2,h4,add_lit]
  · cases h
theorem q_aidx {p m N kk : Nat} [TyArr P t N kk] (ho : o.op = .indexAddr t y z) (hg : o.guard = none) (hy : st.ev y = .o (.c (.ptr p m))) (hz : st.ev z = .o (.c (.rd qs (.v (.int k i))))) (h0 : 0 ≤ i ∧ i < N) : Qt P ops o st (.o (.c (.ptr p (m + i.toNat * kk)))) [] n :=
  .pure hg fun a w H F hr => by
    obtain ⟨g,tt,vs,e1,e2⟩ := hr.v1 hy
    have h2 := hr.plain hz
    refine ⟨.pointer (some ⟨g,m + i.toNat * kk,none⟩),?_,g,tt,vs,e1,rfl⟩
    simp only [execOp,ho,e2,h2,Sem.run_bind,run_indexAt_arr (P := P) (w := w) t g m N kk k i h0.1 h0.2,Result.andThen_ok]
    rfl
theorem q_sbat {p N kk : Nat} {e : TypeId} {zs : List Value} {by_ : Nat} [hm : TyMake P t e zs by_] (ho : o.op = .indexAddr t y z) (hg : o.guard = none) (hy : st.ev y = .o (.c (.sb p N kk))) (hz : st.ev z = .o (.c (.rd qs (.v (.int k i))))) (h0 : 0 ≤ i ∧ i < N) : Qt P ops o st (.o (.c (.ptr p (i.toNat * zs.length)))) [] n :=
  .pure hg fun a w H F hr => by
    obtain ⟨g,tt,vs,e1,e2,e3,e4⟩ := hr.v1 hy
    have h2 := hr.plain hz
    refine ⟨.pointer (some ⟨g,i.toNat * zs.length,none⟩),?_,g,tt,vs,e1,rfl⟩
    have := run_indexAt_sl (P := P) (w := w) t g 0 N N k i (zs := zs) h0.1 h0.2
    rw [Nat.zero_add] at this
    simp only [execOp,ho,e4,h2,Sem.run_bind,this,Result.andThen_ok]
    rfl
/-! ### Numbers -/
theorem q_min (ho : o.op = .call { callee := .builtin .min,args := #[y,z],argTypes := #[t,t'] }) (hg : o.guard = none) (hy : st.ev y = .o (.c (.rd ps (.v (.int k i))))) (hz : st.ev z = .o (.c (.rd qs (.v (.int k j))))) : Qt P ops o st (VI k (min i j)) [] n :=
  .pure hg fun a w H F hr => ⟨.int k (min i j),by
    have h1 := hr.plain hy
    have h2 := hr.plain hz
    have h3 : (if j < i then j else i) = min i j := by simp only [Int.min_def]; split <;> split <;> omega
    simp [execOp,ho,resolve,h1,h2,invoke,builtin,Builtin.min_,Builtin.min2,h3],plainV _ rfl⟩
theorem wrap_u8 (i : Int) : IntKind.u8.wrap i = i % 256 := by simp [IntKind.wrap,IntKind.signed,IntKind.bits]
theorem q_sub8 (ho : o.op = .binOp .sub t y z t') (hg : o.guard = none) (hy : st.ev y = .o (.c (.rd ps (.v (.int .u8 i))))) (hz : st.ev z = .o (.c (.rd qs (.v (.int .u8 j)))))
    (hb : 0 ≤ i - j ∧ i - j ≤ 255) : Qt P ops o st (VI .u8 (i - j)) [] n :=
  q_arith ho hg hy hz fun w => by simp [binOp,Op.intArith,wrap_u8,Int.emod_eq_of_lt hb.1 (show i - j < 256 by omega)]
/-! ### Bytes -/
/-- Cells ass bytes. -/
class IsB (es : List (List T)) (l : outParam (List UInt8)) : Prop where
  len : es.length = l.length
  at_ : ∀ (i : Nat) (e : List T),es[i]? = some e → ∃ n : Int,e = [.v (.int .u8 n)] ∧ l[i]? = some (UInt8.ofNat n.toNat)
instance (l : List UInt8) : IsB (bE l) l := ⟨bE_len l,fun i e h => by
  unfold bE at h
  rw [List.getElem?_map] at h
  obtain ⟨b,h1,rfl⟩ := Option.map_eq_some_iff.1 h
  exact ⟨b.toNat,rfl,by rw [h1]; simp⟩⟩
instance {es es' : List (List T)} {l l' : List UInt8} [h : IsB es l] [h' : IsB es' l'] : IsB (es ++ es') (l ++ l') := ⟨by simp [h.len,h'.len],fun i e hi => by
  rcases Nat.lt_or_ge i es.length with h1 | h1
  · rw [List.getElem?_append_left h1] at hi
    rw [List.getElem?_append_left (by rw [← h.len]; exact h1)]
    exact h.at_ i e hi
  · rw [List.getElem?_append_right h1] at hi
    rw [List.getElem?_append_right (by rw [← h.len]; exact h1),← h.len]
    exact h'.at_ _ e hi⟩
instance : IsB [] [] := ⟨rfl,fun i e h => by simp at h⟩
instance {n : Int} {es : List (List T)} {l : List UInt8} [h : IsB es l] : IsB ([.v (.int .u8 n)] :: es) (UInt8.ofNat n.toNat :: l) := ⟨by simp [h.len],fun i e hi => by
  cases i with
  | zero => simp at hi; exact ⟨n,hi.symm,rfl⟩
  | succ i => exact h.at_ i e (by simpa using hi)⟩

class TyBytes (P : Program) (t : TypeId) : Prop where
  bytes : (match P.underlying t with | some (.slice e) => (match P.underlying e with | some (.int .u8) => true | _ => false) | _ => false) = true
theorem TyBytes.of {P : Program} {t : TypeId} [h : TyBytes P t] : ∃ e,P.underlying t = some (.slice e) ∧ P.underlying e = some (.int .u8) := by
  have h1 := h.bytes
  split at h1
  · rename_i e he
    split at h1
    · exact ⟨e,he,by assumption⟩
    · cases h1
  · cases h1
section
variable {kk p : Nat} {es : List (List T)} {l : List UInt8}
end
end
end Go.Proofs.YtbpebmolbdplmaaGreat
end

section
set_option linter.unusedSimpArgs false
set_option linter.unusedVariables false
namespace Go.Proofs.YtbpebmolbdplmaaGreat
open Go.RowKit

section
variable {P : Program} {E : Env} {ops : Array Oper} {rest : List Oper} {Q : Exit → St → Prop} {d : Option Tmp} {st : St} {t' : TypeId} {p' : String} {af : Array Edge} {g : Nat × Bool} {l : List Oper} {A S M : List (List Nat)} {N : Nat} {ts : List (Nat × V)} {obs : List Ob} {aS mS : List (List Nat)} {done : List Hd} {k c : Nat}
variable {x y z : Operand} {t u : TypeId} {parts : Array (Nat × Operand)} {i n : Nat} {a b e : Option Operand} {bo : BinOp} {uo : UnOp} {cl : Call} {op : Op} {v : V} {m : Nat} {ob1 : List Ob}
/-! ### Append, continued -/
section
variable {o : Oper} {dd : Nat} {qs rs : List Nat} {p q NN by_ : Nat} {es es' : List (List T)} {cs : List V1} {z0 : Value} {ee tx : TypeId} {s : ByteArray}
end

/-- A call that hands back a plain value. -/
theorem q_call0 {f : FuncId} [hf : FunOk P f] {o : Oper} {ass : Array Operand} {tys : Array TypeId} {args : List V2} {w : Value} {ps : List Nat} (ho : o.op = .call { callee := .value (.func f),args := ass,argTypes := tys }) (hg : o.guard = none)
    (hc : Con P f [] args [] (.o (.c (.rd ps (.v w))))) (ha : ass.toList.map (fun y => lend2 st.objs (st.ev y)) = args) : Qt P ops o st (.o (.c (.rd [] (.v w)))) [] m := by
  have h := q_call (n := m) (P := P) (ops := ops) (o := o) ho hg hc ha rfl rfl
  refine ⟨fun a w' H F Q K hr hfree hK => h.h a w' H F Q K hr hfree fun v w'' H' F' hgr hok hob hno hv => hK v w'' H' F' hgr hok hob hno ?_⟩
  have h1 : R1 w'' H' F' (.rd (ps.map (m + ·)) (.v w)) v := hv
  obtain ⟨rfl,h2⟩ := RO.plain h1
  exact RO.v _ h2
end
end Go.Proofs.YtbpebmolbdplmaaGreat
end

section
set_option linter.unusedSimpArgs false
set_option linter.unusedVariables false
namespace Go.Proofs.YtbpebmolbdplmaaGreat
open Go.RowKit

section
variable {P : Program} {E : Env} {ops : Array Oper} {o : Oper} {st : St} {n : Nat} {rest : List Oper} {QQ : Exit → St → Prop} {w w' : World} {H H' : Hs} {F F' : Nat → Prop} {a : Act}

theorem R1.sub {H1 : Hs} {F1 : Nat → Prop} (hs : ∀ q,H q ≠ .nil → H1 q = H q) (hF : ∀ b,F b → F1 b) {x : V1} {v : Value} (h : R1 w H F x v) : R1 w H1 F1 x v := by
  have hin : ∀ {qs : List Nat} {b : Nat},inP H F qs b → inP H1 F1 qs b := fun hb => by
    rcases hb with hb | ⟨q,hq,x,v,fp,e,hb⟩
    · exact .inl (hF _ hb)
    · exact .inr ⟨q,hq,x,v,fp,by rw [hs q (by rw [e]; simp),e],hb⟩
  cases x with
  | rd qs x => exact RO.weak h fun b hb _ => hin hb
  | ref p => obtain ⟨x,fp,e⟩ := h; exact ⟨x,fp,by rw [hs p (by rw [e]; simp),e]⟩
  | ptr p i => obtain ⟨g,t,vs,e,hv⟩ := h; exact ⟨g,t,vs,by rw [hs p (by rw [e]; simp),e],hv⟩
  | sb p n k => obtain ⟨g,t,vs,e,hv⟩ := h; exact ⟨g,t,vs,by rw [hs p (by rw [e]; simp),e],hv⟩
  | el p k i j => obtain ⟨b,o,n,c,x,fp,e,hv⟩ := h; exact ⟨b,o,n,c,x,fp,by rw [hs p (by rw [e]; simp),e],hv⟩
  | le p k i j => obtain ⟨b,o,n,c,x,fp,e,hv⟩ := h; exact ⟨b,o,n,c,x,fp,by rw [hs p (by rw [e]; simp),e],hv⟩
  | hd p n => obtain ⟨A,m,c,x,fp,e,hv⟩ := h; exact ⟨A,m,c,x,fp,by rw [hs p (by rw [e]; simp),e],hv⟩
  | rp qs xs =>
    obtain ⟨b,o,hv,hb,hc⟩ := h
    refine ⟨b,o,hv,hin hb,fun j t hj => ?_⟩
    obtain ⟨u,h1,h2⟩ := hc j t hj
    exact ⟨u,h1,RO.weak h2 fun b hb _ => hin hb⟩
  | un => trivial
theorem R2.sub {H1 : Hs} {F1 : Nat → Prop} (hs : ∀ q,H q ≠ .nil → H1 q = H q) (hF : ∀ b,F b → F1 b) {x : V2} {v : Value} (h : R2 w H F x v) : R2 w H1 F1 x v := by
  cases x with
  | c x => exact R1.sub hs hF h
  | ag xs => obtain ⟨us,e,hl,hr⟩ := h; exact ⟨us,e,hl,fun i x u h1 h2 => R1.sub hs hF (hr i x u h1 h2)⟩
theorem RB.sub {H1 : Hs} {F1 : Nat → Prop} (hs : ∀ q,H q ≠ .nil → H1 q = H q) (hF : ∀ b,F b → F1 b) {p : Nat} {ob : Ob} (hp : H p ≠ .nil) (h : RB w H F p ob) : RB w H1 F1 p ob := by
  cases ob with
  | gone => exact absurd h hp
  | hole => trivial
  | box cs => obtain ⟨g,t,vs,e,hl,hr⟩ := h; exact ⟨g,t,vs,by rw [hs p hp,e],hl,fun i c u h1 h2 => ⟨R1.sub hs hF (hr i c u h1 h2).1,(hr i c u h1 h2).2⟩⟩
  | row k es => obtain ⟨v,fp,e⟩ := h; exact ⟨v,fp,by rw [hs p hp,e]⟩
  | gh i x => obtain ⟨v,e,hr⟩ := h; exact ⟨v,by rw [hs p hp,e],R2.sub hs hF hr⟩

section
variable {H2 : Hs} {F2 : Nat → Prop} {φ : Nat → Nat}
end
def pickC : V2 → Nat → Option V1
  | .c x,_ => some x
  | .ag xs,j => xs[j]?
def pickU : V2 → Value → Nat → Value
  | .c _,v,_ => v
  | .ag _,v,j => match v with
    | .agg us => us.toList.getD j undef
    | _ => undef
theorem R2.cell {x : V2} {v : Value} {j : Nat} {c : V1} (h : R2 w H F x v) (hp : pickC x j = some c) : R1 w H F c (pickU x v j) := by
  cases x with
  | c x => simp only [pickC,Option.some.injEq] at hp; subst hp; exact h
  | ag xs =>
    obtain ⟨us,rfl,hl,hr⟩ := h
    have hj : j < us.length := by rw [hl]; exact getE_lt hp
    have := hr j c _ hp (List.getElem?_eq_getElem hj)
    simpa [pickU,List.getD_eq_getElem?_getD,hj] using this

end
end Go.Proofs.YtbpebmolbdplmaaGreat
end
