/-
  Parts of the proof (rules, data, and what functions of the program and of the reference return), among them: The kinds of operations, told apart at once; Calls of functions that write to what they are lent.
  Conditions: those that each theorem names.
-/
import Derived.Laws.IdiomStrings
import Derived.Test.YtpmacgnmlmmojaaGreatDoorDDDgRowk9
set_option linter.unusedSimpArgs false
set_option linter.unusedVariables false
namespace Go.Proofs.YtpmacgnmlmmojaaGreatDoor
section
open Go.RowKit

def byteAt (s : ByteArray) (i : Nat) : Int := ((s[i]?).map fun b => (b.toNat : Int)).getD 0
theorem Yh (s : ByteArray) (i : Nat) : 0 ≤ byteAt s i ∧ byteAt s i ≤ 255 := by
 unfold byteAt
 cases s[i]? with
 | none => simp
 | some b => have := b.toNat_lt; simp; omega

section
variable {P : Program} {E : Env} {ops : Array Oper} {o : Oper} {st : St} {n : Nat} {rest : List Oper} {QQ : Exit → St → Prop} {y z u : Operand} {t t' : TypeId} {k : IntKind} {i j : Int} {ps qs rs : List Nat} {s : ByteArray}

theorem Zi [hs : TyStr P t] (ho : o.op = .index t y z) (hg : o.guard = none) (hy : st.ev y = .o (.c (.rd ps (.v (.string s))))) (hz : st.ev z = .o (.c (.rd qs (.v (.int k i))))) (h0 : 0 ≤ i ∧ i < s.size) : Qt P ops o st (VI .u8 (byteAt s i.toNat)) [] n := by
 have h1 : i.toNat < s.size := by omega
 have h2 : s[i.toNat]? = some s[i.toNat] := by simp [h1]
 have h3 : byteAt s i.toNat = (s[i.toNat].toNat : Int) := by simp [byteAt,h2]
 rw [h3]
 exact q_index ho hg hy hz h0.1 h2
theorem Zj {b : Int} [hs : TyStr P t] (ho : o.op = .index t y z) (hg : o.guard = none) (hy : st.ev y = .o (.c (.rd ps (.v (.string s))))) (hz : st.ev z = .o (.c (.rd qs (.v (.int k i))))) (hb : byteAt s i.toNat = b) (h0 : 0 ≤ i ∧ i < s.size) : Qt P ops o st (VI .u8 b) [] n := hb ▸ Zi ho hg hy hz h0

/-! ### Parts of strings -/
theorem Z1 [hs : TyStr P t] (ho : o.op = .slice t y (some z) (some u) none) (hg : o.guard = none) (hy : st.ev y = .o (.c (.rd ps (.v (.string s))))) (hz : st.ev z = .o (.c (.rd qs (.v (.int .i64 i))))) (hu : st.ev u = .o (.c (.rd rs (.v (.int .i64 j))))) (h0 : 0 ≤ i ∧ i ≤ j ∧ j ≤ s.size) :
  Qt P ops o st (S (s.extract i.toNat j.toNat)) [] n :=
 .pure hg fun a w H F hr => ⟨.string (s.extract i.toNat j.toNat),by
  have h1 := hr.plain hy
  have h2 := hr.plain hz
  have h3 := hr.plain hu
  have h4 : 0 ≤ j ∧ j ≤ (s.size : Int) := by omega
  have h5 : 0 ≤ i ∧ i ≤ (j.toNat : Int) := by omega
  simp [execOp,ho,h1,h2,h3,Instr.sliceAt,Instr.slice,Instr.sliceBounds,Instr.sliceBound,asIntOf,run_underlying hs.str,h4,h5] <;> (intro h9; omega),plainV _ rfl⟩
/-! ### Parts of slices -/
theorem RO.part {w : World} {F : Nat → Prop} {kk : Nat} {es : List (List T)} {A : Option Addr} {m c l h : Nat} (hr : RO w F (.sl kk es) (.slice A m c)) (hl : l ≤ h) (hh : h ≤ m) : RO w F (.sl kk ((es.take h).drop l)) (.slice (if c = l then A else A.map (·.add (l * kk))) (h - l) (c - l)) := by
 cases hr with
 | nil _ _ _ hm =>
  have h0 : h = 0 := by simpa using hh
  have l0 : l = 0 := by omega
  subst h0 l0
  simpa using RO.nil (F := F) (if c = 0 then A else A.map (·.add (0 * kk))) kk c hm
 | sl _ b o _ _ val hF hc hm hp hk hv ht =>
  have hlen : ((es.take h).drop l).length = h - l := by simp; omega
  by_cases he : h - l = 0
  ·have h1 : (es.take h).drop l = [] := List.eq_nil_of_length_eq_zero (by omega)
   rw [h1,he]
   exact .nil _ _ _ (by omega)
  ·have hcl : ¬ c = l := by omega
   have hm' := RO.sl (w := w) (F := F) ((es.take h).drop l) b (o + l * kk) kk (c - l) (fun i j => val (l + i) j) hF (by rw [hlen]; omega) (by omega) hp (fun e he => hk e (List.mem_of_mem_take (List.mem_of_mem_drop he))) (fun i j hi hj => ?_) (fun i j e t h1 h2 => ?_)
   ·rw [hlen] at hm'
    rw [if_neg hcl]
    simp only [Option.map_some,add_lit]
    exact hm'
   ·rw [hlen] at hi
    have := hv (l + i) j (by omega) hj
    rwa [show o + (l + i) * kk + j = o + l * kk + i * kk + j by rw [Nat.add_mul]; omega] at this
   ·rw [List.getElem?_drop,List.getElem?_take] at h1
    split at h1
    ·exact ht (l + i) j e t h1 h2
    ·cases h1

def loIs : Option Int → Nat → Prop
 | some i,l => 0 ≤ i ∧ i.toNat = l
 | none,l => l = 0
def hiIs : Option Int → Nat → Nat → Prop
 | some j,_,h => 0 ≤ j ∧ j.toNat = h
 | none,m,h => h = m
theorem run_slice {P : Program} {w : World} {t e : TypeId} {zs : List Value} {by_ : Nat} [hm : TyMake P t e zs by_] {A : Option Addr} {m c : Nat} (lo hi : Option Int) (l h : Nat) (hl : loIs lo l) (hh : hiIs hi m h) (h1 : l ≤ h) (h2 : h ≤ c) :
  (Instr.sliceAt t (.slice A m c) (lo.map (Value.int .i64)) (hi.map (Value.int .i64)) none).run P w = .ok (.slice (if c = l then A else A.map (·.add (l * zs.length))) (h - l) (c - l)) w := by
 obtain ⟨inf,hi',hzz⟩ := Option.map_eq_some_iff.1 hm.info
 simp only [Prod.mk.injEq] at hzz
 obtain ⟨hz1,hs,hb1⟩ := hzz
 cases lo with
 | none =>
  have hl : l = 0 := hl
  subst hl
  cases hi with
  | none =>
   have hh : h = m := hh
   subst hh
   simp [Instr.sliceAt,Instr.slice,Instr.sliceBounds,run_underlying hm.slice,sizeOf,typeInfo,hi',hs]
  | some j =>
   obtain ⟨g1,g2⟩ := hh
   have g3 : 0 ≤ j ∧ j ≤ (c : Int) := by omega
   simp [Instr.sliceAt,Instr.slice,Instr.sliceBounds,Instr.sliceBound,asIntOf,run_underlying hm.slice,sizeOf,typeInfo,hi',hs,g3,g2]
 | some i =>
  obtain ⟨f1,f2⟩ := hl
  cases hi with
  | none =>
   have hh : h = m := hh
   subst hh
   have g3 : 0 ≤ i ∧ i ≤ (h : Int) := by omega
   simp [Instr.sliceAt,Instr.slice,Instr.sliceBounds,Instr.sliceBound,asIntOf,run_underlying hm.slice,sizeOf,typeInfo,hi',hs,g3,f2]
  | some j =>
   obtain ⟨g1,g2⟩ := hh
   have g3 : 0 ≤ j ∧ j ≤ (c : Int) := by omega
   have g4 : 0 ≤ i ∧ i ≤ (j.toNat : Int) := by omega
   simp [Instr.sliceAt,Instr.slice,Instr.sliceBounds,Instr.sliceBound,asIntOf,run_underlying hm.slice,sizeOf,typeInfo,hi',hs,g3,g4,g2,f2] <;> (intro h9; omega)

section
variable {kk : Nat} {es : List (List T)} {e : TypeId} {zs : List Value} {by_ : Nat}
theorem part_run [hm : TyMake P t e zs by_] {lo hi : Option Operand} {vlo vhi : Option Int} {a : Act} {w : World} {H : Hs} {F G : Nat → Prop} (hr : R0 w H F st a) (ho : o.op = .slice t y lo hi none) (hlo : lo.map a.eval = vlo.map (Value.int .i64)) (hhi : hi.map a.eval = vhi.map (Value.int .i64))
  (hy : RO w G (.sl kk es) (a.eval y)) (hkz : kk = zs.length) (l h : Nat) (hl : loIs vlo l) (hh : hiIs vhi es.length h) (h1 : l ≤ h) (h2 : h ≤ es.length) :
  ∃ v,(execOp a.eval o).run P w = .ok (.value v) w ∧ RO w G (.sl kk ((es.take h).drop l)) v := by
 obtain ⟨A,c,hv,hc,_⟩ := hy.form
 rw [hv] at hy
 refine ⟨_,?_,RO.part hy h1 h2⟩
 have hrun := run_slice (P := P) (w := w) (t := t) (e := e) (zs := zs) (by_ := by_) (A := A) vlo vhi l h hl hh h1 (show h ≤ c by omega)
 rw [← hkz] at hrun
 unfold execOp
 simp only [ho,hlo,hhi,hv,Option.map_none,Sem.run_bind,hrun,Result.andThen_ok]
 rfl
theorem q_part [hm : TyMake P t e zs by_] (ho : o.op = .slice t y (some z) (some u) none) (hg : o.guard = none) (hy : st.ev y = .o (.c (.rd ps (.sl kk es)))) (hz : st.ev z = .o (.c (.rd qs (.v (.int .i64 i))))) (hu : st.ev u = .o (.c (.rd rs (.v (.int .i64 j))))) (hkz : kk = zs.length) (h0 : 0 ≤ i ∧ i ≤ j ∧ j ≤ es.length) :
  Qt P ops o st (.o (.c (.rd ps (.sl kk ((es.take j.toNat).drop i.toNat))))) [] n :=
 .pure hg fun a w H F hr => part_run (vlo := some i) (vhi := some j) hr ho (by simp [hr.plain hz]) (by simp [hr.plain hu]) (hr.v1 hy) hkz i.toNat j.toNat ⟨by omega,rfl⟩ ⟨by omega,rfl⟩ (by omega) (by omega)
theorem q_part0 [hm : TyMake P t e zs by_] (ho : o.op = .slice t y none (some u) none) (hg : o.guard = none) (hy : st.ev y = .o (.c (.rd ps (.sl kk es)))) (hu : st.ev u = .o (.c (.rd rs (.v (.int .i64 j))))) (hkz : kk = zs.length) (h0 : 0 ≤ j ∧ j ≤ es.length) :
  Qt P ops o st (.o (.c (.rd ps (.sl kk (es.take j.toNat))))) [] n :=
 .pure hg fun a w H F hr => part_run (vlo := none) (vhi := some j) hr ho rfl (by simp [hr.plain hu]) (hr.v1 hy) hkz 0 j.toNat rfl ⟨by omega,rfl⟩ (by omega) (by omega)
theorem own_ro {p : Nat} {a : Act} {w : World} {H : Hs} {F : Nat → Prop} (hr : R0 w H F st a) (hy : st.ev y = .o (.c (.ref p))) (hp : st.objs[p]? = some (.row kk es)) : RO w (inP H F [p]) (.sl kk es) (a.eval y) := by
 obtain ⟨v,fp,e1,e2⟩ := hr.ow hp
 obtain ⟨x,fp',e3⟩ := hr.v1 hy
 rw [e1] at e3
 simp only [Pc.ow.injEq] at e3
 rw [← e3.2.1]
 exact e2.ro.weak fun b hb _ => .inr ⟨p,by simp,_,_,_,e1,hb⟩
end

/-! ### Arrays and literal slices -/
theorem run_indexAt_arr {P : Program} {w : World} (t : TypeId) (b o m kk : Nat) (k : IntKind) (i : Int) [ha : TyArr P t m kk] (h0 : 0 ≤ i) (h1 : i < m) :
  (Instr.indexAt t (.pointer (some ⟨b,o,none⟩)) (.int k i)).run P w = .ok (.pointer (some ⟨b,o + i.toNat * kk,none⟩)) w := by
 have h := ha.arr
 split at h
 ·rename_i n' e hu
  obtain ⟨inf,h2,h3⟩ := Option.map_eq_some_iff.1 h
  simp only [Prod.mk.injEq] at h3
  obtain ⟨rfl,h4⟩ := h3
  have hc : (0 ≤ i ∧ i < (n' : Int)) := ⟨h0,h1⟩
  simp only [Instr.indexAt,asIntOf,Sem.run_bind,Sem.run_pure,Result.andThen_ok,run_underlying hu,Instr.sureAddr]
  rw [if_pos hc]
  simp [sizeOf,typeInfo,h2,h4,add_lit]
 ·cases h
theorem q_aidx {p m N kk : Nat} [TyArr P t N kk] (ho : o.op = .indexAddr t y z) (hg : o.guard = none) (hy : st.ev y = .o (.c (.ptr p m))) (hz : st.ev z = .o (.c (.rd qs (.v (.int k i))))) (h0 : 0 ≤ i ∧ i < N) : Qt P ops o st (.o (.c (.ptr p (m + i.toNat * kk)))) [] n :=
 .pure hg fun a w H F hr => by
  obtain ⟨g,tt,vs,e1,e2⟩ := hr.v1 hy
  have h2 := hr.plain hz
  refine ⟨.pointer (some ⟨g,m + i.toNat * kk,none⟩),?_,g,tt,vs,e1,J⟩
  simp only [execOp,ho,e2,h2,Sem.run_bind,run_indexAt_arr (P := P) (w := w) t g m N kk k i h0.1 h0.2,Result.andThen_ok]
  rfl
theorem q_sbat {p N kk : Nat} {e : TypeId} {zs : List Value} {by_ : Nat} [hm : TyMake P t e zs by_] (ho : o.op = .indexAddr t y z) (hg : o.guard = none) (hy : st.ev y = .o (.c (.sb p N kk))) (hz : st.ev z = .o (.c (.rd qs (.v (.int k i))))) (h0 : 0 ≤ i ∧ i < N) : Qt P ops o st (.o (.c (.ptr p (i.toNat * zs.length)))) [] n :=
 .pure hg fun a w H F hr => by
  obtain ⟨g,tt,vs,e1,e2,e3,e4⟩ := hr.v1 hy
  have h2 := hr.plain hz
  refine ⟨.pointer (some ⟨g,i.toNat * zs.length,none⟩),?_,g,tt,vs,e1,J⟩
  have := Z5 (P := P) (w := w) t g 0 N N k i (zs := zs) h0.1 h0.2
  rw [Nat.zero_add] at this
  simp only [execOp,ho,e4,h2,Sem.run_bind,this,Result.andThen_ok]
  rfl
theorem q_lensb {p N kk : Nat} {e : TypeId} {zs : List Value} {by_ : Nat} [hm : TyMake P t e zs by_] (ho : o.op = .call { callee := .builtin .len,args := #[y],argTypes := #[t] }) (hg : o.guard = none) (hy : st.ev y = .o (.c (.sb p N kk))) : Qt P ops o st (I N) [] n :=
 .pure hg fun a w H F hr => ⟨.int .i64 N,by
  obtain ⟨g,tt,vs,e1,e2,e3,e4⟩ := hr.v1 hy
  exact len_run ho e4,plainV _ J⟩
/-! ### Numbers -/
theorem q_neg (ho : o.op = .unOp .neg t y) (hg : o.guard = none) (hy : st.ev y = .o (.c (.rd ps (.v (.int .i64 i))))) (hb : -9223372036854775807 ≤ i ∧ i ≤ 9223372036854775807) : Qt P ops o st (I (-i)) [] n :=
 .pure hg fun a w H F hr => ⟨.int .i64 (-i),by
  have h1 := hr.plain hy
  have h2 : IntKind.i64.wrap (0 - i) = -i := by rw [IntWalk.i64_in _ (by omega)]; omega
  simp only [execOp,ho,h1,Op.unary,Op.intArith,h2]
  rfl,plainV _ rfl⟩
theorem q_min (ho : o.op = .call { callee := .builtin .min,args := #[y,z],argTypes := #[t,t'] }) (hg : o.guard = none) (hy : st.ev y = .o (.c (.rd ps (.v (.int k i))))) (hz : st.ev z = .o (.c (.rd qs (.v (.int k j))))) : Qt P ops o st (VI k (min i j)) [] n :=
 .pure hg fun a w H F hr => ⟨.int k (min i j),by
  have h1 := hr.plain hy
  have h2 := hr.plain hz
  have h3 : (if j < i then j else i) = min i j := by simp only [Int.min_def]; split <;> split <;> omega
  simp [execOp,ho,resolve,h1,h2,invoke,builtin,Builtin.min_,Builtin.min2,h3],plainV _ rfl⟩
theorem wrap_u8 (i : Int) : IntKind.u8.wrap i = i % 256 := by simp [IntKind.wrap,IntKind.signed,IntKind.bits]
theorem Z3 (ho : o.op = .binOp .sub t y z t') (hg : o.guard = none) (hy : st.ev y = .o (.c (.rd ps (.v (.int .u8 i))))) (hz : st.ev z = .o (.c (.rd qs (.v (.int .u8 j)))))
  (hb : 0 ≤ i - j ∧ i - j ≤ 255) : Qt P ops o st (VI .u8 (i - j)) [] n :=
 Zf ho hg hy hz fun w => by simp [binOp,Op.intArith,wrap_u8,Int.emod_eq_of_lt hb.1 (show i - j < 256 by omega)]
theorem Zl {k' : IntKind} [hk : TyInt P t' k'] (hs : (P.underlying t).isSome = true) (ho : o.op = .convert t t' y) (hg : o.guard = none) (hy : st.ev y = .o (.c (.rd ps (.v (.int k i))))) (hw : k'.wrap i = i) : Qt P ops o st (VI k' i) [] n := by
 have := q_conv (n := n) (P := P) (ops := ops) hs ho hg hy (hk := hk)
 rwa [hw] at this
theorem Ki {i : Int} (h : -9223372036854775808 ≤ i ∧ i ≤ 9223372036854775807) : IntKind.i64.wrap i = i := IntWalk.i64_in _ h
theorem Kj {i : Int} (h : 0 ≤ i ∧ i ≤ 255) : IntKind.u8.wrap i = i := by rw [wrap_u8,Int.emod_eq_of_lt h.1 (by omega)]
theorem bits_in {m : Nat} {i : Int} (h : 0 ≤ i ∧ i < 2 ^ m) : (BitVec.ofInt m i).toNat = i.toNat := by
 rw [BitVec.toNat_ofInt,Int.emod_eq_of_lt h.1 (by simpa using h.2)]
theorem q_band (ho : o.op = .binOp .and t y z t') (hg : o.guard = none) (hy : st.ev y = .o (.c (.rd ps (.v (.int .i64 i))))) (hz : st.ev z = .o (.c (.rd qs (.v (.int .i64 j))))) (h0 : 0 ≤ i ∧ i ≤ 9223372036854775807 ∧ 0 ≤ j ∧ j ≤ 9223372036854775807) : Qt P ops o st (I ((i.toNat &&& j.toNat : Nat) : Int)) [] n :=
 Zf ho hg hy hz fun w => by
  have h1 : (BitVec.ofInt IntKind.i64.bits i).toNat = i.toNat := bits_in (m := 64) ⟨by omega,by omega⟩
  have h2 : (BitVec.ofInt IntKind.i64.bits j).toNat = j.toNat := bits_in (m := 64) ⟨by omega,by omega⟩
  have h3 : i.toNat &&& j.toNat ≤ i.toNat := Nat.and_le_left
  have h5 : IntKind.i64.wrap ((i.toNat &&& j.toNat : Nat) : Int) = ((i.toNat &&& j.toNat : Nat) : Int) := Ki (by omega)
  simp only [binOp,Op.intBits,BitVec.toNat_and,h1,h2,h5,ne_eq,not_true_eq_false,if_false]
  rfl
theorem q_bxor8 (ho : o.op = .binOp .xor t y z t') (hg : o.guard = none) (hy : st.ev y = .o (.c (.rd ps (.v (.int .u8 i))))) (hz : st.ev z = .o (.c (.rd qs (.v (.int .u8 j))))) (h0 : 0 ≤ i ∧ i ≤ 255 ∧ 0 ≤ j ∧ j ≤ 255) : Qt P ops o st (VI .u8 ((i.toNat ^^^ j.toNat : Nat) : Int)) [] n :=
 Zf ho hg hy hz fun w => by
  have h1 : (BitVec.ofInt IntKind.u8.bits i).toNat = i.toNat := bits_in (m := 8) ⟨by omega,by omega⟩
  have h2 : (BitVec.ofInt IntKind.u8.bits j).toNat = j.toNat := bits_in (m := 8) ⟨by omega,by omega⟩
  have h3 : i.toNat ^^^ j.toNat < 2 ^ 8 := Nat.xor_lt_two_pow (by omega) (by omega)
  have h5 : IntKind.u8.wrap ((i.toNat ^^^ j.toNat : Nat) : Int) = ((i.toNat ^^^ j.toNat : Nat) : Int) := Kj (by omega)
  simp only [binOp,Op.intBits,BitVec.toNat_xor,h1,h2,h5,ne_eq,not_true_eq_false,if_false]
  rfl

/-! ### Bytes -/
class IsB (es : List (List T)) (l : outParam (List UInt8)) : Prop where
 len : es.length = l.length
 at_ : ∀ (i : Nat) (e : List T),es[i]? = some e → ∃ n : Int,e = [.v (.int .u8 n)] ∧ l[i]? = some (UInt8.ofNat n.toNat)
instance (l : List UInt8) : IsB (bE l) l := ⟨Yc l,fun i e h => by
 unfold bE at h
 rw [List.getElem?_map] at h
 obtain ⟨b,h1,rfl⟩ := Option.map_eq_some_iff.1 h
 exact ⟨b.toNat,J,by rw [h1]; simp⟩⟩
instance {es es' : List (List T)} {l l' : List UInt8} [h : IsB es l] [h' : IsB es' l'] : IsB (es ++ es') (l ++ l') := ⟨by simp [h.len,h'.len],fun i e hi => by
 rcases Nat.lt_or_ge i es.length with h1 | h1
 ·rw [List.getElem?_append_left h1] at hi
  rw [List.getElem?_append_left (by rw [← h.len]; exact h1)]
  exact h.at_ i e hi
 ·rw [List.getElem?_append_right h1] at hi
  rw [List.getElem?_append_right (by rw [← h.len]; exact h1),← h.len]
  exact h'.at_ _ e hi⟩
instance : IsB [] [] := ⟨rfl,fun i e h => by simp at h⟩
instance {n : Int} {es : List (List T)} {l : List UInt8} [h : IsB es l] : IsB ([.v (.int .u8 n)] :: es) (UInt8.ofNat n.toNat :: l) := ⟨by simp [h.len],fun i e hi => by
 cases i with
 | zero => simp at hi; exact ⟨n,hi.symm,rfl⟩
 | succ i => exact h.at_ i e (by simpa using hi)⟩

class TyBytes (P : Program) (t : TypeId) : Prop where
 bytes : (match P.underlying t with | some (.slice e) => (match P.underlying e with | some (.int .u8) => true | _ => false) | _ => false) = true
theorem TyBytes.of {P : Program} {t : TypeId} [h : TyBytes P t] : ∃ e,P.underlying t = some (.slice e) ∧ P.underlying e = some (.int .u8) := by
 have h1 := h.bytes
 split at h1
 ·rename_i e he
  split at h1
  ·exact ⟨e,he,by assumption⟩
  ·cases h1
 ·cases h1
theorem foldl_bytes : ∀ (ns : List Int) (r : ByteArray),ns.foldl (fun r n => r.push (UInt8.ofNat n.toNat)) r = ⟨r.data ++ (ns.map fun n => UInt8.ofNat n.toNat).toArray⟩
 | [],r => by simp
 | n :: ns,r => by
  rw [List.foldl_cons,foldl_bytes ns]
  simp [ByteArray.push]
def numOf : Option (List T) → Int
 | some [.v (.int .u8 n)] => n
 | _ => 0
theorem bstr_run [hb : TyBytes P t] [hs : TyStr P t'] {a : Act} {w : World} {G : Nat → Prop} {kk : Nat} {es : List (List T)} {l : List UInt8} [hl : IsB es l] (ho : o.op = .convert t t' y) (hy : RO w G (.sl kk es) (a.eval y)) : (execOp a.eval o).run P w = .ok (.value (.string ⟨l.toArray⟩)) w := by
 obtain ⟨e,h1,h2⟩ := TyBytes.of (P := P) (t := t)
 obtain ⟨A,c,hv,hc,_⟩ := hy.form
 have key : (convert t t' (a.eval y)).run P w = .ok (.string ⟨l.toArray⟩) w := by
  rw [hv,run_convert_bytes_string w t t' e A es.length c h1 h2 hs.str]
  cases he : es with
  | nil =>
   subst he
   have hl0 : l = [] := List.eq_nil_of_length_eq_zero (by rw [← hl.len]; rfl)
   subst hl0
   cases A with
   | none => simp [Conv.bytesToString]; rfl
   | some b => simp [Conv.bytesToString,loadCells,loadCellsFrom]; rfl
  | cons e0 es0 =>
   rw [← he]
   obtain ⟨b,o',c',hv',_,_,_,_⟩ := hy.at_ (i := 0) (e := e0) (by rw [he]; rfl)
   rw [hv] at hv'
   simp only [Value.slice.injEq] at hv'
   obtain ⟨rfl,_,rfl⟩ := hv'
   -- the numbers
   have hns : ∀ i (hi : i < es.length),∃ n : Int,es[i]? = some [.v (.int .u8 n)] ∧ l[i]? = some (UInt8.ofNat n.toNat) ∧ w.cell? ⟨b,o' + i,none⟩ = some (.int .u8 n) := by
    intro i hi
    obtain ⟨n,e1,e2⟩ := hl.at_ i _ (List.getElem?_eq_getElem hi)
    refine ⟨n,by rw [List.getElem?_eq_getElem hi,e1],e2,?_⟩
    obtain ⟨b',o'',c'',g1,_,g3,g4,g5⟩ := hy.at_ (List.getElem?_eq_getElem hi)
    rw [hv] at g1
    simp only [Value.slice.injEq,Option.some.injEq,Addr.mk.injEq] at g1
    obtain ⟨⟨rfl,rfl,_⟩,_,_⟩ := g1
    have hk : kk = 1 := by rw [← g4,e1]; rfl
    subst hk
    obtain ⟨u,g6,g7⟩ := g5 0 (.v (.int .u8 n)) (by rw [e1]; rfl)
    rw [(RO.plain g7).1] at g6
    simpa using g6
   let ns : List Int := (List.range es.length).map fun i => numOf es[i]?
   have hnl : ns.length = es.length := by simp [ns]
   have hn : ∀ i (hi : i < es.length) (n : Int),es[i]? = some [.v (.int .u8 n)] → ns[i]? = some n := by
    intro i hi n h
    simp only [ns,List.getElem?_map,List.getElem?_range hi,Option.map_some,h,numOf]
   have hld := run_loadCells_list (P := P) w ⟨b,o',none⟩ (ns.map (Value.int .u8)) (fun j v hj => by
    have hj' : j < es.length := by have := Yx hj; simpa [hnl] using this
    obtain ⟨n,e1,_,e3⟩ := hns j hj'
    rw [List.getElem?_map,hn j hj' n e1] at hj
    simp only [Option.map_some,Option.some.injEq] at hj
    rw [add_lit,e3,hj])
   simp only [List.length_map,hnl] at hld
   rw [run_bytesToString w ⟨b,o',none⟩ es.length c ns hld,foldl_bytes]
   have : ns.map (fun n => UInt8.ofNat n.toNat) = l := by
    apply List.ext_getElem?
    intro i
    by_cases hi : i < es.length
    ·obtain ⟨n,e1,e2,_⟩ := hns i hi
     rw [List.getElem?_map,hn i hi n e1,e2]
     rfl
    ·rw [List.getElem?_eq_none (by simp [hnl]; omega),List.getElem?_eq_none (by rw [← hl.len]; omega)]
   rw [this]
   have he0 : ByteArray.empty.data = #[] := rfl
   rw [he0]
   simp
 unfold execOp
 simp only [ho,Sem.run_bind,key,Result.andThen_ok]
 rfl
section
variable {kk p : Nat} {es : List (List T)} {l : List UInt8}
theorem q_bstr [hb : TyBytes P t] [hs : TyStr P t'] [hl : IsB es l] (ho : o.op = .convert t t' y) (hg : o.guard = none) (hy : st.ev y = .o (.c (.ref p))) (hp : st.objs[p]? = some (.row kk es)) : Qt P ops o st (S ⟨l.toArray⟩) [] n :=
 .pure hg fun a w H F hr => ⟨_,bstr_run ho (own_ro hr hy hp),plainV _ rfl⟩
theorem q_bstrb {N : Nat} {cs : List V1} [hb : TyBytes P t] [hs : TyStr P t'] (ho : o.op = .convert t t' y) (hg : o.guard = none) (hy : st.ev y = .o (.c (.sb p N 1))) (hp : st.objs[p]? = some (.box cs)) (hsb : sbE cs = some es) [hl : IsB es l] : Qt P ops o st (S ⟨l.toArray⟩) [] n :=
 .pure hg fun a w H F hr => ⟨_,by
  have h1 := lend_ok (H1 := H) hr (hr.v1 hy)
  simp only [lend,Yw hp,sbA_of _ _ hsb] at h1
  exact bstr_run (kk := 1) ho h1,plainV _ J⟩
theorem q_strb [hb : TyBytes P t'] [hs : TyStr P t] (ho : o.op = .convert t t' y) (hg : o.guard = none) (hy : st.ev y = .o (.c (.rd ps (.v (.string s))))) (hn63 : s.size ≤ 9223372036854775807) : Qt P ops o st (.o (.c (.ref n))) [.row 1 (bE s.data.toList)] n :=
 .new hg fun a w H F hr hn => by
  obtain ⟨e,h1,h2⟩ := TyBytes.of (P := P) (t := t')
  have hrun := run_bytes_of_string (P := P) w t t' e s hs.str h1 h2
  have hge := grownCap_ge w s.size 0 e
  have hsz : s.data.size = s.size := rfl
  have hlen : (bE s.data.toList).length = s.size := by rw [Yc]; exact Array.length_toList
  have hbs : (bytesRow s (grownCap w s.size 0 e)).size = grownCap w s.size 0 e := by simp [bytesRow,hsz]; omega
  have hcap := grownCap_le_maxLen w s.size 0 e (by simpa [maxLen] using hn63)
  refine ⟨_,w.drew.alloc (.cells (bytesRow s (grownCap w s.size 0 e)) e ((bytesRow s (grownCap w s.size 0 e)).size,(bytesRow s (grownCap w s.size 0 e)).size + 1)),.ow (.sl 1 (bE s.data.toList)) (.slice (some ⟨w.heap.size,0,none⟩) s.size (grownCap w s.size 0 e)) (w.heap.size :: ((bE s.data.toList).map fun _ => [[]]).flatten.flatten),?_,(Below.drew (Below.refl _ _)).alloc (Nat.le_refl _) _,?_,?_,?_,fun H' hgr hq => ⟨⟨_,_,hq⟩,_,_,hq⟩⟩
  ·unfold execOp
   simp only [ho,hr.plain hy,Sem.run_bind,hrun,Result.andThen_ok]
   rfl
  ·have := OW.sl (w := w.drew.alloc (.cells (bytesRow s (grownCap w s.size 0 e)) e ((bytesRow s (grownCap w s.size 0 e)).size,(bytesRow s (grownCap w s.size 0 e)).size + 1))) (bE s.data.toList) w.heap.size 0 1 (grownCap w s.size 0 e) e (bytesRow s (grownCap w s.size 0 e)) _ (fun i _ => plainV' (bE s.data.toList) i 0) ((bE s.data.toList).map fun _ => [[]]) (heap_alloc_new w.drew _) (.inr (Nat.le_refl _))
    (by rw [hlen]; exact hge) hcap (by rw [hbs]; omega) (by omega) (bE_one _) (by simp) (fun f hf => by obtain ⟨_,_,rfl⟩ := List.mem_map.1 hf; rfl) (fun i j hi hj => ?_) (fun i j e' t'' fs f h3 h4 h5 h6 => ?_)
   ·rw [hlen] at this; exact this
   ·have hj0 : j = 0 := by omega
    subst hj0
    rw [Yc] at hi
    have h3 : (bE s.data.toList)[i]? = some [.v (.int .u8 ((s.data.toList[i]).toNat : Int))] := by unfold bE; rw [List.getElem?_map,List.getElem?_eq_getElem hi]; rfl
    rw [plainV'_at h3 rfl]
    have hi' : i < s.data.size := by simpa using hi
    rw [show 0 + i * 1 + 0 = i by omega,bytesRow,Array.getElem?_append_left (by simpa using hi'),Array.getElem?_map,Array.getElem?_eq_getElem hi']
    simp
   ·have hp := bE_plain _ e' (Yy h3) t'' (Yy h4)
    obtain ⟨u,rfl⟩ := hp
    have hj0 : j = 0 := by have := Yx h4; rw [bE_one _ e' (Yy h3)] at this; omega
    subst hj0
    rw [plainV'_at h3 h4]
    rw [List.getElem?_map] at h5
    obtain ⟨_,_,rfl⟩ := Option.map_eq_some_iff.1 h5
    simp at h6
    subst h6
    obtain ⟨b,_,rfl⟩ := List.mem_map.1 (Yy h3)
    simp at h4
    subst h4
    exact .v _ J
  ·have : ((bE s.data.toList).map fun _ => ([[]] : List (List Nat))).flatten.flatten = [] := by
    rw [List.flatten_eq_nil_iff]
    intro l hl
    obtain ⟨f,hf,hl⟩ := List.mem_flatten.1 hl
    obtain ⟨_,_,rfl⟩ := List.mem_map.1 hf
    simpa using hl
   refine ⟨?_,trivial⟩
   show (w.heap.size :: _).Nodup
   rw [this]
   simp
  ·intro b hb
   have : ((bE s.data.toList).map fun _ => ([[]] : List (List Nat))).flatten.flatten = [] := by
    rw [List.flatten_eq_nil_iff]
    intro l hl
    obtain ⟨f,hf,hl⟩ := List.mem_flatten.1 hl
    obtain ⟨_,_,rfl⟩ := List.mem_map.1 hf
    simpa using hl
   simp only [Pc.fp,this,List.mem_singleton] at hb
   omega
end
end
end
section
open Go.RowKit

section
variable {P : Program} {E : Env} {ops : Array Oper} {rest : List Oper} {Q : Exit → St → Prop} {d : Option Tmp} {st : St} {t' : TypeId} {p' : String} {af : Array Edge} {g : Nat × Bool} {l : List Oper} {A S M : List (List Nat)} {N : Nat} {ts : List (Nat × V)} {obs : List Ob} {aS mS : List (List Nat)} {done : List Hd} {k c : Nat}
variable {x y z : Operand} {t u : TypeId} {parts : Array (Nat × Operand)} {i n : Nat} {a b e : Option Operand} {bo : BinOp} {uo : UnOp} {cl : Call} {op : Op} {v : V} {m : Nat} {ob1 : List Ob}
theorem K_assign (h : AL P E ops Q (⟨d,(.assign x),t',p',af,none⟩ :: rest) st) : AL P E ops Q (⟨d,(.assign x),t',p',af,none⟩ :: rest) st := h
theorem K_alloc (h : AL P E ops Q (⟨d,(.alloc t),t',p',af,none⟩ :: rest) st) : AL P E ops Q (⟨d,(.alloc t),t',p',af,none⟩ :: rest) st := h
theorem Xe (h : AL P E ops Q (⟨d,(.load t x),t',p',af,none⟩ :: rest) st) : AL P E ops Q (⟨d,(.load t x),t',p',af,none⟩ :: rest) st := h
theorem Xd (h : AL P E ops Q (⟨d,(.store t x y),t',p',af,none⟩ :: rest) st) : AL P E ops Q (⟨d,(.store t x y),t',p',af,none⟩ :: rest) st := h
/-! ### Append, continued -/
theorem sbE_plain : ∀ (cs : List V1) (es : List (List T)),sbE cs = some es → plainT es ∧ ∀ e ∈ es,e.length = 1 := fun cs es h => by
 obtain ⟨h1,h2⟩ := sbE_ok cs es h
 refine ⟨fun e he t ht => ?_,fun e he => ?_⟩
 ·obtain ⟨i,hi⟩ := List.getElem?_of_mem he
  obtain ⟨_,u,_,h3⟩ := h2 i e hi
  subst h3
  simp at ht
  exact ⟨u,ht⟩
 ·obtain ⟨i,hi⟩ := List.getElem?_of_mem he
  obtain ⟨_,u,_,h3⟩ := h2 i e hi
  rw [h3]; rfl
section
variable {o : Oper} {dd : Nat} {qs rs : List Nat} {p q NN by_ : Nat} {es es' : List (List T)} {cs : List V1} {z0 : Value} {ee tx : TypeId} {s : ByteArray}
theorem X0 [hm : TyMake P t ee [z0] by_] (ho : o.op = .call { callee := .builtin .append,args := #[y,z],argTypes := #[t,t] }) (hg : o.guard = none) (hd : o.dst = some dd) (hl : Nat.blt dd N = true) (hy : St.ev ⟨N,ts,obs⟩ y = .o (.c (.ref p))) (hp : obs[p]? = some (.row 1 es)) (hz : St.ev ⟨N,ts,obs⟩ z = .o (.c (.sb q NN 1))) (hq : obs[q]? = some (.box cs)) (hc : cs.length = NN) (hs : sbE cs = some es')
  (hb : (es.length + NN) * by_ ≤ 140737488355328) (h63 : es.length + NN ≤ 9223372036854775807)
  (h : AL P E ops Q rest ⟨N,(dd,.o (.c (.ref p))) :: (ts.map fun e => (e.1,e.2.kill [p])),(obs.map (Ob.kill [p])).set p (.row 1 (es ++ es'))⟩) : AL P E ops Q (o :: rest) ⟨N,ts,obs⟩ := by
 have h1 := sbE_plain cs es' hs
 have h2 := (sbE_ok cs es' hs).1
 exact L_app (kk := 1) (zs := [z0]) ho hg hy hp hz (by simp only [srcOf,Yw hq]; exact hs) J (by simp) h1.1 h1.2 (by rw [h2,hc]; exact hb) (by rw [h2,hc]; exact h63) (by rw [hd]; exact hl) (by rw [hd]; exact h)
theorem X3 [hm : TyMake P t ee [z0] by_] [TyStr P tx] (ho : o.op = .call { callee := .builtin .append,args := #[y,z],argTypes := #[t,tx] }) (hg : o.guard = none) (hd : o.dst = some dd) (hl : Nat.blt dd N = true) (hy : St.ev ⟨N,ts,obs⟩ y = .o (.c (.ref p))) (hp : obs[p]? = some (.row 1 es)) (hz : St.ev ⟨N,ts,obs⟩ z = .o (.c (.rd qs (.v (.string s)))))
  (hb : (es.length + s.size) * by_ ≤ 140737488355328) (h63 : es.length + s.size ≤ 9223372036854775807)
  (h : AL P E ops Q rest ⟨N,(dd,.o (.c (.ref p))) :: (ts.map fun e => (e.1,e.2.kill [p])),(obs.map (Ob.kill [p])).set p (.row 1 (es ++ bE s.data.toList))⟩) : AL P E ops Q (o :: rest) ⟨N,ts,obs⟩ :=
 L_appstr (st := ⟨N,ts,obs⟩) (by exact ho) hg hy hp hz (by rw [hd]; exact hl) hb h63 (by rw [hd]; exact h)
theorem q_bslice0 {zs : List Value} [hm : TyMake P t ee zs by_] (ho : o.op = .buildSlice t 0 #[]) (hg : o.guard = none) (hz0 : zs.isEmpty = false) : Qt P ops o st (.o (.c (.ref m))) [.row zs.length []] m :=
 .new hg fun a w H F hr hn => by
  obtain ⟨inf,hi,hzz⟩ := Option.map_eq_some_iff.1 hm.info
  have hzp : 0 < zs.length := List.length_pos_iff.2 (by intro e; rw [e] at hz0; cases hz0)
  refine ⟨.slice (some ⟨w.heap.size,0,none⟩) 0 0,w.alloc (.cells #[] ee),.ow (.sl zs.length []) (.slice (some ⟨w.heap.size,0,none⟩) 0 0) [w.heap.size],?_,(Below.refl _ _).alloc (Nat.le_refl _) _,?_,by simp [Pc.fp,Pc.ng],fun b hb => by simp [Pc.fp] at hb; omega,fun H' hgr hq => ⟨⟨_,_,hq⟩,_,_,hq⟩⟩
  ·unfold execOp
   simp [ho,Instr.buildSlice,run_underlying hm.slice,sizeOf,typeInfo,hi,Instr.fill,newRow]
   rw [show (Array.range 0).map (fun _ : Nat => (default : Value)) = #[] from Array.eq_empty_of_size_eq_zero (by simp)]
  ·exact OW.sl (w := w.alloc (.cells #[] ee)) [] w.heap.size 0 zs.length 0 ee #[] (0,0) (fun _ _ => undef) [] (heap_alloc_new w _) (.inl rfl) (Nat.le_refl _) (Nat.zero_le _) (by simp) hzp (fun e he => by simp at he) rfl (fun f hf => by simp at hf) (fun i j hi => by simp at hi) (fun i j e t fs f h => by simp at h)
end

theorem Qj {f : FuncId} [hf : FunOk P f] {o : Oper} {ass : Array Operand} {tys : Array TypeId} {args : List V2} {w : Value} {ps : List Nat} (ho : o.op = .call { callee := .value (.func f),args := ass,argTypes := tys }) (hg : o.guard = none)
  (hc : Con P f [] args [] (.o (.c (.rd ps (.v w))))) (ha : ass.toList.map (fun y => lend2 st.objs (st.ev y)) = args) : Qt P ops o st (.o (.c (.rd [] (.v w)))) [] m := by
 have h := Zk (n := m) (P := P) (ops := ops) (o := o) ho hg hc ha J J
 refine ⟨fun a w' H F Q K hr hfree hK => h.h a w' H F Q K hr hfree fun v w'' H' F' hgr hok hob hno hv => hK v w'' H' F' hgr hok hob hno ?_⟩
 have h1 : R1 w'' H' F' (.rd (ps.map (m + ·)) (.v w)) v := hv
 obtain ⟨rfl,h2⟩ := RO.plain h1
 exact RO.v _ h2
end
end
section
open Go.RowKit

def V2.mapk (k : V1 → V1) : V2 → V2
 | .c x => .c (k x)
 | .ag xs => .ag (xs.map k)
def V.mapk (k : V1 → V1) : V → V
 | .o x => .o (x.mapk k)
 | .tu xs => .tu (xs.map (V2.mapk k))
 | .iff cs x => .iff cs (x.mapk k)
def Ob.mapk (k : V1 → V1) : Ob → Ob
 | .box cs => .box (cs.map k)
 | .gh i x => .gh i (x.mapk k)
 | ob => ob

section
variable {P : Program} {E : Env} {ops : Array Oper} {o : Oper} {st : St} {n : Nat} {rest : List Oper} {QQ : Exit → St → Prop} {w w' : World} {H H' : Hs} {F F' : Nat → Prop} {a : Act}

theorem R2.mapk {k : V1 → V1} (hk : ∀ x v,R1 w H F x v → R1 w' H' F' (k x) v) {x : V2} {v : Value} (h : R2 w H F x v) : R2 w' H' F' (x.mapk k) v := by
 cases x with
 | c x => exact hk _ _ h
 | ag xs =>
  obtain ⟨us,e,hl,hr⟩ := h
  refine ⟨us,e,by simpa using hl,fun i x u h1 h2 => ?_⟩
  rw [List.getElem?_map] at h1
  obtain ⟨y,h3,rfl⟩ := Option.map_eq_some_iff.1 h1
  exact hk _ _ (hr i y u h3 h2)
theorem RV.mapk {k : V1 → V1} (hk : ∀ x v,R1 w H F x v → R1 w' H' F' (k x) v) {x : V} {v : Value} (h : RV w H F x v) : RV w' H' F' (x.mapk k) v := by
 cases x with
 | o x => exact R2.mapk hk h
 | tu xs =>
  obtain ⟨us,e,hl,hr⟩ := h
  refine ⟨us,e,by simpa using hl,fun i x u h1 h2 => ?_⟩
  rw [List.getElem?_map] at h1
  obtain ⟨y,h3,rfl⟩ := Option.map_eq_some_iff.1 h1
  exact R2.mapk hk (hr i y u h3 h2)
 | iff cs x => exact ⟨fun hc => R2.mapk hk (h.1 hc),h.2⟩
theorem RB.mapk {k : V1 → V1} (hk : ∀ x v,R1 w H F x v → R1 w' H' F' (k x) v) {p : Nat} (hp : H' p = H p) {ob : Ob} (h : RB w H F p ob) (hk0 : ∀ t,k (.rd [] t) = .rd [] t := by intro t; rfl) : RB w' H' F' p (ob.mapk k) := by
 cases ob with
 | gone => exact hp.trans h
 | hole => trivial
 | box cs =>
  obtain ⟨g,t,vs,e,hl,hr⟩ := h
  refine ⟨g,t,vs,hp.trans e,by simpa using hl,fun i c u h1 h2 => ?_⟩
  rw [List.getElem?_map] at h1
  obtain ⟨y,h3,rfl⟩ := Option.map_eq_some_iff.1 h1
  exact ⟨hk _ _ (hr i y u h3 h2).1,(hr i y u h3 h2).2⟩
 | row k es => obtain ⟨v,fp,e⟩ := h; exact ⟨v,fp,hp.trans e⟩
 | gh i x => obtain ⟨v,e,hr⟩ := h; exact ⟨v,hp.trans e,R2.mapk hk hr⟩
 | shr es => obtain ⟨us,v,fp,e,hl,hr⟩ := h; exact ⟨us,v,fp,hp.trans e,hl,fun i t u h1 h2 => by have := hk _ _ (hr i t u h1 h2); rwa [hk0] at this⟩
 | bl => obtain ⟨v,fp,e⟩ := h; exact ⟨v,fp,hp.trans e⟩
theorem R0.mapk (h : R0 w H F st a) (k : V1 → V1) (hk : ∀ x v,R1 w H F x v → R1 w' H' F (k x) v) (hok : Ok w' H' F) (objs' : List Ob) (hob : ∀ p,RB w' H' F p (objs'.getD p .gone)) :
  R0 w' H' F ⟨st.n,st.tmps.map fun e => (e.1,e.2.mapk k),objs'⟩ a := by
 refine ⟨hok,hob,fun d => ?_,h.size,h.defers⟩
 have hl : ∀ l : List (Nat × V),RV w H F (look l d) (a.tmps.getD d undef) → RV w' H' F (look (l.map fun e => (e.1,e.2.mapk k)) d) (a.tmps.getD d undef) := by
  intro l
  induction l with
  | nil => intro _; trivial
  | cons e l ih =>
   obtain ⟨e1,e2⟩ := e
   rw [List.map_cons,Y4,Y4]
   split
   ·exact RV.mapk hk
   ·exact ih
 exact hl _ (h.tmp d)

def idxN : List Nat → Nat → Nat → Option Nat
 | [],_,_ => none
 | r :: rs,p,i => match Nat.beq r p with
  | true => some i
  | false => idxN rs p (i + 1)
theorem idxN_ok : ∀ (ρ : List Nat) (p i j : Nat),idxN ρ p i = some j → i ≤ j ∧ ρ[j - i]? = some p
 | [],p,i,j,h => by simp [idxN] at h
 | r :: rs,p,i,j,h => by
  rw [idxN] at h
  split at h
  ·rename_i e
   have := Nat.eq_of_beq_eq_true e
   simp only [Option.some.injEq] at h
   subst h this
   exact ⟨Nat.le_refl _,by simp⟩
  ·obtain ⟨h1,h2⟩ := idxN_ok rs p (i + 1) j h
   exact ⟨by omega,by rw [show j - i = (j - (i + 1)) + 1 by omega,List.getElem?_cons_succ]; exact h2⟩
theorem idxN_none : ∀ (ρ : List Nat) (p i : Nat),idxN ρ p i = none → p ∉ ρ
 | [],p,i,_ => by simp
 | r :: rs,p,i,h => by
  rw [idxN] at h
  split at h
  ·cases h
  ·rename_i e
   have h1 := idxN_none rs p (i + 1) h
   intro hp
   rcases List.mem_cons.1 hp with rfl | hp
   ·rw [show Nat.beq p p = true from Nat.beq_refl p] at e; cases e
   ·exact h1 hp
def offN (ρ qs : List Nat) : Bool := qs.all fun q => !memN ρ q
def V1.killw (ps kc : List Nat) : V1 → V1
 | .rd qs x => match offN ps qs with
  | true => .rd qs x
  | false => match x with
   | .v u => .rd [] (.v u)
   | _ => .un
 | .ref p => match memN ps p with
  | false => .ref p
  | true => match memN kc p with
   | true => .ref p
   | false => .un
 | .ptr p i => match memN ps p with
  | false => .ptr p i
  | true => match memN kc p with
   | true => .ptr p i
   | false => .un
 | .el p k i j => match memN ps p with
  | false => .el p k i j
  | true => match memN kc p with
   | true => .el p k i j
   | false => .un
 | .sb p n k => match memN ps p with
  | false => .sb p n k
  | true => .un
 | .rp qs xs => match offN ps qs with
  | true => .rp qs xs
  | false => .un
 | .le p k i j => match memN ps p with
  | false => .le p k i j
  | true => .un
 | .hd p n => match memN ps p with
  | false => .hd p n
  | true => .un
 | .tl p k n => match memN ps p with
  | false => .tl p k n
  | true => match memN kc p with
   | true => .tl p k n
   | false => .un
 | .un => .un
def Place (x y : Pc) : Prop := (∃ t v fp t' fp',x = .ow t v fp ∧ y = .ow t' v fp') ∨ ∃ g t vs t' vs',x = .box g t vs ∧ y = .box g t' vs'

theorem offN_ok {ρ qs : List Nat} (h : offN ρ qs = true) : ∀ q ∈ qs,q ∉ ρ := fun q hq => by
 have := List.all_eq_true.1 h q hq
 simp only [Bool.not_eq_true'] at this
 exact memN_not this
theorem R1.killw {ps kc : List Nat} (hok : Ok w H F) (ht : Turn w H w' H' ps) (hkc : ∀ p ∈ kc,Place (H p) (H' p)) {x : V1} {v : Value} (h : R1 w H F x v) : R1 w' H' F (x.killw ps kc) v := by
 have hoff : ∀ qs : List Nat,offN ps qs = true → (qs.all fun q => !ps.contains q) = true := fun qs hq => List.all_eq_true.2 fun q hm => by simpa using offN_ok hq q hm
 have hone : ∀ p,memN ps p = false → (!ps.contains p) = true := fun p hp => by simpa using memN_not hp
 cases x with
 | rd qs x =>
  simp only [V1.killw]
  split
  ·rename_i hq; exact R1.turn hok ht (x := .rd qs x) (hoff qs hq) h
  ·split
   ·obtain ⟨rfl,h1⟩ := RO.plain h; exact RO.v _ h1
   ·trivial
 | ref p =>
  simp only [V1.killw]
  split
  ·rename_i hp; exact R1.turn hok ht (x := .ref p) (hone p hp) h
  ·split
   ·rename_i hp
    obtain ⟨x,fp,e⟩ := h
    rcases hkc p ((Y6 _ _).1 hp) with ⟨t,v',fp1,t',fp2,e1,e2⟩ | ⟨g,t,vs,t',vs',e1,e2⟩
    ·rw [e] at e1
     simp only [Pc.ow.injEq] at e1
     obtain ⟨_,rfl,_⟩ := e1
     exact ⟨t',fp2,e2⟩
    ·rw [e] at e1; cases e1
   ·trivial
 | ptr p i =>
  simp only [V1.killw]
  split
  ·rename_i hp; exact R1.turn hok ht (x := .ptr p i) (hone p hp) h
  ·split
   ·rename_i hp
    obtain ⟨g0,t0,vs0,e,hv⟩ := h
    rcases hkc p ((Y6 _ _).1 hp) with ⟨t,v',fp1,t',fp2,e1,e2⟩ | ⟨g,t,vs,t',vs',e1,e2⟩
    ·rw [e] at e1; cases e1
    ·rw [e] at e1
     simp only [Pc.box.injEq] at e1
     obtain ⟨rfl,_,_⟩ := e1
     exact ⟨_,_,_,e2,hv⟩
   ·trivial
 | el p k i j =>
  simp only [V1.killw]
  split
  ·rename_i hp; exact R1.turn hok ht (x := .el p k i j) (hone p hp) h
  ·split
   ·rename_i hp
    obtain ⟨b,o,n,c,x,fp,e,hv⟩ := h
    rcases hkc p ((Y6 _ _).1 hp) with ⟨t,v',fp1,t',fp2,e1,e2⟩ | ⟨g,t,vs,t',vs',e1,e2⟩
    ·rw [e] at e1
     simp only [Pc.ow.injEq] at e1
     obtain ⟨_,rfl,_⟩ := e1
     exact ⟨b,o,n,c,t',fp2,e2,hv⟩
    ·rw [e] at e1; cases e1
   ·trivial
 | sb p n k =>
  simp only [V1.killw]
  split
  ·rename_i hp; exact R1.turn hok ht (x := .sb p n k) (hone p hp) h
  ·trivial
 | rp qs xs =>
  simp only [V1.killw]
  split
  ·rename_i hq; exact R1.turn hok ht (x := .rp qs xs) (hoff qs hq) h
  ·trivial
 | le p k i j =>
  simp only [V1.killw]
  split
  ·rename_i hp; exact R1.turn hok ht (x := .le p k i j) (hone p hp) h
  ·trivial
 | hd p n =>
  simp only [V1.killw]
  split
  ·rename_i hp; exact R1.turn hok ht (x := .hd p n) (hone p hp) h
  ·trivial
 | tl p k n =>
  simp only [V1.killw]
  split
  ·rename_i hp; exact R1.turn hok ht (x := .tl p k n) (hone p hp) h
  ·split
   ·rename_i hp
    obtain ⟨A,A',m,c,x,fp,e,hv⟩ := h
    rcases hkc p ((Y6 _ _).1 hp) with ⟨t,v',fp1,t',fp2,e1,e2⟩ | ⟨g,t,vs,t',vs',e1,e2⟩
    ·rw [e] at e1
     simp only [Pc.ow.injEq] at e1
     obtain ⟨_,rfl,_⟩ := e1
     exact ⟨A,A',m,c,t',fp2,e2,hv⟩
    ·rw [e] at e1; cases e1
   ·trivial
 | un => trivial

theorem R1.sub {H1 : Hs} {F1 : Nat → Prop} (hs : ∀ q,H q ≠ .nil → H1 q = H q) (hF : ∀ b,F b → F1 b) {x : V1} {v : Value} (h : R1 w H F x v) : R1 w H1 F1 x v := by
 have hin : ∀ {qs : List Nat} {b : Nat},inP H F qs b → inP H1 F1 qs b := fun hb => by
  rcases hb with hb | ⟨q,hq,x,v,fp,e,hb⟩
  ·exact .inl (hF _ hb)
  ·exact .inr ⟨q,hq,x,v,fp,by rw [hs q (by rw [e]; simp),e],hb⟩
 cases x with
 | rd qs x => exact RO.weak h fun b hb _ => hin hb
 | ref p => obtain ⟨x,fp,e⟩ := h; exact ⟨x,fp,by rw [hs p (by rw [e]; simp),e]⟩
 | ptr p i => obtain ⟨g,t,vs,e,hv⟩ := h; exact ⟨g,t,vs,by rw [hs p (by rw [e]; simp),e],hv⟩
 | sb p n k => obtain ⟨g,t,vs,e,hv⟩ := h; exact ⟨g,t,vs,by rw [hs p (by rw [e]; simp),e],hv⟩
 | el p k i j => obtain ⟨b,o,n,c,x,fp,e,hv⟩ := h; exact ⟨b,o,n,c,x,fp,by rw [hs p (by rw [e]; simp),e],hv⟩
 | le p k i j => obtain ⟨b,o,n,c,x,fp,e,hv⟩ := h; exact ⟨b,o,n,c,x,fp,by rw [hs p (by rw [e]; simp),e],hv⟩
 | hd p n => obtain ⟨A,m,c,x,fp,e,hv⟩ := h; exact ⟨A,m,c,x,fp,by rw [hs p (by rw [e]; simp),e],hv⟩
 | tl p k n => obtain ⟨A,A',m,c,x,fp,e,hv⟩ := h; exact ⟨A,A',m,c,x,fp,by rw [hs p (by rw [e]; simp),e],hv⟩
 | rp qs xs =>
  obtain ⟨b,o,hv,hb,hc⟩ := h
  refine ⟨b,o,hv,hin hb,fun j t hj => ?_⟩
  obtain ⟨u,h1,h2⟩ := hc j t hj
  exact ⟨u,h1,RO.weak h2 fun b hb _ => hin hb⟩
 | un => trivial
theorem R2.sub {H1 : Hs} {F1 : Nat → Prop} (hs : ∀ q,H q ≠ .nil → H1 q = H q) (hF : ∀ b,F b → F1 b) {x : V2} {v : Value} (h : R2 w H F x v) : R2 w H1 F1 x v := by
 cases x with
 | c x => exact R1.sub hs hF h
 | ag xs => obtain ⟨us,e,hl,hr⟩ := h; exact ⟨us,e,hl,fun i x u h1 h2 => R1.sub hs hF (hr i x u h1 h2)⟩
theorem RB.sub {H1 : Hs} {F1 : Nat → Prop} (hs : ∀ q,H q ≠ .nil → H1 q = H q) (hF : ∀ b,F b → F1 b) {p : Nat} {ob : Ob} (hp : H p ≠ .nil) (h : RB w H F p ob) : RB w H1 F1 p ob := by
 cases ob with
 | gone => exact absurd h hp
 | hole => trivial
 | box cs => obtain ⟨g,t,vs,e,hl,hr⟩ := h; exact ⟨g,t,vs,by rw [hs p hp,e],hl,fun i c u h1 h2 => ⟨R1.sub hs hF (hr i c u h1 h2).1,(hr i c u h1 h2).2⟩⟩
 | row k es => obtain ⟨v,fp,e⟩ := h; exact ⟨v,fp,by rw [hs p hp,e]⟩
 | gh i x => obtain ⟨v,e,hr⟩ := h; exact ⟨v,by rw [hs p hp,e],R2.sub hs hF hr⟩
 | shr es => obtain ⟨us,v,fp,e,hl,hr⟩ := h; exact ⟨us,v,fp,by rw [hs p hp,e],hl,fun i t u h1 h2 => R1.sub hs hF (hr i t u h1 h2)⟩
 | bl => obtain ⟨v,fp,e⟩ := h; exact ⟨v,fp,by rw [hs p hp,e]⟩

def phi (ρ : List Nat) (m N q : Nat) : Nat := match Nat.blt q ρ.length with
 | true => ρ.getD q 0
 | false => N + (q - (ρ.length + m))
section
variable {H2 : Hs} {F2 : Nat → Prop} {φ : Nat → Nat}
theorem plantw1 (hpl : ∀ q,H2 q ≠ .nil → (∀ i v,H2 q ≠ .gh i v) → H' (φ q) = H2 q) {x : V1} {v : Value} (hc : x.closed = true) (hx : R1 w H2 F2 x v) : R1 w H' F (x.ren φ) v := by
 cases x with
 | rd ps x =>
  cases x with
  | v x => obtain ⟨rfl,h⟩ := RO.plain hx; exact RO.v _ h
  | sl k es => simp [V1.closed] at hc
  | un => exact RO.un _ (RO.one hx)
  | bl => exact RO.bl _ _ _ _ (RO.one hx)
 | ref q => obtain ⟨x,fp,e⟩ := hx; exact ⟨x,fp,by rw [hpl q (by rw [e]; simp) (by rw [e]; simp),e]⟩
 | ptr q i => obtain ⟨g,t,vs,e,hv⟩ := hx; exact ⟨g,t,vs,by rw [hpl q (by rw [e]; simp) (by rw [e]; simp),e],hv⟩
 | sb q i j => obtain ⟨g,t,vs,e,hv⟩ := hx; exact ⟨g,t,vs,by rw [hpl q (by rw [e]; simp) (by rw [e]; simp),e],hv⟩
 | el q k i j => obtain ⟨b,o,n',c,x,fp,e,hv⟩ := hx; exact ⟨b,o,n',c,x,fp,by rw [hpl q (by rw [e]; simp) (by rw [e]; simp),e],hv⟩
 | rp => simp [V1.closed] at hc
 | le q k i j => obtain ⟨b,o,n',c,x,fp,e,hv⟩ := hx; exact ⟨b,o,n',c,x,fp,by rw [hpl q (by rw [e]; simp) (by rw [e]; simp),e],hv⟩
 | hd q i => obtain ⟨A,m',c,x,fp,e,hv⟩ := hx; exact ⟨A,m',c,x,fp,by rw [hpl q (by rw [e]; simp) (by rw [e]; simp),e],hv⟩
 | tl q k i => obtain ⟨A,A',m',c,x,fp,e,hv⟩ := hx; exact ⟨A,A',m',c,x,fp,by rw [hpl q (by rw [e]; simp) (by rw [e]; simp),e],hv⟩
 | un => trivial
def Ob.back : Ob → Bool
 | .box cs => cs.all V1.closed
 | .row _ _ => true
 | .bl _ _ _ => true
 | _ => false
end
def setL {α : Type} : List α → List Nat → List α → List α
 | l,r :: rs,o :: os => setL (l.set r o) rs os
 | l,_,_ => l
theorem setL_len {α : Type} : ∀ (rs : List Nat) (os : List α) (l : List α),(setL l rs os).length = l.length
 | [],os,l => by cases os <;> rfl
 | r :: rs,[],l => rfl
 | r :: rs,o :: os,l => by rw [setL,setL_len rs os,List.length_set]
theorem setL_out {α : Type} {d : α} : ∀ (rs : List Nat) (os : List α) (l : List α) (p : Nat),p ∉ rs → (setL l rs os).getD p d = l.getD p d
 | [],os,l,p,_ => by cases os <;> rfl
 | r :: rs,[],l,p,_ => rfl
 | r :: rs,o :: os,l,p,hp => by
  rw [setL,setL_out rs os _ p (fun h => hp (by simp [h])),List.getD_eq_getElem?_getD,List.getElem?_set_ne (fun e => hp (by simp [e])),List.getD_eq_getElem?_getD]
theorem setL_in {α : Type} {d : α} : ∀ (rs : List Nat) (os : List α) (l : List α) (q p : Nat) (x : α),rs.Nodup → (∀ r ∈ rs,r < l.length) → rs[q]? = some p → os[q]? = some x → (setL l rs os).getD p d = x
 | [],os,l,q,p,x,_,_,h,_ => by simp at h
 | r :: rs,[],l,q,p,x,_,_,_,h => by simp at h
 | r :: rs,o :: os,l,q,p,x,hn,hl,h1,h2 => by
  obtain ⟨n1,n2⟩ := List.nodup_cons.1 hn
  cases q with
  | zero =>
   simp only [List.getElem?_cons_zero,Option.some.injEq] at h1 h2
   subst h1 h2
   rw [setL,setL_out rs os _ r n1,List.getD_eq_getElem?_getD,List.getElem?_set_self (hl r (by simp))]
   rfl
  | succ q =>
   rw [setL]
   exact setL_in rs os _ q p x n2 (fun r hr => by rw [List.length_set]; exact hl r (by simp [hr])) (by simpa using h1) (by simpa using h2)
def gh1 (g : Nat × V2) : Ob := .gh g.1 g.2
def gsrc (args : List V2) (lo : List Ob) (i : Nat) : Option V2 :=
 match args[i]? with
 | some x => some x
 | none => match lo[i - args.length]? with
  | some (.row _ _) => some (.c (.ref (i - args.length)))
  | _ => none
def pcV : Pc → Value
 | .ow _ v _ => v
 | _ => undef
def plc : V1 → Option Nat
 | .ref q => some q
 | .ptr q _ => some q
 | _ => none

def pickC : V2 → Nat → Option V1
 | .c x,_ => some x
 | .ag xs,j => xs[j]?
def pickU : V2 → Value → Nat → Value
 | .c _,v,_ => v
 | .ag _,v,j => match v with
  | .agg us => us.toList.getD j undef
  | _ => undef
theorem R2.cell {x : V2} {v : Value} {j : Nat} {c : V1} (h : R2 w H F x v) (hp : pickC x j = some c) : R1 w H F c (pickU x v j) := by
 cases x with
 | c x => simp only [pickC,Option.some.injEq] at hp; subst hp; exact h
 | ag xs =>
  obtain ⟨us,rfl,hl,hr⟩ := h
  have hj : j < us.length := by rw [hl]; exact Yx hp
  have := hr j c _ hp (List.getElem?_eq_getElem hj)
  simpa [pickU,List.getD_eq_getElem?_getD,hj] using this

end
end
end Go.Proofs.YtpmacgnmlmmojaaGreatDoor
