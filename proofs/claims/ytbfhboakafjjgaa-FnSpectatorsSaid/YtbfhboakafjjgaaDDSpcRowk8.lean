/-
  Parts of the proof (rules, data, and what functions of the program and of the reference return), among them: Valid worlds: WorldOk, in the program and in the reference; One element's slice of an owned slice of slices, taken out to be written to.
  Conditions: those that each theorem names.
-/
import Derived.ProofKit
import Derived.Deep.Slices
import Derived.Test.YtbfhboakafjjgaaDDSpcRowk6
import Derived.Test.YtbfhboakafjjgaaDDSpcRowk7
set_option linter.unusedVariables false
set_option linter.unusedSimpArgs false
set_option maxRecDepth 4096
set_option maxRecDepth 8000
set_option maxHeartbeats 8000000
namespace Go.Proofs.Ytbfhboakafjjgaa
section
open Go.RowKit Go.ChangeShapes Go.WideShapes Go.Deep

def I64 (x : Int) : Prop := -9223372036854775808 ≤ x ∧ x ≤ 9223372036854775807

class Enc (α : Type) where
 k : Nat
 pos : 0 < k
 e : α → List T
 len : ∀ x,(e x).length = k
 gd : α → Prop
 wt : α → Nat
instance : Enc Int := ⟨1,by omega,fun x => [.v (.int .i64 x)],fun _ => rfl,I64,fun _ => 0⟩
instance : Enc Bool := ⟨1,by omega,fun x => [.v (.bool x)],fun _ => rfl,fun _ => True,fun _ => 0⟩
instance : Enc ByteArray := ⟨1,by omega,fun x => [.v (.string x)],fun _ => rfl,fun x => x.size ≤ 9223372036854775807,fun x => x.size⟩
def wts {α : Type} [Enc α] : List α → Nat
 | [] => 0
 | x :: xs => Enc.wt x + wts xs
@[reducible] def els {α : Type} [Enc α] (xs : List α) : List (List T) := xs.map Enc.e
instance {α : Type} [Enc α] : Enc (List α) := ⟨1,by omega,fun xs => [.sl (Enc.k α) (els xs)],fun _ => rfl,fun xs => xs.length ≤ 9223372036854775807 ∧ ∀ x ∈ xs,Enc.gd x,fun xs => xs.length + wts xs⟩

@[reducible] def sl {α : Type} [Enc α] (xs : List α) : T := .sl (Enc.k α) (els xs)
@[reducible] def ai (n : Int) : V2 := .c (.rd [] (.v (.int .i64 n)))
@[reducible] def astr (s : ByteArray) : V2 := .c (.rd [] (.v (.string s)))
@[reducible] def al {α : Type} [Enc α] (xs : List α) : V2 := .c (.rd [] (sl xs))
@[reducible] def ag {α : Type} [Enc α] (x : α) : V2 := .ag ((Enc.e x).map (V1.rd []))
@[reducible] def L {α : Type} [Enc α] (xs : List α) : V := .o (al xs)

class PlainE (α : Type) [Enc α] : Prop where
 plain : ∀ (x : α) (t : T),t ∈ Enc.e x → ∃ u,t = .v u
instance : PlainE Int := ⟨fun x t h => by simp [Enc.e] at h; exact ⟨_,h⟩⟩
instance : PlainE Bool := ⟨fun x t h => by simp [Enc.e] at h; exact ⟨_,h⟩⟩
instance : PlainE ByteArray := ⟨fun x t h => by simp [Enc.e] at h; exact ⟨_,h⟩⟩
theorem Ym {α : Type} [Enc α] [PlainE α] (xs : List α) : plainT (els xs) := fun e he t ht => by
 obtain ⟨x,_,rfl⟩ := List.mem_map.1 he
 exact PlainE.plain x t ht
theorem els_k {α : Type} [Enc α] (xs : List α) : ∀ e ∈ els xs,e.length = Enc.k α := fun e he => by
 obtain ⟨x,_,rfl⟩ := List.mem_map.1 he
 exact Enc.len x
@[reducible] def bs (l : List UInt8) : ByteArray := ⟨l.toArray⟩
theorem bs_app (a b : List UInt8) : bs a ++ bs b = bs (a ++ b) := by
 apply ByteArray.ext
 rw [ByteArray.data_append]
 simp [bs]
theorem Yb (l : List UInt8) : (bs l).size = l.length := by simp [bs,ByteArray.size]
theorem Ye (a b : ByteArray) : (a ++ b).size = a.size + b.size := by simp [ByteArray.size_append]
theorem bs_list (l : List UInt8) : (bs l).data.toList = l := by simp [bs]
theorem bs_of (s : ByteArray) : bs s.data.toList = s := by simp [bs]
theorem S_eq {a b : ByteArray} (h : a = b) : S a = S b := by rw [h]
theorem bE_app (a b : List UInt8) : bE a ++ bE b = bE (a ++ b) := by simp [bE]
theorem bE_snoc (a : List UInt8) (n : Int) (h : 0 ≤ n ∧ n ≤ 255) : bE a ++ [[.v (.int .u8 n)]] = bE (a ++ [UInt8.ofNat n.toNat]) := by
 have h1 : ((UInt8.ofNat n.toNat).toNat : Int) = n := by
  rw [UInt8.toNat_ofNat']
  omega
 unfold bE
 rw [List.map_append,List.map_cons,List.map_nil,h1]

theorem Yk {α : Type} [Enc α] {xs : List α} {k : Nat} (h : k < xs.length) : (els xs)[(k : Int).toNat]? = some (Enc.e xs[k]) := by simp [els,h]
theorem Yl {α : Type} [Enc α] (xs : List α) : (els xs).length = xs.length := by simp [els]
/-! ### Readings -/
theorem list_of_each {α : Type} {p : Nat → α → Prop} : ∀ n : Nat,(∀ i,i < n → ∃ y,p i y) → ∃ ys : List α,ys.length = n ∧ ∀ (i : Nat) (y : α),ys[i]? = some y → p i y
 | 0,_ => ⟨[],rfl,fun _ _ h => by simp at h⟩
 | n + 1,h => by
  obtain ⟨ys,h1,h2⟩ := list_of_each n fun i hi => h i (by omega)
  obtain ⟨y,hy⟩ := h n (by omega)
  refine ⟨ys ++ [y],by simp [h1],fun i z hz => ?_⟩
  rcases Nat.lt_or_ge i ys.length with hi | hi
  ·rw [List.getElem?_append_left hi] at hz
   exact h2 i z hz
  ·rw [List.getElem?_append_right hi] at hz
   have hi0 : i - ys.length = 0 := by
    rcases Nat.eq_zero_or_pos (i - ys.length) with h0 | h0
    ·exact h0
    ·rw [List.getElem?_eq_none (by simp; omega)] at hz
     cases hz
   rw [hi0] at hz
   simp only [List.getElem?_cons_zero,Option.some.injEq] at hz
   subst hz
   have : i = n := by omega
   subst this
   exact hy

def Reads {α : Type} [Enc α] (w : World) (x : α) (cs : List Value) : Prop := cs.length = Enc.k α ∧ ∀ (j : Nat) (t : T) (u : Value),(Enc.e x)[j]? = some t → cs[j]? = some u → RO w (fun _ => True) t u

class RdOf (P : Program) (t : TypeId) (α : outParam Type) [Enc α] : Prop where
 size : P.cellsOf t = Enc.k α
 of : ∀ {H : Type} {enc : TypeId × Value → H} {w : World} {spare : Nat → Bool} {held : Bool} {fuel : Nat} {cs : List Value} {x : DataW H × List MemPlace},
  DataW.trod enc P w 0 spare held fuel t cs = some x → ∃ y : α,Enc.gd y ∧ Reads w y cs

theorem i64_of_wf {n : Int} (h : (Lit.int .i64 n).wf = true) : I64 n := by
 simp [Lit.wf,IntKind.min,IntKind.max,IntKind.signed,IntKind.bits] at h
 exact ⟨by omega,by omega⟩
theorem reads_one {α : Type} [Enc α] {w : World} {x : α} {t : T} {u : Value} (he : Enc.e x = [t]) (h : RO w (fun _ => True) t u) : Reads w x [u] := by
 refine ⟨by rw [← Enc.len x,he]; rfl,fun j t' u' h1 h2 => ?_⟩
 rw [he] at h1
 cases j with
 | zero => simp at h1 h2; subst h1 h2; exact h
 | succ j => simp at h1
theorem rdOf_int {P : Program} {t : TypeId} (ht : P.underlying t = some (.int .i64)) (hs : P.cellsOf t = 1) : RdOf P t Int where
 size := hs
 of h := by
  obtain ⟨n,rfl,_,h3⟩ := DataW.trod_int ht h
  exact ⟨n,i64_of_wf h3,reads_one J (.v _ J)⟩
theorem rdOf_string {P : Program} {t : TypeId} (ht : P.underlying t = some .string) (hs : P.cellsOf t = 1) : RdOf P t ByteArray where
 size := hs
 of h := by
  obtain ⟨s,rfl,_,h3⟩ := DataW.trod_string ht h
  exact ⟨s,by simpa [maxLen,Enc.gd] using h3,reads_one J (.v _ J)⟩
theorem rdOf_slice {P : Program} {t e : TypeId} {α : Type} [Enc α] [hα : RdOf P e α] (ht : P.underlying t = some (.slice e)) (hs : P.cellsOf t = 1) : RdOf P t (List α) where
 size := hs
 of {H enc w spare held fuel cs x} h := by
  rcases open_slice ht h with ⟨rfl,_⟩ | ⟨a,len,cap,m,n,D,Pl,rfl,_,hl,hm,hmm,_,hi⟩
  ·exact ⟨[],⟨by simp,by simp⟩,reads_one rfl (.nil _ _ _ (by simp [maxLen]))⟩
  ·have hlm : len ≤ m := by rw [hmm]; split <;> omega
   obtain ⟨ys,h1,h2⟩ := list_of_each (p := fun i y => ∃ es,w.cells? 0 (a.add (i * P.cellsOf e)) (P.cellsOf e) = some es ∧ Enc.gd (α := α) y ∧ Reads w y es) len fun i hi' => by
    obtain ⟨es,h3,h4⟩ := hi i (by omega)
    obtain ⟨y,hy⟩ := hα.of h4
    exact ⟨y,es,h3,hy⟩
   subst h1
   refine ⟨ys,⟨by simp [maxLen] at hm; omega,fun y hy => ?_⟩,?_⟩
   ·obtain ⟨i,hi'⟩ := List.getElem?_of_mem hy
    obtain ⟨es,_,hg,_⟩ := h2 i y hi'
    exact hg
   refine reads_one J ?_
   rcases Nat.eq_zero_or_pos ys.length with h0 | h0
   ·have := List.eq_nil_of_length_eq_zero h0
    subst this
    exact .nil _ _ _ hm
   ·have hsp : a.spot = none := by
     obtain ⟨es,h3,_⟩ := h2 0 _ (List.getElem?_eq_getElem h0)
     obtain ⟨_,hcl,hat⟩ := World.cells?_some h3
     have hp : 0 < P.cellsOf e := by rw [hα.size]; exact Enc.pos
     have := hat 0 hp
     rw [List.getElem?_eq_getElem (by omega)] at this
     have h5 := World.cell?_spot this
     simpa [Addr.add] using h5
    obtain ⟨b,o,sp⟩ := a
    simp only at hsp
    subst hsp
    have hel : ∀ i,i < ys.length → ∃ es,w.cells? 0 ((⟨b,o,none⟩ : Addr).add (i * P.cellsOf e)) (P.cellsOf e) = some es := fun i hi' => by
     obtain ⟨es,h3,_⟩ := h2 i _ (List.getElem?_eq_getElem hi')
     exact ⟨es,h3⟩
    have hlen : ys.length = (els ys).length := (Yl ys).symm
    rw [hlen]
    refine .sl (els ys) b o (Enc.k α) cap (fun i j => ((w.cells? 0 ((⟨b,o,none⟩ : Addr).add (i * P.cellsOf e)) (P.cellsOf e)).getD []).getD j undef) trivial (by rw [Yl]; exact hl) hm Enc.pos (fun e' he => ?_) (fun i j hi' hj => ?_) fun i j e' t' h3 h4 => ?_
    ·obtain ⟨y,_,rfl⟩ := List.mem_map.1 he
     exact Enc.len y
    ·rw [Yl] at hi'
     obtain ⟨es,h3⟩ := hel i hi'
     obtain ⟨_,hcl,hat⟩ := World.cells?_some h3
     rw [hα.size] at hcl
     have h5 := hat j (by rw [hα.size]; exact hj)
     rw [add_lit,add_lit,hα.size,List.getElem?_eq_getElem (by omega)] at h5
     rw [h3]
     simp only [Option.getD_some]
     rw [h5,List.getD_eq_getElem?_getD,List.getElem?_eq_getElem (by omega)]
     rfl
    ·rw [List.getElem?_map] at h3
     obtain ⟨y,hy,rfl⟩ := Option.map_eq_some_iff.1 h3
     obtain ⟨es,h5,_,h6⟩ := h2 i y hy
     have hj : j < es.length := by rw [h6.1,← Enc.len y]; exact Yu h4
     show RO w _ t' (((w.cells? 0 ((⟨b,o,none⟩ : Addr).add (i * P.cellsOf e)) (P.cellsOf e)).getD []).getD j undef)
     rw [h5]
     simp only [Option.getD_some]
     rw [Yt (List.getElem?_eq_getElem hj)]
     exact h6.2 j t' _ h4 (List.getElem?_eq_getElem hj)

theorem reads_of_Trod {P : Program} {t : TypeId} {α : Type} [Enc α] [hα : RdOf P t α] {H : Type} {enc : TypeId × Value → H} {w : World} {spare : Nat → Bool} {held : Bool} {v : Value} {d : DataW H} {p : List MemPlace}
  (h : DataW.Trod enc P w 0 spare held t v d p) : ∃ y : α,Enc.gd y ∧ Reads w y v.cells.toList := by
 obtain ⟨fuel,hf⟩ := h
 exact hα.of hf

theorem r2_slice {α : Type} [Enc α] {w : World} {H : Hs} {xs : List α} {v : Value} (h : Reads w xs [v]) : R2 w H (fun b => b < w.heap.size) (al xs) v :=
 RO.weak (h.2 0 _ v J J) fun b _ hb => .inl hb
theorem law_calls {P : Program} {f : FuncId} {args : List V2} (hc : Con P f [] args [] (B true)) (w : World) (vs : List Value) (hl : vs.length = args.length) (hr : ∀ (i : Nat) (x : V2) (v : Value),args[i]? = some x → vs[i]? = some v → R2 w (fun _ => .nil) (fun b => b < w.heap.size) x v) :
  Calls P f vs.toArray w fun e w' => e = .returned (.bool true) ∧ Below w.heap.size w w' := by
 refine (hc w (fun _ => .nil) (fun b => b < w.heap.size) vs ⟨fun _ => trivial,fun _ => by simp [Pc.fp],fun p q b h => by simp [Pc.fp] at h,fun p b h => by simp [Pc.fp] at h,fun _ h => h⟩ (fun p => by simp [RB]) hl hr).mono ?_
 rintro e w' ⟨H',F',rv,rfl,hs,_,_,hv⟩
 refine ⟨by rw [(RO.plain (show RO w' _ (.v (.bool true)) rv from hv)).1],hs.os,hs.tape,hs.output,hs.size,fun b hb => hs.keep b hb fun p => by simp [Pc.fp]⟩
end
section
open Go.RowKit

theorem Xw {a b : Int} (h : a = b) : I a = I b := by rw [h]
theorem Xk {a b : Bool} (h : a = b) : B a = B b := by rw [h]
theorem eq_ne {α : Type} [DecidableEq α] {xs ys : List α} {j : Nat} (h1 : j < xs.length) (h2 : j < ys.length) (h : ¬ xs[j] = ys[j]) : decide (xs = ys) = false := by
 rw [decide_eq_false_iff_not]
 intro e
 subst e
 exact h J
theorem eq_all {α : Type} [DecidableEq α] {xs ys : List α} {j : Nat} (h1 : xs.length ≤ j) (h2 : xs.length = ys.length) (h : xs.take j = ys.take j) : decide (xs = ys) = true := by
 rw [List.take_of_length_le h1,List.take_of_length_le (by omega)] at h
 simp [h]
theorem eq_len {α : Type} [DecidableEq α] {xs ys : List α} (h : xs.length ≠ ys.length) : decide (xs = ys) = false := by
 rw [decide_eq_false_iff_not]
 intro e
 subst e
 exact h J
theorem eq_next {α : Type} {xs ys : List α} {j : Nat} (h1 : j < xs.length) (h2 : j < ys.length) (h : xs.take j = ys.take j) (e : xs[j] = ys[j]) : xs.take (j + 1) = ys.take (j + 1) := by
 rw [List.take_succ_eq_append_getElem h1,List.take_succ_eq_append_getElem h2,h,e]

/-! ### Counting -/

/-! ### Copying -/
def part {α : Type} [Enc α] (xs : List α) (z : List T) (k : Nat) : List (List T) := els (xs.take k) ++ List.replicate (xs.length - k) z
theorem row_eq {k : Nat} {a b : List (List T)} (h : a = b) : [Ob.row k a] = [Ob.row k b] := by rw [h]


/-! ### Comparing -/
end
section
open Go.RowKit

theorem OW.take {w : World} {k : Nat} {es : List (List T)} {v : Value} {fp : List Nat} (h : OW w (.sl k es) v fp) (hnd : fp.Nodup) {n : Nat} (hn : n ≤ es.length) : ∃ A c fp',v = .slice A es.length c ∧ es.length ≤ c ∧ OW w (.sl k (es.take n)) (.slice (if c = 0 then A else A.map (·.add (0 * k))) (n - 0) (c - 0)) fp' ∧ (∀ b ∈ fp',b ∈ fp) ∧ fp'.Nodup := by
 cases h with
 | nil =>
  have : n = 0 := by simpa using hn
  subst this
  exact ⟨none,0,[],J,Nat.le_refl _,by simpa using OW.nil (w := w) k,by simp,by simp⟩
 | sl _ b o _ c tid cur fz val fps hg hz hc hm hs hp hk hf hfk hv ht =>
  have hA : (if c = 0 then some (⟨b,o,none⟩ : Addr) else (some (⟨b,o,none⟩ : Addr)).map (·.add (0 * k))) = some ⟨b,o,none⟩ := by
   split
   ·rfl
   ·simp [Addr.add]
  have hl : (es.take n).length = n := by simp; omega
  have hfl : fps.flatten.flatten = (fps.take n).flatten.flatten ++ (fps.drop n).flatten.flatten := by
   rw [← List.flatten_append,← List.flatten_append,List.take_append_drop]
  refine ⟨some ⟨b,o,none⟩,c,b :: (fps.take n).flatten.flatten,J,hc,?_,fun x hx => ?_,?_⟩
  ·rw [hA]
   have h1 := OW.sl (w := w) (es.take n) b o k c tid cur fz val (fps.take n) hg hz (by omega) hm hs hp (fun e he => hk e (List.mem_of_mem_take he)) (by simp [hf]) (fun f hf' => hfk f (List.mem_of_mem_take hf'))
    (fun i j hi hj => hv i j (by omega) hj) (fun i j e t fs f g1 g2 g3 g4 => by
     have hi := Yu g1
     rw [hl] at hi
     rw [List.getElem?_take,if_pos hi] at g1 g3
     exact ht i j e t fs f g1 g2 g3 g4)
   rw [hl] at h1
   simpa using h1
  ·rcases List.mem_cons.1 hx with rfl | hx
   ·simp
   ·exact List.mem_cons_of_mem _ (by rw [hfl]; exact List.mem_append_left _ hx)
  ·rw [hfl,← List.cons_append] at hnd
   exact (List.nodup_append.1 hnd).1

def V1.tohd (p n : Nat) : V1 → V1
 | .hd q m => match Nat.beq q p with
  | true => match Nat.beq m n with
   | true => .ref p
   | false => .un
  | false => .hd q m
 | x => x.kill [p]
theorem Wk.head0 {st : St} {p k : Nat} {es : List (List T)} (n : Nat) (hp : st.objs[p]? = some (.row k es)) (hn : n ≤ es.length) : Wk st ⟨st.n,st.tmps.map fun e => (e.1,e.2.mapk (V1.tohd p n)),(st.objs.map (Ob.mapk (V1.tohd p n))).set p (.row k (es.take n))⟩ := by
 intro w H F a h1
 obtain ⟨v,fp,e1,e2⟩ := h1.ow hp
 have hnd := h1.ok.nodup p
 rw [e1] at hnd
 obtain ⟨A,c,fp'',hvA,hc,h3,h5,h4⟩ := e2.take hnd hn
 have hA : (if c = 0 then A else A.map (·.add (0 * k))) = A := by
  split
  ·rfl
  ·cases A <;> simp [Addr.add]
 rw [hA,Nat.sub_zero,Nat.sub_zero] at h3
 have hkeep : Keeps w w fp := ⟨rfl,rfl,rfl,Nat.le_refl _,fun _ _ _ => rfl⟩
 obtain ⟨hok,htn⟩ := h1.ok.turn (p := p) (fp := fp) (by rw [e1]; rfl) hkeep (.ow (.sl k (es.take n)) _ fp'') h3 h4 trivial (fun b hb => .inl (h5 b hb))
 have hone : ∀ x v,R1 w H F x v → R1 w (H.put p (.ow (.sl k (es.take n)) (.slice A n c) fp'')) F (V1.tohd p n x) v := fun x u hx => by
  cases x with
  | hd q m =>
   simp only [V1.tohd]
   obtain ⟨A',m',c',x,fp',e3,rfl⟩ := hx
   split
   ·rename_i hq
    have hqp := Nat.eq_of_beq_eq_true hq
    subst hqp
    split
    ·rename_i hm
     have := Nat.eq_of_beq_eq_true hm
     subst this
     rw [e1] at e3
     simp only [Pc.ow.injEq] at e3
     obtain ⟨_,e4,_⟩ := e3
     rw [hvA] at e4
     simp only [Value.slice.injEq] at e4
     obtain ⟨rfl,_,rfl⟩ := e4
     exact ⟨_,_,Hs.put_self _ _ _⟩
    ·trivial
   ·rename_i hq
    have hqp : q ≠ p := fun e => by rw [e,show Nat.beq p p = true from Nat.beq_refl p] at hq; cases hq
    exact ⟨A',m',c',x,fp',by rw [Hs.put_ne _ _ hqp,e3],J⟩
  | _ => exact R1.killed h1.ok htn hx
 obtain ⟨hplt,_⟩ := List.getElem?_eq_some_iff.1 hp
 refine ⟨_,h1.mapk (V1.tohd p n) hone hok ((st.objs.map (Ob.mapk (V1.tohd p n))).set p (.row k (es.take n))) (fun q => ?_),fun q b hb => ?_,htn.gh⟩
 ·by_cases hqp : q = p
  ·subst hqp
   rw [Yt (x := .row k (es.take n)) (by simp [hplt])]
   exact ⟨_,_,Hs.put_self _ _ _⟩
  ·rw [List.getD_eq_getElem?_getD,List.getElem?_set_ne (Ne.symm hqp),List.getElem?_map]
   have h2 := h1.obs q
   rw [List.getD_eq_getElem?_getD] at h2
   have h3 : H.put p (.ow (.sl k (es.take n)) (.slice A n c) fp'') q = H q := Hs.put_ne _ _ hqp
   cases ho : st.objs[q]? with
   | none => rw [ho] at h2; exact h3.trans h2
   | some ob => rw [ho] at h2; exact RB.mapk hone h3 h2
 ·by_cases hqp : q = p
  ·subst hqp
   rw [Hs.put_self] at hb
   exact ⟨q,by rw [e1]; exact h5 b hb⟩
  ·exact ⟨q,by rw [← Hs.put_ne H _ hqp]; exact hb⟩
def allP {α : Type} (f : α → Prop) : List α → Prop
 | [] => True
 | x :: l => f x ∧ allP f l
theorem X7 {α β : Type} {f : α → Prop} {g h : α → β} (hgh : ∀ x,f x → g x = h x) : ∀ {l : List α},allP f l → l.map g = l.map h
 | [],_ => rfl
 | x :: l,hl => by rw [List.map_cons,List.map_cons,hgh x hl.1,X7 hgh hl.2]
def V1.hdok (p n : Nat) : V1 → Prop
 | .hd q m => match Nat.beq q p with
  | true => m = n
  | false => True
 | _ => True
def V2.hdok (p n : Nat) : V2 → Prop
 | .c x => x.hdok p n
 | .ag xs => allP (V1.hdok p n) xs
def V.hdok (p n : Nat) : V → Prop
 | .o x => x.hdok p n
 | .tu xs => allP (V2.hdok p n) xs
 | .iff _ x => x.hdok p n
def Ob.hdok (p n : Nat) : Ob → Prop
 | .box cs => allP (V1.hdok p n) cs
 | .gh _ x => x.hdok p n
 | _ => True
def V1.tohe (p : Nat) : V1 → V1
 | .hd q m => match Nat.beq q p with
  | true => .ref p
  | false => .hd q m
 | x => x.kill [p]
theorem V1.tohe_eq {p n : Nat} (x : V1) (h : x.hdok p n) : x.tohd p n = x.tohe p := by
 cases x with
 | hd q m =>
  simp only [V1.tohd,V1.tohe]
  cases hq : Nat.beq q p with
  | true =>
   simp only [V1.hdok,hq] at h
   subst h
   simp only [show Nat.beq m m = true from Nat.beq_refl m]
  | false => rfl
 | _ => rfl
theorem V2.tohe_eq {p n : Nat} (x : V2) (h : x.hdok p n) : x.mapk (V1.tohd p n) = x.mapk (V1.tohe p) := by
 cases x with
 | c x => exact congrArg V2.c (V1.tohe_eq x h)
 | ag xs => exact congrArg V2.ag (X7 (fun x hx => V1.tohe_eq x hx) h)
theorem V.tohe_eq {p n : Nat} (x : V) (h : x.hdok p n) : x.mapk (V1.tohd p n) = x.mapk (V1.tohe p) := by
 cases x with
 | o x => exact congrArg V.o (V2.tohe_eq x h)
 | tu xs => exact congrArg V.tu (X7 (fun x hx => V2.tohe_eq x hx) h)
 | iff cs x => exact congrArg (V.iff cs) (V2.tohe_eq x h)
theorem Ob.tohe_eq {p n : Nat} (x : Ob) (h : x.hdok p n) : x.mapk (V1.tohd p n) = x.mapk (V1.tohe p) := by
 cases x with
 | box cs => exact congrArg Ob.box (X7 (fun x hx => V1.tohe_eq x hx) h)
 | gh i x => exact congrArg (Ob.gh i) (V2.tohe_eq x h)
 | _ => rfl
theorem Wk.head {st : St} {p k : Nat} {es : List (List T)} (n : Nat) (hp : st.objs[p]? = some (.row k es)) (hn : n ≤ es.length) (ht : allP (fun e : Nat × V => e.2.hdok p n) st.tmps) (ho : allP (Ob.hdok p n) st.objs) : Wk st ⟨st.n,st.tmps.map fun e => (e.1,e.2.mapk (V1.tohe p)),(st.objs.map (Ob.mapk (V1.tohe p))).set p (.row k (es.take n))⟩ := by
 have h := Wk.head0 n hp hn
 rw [X7 (g := fun e : Nat × V => (e.1,e.2.mapk (V1.tohd p n))) (h := fun e : Nat × V => (e.1,e.2.mapk (V1.tohe p))) (fun e he => by rw [V.tohe_eq e.2 he]) ht,X7 (fun x hx => Ob.tohe_eq x hx) ho] at h
 exact h
section
variable {P : Program} {E : Env} {ops : Array Oper} {o : Oper} {st : St} {rest : List Oper} {QQ : Exit → St → Prop} {t : TypeId} {y u : Operand} {rs : List Nat} {j : Int} {m : Nat}
theorem q_hd {p kk : Nat} {es : List (List T)} {e : TypeId} {zs : List Value} {by_ : Nat} [hm : TyMake P t e zs by_] (ho : o.op = .slice t y none (some u) none) (hg : o.guard = none) (hy : st.ev y = .o (.c (.ref p))) (hp : st.objs[p]? = some (.row kk es)) (hu : st.ev u = .o (.c (.rd rs (.v (.int .i64 j))))) (hkz : kk = zs.length) (h0 : 0 ≤ j ∧ j ≤ es.length) : Qt P ops o st (.o (.c (.hd p j.toNat))) [] m :=
 .pure hg fun a w H F h1 => by
  obtain ⟨v,fp,e1,e2⟩ := h1.ow hp
  obtain ⟨x',fp',e3⟩ := h1.v1 hy
  rw [e1] at e3
  simp only [Pc.ow.injEq] at e3
  obtain ⟨_,hv,_⟩ := e3
  have hnd := h1.ok.nodup p
  rw [e1] at hnd
  obtain ⟨A,c,fp'',hvA,hc,h3,h5,h4⟩ := e2.take hnd (n := j.toNat) (by omega)
  have hA : (if c = 0 then A else A.map (·.add (0 * kk))) = A := by
   split
   ·rfl
   ·cases A <;> simp [Addr.add]
  have hrun := run_slice (P := P) (w := w) (t := t) (e := e) (zs := zs) (by_ := by_) (A := A) (m := es.length) (c := c) none (some j) 0 j.toNat rfl ⟨h0.1,rfl⟩ (Nat.zero_le _) (by omega)
  rw [← hkz,hA,Nat.sub_zero,Nat.sub_zero] at hrun
  refine ⟨.slice A j.toNat c,?_,?_⟩
  ·have hu1 := h1.plain hu
   have hvy : a.eval y = .slice A es.length c := by rw [← hv,hvA]
   unfold execOp
   simp only [ho,Option.map_none,Option.map_some,hu1,hvy,Sem.run_bind]
   simp only [Option.map_none,Option.map_some] at hrun
   rw [hrun]
   rfl
  ·exact ⟨A,es.length,c,_,_,by rw [e1,hvA],rfl⟩
end
section
variable {P : Program} {E : Env} {ops : Array Oper} {o : Oper} {st : St} {rest : List Oper} {QQ : Exit → St → Prop} {t : TypeId} {y u : Operand} {rs : List Nat} {j : Int}
end
end
section
open Go.RowKit

theorem Wk.nilbox {st : St} {p i : Nat} (k : Nat) {cs : List V1} {qs : List Nat} (hp : st.objs[p]? = some (.box cs)) (hc : cs[i]? = some (.rd qs (.v (.slice none 0 0)))) : Wk st ⟨st.n,st.tmps,(st.objs.set p (.box (cs.set i (.ref st.objs.length)))) ++ [.row k []]⟩ := by
 intro w H F a h
 have hnil : H st.objs.length = .nil := by
  have := h.obs st.objs.length
  simpa [List.getD_eq_getElem?_getD,RB] using this
 have hlt := Yu hp
 obtain ⟨H',hH'⟩ : ∃ H' : Hs,H' = H.put st.objs.length (.ow (.sl k []) (.slice none 0 0) []) := ⟨_,rfl⟩
 have hin : H' st.objs.length = .ow (.sl k []) (.slice none 0 0) [] := by rw [hH']; exact Hs.put_self _ _ _
 have hout : ∀ q,q ≠ st.objs.length → H' q = H q := fun q hq => by rw [hH']; exact Hs.put_ne _ _ hq
 have hfp : ∀ q,(H' q).fp = (H q).fp := fun q => by
  by_cases e : q = st.objs.length
  ·rw [e,hin,hnil]; rfl
  ·rw [hout q e]
 have hgh : ∀ q i v,H' q = .gh i v → ∃ r,H r = .gh i v := fun q i v hq => by
  by_cases e : q = st.objs.length
  ·rw [e,hin] at hq; cases hq
  ·exact ⟨q,by rw [← hout q e]; exact hq⟩
 have hgr : Grow w H F w H' F := ⟨Below.refl _ _,fun q hq => hout q fun e => hq (by rw [e]; exact hnil),fun _ h => h,fun _ h => .inl h,fun q hq b hb => by rw [hfp,hq] at hb; simp [Pc.fp] at hb,hgh⟩
 refine ⟨H',⟨⟨fun q => ?_,fun q => by rw [hfp]; exact h.ok.nodup q,fun q r b h1 h2 => by rw [hfp] at h1 h2; exact h.ok.disj q r b h1 h2,fun q b h1 => by rw [hfp] at h1; exact h.ok.free q b h1,h.ok.flt⟩,fun q => ?_,fun e => hgr.rv (h.tmp e),h.size,h.defers⟩,fun q b hb => ⟨q,by rw [← hfp]; exact hb⟩,hgh⟩
 ·by_cases e : q = st.objs.length
  ·rw [e,hin]; exact OW.nil _
  ·rw [hout q e]; exact h.ok.says q
 ·show RB w H' F q ((st.objs.set p (.box (cs.set i (.ref st.objs.length))) ++ [Ob.row k []]).getD q .gone)
  by_cases e : q = st.objs.length
  ·rw [show (st.objs.set p (.box (cs.set i (.ref st.objs.length))) ++ [Ob.row k []]).getD q .gone = .row k [] by simp [List.getD_eq_getElem?_getD,e]]
   exact ⟨_,_,by rw [e]; exact hin⟩
  ·rcases Nat.lt_or_ge q st.objs.length with h1 | h1
   ·by_cases hqp : q = p
    ·subst hqp
     rw [show (st.objs.set q (.box (cs.set i (.ref st.objs.length))) ++ [Ob.row k []]).getD q .gone = .box (cs.set i (.ref st.objs.length)) by simp [List.getD_eq_getElem?_getD,List.getElem?_append_left,h1]]
     obtain ⟨g,t,vs,e1,e2,e3,e4⟩ := h.bx hp
     have hb := h.obs q
     rw [Yt hp] at hb
     obtain ⟨g,t,vs,k1,k2,k3⟩ := hb
     refine ⟨g,t,vs,(hout q e).trans k1,by simpa using k2,fun j c u h4 h5 => ?_⟩
     rw [List.getElem?_set] at h4
     split at h4
     ·rename_i hij
      subst hij
      split at h4
      ·simp only [Option.some.injEq] at h4
       subst h4
       have h6 := k3 i _ u hc h5
       obtain ⟨h7,_⟩ := RO.plain h6.1
       exact ⟨⟨_,_,by rw [hin,← h7]⟩,h6.2⟩
      ·cases h4
     ·have h6 := k3 j c u h4 h5
      exact ⟨hgr.r1 h6.1,h6.2⟩
    ·rw [show (st.objs.set p (.box (cs.set i (.ref st.objs.length))) ++ [Ob.row k []]).getD q .gone = st.objs.getD q .gone by
      rw [List.getD_eq_getElem?_getD,List.getElem?_append_left (by simpa using h1),List.getElem?_set_ne (Ne.symm hqp),List.getD_eq_getElem?_getD]]
     by_cases hn : H q = .nil
     ·have h2 := h.obs q
      have h3 : H' q = .nil := (hout q e).trans hn
      cases ho : st.objs.getD q .gone with
      | gone => exact h3
      | hole => trivial
      | box cs => rw [ho] at h2; obtain ⟨a,t,vs,e,_⟩ := h2; rw [hn] at e; cases e
      | row k es => rw [ho] at h2; obtain ⟨v,fp,e⟩ := h2; rw [hn] at e; cases e
      | gh i x => rw [ho] at h2; obtain ⟨v,e,_⟩ := h2; rw [hn] at e; cases e
      | shr es => rw [ho] at h2; obtain ⟨us,v,fp,e,_⟩ := h2; rw [hn] at e; cases e
     ·exact hgr.rb hn (h.obs q)
   ·rw [show (st.objs.set p (.box (cs.set i (.ref st.objs.length))) ++ [Ob.row k []]).getD q .gone = Ob.gone by
     rw [List.getD_eq_getElem?_getD,List.getElem?_eq_none (by simp; omega)]; rfl]
    refine (hout q e).trans ?_
    have := h.obs q
    simpa [List.getD_eq_getElem?_getD,RB,h1] using this
section
variable {P : Program} {ops : Array Oper} {o : Oper} {st : St} {m : Nat} {t e : TypeId} {y z : Operand} {zs : List Value} {by_ : Nat}
theorem q_bslicez [hm : TyMake P t e zs by_] (ho : o.op = .buildSlice t 0 #[]) (hg : o.guard = none) (hz0 : zs.isEmpty = false) : Qt P ops o st (.o (.c (.sb m 0 zs.length))) [.box []] m :=
 .new hg fun a w H F hr hn => by
  obtain ⟨inf,hi,hzz⟩ := Option.map_eq_some_iff.1 hm.info
  refine ⟨.slice (some ⟨w.heap.size,0,none⟩) 0 0,w.alloc (.cells #[] e),.box w.heap.size e [],?_,(Below.refl _ _).alloc (Nat.le_refl _) _,heap_alloc_new w _,by simp [Pc.fp,Pc.ng],fun b hb => by simp [Pc.fp] at hb; omega,fun H' hgr hq => ⟨⟨_,_,_,hq,J,fun i c u h4 h5 => by simp at h4⟩,_,_,_,hq,by simp,Nat.zero_le _,J⟩⟩
  unfold execOp
  simp [ho,Instr.buildSlice,run_underlying hm.slice,Go.sizeOf,typeInfo,hi,Instr.fill,newRow]
  rw [show (Array.range 0).map (fun _ : Nat => (default : Value)) = #[] from Array.eq_empty_of_size_eq_zero (by simp)]
theorem run_append_z {tx ty : TypeId} [hm : TyMake P t e zs by_] {w : World} (A : Option Addr) {x : Value} {n : Nat} {news : List Value} (hsrc : Src P zs.length tx x n news w) (hn : 0 < n) (hb : n * by_ ≤ 140737488355328) (h63 : n ≤ 9223372036854775807) :
  (Builtin.append_ #[t,tx] ty #[.slice A 0 0,x]).run P w = (Builtin.append_ #[t,tx] ty #[.slice none 0 0,x]).run P w := by
 obtain ⟨i,hi,hzz⟩ := Option.map_eq_some_iff.1 hm.info
 simp only [Prod.mk.injEq] at hzz
 obtain ⟨hz1,hs,hb1⟩ := hzz
 obtain ⟨z,hz2,hz3⟩ := Option.map_eq_some_iff.1 hz1
 have hsrc : Src P i.size tx x n news w := by rw [hs]; exact hsrc
 have h0 : ((0 + n : Nat) : Int) ≤ 9223372036854775807 := by omega
 rw [run_append_grow_src (P := P) (w := w) t tx ty e i z hm.slice hi hz2 A 0 0 [] (by cases A <;> simp [Builtin.firstCells,loadCells,loadCellsFrom]) x n news hsrc (by omega) h0 (growslice_fits (by omega) (by rw [hb1]; simpa using hb)),
  run_append_grow_src (P := P) (w := w) t tx ty e i z hm.slice hi hz2 none 0 0 [] (by simp [Builtin.firstCells]) x n news hsrc (by omega) h0 (growslice_fits (by omega) (by rw [hb1]; simpa using hb))]
theorem src_any [hm : TyMake P t e zs by_] {w : World} {H : Hs} {F : Nat → Prop} {a : Act} (h : R0 w H F st a) {es' : List (List T)} {x : V1} {u : Value} {kk : Nat} (hkz : kk = zs.length) (hz0 : zs ≠ []) (hx : R1 w H F x u) (hs : srcOf st.objs x = some es') (hpl : plainT es') (hkk : ∀ e ∈ es',e.length = kk) : Src P kk t u es'.length (flatV (plainV' es') es'.length kk) w := by
 obtain ⟨A,c,rfl,hsrc⟩ := src_form h hx hs
 have hcell : ∀ i j (hi : i < es'.length) (hj : j < kk),∃ b o',A = some ⟨b,o',none⟩ ∧ w.cell? ⟨b,o' + i * kk + j,none⟩ = some (plainV' es' i j) ∧ (plainV' es' i j).oneCell' = true := by
  intro i j hi hj
  have h6 := List.getElem?_eq_getElem hi
  obtain ⟨b,o',k,hA,hp,hk,hc⟩ := hsrc i _ h6
  have h7 : k = kk := by rw [← hk,hkk _ (List.getElem_mem hi)]
  subst h7
  have h8 : j < (es'[i]).length := by omega
  obtain ⟨u',h9,h10⟩ := hc j _ (List.getElem?_eq_getElem h8)
  obtain ⟨u'',h11⟩ := hpl _ (List.getElem_mem hi) _ (List.getElem_mem h8)
  rw [h11] at h10
  obtain ⟨rfl,h12⟩ := RO.plain h10
  rw [plainV'_at h6 (by rw [List.getElem?_eq_getElem h8,h11])]
  exact ⟨b,o',hA,h9,h12⟩
 refine src_slice (zs := zs) es' (plainV' es') A c (fun hne => ?_) fun i j hi hj => by obtain ⟨_,_,_,_,h⟩ := hcell i j hi hj; exact h
 have hl : 0 < es'.length := List.length_pos_iff.2 hne
 have hk0 : 0 < kk := by rw [hkz]; exact List.length_pos_iff.2 hz0
 obtain ⟨b,o',hA,_⟩ := hcell 0 0 hl hk0
 refine ⟨b,o',hA,fun i j hi hj => ?_⟩
 obtain ⟨b',o'',hA',h1,_⟩ := hcell i j hi hj
 rw [hA] at hA'
 simp only [Option.some.injEq,Addr.mk.injEq] at hA'
 obtain ⟨rfl,rfl,_⟩ := hA'
 exact h1

theorem q_appz {ps : List Nat} {q kk : Nat} {es' : List (List T)} [hm : TyMake P t e zs by_] (ho : o.op = .call { callee := .builtin .append,args := #[y,z],argTypes := #[t,t] }) (hg : o.guard = none) (hy : st.ev y = .o (.c (.sb q 0 kk))) (hz : st.ev z = .o (.c (.rd ps (.sl kk es')))) (hkz : kk = zs.length) (hz0 : zs.isEmpty = false)
  (hpl : plainT es') (hkk : ∀ e ∈ es',e.length = kk) (hpos : 0 < es'.length) (hb : es'.length * by_ ≤ 140737488355328) (h63 : es'.length ≤ 9223372036854775807) : Qt P ops o st (.o (.c (.ref m))) [.row kk es'] m :=
 .new hg fun a w H F hr hn => by
  have hzn : zs ≠ [] := by intro e; rw [e] at hz0; cases hz0
  subst hkz
  obtain ⟨g,tt,vs,b1,b2,b3,b4⟩ := hr.v1 hy
  obtain ⟨w1,hw1⟩ : ∃ w1,w1 = w := ⟨_,rfl⟩
  have hs : srcOf st.objs (.rd ps (.sl zs.length es')) = some es' := rfl
  obtain ⟨v',w',fp'',hr1,h3,h4,h5,h6⟩ := append_plain (P := P) (o := o) (t := t) (kk := zs.length) (es := []) hr (OW.nil _) List.nodup_nil rfl hzn (hr.v1 hz) hs hpl hkk (by simpa using hb) (by simpa using h63)
  have hbel : Below w.heap.size w w' := ⟨h6.os,h6.tape,h6.output,h6.size,fun b hb => h6.block b hb (by simp)⟩
  refine ⟨v',w',.ow (.sl zs.length es') v' fp'',?_,hbel,h3,⟨h4,trivial⟩,fun b hb => (h5 b hb).resolve_left (by simp),fun H' hgr hq => ⟨⟨_,_,hq⟩,_,_,hq⟩⟩
  refine Yq ho ?_
  have h7 := src_any (P := P) (t := t) (e := e) (by_ := by_) (kk := zs.length) hr rfl hzn (hr.v1 hz) hs hpl hkk
  rw [b4,run_append_z (P := P) (some ⟨g,0,none⟩) h7 hpos hb h63]
  exact hr1
end
end
section
open Go.RowKit

def ownO : List T → List Ob
 | [] => []
 | .v _ :: ts => ownO ts
 | .sl k es :: ts => .row k es :: ownO ts
 | .un :: ts => ownO ts
def ownV : Nat → List T → List V1
 | _,[] => []
 | n,.v x :: ts => .rd [] (.v x) :: ownV n ts
 | n,.sl _ _ :: ts => .ref n :: ownV (n + 1) ts
 | n,.un :: ts => .un :: ownV n ts

structure TLevel where
 Rows : (List ByteArray)
 deriving DecidableEq
instance : Enc TLevel := ⟨1,by omega,fun x => [sl x.Rows],fun _ => rfl,fun x => Enc.gd x.Rows,fun x => Enc.wt x.Rows⟩
theorem TLevel.same {x y : TLevel} (h0 : x.Rows = y.Rows) : x = y := by cases x; cases y; simp_all
structure TReplay where
 Level : TLevel
 Players : Int
 Seed : Int
 Every : Int
 Rows : (List (List Int))
 Keys : (List ByteArray)
 deriving DecidableEq
instance : Enc TReplay := ⟨6,by omega,fun x => [sl x.Level.Rows,.v (.int .i64 x.Players),.v (.int .i64 x.Seed),.v (.int .i64 x.Every),sl x.Rows,sl x.Keys],fun _ => rfl,fun x => Enc.gd x.Level ∧ Enc.gd x.Players ∧ Enc.gd x.Seed ∧ Enc.gd x.Every ∧ Enc.gd x.Rows ∧ Enc.gd x.Keys,fun x => Enc.wt x.Level + Enc.wt x.Rows + Enc.wt x.Keys⟩
theorem TReplay.same {x y : TReplay} (h0 : x.Level = y.Level) (h1 : x.Players = y.Players) (h2 : x.Seed = y.Seed) (h3 : x.Every = y.Every) (h4 : x.Rows = y.Rows) (h5 : x.Keys = y.Keys) : x = y := by cases x; cases y; simp_all
end
section
open Go.RowKit

theorem row2 {k : Nat} {a b : List (List T)} {g : Ob} (h : a = b) : [Ob.row k a,g] = [Ob.row k b,g] := by rw [h]
theorem els_set {α : Type} [Enc α] (xs : List α) (i : Nat) (x : α) : els (xs.set i x) = (els xs).set i (Enc.e x) := by simp [els,List.map_set]
end
section
open Go.RowKit

theorem flat_one {fps : List (List (List Nat))} {i j : Nat} {G : List (List Nat)} {f : List Nat} (hi : fps[i]? = some G) (hj : G[j]? = some f) : ∃ X Z : List Nat,fps.flatten.flatten = X ++ f ++ Z ∧ ∀ f' : List Nat,(fps.set i (splice G j [f'])).flatten.flatten = X ++ f' ++ Z := by
 obtain ⟨hlt,he⟩ := List.getElem?_eq_some_iff.1 hi
 obtain ⟨hlj,hf⟩ := List.getElem?_eq_some_iff.1 hj
 refine ⟨(fps.take i).flatten.flatten ++ (G.take j).flatten,(G.drop (j + 1)).flatten ++ (fps.drop (i + 1)).flatten.flatten,?_,fun f' => ?_⟩
 ·conv => lhs; rw [← List.take_append_drop i fps,List.drop_eq_getElem_cons hlt,he]
  have hG : G.flatten = (G.take j).flatten ++ f ++ (G.drop (j + 1)).flatten := by
   conv => lhs; rw [← List.take_append_drop j G,List.drop_eq_getElem_cons hlj,hf]
   simp [List.append_assoc]
  rw [List.flatten_append,List.flatten_cons,List.flatten_append,List.flatten_append,hG]
  simp [List.append_assoc]
 ·rw [List.set_eq_take_append_cons_drop,if_pos hlt]
  rw [List.flatten_append,List.flatten_cons,List.flatten_append,List.flatten_append,splice,List.flatten_append,List.flatten_append]
  simp [List.append_assoc]

theorem sep_list {l : List (List Nat)} (hn : l.flatten.Nodup) {i j : Nat} {f g : List Nat} (hi : l[i]? = some f) (hj : l[j]? = some g) (hij : i ≠ j) {x : Nat} (hx : x ∈ f) (hy : x ∈ g) : False := by
 obtain ⟨hp,hq⟩ := List.pairwise_flatten.1 hn
 obtain ⟨h1,rfl⟩ := List.getElem?_eq_some_iff.1 hi
 obtain ⟨h2,rfl⟩ := List.getElem?_eq_some_iff.1 hj
 rcases Nat.lt_or_gt_of_ne hij with h | h
 ·exact (List.pairwise_iff_getElem.1 hq i j h1 h2 h) x hx x hy rfl
 ·exact (List.pairwise_iff_getElem.1 hq j i h2 h1 h) x hy x hx rfl
theorem sep_elems {fps : List (List (List Nat))} (hn : fps.flatten.flatten.Nodup) {i i' j j' : Nat} {G G' : List (List Nat)} {f g : List Nat} (hi : fps[i]? = some G) (hi' : fps[i']? = some G') (hii : i ≠ i') (hf : G[j]? = some f) (hg : G'[j']? = some g) {x : Nat} (hx : x ∈ f) (hy : x ∈ g) : False := by
 have h1 : (fps.map List.flatten).flatten = fps.flatten.flatten := by simp [List.flatten_flatten]
 rw [← h1] at hn
 exact sep_list hn (i := i) (j := i') (f := G.flatten) (g := G'.flatten) (by simp [hi]) (by simp [hi']) hii (List.mem_flatten.2 ⟨f,Yv hf,hx⟩) (List.mem_flatten.2 ⟨g,Yv hg,hy⟩)
theorem sep_cells {fps : List (List (List Nat))} (hn : fps.flatten.flatten.Nodup) {i j j' : Nat} {G : List (List Nat)} {f g : List Nat} (hi : fps[i]? = some G) (hf : G[j]? = some f) (hg : G[j']? = some g) (hjj : j ≠ j') {x : Nat} (hx : x ∈ f) (hy : x ∈ g) : False := by
 have h1 : (fps.map List.flatten).flatten = fps.flatten.flatten := by simp [List.flatten_flatten]
 rw [← h1] at hn
 obtain ⟨hp,_⟩ := List.pairwise_flatten.1 hn
 exact sep_list (hp G.flatten (List.mem_map.2 ⟨G,Yv hi,J⟩)) hf hg hjj hx hy

theorem OW.inner {w : World} {k : Nat} {es : List (List T)} {v : Value} {fp : List Nat} (h : OW w (.sl k es) v fp) (hnd : fp.Nodup) {i j k' : Nat} {e : List T} {es0 : List (List T)} (hi : es[i]? = some e) (hj : e[j]? = some (.sl k' es0)) :
  ∃ b o c u f,v = .slice (some ⟨b,o,none⟩) es.length c ∧ b ∈ fp ∧ w.cell? ⟨b,o + i * k + j,none⟩ = some u ∧ OW w (.sl k' es0) u f ∧ f.Nodup ∧ (∀ x ∈ f,x ∈ fp) ∧
   ∀ (w' : World) (t1 : T) (f' : List Nat),(∀ x ∈ fp,x ∉ f → w'.heap[x]? = w.heap[x]?) → OW w' t1 u f' → f'.Nodup → (∀ x ∈ f',x ∈ f ∨ w.heap.size ≤ x) → (∀ x ∈ fp,x < w.heap.size) →
    ∃ fp',OW w' (.sl k (es.set i (splice e j [t1]))) v fp' ∧ fp'.Nodup ∧ ∀ x ∈ fp',(x ∈ fp ∧ x ∉ f) ∨ x ∈ f' := by
 rcases h.open_ with ⟨rfl,rfl,rfl⟩ | ⟨b,o,c,tid,cur,fz,val,fps,rfl,rfl,hg,hz,hc,hcm,hcs,hp,hk,hff,hfk,hv,ht⟩
 ·simp at hi
 have hil := Yu hi
 have hek : e.length = k := hk e (Yv hi)
 have hjl := Yu hj
 rw [hek] at hjl
 have hfi : fps[i]? = some fps[i] := List.getElem?_eq_getElem (by omega)
 have hfik : (fps[i]'(by omega)).length = k := hfk _ (List.getElem_mem _)
 obtain ⟨G,hG⟩ : ∃ G,G = fps[i]'(by omega) := ⟨_,rfl⟩
 rw [← hG] at hfi hfik
 obtain ⟨f,hf⟩ : ∃ f,G[j]? = some f := ⟨_,List.getElem?_eq_getElem (by omega)⟩
 obtain ⟨X,Z,e1,e2⟩ := flat_one hfi hf
 have hndc := List.nodup_cons.1 hnd
 have hndf := hndc.2
 rw [e1] at hndf
 obtain ⟨n1,n2,n3⟩ := List.nodup_append.1 hndf
 obtain ⟨n4,n5,n6⟩ := List.nodup_append.1 n1
 have hbf : b ∉ f := fun hb => hndc.1 (mem_ff hfi hf hb)
 refine ⟨b,o,c,val i j,f,J,by simp,?_,ht i j e _ G f hi hj hfi hf,n5,fun x hx => List.mem_cons_of_mem _ (mem_ff hfi hf hx),fun w' t1 f' hw hO hn' hf' hlt => ?_⟩
 ·rw [cell_of_row w b _ cur tid fz hg]
  exact hv i j hil hjl
 have hset : (es.set i (splice e j [t1])).length = es.length := by simp
 have hfr : ∀ (i' j' : Nat) (e' : List T) (t : T) (fs : List (List Nat)) (g : List Nat),es[i']? = some e' → e'[j']? = some t → fps[i']? = some fs → fs[j']? = some g → (∀ x ∈ g,x ∉ f) → OW w' t (val i' j') g := fun i' j' e' t fs g g1 g2 g3 g4 hd =>
  (ht i' j' e' t fs g g1 g2 g3 g4).frame fun x hx => hw x (List.mem_cons_of_mem _ (mem_ff g3 g4 hx)) (hd x hx)
 have hold : ∀ x ∈ X ++ f ++ Z,x < w.heap.size := fun x hx => hlt x (List.mem_cons_of_mem _ (by rw [e1]; exact hx))
 have hdX : ∀ x ∈ X,x ∉ f' := fun x hx hx' => by
  rcases hf' x hx' with h1 | h1
  ·exact n6 x hx x h1 rfl
  ·have := hold x (by simp [hx]); omega
 have hdZ : ∀ x ∈ Z,x ∉ f' := fun x hx hx' => by
  rcases hf' x hx' with h1 | h1
  ·exact n3 x (by simp [h1]) x hx rfl
  ·have := hold x (by simp [hx]); omega
 refine ⟨b :: (fps.set i (splice G j [f'])).flatten.flatten,?_,?_,?_⟩
 ·rw [← hset]
  refine .sl _ b o k c tid cur fz val _ (by rw [hw b (by simp) hbf]; exact hg) hz (by rw [hset]; exact hc) hcm hcs hp ?_ (by simp [hff]) ?_ (fun i' j' hi' hj' => hv i' j' (by rw [← hset]; exact hi') hj') fun i' j' e' t' fs' g' g1 g2 g3 g4 => ?_
  ·intro e' he'
   rcases List.mem_or_eq_of_mem_set he' with he' | rfl
   ·exact hk e' he'
   ·rw [splice_len (by simp; omega),hek]
  ·intro g hg'
   rcases List.mem_or_eq_of_mem_set hg' with hg' | rfl
   ·exact hfk g hg'
   ·rw [splice_len (by simp; omega),hfik]
  ·rw [List.getElem?_set] at g1 g3
   by_cases hii : i = i'
   ·subst hii
    simp only [hil,if_true,Option.some.injEq] at g1
    rw [if_pos rfl,if_pos (by omega)] at g3
    simp only [Option.some.injEq] at g3
    subst g1 g3
    rw [splice_at (by simp; omega)] at g2 g4
    by_cases hcond : j ≤ j' ∧ j' < j + 1
    ·have hjj : j' = j := by omega
     subst hjj
     rw [if_pos (by simp)] at g2 g4
     simp at g2 g4
     subst g2 g4
     exact hO
    ·rw [if_neg (by simpa using hcond)] at g2 g4
     refine hfr i j' e t' G g' hi g2 hfi g4 fun x hx hxf => ?_
     -- two cells of one element own different blocks
     obtain ⟨X2,Z2,e3,e4⟩ := flat_one hfi g4
     exact sep_cells hndc.2 hfi hf g4 (fun e => hcond ⟨by omega,by omega⟩) hxf hx
   ·rw [if_neg hii] at g1 g3
    refine hfr i' j' e' t' fs' g' g1 g2 g3 g4 fun x hx hxf => ?_
    exact sep_elems hndc.2 hfi g3 hii hf g4 hxf hx
 ·rw [e2]
  refine List.nodup_cons.2 ⟨fun hb => ?_,List.nodup_append.2 ⟨List.nodup_append.2 ⟨n4,hn',fun x hx y hy e => hdX x hx (e ▸ hy)⟩,n2,fun x hx y hy e => ?_⟩⟩
  ·rcases List.mem_append.1 hb with hb | hb
   ·rcases List.mem_append.1 hb with hb | hb
    ·exact hndc.1 (by rw [e1]; simp [hb])
    ·rcases hf' b hb with h1 | h1
     ·exact hbf h1
     ·have := hlt b (by simp); omega
   ·exact hndc.1 (by rw [e1]; simp [hb])
  ·rcases List.mem_append.1 hx with hx | hx
   ·exact n3 x (by simp [hx]) y hy e
   ·exact hdZ y hy (e ▸ hx)
 ·rw [e2,e1]
  intro x hx
  rcases List.mem_cons.1 hx with rfl | hx
  ·exact .inl ⟨by simp,hbf⟩
  ·rcases List.mem_append.1 hx with hx | hx
   ·rcases List.mem_append.1 hx with hx | hx
    ·exact .inl ⟨by simp [hx],fun h => n6 x hx x h rfl⟩
    ·exact .inr hx
   ·exact .inl ⟨by simp [hx],fun h => n3 x (by simp [h]) x hx rfl⟩

section
variable {P : Program} {E : Env} {ops : Array Oper} {o : Oper} {st : St} {rest : List Oper} {QQ : Exit → St → Prop} {w : World} {H : Hs} {F : Nat → Prop} {a : Act} {t : TypeId} {y : Operand} {n : Nat}
theorem q_lee {p kk i j : Nat} {es : List (List T)} {e : List T} {x : T} [TyOne P t] (ho : o.op = .load t y) (hg : o.guard = none) (hy : st.ev y = .o (.c (.el p kk i j))) (hp : st.objs[p]? = some (.row kk es)) (he : es[i]? = some e) (hx : e[j]? = some x) : Qt P ops o st (.o (.c (.le p kk i j))) [] n :=
 .pure hg fun a w H F hr => by
  obtain ⟨b,o',e1,hc⟩ := el_cells hr hy hp he
  obtain ⟨u,h1,h2⟩ := hc 0 x (by simpa using hx)
  refine ⟨u,Yr ho e1 (Z4 t b o' u h1),?_⟩
  obtain ⟨b2,o2,n2,c2,x2,fp2,k1,k2⟩ := hr.v1 hy
  obtain ⟨v,fp,k3,k4⟩ := hr.ow hp
  rw [k1] at k3
  simp only [Pc.ow.injEq] at k3
  obtain ⟨_,rfl,rfl⟩ := k3
  rw [e1] at k2
  simp only [Value.pointer.injEq,Option.some.injEq,Addr.mk.injEq] at k2
  obtain ⟨rfl,rfl,_⟩ := k2
  refine ⟨b,o2,n2,c2,x2,fp2,k1,?_,RO.one h2,by simpa using h1⟩
  rcases k4.open_ with ⟨k5,_⟩ | ⟨b',o',c',tid,cur,fz,val,fps,k5,k6,_⟩
  ·cases k5
  ·simp only [Value.slice.injEq,Option.some.injEq,Addr.mk.injEq] at k5
   rw [k6,k5.1.1]; simp

end
end
section
open Go.RowKit

section
variable {P : Program} {ops : Array Oper} {o : Oper} {st : St} {m : Nat} {t t' : TypeId} {y z : Operand} {ps qs : List Nat}
theorem Q8 {xs : List V2} (ho : o.op = .move y) (hg : o.guard = none) (hy : st.ev y = .tu xs) : Qt P ops o st (.tu xs) [] m :=
 .pure hg fun a w H F hr => ⟨a.eval y,by simp [execOp,ho],by rw [← hy]; exact hr.ev y⟩
end
end
section
open Go.RowKit

theorem mk_next {α : Type} [Enc α] {ms xs : List α} (hl : ms.length = xs.length) {i : Nat} (h : i < xs.length) {c : T} {e : List T} (hc : Enc.e (ms[i]'(by omega)) = [c]) (he : e.length = 1 := by rfl) : els (ms.take (i + 1) ++ xs.drop (i + 1)) = (els (ms.take i ++ xs.drop i)).set i (splice e 0 [c]) := by
 have h1 : splice e 0 [c] = Enc.e (ms[i]'(by omega)) := by
  rw [hc]
  match e,he with
  | [t],_ => rfl
 have h2 : i < ms.length := by omega
 rw [h1,← els_set]
 congr 1
 have hi : (ms.take i).length = i := by simp; omega
 rw [List.take_succ_eq_append_getElem h2,List.set_append_right _ _ (by omega)]
 have : i - (ms.take i).length = 0 := by omega
 rw [this,List.drop_eq_getElem_cons h,List.set_cons_zero,List.append_assoc]
 rfl
theorem mk_at {α : Type} {ms xs : List α} (hl : ms.length = xs.length) {i : Nat} (h : i < xs.length) (h' : i < (ms.take i ++ xs.drop i).length := by simp; omega) : (ms.take i ++ xs.drop i)[i] = xs[i] := by
 have hi : (ms.take i).length = i := by simp; omega
 rw [List.getElem_append_right (by omega)]
 simp [hi]
theorem mk_len {α : Type} {ms xs : List α} (hl : ms.length = xs.length) {i : Nat} (h : i ≤ xs.length) : (ms.take i ++ xs.drop i).length = xs.length := by simp; omega
theorem mk_end {α : Type} {ms xs : List α} (hl : ms.length = xs.length) {i : Nat} (h : xs.length ≤ i) : ms.take i ++ xs.drop i = ms := by rw [List.take_of_length_le (by omega),List.drop_of_length_le h,List.append_nil]

def tot (xs : List (List Int)) : Nat := (xs.map List.length).sum
end
section
open Go.RowKit

structure TBody where
 Kind : Int
 Owner : Int
 X : Int
 Y : Int
 VX : Int
 VY : Int
 Aim : Int
 Life : Int
 Timer : Int
 deriving DecidableEq
instance : Enc TBody := ⟨9,by omega,fun x => [.v (.int .i64 x.Kind),.v (.int .i64 x.Owner),.v (.int .i64 x.X),.v (.int .i64 x.Y),.v (.int .i64 x.VX),.v (.int .i64 x.VY),.v (.int .i64 x.Aim),.v (.int .i64 x.Life),.v (.int .i64 x.Timer)],fun _ => rfl,fun x => Enc.gd x.Kind ∧ Enc.gd x.Owner ∧ Enc.gd x.X ∧ Enc.gd x.Y ∧ Enc.gd x.VX ∧ Enc.gd x.VY ∧ Enc.gd x.Aim ∧ Enc.gd x.Life ∧ Enc.gd x.Timer,fun x => 0⟩
theorem TBody.same {x y : TBody} (h0 : x.Kind = y.Kind) (h1 : x.Owner = y.Owner) (h2 : x.X = y.X) (h3 : x.Y = y.Y) (h4 : x.VX = y.VX) (h5 : x.VY = y.VY) (h6 : x.Aim = y.Aim) (h7 : x.Life = y.Life) (h8 : x.Timer = y.Timer) : x = y := by cases x; cases y; simp_all
structure TWorld where
 Level : TLevel
 Tick : Int
 Seed : Int
 Scores : (List Int)
 Bodies : (List TBody)
 deriving DecidableEq
instance : Enc TWorld := ⟨5,by omega,fun x => [sl x.Level.Rows,.v (.int .i64 x.Tick),.v (.int .i64 x.Seed),sl x.Scores,sl x.Bodies],fun _ => rfl,fun x => Enc.gd x.Level ∧ Enc.gd x.Tick ∧ Enc.gd x.Seed ∧ Enc.gd x.Scores ∧ Enc.gd x.Bodies,fun x => Enc.wt x.Level + Enc.wt x.Scores + Enc.wt x.Bodies⟩
theorem TWorld.same {x y : TWorld} (h0 : x.Level = y.Level) (h1 : x.Tick = y.Tick) (h2 : x.Seed = y.Seed) (h3 : x.Scores = y.Scores) (h4 : x.Bodies = y.Bodies) : x = y := by cases x; cases y; simp_all
structure TSpectator where
 World : TWorld
 Gaps : Int
 deriving DecidableEq
instance : Enc TSpectator := ⟨6,by omega,fun x => [sl x.World.Level.Rows,.v (.int .i64 x.World.Tick),.v (.int .i64 x.World.Seed),sl x.World.Scores,sl x.World.Bodies,.v (.int .i64 x.Gaps)],fun _ => rfl,fun x => Enc.gd x.World ∧ Enc.gd x.Gaps,fun x => Enc.wt x.World⟩
theorem TSpectator.same {x y : TSpectator} (h0 : x.World = y.World) (h1 : x.Gaps = y.Gaps) : x = y := by cases x; cases y; simp_all

/-! ### Marks -/
end
section
open Go.RowKit

def inR (n lo hi : Int) : Bool := decide (lo ≤ n) && decide (n ≤ hi)
theorem Yy {n lo hi : Int} : inR n lo hi = true ↔ lo ≤ n ∧ n ≤ hi := by simp [inR]
theorem Xv (n lo hi : Int) : Con Try.prog 28 [] [ai n,ai lo,ai hi] [] (B (inR n lo hi)) := by
 refine Con.of Try.func28 J Try.ntmps28 J (fun E => ?_)
 refine zy (z1 J (zz (zy (z0 J (z0 J (zx (q_geq J J J J) J (z0 J ?_)))))));refine zx (Qt.grdT J J J .stop (fun hgrd => Qa J J J)) J ?_;refine zx (Qt.grdT J J J (.hit .stop) (fun hgrd => Qa J J J)) J ?_;refine zx (Qt.grdT J J J (.hit (.hit .stop)) (fun hgrd => q_leq J J J J)) J ?_;refine zx (Za J J J J) J (z1 J (zz (Xa (F_r ?_))))
 exact Xp J J (X3 [] (by decide) J J J)
theorem S_in (n lo hi : Int) : Con Try.prog 64 [] [ai n,ai lo,ai hi] [] (B (inR n lo hi)) := by
 refine Con.of Try.func64 J Try.ntmps64 J (fun E => ?_)
 refine zy (z1 J (zz (zy (z0 J (z0 J (zx (q_geq J J J J) J (z0 J ?_)))))));refine zx (Qt.grdT J J J .stop (fun hgrd => Qa J J J)) J ?_;refine zx (Qt.grdT J J J (.hit .stop) (fun hgrd => Qa J J J)) J ?_;refine zx (Qt.grdT J J J (.hit (.hit .stop)) (fun hgrd => q_leq J J J J)) J ?_;refine zx (Za J J J J) J (z1 J (zz (Xa (F_r ?_))))
 exact Xp J J (X3 [] (by decide) J J J)

section
variable {α : Type} {p : α → Bool} {xs : List α} {k : Nat}
theorem all_next (h : (xs.take k).all p = true) (hk : k < xs.length) (hp : p xs[k] = true) : (xs.take (k + 1)).all p = true := by
 rw [List.take_succ_eq_append_getElem hk,List.all_append,h]
 simp [hp]
theorem all_no (hk : k < xs.length) (hp : p xs[k] = false) : xs.all p = false := by
 rw [List.all_eq_false]
 exact ⟨_,List.getElem_mem hk,by simp [hp]⟩
theorem all_end (h : (xs.take k).all p = true) (hk : xs.length ≤ k) : xs.all p = true := by rwa [List.take_of_length_le hk] at h
end
def inOk (xs : List Int) : Bool := xs.all fun n => inR n 0 15
def rowOk (xs : List Int) (n : Int) : Bool := decide ((xs.length : Int) = n) && inOk xs

theorem I_inputsOk (xs : List Int) (hn : Enc.gd xs) : Con Try.prog 57 [] [al xs] [] (B (inOk xs)) := by
 have hn1 := hn.1
 have hlx := Yl xs
 refine Con.of Try.func57 J Try.ntmps57 J (fun E => ?_)
 refine zy (z1 J (zz (Qd (zy (z0 J (zx (Zq J J J) J (z0 J (Qe ?_))))))));refine Q0 (Qk ?_);refine A_lq (fun m st => ∃ k : Nat,k + m = xs.length ∧ ((xs.take k).all (fun n => inR n 0 15) = true) ∧ st = (⟨_,[(5,L xs),(6,I (els xs).length),(7,I k)],[]⟩ : St)) (xs.length) ⟨_,⟨0,by omega,by simp,J⟩,W_gj [] J⟩ ?_
 rintro m_A _ ⟨k,hk_A,hp_A,rfl⟩
 refine zy (zx (Zv J J J J) J (zz (Qd ?_)))
 refine Xb J (fun h => ?_) (fun h => ?_)
 ·have h3 : k < xs.length := by have := of_decide_eq_true h; omega
  have hat := Yk h3
  refine Qh (Q0 (Qd (Qk (zy (zx (Q2 J J J J (by omega) (by assumption) J) J (zx (Zu J J J J) J (z1 J (zz (Qd ?_)))))))));refine Qc (z0 J ?_);refine zx (Qj J J (Xv xs[k] 0 15) J) J ?_;refine zn J (zz ?_)
  refine Xb J (fun h4 => ?_) (fun h4 => ?_)
  ·refine zy (z1 rfl (zz (Xa (B_r (T_r (T_r (B_r ?_)))))))
   refine T_r (F_r ?_)
   exact Xp J J (X3 [] (by decide) J J (Xk (all_no h3 (by simpa using h4)).symm))
  ·refine Qh (Q1 (Q0 (Qc (z7 rfl (by omega) (z0 rfl (Qe ?_))))))
   refine Q0 ?_
   exact ⟨xs.length - (k + 1),by omega,_,⟨k + 1,by omega,all_next hp_A h3 (by simpa using h4),J⟩,W_gj [] J⟩
 ·have h3 : ¬ ((k : Int) < (els xs).length) := of_decide_eq_false h
  refine Q9 (T_x (T_x (Xl (Q0 (zy (z1 J (zz (Xa (F_r ?_)))))))))
  exact Xp J J (X3 [] (by decide) J J (Xk (all_end hp_A (by omega)).symm))
theorem I_rowOk (xs : List Int) (n : Int) (hn : Enc.gd xs) : Con Try.prog 30 [] [al xs,ai n] [] (B (rowOk xs n)) := by
 have hlx := Yl xs
 refine Con.of Try.func30 J Try.ntmps30 J (fun E => ?_)
 refine zy (z1 J (zz (zy (z0 J (zx (Zq J J J) J (z0 J (zx (Zk J J J J) J (z0 J ?_))))))));refine zx (Qt.grdT J J J .stop (fun hgrd => Qa J J J)) J ?_;refine zx (Qt.grdT J J J (.hit .stop) (fun hgrd => Qj J J (I_inputsOk xs hn) J)) J ?_;refine zx (Za J J J J) J (z1 J (zz (Xa (F_r ?_))))
 exact Xp J J (X3 [] (by decide) J J (Xk (by rw [hlx]; rfl)))
theorem S_rowOk (xs : List Int) (n : Int) (hn : Enc.gd xs) : Con Try.prog 51 [] [al xs,ai n] [] (B (rowOk xs n)) := by
 have hn1 := hn.1
 have hlx := Yl xs
 refine Con.of Try.func51 J Try.ntmps51 J (fun E => ?_)
 refine zy (z1 J (zz (Qd (zy (z1 J (zz (Qk ?_)))))));refine A_lq (fun m st => ∃ k : Nat,k + m = xs.length ∧ ((xs.take k).all (fun n => inR n 0 15) = true) ∧ st = (⟨_,[(0,L xs),(1,I n),(5,I k)],[]⟩ : St)) (xs.length) ⟨_,⟨0,by omega,by simp,J⟩,W_gj [] J⟩ ?_
 rintro m_A _ ⟨k,hk_A,hp_A,rfl⟩
 refine Qd (zy (z0 J (z0 J (zx (Zq J J J) J (zx (Zv J J J J) J (zz ?_))))))
 refine Xb J (fun h => ?_) (fun h => ?_)
 ·have h3 : k < xs.length := by have := of_decide_eq_true h; omega
  have hat := Yk h3
  refine Qh (Q0 (Qd (Qk (zy (z0 J (z0 J (zx (Q2 J J J J (by omega) (by assumption) J) J (zx (Zu J J J J) J ?_))))))));refine zx (Qj J J (S_in xs[k] 0 15) J) J ?_;refine zn J (zz ?_)
  refine Xb J (fun h4 => ?_) (fun h4 => ?_)
  ·refine zy (z1 rfl (zz (Xa (B_r (T_r (T_r (B_r ?_)))))))
   refine T_r (F_r ?_)
   exact Xp J J (X3 [] (by decide) J J (Xk (by unfold rowOk inOk; rw [all_no h3 (by simpa using h4)]; simp)))
  ·refine Qh (Q1 (Q0 (Qc (z0 rfl (z7 rfl (by omega) ?_)))))
   refine z1 J (zz ?_)
   exact ⟨xs.length - (k + 1),by omega,_,⟨k + 1,by omega,all_next hp_A h3 (by simpa using h4),J⟩,W_gj [] J⟩
 ·have h3 : ¬ ((k : Int) < (els xs).length) := of_decide_eq_false h
  refine Q9 (T_x (T_x (Xl (Q0 (zy (z0 J (zx (Zq J J J) J (z0 J (zx (Zk J J J J) J (z1 J ?_))))))))));refine zz (Xa (F_r ?_))
  exact Xp J J (X3 [] (by decide) J J (Xk (by unfold rowOk inOk; rw [all_end hp_A (by omega),hlx]; simp)))
end
section
open Go.RowKit

abbrev Seen := Bool × Bool × Bool × Bool
def tileM (e : Bool) (t : Int) (s : Seen × Bool) : Option (Seen × Bool) :=
 if t = 35 then some s else if e then none else
 if t = 49 then (if s.1.1 then none else some ((true,s.1.2),true)) else
 if t = 50 then (if s.1.2.1 then none else some ((s.1.1,true,s.1.2.2),true)) else
 if t = 51 then (if s.1.2.2.1 then none else some ((s.1.1,s.1.2.1,true,s.1.2.2.2),true)) else
 if t = 52 then (if s.1.2.2.2 then none else some ((s.1.1,s.1.2.1,s.1.2.2.1,true),true)) else
 if t = 111 ∨ t = 46 then some (s.1,true) else none
def colsM (row : ByteArray) (er : Bool) (w : Nat) (s : Seen × Bool) : Nat → Option (Seen × Bool)
 | 0 => some s
 | c + 1 => match colsM row er w s c with
  | none => none
  | some s' => tileM (er || decide (c = 0) || decide (c + 1 = w)) (byteAt row c) s'
def rowsM (rows : List ByteArray) (w : Nat) : Nat → Option (Seen × Bool)
 | 0 => some ((false,false,false,false),false)
 | r + 1 => match rowsM rows w r with
  | none => none
  | some s => match rows[r]? with
   | none => none
   | some row => if row.size = w then colsM row (decide (r = 0) || decide (r + 1 = rows.length)) w s w else none
def widthM (rows : List ByteArray) : Nat := match rows[0]? with
 | some row => row.size
 | none => 0
def levelOk (l : TLevel) : Bool := decide (3 ≤ l.Rows.length) && decide (l.Rows.length ≤ 12) && decide (4 ≤ widthM l.Rows) && decide (widthM l.Rows ≤ 20) && match rowsM l.Rows (widthM l.Rows) l.Rows.length with
 | some s => s.2
 | none => false

@[reducible] def vb (b : Bool) : V1 := .rd [] (.v (.bool b))
section
variable {rows : List ByteArray} {row : ByteArray} {w k c : Nat} {s s' : Seen × Bool} {er : Bool}
theorem rows_none {n : Nat} (h : rowsM rows w k = none) (hk : k ≤ n) : rowsM rows w n = none := by
 induction n with
 | zero => have : k = 0 := by omega
           subst this; exact h
 | succ n ih =>
  rcases Nat.lt_or_ge n k with h1 | h1
  ·have : k = n + 1 := by omega
   subst this; exact h
  ·simp [rowsM,ih h1]
theorem cols_none {n : Nat} (h : colsM row er w s c = none) (hc : c ≤ n) : colsM row er w s n = none := by
 induction n with
 | zero => have : c = 0 := by omega
           subst this; exact h
 | succ n ih =>
  rcases Nat.lt_or_ge n c with h1 | h1
  ·have : c = n + 1 := by omega
   subst this; exact h
  ·simp [colsM,ih h1]
theorem rows_next (h : rowsM rows w k = some s) (hk : k < rows.length) (hw : rows[k].size = w) : rowsM rows w (k + 1) = colsM rows[k] (decide (k = 0) || decide (k + 1 = rows.length)) w s w := by
 rw [rowsM,h]
 simp [List.getElem?_eq_getElem hk,hw]
theorem rows_bad (hk : k < rows.length) (hw : rows[k].size ≠ w) : rowsM rows w (k + 1) = none := by
 rw [rowsM]
 cases rowsM rows w k with
 | none => rfl
 | some s => simp [List.getElem?_eq_getElem hk,hw]
theorem cols_next (h : colsM row er w s c = some s') : colsM row er w s (c + 1) = tileM (er || decide (c = 0) || decide (c + 1 = w)) (byteAt row c) s' := by
 rw [colsM,h]
theorem level_no {l : TLevel} (hk : k < l.Rows.length) (hw : widthM l.Rows = w) (h : rowsM l.Rows w (k + 1) = none) : levelOk l = false := by
 unfold levelOk
 rw [hw,rows_none h (by omega)]
 simp
theorem width_at (h : 0 < rows.length) : widthM rows = rows[0].size := by simp [widthM,List.getElem?_eq_getElem h]
end
end
section
open Go.RowKit

theorem Xu (x : TLevel) (hg : Enc.gd x) : Con Try.prog 47 [] [ag x] [] (B (levelOk x)) := by
 obtain ⟨rows⟩ := x
 have hn : Enc.gd rows := hg
 have hn1 := hn.1
 have hlx := Yl rows
 refine Con.of Try.func47 J Try.ntmps47 J (fun E => ?_)
 refine zy (M1 (Qq J J J J) J J (z1 J (zz (Qd (zy (z2 J J J (z3 J (zx (Zq J J J) J ?_))))))));refine zx (Zv J J J J) J (z0 J ?_);refine zx (Qt.grdF J J J .stop (fun hgrd => Qf J J J J (by decide))) J ?_;refine zx (Qt.grdF J J J (.hit .stop) (fun hgrd => Qg J J J J J)) J ?_;refine zx (Qt.grdF J J J (.hit (.hit .stop)) (fun hgrd => Zq J J J)) J ?_;refine zx (Qt.grdF J J J (.hit (.hit (.hit .stop))) (fun hgrd => Zo J J J J)) J ?_;refine zx (Zy J J J J) J (zz ?_)
 refine Xb J (fun h => ?_) (fun h => ?_)
 ·simp only [Bool.or_eq_true,decide_eq_true_eq] at h
  refine zy (z1 J (zz (Xa (T_r (F_r ?_)))))
  exact Xp J J (X3 [] (by decide) J J (Xk (by simp [levelOk]; omega)))
 simp only [Bool.or_eq_false_iff,decide_eq_false_iff_not] at h
 have h0 : 0 < rows.length := by omega
 have hat0 : (els rows)[(0 : Int).toNat]? = some (Enc.e rows[0]) := Yk h0
 have hw := width_at h0
 refine Qh (Q0 (zy (z2 J J J (z3 J (zx (Q2 J J J J (by omega) (by assumption) J) J (zx (Zu J J J J) J (zx (Zs J J J) J (z1 J (zz ?_)))))))));refine Qd (zy (z0 J (zx (Zv J J J J) J (z0 J ?_))));refine zx (Qt.grdF J J J .stop (fun hgrd => Qa J J J)) J ?_;refine zx (Qt.grdF J J J (.hit .stop) (fun hgrd => Zo J J J J)) J ?_;refine zx (Zy J J J J) J (zz ?_)
 refine Xb J (fun h1 => ?_) (fun h1 => ?_)
 ·simp only [Bool.or_eq_true,decide_eq_true_eq] at h1
  refine zy (z1 J (zz (Xa (T_r (F_r ?_)))))
  exact Xp J J (X3 [] (by decide) J J (Xk (by simp [levelOk]; omega)))
 simp only [Bool.or_eq_false_iff,decide_eq_false_iff_not] at h1
 obtain ⟨w,hw'⟩ : ∃ w,w = rows[0].size := ⟨_,rfl⟩
 rw [← hw'] at hw h1
 refine Qh (Q0 (zy (M1 (Qx J J J) J J (zz (zy (z1 J (zz ?_)))))));refine Qd (zy (z2 J J J (z3 J (zx (Zq J J J) J (z0 J (zz (Qk ?_)))))));refine A_lq (fun m st => ∃ (k : Nat) (s : Seen × Bool),k + m = rows.length ∧ (rowsM rows w k = some s) ∧ st = (⟨_,[(1,.o (.c (.ptr 0 0))),(3,I w),(4,.o (.c (.ptr 1 0))),(5,B s.2),(33,L rows),(34,I (els rows).length),(35,I k)],[.box [.rd [] (sl rows)],.box [vb false,vb s.1.1,vb s.1.2.1,vb s.1.2.2.1,vb s.1.2.2.2]]⟩ : St)) (rows.length) ⟨(fun (k : Nat) (s : Seen × Bool) => (⟨_,[(1,.o (.c (.ptr 0 0))),(3,I w),(4,.o (.c (.ptr 1 0))),(5,B s.2),(33,L rows),(34,I (els rows).length),(35,I k)],[.box [.rd [] (sl rows)],.box [vb false,vb s.1.1,vb s.1.2.1,vb s.1.2.2.1,vb s.1.2.2.2]]⟩ : St)) 0 (((false,false,false,false),false)),⟨0,((false,false,false,false),false),by omega,J,J⟩,X5 [0,1] (by decide) J (J) (.c J (.cons (Xw (by omega)) (.c J (.c J (.c J (.c J (.c J (.nil))))))))⟩ ?_
 rintro m_A _ ⟨k,s,hk_A,hp_A,rfl⟩
 refine zy (zx (Zv J J J J) J (zz (Qd ?_)))
 refine Xb J (fun h => ?_) (fun h => ?_)
 ·have h3 : k < rows.length := by have := of_decide_eq_true h; omega
  have hat := Yk h3
  have hgk : rows[k].size ≤ 9223372036854775807 := hn.2 _ (List.getElem_mem h3)
  refine Qh (Q0 (Qd (Qk (zy (z0 J (zx (Q2 J J J J (by omega) (by assumption) J) J (zx (Zu J J J J) J (z1 J (z1 J (Qe ?_))))))))));refine Q0 (Qd (zy (z0 J (zx (Zs J J J) J (z0 J (zx (Zx J J J J) J (zz ?_)))))))
  refine Xb J (fun h4 => ?_) (fun h4 => ?_)
  ·have h4 : ¬ rows[k].size = w := by have := of_decide_eq_true h4; omega
   refine zy (z1 J (zz (Xa (T_r (B_r (T_r (T_r (B_r (T_r ?_)))))))));refine F_r ?_
   exact Xp J J (X3 [] (by decide) J J (Xk (level_no (l := ⟨rows⟩) h3 hw (rows_bad h3 h4)).symm))
  have h4 : rows[k].size = w := by have := of_decide_eq_false h4; omega
  have hrn := rows_next hp_A h3 h4
  obtain ⟨er,her⟩ : ∃ er,er = (decide (k = 0) || decide (k + 1 = rows.length)) := ⟨_,rfl⟩
  rw [← her] at hrn
  refine Qh (Q0 (zy (z1 J (zz (Qk ?_)))));refine A_lq (fun m st => ∃ (c : Nat) (u : Seen × Bool),c + m = w ∧ (colsM rows[k] er w s c = some u) ∧ st = (⟨_,[(1,.o (.c (.ptr 0 0))),(3,I w),(4,.o (.c (.ptr 1 0))),(5,B u.2),(6,I k),(7,S rows[k]),(8,I c),(33,L rows),(34,I (els rows).length),(35,I k)],[.box [.rd [] (sl rows)],.box [vb false,vb u.1.1,vb u.1.2.1,vb u.1.2.2.1,vb u.1.2.2.2]]⟩ : St)) (w) ⟨_,⟨0,s,by omega,J,J⟩,W_gj [0,1] J⟩ ?_
  rintro m_D _ ⟨c,u,hk_D,hp_D,rfl⟩
  refine Qd (zy (z0 J (z0 J (zx (Zv J J J J) J (zz ?_)))))
  refine Xb J (fun h5 => ?_) (fun h5 => ?_)
  ·have h5 : c < w := by have := of_decide_eq_true h5; omega
   have hcn := cols_next hp_D
   obtain ⟨t,ht⟩ : ∃ t,byteAt rows[k] (c : Int).toNat = t := ⟨_,rfl⟩
   rw [show byteAt rows[k] c = t from ht] at hcn
   have htb : 0 ≤ t ∧ t ≤ 255 := ht ▸ Yc _ _
   obtain ⟨⟨sa,sb,sc,sd⟩,so⟩ := u
   obtain ⟨e,he⟩ : ∃ e,e = (er || decide (c = 0) || decide (c + 1 = w)) := ⟨_,rfl⟩
   rw [← he] at hcn
   refine Qh (Q0 (Qd (Qk (zy (z0 J (z0 J (zx (Zh J J J J (by assumption) (by omega)) J (z1 J (zz ?_)))))))));refine zy (z0 J (zx (Zk J J J J) J (z0 J ?_)));refine zx (Qt.grdF J J J .stop (fun hgrd => Qa J J J)) J ?_;refine zx (Qt.grdF J J J (.hit .stop) (fun hgrd => Qf J J J J (by decide))) J ?_;refine zx (Qt.grdF J J J (.hit (.hit .stop)) (fun hgrd => Qg J J J J J)) J ?_;refine zx (Qt.grdF J J J (.hit (.hit (.hit .stop))) (fun hgrd => Zq J J J)) J ?_;refine zx (Qt.grdF J J J (.hit (.hit (.hit (.hit .stop)))) (fun hgrd => Xc J J J J (by omega))) J ?_;refine zx (Qt.grdF J J J (.hit (.hit (.hit (.hit (.hit .stop))))) (fun hgrd => Zk J J J J)) J ?_;refine zx (Zy J J J J) J (z0 J ?_);refine zx (Qt.grdF J J J .stop (fun hgrd => Qa J J J)) J ?_;refine zx (Qt.grdF J J J (.hit .stop) (fun hgrd => Zk J J J J)) J ?_;refine zx (Zy J J J J) J (z0 J ?_);refine zx (Qt.grdF J J J .stop (fun hgrd => Qa J J J)) J ?_;refine zx (Qt.grdF J J J (.hit .stop) (fun hgrd => Qa J J J)) J ?_;refine zx (Qt.grdF J J J (.hit (.hit .stop)) (fun hgrd => Xc J J J J (by omega))) J ?_;refine zx (Qt.grdF J J J (.hit (.hit (.hit .stop))) (fun hgrd => Zk J J J J)) J ?_;refine zx (Zy J J J J) J (z1 J (zz (Qd (zy (z0 J (z0 J ?_))))));refine zx (Qt.grdT J J J .stop (fun hgrd => Qa J J J)) J ?_;refine zx (Qt.grdT J J J (.hit .stop) (fun hgrd => Zx J J J J)) J ?_;refine zx (Za J J J J) J (zz ?_)
   have hee : (decide ((k : Int) = 0) || decide ((k : Int) = ((els rows).length : Int) - 1) || decide ((c : Int) = 0) || decide ((c : Int) = (w : Int) - 1)) = e := by
    rw [he,her,hlx]
    have g1 : decide ((k : Int) = 0) = decide (k = 0) := by simp
    have g2 : decide ((k : Int) = (rows.length : Int) - 1) = decide (k + 1 = rows.length) := decide_eq_decide.2 (by omega)
    have g3 : decide ((c : Int) = 0) = decide (c = 0) := by simp
    have g4 : decide ((c : Int) = (w : Int) - 1) = decide (c + 1 = w) := decide_eq_decide.2 (by omega)
    rw [g1,g2,g3,g4]
   clear he her
   have hbad : colsM rows[k] er w s (c + 1) = none → levelOk ⟨rows⟩ = false := fun hc => level_no (l := ⟨rows⟩) h3 hw (hrn.trans (cols_none hc (by omega)))
   refine Xb J (fun h6 => ?_) (fun h6 => ?_)
   ·rw [hee] at h6
    simp only [Bool.and_eq_true,decide_eq_true_eq] at h6
    refine zy (z1 J (zz (Xa (T_r (B_r (T_r (T_r (B_r (B_r ?_)))))))));refine T_r (T_r (B_r (T_r (F_r ?_))))
    exact Xp J J (X3 [] (by decide) J J (Xk (hbad (hcn.trans (by simp [tileM,h6]))).symm))
   rw [hee] at h6
   have h7 : t = 35 ∨ e = false := by
    simp only [Bool.and_eq_false_iff,decide_eq_false_iff_not,Classical.not_not] at h6
    exact h6.symm
   clear h6 hee
   refine AWP.pre (st' := (⟨_,[(1,.o (.c (.ptr 0 0))),(3,I w),(4,.o (.c (.ptr 1 0))),(5,B so),(6,I k),(7,S rows[k]),(8,I c),(9,VI .u8 t),(33,L rows),(34,I (els rows).length),(35,I k)],[.box [.rd [] (sl rows)],.box [vb false,vb sa,vb sb,vb sc,vb sd]]⟩ : St)) ?_ (W_gj [0,1] J)
   rcases h7 with rfl | h7
   ·refine Qh (Q0 (Qd (Qk (zy (z0 rfl ?_)))))
    refine zx (Zn (b := false) J J J J (by decide)) J ?_;refine z0 J (z6 J (z6 J (zpF J (z1 J (zz (Ql J (zy (z0 J ?_))))))));refine zx (Qw (b := false) J J J J (by decide)) J ?_;refine z0 J (z6 J (z6 J (zpF J (z0 J (z6 J (z6 J (zpF J (z1 J (zz (Ql J ?_))))))))));refine Qh (Q1 (Q0 (zy (z0 J ?_))));refine zx (Qw (b := false) J J J J (by decide)) J ?_;refine zz (Ql J (Qh (Q1 (Q0 (Qc (z0 J (z7 J (by omega) (z1 J (zz ?_)))))))))
    exact ⟨w - (c + 1),by omega,_,⟨c + 1,((sa,sb,sc,sd),so),by omega,hcn.trans (by simp [tileM]),J⟩,W_gj [0,1] J⟩
   subst h7
   rcases (by omega : t = 35 ∨ t = 49 ∨ t = 50 ∨ t = 51 ∨ t = 52 ∨ t = 111 ∨ t = 46 ∨ (t ≠ 35 ∧ t ≠ 49 ∧ t ≠ 50 ∧ t ≠ 51 ∧ t ≠ 52 ∧ t ≠ 111 ∧ t ≠ 46)) with rfl | rfl | rfl | rfl | rfl | rfl | rfl | ht7
   ·refine Qh (Q0 (Qd (Qk (zy (z0 rfl ?_)))))
    refine zx (Zn (b := false) J J J J (by decide)) J ?_;refine z0 J (z6 J (z6 J (zpF J (z1 J (zz (Ql J (zy (z0 J ?_))))))));refine zx (Qw (b := false) J J J J (by decide)) J ?_;refine z0 J (z6 J (z6 J (zpF J (z0 J (z6 J (z6 J (zpF J (z1 J (zz (Ql J ?_))))))))));refine Qh (Q1 (Q0 (zy (z0 J ?_))));refine zx (Qw (b := false) J J J J (by decide)) J ?_;refine zz (Ql J (Qh (Q1 (Q0 (Qc (z0 J (z7 J (by omega) (z1 J (zz ?_)))))))))
    exact ⟨w - (c + 1),by omega,_,⟨c + 1,((sa,sb,sc,sd),so),by omega,hcn.trans (by simp [tileM]),J⟩,W_gj [0,1] J⟩
   ·refine Qh (Q0 (Qd (Qk (zy (z0 rfl ?_)))))
    refine zx (Zn (b := true) J J J J (by decide)) J ?_;refine z0 J (z5 J (z0 J (z5 J ?_)));refine zx (Zt (b := true) J J J J (by decide)) J ?_;refine zpT J (z1 J (zz (Qm J (Qd (zy (z0 J (zx (Z0 J J J J (by omega)) J (zx (q_aidx J J J J (by omega)) J (z3 J ?_)))))))));refine zz ?_
    refine Xb J (fun h8 => ?_) (fun h8 => ?_)
    ·have h8 : sa = true := h8
     subst h8
     refine zy (z1 J (zz (Xa (T_r (B_r (T_r (B_r (T_r (T_r ?_)))))))));refine B_r (B_r (T_r (T_r (B_r (T_r (F_r ?_))))))
     exact Xp J J (X3 [] (by decide) J J (Xk (hbad (hcn.trans (by simp [tileM]))).symm))
    ·have h8 : sa = false := h8
     subst h8
     refine Qh (Q0 (Qc (z0 J (zx (Z0 J J J J (by omega)) J (zx (q_aidx J J J J (by omega)) J ?_)))));refine Q5 J J J J J J J J (Qe (Q1 (Q0 (zy (z0 J ?_)))));refine zx (Qw (b := true) J J J J (by decide)) J ?_;refine zz (Qm J (Qc (z1 J (Qe (Q1 (Q0 (Qc (z0 J (z7 J (by omega) (z1 J ?_))))))))));refine zz ?_
     exact ⟨w - (c + 1),by omega,_,⟨c + 1,((true,sb,sc,sd),true),by omega,hcn.trans (by simp [tileM]),J⟩,W_gj [0,1] J⟩
   ·refine Qh (Q0 (Qd (Qk (zy (z0 rfl ?_)))))
    refine zx (Zn (b := true) J J J J (by decide)) J ?_;refine z0 J (z5 J (z0 J (z5 J ?_)));refine zx (Zt (b := true) J J J J (by decide)) J ?_;refine zpT J (z1 J (zz (Qm J (Qd (zy (z0 J (zx (Z0 J J J J (by omega)) J (zx (q_aidx J J J J (by omega)) J (z3 J ?_)))))))));refine zz ?_
    refine Xb J (fun h8 => ?_) (fun h8 => ?_)
    ·have h8 : sb = true := h8
     subst h8
     refine zy (z1 J (zz (Xa (T_r (B_r (T_r (B_r (T_r (T_r ?_)))))))));refine B_r (B_r (T_r (T_r (B_r (T_r (F_r ?_))))))
     exact Xp J J (X3 [] (by decide) J J (Xk (hbad (hcn.trans (by simp [tileM]))).symm))
    ·have h8 : sb = false := h8
     subst h8
     refine Qh (Q0 (Qc (z0 J (zx (Z0 J J J J (by omega)) J (zx (q_aidx J J J J (by omega)) J ?_)))));refine Q5 J J J J J J J J (Qe (Q1 (Q0 (zy (z0 J ?_)))));refine zx (Qw (b := true) J J J J (by decide)) J ?_;refine zz (Qm J (Qc (z1 J (Qe (Q1 (Q0 (Qc (z0 J (z7 J (by omega) (z1 J ?_))))))))));refine zz ?_
     exact ⟨w - (c + 1),by omega,_,⟨c + 1,((sa,true,sc,sd),true),by omega,hcn.trans (by simp [tileM]),J⟩,W_gj [0,1] J⟩
   ·refine Qh (Q0 (Qd (Qk (zy (z0 rfl ?_)))))
    refine zx (Zn (b := true) J J J J (by decide)) J ?_;refine z0 J (z5 J (z0 J (z5 J ?_)));refine zx (Zt (b := true) J J J J (by decide)) J ?_;refine zpT J (z1 J (zz (Qm J (Qd (zy (z0 J (zx (Z0 J J J J (by omega)) J (zx (q_aidx J J J J (by omega)) J (z3 J ?_)))))))));refine zz ?_
    refine Xb J (fun h8 => ?_) (fun h8 => ?_)
    ·have h8 : sc = true := h8
     subst h8
     refine zy (z1 J (zz (Xa (T_r (B_r (T_r (B_r (T_r (T_r ?_)))))))));refine B_r (B_r (T_r (T_r (B_r (T_r (F_r ?_))))))
     exact Xp J J (X3 [] (by decide) J J (Xk (hbad (hcn.trans (by simp [tileM]))).symm))
    ·have h8 : sc = false := h8
     subst h8
     refine Qh (Q0 (Qc (z0 J (zx (Z0 J J J J (by omega)) J (zx (q_aidx J J J J (by omega)) J ?_)))));refine Q5 J J J J J J J J (Qe (Q1 (Q0 (zy (z0 J ?_)))));refine zx (Qw (b := true) J J J J (by decide)) J ?_;refine zz (Qm J (Qc (z1 J (Qe (Q1 (Q0 (Qc (z0 J (z7 J (by omega) (z1 J ?_))))))))));refine zz ?_
     exact ⟨w - (c + 1),by omega,_,⟨c + 1,((sa,sb,true,sd),true),by omega,hcn.trans (by simp [tileM]),J⟩,W_gj [0,1] J⟩
   ·refine Qh (Q0 (Qd (Qk (zy (z0 rfl ?_)))))
    refine zx (Zn (b := true) J J J J (by decide)) J ?_;refine z0 J (z5 J (z0 J (z5 J ?_)));refine zx (Zt (b := true) J J J J (by decide)) J ?_;refine zpT J (z1 J (zz (Qm J (Qd (zy (z0 J (zx (Z0 J J J J (by omega)) J (zx (q_aidx J J J J (by omega)) J (z3 J ?_)))))))));refine zz ?_
    refine Xb J (fun h8 => ?_) (fun h8 => ?_)
    ·have h8 : sd = true := h8
     subst h8
     refine zy (z1 J (zz (Xa (T_r (B_r (T_r (B_r (T_r (T_r ?_)))))))));refine B_r (B_r (T_r (T_r (B_r (T_r (F_r ?_))))))
     exact Xp J J (X3 [] (by decide) J J (Xk (hbad (hcn.trans (by simp [tileM]))).symm))
    ·have h8 : sd = false := h8
     subst h8
     refine Qh (Q0 (Qc (z0 J (zx (Z0 J J J J (by omega)) J (zx (q_aidx J J J J (by omega)) J ?_)))));refine Q5 J J J J J J J J (Qe (Q1 (Q0 (zy (z0 J ?_)))));refine zx (Qw (b := true) J J J J (by decide)) J ?_;refine zz (Qm J (Qc (z1 J (Qe (Q1 (Q0 (Qc (z0 J (z7 J (by omega) (z1 J ?_))))))))));refine zz ?_
     exact ⟨w - (c + 1),by omega,_,⟨c + 1,((sa,sb,sc,true),true),by omega,hcn.trans (by simp [tileM]),J⟩,W_gj [0,1] J⟩
   ·refine Qh (Q0 (Qd (Qk (zy (z0 rfl ?_)))))
    refine zx (Zn (b := true) J J J J (by decide)) J ?_;refine z0 J (z5 J (z0 J (z5 J ?_)));refine zx (Zt (b := false) J J J J (by decide)) J ?_;refine zpT J (z1 J (zz (Ql J (zy (z0 J ?_)))));refine zx (Qw (b := true) J J J J (by decide)) J ?_;refine z0 J (z5 J (z0 J (z5 J ?_)));refine zx (Qw (b := false) J J J J (by decide)) J ?_;refine zpT J (z0 J (z6 J (z6 J (zpF J (z1 J (zz (Ql J (Qh (Q1 (Q0 ?_))))))))));refine zy (z0 J ?_);refine zx (Qw (b := true) J J J J (by decide)) J ?_;refine zz (Qm J (Qc (z1 J (Qe (Q1 (Q0 (Qc (z0 J (z7 J (by omega) (z1 J ?_))))))))));refine zz ?_
    exact ⟨w - (c + 1),by omega,_,⟨c + 1,((sa,sb,sc,sd),true),by omega,hcn.trans (by simp [tileM]),J⟩,W_gj [0,1] J⟩
   ·refine Qh (Q0 (Qd (Qk (zy (z0 rfl ?_)))))
    refine zx (Zn (b := false) J J J J (by decide)) J ?_;refine z0 J (z6 J (z6 J (zpF J (z1 J (zz (Ql J (zy (z0 J ?_))))))));refine zx (Qw (b := true) J J J J (by decide)) J ?_;refine z0 J (z5 J (z0 J (z5 J ?_)));refine zx (Qw (b := true) J J J J (by decide)) J ?_;refine zpT J (z0 J (z5 J (z0 J (z5 J ?_))));refine zx (Qw (b := false) J J J J (by decide)) J ?_;refine zpT J (z1 J (zz (Ql J (Qh (Q1 (Q0 (zy (z0 J ?_))))))));refine zx (Qw (b := true) J J J J (by decide)) J ?_;refine zz (Qm J (Qc (z1 J (Qe (Q1 (Q0 (Qc (z0 J (z7 J (by omega) (z1 J ?_))))))))));refine zz ?_
    exact ⟨w - (c + 1),by omega,_,⟨c + 1,((sa,sb,sc,sd),true),by omega,hcn.trans (by simp [tileM]),J⟩,W_gj [0,1] J⟩
   ·refine Qh (Q0 (Qd (Qk (zy (z0 rfl (zx (q_geq J J J J) rfl ?_))))))
    refine z0 J ?_;refine zx (Qt.grdT J J J .stop (fun hgrd => Qa J J J)) J ?_;refine zx (Qt.grdT J J J (.hit .stop) (fun hgrd => q_leq J J J J)) J ?_;refine zx (Za J J J J) J (z1 J (zz ?_))
    refine Xb J (fun h8 => ?_) (fun h8 => ?_)
    ·simp only [Bool.and_eq_true,decide_eq_true_eq] at h8
     omega
    refine zy (z0 J (zx (Zx J J J J) J (z0 J ?_)));refine zx (Qt.grdT J J J .stop (fun hgrd => Qa J J J)) J ?_;refine zx (Qt.grdT J J J (.hit .stop) (fun hgrd => Zx J J J J)) J ?_;refine zx (Za J J J J) J (z0 J ?_);refine zx (Qt.grdT J J J .stop (fun hgrd => Qa J J J)) J ?_;refine zx (Qt.grdT J J J (.hit .stop) (fun hgrd => Zx J J J J)) J ?_;refine zx (Za J J J J) J (z1 J (zz ?_))
    refine Xb J (fun h9 => ?_) (fun h9 => ?_)
    ·refine zy (z1 rfl (zz (Xa (B_r (T_r (B_r (T_r ?_)))))))
     refine T_r (B_r (B_r (T_r (T_r (B_r (T_r (F_r ?_)))))))
     exact Xp J J (X3 [] (by decide) J J (Xk (hbad (hcn.trans (by simp [tileM,ht7]))).symm))
    ·simp only [Bool.and_eq_false_iff,decide_eq_false_iff_not,Classical.not_not] at h9
     omega
  ·have h5 : c = w := by have := of_decide_eq_false h5; omega
   rw [h5] at hp_D
   rw [hp_D] at hrn
   refine Q9 (T_x (T_x (Xl (Q1 (Q0 (Qc (z7 J (by omega) (z0 J (zz ?_)))))))))
   exact ⟨rows.length - (k + 1),by omega,_,⟨k + 1,u,by omega,hrn,J⟩,W_gj [0,1] J⟩
 ·have h3 : ¬ ((k : Int) < (els rows).length) := of_decide_eq_false h
  have hk : k = rows.length := by omega
  subst hk
  refine Q9 (T_x (T_x (Xl (Q0 (zy (z0 J (z1 J (zz (Xa ?_)))))))));refine F_r ?_
  exact Xp J J (X3 [] (by decide) J J (Xk (by
   unfold levelOk
   rw [hw,hp_A]
   have : 3 ≤ rows.length ∧ rows.length ≤ 12 ∧ 4 ≤ w ∧ w ≤ 20 := by omega
   simp [this])))
end
section
open Go.RowKit

theorem S_LevelOk (x : TLevel) (hg : Enc.gd x) : Con Try.prog 62 [] [ag x] [] (B (levelOk x)) := by
 obtain ⟨rows⟩ := x
 have hn : Enc.gd rows := hg
 have hn1 := hn.1
 have hlx := Yl rows
 refine Con.of Try.func62 J Try.ntmps62 J (fun E => ?_)
 refine zy (M1 (Qq J J J J) J J (z1 J (zz (Qd (zy (z2 J J J (z3 J (zx (Zq J J J) J ?_))))))));refine zx (Qj J J (S_in (els rows).length 3 12) J) J ?_;refine zn J (zz ?_)
 refine Xb J (fun h => ?_) (fun h => ?_)
 ·refine zy (z1 rfl (zz (Xa (T_r (F_r ?_)))))
  exact Xp J J (X3 [] (by decide) J J (Xk (by simp [inR] at h; simp [levelOk]; omega)))
 have h : 3 ≤ rows.length ∧ rows.length ≤ 12 := by simp [inR] at h; omega
 have h0 : 0 < rows.length := by omega
 have hat0 : (els rows)[(0 : Int).toNat]? = some (Enc.e rows[0]) := Yk h0
 have hw := width_at h0
 obtain ⟨w,hw'⟩ : ∃ w,w = rows[0].size := ⟨_,rfl⟩
 rw [← hw'] at hw
 have hg0 : rows[0].size ≤ 9223372036854775807 := hn.2 _ (List.getElem_mem h0)
 refine Qh (Q0 (zy (z2 J J J (z3 J (zx (Q2 J J J J (by omega) (by assumption) J) J (zx (Zu J J J J) J (zx (Zs J J J) J (z1 J (zz ?_)))))))));refine zy (z1 J (zz (zy (M1 (Zd J J J J J J) J J (z1 J (zz (Qd ?_)))))));refine zy (z1 J (zz (Qk ?_)));refine A_lq (fun m st => ∃ (k : Nat) (s : Seen × Bool),k + m = rows.length ∧ (rowsM rows w k = some s ∧ (0 < k → 4 ≤ w ∧ w ≤ 20)) ∧ st = (⟨_,[(1,.o (.c (.ptr 0 0))),(3,I w),(4,B s.2),(5,.o (.c (.sb 1 4 1))),(6,I k)],[.box [.rd [] (sl rows)],.box [vb s.1.1,vb s.1.2.1,vb s.1.2.2.1,vb s.1.2.2.2]]⟩ : St)) (rows.length) ⟨(fun (k : Nat) (s : Seen × Bool) => (⟨_,[(1,.o (.c (.ptr 0 0))),(3,I w),(4,B s.2),(5,.o (.c (.sb 1 4 1))),(6,I k)],[.box [.rd [] (sl rows)],.box [vb s.1.1,vb s.1.2.1,vb s.1.2.2.1,vb s.1.2.2.2]]⟩ : St)) 0 (((false,false,false,false),false)),⟨0,((false,false,false,false),false),by omega,⟨J,by omega⟩,J⟩,X5 [0,1] (by decide) J (J) (.c J (.cons (Xw (by omega)) (.c J (.c J (.c J (.nil))))))⟩ ?_
 rintro m_A _ ⟨k,s,hk_A,hp_A,rfl⟩
 refine Qd (zy (z0 J (z2 J J J (z3 J (zx (Zq J J J) J (zx (Zv J J J J) J (zz ?_)))))))
 refine Xb J (fun h => ?_) (fun h => ?_)
 ·have h3 : k < rows.length := by have := of_decide_eq_true h; omega
  have hat := Yk h3
  have hwc : ((rows[0].size : Nat) : Int) = w := by omega
  have hgk : rows[k].size ≤ 9223372036854775807 := hn.2 _ (List.getElem_mem h3)
  refine Qh (Q0 (Qd (Qk (Qd (zy (z2 J J J (z3 J (z0 J (zx (Q2 J J J J (by omega) (by assumption) J) J (zx (Zu J J J J) J ?_))))))))));refine zx (Zs J J J) J (z0 J (zx (Zx J J J J) J (z0 J ?_)));refine zx (Qt.grdF J J J .stop (fun hgrd => Qa J J J)) J ?_;refine zx (Qt.grdF J J J (.hit .stop) (fun hgrd => Qj J J (S_in w 4 20) J)) J ?_;refine zx (Qt.grdF J J J (.hit (.hit .stop)) (fun hgrd => Q4 J J J)) J ?_;refine zx (Zy J J J J) J (zz ?_)
  refine Xb J (fun h4 => ?_) (fun h4 => ?_)
  ·simp only [Bool.or_eq_true,decide_eq_true_eq,Bool.not_eq_true',inR,Bool.and_eq_false_iff,decide_eq_false_iff_not] at h4
   refine zy (z1 J (zz (Xa (T_r (B_r (T_r (T_r (B_r (T_r ?_)))))))));refine F_r ?_
   refine Xp J J (X3 [] (by decide) J J (Xk ?_))
   by_cases h4' : rows[k].size = w
   ·have : ¬ (4 ≤ w ∧ w ≤ 20) := by omega
    simp only [levelOk,hw]
    rcases Nat.lt_or_ge w 4 with h9 | h9
    ·simp [show ¬ 4 ≤ w by omega]
    ·simp [show ¬ w ≤ 20 by omega]
   ·exact (level_no (l := ⟨rows⟩) h3 hw (rows_bad h3 h4')).symm
  simp only [Bool.or_eq_false_iff,decide_eq_false_iff_not,Bool.not_eq_false',inR,Bool.and_eq_true,decide_eq_true_eq] at h4
  have h1 : 4 ≤ w ∧ w ≤ 20 := by omega
  have h4 : rows[k].size = w := by omega
  have hrn := rows_next hp_A.1 h3 h4
  obtain ⟨er,her⟩ : ∃ er,er = (decide (k = 0) || decide (k + 1 = rows.length)) := ⟨_,rfl⟩
  rw [← her] at hrn
  refine Qh (Q0 (zy (z1 J (zz (Qk ?_)))));refine A_lq (fun m st => ∃ (c : Nat) (u : Seen × Bool),c + m = w ∧ (colsM rows[k] er w s c = some u) ∧ st = (⟨_,[(1,.o (.c (.ptr 0 0))),(3,I w),(4,B u.2),(5,.o (.c (.sb 1 4 1))),(6,I k),(7,I c)],[.box [.rd [] (sl rows)],.box [vb u.1.1,vb u.1.2.1,vb u.1.2.2.1,vb u.1.2.2.2]]⟩ : St)) (w) ⟨_,⟨0,s,by omega,J,J⟩,W_gj [0,1] J⟩ ?_
  rintro m_D _ ⟨c,u,hk_D,hp_D,rfl⟩
  refine Qd (zy (z0 J (z0 J (zx (Zv J J J J) J (zz ?_)))))
  refine Xb J (fun h5 => ?_) (fun h5 => ?_)
  ·have h5 : c < w := by have := of_decide_eq_true h5; omega
   have hcn := cols_next hp_D
   obtain ⟨t,ht⟩ : ∃ t,byteAt rows[k] (c : Int).toNat = t := ⟨_,rfl⟩
   rw [show byteAt rows[k] c = t from ht] at hcn
   have htb : 0 ≤ t ∧ t ≤ 255 := ht ▸ Yc _ _
   obtain ⟨⟨sa,sb,sc,sd⟩,so⟩ := u
   obtain ⟨e,he⟩ : ∃ e,e = (er || decide (c = 0) || decide (c + 1 = w)) := ⟨_,rfl⟩
   rw [← he] at hcn
   refine Qh (Q0 (Qd (Qk (zy (z2 J J J (z3 J (z0 J (zx (Q2 J J J J (by omega) (by assumption) J) J (zx (Zu J J J J) J (z0 J ?_))))))))));refine zx (Zh J J J J (by assumption) (by omega)) J (z1 J (zz (zy (z0 J (zx (Zk J J J J) J (z0 J ?_))))));refine zx (Qt.grdF J J J .stop (fun hgrd => Qa J J J)) J ?_;refine zx (Qt.grdF J J J (.hit .stop) (fun hgrd => Zk J J J J)) J ?_;refine zx (Zy J J J J) J (z0 J ?_);refine zx (Qt.grdF J J J .stop (fun hgrd => Qa J J J)) J ?_;refine zx (Qt.grdF J J J (.hit .stop) (fun hgrd => Qf J J J J (by decide))) J ?_;refine zx (Qt.grdF J J J (.hit (.hit .stop)) (fun hgrd => Qg J J J J J)) J ?_;refine zx (Qt.grdF J J J (.hit (.hit (.hit .stop))) (fun hgrd => Zq J J J)) J ?_;refine zx (Qt.grdF J J J (.hit (.hit (.hit (.hit .stop)))) (fun hgrd => Xc J J J J (by omega))) J ?_;refine zx (Qt.grdF J J J (.hit (.hit (.hit (.hit (.hit .stop))))) (fun hgrd => Zk J J J J)) J ?_;refine zx (Zy J J J J) J (z0 J ?_);refine zx (Qt.grdF J J J .stop (fun hgrd => Qa J J J)) J ?_;refine zx (Qt.grdF J J J (.hit .stop) (fun hgrd => Qa J J J)) J ?_;refine zx (Qt.grdF J J J (.hit (.hit .stop)) (fun hgrd => Xc J J J J (by omega))) J ?_;refine zx (Qt.grdF J J J (.hit (.hit (.hit .stop))) (fun hgrd => Zk J J J J)) J ?_;refine zx (Zy J J J J) J (z1 J (zz (Qd (Qk (zy (z0 J (zx (Zk J J J J) J (z1 J (Qe ?_)))))))));refine Q0 ?_
   have hee : (decide ((k : Int) = 0) || decide ((c : Int) = 0) || decide ((k : Int) = ((els rows).length : Int) - 1) || decide ((c : Int) = (w : Int) - 1)) = e := by
    rw [he,her,hlx]
    have g1 : decide ((k : Int) = 0) = decide (k = 0) := by simp
    have g2 : decide ((k : Int) = (rows.length : Int) - 1) = decide (k + 1 = rows.length) := decide_eq_decide.2 (by omega)
    have g3 : decide ((c : Int) = 0) = decide (c = 0) := by simp
    have g4 : decide ((c : Int) = (w : Int) - 1) = decide (c + 1 = w) := decide_eq_decide.2 (by omega)
    rw [g1,g2,g3,g4]
    cases decide (k = 0) <;> cases decide (c = 0) <;> cases decide (k + 1 = rows.length) <;> rfl
   clear he her
   have hbad : colsM rows[k] er w s (c + 1) = none → levelOk ⟨rows⟩ = false := fun hc => level_no (l := ⟨rows⟩) h3 hw (hrn.trans (cols_none hc (by omega)))
   refine AWP.pre (st' := (⟨_,[(1,.o (.c (.ptr 0 0))),(3,I w),(4,B so),(5,.o (.c (.sb 1 4 1))),(6,I k),(7,I c),(8,VI .u8 t),(9,B e),(73,B (decide (t = 35)))],[.box [.rd [] (sl rows)],.box [vb sa,vb sb,vb sc,vb sd]]⟩ : St)) ?_ (X5 [0,1] (by decide) J (J) (.c J (.c J (.c J (.c J (.c J (.c J (.c J (.cons (Xk hee) (.c J (.nil)))))))))))
   by_cases h7 : t = 35
   ·subst h7
    refine Qm J (Qh (Q1 (Q0 (Qc (z0 J (z0 J ?_))))));refine zx (Qt.grdF J J J .stop (fun hgrd => Qa J J J)) J ?_;refine zx (Qt.grdF J J J (.hit .stop) (fun hgrd => Qw (b := false) J J J J (by decide))) J ?_;refine zx (Zy J J J J) J (z1 J (Qe (Q1 (Q0 (Qc (z0 J (z7 J (by omega) (z1 J (zz ?_)))))))))
    exact ⟨w - (c + 1),by omega,(fun (c : Nat) (u : Seen × Bool) => (⟨_,[(1,.o (.c (.ptr 0 0))),(3,I w),(4,B u.2),(5,.o (.c (.sb 1 4 1))),(6,I k),(7,I c)],[.box [.rd [] (sl rows)],.box [vb u.1.1,vb u.1.2.1,vb u.1.2.2.1,vb u.1.2.2.2]]⟩ : St)) (c + 1) (((sa,sb,sc,sd),so)),⟨c + 1,((sa,sb,sc,sd),so),by omega,hcn.trans (by simp [tileM]),J⟩,X5 [0,1] (by decide) J (J) (.c J (.c J (.cons (Xk (by simp)) (.c J (.c J (.c J (.nil)))))))⟩
   cases e
   case true =>
    have f1 : decide (t = 35) = false := decide_eq_false h7
    refine Xb J (fun h => absurd (of_decide_eq_true h) h7) (fun _ => ?_)
    refine zy (z0 J (z0 J (z6 J (z6 J (z6 J (zx (Qt.no2 J J J) J (zx (Qt.no2 J J J) J (z6 J (z6 J (zx (Qt.no2 J J J) J ?_))))))))));refine zx (Qt.no2 J J J) J (zx (Qt.no2 J J J) J (zx (Qt.no2 J J J) J (zx (Qt.no2 J J J) J (zx (Qt.no2 J J J) J (z6 J (zpT J (z1 J (zz (Qm J (Qd ?_))))))))));refine Qc (z1 J (zz (Xa (B_r (T_r (B_r (T_r (T_r (B_r (B_r ?_))))))))));refine T_r (T_r (B_r (T_r (F_r ?_))))
    exact Xp J J (X3 [] (by decide) J J (Xk (hbad (hcn.trans (by simp [tileM,h7]))).symm))
   refine Xb J (fun h => absurd (of_decide_eq_true h) h7) (fun _ => ?_)
   rcases (by omega : t = 49 ∨ t = 50 ∨ t = 51 ∨ t = 52 ∨ t = 111 ∨ t = 46 ∨ (t ≠ 35 ∧ t ≠ 49 ∧ t ≠ 50 ∧ t ≠ 51 ∧ t ≠ 52 ∧ t ≠ 111 ∧ t ≠ 46)) with rfl | rfl | rfl | rfl | rfl | rfl | ht7
   ·refine zy (z0 rfl (z0 rfl (z5 rfl ?_)))
    refine z0 J (z5 J ?_);refine zx (Qw (b := true) J J J J (by decide)) J ?_;refine z5 J (z0 J (z5 J (z0 J (z5 J ?_))));refine zx (Qw (b := true) J J J J (by decide)) J ?_;refine z5 J (zpT J (z5 J (z0 J (z5 J (z0 J (z5 J (z9a J (by assumption) (z5 J (z0 J (z5 J (z0 J ?_)))))))))));refine z5 J (z9c J (by assumption) (z5 J (zpF J (z5 J (zpT J (zpF J (z1 J (zz (Ql J (Qd ?_))))))))));refine Qc (z0 J ?_);refine zx (Zn (b := true) J J J J (by decide)) J ?_;refine z0 J (z5 J (z0 J (z5 J ?_)));refine zx (Zt (b := true) J J J J (by decide)) J ?_;refine zpT J (z1 J (zz (Qm J (Qd (zy (z0 J (z0 J (zx (Z0 J J J J (by omega)) J (zx (q_sbat J J J J (by omega)) J ?_)))))))));refine z3 J (zz ?_)
    refine Xb J (fun h8 => ?_) (fun h8 => ?_)
    ·have h8 : sa = true := h8
     subst h8
     refine zy (z1 J (zz (Xa (T_r (B_r (T_r (B_r (T_r (T_r ?_)))))))));refine B_r (B_r (T_r (T_r (B_r (T_r (F_r ?_))))))
     exact Xp J J (X3 [] (by decide) J J (Xk (hbad (hcn.trans (by simp [tileM]))).symm))
    ·have h8 : sa = false := h8
     subst h8
     refine Qh (Q0 (Qc (z0 J (z0 J (zx (Z0 J J J J (by omega)) J (zx (q_sbat J J J J (by omega)) J ?_))))));refine Q5 J J J J J J J J (Qe (Q1 (Q0 (Qc (z0 J (z0 J ?_))))));refine zx (Qt.grdF J J J .stop (fun hgrd => Qa J J J)) J ?_;refine zx (Qt.grdF J J J (.hit .stop) (fun hgrd => Qw (b := true) J J J J (by decide))) J ?_;refine zx (Zy J J J J) J (z1 J (Qe (Q1 (Q0 (Qc (z0 J (z7 J (by omega) (z1 J (zz ?_)))))))))
     exact ⟨w - (c + 1),by omega,(fun (c : Nat) (u : Seen × Bool) => (⟨_,[(1,.o (.c (.ptr 0 0))),(3,I w),(4,B u.2),(5,.o (.c (.sb 1 4 1))),(6,I k),(7,I c)],[.box [.rd [] (sl rows)],.box [vb u.1.1,vb u.1.2.1,vb u.1.2.2.1,vb u.1.2.2.2]]⟩ : St)) (c + 1) (((true,sb,sc,sd),true)),⟨c + 1,((true,sb,sc,sd),true),by omega,hcn.trans (by simp [tileM]),J⟩,X5 [0,1] (by decide) J (J) (.c J (.c J (.cons (Xk (by simp)) (.c J (.c J (.c J (.nil)))))))⟩
   ·refine zy (z0 rfl (z0 rfl (z5 rfl ?_)))
    refine z0 J (z5 J ?_);refine zx (Qw (b := true) J J J J (by decide)) J ?_;refine z5 J (z0 J (z5 J (z0 J (z5 J ?_))));refine zx (Qw (b := true) J J J J (by decide)) J ?_;refine z5 J (zpT J (z5 J (z0 J (z5 J (z0 J (z5 J (z9a J (by assumption) (z5 J (z0 J (z5 J (z0 J ?_)))))))))));refine z5 J (z9c J (by assumption) (z5 J (zpF J (z5 J (zpT J (zpF J (z1 J (zz (Ql J (Qd ?_))))))))));refine Qc (z0 J ?_);refine zx (Zn (b := true) J J J J (by decide)) J ?_;refine z0 J (z5 J (z0 J (z5 J ?_)));refine zx (Zt (b := true) J J J J (by decide)) J ?_;refine zpT J (z1 J (zz (Qm J (Qd (zy (z0 J (z0 J (zx (Z0 J J J J (by omega)) J (zx (q_sbat J J J J (by omega)) J ?_)))))))));refine z3 J (zz ?_)
    refine Xb J (fun h8 => ?_) (fun h8 => ?_)
    ·have h8 : sb = true := h8
     subst h8
     refine zy (z1 J (zz (Xa (T_r (B_r (T_r (B_r (T_r (T_r ?_)))))))));refine B_r (B_r (T_r (T_r (B_r (T_r (F_r ?_))))))
     exact Xp J J (X3 [] (by decide) J J (Xk (hbad (hcn.trans (by simp [tileM]))).symm))
    ·have h8 : sb = false := h8
     subst h8
     refine Qh (Q0 (Qc (z0 J (z0 J (zx (Z0 J J J J (by omega)) J (zx (q_sbat J J J J (by omega)) J ?_))))));refine Q5 J J J J J J J J (Qe (Q1 (Q0 (Qc (z0 J (z0 J ?_))))));refine zx (Qt.grdF J J J .stop (fun hgrd => Qa J J J)) J ?_;refine zx (Qt.grdF J J J (.hit .stop) (fun hgrd => Qw (b := true) J J J J (by decide))) J ?_;refine zx (Zy J J J J) J (z1 J (Qe (Q1 (Q0 (Qc (z0 J (z7 J (by omega) (z1 J (zz ?_)))))))))
     exact ⟨w - (c + 1),by omega,(fun (c : Nat) (u : Seen × Bool) => (⟨_,[(1,.o (.c (.ptr 0 0))),(3,I w),(4,B u.2),(5,.o (.c (.sb 1 4 1))),(6,I k),(7,I c)],[.box [.rd [] (sl rows)],.box [vb u.1.1,vb u.1.2.1,vb u.1.2.2.1,vb u.1.2.2.2]]⟩ : St)) (c + 1) (((sa,true,sc,sd),true)),⟨c + 1,((sa,true,sc,sd),true),by omega,hcn.trans (by simp [tileM]),J⟩,X5 [0,1] (by decide) J (J) (.c J (.c J (.cons (Xk (by simp)) (.c J (.c J (.c J (.nil)))))))⟩
   ·refine zy (z0 rfl (z0 rfl (z5 rfl ?_)))
    refine z0 J (z5 J ?_);refine zx (Qw (b := true) J J J J (by decide)) J ?_;refine z5 J (z0 J (z5 J (z0 J (z5 J ?_))));refine zx (Qw (b := true) J J J J (by decide)) J ?_;refine z5 J (zpT J (z5 J (z0 J (z5 J (z0 J (z5 J (z9a J (by assumption) (z5 J (z0 J (z5 J (z0 J ?_)))))))))));refine z5 J (z9c J (by assumption) (z5 J (zpF J (z5 J (zpT J (zpF J (z1 J (zz (Ql J (Qd ?_))))))))));refine Qc (z0 J ?_);refine zx (Zn (b := true) J J J J (by decide)) J ?_;refine z0 J (z5 J (z0 J (z5 J ?_)));refine zx (Zt (b := true) J J J J (by decide)) J ?_;refine zpT J (z1 J (zz (Qm J (Qd (zy (z0 J (z0 J (zx (Z0 J J J J (by omega)) J (zx (q_sbat J J J J (by omega)) J ?_)))))))));refine z3 J (zz ?_)
    refine Xb J (fun h8 => ?_) (fun h8 => ?_)
    ·have h8 : sc = true := h8
     subst h8
     refine zy (z1 J (zz (Xa (T_r (B_r (T_r (B_r (T_r (T_r ?_)))))))));refine B_r (B_r (T_r (T_r (B_r (T_r (F_r ?_))))))
     exact Xp J J (X3 [] (by decide) J J (Xk (hbad (hcn.trans (by simp [tileM]))).symm))
    ·have h8 : sc = false := h8
     subst h8
     refine Qh (Q0 (Qc (z0 J (z0 J (zx (Z0 J J J J (by omega)) J (zx (q_sbat J J J J (by omega)) J ?_))))));refine Q5 J J J J J J J J (Qe (Q1 (Q0 (Qc (z0 J (z0 J ?_))))));refine zx (Qt.grdF J J J .stop (fun hgrd => Qa J J J)) J ?_;refine zx (Qt.grdF J J J (.hit .stop) (fun hgrd => Qw (b := true) J J J J (by decide))) J ?_;refine zx (Zy J J J J) J (z1 J (Qe (Q1 (Q0 (Qc (z0 J (z7 J (by omega) (z1 J (zz ?_)))))))))
     exact ⟨w - (c + 1),by omega,(fun (c : Nat) (u : Seen × Bool) => (⟨_,[(1,.o (.c (.ptr 0 0))),(3,I w),(4,B u.2),(5,.o (.c (.sb 1 4 1))),(6,I k),(7,I c)],[.box [.rd [] (sl rows)],.box [vb u.1.1,vb u.1.2.1,vb u.1.2.2.1,vb u.1.2.2.2]]⟩ : St)) (c + 1) (((sa,sb,true,sd),true)),⟨c + 1,((sa,sb,true,sd),true),by omega,hcn.trans (by simp [tileM]),J⟩,X5 [0,1] (by decide) J (J) (.c J (.c J (.cons (Xk (by simp)) (.c J (.c J (.c J (.nil)))))))⟩
   ·refine zy (z0 rfl (z0 rfl (z5 rfl ?_)))
    refine z0 J (z5 J ?_);refine zx (Qw (b := true) J J J J (by decide)) J ?_;refine z5 J (z0 J (z5 J (z0 J (z5 J ?_))));refine zx (Qw (b := true) J J J J (by decide)) J ?_;refine z5 J (zpT J (z5 J (z0 J (z5 J (z0 J (z5 J (z9a J (by assumption) (z5 J (z0 J (z5 J (z0 J ?_)))))))))));refine z5 J (z9c J (by assumption) (z5 J (zpF J (z5 J (zpT J (zpF J (z1 J (zz (Ql J (Qd ?_))))))))));refine Qc (z0 J ?_);refine zx (Zn (b := true) J J J J (by decide)) J ?_;refine z0 J (z5 J (z0 J (z5 J ?_)));refine zx (Zt (b := true) J J J J (by decide)) J ?_;refine zpT J (z1 J (zz (Qm J (Qd (zy (z0 J (z0 J (zx (Z0 J J J J (by omega)) J (zx (q_sbat J J J J (by omega)) J ?_)))))))));refine z3 J (zz ?_)
    refine Xb J (fun h8 => ?_) (fun h8 => ?_)
    ·have h8 : sd = true := h8
     subst h8
     refine zy (z1 J (zz (Xa (T_r (B_r (T_r (B_r (T_r (T_r ?_)))))))));refine B_r (B_r (T_r (T_r (B_r (T_r (F_r ?_))))))
     exact Xp J J (X3 [] (by decide) J J (Xk (hbad (hcn.trans (by simp [tileM]))).symm))
    ·have h8 : sd = false := h8
     subst h8
     refine Qh (Q0 (Qc (z0 J (z0 J (zx (Z0 J J J J (by omega)) J (zx (q_sbat J J J J (by omega)) J ?_))))));refine Q5 J J J J J J J J (Qe (Q1 (Q0 (Qc (z0 J (z0 J ?_))))));refine zx (Qt.grdF J J J .stop (fun hgrd => Qa J J J)) J ?_;refine zx (Qt.grdF J J J (.hit .stop) (fun hgrd => Qw (b := true) J J J J (by decide))) J ?_;refine zx (Zy J J J J) J (z1 J (Qe (Q1 (Q0 (Qc (z0 J (z7 J (by omega) (z1 J (zz ?_)))))))))
     exact ⟨w - (c + 1),by omega,(fun (c : Nat) (u : Seen × Bool) => (⟨_,[(1,.o (.c (.ptr 0 0))),(3,I w),(4,B u.2),(5,.o (.c (.sb 1 4 1))),(6,I k),(7,I c)],[.box [.rd [] (sl rows)],.box [vb u.1.1,vb u.1.2.1,vb u.1.2.2.1,vb u.1.2.2.2]]⟩ : St)) (c + 1) (((sa,sb,sc,true),true)),⟨c + 1,((sa,sb,sc,true),true),by omega,hcn.trans (by simp [tileM]),J⟩,X5 [0,1] (by decide) J (J) (.c J (.c J (.cons (Xk (by simp)) (.c J (.c J (.c J (.nil)))))))⟩
   ·refine zy (z0 rfl (z0 rfl (z5 rfl ?_)))
    refine z0 J (z5 J (z9f J (by assumption) (z5 J (z0 J (z6 J (z6 J (z5 J (zpF J (z5 J (z0 J (z6 J ?_)))))))))));refine z6 J (z6 J (zx (Qt.no2 J J J) J (zx (Qt.no2 J J J) J (z6 J (z5 J (zpF J (zpF J (z1 J (zz (Ql J ?_))))))))));refine zy (z0 J ?_);refine zx (Zn (b := true) J J J J (by decide)) J ?_;refine z0 J (z5 J (z0 J (z5 J (z9b J (by assumption) (zpT J (z1 J (zz (Ql J (Qh (Q1 ?_))))))))));refine Q0 (Qc (z0 J (z0 J ?_)));refine zx (Qt.grdF J J J .stop (fun hgrd => Qa J J J)) J ?_;refine zx (Qt.grdF J J J (.hit .stop) (fun hgrd => Qw (b := true) J J J J (by decide))) J ?_;refine zx (Zy J J J J) J (z1 J (Qe (Q1 (Q0 (Qc (z0 J (z7 J (by omega) (z1 J (zz ?_)))))))))
    exact ⟨w - (c + 1),by omega,(fun (c : Nat) (u : Seen × Bool) => (⟨_,[(1,.o (.c (.ptr 0 0))),(3,I w),(4,B u.2),(5,.o (.c (.sb 1 4 1))),(6,I k),(7,I c)],[.box [.rd [] (sl rows)],.box [vb u.1.1,vb u.1.2.1,vb u.1.2.2.1,vb u.1.2.2.2]]⟩ : St)) (c + 1) (((sa,sb,sc,sd),true)),⟨c + 1,((sa,sb,sc,sd),true),by omega,hcn.trans (by simp [tileM]),J⟩,X5 [0,1] (by decide) J (J) (.c J (.c J (.cons (Xk (by simp)) (.c J (.c J (.c J (.nil)))))))⟩
   ·refine zy (z0 rfl (z0 rfl (z5 rfl ?_)))
    refine z0 J (z5 J ?_);refine zx (Qw (b := true) J J J J (by decide)) J ?_;refine z5 J (z0 J (z5 J (z0 J (z5 J (z9f J (by assumption) (z5 J (zpT J (z5 J (z0 J (z6 J (z6 J ?_)))))))))));refine z6 J (zx (Qt.no2 J J J) J (zx (Qt.no2 J J J) J (z6 J (z5 J (zpF J (zpF J (z1 J (zz (Ql J (Qd ?_))))))))));refine Qc (z0 J (z9d J (by assumption) (z0 J (z6 J (z6 J (zpF J (z1 J (zz (Ql J (Qh ?_))))))))));refine Q1 (Q0 (Qc (z0 J (z0 J ?_))));refine zx (Qt.grdF J J J .stop (fun hgrd => Qa J J J)) J ?_;refine zx (Qt.grdF J J J (.hit .stop) (fun hgrd => Qw (b := true) J J J J (by decide))) J ?_;refine zx (Zy J J J J) J (z1 J (Qe (Q1 (Q0 (Qc (z0 J (z7 J (by omega) (z1 J (zz ?_)))))))))
    exact ⟨w - (c + 1),by omega,(fun (c : Nat) (u : Seen × Bool) => (⟨_,[(1,.o (.c (.ptr 0 0))),(3,I w),(4,B u.2),(5,.o (.c (.sb 1 4 1))),(6,I k),(7,I c)],[.box [.rd [] (sl rows)],.box [vb u.1.1,vb u.1.2.1,vb u.1.2.2.1,vb u.1.2.2.2]]⟩ : St)) (c + 1) (((sa,sb,sc,sd),true)),⟨c + 1,((sa,sb,sc,sd),true),by omega,hcn.trans (by simp [tileM]),J⟩,X5 [0,1] (by decide) J (J) (.c J (.c J (.cons (Xk (by simp)) (.c J (.c J (.c J (.nil)))))))⟩
   ·refine zy (z0 rfl (z0 rfl (z5 rfl ?_)))
    refine z0 J (z5 J (zx (Zx J J J J) J (z5 J (z0 J ?_))));refine zx (Qt.grdT J J J .stop (fun hgrd => Qa J J J)) J ?_;refine zx (Qt.grdT J J J (.hit .stop) (fun hgrd => Zx J J J J)) J ?_;refine z5 J (zx (Za J J J J) J (z5 J (z0 J ?_)));refine zx (Qt.grdT J J J .stop (fun hgrd => Qa J J J)) J ?_;refine zx (Qt.grdT J J J (.hit .stop) (fun hgrd => Zv J J J J)) J ?_;refine zx (Qt.grdT J J J (.hit (.hit .stop)) (fun hgrd => Qa J J J)) J ?_;refine zx (Qt.grd2F J J J (.hit1 (.hit1 (.hit1 .stop))) (fun hgrd hgrd2 => Qa J J J)) J ?_;refine zx (Qt.grd2F J J J (.hit (.hit1 (.hit1 (.hit1 .stop)))) (fun hgrd hgrd2 => Zo J J J J)) J ?_;refine zx (Qt.grdT J J J (.part (.part (.hit (.hit (.hit .stop))))) (fun hgrd => Zy J J J J)) J ?_;refine z5 J (zx (Za J J J J) J (zpF J (z1 J (zz ?_))))
    refine Xb J (fun h8 => ?_) (fun h8 => ?_)
    ·refine zy (z1 rfl (zz (Xa (B_r (T_r (B_r (T_r ?_)))))))
     refine T_r (B_r (B_r (T_r (T_r (B_r (T_r (F_r ?_)))))))
     exact Xp J J (X3 [] (by decide) J J (Xk (hbad (hcn.trans (by simp [tileM,ht7]))).symm))
    ·simp only [Bool.and_eq_false_iff,Bool.or_eq_false_iff,Bool.false_or,decide_eq_false_iff_not,Classical.not_not] at h8
     omega
  ·have h5 : c = w := by have := of_decide_eq_false h5; omega
   rw [h5] at hp_D
   rw [hp_D] at hrn
   refine Q9 (T_x (T_x (Xl (Q1 (Q0 (Qc (z0 J (z7 J (by omega) (z1 J (zz ?_))))))))))
   exact ⟨rows.length - (k + 1),by omega,_,⟨k + 1,u,by omega,⟨hrn,fun _ => h1⟩,J⟩,W_gj [0,1] J⟩
 ·have h3 : ¬ ((k : Int) < (els rows).length) := of_decide_eq_false h
  have hk : k = rows.length := by omega
  subst hk
  refine Q9 (T_x (T_x (Xl (Q0 (zy (z0 J (z1 J (zz (Xa ?_)))))))));refine F_r ?_
  exact Xp J J (X3 [] (by decide) J J (Xk (by
   unfold levelOk
   rw [hw,hp_A.1]
   have h1 := hp_A.2 (by omega)
   have : 3 ≤ rows.length ∧ rows.length ≤ 12 ∧ 4 ≤ w ∧ w ≤ 20 := by omega
   simp [this])))
end
section
open Go.RowKit

theorem rowsM_size {rows : List ByteArray} {w : Nat} : ∀ n s,rowsM rows w n = some s → ∀ r,r < n → ∃ row,rows[r]? = some row ∧ row.size = w
 | 0,s,_ => fun r hr => by omega
 | n + 1,s,h => fun r hr => by
  rw [rowsM] at h
  split at h
  ·cases h
  ·rename_i s1 h1
   split at h
   ·cases h
   ·rename_i row hrow
    split at h
    ·rename_i hw
     by_cases e : r = n
     ·subst e; exact ⟨row,hrow,hw⟩
     ·exact rowsM_size n s1 h1 r (by omega)
    ·cases h
theorem Yz {l : TLevel} (h : levelOk l = true) : 3 ≤ l.Rows.length ∧ l.Rows.length ≤ 12 ∧ ∃ w,4 ≤ w ∧ w ≤ 20 ∧ ∀ (r : Nat) (hr : r < l.Rows.length),(l.Rows[r]).size = w := by
 unfold levelOk at h
 simp only [Bool.and_eq_true,decide_eq_true_eq] at h
 obtain ⟨⟨⟨⟨h1,h2⟩,h3⟩,h4⟩,h5⟩ := h
 refine ⟨h1,h2,widthM l.Rows,h3,h4,fun r hr => ?_⟩
 split at h5
 ·rename_i s hs
  obtain ⟨row,h6,h7⟩ := rowsM_size _ s hs r hr
  rw [List.getElem?_eq_getElem hr] at h6
  simp only [Option.some.injEq] at h6
  rw [h6]; exact h7
 ·cases h5
def sizeOf (k : Int) : Int := if k = 0 then 12 else if k = 1 then 4 else if k = 2 then 8 else 0
theorem I_SizeOf (k : Int) : Con Try.prog 68 [] [ai k] [] (I (sizeOf k)) := by
 by_cases h0 : k = 0
 ·have hb : decide (k = 0) = true := decide_eq_true h0
  rw [show sizeOf k = 12 by rw [sizeOf,if_pos h0]]
  refine Con.of Try.func68 J Try.ntmps68 J (fun E => ?_)
  refine zy (z1 J (zz (Qd (zy (z0 J (zz (Qk ?_)))))));refine zy (z9e J (by assumption) (z1 J (zz (Qm J (zy (z1 J (zz ?_)))))));refine Xa (B_r (T_r (F_r ?_)))
  exact Xp J J (X3 [] (by decide) J J J)
 have hb0 : decide (k = 0) = false := decide_eq_false h0
 by_cases h1 : k = 1
 ·have hb : decide (k = 1) = true := decide_eq_true h1
  rw [show sizeOf k = 4 by rw [sizeOf,if_neg h0,if_pos h1]]
  refine Con.of Try.func68 J Try.ntmps68 J (fun E => ?_)
  refine zy (z1 J (zz (Qd (zy (z0 J (zz (Qk ?_)))))));refine zy (z9e J (by assumption) (z1 J (zz (Ql J (zy (z9e J (by assumption) (z1 J (Qe ?_))))))));refine Q0 (Qm J (zy (z1 J (zz (Xa (B_r (T_r (F_r ?_))))))))
  exact Xp J J (X3 [] (by decide) J J J)
 have hb1 : decide (k = 1) = false := decide_eq_false h1
 by_cases h2 : k = 2
 ·have hb : decide (k = 2) = true := decide_eq_true h2
  rw [show sizeOf k = 8 by rw [sizeOf,if_neg h0,if_neg h1,if_pos h2]]
  refine Con.of Try.func68 J Try.ntmps68 J (fun E => ?_)
  refine zy (z1 J (zz (Qd (zy (z0 J (zz (Qk ?_)))))));refine zy (z9e J (by assumption) (z1 J (zz (Ql J (zy (z9e J (by assumption) (z1 J (Qe ?_))))))));refine Q0 (Ql J (zy (z9e J (by assumption) (z1 J (zz (Qm J (zy (z1 J ?_))))))));refine zz (Xa (B_r (T_r (F_r ?_))))
  exact Xp J J (X3 [] (by decide) J J J)
 have hb2 : decide (k = 2) = false := decide_eq_false h2
 rw [show sizeOf k = 0 by rw [sizeOf,if_neg h0,if_neg h1,if_neg h2]]
 refine Con.of Try.func68 J Try.ntmps68 J (fun E => ?_)
 refine zy (z1 J (zz (Qd (zy (z0 J (zz (Qk ?_)))))));refine zy (z9e J (by assumption) (z1 J (zz (Ql J (zy (z9e J (by assumption) (z1 J (Qe ?_))))))));refine Q0 (Ql J (zy (z9e J (by assumption) (z1 J (zz (Ql J (Qh (Q1 (Q0 ?_)))))))));refine zy (z1 J (zz (Xa (F_r ?_))))
 exact Xp J J (X3 [] (by decide) J J J)
theorem S_SizeOf (k : Int) : Con Try.prog 84 [] [ai k] [] (I (sizeOf k)) := by
 by_cases h0 : k = 0
 ·have hb : decide (k = 0) = true := decide_eq_true h0
  rw [show sizeOf k = 12 by rw [sizeOf,if_pos h0]]
  refine Con.of Try.func84 J Try.ntmps84 J (fun E => ?_)
  refine zy (z1 J (zz (Qd (zy (z0 J (zz (Qk ?_)))))));refine zy (z9e J (by assumption) (z1 J (zz (Qm J (zy (z1 J (zz ?_)))))));refine Xa (B_r (T_r (F_r ?_)))
  exact Xp J J (X3 [] (by decide) J J J)
 have hb0 : decide (k = 0) = false := decide_eq_false h0
 by_cases h1 : k = 1
 ·have hb : decide (k = 1) = true := decide_eq_true h1
  rw [show sizeOf k = 4 by rw [sizeOf,if_neg h0,if_pos h1]]
  refine Con.of Try.func84 J Try.ntmps84 J (fun E => ?_)
  refine zy (z1 J (zz (Qd (zy (z0 J (zz (Qk ?_)))))));refine zy (z9e J (by assumption) (z1 J (zz (Ql J (zy (z9e J (by assumption) (z1 J (Qe ?_))))))));refine Q0 (Qm J (zy (z1 J (zz (Xa (B_r (T_r (F_r ?_))))))))
  exact Xp J J (X3 [] (by decide) J J J)
 have hb1 : decide (k = 1) = false := decide_eq_false h1
 by_cases h2 : k = 2
 ·have hb : decide (k = 2) = true := decide_eq_true h2
  rw [show sizeOf k = 8 by rw [sizeOf,if_neg h0,if_neg h1,if_pos h2]]
  refine Con.of Try.func84 J Try.ntmps84 J (fun E => ?_)
  refine zy (z1 J (zz (Qd (zy (z0 J (zz (Qk ?_)))))));refine zy (z9e J (by assumption) (z1 J (zz (Ql J (zy (z9e J (by assumption) (z1 J (Qe ?_))))))));refine Q0 (Ql J (zy (z9e J (by assumption) (z1 J (zz (Qm J (zy (z1 J ?_))))))));refine zz (Xa (B_r (T_r (F_r ?_))))
  exact Xp J J (X3 [] (by decide) J J J)
 have hb2 : decide (k = 2) = false := decide_eq_false h2
 rw [show sizeOf k = 0 by rw [sizeOf,if_neg h0,if_neg h1,if_neg h2]]
 refine Con.of Try.func84 J Try.ntmps84 J (fun E => ?_)
 refine zy (z1 J (zz (Qd (zy (z0 J (zz (Qk ?_)))))));refine zy (z9e J (by assumption) (z1 J (zz (Ql J (zy (z9e J (by assumption) (z1 J (Qe ?_))))))));refine Q0 (Ql J (zy (z9e J (by assumption) (z1 J (zz (Ql J (Qh (Q1 (Q0 ?_)))))))));refine zy (z1 J (zz (Xa (F_r ?_))))
 exact Xp J J (X3 [] (by decide) J J J)
def wallAt (l : TLevel) (r c : Int) : Prop := ∀ (q : Nat) (hq : q < l.Rows.length),r = q → 0 ≤ c → c < (l.Rows[q]).size → byteAt (l.Rows[q]) c.toNat = 35
def hits (l : TLevel) (x y s : Int) : Prop := ∃ r c : Int,y / 16 ≤ r ∧ r ≤ (y + s - 1) / 16 ∧ x / 16 ≤ c ∧ c ≤ (x + s - 1) / 16 ∧ wallAt l r c
noncomputable def solidM (l : TLevel) (x y s : Int) : Bool := @decide (hits l x y s) (Classical.propDecidable _)
theorem Z9 {l : TLevel} {x y s : Int} (h : hits l x y s) : solidM l x y s = true := @decide_eq_true _ (Classical.propDecidable _) h
theorem solidM_F {l : TLevel} {x y s : Int} (h : ¬ hits l x y s) : solidM l x y s = false := @decide_eq_false _ (Classical.propDecidable _) h
theorem wall_tile {l : TLevel} {r c : Nat} (hr : r < l.Rows.length) (h : byteAt (l.Rows[r]) c = 35) : wallAt l r c := fun q hq e h0 h1 => by
 have : q = r := by omega
 subst this
 exact h
theorem no_wall {l : TLevel} {r c : Nat} (hr : r < l.Rows.length) (hc : c < (l.Rows[r]).size) (h : byteAt (l.Rows[r]) c ≠ 35) : ¬ wallAt l r c := fun hw => h (hw r hr rfl (by omega) (by omega))
theorem out_hits {l : TLevel} {x y s : Int} {w : Nat} (hw : ∀ (r : Nat) (hr : r < l.Rows.length),(l.Rows[r]).size = w) (h1 : 1 ≤ s) (h : x < 0 ∨ y < 0 ∨ (w : Int) * 16 - s < x ∨ (l.Rows.length : Int) * 16 - s < y) : hits l x y s := by
 by_cases hx : x < 0
 ·exact ⟨y / 16,x / 16,by omega,by omega,by omega,by omega,fun q hq e h0 h1 => by omega⟩
 by_cases hy : y < 0
 ·exact ⟨y / 16,x / 16,by omega,by omega,by omega,by omega,fun q hq e h0 h1 => by omega⟩
 by_cases hx2 : (w : Int) * 16 - s < x
 ·exact ⟨y / 16,(x + s - 1) / 16,by omega,by omega,by omega,by omega,fun q hq e h0 h1 => by have := hw q hq; omega⟩
 ·exact ⟨(y + s - 1) / 16,x / 16,by omega,by omega,by omega,by omega,fun q hq e h0 h1 => by omega⟩
def freeR (l : TLevel) (x s : Int) (a b : Int) : Prop := ∀ r c : Int,a ≤ r → r < b → x / 16 ≤ c → c ≤ (x + s - 1) / 16 → ¬ wallAt l r c
def freeC (l : TLevel) (r : Int) (a b : Int) : Prop := ∀ c : Int,a ≤ c → c < b → ¬ wallAt l r c
theorem free_all {l : TLevel} {x y s b : Int} (h : freeR l x s (y / 16) b) (hb : (y + s - 1) / 16 < b) : ¬ hits l x y s := fun ⟨r,c,h1,h2,h3,h4,h5⟩ => h r c h1 (by omega) h3 h4 h5
theorem free_row {l : TLevel} {x s a b e : Int} (h : freeR l x s a b) (hc : freeC l b (x / 16) e) (he : (x + s - 1) / 16 < e) : freeR l x s a (b + 1) := fun r c h1 h2 h3 h4 => by
 by_cases hr : r < b
 ·exact h r c h1 hr h3 h4
 ·have : r = b := by omega
  subst this
  exact hc c h3 (by omega)
theorem free_col {l : TLevel} {r a b : Int} (h : freeC l r a b) (hn : ¬ wallAt l r b) : freeC l r a (b + 1) := fun c h1 h2 => by
 by_cases hc : c < b
 ·exact h c h1 hc
 ·have : c = b := by omega
  subst this
  exact hn
theorem I_solid (l : TLevel) (x y s : Int) (hl : levelOk l = true) (hx : I64 x) (hy : I64 y) (h1 : 1 ≤ s) (h16 : s ≤ 16) : Con Try.prog 86 [] [ag l,ai x,ai y,ai s] [] (B (solidM l x y s)) := by
 obtain ⟨hx1,hx2⟩ := hx
 obtain ⟨hy1,hy2⟩ := hy
 obtain ⟨f3,f12,w,w4,w20,hw⟩ := Yz hl
 have hlx := Yl l.Rows
 have h0 : 0 < l.Rows.length := by omega
 have hat0 : (els l.Rows)[(0 : Int).toNat]? = some (Enc.e l.Rows[0]) := Yk h0
 have hw0 := hw 0 h0
 refine Con.of Try.func86 J Try.ntmps86 J (fun E => ?_)
 refine zy (M1 (Qq J J J J) J J (z1 J (zz (zy (z2 J J J (z3 J (zx (Q2 J J J J (by omega) (by assumption) J) J (zx (Zu J J J J) J ?_))))))));refine zx (Zs J J J) J (zx (Zw J J J J (by omega)) J (z1 J (zz (zy (z2 J J J (z3 J (zx (Zq J J J) J (zx (Zw J J J J (by omega)) J (z1 J ?_)))))))));refine zz (Qd (zy (z0 J (zx (Zv J J J J) J (z0 J ?_)))));refine zx (Qt.grdF J J J .stop (fun hgrd => Qa J J J)) J ?_;refine zx (Qt.grdF J J J (.hit .stop) (fun hgrd => Zv J J J J)) J ?_;refine zx (Zy J J J J) J (z0 J ?_);refine zx (Qt.grdF J J J .stop (fun hgrd => Qa J J J)) J ?_;refine zx (Qt.grdF J J J (.hit .stop) (fun hgrd => Qa J J J)) J ?_;refine zx (Qt.grdF J J J (.hit (.hit .stop)) (fun hgrd => Qa J J J)) J ?_;refine zx (Qt.grdF J J J (.hit (.hit (.hit .stop))) (fun hgrd => Xc J J J J (by omega))) J ?_;refine zx (Qt.grdF J J J (.hit (.hit (.hit (.hit .stop)))) (fun hgrd => Zo J J J J)) J ?_;refine zx (Zy J J J J) J (z0 J ?_);refine zx (Qt.grdF J J J .stop (fun hgrd => Qa J J J)) J ?_;refine zx (Qt.grdF J J J (.hit .stop) (fun hgrd => Qa J J J)) J ?_;refine zx (Qt.grdF J J J (.hit (.hit .stop)) (fun hgrd => Qa J J J)) J ?_;refine zx (Qt.grdF J J J (.hit (.hit (.hit .stop))) (fun hgrd => Xc J J J J (by omega))) J ?_;refine zx (Qt.grdF J J J (.hit (.hit (.hit (.hit .stop)))) (fun hgrd => Zo J J J J)) J ?_;refine zx (Zy J J J J) J (zz ?_)
 refine Xb J (fun h => ?_) (fun h => ?_)
 ·simp only [Bool.or_eq_true,decide_eq_true_eq] at h
  rw [Z9 (out_hits hw h1 (by omega))]
  refine zy (z1 J (zz (Xa (T_r (F_r ?_)))))
  exact Xp J J (X3 [] (by decide) J J J)
 simp only [Bool.or_eq_false_iff,decide_eq_false_iff_not] at h
 refine Qh (Q0 (Qd (zy (z0 J (zx (q_quo J J J J (by omega)) J (z1 J (zz (Qk ?_))))))));refine A_lq (fun m__ st => ∃ (r : Nat),((y + s - 1) / 16 + 1).toNat - r = m__ ∧ (y / 16 ≤ r ∧ (r : Int) ≤ (y + s - 1) / 16 + 1 ∧ freeR l x s (y / 16) r) ∧ st = (⟨_,[(1,I x),(2,I y),(3,I s),(4,.o (.c (.ptr 0 0))),(11,I r)],[.box ((Enc.e l).map (V1.rd []))]⟩ : St)) _ ⟨(fun (r : Nat) => (⟨_,[(1,I x),(2,I y),(3,I s),(4,.o (.c (.ptr 0 0))),(11,I r)],[.box ((Enc.e l).map (V1.rd []))]⟩ : St)) ((y / 16).toNat),⟨(y / 16).toNat,J,⟨by omega,by omega,fun r c h1 h2 => by omega⟩,J⟩,X5 [0] (by decide) J (J) (.c J (.c J (.c J (.c J (.cons (Xw (by omega)) (.nil))))))⟩ ?_
 rintro m_A _ ⟨r,hk_A,hp_A,rfl⟩
 obtain ⟨hr1,hr2,hfr⟩ := hp_A
 refine Qd (zy (z0 J (z0 J (z0 J (z7 J (by omega) (z8 J (by omega) (zx (q_quo J J J J (by omega)) J (zx (q_leq J J J J) J (zz ?_)))))))))
 refine Xb J (fun h5 => ?_) (fun h5 => ?_)
 ·have h5 := of_decide_eq_true h5
  have hrl : r < l.Rows.length := by omega
  have hat := Yk hrl
  have hwr := hw r hrl
  refine Qh (Q0 (Qd (Qk (zy (z0 J (zx (q_quo J J J J (by omega)) J (z1 J (zz (Qk ?_)))))))));refine A_lq (fun m__ st => ∃ (c : Nat),((x + s - 1) / 16 + 1).toNat - c = m__ ∧ (x / 16 ≤ c ∧ (c : Int) ≤ (x + s - 1) / 16 + 1 ∧ freeC l r (x / 16) c) ∧ st = (⟨_,[(1,I x),(2,I y),(3,I s),(4,.o (.c (.ptr 0 0))),(11,I r),(12,I c)],[.box ((Enc.e l).map (V1.rd []))]⟩ : St)) _ ⟨(fun (c : Nat) => (⟨_,[(1,I x),(2,I y),(3,I s),(4,.o (.c (.ptr 0 0))),(11,I r),(12,I c)],[.box ((Enc.e l).map (V1.rd []))]⟩ : St)) ((x / 16).toNat),⟨(x / 16).toNat,J,⟨by omega,by omega,fun c h1 h2 => by omega⟩,J⟩,X5 [0] (by decide) J (J) (.c J (.c J (.c J (.c J (.c J (.cons (Xw (by omega)) (.nil)))))))⟩ ?_
  rintro m_B _ ⟨c,hk_B,hp_B,rfl⟩
  obtain ⟨hc1,hc2,hfc⟩ := hp_B
  refine Qd (zy (z0 J (z0 J (z0 J (z7 J (by omega) (z8 J (by omega) (zx (q_quo J J J J (by omega)) J (zx (q_leq J J J J) J (zz ?_)))))))))
  refine Xb J (fun h6 => ?_) (fun h6 => ?_)
  ·have h6 := of_decide_eq_true h6
   refine Qh (Q0 (Qd (Qk (zy (z2 J J J (z3 J (z0 J (zx (Q2 J J J J (by omega) (by assumption) J) J (zx (Zu J J J J) J (z0 J ?_))))))))));refine zx (Zg J J J J (by omega)) J (zx (Zk J J J J) J (zz ?_))
   refine Xb J (fun h7 => ?_) (fun h7 => ?_)
   ·have h7 := of_decide_eq_true h7
    rw [Z9 ⟨(r : Int),(c : Int),hr1,by omega,hc1,by omega,wall_tile hrl h7⟩]
    refine zy (z1 J (zz (Xa (B_r (T_r (T_r (B_r (B_r (T_r ?_)))))))));refine T_r (B_r (T_r (F_r ?_)))
    exact Xp J J (X3 [] (by decide) J J J)
   ·have h7 := of_decide_eq_false h7
    refine Qh (Q1 (Q0 (Qc (z0 J (z7 J (by omega) (z1 J (zz ?_)))))))
    refine ⟨_,(by omega),_,⟨c + 1,J,⟨by omega,by omega,free_col hfc (no_wall hrl (by omega) h7)⟩,J⟩,W_gj [0] J⟩
  ·have h6 := of_decide_eq_false h6
   refine Q9 (T_x (T_x (Xl (Q1 (Q0 (Qc (z0 J (z7 J (by omega) (z1 J (zz ?_))))))))))
   refine ⟨_,(by omega),_,⟨r + 1,J,⟨by omega,by omega,free_row hfr hfc (by omega)⟩,J⟩,W_gj [0] J⟩
 ·have h5 := of_decide_eq_false h5
  rw [solidM_F (free_all hfr (by omega))]
  refine Q9 (T_x (T_x (Xl (Q0 (zy (z1 J (zz (Xa (F_r ?_)))))))))
  exact Xp J J (X3 [] (by decide) J J J)
theorem S_l02Solid (l : TLevel) (x y s : Int) (hl : levelOk l = true) (hx : I64 x) (hy : I64 y) (h1 : 1 ≤ s) (h16 : s ≤ 16) : Con Try.prog 83 [] [ag l,ai x,ai y,ai s] [] (B (solidM l x y s)) := by
 obtain ⟨hx1,hx2⟩ := hx
 obtain ⟨hy1,hy2⟩ := hy
 obtain ⟨f3,f12,w,w4,w20,hw⟩ := Yz hl
 have hlx := Yl l.Rows
 refine Con.of Try.func83 J Try.ntmps83 J (fun E => ?_)
 refine zy (M1 (Qq J J J J) J J (z1 J (zz (Qd (zy (z0 J ?_))))));refine zx (Qj J J (S_in x 0 1000) J) J ?_;refine zn J (z0 J ?_);refine zx (Qt.grdF J J J .stop (fun hgrd => Qa J J J)) J ?_;refine zx (Qt.grdF J J J (.hit .stop) (fun hgrd => Qj J J (S_in y 0 1000) J)) J ?_;refine zx (Qt.grdF J J J (.hit (.hit .stop)) (fun hgrd => Q4 J J J)) J ?_;refine zx (Zy J J J J) J (zz ?_)
 refine Xb J (fun h => ?_) (fun h => ?_)
 ·have h : ¬ (0 ≤ x ∧ x ≤ 1000) ∨ ¬ (0 ≤ y ∧ y ≤ 1000) := by
   rw [← Yy,← Yy]
   simpa using h
  rw [Z9 (out_hits hw h1 (by omega))]
  refine zy (z1 J (zz (Xa (T_r (F_r ?_)))))
  exact Xp J J (X3 [] (by decide) J J J)
 have h : (0 ≤ x ∧ x ≤ 1000) ∧ (0 ≤ y ∧ y ≤ 1000) := by
  rw [← Yy,← Yy]
  simpa using h
 refine Qh (Q0 (Qd (zy (z0 J (zx (q_quo J J J J (by omega)) J (z1 J (zz (Qk ?_))))))));refine A_lq (fun m__ st => ∃ (r : Nat),((y + s - 1) / 16 + 1).toNat - r = m__ ∧ (y / 16 ≤ r ∧ (r : Int) ≤ (y + s - 1) / 16 + 1 ∧ freeR l x s (y / 16) r) ∧ st = (⟨_,[(1,I x),(2,I y),(3,I s),(4,.o (.c (.ptr 0 0))),(9,I r)],[.box ((Enc.e l).map (V1.rd []))]⟩ : St)) _ ⟨(fun (r : Nat) => (⟨_,[(1,I x),(2,I y),(3,I s),(4,.o (.c (.ptr 0 0))),(9,I r)],[.box ((Enc.e l).map (V1.rd []))]⟩ : St)) ((y / 16).toNat),⟨(y / 16).toNat,J,⟨by omega,by omega,fun r c h1 h2 => by omega⟩,J⟩,X5 [0] (by decide) J (J) (.c J (.c J (.c J (.c J (.cons (Xw (by omega)) (.nil))))))⟩ ?_
 rintro m_A _ ⟨r,hk_A,hp_A,rfl⟩
 obtain ⟨hr1,hr2,hfr⟩ := hp_A
 refine Qd (zy (z0 J (z0 J (z0 J (z7 J (by omega) (z8 J (by omega) (zx (q_quo J J J J (by omega)) J (zx (q_leq J J J J) J (zz ?_)))))))))
 refine Xb J (fun h5 => ?_) (fun h5 => ?_)
 ·have h5 := of_decide_eq_true h5
  refine Qh (Q0 (Qd (Qk (zy (z0 J (zx (q_quo J J J J (by omega)) J (z1 J (zz (Qk ?_)))))))));refine A_lq (fun m__ st => ∃ (c : Nat),((x + s - 1) / 16 + 1).toNat - c = m__ ∧ (x / 16 ≤ c ∧ (c : Int) ≤ (x + s - 1) / 16 + 1 ∧ freeC l r (x / 16) c) ∧ st = (⟨_,[(1,I x),(2,I y),(3,I s),(4,.o (.c (.ptr 0 0))),(9,I r),(10,I c)],[.box ((Enc.e l).map (V1.rd []))]⟩ : St)) _ ⟨(fun (c : Nat) => (⟨_,[(1,I x),(2,I y),(3,I s),(4,.o (.c (.ptr 0 0))),(9,I r),(10,I c)],[.box ((Enc.e l).map (V1.rd []))]⟩ : St)) ((x / 16).toNat),⟨(x / 16).toNat,J,⟨by omega,by omega,fun c h1 h2 => by omega⟩,J⟩,X5 [0] (by decide) J (J) (.c J (.c J (.c J (.c J (.c J (.cons (Xw (by omega)) (.nil)))))))⟩ ?_
  rintro m_B _ ⟨c,hk_B,hp_B,rfl⟩
  obtain ⟨hc1,hc2,hfc⟩ := hp_B
  refine Qd (zy (z0 J (z0 J (z0 J (z7 J (by omega) (z8 J (by omega) (zx (q_quo J J J J (by omega)) J (zx (q_leq J J J J) J (zz ?_)))))))))
  refine Xb J (fun h6 => ?_) (fun h6 => ?_)
  ·have h6 := of_decide_eq_true h6
   by_cases hrl : r < l.Rows.length
   ·have hat := Yk hrl
    have hb : decide (((els l.Rows).length : Int) ≤ r) = false := decide_eq_false (by omega)
    by_cases hcl : c < (l.Rows[r]).size
    ·have hb2 : decide (((l.Rows[r]).size : Int) ≤ c) = false := decide_eq_false (by omega)
     by_cases h7 : byteAt (l.Rows[r]) c = 35
     ·have hb3 : decide (byteAt (l.Rows[r]) (c : Int).toNat = 35) = true := decide_eq_true h7
      rw [Z9 ⟨(r : Int),(c : Int),hr1,by omega,hc1,by omega,wall_tile hrl h7⟩]
      refine Qh (Q0 (Qd (Qk (zy (z0 J (z2 J J J (z3 J (zx (Zq J J J) J (z9d J (by assumption) (z0 J ?_))))))))));refine z5 J (z0 J (z5 J (z2 J J J (z5 J (z3 J (z5 J (z0 J (z5 J (zx (Q2 J J J J (by omega) (by assumption) J) J (z5 J (zx (Zu J J J J) J ?_)))))))))));refine z5 J (zx (Zs J J J) J (z5 J (z9d J (by assumption) (zpF J (z0 J (z5 J (z2 J J J (z5 J (z3 J (z5 J (z0 J ?_)))))))))));refine z5 J (zx (Q2 J J J J (by omega) (by assumption) J) J (z5 J (zx (Zu J J J J) J (z5 J (z0 J (z5 J (zx (Zh J J J J (by assumption) (by omega)) J (z5 J ?_))))))));refine zx (Qv (b := true) J J J J (by decide)) J ?_;refine zpF J (zz (Qm J (zy (z1 J (zz (Xa (B_r (T_r ?_))))))));refine T_r (B_r (B_r (T_r (T_r (B_r (T_r (F_r ?_)))))))
      exact Xp J J (X3 [] (by decide) J J J)
     ·have hb3 : decide (byteAt (l.Rows[r]) (c : Int).toNat = 35) = false := decide_eq_false h7
      refine Qh (Q0 (Qd (Qk (zy (z0 J (z2 J J J (z3 J (zx (Zq J J J) J (z9d J (by assumption) (z0 J ?_))))))))));refine z5 J (z0 J (z5 J (z2 J J J (z5 J (z3 J (z5 J (z0 J (z5 J (zx (Q2 J J J J (by omega) (by assumption) J) J (z5 J (zx (Zu J J J J) J ?_)))))))))));refine z5 J (zx (Zs J J J) J (z5 J (z9d J (by assumption) (zpF J (z0 J (z5 J (z2 J J J (z5 J (z3 J (z5 J (z0 J ?_)))))))))));refine z5 J (zx (Q2 J J J J (by omega) (by assumption) J) J (z5 J (zx (Zu J J J J) J (z5 J (z0 J (z5 J (zx (Zg J J J J (by omega)) J (z5 J (z9e J (by assumption) (zpF J (Qe ?_)))))))))));refine Q0 (Ql J (Qh (Q1 (Q0 (Qc (z0 J (z7 J (by omega) (z1 J (zz ?_)))))))))
      refine ⟨_,(by omega),_,⟨c + 1,J,⟨by omega,by omega,free_col hfc (no_wall hrl hcl h7)⟩,J⟩,W_gj [0] J⟩
    ·have hb2 : decide (((l.Rows[r]).size : Int) ≤ c) = true := decide_eq_true (by omega)
     rw [Z9 ⟨(r : Int),(c : Int),hr1,by omega,hc1,by omega,fun q hq e g0 g1 => by have : q = r := (by omega); subst this; omega⟩]
     refine Qh (Q0 (Qd (Qk (zy (z0 J (z2 J J J (z3 J (zx (Zq J J J) J (z9d J (by assumption) (z0 J ?_))))))))));refine z5 J (z0 J (z5 J (z2 J J J (z5 J (z3 J (z5 J (z0 J (z5 J (zx (Q2 J J J J (by omega) (by assumption) J) J (z5 J (zx (Zu J J J J) J ?_)))))))))));refine z5 J (zx (Zs J J J) J (z5 J (z9d J (by assumption) (zpF J (z0 J (z6 J (z6 J (z6 J (z6 J (z6 J (z6 J ?_)))))))))));refine z6 J (z6 J (zpT J (zz (Qm J (zy (z1 J (zz (Xa ?_))))))));refine B_r (T_r (T_r (B_r (B_r (T_r (T_r (B_r (T_r (F_r ?_)))))))))
     exact Xp J J (X3 [] (by decide) J J J)
   ·have hb : decide (((els l.Rows).length : Int) ≤ r) = true := decide_eq_true (by omega)
    rw [Z9 ⟨(r : Int),(c : Int),hr1,by omega,hc1,by omega,fun q hq e g0 g1 => by omega⟩]
    refine Qh (Q0 (Qd (Qk (zy (z0 J (z2 J J J (z3 J (zx (Zq J J J) J (z9d J (by assumption) (z0 J ?_))))))))));refine z6 J (z6 J (z6 J (z6 J (z6 J (z6 J (z6 J (z6 J (zpT J (z0 J (z6 J (z6 J ?_)))))))))));refine z6 J (z6 J (z6 J (z6 J (z6 J (z6 J (zpT J (zz (Qm J (zy ?_)))))))));refine z1 J (zz (Xa (B_r (T_r (T_r (B_r (B_r (T_r (T_r (B_r ?_))))))))));refine T_r (F_r ?_)
    exact Xp J J (X3 [] (by decide) J J J)
  ·have h6 := of_decide_eq_false h6
   refine Q9 (T_x (T_x (Xl (Q1 (Q0 (Qc (z0 J (z7 J (by omega) (z1 J (zz ?_))))))))))
   refine ⟨_,(by omega),_,⟨r + 1,J,⟨by omega,by omega,free_row hfr hfc (by omega)⟩,J⟩,W_gj [0] J⟩
 ·have h5 := of_decide_eq_false h5
  rw [solidM_F (free_all hfr (by omega))]
  refine Q9 (T_x (T_x (Xl (Q0 (zy (z1 J (zz (Xa (F_r ?_)))))))))
  exact Xp J J (X3 [] (by decide) J J J)
noncomputable def solidAt (l : TLevel) (x y s : Int) : Bool := (!inR s 1 16 || !levelOk l) || solidM l x y s
theorem I_SolidAt (l : TLevel) (x y s : Int) (hg : Enc.gd l) (hx : I64 x) (hy : I64 y) : Con Try.prog 67 [] [ag l,ai x,ai y,ai s] [] (B (solidAt l x y s)) := by
 have hc := Xu l hg
 by_cases hs : ¬ (1 ≤ s ∧ s ≤ 16)
 ·have hf : inR s 1 16 = false := by rw [← Bool.not_eq_true,Yy]; exact hs
  rw [show solidAt l x y s = true by rw [solidAt,hf]; rfl]
  refine Con.of Try.func67 J Try.ntmps67 J (fun E => ?_)
  refine zy (M1 (Qq J J J J) J J (z1 J (zz (Qd (zy (z0 J (zx (Zv J J J J) J (z0 J ?_))))))));refine zx (Qt.grdF J J J .stop (fun hgrd => Qa J J J)) J ?_;refine zx (Qt.grdF J J J (.hit .stop) (fun hgrd => Zo J J J J)) J ?_;refine zx (Zy J J J J) J (z0 J ?_);refine zx (Qt.grdF J J J .stop (fun hgrd => Qu J J J J J J)) J ?_;refine zx (Qt.grdF J J J (.hit .stop) (fun hgrd => Qj J J (hc) J)) J ?_;refine zx (Qt.grdF J J J (.hit (.hit .stop)) (fun hgrd => Q4 J J J)) J ?_;refine zx (Zy J J J J) J (zz ?_)
  refine Xb J (fun h => ?_) (fun h => ?_)
  ·refine zy (z1 rfl (zz (Xa (T_r (F_r ?_)))))
   exact Xp J J (X3 [] (by decide) J J J)
  ·simp only [Bool.or_eq_false_iff,decide_eq_false_iff_not] at h
   omega
 have hs := Classical.not_not.1 hs
 have hb1 : decide (s < 1) = false := decide_eq_false (by omega)
 have hb2 : decide (16 < s) = false := decide_eq_false (by omega)
 cases ho : levelOk l with
 | false =>
  rw [ho] at hc
  rw [show solidAt l x y s = true by rw [solidAt,ho]; simp]
  refine Con.of Try.func67 J Try.ntmps67 J (fun E => ?_)
  refine zy (M1 (Qq J J J J) J J (z1 J (zz (Qd (zy (z0 J (z9a J (by assumption) (z0 J ?_))))))));refine z5 J (z0 J (z5 J (z9c J (by assumption) (zpF J (z0 J (z5 J (z4 J J J (z5 J ?_))))))));refine zx (Qj J J (hc) J) J ?_;refine z5 J (zn J (zpF J (zz (Qm J (zy (z1 J (zz (Xa ?_))))))));refine T_r (F_r ?_)
  exact Xp J J (X3 [] (by decide) J J J)
 | true =>
  rw [ho] at hc
  rw [show solidAt l x y s = solidM l x y s by rw [solidAt,ho,Yy.2 hs]; rfl]
  have hd := I_solid l x y s ho hx hy hs.1 hs.2
  refine Con.of Try.func67 J Try.ntmps67 J (fun E => ?_)
  refine zy (M1 (Qq J J J J) J J (z1 J (zz (Qd (zy (z0 J (z9a J (by assumption) (z0 J ?_))))))));refine z5 J (z0 J (z5 J (z9c J (by assumption) (zpF J (z0 J (z5 J (z4 J J J (z5 J ?_))))))));refine zx (Qj J J (hc) J) J ?_;refine z5 J (zn J (zpF J (zz (Ql J (Qh (Q0 (zy (z4 J J J (z0 J ?_)))))))));refine z0 J (z0 J ?_);refine zx (Qj J J (hd) J) J ?_;refine z1 J (zz (Xa (F_r ?_)))
  exact Xp J J (X3 [] (by decide) J J J)
end
section
open Go.RowKit

def tailM (b : TBody) : Bool :=
 if b.Kind = 0 then (decide (b.Aim = 1 ∨ b.Aim = -1) && inR b.Life 0 3) && (if b.Life = 0 then inR b.Timer 1 20 else inR b.Timer 0 12)
 else if b.Kind = 1 then decide (b.Aim = 0 ∧ b.Life = 0) && inR b.Timer 1 25
 else decide (b.Owner = 0 ∧ b.Aim = 0 ∧ b.Life = 0 ∧ b.Timer = 0)
noncomputable def bodyM (l : TLevel) (n : Int) (b : TBody) : Bool :=
 inR b.Kind 0 2 && (inR b.Owner 0 (n - 1) && (!solidM l b.X b.Y (sizeOf b.Kind) && (inR b.VX (-15) 15 && (inR b.VY (-15) 15 && tailM b))))
theorem size_in {k : Int} (h : inR k 0 2 = true) : 1 ≤ sizeOf k ∧ sizeOf k ≤ 16 := by
 have := Yy.1 h
 unfold sizeOf
 split
 ·omega
 ·split
  ·omega
  ·split <;> omega
theorem S_l02Body (l : TLevel) (n : Int) (b : TBody) (hg : Enc.gd l) (hl : levelOk l = true) (hb : Enc.gd b) (hn : 0 ≤ n ∧ n ≤ 1099511627776) : Con Try.prog 65 [] [ag l,ai n,ag b] [] (B (bodyM l n b)) := by
 obtain ⟨b1,b2,b3,b4,b5,b6,b7,b8,b9⟩ := hb
 have h1 := S_in b.Kind 0 2
 have hsz := S_SizeOf b.Kind
 have h2 := S_in b.Owner 0 (n - 1)
 have h4 := S_in b.VX (-15) 15
 have h5 := S_in b.VY (-15) 15
 cases e1 : inR b.Kind 0 2 with
 | false =>
  rw [e1] at h1
  rw [show bodyM l n b = false by rw [bodyM,e1]; rfl]
  refine Con.of Try.func65 J Try.ntmps65 J (fun E => ?_)
  refine zy (M1 (Qq J J J J) J J (M1 (Qq J J J J) J J (z1 J (zz (Qd (Qd (Xi u8_0 u8_1 u8_2 J (DR.s (Qf J J J J (by decide)) J J (DR.s (Qg J J J J J) J J ?_)))))))));refine DR.s (Qj J J (h1) J) J J ?_;refine DR.s (Q4 J J J) J J (DR.s (Qa J J J) J J (DR.s (Qt.no J J J J) J J (DR.s (Qt.no J J J J) J J (DR.s (Qt.no J J J J) J J (DR.s (Qt.no J J J J) J J (DR.s (Qt.no J J J J) J J (DR.s (Qt.no J J J J) J J (DR.s (Qo J J J J) J J (DR.s (Qa J J J) J J (DR.s (Qt.no J J J J) J J (DR.s (Qt.no J J J J) J J ?_)))))))))));refine DR.s (Qt.no J J J J) J J (DR.s (Qt.no J J J J) J J (DR.s (Qt.no J J J J) J J (DR.s (Qt.no J J J J) J J (DR.s (Qt.no J J J J) J J (DR.s (Qt.no J J J J) J J (DR.s (Qt.no J J J J) J J (DR.s (Qo J J J J) J J (DR.s (Qa J J J) J J (DR.s (Qt.no J J J J) J J (DR.s (Qt.no J J J J) J J (DR.s (Qt.no J J J J) J J ?_)))))))))));refine DR.s (Qt.no J J J J) J J (DR.s (Qo J J J J) J J (DR.s (Qa J J J) J J (DR.s (Qt.no J J J J) J J (DR.s (Qt.no J J J J) J J (DR.s (Qt.no J J J J) J J (DR.s (Qt.no J J J J) J J (DR.s (Qo J J J J) J J (DR.stop (by kernel_rfl) (by kernel_rfl) (zz (Qm J ?_))))))))));refine zy (z1 J (zz (Xa (T_r (F_r ?_)))))
  exact Xp J J (X3 [] (by decide) J J J)
 | true =>
  rw [e1] at h1
  cases e2 : inR b.Owner 0 (n - 1) with
  | false =>
   rw [e2] at h2
   rw [show bodyM l n b = false by rw [bodyM,e1,e2]; rfl]
   refine Con.of Try.func65 J Try.ntmps65 J (fun E => ?_)
   refine zy (M1 (Qq J J J J) J J (M1 (Qq J J J J) J J (z1 J (zz (Qd (Qd (Xi u8_0 u8_1 u8_2 J (DR.s (Qf J J J J (by decide)) J J (DR.s (Qg J J J J J) J J ?_)))))))));refine DR.s (Qj J J (h1) J) J J ?_;refine DR.s (Q4 J J J) J J (DR.s (Qa J J J) J J (DR.s (Qt.yes J J J (Qf J J J J (by decide))) J J (DR.s (Qt.yes J J J (Qg J J J J J)) J J (DR.s (Qt.yes J J J (Qa J J J)) J J (DR.s (Qt.yes J J J (Xc J J J J (by omega))) J J ?_)))));refine DR.s (Qt.yes J J J (Qj J J (h2) J)) J J ?_;refine DR.s (Qt.yes J J J (Q4 J J J)) J J (DR.s (Qn J J J J) J J (DR.s (Qa J J J) J J (DR.s (Qt.no J J J J) J J (DR.s (Qt.no J J J J) J J (DR.s (Qt.no J J J J) J J (DR.s (Qt.no J J J J) J J (DR.s (Qt.no J J J J) J J (DR.s (Qt.no J J J J) J J (DR.s (Qt.no J J J J) J J (DR.s (Qt.no J J J J) J J (DR.s (Qt.no J J J J) J J ?_)))))))))));refine DR.s (Qo J J J J) J J (DR.s (Qa J J J) J J (DR.s (Qt.no J J J J) J J (DR.s (Qt.no J J J J) J J (DR.s (Qt.no J J J J) J J (DR.s (Qt.no J J J J) J J (DR.s (Qo J J J J) J J (DR.s (Qa J J J) J J (DR.s (Qt.no J J J J) J J (DR.s (Qt.no J J J J) J J (DR.s (Qt.no J J J J) J J (DR.s (Qt.no J J J J) J J ?_)))))))))));refine DR.s (Qo J J J J) J J (DR.stop (by kernel_rfl) (by kernel_rfl) (zz (Qm J (zy (z1 J (zz (Xa (T_r ?_))))))));refine F_r ?_
   exact Xp J J (X3 [] (by decide) J J J)
  | true =>
   rw [e2] at h2
   have hs16 := size_in e1
   have h3 := S_l02Solid l b.X b.Y (sizeOf b.Kind) hl b3 b4 hs16.1 hs16.2
   cases e3 : solidM l b.X b.Y (sizeOf b.Kind) with
   | true =>
    rw [e3] at h3
    rw [show bodyM l n b = false by rw [bodyM,e1,e2,e3]; rfl]
    refine Con.of Try.func65 J Try.ntmps65 J (fun E => ?_)
    refine zy (M1 (Qq J J J J) J J (M1 (Qq J J J J) J J (z1 J (zz (Qd (Qd (Xi u8_0 u8_1 u8_2 J (DR.s (Qf J J J J (by decide)) J J (DR.s (Qg J J J J J) J J ?_)))))))));refine DR.s (Qj J J (h1) J) J J ?_;refine DR.s (Q4 J J J) J J (DR.s (Qa J J J) J J (DR.s (Qt.yes J J J (Qf J J J J (by decide))) J J (DR.s (Qt.yes J J J (Qg J J J J J)) J J (DR.s (Qt.yes J J J (Qa J J J)) J J (DR.s (Qt.yes J J J (Xc J J J J (by omega))) J J ?_)))));refine DR.s (Qt.yes J J J (Qj J J (h2) J)) J J ?_;refine DR.s (Qt.yes J J J (Q4 J J J)) J J (DR.s (Qn J J J J) J J (DR.s (Qa J J J) J J (DR.s (Qt.yes J J J (Qu J J J J J J)) J J (DR.s (Qt.yes J J J (Qf J J J J (by decide))) J J (DR.s (Qt.yes J J J (Qg J J J J J)) J J (DR.s (Qt.yes J J J (Qf J J J J (by decide))) J J (DR.s (Qt.yes J J J (Qg J J J J J)) J J (DR.s (Qt.yes J J J (Qf J J J J (by decide))) J J (DR.s (Qt.yes J J J (Qg J J J J J)) J J ?_)))))))));refine DR.s (Qt.yes J J J (Qj J J (hsz) J)) J J ?_;refine DR.s (Qt.yes J J J (Qj J J (h3) J)) J J ?_;refine DR.s (Qn J J J J) J J (DR.s (Qa J J J) J J (DR.s (Qt.no J J J J) J J (DR.s (Qt.no J J J J) J J (DR.s (Qt.no J J J J) J J (DR.s (Qt.no J J J J) J J (DR.s (Qo J J J J) J J (DR.s (Qa J J J) J J (DR.s (Qt.no J J J J) J J (DR.s (Qt.no J J J J) J J (DR.s (Qt.no J J J J) J J (DR.s (Qt.no J J J J) J J ?_)))))))))));refine DR.s (Qo J J J J) J J (DR.stop (by kernel_rfl) (by kernel_rfl) (zz (Qm J (zy (z1 J (zz (Xa (T_r ?_))))))));refine F_r ?_
    exact Xp J J (X3 [] (by decide) J J J)
   | false =>
    rw [e3] at h3
    cases e4 : inR b.VX (-15) 15 with
    | false =>
     rw [e4] at h4
     rw [show bodyM l n b = false by rw [bodyM,e1,e2,e3,e4]; rfl]
     refine Con.of Try.func65 J Try.ntmps65 J (fun E => ?_)
     refine zy (M1 (Qq J J J J) J J (M1 (Qq J J J J) J J (z1 J (zz (Qd (Qd (Xi u8_0 u8_1 u8_2 J (DR.s (Qf J J J J (by decide)) J J (DR.s (Qg J J J J J) J J ?_)))))))));refine DR.s (Qj J J (h1) J) J J ?_;refine DR.s (Q4 J J J) J J (DR.s (Qa J J J) J J (DR.s (Qt.yes J J J (Qf J J J J (by decide))) J J (DR.s (Qt.yes J J J (Qg J J J J J)) J J (DR.s (Qt.yes J J J (Qa J J J)) J J (DR.s (Qt.yes J J J (Xc J J J J (by omega))) J J ?_)))));refine DR.s (Qt.yes J J J (Qj J J (h2) J)) J J ?_;refine DR.s (Qt.yes J J J (Q4 J J J)) J J (DR.s (Qn J J J J) J J (DR.s (Qa J J J) J J (DR.s (Qt.yes J J J (Qu J J J J J J)) J J (DR.s (Qt.yes J J J (Qf J J J J (by decide))) J J (DR.s (Qt.yes J J J (Qg J J J J J)) J J (DR.s (Qt.yes J J J (Qf J J J J (by decide))) J J (DR.s (Qt.yes J J J (Qg J J J J J)) J J (DR.s (Qt.yes J J J (Qf J J J J (by decide))) J J (DR.s (Qt.yes J J J (Qg J J J J J)) J J ?_)))))))));refine DR.s (Qt.yes J J J (Qj J J (hsz) J)) J J ?_;refine DR.s (Qt.yes J J J (Qj J J (h3) J)) J J ?_;refine DR.s (Qn J J J J) J J (DR.s (Qa J J J) J J (DR.s (Qt.yes J J J (Qf J J J J (by decide))) J J (DR.s (Qt.yes J J J (Qg J J J J J)) J J ?_)));refine DR.s (Qt.yes J J J (Qj J J (h4) J)) J J ?_;refine DR.s (Qt.yes J J J (Q4 J J J)) J J (DR.s (Qn J J J J) J J (DR.s (Qa J J J) J J (DR.s (Qt.no J J J J) J J (DR.s (Qt.no J J J J) J J (DR.s (Qt.no J J J J) J J (DR.s (Qt.no J J J J) J J (DR.s (Qo J J J J) J J (DR.stop (by kernel_rfl) (by kernel_rfl) (zz (Qm J ?_))))))))));refine zy (z1 J (zz (Xa (T_r (F_r ?_)))))
     exact Xp J J (X3 [] (by decide) J J J)
    | true =>
     rw [e4] at h4
     cases e5 : inR b.VY (-15) 15 with
     | false =>
      rw [e5] at h5
      rw [show bodyM l n b = false by rw [bodyM,e1,e2,e3,e4,e5]; rfl]
      refine Con.of Try.func65 J Try.ntmps65 J (fun E => ?_)
      refine zy (M1 (Qq J J J J) J J (M1 (Qq J J J J) J J (z1 J (zz (Qd (Qd (Xi u8_0 u8_1 u8_2 J (DR.s (Qf J J J J (by decide)) J J (DR.s (Qg J J J J J) J J ?_)))))))));refine DR.s (Qj J J (h1) J) J J ?_;refine DR.s (Q4 J J J) J J (DR.s (Qa J J J) J J (DR.s (Qt.yes J J J (Qf J J J J (by decide))) J J (DR.s (Qt.yes J J J (Qg J J J J J)) J J (DR.s (Qt.yes J J J (Qa J J J)) J J (DR.s (Qt.yes J J J (Xc J J J J (by omega))) J J ?_)))));refine DR.s (Qt.yes J J J (Qj J J (h2) J)) J J ?_;refine DR.s (Qt.yes J J J (Q4 J J J)) J J (DR.s (Qn J J J J) J J (DR.s (Qa J J J) J J (DR.s (Qt.yes J J J (Qu J J J J J J)) J J (DR.s (Qt.yes J J J (Qf J J J J (by decide))) J J (DR.s (Qt.yes J J J (Qg J J J J J)) J J (DR.s (Qt.yes J J J (Qf J J J J (by decide))) J J (DR.s (Qt.yes J J J (Qg J J J J J)) J J (DR.s (Qt.yes J J J (Qf J J J J (by decide))) J J (DR.s (Qt.yes J J J (Qg J J J J J)) J J ?_)))))))));refine DR.s (Qt.yes J J J (Qj J J (hsz) J)) J J ?_;refine DR.s (Qt.yes J J J (Qj J J (h3) J)) J J ?_;refine DR.s (Qn J J J J) J J (DR.s (Qa J J J) J J (DR.s (Qt.yes J J J (Qf J J J J (by decide))) J J (DR.s (Qt.yes J J J (Qg J J J J J)) J J ?_)));refine DR.s (Qt.yes J J J (Qj J J (h4) J)) J J ?_;refine DR.s (Qt.yes J J J (Q4 J J J)) J J (DR.s (Qn J J J J) J J (DR.s (Qa J J J) J J (DR.s (Qt.yes J J J (Qf J J J J (by decide))) J J (DR.s (Qt.yes J J J (Qg J J J J J)) J J ?_))));refine DR.s (Qt.yes J J J (Qj J J (h5) J)) J J ?_;refine DR.s (Qt.yes J J J (Q4 J J J)) J J (DR.s (Qn J J J J) J J (DR.stop (by kernel_rfl) (by kernel_rfl) (zz (Qm J (zy (z1 J (zz (Xa ?_))))))));refine T_r (F_r ?_)
      exact Xp J J (X3 [] (by decide) J J J)
     | true =>
      rw [e5] at h5
      rw [show bodyM l n b = tailM b by rw [bodyM,e1,e2,e3,e4,e5]; rfl]
      by_cases k0 : b.Kind = 0
      ·have hk : decide (b.Kind = 0) = true := decide_eq_true k0
       refine Con.of Try.func65 J Try.ntmps65 J (fun E => ?_)
       refine zy (M1 (Qq J J J J) J J (M1 (Qq J J J J) J J (z1 J (zz (Qd (Qd (Xi u8_0 u8_1 u8_2 J (DR.s (Qf J J J J (by decide)) J J (DR.s (Qg J J J J J) J J ?_)))))))));refine DR.s (Qj J J (h1) J) J J ?_;refine DR.s (Q4 J J J) J J (DR.s (Qa J J J) J J (DR.s (Qt.yes J J J (Qf J J J J (by decide))) J J (DR.s (Qt.yes J J J (Qg J J J J J)) J J (DR.s (Qt.yes J J J (Qa J J J)) J J (DR.s (Qt.yes J J J (Xc J J J J (by omega))) J J ?_)))));refine DR.s (Qt.yes J J J (Qj J J (h2) J)) J J ?_;refine DR.s (Qt.yes J J J (Q4 J J J)) J J (DR.s (Qn J J J J) J J (DR.s (Qa J J J) J J (DR.s (Qt.yes J J J (Qu J J J J J J)) J J (DR.s (Qt.yes J J J (Qf J J J J (by decide))) J J (DR.s (Qt.yes J J J (Qg J J J J J)) J J (DR.s (Qt.yes J J J (Qf J J J J (by decide))) J J (DR.s (Qt.yes J J J (Qg J J J J J)) J J (DR.s (Qt.yes J J J (Qf J J J J (by decide))) J J (DR.s (Qt.yes J J J (Qg J J J J J)) J J ?_)))))))));refine DR.s (Qt.yes J J J (Qj J J (hsz) J)) J J ?_;refine DR.s (Qt.yes J J J (Qj J J (h3) J)) J J ?_;refine DR.s (Qn J J J J) J J (DR.s (Qa J J J) J J (DR.s (Qt.yes J J J (Qf J J J J (by decide))) J J (DR.s (Qt.yes J J J (Qg J J J J J)) J J ?_)));refine DR.s (Qt.yes J J J (Qj J J (h4) J)) J J ?_;refine DR.s (Qt.yes J J J (Q4 J J J)) J J (DR.s (Qn J J J J) J J (DR.s (Qa J J J) J J (DR.s (Qt.yes J J J (Qf J J J J (by decide))) J J (DR.s (Qt.yes J J J (Qg J J J J J)) J J ?_))));refine DR.s (Qt.yes J J J (Qj J J (h5) J)) J J ?_;refine DR.s (Qt.yes J J J (Q4 J J J)) J J (DR.s (Qn J J J J) J J (DR.stop (by kernel_rfl) (by kernel_rfl) (zz (Ql J (Qh (Q0 (Qd (zy (z2 J J J ?_)))))))));refine z3 J (zz (Qk (zy (z9e J (by assumption) (z1 J (zz (Qm J (Qd ?_))))))));refine zy (z2 J J J (z3 J (zx (Zx J J J J) J (z0 J ?_))));refine zx (Qt.grdT J J J .stop (fun hgrd => Qf J J J J (by decide))) J ?_;refine zx (Qt.grdT J J J (.hit .stop) (fun hgrd => Qg J J J J J)) J ?_;refine zx (Qt.grdT J J J (.hit (.hit .stop)) (fun hgrd => Zx J J J J)) J ?_;refine zx (Za J J J J) J (z0 J ?_);refine zx (Qt.grdF J J J .stop (fun hgrd => Qf J J J J (by decide))) J ?_;refine zx (Qt.grdF J J J (.hit .stop) (fun hgrd => Qg J J J J J)) J ?_;refine zx (Qt.grdF J J J (.hit (.hit .stop)) (fun hgrd => Qj J J (S_in b.Life 0 3) J)) J ?_;refine zx (Qt.grdF J J J (.hit (.hit (.hit .stop))) (fun hgrd => Q4 J J J)) J ?_;refine zx (Zy J J J J) J (zz ?_)
       refine Xb J (fun h => ?_) (fun h => ?_)
       ·rw [show tailM b = false by
         rw [tailM,if_pos k0]
         simp only [Bool.or_eq_true,Bool.and_eq_true,decide_eq_true_eq,Bool.not_eq_true'] at h
         rcases h with h | h
         ·rw [decide_eq_false (by omega)]; rfl
         ·rw [h]; simp]
        refine zy (z1 J (zz (Xa (T_r (B_r (T_r (F_r ?_)))))))
        exact Xp J J (X3 [] (by decide) J J J)
       simp only [Bool.or_eq_false_iff,Bool.and_eq_false_iff,decide_eq_false_iff_not,Bool.not_eq_false'] at h
       have ht : tailM b = if b.Life = 0 then inR b.Timer 1 20 else inR b.Timer 0 12 := by
        rw [tailM,if_pos k0,decide_eq_true (by omega),h.2]; rfl
       by_cases l0 : b.Life = 0
       ·have hk2 : decide (b.Life = 0) = true := decide_eq_true l0
        rw [ht,if_pos l0]
        refine Qh (Q0 (Qd (zy (z2 J J J (z3 J (z9e J (by assumption) (zz (Qm J (Qd ?_)))))))));refine Qc (z2 J J J (z3 J ?_));refine zx (Qj J J (S_in b.Timer 1 20) J) J ?_;refine z1 J (zz (Xa (T_r (B_r (T_r (F_r ?_))))))
        exact Xp J J (X3 [] (by decide) J J J)
       ·have hk2 : decide (b.Life = 0) = false := decide_eq_false l0
        rw [ht,if_neg l0]
        refine Qh (Q0 (Qd (zy (z2 J J J (z3 J (z9e J (by assumption) (zz (Ql J (Qh ?_)))))))));refine Q0 (zy (z2 J J J (z3 J ?_)));refine zx (Qj J J (S_in b.Timer 0 12) J) J ?_;refine z1 J (zz (Xa (B_r (T_r (F_r ?_)))))
        exact Xp J J (X3 [] (by decide) J J J)
      have hk : decide (b.Kind = 0) = false := decide_eq_false k0
      by_cases k1 : b.Kind = 1
      ·have hk1 : decide (b.Kind = 1) = true := decide_eq_true k1
       refine Con.of Try.func65 J Try.ntmps65 J (fun E => ?_)
       refine zy (M1 (Qq J J J J) J J (M1 (Qq J J J J) J J (z1 J (zz (Qd (Qd (Xi u8_0 u8_1 u8_2 J (DR.s (Qf J J J J (by decide)) J J (DR.s (Qg J J J J J) J J ?_)))))))));refine DR.s (Qj J J (h1) J) J J ?_;refine DR.s (Q4 J J J) J J (DR.s (Qa J J J) J J (DR.s (Qt.yes J J J (Qf J J J J (by decide))) J J (DR.s (Qt.yes J J J (Qg J J J J J)) J J (DR.s (Qt.yes J J J (Qa J J J)) J J (DR.s (Qt.yes J J J (Xc J J J J (by omega))) J J ?_)))));refine DR.s (Qt.yes J J J (Qj J J (h2) J)) J J ?_;refine DR.s (Qt.yes J J J (Q4 J J J)) J J (DR.s (Qn J J J J) J J (DR.s (Qa J J J) J J (DR.s (Qt.yes J J J (Qu J J J J J J)) J J (DR.s (Qt.yes J J J (Qf J J J J (by decide))) J J (DR.s (Qt.yes J J J (Qg J J J J J)) J J (DR.s (Qt.yes J J J (Qf J J J J (by decide))) J J (DR.s (Qt.yes J J J (Qg J J J J J)) J J (DR.s (Qt.yes J J J (Qf J J J J (by decide))) J J (DR.s (Qt.yes J J J (Qg J J J J J)) J J ?_)))))))));refine DR.s (Qt.yes J J J (Qj J J (hsz) J)) J J ?_;refine DR.s (Qt.yes J J J (Qj J J (h3) J)) J J ?_;refine DR.s (Qn J J J J) J J (DR.s (Qa J J J) J J (DR.s (Qt.yes J J J (Qf J J J J (by decide))) J J (DR.s (Qt.yes J J J (Qg J J J J J)) J J ?_)));refine DR.s (Qt.yes J J J (Qj J J (h4) J)) J J ?_;refine DR.s (Qt.yes J J J (Q4 J J J)) J J (DR.s (Qn J J J J) J J (DR.s (Qa J J J) J J (DR.s (Qt.yes J J J (Qf J J J J (by decide))) J J (DR.s (Qt.yes J J J (Qg J J J J J)) J J ?_))));refine DR.s (Qt.yes J J J (Qj J J (h5) J)) J J ?_;refine DR.s (Qt.yes J J J (Q4 J J J)) J J (DR.s (Qn J J J J) J J (DR.stop (by kernel_rfl) (by kernel_rfl) (zz (Ql J (Qh (Q0 (Qd (zy (z2 J J J ?_)))))))));refine z3 J (zz (Qk (zy (z9e J (by assumption) (z1 J (zz (Ql J (Qd ?_))))))));refine Qc (z9e J (by assumption) (z1 J (zz (Qm J (zy (z2 J J J (z3 J (zx (Zk J J J J) J (z0 J ?_)))))))));refine zx (Qt.grdT J J J .stop (fun hgrd => Qf J J J J (by decide))) J ?_;refine zx (Qt.grdT J J J (.hit .stop) (fun hgrd => Qg J J J J J)) J ?_;refine zx (Qt.grdT J J J (.hit (.hit .stop)) (fun hgrd => Zk J J J J)) J ?_;refine zx (Za J J J J) J (z0 J ?_);refine zx (Qt.grdT J J J .stop (fun hgrd => Qf J J J J (by decide))) J ?_;refine zx (Qt.grdT J J J (.hit .stop) (fun hgrd => Qg J J J J J)) J ?_;refine zx (Qt.grdT J J J (.hit (.hit .stop)) (fun hgrd => Qj J J (S_in b.Timer 1 25) J)) J ?_;refine zx (Za J J J J) J (z1 J (zz (Xa (B_r (T_r (F_r ?_))))))
       exact Xp J J (X3 [] (by decide) J J (Xk (by rw [tailM,if_neg k0,if_pos k1,← Bool.decide_and])))
      ·have hk1 : decide (b.Kind = 1) = false := decide_eq_false k1
       refine Con.of Try.func65 J Try.ntmps65 J (fun E => ?_)
       refine zy (M1 (Qq J J J J) J J (M1 (Qq J J J J) J J (z1 J (zz (Qd (Qd (Xi u8_0 u8_1 u8_2 J (DR.s (Qf J J J J (by decide)) J J (DR.s (Qg J J J J J) J J ?_)))))))));refine DR.s (Qj J J (h1) J) J J ?_;refine DR.s (Q4 J J J) J J (DR.s (Qa J J J) J J (DR.s (Qt.yes J J J (Qf J J J J (by decide))) J J (DR.s (Qt.yes J J J (Qg J J J J J)) J J (DR.s (Qt.yes J J J (Qa J J J)) J J (DR.s (Qt.yes J J J (Xc J J J J (by omega))) J J ?_)))));refine DR.s (Qt.yes J J J (Qj J J (h2) J)) J J ?_;refine DR.s (Qt.yes J J J (Q4 J J J)) J J (DR.s (Qn J J J J) J J (DR.s (Qa J J J) J J (DR.s (Qt.yes J J J (Qu J J J J J J)) J J (DR.s (Qt.yes J J J (Qf J J J J (by decide))) J J (DR.s (Qt.yes J J J (Qg J J J J J)) J J (DR.s (Qt.yes J J J (Qf J J J J (by decide))) J J (DR.s (Qt.yes J J J (Qg J J J J J)) J J (DR.s (Qt.yes J J J (Qf J J J J (by decide))) J J (DR.s (Qt.yes J J J (Qg J J J J J)) J J ?_)))))))));refine DR.s (Qt.yes J J J (Qj J J (hsz) J)) J J ?_;refine DR.s (Qt.yes J J J (Qj J J (h3) J)) J J ?_;refine DR.s (Qn J J J J) J J (DR.s (Qa J J J) J J (DR.s (Qt.yes J J J (Qf J J J J (by decide))) J J (DR.s (Qt.yes J J J (Qg J J J J J)) J J ?_)));refine DR.s (Qt.yes J J J (Qj J J (h4) J)) J J ?_;refine DR.s (Qt.yes J J J (Q4 J J J)) J J (DR.s (Qn J J J J) J J (DR.s (Qa J J J) J J (DR.s (Qt.yes J J J (Qf J J J J (by decide))) J J (DR.s (Qt.yes J J J (Qg J J J J J)) J J ?_))));refine DR.s (Qt.yes J J J (Qj J J (h5) J)) J J ?_;refine DR.s (Qt.yes J J J (Q4 J J J)) J J (DR.s (Qn J J J J) J J (DR.stop (by kernel_rfl) (by kernel_rfl) (zz (Ql J (Qh (Q0 (Qd (zy (z2 J J J ?_)))))))));refine z3 J (zz (Qk (zy (z9e J (by assumption) (z1 J (zz (Ql J (Qd ?_))))))));refine Qc (z9e J (by assumption) (z1 J (zz (Ql J (Qh (Q1 (Q0 (zy (z2 J J J ?_)))))))));refine z3 J (zx (Zk J J J J) J (z0 J ?_));refine zx (Qt.grdT J J J .stop (fun hgrd => Qf J J J J (by decide))) J ?_;refine zx (Qt.grdT J J J (.hit .stop) (fun hgrd => Qg J J J J J)) J ?_;refine zx (Qt.grdT J J J (.hit (.hit .stop)) (fun hgrd => Zk J J J J)) J ?_;refine zx (Za J J J J) J (z0 J ?_);refine zx (Qt.grdT J J J .stop (fun hgrd => Qf J J J J (by decide))) J ?_;refine zx (Qt.grdT J J J (.hit .stop) (fun hgrd => Qg J J J J J)) J ?_;refine zx (Qt.grdT J J J (.hit (.hit .stop)) (fun hgrd => Zk J J J J)) J ?_;refine zx (Za J J J J) J (z0 J ?_);refine zx (Qt.grdT J J J .stop (fun hgrd => Qf J J J J (by decide))) J ?_;refine zx (Qt.grdT J J J (.hit .stop) (fun hgrd => Qg J J J J J)) J ?_;refine zx (Qt.grdT J J J (.hit (.hit .stop)) (fun hgrd => Zk J J J J)) J ?_;refine zx (Za J J J J) J (z1 J (zz (Xa (F_r ?_))))
       exact Xp J J (X3 [] (by decide) J J (Xk (by rw [tailM,if_neg k0,if_neg k1]; simp only [Bool.decide_and,Bool.and_assoc])))
theorem I_BodyOk (l : TLevel) (n : Int) (b : TBody) (hg : Enc.gd l) (hb : Enc.gd b) (hn : 0 ≤ n ∧ n ≤ 1099511627776) : Con Try.prog 48 [] [ag l,ai n,ag b] [] (B (levelOk l && bodyM l n b)) := by
 obtain ⟨b1,b2,b3,b4,b5,b6,b7,b8,b9⟩ := hb
 have hc := Xu l hg
 cases hl : levelOk l with
 | false =>
  rw [hl] at hc
  rw [Bool.false_and]
  refine Con.of Try.func48 J Try.ntmps48 J (fun E => ?_)
  refine zy (M1 (Qq J J J J) J J (M1 (Qq J J J J) J J (z1 J (zz (Qd (zy (z4 J J J ?_)))))));refine zx (Qj J J (hc) J) J ?_;refine zn J (z0 J (z6 J (z6 J (z6 J (zpT J (z0 J (z6 J (z6 J (z6 J (zpT J (Qe ?_)))))))))));refine Q0 (Qm J (zy (z1 J (zz (Xa (T_r (F_r ?_)))))))
  exact Xp J J (X3 [] (by decide) J J J)
 | true =>
  rw [hl] at hc
  rw [Bool.true_and]
  refine Con.of Try.func48 J Try.ntmps48 J (fun E => ?_)
  refine zy (M1 (Qq J J J J) J J (M1 (Qq J J J J) J J (z1 J (zz (Qd (zy (z4 J J J ?_)))))));refine zx (Qj J J (hc) J) J ?_;refine zn J (z0 J (z5 J (z2 J J J (z5 J (z3 J (z5 J (zx (Zv J J J J) J (zpF J (z0 J ?_)))))))));refine zx (Qt.grdF J J J .stop (fun hgrd => Qf J J J J (by decide))) J ?_;refine zx (Qt.grdF J J J (.hit .stop) (fun hgrd => Qg J J J J J)) J ?_;refine zx (Qt.grdF J J J (.hit (.hit .stop)) (fun hgrd => Zo J J J J)) J ?_;refine zx (Zy J J J J) J (zz ?_)
  refine Xb J (fun h => ?_) (fun h => ?_)
  ·simp only [Bool.or_eq_true,decide_eq_true_eq] at h
   have e1 : inR b.Kind 0 2 = false := by rw [← Bool.not_eq_true,Yy]; omega
   rw [show bodyM l n b = false by rw [bodyM,e1]; rfl]
   refine zy (z1 J (zz (Xa (T_r (F_r ?_)))))
   exact Xp J J (X3 [] (by decide) J J J)
  simp only [Bool.or_eq_false_iff,decide_eq_false_iff_not] at h
  have e1 : inR b.Kind 0 2 = true := Yy.2 (by omega)
  have hs16 := size_in e1
  refine Qh (Q0 (Qd (zy (z2 J J J (z3 J (zx (Zv J J J J) J (z0 J ?_)))))));refine zx (Qt.grdF J J J .stop (fun hgrd => Qf J J J J (by decide))) J ?_;refine zx (Qt.grdF J J J (.hit .stop) (fun hgrd => Qg J J J J J)) J ?_;refine zx (Qt.grdF J J J (.hit (.hit .stop)) (fun hgrd => Qa J J J)) J ?_;refine zx (Qt.grdF J J J (.hit (.hit (.hit .stop))) (fun hgrd => q_geq J J J J)) J ?_;refine zx (Zy J J J J) J (z0 J ?_);refine zx (Qt.grdF J J J .stop (fun hgrd => Qf J J J J (by decide))) J ?_;refine zx (Qt.grdF J J J (.hit .stop) (fun hgrd => Qg J J J J J)) J ?_;refine zx (Qt.grdF J J J (.hit (.hit .stop)) (fun hgrd => Zk J J J J)) J ?_;refine zx (Qt.grdF J J J (.hit (.hit (.hit .stop))) (fun hgrd => Qa J J J)) J ?_;refine zx (Qt.grd2T J J J (.hit1 (.hit1 (.hit1 (.hit1 .stop)))) (fun hgrd hgrd2 => Qf J J J J (by decide))) J ?_;refine zx (Qt.grd2T J J J (.hit (.hit1 (.hit1 (.hit1 (.hit1 .stop))))) (fun hgrd hgrd2 => Qg J J J J J)) J ?_;refine zx (Qt.grd2T J J J (.hit (.hit (.hit1 (.hit1 (.hit1 (.hit1 .stop)))))) (fun hgrd hgrd2 => Zx J J J J)) J ?_;refine zx (Qt.grdF J J J (.part (.part (.part (.hit (.hit (.hit (.hit .stop))))))) (fun hgrd => Za J J J J)) J ?_;refine zx (Zy J J J J) J (zz ?_)
  refine Xb J (fun h2 => ?_) (fun h2 => ?_)
  ·simp only [Bool.or_eq_true,Bool.and_eq_true,decide_eq_true_eq] at h2
   rw [show bodyM l n b = false by
    by_cases ho : 0 ≤ b.Owner ∧ b.Owner ≤ n - 1
    ·have hk : b.Kind = 2 ∧ b.Owner ≠ 0 := by omega
     have ht : tailM b = false := by rw [tailM,if_neg (by omega),if_neg (by omega),decide_eq_false (fun hh => hk.2 hh.1)]
     rw [bodyM,ht]; simp
    ·have e2 : inR b.Owner 0 (n - 1) = false := by rw [← Bool.not_eq_true,Yy]; exact ho
     rw [bodyM,e2]; simp]
   refine zy (z1 J (zz (Xa (T_r (F_r ?_)))))
   exact Xp J J (X3 [] (by decide) J J J)
  simp only [Bool.or_eq_false_iff,Bool.and_eq_false_iff,decide_eq_false_iff_not] at h2
  have e2 : inR b.Owner 0 (n - 1) = true := Yy.2 (by omega)
  have hsz := I_SizeOf b.Kind
  have h3 := I_SolidAt l b.X b.Y (sizeOf b.Kind) hg b3 b4
  rw [show solidAt l b.X b.Y (sizeOf b.Kind) = solidM l b.X b.Y (sizeOf b.Kind) by rw [solidAt,hl,Yy.2 hs16]; rfl] at h3
  cases e3 : solidM l b.X b.Y (sizeOf b.Kind) with
  | true =>
   rw [e3] at h3
   rw [show bodyM l n b = false by rw [bodyM,e1,e2,e3]; rfl]
   refine Qh (Q0 (Qd (Qd (Xi u8_3 u8_4 u8_5 J (DR.s (Qu J J J J J J) J J (DR.s (Qf J J J J (by decide)) J J (DR.s (Qg J J J J J) J J (DR.s (Qf J J J J (by decide)) J J (DR.s (Qg J J J J J) J J (DR.s (Qf J J J J (by decide)) J J (DR.s (Qg J J J J J) J J ?_)))))))))));refine DR.s (Qj J J (hsz) J) J J ?_;refine DR.s (Qj J J (h3) J) J J ?_;refine DR.stop (by kernel_rfl) (by kernel_rfl) (zz (Qm J (zy (z1 J (zz (Xa (T_r (F_r ?_))))))))
   exact Xp J J (X3 [] (by decide) J J J)
  | false =>
   rw [e3] at h3
   refine Qh (Q0 (Qd (Qd (Xi u8_3 u8_4 u8_5 J (DR.s (Qu J J J J J J) J J (DR.s (Qf J J J J (by decide)) J J (DR.s (Qg J J J J J) J J (DR.s (Qf J J J J (by decide)) J J (DR.s (Qg J J J J J) J J (DR.s (Qf J J J J (by decide)) J J (DR.s (Qg J J J J J) J J ?_)))))))))));refine DR.s (Qj J J (hsz) J) J J ?_;refine DR.s (Qj J J (h3) J) J J ?_;refine DR.stop (by kernel_rfl) (by kernel_rfl) (zz (Ql J (Qh (Q0 (Qd (zy (z2 J J J (z3 J ?_))))))));refine zx (Qj J J (Xv b.VX (-15) 15) J) J ?_;refine zn J (z0 J ?_);refine zx (Qt.grdF J J J .stop (fun hgrd => Qf J J J J (by decide))) J ?_;refine zx (Qt.grdF J J J (.hit .stop) (fun hgrd => Qg J J J J J)) J ?_;refine zx (Qt.grdF J J J (.hit (.hit .stop)) (fun hgrd => Qj J J (Xv b.VY (-15) 15) J)) J ?_;refine zx (Qt.grdF J J J (.hit (.hit (.hit .stop))) (fun hgrd => Q4 J J J)) J ?_;refine zx (Zy J J J J) J (zz ?_)
   refine Xb J (fun h4 => ?_) (fun h4 => ?_)
   ·simp only [Bool.or_eq_true,Bool.not_eq_true'] at h4
    rw [show bodyM l n b = false by rw [bodyM]; rcases h4 with h4 | h4 <;> rw [h4] <;> simp]
    refine zy (z1 J (zz (Xa (T_r (F_r ?_)))))
    exact Xp J J (X3 [] (by decide) J J J)
   simp only [Bool.or_eq_false_iff,Bool.not_eq_false'] at h4
   rw [show bodyM l n b = tailM b by rw [bodyM,e1,e2,e3,h4.1,h4.2]; rfl]
   by_cases k0 : b.Kind = 0
   ·have hk : decide (b.Kind = 0) = true := decide_eq_true k0
    refine Qh (Q0 (Qd (zy (z2 J J J (z3 J (z9e J (by assumption) (zz (Qm J (Qd ?_)))))))));refine zy (z2 J J J (z3 J (zx (Zx J J J J) J (z0 J ?_))));refine zx (Qt.grdT J J J .stop (fun hgrd => Qf J J J J (by decide))) J ?_;refine zx (Qt.grdT J J J (.hit .stop) (fun hgrd => Qg J J J J J)) J ?_;refine zx (Qt.grdT J J J (.hit (.hit .stop)) (fun hgrd => Zx J J J J)) J ?_;refine zx (Za J J J J) J (z0 J ?_);refine zx (Qt.grdF J J J .stop (fun hgrd => Qf J J J J (by decide))) J ?_;refine zx (Qt.grdF J J J (.hit .stop) (fun hgrd => Qg J J J J J)) J ?_;refine zx (Qt.grdF J J J (.hit (.hit .stop)) (fun hgrd => Qj J J (Xv b.Life 0 3) J)) J ?_;refine zx (Qt.grdF J J J (.hit (.hit (.hit .stop))) (fun hgrd => Q4 J J J)) J ?_;refine zx (Zy J J J J) J (zz ?_)
    refine Xb J (fun h => ?_) (fun h => ?_)
    ·rw [show tailM b = false by
      rw [tailM,if_pos k0]
      simp only [Bool.or_eq_true,Bool.and_eq_true,decide_eq_true_eq,Bool.not_eq_true'] at h
      rcases h with h | h
      ·rw [decide_eq_false (by omega)]; rfl
      ·rw [h]; simp]
     refine zy (z1 J (zz (Xa (T_r (T_r (F_r ?_))))))
     exact Xp J J (X3 [] (by decide) J J J)
    simp only [Bool.or_eq_false_iff,Bool.and_eq_false_iff,decide_eq_false_iff_not,Bool.not_eq_false'] at h
    have hlf := Yy.1 h.2
    have ht : tailM b = if b.Life = 0 then inR b.Timer 1 20 else inR b.Timer 0 12 := by
     rw [tailM,if_pos k0,decide_eq_true (by omega),h.2]; rfl
    by_cases l0 : b.Life = 0
    ·have hk2 : decide (0 < b.Life) = false := decide_eq_false (by omega)
     rw [ht,if_pos l0]
     refine Qh (Q0 (Qd (zy (z2 J J J (z3 J (z9c J (by assumption) (zz (Ql J (Qh ?_)))))))));refine Q0 (zy (z2 J J J (z3 J ?_)));refine zx (Qj J J (Xv b.Timer 1 20) J) J ?_;refine z1 J (zz (Xa (T_r (F_r ?_))))
     exact Xp J J (X3 [] (by decide) J J J)
    ·have hk2 : decide (0 < b.Life) = true := decide_eq_true (by omega)
     rw [ht,if_neg l0]
     refine Qh (Q0 (Qd (zy (z2 J J J (z3 J (z9c J (by assumption) (zz (Qm J (Qd ?_)))))))));refine Qc (z2 J J J (z3 J ?_));refine zx (Qj J J (Xv b.Timer 0 12) J) J ?_;refine z1 J (zz (Xa (T_r (T_r (F_r ?_)))))
     exact Xp J J (X3 [] (by decide) J J J)
   have hk : decide (b.Kind = 0) = false := decide_eq_false k0
   refine Qh (Q0 (Qd (zy (z2 J J J (z3 J (z9e J (by assumption) (zz (Ql J (Qh ?_)))))))));refine Q0 (Qd (zy (z2 J J J (z3 J (zx (Zx J J J J) J (z0 J ?_))))));refine zx (Qt.grdF J J J .stop (fun hgrd => Qf J J J J (by decide))) J ?_;refine zx (Qt.grdF J J J (.hit .stop) (fun hgrd => Qg J J J J J)) J ?_;refine zx (Qt.grdF J J J (.hit (.hit .stop)) (fun hgrd => Zx J J J J)) J ?_;refine zx (Zy J J J J) J (zz ?_)
   refine Xb J (fun h5 => ?_) (fun h5 => ?_)
   ·simp only [Bool.or_eq_true,decide_eq_true_eq] at h5
    rw [show tailM b = false by
     rw [tailM,if_neg k0]
     split
     ·rw [decide_eq_false (by omega)]; rfl
     ·exact decide_eq_false (by omega)]
    refine zy (z1 J (zz (Xa (T_r (F_r ?_)))))
    exact Xp J J (X3 [] (by decide) J J J)
   simp only [Bool.or_eq_false_iff,decide_eq_false_iff_not] at h5
   by_cases k1 : b.Kind = 1
   ·have hk1 : decide (b.Kind = 1) = true := decide_eq_true k1
    rw [show tailM b = inR b.Timer 1 25 by rw [tailM,if_neg k0,if_pos k1,decide_eq_true (by omega)]; rfl]
    refine Qh (Q0 (Qd (zy (z2 J J J (z3 J (z9e J (by assumption) (zz (Qm J (Qd ?_)))))))));refine Qc (z2 J J J (z3 J ?_));refine zx (Qj J J (Xv b.Timer 1 25) J) J ?_;refine z1 J (zz (Xa (T_r (F_r ?_))))
    exact Xp J J (X3 [] (by decide) J J J)
   ·have hk1 : decide (b.Kind = 1) = false := decide_eq_false k1
    rw [show tailM b = decide (b.Timer = 0) by rw [tailM,if_neg k0,if_neg k1]; exact decide_eq_decide.2 (by omega)]
    refine Qh (Q0 (Qd (zy (z2 J J J (z3 J (z9e J (by assumption) (zz (Ql J (Qh ?_)))))))));refine Q0 (zy (z2 J J J (z3 J (zx (Zk J J J J) J (z1 J (zz (Xa (F_r ?_))))))))
    exact Xp J J (X3 [] (by decide) J J J)
end
section
open Go.RowKit

noncomputable def bodyAt (l : TLevel) (n k : Nat) (b : TBody) : Bool := bodyM l n b && (if k < n then decide (b.Kind = 0 ∧ b.Owner = k) else decide (b.Kind ≠ 0))
def bodiesOk (l : TLevel) (n : Nat) (bs : List TBody) : Prop := ∀ (k : Nat) (hk : k < bs.length),bodyAt l n k bs[k] = true
def scoresOk (ss : List Int) : Bool := ss.all fun x => inR x 0 1000000
noncomputable def worldOk (w : TWorld) : Bool := @decide (levelOk w.Level = true ∧ inR w.Tick 0 100000 = true ∧ inR w.Seed 0 65535 = true ∧ (1 ≤ w.Scores.length ∧ w.Scores.length ≤ 4) ∧ scoresOk w.Scores = true ∧ (w.Scores.length ≤ w.Bodies.length ∧ w.Bodies.length ≤ 24) ∧ bodiesOk w.Level w.Scores.length w.Bodies) (Classical.propDecidable _)
theorem worldOk_T {w : TWorld} (h : levelOk w.Level = true ∧ inR w.Tick 0 100000 = true ∧ inR w.Seed 0 65535 = true ∧ (1 ≤ w.Scores.length ∧ w.Scores.length ≤ 4) ∧ scoresOk w.Scores = true ∧ (w.Scores.length ≤ w.Bodies.length ∧ w.Bodies.length ≤ 24) ∧ bodiesOk w.Level w.Scores.length w.Bodies) : worldOk w = true := @decide_eq_true _ (Classical.propDecidable _) h
theorem Kd {w : TWorld} (h : ¬ (levelOk w.Level = true ∧ inR w.Tick 0 100000 = true ∧ inR w.Seed 0 65535 = true ∧ (1 ≤ w.Scores.length ∧ w.Scores.length ≤ 4) ∧ scoresOk w.Scores = true ∧ (w.Scores.length ≤ w.Bodies.length ∧ w.Bodies.length ≤ 24) ∧ bodiesOk w.Level w.Scores.length w.Bodies)) : worldOk w = false := @decide_eq_false _ (Classical.propDecidable _) h
theorem Ke {w : TWorld} (h : worldOk w = true) : levelOk w.Level = true ∧ inR w.Tick 0 100000 = true ∧ inR w.Seed 0 65535 = true ∧ (1 ≤ w.Scores.length ∧ w.Scores.length ≤ 4) ∧ scoresOk w.Scores = true ∧ (w.Scores.length ≤ w.Bodies.length ∧ w.Bodies.length ≤ 24) ∧ bodiesOk w.Level w.Scores.length w.Bodies := @of_decide_eq_true _ (Classical.propDecidable _) h
theorem score_no {ss : List Int} {k : Nat} (h : k < ss.length) (hn : inR ss[k] 0 1000000 = false) : scoresOk ss = false := by
 rw [scoresOk,← Bool.not_eq_true,List.all_eq_true]
 intro hh
 rw [hh _ (List.getElem_mem h)] at hn
 cases hn
theorem I_WorldOk (x : TWorld) (hg : Enc.gd x) : Con Try.prog 21 [] [ag x] [] (B (worldOk x)) := by
 obtain ⟨gL,gT,gS,gSc,gB⟩ := hg
 have g1 := gSc.1
 have g2 := gB.1
 have hls := Yl x.Scores
 have hlb := Yl x.Bodies
 have hc := Xu x.Level gL
 refine Con.of Try.func21 J Try.ntmps21 J (fun E => ?_)
 refine zy (M1 (Qq J J J J) J J (z1 J (zz (Qd (zy (z2 J J J (z4 J J J ?_)))))));refine zx (Qj J J (hc) J) J ?_;refine zn J (z0 J ?_);refine zx (Qt.grdF J J J .stop (fun hgrd => Qf J J J J (by decide))) J ?_;refine zx (Qt.grdF J J J (.hit .stop) (fun hgrd => Qg J J J J J)) J ?_;refine zx (Qt.grdF J J J (.hit (.hit .stop)) (fun hgrd => Qj J J (Xv x.Tick 0 100000) J)) J ?_;refine zx (Qt.grdF J J J (.hit (.hit (.hit .stop))) (fun hgrd => Q4 J J J)) J ?_;refine zx (Zy J J J J) J (z0 J ?_);refine zx (Qt.grdF J J J .stop (fun hgrd => Qf J J J J (by decide))) J ?_;refine zx (Qt.grdF J J J (.hit .stop) (fun hgrd => Qg J J J J J)) J ?_;refine zx (Qt.grdF J J J (.hit (.hit .stop)) (fun hgrd => Qj J J (Xv x.Seed 0 65535) J)) J ?_;refine zx (Qt.grdF J J J (.hit (.hit (.hit .stop))) (fun hgrd => Q4 J J J)) J ?_;refine zx (Zy J J J J) J (zz ?_)
 refine Xb J (fun h => ?_) (fun h => ?_)
 ·simp only [Bool.or_eq_true,Bool.not_eq_true'] at h
  rw [Kd (fun hh => by rcases h with (h | h) | h; rw [hh.1] at h; cases h; rw [hh.2.1] at h; cases h; rw [hh.2.2.1] at h; cases h)]
  refine zy (z1 J (zz (Xa (T_r (F_r ?_)))))
  exact Xp J J (X3 [] (by decide) J J J)
 simp only [Bool.or_eq_false_iff,Bool.not_eq_false'] at h
 obtain ⟨⟨hL,hT⟩,hS⟩ := h
 refine Qh (Q0 (zy (z2 J J J (z3 J (zx (Zq J J J) J (z1 J (zz (Qd (Qd ?_)))))))));refine Qc (z0 J (zx (Zv J J J J) J (z0 J ?_)));refine zx (Qt.grdF J J J .stop (fun hgrd => Qa J J J)) J ?_;refine zx (Qt.grdF J J J (.hit .stop) (fun hgrd => Zo J J J J)) J ?_;refine zx (Zy J J J J) J (zz ?_)
 refine Xb J (fun h => ?_) (fun h => ?_)
 ·simp only [Bool.or_eq_true,decide_eq_true_eq] at h
  rw [Kd (fun hh => by have := hh.2.2.2.1; omega)]
  refine zy (z1 J (zz (Xa (T_r (F_r ?_)))))
  exact Xp J J (X3 [] (by decide) J J J)
 simp only [Bool.or_eq_false_iff,decide_eq_false_iff_not] at h
 refine Qh (Q0 (Qd (zy (z2 J J J (z3 J (zx (Zq J J J) J (z0 J (zz (Qk ?_)))))))));refine A_lq (fun m st => ∃ k : Nat,k + m = x.Scores.length ∧ ((x.Scores.take k).all (fun y => inR y 0 1000000) = true) ∧ st = (⟨_,[(1,.o (.c (.ptr 0 0))),(3,I (els x.Scores).length),(34,L x.Scores),(35,I (els x.Scores).length),(36,I k)],[.box ((Enc.e x).map (V1.rd []))]⟩ : St)) (x.Scores.length) ⟨_,⟨0,by omega,by simp,J⟩,W_gj [0] J⟩ ?_
 rintro m_A _ ⟨k,hk_A,hp_A,rfl⟩
 refine zy (zx (Zv J J J J) J (zz (Qd ?_)))
 refine Xb J (fun h3 => ?_) (fun h3 => ?_)
 ·have h3 : k < x.Scores.length := by have := of_decide_eq_true h3; omega
  have hat := Yk h3
  cases e : inR x.Scores[k] 0 1000000 with
  | false =>
   have hb := Xv x.Scores[k] 0 1000000
   rw [e] at hb
   rw [Kd (fun hh => by have h9 := hh.2.2.2.2.1; rw [score_no h3 e] at h9; cases h9)]
   refine Qh (Q0 (Qd (Qk (zy (zx (Q2 J J J J (by omega) (by assumption) J) J (zx (Zu J J J J) J (z1 J (zz (Qd ?_)))))))));refine Qc (z0 J ?_);refine zx (Qj J J (hb) J) J ?_;refine zn J (zz (Qm J (zy (z1 J (zz (Xa (B_r (T_r ?_))))))));refine T_r (B_r (T_r (F_r ?_)))
   exact Xp J J (X3 [] (by decide) J J J)
  | true =>
   have hb := Xv x.Scores[k] 0 1000000
   rw [e] at hb
   refine Qh (Q0 (Qd (Qk (zy (zx (Q2 J J J J (by omega) (by assumption) J) J (zx (Zu J J J J) J (z1 J (zz (Qd ?_)))))))));refine Qc (z0 J ?_);refine zx (Qj J J (hb) J) J ?_;refine zn J (zz (Ql J (Qh (Q1 (Q0 (Qc (z7 J (by omega) (z0 J (zz ?_)))))))))
   exact ⟨x.Scores.length - (k + 1),by omega,_,⟨k + 1,by omega,all_next hp_A h3 e,J⟩,W_gj [0] J⟩
 have h3 : ¬ k < x.Scores.length := by have := of_decide_eq_false h3; omega
 have hall : scoresOk x.Scores = true := all_end hp_A (by omega)
 refine Q9 (T_x (T_x (Xl (Q0 (Qd (zy (z2 J J J (z3 J (zx (Zq J J J) J (z0 J ?_))))))))));refine zx (Zv J J J J) J (z0 J ?_);refine zx (Qt.grdF J J J .stop (fun hgrd => Qf J J J J (by decide))) J ?_;refine zx (Qt.grdF J J J (.hit .stop) (fun hgrd => Qg J J J J J)) J ?_;refine zx (Qt.grdF J J J (.hit (.hit .stop)) (fun hgrd => Zq J J J)) J ?_;refine zx (Qt.grdF J J J (.hit (.hit (.hit .stop))) (fun hgrd => Zo J J J J)) J ?_;refine zx (Zy J J J J) J (zz ?_)
 refine Xb J (fun h5 => ?_) (fun h5 => ?_)
 ·simp only [Bool.or_eq_true,decide_eq_true_eq] at h5
  rw [Kd (fun hh => by have := hh.2.2.2.2.2.1; omega)]
  refine zy (z1 J (zz (Xa (T_r (F_r ?_)))))
  exact Xp J J (X3 [] (by decide) J J J)
 simp only [Bool.or_eq_false_iff,decide_eq_false_iff_not] at h5
 refine Qh (Q0 (Qd (zy (z2 J J J (z3 J (zx (Zq J J J) J (z0 J (zz (Qk ?_)))))))));refine A_lq (fun m st => ∃ k : Nat,k + m = x.Bodies.length ∧ ((∀ (j : Nat) (hj : j < x.Bodies.length),j < k → bodyAt x.Level x.Scores.length j x.Bodies[j] = true)) ∧ st = (⟨_,[(1,.o (.c (.ptr 0 0))),(3,I (els x.Scores).length),(56,L x.Bodies),(57,I (els x.Bodies).length),(58,I k)],[.box ((Enc.e x).map (V1.rd []))]⟩ : St)) (x.Bodies.length) ⟨_,⟨0,by omega,fun j hj h0 => by omega,J⟩,W_gj [0] J⟩ ?_
 rintro m_C _ ⟨k,hk_C,hp_C,rfl⟩
 refine zy (zx (Zv J J J J) J (zz (Qd ?_)))
 refine Xb J (fun h6 => ?_) (fun h6 => ?_)
 ·have h6 : k < x.Bodies.length := by have := of_decide_eq_true h6; omega
  have hat := Yk h6
  have gb := gB.2 _ (List.getElem_mem h6)
  have hb := I_BodyOk x.Level (els x.Scores).length x.Bodies[k] gL gb (by omega)
  rw [hL,Bool.true_and] at hb
  have hlen : ((els x.Scores).length : Int) = (x.Scores.length : Int) := by rw [hls]
  cases e : bodyM x.Level (els x.Scores).length x.Bodies[k] with
  | false =>
   rw [e] at hb
   rw [Kd (fun hh => by have h9 := hh.2.2.2.2.2.2 k h6; rw [bodyAt,← hlen,e] at h9; cases h9)]
   refine Qh (Q0 (Qd (Qk (zy (z0 J (zx (Q2 J J J J (by omega) (by assumption) J) J (zx (q_lrN J J J J J) J (M1 (Qx J J J) J J (z1 J ?_)))))))));refine Qy J J J J J J J J J (zz (Qd (zy (z2 J J J (z4 J J J (z0 J (z4 J J J ?_)))))));refine zx (Qj J J (hb) J) J ?_;refine zn J (zz (Qm J (zy (z1 J (zz (Xa (T_r (B_r ?_))))))));refine T_r (T_r (B_r (T_r (F_r ?_))))
   exact Xp J J (X3 [] (by decide) J J J)
  | true =>
   rw [e] at hb
   rw [hlen] at e
   by_cases hkn : (k : Int) < (els x.Scores).length
   ·have hd : decide ((k : Int) < (els x.Scores).length) = true := decide_eq_true hkn
    have hd2 : decide (((els x.Scores).length : Int) ≤ k) = false := decide_eq_false (by omega)
    refine Qh (Q0 (Qd (Qk (zy (z0 J (zx (Q2 J J J J (by omega) (by assumption) J) J (zx (q_lrN J J J J J) J (M1 (Qx J J J) J J (z1 J ?_)))))))));refine Qy J J J J J J J J J (zz (Qd (zy (z2 J J J (z4 J J J (z0 J (z4 J J J ?_)))))));refine zx (Qj J J (hb) J) J ?_;refine zn J (zz (Ql J (Qh (Q0 (Qd (zy (z0 J (z0 J (z9a J (by assumption) ?_)))))))));refine z0 J (z5 J (z2 J J J (z5 J (z3 J (z5 J (zx (Zx J J J J) J (z5 J (z0 J ?_))))))));refine zx (Qt.grdF J J J .stop (fun hgrd => Qf J J J J (by decide))) J ?_;refine zx (Qt.grdF J J J (.hit .stop) (fun hgrd => Qg J J J J J)) J ?_;refine zx (Qt.grdF J J J (.hit (.hit .stop)) (fun hgrd => Qa J J J)) J ?_;refine zx (Qt.grdF J J J (.hit (.hit (.hit .stop))) (fun hgrd => Zx J J J J)) J ?_;refine z5 J (zx (Zy J J J J) J (zpT J (zz ?_)))
    refine Xb J (fun h7 => ?_) (fun h7 => ?_)
    ·simp only [Bool.or_eq_true,decide_eq_true_eq] at h7
     rw [Kd (fun hh => by have h9 := hh.2.2.2.2.2.2 k h6; rw [bodyAt,e,if_pos (by omega)] at h9; have := of_decide_eq_true h9; omega)]
     refine zy (z1 J (zz (Xa (T_r (B_r (T_r (T_r (B_r (T_r ?_)))))))));refine F_r ?_
     exact Xp J J (X3 [] (by decide) J J J)
    ·simp only [Bool.or_eq_false_iff,decide_eq_false_iff_not] at h7
     refine Qh (Q0 (zy (z0 J (z0 J (z9d J (by assumption) (z0 J (z6 J (z6 J (z6 J (zpF J ?_))))))))));refine zz (Ql J (Qh (Q1 (Q0 (Qc (z7 J (by omega) (z0 J (zz ?_))))))))
     exact ⟨x.Bodies.length - (k + 1),by omega,_,⟨k + 1,by omega,fun j hj h0 => by by_cases hjk : j = k; subst hjk; rw [bodyAt,e,if_pos (by omega)]; exact decide_eq_true (by omega); exact hp_C j hj (by omega),J⟩,W_gj [0] J⟩
   ·have hd : decide ((k : Int) < (els x.Scores).length) = false := decide_eq_false hkn
    have hd2 : decide (((els x.Scores).length : Int) ≤ k) = true := decide_eq_true (by omega)
    by_cases k0 : x.Bodies[k].Kind = 0
    ·have hd3 : decide (x.Bodies[k].Kind = 0) = true := decide_eq_true k0
     rw [Kd (fun hh => by have h9 := hh.2.2.2.2.2.2 k h6; rw [bodyAt,e,if_neg (by omega)] at h9; have := of_decide_eq_true h9; omega)]
     refine Qh (Q0 (Qd (Qk (zy (z0 J (zx (Q2 J J J J (by omega) (by assumption) J) J (zx (q_lrN J J J J J) J (M1 (Qx J J J) J J (z1 J ?_)))))))));refine Qy J J J J J J J J J (zz (Qd (zy (z2 J J J (z4 J J J (z0 J (z4 J J J ?_)))))));refine zx (Qj J J (hb) J) J ?_;refine zn J (zz (Ql J (Qh (Q0 (Qd (zy (z0 J (z0 J (z9a J (by assumption) ?_)))))))));refine z0 J (z6 J (z6 J (z6 J (z6 J (zx (Qt.no2 J J J) J (zx (Qt.no2 J J J) J (zx (Qt.no2 J J J) J (zx (Qt.no2 J J J) J (z6 J (zpF J (Qe ?_)))))))))));refine Q0 (Ql J (Qh (Q0 (zy (z0 J (z0 J (z9d J (by assumption) (z0 J (z5 J (z2 J J J ?_))))))))));refine z5 J (z3 J (z5 J (z9e J (by assumption) (zpT J (zz (Qm J (zy (z1 J (Qe ?_)))))))));refine Q0 (Xa (B_r (T_r (T_r (B_r (T_r (F_r ?_)))))))
     exact Xp J J (X3 [] (by decide) J J J)
    ·have hd3 : decide (x.Bodies[k].Kind = 0) = false := decide_eq_false k0
     refine Qh (Q0 (Qd (Qk (zy (z0 J (zx (Q2 J J J J (by omega) (by assumption) J) J (zx (q_lrN J J J J J) J (M1 (Qx J J J) J J (z1 J ?_)))))))));refine Qy J J J J J J J J J (zz (Qd (zy (z2 J J J (z4 J J J (z0 J (z4 J J J ?_)))))));refine zx (Qj J J (hb) J) J ?_;refine zn J (zz (Ql J (Qh (Q0 (Qd (zy (z0 J (z0 J (z9a J (by assumption) ?_)))))))));refine z0 J (z6 J (z6 J (z6 J (z6 J (zx (Qt.no2 J J J) J (zx (Qt.no2 J J J) J (zx (Qt.no2 J J J) J (zx (Qt.no2 J J J) J (z6 J (zpF J (Qe ?_)))))))))));refine Q0 (Ql J (Qh (Q0 (zy (z0 J (z0 J (z9d J (by assumption) (z0 J (z5 J (z2 J J J ?_))))))))));refine z5 J (z3 J (z5 J (z9e J (by assumption) (zpT J (zz (Ql J (Qh (Q1 (Q0 (Qc ?_))))))))));refine z7 J (by omega) (z0 J (zz ?_))
     exact ⟨x.Bodies.length - (k + 1),by omega,_,⟨k + 1,by omega,fun j hj h0 => by by_cases hjk : j = k; subst hjk; rw [bodyAt,e,if_neg (by omega)]; exact decide_eq_true k0; exact hp_C j hj (by omega),J⟩,W_gj [0] J⟩
 have h6 : ¬ k < x.Bodies.length := by have := of_decide_eq_false h6; omega
 rw [worldOk_T ⟨hL,hT,hS,by omega,hall,by omega,fun j hj => hp_C j hj (by omega)⟩]
 refine Q9 (T_x (T_x (Xl (Q0 (zy (z1 J (zz (Xa (F_r ?_)))))))))
 exact Xp J J (X3 [] (by decide) J J J)
theorem S_WorldOk (x : TWorld) (hg : Enc.gd x) : Con Try.prog 43 [] [ag x] [] (B (worldOk x)) := by
 obtain ⟨gL,gT,gS,gSc,gB⟩ := hg
 have g1 := gSc.1
 have g2 := gB.1
 have hls := Yl x.Scores
 have hlb := Yl x.Bodies
 have hc := S_LevelOk x.Level gL
 refine Con.of Try.func43 J Try.ntmps43 J (fun E => ?_)
 refine zy (M1 (Qq J J J J) J J (z1 J (zz (zy (z2 J J J (z3 J (zx (Zq J J J) J (z1 J ?_))))))));refine zz (Qd (zy (z2 J J J (z4 J J J ?_))));refine zx (Qj J J (hc) J) J ?_;refine zn J (z0 J ?_);refine zx (Qt.grdF J J J .stop (fun hgrd => Qf J J J J (by decide))) J ?_;refine zx (Qt.grdF J J J (.hit .stop) (fun hgrd => Qg J J J J J)) J ?_;refine zx (Qt.grdF J J J (.hit (.hit .stop)) (fun hgrd => Qj J J (S_in x.Tick 0 100000) J)) J ?_;refine zx (Qt.grdF J J J (.hit (.hit (.hit .stop))) (fun hgrd => Q4 J J J)) J ?_;refine zx (Zy J J J J) J (z0 J ?_);refine zx (Qt.grdF J J J .stop (fun hgrd => Qf J J J J (by decide))) J ?_;refine zx (Qt.grdF J J J (.hit .stop) (fun hgrd => Qg J J J J J)) J ?_;refine zx (Qt.grdF J J J (.hit (.hit .stop)) (fun hgrd => Qj J J (S_in x.Seed 0 65535) J)) J ?_;refine zx (Qt.grdF J J J (.hit (.hit (.hit .stop))) (fun hgrd => Q4 J J J)) J ?_;refine zx (Zy J J J J) J (z0 J ?_);refine zx (Qt.grdF J J J .stop (fun hgrd => Qa J J J)) J ?_;refine zx (Qt.grdF J J J (.hit .stop) (fun hgrd => Qj J J (S_in (els x.Scores).length 1 4) J)) J ?_;refine zx (Qt.grdF J J J (.hit (.hit .stop)) (fun hgrd => Q4 J J J)) J ?_;refine zx (Zy J J J J) J (z0 J ?_);refine zx (Qt.grdF J J J .stop (fun hgrd => Qf J J J J (by decide))) J ?_;refine zx (Qt.grdF J J J (.hit .stop) (fun hgrd => Qg J J J J J)) J ?_;refine zx (Qt.grdF J J J (.hit (.hit .stop)) (fun hgrd => Zq J J J)) J ?_;refine zx (Qt.grdF J J J (.hit (.hit (.hit .stop))) (fun hgrd => Qa J J J)) J ?_;refine zx (Qt.grdF J J J (.hit (.hit (.hit (.hit .stop)))) (fun hgrd => Qj J J (S_in (els x.Bodies).length (els x.Scores).length 24) J)) J ?_;refine zx (Qt.grdF J J J (.hit (.hit (.hit (.hit (.hit .stop))))) (fun hgrd => Q4 J J J)) J ?_;refine zx (Zy J J J J) J (zz ?_)
 refine Xb J (fun h => ?_) (fun h => ?_)
 ·simp only [Bool.or_eq_true,Bool.not_eq_true'] at h
  rw [Kd (fun hh => by rcases h with (((h | h) | h) | h) | h; rw [hh.1] at h; cases h; rw [hh.2.1] at h; cases h; rw [hh.2.2.1] at h; cases h; rw [← Bool.not_eq_true,Yy] at h; have := hh.2.2.2.1; omega; rw [← Bool.not_eq_true,Yy] at h; have := hh.2.2.2.2.2.1; omega)]
  refine zy (z1 J (zz (Xa (T_r (F_r ?_)))))
  exact Xp J J (X3 [] (by decide) J J J)
 simp only [Bool.or_eq_false_iff,Bool.not_eq_false'] at h
 obtain ⟨⟨⟨⟨hL,hT⟩,hS⟩,hN⟩,hB⟩ := h
 have hN := Yy.1 hN
 have hB := Yy.1 hB
 refine Qh (Q0 (Qd (zy (z1 J (zz (Qk ?_))))));refine A_lq (fun m st => ∃ k : Nat,k + m = x.Scores.length ∧ ((x.Scores.take k).all (fun y => inR y 0 1000000) = true) ∧ st = (⟨_,[(1,.o (.c (.ptr 0 0))),(3,I (els x.Scores).length),(4,I k)],[.box ((Enc.e x).map (V1.rd []))]⟩ : St)) (x.Scores.length) ⟨_,⟨0,by omega,by simp,J⟩,W_gj [0] J⟩ ?_
 rintro m_A _ ⟨k,hk_A,hp_A,rfl⟩
 refine Qd (zy (z0 J (z0 J (zx (Zv J J J J) J (zz ?_)))))
 refine Xb J (fun h3 => ?_) (fun h3 => ?_)
 ·have h3 : k < x.Scores.length := by have := of_decide_eq_true h3; omega
  have hat := Yk h3
  have hb := S_in x.Scores[k] 0 1000000
  cases e : inR x.Scores[k] 0 1000000 with
  | false =>
   rw [e] at hb
   rw [Kd (fun hh => by have h9 := hh.2.2.2.2.1; rw [score_no h3 e] at h9; cases h9)]
   refine Qh (Q0 (Qd (Qk (zy (z2 J J J (z3 J (z0 J (zx (Q2 J J J J (by omega) (by assumption) J) J (zx (Zu J J J J) J ?_)))))))));refine zx (Qj J J (hb) J) J ?_;refine zn J (zz (Qm J (zy (z1 J (zz (Xa (B_r (T_r ?_))))))));refine T_r (B_r (T_r (F_r ?_)))
   exact Xp J J (X3 [] (by decide) J J J)
  | true =>
   rw [e] at hb
   refine Qh (Q0 (Qd (Qk (zy (z2 J J J (z3 J (z0 J (zx (Q2 J J J J (by omega) (by assumption) J) J (zx (Zu J J J J) J ?_)))))))));refine zx (Qj J J (hb) J) J ?_;refine zn J (zz (Ql J (Qh (Q1 (Q0 (Qc (z0 J (z7 J (by omega) (z1 J (Qe ?_))))))))));refine Q0 ?_
   exact ⟨x.Scores.length - (k + 1),by omega,_,⟨k + 1,by omega,all_next hp_A h3 e,J⟩,W_gj [0] J⟩
 have h3 : ¬ k < x.Scores.length := by have := of_decide_eq_false h3; omega
 have hall : scoresOk x.Scores = true := all_end hp_A (by omega)
 refine Q9 (T_x (T_x (Xl (Q0 (Qd (zy (z1 J (zz (Qk ?_)))))))));refine A_lq (fun m st => ∃ k : Nat,k + m = x.Bodies.length ∧ ((∀ (j : Nat) (hj : j < x.Bodies.length),j < k → bodyAt x.Level x.Scores.length j x.Bodies[j] = true)) ∧ st = (⟨_,[(1,.o (.c (.ptr 0 0))),(3,I (els x.Scores).length),(5,I k)],[.box ((Enc.e x).map (V1.rd []))]⟩ : St)) (x.Bodies.length) ⟨_,⟨0,by omega,fun j hj h0 => by omega,J⟩,W_gj [0] J⟩ ?_
 rintro m_C _ ⟨k,hk_C,hp_C,rfl⟩
 refine Qd (zy (z0 J (z2 J J J (z3 J (zx (Zq J J J) J (zx (Zv J J J J) J (zz ?_)))))))
 refine Xb J (fun h6 => ?_) (fun h6 => ?_)
 ·have h6 : k < x.Bodies.length := by have := of_decide_eq_true h6; omega
  have hat := Yk h6
  have gb := gB.2 _ (List.getElem_mem h6)
  have hb := S_l02Body x.Level (els x.Scores).length x.Bodies[k] gL hL gb (by omega)
  have hlen : ((els x.Scores).length : Int) = (x.Scores.length : Int) := by rw [hls]
  cases e : bodyM x.Level (els x.Scores).length x.Bodies[k] with
  | false =>
   rw [e] at hb
   rw [Kd (fun hh => by have h9 := hh.2.2.2.2.2.2 k h6; rw [bodyAt,← hlen,e] at h9; cases h9)]
   refine Qh (Q0 (Qd (Qk (zy (z2 J J J (z3 J (z0 J (zx (Q2 J J J J (by omega) (by assumption) J) J (zx (q_lrN J J J J J) J (M1 (Qx J J J) J J ?_))))))))));refine Qy J J J J J J J J J (zz (zy (z2 J J J (z4 J J J (z0 J (z4 J J J ?_))))));refine zx (Qj J J (hb) J) J ?_;refine zn J (z0 J (z6 J (z6 J (z6 J (z6 J (z6 J (z6 J (z6 J (zpT J (z0 J (z6 J ?_)))))))))));refine z6 J (z6 J (z6 J (zx (Qt.no2 J J J) J (zx (Qt.no2 J J J) J (zx (Qt.no2 J J J) J (zx (Qt.no2 J J J) J (z6 J (zpT J (zz (Qm J ?_))))))))));refine zy (z1 J (zz (Xa (B_r (T_r (T_r (B_r (T_r (F_r ?_)))))))))
   exact Xp J J (X3 [] (by decide) J J J)
  | true =>
   rw [e] at hb
   rw [hlen] at e
   by_cases hkn : (k : Int) < (els x.Scores).length
   ·have hd : decide ((k : Int) < (els x.Scores).length) = true := decide_eq_true hkn
    by_cases k0 : x.Bodies[k].Kind = 0
    ·have hd3 : decide (x.Bodies[k].Kind = 0) = true := decide_eq_true k0
     by_cases ho : x.Bodies[k].Owner ≠ (k : Int)
     ·have hd4 : decide (x.Bodies[k].Owner ≠ (k : Int)) = true := decide_eq_true ho
      rw [Kd (fun hh => by have h9 := hh.2.2.2.2.2.2 k h6; rw [bodyAt,e,if_pos (by omega)] at h9; have := of_decide_eq_true h9; omega)]
      refine Qh (Q0 (Qd (Qk (zy (z2 J J J (z3 J (z0 J (zx (Q2 J J J J (by omega) (by assumption) J) J (zx (q_lrN J J J J J) J (M1 (Qx J J J) J J ?_))))))))));refine Qy J J J J J J J J J (zz (zy (z2 J J J (z4 J J J (z0 J (z4 J J J ?_))))));refine zx (Qj J J (hb) J) J ?_;refine zn J (z0 J (z5 J (z2 J J J (z5 J (z3 J (z5 J (z9e J (by assumption) (z5 J (z0 J (z5 J (z0 J ?_)))))))))));refine z5 J (z9a J (by assumption) (z5 J (zx (q_bneq J J J J) J (zpF J (z0 J (z5 J (z0 J (z5 J (z0 J (z5 J (z9a J (by assumption) ?_)))))))))));refine z5 J (z0 J (z5 J (z2 J J J (z5 J (z3 J (z5 J (z0 J (z5 J (z9f J (by assumption) (z5 J (zpT J ?_)))))))))));refine zpF J (zz (Qm J (zy (z1 J (zz (Xa (B_r (T_r ?_))))))));refine T_r (B_r (T_r (F_r ?_)))
      exact Xp J J (X3 [] (by decide) J J J)
     ·have hd4 : decide (x.Bodies[k].Owner ≠ (k : Int)) = false := decide_eq_false ho
      refine Qh (Q0 (Qd (Qk (zy (z2 J J J (z3 J (z0 J (zx (Q2 J J J J (by omega) (by assumption) J) J (zx (q_lrN J J J J J) J (M1 (Qx J J J) J J ?_))))))))));refine Qy J J J J J J J J J (zz (zy (z2 J J J (z4 J J J (z0 J (z4 J J J ?_))))));refine zx (Qj J J (hb) J) J ?_;refine zn J (z0 J (z5 J (z2 J J J (z5 J (z3 J (z5 J (z9e J (by assumption) (z5 J (z0 J (z5 J (z0 J ?_)))))))))));refine z5 J (z9a J (by assumption) (z5 J (zx (q_bneq J J J J) J (zpF J (z0 J (z5 J (z0 J (z5 J (z0 J (z5 J (z9a J (by assumption) ?_)))))))))));refine z5 J (z0 J (z5 J (z2 J J J (z5 J (z3 J (z5 J (z0 J (z5 J (z9f J (by assumption) (z5 J (zpT J ?_)))))))))));refine zpF J (zz (Ql J (Qh (Q1 (Q0 (Qc (z0 J (z7 J (by omega) (z1 J (Qe ?_))))))))));refine Q0 ?_
      exact ⟨x.Bodies.length - (k + 1),by omega,_,⟨k + 1,by omega,fun j hj h0 => by by_cases hjk : j = k; subst hjk; rw [bodyAt,e,if_pos (by omega)]; exact decide_eq_true (by omega); exact hp_C j hj (by omega),J⟩,W_gj [0] J⟩
    ·have hd3 : decide (x.Bodies[k].Kind = 0) = false := decide_eq_false k0
     rw [Kd (fun hh => by have h9 := hh.2.2.2.2.2.2 k h6; rw [bodyAt,e,if_pos (by omega)] at h9; have := of_decide_eq_true h9; omega)]
     refine Qh (Q0 (Qd (Qk (zy (z2 J J J (z3 J (z0 J (zx (Q2 J J J J (by omega) (by assumption) J) J (zx (q_lrN J J J J J) J (M1 (Qx J J J) J J ?_))))))))));refine Qy J J J J J J J J J (zz (zy (z2 J J J (z4 J J J (z0 J (z4 J J J ?_))))));refine zx (Qj J J (hb) J) J ?_;refine zn J (z0 J (z5 J (z2 J J J (z5 J (z3 J (z5 J (z9e J (by assumption) (z5 J (z0 J (z5 J (z0 J ?_)))))))))));refine z5 J (z9a J (by assumption) (z5 J (zx (q_bneq J J J J) J (zpF J (z0 J (z6 J (z6 J (z6 J (z6 J (zx (Qt.no2 J J J) J (zx (Qt.no2 J J J) J ?_)))))))))));refine zx (Qt.no2 J J J) J (zx (Qt.no2 J J J) J (z6 J (zpT J (zz (Qm J (zy (z1 J (zz ?_))))))));refine Xa (B_r (T_r (T_r (B_r (T_r (F_r ?_))))))
     exact Xp J J (X3 [] (by decide) J J J)
   ·have hd : decide ((k : Int) < (els x.Scores).length) = false := decide_eq_false hkn
    by_cases k0 : x.Bodies[k].Kind = 0
    ·have hd3 : decide (x.Bodies[k].Kind = 0) = true := decide_eq_true k0
     rw [Kd (fun hh => by have h9 := hh.2.2.2.2.2.2 k h6; rw [bodyAt,e,if_neg (by omega)] at h9; have := of_decide_eq_true h9; omega)]
     refine Qh (Q0 (Qd (Qk (zy (z2 J J J (z3 J (z0 J (zx (Q2 J J J J (by omega) (by assumption) J) J (zx (q_lrN J J J J J) J (M1 (Qx J J J) J J ?_))))))))));refine Qy J J J J J J J J J (zz (zy (z2 J J J (z4 J J J (z0 J (z4 J J J ?_))))));refine zx (Qj J J (hb) J) J ?_;refine zn J (z0 J (z5 J (z2 J J J (z5 J (z3 J (z5 J (z9e J (by assumption) (z5 J (z0 J (z5 J (z0 J ?_)))))))))));refine z5 J (z9a J (by assumption) (z5 J (zx (q_bneq J J J J) J (zpF J (z0 J (z6 J (z6 J (z6 J (z6 J (zx (Qt.no2 J J J) J (zx (Qt.no2 J J J) J ?_)))))))))));refine zx (Qt.no2 J J J) J (zx (Qt.no2 J J J) J (z6 J (zpT J (zz (Qm J (zy (z1 J (zz ?_))))))));refine Xa (B_r (T_r (T_r (B_r (T_r (F_r ?_))))))
     exact Xp J J (X3 [] (by decide) J J J)
    ·have hd3 : decide (x.Bodies[k].Kind = 0) = false := decide_eq_false k0
     refine Qh (Q0 (Qd (Qk (zy (z2 J J J (z3 J (z0 J (zx (Q2 J J J J (by omega) (by assumption) J) J (zx (q_lrN J J J J J) J (M1 (Qx J J J) J J ?_))))))))));refine Qy J J J J J J J J J (zz (zy (z2 J J J (z4 J J J (z0 J (z4 J J J ?_))))));refine zx (Qj J J (hb) J) J ?_;refine zn J (z0 J (z5 J (z2 J J J (z5 J (z3 J (z5 J (z9e J (by assumption) (z5 J (z0 J (z5 J (z0 J ?_)))))))))));refine z5 J (z9a J (by assumption) (z5 J (zx (q_bneq J J J J) J (zpF J (z0 J (z5 J (z0 J (z5 J (z0 J (z5 J (z9a J (by assumption) ?_)))))))))));refine z5 J (z0 J (z6 J (z6 J (z6 J (z6 J (z5 J (zpF J (zpF J (zz (Ql J ?_))))))))));refine Qh (Q1 (Q0 (Qc (z0 J (z7 J (by omega) (z1 J (zz ?_)))))))
     exact ⟨x.Bodies.length - (k + 1),by omega,_,⟨k + 1,by omega,fun j hj h0 => by by_cases hjk : j = k; subst hjk; rw [bodyAt,e,if_neg (by omega)]; exact decide_eq_true k0; exact hp_C j hj (by omega),J⟩,W_gj [0] J⟩
 have h6 : ¬ k < x.Bodies.length := by have := of_decide_eq_false h6; omega
 rw [worldOk_T ⟨hL,hT,hS,by omega,hall,by omega,fun j hj => hp_C j hj (by omega)⟩]
 refine Q9 (T_x (T_x (Xl (Q0 (zy (z1 J (zz (Xa (F_r ?_)))))))))
 exact Xp J J (X3 [] (by decide) J J J)
end
section
open Go.RowKit

def V2.allk (f : V1 → Prop) : V2 → Prop
 | .c x => f x
 | .ag xs => allP f xs
def V.allk (f : V1 → Prop) : V → Prop
 | .o x => x.allk f
 | .tu xs => allP (V2.allk f) xs
 | .iff _ x => x.allk f
def Ob.allk (f : V1 → Prop) : Ob → Prop
 | .box cs => allP f cs
 | .gh _ x => x.allk f
 | _ => True
section
variable {f : V1 → Prop} {g h : V1 → V1} (hgh : ∀ x,f x → g x = h x)
include hgh
theorem V2.allk_eq (x : V2) (hx : x.allk f) : x.mapk g = x.mapk h := by
 cases x with
 | c x => exact congrArg V2.c (hgh x hx)
 | ag xs => exact congrArg V2.ag (X7 hgh hx)
theorem V.allk_eq (x : V) (hx : x.allk f) : x.mapk g = x.mapk h := by
 cases x with
 | o x => exact congrArg V.o (V2.allk_eq hgh x hx)
 | tu xs => exact congrArg V.tu (X7 (V2.allk_eq hgh) hx)
 | iff cs x => exact congrArg (V.iff cs) (V2.allk_eq hgh x hx)
theorem Ob.allk_eq (x : Ob) (hx : x.allk f) : x.mapk g = x.mapk h := by
 cases x with
 | box cs => exact congrArg Ob.box (X7 hgh hx)
 | gh i x => exact congrArg (Ob.gh i) (V2.allk_eq hgh x hx)
 | _ => rfl
end
def V1.leok (p kk i j : Nat) : V1 → Prop
 | .le q k a b => match Nat.beq q p with
  | true => k = kk ∧ a = i ∧ b = j
  | false => True
 | _ => True
def V1.tole (p m : Nat) : V1 → V1
 | .le q k a b => match Nat.beq q p with
  | true => .ref m
  | false => (V1.le q k a b).killw [p,m] [p]
 | x => x.killw [p,m] [p]
def V1.tole0 (p m kk i j : Nat) : V1 → V1
 | .le q k a b => match Nat.beq q p with
  | true => if k = kk ∧ a = i ∧ b = j then .ref m else .un
  | false => (V1.le q k a b).killw [p,m] [p]
 | x => x.killw [p,m] [p]
theorem V1.tole_eq {p m kk i j : Nat} (x : V1) (hx : x.leok p kk i j) : x.tole0 p m kk i j = x.tole p m := by
 cases x with
 | le q k a b =>
  simp only [V1.tole0,V1.tole]
  simp only [V1.leok] at hx
  split
  ·rename_i hq
   rw [hq] at hx
   exact if_pos hx
  ·rfl
 | _ => rfl
theorem Wk.split0 {st : St} {p kk i j k' : Nat} {es es0 : List (List T)} {e : List T} (hp : st.objs[p]? = some (.row kk es)) (he : es[i]? = some e) (hx : e[j]? = some (.sl k' es0)) :
  Wk st ⟨st.n,st.tmps.map fun t => (t.1,t.2.mapk (V1.tole0 p st.objs.length kk i j)),((st.objs.map (Ob.mapk (V1.tole0 p st.objs.length kk i j))).set p (.row kk (es.set i (splice e j [.un])))) ++ [.row k' es0]⟩ := by
 intro w H F a h1
 obtain ⟨v,fp,e1,e2⟩ := h1.ow hp
 have hnd := h1.ok.nodup p
 rw [e1] at hnd
 have hnil : H st.objs.length = .nil := by
  have := h1.obs st.objs.length
  simpa [List.getD_eq_getElem?_getD,RB] using this
 have hplt := Yu hp
 obtain ⟨b,o,c,u,f,rfl,hbf,hcell,hO,hfn,hsub,hback⟩ := e2.inner hnd he hx
 have hlt : ∀ x ∈ fp,x < w.heap.size := fun x hx => h1.ok.lt (p := p) (by rw [e1]; exact hx)
 have hu1 : u.oneCell' = true := OW.one hO
 obtain ⟨fp',g1,g2,g3⟩ := hback w .un [] (fun _ _ _ => rfl) (.un u hu1) List.nodup_nil (fun x hx => by simp at hx) hlt
 have g4 : ∀ x ∈ fp',x ∈ fp ∧ x ∉ f := fun x hx => (g3 x hx).resolve_right (by simp)
 obtain ⟨N,hN⟩ : ∃ N,N = st.objs.length := ⟨_,rfl⟩
 rw [← hN] at hnil ⊢
 have hNp : N ≠ p := by omega
 obtain ⟨H',hH'⟩ : ∃ H' : Hs,H' = fun q => if q = N then .ow (.sl k' es0) u f else if q = p then .ow (.sl kk (es.set i (splice e j [.un]))) (.slice (some ⟨b,o,none⟩) es.length c) fp' else H q := ⟨_,rfl⟩
 have hHN : H' N = .ow (.sl k' es0) u f := by rw [hH']; exact if_pos rfl
 have hHp : H' p = .ow (.sl kk (es.set i (splice e j [.un]))) (.slice (some ⟨b,o,none⟩) es.length c) fp' := by rw [hH']; simp [Ne.symm hNp]
 have hHo : ∀ q,q ≠ N → q ≠ p → H' q = H q := fun q h1 h2 => by rw [hH']; simp only; rw [if_neg h1,if_neg h2]
 have hin : ∀ q x,x ∈ (H' q).fp → (q = N ∧ x ∈ f) ∨ (q = p ∧ x ∈ fp ∧ x ∉ f) ∨ (q ≠ N ∧ q ≠ p ∧ x ∈ (H q).fp) := fun q x hx => by
  by_cases hq : q = N
  ·subst hq; rw [hHN] at hx; exact .inl ⟨rfl,hx⟩
  ·by_cases hqp : q = p
   ·subst hqp; rw [hHp] at hx; exact .inr (.inl ⟨rfl,g4 x hx⟩)
   ·rw [hHo q hq hqp] at hx; exact .inr (.inr ⟨hq,hqp,hx⟩)
 have hpf : ∀ x,x ∈ fp → x ∈ (H p).fp := fun x hx => by rw [e1]; exact hx
 have hok : Ok w H' F := by
  refine ⟨fun q => ?_,fun q => ?_,fun q r x h2 h3 => ?_,fun q x h2 => ?_,h1.ok.flt⟩
  ·by_cases hq : q = N
   ·subst hq; rw [hHN]; exact hO
   ·by_cases hqp : q = p
    ·subst hqp; rw [hHp]; exact g1
    ·rw [hHo q hq hqp]; exact h1.ok.says q
  ·by_cases hq : q = N
   ·subst hq; rw [hHN]; exact hfn
   ·by_cases hqp : q = p
    ·subst hqp; rw [hHp]; exact g2
    ·rw [hHo q hq hqp]; exact h1.ok.nodup q
  ·rcases hin q x h2 with ⟨rfl,k1⟩ | ⟨rfl,k1,k2⟩ | ⟨k1,k2,k3⟩ <;> rcases hin r x h3 with ⟨e5,m1⟩ | ⟨e5,m1,m2⟩ | ⟨m1,m2,m3⟩
   ·exact e5.symm
   ·exact absurd k1 m2
   ·exact absurd (h1.ok.disj r p x m3 (hpf x (hsub x k1))) m2
   ·exact absurd m1 k2
   ·exact e5.symm
   ·exact absurd (h1.ok.disj r q x m3 (hpf x k1)) m2
   ·exact absurd (h1.ok.disj q p x k3 (hpf x (hsub x m1))) k2
   ·exact absurd (h1.ok.disj q p x k3 (hpf x m1)) k2
   ·exact h1.ok.disj q r x k3 m3
  ·rcases hin q x h2 with ⟨rfl,k1⟩ | ⟨rfl,k1,k2⟩ | ⟨k1,k2,k3⟩
   ·exact h1.ok.free p x (hpf x (hsub x k1))
   ·exact h1.ok.free q x (hpf x k1)
   ·exact h1.ok.free q x k3
 have hfpo : ∀ q x,x ∈ (H' q).fp → ∃ r,x ∈ (H r).fp := fun q x hx => by
  rcases hin q x hx with ⟨rfl,k1⟩ | ⟨rfl,k1,k2⟩ | ⟨k1,k2,k3⟩
  ·exact ⟨p,hpf x (hsub x k1)⟩
  ·exact ⟨q,hpf x k1⟩
  ·exact ⟨q,k3⟩
 have hghs : ∀ q i v,H' q = .gh i v → ∃ r,H r = .gh i v := fun q i v hq => by
  by_cases hqN : q = N
  ·subst hqN; rw [hHN] at hq; cases hq
  ·by_cases hqp : q = p
   ·subst hqp; rw [hHp] at hq; cases hq
   ·exact ⟨q,by rw [← hHo q hqN hqp]; exact hq⟩
 have htn : Turn w H w H' [p,N] := ⟨rfl,rfl,rfl,Nat.le_refl _,fun _ _ _ => rfl,fun q hq => hHo q (fun e => hq (by simp [e])) (fun e => hq (by simp [e])),fun q x hx => .inl (hfpo q x hx),hghs⟩
 have hplace : ∀ q ∈ [p],Place (H q) (H' q) := fun q hq => by
  have : q = p := by simpa using hq
  subst this
  exact .inl ⟨_,_,_,_,_,e1,hHp⟩
 have hone : ∀ x v,R1 w H F x v → R1 w H' F (V1.tole0 p N kk i j x) v := fun x v hx => by
  cases x with
  | le q k a b' =>
   simp only [V1.tole0]
   split
   ·rename_i hq
    have hqp := Nat.eq_of_beq_eq_true hq
    subst hqp
    split
    ·rename_i hc
     rw [hc.1,hc.2.1,hc.2.2] at hx
     obtain ⟨b2,o2,n2,c2,x2,fp2,k1,k2,k3,k4⟩ := hx
     rw [e1] at k1
     simp only [Pc.ow.injEq,Value.slice.injEq,Option.some.injEq,Addr.mk.injEq] at k1
     obtain ⟨_,⟨⟨rfl,rfl,_⟩,_,_⟩,_⟩ := k1
     rw [hcell] at k4
     simp only [Option.some.injEq] at k4
     subst k4
     exact ⟨_,_,hHN⟩
    ·trivial
   ·exact R1.killw h1.ok htn hplace hx
  | _ => exact R1.killw h1.ok htn hplace hx
 refine ⟨H',h1.mapk (V1.tole0 p N kk i j) hone hok _ (fun q => ?_),hfpo,hghs⟩
 by_cases hqN : q = N
 ·subst hqN
  rw [Yt (x := .row k' es0) (by rw [List.getElem?_append_right (by simp; omega)]; simp [hN])]
  exact ⟨_,_,hHN⟩
 by_cases hqp : q = p
 ·subst hqp
  rw [Yt (x := .row kk (es.set i (splice e j [.un]))) (by rw [List.getElem?_append_left (by simpa using hplt)]; simp [hplt])]
  exact ⟨_,_,hHp⟩
 ·rcases Nat.lt_or_ge q st.objs.length with hlt2 | hge
  ·rw [List.getD_eq_getElem?_getD,List.getElem?_append_left (by simpa using hlt2),List.getElem?_set_ne (Ne.symm hqp),List.getElem?_map]
   have h2 := h1.obs q
   rw [List.getD_eq_getElem?_getD] at h2
   have h3 : H' q = H q := hHo q hqN hqp
   cases ho : st.objs[q]? with
   | none => rw [ho] at h2; exact h3.trans h2
   | some ob => rw [ho] at h2; exact RB.mapk hone h3 h2
  ·rw [List.getD_eq_getElem?_getD,List.getElem?_eq_none (by simp; omega)]
   have h2 := h1.obs q
   rw [List.getD_eq_getElem?_getD,List.getElem?_eq_none hge] at h2
   exact (hHo q hqN hqp).trans h2
theorem Wk.split {st : St} {p kk i j k' : Nat} {es es0 : List (List T)} {e : List T} (hp : st.objs[p]? = some (.row kk es)) (he : es[i]? = some e) (hx : e[j]? = some (.sl k' es0)) (ht : allP (fun t : Nat × V => t.2.allk (V1.leok p kk i j)) st.tmps) (ho : allP (Ob.allk (V1.leok p kk i j)) st.objs) :
  Wk st ⟨st.n,st.tmps.map fun t => (t.1,t.2.mapk (V1.tole p st.objs.length)),((st.objs.map (Ob.mapk (V1.tole p st.objs.length))).set p (.row kk (es.set i (splice e j [.un])))) ++ [.row k' es0]⟩ := by
 have h := Wk.split0 hp he hx
 rw [X7 (g := fun e : Nat × V => (e.1,e.2.mapk (V1.tole0 p st.objs.length kk i j))) (h := fun e : Nat × V => (e.1,e.2.mapk (V1.tole p st.objs.length))) (fun e he => by rw [V.allk_eq V1.tole_eq e.2 he]) ht,X7 (fun x hx => Ob.allk_eq V1.tole_eq x hx) ho] at h
 exact h
end
end Go.Proofs.Ytbfhboakafjjgaa
