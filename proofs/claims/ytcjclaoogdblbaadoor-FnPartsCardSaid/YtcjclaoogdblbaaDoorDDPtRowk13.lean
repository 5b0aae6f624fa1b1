/-
  Parts of the proof (rules, data, and what functions of the program and of the reference return), among them: Numbers as text: FormatInt, in the program (below 100) and in the reference; Calls of functions that write to what they are lent.
  Conditions: those that each theorem names.
-/
import Derived.ProofKit
import Derived.Deep.Slices
import Derived.Test.YtcjclaoogdblbaaDoorDDPtRowk0
import Derived.Test.YtcjclaoogdblbaaDoorDDPtRowk11
import Derived.Test.YtcjclaoogdblbaaDoorDDPtRowk12
set_option linter.unusedVariables false
set_option linter.unusedSimpArgs false
set_option maxRecDepth 8000
set_option maxHeartbeats 8000000
namespace Go.Proofs.YtcjclaoogdblbaaDoor
section
open Go.RowKit Go.ChangeShapes Go.WideShapes Go.Deep

def I64 (x : Int) : Prop := -9223372036854775808 ≤ x ∧ x ≤ 9223372036854775807

class Enc (α : Type) where
 k : Nat
 pos : 0 < k
 e : α → List T
 len : ∀ x,(e x).length = k
 gd : α → Prop
 wt : α → Nat
instance : Enc Int := ⟨1,by omega,fun x => [.v (.int .i64 x)],fun _ => rfl,I64,fun _ => 0⟩
instance : Enc Bool := ⟨1,by omega,fun x => [.v (.bool x)],fun _ => rfl,fun _ => True,fun _ => 0⟩
instance : Enc ByteArray := ⟨1,by omega,fun x => [.v (.string x)],fun _ => rfl,fun x => x.size ≤ 9223372036854775807,fun x => x.size⟩
def wts {α : Type} [Enc α] : List α → Nat
 | [] => 0
 | x :: xs => Enc.wt x + wts xs
@[reducible] def els {α : Type} [Enc α] (xs : List α) : List (List T) := xs.map Enc.e
instance {α : Type} [Enc α] : Enc (List α) := ⟨1,by omega,fun xs => [.sl (Enc.k α) (els xs)],fun _ => rfl,fun xs => xs.length ≤ 9223372036854775807 ∧ ∀ x ∈ xs,Enc.gd x,fun xs => xs.length + wts xs⟩

@[reducible] def sl {α : Type} [Enc α] (xs : List α) : T := .sl (Enc.k α) (els xs)
@[reducible] def ai (n : Int) : V2 := .c (.rd [] (.v (.int .i64 n)))
@[reducible] def astr (s : ByteArray) : V2 := .c (.rd [] (.v (.string s)))
@[reducible] def al {α : Type} [Enc α] (xs : List α) : V2 := .c (.rd [] (sl xs))
@[reducible] def ag {α : Type} [Enc α] (x : α) : V2 := .ag ((Enc.e x).map (V1.rd []))
@[reducible] def L {α : Type} [Enc α] (xs : List α) : V := .o (al xs)

class PlainE (α : Type) [Enc α] : Prop where
 plain : ∀ (x : α) (t : T),t ∈ Enc.e x → ∃ u,t = .v u
instance : PlainE Int := ⟨fun x t h => by simp [Enc.e] at h; exact ⟨_,h⟩⟩
instance : PlainE Bool := ⟨fun x t h => by simp [Enc.e] at h; exact ⟨_,h⟩⟩
instance : PlainE ByteArray := ⟨fun x t h => by simp [Enc.e] at h; exact ⟨_,h⟩⟩
theorem els_plain {α : Type} [Enc α] [PlainE α] (xs : List α) : plainT (els xs) := fun e he t ht => by
 obtain ⟨x,_,rfl⟩ := List.mem_map.1 he
 exact PlainE.plain x t ht
theorem els_k {α : Type} [Enc α] (xs : List α) : ∀ e ∈ els xs,e.length = Enc.k α := fun e he => by
 obtain ⟨x,_,rfl⟩ := List.mem_map.1 he
 exact Enc.len x
@[reducible] def bs (l : List UInt8) : ByteArray := ⟨l.toArray⟩
theorem bs_app (a b : List UInt8) : bs a ++ bs b = bs (a ++ b) := by
 apply ByteArray.ext
 rw [ByteArray.data_append]
 simp [bs]
theorem Xz (l : List UInt8) : (bs l).size = l.length := by simp [bs,ByteArray.size]
theorem X4 (a b : ByteArray) : (a ++ b).size = a.size + b.size := by simp [ByteArray.size_append]
theorem bs_list (l : List UInt8) : (bs l).data.toList = l := by simp [bs]
theorem bs_inj {a b : List UInt8} : bs a = bs b ↔ a = b := ⟨fun h => by have := congrArg (·.data.toList) h; simpa [bs_list] using this,fun h => by rw [h]⟩
theorem S_eq {a b : ByteArray} (h : a = b) : S a = S b := by rw [h]
theorem bE_app (a b : List UInt8) : bE a ++ bE b = bE (a ++ b) := by simp [bE]
theorem bE_snoc (a : List UInt8) (n : Int) (h : 0 ≤ n ∧ n ≤ 255) : bE a ++ [[.v (.int .u8 n)]] = bE (a ++ [UInt8.ofNat n.toNat]) := by
 have h1 : ((UInt8.ofNat n.toNat).toNat : Int) = n := by
  rw [UInt8.toNat_ofNat']
  omega
 unfold bE
 rw [List.map_append,List.map_cons,List.map_nil,h1]

theorem X6 {α : Type} [Enc α] {xs : List α} {k : Nat} (h : k < xs.length) : (els xs)[(k : Int).toNat]? = some (Enc.e xs[k]) := by simp [els,h]
theorem X7 {α : Type} [Enc α] (xs : List α) : (els xs).length = xs.length := by simp [els]
/-! ### Readings -/
theorem list_of_each {α : Type} {p : Nat → α → Prop} : ∀ n : Nat,(∀ i,i < n → ∃ y,p i y) → ∃ ys : List α,ys.length = n ∧ ∀ (i : Nat) (y : α),ys[i]? = some y → p i y
 | 0,_ => ⟨[],rfl,fun _ _ h => by simp at h⟩
 | n + 1,h => by
  obtain ⟨ys,h1,h2⟩ := list_of_each n fun i hi => h i (by omega)
  obtain ⟨y,hy⟩ := h n (by omega)
  refine ⟨ys ++ [y],by simp [h1],fun i z hz => ?_⟩
  rcases Nat.lt_or_ge i ys.length with hi | hi
  ·rw [List.getElem?_append_left hi] at hz
   exact h2 i z hz
  ·rw [List.getElem?_append_right hi] at hz
   have hi0 : i - ys.length = 0 := by
    rcases Nat.eq_zero_or_pos (i - ys.length) with h0 | h0
    ·exact h0
    ·rw [List.getElem?_eq_none (by simp; omega)] at hz
     cases hz
   rw [hi0] at hz
   simp only [List.getElem?_cons_zero,Option.some.injEq] at hz
   subst hz
   have : i = n := by omega
   subst this
   exact hy

def Reads {α : Type} [Enc α] (w : World) (x : α) (cs : List Value) : Prop := cs.length = Enc.k α ∧ ∀ (j : Nat) (t : T) (u : Value),(Enc.e x)[j]? = some t → cs[j]? = some u → RO w (fun _ => True) t u

class RdOf (P : Program) (t : TypeId) (α : outParam Type) [Enc α] : Prop where
 size : P.cellsOf t = Enc.k α
 of : ∀ {H : Type} {enc : TypeId × Value → H} {w : World} {spare : Nat → Bool} {held : Bool} {fuel : Nat} {cs : List Value} {x : DataW H × List MemPlace},
  DataW.trod enc P w 0 spare held fuel t cs = some x → ∃ y : α,Enc.gd y ∧ Reads w y cs

theorem i64_of_wf {n : Int} (h : (Lit.int .i64 n).wf = true) : I64 n := by
 simp [Lit.wf,IntKind.min,IntKind.max,IntKind.signed,IntKind.bits] at h
 exact ⟨by omega,by omega⟩
theorem reads_one {α : Type} [Enc α] {w : World} {x : α} {t : T} {u : Value} (he : Enc.e x = [t]) (h : RO w (fun _ => True) t u) : Reads w x [u] := by
 refine ⟨by rw [← Enc.len x,he]; rfl,fun j t' u' h1 h2 => ?_⟩
 rw [he] at h1
 cases j with
 | zero => simp at h1 h2; subst h1 h2; exact h
 | succ j => simp at h1
theorem rdOf_int {P : Program} {t : TypeId} (ht : P.underlying t = some (.int .i64)) (hs : P.cellsOf t = 1) : RdOf P t Int where
 size := hs
 of h := by
  obtain ⟨n,rfl,_,h3⟩ := DataW.trod_int ht h
  exact ⟨n,i64_of_wf h3,reads_one J (.v _ J)⟩
theorem rdOf_string {P : Program} {t : TypeId} (ht : P.underlying t = some .string) (hs : P.cellsOf t = 1) : RdOf P t ByteArray where
 size := hs
 of h := by
  obtain ⟨s,rfl,_,h3⟩ := DataW.trod_string ht h
  exact ⟨s,by simpa [maxLen,Enc.gd] using h3,reads_one J (.v _ J)⟩
theorem rdOf_slice {P : Program} {t e : TypeId} {α : Type} [Enc α] [hα : RdOf P e α] (ht : P.underlying t = some (.slice e)) (hs : P.cellsOf t = 1) : RdOf P t (List α) where
 size := hs
 of {H enc w spare held fuel cs x} h := by
  rcases open_slice ht h with ⟨rfl,_⟩ | ⟨a,len,cap,m,n,D,Pl,rfl,_,hl,hm,hmm,_,hi⟩
  ·exact ⟨[],⟨by simp,by simp⟩,reads_one rfl (.nil _ _ _ (by simp [maxLen]))⟩
  ·have hlm : len ≤ m := by rw [hmm]; split <;> omega
   obtain ⟨ys,h1,h2⟩ := list_of_each (p := fun i y => ∃ es,w.cells? 0 (a.add (i * P.cellsOf e)) (P.cellsOf e) = some es ∧ Enc.gd (α := α) y ∧ Reads w y es) len fun i hi' => by
    obtain ⟨es,h3,h4⟩ := hi i (by omega)
    obtain ⟨y,hy⟩ := hα.of h4
    exact ⟨y,es,h3,hy⟩
   subst h1
   refine ⟨ys,⟨by simp [maxLen] at hm; omega,fun y hy => ?_⟩,?_⟩
   ·obtain ⟨i,hi'⟩ := List.getElem?_of_mem hy
    obtain ⟨es,_,hg,_⟩ := h2 i y hi'
    exact hg
   refine reads_one J ?_
   rcases Nat.eq_zero_or_pos ys.length with h0 | h0
   ·have := List.eq_nil_of_length_eq_zero h0
    subst this
    exact .nil _ _ _ hm
   ·have hsp : a.spot = none := by
     obtain ⟨es,h3,_⟩ := h2 0 _ (List.getElem?_eq_getElem h0)
     obtain ⟨_,hcl,hat⟩ := World.cells?_some h3
     have hp : 0 < P.cellsOf e := by rw [hα.size]; exact Enc.pos
     have := hat 0 hp
     rw [List.getElem?_eq_getElem (by omega)] at this
     have h5 := World.cell?_spot this
     simpa [Addr.add] using h5
    obtain ⟨b,o,sp⟩ := a
    simp only at hsp
    subst hsp
    have hel : ∀ i,i < ys.length → ∃ es,w.cells? 0 ((⟨b,o,none⟩ : Addr).add (i * P.cellsOf e)) (P.cellsOf e) = some es := fun i hi' => by
     obtain ⟨es,h3,_⟩ := h2 i _ (List.getElem?_eq_getElem hi')
     exact ⟨es,h3⟩
    have hlen : ys.length = (els ys).length := (X7 ys).symm
    rw [hlen]
    refine .sl (els ys) b o (Enc.k α) cap (fun i j => ((w.cells? 0 ((⟨b,o,none⟩ : Addr).add (i * P.cellsOf e)) (P.cellsOf e)).getD []).getD j undef) trivial (by rw [X7]; exact hl) hm Enc.pos (fun e' he => ?_) (fun i j hi' hj => ?_) fun i j e' t' h3 h4 => ?_
    ·obtain ⟨y,_,rfl⟩ := List.mem_map.1 he
     exact Enc.len y
    ·rw [X7] at hi'
     obtain ⟨es,h3⟩ := hel i hi'
     obtain ⟨_,hcl,hat⟩ := World.cells?_some h3
     rw [hα.size] at hcl
     have h5 := hat j (by rw [hα.size]; exact hj)
     rw [add_lit,add_lit,hα.size,List.getElem?_eq_getElem (by omega)] at h5
     rw [h3]
     simp only [Option.getD_some]
     rw [h5,List.getD_eq_getElem?_getD,List.getElem?_eq_getElem (by omega)]
     rfl
    ·rw [List.getElem?_map] at h3
     obtain ⟨y,hy,rfl⟩ := Option.map_eq_some_iff.1 h3
     obtain ⟨es,h5,_,h6⟩ := h2 i y hy
     have hj : j < es.length := by rw [h6.1,← Enc.len y]; exact Yf h4
     show RO w _ t' (((w.cells? 0 ((⟨b,o,none⟩ : Addr).add (i * P.cellsOf e)) (P.cellsOf e)).getD []).getD j undef)
     rw [h5]
     simp only [Option.getD_some]
     rw [Ye (List.getElem?_eq_getElem hj)]
     exact h6.2 j t' _ h4 (List.getElem?_eq_getElem hj)

theorem reads_of_Trod {P : Program} {t : TypeId} {α : Type} [Enc α] [hα : RdOf P t α] {H : Type} {enc : TypeId × Value → H} {w : World} {spare : Nat → Bool} {held : Bool} {v : Value} {d : DataW H} {p : List MemPlace}
  (h : DataW.Trod enc P w 0 spare held t v d p) : ∃ y : α,Enc.gd y ∧ Reads w y v.cells.toList := by
 obtain ⟨fuel,hf⟩ := h
 exact hα.of hf

theorem r2_slice {α : Type} [Enc α] {w : World} {H : Hs} {xs : List α} {v : Value} (h : Reads w xs [v]) : R2 w H (fun b => b < w.heap.size) (al xs) v :=
 RO.weak (h.2 0 _ v J J) fun b _ hb => .inl hb
theorem law_calls {P : Program} {f : FuncId} {args : List V2} (hc : Con P f [] args [] (B true)) (w : World) (vs : List Value) (hl : vs.length = args.length) (hr : ∀ (i : Nat) (x : V2) (v : Value),args[i]? = some x → vs[i]? = some v → R2 w (fun _ => .nil) (fun b => b < w.heap.size) x v) :
  Calls P f vs.toArray w fun e w' => e = .returned (.bool true) ∧ Below w.heap.size w w' := by
 refine (hc w (fun _ => .nil) (fun b => b < w.heap.size) vs ⟨fun _ => trivial,fun _ => by simp [Pc.fp],fun p q b h => by simp [Pc.fp] at h,fun p b h => by simp [Pc.fp] at h,fun _ h => h⟩ (fun p => by simp [RB]) hl hr).mono ?_
 rintro e w' ⟨H',F',rv,rfl,hs,_,_,hv⟩
 refine ⟨by rw [(RO.plain (show RO w' _ (.v (.bool true)) rv from hv)).1],hs.os,hs.tape,hs.output,hs.size,fun b hb => hs.keep b hb fun p => by simp [Pc.fp]⟩
end
section
open Go.RowKit

theorem Xo {a b : Int} (h : a = b) : I a = I b := by rw [h]
theorem B_eq {a b : Bool} (h : a = b) : B a = B b := by rw [h]
theorem eq_ne {α : Type} [DecidableEq α] {xs ys : List α} {j : Nat} (h1 : j < xs.length) (h2 : j < ys.length) (h : ¬ xs[j] = ys[j]) : decide (xs = ys) = false := by
 rw [decide_eq_false_iff_not]
 intro e
 subst e
 exact h J
theorem eq_all {α : Type} [DecidableEq α] {xs ys : List α} {j : Nat} (h1 : xs.length ≤ j) (h2 : xs.length = ys.length) (h : xs.take j = ys.take j) : decide (xs = ys) = true := by
 rw [List.take_of_length_le h1,List.take_of_length_le (by omega)] at h
 simp [h]
theorem eq_len {α : Type} [DecidableEq α] {xs ys : List α} (h : xs.length ≠ ys.length) : decide (xs = ys) = false := by
 rw [decide_eq_false_iff_not]
 intro e
 subst e
 exact h J
theorem eq_next {α : Type} {xs ys : List α} {j : Nat} (h1 : j < xs.length) (h2 : j < ys.length) (h : xs.take j = ys.take j) (e : xs[j] = ys[j]) : xs.take (j + 1) = ys.take (j + 1) := by
 rw [List.take_succ_eq_append_getElem h1,List.take_succ_eq_append_getElem h2,h,e]

/-! ### Counting -/
/-! ### Copying -/
def part {α : Type} [Enc α] (xs : List α) (z : List T) (k : Nat) : List (List T) := els (xs.take k) ++ List.replicate (xs.length - k) z
theorem row_eq {k : Nat} {a b : List (List T)} (h : a = b) : [Ob.row k a] = [Ob.row k b] := by rw [h]

/-! ### Comparing -/
end
section
open Go.RowKit

def ownO : List T → List Ob
 | [] => []
 | .v _ :: ts => ownO ts
 | .sl k es :: ts => .row k es :: ownO ts
 | .un :: ts => ownO ts
def ownV : Nat → List T → List V1
 | _,[] => []
 | n,.v x :: ts => .rd [] (.v x) :: ownV n ts
 | n,.sl _ _ :: ts => .ref n :: ownV (n + 1) ts
 | n,.un :: ts => .un :: ownV n ts

structure TLevel where
 Rows : (List ByteArray)
 deriving DecidableEq
instance : Enc TLevel := ⟨1,by omega,fun x => [sl x.Rows],fun _ => rfl,fun x => Enc.gd x.Rows,fun x => Enc.wt x.Rows⟩
theorem TLevel.same {x y : TLevel} (h0 : x.Rows = y.Rows) : x = y := by cases x; cases y; simp_all
structure TReplay where
 Level : TLevel
 Players : Int
 Seed : Int
 Every : Int
 Rows : (List (List Int))
 Keys : (List ByteArray)
 deriving DecidableEq
instance : Enc TReplay := ⟨6,by omega,fun x => [sl x.Level.Rows,.v (.int .i64 x.Players),.v (.int .i64 x.Seed),.v (.int .i64 x.Every),sl x.Rows,sl x.Keys],fun _ => rfl,fun x => Enc.gd x.Level ∧ Enc.gd x.Players ∧ Enc.gd x.Seed ∧ Enc.gd x.Every ∧ Enc.gd x.Rows ∧ Enc.gd x.Keys,fun x => Enc.wt x.Level + Enc.wt x.Rows + Enc.wt x.Keys⟩
theorem TReplay.same {x y : TReplay} (h0 : x.Level = y.Level) (h1 : x.Players = y.Players) (h2 : x.Seed = y.Seed) (h3 : x.Every = y.Every) (h4 : x.Rows = y.Rows) (h5 : x.Keys = y.Keys) : x = y := by cases x; cases y; simp_all
end
section
open Go.RowKit

theorem Con.kit {P : Program} {f : FuncId} {args : List V2} {x : Value} (hx : x.oneCell' = true)
  (h : ∀ (w : World) (H : Hs) (F : Nat → Prop) (vs : List Value),Ok w H F → (∀ p,H p = .nil) → vs.length = args.length → (∀ (i : Nat) (x : V2) (v : Value),args[i]? = some x → vs[i]? = some v → R2 w H F x v) → Calls P f vs.toArray w fun e w' => e = .returned x ∧ Below w.heap.size w w') :
  Con P f [] args [] (.o (.c (.rd [] (.v x)))) := by
 intro w H F vs hok hob hlen hargs
 have hnil : ∀ p,H p = .nil := fun p => by simpa [RB] using hob p
 refine (h w H F vs hok hnil hlen hargs).mono ?_
 rintro e w' ⟨rfl,hb⟩
 refine ⟨H,F,x,J,⟨hb.os,hb.tape,hb.output,hb.size,fun b h1 _ => hb.block b h1,fun _ h => h,fun _ h => .inl h,fun p b hb => .inl ⟨p,hb⟩,fun p i v h => ⟨p,h⟩⟩,⟨fun p => ?_,hok.nodup,hok.disj,hok.free,fun b h => Nat.lt_of_lt_of_le (hok.flt b h) hb.size⟩,fun p => ?_,RO.v _ hx⟩
 ·rw [hnil p]; trivial
 ·show RB w' H F p .gone
  exact hnil p
end
section
open Go.RowKit

def inR (n lo hi : Int) : Bool := decide (lo ≤ n) && decide (n ≤ hi)
theorem Yi {n lo hi : Int} : inR n lo hi = true ↔ lo ≤ n ∧ n ≤ hi := by simp [inR]
theorem Xn (n lo hi : Int) : Con Tryd.prog 53 [] [ai n,ai lo,ai hi] [] (B (inR n lo hi)) := by
 refine Con.of Tryd.func53 J Tryd.ntmps53 J (fun E => ?_)
 refine zy (z1 J (zz (zy (z0 J (z0 J (zx (q_geq J J J J) J (z0 J ?_)))))));refine zx (Qt.grdT J J J .stop (fun hgrd => Qa J J J)) J ?_;refine zx (Qt.grdT J J J (.hit .stop) (fun hgrd => Qa J J J)) J ?_;refine zx (Qt.grdT J J J (.hit (.hit .stop)) (fun hgrd => q_leq J J J J)) J ?_;refine zx (Yq J J J J) J (z1 J (zz (Xa (F_r ?_))))
 exact Xl J J (Xs [] (by decide) J J J)
theorem S_in (n lo hi : Int) : Con Tryd.prog 46 [] [ai n,ai lo,ai hi] [] (B (inR n lo hi)) := by
 refine Con.of Tryd.func46 J Tryd.ntmps46 J (fun E => ?_)
 refine zy (z1 J (zz (zy (z0 J (z0 J (zx (q_geq J J J J) J (z0 J ?_)))))));refine zx (Qt.grdT J J J .stop (fun hgrd => Qa J J J)) J ?_;refine zx (Qt.grdT J J J (.hit .stop) (fun hgrd => Qa J J J)) J ?_;refine zx (Qt.grdT J J J (.hit (.hit .stop)) (fun hgrd => q_leq J J J J)) J ?_;refine zx (Yq J J J J) J (z1 J (zz (Xa (F_r ?_))))
 exact Xl J J (Xs [] (by decide) J J J)

section
variable {α : Type} {p : α → Bool} {xs : List α} {k : Nat}
theorem all_next (h : (xs.take k).all p = true) (hk : k < xs.length) (hp : p xs[k] = true) : (xs.take (k + 1)).all p = true := by
 rw [List.take_succ_eq_append_getElem hk,List.all_append,h]
 simp [hp]
theorem all_no (hk : k < xs.length) (hp : p xs[k] = false) : xs.all p = false := by
 rw [List.all_eq_false]
 exact ⟨_,List.getElem_mem hk,by simp [hp]⟩
theorem all_end (h : (xs.take k).all p = true) (hk : xs.length ≤ k) : xs.all p = true := by rwa [List.take_of_length_le hk] at h
end
def inOk (xs : List Int) : Bool := xs.all fun n => inR n 0 15
def rowOk (xs : List Int) (n : Int) : Bool := decide ((xs.length : Int) = n) && inOk xs

theorem S_rowOk (xs : List Int) (n : Int) (hn : Enc.gd xs) : Con Tryd.prog 107 [] [al xs,ai n] [] (B (rowOk xs n)) := by
 have hn1 := hn.1
 have hlx := X7 xs
 refine Con.of Tryd.func107 J Tryd.ntmps107 J (fun E => ?_)
 refine zy (z1 J (zz (Qd (zy (z1 J (zz (Qk ?_)))))));refine Xi (fun m st => ∃ k : Nat,k + m = xs.length ∧ ((xs.take k).all (fun n => inR n 0 15) = true) ∧ st = (⟨_,[(0,L xs),(1,I n),(5,I k)],[]⟩ : St)) (xs.length) ⟨_,⟨0,by omega,by simp,J⟩,Xt [] (by kernel_rfl)⟩ ?_
 rintro m_A _ ⟨k,hk_A,hp_A,rfl⟩
 refine Qd (zy (z0 J (z0 J (zx (Y2 J J J) J (zx (Y7 J J J J) J (zz ?_))))))
 refine Xb J (fun h => ?_) (fun h => ?_)
 ·have h3 : k < xs.length := by have := of_decide_eq_true h; omega
  have hat := X6 h3
  refine Qh (Q0 (Qd (Qk (zy (z0 J (z0 J (zx (Q2 J J J J (by omega) (by assumption) J) J (zx (Y6 J J J J) J ?_))))))));refine zx (Qj J J (S_in xs[k] 0 15) J) J ?_;refine zn J (zz ?_)
  refine Xb J (fun h4 => ?_) (fun h4 => ?_)
  ·refine zy (z1 rfl (zz (Xa (B_r (T_r (T_r (B_r ?_)))))))
   refine T_r (F_r ?_)
   exact Xl J J (Xs [] (by decide) J J (B_eq (by unfold rowOk inOk; rw [all_no h3 (by simpa using h4)]; simp)))
  ·refine Qh (Q1 (Q0 (Qc (z0 rfl (z7 rfl (by omega) ?_)))))
   refine z1 J (zz ?_)
   exact ⟨xs.length - (k + 1),by omega,_,⟨k + 1,by omega,all_next hp_A h3 (by simpa using h4),J⟩,Xt [] (by kernel_rfl)⟩
 ·have h3 : ¬ ((k : Int) < (els xs).length) := of_decide_eq_false h
  refine Q9 (T_x (T_x (Xj (Q0 (zy (z0 J (zx (Y2 J J J) J (z0 J (zx (Yx J J J J) J (z1 J ?_))))))))));refine zz (Xa (F_r ?_))
  exact Xl J J (Xs [] (by decide) J J (B_eq (by unfold rowOk inOk; rw [all_end hp_A (by omega),hlx]; simp)))
end
section
open Go.RowKit

def fmtN (k : Nat) : ByteArray := bs (Lib.decDigits k)
def decG (m : Nat) : List UInt8 := if m = 0 then [] else Lib.decDigits m
theorem decG_step {m : Nat} (h : m ≠ 0) : decG m = decG (m / 10) ++ [UInt8.ofNat (48 + m % 10)] := by
 rw [decG,if_neg h]
 by_cases h1 : m < 10
 ·rw [Lib.decDigits_one h1,decG,if_pos (by omega),Nat.mod_eq_of_lt h1]; rfl
 ·rw [Lib.decDigits,dif_neg h1,decG,if_neg (by omega)]
theorem dec_len (m : Nat) : (Lib.decDigits m).length ≤ m + 1 := by
 induction m using Nat.strongRecOn with
 | ind m ih =>
  by_cases h : m < 10
  ·rw [Lib.decDigits_one h]; simp
  ·rw [Lib.decDigits,dif_neg h,List.length_append]
   have := ih (m / 10) (by omega)
   simp only [List.length_cons,List.length_nil]
   omega
theorem Yd (k : Nat) : (fmtN k).size ≤ k + 1 := by rw [fmtN,Xz]; exact dec_len k
theorem I_Itoa (k : Nat) (h : k < 100) : Con Tryd.prog 74 [] [ai k] [] (S (fmtN k)) := by
 refine Con.kit J fun w H F vs hok hnil hlen hargs => ?_
 match vs,hlen with
 | [v],_ =>
  obtain ⟨rfl,_⟩ : v = .int .i64 k ∧ _ := RO.plain (hargs 0 _ v rfl rfl)
  exact (Tryd.strconv_Itoa_small k h w).mono fun e w' ⟨he,hw⟩ => ⟨he,hw ▸ Below.refl _ _⟩
theorem Xm (k : Nat) (h : k < 100) : Con Tryd.prog 33 [] [ai k] [] (S (fmtN k)) := by
 have hc := I_Itoa k h
 refine Con.of Tryd.func33 J Tryd.ntmps33 J (fun E => ?_)
 refine zy (z1 J (zz (zy (z0 J ?_))));refine zx (Qj J J (hc) J) J ?_;refine z1 J (zz (Xa (F_r ?_)))
 exact Xl J J (Xs [] (by decide) J J J)
theorem S_l01Figure (d : Int) (h0 : 0 ≤ d) (h : d < 10) : Con Tryd.prog 69 [] [ai d] [] (VI .u8 (48 + d)) := by
 have hb : decide (d < 10) = true := decide_eq_true h
 refine Con.of Tryd.func69 J Tryd.ntmps69 J (fun E => ?_)
 refine zy (z1 J (zz (Qd (zy (z0 J (z9a J (by assumption) (zz ?_)))))));refine Qm J (zy (z0 J (z7 J (by omega) (zx (Yw J J J J (wrap_u8_in (by omega))) J (z1 J (zz (Xa (T_r (F_r ?_)))))))))
 exact Xl J J (Xs [] (by decide) J J J)
theorem S_FormatInt (n : Nat) (hn : n ≤ 1099511627776) : Con Tryd.prog 27 [] [ai n] [] (S (fmtN n)) := by
 by_cases h0 : n = 0
 ·subst h0
  have hb0 : decide (((0 : Nat) : Int) = 0) = true := decide_eq_true rfl
  refine Con.of Tryd.func27 J Tryd.ntmps27 J (fun E => ?_)
  refine zy (z1 J (zz (Qd (zy (z0 J (z9e J (by assumption) (zz ?_)))))));refine Qm J (zy (z1 J (zz (Xa (T_r (F_r ?_))))))
  exact Xl J J (Xs [] (by decide) J J (S_eq (by rw [fmtN,Lib.decDigits_one (by decide)]; rfl)))
 have hb0 : decide ((n : Int) = 0) = false := decide_eq_false (by omega)
 have hb1 : decide ((n : Int) < 0) = false := decide_eq_false (by omega)
 have hdl := dec_len n
 refine Con.of Tryd.func27 J Tryd.ntmps27 J (fun E => ?_)
 refine zy (z1 J (zz (Qd (zy (z0 J (z9e J (by assumption) (zz ?_)))))));refine Ql J (Qh (Q0 (zy (z0 J (z9a J (by assumption) (z1 J (zz (zy ?_))))))));refine z1 J (zz (Qd (Qk ?_)));refine Xi (fun m__ st => ∃ (m : Nat) (acc : List UInt8),m = m__ ∧ (decG m ++ acc = Lib.decDigits n ∧ m ≤ n) ∧ st = (⟨_,[(0,I m),(3,B false),(4,S (bs acc))],[]⟩ : St)) _ ⟨_,⟨n,[],J,⟨by rw [decG,if_neg h0,List.append_nil],Nat.le_refl _⟩,J⟩,Xt [] (by kernel_rfl)⟩ ?_
 rintro m_A _ ⟨m,acc,hk_A,hp_A,rfl⟩
 obtain ⟨hp1,hp2⟩ := hp_A
 have hal : acc.length ≤ n + 1 := by rw [← hp1,List.length_append] at hdl; omega
 refine Qd (zy (z0 J (zx (Y9 J J J J) J (zz ?_))))
 refine Xb J (fun h => ?_) (fun h => ?_)
 ·have h3 : m ≠ 0 := by have := of_decide_eq_true h; omega
  have hb2 : decide ((m : Int) % 10 < 0) = false := decide_eq_false (by omega)
  have hc := S_l01Figure ((m : Int) % 10) (by omega) (by omega)
  have hsz := Xz acc
  have hs1 : (bs [UInt8.ofNat (48 + (m : Int) % 10).toNat]).size = 1 := Xz _
  have hnx : decG (m / 10) ++ ([UInt8.ofNat (48 + (m : Int) % 10).toNat] ++ acc) = Lib.decDigits n := by rw [← hp1,decG_step h3,List.append_assoc]; congr 3
  refine Qh (Q0 (Qk (zy (z0 J (zx (q_rem J J J J (by omega)) J (z1 J (zz (Qd (Qd ?_)))))))));refine Qc (z0 J (z9a J (by assumption) (zz (Ql J (Qh (Q0 (zy (z0 J ?_))))))));refine zx (Qj J J (hc) J) J ?_;refine M1 (Yt J J J J J J) J J (zx (q_bstrb J J J J J) J (z0 J ?_))
  refine M0 (q_cat J J J J (by simp only [Xz,X4,List.length_cons,List.length_nil,List.length_append]; omega)) J J ?_
  refine z1 J (zz (Qc (z0 J (zx (q_quo J J J J (by omega)) J (z1 J (Qe (Q1 (Q0 ?_))))))))
  refine ⟨_,(by omega),(fun (m : Nat) (acc : List UInt8) => (⟨_,[(0,I m),(3,B false),(4,S (bs acc))],[]⟩ : St)) (m / 10) ([UInt8.ofNat (48 + (m : Int) % 10).toNat] ++ acc),⟨m / 10,[UInt8.ofNat (48 + (m : Int) % 10).toNat] ++ acc,J,⟨hnx,by omega⟩,J⟩,Xu [] (by decide) J (by kernel_rfl) (.cons (Xo (by omega)) (.c J (.cons (S_eq (bs_app _ _)) (.nil))))⟩
 ·have h3 : m = 0 := by have := of_decide_eq_false h; omega
  subst h3
  refine Q9 (T_x (T_x (Xj (Q0 (Qd (zy (z0 J (zz (Ql J ?_)))))))));refine Qh (Q0 (zy (z0 J (z1 J (zz (Xa (F_r ?_)))))))
  exact Xl J J (Xs [] (by decide) J J (S_eq (by rw [fmtN,← hp1]; rfl)))
end
section
open Go.RowKit

def V2.mapk (k : V1 → V1) : V2 → V2
 | .c x => .c (k x)
 | .ag xs => .ag (xs.map k)
def V.mapk (k : V1 → V1) : V → V
 | .o x => .o (x.mapk k)
 | .tu xs => .tu (xs.map (V2.mapk k))
 | .iff cs x => .iff cs (x.mapk k)
def Ob.mapk (k : V1 → V1) : Ob → Ob
 | .box cs => .box (cs.map k)
 | .gh i x => .gh i (x.mapk k)
 | ob => ob

section
variable {P : Program} {E : Env} {ops : Array Oper} {o : Oper} {st : St} {n : Nat} {rest : List Oper} {QQ : Exit → St → Prop} {w w' : World} {H H' : Hs} {F F' : Nat → Prop} {a : Act}

theorem R2.mapk {k : V1 → V1} (hk : ∀ x v,R1 w H F x v → R1 w' H' F' (k x) v) {x : V2} {v : Value} (h : R2 w H F x v) : R2 w' H' F' (x.mapk k) v := by
 cases x with
 | c x => exact hk _ _ h
 | ag xs =>
  obtain ⟨us,e,hl,hr⟩ := h
  refine ⟨us,e,by simpa using hl,fun i x u h1 h2 => ?_⟩
  rw [List.getElem?_map] at h1
  obtain ⟨y,h3,rfl⟩ := Option.map_eq_some_iff.1 h1
  exact hk _ _ (hr i y u h3 h2)
theorem RV.mapk {k : V1 → V1} (hk : ∀ x v,R1 w H F x v → R1 w' H' F' (k x) v) {x : V} {v : Value} (h : RV w H F x v) : RV w' H' F' (x.mapk k) v := by
 cases x with
 | o x => exact R2.mapk hk h
 | tu xs =>
  obtain ⟨us,e,hl,hr⟩ := h
  refine ⟨us,e,by simpa using hl,fun i x u h1 h2 => ?_⟩
  rw [List.getElem?_map] at h1
  obtain ⟨y,h3,rfl⟩ := Option.map_eq_some_iff.1 h1
  exact R2.mapk hk (hr i y u h3 h2)
 | iff cs x => exact ⟨fun hc => R2.mapk hk (h.1 hc),h.2⟩
theorem RB.mapk {k : V1 → V1} (hk : ∀ x v,R1 w H F x v → R1 w' H' F' (k x) v) {p : Nat} (hp : H' p = H p) {ob : Ob} (h : RB w H F p ob) (hk0 : ∀ t,k (.rd [] t) = .rd [] t := by intro t; rfl) : RB w' H' F' p (ob.mapk k) := by
 cases ob with
 | gone => exact hp.trans h
 | hole => trivial
 | box cs =>
  obtain ⟨g,t,vs,e,hl,hr⟩ := h
  refine ⟨g,t,vs,hp.trans e,by simpa using hl,fun i c u h1 h2 => ?_⟩
  rw [List.getElem?_map] at h1
  obtain ⟨y,h3,rfl⟩ := Option.map_eq_some_iff.1 h1
  exact ⟨hk _ _ (hr i y u h3 h2).1,(hr i y u h3 h2).2⟩
 | row k es => obtain ⟨v,fp,e⟩ := h; exact ⟨v,fp,hp.trans e⟩
 | gh i x => obtain ⟨v,e,hr⟩ := h; exact ⟨v,hp.trans e,R2.mapk hk hr⟩
 | shr es => obtain ⟨us,v,fp,e,hl,hr⟩ := h; exact ⟨us,v,fp,hp.trans e,hl,fun i t u h1 h2 => by have := hk _ _ (hr i t u h1 h2); rwa [hk0] at this⟩
theorem R0.mapk (h : R0 w H F st a) (k : V1 → V1) (hk : ∀ x v,R1 w H F x v → R1 w' H' F (k x) v) (hok : Ok w' H' F) (objs' : List Ob) (hob : ∀ p,RB w' H' F p (objs'.getD p .gone)) :
  R0 w' H' F ⟨st.n,st.tmps.map fun e => (e.1,e.2.mapk k),objs'⟩ a := by
 refine ⟨hok,hob,fun d => ?_,h.size,h.defers⟩
 have hl : ∀ l : List (Nat × V),RV w H F (look l d) (a.tmps.getD d undef) → RV w' H' F (look (l.map fun e => (e.1,e.2.mapk k)) d) (a.tmps.getD d undef) := by
  intro l
  induction l with
  | nil => intro _; trivial
  | cons e l ih =>
   obtain ⟨e1,e2⟩ := e
   rw [List.map_cons,Yk,Yk]
   split
   ·exact RV.mapk hk
   ·exact ih
 exact hl _ (h.tmp d)

def idxN : List Nat → Nat → Nat → Option Nat
 | [],_,_ => none
 | r :: rs,p,i => match Nat.beq r p with
  | true => some i
  | false => idxN rs p (i + 1)
theorem idxN_ok : ∀ (ρ : List Nat) (p i j : Nat),idxN ρ p i = some j → i ≤ j ∧ ρ[j - i]? = some p
 | [],p,i,j,h => by simp [idxN] at h
 | r :: rs,p,i,j,h => by
  rw [idxN] at h
  split at h
  ·rename_i e
   have := Nat.eq_of_beq_eq_true e
   simp only [Option.some.injEq] at h
   subst h this
   exact ⟨Nat.le_refl _,by simp⟩
  ·obtain ⟨h1,h2⟩ := idxN_ok rs p (i + 1) j h
   exact ⟨by omega,by rw [show j - i = (j - (i + 1)) + 1 by omega,List.getElem?_cons_succ]; exact h2⟩
theorem idxN_none : ∀ (ρ : List Nat) (p i : Nat),idxN ρ p i = none → p ∉ ρ
 | [],p,i,_ => by simp
 | r :: rs,p,i,h => by
  rw [idxN] at h
  split at h
  ·cases h
  ·rename_i e
   have h1 := idxN_none rs p (i + 1) h
   intro hp
   rcases List.mem_cons.1 hp with rfl | hp
   ·rw [show Nat.beq p p = true from Nat.beq_refl p] at e; cases e
   ·exact h1 hp
def offN (ρ qs : List Nat) : Bool := qs.all fun q => !memN ρ q
def V1.killw (ps kc : List Nat) : V1 → V1
 | .rd qs x => match offN ps qs with
  | true => .rd qs x
  | false => match x with
   | .v u => .rd [] (.v u)
   | _ => .un
 | .ref p => match memN ps p with
  | false => .ref p
  | true => match memN kc p with
   | true => .ref p
   | false => .un
 | .ptr p i => match memN ps p with
  | false => .ptr p i
  | true => match memN kc p with
   | true => .ptr p i
   | false => .un
 | .el p k i j => match memN ps p with
  | false => .el p k i j
  | true => match memN kc p with
   | true => .el p k i j
   | false => .un
 | .sb p n k => match memN ps p with
  | false => .sb p n k
  | true => .un
 | .rp qs xs => match offN ps qs with
  | true => .rp qs xs
  | false => .un
 | .le p k i j => match memN ps p with
  | false => .le p k i j
  | true => .un
 | .hd p n => match memN ps p with
  | false => .hd p n
  | true => .un
 | .tl p k n => match memN ps p with
  | false => .tl p k n
  | true => match memN kc p with
   | true => .tl p k n
   | false => .un
 | .un => .un
def Place (x y : Pc) : Prop := (∃ t v fp t' fp',x = .ow t v fp ∧ y = .ow t' v fp') ∨ ∃ g t vs t' vs',x = .box g t vs ∧ y = .box g t' vs'

theorem offN_ok {ρ qs : List Nat} (h : offN ρ qs = true) : ∀ q ∈ qs,q ∉ ρ := fun q hq => by
 have := List.all_eq_true.1 h q hq
 simp only [Bool.not_eq_true'] at this
 exact memN_not this
theorem R1.killw {ps kc : List Nat} (hok : Ok w H F) (ht : Turn w H w' H' ps) (hkc : ∀ p ∈ kc,Place (H p) (H' p)) {x : V1} {v : Value} (h : R1 w H F x v) : R1 w' H' F (x.killw ps kc) v := by
 have hoff : ∀ qs : List Nat,offN ps qs = true → (qs.all fun q => !ps.contains q) = true := fun qs hq => List.all_eq_true.2 fun q hm => by simpa using offN_ok hq q hm
 have hone : ∀ p,memN ps p = false → (!ps.contains p) = true := fun p hp => by simpa using memN_not hp
 cases x with
 | rd qs x =>
  simp only [V1.killw]
  split
  ·rename_i hq; exact R1.turn hok ht (x := .rd qs x) (hoff qs hq) h
  ·split
   ·obtain ⟨rfl,h1⟩ := RO.plain h; exact RO.v _ h1
   ·trivial
 | ref p =>
  simp only [V1.killw]
  split
  ·rename_i hp; exact R1.turn hok ht (x := .ref p) (hone p hp) h
  ·split
   ·rename_i hp
    obtain ⟨x,fp,e⟩ := h
    rcases hkc p ((Ym _ _).1 hp) with ⟨t,v',fp1,t',fp2,e1,e2⟩ | ⟨g,t,vs,t',vs',e1,e2⟩
    ·rw [e] at e1
     simp only [Pc.ow.injEq] at e1
     obtain ⟨_,rfl,_⟩ := e1
     exact ⟨t',fp2,e2⟩
    ·rw [e] at e1; cases e1
   ·trivial
 | ptr p i =>
  simp only [V1.killw]
  split
  ·rename_i hp; exact R1.turn hok ht (x := .ptr p i) (hone p hp) h
  ·split
   ·rename_i hp
    obtain ⟨g0,t0,vs0,e,hv⟩ := h
    rcases hkc p ((Ym _ _).1 hp) with ⟨t,v',fp1,t',fp2,e1,e2⟩ | ⟨g,t,vs,t',vs',e1,e2⟩
    ·rw [e] at e1; cases e1
    ·rw [e] at e1
     simp only [Pc.box.injEq] at e1
     obtain ⟨rfl,_,_⟩ := e1
     exact ⟨_,_,_,e2,hv⟩
   ·trivial
 | el p k i j =>
  simp only [V1.killw]
  split
  ·rename_i hp; exact R1.turn hok ht (x := .el p k i j) (hone p hp) h
  ·split
   ·rename_i hp
    obtain ⟨b,o,n,c,x,fp,e,hv⟩ := h
    rcases hkc p ((Ym _ _).1 hp) with ⟨t,v',fp1,t',fp2,e1,e2⟩ | ⟨g,t,vs,t',vs',e1,e2⟩
    ·rw [e] at e1
     simp only [Pc.ow.injEq] at e1
     obtain ⟨_,rfl,_⟩ := e1
     exact ⟨b,o,n,c,t',fp2,e2,hv⟩
    ·rw [e] at e1; cases e1
   ·trivial
 | sb p n k =>
  simp only [V1.killw]
  split
  ·rename_i hp; exact R1.turn hok ht (x := .sb p n k) (hone p hp) h
  ·trivial
 | rp qs xs =>
  simp only [V1.killw]
  split
  ·rename_i hq; exact R1.turn hok ht (x := .rp qs xs) (hoff qs hq) h
  ·trivial
 | le p k i j =>
  simp only [V1.killw]
  split
  ·rename_i hp; exact R1.turn hok ht (x := .le p k i j) (hone p hp) h
  ·trivial
 | hd p n =>
  simp only [V1.killw]
  split
  ·rename_i hp; exact R1.turn hok ht (x := .hd p n) (hone p hp) h
  ·trivial
 | tl p k n =>
  simp only [V1.killw]
  split
  ·rename_i hp; exact R1.turn hok ht (x := .tl p k n) (hone p hp) h
  ·split
   ·rename_i hp
    obtain ⟨A,A',m,c,x,fp,e,hv⟩ := h
    rcases hkc p ((Ym _ _).1 hp) with ⟨t,v',fp1,t',fp2,e1,e2⟩ | ⟨g,t,vs,t',vs',e1,e2⟩
    ·rw [e] at e1
     simp only [Pc.ow.injEq] at e1
     obtain ⟨_,rfl,_⟩ := e1
     exact ⟨A,A',m,c,t',fp2,e2,hv⟩
    ·rw [e] at e1; cases e1
   ·trivial
 | un => trivial

theorem R1.sub {H1 : Hs} {F1 : Nat → Prop} (hs : ∀ q,H q ≠ .nil → H1 q = H q) (hF : ∀ b,F b → F1 b) {x : V1} {v : Value} (h : R1 w H F x v) : R1 w H1 F1 x v := by
 have hin : ∀ {qs : List Nat} {b : Nat},inP H F qs b → inP H1 F1 qs b := fun hb => by
  rcases hb with hb | ⟨q,hq,x,v,fp,e,hb⟩
  ·exact .inl (hF _ hb)
  ·exact .inr ⟨q,hq,x,v,fp,by rw [hs q (by rw [e]; simp),e],hb⟩
 cases x with
 | rd qs x => exact RO.weak h fun b hb _ => hin hb
 | ref p => obtain ⟨x,fp,e⟩ := h; exact ⟨x,fp,by rw [hs p (by rw [e]; simp),e]⟩
 | ptr p i => obtain ⟨g,t,vs,e,hv⟩ := h; exact ⟨g,t,vs,by rw [hs p (by rw [e]; simp),e],hv⟩
 | sb p n k => obtain ⟨g,t,vs,e,hv⟩ := h; exact ⟨g,t,vs,by rw [hs p (by rw [e]; simp),e],hv⟩
 | el p k i j => obtain ⟨b,o,n,c,x,fp,e,hv⟩ := h; exact ⟨b,o,n,c,x,fp,by rw [hs p (by rw [e]; simp),e],hv⟩
 | le p k i j => obtain ⟨b,o,n,c,x,fp,e,hv⟩ := h; exact ⟨b,o,n,c,x,fp,by rw [hs p (by rw [e]; simp),e],hv⟩
 | hd p n => obtain ⟨A,m,c,x,fp,e,hv⟩ := h; exact ⟨A,m,c,x,fp,by rw [hs p (by rw [e]; simp),e],hv⟩
 | tl p k n => obtain ⟨A,A',m,c,x,fp,e,hv⟩ := h; exact ⟨A,A',m,c,x,fp,by rw [hs p (by rw [e]; simp),e],hv⟩
 | rp qs xs =>
  obtain ⟨b,o,hv,hb,hc⟩ := h
  refine ⟨b,o,hv,hin hb,fun j t hj => ?_⟩
  obtain ⟨u,h1,h2⟩ := hc j t hj
  exact ⟨u,h1,RO.weak h2 fun b hb _ => hin hb⟩
 | un => trivial
theorem R2.sub {H1 : Hs} {F1 : Nat → Prop} (hs : ∀ q,H q ≠ .nil → H1 q = H q) (hF : ∀ b,F b → F1 b) {x : V2} {v : Value} (h : R2 w H F x v) : R2 w H1 F1 x v := by
 cases x with
 | c x => exact R1.sub hs hF h
 | ag xs => obtain ⟨us,e,hl,hr⟩ := h; exact ⟨us,e,hl,fun i x u h1 h2 => R1.sub hs hF (hr i x u h1 h2)⟩
theorem RB.sub {H1 : Hs} {F1 : Nat → Prop} (hs : ∀ q,H q ≠ .nil → H1 q = H q) (hF : ∀ b,F b → F1 b) {p : Nat} {ob : Ob} (hp : H p ≠ .nil) (h : RB w H F p ob) : RB w H1 F1 p ob := by
 cases ob with
 | gone => exact absurd h hp
 | hole => trivial
 | box cs => obtain ⟨g,t,vs,e,hl,hr⟩ := h; exact ⟨g,t,vs,by rw [hs p hp,e],hl,fun i c u h1 h2 => ⟨R1.sub hs hF (hr i c u h1 h2).1,(hr i c u h1 h2).2⟩⟩
 | row k es => obtain ⟨v,fp,e⟩ := h; exact ⟨v,fp,by rw [hs p hp,e]⟩
 | gh i x => obtain ⟨v,e,hr⟩ := h; exact ⟨v,by rw [hs p hp,e],R2.sub hs hF hr⟩
 | shr es => obtain ⟨us,v,fp,e,hl,hr⟩ := h; exact ⟨us,v,fp,by rw [hs p hp,e],hl,fun i t u h1 h2 => R1.sub hs hF (hr i t u h1 h2)⟩

def phi (ρ : List Nat) (m N q : Nat) : Nat := match Nat.blt q ρ.length with
 | true => ρ.getD q 0
 | false => N + (q - (ρ.length + m))
section
variable {H2 : Hs} {F2 : Nat → Prop} {φ : Nat → Nat}
theorem plantw1 (hpl : ∀ q,H2 q ≠ .nil → (∀ i v,H2 q ≠ .gh i v) → H' (φ q) = H2 q) {x : V1} {v : Value} (hc : x.closed = true) (hx : R1 w H2 F2 x v) : R1 w H' F (x.ren φ) v := by
 cases x with
 | rd ps x =>
  cases x with
  | v x => obtain ⟨rfl,h⟩ := RO.plain hx; exact RO.v _ h
  | sl k es => simp [V1.closed] at hc
  | un => exact RO.un _ (RO.one hx)
 | ref q => obtain ⟨x,fp,e⟩ := hx; exact ⟨x,fp,by rw [hpl q (by rw [e]; simp) (by rw [e]; simp),e]⟩
 | ptr q i => obtain ⟨g,t,vs,e,hv⟩ := hx; exact ⟨g,t,vs,by rw [hpl q (by rw [e]; simp) (by rw [e]; simp),e],hv⟩
 | sb q i j => obtain ⟨g,t,vs,e,hv⟩ := hx; exact ⟨g,t,vs,by rw [hpl q (by rw [e]; simp) (by rw [e]; simp),e],hv⟩
 | el q k i j => obtain ⟨b,o,n',c,x,fp,e,hv⟩ := hx; exact ⟨b,o,n',c,x,fp,by rw [hpl q (by rw [e]; simp) (by rw [e]; simp),e],hv⟩
 | rp => simp [V1.closed] at hc
 | le q k i j => obtain ⟨b,o,n',c,x,fp,e,hv⟩ := hx; exact ⟨b,o,n',c,x,fp,by rw [hpl q (by rw [e]; simp) (by rw [e]; simp),e],hv⟩
 | hd q i => obtain ⟨A,m',c,x,fp,e,hv⟩ := hx; exact ⟨A,m',c,x,fp,by rw [hpl q (by rw [e]; simp) (by rw [e]; simp),e],hv⟩
 | tl q k i => obtain ⟨A,A',m',c,x,fp,e,hv⟩ := hx; exact ⟨A,A',m',c,x,fp,by rw [hpl q (by rw [e]; simp) (by rw [e]; simp),e],hv⟩
 | un => trivial
def Ob.back : Ob → Bool
 | .box cs => cs.all V1.closed
 | .row _ _ => true
 | _ => false
end
def setL {α : Type} : List α → List Nat → List α → List α
 | l,r :: rs,o :: os => setL (l.set r o) rs os
 | l,_,_ => l
theorem setL_len {α : Type} : ∀ (rs : List Nat) (os : List α) (l : List α),(setL l rs os).length = l.length
 | [],os,l => by cases os <;> rfl
 | r :: rs,[],l => rfl
 | r :: rs,o :: os,l => by rw [setL,setL_len rs os,List.length_set]
theorem setL_out {α : Type} {d : α} : ∀ (rs : List Nat) (os : List α) (l : List α) (p : Nat),p ∉ rs → (setL l rs os).getD p d = l.getD p d
 | [],os,l,p,_ => by cases os <;> rfl
 | r :: rs,[],l,p,_ => rfl
 | r :: rs,o :: os,l,p,hp => by
  rw [setL,setL_out rs os _ p (fun h => hp (by simp [h])),List.getD_eq_getElem?_getD,List.getElem?_set_ne (fun e => hp (by simp [e])),List.getD_eq_getElem?_getD]
theorem setL_in {α : Type} {d : α} : ∀ (rs : List Nat) (os : List α) (l : List α) (q p : Nat) (x : α),rs.Nodup → (∀ r ∈ rs,r < l.length) → rs[q]? = some p → os[q]? = some x → (setL l rs os).getD p d = x
 | [],os,l,q,p,x,_,_,h,_ => by simp at h
 | r :: rs,[],l,q,p,x,_,_,_,h => by simp at h
 | r :: rs,o :: os,l,q,p,x,hn,hl,h1,h2 => by
  obtain ⟨n1,n2⟩ := List.nodup_cons.1 hn
  cases q with
  | zero =>
   simp only [List.getElem?_cons_zero,Option.some.injEq] at h1 h2
   subst h1 h2
   rw [setL,setL_out rs os _ r n1,List.getD_eq_getElem?_getD,List.getElem?_set_self (hl r (by simp))]
   rfl
  | succ q =>
   rw [setL]
   exact setL_in rs os _ q p x n2 (fun r hr => by rw [List.length_set]; exact hl r (by simp [hr])) (by simpa using h1) (by simpa using h2)
def gh1 (g : Nat × V2) : Ob := .gh g.1 g.2
def gsrc (args : List V2) (lo : List Ob) (i : Nat) : Option V2 :=
 match args[i]? with
 | some x => some x
 | none => match lo[i - args.length]? with
  | some (.row _ _) => some (.c (.ref (i - args.length)))
  | _ => none
def pcV : Pc → Value
 | .ow _ v _ => v
 | _ => undef
def plc : V1 → Option Nat
 | .ref q => some q
 | .ptr q _ => some q
 | _ => none

def pickC : V2 → Nat → Option V1
 | .c x,_ => some x
 | .ag xs,j => xs[j]?
def pickU : V2 → Value → Nat → Value
 | .c _,v,_ => v
 | .ag _,v,j => match v with
  | .agg us => us.toList.getD j undef
  | _ => undef
theorem R2.cell {x : V2} {v : Value} {j : Nat} {c : V1} (h : R2 w H F x v) (hp : pickC x j = some c) : R1 w H F c (pickU x v j) := by
 cases x with
 | c x => simp only [pickC,Option.some.injEq] at hp; subst hp; exact h
 | ag xs =>
  obtain ⟨us,rfl,hl,hr⟩ := h
  have hj : j < us.length := by rw [hl]; exact Yf hp
  have := hr j c _ hp (List.getElem?_eq_getElem hj)
  simpa [pickU,List.getD_eq_getElem?_getD,hj] using this

end
end
end Go.Proofs.YtcjclaoogdblbaaDoor
