/-
  Parts of the proof (rules, data, and what functions of the program and of the reference return), among them: What is valid: numbers in a range, rows of inputs, levels, replays; in the program and in the reference; Numbers as text: FormatInt, in the program (below 100) and in the reference.
  Conditions: those that each theorem names.
-/
import Derived.ProofKit
import Derived.Deep.Slices
import Derived.Test.YtcjclaoogdblbaaDoorDDDrRowk0
import Derived.Test.YtcjclaoogdblbaaDoorDDDrRowk11
import Derived.Test.YtcjclaoogdblbaaDoorDDDrRowk12
set_option linter.unusedVariables false
set_option linter.unusedSimpArgs false
set_option maxRecDepth 8000
set_option maxHeartbeats 8000000
namespace Go.Proofs.YtcjclaoogdblbaaDoor
section
open Go.RowKit Go.ChangeShapes Go.WideShapes Go.Deep

def I64 (x : Int) : Prop := -9223372036854775808 ≤ x ∧ x ≤ 9223372036854775807

class Enc (α : Type) where
 k : Nat
 pos : 0 < k
 e : α → List T
 len : ∀ x,(e x).length = k
 gd : α → Prop
 wt : α → Nat
instance : Enc Int := ⟨1,by omega,fun x => [.v (.int .i64 x)],fun _ => rfl,I64,fun _ => 0⟩
instance : Enc Bool := ⟨1,by omega,fun x => [.v (.bool x)],fun _ => rfl,fun _ => True,fun _ => 0⟩
instance : Enc ByteArray := ⟨1,by omega,fun x => [.v (.string x)],fun _ => rfl,fun x => x.size ≤ 9223372036854775807,fun x => x.size⟩
def wts {α : Type} [Enc α] : List α → Nat
 | [] => 0
 | x :: xs => Enc.wt x + wts xs
@[reducible] def els {α : Type} [Enc α] (xs : List α) : List (List T) := xs.map Enc.e
instance {α : Type} [Enc α] : Enc (List α) := ⟨1,by omega,fun xs => [.sl (Enc.k α) (els xs)],fun _ => rfl,fun xs => xs.length ≤ 9223372036854775807 ∧ ∀ x ∈ xs,Enc.gd x,fun xs => xs.length + wts xs⟩

@[reducible] def sl {α : Type} [Enc α] (xs : List α) : T := .sl (Enc.k α) (els xs)
@[reducible] def ai (n : Int) : V2 := .c (.rd [] (.v (.int .i64 n)))
@[reducible] def astr (s : ByteArray) : V2 := .c (.rd [] (.v (.string s)))
@[reducible] def al {α : Type} [Enc α] (xs : List α) : V2 := .c (.rd [] (sl xs))
@[reducible] def ag {α : Type} [Enc α] (x : α) : V2 := .ag ((Enc.e x).map (V1.rd []))
@[reducible] def L {α : Type} [Enc α] (xs : List α) : V := .o (al xs)

class PlainE (α : Type) [Enc α] : Prop where
 plain : ∀ (x : α) (t : T),t ∈ Enc.e x → ∃ u,t = .v u
instance : PlainE Int := ⟨fun x t h => by simp [Enc.e] at h; exact ⟨_,h⟩⟩
instance : PlainE Bool := ⟨fun x t h => by simp [Enc.e] at h; exact ⟨_,h⟩⟩
instance : PlainE ByteArray := ⟨fun x t h => by simp [Enc.e] at h; exact ⟨_,h⟩⟩
theorem els_k {α : Type} [Enc α] (xs : List α) : ∀ e ∈ els xs,e.length = Enc.k α := fun e he => by
 obtain ⟨x,_,rfl⟩ := List.mem_map.1 he
 exact Enc.len x
@[reducible] def bs (l : List UInt8) : ByteArray := ⟨l.toArray⟩
theorem Xz (a b : List UInt8) : bs a ++ bs b = bs (a ++ b) := by
 apply ByteArray.ext
 rw [ByteArray.data_append]
 simp [bs]
theorem X0 (l : List UInt8) : (bs l).size = l.length := by simp [bs,ByteArray.size]
theorem X4 (a b : ByteArray) : (a ++ b).size = a.size + b.size := by simp [ByteArray.size_append]
theorem bs_list (l : List UInt8) : (bs l).data.toList = l := by simp [bs]
theorem bs_of (s : ByteArray) : bs s.data.toList = s := by simp [bs]
theorem bs_inj {a b : List UInt8} : bs a = bs b ↔ a = b := ⟨fun h => by have := congrArg (·.data.toList) h; simpa [bs_list] using this,fun h => by rw [h]⟩
theorem S_eq {a b : ByteArray} (h : a = b) : S a = S b := by rw [h]
theorem bE_app (a b : List UInt8) : bE a ++ bE b = bE (a ++ b) := by simp [bE]
theorem bE_snoc (a : List UInt8) (n : Int) (h : 0 ≤ n ∧ n ≤ 255) : bE a ++ [[.v (.int .u8 n)]] = bE (a ++ [UInt8.ofNat n.toNat]) := by
 have h1 : ((UInt8.ofNat n.toNat).toNat : Int) = n := by
  rw [UInt8.toNat_ofNat']
  omega
 unfold bE
 rw [List.map_append,List.map_cons,List.map_nil,h1]

theorem X7 {α : Type} [Enc α] {xs : List α} {k : Nat} (h : k < xs.length) : (els xs)[(k : Int).toNat]? = some (Enc.e xs[k]) := by simp [els,h]
theorem X8 {α : Type} [Enc α] (xs : List α) : (els xs).length = xs.length := by simp [els]
theorem wts_take {α : Type} [Enc α] : ∀ (xs : List α) (k : Nat) (h : k < xs.length),wts (xs.take (k + 1)) = wts (xs.take k) + Enc.wt xs[k]
 | x :: xs,0,_ => by simp [wts]
 | x :: xs,k + 1,h => by
  have := wts_take xs k (by simpa using h)
  simp only [List.take_succ_cons,wts,List.getElem_cons_succ,this]
  omega
theorem wts_take_le {α : Type} [Enc α] : ∀ (xs : List α) (k : Nat),wts (xs.take k) ≤ wts xs
 | [],k => by simp [wts]
 | x :: xs,0 => by simp [wts]
 | x :: xs,k + 1 => by
  have := wts_take_le xs k
  simp only [List.take_succ_cons,wts]
  omega

/-! ### Readings -/
theorem list_of_each {α : Type} {p : Nat → α → Prop} : ∀ n : Nat,(∀ i,i < n → ∃ y,p i y) → ∃ ys : List α,ys.length = n ∧ ∀ (i : Nat) (y : α),ys[i]? = some y → p i y
 | 0,_ => ⟨[],rfl,fun _ _ h => by simp at h⟩
 | n + 1,h => by
  obtain ⟨ys,h1,h2⟩ := list_of_each n fun i hi => h i (by omega)
  obtain ⟨y,hy⟩ := h n (by omega)
  refine ⟨ys ++ [y],by simp [h1],fun i z hz => ?_⟩
  rcases Nat.lt_or_ge i ys.length with hi | hi
  ·rw [List.getElem?_append_left hi] at hz
   exact h2 i z hz
  ·rw [List.getElem?_append_right hi] at hz
   have hi0 : i - ys.length = 0 := by
    rcases Nat.eq_zero_or_pos (i - ys.length) with h0 | h0
    ·exact h0
    ·rw [List.getElem?_eq_none (by simp; omega)] at hz
     cases hz
   rw [hi0] at hz
   simp only [List.getElem?_cons_zero,Option.some.injEq] at hz
   subst hz
   have : i = n := by omega
   subst this
   exact hy

def Reads {α : Type} [Enc α] (w : World) (x : α) (cs : List Value) : Prop := cs.length = Enc.k α ∧ ∀ (j : Nat) (t : T) (u : Value),(Enc.e x)[j]? = some t → cs[j]? = some u → RO w (fun _ => True) t u

class RdOf (P : Program) (t : TypeId) (α : outParam Type) [Enc α] : Prop where
 size : P.cellsOf t = Enc.k α
 of : ∀ {H : Type} {enc : TypeId × Value → H} {w : World} {spare : Nat → Bool} {held : Bool} {fuel : Nat} {cs : List Value} {x : DataW H × List MemPlace},
  DataW.trod enc P w 0 spare held fuel t cs = some x → ∃ y : α,Enc.gd y ∧ Reads w y cs

theorem i64_of_wf {n : Int} (h : (Lit.int .i64 n).wf = true) : I64 n := by
 simp [Lit.wf,IntKind.min,IntKind.max,IntKind.signed,IntKind.bits] at h
 exact ⟨by omega,by omega⟩
theorem reads_one {α : Type} [Enc α] {w : World} {x : α} {t : T} {u : Value} (he : Enc.e x = [t]) (h : RO w (fun _ => True) t u) : Reads w x [u] := by
 refine ⟨by rw [← Enc.len x,he]; rfl,fun j t' u' h1 h2 => ?_⟩
 rw [he] at h1
 cases j with
 | zero => simp at h1 h2; subst h1 h2; exact h
 | succ j => simp at h1
theorem rdOf_int {P : Program} {t : TypeId} (ht : P.underlying t = some (.int .i64)) (hs : P.cellsOf t = 1) : RdOf P t Int where
 size := hs
 of h := by
  obtain ⟨n,rfl,_,h3⟩ := DataW.trod_int ht h
  exact ⟨n,i64_of_wf h3,reads_one J (.v _ J)⟩
theorem rdOf_string {P : Program} {t : TypeId} (ht : P.underlying t = some .string) (hs : P.cellsOf t = 1) : RdOf P t ByteArray where
 size := hs
 of h := by
  obtain ⟨s,rfl,_,h3⟩ := DataW.trod_string ht h
  exact ⟨s,by simpa [maxLen,Enc.gd] using h3,reads_one J (.v _ J)⟩
theorem rdOf_slice {P : Program} {t e : TypeId} {α : Type} [Enc α] [hα : RdOf P e α] (ht : P.underlying t = some (.slice e)) (hs : P.cellsOf t = 1) : RdOf P t (List α) where
 size := hs
 of {H enc w spare held fuel cs x} h := by
  rcases open_slice ht h with ⟨rfl,_⟩ | ⟨a,len,cap,m,n,D,Pl,rfl,_,hl,hm,hmm,_,hi⟩
  ·exact ⟨[],⟨by simp,by simp⟩,reads_one rfl (.nil _ _ _ (by simp [maxLen]))⟩
  ·have hlm : len ≤ m := by rw [hmm]; split <;> omega
   obtain ⟨ys,h1,h2⟩ := list_of_each (p := fun i y => ∃ es,w.cells? 0 (a.add (i * P.cellsOf e)) (P.cellsOf e) = some es ∧ Enc.gd (α := α) y ∧ Reads w y es) len fun i hi' => by
    obtain ⟨es,h3,h4⟩ := hi i (by omega)
    obtain ⟨y,hy⟩ := hα.of h4
    exact ⟨y,es,h3,hy⟩
   subst h1
   refine ⟨ys,⟨by simp [maxLen] at hm; omega,fun y hy => ?_⟩,?_⟩
   ·obtain ⟨i,hi'⟩ := List.getElem?_of_mem hy
    obtain ⟨es,_,hg,_⟩ := h2 i y hi'
    exact hg
   refine reads_one J ?_
   rcases Nat.eq_zero_or_pos ys.length with h0 | h0
   ·have := List.eq_nil_of_length_eq_zero h0
    subst this
    exact .nil _ _ _ hm
   ·have hsp : a.spot = none := by
     obtain ⟨es,h3,_⟩ := h2 0 _ (List.getElem?_eq_getElem h0)
     obtain ⟨_,hcl,hat⟩ := World.cells?_some h3
     have hp : 0 < P.cellsOf e := by rw [hα.size]; exact Enc.pos
     have := hat 0 hp
     rw [List.getElem?_eq_getElem (by omega)] at this
     have h5 := World.cell?_spot this
     simpa [Addr.add] using h5
    obtain ⟨b,o,sp⟩ := a
    simp only at hsp
    subst hsp
    have hel : ∀ i,i < ys.length → ∃ es,w.cells? 0 ((⟨b,o,none⟩ : Addr).add (i * P.cellsOf e)) (P.cellsOf e) = some es := fun i hi' => by
     obtain ⟨es,h3,_⟩ := h2 i _ (List.getElem?_eq_getElem hi')
     exact ⟨es,h3⟩
    have hlen : ys.length = (els ys).length := (X8 ys).symm
    rw [hlen]
    refine .sl (els ys) b o (Enc.k α) cap (fun i j => ((w.cells? 0 ((⟨b,o,none⟩ : Addr).add (i * P.cellsOf e)) (P.cellsOf e)).getD []).getD j undef) trivial (by rw [X8]; exact hl) hm Enc.pos (fun e' he => ?_) (fun i j hi' hj => ?_) fun i j e' t' h3 h4 => ?_
    ·obtain ⟨y,_,rfl⟩ := List.mem_map.1 he
     exact Enc.len y
    ·rw [X8] at hi'
     obtain ⟨es,h3⟩ := hel i hi'
     obtain ⟨_,hcl,hat⟩ := World.cells?_some h3
     rw [hα.size] at hcl
     have h5 := hat j (by rw [hα.size]; exact hj)
     rw [add_lit,add_lit,hα.size,List.getElem?_eq_getElem (by omega)] at h5
     rw [h3]
     simp only [Option.getD_some]
     rw [h5,List.getD_eq_getElem?_getD,List.getElem?_eq_getElem (by omega)]
     rfl
    ·rw [List.getElem?_map] at h3
     obtain ⟨y,hy,rfl⟩ := Option.map_eq_some_iff.1 h3
     obtain ⟨es,h5,_,h6⟩ := h2 i y hy
     have hj : j < es.length := by rw [h6.1,← Enc.len y]; exact Yc h4
     show RO w _ t' (((w.cells? 0 ((⟨b,o,none⟩ : Addr).add (i * P.cellsOf e)) (P.cellsOf e)).getD []).getD j undef)
     rw [h5]
     simp only [Option.getD_some]
     rw [Yb (List.getElem?_eq_getElem hj)]
     exact h6.2 j t' _ h4 (List.getElem?_eq_getElem hj)

theorem r2_string {w : World} {H : Hs} {F : Nat → Prop} (s : ByteArray) : R2 w H F (astr s) (.string s) := RO.v _ rfl
end
section
open Go.RowKit

theorem Xn {a b : Int} (h : a = b) : I a = I b := by rw [h]
theorem Kt {a b : Int} (h : a = b := by omega) : I a = I b := Xn h
theorem Xf {a b : Bool} (h : a = b) : B a = B b := by rw [h]
theorem eq_ne {α : Type} [DecidableEq α] {xs ys : List α} {j : Nat} (h1 : j < xs.length) (h2 : j < ys.length) (h : ¬ xs[j] = ys[j]) : decide (xs = ys) = false := by
 rw [decide_eq_false_iff_not]
 intro e
 subst e
 exact h J
theorem eq_all {α : Type} [DecidableEq α] {xs ys : List α} {j : Nat} (h1 : xs.length ≤ j) (h2 : xs.length = ys.length) (h : xs.take j = ys.take j) : decide (xs = ys) = true := by
 rw [List.take_of_length_le h1,List.take_of_length_le (by omega)] at h
 simp [h]
theorem eq_len {α : Type} [DecidableEq α] {xs ys : List α} (h : xs.length ≠ ys.length) : decide (xs = ys) = false := by
 rw [decide_eq_false_iff_not]
 intro e
 subst e
 exact h J
theorem eq_next {α : Type} {xs ys : List α} {j : Nat} (h1 : j < xs.length) (h2 : j < ys.length) (h : xs.take j = ys.take j) (e : xs[j] = ys[j]) : xs.take (j + 1) = ys.take (j + 1) := by
 rw [List.take_succ_eq_append_getElem h1,List.take_succ_eq_append_getElem h2,h,e]

/-! ### Counting -/
/-! ### Copying -/
def part {α : Type} [Enc α] (xs : List α) (z : List T) (k : Nat) : List (List T) := els (xs.take k) ++ List.replicate (xs.length - k) z
theorem Y4 {k : Nat} {a b : List (List T)} (h : a = b) : [Ob.row k a] = [Ob.row k b] := by rw [h]

/-! ### Comparing -/
theorem eq_IntS (xs ys : List Int) (hn : Enc.gd xs) : Con Tryd.prog 98 [] [al xs,al ys] [] (B (decide (xs = ys))) := by
 have hn1 := hn.1
 have hlx := X8 xs
 have hly := X8 ys
 by_cases hl : xs.length = ys.length
 ·have hb : decide (((els xs).length : Int) ≠ ((els ys).length : Int)) = false := by rw [hlx,hly,hl]; simp
  refine Con.of Tryd.func98 J Tryd.ntmps98 J (fun E => ?_)
  refine zy (z1 J (zz (Qd (zy (z0 J (zx (Yw J J J) J (z0 J (zx (Yw J J J) J ?_))))))));refine Ka J (zz (Ql J (Qh (Qz (Qd (zy (z1 J (zz ?_))))))));refine Qk ?_;refine Xe (fun m st => ∃ k : Nat,k + m = xs.length ∧ (xs.take k = ys.take k) ∧ st = (⟨_,[(0,L xs),(1,L ys),(5,I k)],[]⟩ : St)) (xs.length) ⟨_,⟨0,by omega,by simp,J⟩,Kb []⟩ ?_
  rintro m_A _ ⟨k,hk_A,hp_A,rfl⟩
  refine Qd (zy (z0 J (z0 J (zx (Yw J J J) J (zx (Zl J) J (zz ?_))))))
  refine Q9 J (fun h => ?_) (fun h => ?_)
  ·have h3 : k < xs.length := by have := of_decide_eq_true h; omega
   have h4 : k < ys.length := by omega
   have hat := X7 h3
   have hat2 := X7 h4
   by_cases he : xs[k] = ys[k]
   ·have hk : decide (xs[k] ≠ ys[k]) = false := by simp [he]
    refine Qh (Qz (Qd (Qk (Qd (Xd u8_0 u8_1 u8_2 J (Zh (Zr J) J (Zh (Zr J) J (Zh (Q1 J J J J (by omega) (by assumption) J) J (Zh (Kc J) J (Zh (Zr J) J (Zh (Zr J) J ?_)))))))))));refine Zh (Q1 J J J J (by omega) (by assumption) J) J (Zh (Kc J) J (Zh (Qw J J J J (by assumption)) J (Zg (zz (Ql J (Qh (Q0 (Qz (Qc (z0 J ?_))))))))));refine Kd J (z1 J (zz ?_))
    exact ⟨xs.length - (k + 1),by omega,_,⟨k + 1,by omega,eq_next h3 h4 hp_A he,J⟩,Kb []⟩
   ·have hk : decide (xs[k] ≠ ys[k]) = true := by simp [he]
    refine Qh (Qz (Qd (Qk (Qd (Xd u8_0 u8_1 u8_2 J (Zh (Zr J) J (Zh (Zr J) J (Zh (Q1 J J J J (by omega) (by assumption) J) J (Zh (Kc J) J (Zh (Zr J) J (Zh (Zr J) J ?_)))))))))));refine Zh (Q1 J J J J (by omega) (by assumption) J) J (Zh (Kc J) J (Zh (Qw J J J J (by assumption)) J (Zg (zz (Qm J (zy (z1 J (zz ?_))))))));refine Q8 (B_r (T_r (T_r (B_r (T_r (F_r ?_))))))
    exact Ke J (Kf [] J J (Xf (eq_ne h3 h4 he).symm))
  ·have h3 : ¬ ((k : Int) < (els xs).length) := of_decide_eq_false h
   refine Q7 (T_x (T_x (Xg (Qz (zy (z1 J (zz (Q8 (F_r ?_)))))))))
   exact Ke J (Kf [] J J (Xf (eq_all (by omega) hl hp_A).symm))
 ·have hb : decide (((els xs).length : Int) ≠ ((els ys).length : Int)) = true := by rw [hlx,hly]; simp; omega
  refine Con.of Tryd.func98 J Tryd.ntmps98 J (fun E => ?_)
  refine zy (z1 J (zz (Qd (zy (z0 J (zx (Yw J J J) J (z0 J (zx (Yw J J J) J ?_))))))));refine Ka J (zz (Qm J (zy (z1 J (zz (Q8 (T_r (F_r ?_))))))))
  exact Ke J (Kf [] J J (Xf (eq_len hl).symm))
theorem eq_StringS (xs ys : List ByteArray) (hn : Enc.gd xs) : Con Tryd.prog 35 [] [al xs,al ys] [] (B (decide (xs = ys))) := by
 have hn1 := hn.1
 have hlx := X8 xs
 have hly := X8 ys
 by_cases hl : xs.length = ys.length
 ·have hb : decide (((els xs).length : Int) ≠ ((els ys).length : Int)) = false := by rw [hlx,hly,hl]; simp
  refine Con.of Tryd.func35 J Tryd.ntmps35 J (fun E => ?_)
  refine zy (z1 J (zz (Qd (zy (z0 J (zx (Yw J J J) J (z0 J (zx (Yw J J J) J ?_))))))));refine Ka J (zz (Ql J (Qh (Qz (Qd (zy (z1 J (zz ?_))))))));refine Qk ?_;refine Xe (fun m st => ∃ k : Nat,k + m = xs.length ∧ (xs.take k = ys.take k) ∧ st = (⟨_,[(0,L xs),(1,L ys),(5,I k)],[]⟩ : St)) (xs.length) ⟨_,⟨0,by omega,by simp,J⟩,Kb []⟩ ?_
  rintro m_A _ ⟨k,hk_A,hp_A,rfl⟩
  refine Qd (zy (z0 J (z0 J (zx (Yw J J J) J (zx (Zl J) J (zz ?_))))))
  refine Q9 J (fun h => ?_) (fun h => ?_)
  ·have h3 : k < xs.length := by have := of_decide_eq_true h; omega
   have h4 : k < ys.length := by omega
   have hat := X7 h3
   have hat2 := X7 h4
   by_cases he : xs[k] = ys[k]
   ·have hk : decide (xs[k] ≠ ys[k]) = false := by simp [he]
    refine Qh (Qz (Qd (Qk (Qd (Xd u8_0 u8_1 u8_2 J (Zh (Zr J) J (Zh (Zr J) J (Zh (Q1 J J J J (by omega) (by assumption) J) J (Zh (Kc J) J (Zh (Zr J) J (Zh (Zr J) J ?_)))))))))));refine Zh (Q1 J J J J (by omega) (by assumption) J) J (Zh (Kc J) J (Zh (Kh J) J (Zg (zz (Ql J (Qh (Q0 (Qz (Qc (z0 J ?_))))))))));refine Kd J (z1 J (zz ?_))
    exact ⟨xs.length - (k + 1),by omega,_,⟨k + 1,by omega,eq_next h3 h4 hp_A he,J⟩,Kb []⟩
   ·have hk : decide (xs[k] ≠ ys[k]) = true := by simp [he]
    refine Qh (Qz (Qd (Qk (Qd (Xd u8_0 u8_1 u8_2 J (Zh (Zr J) J (Zh (Zr J) J (Zh (Q1 J J J J (by omega) (by assumption) J) J (Zh (Kc J) J (Zh (Zr J) J (Zh (Zr J) J ?_)))))))))));refine Zh (Q1 J J J J (by omega) (by assumption) J) J (Zh (Kc J) J (Zh (Kh J) J (Zg (zz (Qm J (zy (z1 J (zz ?_))))))));refine Q8 (B_r (T_r (T_r (B_r (T_r (F_r ?_))))))
    exact Ke J (Kf [] J J (Xf (eq_ne h3 h4 he).symm))
  ·have h3 : ¬ ((k : Int) < (els xs).length) := of_decide_eq_false h
   refine Q7 (T_x (T_x (Xg (Qz (zy (z1 J (zz (Q8 (F_r ?_)))))))))
   exact Ke J (Kf [] J J (Xf (eq_all (by omega) hl hp_A).symm))
 ·have hb : decide (((els xs).length : Int) ≠ ((els ys).length : Int)) = true := by rw [hlx,hly]; simp; omega
  refine Con.of Tryd.func35 J Tryd.ntmps35 J (fun E => ?_)
  refine zy (z1 J (zz (Qd (zy (z0 J (zx (Yw J J J) J (z0 J (zx (Yw J J J) J ?_))))))));refine Ka J (zz (Qm J (zy (z1 J (zz (Q8 (T_r (F_r ?_))))))))
  exact Ke J (Kf [] J J (Xf (eq_len hl).symm))
theorem eq_IntSS (xs ys : List (List Int)) (hn : Enc.gd xs) : Con Tryd.prog 57 [] [al xs,al ys] [] (B (decide (xs = ys))) := by
 have hn1 := hn.1
 have hlx := X8 xs
 have hly := X8 ys
 by_cases hl : xs.length = ys.length
 ·have hb : decide (((els xs).length : Int) ≠ ((els ys).length : Int)) = false := by rw [hlx,hly,hl]; simp
  refine Con.of Tryd.func57 J Tryd.ntmps57 J (fun E => ?_)
  refine zy (z1 J (zz (Qd (zy (z0 J (zx (Yw J J J) J (z0 J (zx (Yw J J J) J ?_))))))));refine Ka J (zz (Ql J (Qh (Qz (Qd (zy (z1 J (zz ?_))))))));refine Qk ?_;refine Xe (fun m st => ∃ k : Nat,k + m = xs.length ∧ (xs.take k = ys.take k) ∧ st = (⟨_,[(0,L xs),(1,L ys),(5,I k)],[]⟩ : St)) (xs.length) ⟨_,⟨0,by omega,by simp,J⟩,Kb []⟩ ?_
  rintro m_A _ ⟨k,hk_A,hp_A,rfl⟩
  refine Qd (zy (z0 J (z0 J (zx (Yw J J J) J (zx (Zl J) J (zz ?_))))))
  refine Q9 J (fun h => ?_) (fun h => ?_)
  ·have h3 : k < xs.length := by have := of_decide_eq_true h; omega
   have h4 : k < ys.length := by omega
   have hat := X7 h3
   have hat2 := X7 h4
   by_cases he : xs[k] = ys[k]
   ·have hc := eq_IntS xs[k] ys[k] (hn.2 _ (List.getElem_mem h3))
    rw [decide_eq_true he] at hc
    refine Qh (Qz (Qd (Qk (Qd (Xd u8_3 u8_4 u8_5 J (Zh (Zr J) J (Zh (Zr J) J (Zh (Q1 J J J J (by omega) (by assumption) J) J (Zh (Kc J) J (Zh (Zr J) J (Zh (Zr J) J ?_)))))))))));refine Zh (Q1 J J J J (by omega) (by assumption) J) J (Zh (Kc J) J ?_);refine Zh (Qj J J (hc) J) J ?_;refine Zh (Q3 J J J) J (Zg (zz (Ql J (Qh (Q0 (Qz (Qc (z0 J (Kd J (z1 J ?_))))))))));refine zz ?_
    exact ⟨xs.length - (k + 1),by omega,_,⟨k + 1,by omega,eq_next h3 h4 hp_A he,J⟩,Kb []⟩
   ·have hc := eq_IntS xs[k] ys[k] (hn.2 _ (List.getElem_mem h3))
    rw [decide_eq_false he] at hc
    refine Qh (Qz (Qd (Qk (Qd (Xd u8_3 u8_4 u8_5 J (Zh (Zr J) J (Zh (Zr J) J (Zh (Q1 J J J J (by omega) (by assumption) J) J (Zh (Kc J) J (Zh (Zr J) J (Zh (Zr J) J ?_)))))))))));refine Zh (Q1 J J J J (by omega) (by assumption) J) J (Zh (Kc J) J ?_);refine Zh (Qj J J (hc) J) J ?_;refine Zh (Q3 J J J) J (Zg (zz (Qm J (zy (z1 J (zz (Q8 (B_r ?_))))))));refine T_r (T_r (B_r (T_r (F_r ?_))))
    exact Ke J (Kf [] J J (Xf (eq_ne h3 h4 he).symm))
  ·have h3 : ¬ ((k : Int) < (els xs).length) := of_decide_eq_false h
   refine Q7 (T_x (T_x (Xg (Qz (zy (z1 J (zz (Q8 (F_r ?_)))))))))
   exact Ke J (Kf [] J J (Xf (eq_all (by omega) hl hp_A).symm))
 ·have hb : decide (((els xs).length : Int) ≠ ((els ys).length : Int)) = true := by rw [hlx,hly]; simp; omega
  refine Con.of Tryd.func57 J Tryd.ntmps57 J (fun E => ?_)
  refine zy (z1 J (zz (Qd (zy (z0 J (zx (Yw J J J) J (z0 J (zx (Yw J J J) J ?_))))))));refine Ka J (zz (Qm J (zy (z1 J (zz (Q8 (T_r (F_r ?_))))))))
  exact Ke J (Kf [] J J (Xf (eq_len hl).symm))
end
section
open Go.RowKit

def ownO : List T → List Ob
 | [] => []
 | .v _ :: ts => ownO ts
 | .sl k es :: ts => .row k es :: ownO ts
 | .un :: ts => ownO ts
def ownV : Nat → List T → List V1
 | _,[] => []
 | n,.v x :: ts => .rd [] (.v x) :: ownV n ts
 | n,.sl _ _ :: ts => .ref n :: ownV (n + 1) ts
 | n,.un :: ts => .un :: ownV n ts

structure TLevel where
 Rows : (List ByteArray)
 deriving DecidableEq
instance : Enc TLevel := ⟨1,by omega,fun x => [sl x.Rows],fun _ => rfl,fun x => Enc.gd x.Rows,fun x => Enc.wt x.Rows⟩
theorem TLevel.same {x y : TLevel} (h0 : x.Rows = y.Rows) : x = y := by cases x; cases y; simp_all
structure TReplay where
 Level : TLevel
 Players : Int
 Seed : Int
 Every : Int
 Rows : (List (List Int))
 Keys : (List ByteArray)
 deriving DecidableEq
instance : Enc TReplay := ⟨6,by omega,fun x => [sl x.Level.Rows,.v (.int .i64 x.Players),.v (.int .i64 x.Seed),.v (.int .i64 x.Every),sl x.Rows,sl x.Keys],fun _ => rfl,fun x => Enc.gd x.Level ∧ Enc.gd x.Players ∧ Enc.gd x.Seed ∧ Enc.gd x.Every ∧ Enc.gd x.Rows ∧ Enc.gd x.Keys,fun x => Enc.wt x.Level + Enc.wt x.Rows + Enc.wt x.Keys⟩
theorem TReplay.same {x y : TReplay} (h0 : x.Level = y.Level) (h1 : x.Players = y.Players) (h2 : x.Seed = y.Seed) (h3 : x.Every = y.Every) (h4 : x.Rows = y.Rows) (h5 : x.Keys = y.Keys) : x = y := by cases x; cases y; simp_all

theorem eq_Level (x y : TLevel) (hg : Enc.gd x) : Con Tryd.prog 56 [] [ag x,ag y] [] (B (decide (x = y))) := by
 have g_Rows : Enc.gd x.Rows := hg
 by_cases e_Rows : ¬ x.Rows = y.Rows
 ·have hc := eq_StringS x.Rows y.Rows g_Rows
  rw [decide_eq_false e_Rows] at hc
  refine Con.of Tryd.func56 J Tryd.ntmps56 J (fun E => ?_)
  refine zy (Ki (Qq J J J J) J (Ki (Qq J J J J) J (z1 J (zz (Qd (zy (z2 J J J (z3 J ?_))))))));refine z2 J J J (z3 J ?_);refine zx (Qj J J (hc) J) J ?_;refine zn J (zz (Qm J (zy (z1 J (zz (Q8 (T_r (F_r ?_))))))))
  exact Ke J (Kf [] J J (Xf (decide_eq_false fun e => e_Rows (by rw [e])).symm))
 have e_Rows := Classical.not_not.1 e_Rows
 have hc_Rows := eq_StringS x.Rows y.Rows g_Rows
 rw [decide_eq_true e_Rows] at hc_Rows
 refine Con.of Tryd.func56 J Tryd.ntmps56 J (fun E => ?_)
 refine zy (Ki (Qq J J J J) J (Ki (Qq J J J J) J (z1 J (zz (Qd (zy (z2 J J J (z3 J ?_))))))));refine z2 J J J (z3 J ?_);refine zx (Qj J J (hc_Rows) J) J ?_;refine zn J (zz (Ql J (Qh (Qz (zy (z1 J (zz (Q8 ?_))))))));refine F_r ?_
 exact Ke J (Kf [] J J (Xf (decide_eq_true (TLevel.same e_Rows)).symm))
theorem eq_Replay (x y : TReplay) (hg : Enc.gd x) : Con Tryd.prog 22 [] [ag x,ag y] [] (B (decide (x = y))) := by
 obtain ⟨g_Level,g_Players,g_Seed,g_Every,g_Rows,g_Keys⟩ := hg
 by_cases e_Level : ¬ x.Level = y.Level
 ·have hc := eq_Level x.Level y.Level g_Level
  rw [decide_eq_false e_Level] at hc
  refine Con.of Tryd.func22 J Tryd.ntmps22 J (fun E => ?_)
  refine zy (Ki (Qq J J J J) J (Ki (Qq J J J J) J (z1 J (zz (Qd (zy (z2 J J J (z4 J J J ?_))))))));refine z2 J J J (z4 J J J ?_);refine zx (Qj J J (hc) J) J ?_;refine zn J (zz (Qm J (zy (z1 J (zz (Q8 (T_r (F_r ?_))))))))
  exact Ke J (Kf [] J J (Xf (decide_eq_false fun e => e_Level (by rw [e])).symm))
 have e_Level := Classical.not_not.1 e_Level
 have hc_Level := eq_Level x.Level y.Level g_Level
 rw [decide_eq_true e_Level] at hc_Level
 by_cases e_Players : ¬ x.Players = y.Players
 ·have hk : decide (x.Players ≠ y.Players) = true := by simp [e_Players]
  refine Con.of Tryd.func22 J Tryd.ntmps22 J (fun E => ?_)
  refine zy (Ki (Qq J J J J) J (Ki (Qq J J J J) J (z1 J (zz (Qd (zy (z2 J J J (z4 J J J ?_))))))));refine z2 J J J (z4 J J J ?_);refine zx (Qj J J (hc_Level) J) J ?_;refine zn J (zz (Ql J (Qh (Qz (Qd (zy (z2 J J J (z3 J (z2 J J J ?_)))))))));refine z3 J (Ka J (zz (Qm J (zy (z1 J (zz (Q8 (T_r ?_))))))));refine F_r ?_
  exact Ke J (Kf [] J J (Xf (decide_eq_false fun e => e_Players (by rw [e])).symm))
 have e_Players := Classical.not_not.1 e_Players
 have k_Players : decide (x.Players ≠ y.Players) = false := by simp [e_Players]
 by_cases e_Seed : ¬ x.Seed = y.Seed
 ·have hk : decide (x.Seed ≠ y.Seed) = true := by simp [e_Seed]
  refine Con.of Tryd.func22 J Tryd.ntmps22 J (fun E => ?_)
  refine zy (Ki (Qq J J J J) J (Ki (Qq J J J J) J (z1 J (zz (Qd (zy (z2 J J J (z4 J J J ?_))))))));refine z2 J J J (z4 J J J ?_);refine zx (Qj J J (hc_Level) J) J ?_;refine zn J (zz (Ql J (Qh (Qz (Qd (zy (z2 J J J (z3 J (z2 J J J ?_)))))))));refine z3 J (Ka J (zz (Ql J (Qh (Qz (Qd (zy (z2 J J J (z3 J ?_)))))))));refine z2 J J J (z3 J (Ka J (zz (Qm J (zy (z1 J (zz (Q8 ?_))))))));refine T_r (F_r ?_)
  exact Ke J (Kf [] J J (Xf (decide_eq_false fun e => e_Seed (by rw [e])).symm))
 have e_Seed := Classical.not_not.1 e_Seed
 have k_Seed : decide (x.Seed ≠ y.Seed) = false := by simp [e_Seed]
 by_cases e_Every : ¬ x.Every = y.Every
 ·have hk : decide (x.Every ≠ y.Every) = true := by simp [e_Every]
  refine Con.of Tryd.func22 J Tryd.ntmps22 J (fun E => ?_)
  refine zy (Ki (Qq J J J J) J (Ki (Qq J J J J) J (z1 J (zz (Qd (zy (z2 J J J (z4 J J J ?_))))))));refine z2 J J J (z4 J J J ?_);refine zx (Qj J J (hc_Level) J) J ?_;refine zn J (zz (Ql J (Qh (Qz (Qd (zy (z2 J J J (z3 J (z2 J J J ?_)))))))));refine z3 J (Ka J (zz (Ql J (Qh (Qz (Qd (zy (z2 J J J (z3 J ?_)))))))));refine z2 J J J (z3 J (Ka J (zz (Ql J (Qh (Qz (Qd (zy (z2 J J J ?_)))))))));refine z3 J (z2 J J J (z3 J (Ka J (zz (Qm J (zy (z1 J (zz ?_))))))));refine Q8 (T_r (F_r ?_))
  exact Ke J (Kf [] J J (Xf (decide_eq_false fun e => e_Every (by rw [e])).symm))
 have e_Every := Classical.not_not.1 e_Every
 have k_Every : decide (x.Every ≠ y.Every) = false := by simp [e_Every]
 by_cases e_Rows : ¬ x.Rows = y.Rows
 ·have hc := eq_IntSS x.Rows y.Rows g_Rows
  rw [decide_eq_false e_Rows] at hc
  refine Con.of Tryd.func22 J Tryd.ntmps22 J (fun E => ?_)
  refine zy (Ki (Qq J J J J) J (Ki (Qq J J J J) J (z1 J (zz (Qd (zy (z2 J J J (z4 J J J ?_))))))));refine z2 J J J (z4 J J J ?_);refine zx (Qj J J (hc_Level) J) J ?_;refine zn J (zz (Ql J (Qh (Qz (Qd (zy (z2 J J J (z3 J (z2 J J J ?_)))))))));refine z3 J (Ka J (zz (Ql J (Qh (Qz (Qd (zy (z2 J J J (z3 J ?_)))))))));refine z2 J J J (z3 J (Ka J (zz (Ql J (Qh (Qz (Qd (zy (z2 J J J ?_)))))))));refine z3 J (z2 J J J (z3 J (Ka J (zz (Ql J (Qh (Qz (Qd (zy ?_)))))))));refine z2 J J J (z3 J (z2 J J J (z3 J ?_)));refine zx (Qj J J (hc) J) J ?_;refine zn J (zz (Qm J (zy (z1 J (zz (Q8 (T_r (F_r ?_))))))))
  exact Ke J (Kf [] J J (Xf (decide_eq_false fun e => e_Rows (by rw [e])).symm))
 have e_Rows := Classical.not_not.1 e_Rows
 have hc_Rows := eq_IntSS x.Rows y.Rows g_Rows
 rw [decide_eq_true e_Rows] at hc_Rows
 by_cases e_Keys : ¬ x.Keys = y.Keys
 ·have hc := eq_StringS x.Keys y.Keys g_Keys
  rw [decide_eq_false e_Keys] at hc
  refine Con.of Tryd.func22 J Tryd.ntmps22 J (fun E => ?_)
  refine zy (Ki (Qq J J J J) J (Ki (Qq J J J J) J (z1 J (zz (Qd (zy (z2 J J J (z4 J J J ?_))))))));refine z2 J J J (z4 J J J ?_);refine zx (Qj J J (hc_Level) J) J ?_;refine zn J (zz (Ql J (Qh (Qz (Qd (zy (z2 J J J (z3 J (z2 J J J ?_)))))))));refine z3 J (Ka J (zz (Ql J (Qh (Qz (Qd (zy (z2 J J J (z3 J ?_)))))))));refine z2 J J J (z3 J (Ka J (zz (Ql J (Qh (Qz (Qd (zy (z2 J J J ?_)))))))));refine z3 J (z2 J J J (z3 J (Ka J (zz (Ql J (Qh (Qz (Qd (zy ?_)))))))));refine z2 J J J (z3 J (z2 J J J (z3 J ?_)));refine zx (Qj J J (hc_Rows) J) J ?_;refine zn J (zz (Ql J (Qh (Qz (Qd (zy (z2 J J J (z3 J (z2 J J J ?_)))))))));refine z3 J ?_;refine zx (Qj J J (hc) J) J ?_;refine zn J (zz (Qm J (zy (z1 J (zz (Q8 (T_r (F_r ?_))))))))
  exact Ke J (Kf [] J J (Xf (decide_eq_false fun e => e_Keys (by rw [e])).symm))
 have e_Keys := Classical.not_not.1 e_Keys
 have hc_Keys := eq_StringS x.Keys y.Keys g_Keys
 rw [decide_eq_true e_Keys] at hc_Keys
 refine Con.of Tryd.func22 J Tryd.ntmps22 J (fun E => ?_)
 refine zy (Ki (Qq J J J J) J (Ki (Qq J J J J) J (z1 J (zz (Qd (zy (z2 J J J (z4 J J J ?_))))))));refine z2 J J J (z4 J J J ?_);refine zx (Qj J J (hc_Level) J) J ?_;refine zn J (zz (Ql J (Qh (Qz (Qd (zy (z2 J J J (z3 J (z2 J J J ?_)))))))));refine z3 J (Ka J (zz (Ql J (Qh (Qz (Qd (zy (z2 J J J (z3 J ?_)))))))));refine z2 J J J (z3 J (Ka J (zz (Ql J (Qh (Qz (Qd (zy (z2 J J J ?_)))))))));refine z3 J (z2 J J J (z3 J (Ka J (zz (Ql J (Qh (Qz (Qd (zy ?_)))))))));refine z2 J J J (z3 J (z2 J J J (z3 J ?_)));refine zx (Qj J J (hc_Rows) J) J ?_;refine zn J (zz (Ql J (Qh (Qz (Qd (zy (z2 J J J (z3 J (z2 J J J ?_)))))))));refine z3 J ?_;refine zx (Qj J J (hc_Keys) J) J ?_;refine zn J (zz (Ql J (Qh (Qz (zy (z1 J (zz (Q8 ?_))))))));refine F_r ?_
 exact Ke J (Kf [] J J (Xf (decide_eq_true (TReplay.same e_Level e_Players e_Seed e_Every e_Rows e_Keys)).symm))
end
section
open Go.RowKit
end
section
open Go.RowKit

def inR (n lo hi : Int) : Bool := decide (lo ≤ n) && decide (n ≤ hi)
theorem Ye {n lo hi : Int} : inR n lo hi = true ↔ lo ≤ n ∧ n ≤ hi := by simp [inR]
theorem Xm (n lo hi : Int) : Con Tryd.prog 53 [] [ai n,ai lo,ai hi] [] (B (inR n lo hi)) := by
 refine Con.of Tryd.func53 J Tryd.ntmps53 J (fun E => ?_)
 refine zy (z1 J (zz (zy (z0 J (z0 J (zx (q_geq J J J J) J (z0 J ?_)))))));refine zx (Qt.grdT J J J .stop (fun hgrd => Zr J)) J ?_;refine zx (Qt.grdT J J J (.hit .stop) (fun hgrd => Zr J)) J ?_;refine zx (Qt.grdT J J J (.hit (.hit .stop)) (fun hgrd => q_leq J J J J)) J ?_;refine zx (q_and J J J J) J (z1 J (zz (Q8 (F_r ?_))))
 exact Ke J (Kf [] J J J)
theorem S_in (n lo hi : Int) : Con Tryd.prog 46 [] [ai n,ai lo,ai hi] [] (B (inR n lo hi)) := by
 refine Con.of Tryd.func46 J Tryd.ntmps46 J (fun E => ?_)
 refine zy (z1 J (zz (zy (z0 J (z0 J (zx (q_geq J J J J) J (z0 J ?_)))))));refine zx (Qt.grdT J J J .stop (fun hgrd => Zr J)) J ?_;refine zx (Qt.grdT J J J (.hit .stop) (fun hgrd => Zr J)) J ?_;refine zx (Qt.grdT J J J (.hit (.hit .stop)) (fun hgrd => q_leq J J J J)) J ?_;refine zx (q_and J J J J) J (z1 J (zz (Q8 (F_r ?_))))
 exact Ke J (Kf [] J J J)

section
variable {α : Type} {p : α → Bool} {xs : List α} {k : Nat}
theorem all_next (h : (xs.take k).all p = true) (hk : k < xs.length) (hp : p xs[k] = true) : (xs.take (k + 1)).all p = true := by
 rw [List.take_succ_eq_append_getElem hk,List.all_append,h]
 simp [hp]
theorem all_no (hk : k < xs.length) (hp : p xs[k] = false) : xs.all p = false := by
 rw [List.all_eq_false]
 exact ⟨_,List.getElem_mem hk,by simp [hp]⟩
theorem all_end (h : (xs.take k).all p = true) (hk : xs.length ≤ k) : xs.all p = true := by rwa [List.take_of_length_le hk] at h
end
def inOk (xs : List Int) : Bool := xs.all fun n => inR n 0 15
def rowOk (xs : List Int) (n : Int) : Bool := decide ((xs.length : Int) = n) && inOk xs

theorem I_inputsOk (xs : List Int) (hn : Enc.gd xs) : Con Tryd.prog 124 [] [al xs] [] (B (inOk xs)) := by
 have hn1 := hn.1
 have hlx := X8 xs
 refine Con.of Tryd.func124 J Tryd.ntmps124 J (fun E => ?_)
 refine zy (z1 J (zz (Qd (zy (z0 J (zx (Yw J J J) J (z0 J (Qe ?_))))))));refine Qz (Qk ?_);refine Xe (fun m st => ∃ k : Nat,k + m = xs.length ∧ ((xs.take k).all (fun n => inR n 0 15) = true) ∧ st = (⟨_,[(5,L xs),(6,I (els xs).length),(7,I k)],[]⟩ : St)) (xs.length) ⟨_,⟨0,by omega,by simp,J⟩,Kb []⟩ ?_
 rintro m_A _ ⟨k,hk_A,hp_A,rfl⟩
 refine zy (zx (Zl J) J (zz (Qd ?_)))
 refine Q9 J (fun h => ?_) (fun h => ?_)
 ·have h3 : k < xs.length := by have := of_decide_eq_true h; omega
  have hat := X7 h3
  refine Qh (Qz (Qd (Qk (zy (zx (Q1 J J J J (by omega) (by assumption) J) J (zx (Kc J) J (z1 J (zz (Qd ?_)))))))));refine Qc (z0 J ?_);refine zx (Qj J J (Xm xs[k] 0 15) J) J ?_;refine zn J (zz ?_)
  refine Q9 J (fun h4 => ?_) (fun h4 => ?_)
  ·refine zy (z1 rfl (zz (Q8 (B_r (T_r (T_r (B_r ?_)))))))
   refine T_r (F_r ?_)
   exact Ke J (Kf [] J J (Xf (all_no h3 (by simpa using h4)).symm))
  ·refine Qh (Q0 (Qz (Qc (Kd rfl (z0 rfl (Qe ?_))))))
   refine Qz ?_
   exact ⟨xs.length - (k + 1),by omega,_,⟨k + 1,by omega,all_next hp_A h3 (by simpa using h4),J⟩,Kb []⟩
 ·have h3 : ¬ ((k : Int) < (els xs).length) := of_decide_eq_false h
  refine Q7 (T_x (T_x (Xg (Qz (zy (z1 J (zz (Q8 (F_r ?_)))))))))
  exact Ke J (Kf [] J J (Xf (all_end hp_A (by omega)).symm))
theorem I_rowOk (xs : List Int) (n : Int) (hn : Enc.gd xs) : Con Tryd.prog 97 [] [al xs,ai n] [] (B (rowOk xs n)) := by
 have hlx := X8 xs
 refine Con.of Tryd.func97 J Tryd.ntmps97 J (fun E => ?_)
 refine zy (z1 J (zz (zy (z0 J (zx (Yw J J J) J (z0 J (zx (q_eql J J J J) J (z0 J ?_))))))));refine zx (Qt.grdT J J J .stop (fun hgrd => Zr J)) J ?_;refine zx (Qt.grdT J J J (.hit .stop) (fun hgrd => Qj J J (I_inputsOk xs hn) J)) J ?_;refine zx (q_and J J J J) J (z1 J (zz (Q8 (F_r ?_))))
 exact Ke J (Kf [] J J (Xf (by rw [hlx]; rfl)))
theorem S_rowOk (xs : List Int) (n : Int) (hn : Enc.gd xs) : Con Tryd.prog 107 [] [al xs,ai n] [] (B (rowOk xs n)) := by
 have hn1 := hn.1
 have hlx := X8 xs
 refine Con.of Tryd.func107 J Tryd.ntmps107 J (fun E => ?_)
 refine zy (z1 J (zz (Qd (zy (z1 J (zz (Qk ?_)))))));refine Xe (fun m st => ∃ k : Nat,k + m = xs.length ∧ ((xs.take k).all (fun n => inR n 0 15) = true) ∧ st = (⟨_,[(0,L xs),(1,I n),(5,I k)],[]⟩ : St)) (xs.length) ⟨_,⟨0,by omega,by simp,J⟩,Kb []⟩ ?_
 rintro m_A _ ⟨k,hk_A,hp_A,rfl⟩
 refine Qd (zy (z0 J (z0 J (zx (Yw J J J) J (zx (Zl J) J (zz ?_))))))
 refine Q9 J (fun h => ?_) (fun h => ?_)
 ·have h3 : k < xs.length := by have := of_decide_eq_true h; omega
  have hat := X7 h3
  refine Qh (Qz (Qd (Qk (zy (z0 J (z0 J (zx (Q1 J J J J (by omega) (by assumption) J) J (zx (Kc J) J ?_))))))));refine zx (Qj J J (S_in xs[k] 0 15) J) J ?_;refine zn J (zz ?_)
  refine Q9 J (fun h4 => ?_) (fun h4 => ?_)
  ·refine zy (z1 rfl (zz (Q8 (B_r (T_r (T_r (B_r ?_)))))))
   refine T_r (F_r ?_)
   exact Ke J (Kf [] J J (Xf (by unfold rowOk inOk; rw [all_no h3 (by simpa using h4)]; simp)))
  ·refine Qh (Q0 (Qz (Qc (z0 rfl (Kd rfl ?_)))))
   refine z1 J (zz ?_)
   exact ⟨xs.length - (k + 1),by omega,_,⟨k + 1,by omega,all_next hp_A h3 (by simpa using h4),J⟩,Kb []⟩
 ·have h3 : ¬ ((k : Int) < (els xs).length) := of_decide_eq_false h
  refine Q7 (T_x (T_x (Xg (Qz (zy (z0 J (zx (Yw J J J) J (z0 J (zx (q_eql J J J J) J (z1 J ?_))))))))));refine zz (Q8 (F_r ?_))
  exact Ke J (Kf [] J J (Xf (by unfold rowOk inOk; rw [all_end hp_A (by omega),hlx]; simp)))
end
section
open Go.RowKit
end
end Go.Proofs.YtcjclaoogdblbaaDoor
