/-
  Parts of the proof (rules, data, and what functions of the program and of the reference return), among them: What is valid: numbers in a range, rows of inputs, levels, replays; in the program and in the reference; Numbers as text: FormatInt, in the program (below 100) and in the reference.
  Conditions: those that each theorem names.
-/
import Derived.ProofKit
import Derived.Deep.Slices
import Derived.Test.YtcjclaoogdblbaaDoorDDParARowk0
import Derived.Test.YtcjclaoogdblbaaDoorDDParARowk11
import Derived.Test.YtcjclaoogdblbaaDoorDDParARowk12
set_option linter.unusedVariables false
set_option linter.unusedSimpArgs false
set_option maxRecDepth 8000
set_option maxHeartbeats 8000000
namespace Go.Proofs.YtcjclaoogdblbaaDoor
section
open Go.RowKit Go.ChangeShapes Go.WideShapes Go.Deep

def I64 (x : Int) : Prop := -9223372036854775808 ≤ x ∧ x ≤ 9223372036854775807

class Enc (α : Type) where
 k : Nat
 pos : 0 < k
 e : α → List T
 len : ∀ x,(e x).length = k
 gd : α → Prop
 wt : α → Nat
instance : Enc Int := ⟨1,by omega,fun x => [.v (.int .i64 x)],fun _ => rfl,I64,fun _ => 0⟩
instance : Enc Bool := ⟨1,by omega,fun x => [.v (.bool x)],fun _ => rfl,fun _ => True,fun _ => 0⟩
instance : Enc ByteArray := ⟨1,by omega,fun x => [.v (.string x)],fun _ => rfl,fun x => x.size ≤ 9223372036854775807,fun x => x.size⟩
def wts {α : Type} [Enc α] : List α → Nat
 | [] => 0
 | x :: xs => Enc.wt x + wts xs
@[reducible] def els {α : Type} [Enc α] (xs : List α) : List (List T) := xs.map Enc.e
instance {α : Type} [Enc α] : Enc (List α) := ⟨1,by omega,fun xs => [.sl (Enc.k α) (els xs)],fun _ => rfl,fun xs => xs.length ≤ 9223372036854775807 ∧ ∀ x ∈ xs,Enc.gd x,fun xs => xs.length + wts xs⟩

@[reducible] def sl {α : Type} [Enc α] (xs : List α) : T := .sl (Enc.k α) (els xs)
@[reducible] def ai (n : Int) : V2 := .c (.rd [] (.v (.int .i64 n)))
@[reducible] def astr (s : ByteArray) : V2 := .c (.rd [] (.v (.string s)))
@[reducible] def al {α : Type} [Enc α] (xs : List α) : V2 := .c (.rd [] (sl xs))
@[reducible] def ag {α : Type} [Enc α] (x : α) : V2 := .ag ((Enc.e x).map (V1.rd []))
@[reducible] def L {α : Type} [Enc α] (xs : List α) : V := .o (al xs)

class PlainE (α : Type) [Enc α] : Prop where
 plain : ∀ (x : α) (t : T),t ∈ Enc.e x → ∃ u,t = .v u
instance : PlainE Int := ⟨fun x t h => by simp [Enc.e] at h; exact ⟨_,h⟩⟩
instance : PlainE Bool := ⟨fun x t h => by simp [Enc.e] at h; exact ⟨_,h⟩⟩
instance : PlainE ByteArray := ⟨fun x t h => by simp [Enc.e] at h; exact ⟨_,h⟩⟩
theorem els_k {α : Type} [Enc α] (xs : List α) : ∀ e ∈ els xs,e.length = Enc.k α := fun e he => by
 obtain ⟨x,_,rfl⟩ := List.mem_map.1 he
 exact Enc.len x
@[reducible] def bs (l : List UInt8) : ByteArray := ⟨l.toArray⟩
theorem bs_app (a b : List UInt8) : bs a ++ bs b = bs (a ++ b) := by
 apply ByteArray.ext
 rw [ByteArray.data_append]
 simp [bs]
theorem Xg (l : List UInt8) : (bs l).size = l.length := by simp [bs,ByteArray.size]
theorem cat_size (a b : ByteArray) : (a ++ b).size = a.size + b.size := by simp [ByteArray.size_append]
theorem bs_list (l : List UInt8) : (bs l).data.toList = l := by simp [bs]
theorem S_eq {a b : ByteArray} (h : a = b) : S a = S b := by rw [h]
theorem els_at {α : Type} [Enc α] {xs : List α} {k : Nat} (h : k < xs.length) : (els xs)[(k : Int).toNat]? = some (Enc.e xs[k]) := by simp [els,h]
theorem Xh {α : Type} [Enc α] (xs : List α) : (els xs).length = xs.length := by simp [els]
/-! ### Readings -/
theorem list_of_each {α : Type} {p : Nat → α → Prop} : ∀ n : Nat,(∀ i,i < n → ∃ y,p i y) → ∃ ys : List α,ys.length = n ∧ ∀ (i : Nat) (y : α),ys[i]? = some y → p i y
 | 0,_ => ⟨[],rfl,fun _ _ h => by simp at h⟩
 | n + 1,h => by
  obtain ⟨ys,h1,h2⟩ := list_of_each n fun i hi => h i (by omega)
  obtain ⟨y,hy⟩ := h n (by omega)
  refine ⟨ys ++ [y],by simp [h1],fun i z hz => ?_⟩
  rcases Nat.lt_or_ge i ys.length with hi | hi
  ·rw [List.getElem?_append_left hi] at hz
   exact h2 i z hz
  ·rw [List.getElem?_append_right hi] at hz
   have hi0 : i - ys.length = 0 := by
    rcases Nat.eq_zero_or_pos (i - ys.length) with h0 | h0
    ·exact h0
    ·rw [List.getElem?_eq_none (by simp; omega)] at hz
     cases hz
   rw [hi0] at hz
   simp only [List.getElem?_cons_zero,Option.some.injEq] at hz
   subst hz
   have : i = n := by omega
   subst this
   exact hy

def Reads {α : Type} [Enc α] (w : World) (x : α) (cs : List Value) : Prop := cs.length = Enc.k α ∧ ∀ (j : Nat) (t : T) (u : Value),(Enc.e x)[j]? = some t → cs[j]? = some u → RO w (fun _ => True) t u

class RdOf (P : Program) (t : TypeId) (α : outParam Type) [Enc α] : Prop where
 size : P.cellsOf t = Enc.k α
 of : ∀ {H : Type} {enc : TypeId × Value → H} {w : World} {spare : Nat → Bool} {held : Bool} {fuel : Nat} {cs : List Value} {x : DataW H × List MemPlace},
  DataW.trod enc P w 0 spare held fuel t cs = some x → ∃ y : α,Enc.gd y ∧ Reads w y cs

theorem i64_of_wf {n : Int} (h : (Lit.int .i64 n).wf = true) : I64 n := by
 simp [Lit.wf,IntKind.min,IntKind.max,IntKind.signed,IntKind.bits] at h
 exact ⟨by omega,by omega⟩
theorem reads_one {α : Type} [Enc α] {w : World} {x : α} {t : T} {u : Value} (he : Enc.e x = [t]) (h : RO w (fun _ => True) t u) : Reads w x [u] := by
 refine ⟨by rw [← Enc.len x,he]; rfl,fun j t' u' h1 h2 => ?_⟩
 rw [he] at h1
 cases j with
 | zero => simp at h1 h2; subst h1 h2; exact h
 | succ j => simp at h1
theorem rdOf_int {P : Program} {t : TypeId} (ht : P.underlying t = some (.int .i64)) (hs : P.cellsOf t = 1) : RdOf P t Int where
 size := hs
 of h := by
  obtain ⟨n,rfl,_,h3⟩ := DataW.trod_int ht h
  exact ⟨n,i64_of_wf h3,reads_one J (.v _ J)⟩
theorem rdOf_string {P : Program} {t : TypeId} (ht : P.underlying t = some .string) (hs : P.cellsOf t = 1) : RdOf P t ByteArray where
 size := hs
 of h := by
  obtain ⟨s,rfl,_,h3⟩ := DataW.trod_string ht h
  exact ⟨s,by simpa [maxLen,Enc.gd] using h3,reads_one J (.v _ J)⟩
theorem rdOf_slice {P : Program} {t e : TypeId} {α : Type} [Enc α] [hα : RdOf P e α] (ht : P.underlying t = some (.slice e)) (hs : P.cellsOf t = 1) : RdOf P t (List α) where
 size := hs
 of {H enc w spare held fuel cs x} h := by
  rcases open_slice ht h with ⟨rfl,_⟩ | ⟨a,len,cap,m,n,D,Pl,rfl,_,hl,hm,hmm,_,hi⟩
  ·exact ⟨[],⟨by simp,by simp⟩,reads_one rfl (.nil _ _ _ (by simp [maxLen]))⟩
  ·have hlm : len ≤ m := by rw [hmm]; split <;> omega
   obtain ⟨ys,h1,h2⟩ := list_of_each (p := fun i y => ∃ es,w.cells? 0 (a.add (i * P.cellsOf e)) (P.cellsOf e) = some es ∧ Enc.gd (α := α) y ∧ Reads w y es) len fun i hi' => by
    obtain ⟨es,h3,h4⟩ := hi i (by omega)
    obtain ⟨y,hy⟩ := hα.of h4
    exact ⟨y,es,h3,hy⟩
   subst h1
   refine ⟨ys,⟨by simp [maxLen] at hm; omega,fun y hy => ?_⟩,?_⟩
   ·obtain ⟨i,hi'⟩ := List.getElem?_of_mem hy
    obtain ⟨es,_,hg,_⟩ := h2 i y hi'
    exact hg
   refine reads_one J ?_
   rcases Nat.eq_zero_or_pos ys.length with h0 | h0
   ·have := List.eq_nil_of_length_eq_zero h0
    subst this
    exact .nil _ _ _ hm
   ·have hsp : a.spot = none := by
     obtain ⟨es,h3,_⟩ := h2 0 _ (List.getElem?_eq_getElem h0)
     obtain ⟨_,hcl,hat⟩ := World.cells?_some h3
     have hp : 0 < P.cellsOf e := by rw [hα.size]; exact Enc.pos
     have := hat 0 hp
     rw [List.getElem?_eq_getElem (by omega)] at this
     have h5 := World.cell?_spot this
     simpa [Addr.add] using h5
    obtain ⟨b,o,sp⟩ := a
    simp only at hsp
    subst hsp
    have hel : ∀ i,i < ys.length → ∃ es,w.cells? 0 ((⟨b,o,none⟩ : Addr).add (i * P.cellsOf e)) (P.cellsOf e) = some es := fun i hi' => by
     obtain ⟨es,h3,_⟩ := h2 i _ (List.getElem?_eq_getElem hi')
     exact ⟨es,h3⟩
    have hlen : ys.length = (els ys).length := (Xh ys).symm
    rw [hlen]
    refine .sl (els ys) b o (Enc.k α) cap (fun i j => ((w.cells? 0 ((⟨b,o,none⟩ : Addr).add (i * P.cellsOf e)) (P.cellsOf e)).getD []).getD j undef) trivial (by rw [Xh]; exact hl) hm Enc.pos (fun e' he => ?_) (fun i j hi' hj => ?_) fun i j e' t' h3 h4 => ?_
    ·obtain ⟨y,_,rfl⟩ := List.mem_map.1 he
     exact Enc.len y
    ·rw [Xh] at hi'
     obtain ⟨es,h3⟩ := hel i hi'
     obtain ⟨_,hcl,hat⟩ := World.cells?_some h3
     rw [hα.size] at hcl
     have h5 := hat j (by rw [hα.size]; exact hj)
     rw [add_lit,add_lit,hα.size,List.getElem?_eq_getElem (by omega)] at h5
     rw [h3]
     simp only [Option.getD_some]
     rw [h5,List.getD_eq_getElem?_getD,List.getElem?_eq_getElem (by omega)]
     rfl
    ·rw [List.getElem?_map] at h3
     obtain ⟨y,hy,rfl⟩ := Option.map_eq_some_iff.1 h3
     obtain ⟨es,h5,_,h6⟩ := h2 i y hy
     have hj : j < es.length := by rw [h6.1,← Enc.len y]; exact Xk h4
     show RO w _ t' (((w.cells? 0 ((⟨b,o,none⟩ : Addr).add (i * P.cellsOf e)) (P.cellsOf e)).getD []).getD j undef)
     rw [h5]
     simp only [Option.getD_some]
     rw [Xj (List.getElem?_eq_getElem hj)]
     exact h6.2 j t' _ h4 (List.getElem?_eq_getElem hj)

theorem r2_string {w : World} {H : Hs} {F : Nat → Prop} (s : ByteArray) : R2 w H F (astr s) (.string s) := RO.v _ rfl
end
section
open Go.RowKit

theorem I_eq {a b : Int} (h : a = b) : I a = I b := by rw [h]
theorem Yu {a b : Int} (h : a = b := by omega) : I a = I b := I_eq h
theorem B_eq {a b : Bool} (h : a = b) : B a = B b := by rw [h]
theorem eq_ne {α : Type} [DecidableEq α] {xs ys : List α} {j : Nat} (h1 : j < xs.length) (h2 : j < ys.length) (h : ¬ xs[j] = ys[j]) : decide (xs = ys) = false := by
 rw [decide_eq_false_iff_not]
 intro e
 subst e
 exact h J
theorem eq_all {α : Type} [DecidableEq α] {xs ys : List α} {j : Nat} (h1 : xs.length ≤ j) (h2 : xs.length = ys.length) (h : xs.take j = ys.take j) : decide (xs = ys) = true := by
 rw [List.take_of_length_le h1,List.take_of_length_le (by omega)] at h
 simp [h]
theorem eq_len {α : Type} [DecidableEq α] {xs ys : List α} (h : xs.length ≠ ys.length) : decide (xs = ys) = false := by
 rw [decide_eq_false_iff_not]
 intro e
 subst e
 exact h J
theorem eq_next {α : Type} {xs ys : List α} {j : Nat} (h1 : j < xs.length) (h2 : j < ys.length) (h : xs.take j = ys.take j) (e : xs[j] = ys[j]) : xs.take (j + 1) = ys.take (j + 1) := by
 rw [List.take_succ_eq_append_getElem h1,List.take_succ_eq_append_getElem h2,h,e]

/-! ### Counting -/
/-! ### Copying -/
def part {α : Type} [Enc α] (xs : List α) (z : List T) (k : Nat) : List (List T) := els (xs.take k) ++ List.replicate (xs.length - k) z
/-! ### Comparing -/
theorem eq_StringS (xs ys : List ByteArray) (hn : Enc.gd xs) : Con Tryd.prog 35 [] [al xs,al ys] [] (B (decide (xs = ys))) := by
 have hn1 := hn.1
 have hlx := Xh xs
 have hly := Xh ys
 by_cases hl : xs.length = ys.length
 ·have hb : decide (((els xs).length : Int) ≠ ((els ys).length : Int)) = false := by rw [hlx,hly,hl]; simp
  refine Con.of Tryd.func35 J Tryd.ntmps35 J (fun E => ?_)
  refine zy (z1 J (zz (Qd (zy (z0 J (zx (q_len J J J) J (z0 J (zx (q_len J J J) J ?_))))))));refine z9f J (by assumption) (zz (Ql J (Qh (Qz (Qd (zy (z1 J (zz ?_))))))));refine Qk ?_;refine A_lq (fun m st => ∃ k : Nat,k + m = xs.length ∧ (xs.take k = ys.take k) ∧ st = (⟨_,[(0,L xs),(1,L ys),(5,I k)],[]⟩ : St)) (xs.length) ⟨_,⟨0,by omega,by simp,J⟩,W_gj [] (by kernel_rfl)⟩ ?_
  rintro m_A _ ⟨k,hk_A,hp_A,rfl⟩
  refine Qd (zy (z0 J (z0 J (zx (q_len J J J) J (zx (q_lss J J J J) J (zz ?_))))))
  refine Q8 J (fun h => ?_) (fun h => ?_)
  ·have h3 : k < xs.length := by have := of_decide_eq_true h; omega
   have h4 : k < ys.length := by omega
   have hat := els_at h3
   have hat2 := els_at h4
   by_cases he : xs[k] = ys[k]
   ·have hk : decide (xs[k] ≠ ys[k]) = false := by simp [he]
    refine Qh (Qz (Qd (Qk (Qd (A_draw u8_0 u8_1 u8_2 J (Xx (Qa J J J) J (Xx (Qa J J J) J (Xx (Q1 J J J J (by omega) (by assumption) J) J (Xx (q_lr1 J J J J) J (Xx (Qa J J J) J (Xx (Qa J J J) J ?_)))))))))));refine Xx (Q1 J J J J (by omega) (by assumption) J) J (Xx (q_lr1 J J J J) J (Xx (q_sneqK J J J J (by assumption)) J (Xw (zz (Ql J (Qh (Q0 (Qz (Qc (z0 J ?_))))))))));refine z7 J (by omega) (z1 J (zz ?_))
    exact ⟨xs.length - (k + 1),by omega,_,⟨k + 1,by omega,eq_next h3 h4 hp_A he,J⟩,W_gj [] (by kernel_rfl)⟩
   ·have hk : decide (xs[k] ≠ ys[k]) = true := by simp [he]
    refine Qh (Qz (Qd (Qk (Qd (A_draw u8_0 u8_1 u8_2 J (Xx (Qa J J J) J (Xx (Qa J J J) J (Xx (Q1 J J J J (by omega) (by assumption) J) J (Xx (q_lr1 J J J J) J (Xx (Qa J J J) J (Xx (Qa J J J) J ?_)))))))))));refine Xx (Q1 J J J J (by omega) (by assumption) J) J (Xx (q_lr1 J J J J) J (Xx (q_sneqK J J J J (by assumption)) J (Xw (zz (Qm J (zy (z1 J (zz ?_))))))));refine Q7 (B_r (T_r (T_r (B_r (T_r (F_r ?_))))))
    exact E_tmp J J (Yh [] J J (B_eq (eq_ne h3 h4 he).symm))
  ·have h3 : ¬ ((k : Int) < (els xs).length) := of_decide_eq_false h
   refine Q6 (T_x (T_x (B_xs (Qz (zy (z1 J (zz (Q7 (F_r ?_)))))))))
   exact E_tmp J J (Yh [] J J (B_eq (eq_all (by omega) hl hp_A).symm))
 ·have hb : decide (((els xs).length : Int) ≠ ((els ys).length : Int)) = true := by rw [hlx,hly]; simp; omega
  refine Con.of Tryd.func35 J Tryd.ntmps35 J (fun E => ?_)
  refine zy (z1 J (zz (Qd (zy (z0 J (zx (q_len J J J) J (z0 J (zx (q_len J J J) J ?_))))))));refine z9f J (by assumption) (zz (Qm J (zy (z1 J (zz (Q7 (T_r (F_r ?_))))))))
  exact E_tmp J J (Yh [] J J (B_eq (eq_len hl).symm))
end
section
open Go.RowKit

def ownO : List T → List Ob
 | [] => []
 | .v _ :: ts => ownO ts
 | .sl k es :: ts => .row k es :: ownO ts
 | .un :: ts => ownO ts
def ownV : Nat → List T → List V1
 | _,[] => []
 | n,.v x :: ts => .rd [] (.v x) :: ownV n ts
 | n,.sl _ _ :: ts => .ref n :: ownV (n + 1) ts
 | n,.un :: ts => .un :: ownV n ts

structure TLevel where
 Rows : (List ByteArray)
 deriving DecidableEq
instance : Enc TLevel := ⟨1,by omega,fun x => [sl x.Rows],fun _ => rfl,fun x => Enc.gd x.Rows,fun x => Enc.wt x.Rows⟩
theorem TLevel.same {x y : TLevel} (h0 : x.Rows = y.Rows) : x = y := by cases x; cases y; simp_all
structure TReplay where
 Level : TLevel
 Players : Int
 Seed : Int
 Every : Int
 Rows : (List (List Int))
 Keys : (List ByteArray)
 deriving DecidableEq
instance : Enc TReplay := ⟨6,by omega,fun x => [sl x.Level.Rows,.v (.int .i64 x.Players),.v (.int .i64 x.Seed),.v (.int .i64 x.Every),sl x.Rows,sl x.Keys],fun _ => rfl,fun x => Enc.gd x.Level ∧ Enc.gd x.Players ∧ Enc.gd x.Seed ∧ Enc.gd x.Every ∧ Enc.gd x.Rows ∧ Enc.gd x.Keys,fun x => Enc.wt x.Level + Enc.wt x.Rows + Enc.wt x.Keys⟩
theorem TReplay.same {x y : TReplay} (h0 : x.Level = y.Level) (h1 : x.Players = y.Players) (h2 : x.Seed = y.Seed) (h3 : x.Every = y.Every) (h4 : x.Rows = y.Rows) (h5 : x.Keys = y.Keys) : x = y := by cases x; cases y; simp_all
end
section
open Go.RowKit
end
section
open Go.RowKit

section
variable {α : Type} {p : α → Bool} {xs : List α} {k : Nat}
end
end
section
open Go.RowKit

def fmtN (k : Nat) : ByteArray := bs (Lib.decDigits k)
def decG (m : Nat) : List UInt8 := if m = 0 then [] else Lib.decDigits m
theorem decG_step {m : Nat} (h : m ≠ 0) : decG m = decG (m / 10) ++ [UInt8.ofNat (48 + m % 10)] := by
 rw [decG,if_neg h]
 by_cases h1 : m < 10
 ·rw [Lib.decDigits_one h1,decG,if_pos (by omega),Nat.mod_eq_of_lt h1]; rfl
 ·rw [Lib.decDigits,dif_neg h1,decG,if_neg (by omega)]
theorem dec_len (m : Nat) : (Lib.decDigits m).length ≤ m + 1 := by
 induction m using Nat.strongRecOn with
 | ind m ih =>
  by_cases h : m < 10
  ·rw [Lib.decDigits_one h]; simp
  ·rw [Lib.decDigits,dif_neg h,List.length_append]
   have := ih (m / 10) (by omega)
   simp only [List.length_cons,List.length_nil]
   omega
theorem S_l01Figure (d : Int) (h0 : 0 ≤ d) (h : d < 10) : Con Tryd.prog 69 [] [ai d] [] (VI .u8 (48 + d)) := by
 have hb : decide (d < 10) = true := decide_eq_true h
 refine Con.of Tryd.func69 J Tryd.ntmps69 J (fun E => ?_)
 refine zy (z1 J (zz (Qd (zy (z0 J (Yj J (zz ?_)))))));refine Qm J (zy (z0 J (z7 J (by omega) (zx (q_convI J J J J (wrap_u8_in (by omega))) J (z1 J (zz (Q7 (T_r (F_r ?_)))))))))
 exact E_tmp J J (Yh [] J J J)
theorem S_FormatInt (n : Nat) (hn : n ≤ 1099511627776) : Con Tryd.prog 27 [] [ai n] [] (S (fmtN n)) := by
 by_cases h0 : n = 0
 ·subst h0
  have hb0 : decide (((0 : Nat) : Int) = 0) = true := decide_eq_true rfl
  refine Con.of Tryd.func27 J Tryd.ntmps27 J (fun E => ?_)
  refine zy (z1 J (zz (Qd (zy (z0 J (z9e J (by assumption) (zz ?_)))))));refine Qm J (zy (z1 J (zz (Q7 (T_r (F_r ?_))))))
  exact E_tmp J J (Yh [] J J (S_eq (by rw [fmtN,Lib.decDigits_one (by decide)]; rfl)))
 have hb0 : decide ((n : Int) = 0) = false := decide_eq_false (by omega)
 have hb1 : decide ((n : Int) < 0) = false := decide_eq_false (by omega)
 have hdl := dec_len n
 refine Con.of Tryd.func27 J Tryd.ntmps27 J (fun E => ?_)
 refine zy (z1 J (zz (Qd (zy (z0 J (z9e J (by assumption) (zz ?_)))))));refine Ql J (Qh (Qz (zy (z0 J (Yj J (z1 J (zz (zy ?_))))))));refine z1 J (zz (Qd (Qk ?_)));refine A_lq (fun m__ st => ∃ (m : Nat) (acc : List UInt8),m = m__ ∧ (decG m ++ acc = Lib.decDigits n ∧ m ≤ n) ∧ st = (⟨_,[(0,I m),(3,B false),(4,S (bs acc))],[]⟩ : St)) _ ⟨_,⟨n,[],J,⟨by rw [decG,if_neg h0,List.append_nil],Nat.le_refl _⟩,J⟩,W_gj [] (by kernel_rfl)⟩ ?_
 rintro m_A _ ⟨m,acc,hk_A,hp_A,rfl⟩
 obtain ⟨hp1,hp2⟩ := hp_A
 have hal : acc.length ≤ n + 1 := by rw [← hp1,List.length_append] at hdl; omega
 refine Qd (zy (z0 J (zx (q_neq J J J J) J (zz ?_))))
 refine Q8 J (fun h => ?_) (fun h => ?_)
 ·have h3 : m ≠ 0 := by have := of_decide_eq_true h; omega
  have hb2 : decide ((m : Int) % 10 < 0) = false := decide_eq_false (by omega)
  have hc := S_l01Figure ((m : Int) % 10) (by omega) (by omega)
  have hsz := Xg acc
  have hs1 : (bs [UInt8.ofNat (48 + (m : Int) % 10).toNat]).size = 1 := Xg _
  have hnx : decG (m / 10) ++ ([UInt8.ofNat (48 + (m : Int) % 10).toNat] ++ acc) = Lib.decDigits n := by rw [← hp1,decG_step h3,List.append_assoc]; congr 3
  refine Qh (Qz (Qk (zy (z0 J (zx (q_rem J J J J (by omega)) J (z1 J (zz (Qd (Qd ?_)))))))));refine Qc (z0 J (Yj J (zz (Ql J (Qh (Qz (zy (z0 J ?_))))))));refine zx (Qj J J (hc) J) J ?_;refine M1 (q_bslice J J J J J J) J J (zx (q_bstrb J J J J J) J (z0 J ?_))
  refine M0 (q_cat J J J J (by simp only [Xg,cat_size,List.length_cons,List.length_nil,List.length_append]; omega)) J J ?_
  refine z1 J (zz (Qc (z0 J (zx (q_quo J J J J (by omega)) J (z1 J (Qe (Q0 (Qz ?_))))))))
  refine ⟨_,(by omega),(fun (m : Nat) (acc : List UInt8) => (⟨_,[(0,I m),(3,B false),(4,S (bs acc))],[]⟩ : St)) (m / 10) ([UInt8.ofNat (48 + (m : Int) % 10).toNat] ++ acc),⟨m / 10,[UInt8.ofNat (48 + (m : Int) % 10).toNat] ++ acc,J,⟨hnx,by omega⟩,J⟩,W_go [] (by decide) J (by kernel_rfl) (.cons (Yu) (.c J (.cons (S_eq (bs_app _ _)) (.nil))))⟩
 ·have h3 : m = 0 := by have := of_decide_eq_false h; omega
  subst h3
  refine Q6 (T_x (T_x (B_xs (Qz (Qd (zy (z0 J (zz (Ql J ?_)))))))));refine Qh (Qz (zy (z0 J (z1 J (zz (Q7 (F_r ?_)))))))
  exact E_tmp J J (Yh [] J J (S_eq (by rw [fmtN,← hp1]; rfl)))
end
end Go.Proofs.YtcjclaoogdblbaaDoor
