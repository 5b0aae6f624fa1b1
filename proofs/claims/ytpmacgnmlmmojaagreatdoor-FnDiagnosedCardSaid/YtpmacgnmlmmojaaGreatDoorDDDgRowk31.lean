/-
  The kit's readings of the laws' structs as Lean data. No statement of the program is proved here.
  Conditions: none.
  The kit's reading of a list of bytes as Lean data. No statement of the program is proved here.
  Conditions: none.
-/
import Derived.Test.YtpmacgnmlmmojaaGreatDoorDDDgRowk13
import Derived.Test.YtpmacgnmlmmojaaGreatDoorDDDgRowk24
set_option linter.unusedVariables false
namespace Go.Proofs.YtpmacgnmlmmojaaGreatDoor
section
open Go.ChangeShapes Go.WideShapes Go.ChangeAt Go.RowKit

def RL (w : World) (ts : List T) (cs : List Value) : Prop := ∀ (j : Nat) (t : T) (u : Value),ts[j]? = some t → cs[j]? = some u → RO w (fun _ => True) t u
theorem RL.nil {w : World} {cs : List Value} : RL w [] cs := fun _ _ _ h => by simp at h
theorem RL.app {w : World} {ts us : List T} {cs : List Value} {o n : Nat} (h1 : RL w ts ((cs.drop o).take n)) (hn : ts.length = n) (h2 : RL w us (cs.drop (o + n))) : RL w (ts ++ us) (cs.drop o) := fun j t u h3 h4 => by
 rcases Nat.lt_or_ge j ts.length with hj | hj
 ·rw [List.getElem?_append_left hj] at h3
  exact h1 j t u h3 (by rw [List.getElem?_take,if_pos (by omega)]; exact h4)
 ·rw [List.getElem?_append_right hj] at h3
  refine h2 (j - ts.length) t u h3 ?_
  rw [List.getElem?_drop] at h4 ⊢
  rw [← h4]
  congr 1
  omega
theorem reads_fld {P : Program} {t tt : TypeId} {fs : Array Field} {f : Field} {α : Type} [Enc α] {H : Type} {enc : TypeId × Value → H} {w : World} {spare : Nat → Bool} {held : Bool} {fuel : Nat} {cs : List Value} {x : DataW H × List MemPlace}
  (ht : P.underlying t = some (.struct fs)) (h : DataW.trod enc P w 0 spare held fuel t cs = some x) (i : Nat) (hf : fs[i]? = some f) (hty : f.type = tt) [hα : RdOf P tt α] {o : Nat} (ho : f.offset = o) :
  ∃ y : α,Enc.gd y ∧ RL w (Enc.e y) ((cs.drop o).take (Enc.k α)) := by
 obtain ⟨xs,n,_,_,hl,hlen,hfs⟩ := DataW.trod_struct ht h
 have h1 := hfs i f hf
 have hi : i < fs.size := by
  rcases Nat.lt_or_ge i fs.size with h2 | h2
  ·exact h2
  ·rw [Array.getElem?_eq_none h2] at hf; cases hf
 rw [List.getElem?_eq_getElem (by omega),hty,ho,hα.size] at h1
 obtain ⟨y,hg,hr⟩ := hα.of h1
 exact ⟨y,hg,hr.2⟩
theorem reads_len {P : Program} {t : TypeId} {fs : Array Field} {H : Type} {enc : TypeId × Value → H} {w : World} {spare : Nat → Bool} {held : Bool} {fuel : Nat} {cs : List Value} {x : DataW H × List MemPlace}
  (ht : P.underlying t = some (.struct fs)) (h : DataW.trod enc P w 0 spare held fuel t cs = some x) : cs.length = P.cellsOf t := by
 obtain ⟨xs,n,_,_,hl,_⟩ := DataW.trod_struct ht h
 exact hl

instance : RdOf Tryz.prog 3 Int := rdOf_int Tryz.underlying3 (by kernel_rfl)
instance : RdOf Tryz.prog 9 ByteArray := rdOf_string Tryz.underlying9 (by kernel_rfl)
instance : RdOf Tryz.prog 27 (List Int) := rdOf_slice Tryz.underlying27 (by kernel_rfl)
instance : RdOf Tryz.prog 24 (List ByteArray) := rdOf_slice Tryz.underlying24 (by kernel_rfl)
instance : RdOf Tryz.prog 31 (List (List Int)) := rdOf_slice Tryz.underlying31 (by kernel_rfl)
instance : RdOf Tryz.prog 71 TLevel where
 size := by kernel_rfl
 of {H enc w spare held fuel cs x} h := by
  obtain ⟨y0,g0,r0⟩ := reads_fld (α := (List ByteArray)) (tt := 24) Tryz.underlying71 h 0 rfl rfl rfl
  refine ⟨⟨y0⟩,g0,?_,?_⟩
  ·rw [reads_len Tryz.underlying71 h]; kernel_rfl
  ·exact (RL.app (o := 0) (n := 1) r0 rfl (RL.nil) : RL w _ (cs.drop 0))
end
section
open Go.ChangeShapes Go.WideShapes Go.ChangeAt Go.RowKit

theorem rdOf_u8 {P : Program} {t : TypeId} (ht : P.underlying t = some (.int .u8)) (hs : P.cellsOf t = 1) : RdOf P t UInt8 where
 size := hs
 of h := by
  obtain ⟨n,rfl,_,h3⟩ := DataW.trod_int ht h
  have hn : 0 ≤ n ∧ n ≤ 255 := by
   simp [Lit.wf,IntKind.min,IntKind.max,IntKind.signed,IntKind.bits] at h3
   omega
  have h1 : ((UInt8.ofNat n.toNat).toNat : Int) = n := by
   rw [UInt8.toNat_ofNat']
   omega
  refine ⟨UInt8.ofNat n.toNat,trivial,reads_one (t := .v (.int .u8 n)) ?_ (.v _ J)⟩
  show [T.v (.int .u8 ((UInt8.ofNat n.toNat).toNat : Int))] = _
  rw [h1]
instance : RdOf Tryz.prog 5 UInt8 := rdOf_u8 Tryz.underlying5 (by kernel_rfl)
instance : RdOf Tryz.prog 22 (List UInt8) := rdOf_slice Tryz.underlying22 (by kernel_rfl)
end
end Go.Proofs.YtpmacgnmlmmojaaGreatDoor
