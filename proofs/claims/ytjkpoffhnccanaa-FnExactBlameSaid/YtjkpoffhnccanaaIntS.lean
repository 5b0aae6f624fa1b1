/-
  The conversion and the comparison of integer slices: what each returns.
  Conditions: at most 2^20 elements.
-/
import Derived.Test.YtjkpoffhnccanaaRows
import Derived.Test.YtjkpoffhnccanaaMem
import Derived.WalkLawsBesides
import Derived.Deep.QuietTactic
import Derived.BigQuiet
import Derived.Lib.Hide
namespace Go.Proofs.Ytjkpoffhnccanaa
open Go.RowKit

theorem Try.infoInt : (Try.prog.info? 3).map (fun i => (i.zero, i.size, i.bytes)) = some (some (.int .i64 0), 1, 8) := by kernel_rfl

theorem take_len {α : Type} (xs : List α) (n : Nat) (h : xs.length = n) : xs.take n = xs := by rw [← h]; exact List.take_length

theorem ownAll_ints (w : World) : ∀ xs : List Int, (∀ x ∈ xs, I64 x) → OwnAll w xs (xs.map fun x => [.int .i64 x]) (xs.map fun _ => [])
  | [], _ => trivial
  | x :: xs, h => ⟨⟨⟨rfl, h x (by simp)⟩, rfl⟩, ownAll_ints w xs fun y hy => h y (by simp [hy])⟩
theorem flatten_ints : ∀ xs : List Int, (xs.map fun x => [Value.int .i64 x]).flatten = xs.map (Value.int .i64)
  | [] => rfl
  | x :: xs => by simp [flatten_ints xs]
theorem flatten_nils : ∀ xs : List Int, (xs.map fun _ => ([] : List Nat)).flatten = []
  | [] => rfl
  | _ :: xs => by simp [flatten_nils xs]

/-- A row that holds the integers is a slice of integers in memory of its own. -/
theorem ownInts_of_row {w : World} {g : Nat} {xs : List Int} (hx : ∀ x ∈ xs, I64 x) (hn : xs.length ≤ 9223372036854775807) (h : w.rowIs g 3 xs.length fun j => .int .i64 (xs.getD j 0)) :
    OwnList w xs (.slice (some ⟨g, 0, none⟩) xs.length xs.length) [g] := by
  obtain ⟨c, hg, hs, hc⟩ := h
  refine ⟨_, _, ⟨?_, .inr ⟨g, xs.length, c, rfl, Nat.zero_le _, hg, Nat.le_refl _, by simpa [maxLen] using hn, by rw [hs]; exact (Nat.mul_one _).symm, ?_⟩⟩, ownAll_ints w xs hx, by rw [flatten_nils]; rfl⟩
  · rw [flatten_ints]; simp [Rep.size]
  · rw [flatten_ints]
    show c.toList.take (xs.length * 1) = _
    rw [take_len _ _ (by simp [hs])]
    apply List.ext_getElem?
    intro i
    by_cases hi : i < xs.length
    · have := hc i hi
      simp [List.getD, List.getElem?_eq_getElem hi] at this ⊢
      exact this
    · rw [List.getElem?_eq_none (by simp [hs]; omega), List.getElem?_eq_none (by simp; omega)]

/-- The round of 'out[i] = a[i]'. -/
def Filled (w0 wr : World) (xs : List Int) (k : Nat) : Prop :=
  wr.rowIs w0.heap.size 3 xs.length (fun j => if j < k then .int .i64 (xs.getD j 0) else .int .i64 0) ∧ Below w0.heap.size w0 wr ∧ w0.heap.size < wr.heap.size

theorem Filled.start (w : World) (xs : List Int) : Filled w (w.alloc (.cells (madeCells #[.int .i64 0] xs.length) 3)) xs 0 :=
  ⟨(World.rowIs_made w (.int .i64 0) xs.length 3).congr fun i _ => by simp, (Below.refl _ _).alloc (Nat.le_refl _) _, by simp⟩
theorem Filled.step {w0 wr : World} {xs : List Int} {k : Nat} (h : Filled w0 wr xs k) : Filled w0 (wr.setCell ⟨w0.heap.size, k, none⟩ (.int .i64 (xs.getD k 0))) xs (k + 1) := by
  obtain ⟨h1, h2, h3⟩ := h
  refine ⟨(h1.set k _).congr fun j _ => ?_, h2.setCell (Nat.le_refl _) _, by simpa [World.setCell] using h3⟩
  by_cases e : j = k
  · subst e; simp
  · rw [if_neg e]
    by_cases e2 : j < k
    · rw [if_pos e2, if_pos (by omega)]
    · rw [if_neg e2, if_neg (by omega)]

set_option maxHeartbeats 400000 in
theorem toIntS_c (xs : List Int) (v : Value) (w : World) (F : Nat → Prop) (hv : Rep.rd w F xs [v]) (hn : xs.length ≤ 1048576) :
    Calls Try.prog 10 #[v] w fun e w' => ∃ u fp, e = .returned u ∧ OwnList w' xs u fp ∧ Fresh w.heap.size fp ∧ Below w.heap.size w w' := by
  have hx := i64_of_rd hv
  obtain ⟨A, c, hv', hc, _, hl⟩ := Rep.oldB hv
  simp only [List.cons.injEq, and_true] at hv'
  subst hv'
  have hmk := run_make_row' (P := Try.prog) 22 3 (.int .i64 0) 8 Try.underlying22 Try.infoInt rfl .i64 .i64 xs.length (by omega) (by omega)
  go_enter Try.func10, Try.ntmps10
  go_wp2
  go_loopw [4] (fun i wr => ∃ k : Nat, k ≤ xs.length ∧ i = .int .i64 k ∧ Filled w wr xs k) (fun i _ => xs.length - (intOf i).toNat)
  case atStart => exact ⟨0, Nat.zero_le _, rfl, Filled.start w xs⟩
  case round =>
    obtain ⟨k, hk, rfl, hf⟩ := hrel
    by_cases hlt : k < xs.length
    · obtain ⟨b, o, es, rfl, hb, hcs, hr⟩ := hl.at_ hlt
      obtain ⟨rfl, _⟩ := hr
      have hcell := (hf.2.1.cell (p := ⟨b, o + k, none⟩) hb).trans (by simpa [Rep.size] using hcs.at_ 0 (by simp))
      have hdst := hf.1.cell hlt
      rw [if_neg (by omega)] at hdst
      have hfr := hf.1.frozen k
      have hstep := Lib.hid hf.step
      rw [show xs.getD k 0 = xs[k] from by simp [List.getD, List.getElem?_eq_getElem hlt]] at hstep
      clear hf hl hc hcs hb hx
      go_wp2
      go_roundw
      case rel => exact ⟨k + 1, by omega, by go_num, hstep.out⟩
      case measure => simp [intOf]; omega
    · have hkn : k = xs.length := by omega
      subst hkn
      go_wp2
      go_ret
      refine ⟨_, _, rfl, ownInts_of_row hx (by omega) (hf.1.congr fun i hi => by rw [if_pos hi]), Fresh.one (Nat.le_refl _), hf.2.1⟩

theorem take_snoc_eq {α : Type} {xs ys : List α} {k : Nat} (h1 : k < xs.length) (h2 : k < ys.length) (h : xs.take k = ys.take k) (e : xs[k] = ys[k]) : xs.take (k + 1) = ys.take (k + 1) := by
  rw [List.take_succ_eq_append_getElem h1, List.take_succ_eq_append_getElem h2, h, e]
theorem beq_of_take {xs ys : List Int} (hl : xs.length = ys.length) (h : xs.take xs.length = ys.take xs.length) : true = (xs == ys) := by
  rw [List.take_length, hl, List.take_length] at h
  simp [h]
theorem ne_of_at {xs ys : List Int} {k : Nat} (h1 : k < xs.length) (h2 : k < ys.length) (e : (xs[k] != ys[k]) = true) : false = (xs == ys) := by
  symm
  rw [beq_eq_false_iff_ne]
  intro h
  subst h
  simp at e
theorem ne_of_len {xs ys : List Int} (hl : xs.length ≠ ys.length) : false = (xs == ys) := by
  symm
  rw [beq_eq_false_iff_ne]
  intro h
  exact hl (by rw [h])
theorem ret_bool {a b : Bool} (h : a = b) : Ending.returned (.bool a) = .returned (.bool b) := by rw [h]

set_option maxHeartbeats 400000 in
/-- Are two lists of integers one. -/
theorem eqIntS_c (xs ys : List Int) (v u : Value) (w : World) (F G : Nat → Prop) (hv : Rep.rd w F xs [v]) (hu : Rep.rd w G ys [u]) :
    Calls Try.prog 12 #[v, u] w fun e w' => e = .returned (.bool (xs == ys)) ∧ Below w.heap.size w w' := by
  obtain ⟨A, c, hv', _, _, hl⟩ := Rep.oldB hv
  obtain ⟨A', c', hu', _, _, hl'⟩ := Rep.oldB hu
  simp only [List.cons.injEq, and_true] at hv' hu'
  subst hv' hu'
  by_cases hlen : xs.length = ys.length
  · have hlb : ((xs.length : Int) != (ys.length : Int)) = false := by simp [hlen]
    have Hlen := Lib.hid hlen
    have hlen1 : xs.length ≤ ys.length := by omega
    clear hlen
    go_enter Try.func12, Try.ntmps12
    go_wp2
    go_loopw [5] (fun i wr => ∃ k : Nat, k ≤ xs.length ∧ i = .int .i64 k ∧ xs.take k = ys.take k ∧ ∃ n, wr = w.drewN n) (fun i _ => xs.length - (intOf i).toNat)
    case atStart => exact ⟨0, Nat.zero_le _, rfl, rfl, 0, rfl⟩
    case round =>
      obtain ⟨k, hk, rfl, ht, nd, rfl⟩ := hrel
      have Ht := Lib.hid ht
      clear ht
      by_cases hlt : k < xs.length
      · have hlt2 : k < ys.length := by omega
        obtain ⟨b, o, es, rfl, hb, hcs, hr⟩ := hl.at_ hlt
        obtain ⟨b', o', es', rfl, hb', hcs', hr'⟩ := hl'.at_ hlt2
        obtain ⟨rfl, _⟩ := hr
        obtain ⟨rfl, _⟩ := hr'
        have hcell : w.cell? ⟨b, o + k, none⟩ = _ := (by simpa [Rep.size] using hcs.at_ 0 (by simp))
        have hcell' : w.cell? ⟨b', o' + k, none⟩ = _ := (by simpa [Rep.size] using hcs'.at_ 0 (by simp))
        clear hcs hcs' hl hl'
        cases he : (xs[k] != ys[k])
        · go_wp2
          go_quiet (fail)
          go_wp2
          go_roundw
          case rel => exact ⟨k + 1, by omega, by go_num, take_snoc_eq hlt hlt2 Ht.out (by simpa using he), _, rfl⟩
          case measure => simp [intOf]; omega
        · go_wp2
          go_quiet (fail)
          go_wp2
          go_ret
          exact ⟨ret_bool (ne_of_at hlt hlt2 he), below_drewN (below_drewN (Below.refl _ _) _) _⟩
      · have hkn : k = xs.length := by omega
        subst hkn
        go_wp2
        go_ret
        exact ⟨ret_bool (beq_of_take Hlen.out Ht.out), below_drewN (Below.refl _ _) _⟩
  · have hlb : ((xs.length : Int) != (ys.length : Int)) = true := by simp; omega
    go_enter Try.func12, Try.ntmps12
    go_wp2
    go_ret
    exact ⟨ret_bool (ne_of_len hlen), Below.refl _ _⟩

end Go.Proofs.Ytjkpoffhnccanaa
