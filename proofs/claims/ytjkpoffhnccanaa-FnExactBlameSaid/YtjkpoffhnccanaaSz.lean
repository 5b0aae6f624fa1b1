/-
  How much an argument holds: what the laws' counting functions return.
  Conditions: the number that is left is at most 2^20.
-/
import Derived.Test.YtjkpoffhnccanaaRows
import Derived.Test.YtjkpoffhnccanaaIntS
import Derived.Test.YtjkpoffhnccanaaFacts
import Derived.Test.YtjkpoffhnccanaaQuiet
import Derived.Deep.LoopGhost
import Derived.Handy
set_option linter.unusedSimpArgs false
namespace Go.Proofs.Ytjkpoffhnccanaa
open Go.RowKit

theorem ret_int {k : IntKind} {a b : Int} (h : a = b) : Ending.returned (.int k a) = .returned (.int k b) := by rw [h]
theorem one_of_rd {α : Type} [Rep α] {w : World} {F : Nat → Prop} {x : α} {es : List Value} (h : Rep.rd w F x es) (hs : Rep.size α = 1) : ∃ v, es = [v] := by
  have := Rep.len h
  rw [hs] at this
  exact List.length_eq_one_iff.1 this

/-- A slice of n plain elements. -/
def szN (n : Nat) (left : Int) : Int := if left - n < 0 then -1 else left - n
/-- One element after another. -/
def szGo {α : Type} (f : α → Int → Int) : List α → Int → Int
  | [], l => l
  | x :: xs, l => if f x l < 0 then -1 else szGo f xs (f x l)
def szL {α : Type} (f : α → Int → Int) (xs : List α) (l : Int) : Int := if l - xs.length < 0 then -1 else szGo f xs (l - xs.length)
/-- What a counting function may say: not less than -1, and no more than there was. -/
def SzOk {α : Type} (f : α → Int → Int) : Prop := ∀ x l, 0 ≤ l → -1 ≤ f x l ∧ f x l ≤ l

theorem szL_neg {α : Type} {f : α → Int → Int} {xs : List α} {l : Int} (h : l - xs.length < 0) : szL f xs l = -1 := by rw [szL, if_pos h]
theorem szL_pos {α : Type} {f : α → Int → Int} {xs : List α} {l : Int} (h : ¬ l - xs.length < 0) : szL f xs l = szGo f xs (l - xs.length) := by rw [szL, if_neg h]
theorem szGo_ok {α : Type} {f : α → Int → Int} (hf : SzOk f) : SzOk (szGo f)
  | [], l, h => by simp [szGo]; omega
  | x :: xs, l, h => by
    have h1 := hf x l h
    rw [szGo]
    split
    · omega
    · have := szGo_ok hf xs (f x l) (by omega)
      omega
theorem szL_ok {α : Type} {f : α → Int → Int} (hf : SzOk f) : SzOk (szL f) := by
  intro xs l h
  unfold szL
  split
  · omega
  · have := szGo_ok hf xs (l - xs.length) (by omega)
    omega
theorem szGo_neg {α : Type} {f : α → Int → Int} {xs : List α} {j : Nat} {q R : Int} (hj : j < xs.length) (h : f xs[j] q < 0) (hg : szGo f (xs.drop j) q = R) : R = -1 := by
  rw [List.drop_eq_getElem_cons hj, szGo, if_pos h] at hg
  exact hg.symm
theorem szGo_pos {α : Type} {f : α → Int → Int} {xs : List α} {j : Nat} {q R : Int} (hj : j < xs.length) (h : ¬ f xs[j] q < 0) (hg : szGo f (xs.drop j) q = R) : szGo f (xs.drop (j + 1)) (f xs[j] q) = R := by
  rw [List.drop_eq_getElem_cons hj, szGo, if_neg h] at hg
  exact hg
theorem szGo_end {α : Type} {f : α → Int → Int} {xs : List α} {q R : Int} (hg : szGo f (xs.drop xs.length) q = R) : q = R := by
  simpa [szGo] using hg

/-- What holds at the head of a round: k rounds at most are to come. -/
def SzAt {α : Type} (w0 : World) (f : α → Int → Int) (xs : List α) (R : Int) (k : Nat) (i lf : Value) (wr : World) : Prop :=
  ∃ (j : Nat) (q : Int), j + k = xs.length ∧ i = .int .i64 j ∧ lf = .int .i64 q ∧ 0 ≤ q ∧ q ≤ 1048576 ∧ szGo f (xs.drop j) q = R ∧ Sat w0 [] wr

/-- Slices of integers, or of structs of integers. -/
def szIntS_m (xs : List Int) (l : Int) : Int := szN xs.length l
theorem szIntS_ok : SzOk szIntS_m := by intro x l h; unfold szIntS_m szN; split <;> omega
theorem szIntS_c (xs : List Int) (v : Value) (l : Int) (w0 : World) {G : Nat → Prop} (hv : Rep.rd w0 G xs [v]) (h0 : 0 ≤ l) (h1 : l ≤ 1048576) :
    Calls Try.prog 43 #[v, .int .i64 l] w0 fun e w' => e = .returned (.int .i64 (szIntS_m xs l)) ∧ Below w0.heap.size w0 w' := by
  obtain ⟨A, c, hv', hc1, hc2, hl⟩ := hv
  simp only [List.cons.injEq, and_true] at hv'
  subst hv'
  obtain ⟨r, hr⟩ : ∃ r, r = szIntS_m xs l := ⟨_, rfl⟩
  rw [← hr]
  unfold szIntS_m szN at hr
  by_cases hn : l - xs.length < 0
  all_goals
    first | rw [if_pos hn] at hr | rw [if_neg hn] at hr
    subst hr
    go_enter Try.func43, Try.ntmps43
    go_wp2
    go_ret
    exact ⟨rfl, Below.refl _ _⟩

/-- Slices whose elements are counted by a function of their own, or are strings. -/
def szString_m (x : ByteArray) (l : Int) : Int := szN x.size l
theorem szString_ok : SzOk szString_m := by intro x l h; unfold szString_m szN; split <;> omega
def szStringS_m : List ByteArray → Int → Int := szL szString_m
theorem szStringS_ok : SzOk szStringS_m := szL_ok szString_ok
set_option maxHeartbeats 800000 in
theorem szStringS_c (xs : List ByteArray) (v : Value) (l : Int) (w0 : World) {G : Nat → Prop} (hv : Rep.rd w0 G xs [v]) (h0 : 0 ≤ l) (h1 : l ≤ 1048576) :
    Calls Try.prog 44 #[v, .int .i64 l] w0 fun e w' => e = .returned (.int .i64 (szStringS_m xs l)) ∧ Below w0.heap.size w0 w' := by
  have hS := Sat.refl w0
  obtain ⟨A, c, hv', hc1, hc2, hl⟩ := hv
  simp only [List.cons.injEq, and_true] at hv'
  subst hv'
  by_cases hn : l - xs.length < 0
  · have hr : szStringS_m xs l = -1 := szL_neg hn
    rw [hr]
    go_enter Try.func44, Try.ntmps44
    go_wp2
    go_ret
    exact ⟨rfl, Below.refl _ _⟩
  · have hr : szStringS_m xs l = szGo szString_m xs (l - xs.length) := szL_pos hn
    rw [hr]
    clear hr
    obtain ⟨R, hR⟩ : ∃ R, R = szGo szString_m xs (l - xs.length) := ⟨_, rfl⟩
    rw [← hR]
    have HR := Lib.hid hR.symm
    clear hR
    go_enter Try.func44, Try.ntmps44
    go_wp2
    go_loopg [5, 1] xs.length (fun k i lf wr => SzAt w0 szString_m xs R k i lf wr)
    case atStart => exact ⟨0, _, by omega, rfl, rfl, by omega, by omega, HR.out, hS⟩
    case round =>
      obtain ⟨j, q, hj, rfl, rfl, hq0, hq1, hg, hS⟩ := hrel
      have Hg := Lib.hid hg
      clear hg
      by_cases hlt : j < xs.length
      · obtain ⟨b, o, es, rfl, hb, hcs, hrd⟩ := (hS.old' hl).at_ hlt
        obtain ⟨u, rfl⟩ := one_of_rd hrd rfl
        have hcell : wr.cell? ⟨b, o + j, none⟩ = _ := (by simpa [Rep.size] using hcs.at_ 0 (by simp))
        have hok := szString_ok xs[j] q hq0
        have hneg := Lib.hid (fun h => szGo_neg (f := szString_m) hlt h Hg.out)
        have hpos := Lib.hid (fun h => szGo_pos (f := szString_m) hlt h Hg.out)
        clear hcs
        obtain ⟨r, hr⟩ : ∃ r, r = szString_m xs[j] q := ⟨_, rfl⟩
        rw [← hr] at hok hneg hpos
        obtain ⟨hu, hsz⟩ := hrd
        simp only [List.cons.injEq, and_true] at hu
        subst hu
        unfold szString_m szN at hr
        by_cases hr0 : q - xs[j].size < 0
        · rw [if_pos hr0] at hr
          have hR := hneg.out (by omega)
          clear hneg hpos Hg HR
          subst hR hr
          go_wp2
          go_ret
          exact ⟨rfl, hS.below⟩
        · rw [if_neg hr0] at hr
          have Hp := Lib.hid (hpos.out (by omega))
          clear hneg hpos
          subst hr
          go_wp2
          go_roundg (xs.length - (j + 1))
          case measure => omega
          case rel => exact ⟨j + 1, _, by omega, by go_num, rfl, by omega, by omega, Hp.out, hS⟩
      · have hjn : j = xs.length := by omega
        subst hjn
        go_wp2
        go_ret
        exact ⟨ret_int (szGo_end Hg.out), hS.below⟩
def szIntSS_m : List (List Int) → Int → Int := szL szIntS_m
theorem szIntSS_ok : SzOk szIntSS_m := szL_ok szIntS_ok
set_option maxHeartbeats 800000 in
theorem szIntSS_c (xs : List (List Int)) (v : Value) (l : Int) (w0 : World) {G : Nat → Prop} (hv : Rep.rd w0 G xs [v]) (h0 : 0 ≤ l) (h1 : l ≤ 1048576) :
    Calls Try.prog 13 #[v, .int .i64 l] w0 fun e w' => e = .returned (.int .i64 (szIntSS_m xs l)) ∧ Below w0.heap.size w0 w' := by
  have hS := Sat.refl w0
  obtain ⟨A, c, hv', hc1, hc2, hl⟩ := hv
  simp only [List.cons.injEq, and_true] at hv'
  subst hv'
  by_cases hn : l - xs.length < 0
  · have hr : szIntSS_m xs l = -1 := szL_neg hn
    rw [hr]
    go_enter Try.func13, Try.ntmps13
    go_wp2
    go_ret
    exact ⟨rfl, Below.refl _ _⟩
  · have hr : szIntSS_m xs l = szGo szIntS_m xs (l - xs.length) := szL_pos hn
    rw [hr]
    clear hr
    obtain ⟨R, hR⟩ : ∃ R, R = szGo szIntS_m xs (l - xs.length) := ⟨_, rfl⟩
    rw [← hR]
    have HR := Lib.hid hR.symm
    clear hR
    go_enter Try.func13, Try.ntmps13
    go_wp2
    go_loopg [5, 1] xs.length (fun k i lf wr => SzAt w0 szIntS_m xs R k i lf wr)
    case atStart => exact ⟨0, _, by omega, rfl, rfl, by omega, by omega, HR.out, hS⟩
    case round =>
      obtain ⟨j, q, hj, rfl, rfl, hq0, hq1, hg, hS⟩ := hrel
      have Hg := Lib.hid hg
      clear hg
      by_cases hlt : j < xs.length
      · obtain ⟨b, o, es, rfl, hb, hcs, hrd⟩ := (hS.old' hl).at_ hlt
        obtain ⟨u, rfl⟩ := one_of_rd hrd rfl
        have hcell : wr.cell? ⟨b, o + j, none⟩ = _ := (by simpa [Rep.size] using hcs.at_ 0 (by simp))
        have hok := szIntS_ok xs[j] q hq0
        have hneg := Lib.hid (fun h => szGo_neg (f := szIntS_m) hlt h Hg.out)
        have hpos := Lib.hid (fun h => szGo_pos (f := szIntS_m) hlt h Hg.out)
        clear hcs
        obtain ⟨r, hr⟩ : ∃ r, r = szIntS_m xs[j] q := ⟨_, rfl⟩
        rw [← hr] at hok hneg hpos
        go_wp2_with (fail)
        refine (szIntS_c xs[j] _ q _ hrd (by omega) (by omega)).mono ?_
        rintro e w1 ⟨rfl, hb⟩
        rw [← hr]
        have hS := hS.step hb
        clear hb hr
        by_cases hr0 : r < 0
        · have hR := hneg.out (by omega)
          clear hneg hpos Hg HR
          subst hR
          go_wp2
          go_ret
          exact ⟨rfl, hS.below⟩
        · have Hp := Lib.hid (hpos.out (by omega))
          clear hneg hpos
          go_wp2
          go_roundg (xs.length - (j + 1))
          case measure => omega
          case rel => exact ⟨j + 1, r, by omega, by go_num, rfl, by omega, by omega, Hp.out, hS⟩
      · have hjn : j = xs.length := by omega
        subst hjn
        go_wp2
        go_ret
        exact ⟨ret_int (szGo_end Hg.out), hS.below⟩
end Go.Proofs.Ytjkpoffhnccanaa
