/-
  Who is alone among lists of sums: what Blame returns, in the program and in the reference: one plain function for both.
  Conditions: at most 2^20 elements.
-/
import Derived.Test.YtjkpoffhnccanaaTo
set_option linter.unusedSimpArgs false
namespace Go.Proofs.Ytjkpoffhnccanaa
open Go.RowKit

def el (xs : List (List Int)) (t k : Nat) : Int := (xs.getD k []).getD t 0
def oth (xs : List (List Int)) (k : Nat) : Nat := (k + 1) % xs.length
/-- Up to the i-th list: is the k-th alone? -/
def alone (xs : List (List Int)) (t k i : Nat) : Bool := (el xs t k != el xs t (oth xs k)) && (List.range i).all fun j => j == k || el xs t j == el xs t (oth xs k)
def blameGo (xs : List (List Int)) (t : Nat) : Nat → Nat → Int
  | 0, _ => -1
  | n + 1, k => if alone xs t k xs.length then k else blameGo xs t n (k + 1)
def short (xs : List (List Int)) (t : Int) : Bool := xs.any fun x => decide ((x.length : Int) ≤ t)
def blame (xs : List (List Int)) (t : Int) : Int := if (xs.length : Int) < 3 ∨ t < 0 ∨ short xs t = true then -1 else blameGo xs t.toNat xs.length 0

theorem rows_at {w0 : World} {xs : List (List Int)} {A : Option Addr} (hl : RdList w0 (Old w0) xs A) (h0 : 0 < xs.length) :
    ∃ b o, A = some ⟨b, o, none⟩ ∧
      (∀ k, k < xs.length → ∃ A' c', ∀ w1, Below w0.heap.size w0 w1 → w1.cell? ⟨b, o + k, none⟩ = some (.slice A' (xs.getD k []).length c')) ∧
      ∀ k t, k < xs.length → t < (xs.getD k []).length → ∃ b' o' c', ∀ w1, Below w0.heap.size w0 w1 → w1.cell? ⟨b, o + k, none⟩ = some (.slice (some ⟨b', o', none⟩) (xs.getD k []).length c') ∧ w1.cell? ⟨b', o' + t, none⟩ = some (.int .i64 (el xs t k)) := by
  rcases hl with rfl | ⟨b, o, rfl, hb, hc⟩
  · simp at h0
  · refine ⟨b, o, rfl, fun k hk => ?_, fun k t hk ht => ?_⟩
    · obtain ⟨es, h1, A', c', rfl, h2, h3, h4⟩ := hc k _ (List.getElem?_eq_getElem hk)
      refine ⟨A', c', fun w1 hw => ?_⟩
      have := h1.at_ 0 (by simp)
      rw [hw.cell (p := ⟨b, o + k, none⟩) hb]
      simpa [Rep.size, List.getD, List.getElem?_eq_getElem hk] using this
    · obtain ⟨es, h1, A', c', rfl, h2, h3, h4⟩ := hc k _ (List.getElem?_eq_getElem hk)
      have hx : xs.getD k [] = xs[k] := by simp [List.getD, List.getElem?_eq_getElem hk]
      rw [hx] at ht ⊢
      obtain ⟨b', o', es', rfl, hb', h5, h6⟩ := h4.at_ ht
      obtain ⟨rfl, _⟩ := h6
      refine ⟨b', o', c', fun w1 hw => ⟨?_, ?_⟩⟩
      · have := h1.at_ 0 (by simp)
        rw [hw.cell (p := ⟨b, o + k, none⟩) hb]
        simpa [Rep.size] using this
      · have := h5.at_ 0 (by simp)
        rw [hw.cell (p := ⟨b', o' + t, none⟩) hb']
        have he : el xs t k = xs[k][t] := by unfold el; rw [hx]; simp [List.getD, List.getElem?_eq_getElem ht]
        rw [he]
        simpa [Rep.size] using this

theorem short_at {xs : List (List Int)} {t : Int} {j : Nat} (hj : j < xs.length) (h : ((xs.getD j []).length : Int) ≤ t) : short xs t = true := by
  unfold short
  rw [List.any_eq_true]
  exact ⟨xs[j], List.getElem_mem hj, by simpa [List.getD, List.getElem?_eq_getElem hj] using h⟩
theorem short_none {xs : List (List Int)} {t : Int} (h : ∀ j, j < xs.length → t < ((xs.getD j []).length : Int)) : ¬ short xs t = true := by
  unfold short
  rw [List.any_eq_true]
  rintro ⟨x, hx, h1⟩
  obtain ⟨j, hj, rfl⟩ := List.getElem_of_mem hx
  have := h j hj
  simp only [List.getD, List.getElem?_eq_getElem hj, Option.getD_some, decide_eq_true_eq] at this h1
  omega
theorem blame_few {xs : List (List Int)} {t : Int} (h : (xs.length : Int) < 3 ∨ t < 0 ∨ short xs t = true) : -1 = blame xs t := by rw [blame, if_pos h]
theorem alone_zero (xs : List (List Int)) (t k : Nat) : (el xs t k != el xs t (oth xs k)) = alone xs t k 0 := by simp [alone]
theorem alone_same {xs : List (List Int)} {t k j : Nat} (h : j = k ∨ (el xs t j != el xs t (oth xs k)) = false) : alone xs t k j = alone xs t k (j + 1) := by
  unfold alone
  rw [List.range_succ, List.all_append]
  have : (j == k || el xs t j == el xs t (oth xs k)) = true := by
    rcases h with rfl | h
    · simp
    · simp at h; simp [h]
  simp [this]
theorem alone_not {xs : List (List Int)} {t k j : Nat} (h1 : ¬ j = k) (h2 : (el xs t j != el xs t (oth xs k)) = true) {n : Nat} (hn : j < n) : alone xs t k n = false := by
  unfold alone
  rw [Bool.and_eq_false_iff]
  right
  rw [List.all_eq_false]
  refine ⟨j, by simpa using hn, ?_⟩
  simp at h2
  simp [h1, h2]

/-- The lists are long enough, up to the j-th. -/
def LongAt (w0 : World) (xs : List (List Int)) (t k : Nat) (i : Value) (wr : World) : Prop :=
  ∃ j : Nat, j + k = xs.length ∧ i = .int .i64 j ∧ (∀ j', j' < j → (t : Int) < ((xs.getD j' []).length : Int)) ∧ Sat w0 [] wr
def BlameAt (w0 : World) (xs : List (List Int)) (t : Nat) (R : Int) (k : Nat) (i : Value) (wr : World) : Prop :=
  ∃ j : Nat, j + k = xs.length ∧ i = .int .i64 j ∧ blameGo xs t k j = R ∧ Sat w0 [] wr
def AloneAt (w0 : World) (xs : List (List Int)) (t m k : Nat) (al i : Value) (wr : World) : Prop :=
  ∃ j : Nat, j + k = xs.length ∧ i = .int .i64 j ∧ al = .bool (alone xs t m j) ∧ Sat w0 [] wr

theorem blameGo_next {xs : List (List Int)} {t k m : Nat} {R : Int} (h : blameGo xs t (m + 1) k = R) (ha : alone xs t k xs.length = false) : blameGo xs t m (k + 1) = R := by
  rw [blameGo, ha] at h
  simpa using h
theorem blameGo_here {xs : List (List Int)} {t k m : Nat} {R : Int} (h : blameGo xs t (m + 1) k = R) (ha : alone xs t k xs.length = true) : (k : Int) = R := by
  rw [blameGo, ha] at h
  simpa using h

set_option maxHeartbeats 1600000 in
theorem S_blame (xs : List (List Int)) (v : Value) (t : Int) (w0 : World) {F : Nat → Prop} (hv : Rep.rd w0 F xs [v]) (hn : xs.length ≤ 1048576) (_hl : -9223372036854775808 ≤ t) (_hh : t ≤ 9223372036854775807) :
    Calls Try.prog 14 #[v, .int .i64 t] w0 fun e w' => e = .returned (.int .i64 (blame xs t)) ∧ Below w0.heap.size w0 w' := by
  have hS := Sat.refl w0
  obtain ⟨A, c, hv', _, _, hl⟩ := Rep.oldB hv
  simp only [List.cons.injEq, and_true] at hv'
  subst hv'
  clear hv
  obtain ⟨R, hR⟩ : ∃ R, R = blame xs t := ⟨_, rfl⟩
  rw [← hR]
  have HR := Lib.hid hR
  clear hR
  by_cases h3 : (xs.length : Int) < 3
  · go_enter Try.func14, Try.ntmps14
    go_wp2
    go_ret
    exact ⟨ret_int (by rw [HR.out]; exact blame_few (.inl h3)), Below.refl _ _⟩
  by_cases h4 : t < 0
  · go_enter Try.func14, Try.ntmps14
    go_wp2
    go_ret
    exact ⟨ret_int (by rw [HR.out]; exact blame_few (.inr (.inl h4))), Below.refl _ _⟩
  obtain ⟨t, rfl⟩ := Int.eq_ofNat_of_zero_le (show 0 ≤ t by omega)
  obtain ⟨b, o, rfl, hr1, hr2⟩ := rows_at hl (by omega)
  have Hr1 := Lib.hid hr1
  have Hr2 := Lib.hid hr2
  clear hr1 hr2 hl
  go_enter Try.func14, Try.ntmps14
  go_wp2
  go_loopg [5] xs.length (fun k i wr => LongAt w0 xs t k i wr)
  case atStart => exact ⟨0, by omega, rfl, fun j' h => by omega, hS⟩
  case round =>
    clear hS
    obtain ⟨j, hj, rfl, hlong, hS⟩ := hrel
    have Hlong := Lib.hid hlong
    clear hlong
    by_cases hlt : j < xs.length
    · obtain ⟨A', c', hc⟩ := Hr1.out j hlt
      have hcell := hc _ hS.below
      clear hc
      obtain ⟨n, hnn⟩ : ∃ n, n = (xs.getD j []).length := ⟨_, rfl⟩
      rw [← hnn] at hcell
      have Hnn := Lib.hid hnn
      clear hnn
      by_cases hs : (n : Int) ≤ t
      · go_wp2
        go_ret
        exact ⟨ret_int (by rw [HR.out]; exact blame_few (.inr (.inr (short_at hlt (by have := Hnn.out; omega))))), hS.below⟩
      · go_wp2
        go_roundg (xs.length - (j + 1))
        case measure => omega
        case rel => exact ⟨j + 1, by omega, by go_num, fun j' h => by
          by_cases e : j' = j
          · subst e; have := Hnn.out; omega
          · exact Hlong.out j' (by omega), hS⟩
    · have hjn : j = xs.length := by omega
      subst hjn
      have hR : R = blameGo xs t xs.length 0 := by
        rw [HR.out, blame, if_neg]
        · rfl
        · rintro (h | h | h)
          · omega
          · omega
          · exact short_none Hlong.out h
      clear HR
      have HR := Lib.hid hR
      clear hR
      go_wp2
      go_loopg [6] xs.length (fun k i wr => BlameAt w0 xs t R k i wr)
      case atStart => exact ⟨0, by omega, rfl, HR.out.symm, hS⟩
      case round =>
        clear hS
        obtain ⟨k, hk, rfl, hgo, hS⟩ := hrel
        have Hgo := Lib.hid hgo
        clear hgo
        by_cases hlt : k < xs.length
        · obtain ⟨m, rfl⟩ := Nat.exists_eq_succ_of_ne_zero (show gk ≠ 0 by omega)
          have ho : oth xs k < xs.length := Nat.mod_lt _ (by omega)
          have hrem : Int.tmod ((k : Int) + 1) xs.length = (oth xs k : Nat) := by unfold oth; rw [← Int.natCast_one, ← Int.natCast_add, Int.ofNat_tmod]
          have hrem2 : ((k : Int) + 1) % xs.length = (oth xs k : Nat) := by unfold oth; rw [Int.natCast_emod]; rfl
          obtain ⟨b1, o1, c1, hc1⟩ := Hr2.out k t hlt (by have := Hlong.out k hlt; omega)
          obtain ⟨b2, o2, c2, hc2⟩ := Hr2.out (oth xs k) t ho (by have := Hlong.out _ ho; omega)
          obtain ⟨n1, hn1⟩ : ∃ n, n = (xs.getD k []).length := ⟨_, rfl⟩
          obtain ⟨n2, hn2⟩ : ∃ n, n = (xs.getD (oth xs k) []).length := ⟨_, rfl⟩
          rw [← hn1] at hc1
          rw [← hn2] at hc2
          have hl1 : t < n1 := by have := Hlong.out k hlt; omega
          have hl2 : t < n2 := by have := Hlong.out _ ho; omega
          obtain ⟨q, hq⟩ : ∃ q, q = oth xs k := ⟨_, rfl⟩
          rw [← hq] at hrem hrem2 ho hc2
          obtain ⟨d1, d2⟩ := hc1 _ hS.below
          obtain ⟨d3, d4⟩ := hc2 _ hS.below
          have Hz := Lib.hid (alone_zero xs t k)
          have Hq := Lib.hid hq
          have Hn := Lib.hid (And.intro hn1 hn2)
          clear hc1 hc2 hq hn1 hn2
          go_wp2
          go_loopg [8, 9] xs.length (fun n al i wr => AloneAt w0 xs t k n al i wr)
          case atStart => exact ⟨0, by omega, rfl, by rw [Hq.out]; exact congrArg Value.bool Hz.out, hS⟩
          case round =>
            clear hS d1 d2 d3 d4
            obtain ⟨i, hi, rfl, rfl, hS⟩ := hrel
            by_cases hlt2 : i < xs.length
            · obtain ⟨b3, o3, c3, hc3⟩ := Hr2.out i t hlt2 (by have := Hlong.out i hlt2; omega)
              obtain ⟨n3, hn3⟩ : ∃ n, n = (xs.getD i []).length := ⟨_, rfl⟩
              rw [← hn3] at hc3
              have hl3 : t < n3 := by have := Hlong.out i hlt2; omega
              obtain ⟨d5, d6⟩ := hc3 _ hS.below
              clear hc3 hn3
              by_cases hik : i = k
              · have hne : ((i : Int) != (k : Int)) = false := by simp [hik]
                have Hal := Lib.hid (alone_same (xs := xs) (t := t) (k := k) (j := i) (.inl hik))
                clear hik
                go_wp2
                go_roundg (xs.length - (i + 1))
                case measure => omega
                case rel => exact ⟨i + 1, by omega, by go_num, congrArg Value.bool Hal.out, hS⟩
              · have hne : ((i : Int) != (k : Int)) = true := by simp; omega
                cases hx : (el xs t i != el xs t q)
                · have Hal := Lib.hid (alone_same (xs := xs) (t := t) (k := k) (j := i) (.inr (by rw [← Hq.out]; exact hx)))
                  clear hik
                  go_wp2
                  go_roundg (xs.length - (i + 1))
                  case measure => omega
                  case rel => exact ⟨i + 1, by omega, by go_num, congrArg Value.bool Hal.out, hS⟩
                · have Hal := Lib.hid (fun n => alone_not (xs := xs) (t := t) (k := k) (j := i) (n := n) hik (by rw [← Hq.out]; exact hx))
                  clear hik
                  go_wp2
                  go_roundg (xs.length - (i + 1))
                  case measure => omega
                  case rel => exact ⟨i + 1, by omega, by go_num, congrArg Value.bool (Hal.out _ (by omega)).symm, hS⟩
            · have hin : i = xs.length := by omega
              subst hin
              cases ha : alone xs t k xs.length
              · go_wp2
                go_roundg m
                case measure => omega
                case rel => exact ⟨k + 1, by omega, by go_num, blameGo_next (Hgo.out) ha, hS⟩
              · go_wp2
                go_ret
                exact ⟨ret_int (blameGo_here Hgo.out ha), hS.below⟩
        · have hkn : k = xs.length := by omega
          subst hkn
          have hk0 : gk = 0 := by omega
          subst hk0
          go_wp2
          go_ret
          exact ⟨ret_int (by rw [← Hgo.out]; rfl), hS.below⟩
set_option maxHeartbeats 1600000 in
theorem I_blame (xs : List (List Int)) (v : Value) (t : Int) (w0 : World) {F : Nat → Prop} (hv : Rep.rd w0 F xs [v]) (hn : xs.length ≤ 1048576) (_hl : -9223372036854775808 ≤ t) (_hh : t ≤ 9223372036854775807) :
    Calls Try.prog 16 #[v, .int .i64 t] w0 fun e w' => e = .returned (.int .i64 (blame xs t)) ∧ Below w0.heap.size w0 w' := by
  have hS := Sat.refl w0
  obtain ⟨A, c, hv', _, _, hl⟩ := Rep.oldB hv
  simp only [List.cons.injEq, and_true] at hv'
  subst hv'
  clear hv
  obtain ⟨R, hR⟩ : ∃ R, R = blame xs t := ⟨_, rfl⟩
  rw [← hR]
  have HR := Lib.hid hR
  clear hR
  by_cases h3 : (xs.length : Int) < 3
  · go_enter Try.func16, Try.ntmps16
    go_wp2
    go_ret
    exact ⟨ret_int (by rw [HR.out]; exact blame_few (.inl h3)), Below.refl _ _⟩
  by_cases h4 : t < 0
  · go_enter Try.func16, Try.ntmps16
    go_wp2
    go_ret
    exact ⟨ret_int (by rw [HR.out]; exact blame_few (.inr (.inl h4))), Below.refl _ _⟩
  obtain ⟨t, rfl⟩ := Int.eq_ofNat_of_zero_le (show 0 ≤ t by omega)
  obtain ⟨b, o, rfl, hr1, hr2⟩ := rows_at hl (by omega)
  have Hr1 := Lib.hid hr1
  have Hr2 := Lib.hid hr2
  clear hr1 hr2 hl
  go_enter Try.func16, Try.ntmps16
  go_wp2
  go_loopg [20] xs.length (fun k i wr => LongAt w0 xs t k i wr)
  case atStart => exact ⟨0, by omega, rfl, fun j' h => by omega, hS⟩
  case round =>
    clear hS
    obtain ⟨j, hj, rfl, hlong, hS⟩ := hrel
    have Hlong := Lib.hid hlong
    clear hlong
    by_cases hlt : j < xs.length
    · obtain ⟨A', c', hc⟩ := Hr1.out j hlt
      have hcell := hc _ hS.below
      clear hc
      obtain ⟨n, hnn⟩ : ∃ n, n = (xs.getD j []).length := ⟨_, rfl⟩
      rw [← hnn] at hcell
      have Hnn := Lib.hid hnn
      clear hnn
      by_cases hs : (n : Int) ≤ t
      · go_wp2
        go_ret
        exact ⟨ret_int (by rw [HR.out]; exact blame_few (.inr (.inr (short_at hlt (by have := Hnn.out; omega))))), hS.below⟩
      · go_wp2
        go_roundg (xs.length - (j + 1))
        case measure => omega
        case rel => exact ⟨j + 1, by omega, by go_num, fun j' h => by
          by_cases e : j' = j
          · subst e; have := Hnn.out; omega
          · exact Hlong.out j' (by omega), hS⟩
    · have hjn : j = xs.length := by omega
      subst hjn
      have hR : R = blameGo xs t xs.length 0 := by
        rw [HR.out, blame, if_neg]
        · rfl
        · rintro (h | h | h)
          · omega
          · omega
          · exact short_none Hlong.out h
      clear HR
      have HR := Lib.hid hR
      clear hR
      go_wp2
      go_loopg [31] xs.length (fun k i wr => BlameAt w0 xs t R k i wr)
      case atStart => exact ⟨0, by omega, rfl, HR.out.symm, hS⟩
      case round =>
        clear hS
        obtain ⟨k, hk, rfl, hgo, hS⟩ := hrel
        have Hgo := Lib.hid hgo
        clear hgo
        by_cases hlt : k < xs.length
        · obtain ⟨m, rfl⟩ := Nat.exists_eq_succ_of_ne_zero (show gk ≠ 0 by omega)
          have ho : oth xs k < xs.length := Nat.mod_lt _ (by omega)
          have hrem : Int.tmod ((k : Int) + 1) xs.length = (oth xs k : Nat) := by unfold oth; rw [← Int.natCast_one, ← Int.natCast_add, Int.ofNat_tmod]
          have hrem2 : ((k : Int) + 1) % xs.length = (oth xs k : Nat) := by unfold oth; rw [Int.natCast_emod]; rfl
          obtain ⟨b1, o1, c1, hc1⟩ := Hr2.out k t hlt (by have := Hlong.out k hlt; omega)
          obtain ⟨b2, o2, c2, hc2⟩ := Hr2.out (oth xs k) t ho (by have := Hlong.out _ ho; omega)
          obtain ⟨n1, hn1⟩ : ∃ n, n = (xs.getD k []).length := ⟨_, rfl⟩
          obtain ⟨n2, hn2⟩ : ∃ n, n = (xs.getD (oth xs k) []).length := ⟨_, rfl⟩
          rw [← hn1] at hc1
          rw [← hn2] at hc2
          have hl1 : t < n1 := by have := Hlong.out k hlt; omega
          have hl2 : t < n2 := by have := Hlong.out _ ho; omega
          obtain ⟨q, hq⟩ : ∃ q, q = oth xs k := ⟨_, rfl⟩
          rw [← hq] at hrem hrem2 ho hc2
          obtain ⟨d1, d2⟩ := hc1 _ hS.below
          obtain ⟨d3, d4⟩ := hc2 _ hS.below
          have Hz := Lib.hid (alone_zero xs t k)
          have Hq := Lib.hid hq
          have Hn := Lib.hid (And.intro hn1 hn2)
          clear hc1 hc2 hq hn1 hn2
          go_wp2
          go_loopg [9, 56] xs.length (fun n al i wr => AloneAt w0 xs t k n al i wr)
          case atStart => exact ⟨0, by omega, rfl, by rw [Hq.out]; exact congrArg Value.bool Hz.out, hS⟩
          case round =>
            clear hS d1 d2 d3 d4
            obtain ⟨i, hi, rfl, rfl, hS⟩ := hrel
            by_cases hlt2 : i < xs.length
            · obtain ⟨b3, o3, c3, hc3⟩ := Hr2.out i t hlt2 (by have := Hlong.out i hlt2; omega)
              obtain ⟨n3, hn3⟩ : ∃ n, n = (xs.getD i []).length := ⟨_, rfl⟩
              rw [← hn3] at hc3
              have hl3 : t < n3 := by have := Hlong.out i hlt2; omega
              obtain ⟨d5, d6⟩ := hc3 _ hS.below
              clear hc3 hn3
              by_cases hik : i = k
              · have hne : ((i : Int) != (k : Int)) = false := by simp [hik]
                have Hal := Lib.hid (alone_same (xs := xs) (t := t) (k := k) (j := i) (.inl hik))
                clear hik
                go_wp2
                go_roundg (xs.length - (i + 1))
                case measure => omega
                case rel => exact ⟨i + 1, by omega, by go_num, congrArg Value.bool Hal.out, hS⟩
              · have hne : ((i : Int) != (k : Int)) = true := by simp; omega
                cases hx : (el xs t i != el xs t q)
                · have Hal := Lib.hid (alone_same (xs := xs) (t := t) (k := k) (j := i) (.inr (by rw [← Hq.out]; exact hx)))
                  clear hik
                  go_wp2
                  go_roundg (xs.length - (i + 1))
                  case measure => omega
                  case rel => exact ⟨i + 1, by omega, by go_num, congrArg Value.bool Hal.out, hS⟩
                · have Hal := Lib.hid (fun n => alone_not (xs := xs) (t := t) (k := k) (j := i) (n := n) hik (by rw [← Hq.out]; exact hx))
                  clear hik
                  go_wp2
                  go_roundg m
                  case measure => omega
                  case rel => exact ⟨k + 1, by omega, by go_num, blameGo_next Hgo.out (Hal.out _ hlt2), hS⟩
            · have hin : i = xs.length := by omega
              subst hin
              cases ha : alone xs t k xs.length
              · go_wp2
                go_roundg m
                case measure => omega
                case rel => exact ⟨k + 1, by omega, by go_num, blameGo_next (Hgo.out) ha, hS⟩
              · go_wp2
                go_ret
                exact ⟨ret_int (blameGo_here Hgo.out ha), hS.below⟩
        · have hkn : k = xs.length := by omega
          subst hkn
          have hk0 : gk = 0 := by omega
          subst hk0
          go_wp2
          go_ret
          exact ⟨ret_int (by rw [← Hgo.out]; rfl), hS.below⟩
end Go.Proofs.Ytjkpoffhnccanaa
