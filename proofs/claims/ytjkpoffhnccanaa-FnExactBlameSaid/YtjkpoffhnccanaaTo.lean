/-
  What the laws' copying and comparing functions return, over slices.
  Conditions: at most 2^20 of everything.
-/
import Derived.Test.YtjkpoffhnccanaaSz
set_option linter.unusedSimpArgs false
namespace Go.Proofs.Ytjkpoffhnccanaa
open Go.RowKit

/-- Nothing is longer than 2^20. -/
class Small (α : Type) where
  small : α → Prop
instance : Small Int := ⟨fun _ => True⟩
instance : Small ByteArray := ⟨fun x => x.size ≤ 1048576⟩
instance {α : Type} [Small α] : Small (List α) := ⟨fun xs => xs.length ≤ 1048576 ∧ ∀ x ∈ xs, Small.small x⟩
def SzSmall {α : Type} [Small α] (f : α → Int → Int) : Prop := ∀ x l, 0 ≤ l → l ≤ 1048576 → 0 ≤ f x l → Small.small x

theorem szGo_small {α : Type} [Small α] {f : α → Int → Int} (hk : SzOk f) (hf : SzSmall f) : ∀ (xs : List α) (l : Int), 0 ≤ l → l ≤ 1048576 → 0 ≤ szGo f xs l → ∀ x ∈ xs, Small.small x
  | [], _, _, _, _ => by simp
  | y :: xs, l, h0, h1, h => by
    have := hk y l h0
    rw [szGo] at h
    split at h
    · omega
    · intro x hx
      rcases List.mem_cons.1 hx with rfl | hx
      · exact hf x l h0 h1 (by omega)
      · exact szGo_small hk hf xs _ (by omega) (by omega) h x hx
theorem szL_small {α : Type} [Small α] {f : α → Int → Int} (hk : SzOk f) (hf : SzSmall f) : SzSmall (szL f) := by
  intro xs l h0 h1 h
  unfold szL at h
  split at h
  · omega
  · exact ⟨by omega, szGo_small hk hf xs _ (by omega) (by omega) h⟩
theorem szN_small {xs : List Int} {l : Int} (h0 : l ≤ 1048576) (h : 0 ≤ szN xs.length l) : Small.small xs := by
  unfold szN at h
  split at h
  · omega
  · exact ⟨by omega, fun _ _ => trivial⟩
theorem szIntS_small : SzSmall szIntS_m := fun _ _ _ h1 h => szN_small h1 h
theorem szString_small : SzSmall szString_m := fun x l h0 h1 h => by
  show x.size ≤ 1048576
  unfold szString_m szN at h
  split at h <;> omega
theorem szStringS_small : SzSmall szStringS_m := szL_small szString_ok szString_small
theorem szIntSS_small : SzSmall szIntSS_m := szL_small szIntS_ok szIntS_small

theorem OwnList.form {α : Type} [Own α] {w : World} {xs : List α} {v : Value} {fp : List Nat} (h : OwnList w xs v fp) : ∃ A c, v = .slice A xs.length c := by
  obtain ⟨A, c, e, _⟩ := h.rd
  simp only [List.cons.injEq, and_true] at e
  exact ⟨A, c, e⟩
instance : Own (List (List Int)) := ownOfList (List Int) 27
instance : Own (List ByteArray) := ownOfList ByteArray 32

/-- What holds at the head of a round of copying. -/
def ToAt {α : Type} [Own α] (w0 : World) (zs : List Value) (xs : List α) (g k : Nat) (i : Value) (wr : World) : Prop :=
  ∃ (j : Nat) (css : List (List Value)) (fps : List (List Nat)), j + k = xs.length ∧ i = .int .i64 j ∧ Sat w0 [Hp.box g (Own.tid α) (css.flatten ++ rep zs k), Hp.row (xs.take j) css fps] wr

theorem ToAt.start {α : Type} [Own α] {w0 w : World} {zs : List Value} {xs : List α} {g : Nat} (hS : Sat w0 [Hp.box g (Own.tid α) (rep zs xs.length)] w) : ToAt w0 zs xs g xs.length (.int .i64 0) w :=
  ⟨0, [], [], by omega, rfl, hS.noRow.swap⟩
theorem take_snoc {α : Type} {xs : List α} {j : Nat} (h : j < xs.length) : xs.take j ++ [xs[j]] = xs.take (j + 1) := by
  rw [List.take_succ_eq_append_getElem h]
theorem ToAt.next {α : Type} [Own α] {w0 w : World} {zs : List Value} {xs : List α} {g j k : Nat} {css : List (List Value)} {fps : List (List Nat)} (hj : j + (k + 1) = xs.length) (hlt : j < xs.length)
    (hS : Sat w0 [Hp.box g (Own.tid α) (css.flatten ++ rep zs k), Hp.row (xs.take j ++ [xs[j]]) css fps] w) {i : Int} (hi : i = (j : Int) + 1) : ToAt w0 zs xs g k (.int .i64 i) w :=
  ⟨j + 1, css, fps, by omega, by rw [hi]; rfl, by rw [← take_snoc hlt]; exact hS⟩

set_option maxHeartbeats 800000 in
theorem toStringS_c (xs : List ByteArray) (v : Value) (w0 : World) (F : Nat → Prop) (hv : Rep.rd w0 F xs [v]) (hn : Small.small xs) :
    Calls Try.prog 47 #[v] w0 fun e w' => ∃ u fp, e = .returned u ∧ OwnList w' xs u fp ∧ Fresh w0.heap.size fp ∧ Below w0.heap.size w0 w' := by
  have hS := Sat.refl w0
  obtain ⟨A, c, hv', hc1, hc2, hl⟩ := hv
  simp only [List.cons.injEq, and_true] at hv'
  subst hv'
  obtain ⟨hn, hsm⟩ := hn
  have Hs := Lib.hid hsm
  clear hsm
  go_enter Try.func47, Try.ntmps47
  go_wp2_with (refine wpl_make rfl _ _ _ rfl hS xs.length rfl rfl (by decide) (by omega) (by omega) ?_; clear hS; intro g w hS)
  go_loopg [4] xs.length (fun k i wr => ToAt w0 [.string ⟨#[]⟩] xs g k i wr)
  case atStart => exact ToAt.start hS
  case round =>
    clear hS
    obtain ⟨j, css, fps, hj, rfl, hS⟩ := hrel
    by_cases hlt : j < xs.length
    · obtain ⟨m, rfl⟩ := Nat.exists_eq_succ_of_ne_zero (show gk ≠ 0 by omega)
      obtain ⟨b, o, es, rfl, hb, hcs, hrd⟩ := (hS.old' hl).at_ hlt
      obtain ⟨u, rfl⟩ := one_of_rd hrd rfl
      have hcell : wr.cell? ⟨b, o + j, none⟩ = _ := (by simpa [Rep.size] using hcs.at_ 0 (by simp))
      clear hcs
      obtain ⟨hu, hsz⟩ := hrd
      simp only [List.cons.injEq, and_true] at hu
      subst hu
      have hS := hS.more (Below.refl _ _) (Hp.own (xs[j]) [.string xs[j]] []) ⟨⟨rfl, hsz⟩, rfl⟩ (Fresh.nil _)
      go_wp2_with (refine wpl_put1 rfl _ _ _ rfl hS rfl rfl rfl rfl (by simp [Rep.size]; omega) ?_; clear hS; intro w hS)
      have Hn := Lib.hid (fun (i : Int) (hi : i = (j : Int) + 1) => ToAt.next hj hlt hS hi)
      clear hS
      go_wp2
      go_roundg m
      case measure => omega
      case rel => exact Hn.out _ (by omega)
    · have hjn : j = xs.length := by omega
      subst hjn
      have hk : gk = 0 := by omega
      subst hk
      go_wp2
      go_ret
      obtain ⟨h1, h2⟩ := hS.full (by simp) (show xs.length ≤ _ by omega)
      exact ⟨_, _, rfl, by simpa using h1, h2, hS.below⟩
set_option maxHeartbeats 800000 in
theorem toIntSS_c (xs : List (List Int)) (v : Value) (w0 : World) (F : Nat → Prop) (hv : Rep.rd w0 F xs [v]) (hn : Small.small xs) :
    Calls Try.prog 15 #[v] w0 fun e w' => ∃ u fp, e = .returned u ∧ OwnList w' xs u fp ∧ Fresh w0.heap.size fp ∧ Below w0.heap.size w0 w' := by
  have hS := Sat.refl w0
  obtain ⟨A, c, hv', hc1, hc2, hl⟩ := hv
  simp only [List.cons.injEq, and_true] at hv'
  subst hv'
  obtain ⟨hn, hsm⟩ := hn
  have Hs := Lib.hid hsm
  clear hsm
  go_enter Try.func15, Try.ntmps15
  go_wp2_with (refine wpl_make rfl _ _ _ rfl hS xs.length rfl rfl (by decide) (by omega) (by omega) ?_; clear hS; intro g w hS)
  go_loopg [4] xs.length (fun k i wr => ToAt w0 [.slice none 0 0] xs g k i wr)
  case atStart => exact ToAt.start hS
  case round =>
    clear hS
    obtain ⟨j, css, fps, hj, rfl, hS⟩ := hrel
    by_cases hlt : j < xs.length
    · obtain ⟨m, rfl⟩ := Nat.exists_eq_succ_of_ne_zero (show gk ≠ 0 by omega)
      obtain ⟨b, o, es, rfl, hb, hcs, hrd⟩ := (hS.old' hl).at_ hlt
      obtain ⟨u, rfl⟩ := one_of_rd hrd rfl
      have hcell : wr.cell? ⟨b, o + j, none⟩ = _ := (by simpa [Rep.size] using hcs.at_ 0 (by simp))
      clear hcs
      go_wp2_with (fail)
      refine (toIntS_c xs[j] _ _ _ hrd (Hs.out _ (List.getElem_mem hlt)).1).mono ?_
      rintro e w1 ⟨u1, fp1, rfl, ho, hf, hb⟩
      obtain ⟨A1, c1, rfl⟩ := ho.form
      have hS := hS.more hb (Hp.own (xs[j]) [.slice A1 xs[j].length c1] fp1) ⟨_, rfl, ho⟩ hf
      clear ho hf hb hrd hcell
      go_wp2_with (refine wpl_put1 rfl _ _ _ rfl hS rfl rfl rfl rfl (by simp [Rep.size]; omega) ?_; clear hS; intro w hS)
      have Hn := Lib.hid (fun (i : Int) (hi : i = (j : Int) + 1) => ToAt.next hj hlt hS hi)
      clear hS
      go_wp2
      go_roundg m
      case measure => omega
      case rel => exact Hn.out _ (by omega)
    · have hjn : j = xs.length := by omega
      subst hjn
      have hk : gk = 0 := by omega
      subst hk
      go_wp2
      go_ret
      obtain ⟨h1, h2⟩ := hS.full (by simp) (show xs.length ≤ _ by omega)
      exact ⟨_, _, rfl, by simpa using h1, h2, hS.below⟩

/-! ### Comparing -/
theorem eqIntS_d (xs ys : List Int) (v u : Value) (w : World) (F G : Nat → Prop) (hv : Rep.rd w F xs [v]) (hu : Rep.rd w G ys [u]) :
    Calls Try.prog 12 #[v, u] w fun e w' => e = .returned (.bool (decide (xs = ys))) ∧ Below w.heap.size w w' := by
  refine (eqIntS_c xs ys v u w F G hv hu).mono ?_
  rintro e w' ⟨rfl, hb⟩
  exact ⟨ret_bool (by rw [Bool.eq_iff_iff]; simp), hb⟩

/-- What holds at the head of a round of comparing. -/
def EqAt {α : Type} (w0 : World) (xs ys : List α) (k : Nat) (i : Value) (wr : World) : Prop :=
  ∃ j : Nat, j + k = xs.length ∧ i = .int .i64 j ∧ xs.take j = ys.take j ∧ Sat w0 [] wr
theorem eq_ne {α : Type} [DecidableEq α] {xs ys : List α} {j : Nat} (h1 : j < xs.length) (h2 : j < ys.length) (h : ¬ xs[j] = ys[j]) : false = decide (xs = ys) := by
  symm
  rw [decide_eq_false_iff_not]
  intro e
  subst e
  exact h rfl
theorem eq_all {α : Type} [DecidableEq α] {xs ys : List α} {j : Nat} (h1 : j = xs.length) (h2 : xs.length = ys.length) (h : xs.take j = ys.take j) : true = decide (xs = ys) := by
  subst h1
  rw [List.take_length, h2, List.take_length] at h
  simp [h]
theorem eq_len {α : Type} [DecidableEq α] {xs ys : List α} (h : ¬ xs.length = ys.length) : false = decide (xs = ys) := by
  symm
  rw [decide_eq_false_iff_not]
  intro e
  exact h (by rw [e])

set_option maxHeartbeats 800000 in
theorem eqIntSS_d (xs ys : List (List Int)) (v u : Value) (w0 : World) (F G : Nat → Prop) (hv : Rep.rd w0 F xs [v]) (hu : Rep.rd w0 G ys [u]) :
    Calls Try.prog 17 #[v, u] w0 fun e w' => e = .returned (.bool (decide (xs = ys))) ∧ Below w0.heap.size w0 w' := by
  have hS := Sat.refl w0
  obtain ⟨A, c, hv', _, _, hl⟩ := Rep.oldB hv
  obtain ⟨A', c', hu', _, _, hl'⟩ := Rep.oldB hu
  simp only [List.cons.injEq, and_true] at hv' hu'
  subst hv' hu'
  obtain ⟨R, hR⟩ : ∃ R, R = decide (xs = ys) := ⟨_, rfl⟩
  rw [← hR]
  have HR := Lib.hid hR
  clear hR hv hu
  by_cases hlen : xs.length = ys.length
  · have hlb : ((xs.length : Int) != (ys.length : Int)) = false := by simp [hlen]
    have Hlen := Lib.hid hlen
    have hlen1 : xs.length ≤ ys.length := by omega
    clear hlen
    go_enter Try.func17, Try.ntmps17
    go_wp2
    go_loopg [5] xs.length (fun k i wr => EqAt w0 xs ys k i wr)
    case atStart => exact ⟨0, by omega, rfl, rfl, hS⟩
    case round =>
      clear hS
      obtain ⟨j, hj, rfl, ht, hS⟩ := hrel
      have Ht := Lib.hid ht
      clear ht
      by_cases hlt : j < xs.length
      · have hlt2 : j < ys.length := by omega
        obtain ⟨b, o, es, rfl, hb, hcs, hrd⟩ := hl.at_ hlt
        obtain ⟨b', o', es', rfl, hb', hcs', hrd'⟩ := hl'.at_ hlt2
        obtain ⟨u, rfl⟩ := one_of_rd hrd rfl
        obtain ⟨u', rfl⟩ := one_of_rd hrd' rfl
        have c0 : ∀ s' : SatW w0 [], s'.w.cell? ⟨b, o + j, none⟩ = _ := fun s' => by simpa [Rep.size] using (s'.sat.cells hb hcs).at_ 0 (by simp)
        have c1 : ∀ s' : SatW w0 [], s'.w.cell? ⟨b', o' + j, none⟩ = _ := fun s' => by simpa [Rep.size] using (s'.sat.cells hb' hcs').at_ 0 (by simp)
        clear hcs hcs'
        obtain ⟨r, hr⟩ : ∃ r, r = decide (xs[j] = ys[j]) := ⟨_, rfl⟩
        have P0 : ∀ s' : SatW w0 [], Calls Try.prog 12 #[u, u'] s'.w fun e w' => e = .returned (.bool r) ∧ Below s'.w.heap.size s'.w w' := fun s' => by
          rw [hr]; exact eqIntS_d xs[j] ys[j] u u' s'.w _ _ (s'.sat.old hrd) (s'.sat.old hrd')
        have P1 := Lib.hid P0
        clear P0 hrd hrd'
        have Hr := Lib.hid hr
        clear hr
        cases r
        all_goals
          go_wp2_with (fail)
          refine wp_region_satW hS (by kernel_rfl) (by kernel_rfl) ?_; intro _hne
          clear hS
          repeat (go_big_quiet_step (first
            | (go_at_call 12; exact SatW.calls (fun s' => P1.out s') _)))
          refine wpQuiet_nil ?_; rintro _ ⟨sq, rfl⟩; have hS := sq.sat; generalize sq.w = w at hS ⊢; clear sq
          go_wp2_with (fail)
        · go_ret
          exact ⟨ret_bool (by rw [HR.out]; exact eq_ne hlt hlt2 (by simpa using Hr.out.symm)), hS.below⟩
        · go_roundg (xs.length - (j + 1))
          case measure => omega
          case rel => exact ⟨j + 1, by omega, by go_num, take_snoc_eq hlt hlt2 Ht.out (by simpa using Hr.out.symm), hS⟩
      · have hjn : j = xs.length := by omega
        subst hjn
        go_wp2
        go_ret
        exact ⟨ret_bool (by rw [HR.out]; exact eq_all rfl Hlen.out Ht.out), hS.below⟩
  · have hlb : ((xs.length : Int) != (ys.length : Int)) = true := by simp; omega
    go_enter Try.func17, Try.ntmps17
    go_wp2
    go_ret
    exact ⟨ret_bool (by rw [HR.out]; exact eq_len hlen), Below.refl _ _⟩
end Go.Proofs.Ytjkpoffhnccanaa
