/-
  For all lists of integers the law on RunHunt returns true and changes nothing that was there.
  Conditions: none.
-/
import Derived.Test.YtjkpoffhnccanaaHuntC
set_option linter.unusedSimpArgs false
namespace Go.Proofs.Ytjkpoffhnccanaa
open Go.RowKit

theorem own_ints {w w' w0 : World} {H : List Hp} {xs : List Int} {u : Value} {fp : List Nat} (hS : Sat w0 H w) (ho : OwnList w' xs u fp) (hf : Fresh w.heap.size fp) (hb : Below w.heap.size w w') : Sat w0 (Hp.own xs [u] fp :: H) w' :=
  hS.more hb (Hp.own xs [u] fp) ⟨u, rfl, ho⟩ hf

set_option maxHeartbeats 1600000 in
theorem law_RunHunt (xs ys : List Int) (v u : Value) (w0 : World) {F G : Nat → Prop} (hv : Rep.rd w0 F xs [v]) (hu : Rep.rd w0 G ys [u]) :
    Calls Try.prog 3 #[v, u] w0 fun e w' => e = .returned (.bool true) ∧ Below w0.heap.size w0 w' := by
  have hS := Sat.refl w0
  have hv0 := hv
  have hu0 := hu
  obtain ⟨A, c, hv', hc1, hc2, _⟩ := hv0
  obtain ⟨A', c', hu', hc3, hc4, _⟩ := hu0
  simp only [List.cons.injEq, and_true] at hv' hu'
  have hlen : ∀ (n : Nat), (1048576 < n) ∨ n ≤ 1048576 := fun n => by omega
  rcases hlen xs.length with hn | hn
  · subst hv' hu'
    go_enter Try.func3, Try.ntmps3
    go_wp2
    go_ret
    exact ⟨rfl, Below.refl _ _⟩
  rcases hlen ys.length with hm | hm
  · subst hv' hu'
    go_enter Try.func3, Try.ntmps3
    go_wp2
    go_ret
    exact ⟨rfl, Below.refl _ _⟩
  have Hv := Lib.hid hv
  have Hu := Lib.hid hu
  subst hv' hu'
  clear hv hu hlen
  go_enter Try.func3, Try.ntmps3
  go_wp2_with (fail)
  refine (toIntS_c xs _ _ _ (hS.old Hv.out) hn).mono ?_
  rintro e w1 ⟨u1, fp1, rfl, ho1, hf1, hb1⟩
  have hS := own_ints hS ho1 hf1 hb1
  clear ho1 hf1 hb1
  go_wp2_with (fail)
  refine (toIntS_c ys _ _ _ (hS.old Hu.out) hm).mono ?_
  rintro e w2 ⟨u2, fp2, rfl, ho2, hf2, hb2⟩
  have hS := own_ints hS ho2 hf2 hb2
  clear ho2 hf2 hb2
  go_wp2_with (fail)
  refine (S_run' xs ys _ _ _ (hS.mine (k := 1) rfl) (hS.mine (k := 0) rfl) hn hm).mono ?_
  rintro e w3 ⟨rfl, hb3⟩
  have hS := hS.step hb3
  clear hb3
  go_wp2_with (fail)
  refine (toIntS_c xs _ _ _ (hS.old Hv.out) hn).mono ?_
  rintro e w4 ⟨u4, fp4, rfl, ho4, hf4, hb4⟩
  have hS := own_ints hS ho4 hf4 hb4
  clear ho4 hf4 hb4
  go_wp2_with (fail)
  refine (toIntS_c ys _ _ _ (hS.old Hu.out) hm).mono ?_
  rintro e w5 ⟨u5, fp5, rfl, ho5, hf5, hb5⟩
  have hS := own_ints hS ho5 hf5 hb5
  clear ho5 hf5 hb5
  go_wp2_with (fail)
  refine (I_run' xs ys _ _ _ (hS.mine (k := 1) rfl) (hS.mine (k := 0) rfl) hn hm).mono ?_
  rintro e w6 ⟨rfl, hb6⟩
  have hS := hS.step hb6
  clear hb6
  go_wp2_with (fail)
  refine (toIntS_c xs _ _ _ (hS.old Hv.out) hn).mono ?_
  rintro e w7 ⟨u7, fp7, rfl, ho7, hf7, hb7⟩
  have hS := own_ints hS ho7 hf7 hb7
  clear ho7 hf7 hb7
  go_wp2_with (fail)
  refine (eqIntS_c xs xs _ _ _ _ _ (hS.mine (k := 2) rfl) (hS.mine (k := 0) rfl)).mono ?_
  rintro e w8 ⟨rfl, hb8⟩
  rw [beq_self_eq_true]
  have hS := hS.step hb8
  clear hb8
  go_wp2_with (fail)
  refine (toIntS_c ys _ _ _ (hS.old Hu.out) hm).mono ?_
  rintro e w9 ⟨u9, fp9, rfl, ho9, hf9, hb9⟩
  have hS := own_ints hS ho9 hf9 hb9
  clear ho9 hf9 hb9
  go_wp2_with (fail)
  refine (eqIntS_c ys ys _ _ _ _ _ (hS.mine (k := 2) rfl) (hS.mine (k := 0) rfl)).mono ?_
  rintro e w10 ⟨rfl, hb10⟩
  rw [beq_self_eq_true]
  have hS := hS.step hb10
  clear hb10
  go_wp2_with (fail)
  go_ret
  exact ⟨rfl, hS.below⟩

end Go.Proofs.Ytjkpoffhnccanaa
