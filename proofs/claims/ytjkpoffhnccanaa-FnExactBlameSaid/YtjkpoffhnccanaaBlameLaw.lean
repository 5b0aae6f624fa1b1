/-
  For all arguments the law on Blame returns true and changes nothing that was there.
  Conditions: none.
-/
import Derived.Test.YtjkpoffhnccanaaBlame
set_option linter.unusedSimpArgs false
namespace Go.Proofs.Ytjkpoffhnccanaa
open Go.RowKit

set_option maxHeartbeats 1600000 in
theorem law_Blame (xs : List (List Int)) (t : Int) (v : Value) (w0 : World) {F : Nat → Prop} (hv : Rep.rd w0 F xs [v]) (ht : I64 t) :
    Calls Try.prog 4 #[v, .int .i64 t] w0 fun e w' => e = .returned (.bool true) ∧ Below w0.heap.size w0 w' := by
  have hS := Sat.refl w0
  obtain ⟨ht1, ht2⟩ := ht
  have hok := szIntSS_ok xs 1048576 (by omega)
  have hsm := szIntSS_small xs 1048576 (by omega) (by omega)
  have Hsm := Lib.hid hsm
  clear hsm
  have Hv := Lib.hid hv
  clear hv
  have Hm := Lib.hid (szIntSS_c xs v 1048576 w0 Hv.out (by omega) (by omega))
  obtain ⟨r, hr⟩ : ∃ r, r = szIntSS_m xs 1048576 := ⟨_, rfl⟩
  rw [← hr] at hok Hsm Hm
  clear hr
  rcases Int.lt_or_le r 0 with hr | hr
  · go_enter Try.func4, Try.ntmps4
    go_wp2_with (fail)
    refine (Hm.out).mono ?_
    rintro e w1 ⟨rfl, hb⟩
    have hS := hS.step hb
    clear hb
    go_wp2_with (fail)
    go_ret
    exact ⟨rfl, hS.below⟩
  · have Hs := Lib.hid (Hsm.out hr)
    have Hn := Lib.hid (Hs.out.1)
    clear Hsm
    go_enter Try.func4, Try.ntmps4
    go_wp2_with (fail)
    refine (Hm.out).mono ?_
    rintro e w1 ⟨rfl, hb⟩
    have hS := hS.step hb
    clear hb
    go_wp2_with (fail)
    refine (toIntSS_c xs _ _ _ (hS.old Hv.out) Hs.out).mono ?_
    rintro e w1 ⟨u1, fp1, rfl, ho, hf, hb⟩
    have hS := hS.more hb (Hp.own xs [u1] fp1) ⟨_, rfl, ho⟩ hf
    clear ho hf hb
    go_wp2_with (fail)
    refine (S_blame xs _ t _ (hS.mine (k := 0) rfl) Hn.out ht1 ht2).mono ?_
    rintro e w1 ⟨rfl, hb⟩
    have hS := hS.step hb
    clear hb
    go_wp2_with (fail)
    refine (toIntSS_c xs _ _ _ (hS.old Hv.out) Hs.out).mono ?_
    rintro e w1 ⟨u1, fp1, rfl, ho, hf, hb⟩
    have hS := hS.more hb (Hp.own xs [u1] fp1) ⟨_, rfl, ho⟩ hf
    clear ho hf hb
    go_wp2_with (fail)
    refine (I_blame xs _ t _ (hS.mine (k := 0) rfl) Hn.out ht1 ht2).mono ?_
    rintro e w1 ⟨rfl, hb⟩
    have hS := hS.step hb
    clear hb
    go_wp2_with (fail)
    refine (toIntSS_c xs _ _ _ (hS.old Hv.out) Hs.out).mono ?_
    rintro e w1 ⟨u1, fp1, rfl, ho, hf, hb⟩
    have hS := hS.more hb (Hp.own xs [u1] fp1) ⟨_, rfl, ho⟩ hf
    clear ho hf hb
    go_wp2_with (fail)
    refine (eqIntSS_d xs xs _ _ _ _ _ (hS.mine (k := 1) rfl) (hS.mine (k := 0) rfl)).mono ?_
    rintro e w1 ⟨rfl, hb⟩
    rw [decide_eq_true rfl]
    have hS := hS.step hb
    clear hb
    go_wp2_with (fail)
    go_ret
    exact ⟨rfl, hS.below⟩

end Go.Proofs.Ytjkpoffhnccanaa
