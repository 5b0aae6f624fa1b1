/-
  Parts of the proof (rules, data, and what functions of the program and of the reference return), among them: AddRows, in the program and in the reference; What a replay of rows holds: its keys are the differences of the lockstep worlds.
  Conditions: those that each theorem names.
-/
import Derived.Test.YtbfhboakafjjgaaGreatDDReplRowk35
import Derived.Test.YtbfhboakafjjgaaGreatDDReplRowk38
import Derived.Test.YtbfhboakafjjgaaGreatDDReplRowk39
set_option linter.unusedSimpArgs false
set_option linter.unusedVariables false
set_option maxRecDepth 8000
set_option maxHeartbeats 8000000
namespace Go.Proofs.YtbfhboakafjjgaaGreat
section
open Go.RowKit

noncomputable def addOne (r : TReplay) (row : List Int) (last w : TWorld) : TReplay :=
 ⟨r.Level,r.Players,r.Seed,r.Every,r.Rows ++ [row],if ((r.Rows.length : Int) + 1) % r.Every = 0 then r.Keys ++ [deltaT (worldBytes last) (worldBytes (stepW w row))] else r.Keys⟩
noncomputable def addTo (r : TReplay) (row : List Int) : Option TWorld → Option TWorld → TReplay × Bool
 | some last,some w => if replayOk (addOne r row last w) = true then (addOne r row last w,true) else (r,false)
 | _,_ => (r,false)
noncomputable def addRow (r : TReplay) (row : List Int) : TReplay × Bool := addTo r row (keyAt r ((r.Keys.length : Int) - 1)) (seekM r r.Rows.length)
theorem addTo_n (r : TReplay) (row : List Int) (x : Option TWorld) : addTo r row none x = (r,false) := rfl
theorem addTo_s (r : TReplay) (row : List Int) (x : Option TWorld) : addTo r row x none = (r,false) := by cases x <;> rfl
theorem addTo_b (r : TReplay) (row : List Int) (last w : TWorld) : addTo r row (some last) (some w) = if replayOk (addOne r row last w) = true then (addOne r row last w,true) else (r,false) := rfl
section
variable {r : TReplay} {row : List Int} {last w : TWorld}
theorem add_key (h : keyAt r ((r.Keys.length : Int) - 1) = none) : addRow r row = (r,false) := by
 unfold addRow
 rw [h]
 exact addTo_n _ _ _
theorem add_seek (h : seekM r r.Rows.length = none) : addRow r row = (r,false) := by
 unfold addRow
 rw [h]
 exact addTo_s _ _ _
theorem add_bad (h : replayOk r = false) : addRow r row = (r,false) := add_key (keyAt_bad (fun q => by rw [q.1] at h; cases h))
theorem add_no (h1 : keyAt r ((r.Keys.length : Int) - 1) = some last) (h2 : seekM r r.Rows.length = some w) (h : replayOk (addOne r row last w) = false) : addRow r row = (r,false) := by
 unfold addRow
 rw [h1,h2,addTo_b]
 exact if_neg (by rw [h]; exact Bool.false_ne_true)
theorem add_yes (h1 : keyAt r ((r.Keys.length : Int) - 1) = some last) (h2 : seekM r r.Rows.length = some w) (h : replayOk (addOne r row last w) = true) : addRow r row = (addOne r row last w,true) := by
 unfold addRow
 rw [h1,h2,addTo_b]
 exact if_pos h
theorem add_not (h : ∀ last w,replayOk (addOne r row last w) = false) : addRow r row = (r,false) := by
 unfold addRow
 cases keyAt r ((r.Keys.length : Int) - 1) with
 | none => exact addTo_n _ _ _
 | some last =>
  cases seekM r r.Rows.length with
  | none => exact addTo_s _ _ _
  | some w =>
   rw [addTo_b]
   exact if_neg (by rw [h]; exact Bool.false_ne_true)
theorem add_full (h : 400 ≤ r.Rows.length) : addRow r row = (r,false) := add_not fun last w => by
 rw [← Bool.not_eq_true]
 intro q
 unfold replayOk at q
 simp only [Bool.and_eq_true,decide_eq_true_eq] at q
 have := q.1.1.2
 simp only [addOne,List.length_append,List.length_singleton] at this
 omega
theorem add_row (h : rowOk row r.Players = false) : addRow r row = (r,false) := add_not fun last w => by
 rw [← Bool.not_eq_true]
 intro q
 unfold replayOk at q
 simp only [Bool.and_eq_true] at q
 have := List.all_eq_true.1 q.1.2 row (by simp [addOne])
 simp only [addOne] at this
 rw [h] at this
 cases this
end
theorem add_gd {r : TReplay} {row : List Int} {last w : TWorld} (hg : Enc.gd r) (gr : Enc.gd row) (h1 : r.Keys.length ≤ 1048576) (h3 : r.Rows.length ≤ 1048576) : Enc.gd (addOne r row last w) := by
 obtain ⟨g_Level,g_Players,g_Seed,g_Every,g_Rows,g_Keys⟩ := hg
 refine ⟨g_Level,g_Players,g_Seed,g_Every,⟨?_,fun x hx => ?_⟩,?_⟩
 ·simp only [addOne,List.length_append,List.length_singleton]; omega
 ·rcases List.mem_append.1 hx with h | h
  ·exact g_Rows.2 x h
  ·rw [List.mem_singleton] at h; subst h; exact gr
 ·simp only [addOne]
  split
  ·refine ⟨by rw [List.length_append,List.length_singleton]; omega,fun x hx => ?_⟩
   rcases List.mem_append.1 hx with h | h
   ·exact g_Keys.2 x h
   ·rw [List.mem_singleton] at h
    subst h
    have h5 := deltaT_size (worldBytes last) (worldBytes (stepW w row))
    have h6 := Yj (stepW w row)
    show (deltaT _ _).size ≤ 9223372036854775807
    omega
  ·exact g_Keys
theorem rows_tot : ∀ {xs : List (List Int)},tot xs ≤ 1048576 → ∀ x ∈ xs,x.length ≤ 1048576
 | [],_,x,hx => by cases hx
 | y :: ys,h,x,hx => by
  have h2 : tot (y :: ys) = y.length + tot ys := by simp [tot]
  rcases List.mem_cons.1 hx with e | e
  ·subst e; omega
  ·exact rows_tot (xs := ys) (by omega) x e
theorem rw_3 {a b c : Ob} {t : List Ob} {k : Nat} {x y : List (List T)} (h : x = y) : a :: b :: c :: Ob.row k x :: t = a :: b :: c :: Ob.row k y :: t := by rw [h]
theorem rw_4 {a b c d : Ob} {t : List Ob} {k : Nat} {x y : List (List T)} (h : x = y) : a :: b :: c :: d :: Ob.row k x :: t = a :: b :: c :: d :: Ob.row k y :: t := by rw [h]
theorem I_AddRow (r : TReplay) (row : List Int) (hg : Enc.gd r) (gr : Enc.gd row) (ir : RepIn r) (hrow : row.length ≤ 1048576) (hks : ∀ x ∈ r.Keys,x.size ≤ 1048576) : Con Tryz.prog 26 [] [ag r,al row] (ownO (Enc.e (addRow r row).1)) (.tu [.ag (ownV 0 (Enc.e (addRow r row).1)),.c (bv (addRow r row).2)]) := by
 have cr := Xu r hg
 have hlr := Yp r.Rows
 have hlk := Yp r.Keys
 have hrt := rows_tot ir.h4
 have cc := I_copyReplay r hg ir.h1 ir.h2 ir.h3 hrt
 have crow := I_rowOk row r.Players gr
 have hkl := ir.h2
 have hrl := ir.h3
 cases ho : replayOk r with
 | false =>
  rw [ho] at cr
  rw [add_bad ho]
  refine Con.of Tryz.func26 J Tryz.ntmps26 J (fun E => ?_)
  refine zy (M1 (Qq J J J J) J J (M1 (Qx J J J) J J (z1 J (zz (zy (z4 J J J ?_))))));refine M1 (Zo J J (cc) J J J) J J ?_;refine M1 (Qx J J J) J J ?_;refine Qy J J J J J J J J J (zz (Qd (zy (z4 J J J ?_))));refine zx (Qj J J (cr) J) J ?_;refine zn J (z0 J (z6 J (z6 J (z6 J (z6 J (zpT J (z0 J (z6 J (z6 J (z6 J (z6 J ?_)))))))))));refine z6 J (zpT J (zz (Qm J (zy (z4 J J J ?_)))));refine Qy J J J J J J J J J (z1 J (zz (Xa (T_r (F_r ?_)))))
  exact Xn J J J J J (X5 [2,3,4] (by decide) J J J)
 | true =>
 rw [ho] at cr
 by_cases hf : 400 ≤ r.Rows.length
 ·have f1 : decide (((els r.Rows).length : Int) ≥ 400) = true := decide_eq_true (by omega)
  rw [add_full hf]
  refine Con.of Tryz.func26 J Tryz.ntmps26 J (fun E => ?_)
  refine zy (M1 (Qq J J J J) J J (M1 (Qx J J J) J J (z1 J (zz (zy (z4 J J J ?_))))));refine M1 (Zo J J (cc) J J J) J J ?_;refine M1 (Qx J J J) J J ?_;refine Qy J J J J J J J J J (zz (Qd (zy (z4 J J J ?_))));refine zx (Qj J J (cr) J) J ?_;refine zn J (z0 J (z5 J (z2 J J J (z5 J (z3 J (z5 J (zx (Zw J J J) J (z5 J (z9d J (by assumption) (zpF J (z0 J ?_)))))))))));refine z6 J (z6 J (z6 J (z6 J (z6 J (zpT J (zz (Qm J (zy (z4 J J J ?_)))))))));refine Qy J J J J J J J J J (z1 J (zz (Xa (T_r (F_r ?_)))))
  exact Xn J J J J J (X5 [2,3,4] (by decide) J J J)
 have f1 : decide (((els r.Rows).length : Int) ≥ 400) = false := decide_eq_false (by omega)
 cases hro : rowOk row r.Players with
 | false =>
  rw [hro] at crow
  rw [add_row hro]
  refine Con.of Tryz.func26 J Tryz.ntmps26 J (fun E => ?_)
  refine zy (M1 (Qq J J J J) J J (M1 (Qx J J J) J J (z1 J (zz (zy (z4 J J J ?_))))));refine M1 (Zo J J (cc) J J J) J J ?_;refine M1 (Qx J J J) J J ?_;refine Qy J J J J J J J J J (zz (Qd (zy (z4 J J J ?_))));refine zx (Qj J J (cr) J) J ?_;refine zn J (z0 J (z5 J (z2 J J J (z5 J (z3 J (z5 J (zx (Zw J J J) J (z5 J (z9d J (by assumption) (zpF J (z0 J ?_)))))))))));refine z5 J (z0 J (z5 J (z2 J J J (z5 J (z3 J (z5 J ?_))))));refine zx (Qj J J (crow) J) J ?_;refine z5 J (zn J (zpF J (zz (Qm J (zy (z4 J J J ?_))))));refine Qy J J J J J J J J J (z1 J (zz (Xa (T_r (F_r ?_)))))
  exact Xn J J J J J (X5 [2,3,4] (by decide) J J J)
 | true =>
 rw [hro] at crow
 have ck := I_KeyAt r (((els r.Keys).length : Int) - 1) hg ⟨by omega,by omega⟩ ir hks
 have cse := I_SeekReplay r ((els r.Rows).length : Int) hg ⟨by omega,by omega⟩ ir hks
 have ik := keyAt_in (k := ((els r.Keys).length : Int) - 1) ir
 have is_ := seek_in (t := ((els r.Rows).length : Int)) ir
 rw [hlk] at ik
 rw [hlr] at is_
 rw [show keyAt r (((els r.Keys).length : Int) - 1) = keyAt r ((r.Keys.length : Int) - 1) by rw [hlk]] at ck
 rw [show seekM r ((els r.Rows).length : Int) = seekM r (r.Rows.length : Int) by rw [hlr]] at cse
 have cci := I_copyInts row hrow
 refine Con.of Tryz.func26 J Tryz.ntmps26 J (fun E => ?_)
 refine zy (M1 (Qq J J J J) J J (M1 (Qx J J J) J J (z1 J (zz (zy (z4 J J J ?_))))));refine M1 (Zo J J (cc) J J J) J J ?_;refine M1 (Qx J J J) J J ?_;refine Qy J J J J J J J J J (zz (Qd (zy (z4 J J J ?_))));refine zx (Qj J J (cr) J) J ?_;refine zn J (z0 J (z5 J (z2 J J J (z5 J (z3 J (z5 J (zx (Zw J J J) J (z5 J (z9d J (by assumption) (zpF J (z0 J ?_)))))))))));refine z5 J (z0 J (z5 J (z2 J J J (z5 J (z3 J (z5 J ?_))))));refine zx (Qj J J (crow) J) J ?_;refine z5 J (zn J (zpF J (zz (Ql J (Qh (Q0 (zy (z4 J J J (z2 J J J ?_)))))))));refine z3 J (zx (Zw J J J) J (z8 J (by omega) ?_));refine AL.weak (st' := (⟨_,[(1,L row),(2,.o (.c (.ptr 0 0))),(4,.o (.c (.ptr 1 0))),(6,.o (.c (.ptr 5 0))),(30,.o (.ag ((Enc.e r).map (V1.rd [])))),(34,I (((els r.Keys).length : Int) - 1))],[.box ((Enc.e r).map (V1.rd [])),.box [nilV,jn 0,jn 0,jn 0,nilV,nilV],.row 1 (els r.Level.Rows),.row 1 (els r.Rows),.row 1 (els r.Keys),.box [.ref 2,jn r.Players,jn r.Seed,jn r.Every,.ref 3,.ref 4]]⟩ : St)) (W_gj [0,1,2,3,4,5] (by kernel_rfl)) ?_
 clear crow f1
 cases hk : keyAt r ((r.Keys.length : Int) - 1) with
 | none =>
  rw [hk] at ck
  rw [add_key hk]
  refine M1 (Zo J J (ck) J J J) J J ?_;refine zx (Q8 J J J) J (ze J (ze J (M1 (Qx J J J) J J ?_)));refine Qy J J J J J J J J J (z1 J (zz (Qd (zy (z0 J (zn J (zz (Qm J ?_))))))));refine zy (z4 J J J ?_);refine Qy J J J J J J J J J (z1 J (zz (Xa (T_r (F_r ?_)))))
  exact Xn J J J J J (X5 [2,3,4] (by decide) J J J)
 | some last =>
 rw [hk] at ck ik
 have wl := I_WorldBytes last ik.gd
 refine M1 (Zo J J (ck) J J J) J J ?_;refine zx (Q8 J J J) J (ze J (ze J (M1 (Qx J J J) J J ?_)));refine Qy J J J J J J J J J (z1 J (zz (Qd (zy (z0 J (zn J (zz (Ql J ?_))))))));refine Qh (Q0 (zy (z4 J J J (z2 J J J (z3 J (zx (Zw J J J) J ?_))))));refine AL.weak (st' := (⟨_,[(1,L row),(2,.o (.c (.ptr 0 0))),(4,.o (.c (.ptr 1 0))),(6,.o (.c (.ptr 5 0))),(7,.o (.c (.ptr 9 0))),(42,.o (.ag ((Enc.e r).map (V1.rd [])))),(45,I ((els r.Rows).length : Int))],[.box ((Enc.e r).map (V1.rd [])),.box [nilV,jn 0,jn 0,jn 0,nilV,nilV],.row 1 (els r.Level.Rows),.row 1 (els r.Rows),.row 1 (els r.Keys),.box [.ref 2,jn r.Players,jn r.Seed,jn r.Every,.ref 3,.ref 4],.row 1 (els last.Level.Rows),.row 1 (els last.Scores),.row 9 (els last.Bodies),.box [.ref 6,jn last.Tick,jn last.Seed,.ref 7,.ref 8]]⟩ : St)) (W_gj [0,1,2,3,4,5,6,7,8,9] (by kernel_rfl)) ?_
 clear ck
 cases hs : seekM r (r.Rows.length : Int) with
 | none =>
  rw [hs] at cse
  rw [add_seek hs]
  refine M1 (Zo J J (cse) J J J) J J ?_;refine zx (Q8 J J J) J (ze J (ze J (M1 (Qx J J J) J J ?_)));refine Qy J J J J J J J J J (z1 J (zz (Qd (zy (z0 J (zn J (zz (Qm J ?_))))))));refine zy (z4 J J J ?_);refine Qy J J J J J J J J J (z1 J (zz (Xa (T_r (F_r ?_)))))
  exact Xn J J J J J (X5 [2,3,4] (by decide) J J J)
 | some w =>
 rw [hs] at cse is_
 have iw : WorIn w := is_
 refine M1 (Zo J J (cse) J J J) J J ?_;refine zx (Q8 J J J) J (ze J (ze J (M1 (Qx J J J) J J ?_)));refine Qy J J J J J J J J J (z1 J (zz (Qd (zy (z0 J (zn J (zz (Ql J ?_))))))));refine Qh (Q0 (Qd ?_))
 refine AWP.pre (st' := (⟨_,[(1,L row),(2,.o (.c (.ptr 0 0))),(4,.o (.c (.ptr 1 0))),(6,.o (.c (.ptr 5 0))),(7,.o (.c (.ptr 9 0))),(9,.o (.c (.ptr 13 0)))],[.box ((Enc.e r).map (V1.rd [])),.box [nilV,jn 0,jn 0,jn 0,nilV,nilV],.row 1 (els r.Level.Rows),.row 1 (els r.Rows),.row 1 (els r.Keys),.box [.ref 2,jn r.Players,jn r.Seed,jn r.Every,.ref 3,.ref 4],.row 1 (els last.Level.Rows),.row 1 (els last.Scores),.row 9 (els last.Bodies),.box [.ref 6,jn last.Tick,jn last.Seed,.ref 7,.ref 8],.row 1 (els w.Level.Rows),.row 1 (els w.Scores),.row 9 (els w.Bodies),.box [.ref 10,jn w.Tick,jn w.Seed,.ref 11,.ref 12]]⟩ : St)) ?_ (W_gj [0,1,2,3,4,5,6,7,8,9,10,11,12,13] (by kernel_rfl))
 clear cse
 refine Xi [[],[0],[],[2],[2,3],(u9 5),(u9 6),(u9 7)] [[],[52],[],[54],[54,55],[52,53,54,55,56],[52,53,54,55,56,57],[52,53,54,55,56,57,58]] [[54,55,56],[54,55,56],[52,53],[52,53],[52,53],[],[],[]] J (DR.s (Qf J J J J (by decide)) J J (DR.s (Qg J J J J J) J J (DR.s (Qa J J J) J J ?_)));refine DR.s (Zo J J (cci) J J J) J J ?_;refine DR.s (Zj J J J J J J) J J (DR.stop (by kernel_rfl) (by kernel_rfl) ?_);refine AL.weak (st' := (⟨_,[(1,L row),(2,.o (.c (.ptr 0 0))),(4,.o (.c (.ptr 1 0))),(6,.o (.c (.ptr 5 0))),(7,.o (.c (.ptr 9 0))),(9,.o (.c (.ptr 13 0))),(53,.o (.c (.ref 3))),(56,.o (.c (.sb 15 1 1)))],[.box ((Enc.e r).map (V1.rd [])),.box [nilV,jn 0,jn 0,jn 0,nilV,nilV],.row 1 (els r.Level.Rows),.row 1 (els r.Rows),.row 1 (els r.Keys),.box [.ref 2,jn r.Players,jn r.Seed,jn r.Every,.ref 3,.ref 4],.row 1 (els last.Level.Rows),.row 1 (els last.Scores),.row 9 (els last.Bodies),.box [.ref 6,jn last.Tick,jn last.Seed,.ref 7,.ref 8],.row 1 (els w.Level.Rows),.row 1 (els w.Scores),.row 9 (els w.Bodies),.box [.ref 10,jn w.Tick,jn w.Seed,.ref 11,.ref 12],.row 1 (els row),.box [.ref 14]]⟩ : St)) (W_gj [0,1,2,3,4,5,6,7,8,9,10,11,12,13,14,15] (by kernel_rfl)) ?_;refine Xy J J J J J J J J J J J J J J (by omega) (by omega) ?_;refine z2 J J J ?_;refine Q5 J J J J J J J J (zz (Qd (zy (z2 J J J (z3 J (zx (Zx J J J J) J (z2 J J J (z3 J ?_))))))))
 refine AL.weak (st' := (⟨_,[(1,L row),(2,.o (.c (.ptr 0 0))),(4,.o (.c (.ptr 1 0))),(6,.o (.c (.ptr 5 0))),(7,.o (.c (.ptr 9 0))),(9,.o (.c (.ptr 13 0))),(61,I ((r.Rows.length : Int) + 1)),(63,I r.Every)],[.box ((Enc.e r).map (V1.rd [])),.box [nilV,jn 0,jn 0,jn 0,nilV,nilV],.row 1 (els r.Level.Rows),.row 1 (els (r.Rows ++ [row])),.row 1 (els r.Keys),.box [.ref 2,jn r.Players,jn r.Seed,jn r.Every,.ref 3,.ref 4],.row 1 (els last.Level.Rows),.row 1 (els last.Scores),.row 9 (els last.Bodies),.box [.ref 6,jn last.Tick,jn last.Seed,.ref 7,.ref 8],.row 1 (els w.Level.Rows),.row 1 (els w.Scores),.row 9 (els w.Bodies),.box [.ref 10,jn w.Tick,jn w.Seed,.ref 11,.ref 12]]⟩ : St)) (X7 [0,1,2,3,4,5,6,7,8,9,10,11,12,13] (by decide) J ((by exact rw_3 (by rw [Yn]; rfl))) (.c J (.c J (.c J (.c J (.c J (.c J (.cons (Xx (by rw [List.length_append,List.length_singleton]; omega)) (.c J (.nil)))))))))) ?_
 obtain ⟨he1,he2⟩ := (rok ho).e
 have gdy := add_gd (last := last) (w := w) hg gr hkl hrl
 by_cases hq : ((r.Rows.length : Int) + 1) % r.Every = 0
 case neg =>
  have f3 : decide (((r.Rows.length : Int) + 1) % r.Every = 0) = false := decide_eq_false hq
  have hy : addOne r row last w = ⟨r.Level,r.Players,r.Seed,r.Every,r.Rows ++ [row],r.Keys⟩ := by rw [addOne,if_neg hq]
  rw [hy] at gdy
  have cy := Xu _ gdy
  refine zx (Z6 J J J J (by omega)) J (z9e J (by assumption) (zz (Ql J (Qh (Q0 (Qd (zy (z4 J J J ?_))))))));refine AL.weak (st' := (⟨_,[(1,L row),(2,.o (.c (.ptr 0 0))),(4,.o (.c (.ptr 1 0))),(6,.o (.c (.ptr 5 0))),(79,.o (.ag [.ref 2,jn r.Players,jn r.Seed,jn r.Every,.ref 3,.ref 4]))],[.box ((Enc.e r).map (V1.rd [])),.box [nilV,jn 0,jn 0,jn 0,nilV,nilV],.row 1 (els r.Level.Rows),.row 1 (els (r.Rows ++ [row])),.row 1 (els r.Keys),.box [.ref 2,jn r.Players,jn r.Seed,jn r.Every,.ref 3,.ref 4]]⟩ : St)) (W_gj [0,1,2,3,4,5] (by kernel_rfl)) ?_
  cases hok : replayOk (⟨r.Level,r.Players,r.Seed,r.Every,r.Rows ++ [row],r.Keys⟩ : TReplay) with
  | true =>
   rw [hok] at cy
   rw [add_yes hk hs (by rw [hy]; exact hok),hy]
   refine zx (Qj J J (cy) J) J ?_;refine zn J (zz (Ql J (Qh (Q0 (zy (z4 J J J ?_))))));refine Qy J J J J J J J J J (z1 J (zz (Xa (F_r ?_))))
   exact Xn J J J J J (X5 [2,3,4] (by decide) J J J)
  | false =>
   rw [hok] at cy
   rw [add_no hk hs (by rw [hy]; exact hok)]
   refine zx (Qj J J (cy) J) J ?_;refine zn J (zz (Qm J (zy (z4 J J J ?_))));refine M1 (Zo J J (cc) J J J) J J ?_;refine Qy J J J J J J J J J (z1 J (zz (Xa (T_r (F_r ?_)))))
   exact Xn J J J J J (X5 [6,7,8] (by decide) J J J)
 have f3 : decide (((r.Rows.length : Int) + 1) % r.Every = 0) = true := decide_eq_true hq
 have cst := I_StepWorld w row iw.gd gr iw.h1 iw.h2 iw.h3
 have hlv := stepW_level w row
 have hy : addOne r row last w = ⟨r.Level,r.Players,r.Seed,r.Every,r.Rows ++ [row],r.Keys ++ [deltaT (worldBytes last) (worldBytes (stepW w row))]⟩ := by rw [addOne,if_pos hq]
 rw [hy] at gdy
 have cy := Xu _ gdy
 have wz := I_WorldBytes (stepW w row) (stepW_fits iw.gd).1
 have hb1 := Yj last
 have hb2 := Yj (stepW w row)
 have cd := I_DeltaText (worldBytes last) (worldBytes (stepW w row)) (by omega) (by omega)
 rw [← hlv] at cst
 generalize stepW w row = z at cst hy gdy cy wz cd hb2
 obtain ⟨D,hD⟩ : ∃ D,D = deltaT (worldBytes last) (worldBytes z) := ⟨_,rfl⟩
 rw [← hD] at hy gdy cy cd
 refine zx (Z6 J J J J (by omega)) J (z9e J (by assumption) (zz (Qm J (zy (z4 J J J (z0 J ?_))))));refine M1 (Zo J J (cst) J J J) J J ?_;refine Qy J J J J J J J J J (zz ?_)
 refine AWP.pre (st' := (⟨_,[(1,L row),(2,.o (.c (.ptr 0 0))),(4,.o (.c (.ptr 1 0))),(6,.o (.c (.ptr 5 0))),(7,.o (.c (.ptr 9 0))),(9,.o (.c (.ptr 13 0)))],[.box ((Enc.e r).map (V1.rd [])),.box [nilV,jn 0,jn 0,jn 0,nilV,nilV],.row 1 (els r.Level.Rows),.row 1 (els (r.Rows ++ [row])),.row 1 (els r.Keys),.box [.ref 2,jn r.Players,jn r.Seed,jn r.Every,.ref 3,.ref 4],.row 1 (els last.Level.Rows),.row 1 (els last.Scores),.row 9 (els last.Bodies),.box [.ref 6,jn last.Tick,jn last.Seed,.ref 7,.ref 8],.row 1 (els z.Level.Rows),.row 1 (els z.Scores),.row 9 (els z.Bodies),.box [.ref 10,jn z.Tick,jn z.Seed,.ref 11,.ref 12]]⟩ : St)) ?_ (W_gj [0,1,2,3,4,5,6,7,8,9,14,15,16,13] (by kernel_rfl))
 refine Xi [[],[0],[],[2],[],[2,3,4],[2,3,4,5],[2,3,4,5,6],(u9 8),(u9 9),(u9 10)] [[],[69],[],[71],[],[71,72,73],[71,72,73,74],[71,72,73,74,75],[69,70,71,72,73,74,75,76],[69,70,71,72,73,74,75,76,77],[69,70,71,72,73,74,75,76,77,78]] [[71,72,73,74,75,76],[71,72,73,74,75,76],[69,70,73],[69,70,73],[69,70,71,72],[69,70],[69,70],[69,70],[],[],[]] J (DR.s (Qf J J J J (by decide)) J J (DR.s (Qg J J J J J) J J (DR.s (Qu J J J J J J) J J ?_)));refine DR.s (Qj J J (wl) J) J J ?_;refine DR.s (Qu J J J J J J) J J ?_;refine DR.s (Qj J J (wz) J) J J ?_;refine DR.s (Qj J J (cd) J) J J ?_;refine DR.s (Zj J J J J J J) J J (DR.stop (by kernel_rfl) (by kernel_rfl) ?_);refine AL.weak (st' := (⟨_,[(1,L row),(2,.o (.c (.ptr 0 0))),(4,.o (.c (.ptr 1 0))),(6,.o (.c (.ptr 5 0))),(70,.o (.c (.ref 4))),(76,.o (.c (.sb 6 1 1)))],[.box ((Enc.e r).map (V1.rd [])),.box [nilV,jn 0,jn 0,jn 0,nilV,nilV],.row 1 (els r.Level.Rows),.row 1 (els (r.Rows ++ [row])),.row 1 (els r.Keys),.box [.ref 2,jn r.Players,jn r.Seed,jn r.Every,.ref 3,.ref 4],.box [.rd [] (.v (.string D))]]⟩ : St)) (W_gj [0,1,2,3,4,5,14] (by kernel_rfl)) ?_;refine Xy J J J J J J J J J J J J J J (by omega) (by omega) ?_;refine z2 J J J ?_;refine Q5 J J J J J J J J (zz (Qd (zy (z4 J J J ?_))))
 refine AL.weak (st' := (⟨_,[(1,L row),(2,.o (.c (.ptr 0 0))),(4,.o (.c (.ptr 1 0))),(6,.o (.c (.ptr 5 0))),(79,.o (.ag [.ref 2,jn r.Players,jn r.Seed,jn r.Every,.ref 3,.ref 4]))],[.box ((Enc.e r).map (V1.rd [])),.box [nilV,jn 0,jn 0,jn 0,nilV,nilV],.row 1 (els r.Level.Rows),.row 1 (els (r.Rows ++ [row])),.row 1 (els (r.Keys ++ [D])),.box [.ref 2,jn r.Players,jn r.Seed,jn r.Every,.ref 3,.ref 4]]⟩ : St)) (X7 [0,1,2,3,4,5] (by decide) J ((by exact rw_4 (by rw [Yn]; rfl))) (.c J (.c J (.c J (.c J (.c J (.nil))))))) ?_
 cases hok : replayOk (⟨r.Level,r.Players,r.Seed,r.Every,r.Rows ++ [row],(r.Keys ++ [D])⟩ : TReplay) with
 | true =>
  rw [hok] at cy
  rw [add_yes hk hs (by rw [hy]; exact hok),hy]
  refine zx (Qj J J (cy) J) J ?_;refine zn J (zz (Ql J (Qh (Q0 (zy (z4 J J J ?_))))));refine Qy J J J J J J J J J (z1 J (zz (Xa (F_r ?_))))
  exact Xn J J J J J (X5 [2,3,4] (by decide) J J J)
 | false =>
  rw [hok] at cy
  rw [add_no hk hs (by rw [hy]; exact hok)]
  refine zx (Qj J J (cy) J) J ?_;refine zn J (zz (Qm J (zy (z4 J J J ?_))));refine M1 (Zo J J (cc) J J J) J J ?_;refine Qy J J J J J J J J J (z1 J (zz (Xa (T_r (F_r ?_)))))
  exact Xn J J J J J (X5 [6,7,8] (by decide) J J J)
end
section
open Go.RowKit
end
section
open Go.RowKit

theorem tot_le4 : ∀ (xs : List (List Int)),(∀ x ∈ xs,x.length ≤ 4) → tot xs ≤ 4 * xs.length
 | [],_ => by simp [tot]
 | y :: ys,h => by
  have h1 := tot_le4 ys fun x hx => h x (by simp [hx])
  have h2 : tot (y :: ys) = y.length + tot ys := by simp [tot]
  have h3 := h y (by simp)
  simp only [List.length_cons]
  omega
theorem ok_in {y : TReplay} (gy : Enc.gd y) (h1 : y.Level.Rows.length ≤ 1048576) (h : replayOk y = true) : RepIn y := by
 have hr := rok h
 unfold replayOk at h
 simp only [Bool.and_eq_true,decide_eq_true_eq,Y3] at h
 obtain ⟨⟨⟨⟨⟨⟨_,h2⟩,_⟩,_⟩,h5⟩,h6⟩,_⟩ := h
 have h7 := tot_le4 y.Rows fun x hx => by
  have h8 := List.all_eq_true.1 h6 x hx
  rw [rowOk,Bool.and_eq_true,decide_eq_true_eq] at h8
  omega
 exact ⟨gy,h1,Nat.le_trans hr.k (by decide),Nat.le_trans h5 (by decide),by omega⟩
def KeysIn (y : TReplay) : Prop := ∀ s ∈ y.Keys,s.size ≤ 1048576
theorem add_both {x : TReplay} {row : List Int} (ix : RepIn x) (gr : Enc.gd row) (hk : KeysIn x) : RepIn (addRow x row).1 ∧ KeysIn (addRow x row).1 := by
 have hbad : ∀ p : TReplay × Bool,p = (x,false) → RepIn p.1 ∧ KeysIn p.1 := fun p hp => by rw [hp]; exact ⟨ix,hk⟩
 cases h1 : keyAt x ((x.Keys.length : Int) - 1) with
 | none => exact hbad _ (add_key h1)
 | some last =>
  cases hs : seekM x x.Rows.length with
  | none => exact hbad _ (add_seek hs)
  | some w =>
   cases ho : replayOk (addOne x row last w) with
   | false => exact hbad _ (add_no h1 hs ho)
   | true =>
    rw [add_yes h1 hs ho]
    refine ⟨ok_in (add_gd ix.gd gr ix.h2 ix.h3) ix.h1 ho,fun s hm => ?_⟩
    simp only [addOne] at hm
    split at hm
    ·rcases List.mem_append.1 hm with h | h
     ·exact hk s h
     ·rw [List.mem_singleton] at h
      subst h
      have h5 := deltaT_size (worldBytes last) (worldBytes (stepW w row))
      have h6 := Yj (stepW w row)
      omega
    ·exact hk s hm
noncomputable def addsG (r : TReplay) (rows : List (List Int)) : Nat → Option TReplay
 | 0 => some r
 | k + 1 => match addsG r rows k with
  | none => none
  | some x => match rows[k]? with
   | none => some x
   | some row => if (addRow x row).2 = true then some (addRow x row).1 else none
theorem adds_go {r x : TReplay} {rows : List (List Int)} {row : List Int} {k : Nat} (h : addsG r rows k = some x) (hr : rows[k]? = some row) (hb : (addRow x row).2 = true) : addsG r rows (k + 1) = some (addRow x row).1 := by
 rw [addsG,h]
 simp only [hr]
 exact if_pos hb
theorem adds_no {r x : TReplay} {rows : List (List Int)} {row : List Int} {k : Nat} (h : addsG r rows k = some x) (hr : rows[k]? = some row) (hb : (addRow x row).2 = false) : ∀ {n : Nat},k < n → addsG r rows n = none
 | n + 1,hlt => by
  rcases Nat.lt_or_ge k n with h1 | h1
  ·rw [addsG,adds_no h hr hb h1]
  ·have : k = n := by omega
   subst this
   rw [addsG,h]
   simp only [hr]
   exact if_neg (by rw [hb]; exact Bool.false_ne_true)
noncomputable def addsM (r : TReplay) (rows : List (List Int)) : TReplay × Bool := match addsG r rows rows.length with
 | none => (r,false)
 | some x => (x,true)
theorem adds_F {r : TReplay} {rows : List (List Int)} (h : addsG r rows rows.length = none) : addsM r rows = (r,false) := by rw [addsM,h]
theorem adds_T {r x : TReplay} {rows : List (List Int)} (h : addsG r rows rows.length = some x) : addsM r rows = (x,true) := by rw [addsM,h]
theorem I_AddRows (r : TReplay) (rows : List (List Int)) (gr : Enc.gd rows) (ir : RepIn r) (hw : ∀ row ∈ rows,row.length ≤ 1048576) (hks : KeysIn r) : Con Tryz.prog 11 [] [ag r,al rows] (ownO (Enc.e (addsM r rows).1)) (.tu [.ag (ownV 0 (Enc.e (addsM r rows).1)),.c (bv (addsM r rows).2)]) := by
 have cc := I_copyReplay r ir.gd ir.h1 ir.h2 ir.h3 (rows_tot ir.h4)
 have hlr := Yp rows
 have hlg := gr.1
 refine Con.of Tryz.func11 J Tryz.ntmps11 J (fun E => ?_)
 refine zy (M1 (Qq J J J J) J J (M1 (Qx J J J) J J (z1 J (zz (zy (z4 J J J ?_))))));refine M1 (Zo J J (cc) J J J) J J ?_;refine M1 (Qx J J J) J J ?_;refine Qy J J J J J J J J J (zz (Qd (zy (z0 J (zx (Zw J J J) J (z0 J (zz (Qk ?_))))))))
 refine AWP.pre (st' := (⟨_,[(1,L rows),(2,.o (.c (.ptr 0 0))),(4,.o (.c (.ptr 1 0))),(6,.o (.c (.ptr 2 0))),(13,L rows),(14,I (els rows).length),(15,I 0)],[.box ((Enc.e r).map (V1.rd [])),.box [nilV,jn 0,jn 0,jn 0,nilV,nilV],.box [.ref 3,jn r.Players,jn r.Seed,jn r.Every,.ref 4,.ref 5],.row 1 (els r.Level.Rows),.row 1 (els r.Rows),.row 1 (els r.Keys)]⟩ : St)) ?_ (W_gj [0,1,5,2,3,4] (by kernel_rfl))
 refine A_lq (fun m st => ∃ (k : Nat) (x : TReplay),k + m = rows.length ∧ (addsG r rows k = some x ∧ RepIn x ∧ KeysIn x) ∧ st = (⟨_,[(1,L rows),(2,.o (.c (.ptr 0 0))),(4,.o (.c (.ptr 1 0))),(6,.o (.c (.ptr 2 0))),(13,L rows),(14,I (els rows).length),(15,I k)],[.box ((Enc.e r).map (V1.rd [])),.box [nilV,jn 0,jn 0,jn 0,nilV,nilV],.box [.ref 3,jn x.Players,jn x.Seed,jn x.Every,.ref 4,.ref 5],.row 1 (els x.Level.Rows),.row 1 (els x.Rows),.row 1 (els x.Keys)]⟩ : St)) (rows.length) ⟨_,⟨0,r,by omega,⟨J,ir,hks⟩,J⟩,W_gj [0,1,2,3,4,5] (by kernel_rfl)⟩ ?_
 rintro m_A _ ⟨k,x,hk_A,hp_A,rfl⟩
 obtain ⟨hx,ix,kx⟩ := hp_A
 by_cases hlt : k < rows.length
 ·have hb0 : decide ((k : Int) < (els rows).length) = true := decide_eq_true (by omega)
  obtain ⟨row,hr⟩ := Kk hlt
  have hm := List.mem_of_getElem? hr
  have her := Yr hr
  have ca := I_AddRow x row ix.gd (gr.2 row hm) ix (hw row hm) kx
  have hin := add_both ix (gr.2 row hm) kx
  cases hb : (addRow x row).2 with
  | false =>
   rw [hb] at ca
   rw [adds_F (adds_no hx hr hb hlt)]
   generalize (addRow x row).1 = z at ca
   refine zy (z9a J (by assumption) (zz (Qd (Qm J (Qh (Q0 (Qd (Qk (Qd ?_)))))))));refine Qc (zx (Q2 J J J J (by omega) (by assumption) J) J (zx (Z0 J J J J) J (z1 J (zz (zy (z4 J J J (z0 J ?_)))))));refine M1 (Zo J J (ca) J J J) J J ?_;refine zx (Q8 J J J) J (ze J (ze J (M1 (Qx J J J) J J ?_)));refine Qy J J J J J J J J J (z1 J (zz (Qd (zy (z0 J (zn J (zz (Qm J ?_))))))));refine zy (z4 J J J ?_);refine M1 (Zo J J (cc) J J J) J J ?_;refine Qy J J J J J J J J J (z1 J (zz (Xa (T_r (B_r (T_r (T_r (B_r (T_r (F_r ?_))))))))))
   exact Xn J J J J J (X5 [10,11,12] (by decide) J J J)
  | true =>
   have hgo := adds_go hx hr hb
   rw [hb] at ca
   generalize (addRow x row).1 = z at ca hin hgo
   refine zy (z9a J (by assumption) (zz (Qd (Qm J (Qh (Q0 (Qd (Qk (Qd ?_)))))))));refine Qc (zx (Q2 J J J J (by omega) (by assumption) J) J (zx (Z0 J J J J) J (z1 J (zz (zy (z4 J J J (z0 J ?_)))))));refine M1 (Zo J J (ca) J J J) J J ?_;refine zx (Q8 J J J) J (ze J (ze J (M1 (Qx J J J) J J ?_)));refine Qy J J J J J J J J J (z1 J (zz (Qd (zy (z0 J (zn J (zz (Ql J ?_))))))));refine Qh (Q0 (Qc (z4 J J J ?_)));refine Qy J J J J J J J J J (Qe (Q1 (Q0 (Qc (z7 J (by omega) (z0 J (zz ?_)))))))
   exact ⟨rows.length - (k + 1),by omega,_,⟨k + 1,z,by omega,⟨hgo,hin.1,hin.2⟩,J⟩,W_gj [0,1,2,6,7,8] (by kernel_rfl)⟩
 ·have hb0 : decide ((k : Int) < (els rows).length) = false := decide_eq_false (by omega)
  have hk : k = rows.length := by omega
  rw [hk] at hx
  rw [adds_T hx]
  refine zy (z9a J (by assumption) (zz (Qd (Ql J (Q9 (T_x (T_x (Xl (Q0 ?_)))))))));refine zy (z4 J J J ?_);refine Qy J J J J J J J J J (z1 J (zz (Xa (F_r ?_))))
  exact Xn J J J J J (X5 [3,4,5] (by decide) J J J)
end
section
open Go.RowKit

theorem tw_zero : ∀ l : List UInt8,List.replicate (l.takeWhile zeroB).length 0 = l.takeWhile zeroB
 | [] => rfl
 | x :: l => by
  rw [List.takeWhile_cons]
  split
  ·rename_i h
   have : x = 0 := by simpa [zeroB] using h
   subst this
   rw [List.length_cons,List.replicate_succ,tw_zero l]
  ·rfl
theorem uz_pack (s : ByteArray) (hL : s.size ≤ 1099511627775) : ∀ (N : Nat) (l : List UInt8) (f pos : Nat) (out : List UInt8),l.length ≤ N → out.length + l.length ≤ 20000 → s.data.toList.drop pos = packZ l → s.size ≤ pos + f → uzGo s true f pos out = some (out ++ l) := by
 intro N
 induction N with
 | zero =>
  intro l f pos out hN hl hd hf
  have : l = [] := List.length_eq_zero_iff.1 (by omega)
  subst this
  rw [packZ_nil] at hd
  have hlen := congrArg List.length hd
  rw [List.length_drop] at hlen
  simp only [List.length_nil,Array.length_toList] at hlen
  have h3 : s.data.size = s.size := rfl
  rw [uz_end (by omega),List.append_nil]
 | succ N ih =>
  intro l f pos out hN hl hd hf
  match l with
  | [] => exact ih [] f pos out (by simp) hl hd hf
  | x :: r =>
   have hsl := split_len (x :: r)
   have hne := packZ_ne x r
   rw [packZ,List.append_assoc] at hd
   generalize hz : ((x :: r).takeWhile zeroB) = z at hd hsl hne
   generalize hd2 : ((x :: r).dropWhile zeroB) = d at hd hsl hne
   have hxr : x :: r = z ++ d := by rw [← hz,← hd2,List.takeWhile_append_dropWhile]
   have hzr : List.replicate z.length 0 = z := by rw [← hz]; exact tw_zero _
   have hdd : d = d.takeWhile someB ++ d.dropWhile someB := List.takeWhile_append_dropWhile.symm
   have h3 : s.data.size = s.size := rfl
   simp only [List.length_cons] at hN hl hsl
   have hb : (0 : Int) ≤ (z.length : Nat) ∧ ((z.length : Nat) : Int) ≤ 1099511627775 := by omega
   have h1 := Yl hb.1 hb.2 hd
   have hpos := encVar_pos hb
   have hd3 := drop_more hd
   have h2 := unpackText_enc hL hd3
   have hlt : pos < s.size := by
    have hlen := congrArg List.length hd
    rw [List.length_drop,List.length_append] at hlen
    simp only [Array.length_toList] at hlen
    omega
   cases f with
   | zero => omega
   | succ f =>
    have hts : (bs (d.takeWhile someB)).size = (d.takeWhile someB).length := Yg _
    rw [uz_step hlt h1 (by rw [Int.natCast_add] at h2; exact h2) (by rw [hts]; omega) (fun _ h => hne ⟨by omega,by rw [hts] at h; omega⟩)]
    rw [Int.toNat_natCast,hzr,Yf]
    have hd4 := drop_more hd3
    rw [List.length_append] at hd4
    have := ih (d.dropWhile someB) f (pos + (encVar ((z.length : Nat) : Int)).length + ((encVar (((d.takeWhile someB).length : Nat) : Int)).length + (d.takeWhile someB).length)) (out ++ z ++ d.takeWhile someB) (by omega) (by rw [List.length_append,List.length_append]; omega) hd4 (by omega)
    rw [this,hxr]
    conv => rhs; rw [hdd]
    simp [List.append_assoc]
theorem unpackZ_pack {l : List UInt8} (hl : l.length ≤ 20000) : unpackZ true (bs (packZ l)) = some (bs l) := by
 have h1 := packZ_len l.length l (Nat.le_refl _)
 have h := uz_pack (bs (packZ l)) (by rw [Yg]; omega) l.length l (bs (packZ l)).size 0 [] (Nat.le_refl _) (by simpa using hl) (by rw [Yf,List.drop_zero]) (by omega)
 rw [unpackZ,h]
 simp
theorem xor8 (x : UInt8) (n : Int) (hn : 0 ≤ n ∧ n ≤ 255) : UInt8.ofNat ((UInt8.ofNat (x.toNat ^^^ n.toNat)).toNat ^^^ n.toNat) = x := by
 have h1 : x.toNat ^^^ n.toNat < 2 ^ 8 := Nat.xor_lt_two_pow x.toNat_lt (by omega)
 have h2 : (UInt8.ofNat (x.toNat ^^^ n.toNat)).toNat = x.toNat ^^^ n.toNat := by
  rw [UInt8.toNat_ofNat']
  exact Nat.mod_eq_of_lt h1
 rw [h2,Nat.xor_assoc,Nat.xor_self,Nat.xor_zero]
 simp
theorem xor_xor (a b : ByteArray) : xorText a (xorText a b) = b := by
 have hs := xor_size a b
 conv => rhs; rw [← bs_of b]
 conv => lhs; rw [xorText]
 congr 2
 have hlb : b.data.toList.length = b.size := by simp
 have hx : (xorText a b).data.toList = xorL a b := by rw [xorText,Yf]
 have hl1 := xorL_len a b
 have hl2 := xorL_len a (xorText a b)
 rw [hx] at hl2
 apply List.ext_getElem
 ·omega
 ·intro i h1 h2
  rw [xorL_at h1 (by rw [hx]; omega)]
  have h3 : (xorText a b).data.toList[i]'(by rw [hx]; omega) = xorB a i b.data.toList[i] := by
   have : (xorText a b).data.toList[i]'(by rw [hx]; omega) = (xorL a b)[i]'(by omega) := by congr 1
   rw [this]; exact xorL_at (by omega) h2
  rw [h3]
  unfold xorB
  split
  ·exact xor8 _ _ (Yh a i)
  ·rfl
theorem delta_back {a b : ByteArray} (hb : b.size ≤ 20000) : applyD a (deltaT a b) = some b := by
 have hd : (deltaT a b).data.toList = encVar (b.size : Nat) ++ packZ (xorText a b).data.toList := by rw [deltaT,ByteArray.data_append,Array.toList_append,Yf,Yf]
 have h1 : decVar (deltaT a b) ((0 : Nat) : Int) = _ := Yl (n := ((b.size : Nat) : Int)) (by omega) (by omega) (by rw [List.drop_zero]; exact hd)
 have hx : (xorText a b).data.toList.length ≤ 20000 := by
  have := xor_size a b
  have h2 : (xorText a b).data.toList.length = (xorText a b).size := by simp
  omega
 have he : (deltaT a b).extract (encVar ((b.size : Nat) : Int)).length (deltaT a b).size = bs (packZ (xorText a b).data.toList) := by
  have h3 := extract_list (deltaT a b) (encVar ((b.size : Nat) : Int)).length (deltaT a b).size
  rw [← bs_of ((deltaT a b).extract (encVar ((b.size : Nat) : Int)).length (deltaT a b).size),h3,hd,List.drop_left,List.take_of_length_le]
  have h4 : (deltaT a b).data.toList.length = (deltaT a b).size := by simp
  rw [hd,List.length_append] at h4
  omega
 rw [applyD,show (0 : Int) = ((0 : Nat) : Int) from rfl,h1]
 simp only
 rw [he,unpackZ_pack hx]
 simp only
 rw [bs_of,if_pos (by rw [xor_size]),xor_xor]
/-! ### The lockstep worlds -/
section
variable {l : TLevel} {n : Nat} {seed : Int} {e : Nat} {rows : List (List Int)}
noncomputable def keysK (l : TLevel) (n : Nat) (seed : Int) (e : Nat) (rows : List (List Int)) (c : Nat) : List ByteArray := (List.range c).map fun j => deltaT (worldBytes (lockW l n seed rows (j * e))) (worldBytes (lockW l n seed rows ((j + 1) * e)))
noncomputable def replK (l : TLevel) (n : Nat) (seed : Int) (e : Nat) (rows : List (List Int)) (k : Nat) : TReplay := ⟨l,n,seed,e,rows.take k,keysK l n seed e rows (k / e)⟩
theorem Y4 (c : Nat) : (keysK l n seed e rows c).length = c := by simp [keysK]
theorem keysK_at {c j : Nat} (h : j < c) : (keysK l n seed e rows c)[j]? = some (deltaT (worldBytes (lockW l n seed rows (j * e))) (worldBytes (lockW l n seed rows ((j + 1) * e)))) := by
 rw [keysK,List.getElem?_map,List.getElem?_range h]
 rfl
theorem RD.text (h : RD l n seed e rows) (c : Nat) : ∀ j,j ≤ c → keyText (worldBytes (newWorld l n seed)) (keysK l n seed e rows c) j = some (worldBytes (lockW l n seed rows (j * e)))
 | 0,_ => by rw [keyText,Nat.zero_mul,lockW_zero]
 | j + 1,hj => by
  rw [keyText_step (RD.text h c j (by omega)) (keysK_at (by omega))]
  exact delta_back (Yj _)
theorem RD.ok (h : RD l n seed e rows) {k : Nat} (hk : k ≤ rows.length) : replayOk (replK l n seed e rows k) = true := by
 have hL := h.hL
 have he := h.he
 have hlen : (rows.take k).length = k := by rw [List.length_take]; omega
 unfold replayOk replK
 simp only [Bool.and_eq_true,decide_eq_true_eq,Y3]
 refine ⟨⟨⟨⟨⟨⟨h.hl,by have := h.hn; omega⟩,Y3.1 h.hs⟩,by omega⟩,by omega⟩,List.all_eq_true.2 fun r hr => h.hr r (List.mem_of_mem_take hr)⟩,?_⟩
 rw [Y4,hlen]
 rfl
theorem RD.key (h : RD l n seed e rows) {k : Nat} (hk : k ≤ rows.length) {j : Int} (hj : -1 ≤ j ∧ j < (k / e : Nat)) : keyAt (replK l n seed e rows k) j = some (lockW l n seed rows ((j + 1).toNat * e)) := by
 have he := h.he
 have hok := h.ok hk
 have hkl : (replK l n seed e rows k).Keys.length = k / e := Y4 _
 rw [keyAt_all ⟨hok,hj.1,by rw [hkl]; exact hj.2⟩]
 have hn : (replK l n seed e rows k).Players.toNat = n := Int.toNat_natCast n
 obtain ⟨c,hc⟩ : ∃ c : Nat,(j + 1).toNat = c := ⟨_,rfl⟩
 rw [hc]
 have hck : c ≤ k / e := by omega
 have hce : c * e ≤ k := Nat.le_trans (Nat.mul_le_mul_right e hck) (Nat.div_mul_le_self k e)
 have hg := h.good (c * e)
 have htk : (rows.take (c * e)).length = c * e := by rw [List.length_take]; omega
 have hb := world_back hg.1
 rw [hg.2.2.1] at hb
 refine keyWorld_yes (s := worldBytes (lockW l n seed rows (c * e))) ?_ hb ⟨?_,?_⟩
 ·rw [hn]; exact h.text _ c hck
 ·rw [hg.2.1,htk]; show ((c * e : Nat) : Int) = (c : Int) * (e : Int); omega
 ·rw [hg.2.2.2]; rfl
theorem RD.seek (h : RD l n seed e rows) {k t : Nat} (hk : k ≤ rows.length) (ht : t ≤ k) : seekM (replK l n seed e rows k) t = some (lockW l n seed rows t) := by
 have he := h.he
 have hok := h.ok hk
 have hlen : (rows.take k).length = k := by rw [List.length_take]; omega
 have hdv : ((t : Int) / (e : Int)) = ((t / e : Nat) : Int) := rfl
 have hle : t / e ≤ k / e := Nat.div_le_div_right ht
 have h0 : 0 ≤ (t : Int) / (e : Int) := by rw [hdv]; exact Int.natCast_nonneg _
 have h1 : (t : Int) / (e : Int) ≤ ((k / e : Nat) : Int) := by rw [hdv]; exact Int.ofNat_le.2 hle
 have hkey := h.key hk (j := (t : Int) / (e : Int) - 1) ⟨by omega,by omega⟩
 rw [seek_some ⟨hok,by omega,by show (t : Int) ≤ ((rows.take k).length : Nat); omega⟩ hkey]
 have hm : t / e * e ≤ t := Nat.div_mul_le_self t e
 rw [show ((t : Int) / (e : Int) - 1 + 1).toNat = t / e by rw [hdv]; omega]
 congr 1
 show runM (lockW l n seed rows (t / e * e)) (((rows.take k).take ((t : Nat) : Int).toNat).drop ((t : Int) / (e : Int) * (e : Int)).toNat) = _
 rw [Int.toNat_natCast,List.take_take,Nat.min_eq_left ht,hdv,show (((t / e : Nat) : Int) * (e : Int)).toNat = t / e * e by rw [← Int.natCast_mul,Int.toNat_natCast],lockW,← runM_app]
 rw [show rows.take (t / e * e) = (rows.take t).take (t / e * e) by rw [List.take_take,Nat.min_eq_left hm],List.take_append_drop]
 rfl
theorem RD.play (h : RD l n seed e rows) {k t : Nat} (hk : k ≤ rows.length) (ht : t ≤ k) : playM (replK l n seed e rows k) t = some (lockW l n seed rows t) := by
 have hlen : (rows.take k).length = k := by rw [List.length_take]; omega
 rw [play_yes ⟨h.ok hk,by omega,by show (t : Int) ≤ ((rows.take k).length : Nat); omega⟩]
 show some (runM (newWorld l (n : Int).toNat seed) ((rows.take k).take ((t : Nat) : Int).toNat)) = _
 rw [Int.toNat_natCast,Int.toNat_natCast,List.take_take,Nat.min_eq_left ht]
 rfl
theorem RD.tamper (h : RD l n seed e rows) {k : Nat} (hk : k ≤ rows.length) : tamper (replK l n seed e rows k) = -1 := by
 have he := h.he
 refine tam_all (h.ok hk) ?_
 have hkl : (replK l n seed e rows k).Keys.length = k / e := Y4 _
 rw [hkl]
 have : ∀ c,c ≤ k / e → tamF (replK l n seed e rows k) c = none := fun c => by
  induction c with
  | zero => intro _; rfl
  | succ c ih =>
   intro hc
   have hce : (c + 1) * e ≤ k := Nat.le_trans (Nat.mul_le_mul_right e hc) (Nat.div_mul_le_self k e)
   have h1 := h.key hk (j := (c : Int)) (by omega)
   have h2 := h.play hk hce
   rw [show ((c : Int) + 1).toNat = c + 1 by omega] at h1
   refine tamF_go (ih (by omega)) ?_
   rw [bad_at h1 (z := lockW l n seed rows ((c + 1) * e)) (by
    show playM _ (((c : Int) + 1) * (e : Int)) = _
    rw [show ((c : Int) + 1) * (e : Int) = (((c + 1) * e : Nat) : Int) by rw [Int.natCast_mul]; rfl]
    exact h2)]
   simp
 exact this _ (Nat.le_refl _)
theorem keysK_succ (c : Nat) : keysK l n seed e rows (c + 1) = keysK l n seed e rows c ++ [deltaT (worldBytes (lockW l n seed rows (c * e))) (worldBytes (lockW l n seed rows ((c + 1) * e)))] := by
 rw [keysK,List.range_succ,List.map_append]
 rfl
theorem div_step {k e : Nat} (he : 1 ≤ e) : (((k : Int) + 1) % (e : Int) = 0 → (k + 1) / e = k / e + 1 ∧ (k / e + 1) * e = k + 1) ∧ (¬ ((k : Int) + 1) % (e : Int) = 0 → (k + 1) / e = k / e) := by
 have h1 : ((k : Int) + 1) % (e : Int) = (((k + 1) % e : Nat) : Int) := by rw [Int.natCast_emod]; rfl
 rw [h1]
 have h2 := Nat.succ_div (a := k) (b := e)
 constructor
 ·intro h
  have h3 : (k + 1) % e = 0 := by omega
  have h4 : e ∣ k + 1 := Nat.dvd_of_mod_eq_zero h3
  rw [if_pos h4] at h2
  refine ⟨h2,?_⟩
  rw [← h2]
  exact Nat.div_mul_cancel h4
 ·intro h
  rw [if_neg fun h4 => h (by rw [Nat.mod_eq_zero_of_dvd h4]; rfl)] at h2
  exact h2
theorem RD.add (h : RD l n seed e rows) {k : Nat} {row : List Int} (hr : rows[k]? = some row) : addRow (replK l n seed e rows k) row = (replK l n seed e rows (k + 1),true) := by
 have he := h.he
 have hk : k < rows.length := Yy hr
 have hlen : (rows.take k).length = k := by rw [List.length_take]; omega
 have hkl : (replK l n seed e rows k).Keys.length = k / e := Y4 _
 have h1 := h.key (k := k) (by omega) (j := ((replK l n seed e rows k).Keys.length : Int) - 1) (by rw [hkl]; omega)
 have h2 := h.seek (k := k) (t := k) (by omega) (Nat.le_refl _)
 have h2' : seekM (replK l n seed e rows k) (replK l n seed e rows k).Rows.length = some (lockW l n seed rows k) := by
  rw [show ((replK l n seed e rows k).Rows.length : Int) = (k : Int) by show ((rows.take k).length : Int) = _; omega]
  exact h2
 rw [show (((replK l n seed e rows k).Keys.length : Int) - 1 + 1).toNat = k / e by rw [hkl]; omega] at h1
 have hstep : stepW (lockW l n seed rows k) row = lockW l n seed rows (k + 1) := by
  rw [lockW,lockW,List.take_add_one,hr,Option.toList_some,runM_app]
  rfl
 have hto : addOne (replK l n seed e rows k) row (lockW l n seed rows (k / e * e)) (lockW l n seed rows k) = replK l n seed e rows (k + 1) := by
  have hd := div_step (k := k) he.1
  unfold addOne
  rw [hstep]
  show TReplay.mk l n seed e (rows.take k ++ [row]) (if (((rows.take k).length : Int) + 1) % (e : Int) = 0 then keysK l n seed e rows (k / e) ++ _ else keysK l n seed e rows (k / e)) = ⟨l,n,seed,e,rows.take (k + 1),keysK l n seed e rows ((k + 1) / e)⟩
  rw [hlen,List.take_add_one,hr,Option.toList_some]
  congr 1
  split
  ·rename_i hm
   obtain ⟨h3,h4⟩ := hd.1 hm
   rw [h3,keysK_succ,h4]
  ·rename_i hm
   rw [hd.2 hm]
 rw [add_yes h1 h2' (by rw [hto]; exact h.ok (by omega)),hto]
theorem RD.adds (h : RD l n seed e rows) : addsM (replK l n seed e rows 0) rows = (replK l n seed e rows rows.length,true) := by
 have : ∀ k,k ≤ rows.length → addsG (replK l n seed e rows 0) rows k = some (replK l n seed e rows k) := fun k => by
  induction k with
  | zero => intro _; rfl
  | succ k ih =>
   intro hk
   have hr : rows[k]? = some rows[k] := List.getElem?_eq_getElem (by omega)
   have ha := h.add hr
   rw [adds_go (ih (by omega)) hr (by rw [ha]),ha]
 exact adds_T (this _ (Nat.le_refl _))
end
end
end Go.Proofs.YtbfhboakafjjgaaGreat
