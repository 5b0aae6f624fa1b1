/-
  Parts of the proof (rules, data, and what functions of the program and of the reference return), among them: The kit's readings of the laws' structs as Lean data; The kit's reading of a list of bytes as Lean data.
  Conditions: those that each theorem names.
-/
import Derived.Test.YtcjclaoogdblbaaDoorDDPtRowk13
import Derived.Test.YtcjclaoogdblbaaDoorDDPtRowk24
import Derived.Test.YtcjclaoogdblbaaDoorDDPtRowk25
import Derived.Test.YtcjclaoogdblbaaDoorDDPtRowk26
import Derived.Test.YtcjclaoogdblbaaDoorDDPtRowk27
set_option linter.unusedSimpArgs false
set_option linter.unusedVariables false
set_option maxRecDepth 8000
set_option maxHeartbeats 2000000
namespace Go.Proofs.YtcjclaoogdblbaaDoor
section
open Go.RowKit

theorem q_xorI {P : Program} {ops : Array Oper} {o : Oper} {st : St} {n : Nat} {t t' : TypeId} {y z : Operand} {ps qs : List Nat} {i j r : Int} (hr : ((i.toNat ^^^ j.toNat : Nat) : Int) = r) (h0 : 0 ≤ i ∧ i ≤ 9223372036854775807 ∧ 0 ≤ j ∧ j ≤ 9223372036854775807) (ho : o.op = .binOp .xor t y z t') (hg : o.guard = none) (hy : st.ev y = .o (.c (.rd ps (.v (.int .i64 i))))) (hz : st.ev z = .o (.c (.rd qs (.v (.int .i64 j))))) : Qt P ops o st (I r) [] n :=
 hr ▸ Yr ho hg hy hz fun w => by
  have h1 : (BitVec.ofInt IntKind.i64.bits i).toNat = i.toNat := bits_in (m := 64) ⟨by omega,by omega⟩
  have h2 : (BitVec.ofInt IntKind.i64.bits j).toNat = j.toNat := bits_in (m := 64) ⟨by omega,by omega⟩
  have h3 : i.toNat ^^^ j.toNat < 2 ^ 63 := Nat.xor_lt_two_pow (by omega) (by omega)
  have h5 : IntKind.i64.wrap ((i.toNat ^^^ j.toNat : Nat) : Int) = ((i.toNat ^^^ j.toNat : Nat) : Int) := Zm (by omega)
  simp only [binOp,Op.intBits,BitVec.toNat_xor,h1,h2,h5,ne_eq,not_true_eq_false,if_false]
  rfl
theorem L_sameTexts (xs ys : List ByteArray) (hn : Enc.gd xs) : Con Tryd.prog 19 [] [al xs,al ys] [] (B (decide (xs = ys))) := by
 have hn1 := hn.1
 have hlx := X7 xs
 have hly := X7 ys
 by_cases hl : xs.length = ys.length
 ·have hb : decide (((els xs).length : Int) ≠ ((els ys).length : Int)) = false := by rw [hlx,hly,hl]; simp
  refine Con.of Tryd.func19 J Tryd.ntmps19 J (fun E => ?_)
  refine zy (z1 J (zz (Qd (zy (z0 J (zx (Y2 J J J) J (z0 J (zx (Y2 J J J) J ?_))))))));refine z9f J (by assumption) (zz (Ql J (Qh (Q0 (Qd (zy (z1 J (zz ?_))))))));refine Qk ?_;refine Xi (fun m st => ∃ k : Nat,k + m = xs.length ∧ (xs.take k = ys.take k) ∧ st = (⟨_,[(0,L xs),(1,L ys),(5,I k)],[]⟩ : St)) (xs.length) ⟨_,⟨0,by omega,by simp,J⟩,Xt [] (by kernel_rfl)⟩ ?_
  rintro m_A _ ⟨k,hk_A,hp_A,rfl⟩
  refine Qd (zy (z0 J (z0 J (zx (Y2 J J J) J (zx (Y7 J J J J) J (zz ?_))))))
  refine Xb J (fun h => ?_) (fun h => ?_)
  ·have h3 : k < xs.length := by have := of_decide_eq_true h; omega
   have h4 : k < ys.length := by omega
   have hat := X6 h3
   have hat2 := X6 h4
   by_cases he : xs[k] = ys[k]
   ·have hk : decide (xs[k] ≠ ys[k]) = false := by simp [he]
    refine Qh (Q0 (Qd (Qk (Qd (Xh u8_29 u8_30 u8_31 J (DR.s (Qa J J J) J J (DR.s (Qa J J J) J J (DR.s (Q2 J J J J (by omega) (by assumption) J) J J (DR.s (Y6 J J J J) J J (DR.s (Qa J J J) J J (DR.s (Qa J J J) J J ?_)))))))))));refine DR.s (Q2 J J J J (by omega) (by assumption) J) J J (DR.s (Y6 J J J J) J J (DR.s (q_sneqK J J J J (by assumption)) J J (DR.stop (by kernel_rfl) (by kernel_rfl) (zz (Ql J (Qh (Q1 (Q0 (Qc (z0 J ?_))))))))));refine z7 J (by omega) (z1 J (zz ?_))
    exact ⟨xs.length - (k + 1),by omega,_,⟨k + 1,by omega,eq_next h3 h4 hp_A he,J⟩,Xt [] (by kernel_rfl)⟩
   ·have hk : decide (xs[k] ≠ ys[k]) = true := by simp [he]
    refine Qh (Q0 (Qd (Qk (Qd (Xh u8_29 u8_30 u8_31 J (DR.s (Qa J J J) J J (DR.s (Qa J J J) J J (DR.s (Q2 J J J J (by omega) (by assumption) J) J J (DR.s (Y6 J J J J) J J (DR.s (Qa J J J) J J (DR.s (Qa J J J) J J ?_)))))))))));refine DR.s (Q2 J J J J (by omega) (by assumption) J) J J (DR.s (Y6 J J J J) J J (DR.s (q_sneqK J J J J (by assumption)) J J (DR.stop (by kernel_rfl) (by kernel_rfl) (zz (Qm J (zy (z1 J (zz ?_))))))));refine Xa (B_r (T_r (T_r (B_r (T_r (F_r ?_))))))
    exact Xl J J (Xs [] (by decide) J J (B_eq (eq_ne h3 h4 he).symm))
  ·have h3 : ¬ ((k : Int) < (els xs).length) := of_decide_eq_false h
   refine Q9 (T_x (T_x (Xj (Q0 (zy (z1 J (zz (Xa (F_r ?_)))))))))
   exact Xl J J (Xs [] (by decide) J J (B_eq (eq_all (by omega) hl hp_A).symm))
 ·have hb : decide (((els xs).length : Int) ≠ ((els ys).length : Int)) = true := by rw [hlx,hly]; simp; omega
  refine Con.of Tryd.func19 J Tryd.ntmps19 J (fun E => ?_)
  refine zy (z1 J (zz (Qd (zy (z0 J (zx (Y2 J J J) J (z0 J (zx (Y2 J J J) J ?_))))))));refine z9f J (by assumption) (zz (Qm J (zy (z1 J (zz (Xa (T_r (F_r ?_))))))))
  exact Xl J J (Xs [] (by decide) J J (B_eq (eq_len hl).symm))
theorem wl_snoc {l : List ByteArray} {x : ByteArray} : els (l ++ [x]) = els l ++ [Enc.e x] := by simp [els]
theorem law_Parts (code : List UInt8) (hg : Enc.gd code) : Con Tryd.prog 7 [] [al code] [] (B true) := by
 have cb := L_big code
 by_cases hb : code.length > 1048576
 ·rw [decide_eq_true hb] at cb
  refine Con.of Tryd.func7 J Tryd.ntmps7 J (fun E => ?_)
  refine zy (z1 J (zz (Qd (zy (z0 J ?_)))));refine zx (Qj J J (cb) J) J ?_;refine zz (Qm J (zy (z1 J (zz (Xa (T_r (F_r ?_)))))))
  exact Xl J J (Xs [] (by decide) J J J)
 rw [decide_eq_false hb] at cb
 have hb : code.length ≤ 1048576 := by omega
 have cd := S_DrawPlay code hb
 have R := play_rd code (e := 1) (by omega)
 have hro := plRows_ok code
 have ca0 := L_at code 0 (by omega) hb
 have ca1 := L_at code 1 (by omega) hb
 have ca2 := L_at code 2 (by omega) hb
 generalize (lvD code).1 = l at cd R
 generalize (sdD code).1 = seed at cd R
 generalize plRows code = rows at cd R hro
 generalize plN code = n at cd R hro
 have gr : Enc.gd rows := gd_rows (n := n) (by omega) (by have := R.hn; omega) hro.2
 have hg0 := R.good rows.length
 have hi0 := R.in_ 0
 have hiW := R.in_ rows.length
 have hsc := R.score rows.length
 have hn := R.hn
 have crun := S_RunWorld (lockW l n seed rows 0) rows hi0 gr
 rw [show runM (lockW l n seed rows 0) rows = lockW l n seed rows rows.length by have := lock_from (l := l) (n := n) (seed := seed) (rows := rows) rows.length; rwa [List.take_length] at this] at crun
 rw [← lockW_zero (rows := rows)] at cd
 have ok := hg0.1
 have hln := hg0.2.2.2
 have gW := hiW.gd
 generalize lockW l n seed rows rows.length = W at crun hsc ok hln gW
 generalize lockW l n seed rows 0 = w0 at cd crun
 have hnW : 1 ≤ W.Scores.length ∧ W.Scores.length ≤ 4 := (Zl ok).2.2.2.1
 have hbW := (Zl ok).2.2.2.2.2.1
 have hsW := Yi.1 (Zl ok).2.2.1
 have hk0 := atM_rng code 0
 have ha1 := atM_rng code 1
 have ha2 := atM_rng code 2
 obtain ⟨s,wl,hswl,hs,hT,hF⟩ : ∃ (s : Int) (wl : List ByteArray),(if W.Seed ≠ s then [seedB] else []) = wl ∧ (0 ≤ s ∧ s ≤ 65535) ∧ (atM code 0 % 2 = 0 → ((W.Seed.toNat ^^^ (1 : Int).toNat : Nat) : Int) = s ∧ wl = [seedB]) ∧ (¬ atM code 0 % 2 = 0 → s = W.Seed ∧ wl = []) := by
  by_cases hp : atM code 0 % 2 = 0
  ·obtain ⟨h1,h2,h3⟩ := xor_seed hsW
   exact ⟨_,_,if_pos (fun e => h1 e.symm),⟨h2,h3⟩,fun _ => ⟨J,J⟩,fun h => absurd hp h⟩
  ·exact ⟨W.Seed,_,if_neg (fun h => h rfl),hsW,fun h => absurd h hp,fun _ => ⟨rfl,rfl⟩⟩
 have hlS := X7 W.Scores
 have hlB := X7 W.Bodies
 have nat_of : ∀ j,∃ k : Nat,(k : Int) = atM code j % ((els W.Scores).length : Int) ∧ k < W.Scores.length := fun j => by
  have h1 := Int.emod_nonneg (atM code j) (b := ((els W.Scores).length : Int)) (by omega)
  have h2 := Int.emod_lt_of_pos (atM code j) (b := ((els W.Scores).length : Int)) (by omega)
  obtain ⟨z,hz⟩ : ∃ z,z = atM code j % ((els W.Scores).length : Int) := ⟨_,rfl⟩
  rw [← hz] at h1 h2 ⊢
  exact ⟨z.toNat,by omega,by omega⟩
 obtain ⟨k,hk,hkn⟩ := nat_of 1
 obtain ⟨i,hi,hin⟩ := nat_of 2
 obtain ⟨b,hbb,hbd,hbo⟩ := at_plr ok hin
 have hAim := (flip_at hin hbo).2
 have hvok := chW_ok (k := k) ok hs (fun x hx => by have := hsc x hx; omega) hkn hin
 obtain ⟨hd1,hd2,hps⟩ := parts_ch (s := s) ok hs (fun x hx => by have := hsc x hx; omega) hkn hin
 have hd3 := differ_self ok
 have hpa := parts_is ok
 have hV : chW W s k i = ⟨W.Level,W.Tick,s,W.Scores.set k (W.Scores.getD k 0 + 1),W.Bodies.set i (flipB b)⟩ := by rw [chW,hbd]
 have hsk := hsc _ (show W.Scores.getD k 0 ∈ W.Scores by rw [List.getD_eq_getElem?_getD,List.getElem?_eq_getElem hkn]; exact List.getElem_mem _)
 have hsk0 := Zf ok _ (show W.Scores.getD k 0 ∈ W.Scores by rw [List.getD_eq_getElem?_getD,List.getElem?_eq_getElem hkn]; exact List.getElem_mem _)
 have gV : Enc.gd (chW W s k i) := by
  obtain ⟨a1,a2,a3,a4,a5⟩ := gW
  rw [hV]
  have gb := a5.2 b (List.mem_of_getElem? hbb)
  refine ⟨a1,a2,⟨by show _ ≤ s; omega,by show s ≤ _; omega⟩,⟨by show (W.Scores.set k _).length ≤ _; rw [List.length_set]; exact a4.1,fun x hx => ?_⟩,⟨by show (W.Bodies.set i _).length ≤ _; rw [List.length_set]; exact a5.1,fun x hx => ?_⟩⟩
  ·rcases List.mem_or_eq_of_mem_set hx with h1 | h1
   ·exact a4.2 x h1
   ·exact ⟨by omega,by omega⟩
  ·rcases List.mem_or_eq_of_mem_set hx with h1 | h1
   ·exact a5.2 x h1
   ·subst h1
    obtain ⟨b1,b2,b3,b4,b5,b6,b7,b8,b9⟩ := gb
    exact ⟨b1,b2,b3,b4,b5,b6,⟨by show _ ≤ -b.Aim; omega,by show -b.Aim ≤ _; omega⟩,b8,b9⟩
 rw [show wantP W s k i = wl ++ [scoreN k] ++ [bodyN i] by rw [wantP,hswl]] at hd1 hd2
 obtain ⟨wn,hwn⟩ : ∃ wn,wn = wl ++ [scoreN k] ++ [bodyN i] := ⟨_,rfl⟩
 rw [← hwn] at hd1 hd2
 have hwl3 : wl.length ≤ 1 := by rw [← hswl]; split <;> simp
 have cD1 := I_DifferOf W (chW W s k i) gW gV
 have cD2 := I_DifferOf (chW W s k i) W gV gW
 have cD3 := I_DifferOf W W gW gW
 rw [hd1] at cD1
 rw [hd2] at cD2
 rw [hd3] at cD3
 have cpo := I_PartsOf W gW
 rw [hpa] at cpo
 have hpl := Yp W.Scores.length W.Bodies.length
 have cps := I_PartSum (chW W s k i) (scoreN k) gV
 rw [hps] at cps
 rw [hV] at cD1 cD2 cps
 have cfk := S_FormatInt k (by omega)
 have cfi := S_FormatInt i (by omega)
 have hfk := Yd k
 have hfi := Yd i
 have gwn : Enc.gd wn := by
  refine ⟨by rw [hwn]; simp; omega,fun x hx => ?_⟩
  have h6 : ∀ l : List UInt8,(bs l).size = l.length := fun l => Xz l
  rw [hwn] at hx
  rcases List.mem_append.1 hx with hx | hx
  ·rcases List.mem_append.1 hx with hx | hx
   ·rw [← hswl] at hx
    split at hx
    ·simp at hx; rw [hx]; show seedB.size ≤ _; decide
    ·simp at hx
   ·simp at hx
    rw [hx]
    show (bs _ ++ fmtN k).size ≤ _
    rw [X4,h6]; simp; omega
  ·simp at hx
   rw [hx]
   show (bs _ ++ fmtN i).size ≤ _
   rw [X4,h6]; simp; omega
 have cst := L_sameTexts wn wn gwn
 rw [decide_eq_true rfl] at cst
 have hatk := els_getD (l := W.Scores) (j := k) hkn k rfl
 have hatb : (els W.Bodies)[(i : Int).toNat]? = some (Enc.e b) := by rw [Int.toNat_natCast,els,List.getElem?_map,hbb]; rfl
 have hnl : ([] : List (List T)).length = 0 := rfl
 have hlw := X7 wl
 have hlp := X7 (partsTo W.Scores.length W.Bodies.length)
 have hlw1 := X7 (wl ++ [scoreN k])
 have hlw2 : (wl ++ [scoreN k]).length ≤ 2 := by simp; omega
 have hsz6 : (bs [115,99,111,114,101,32]).size = 6 := Xz _
 have hsz5 : (bs [98,111,100,121,32]).size = 5 := Xz _
 have hd0 : (1 : Int) ≤ ((els W.Scores).length : Int) := by omega
 have g2 : decide (((els (partsTo W.Scores.length W.Bodies.length)).length : Int) = 1 + ((els W.Scores).length : Int) + ((els W.Bodies).length : Int)) = true := decide_eq_true (by omega)
 have g3 : decide (W.Scores.getD k 0 + 1 = W.Scores.getD k 0 + 1) = true := decide_eq_true rfl
 have hsk1 : els (W.Scores.set k (W.Scores.getD k 0 + 1)) = (els W.Scores).set k (Enc.e (W.Scores.getD k 0 + 1)) := els_set _ _ _
 have hsb1 : els (W.Bodies.set i (flipB b)) = (els W.Bodies).set i (Enc.e (flipB b)) := els_set _ _ _
 have hw1 : els (wl ++ [scoreN k]) = els wl ++ [Enc.e (scoreN k)] := wl_snoc
 have hw2 : els wn = els (wl ++ [scoreN k]) ++ [Enc.e (bodyN i)] := by rw [hwn,wl_snoc]
 refine Con.of Tryd.func7 J Tryd.ntmps7 J (fun E => ?_)
 refine zy (z1 J (zz (Qd (zy (z0 J ?_)))));refine zx (Qj J J (cb) J) J ?_;refine zz (Ql J (Qh (Q0 (zy (z0 J ?_)))));refine Xq (lo := []) (gs := []) (lo' := []) (new := [_,_,_]) [] [] (cd) J J J J J J J J J J J J J J J J J ?_;refine zx (Q8 J J J) J (ze J (ze J (M1 (Qx J J J) J J ?_)));refine Qy J J J J J J J J J (z1 J (zz (zy (z4 J J J (z0 J ?_)))));refine AL.weak (st' := (⟨_,[(0,L code),(3,.o (.c (.ptr 3 0))),(17,.o (.ag [.ref 0,jn w0.Tick,jn w0.Seed,.ref 1,.ref 2])),(18,L rows)],[.row 1 (els w0.Level.Rows),.row 1 (els w0.Scores),.row 9 (els w0.Bodies),.box [.ref 0,jn w0.Tick,jn w0.Seed,.ref 1,.ref 2]]⟩ : St)) (Xt [0,1,2,3] (by kernel_rfl)) ?_;refine M1 (Yv J J (crun) J J J) J J ?_;refine Qy J J J J J J J J J (zz (zy (z4 J J J (M1 (Qx J J J) J J ?_))));refine Qy J J J J J J J J J (zz (zy (M1 (Yu J J J) J J (z2 J J J (z3 J ?_)))));refine M_app J J J J J J J J J J (els_plain _) (els_k _) (by omega) (by omega) ?_;refine z2 J J J ?_;refine Q5 J J J J J J J J (zz (zy (M1 (Yu J J J) J J (z2 J J J (z3 J ?_)))));refine M_app J J J J J J J J J J (els_plain _) (els_k _) (by omega) (by omega) ?_;refine z2 J J J ?_;refine Q5 J J J J J J J J (zz (zy (M1 (Yu J J J) J J (z1 J (zz (Qd (zy ?_)))))));refine z0 J ?_;refine AL.weak (st' := (⟨_,[(0,L code),(32,L code),(3,.o (.c (.ptr 3 0))),(5,.o (.c (.ptr 4 0))),(6,.o (.c (.ref 7)))],[.row 1 (els W.Level.Rows),.row 1 (els W.Scores),.row 9 (els W.Bodies),.box [.ref 0,jn W.Tick,jn W.Seed,.ref 1,.ref 2],.box [.ref 0,jn W.Tick,jn W.Seed,.ref 5,.ref 6],.row 1 (els W.Scores),.row 9 (els W.Bodies),.row 1 ([])]⟩ : St)) (Xt [4,5,6,3,7,8,9,10] (by kernel_rfl)) ?_;refine zx (Qj J J (ca0) J) J ?_;refine zx (q_rem J J J J (by omega)) J (zx (Yx J J J J) J (zz ?_))
 refine A_join (⟨134,[(0,L code),(3,.o (.c (.ptr 3 0))),(5,.o (.c (.ptr 4 0))),(6,.o (.c (.ref 7)))],[.row 1 (els W.Level.Rows),.row 1 (els W.Scores),.row 9 (els W.Bodies),.box [.ref 0,jn W.Tick,jn W.Seed,.ref 1,.ref 2],.box [.ref 0,jn W.Tick,jn s,.ref 5,.ref 6],.row 1 (els W.Scores),.row 9 (els W.Bodies),.row 1 (els wl)]⟩ : St) ?_ ?_
 ·refine Xb rfl (fun h => ?_) (fun h => ?_)
  ·obtain ⟨hx,rfl⟩ := hT (of_decide_eq_true h)
   have hxb : 0 ≤ W.Seed ∧ W.Seed ≤ 9223372036854775807 ∧ (0 : Int) ≤ 1 ∧ (1 : Int) ≤ 9223372036854775807 := by omega
   refine zy (z2 J J J (z3 J (zx (q_xorI hx hxb J J J J) J (z2 J J J ?_))));refine Q5 J J J J J J J J (zz (Qc (z0 J (M1 (Yt J J J J J J) J J ?_))));refine Xp J J J J J J J J J J (by omega) (by omega) ?_;refine z1 J (Qe ?_)
   exact Mid.n (Xt [0,1,2,3,4,5,6,7] (by kernel_rfl))
  ·obtain ⟨rfl,rfl⟩ := hF (of_decide_eq_false h)
   refine Qh ?_
   exact Mid.n (Xt [0,1,2,3,4,5,6,7] (by kernel_rfl))
 refine Qd (Xh u8_32 [[],[43],[],[45],[45,46],[43,44,45,46,47],[43,44,45,46,47,48]] [[45,46,47],[45,46,47],[43,44],[43,44],[43,44],[],[],[0]] J (DR.s (Qa J J J) J J ?_));refine DR.s (Qj J J (ca1) J) J J ?_;refine DR.s (Qf J J J J (by decide)) J J (DR.s (Qg J J J J J) J J (DR.s (Y3 J J J J) J J (DR.s (q_rem J J J J (by omega)) J J (DR.s (Qb J J J) J J (DR.stop (by kernel_rfl) (by kernel_rfl) (zz ?_))))))
 refine AWP.pre (st' := (⟨_,[(0,L code),(3,.o (.c (.ptr 3 0))),(5,.o (.c (.ptr 4 0))),(6,.o (.c (.ref 7))),(7,I k)],[.row 1 (els W.Level.Rows),.row 1 (els W.Scores),.row 9 (els W.Bodies),.box [.ref 0,jn W.Tick,jn W.Seed,.ref 1,.ref 2],.box [.ref 0,jn W.Tick,jn s,.ref 5,.ref 6],.row 1 (els W.Scores),.row 9 (els W.Bodies),.row 1 (els wl)]⟩ : St)) ?_ (Xu [0,1,2,3,4,5,6,7] (by decide) J (by kernel_rfl) (.c J (.c J (.c J (.c J (.cons (Xo hk.symm) (.nil)))))))
 refine zy (z2 J J J (z3 J (z0 J (zx (Q3 J J J J J (by omega) (by omega)) J (zx (Q7 J J J J (by assumption) J) J (z7 J (by omega) (zx (Q3 J J J J J (by omega) (by omega)) J ?_)))))));refine Xg J J J J J J J J J (by assumption) J J (zz (zy (z0 J (z0 J ?_))));refine zx (Qj J J (cfk) J) J ?_
 refine M0 (q_cat J J J J (by simp only [Xz,X4,List.length_cons,List.length_nil,List.length_append]; omega)) J J ?_
 refine M1 (Yt J J J J J J) J J ?_;refine Xp J J J J J J J J J J (by omega) (by omega) ?_;refine z1 J (zz (Qd ?_))
 refine AWP.pre (st' := (⟨_,[(0,L code),(3,.o (.c (.ptr 3 0))),(5,.o (.c (.ptr 4 0))),(6,.o (.c (.ref 7))),(7,I k)],[.row 1 (els W.Level.Rows),.row 1 (els W.Scores),.row 9 (els W.Bodies),.box [.ref 0,jn W.Tick,jn W.Seed,.ref 1,.ref 2],.box [.ref 0,jn W.Tick,jn s,.ref 5,.ref 6],.row 1 (els (W.Scores.set k (W.Scores.getD k 0 + 1))),.row 9 (els W.Bodies),.row 1 (els (wl ++ [scoreN k]))]⟩ : St)) ?_ (by rw [hsk1,hw1]; exact Xt [0,1,2,3,4,5,6,7] (by kernel_rfl))
 refine Xh u8_32 [[],[62],[],[64],[64,65],[62,63,64,65,66],[62,63,64,65,66,67]] [[64,65,66],[64,65,66],[62,63],[62,63],[62,63],[],[],[0]] J (DR.s (Qa J J J) J J ?_);refine DR.s (Qj J J (ca2) J) J J ?_;refine DR.s (Qf J J J J (by decide)) J J (DR.s (Qg J J J J J) J J (DR.s (Y3 J J J J) J J (DR.s (q_rem J J J J (by omega)) J J (DR.s (Qb J J J) J J (DR.stop (by kernel_rfl) (by kernel_rfl) (zz ?_))))))
 refine AWP.pre (st' := (⟨_,[(0,L code),(3,.o (.c (.ptr 3 0))),(5,.o (.c (.ptr 4 0))),(6,.o (.c (.ref 7))),(7,I k),(8,I i)],[.row 1 (els W.Level.Rows),.row 1 (els W.Scores),.row 9 (els W.Bodies),.box [.ref 0,jn W.Tick,jn W.Seed,.ref 1,.ref 2],.box [.ref 0,jn W.Tick,jn s,.ref 5,.ref 6],.row 1 (els (W.Scores.set k (W.Scores.getD k 0 + 1))),.row 9 (els W.Bodies),.row 1 (els (wl ++ [scoreN k]))]⟩ : St)) ?_ (Xu [0,1,2,3,4,5,6,7] (by decide) J (by kernel_rfl) (.c J (.c J (.c J (.c J (.c J (.cons (Xo hi.symm) (.nil))))))))
 refine Qd (Xh [[],[0],[],[],[3],[],[3,4,5],[3,4,5,6],[3,4,5,6,7],[3,4,5,6,7,8],(u9 10),(u9 11),(u9 12)] [[],[68],[],[],[71],[],[71,72,73],[71,72,73,74],[71,72,73,74,75],[71,72,73,74,75,76],[68,69,70,71,72,73,74,75,76,77],[68,69,70,71,72,73,74,75,76,77,78],[68,69,70,71,72,73,74,75,76,77,78,79]] [[70,71,72,73,74,75,76,77],[70,71,72,73,74,75,76,77],[68,69,71,72,73,74,75,76,77],[68,69,70,73],[68,69,70,73],[68,69,70,71,72],[68,69,70],[68,69,70],[68,69,70],[68,69,70],[],[],[]] J (DR.s (Qf J J J J (by decide)) J J (DR.s (Qg J J J J J) J J (DR.s (Qa J J J) J J (DR.s (Qf J J J J (by decide)) J J (DR.s (Qg J J J J J) J J (DR.s (Qa J J J) J J (DR.s (Q3 J J J J J (by omega) (by omega)) J J (DR.s (Yy J J J J (by decide)) J J (DR.s (Q7 J J J J (by assumption) J) J J (DR.s (q_neg J J J (by omega)) J J ?_)))))))))));refine DR.s (Q3 J J J J J (by omega) (by omega)) J J (DR.s (Yy J J J J (by decide)) J J (DR.stop (by kernel_rfl) (by kernel_rfl) ?_))
 with_reducible refine Xd ?_
 refine Xg J J J J J J J J J (by assumption) J J (zz ?_)
 refine AWP.pre (st' := (⟨_,[(0,L code),(3,.o (.c (.ptr 3 0))),(5,.o (.c (.ptr 4 0))),(6,.o (.c (.ref 7))),(7,I k),(8,I i)],[.row 1 (els W.Level.Rows),.row 1 (els W.Scores),.row 9 (els W.Bodies),.box [.ref 0,jn W.Tick,jn W.Seed,.ref 1,.ref 2],.box [.ref 0,jn W.Tick,jn s,.ref 5,.ref 6],.row 1 (els (W.Scores.set k (W.Scores.getD k 0 + 1))),.row 9 (els (W.Bodies.set i (flipB b))),.row 1 (els (wl ++ [scoreN k]))]⟩ : St)) ?_ (by rw [hsb1]; exact Xt [0,1,2,3,4,5,6,7] (by kernel_rfl))
 refine zy (z0 J (z0 J ?_));refine zx (Qj J J (cfi) J) J ?_
 refine M0 (q_cat J J J J (by simp only [Xz,X4,List.length_cons,List.length_nil,List.length_append]; omega)) J J ?_
 refine M1 (Yt J J J J J J) J J ?_;refine Xp J J J J J J J J J J (by omega) (by omega) ?_;refine z1 J (zz (zy (z4 J J J ?_)));refine M1 (Yv J J (cpo) J J J) J J ?_;refine z1 J (zz (Qd ?_))
 refine AWP.pre (st' := (⟨_,[(0,L code),(3,.o (.c (.ptr 3 0))),(5,.o (.c (.ptr 4 0))),(6,.o (.c (.ref 7))),(7,I k),(9,.o (.c (.ref 8)))],[.row 1 (els W.Level.Rows),.row 1 (els W.Scores),.row 9 (els W.Bodies),.box [.ref 0,jn W.Tick,jn W.Seed,.ref 1,.ref 2],.box [.ref 0,jn W.Tick,jn s,.ref 5,.ref 6],.row 1 (els (W.Scores.set k (W.Scores.getD k 0 + 1))),.row 9 (els (W.Bodies.set i (flipB b))),.row 1 (els wn),.row 1 (els (partsTo W.Scores.length W.Bodies.length))]⟩ : St)) ?_ (by rw [hw2]; exact Xt [0,1,2,3,4,5,6,7,9] (by kernel_rfl))
 refine Xh [[],[],[0,1],[],(u9 4),(u9 5),(u9 6),(u9 6),(u9 8),(u9 6),(u9 10),(u9 11),(u9 12),(u9 13),(u9 13),(u9 15),(u9 16),(u9 17),(u9 18),(u9 19),(u9 20),(u9 21),(u9 20),[0,1,2,3,4,5,6,7,8,9,10,11,12,13,14,15,16,17,18,19,22],[0,1,2,3,4,5,6,7,8,9,10,11,12,13,14,15,16,17,18,19,22,23],[0,1,2,3,4,5,6,7,8,9,10,11,12,13,14,15,16,17,18,19,22,23,24],(u9 20),[0,1,2,3,4,5,6,7,8,9,10,11,12,13,14,15,16,17,18,19,26],[0,1,2,3,4,5,6,7,8,9,10,11,12,13,14,15,16,17,18,19,26,27],[0,1,2,3,4,5,6,7,8,9,10,11,12,13,14,15,16,17,18,19,22,23,24,25,26,27,28],(u9 30),(u9 31),(u9 32),(u9 33),(u9 33),[0,1,2,3,4,5,6,7,8,9,10,11,12,13,14,15,16,17,18,19,20,21,22,23,24,25,26,27,28,29,30,31,32,34],[0,1,2,3,4,5,6,7,8,9,10,11,12,13,14,15,16,17,18,19,20,21,22,23,24,25,26,27,28,29,30,31,32,34,35],(u9 37),(u9 33),[0,1,2,3,4,5,6,7,8,9,10,11,12,13,14,15,16,17,18,19,20,21,22,23,24,25,26,27,28,29,30,31,32,38],(u9 33),[0,1,2,3,4,5,6,7,8,9,10,11,12,13,14,15,16,17,18,19,20,21,22,23,24,25,26,27,28,29,30,31,32,38,39,40],[0,1,2,3,4,5,6,7,8,9,10,11,12,13,14,15,16,17,18,19,20,21,22,23,24,25,26,27,28,29,30,31,32,38,39,40,41],[0,1,2,3,4,5,6,7,8,9,10,11,12,13,14,15,16,17,18,19,20,21,22,23,24,25,26,27,28,29,30,31,32,38,39,40,41,42],(u9 44),(u9 45),(u9 46)] [[],[],[88,89],[],[88,89,90,91],[88,89,90,91,92],[88,89,90,91,92,93],[88,89,90,91,92,93],[88,89,90,91,92,93,94,95],[88,89,90,91,92,93],[88,89,90,91,92,93,94,95,96,97],[88,89,90,91,92,93,94,95,96,97,98],[88,89,90,91,92,93,94,95,96,97,98,99],[88,89,90,91,92,93,94,95,96,97,98,99,100],[88,89,90,91,92,93,94,95,96,97,98,99,100],[88,89,90,91,92,93,94,95,96,97,98,99,100,101,102],[88,89,90,91,92,93,94,95,96,97,98,99,100,101,102,103],[88,89,90,91,92,93,94,95,96,97,98,99,100,101,102,103,104],[88,89,90,91,92,93,94,95,96,97,98,99,100,101,102,103,104,105],[88,89,90,91,92,93,94,95,96,97,98,99,100,101,102,103,104,105,106],[88,89,90,91,92,93,94,95,96,97,98,99,100,101,102,103,104,105,106,107],[88,89,90,91,92,93,94,95,96,97,98,99,100,101,102,103,104,105,106,107,108],[88,89,90,91,92,93,94,95,96,97,98,99,100,101,102,103,104,105,106,107],[88,89,90,91,92,93,94,95,96,97,98,99,100,101,102,103,104,105,106,107,110],[88,89,90,91,92,93,94,95,96,97,98,99,100,101,102,103,104,105,106,107,110,111],[88,89,90,91,92,93,94,95,96,97,98,99,100,101,102,103,104,105,106,107,110,111,112],[88,89,90,91,92,93,94,95,96,97,98,99,100,101,102,103,104,105,106,107],[88,89,90,91,92,93,94,95,96,97,98,99,100,101,102,103,104,105,106,107,114],[88,89,90,91,92,93,94,95,96,97,98,99,100,101,102,103,104,105,106,107,114,115],[88,89,90,91,92,93,94,95,96,97,98,99,100,101,102,103,104,105,106,107,110,111,112,113,114,115,116],[88,89,90,91,92,93,94,95,96,97,98,99,100,101,102,103,104,105,106,107,108,109,110,111,112,113,114,115,116,117],[88,89,90,91,92,93,94,95,96,97,98,99,100,101,102,103,104,105,106,107,108,109,110,111,112,113,114,115,116,117,118],[88,89,90,91,92,93,94,95,96,97,98,99,100,101,102,103,104,105,106,107,108,109,110,111,112,113,114,115,116,117,118,119],[88,89,90,91,92,93,94,95,96,97,98,99,100,101,102,103,104,105,106,107,108,109,110,111,112,113,114,115,116,117,118,119,120],[88,89,90,91,92,93,94,95,96,97,98,99,100,101,102,103,104,105,106,107,108,109,110,111,112,113,114,115,116,117,118,119,120],[88,89,90,91,92,93,94,95,96,97,98,99,100,101,102,103,104,105,106,107,108,109,110,111,112,113,114,115,116,117,118,119,120,122],[88,89,90,91,92,93,94,95,96,97,98,99,100,101,102,103,104,105,106,107,108,109,110,111,112,113,114,115,116,117,118,119,120,122,123],[88,89,90,91,92,93,94,95,96,97,98,99,100,101,102,103,104,105,106,107,108,109,110,111,112,113,114,115,116,117,118,119,120,121,122,123,124],[88,89,90,91,92,93,94,95,96,97,98,99,100,101,102,103,104,105,106,107,108,109,110,111,112,113,114,115,116,117,118,119,120],[88,89,90,91,92,93,94,95,96,97,98,99,100,101,102,103,104,105,106,107,108,109,110,111,112,113,114,115,116,117,118,119,120,126],[88,89,90,91,92,93,94,95,96,97,98,99,100,101,102,103,104,105,106,107,108,109,110,111,112,113,114,115,116,117,118,119,120],[88,89,90,91,92,93,94,95,96,97,98,99,100,101,102,103,104,105,106,107,108,109,110,111,112,113,114,115,116,117,118,119,120,126,127,128],[88,89,90,91,92,93,94,95,96,97,98,99,100,101,102,103,104,105,106,107,108,109,110,111,112,113,114,115,116,117,118,119,120,126,127,128,129],[88,89,90,91,92,93,94,95,96,97,98,99,100,101,102,103,104,105,106,107,108,109,110,111,112,113,114,115,116,117,118,119,120,126,127,128,129,130],[88,89,90,91,92,93,94,95,96,97,98,99,100,101,102,103,104,105,106,107,108,109,110,111,112,113,114,115,116,117,118,119,120,121,122,123,124,125,126,127,128,129,130,131],[88,89,90,91,92,93,94,95,96,97,98,99,100,101,102,103,104,105,106,107,108,109,110,111,112,113,114,115,116,117,118,119,120,121,122,123,124,125,126,127,128,129,130,131,132],[88,89,90,91,92,93,94,95,96,97,98,99,100,101,102,103,104,105,106,107,108,109,110,111,112,113,114,115,116,117,118,119,120,121,122,123,124,125,126,127,128,129,130,131,132,133]] [[89,91],[88,91],[91],[88,89,90],[],[],[95,97],[94,97],[97],[94,95,96],[],[],[],[102],[101],[],[],[],[],[],[110,111,112,113,114,115,116,117],[110,111,112,113,114,115,116,117],[108,109,114,115,116],[108,109,114,115,116],[108,109,114,115,116],[108,109,114,115,116],[108,109,110,111,112,113],[108,109,110,111,112,113],[108,109,110,111,112,113],[108,109],[],[],[],[122,123,124,126,127,128,129,130,131],[121,126,127,128,129,130,131],[121,126,127,128,129,130,131],[121,126,127,128,129,130,131],[126,127,128,129,130,131],[121,122,123,124,125,128],[121,122,123,124,125,128],[121,122,123,124,125,126,127],[121,122,123,124,125],[121,122,123,124,125],[121,122,123,124,125],[],[],[]] J (DR.s (Qu J J J J J J) J J (DR.s (Qu J J J J J J) J J ?_));refine DR.s (Yv J J (cD1) J J J) J J ?_;refine DR.s (Qa J J J) J J ?_;refine DR.s (Qj J J (cst) J) J J ?_;refine DR.s (Qa J J J) J J (DR.s (Qt.yes J J J (Qu J J J J J J)) J J (DR.s (Qt.yes J J J (Qu J J J J J J)) J J ?_));refine DR.s (Qt.yes J J J (Yv J J (cD2) J J J)) J J ?_;refine DR.s (Qt.yes J J J (Qa J J J)) J J ?_;refine DR.s (Qt.yes J J J (Qj J J (cst) J)) J J ?_;refine DR.s (Qo J J J J) J J (DR.s (Qa J J J) J J (DR.s (Qt.yes J J J (Qu J J J J J J)) J J (DR.s (Qt.yes J J J (Qu J J J J J J)) J J ?_)));refine DR.s (Qt.yes J J J (Yv J J (cD3) J J J)) J J ?_;refine DR.s (Qt.yes J J J (Y3 J J J J)) J J ?_;refine DR.s (Qt.yes J J J (Qv (b := true) J J J J (by decide))) J J ?_;refine DR.s (Qo J J J J) J J (DR.s (Qa J J J) J J (DR.s (Qt.yes J J J (Qa J J J)) J J (DR.s (Qt.yes J J J (Y3 J J J J)) J J (DR.s (Qt.yes J J J (Qf J J J J (by decide))) J J (DR.s (Qt.yes J J J (Qg J J J J J)) J J (DR.s (Qt.yes J J J (Y3 J J J J)) J J (DR.s (Qt.yes J J J (Qs J J J J (by omega))) J J (DR.s (Qt.yes J J J (Qf J J J J (by decide))) J J (DR.s (Qt.yes J J J (Qg J J J J J)) J J (DR.s (Qt.yes J J J (Y3 J J J J)) J J (DR.s (Qt.yes J J J (Qs J J J J (by omega))) J J ?_)))))))))));refine DR.s (Qt.yes J J J (Qv J J J J (by assumption))) J J (DR.s (Qo J J J J) J J (DR.s (Qa J J J) J J (DR.s (Qt.yes J J J (Qu J J J J J J)) J J (DR.s (Qt.yes J J J (Qa J J J)) J J ?_))));refine DR.s (Qt.yes J J J (Qj J J (cfk) J)) J J ?_
 refine DR.s (Qt.yes J J J (q_cat J J J J (by simp only [Xz,X4,List.length_cons,List.length_nil,List.length_append]; omega))) J J ?_
 refine DR.s (Qt.yes J J J (Qj J J (cps) J)) J J ?_;refine DR.s (Qt.yes J J J (Qf J J J J (by decide))) J J (DR.s (Qt.yes J J J (Qg J J J J J)) J J (DR.s (Qt.yes J J J (Qa J J J)) J J (DR.s (Qt.yes J J J (Q3 J J J J J (by omega) (by omega))) J J (DR.s (Qt.yes J J J (Q7 J J J J (by assumption) J)) J J (DR.s (Qt.yes J J J (Qs J J J J (by omega))) J J (DR.s (Qt.yes J J J (Qv J J J J (by assumption))) J J (DR.s (Qo J J J J) J J (DR.s (Qb J J J) J J (DR.stop (by kernel_rfl) (by kernel_rfl) (zz ?_))))))))));refine Xa (F_r ?_)
 exact Xl J J (Xs [] (by decide) J J J)
end
section
open Go.ChangeShapes Go.WideShapes Go.ChangeAt Go.RowKit

def RL (w : World) (ts : List T) (cs : List Value) : Prop := ∀ (j : Nat) (t : T) (u : Value),ts[j]? = some t → cs[j]? = some u → RO w (fun _ => True) t u
theorem RL.nil {w : World} {cs : List Value} : RL w [] cs := fun _ _ _ h => by simp at h
theorem RL.app {w : World} {ts us : List T} {cs : List Value} {o n : Nat} (h1 : RL w ts ((cs.drop o).take n)) (hn : ts.length = n) (h2 : RL w us (cs.drop (o + n))) : RL w (ts ++ us) (cs.drop o) := fun j t u h3 h4 => by
 rcases Nat.lt_or_ge j ts.length with hj | hj
 ·rw [List.getElem?_append_left hj] at h3
  exact h1 j t u h3 (by rw [List.getElem?_take,if_pos (by omega)]; exact h4)
 ·rw [List.getElem?_append_right hj] at h3
  refine h2 (j - ts.length) t u h3 ?_
  rw [List.getElem?_drop] at h4 ⊢
  rw [← h4]
  congr 1
  omega
instance : RdOf Tryd.prog 3 Int := rdOf_int Tryd.underlying3 (by kernel_rfl)
instance : RdOf Tryd.prog 9 ByteArray := rdOf_string Tryd.underlying9 (by kernel_rfl)
instance : RdOf Tryd.prog 48 (List Int) := rdOf_slice Tryd.underlying48 (by kernel_rfl)
instance : RdOf Tryd.prog 22 (List ByteArray) := rdOf_slice Tryd.underlying22 (by kernel_rfl)
instance : RdOf Tryd.prog 41 (List (List Int)) := rdOf_slice Tryd.underlying41 (by kernel_rfl)
end
section
open Go.ChangeShapes Go.WideShapes Go.ChangeAt Go.RowKit

theorem rdOf_u8 {P : Program} {t : TypeId} (ht : P.underlying t = some (.int .u8)) (hs : P.cellsOf t = 1) : RdOf P t UInt8 where
 size := hs
 of h := by
  obtain ⟨n,rfl,_,h3⟩ := DataW.trod_int ht h
  have hn : 0 ≤ n ∧ n ≤ 255 := by
   simp [Lit.wf,IntKind.min,IntKind.max,IntKind.signed,IntKind.bits] at h3
   omega
  have h1 : ((UInt8.ofNat n.toNat).toNat : Int) = n := by
   rw [UInt8.toNat_ofNat']
   omega
  refine ⟨UInt8.ofNat n.toNat,trivial,reads_one (t := .v (.int .u8 n)) ?_ (.v _ J)⟩
  show [T.v (.int .u8 ((UInt8.ofNat n.toNat).toNat : Int))] = _
  rw [h1]
instance : RdOf Tryd.prog 5 UInt8 := rdOf_u8 Tryd.underlying5 (by kernel_rfl)
instance : RdOf Tryd.prog 35 (List UInt8) := rdOf_slice Tryd.underlying35 (by kernel_rfl)
end
end Go.Proofs.YtcjclaoogdblbaaDoor
