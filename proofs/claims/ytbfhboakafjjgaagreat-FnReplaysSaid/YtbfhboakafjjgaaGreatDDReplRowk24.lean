/-
  Parts of the proof (rules, data, and what functions of the program and of the reference return), among them: The cursor of a draw: bytes, mixed with numbers that follow from them (l01New, l01Byte, l01Below, l01PickInt of the reference); Drawn inputs and rows of inputs (l02Input, l02Row, l02Rows of the reference).
  Conditions: those that each theorem names.
-/
import Derived.Test.YtbfhboakafjjgaaGreatDDReplRowk13
import Derived.Test.YtbfhboakafjjgaaGreatDDReplRowk15
import Derived.Test.YtbfhboakafjjgaaGreatDDReplRowk20
import Derived.Test.YtbfhboakafjjgaaGreatDDReplRowk21
import Derived.Test.YtbfhboakafjjgaaGreatDDReplRowk22
import Derived.Test.YtbfhboakafjjgaaGreatDDReplRowk23
set_option linter.unusedSimpArgs false
set_option linter.unusedVariables false
set_option maxRecDepth 8000
set_option maxHeartbeats 8000000
namespace Go.Proofs.YtbfhboakafjjgaaGreat
section
open Go.RowKit

theorem I_fresh (l : TLevel) (p : Int) (hg : Enc.gd l) (hl : levelOk l = true) (hp : 0 ≤ p ∧ p ≤ 3) : Con Tryz.prog 93 [] [ag l,ai p] [] (.o (.ag ((Enc.e (fresh l p)).map (V1.rd [])))) := by
 have hc := I_StartOf l p hg hl hp
 refine Con.of Tryz.func93 J Tryz.ntmps93 J (fun E => ?_)
 refine zy (M1 (Qq J J J J) J J (M1 (Qx J J J) J J (zz (zy (z4 J J J (z0 J ?_))))));refine M1 (Zo J J (hc) J J J) J J ?_;refine zx (Q8 J J J) J (ze J (ze J (z1 J (z1 J (zz (zy (z0 J (z0 J (z0 J ?_)))))))));refine zx (Zl J J J J J) J ?_;refine Qy J J J J J J J J J (zz (Xa (F_r ?_)))
 exact Xm J J J J (X5 [] (by decide) J J J)
theorem S_fresh (l : TLevel) (p : Int) (hg : Enc.gd l) (hl : levelOk l = true) (hp : 0 ≤ p ∧ p ≤ 3) : Con Tryz.prog 89 [] [ag l,ai p] [] (.o (.ag ((Enc.e (fresh l p)).map (V1.rd [])))) := by
 have hc := S_StartOf l p hg hl hp
 refine Con.of Tryz.func89 J Tryz.ntmps89 J (fun E => ?_)
 refine zy (M1 (Qq J J J J) J J (M1 (Qx J J J) J J (zz (zy (z4 J J J (z0 J ?_))))));refine M1 (Zo J J (hc) J J J) J J ?_;refine zx (Q8 J J J) J (ze J (ze J (z1 J (z1 J (zz (zy (z0 J (z0 J (z0 J ?_)))))))));refine zx (Zl J J J J J) J ?_;refine Qy J J J J J J J J J (zz (Xa (F_r ?_)))
 exact Xm J J J J (X5 [] (by decide) J J J)
theorem row6w {a b c d e : Ob} {k : Nat} {x y : List (List T)} (h : x = y) : [a,b,c,d,e,Ob.row k x] = [a,b,c,d,e,Ob.row k y] := by rw [h]
def freshs (l : TLevel) (k : Nat) : List TBody := (List.range k).map fun (k : Nat) => fresh l (k : Int)
theorem freshs_succ (l : TLevel) (k : Nat) : freshs l (k + 1) = freshs l k ++ [fresh l k] := by simp [freshs,List.range_succ]
theorem freshs_len (l : TLevel) (k : Nat) : (freshs l k).length = k := by simp [freshs]
theorem zeros_els (n : Nat) : els (List.replicate n (0 : Int)) = List.replicate n [.v (.int .i64 0)] := by simp [els,Enc.e]
theorem Y9 {l : TLevel} {n : Nat} {seed : Int} (hg : Enc.gd l) (hl : levelOk l = true) (hn : 1 ≤ n ∧ n ≤ 4) (hs : inR seed 0 65535 = true) : Enc.gd (newWorld l n seed) := by
 have h0 : I64 0 := ⟨by decide,by decide⟩
 have hsd := Y3.1 hs
 refine ⟨hg,h0,⟨by show (-9223372036854775808 : Int) ≤ seed; omega,by show seed ≤ 9223372036854775807; omega⟩,⟨by simp [newWorld]; omega,fun x hx => ?_⟩,⟨by simp [newWorld]; omega,fun b hb => ?_⟩⟩
 ·have : x = 0 := by simpa [newWorld] using List.eq_of_mem_replicate hx
  rw [this]; exact h0
 ·simp only [newWorld,List.mem_map,List.mem_range] at hb
  obtain ⟨k,hk,rfl⟩ := hb
  obtain ⟨_,h3,h4⟩ := fresh_free hl (p := (k : Int)) (by omega)
  exact ⟨h0,⟨by show (-9223372036854775808 : Int) ≤ (k : Int); omega,by show (k : Int) ≤ 9223372036854775807; omega⟩,⟨by omega,by omega⟩,⟨by omega,by omega⟩,h0,h0,⟨by simp only [fresh]; omega,by simp only [fresh]; omega⟩,⟨by simp only [fresh]; omega,by simp only [fresh]; omega⟩,h0⟩
theorem I_NewWorld (l : TLevel) (n : Nat) (seed : Int) (hg : Enc.gd l) (hL : l.Rows.length ≤ 1048576) (hl : levelOk l = true) (hn : 1 ≤ n ∧ n ≤ 4) (hs : inR seed 0 65535 = true) : Con Tryz.prog 45 [] [ag l,ai n,ai seed] (ownO (Enc.e (newWorld l n seed))) (.tu [.ag (ownV 0 (Enc.e (newWorld l n seed))),.c (bv true)]) := by
 have c1 := Xt l hg
 have c2 := Xv n 1 4
 have c3 := Xv seed 0 65535
 rw [hl] at c1
 rw [Y3.2 (by omega)] at c2
 rw [hs] at c3
 have hwk := I_WorldOk (newWorld l n seed) (Y9 hg hl hn hs)
 rw [newWorld_ok hl hn hs] at hwk
 have hcl := Xw l hg hL
 refine Con.of Tryz.func45 J Tryz.ntmps45 J (fun E => ?_)
 refine zy (M1 (Qq J J J J) J J (M1 (Qx J J J) J J (z1 J (zz (Qd (zy (z4 J J J ?_)))))));refine zx (Qj J J (c1) J) J ?_;refine zn J (z0 J (z5 J (z0 J (z5 J ?_))));refine zx (Qj J J (c2) J) J ?_;refine z5 J (zn J (zpF J (z0 J (z5 J (z0 J (z5 J ?_))))));refine zx (Qj J J (c3) J) J ?_;refine z5 J (zn J (zpF J (zz (Ql J (Qh (Q0 (Qd ?_)))))))
 refine AWP.pre (st' := (⟨_,[(1,I n),(2,I seed),(3,.o (.c (.ptr 0 0))),(6,.o (.c (.ptr 1 0)))],[.box ((Enc.e l).map (V1.rd [])),.box [nilV,jn 0,jn 0,nilV,nilV]]⟩ : St)) ?_ (W_gj [0,1] (by kernel_rfl))
 skip
 refine Xi [[],[0],[],[],[3],(u9 5),[],(u9 7)] [[],[24],[],[],[27],[24,25,26,27,28],[],[8,24,25,26,27,28,29]] [[8,26,27,28],[8,26,27,28],[8,24,25,27,28],[8,24,25,26],[8,24,25,26],[8],[24,25,26,27,28,29],[]] J (DR.s (Qu J J J J J J) J J ?_);refine DR.s (Zo J J (hcl) J J J) J J ?_;refine DR.s (Qa J J J) J J (DR.s (Qa J J J) J J ?_);refine DR.s (q_make 0 J J J J (by omega) (by omega) (by omega) J (by decide)) J J ?_;refine DR.s (Zl J J J J J) J J (DR.s (Qx J J J) J J (DR.stop (by kernel_rfl) (by kernel_rfl) ?_))
 refine AL.weak (st' := (⟨_,[(1,I n),(3,.o (.c (.ptr 0 0))),(6,.o (.c (.ptr 1 0))),(8,.o (.c (.ptr 4 0))),(29,.o (.ag [.ref 2,jn 0,jn seed,.ref 3,nilV]))],[.box ((Enc.e l).map (V1.rd [])),.box [nilV,jn 0,jn 0,nilV,nilV],.row 1 (els l.Rows),.row 1 (els (List.replicate n (0 : Int))),.box [nilV,jn 0,jn 0,nilV,nilV]]⟩ : St)) (by rw [zeros_els]; exact W_gj [0,1,2,3,4] (by kernel_rfl)) ?_
 refine Qy J J J J J J J J J (zz (Qd (zy (z1 J (zz (Qk ?_))))))
 refine AWP.pre (st' := (⟨_,[(1,I n),(3,.o (.c (.ptr 0 0))),(6,.o (.c (.ptr 1 0))),(8,.o (.c (.ptr 4 0))),(9,I 0)],[.box ((Enc.e l).map (V1.rd [])),.box [nilV,jn 0,jn 0,nilV,nilV],.row 1 (els l.Rows),.row 1 (els (List.replicate n (0 : Int))),.box [.ref 2,jn 0,jn seed,.ref 3,nilV]]⟩ : St)) ?_ (W_gj [0,1,2,3,4] (by kernel_rfl))
 refine AWP.pre ?_ (Wk.nilbox (p := 4) (i := 4) 9 J J)
 refine A_lq (fun m st => ∃ k : Nat,k + m = n ∧ (True) ∧ st = (⟨_,[(1,I n),(3,.o (.c (.ptr 0 0))),(6,.o (.c (.ptr 1 0))),(8,.o (.c (.ptr 4 0))),(9,I k)],[.box ((Enc.e l).map (V1.rd [])),.box [nilV,jn 0,jn 0,nilV,nilV],.row 1 (els l.Rows),.row 1 (els (List.replicate n (0 : Int))),.box [.ref 2,jn 0,jn seed,.ref 3,.ref 5],.row 9 (els (freshs l k))]⟩ : St)) (n) ⟨_,⟨0,by omega,trivial,J⟩,W_gj [0,1,2,3,4,5] (by kernel_rfl)⟩ ?_
 rintro m_A _ ⟨k,hk_A,hp_A,rfl⟩
 have hlk := Yp (freshs l k)
 have hlk2 := freshs_len l k
 refine Qd (zy (z0 J (z0 J (zx (Z1 J J J J) J (zz ?_)))))
 refine Xb J (fun h => ?_) (fun h => ?_)
 ·have h3 : k < n := by have := of_decide_eq_true h; omega
  have hf := I_fresh l k hg hl (by omega)
  refine Qh (Q0 (Qd (Qk (Xi u8_6 [[],[35],[],[],[37,38],[37,38,39],[35,36,37,38,39,40],[35,36,37,38,39,40,41],[35,36,37,38,39,40,41,42]] [[37,38,39,40],[37,38,39,40],[35,36,38],[35,36,37],[35,36],[35,36],[],[],[]] J (DR.s (Qf J J J J (by decide)) J J (DR.s (Qg J J J J J) J J (DR.s (Qu J J J J J J) J J (DR.s (Qa J J J) J J ?_))))))));refine DR.s (Zo J J (hf) J J J) J J ?_;refine DR.s (Zj J J J J J J) J J (DR.stop (by kernel_rfl) (by kernel_rfl) ?_);refine AL.weak (st' := (⟨_,[(1,I n),(3,.o (.c (.ptr 0 0))),(6,.o (.c (.ptr 1 0))),(8,.o (.c (.ptr 4 0))),(9,I k),(36,.o (.c (.ref 5))),(40,.o (.c (.sb 6 1 9)))],[.box ((Enc.e l).map (V1.rd [])),.box [nilV,jn 0,jn 0,nilV,nilV],.row 1 (els l.Rows),.row 1 (els (List.replicate n (0 : Int))),.box [.ref 2,jn 0,jn seed,.ref 3,.ref 5],.row 9 (els (freshs l k)),.box [jn 0,jn (k : Int),jn (spX (startT l k)),jn (spY (startT l k)),jn 0,jn 0,jn 1,jn 3,jn 0]]⟩ : St)) (W_gj [0,1,2,3,4,5,6] (by kernel_rfl)) ?_;refine Xy J J J J J J J J J J J J J J (by omega) (by omega) ?_;refine z2 J J J ?_;refine Q5 J J J J J J J J (Qe (Q1 (Q0 (Qc (z0 J (z7 J (by omega) (z1 J (zz ?_))))))))
  exact ⟨n - (k + 1),by omega,(fun k : Nat => (⟨_,[(1,I n),(3,.o (.c (.ptr 0 0))),(6,.o (.c (.ptr 1 0))),(8,.o (.c (.ptr 4 0))),(9,I k)],[.box ((Enc.e l).map (V1.rd [])),.box [nilV,jn 0,jn 0,nilV,nilV],.row 1 (els l.Rows),.row 1 (els (List.replicate n (0 : Int))),.box [.ref 2,jn 0,jn seed,.ref 3,.ref 5],.row 9 (els (freshs l k))]⟩ : St)) (k + 1),⟨k + 1,by omega,trivial,J⟩,X7 [0,1,2,3,4,5] (by decide) J (row6w (by rw [freshs_succ]; simp [els]; rfl)) (.c J (.c J (.c J (.c J (.c J (.nil))))))⟩
 have h3 : k = n := by have := of_decide_eq_false h; omega
 subst h3
 refine Q9 (T_x (T_x (Xl (Q0 (Qd (zy (z4 J J J ?_)))))));refine zx (Qj J J (hwk) J) J ?_;refine zn J (zz (Ql J (Qh (Q0 (zy (z4 J J J ?_))))));refine Qy J J J J J J J J J (z1 J (zz (Xa (F_r ?_))))
 exact Xn J J J J J (X5 [2,3,5] (by decide) J J J)
theorem reps_succ (k : Nat) : els (List.replicate k (0 : Int)) ++ [[.v (.int .i64 0)]] = els (List.replicate (k + 1) (0 : Int)) := by rw [List.replicate_succ']; simp [els,Enc.e]
theorem row65 {a b c d e : Ob} {k : Nat} {x y : List (List T)} (h : x = y) : [a,b,c,d,Ob.row k x,e] = [a,b,c,d,Ob.row k y,e] := by rw [h]
theorem S_NewWorld (l : TLevel) (n : Nat) (seed : Int) (hg : Enc.gd l) (hL : l.Rows.length ≤ 1048576) (hl : levelOk l = true) (hn : 1 ≤ n ∧ n ≤ 4) (hs : inR seed 0 65535 = true) : Con Tryz.prog 40 [] [ag l,ai n,ai seed] (ownO (Enc.e (newWorld l n seed))) (.tu [.ag (ownV 0 (Enc.e (newWorld l n seed))),.c (bv true)]) := by
 have hwk := S_WorldOk (newWorld l n seed) (Y9 hg hl hn hs)
 rw [newWorld_ok hl hn hs] at hwk
 have hcl := S_copyLevel l hg hL
 refine Con.of Tryz.func40 J Tryz.ntmps40 J (fun E => ?_)
 refine zy (M1 (Qq J J J J) J J (M1 (Qx J J J) J J (z1 J (zz (zy (z4 J J J ?_))))));refine M1 (Zo J J (hcl) J J J) J J ?_;refine z0 J (zx (Zl J J J J J) J (M1 (Qx J J J) J J ?_));refine Qy J J J J J J J J J (zz (Qd (zy (z1 J (zz (Qk ?_))))))
 refine AWP.pre (st' := (⟨_,[(1,I n),(3,.o (.c (.ptr 0 0))),(6,.o (.c (.ptr 1 0))),(8,.o (.c (.ptr 3 0))),(9,I 0)],[.box ((Enc.e l).map (V1.rd [])),.box [nilV,jn 0,jn 0,nilV,nilV],.row 1 (els l.Rows),.box [.ref 2,jn 0,jn seed,nilV,nilV]]⟩ : St)) ?_ (W_gj [0,1,2,3] (by kernel_rfl))
 refine AWP.pre ?_ (Wk.nilbox (p := 3) (i := 3) 1 J J)
 refine AWP.pre ?_ (Wk.nilbox (p := 3) (i := 4) 9 J J)
 refine A_lq (fun m st => ∃ k : Nat,k + m = n ∧ (True) ∧ st = (⟨_,[(1,I n),(3,.o (.c (.ptr 0 0))),(6,.o (.c (.ptr 1 0))),(8,.o (.c (.ptr 3 0))),(9,I k)],[.box ((Enc.e l).map (V1.rd [])),.box [nilV,jn 0,jn 0,nilV,nilV],.row 1 (els l.Rows),.box [.ref 2,jn 0,jn seed,.ref 4,.ref 5],.row 1 (els (List.replicate k (0 : Int))),.row 9 (els (freshs l k))]⟩ : St)) (n) ⟨_,⟨0,by omega,trivial,J⟩,W_gj [0,1,2,3,4,5] (by kernel_rfl)⟩ ?_
 rintro m_A _ ⟨k,hk_A,hp_A,rfl⟩
 have hlk := Yp (freshs l k)
 have hlk2 := freshs_len l k
 have hl0 : (els (List.replicate k (0 : Int))).length = k := by rw [Yp,List.length_replicate]
 have f2 : decide ((k : Int) ≤ 4) = true := decide_eq_true (by omega)
 by_cases h3 : k < n
 ·have f1 : decide ((k : Int) < n) = true := decide_eq_true (by omega)
  have hf := S_fresh l k hg hl (by omega)
  refine Qd (zy (z0 J (z0 J (z9a J (by assumption) (z0 J (z5 J (z0 J (z5 J (z9b J (by assumption) (zpT J ?_))))))))));refine zz (Qm J (Qh (Q0 (Qd (Qk (zy (z2 J J J (z3 J (M1 (Zj J J J J J J) J J ?_)))))))));refine Xz J J J J J J J J J J (by omega) (by omega) ?_;refine z2 J J J ?_;refine Q5 J J J J J J J J (zz ?_)
  refine AWP.pre (st' := (⟨_,[(1,I n),(3,.o (.c (.ptr 0 0))),(6,.o (.c (.ptr 1 0))),(8,.o (.c (.ptr 3 0))),(9,I k)],[.box ((Enc.e l).map (V1.rd [])),.box [nilV,jn 0,jn 0,nilV,nilV],.row 1 (els l.Rows),.box [.ref 2,jn 0,jn seed,.ref 4,.ref 5],.row 1 (els (List.replicate (k + 1) (0 : Int))),.row 9 (els (freshs l k))]⟩ : St)) ?_ (X7 [0,1,2,3,4,5] (by decide) J ((row65 (reps_succ k).symm)) (.c J (.c J (.c J (.c J (.c J (.nil)))))))
  refine Xi u8_6 [[],[28],[],[],[30,31],[30,31,32],[28,29,30,31,32,33],[28,29,30,31,32,33,34],[28,29,30,31,32,33,34,35]] [[30,31,32,33],[30,31,32,33],[28,29,31],[28,29,30],[28,29],[28,29],[],[],[]] J (DR.s (Qf J J J J (by decide)) J J (DR.s (Qg J J J J J) J J (DR.s (Qu J J J J J J) J J (DR.s (Qa J J J) J J ?_))));refine DR.s (Zo J J (hf) J J J) J J ?_;refine DR.s (Zj J J J J J J) J J (DR.stop (by kernel_rfl) (by kernel_rfl) ?_);refine AL.weak (st' := (⟨_,[(1,I n),(3,.o (.c (.ptr 0 0))),(6,.o (.c (.ptr 1 0))),(8,.o (.c (.ptr 3 0))),(9,I k),(29,.o (.c (.ref 5))),(33,.o (.c (.sb 6 1 9)))],[.box ((Enc.e l).map (V1.rd [])),.box [nilV,jn 0,jn 0,nilV,nilV],.row 1 (els l.Rows),.box [.ref 2,jn 0,jn seed,.ref 4,.ref 5],.row 1 (els (List.replicate (k + 1) (0 : Int))),.row 9 (els (freshs l k)),.box [jn 0,jn (k : Int),jn (spX (startT l k)),jn (spY (startT l k)),jn 0,jn 0,jn 1,jn 3,jn 0]]⟩ : St)) (W_gj [0,1,2,3,4,5,6] (by kernel_rfl)) ?_;refine Xy J J J J J J J J J J J J J J (by omega) (by omega) ?_;refine z2 J J J ?_;refine Q5 J J J J J J J J (Qe (Q1 (Q0 (Qc (z0 J (z7 J (by omega) (z1 J (zz ?_))))))))
  exact ⟨n - (k + 1),by omega,(fun k : Nat => (⟨_,[(1,I n),(3,.o (.c (.ptr 0 0))),(6,.o (.c (.ptr 1 0))),(8,.o (.c (.ptr 3 0))),(9,I k)],[.box ((Enc.e l).map (V1.rd [])),.box [nilV,jn 0,jn 0,nilV,nilV],.row 1 (els l.Rows),.box [.ref 2,jn 0,jn seed,.ref 4,.ref 5],.row 1 (els (List.replicate k (0 : Int))),.row 9 (els (freshs l k))]⟩ : St)) (k + 1),⟨k + 1,by omega,trivial,J⟩,X7 [0,1,2,3,4,5] (by decide) J (row6w (by rw [freshs_succ]; simp [els]; rfl)) (.c J (.c J (.c J (.c J (.c J (.nil))))))⟩
 have f1 : decide ((k : Int) < n) = false := decide_eq_false (by omega)
 have h3 : k = n := by omega
 subst h3
 refine Qd (zy (z0 J (z0 J (z9a J (by assumption) (z0 J (z6 J (z6 J (zpF J (zz ?_)))))))));refine Ql J (Q9 (T_x (T_x (Xl (Q0 (Qd (zy (z4 J J J ?_))))))));refine zx (Qj J J (hwk) J) J ?_;refine zn J (zz (Ql J (Qh (Q0 (zy (z4 J J J ?_))))));refine Qy J J J J J J J J J (z1 J (zz (Xa (F_r ?_))))
 exact Xn J J J J J (X5 [2,4,5] (by decide) J J J)
end
section
open Go.RowKit

instance : Enc UInt8 := ⟨1,by omega,fun b => [.v (.int .u8 (b.toNat : Int))],fun _ => rfl,fun _ => True,fun _ => 0⟩
structure Cu where
 i : Nat
 h : Int
@[reducible] def cub (b : List UInt8) (c : Cu) : Ob := .box [.rd [] (sl b),jn c.i,jn c.h]
def nextH (h : Int) : Int := IntKind.i64.wrap (IntKind.i64.wrap (h * 6364136223846793005) + 1442695040888963407)
def rawX (h : Int) : Int := andI (xorI (h.fdiv (2 ^ (33 : Int).toNat)) (h.fdiv (2 ^ (45 : Int).toNat))) 255
def addX (x : Int) (y : UInt8) : Int := (((x + (y.toNat : Int)).toNat &&& (255 : Int).toNat : Nat) : Int)
def byteC (b : List UInt8) (c : Cu) : Int × Cu := match b[c.i]? with
 | some y => (addX (rawX (nextH c.h)) y,⟨c.i + 1,nextH c.h⟩)
 | none => (rawX (nextH c.h),⟨c.i,nextH c.h⟩)
theorem rawX_rng (h : Int) : 0 ≤ rawX h ∧ rawX h ≤ 255 := andI_rng (by omega)
theorem addX_rng (x : Int) (y : UInt8) : 0 ≤ addX x y ∧ addX x y ≤ 255 := by
 unfold addX
 have : (x + (y.toNat : Int)).toNat &&& (255 : Int).toNat ≤ (255 : Int).toNat := Nat.and_le_right
 omega
theorem byteC_rng (b : List UInt8) (c : Cu) : 0 ≤ (byteC b c).1 ∧ (byteC b c).1 ≤ 255 := by
 unfold byteC
 split
 ·exact addX_rng _ _
 ·exact rawX_rng _
theorem Yi {b : List UInt8} {c : Cu} (h : c.i ≤ b.length) : (byteC b c).2.i ≤ b.length := by
 unfold byteC
 split
 ·rename_i y hy; have := Yy hy; simp only; omega
 ·exact h
theorem byte_at {b : List UInt8} {i : Nat} {y : UInt8} (h : b[i]? = some y) : (els b)[(i : Int).toNat]? = some (Enc.e y) := by
 rw [Int.toNat_natCast,List.getElem?_map,h]
 rfl
theorem S_l01Byte (b : List UInt8) (c : Cu) (hb : b.length ≤ 1048576) (hc : c.i ≤ b.length) : Con Tryz.prog 87 [cub b c,.gh 0 (.c (.ptr 0 0))] [.c (.ptr 0 0)] [cub b (byteC b c).2,.gh 0 (.c (.ptr 0 0))] (I (byteC b c).1) := by
 have hl := Yp b
 have hx := rawX_rng (nextH c.h)
 cases h : b[c.i]? with
 | none =>
  have e : byteC b c = (rawX (nextH c.h),⟨c.i,nextH c.h⟩) := by rw [byteC,h]
  rw [e]
  have hge := List.getElem?_eq_none_iff.1 h
  have f1 : decide ((c.i : Int) < (els b).length) = false := decide_eq_false (by omega)
  refine Con.of Tryz.func87 J Tryz.ntmps87 J (fun E => ?_)
  refine zy (z1 J (zz (zy (z0 J (z0 J (zx (Qz J J J) J (z2 J J J (z3 J ?_))))))));refine zx (q_mulW J J J J) J (zx (q_addW J J J J) J (zx (Qz J J J) J (z2 J J J ?_)));refine Q5 J J J J J J J J (zz (Qd ?_))
  refine AWP.pre (st' := (⟨_,[(0,.o (.c (.ptr 0 0)))],[.box [.rd [] (sl b),jn c.i,jn (nextH c.h)],.gh 0 (.c (.ptr 0 0))]⟩ : St)) ?_ (W_gj [0,1] (by kernel_rfl))
  skip
  refine Xi u8_7 u8_8 u8_9 J (DR.s (Qa J J J) J J (DR.s (Qz J J J) J J (DR.s (Qf J J J J (by decide)) J J (DR.s (Qg J J J J J) J J (DR.s (q_shrW J J J J ⟨by omega,by decide⟩) J J (DR.s (Qa J J J) J J (DR.s (Qz J J J) J J (DR.s (Qf J J J J (by decide)) J J (DR.s (Qg J J J J J) J J (DR.s (q_shrW J J J J ⟨by omega,by decide⟩) J J (DR.s (q_xorW J J J J) J J ?_)))))))))));refine DR.s (q_andW J J J J) J J (DR.s (Qb J J J) J J (DR.stop (by kernel_rfl) (by kernel_rfl) (zz ?_)))
  refine AWP.pre (st' := (⟨_,[(0,.o (.c (.ptr 0 0))),(3,I (rawX (nextH c.h)))],[.box [.rd [] (sl b),jn c.i,jn (nextH c.h)],.gh 0 (.c (.ptr 0 0))]⟩ : St)) ?_ (W_gj [0,1] (by kernel_rfl))
  refine Qd (Qd (Xi u8_10 u8_11 u8_12 J (DR.s (Qa J J J) J J (DR.s (Qz J J J) J J (DR.s (Qf J J J J (by decide)) J J (DR.s (Qg J J J J J) J J (DR.s (Qa J J J) J J (DR.s (Qz J J J) J J (DR.s (Qf J J J J (by decide)) J J (DR.s (Qg J J J J J) J J (DR.s (Zw J J J) J J ?_)))))))))));refine DR.s (Qr J J J J (by assumption)) J J (DR.stop (by kernel_rfl) (by kernel_rfl) (zz ?_))
  refine AWP.pre (st' := (⟨_,[(0,.o (.c (.ptr 0 0))),(3,I (rawX (nextH c.h))),(34,B false)],[.box [.rd [] (sl b),jn c.i,jn (nextH c.h)],.gh 0 (.c (.ptr 0 0))]⟩ : St)) ?_ (W_gj [0,1] (by kernel_rfl))
  refine Ql J (Qh (Q0 (zy (z0 J (z1 J (zz (Xa (F_r ?_))))))))
  exact Xp J J (X5 [0,1] (by decide) J J J)
 | some y =>
  have e : byteC b c = (addX (rawX (nextH c.h)) y,⟨c.i + 1,nextH c.h⟩) := by rw [byteC,h]
  rw [e]
  have hlt := Yy h
  have hy : (y.toNat : Int) ≤ 255 := by have := y.toNat_lt; omega
  have hy0 : 0 ≤ (y.toNat : Int) := by omega
  have f1 : decide ((c.i : Int) < (els b).length) = true := decide_eq_true (by omega)
  refine Con.of Tryz.func87 J Tryz.ntmps87 J (fun E => ?_)
  refine zy (z1 J (zz (zy (z0 J (z0 J (zx (Qz J J J) J (z2 J J J (z3 J ?_))))))));refine zx (q_mulW J J J J) J (zx (q_addW J J J J) J (zx (Qz J J J) J (z2 J J J ?_)));refine Q5 J J J J J J J J (zz (Qd ?_))
  refine AWP.pre (st' := (⟨_,[(0,.o (.c (.ptr 0 0)))],[.box [.rd [] (sl b),jn c.i,jn (nextH c.h)],.gh 0 (.c (.ptr 0 0))]⟩ : St)) ?_ (W_gj [0,1] (by kernel_rfl))
  skip
  refine Xi u8_7 u8_8 u8_9 J (DR.s (Qa J J J) J J (DR.s (Qz J J J) J J (DR.s (Qf J J J J (by decide)) J J (DR.s (Qg J J J J J) J J (DR.s (q_shrW J J J J ⟨by omega,by decide⟩) J J (DR.s (Qa J J J) J J (DR.s (Qz J J J) J J (DR.s (Qf J J J J (by decide)) J J (DR.s (Qg J J J J J) J J (DR.s (q_shrW J J J J ⟨by omega,by decide⟩) J J (DR.s (q_xorW J J J J) J J ?_)))))))))));refine DR.s (q_andW J J J J) J J (DR.s (Qb J J J) J J (DR.stop (by kernel_rfl) (by kernel_rfl) (zz ?_)))
  refine AWP.pre (st' := (⟨_,[(0,.o (.c (.ptr 0 0))),(3,I (rawX (nextH c.h)))],[.box [.rd [] (sl b),jn c.i,jn (nextH c.h)],.gh 0 (.c (.ptr 0 0))]⟩ : St)) ?_ (W_gj [0,1] (by kernel_rfl))
  refine Qd (Qd (Xi u8_10 u8_11 u8_12 J (DR.s (Qa J J J) J J (DR.s (Qz J J J) J J (DR.s (Qf J J J J (by decide)) J J (DR.s (Qg J J J J J) J J (DR.s (Qa J J J) J J (DR.s (Qz J J J) J J (DR.s (Qf J J J J (by decide)) J J (DR.s (Qg J J J J J) J J (DR.s (Zw J J J) J J ?_)))))))))));refine DR.s (Qr J J J J (by assumption)) J J (DR.stop (by kernel_rfl) (by kernel_rfl) (zz ?_))
  refine AWP.pre (st' := (⟨_,[(0,.o (.c (.ptr 0 0))),(3,I (rawX (nextH c.h))),(34,B true)],[.box [.rd [] (sl b),jn c.i,jn (nextH c.h)],.gh 0 (.c (.ptr 0 0))]⟩ : St)) ?_ (W_gj [0,1] (by kernel_rfl))
  refine Qm J (Qd ?_)
  have he := byte_at h
  skip
  refine Xi [[],[],[1],[1,2],[1,2,3],[],[5],[5,6],[5,6,7],[1,2,3,4,5,6,7,8],[1,2,3,4,5,6,7,8,9],[1,2,3,4,5,6,7,8,9,10],(u9 12),(u9 13),(u9 14)] [[],[],[36],[36,37],[36,37,38],[],[40],[40,41],[40,41,42],[36,37,38,39,40,41,42,43],[36,37,38,39,40,41,42,43,44],[36,37,38,39,40,41,42,43,44,45],[35,36,37,38,39,40,41,42,43,44,45,46],[35,36,37,38,39,40,41,42,43,44,45,46,47],[35,36,37,38,39,40,41,42,43,44,45,46,47,48]] [[36,37,38,39,40,41,42,43,44,45,46],[35,40,41,42,43],[35,40,41,42,43],[35,40,41,42,43],[35,40,41,42,43],[35,36,37,38,39],[35,36,37,38,39],[35,36,37,38,39],[35,36,37,38,39],[35],[35],[35],[],[],[]] J (DR.s (Qa J J J) J J (DR.s (Qa J J J) J J (DR.s (Qz J J J) J J (DR.s (Qf J J J J (by decide)) J J (DR.s (Qg J J J J J) J J (DR.s (Qa J J J) J J (DR.s (Qz J J J) J J (DR.s (Qf J J J J (by decide)) J J (DR.s (Qg J J J J J) J J (DR.s (Q2 J J J J (by omega) (by assumption) J) J J (DR.s (Z0 J J J J) J J ?_)))))))))));refine DR.s (Zp J J J J (Kp (by omega))) J J (DR.s (Qs J J J J (by omega)) J J (DR.s (Zi J J J J (by omega)) J J (DR.s (Qb J J J) J J (DR.stop (by kernel_rfl) (by kernel_rfl) (zz ?_)))))
  refine AWP.pre (st' := (⟨_,[(0,.o (.c (.ptr 0 0))),(3,I (addX (rawX (nextH c.h)) y))],[.box [.rd [] (sl b),jn c.i,jn (nextH c.h)],.gh 0 (.c (.ptr 0 0))]⟩ : St)) ?_ (W_gj [0,1] (by kernel_rfl))
  refine Qc (z0 J (z0 J (zx (Qz J J J) J (z2 J J J (z3 J (z7 J (by omega) (zx (Qz J J J) J (z2 J J J ?_))))))));refine Q5 J J J J J J J J (zz (zy (z0 J (z1 J (zz (Xa (F_r ?_)))))))
  exact Xp J J (X5 [0,1] (by decide) J J J)
def belowC (b : List UInt8) (n : Int) (c : Cu) : Int × Cu :=
 if n ≤ 0 then (0,c) else if n ≤ 256 then ((byteC b c).1 % n,(byteC b c).2)
 else ((((byteC b c).1 * 16777216 + (byteC b (byteC b c).2).1 * 65536) + (byteC b (byteC b (byteC b c).2).2).1 * 256 + (byteC b (byteC b (byteC b (byteC b c).2).2).2).1) % n,(byteC b (byteC b (byteC b (byteC b c).2).2).2).2)
theorem Ye {b : List UInt8} {n : Int} {c : Cu} (h : 0 < n) : 0 ≤ (belowC b n c).1 ∧ (belowC b n c).1 < n := by
 unfold belowC
 rw [if_neg (by omega)]
 split
 ·exact ⟨Int.emod_nonneg _ (by omega),Int.emod_lt_of_pos _ h⟩
 ·exact ⟨Int.emod_nonneg _ (by omega),Int.emod_lt_of_pos _ h⟩
theorem Yd {b : List UInt8} {n : Int} {c : Cu} (h : c.i ≤ b.length) : (belowC b n c).2.i ≤ b.length := by
 unfold belowC
 split
 ·exact h
 ·split
  ·exact Yi h
  ·exact Yi (Yi (Yi (Yi h)))
theorem X4 (b : List UInt8) (n : Int) (c : Cu) (hb : b.length ≤ 1048576) (hc : c.i ≤ b.length) (hn : n ≤ 1099511627776) : Con Tryz.prog 39 [cub b c,.gh 0 (.c (.ptr 0 0))] [.c (.ptr 0 0),ai n] [cub b (belowC b n c).2,.gh 0 (.c (.ptr 0 0))] (I (belowC b n c).1) := by
 by_cases h0 : n ≤ 0
 ·have e : belowC b n c = (0,c) := by rw [belowC,if_pos h0]
  rw [e]
  have f0 : decide (n ≤ 0) = true := decide_eq_true h0
  refine Con.of Tryz.func39 J Tryz.ntmps39 J (fun E => ?_)
  refine zy (z1 J (zz (Qd (zy (z0 J (z9b J (by assumption) (zz ?_)))))));refine Qm J (zy (z1 J (zz (Xa (T_r (F_r ?_))))))
  exact Xp J J (X5 [0,1] (by decide) J J J)
 have f0 : decide (n ≤ 0) = false := decide_eq_false h0
 by_cases h1 : n ≤ 256
 ·have e : belowC b n c = ((byteC b c).1 % n,(byteC b c).2) := by rw [belowC,if_neg h0,if_pos h1]
  rw [e]
  have f1 : decide (n ≤ 256) = true := decide_eq_true h1
  have k1 := S_l01Byte b c hb hc
  have r1 := byteC_rng b c
  generalize byteC b c = p1 at k1 r1
  obtain ⟨x1,c1⟩ := p1
  simp only at k1 r1
  refine Con.of Tryz.func39 J Tryz.ntmps39 J (fun E => ?_)
  refine zy (z1 J (zz (Qd (zy (z0 J (z9b J (by assumption) (zz ?_)))))));refine Ql J (Qh (Q0 (Qd (zy (z0 J (z9b J (by assumption) (zz (Qm J (Qd ?_)))))))));refine Qc (z0 J ?_);refine X3 (lo := [_]) (gs := [(0,.c (.ptr 0 0))]) (lo' := [_]) (new := []) [0] [(0,0,.ptr 0 0)] (k1) J J J J J J J J J J J J J J J J J ?_;refine z0 J (zx (Z6 J J J J (by omega)) J (z1 J (zz (Xa (T_r (F_r ?_))))))
  exact Xp J J (X5 [0,1] (by decide) J J J)
 ·have f1 : decide (n ≤ 256) = false := decide_eq_false h1
  have e : belowC b n c = ((((byteC b c).1 * 16777216 + (byteC b (byteC b c).2).1 * 65536) + (byteC b (byteC b (byteC b c).2).2).1 * 256 + (byteC b (byteC b (byteC b (byteC b c).2).2).2).1) % n,(byteC b (byteC b (byteC b (byteC b c).2).2).2).2) := by rw [belowC,if_neg h0,if_neg h1]
  rw [e]
  have k1 := S_l01Byte b c hb hc
  have k2 := S_l01Byte b (byteC b c).2 hb (Yi hc)
  have k3 := S_l01Byte b (byteC b (byteC b c).2).2 hb (Yi (Yi hc))
  have k4 := S_l01Byte b (byteC b (byteC b (byteC b c).2).2).2 hb (Yi (Yi (Yi hc)))
  have r1 := byteC_rng b c
  have r2 := byteC_rng b (byteC b c).2
  have r3 := byteC_rng b (byteC b (byteC b c).2).2
  have r4 := byteC_rng b (byteC b (byteC b (byteC b c).2).2).2
  generalize byteC b (byteC b (byteC b (byteC b c).2).2).2 = p4 at k4 r4
  generalize byteC b (byteC b (byteC b c).2).2 = p3 at k3 r3 k4
  generalize byteC b (byteC b c).2 = p2 at k2 r2 k3
  generalize byteC b c = p1 at k1 r1 k2
  obtain ⟨x1,c1⟩ := p1
  obtain ⟨x2,c2⟩ := p2
  obtain ⟨x3,c3⟩ := p3
  obtain ⟨x4,c4⟩ := p4
  simp only at k1 k2 k3 k4 r1 r2 r3 r4
  refine Con.of Tryz.func39 J Tryz.ntmps39 J (fun E => ?_)
  refine zy (z1 J (zz (Qd (zy (z0 J (z9b J (by assumption) (zz ?_)))))));refine Ql J (Qh (Q0 (Qd (zy (z0 J (z9b J (by assumption) (zz (Ql J (Qh ?_)))))))));refine Q0 (zy (z0 J ?_));refine X3 (lo := [_]) (gs := [(0,.c (.ptr 0 0))]) (lo' := [_]) (new := []) [0] [(0,0,.ptr 0 0)] (k1) J J J J J J J J J J J J J J J J J ?_;refine z1 J (zz (zy (z0 J ?_)));refine X3 (lo := [_]) (gs := [(0,.c (.ptr 0 0))]) (lo' := [_]) (new := []) [0] [(0,0,.ptr 0 0)] (k2) J J J J J J J J J J J J J J J J J ?_;refine z1 J (zz (zy (z0 J ?_)));refine X3 (lo := [_]) (gs := [(0,.c (.ptr 0 0))]) (lo' := [_]) (new := []) [0] [(0,0,.ptr 0 0)] (k3) J J J J J J J J J J J J J J J J J ?_;refine z1 J (zz (zy (z0 J ?_)));refine X3 (lo := [_]) (gs := [(0,.c (.ptr 0 0))]) (lo' := [_]) (new := []) [0] [(0,0,.ptr 0 0)] (k4) J J J J J J J J J J J J J J J J J ?_;refine z1 J (zz (zy (z0 J (zx (Z3 J J J J (by omega)) J (z0 J (zx (Z3 J J J J (by omega)) J (z7 J (by omega) (z0 J (zx (Z3 J J J J (by omega)) J ?_)))))))));refine z7 J (by omega) (z0 J (z7 J (by omega) (z0 J (zx (Z6 J J J J (by omega)) J (z1 J (zz (Xa (F_r ?_))))))))
  exact Xp J J (X5 [0,1] (by decide) J J J)
def pickC_ (b : List UInt8) (xs : List Int) (c : Cu) : Int × Cu := (xs.getD (belowC b xs.length c).1.toNat 0,(belowC b xs.length c).2)
theorem S_l01PickInt (b : List UInt8) (xs : List Int) (c : Cu) (hb : b.length ≤ 1048576) (hc : c.i ≤ b.length) (hx : 0 < xs.length) (hx2 : xs.length ≤ 1000) : Con Tryz.prog 109 [cub b c,.gh 0 (.c (.ptr 0 0))] [.c (.ptr 0 0),al xs] [cub b (pickC_ b xs c).2,.gh 0 (.c (.ptr 0 0))] (I (pickC_ b xs c).1) := by
 have hl := Yp xs
 have k1 := X4 b xs.length c hb hc (by omega)
 have r1 := Ye (b := b) (n := xs.length) (c := c) (by omega)
 rw [pickC_]
 generalize belowC b xs.length c = p1 at k1 r1
 obtain ⟨x1,c1⟩ := p1
 simp only at k1 r1
 rw [← hl] at k1
 obtain ⟨i,rfl⟩ : ∃ i : Nat,x1 = i := ⟨x1.toNat,by omega⟩
 have hi : i < xs.length := by omega
 have he : (els xs)[(i : Int).toNat]? = some (Enc.e xs[i]) := by rw [Int.toNat_natCast,List.getElem?_map,List.getElem?_eq_getElem hi]; rfl
 rw [show xs.getD ((i : Int),c1).1.toNat 0 = xs[i] by simp [List.getD_eq_getElem?_getD,hi]]
 refine Con.of Tryz.func109 J Tryz.ntmps109 J (fun E => ?_)
 refine zy (z1 J (zz (zy (z0 J (z0 J (z0 J (zx (Zw J J J) J ?_)))))));refine X3 (lo := [_]) (gs := [(0,.c (.ptr 0 0))]) (lo' := [_]) (new := []) [0] [(0,0,.ptr 0 0)] (k1) J J J J J J J J J J J J J J J J J ?_;refine zx (Q2 J J J J (by omega) (by assumption) J) J (zx (Z0 J J J J) J (z1 J (zz (Xa (F_r ?_)))))
 exact Xp J J (X5 [0,1] (by decide) J J J)
end
section
open Go.RowKit

def inputC (b : List UInt8) (c : Cu) : Int × Cu := pickC_ b [0,1,2,2,6,8,10,12,9,(belowC b 16 c).1] (belowC b 16 c).2
theorem pickC_ok {b : List UInt8} {xs : List Int} {c : Cu} (h : c.i ≤ b.length) : (pickC_ b xs c).2.i ≤ b.length := Yd h
theorem inputC_ok {b : List UInt8} {c : Cu} (h : c.i ≤ b.length) : (inputC b c).2.i ≤ b.length := pickC_ok (Yd h)
theorem pickC_all {b : List UInt8} {xs : List Int} {c : Cu} {q : Int → Prop} (h0 : 0 < xs.length) (h : ∀ x ∈ xs,q x) : q (pickC_ b xs c).1 := by
 have r := Ye (b := b) (n := xs.length) (c := c) (by omega)
 have hi : (belowC b xs.length c).1.toNat < xs.length := by omega
 simp only [pickC_,List.getD_eq_getElem?_getD,List.getElem?_eq_getElem hi,Option.getD_some]
 exact h _ (List.getElem_mem hi)
theorem inputC_rng (b : List UInt8) (c : Cu) : 0 ≤ (inputC b c).1 ∧ (inputC b c).1 ≤ 15 := by
 have r := Ye (b := b) (n := 16) (c := c) (by omega)
 refine pickC_all (q := fun x => 0 ≤ x ∧ x ≤ 15) (by simp) fun x hx => ?_
 simp only [List.mem_cons,List.not_mem_nil,or_false] at hx
 omega
def rowC (b : List UInt8) : Nat → Cu → List Int × Cu
 | 0,c => ([],c)
 | n + 1,c => ((rowC b n c).1 ++ [(inputC b (rowC b n c).2).1],(inputC b (rowC b n c).2).2)
theorem rowC_ok {b : List UInt8} {c : Cu} (h : c.i ≤ b.length) : ∀ n,(rowC b n c).2.i ≤ b.length
 | 0 => h
 | n + 1 => inputC_ok (rowC_ok h n)
theorem rowC_len {b : List UInt8} {c : Cu} : ∀ n,(rowC b n c).1.length = n
 | 0 => rfl
 | n + 1 => by rw [rowC,List.length_append,rowC_len n]; rfl
theorem rowC_rng {b : List UInt8} {c : Cu} : ∀ n,∀ x ∈ (rowC b n c).1,0 ≤ x ∧ x ≤ 15
 | 0,x,hx => by cases hx
 | n + 1,x,hx => by
  rw [rowC] at hx
  rcases List.mem_append.1 hx with h | h
  ·exact rowC_rng n x h
  ·rw [List.mem_singleton] at h; subst h; exact inputC_rng _ _
def rowsC (b : List UInt8) (n : Nat) : Nat → Cu → List (List Int) × Cu
 | 0,c => ([],c)
 | k + 1,c => ((rowsC b n k c).1 ++ List.replicate ((belowC b 4 (rowC b n (rowsC b n k c).2).2).1.toNat + 1) (rowC b n (rowsC b n k c).2).1,(belowC b 4 (rowC b n (rowsC b n k c).2).2).2)
theorem rowsC_ok {b : List UInt8} {n : Nat} {c : Cu} (h : c.i ≤ b.length) : ∀ k,(rowsC b n k c).2.i ≤ b.length
 | 0 => h
 | k + 1 => Yd (rowC_ok (rowsC_ok h k) n)
theorem rowsC_all {b : List UInt8} {n : Nat} {c : Cu} : ∀ k,∀ r ∈ (rowsC b n k c).1,r.length = n ∧ ∀ x ∈ r,0 ≤ x ∧ x ≤ 15
 | 0,r,hr => by cases hr
 | k + 1,r,hr => by
  rw [rowsC] at hr
  rcases List.mem_append.1 hr with h | h
  ·exact rowsC_all k r h
  ·rw [List.eq_of_mem_replicate h]
   exact ⟨rowC_len n,rowC_rng n⟩
theorem rowsC_len {b : List UInt8} {n : Nat} {c : Cu} : ∀ k,(rowsC b n k c).1.length ≤ 4 * k
 | 0 => by simp [rowsC]
 | k + 1 => by
  have h := rowsC_len (b := b) (n := n) (c := c) k
  have r := Ye (b := b) (n := 4) (c := (rowC b n (rowsC b n k c).2).2) (by omega)
  rw [rowsC,List.length_append,List.length_replicate]
  omega
def drawRows (b : List UInt8) (n : Nat) (most : Int) (c : Cu) : List (List Int) × Cu := rowsC b n (belowC b most c).1.toNat (belowC b most c).2
theorem S_l02Input (b : List UInt8) (c : Cu) (hb : b.length ≤ 1048576) (hc : c.i ≤ b.length) : Con Tryz.prog 134 [cub b c,.gh 0 (.c (.ptr 0 0))] [.c (.ptr 0 0)] [cub b (inputC b c).2,.gh 0 (.c (.ptr 0 0))] (I (inputC b c).1) := by
 have k1 := X4 b 16 c hb hc (by omega)
 have k2 := S_l01PickInt b [0,1,2,2,6,8,10,12,9,(belowC b 16 c).1] (belowC b 16 c).2 hb (Yd hc) (by simp) (by simp)
 rw [inputC]
 generalize belowC b 16 c = p1 at k1 k2
 obtain ⟨x1,c1⟩ := p1
 simp only at k1 k2
 generalize pickC_ b [0,1,2,2,6,8,10,12,9,x1] c1 = p2 at k2
 obtain ⟨x2,c2⟩ := p2
 simp only at k2
 refine Con.of Tryz.func134 J Tryz.ntmps134 J (fun E => ?_)
 refine zy (z1 J (zz (zy (z0 J (z0 J ?_)))));refine X3 (lo := [_]) (gs := [(0,.c (.ptr 0 0))]) (lo' := [_]) (new := []) [0] [(0,0,.ptr 0 0)] (k1) J J J J J J J J J J J J J J J J J ?_;refine M1 (Zj J J J J J J) J J ?_;refine AL.weak (Wk.sbrow (q := 2) J J (Nat.le_of_ble_eq_true J)) ?_;refine AL.freeze (p := 2) J ?_;refine AL.weak (st' := (⟨_,[(3,.o (.c (.ptr 0 0))),(6,.o (.c (.rd [] (sl [0,1,2,2,6,8,10,12,9,x1]))))],[cub b c1,.gh 0 (.c (.ptr 0 0))]⟩ : St)) (W_gj [0,1] (by kernel_rfl)) ?_;refine X3 (lo := [_]) (gs := [(0,.c (.ptr 0 0))]) (lo' := [_]) (new := []) [0] [(0,0,.ptr 0 0)] (k2) J J J J J J J J J J J J J J J J J ?_;refine z1 J (zz (Xa (F_r ?_)))
 exact Xp J J (X5 [0,1] (by decide) J J J)
theorem rw3c {a b : Ob} {k : Nat} {x y : List (List T)} (h : x = y) : [a,b,Ob.row k x] = [a,b,Ob.row k y] := by rw [h]
theorem S_l02Row (b : List UInt8) (n : Nat) (c : Cu) (hb : b.length ≤ 1048576) (hc : c.i ≤ b.length) (hn : n ≤ 1000) : Con Tryz.prog 90 [cub b c,.gh 0 (.c (.ptr 0 0))] [.c (.ptr 0 0),ai n] [cub b (rowC b n c).2,.gh 0 (.c (.ptr 0 0)),.row 1 (els (rowC b n c).1)] (.o (.c (.ref 2))) := by
 refine Con.of Tryz.func90 J Tryz.ntmps90 J (fun E => ?_)
 refine zy (z1 J (zz (zy (M1 (Zk J J J) J J (z1 J (zz (Qd ?_)))))));refine Qk ?_;refine A_lq (fun m st => ∃ k : Nat,k + m = n ∧ (True) ∧ st = (⟨_,[(0,.o (.c (.ptr 0 0))),(1,I n),(5,.o (.c (.ref 2)))],[cub b (rowC b k c).2,.gh 0 (.c (.ptr 0 0)),.row 1 (els (rowC b k c).1)]⟩ : St)) (n) ⟨_,⟨0,by omega,trivial,J⟩,W_gj [0,1,2] (by kernel_rfl)⟩ ?_
 rintro m_A _ ⟨k,hk_A,hp_A,rfl⟩
 have hl := Yp (rowC b k c).1
 have hl2 := rowC_len (b := b) (c := c) k
 by_cases hlt : k < n
 ·have f0 : decide (((els (rowC b k c).1).length : Int) < n) = true := decide_eq_true (by omega)
  have k1 := S_l02Input b (rowC b k c).2 hb (rowC_ok hc k)
  refine Qd (zy (z0 J (zx (Zx J J J J) J (z0 J (z9a J (by assumption) (zz (Qm J (Qh (Q0 ?_)))))))));refine Qk (Qc (z0 J (z0 J ?_)));refine X3 (lo := [_]) (gs := [(0,.c (.ptr 0 0))]) (lo' := [_]) (new := []) [0] [(0,0,.ptr 0 0)] (k1) J J J J J J J J J J J J J J J J J ?_;refine M1 (Zj J J J J J J) J J ?_;refine Xz J J J J J J J J J J (by omega) (by omega) ?_;refine z1 J (Qe (Q1 (Q0 ?_)))
  exact ⟨n - (k + 1),by omega,_,⟨k + 1,by omega,trivial,J⟩,(by rw [rowC,Yn]; exact W_gj [0,1,2] (by kernel_rfl))⟩
 ·have f0 : decide (((els (rowC b k c).1).length : Int) < n) = false := decide_eq_false (by omega)
  have hk : k = n := by omega
  subst hk
  refine Qd (zy (z0 J (zx (Zx J J J J) J (z0 J (z9a J (by assumption) (zz (Ql J (Q9 (T_x ?_)))))))));refine T_x (Xl (Q0 (zy (z0 J (z1 J (zz (Xa (F_r ?_))))))))
  exact Xp J J (X5 [0,1,2] (by decide) J J J)
theorem rw3s {a b : Ob} {x y : List T} (h : x = y) : [a,b,Ob.shr x] = [a,b,Ob.shr y] := by rw [h]
theorem S_l02Rows (b : List UInt8) (n : Nat) (most : Int) (c : Cu) (hb : b.length ≤ 1048576) (hc : c.i ≤ b.length) (hn : n ≤ 1000) (hm : 1 ≤ most ∧ most ≤ 256) : Con Tryz.prog 41 [cub b c,.gh 0 (.c (.ptr 0 0))] [.c (.ptr 0 0),ai n,ai most] [cub b (drawRows b n most c).2,.gh 0 (.c (.ptr 0 0))] (.o (.c (.rd [] (sl (drawRows b n most c).1)))) := by
 have k1 := X4 b most c hb hc (by omega)
 have r1 := Ye (b := b) (n := most) (c := c) (by omega)
 have o1 := Yd (n := most) hc
 rw [drawRows]
 generalize belowC b most c = p1 at k1 r1 o1
 obtain ⟨x1,c1⟩ := p1
 simp only at k1 r1 o1
 obtain ⟨N0,rfl⟩ : ∃ N0 : Nat,x1 = N0 := ⟨x1.toNat,by omega⟩
 simp only [Int.toNat_natCast]
 refine Con.of Tryz.func41 J Tryz.ntmps41 J (fun E => ?_)
 refine zy (z1 J (zz (zy (M1 (Zk J J J) J J (z1 J (zz (Qd ?_)))))));refine zy (z0 J (z0 J ?_));refine AL.weak (Wk.toshr (p := 2) J) ?_;refine AL.weak (st' := (⟨_,[(0,.o (.c (.ptr 0 0))),(1,I n),(2,I most),(7,.o (.c (.ref 2))),(12,.o (.c (.ptr 0 0))),(13,I most)],[cub b c,.gh 0 (.c (.ptr 0 0)),.shr []]⟩ : St)) (W_gj [0,1,2] (by kernel_rfl)) ?_;refine X3 (lo := [_]) (gs := [(0,.c (.ptr 0 0))]) (lo' := [_]) (new := []) [0] [(0,0,.ptr 0 0)] (k1) J J J J J J J J J J J J J J J J J ?_;refine z1 J (zz (Qk ?_));refine A_lq (fun m st => ∃ k : Nat,k + m = N0 ∧ (True) ∧ st = (⟨_,[(0,.o (.c (.ptr 0 0))),(1,I n),(7,.o (.c (.ref 2))),(8,I ((N0 : Int) - k))],[cub b (rowsC b n k c1).2,.gh 0 (.c (.ptr 0 0)),.shr ((rowsC b n k c1).1.map sl)]⟩ : St)) (N0) ⟨(fun k : Nat => (⟨_,[(0,.o (.c (.ptr 0 0))),(1,I n),(7,.o (.c (.ref 2))),(8,I ((N0 : Int) - k))],[cub b (rowsC b n k c1).2,.gh 0 (.c (.ptr 0 0)),.shr ((rowsC b n k c1).1.map sl)]⟩ : St)) 0,⟨0,by omega,trivial,J⟩,X7 [0,1,2] (by decide) J (by kernel_rfl) (.c J (.c J (.c J (.cons (Xx (by omega)) (.nil)))))⟩ ?_
 rintro m_A _ ⟨k,hk_A,hp_A,rfl⟩
 by_cases hlt : k < N0
 ·have f0 : decide ((N0 : Int) - k > 0) = true := decide_eq_true (by omega)
  have f1 : decide (0 < (N0 : Int) - k) = true := decide_eq_true (by omega)
  have k2 := S_l02Row b n (rowsC b n k c1).2 hb (rowsC_ok o1 k) hn
  have k3 := X4 b 4 (rowC b n (rowsC b n k c1).2).2 hb (rowC_ok (rowsC_ok o1 k) n) (by omega)
  have r3 := Ye (b := b) (n := 4) (c := (rowC b n (rowsC b n k c1).2).2) (by omega)
  have hnext : rowsC b n (k + 1) c1 = ((rowsC b n k c1).1 ++ List.replicate ((belowC b 4 (rowC b n (rowsC b n k c1).2).2).1.toNat + 1) (rowC b n (rowsC b n k c1).2).1,(belowC b 4 (rowC b n (rowsC b n k c1).2).2).2) := rfl
  have hlk := rowsC_len (b := b) (n := n) (c := c1) k
  generalize belowC b 4 (rowC b n (rowsC b n k c1).2).2 = p3 at k3 r3 hnext
  obtain ⟨x3,c3⟩ := p3
  generalize rowC b n (rowsC b n k c1).2 = p2 at k2 k3 hnext
  obtain ⟨row,c2⟩ := p2
  simp only at k2 k3 r3 hnext
  obtain ⟨q,rfl⟩ : ∃ q : Nat,x3 = q := ⟨x3.toNat,by omega⟩
  simp only [Int.toNat_natCast] at hnext
  refine Qd (zy (z0 J (z9c J (by assumption) (zz (Qm J (Qh (Q0 (Qd (Qk ?_)))))))));refine zy (z0 J (z0 J ?_));refine X3 (lo := [_]) (gs := [(0,.c (.ptr 0 0))]) (lo' := [_]) (new := [_]) [0] [(0,0,.ptr 0 0)] (k2) J J J J J J J J J J J J J J J J J ?_;refine z1 J (zz (zy (z0 J ?_)));refine AL.freeze (p := 3) J ?_;refine AL.weak (st' := (⟨_,[(0,.o (.c (.ptr 0 0))),(22,.o (.c (.ptr 0 0))),(1,I n),(7,.o (.c (.ref 2))),(8,I ((N0 : Int) - k)),(9,.o (.c (.rd [] (sl row))))],[cub b c2,.gh 0 (.c (.ptr 0 0)),.shr ((rowsC b n k c1).1.map sl)]⟩ : St)) (W_gj [0,1,2] (by kernel_rfl)) ?_;refine X3 (lo := [_]) (gs := [(0,.c (.ptr 0 0))]) (lo' := [_]) (new := []) [0] [(0,0,.ptr 0 0)] (k3) J J J J J J J J J J J J J J J J J ?_;refine z1 J (zz (Qk ?_));refine A_lq (fun m st => ∃ i : Nat,i + m = (q + 1) ∧ (True) ∧ st = (⟨_,[(0,.o (.c (.ptr 0 0))),(1,I n),(7,.o (.c (.ref 2))),(8,I ((N0 : Int) - k)),(9,.o (.c (.rd [] (sl row)))),(10,I ((q : Int) - i))],[cub b c3,.gh 0 (.c (.ptr 0 0)),.shr ((rowsC b n k c1).1.map sl ++ List.replicate i (sl row))]⟩ : St)) ((q + 1)) ⟨(fun i : Nat => (⟨_,[(0,.o (.c (.ptr 0 0))),(1,I n),(7,.o (.c (.ref 2))),(8,I ((N0 : Int) - k)),(9,.o (.c (.rd [] (sl row)))),(10,I ((q : Int) - i))],[cub b c3,.gh 0 (.c (.ptr 0 0)),.shr ((rowsC b n k c1).1.map sl ++ List.replicate i (sl row))]⟩ : St)) 0,⟨0,by omega,trivial,J⟩,X7 [0,1,2] (by decide) J (rw3s (by simp)) (.c J (.c J (.c J (.c J (.c J (.cons (Xx (by omega)) (.nil)))))))⟩ ?_
  rintro m_B _ ⟨i,hk_B,hp_B,rfl⟩
  by_cases hli : i < q + 1
  ·have g0 : decide ((q : Int) - i ≥ 0) = true := decide_eq_true (by omega)
   have g1 : decide (0 ≤ (q : Int) - i) = true := decide_eq_true (by omega)
   have hll : ((rowsC b n k c1).1.map sl ++ List.replicate i (sl row)).length = (rowsC b n k c1).1.length + i := by simp
   refine Qd (zy (z0 J (z9d J (by assumption) (zz (Qm J (Qh (Q0 (Qd (Qk ?_)))))))));refine Qc (z0 J (z0 J (M1 (Zj J J J J J J) J J ?_)));refine L_appshr J J J J J J (by omega) (by omega) J ?_;refine z1 J (Qe (Q1 (Q0 (Qc (z0 J (z8 J (by omega) (z1 J (zz ?_))))))))
   exact ⟨(q + 1) - (i + 1),by omega,(fun i : Nat => (⟨_,[(0,.o (.c (.ptr 0 0))),(1,I n),(7,.o (.c (.ref 2))),(8,I ((N0 : Int) - k)),(9,.o (.c (.rd [] (sl row)))),(10,I ((q : Int) - i))],[cub b c3,.gh 0 (.c (.ptr 0 0)),.shr ((rowsC b n k c1).1.map sl ++ List.replicate i (sl row))]⟩ : St)) (i + 1),⟨i + 1,by omega,trivial,J⟩,X7 [0,1,2] (by decide) J (rw3s (by rw [List.append_assoc,← List.replicate_succ'])) (.c J (.c J (.c J (.c J (.c J (.cons (Xx (by omega)) (.nil)))))))⟩
  ·have g0 : decide ((q : Int) - i ≥ 0) = false := decide_eq_false (by omega)
   have g1 : decide (0 ≤ (q : Int) - i) = false := decide_eq_false (by omega)
   have hi : i = q + 1 := by omega
   subst hi
   refine Qd (zy (z0 J (z9d J (by assumption) (zz (Ql J (Q9 (T_x (T_x (Xl ?_)))))))));refine Q1 (Q0 (Qc (z0 J (z8 J (by omega) (z1 J (zz ?_))))))
   exact ⟨N0 - (k + 1),by omega,(fun k : Nat => (⟨_,[(0,.o (.c (.ptr 0 0))),(1,I n),(7,.o (.c (.ref 2))),(8,I ((N0 : Int) - k))],[cub b (rowsC b n k c1).2,.gh 0 (.c (.ptr 0 0)),.shr ((rowsC b n k c1).1.map sl)]⟩ : St)) (k + 1),⟨k + 1,by omega,trivial,J⟩,X7 [0,1,2] (by decide) J ((by rw [hnext,List.map_append,List.map_replicate]; rfl)) (.c J (.c J (.c J (.cons (Xx (by omega)) (.nil)))))⟩
 ·have f0 : decide ((N0 : Int) - k > 0) = false := decide_eq_false (by omega)
  have f1 : decide (0 < (N0 : Int) - k) = false := decide_eq_false (by omega)
  have hk : k = N0 := by omega
  subst hk
  have hsl : T.sl 1 (((rowsC b n k c1).1.map sl).map fun t => [t]) = sl (rowsC b n k c1).1 := by rw [List.map_map]; rfl
  refine AWP.freezeS (p := 2) J ?_
  rw [hsl]
  refine AWP.pre (st' := (⟨_,[(0,.o (.c (.ptr 0 0))),(7,.o (.c (.rd [] (sl (rowsC b n k c1).1)))),(8,I ((k : Int) - k))],[cub b (rowsC b n k c1).2,.gh 0 (.c (.ptr 0 0))]⟩ : St)) ?_ (W_gj [0,1] (by kernel_rfl))
  refine Qd (zy (z0 J (z9c J (by assumption) (zz (Ql J (Q9 (T_x (T_x (Xl ?_)))))))));refine Q0 (zy (z0 J (z1 J (zz (Xa (F_r ?_))))))
  exact Xp J J (X5 [0,1] (by decide) J J J)
end
end Go.Proofs.YtbfhboakafjjgaaGreat
