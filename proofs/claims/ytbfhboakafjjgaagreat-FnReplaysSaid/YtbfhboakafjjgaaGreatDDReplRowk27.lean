/-
  Moving a body, in the program and in the reference.
  Conditions: a body in a free place of a valid level, speeds in range.
-/
import Derived.Test.YtbfhboakafjjgaaGreatDDReplRowk26
set_option linter.unusedSimpArgs false
set_option linter.unusedVariables false
set_option maxRecDepth 8000
set_option maxHeartbeats 8000000
namespace Go.Proofs.YtbfhboakafjjgaaGreat
section
open Go.RowKit

theorem Ki {hit : Int → Bool} {step : Int} : ∀ (n : Nat) (x : Int),hit x = false → hit (slide hit step n x).1 = false
 | 0,x,h => h
 | n + 1,x,h => by
  rw [slide]
  split
  ·exact h
  ·exact Ki n (x + step) (by rename_i q; simpa using q)
section
variable {P : Program} {E : Env} {st st' : St}
theorem A_joinb {c d : Code} {id : Nat} {Q Q' : Exit → St → Prop} (st' : St) (h1 : AWP P E c (blk id (Mid st')) st) (h2 : AWP P E d Q' st') : AWP P E c (blk id (thn (AWP P E d Q') Q)) st :=
 AWP.mono (fun e s h => by
  have hh := h.h
  cases e with
  | normal => obtain ⟨_,hw⟩ := hh.h; exact ⟨⟨AWP.weak hw h2⟩⟩
  | exit id' =>
   by_cases hi : id' = id
   ·subst hi
    have hh : (if id' = id' then Mid st' .normal s else Mid st' (.exit id') s) := hh
    rw [if_pos rfl] at hh
    obtain ⟨_,hw⟩ := hh.h
    exact Xl (Q0 (AWP.weak hw h2))
   ·have hh : (if id' = id then Mid st' .normal s else Mid st' (.exit id') s) := hh
    rw [if_neg hi] at hh
    obtain ⟨he,_⟩ := hh.h
    cases he
  | goto l => obtain ⟨he,_⟩ := Mid.h hh; cases he
  | ret => obtain ⟨he,_⟩ := Mid.h hh; cases he
  | panic c => obtain ⟨he,_⟩ := Mid.h hh; cases he
  | outgrown => obtain ⟨he,_⟩ := Mid.h hh; cases he) h1
end
theorem I_MoveBody (l : TLevel) (b : TBody) (hg : Enc.gd l) (hl : levelOk l = true) (hk : 0 ≤ b.Kind ∧ b.Kind ≤ 2) (hp : solidM l b.X b.Y (sizeOf b.Kind) = false) (hx : -15 ≤ b.VX ∧ b.VX ≤ 15) (hy : -15 ≤ b.VY ∧ b.VY ≤ 15) : Con Tryz.prog 152 [] [ag l,ag b] [] (.tu [.ag ((Enc.e (moveM l b).1).map (V1.rd [])),.c (bv (moveM l b).2)]) := by
 obtain ⟨s4,s12⟩ := size_pos hk
 obtain ⟨s,hs⟩ : ∃ s,s = sizeOf b.Kind := ⟨_,rfl⟩
 rw [← hs] at s4 s12 hp
 have cz := I_SizeOf b.Kind
 rw [← hs] at cz
 obtain ⟨⟨px1,px2⟩,⟨py1,py2⟩⟩ := Zf hl ⟨by omega,by omega⟩ hp
 obtain ⟨X1,b1,hR⟩ : ∃ X1 b1,(X1,b1) = moveX l b := ⟨_,_,rfl⟩
 obtain ⟨Y1,b2,hS⟩ : ∃ Y1 b2,(Y1,b2) = moveY l b := ⟨_,_,rfl⟩
 obtain ⟨N,hN⟩ : ∃ N,N = b.VX.natAbs := ⟨_,rfl⟩
 obtain ⟨M,hM⟩ : ∃ M,M = b.VY.natAbs := ⟨_,rfl⟩
 obtain ⟨d,hd⟩ : ∃ d,d = dirOf b.VX := ⟨_,rfl⟩
 obtain ⟨e,he⟩ : ∃ e,e = dirOf b.VY := ⟨_,rfl⟩
 have hd1 : -1 ≤ d ∧ d ≤ 1 := by rw [hd,dirOf]; split <;> omega
 have he1 : -1 ≤ e ∧ e ≤ 1 := by rw [he,dirOf]; split <;> omega
 have hR1 : slide (fun z => solidM l z b.Y s) d (N - 0) b.X = (X1,b1) := by rw [hs,hd,hN]; exact hR.symm
 have hR2 : slide (fun z => solidM l X1 z s) e (M - 0) b.Y = (Y1,b2) := by rw [show X1 = (moveX l b).1 by rw [← hR],hs,he,hM]; exact hS.symm
 have hp2 : solidM l X1 b.Y s = false := by have h := Ki (hit := fun z => solidM l z b.Y s) (step := d) (N - 0) b.X hp; rw [hR1] at h; exact h
 have hmm : moveM l b = (⟨b.Kind,b.Owner,X1,Y1,if b1 = true then 0 else b.VX,if b2 = true then 0 else b.VY,b.Aim,b.Life,b.Timer⟩,b1 || b2) := by rw [moveM,← hR,← hS]
 rw [hmm]
 have hNb : N ≤ 15 := by omega
 have hMb : M ≤ 15 := by omega
 have ca := I_SolidAt l b.X b.Y s hg ⟨by omega,by omega⟩ ⟨by omega,by omega⟩
 rw [solidAt_eq hl ⟨by omega,by omega⟩,hp] at ca
 have c1 := Xv b.VX (-15) 15
 have c2 := Xv b.VY (-15) 15
 rw [Y3.2 hx] at c1
 rw [Y3.2 hy] at c2
 have d1 := I_direction b.VX hx
 have d2 := I_direction b.VY hy
 rw [← hd,← hN] at d1
 rw [← he,← hM] at d2
 refine Con.of Tryz.func152 J Tryz.ntmps152 J (fun E => ?_)
 refine zy (M1 (Qq J J J J) J J (M1 (Qq J J J J) J J (M1 (Qx J J J) J J (z1 J (zz (zy (z2 J J J (z3 J ?_))))))));refine zx (Qj J J (cz) J) J ?_;refine z1 J (zz (Qd (zy (z4 J J J (z2 J J J (z3 J (z2 J J J (z3 J (z0 J ?_)))))))));refine zx (Qj J J (ca) J) J ?_;refine zz (Ql J (Qh (Q0 (Qd (zy (z2 J J J (z3 J ?_)))))));refine zx (Qj J J (c1) J) J ?_;refine zn J (z0 J (z5 J (z2 J J J (z5 J (z3 J (z5 J ?_))))));refine zx (Qj J J (c2) J) J ?_;refine z5 J (zn J (zpF J (zz (Ql J (Qh (Q0 (zy (z1 J (Qe ?_)))))))));refine Q0 (zy (z2 J J J (z3 J ?_)));refine M1 (Zo J J (d1) J J J) J J ?_;refine zx (Q8 J J J) J (ze J (ze J (z1 J (z1 J (zz (Qd (zy (z1 J (Qe ?_)))))))));refine Q0 (Qk ?_)
 refine A_joinb (⟨88,[(2,.o (.c (.ptr 0 0))),(3,.o (.c (.ptr 1 0))),(4,.o (.c (.ptr 2 0))),(6,I s),(7,B b1)],[.box ((Enc.e l).map (V1.rd [])),.box (stB b.Kind b.Owner X1 b.Y (if b1 = true then 0 else b.VX) b.VY b.Aim b.Life b.Timer),.box (stB 0 0 0 0 0 0 0 0 0)]⟩ : St) ?_ ?_
 ·skip
  refine A_lq (fun m__ st => ∃ (k : Nat) (x : Int),N - k = m__ ∧ (k ≤ N ∧ solidM l x b.Y s = false ∧ slide (fun z => solidM l z b.Y s) d (N - k) x = (X1,b1)) ∧ st = (⟨_,[(2,.o (.c (.ptr 0 0))),(3,.o (.c (.ptr 1 0))),(4,.o (.c (.ptr 2 0))),(6,I s),(7,B false),(8,I d),(9,I N),(10,I k)],[.box ((Enc.e l).map (V1.rd [])),.box (stB b.Kind b.Owner x b.Y b.VX b.VY b.Aim b.Life b.Timer),.box (stB 0 0 0 0 0 0 0 0 0)]⟩ : St)) _ ⟨_,⟨0,b.X,J,⟨by omega,hp,hR1⟩,J⟩,W_gj [0,1,2] (by kernel_rfl)⟩ ?_
  rintro m_A _ ⟨k,x,hk_A,hp_A,rfl⟩
  obtain ⟨hkn,hfr,hsl⟩ := hp_A
  obtain ⟨⟨qx1,qx2⟩,_⟩ := Zf hl ⟨by omega,by omega⟩ hfr
  by_cases hlt : k < N
  ·have hb : decide ((k : Int) < N) = true := decide_eq_true (by omega)
   have cs := I_solid l (x + d) b.Y s hl ⟨by omega,by omega⟩ ⟨by omega,by omega⟩ (by omega) (by omega)
   obtain ⟨m,hm⟩ : ∃ m,N - k = m + 1 := ⟨N - k - 1,by omega⟩
   cases hh : solidM l (x + d) b.Y s with
   | true =>
    rw [hh] at cs
    rw [hm,slide_hit (hit := fun z => solidM l z b.Y s) hh] at hsl
    obtain ⟨rfl,rfl⟩ := Prod.mk.inj hsl
    refine Qd (zy (z0 J (z0 J (z9a J (by assumption) (zz (Qm J (Qh (Q0 (Qd ?_)))))))));refine Qk (Qd (zy (z4 J J J (z2 J J J (z3 J (z0 J (z7 J (by omega) (z2 J J J (z3 J (z0 J ?_))))))))));refine zx (Qj J J (cs) J) J ?_;refine zz (Qm J (zy (z2 J J J ?_)));refine Q5 J J J J J J J J (zz (zy (z1 J (zz (Q9 (T_x (B_xo J (T_x ?_))))))));refine T_x (Xl ?_)
    exact Mid.n (W_gj [0,1,2] (by kernel_rfl))
   | false =>
    rw [hh] at cs
    rw [hm,slide_go (hit := fun z => solidM l z b.Y s) hh] at hsl
    refine Qd (zy (z0 J (z0 J (z9a J (by assumption) (zz (Qm J (Qh (Q0 (Qd ?_)))))))));refine Qk (Qd (zy (z4 J J J (z2 J J J (z3 J (z0 J (z7 J (by omega) (z2 J J J (z3 J (z0 J ?_))))))))));refine zx (Qj J J (cs) J) J ?_;refine zz (Ql J (Qh (Q0 (Qc (z2 J J J (z3 J (z0 J (z7 J (by omega) (z2 J J J ?_)))))))));refine Q5 J J J J J J J J (Qe (Q1 (Q0 (Qc (z0 J (z7 J (by omega) (z1 J (zz ?_))))))))
    refine ⟨_,(by omega),_,⟨k + 1,x + d,J,⟨by omega,hh,by rw [show N - (k + 1) = m by omega]; exact hsl⟩,J⟩,W_gj [0,1,2] (by kernel_rfl)⟩
  ·have hb : decide ((k : Int) < N) = false := decide_eq_false (by omega)
   rw [show N - k = 0 by omega,slide] at hsl
   obtain ⟨rfl,rfl⟩ := Prod.mk.inj hsl
   refine Qd (zy (z0 J (z0 J (z9a J (by assumption) (zz (Ql J (Q9 (T_x (T_x ?_)))))))));refine Xl ?_
   exact Mid.n (W_gj [0,1,2] (by kernel_rfl))
 refine zy (z2 J J J (z3 J ?_));refine M1 (Zo J J (d2) J J J) J J ?_;refine zx (Q8 J J J) J (ze J (ze J (z1 J (z1 J (zz (Qd (zy (z1 J (Qe ?_)))))))));refine Q0 (Qk ?_)
 refine A_joinb (⟨88,[(2,.o (.c (.ptr 0 0))),(3,.o (.c (.ptr 1 0))),(4,.o (.c (.ptr 2 0))),(6,I s),(7,B (b1 || b2))],[.box ((Enc.e l).map (V1.rd [])),.box (stB b.Kind b.Owner X1 Y1 (if b1 = true then 0 else b.VX) (if b2 = true then 0 else b.VY) b.Aim b.Life b.Timer),.box (stB 0 0 0 0 0 0 0 0 0)]⟩ : St) ?_ ?_
 ·skip
  refine A_lq (fun m__ st => ∃ (k : Nat) (y : Int),M - k = m__ ∧ (k ≤ M ∧ solidM l X1 y s = false ∧ slide (fun z => solidM l X1 z s) e (M - k) y = (Y1,b2)) ∧ st = (⟨_,[(2,.o (.c (.ptr 0 0))),(3,.o (.c (.ptr 1 0))),(4,.o (.c (.ptr 2 0))),(6,I s),(7,B b1),(8,I e),(9,I M),(11,I k)],[.box ((Enc.e l).map (V1.rd [])),.box (stB b.Kind b.Owner X1 y (if b1 = true then 0 else b.VX) b.VY b.Aim b.Life b.Timer),.box (stB 0 0 0 0 0 0 0 0 0)]⟩ : St)) _ ⟨_,⟨0,b.Y,J,⟨by omega,hp2,hR2⟩,J⟩,W_gj [0,1,2] (by kernel_rfl)⟩ ?_
  rintro m_B _ ⟨k,y,hk_B,hp_B,rfl⟩
  obtain ⟨hkn,hfr,hsl⟩ := hp_B
  obtain ⟨_,⟨qx1,qx2⟩⟩ := Zf hl ⟨by omega,by omega⟩ hfr
  by_cases hlt : k < M
  ·have hb : decide ((k : Int) < M) = true := decide_eq_true (by omega)
   have cs := I_solid l X1 (y + e) s hl ⟨by omega,by omega⟩ ⟨by omega,by omega⟩ (by omega) (by omega)
   obtain ⟨m,hm⟩ : ∃ m,M - k = m + 1 := ⟨M - k - 1,by omega⟩
   cases hh : solidM l X1 (y + e) s with
   | true =>
    rw [hh] at cs
    rw [hm,slide_hit (hit := fun z => solidM l X1 z s) hh] at hsl
    obtain ⟨rfl,rfl⟩ := Prod.mk.inj hsl
    refine Qd (zy (z0 J (z0 J (z9a J (by assumption) (zz (Qm J (Qh (Q0 (Qd ?_)))))))));refine Qk (Qd (zy (z4 J J J (z2 J J J (z3 J (z2 J J J (z3 J (z0 J (z7 J (by omega) (z0 J ?_))))))))));refine zx (Qj J J (cs) J) J ?_;refine zz (Qm J (zy (z2 J J J ?_)));refine Q5 J J J J J J J J (zz (zy (z1 J (zz (Q9 (T_x (B_xo J (T_x ?_))))))));refine T_x (Xl ?_)
    exact Mid.n (X7 [0,1,2] (by decide) J (by kernel_rfl) (.c J (.c J (.c J (.c J (.cons (by cases b1 <;> rfl) (.nil)))))))
   | false =>
    rw [hh] at cs
    rw [hm,slide_go (hit := fun z => solidM l X1 z s) hh] at hsl
    refine Qd (zy (z0 J (z0 J (z9a J (by assumption) (zz (Qm J (Qh (Q0 (Qd ?_)))))))));refine Qk (Qd (zy (z4 J J J (z2 J J J (z3 J (z2 J J J (z3 J (z0 J (z7 J (by omega) (z0 J ?_))))))))));refine zx (Qj J J (cs) J) J ?_;refine zz (Ql J (Qh (Q0 (Qc (z2 J J J (z3 J (z0 J (z7 J (by omega) (z2 J J J ?_)))))))));refine Q5 J J J J J J J J (Qe (Q1 (Q0 (Qc (z0 J (z7 J (by omega) (z1 J (zz ?_))))))))
    refine ⟨_,(by omega),_,⟨k + 1,y + e,J,⟨by omega,hh,by rw [show M - (k + 1) = m by omega]; exact hsl⟩,J⟩,W_gj [0,1,2] (by kernel_rfl)⟩
  ·have hb : decide ((k : Int) < M) = false := decide_eq_false (by omega)
   rw [show M - k = 0 by omega,slide] at hsl
   obtain ⟨rfl,rfl⟩ := Prod.mk.inj hsl
   refine Qd (zy (z0 J (z0 J (z9a J (by assumption) (zz (Ql J (Q9 (T_x (T_x ?_)))))))));refine Xl ?_
   exact Mid.n (X7 [0,1,2] (by decide) J (by kernel_rfl) (.c J (.c J (.c J (.c J (.cons (by cases b1 <;> rfl) (.nil)))))))
 refine zy (z4 J J J (z0 J ?_));refine Qy J J J J J J J J J (z1 J (zz (Xa (F_r ?_))))
 exact Xn J J J J J (X5 [] (by decide) J J J)
theorem S_l02Move (l : TLevel) (b : TBody) (hg : Enc.gd l) (hl : levelOk l = true) (hk : 0 ≤ b.Kind ∧ b.Kind ≤ 2) (hp : solidM l b.X b.Y (sizeOf b.Kind) = false) (hx : -15 ≤ b.VX ∧ b.VX ≤ 15) (hy : -15 ≤ b.VY ∧ b.VY ≤ 15) : Con Tryz.prog 99 [] [ag l,ag b] [] (.tu [.ag ((Enc.e (moveM l b).1).map (V1.rd [])),.c (bv (moveM l b).2)]) := by
 obtain ⟨s4,s12⟩ := size_pos hk
 obtain ⟨s,hs⟩ : ∃ s,s = sizeOf b.Kind := ⟨_,rfl⟩
 rw [← hs] at s4 s12 hp
 have cz := S_SizeOf b.Kind
 rw [← hs] at cz
 obtain ⟨⟨px1,px2⟩,⟨py1,py2⟩⟩ := Zf hl ⟨by omega,by omega⟩ hp
 obtain ⟨X1,b1,hR⟩ : ∃ X1 b1,(X1,b1) = moveX l b := ⟨_,_,rfl⟩
 obtain ⟨Y1,b2,hS⟩ : ∃ Y1 b2,(Y1,b2) = moveY l b := ⟨_,_,rfl⟩
 obtain ⟨N,hN⟩ : ∃ N,N = b.VX.natAbs := ⟨_,rfl⟩
 obtain ⟨M,hM⟩ : ∃ M,M = b.VY.natAbs := ⟨_,rfl⟩
 obtain ⟨d,hd⟩ : ∃ d,d = dirOf b.VX := ⟨_,rfl⟩
 obtain ⟨e,he⟩ : ∃ e,e = dirOf b.VY := ⟨_,rfl⟩
 have hd1 : -1 ≤ d ∧ d ≤ 1 := by rw [hd,dirOf]; split <;> omega
 have he1 : -1 ≤ e ∧ e ≤ 1 := by rw [he,dirOf]; split <;> omega
 have hR1 : slide (fun z => solidM l z b.Y s) d (N - 0) b.X = (X1,b1) := by rw [hs,hd,hN]; exact hR.symm
 have hR2 : slide (fun z => solidM l X1 z s) e (M - 0) b.Y = (Y1,b2) := by rw [show X1 = (moveX l b).1 by rw [← hR],hs,he,hM]; exact hS.symm
 have hp2 : solidM l X1 b.Y s = false := by have h := Ki (hit := fun z => solidM l z b.Y s) (step := d) (N - 0) b.X hp; rw [hR1] at h; exact h
 have hmm : moveM l b = (⟨b.Kind,b.Owner,X1,Y1,if b1 = true then 0 else b.VX,if b2 = true then 0 else b.VY,b.Aim,b.Life,b.Timer⟩,b1 || b2) := by rw [moveM,← hR,← hS]
 rw [hmm]
 have hNb : N ≤ 15 := by omega
 have hMb : M ≤ 15 := by omega
 refine Con.of Tryz.func99 J Tryz.ntmps99 J (fun E => ?_)
 refine zy (M1 (Qq J J J J) J J (M1 (Qq J J J J) J J (M1 (Qx J J J) J J (z1 J (zz (zy (z2 J J J (z3 J ?_))))))));refine zx (Qj J J (cz) J) J ?_;refine z1 J (zz (zy (z1 J (zz (zy (z1 J (Qe ?_)))))));refine Q0 (zy (z2 J J J (z3 J (z1 J (zz (Qd (zy (z0 J ?_))))))));refine zx (Z1 J J J J) J (zz ?_)
 refine A_join (⟨65,[(2,.o (.c (.ptr 0 0))),(3,.o (.c (.ptr 1 0))),(4,.o (.c (.ptr 2 0))),(6,I s),(7,B false),(8,I d),(9,I N)],[.box ((Enc.e l).map (V1.rd [])),.box (stB b.Kind b.Owner b.X b.Y b.VX b.VY b.Aim b.Life b.Timer),.box (stB 0 0 0 0 0 0 0 0 0)]⟩ : St) ?_ ?_
 ·refine Xb rfl (fun h => ?_) (fun h => ?_)
  ·have h := of_decide_eq_true h
   obtain rfl : d = -1 := by rw [hd,dirOf,if_pos h]
   have hq : (N : Int) = -b.VX := by omega
   refine zy (z1 J (zz (Qc (z0 J (zx (q_neg J J J (by omega)) J (z1 J (Qe ?_)))))))
   exact Mid.n (X7 [0,1,2] (by decide) J (by kernel_rfl) (.c J (.c J (.c J (.c J (.c J (.c J (.cons (by rw [hq]; rfl) (.nil)))))))))
  ·have h := of_decide_eq_false h
   obtain rfl : d = 1 := by rw [hd,dirOf,if_neg h]
   have hq : (N : Int) = b.VX := by omega
   refine Qh ?_
   exact Mid.n (X7 [0,1,2] (by decide) J (by kernel_rfl) (.c J (.c J (.c J (.c J (.c J (.c J (.cons (by rw [hq]; rfl) (.nil)))))))))
 refine Qd (Qk ?_)
 refine A_joinb (⟨65,[(2,.o (.c (.ptr 0 0))),(3,.o (.c (.ptr 1 0))),(4,.o (.c (.ptr 2 0))),(6,I s),(7,B b1)],[.box ((Enc.e l).map (V1.rd [])),.box (stB b.Kind b.Owner X1 b.Y (if b1 = true then 0 else b.VX) b.VY b.Aim b.Life b.Timer),.box (stB 0 0 0 0 0 0 0 0 0)]⟩ : St) ?_ ?_
 ·skip
  refine A_lq (fun m__ st => ∃ (k : Nat) (x : Int),N - k = m__ ∧ (k ≤ N ∧ solidM l x b.Y s = false ∧ slide (fun z => solidM l z b.Y s) d (N - k) x = (X1,b1)) ∧ st = (⟨_,[(2,.o (.c (.ptr 0 0))),(3,.o (.c (.ptr 1 0))),(4,.o (.c (.ptr 2 0))),(6,I s),(7,B false),(8,I d),(9,I ((N : Int) - k))],[.box ((Enc.e l).map (V1.rd [])),.box (stB b.Kind b.Owner x b.Y b.VX b.VY b.Aim b.Life b.Timer),.box (stB 0 0 0 0 0 0 0 0 0)]⟩ : St)) _ ⟨(fun (k : Nat) (x : Int) => (⟨_,[(2,.o (.c (.ptr 0 0))),(3,.o (.c (.ptr 1 0))),(4,.o (.c (.ptr 2 0))),(6,I s),(7,B false),(8,I d),(9,I ((N : Int) - k))],[.box ((Enc.e l).map (V1.rd [])),.box (stB b.Kind b.Owner x b.Y b.VX b.VY b.Aim b.Life b.Timer),.box (stB 0 0 0 0 0 0 0 0 0)]⟩ : St)) (0) (b.X),⟨0,b.X,J,⟨by omega,hp,hR1⟩,J⟩,X7 [0,1,2] (by decide) J (by kernel_rfl) (.c J (.c J (.c J (.c J (.c J (.c J (.cons (by rw [show ((N : Int) - ((0 : Nat) : Int)) = (N : Int) by omega]; rfl) (.nil))))))))⟩ ?_
  rintro m_A _ ⟨k,x,hk_A,hp_A,rfl⟩
  obtain ⟨hkn,hfr,hsl⟩ := hp_A
  obtain ⟨⟨qx1,qx2⟩,_⟩ := Zf hl ⟨by omega,by omega⟩ hfr
  by_cases hlt : k < N
  ·have hb : decide ((0 : Int) < (N : Int) - k) = true := decide_eq_true (by omega)
   have cs := S_l02Solid l (x + d) b.Y s hl ⟨by omega,by omega⟩ ⟨by omega,by omega⟩ (by omega) (by omega)
   obtain ⟨m,hm⟩ : ∃ m,N - k = m + 1 := ⟨N - k - 1,by omega⟩
   cases hh : solidM l (x + d) b.Y s with
   | true =>
    rw [hh] at cs
    rw [hm,slide_hit (hit := fun z => solidM l z b.Y s) hh] at hsl
    obtain ⟨rfl,rfl⟩ := Prod.mk.inj hsl
    refine Qd (zy (z0 J (z9c J (by assumption) (zz (Qm J (Qh (Q0 (Qd (Qk ?_)))))))));refine Qd (zy (z4 J J J (z2 J J J (z3 J (z0 J (z7 J (by omega) (z2 J J J (z3 J (z0 J ?_)))))))));refine zx (Qj J J (cs) J) J ?_;refine zz (Qm J (zy (z2 J J J ?_)));refine Q5 J J J J J J J J (zz (zy (z1 J (zz (Q9 (T_x (B_xo J (T_x ?_))))))));refine T_x (Xl ?_)
    exact Mid.n (W_gj [0,1,2] (by kernel_rfl))
   | false =>
    rw [hh] at cs
    rw [hm,slide_go (hit := fun z => solidM l z b.Y s) hh] at hsl
    refine Qd (zy (z0 J (z9c J (by assumption) (zz (Qm J (Qh (Q0 (Qd (Qk ?_)))))))));refine Qd (zy (z4 J J J (z2 J J J (z3 J (z0 J (z7 J (by omega) (z2 J J J (z3 J (z0 J ?_)))))))));refine zx (Qj J J (cs) J) J ?_;refine zz (Ql J (Qh (Q0 (Qc (z2 J J J (z3 J (z0 J (z7 J (by omega) (z2 J J J ?_)))))))));refine Q5 J J J J J J J J (Qe (Q1 (Q0 (Qc (z0 J (z8 J (by omega) (z1 J (zz ?_))))))))
    refine ⟨_,(by omega),(fun (k : Nat) (x : Int) => (⟨_,[(2,.o (.c (.ptr 0 0))),(3,.o (.c (.ptr 1 0))),(4,.o (.c (.ptr 2 0))),(6,I s),(7,B false),(8,I d),(9,I ((N : Int) - k))],[.box ((Enc.e l).map (V1.rd [])),.box (stB b.Kind b.Owner x b.Y b.VX b.VY b.Aim b.Life b.Timer),.box (stB 0 0 0 0 0 0 0 0 0)]⟩ : St)) (k + 1) (x + d),⟨k + 1,x + d,J,⟨by omega,hh,by rw [show N - (k + 1) = m by omega]; exact hsl⟩,J⟩,X7 [0,1,2] (by decide) J (by kernel_rfl) (.c J (.c J (.c J (.c J (.c J (.c J (.cons (by rw [show ((N : Int) - ((k + 1 : Nat) : Int)) = (N : Int) - k - 1 by omega]; rfl) (.nil))))))))⟩
  ·have hb : decide ((0 : Int) < (N : Int) - k) = false := decide_eq_false (by omega)
   rw [show N - k = 0 by omega,slide] at hsl
   obtain ⟨rfl,rfl⟩ := Prod.mk.inj hsl
   refine Qd (zy (z0 J (z9c J (by assumption) (zz (Ql J (Q9 (T_x (T_x (Xl ?_)))))))))
   exact Mid.n (W_gj [0,1,2] (by kernel_rfl))
 refine zy (z1 J (zz (zy (z2 J J J (z3 J (z1 J (zz ?_)))))));refine Qd (zy (z0 J (zx (Z1 J J J J) J (zz ?_))))
 refine A_join (⟨65,[(2,.o (.c (.ptr 0 0))),(3,.o (.c (.ptr 1 0))),(4,.o (.c (.ptr 2 0))),(6,I s),(7,B b1),(8,I e),(9,I M)],[.box ((Enc.e l).map (V1.rd [])),.box (stB b.Kind b.Owner X1 b.Y (if b1 = true then 0 else b.VX) b.VY b.Aim b.Life b.Timer),.box (stB 0 0 0 0 0 0 0 0 0)]⟩ : St) ?_ ?_
 ·refine Xb rfl (fun h => ?_) (fun h => ?_)
  ·have h := of_decide_eq_true h
   obtain rfl : e = -1 := by rw [he,dirOf,if_pos h]
   have hq : (M : Int) = -b.VY := by omega
   refine zy (z1 J (zz (Qc (z0 J (zx (q_neg J J J (by omega)) J (z1 J (Qe ?_)))))))
   exact Mid.n (X7 [0,1,2] (by decide) J (by kernel_rfl) (.c J (.c J (.c J (.c J (.c J (.c J (.cons (by rw [hq]; rfl) (.nil)))))))))
  ·have h := of_decide_eq_false h
   obtain rfl : e = 1 := by rw [he,dirOf,if_neg h]
   have hq : (M : Int) = b.VY := by omega
   refine Qh ?_
   exact Mid.n (X7 [0,1,2] (by decide) J (by kernel_rfl) (.c J (.c J (.c J (.c J (.c J (.c J (.cons (by rw [hq]; rfl) (.nil)))))))))
 refine Qd (Qk ?_)
 refine A_joinb (⟨65,[(2,.o (.c (.ptr 0 0))),(3,.o (.c (.ptr 1 0))),(4,.o (.c (.ptr 2 0))),(6,I s),(7,B (b1 || b2))],[.box ((Enc.e l).map (V1.rd [])),.box (stB b.Kind b.Owner X1 Y1 (if b1 = true then 0 else b.VX) (if b2 = true then 0 else b.VY) b.Aim b.Life b.Timer),.box (stB 0 0 0 0 0 0 0 0 0)]⟩ : St) ?_ ?_
 ·skip
  refine A_lq (fun m__ st => ∃ (k : Nat) (y : Int),M - k = m__ ∧ (k ≤ M ∧ solidM l X1 y s = false ∧ slide (fun z => solidM l X1 z s) e (M - k) y = (Y1,b2)) ∧ st = (⟨_,[(2,.o (.c (.ptr 0 0))),(3,.o (.c (.ptr 1 0))),(4,.o (.c (.ptr 2 0))),(6,I s),(7,B b1),(8,I e),(9,I ((M : Int) - k))],[.box ((Enc.e l).map (V1.rd [])),.box (stB b.Kind b.Owner X1 y (if b1 = true then 0 else b.VX) b.VY b.Aim b.Life b.Timer),.box (stB 0 0 0 0 0 0 0 0 0)]⟩ : St)) _ ⟨(fun (k : Nat) (y : Int) => (⟨_,[(2,.o (.c (.ptr 0 0))),(3,.o (.c (.ptr 1 0))),(4,.o (.c (.ptr 2 0))),(6,I s),(7,B b1),(8,I e),(9,I ((M : Int) - k))],[.box ((Enc.e l).map (V1.rd [])),.box (stB b.Kind b.Owner X1 y (if b1 = true then 0 else b.VX) b.VY b.Aim b.Life b.Timer),.box (stB 0 0 0 0 0 0 0 0 0)]⟩ : St)) (0) (b.Y),⟨0,b.Y,J,⟨by omega,hp2,hR2⟩,J⟩,X7 [0,1,2] (by decide) J (by kernel_rfl) (.c J (.c J (.c J (.c J (.c J (.c J (.cons (by rw [show ((M : Int) - ((0 : Nat) : Int)) = (M : Int) by omega]; rfl) (.nil))))))))⟩ ?_
  rintro m_B _ ⟨k,y,hk_B,hp_B,rfl⟩
  obtain ⟨hkn,hfr,hsl⟩ := hp_B
  obtain ⟨_,⟨qx1,qx2⟩⟩ := Zf hl ⟨by omega,by omega⟩ hfr
  by_cases hlt : k < M
  ·have hb : decide ((0 : Int) < (M : Int) - k) = true := decide_eq_true (by omega)
   have cs := S_l02Solid l X1 (y + e) s hl ⟨by omega,by omega⟩ ⟨by omega,by omega⟩ (by omega) (by omega)
   obtain ⟨m,hm⟩ : ∃ m,M - k = m + 1 := ⟨M - k - 1,by omega⟩
   cases hh : solidM l X1 (y + e) s with
   | true =>
    rw [hh] at cs
    rw [hm,slide_hit (hit := fun z => solidM l X1 z s) hh] at hsl
    obtain ⟨rfl,rfl⟩ := Prod.mk.inj hsl
    refine Qd (zy (z0 J (z9c J (by assumption) (zz (Qm J (Qh (Q0 (Qd (Qk ?_)))))))));refine Qd (zy (z4 J J J (z2 J J J (z3 J (z2 J J J (z3 J (z0 J (z7 J (by omega) (z0 J ?_)))))))));refine zx (Qj J J (cs) J) J ?_;refine zz (Qm J (zy (z2 J J J ?_)));refine Q5 J J J J J J J J (zz (zy (z1 J (zz (Q9 (T_x (B_xo J (T_x ?_))))))));refine T_x (Xl ?_)
    exact Mid.n (X7 [0,1,2] (by decide) J (by kernel_rfl) (.c J (.c J (.c J (.c J (.cons (by cases b1 <;> rfl) (.nil)))))))
   | false =>
    rw [hh] at cs
    rw [hm,slide_go (hit := fun z => solidM l X1 z s) hh] at hsl
    refine Qd (zy (z0 J (z9c J (by assumption) (zz (Qm J (Qh (Q0 (Qd (Qk ?_)))))))));refine Qd (zy (z4 J J J (z2 J J J (z3 J (z2 J J J (z3 J (z0 J (z7 J (by omega) (z0 J ?_)))))))));refine zx (Qj J J (cs) J) J ?_;refine zz (Ql J (Qh (Q0 (Qc (z2 J J J (z3 J (z0 J (z7 J (by omega) (z2 J J J ?_)))))))));refine Q5 J J J J J J J J (Qe (Q1 (Q0 (Qc (z0 J (z8 J (by omega) (z1 J (zz ?_))))))))
    refine ⟨_,(by omega),(fun (k : Nat) (y : Int) => (⟨_,[(2,.o (.c (.ptr 0 0))),(3,.o (.c (.ptr 1 0))),(4,.o (.c (.ptr 2 0))),(6,I s),(7,B b1),(8,I e),(9,I ((M : Int) - k))],[.box ((Enc.e l).map (V1.rd [])),.box (stB b.Kind b.Owner X1 y (if b1 = true then 0 else b.VX) b.VY b.Aim b.Life b.Timer),.box (stB 0 0 0 0 0 0 0 0 0)]⟩ : St)) (k + 1) (y + e),⟨k + 1,y + e,J,⟨by omega,hh,by rw [show M - (k + 1) = m by omega]; exact hsl⟩,J⟩,X7 [0,1,2] (by decide) J (by kernel_rfl) (.c J (.c J (.c J (.c J (.c J (.c J (.cons (by rw [show ((M : Int) - ((k + 1 : Nat) : Int)) = (M : Int) - k - 1 by omega]; rfl) (.nil))))))))⟩
  ·have hb : decide ((0 : Int) < (M : Int) - k) = false := decide_eq_false (by omega)
   rw [show M - k = 0 by omega,slide] at hsl
   obtain ⟨rfl,rfl⟩ := Prod.mk.inj hsl
   refine Qd (zy (z0 J (z9c J (by assumption) (zz (Ql J (Q9 (T_x (T_x (Xl ?_)))))))))
   exact Mid.n (X7 [0,1,2] (by decide) J (by kernel_rfl) (.c J (.c J (.c J (.c J (.cons (by cases b1 <;> rfl) (.nil)))))))
 refine zy (z4 J J J (z0 J ?_));refine Qy J J J J J J J J J (z1 J (zz (Xa (F_r ?_))))
 exact Xn J J J J J (X5 [] (by decide) J J J)
end
end Go.Proofs.YtbfhboakafjjgaaGreat
