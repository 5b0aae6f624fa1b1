/-
  Parts of the proof (rules, data, and what functions of the program and of the reference return), among them: The law FnExactEncodeReplay returns true; The kit's readings of the laws' structs as Lean data.
  Conditions: those that each theorem names.
-/
import Derived.Test.YtmaiojglkojecaaDDEncRowk14
import Derived.Test.YtmaiojglkojecaaDDEncRowk17
import Derived.Test.YtmaiojglkojecaaDDEncRowk18
import Derived.Test.YtmaiojglkojecaaDDEncRowk19
set_option linter.unusedSimpArgs false
set_option linter.unusedVariables false
set_option maxRecDepth 8000
set_option maxHeartbeats 8000000
namespace Go.Proofs.Ytmaiojglkojecaa
section
open Go.RowKit

theorem repE {x : TReplay} (hg : Enc.gd x) (hw : Enc.wt x ≤ 1048576) (h : replayOk x = true) : RepE x := by
 have h0 : Enc.wt x = (x.Level.Rows.length + wts x.Level.Rows) + (x.Rows.length + wts x.Rows) + (x.Keys.length + wts x.Keys) := rfl
 unfold replayOk at h
 simp only [Bool.and_eq_true,decide_eq_true_eq,inR_iff] at h
 obtain ⟨⟨⟨⟨⟨⟨h1,h2⟩,h3⟩,h4⟩,h5⟩,h6⟩,h7⟩ := h
 have hj := joinB_size x.Level.Rows slashB
 have h8 : slashB.size = 1 := rfl
 rw [h8] at hj
 have hk : (x.Rows.length : Int) / x.Every ≤ x.Rows.length := Int.ediv_le_self _ (by omega)
 refine ⟨hg,h1,?_,by omega,h2,by omega,fun r hr => ?_,by omega,fun k hk => ?_⟩
 ·show x.Level.Rows.length + wts x.Level.Rows ≤ _; omega
 ·have h9 := List.all_eq_true.1 h6 r hr
  rw [rowOk,Bool.and_eq_true,decide_eq_true_eq] at h9
  exact h9.1
 ·have h9 := wts_le x.Keys k hk
  have : Enc.wt k = k.size := rfl
  omega
theorem S_EncAll (r : TReplay) (hg : Enc.gd r) (hw : Enc.wt r ≤ 1048576) : Con Try.prog 5 [] [ag r] [] (S (encodeReplay r)) := by
 cases ho : replayOk r with
 | true => exact S_EncodeReplay r (repE hg hw ho)
 | false =>
  have cok := S_ReplayOk r hg
  rw [ho] at cok
  rw [show encodeReplay r = ⟨#[]⟩ by rw [encodeReplay,if_neg (by rw [ho]; exact Bool.false_ne_true)]]
  refine Con.of Try.func5 J Try.ntmps5 J (fun E => ?_)
  refine zy (M1 (Zn J) J J (z1 J (zz (Qd (zy (z4 J J J ?_))))));refine zx (Qj J J (cok) J) J ?_;refine zn J (zz (Qm J (zy (z1 J (zz (Q6 (T_r (F_r ?_))))))))
  exact Y5 J (Y6 [] J J J)
theorem I_FormatLv (x : TLevel) (hg : Enc.gd x) (hw : Enc.wt x ≤ 1073741824) (ho : levelOk x = true) : Con Try.prog 25 [] [ag x] [] (S (joinB x.Rows slashB)) := by
 have hl := I_LevelOk x hg
 have h0 : Enc.wt x = x.Rows.length + wts x.Rows := rfl
 have h1 := joinB_size x.Rows slashB
 have h2 : slashB.size = 1 := rfl
 rw [h2] at h1
 have hj := I_Join x.Rows slashB (by omega) (by rw [joinB_len]; omega)
 rw [ho] at hl
 refine Con.of Try.func25 J Try.ntmps25 J (fun E => ?_)
 refine zy (M1 (Zn J) J J (z1 J (zz (Qd (zy (z4 J J J ?_))))));refine zx (Qj J J (hl) J) J ?_;refine zn J (zz (Ql J (Qh (Qz (zy (z2 J J J (z3 J ?_)))))));refine zx (Qj J J (hj) J) J ?_;refine z1 J (zz (Q6 (F_r ?_)))
 exact Y5 J (Y6 [] J J J)
instance : FunOk Try.prog 23 := ⟨by kernel_rfl⟩
instance : FunOk Try.prog 29 := ⟨by kernel_rfl⟩
abbrev blR := Try.lays156_ren
@[reducible] def BL (a : ByteArray) : Ob := .bl (blR.t 72) (blR.t 5) a.data.toList
theorem B_write0 (s : ByteArray) (h : s.size ≤ 140737488355328) : Con Try.prog 23 [.bl (blR.t 72) (blR.t 5) [],.gh 0 (.c (.ref 0))] [.c (.ref 0),astr s] [BL s,.gh 0 (.c (.ref 0))] (.tu [.c (.rd [] (.v (.int .i64 s.size))),.c (.rd [] (.v .nilIface))]) := C_write (ρ := Try.lays156_ren) { Try.lays156 with } Try.Builder_Extra_156 [] s (by simpa using h)
theorem B_write (a s : ByteArray) (h : a.size + s.size ≤ 140737488355328) : Con Try.prog 23 [BL a,.gh 0 (.c (.ref 0))] [.c (.ref 0),astr s] [BL (a ++ s),.gh 0 (.c (.ref 0))] (.tu [.c (.rd [] (.v (.int .i64 s.size))),.c (.rd [] (.v .nilIface))]) := by
 have := C_write (ρ := Try.lays156_ren) { Try.lays156 with } Try.Builder_Extra_156 a.data.toList s (by simpa using h)
 rw [← Array.toList_append,← ByteArray.data_append] at this
 exact this
theorem B_string (a : ByteArray) (h : 0 < a.size) : Con Try.prog 29 [BL a] [.c (.ref 0)] [BL a] (S a) :=
 C_string (ρ := Try.lays156_ren) { Try.lays156 with } Try.Builder_Extra_156 a.data.toList fun e => by
  have h2 : a.data.toList.length = a.size := by simp
  rw [e] at h2
  have h3 : ([] : List UInt8).length = 0 := rfl
  omega
theorem encVar_ne (n : Nat) (h : n ≤ 1099511627775) : 0 < (bs (encVar (n : Int))).size := by
 rw [Xm,encVar,if_pos ⟨by omega,by omega⟩]
 exact (varN_len _).1
theorem packText_pos (s : ByteArray) (h : s.size ≤ 1099511627775) : 0 < (packText s).size := by
 have := encVar_ne s.size h
 rw [packText,Xn]
 omega
theorem BL2 {o : Ob} {a b : ByteArray} (h : a = b) : [o,BL a] = [o,BL b] := by rw [h]
theorem I_EncR (r : TReplay) (hRE : RepE r) (ho : replayOk r = true) : Con Try.prog 7 [] [ag r] [] (S (encodeReplay r)) := by
 rw [encodeReplay,if_pos ho]
 obtain ⟨hg,hlv,hwt,htx,hpl,hrl,hrw,hkl,hks⟩ := hRE
 have cok := I_ReplayOk r hg
 rw [ho] at cok
 obtain ⟨gL,gP,gS,gE,gR,gK⟩ := hg
 have hlr := Xp r.Rows
 have hlk := Xp r.Keys
 obtain ⟨p,hp⟩ : ∃ p : Nat,(p : Int) = r.Players := ⟨r.Players.toNat,by omega⟩
 have cfl := I_FormatLv r.Level gL hwt hlv
 have cpt := I_PackText (joinB r.Level.Rows slashB) (by omega)
 have hgi : Enc.gd [r.Players,r.Seed,r.Every,((els r.Rows).length : Int)] := ⟨by simp,fun x hx => by
  simp only [List.mem_cons,List.not_mem_nil,or_false] at hx
  rcases hx with rfl | rfl | rfl | rfl
  ·exact gP
  ·exact gS
  ·exact gE
  ·exact ⟨by omega,by omega⟩⟩
 have cpi := I_PackInts [r.Players,r.Seed,r.Every,((els r.Rows).length : Int)] hgi (by simp)
 have cpc := I_packColumns r.Rows p gR hrl (by omega) (fun x hx => by have := hrw x hx; omega)
 rw [hp] at cpc
 have hs0 := Xz (joinB r.Level.Rows slashB)
 have hs1 := packInts_size [r.Players,r.Seed,r.Every,((els r.Rows).length : Int)]
 simp only [List.length_cons,List.length_nil] at hs1
 have hs2 := colsB_size r.Rows p
 have henc : encB r = ((packText (joinB r.Level.Rows slashB) ++ packInts [r.Players,r.Seed,r.Every,((els r.Rows).length : Int)]) ++ colsB r.Rows p) ++ keysB r.Keys r.Keys.length := by rw [encB,hlr,show r.Players.toNat = p by omega]
 rw [henc]
 generalize hA : packText (joinB r.Level.Rows slashB) = A at cpt hs0 ⊢
 generalize hB : packInts [r.Players,r.Seed,r.Every,((els r.Rows).length : Int)] = M at cpi hs1 ⊢
 generalize hC : colsB r.Rows p = C at cpc hs2 ⊢
 have hcA := Xn A M
 have hcB := Xn (A ++ M) C
 have hApos : 0 < A.size := by rw [← hA]; exact packText_pos _ (by omega)
 have w1 := B_write0 A (by omega)
 have w2 := B_write A M (by omega)
 have w3 := B_write (A ++ M) C (by omega)
 refine Con.of Try.func7 J Try.ntmps7 J (fun E => ?_)
 refine zy (M1 (Zn J) J J (z1 J (zz (Qd (zy (z4 J J J ?_))))));refine zx (Qj J J (cok) J) J ?_;refine zn J (zz (Ql J (Qh (Qz (zy (M1 (q_allocB (blR.t 5) J J) J J (zz (Qd ?_))))))));refine Qc (z2 J J J (z4 J J J ?_));refine zx (Qj J J (cfl) J) J ?_;refine zx (Qj J J (cpt) J) J ?_;refine Q9 (lo := [_]) (gs := [(0,.c (.ref 0))]) (lo' := [_]) (new := []) [1] [(0,0,.ref 0)] (w1) J J J J J J J J J J J J J J J J J ?_;refine zz (zy (z2 J J J (z3 J (z2 J J J (z3 J (z2 J J J (z3 J (z2 J J J (z3 J ?_)))))))));refine zx (X4 J J J) J (M1 (X1 J J J J J J) J J ?_);refine zx (Qj J J (cpi) J) J ?_;refine Q9 (lo := [_]) (gs := [(0,.c (.ref 0))]) (lo' := [_]) (new := []) [1] [(0,0,.ref 0)] (w2) J J J J J J J J J J J J J J J J J ?_;refine zz (zy (z2 J J J (z3 J (z2 J J J (z3 J ?_)))));refine zx (Qj J J (cpc) J) J ?_;refine Q9 (lo := [_]) (gs := [(0,.c (.ref 0))]) (lo' := [_]) (new := []) [1] [(0,0,.ref 0)] (w3) J J J J J J J J J J J J J J J J J ?_;refine zz (Qd (zy (z2 J J J (z3 J (zx (X4 J J J) J (z0 J (zz (Qk ?_))))))))
 obtain ⟨X,hX⟩ : ∃ X,X = A ++ M ++ C := ⟨_,rfl⟩
 have hX0 : X ++ keysB r.Keys 0 = X := by rw [show keysB r.Keys 0 = bs [] from rfl,app_nilB]
 refine AWP.pre (st' := (⟨_,[(1,.o (.c (.ptr 0 0))),(3,.o (.c (.ref 1))),(33,L r.Keys),(34,I (els r.Keys).length),(35,I 0)],[.box ((Enc.e r).map (V1.rd [])),BL (A ++ M ++ C)]⟩ : St)) ?_ (Zj [0,1])
 rw [← hX] at hcB ⊢
 refine A_lq (fun m st => ∃ q : Nat,q + m = r.Keys.length ∧ (True) ∧ st = (⟨_,[(1,.o (.c (.ptr 0 0))),(3,.o (.c (.ref 1))),(33,L r.Keys),(34,I (els r.Keys).length),(35,I q)],[.box ((Enc.e r).map (V1.rd [])),BL (X ++ keysB r.Keys q)]⟩ : St)) (r.Keys.length) ⟨(fun q : Nat => (⟨_,[(1,.o (.c (.ptr 0 0))),(3,.o (.c (.ref 1))),(33,L r.Keys),(34,I (els r.Keys).length),(35,I q)],[.box ((Enc.e r).map (V1.rd [])),BL (X ++ keysB r.Keys q)]⟩ : St)) 0,⟨0,by omega,trivial,J⟩,Xi [0,1] (by decide) J ((by exact BL2 hX0)) (.c J (.c J (.c J (.c J (.c J (.nil))))))⟩ ?_
 rintro m_D _ ⟨q,hk_D,hp_D,rfl⟩
 have hs8 := Xn X (keysB r.Keys q)
 by_cases hq : q < r.Keys.length
 ·have f1 : decide ((q : Int) < (els r.Keys).length) = true := decide_eq_true (by omega)
  have hs9 := Xv r.Keys hks q (by omega)
  have hat := Xo hq
  have hkd : r.Keys.getD q ⟨#[]⟩ = r.Keys[q] := by simp [List.getD_eq_getElem?_getD,hq]
  have hk1 := hks _ (List.getElem_mem hq)
  have c4 := I_PackText r.Keys[q] (by omega)
  have hs10 := Xz r.Keys[q]
  have hq400 : (1048576 + 6) * q ≤ 1048582 * 400 := Nat.mul_le_mul_left _ (by omega)
  have w4 := B_write (X ++ keysB r.Keys q) (packText r.Keys[q]) (by omega)
  have hnx : X ++ keysB r.Keys (q + 1) = X ++ keysB r.Keys q ++ packText r.Keys[q] := by rw [keysB,hkd,ByteArray.append_assoc]
  refine zy (Za J (zz (Qd (Qm J (Qh (Qz (Qd (Qk (Qd ?_)))))))));refine Qc (zx (Q1 J J J J (by omega) (by assumption) J) J (zx (Y9 J) J (z1 J (zz (Qc (z0 J ?_))))));refine zx (Qj J J (c4) J) J ?_;refine Q9 (lo := [_]) (gs := [(0,.c (.ref 0))]) (lo' := [_]) (new := []) [1] [(0,0,.ref 0)] (w4) J J J J J J J J J J J J J J J J J ?_;refine Qe (Q0 (Qz (Qc (Zb J (z0 J (zz ?_))))))
  exact ⟨r.Keys.length - (q + 1),by omega,(fun q : Nat => (⟨_,[(1,.o (.c (.ptr 0 0))),(3,.o (.c (.ref 1))),(33,L r.Keys),(34,I (els r.Keys).length),(35,I q)],[.box ((Enc.e r).map (V1.rd [])),BL (X ++ keysB r.Keys q)]⟩ : St)) (q + 1),⟨q + 1,by omega,trivial,J⟩,Xi [0,1] (by decide) J ((by exact BL2 hnx)) (.c J (.c J (.c J (.c J (.c J (.nil))))))⟩
 have f1 : decide ((q : Int) < (els r.Keys).length) = false := decide_eq_false (by omega)
 have hqk : q = r.Keys.length := by omega
 subst hqk
 have hs9 := Xv r.Keys hks r.Keys.length (Nat.le_refl _)
 have hq400 : (1048576 + 6) * r.Keys.length ≤ 1048582 * 400 := Nat.mul_le_mul_left _ (by omega)
 have c5 := B_string (X ++ keysB r.Keys r.Keys.length) (by omega)
 have cse := I_SealText (X ++ keysB r.Keys r.Keys.length) (by omega)
 refine zy (Za J (zz (Qd (Ql J (Q5 (T_x (T_x (B_xs (Qz ?_)))))))));refine zy ?_;refine Q9 (lo := [_]) (gs := []) (lo' := [_]) (new := []) [1] [] (c5) J J J J J J J J J J J J J J J J J ?_;refine zx (Qj J J (cse) J) J ?_;refine z1 J (zz (Q6 (F_r ?_)))
 exact Y5 J (Y6 [] J J J)
theorem I_EncAll (r : TReplay) (hg : Enc.gd r) (hw : Enc.wt r ≤ 1048576) : Con Try.prog 7 [] [ag r] [] (S (encodeReplay r)) := by
 by_cases ho : replayOk r = true
 ·exact I_EncR r (repE hg hw ho) ho
 have cok := I_ReplayOk r hg
 have ho : replayOk r = false := by simpa using ho
 rw [ho] at cok
 rw [show encodeReplay r = ⟨#[]⟩ by rw [encodeReplay,if_neg (by rw [ho]; exact Bool.false_ne_true)]]
 refine Con.of Try.func7 J Try.ntmps7 J (fun E => ?_)
 refine zy (M1 (Zn J) J J (z1 J (zz (Qd (zy (z4 J J J ?_))))));refine zx (Qj J J (cok) J) J ?_;refine zn J (zz (Qm J (zy (z1 J (zz (Q6 (T_r (F_r ?_))))))))
 exact Y5 J (Y6 [] J J J)
end
section
open Go.RowKit
end
section
open Go.RowKit

section
variable {P : Program} {E : Env} {ops : Array Oper} {o : Oper} {st : St} {rest : List Oper} {QQ : Exit → St → Prop} {w : World} {H : Hs} {F : Nat → Prop} {a : Act} {t : TypeId} {y : Operand} {n : Nat}
end
end
section
open Go.RowKit

section
variable {P : Program} {ops : Array Oper} {o : Oper} {st : St} {m : Nat} {t t' : TypeId} {y z : Operand} {ps qs : List Nat}
theorem q_sneqR {u : ByteArray} (ho : o.op = .binOp .neq t y z t') (hg : o.guard = none) (hy : st.ev y = .o (.c (.rd ps (.v (.string u))))) (hz : st.ev z = .o (.c (.rd qs (.v (.string u))))) : Qt P ops o st (B false) [] m :=
 q_sneqK ho hg hy hz (by simp)
end
end
section
open Go.RowKit
end
section
open Go.RowKit

@[reducible] def iv (n : Int) : V1 := .rd [] (.v (.int .i64 n))
theorem law_EncodeReplay (x : TReplay) (hx : Enc.gd x) : Con Try.prog 3 [] [ag x] [] (B true) := by
 have hz1 := sz_Replay x 1048576 hx (by omega) (by omega)
 by_cases n1 : (1048576 : Int) < Enc.wt x
 ·rw [Yb n1] at hz1
  refine Con.of Try.func3 J Try.ntmps3 J (fun E => ?_)
  refine zy (M1 (Zn J) J J (z1 J (zz (zy (z1 J (zz (Qd ?_)))))));refine Qc (z4 J J J (z0 J ?_));refine zx (Qj J J (hz1) J) J ?_;refine z1 J (zz (Qd (zy (z0 J ?_))));refine zx (Qr (b := true) J J J J (by decide)) J ?_;refine zz (Qm J (zy (z1 J (zz (Q6 (T_r (F_r ?_)))))))
  exact Y5 J (Y6 [] J J J)
 rw [Y8] at hz1
 have hb1 : decide ((1048576 : Int) - Enc.wt x < 0) = false := decide_eq_false (by omega)
 have ht1 := to_Replay x (by omega)
 have hsp := S_EncAll x hx (by omega)
 have hip := I_EncAll x hx (by omega)
 generalize encodeReplay x = y at hsp hip
 have hq1 := eq_Replay x x hx
 rw [decide_eq_true rfl] at hq1
 refine Con.of Try.func3 J Try.ntmps3 J (fun E => ?_)
 refine zy (M1 (Zn J) J J (z1 J (zz (zy (z1 J (zz (Qd ?_)))))));refine Qc (z4 J J J (z0 J ?_));refine zx (Qj J J (hz1) J) J ?_;refine z1 J (zz (Qd (zy (z0 J (Za J (zz (Ql J (Qh ?_))))))));refine Qz (zy (z4 J J J ?_));refine AL.weak (st' := (⟨_,[(1,.o (.c (.ptr 0 0))),(12,.o (.ag ((Enc.e x).map (V1.rd []))))],[.box ((Enc.e x).map (V1.rd []))]⟩ : St)) (Zj [0]) ?_;refine M1 (q_call J J (ht1) J J J) J J ?_;refine AL.weak (st' := (⟨_,[(1,.o (.c (.ptr 0 0))),(13,.o (.ag [.ref 1,iv x.Players,iv x.Seed,iv x.Every,.ref 2,.ref 3]))],[.box ((Enc.e x).map (V1.rd [])),.row 1 (els x.Level.Rows),.row 1 (els x.Rows),.row 1 (els x.Keys)]⟩ : St)) (Zj [0,1,2,3]) ?_;refine zx (Qj J J (hsp) J) J ?_;refine z1 J (zz (zy (z4 J J J ?_)));refine AL.weak (st' := (⟨_,[(1,.o (.c (.ptr 0 0))),(4,S y),(15,.o (.ag ((Enc.e x).map (V1.rd []))))],[.box ((Enc.e x).map (V1.rd []))]⟩ : St)) (Zj [0]) ?_;refine M1 (q_call J J (ht1) J J J) J J ?_;refine M1 (Qx J J J) J J ?_;refine Qy J J J J J J J J J (zz (zy (z4 J J J ?_)));refine AL.weak (st' := (⟨_,[(1,.o (.c (.ptr 0 0))),(4,S y),(5,.o (.c (.ptr 4 0))),(17,.o (.ag [.ref 1,iv x.Players,iv x.Seed,iv x.Every,.ref 2,.ref 3]))],[.box ((Enc.e x).map (V1.rd [])),.row 1 (els x.Level.Rows),.row 1 (els x.Rows),.row 1 (els x.Keys),.box [.ref 1,iv x.Players,iv x.Seed,iv x.Every,.ref 2,.ref 3]]⟩ : St)) (Zj [0,1,2,3,4]) ?_;refine zx (Qj J J (hip) J) J ?_;refine z1 J (zz (Qd (zy (z0 J (z0 J (zx (q_sneqR J J J J) J (zz (Ql J ?_))))))));refine Qh (Qz (Qd (Qd ?_)))
 refine AWP.pre (st' := (⟨_,[(1,.o (.c (.ptr 0 0))),(5,.o (.c (.ptr 4 0)))],[.box ((Enc.e x).map (V1.rd [])),.row 1 (els x.Level.Rows),.row 1 (els x.Rows),.row 1 (els x.Keys),.box [.ref 1,iv x.Players,iv x.Seed,iv x.Every,.ref 2,.ref 3]]⟩ : St)) ?_ (Zj [0,1,2,3,4])
 refine Xb [[],[],[1],[0,1,2],(u9 4)] [[],[],[23],[22,23,24],[22,23,24,25]] [[23,24],[22],[22],[],[]] J (Yf (Qu J J J J J J) J (Yf (Qu J J J J J J) J ?_));refine Yf (q_call J J (ht1) J J J) J ?_;refine Yf (Qj J J (hq1) J) J ?_;refine Yf (Q3 J J J) J (Ye (zz ?_))
 refine AWP.pre (st' := (⟨_,[(26,B false)],[]⟩ : St)) ?_ (Zj [])
 refine Ql J (Qh (Qz (zy (z1 J (zz (Q6 (F_r ?_)))))))
 exact Y5 J (Y6 [] J J J)
end
section
open Go.ChangeShapes Go.WideShapes Go.ChangeAt Go.RowKit

def RL (w : World) (ts : List T) (cs : List Value) : Prop := ∀ (j : Nat) (t : T) (u : Value),ts[j]? = some t → cs[j]? = some u → RO w (fun _ => True) t u
theorem RL.nil {w : World} {cs : List Value} : RL w [] cs := fun _ _ _ h => by simp at h
theorem RL.app {w : World} {ts us : List T} {cs : List Value} {o n : Nat} (h1 : RL w ts ((cs.drop o).take n)) (hn : ts.length = n) (h2 : RL w us (cs.drop (o + n))) : RL w (ts ++ us) (cs.drop o) := fun j t u h3 h4 => by
 rcases Nat.lt_or_ge j ts.length with hj | hj
 ·rw [List.getElem?_append_left hj] at h3
  exact h1 j t u h3 (by rw [List.getElem?_take,if_pos (by omega)]; exact h4)
 ·rw [List.getElem?_append_right hj] at h3
  refine h2 (j - ts.length) t u h3 ?_
  rw [List.getElem?_drop] at h4 ⊢
  rw [← h4]
  congr 1
  omega
theorem X8 {P : Program} {t tt : TypeId} {fs : Array Field} {f : Field} {α : Type} [Enc α] {H : Type} {enc : TypeId × Value → H} {w : World} {spare : Nat → Bool} {held : Bool} {fuel : Nat} {cs : List Value} {x : DataW H × List MemPlace}
  (ht : P.underlying t = some (.struct fs)) (h : DataW.trod enc P w 0 spare held fuel t cs = some x) (i : Nat) (hf : fs[i]? = some f) (hty : f.type = tt) [hα : RdOf P tt α] {o : Nat} (ho : f.offset = o) :
  ∃ y : α,Enc.gd y ∧ RL w (Enc.e y) ((cs.drop o).take (Enc.k α)) := by
 obtain ⟨xs,n,_,_,hl,hlen,hfs⟩ := DataW.trod_struct ht h
 have h1 := hfs i f hf
 have hi : i < fs.size := by
  rcases Nat.lt_or_ge i fs.size with h2 | h2
  ·exact h2
  ·rw [Array.getElem?_eq_none h2] at hf; cases hf
 rw [List.getElem?_eq_getElem (by omega),hty,ho,hα.size] at h1
 obtain ⟨y,hg,hr⟩ := hα.of h1
 exact ⟨y,hg,hr.2⟩
theorem reads_len {P : Program} {t : TypeId} {fs : Array Field} {H : Type} {enc : TypeId × Value → H} {w : World} {spare : Nat → Bool} {held : Bool} {fuel : Nat} {cs : List Value} {x : DataW H × List MemPlace}
  (ht : P.underlying t = some (.struct fs)) (h : DataW.trod enc P w 0 spare held fuel t cs = some x) : cs.length = P.cellsOf t := by
 obtain ⟨xs,n,_,_,hl,_⟩ := DataW.trod_struct ht h
 exact hl

instance : RdOf Try.prog 3 Int := rdOf_int Try.underlying3 (by kernel_rfl)
instance : RdOf Try.prog 9 ByteArray := rdOf_string Try.underlying9 (by kernel_rfl)
instance : RdOf Try.prog 43 (List Int) := rdOf_slice Try.underlying43 (by kernel_rfl)
instance : RdOf Try.prog 22 (List ByteArray) := rdOf_slice Try.underlying22 (by kernel_rfl)
instance : RdOf Try.prog 25 (List (List Int)) := rdOf_slice Try.underlying25 (by kernel_rfl)
instance : RdOf Try.prog 24 TLevel where
 size := by kernel_rfl
 of {H enc w spare held fuel cs x} h := by
  obtain ⟨y0,g0,r0⟩ := X8 (α := (List ByteArray)) (tt := 22) Try.underlying24 h 0 rfl rfl rfl
  refine ⟨⟨y0⟩,g0,?_,?_⟩
  ·rw [reads_len Try.underlying24 h]; kernel_rfl
  ·exact (RL.app (o := 0) (n := 1) r0 rfl (RL.nil) : RL w _ (cs.drop 0))
instance : RdOf Try.prog 27 TReplay where
 size := by kernel_rfl
 of {H enc w spare held fuel cs x} h := by
  obtain ⟨y0,g0,r0⟩ := X8 (α := TLevel) (tt := 24) Try.underlying27 h 0 rfl rfl rfl
  obtain ⟨y1,g1,r1⟩ := X8 (α := Int) (tt := 3) Try.underlying27 h 1 rfl rfl rfl
  obtain ⟨y2,g2,r2⟩ := X8 (α := Int) (tt := 3) Try.underlying27 h 2 rfl rfl rfl
  obtain ⟨y3,g3,r3⟩ := X8 (α := Int) (tt := 3) Try.underlying27 h 3 rfl rfl rfl
  obtain ⟨y4,g4,r4⟩ := X8 (α := (List (List Int))) (tt := 25) Try.underlying27 h 4 rfl rfl rfl
  obtain ⟨y5,g5,r5⟩ := X8 (α := (List ByteArray)) (tt := 22) Try.underlying27 h 5 rfl rfl rfl
  refine ⟨⟨y0,y1,y2,y3,y4,y5⟩,⟨g0,g1,g2,g3,g4,g5⟩,?_,?_⟩
  ·rw [reads_len Try.underlying27 h]; kernel_rfl
  ·exact (RL.app (o := 0) (n := 1) r0 rfl (RL.app (o := 1) (n := 1) r1 rfl (RL.app (o := 2) (n := 1) r2 rfl (RL.app (o := 3) (n := 1) r3 rfl (RL.app (o := 4) (n := 1) r4 rfl (RL.app (o := 5) (n := 1) r5 rfl (RL.nil)))))) : RL w _ (cs.drop 0))
end
end Go.Proofs.Ytmaiojglkojecaa
