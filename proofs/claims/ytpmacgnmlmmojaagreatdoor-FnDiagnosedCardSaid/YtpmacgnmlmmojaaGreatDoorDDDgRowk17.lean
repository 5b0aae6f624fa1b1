/-
  Parts of the proof (rules, data, and what functions of the program and of the reference return), among them: Steering and moving a body, in the program and in the reference; Moving a body, in the program and in the reference.
  Conditions: those that each theorem names.
-/
import Derived.Test.YtpmacgnmlmmojaaGreatDoorDDDgRowk13
import Derived.Test.YtpmacgnmlmmojaaGreatDoorDDDgRowk14
import Derived.Test.YtpmacgnmlmmojaaGreatDoorDDDgRowk15
import Derived.Test.YtpmacgnmlmmojaaGreatDoorDDDgRowk16
set_option linter.unusedSimpArgs false
set_option linter.unusedVariables false
set_option maxRecDepth 8000
set_option maxHeartbeats 8000000
namespace Go.Proofs.YtpmacgnmlmmojaaGreatDoor
section
open Go.RowKit

theorem openF_35 {rows : List ByteArray} {row : ByteArray} {r c : Nat} (h : byteAt row c = 35) : openF rows row r c = openF rows row r (c + 1) := by
 cases ho : openF rows row r c with
 | some x => rw [Y9 ho]
 | none => rw [Za ho,if_pos h]
theorem tu2 {x y x' y' : Int} (h1 : x = x') (h2 : y = y') : V.tu [.c (jn x),.c (jn y)] = V.tu [.c (jn x'),.c (jn y')] := by rw [h1,h2]
theorem I_StartOf (l : TLevel) (p : Int) (hg : Enc.gd l) (hl : levelOk l = true) (hp : 0 ≤ p ∧ p ≤ 3) : Con Tryz.prog 191 [] [ag l,ai p] [] (.tu [.c (jn (spX (startT l p))),.c (jn (spY (startT l p)))]) := by
 have hc := Xr l hg
 rw [hl] at hc
 have hlr := Ym l.Rows
 have hx : l.Rows.length ≤ 9223372036854775807 := hg.1
 obtain ⟨l3,l12,w,w4,w20,hw⟩ := Y2 hl
 have b1 : decide (p < 0) = false := decide_eq_false (by omega)
 have b2 : decide (p ≥ 4) = false := decide_eq_false (by omega)
 refine Con.of Tryz.func191 J Tryz.ntmps191 J (fun E => ?_)
 refine Wz [26,72,56,10,16,95,8,30,27,6] ?_;refine zx (Qj J J (hc) J) J ?_;refine Wz [6,14,8,35,11,11,20,5,12,78,13] ?_;refine Xi (fun m st => ∃ r : Nat,r + m = l.Rows.length ∧ (tileF (isDig p) l.Rows r = none) ∧ st = (⟨_,[(1,I p),(2,.o (.c (.ptr 0 0))),(6,I (spX (tileF isOpen l.Rows r))),(7,I (spY (tileF isOpen l.Rows r))),(23,L l.Rows),(24,I (els l.Rows).length),(25,I r)],[.box ((Enc.e l).map (V1.rd []))]⟩ : St)) (l.Rows.length) ⟨_,⟨0,by omega,J,J⟩,X7 [0] (by kernel_rfl)⟩ ?_
 rintro m_A _ ⟨r,hk_A,hp_A,rfl⟩
 refine Wz [4,48,21] ?_
 refine Xb J (fun h => ?_) (fun h => ?_)
 ·have h3 : r < l.Rows.length := by have := of_decide_eq_true h; omega
  have hat := Yl h3
  have hwr := hw r h3
  have hrow := List.getElem?_eq_getElem h3
  generalize l.Rows[r] = row at hat hwr hrow
  refine Wz [52,61,72,2,11,13] ?_;refine Xi (fun m st => ∃ c : Nat,c + m = row.size ∧ (colF (isDig p) row c = none) ∧ st = (⟨_,[(1,I p),(2,.o (.c (.ptr 0 0))),(6,I (spX (openF l.Rows row r c))),(7,I (spY (openF l.Rows row r c))),(8,I r),(9,S row),(10,I c),(23,L l.Rows),(24,I (els l.Rows).length),(25,I r)],[.box ((Enc.e l).map (V1.rd []))]⟩ : St)) (row.size) ⟨(fun c : Nat => (⟨_,[(1,I p),(2,.o (.c (.ptr 0 0))),(6,I (spX (openF l.Rows row r c))),(7,I (spY (openF l.Rows row r c))),(8,I r),(9,S row),(10,I c),(23,L l.Rows),(24,I (els l.Rows).length),(25,I r)],[.box ((Enc.e l).map (V1.rd []))]⟩ : St)) 0,⟨0,by omega,J,J⟩,X8 [0] (by decide) J (by kernel_rfl) (.c J (.c J (.cons (Xy (by rw [openF_zero])) (.cons (Xy (by rw [openF_zero])) (.c J (.c J (.c J (.c J (.c J (.c J (.nil)))))))))))⟩ ?_
  rintro m_D _ ⟨c,hk_D,hp_D,rfl⟩
  refine Wz [36,80,48,1] ?_
  refine Xb J (fun h4 => ?_) (fun h4 => ?_)
  ·have h4 : c < row.size := by have := of_decide_eq_true h4; omega
   have hbt := Yh row c
   have hbt2 := Yh row (c : Int).toNat
   by_cases hd : byteAt row c = 49 + p
   ·have hb : decide (byteAt row (c : Int).toNat = 49 + p) = true := decide_eq_true hd
    rw [start_dig hp_A hrow hp_D h4 hd]
    clear hd
    refine Wz [29,36,106,89,161,19,9,7,92,71,0,92,71,72,2,75,83,121,63,25] ?_
    exact E_tmp2 J J J (X6 [] (by decide) J J (tu2 (show (c : Int) * 16 + 2 = 16 * (c : Int) + 2 by omega) (show (r : Int) * 16 + 2 = 16 * (r : Int) + 2 by omega)))
   have hb : decide (byteAt row (c : Int).toNat = 49 + p) = false := decide_eq_false hd
   have hnd := colF_step hp_D (show isDig p (byteAt row c) = false from decide_eq_false hd)
   by_cases h35 : byteAt row c = 35
   ·have hb3 : decide (byteAt row (c : Int).toNat ≠ 35) = false := decide_eq_false (fun q => q h35)
    have hnx : spX (openF l.Rows row r c) = spX (openF l.Rows row r (c + 1)) := by rw [openF_35 h35]
    have hny : spY (openF l.Rows row r c) = spY (openF l.Rows row r (c + 1)) := by rw [openF_35 h35]
    clear h35
    refine Wz [29,36,106,89,161,19,35,39,106,69,44,8,45,50] ?_
    exact ⟨row.size - (c + 1),by omega,(fun c : Nat => (⟨_,[(1,I p),(2,.o (.c (.ptr 0 0))),(6,I (spX (openF l.Rows row r c))),(7,I (spY (openF l.Rows row r c))),(8,I r),(9,S row),(10,I c),(23,L l.Rows),(24,I (els l.Rows).length),(25,I r)],[.box ((Enc.e l).map (V1.rd []))]⟩ : St)) (c + 1),⟨c + 1,by omega,hnd,J⟩,X8 [0] (by decide) J (by kernel_rfl) (.c J (.c J (.cons (Xy hnx) (.cons (Xy hny) (.c J (.c J (.c J (.c J (.c J (.c J (.nil)))))))))))⟩
   have hb3 : decide (byteAt row (c : Int).toNat ≠ 35) = true := decide_eq_true h35
   have h35' := h35
   cases ho : openF l.Rows row r c with
   | some x =>
    have hlt : decide (spX (openF l.Rows row r c) < 0) = false := decide_eq_false (by rw [spX_neg,ho]; simp)
    have hnx : spX (some x) = spX (openF l.Rows row r (c + 1)) := by rw [Y9 ho]
    have hny : spY (some x) = spY (openF l.Rows row r (c + 1)) := by rw [Y9 ho]
    rw [ho] at hlt
    refine Wz [29,36,106,89,161,19,35,39,106,69,16,10,24,45,50] ?_
    exact ⟨row.size - (c + 1),by omega,(fun c : Nat => (⟨_,[(1,I p),(2,.o (.c (.ptr 0 0))),(6,I (spX (openF l.Rows row r c))),(7,I (spY (openF l.Rows row r c))),(8,I r),(9,S row),(10,I c),(23,L l.Rows),(24,I (els l.Rows).length),(25,I r)],[.box ((Enc.e l).map (V1.rd []))]⟩ : St)) (c + 1),⟨c + 1,by omega,hnd,J⟩,X8 [0] (by decide) J (by kernel_rfl) (.c J (.c J (.cons (Xy hnx) (.cons (Xy hny) (.c J (.c J (.c J (.c J (.c J (.c J (.nil)))))))))))⟩
   | none =>
    have hlt : decide (spX none < 0) = true := rfl
    have hnx : (c : Int) * 16 + 2 = spX (openF l.Rows row r (c + 1)) := by rw [Za ho,if_neg h35']; show (c : Int) * 16 + 2 = 16 * (c : Int) + 2; omega
    have hny : (r : Int) * 16 + 2 = spY (openF l.Rows row r (c + 1)) := by rw [Za ho,if_neg h35']; show (r : Int) * 16 + 2 = 16 * (r : Int) + 2; omega
    refine Wz [29,36,106,89,161,19,35,39,106,69,16,10,24,9,7,92,71,2,49,92,71,51,50] ?_
    exact ⟨row.size - (c + 1),by omega,(fun c : Nat => (⟨_,[(1,I p),(2,.o (.c (.ptr 0 0))),(6,I (spX (openF l.Rows row r c))),(7,I (spY (openF l.Rows row r c))),(8,I r),(9,S row),(10,I c),(23,L l.Rows),(24,I (els l.Rows).length),(25,I r)],[.box ((Enc.e l).map (V1.rd []))]⟩ : St)) (c + 1),⟨c + 1,by omega,hnd,J⟩,X8 [0] (by decide) J (by kernel_rfl) (.c J (.c J (.cons (Xy hnx) (.cons (Xy hny) (.c J (.c J (.c J (.c J (.c J (.c J (.nil)))))))))))⟩
  ·have h4 : c = row.size := by have := of_decide_eq_false h4; omega
   subst h4
   refine Wz [136,38] ?_
   exact ⟨l.Rows.length - (r + 1),by omega,(fun r : Nat => (⟨_,[(1,I p),(2,.o (.c (.ptr 0 0))),(6,I (spX (tileF isOpen l.Rows r))),(7,I (spY (tileF isOpen l.Rows r))),(23,L l.Rows),(24,I (els l.Rows).length),(25,I r)],[.box ((Enc.e l).map (V1.rd []))]⟩ : St)) (r + 1),⟨r + 1,by omega,tileF_step hp_A hrow hp_D,J⟩,X8 [0] (by decide) J (by kernel_rfl) (.c J (.c J (.cons (Xy (by rw [← openF_end hrow])) (.cons (Xy (by rw [← openF_end hrow])) (.c J (.c J (.c J (.nil))))))))⟩
 ·have h3 : r = l.Rows.length := by have := of_decide_eq_false h; omega
  rw [start_open hp_A h3]
  refine Wz [32,39,72,34] ?_
  exact E_tmp2 J J J (X6 [] (by decide) J J J)
theorem S_StartOf (l : TLevel) (p : Int) (hg : Enc.gd l) (hl : levelOk l = true) (hp : 0 ≤ p ∧ p ≤ 3) : Con Tryz.prog 188 [] [ag l,ai p] [] (.tu [.c (jn (spX (startT l p))),.c (jn (spY (startT l p)))]) := by
 have hc := S_LevelOk l hg
 rw [hl] at hc
 have hlr := Ym l.Rows
 have hx : l.Rows.length ≤ 9223372036854775807 := hg.1
 obtain ⟨l3,l12,w,w4,w20,hw⟩ := Y2 hl
 have hci := S_in p 0 3
 rw [Y0.2 hp] at hci
 refine Con.of Tryz.func188 J Tryz.ntmps188 J (fun E => ?_)
 refine Wz [26,72,2,11,11,20,15] ?_;refine zx (Qj J J (hc) J) J ?_;refine Wz [14,16] ?_;refine zx (Qj J J (hci) J) J ?_;refine Wz [6,14,8,60,70,11,13] ?_;refine Xi (fun m st => ∃ r : Nat,r + m = l.Rows.length ∧ (tileF (isDig p) l.Rows r = none) ∧ st = (⟨_,[(1,I p),(2,.o (.c (.ptr 0 0))),(6,I (spX (tileF isOpen l.Rows r))),(7,I (spY (tileF isOpen l.Rows r))),(8,I r)],[.box ((Enc.e l).map (V1.rd []))]⟩ : St)) (l.Rows.length) ⟨_,⟨0,by omega,J,J⟩,X7 [0] (by kernel_rfl)⟩ ?_
 rintro m_A _ ⟨r,hk_A,hp_A,rfl⟩
 refine Wz [28,17,12,48,1] ?_
 refine Xb J (fun h => ?_) (fun h => ?_)
 ·have h3 : r < l.Rows.length := by have := of_decide_eq_true h; omega
  have hat := Yl h3
  have hwr := hw r h3
  have hrow := List.getElem?_eq_getElem h3
  generalize l.Rows[r] = row at hat hwr hrow
  refine Wz [29,11,13] ?_;refine Xi (fun m st => ∃ c : Nat,c + m = row.size ∧ (colF (isDig p) row c = none) ∧ st = (⟨_,[(1,I p),(2,.o (.c (.ptr 0 0))),(6,I (spX (openF l.Rows row r c))),(7,I (spY (openF l.Rows row r c))),(8,I r),(9,I c)],[.box ((Enc.e l).map (V1.rd []))]⟩ : St)) (row.size) ⟨(fun c : Nat => (⟨_,[(1,I p),(2,.o (.c (.ptr 0 0))),(6,I (spX (openF l.Rows row r c))),(7,I (spY (openF l.Rows row r c))),(8,I r),(9,I c)],[.box ((Enc.e l).map (V1.rd []))]⟩ : St)) 0,⟨0,by omega,J,J⟩,X8 [0] (by decide) J (by kernel_rfl) (.c J (.c J (.cons (Xy (by rw [openF_zero])) (.cons (Xy (by rw [openF_zero])) (.c J (.c J (.nil)))))))⟩ ?_
  rintro m_D _ ⟨c,hk_D,hp_D,rfl⟩
  refine Wz [28,17,0,61,80,48,1] ?_
  refine Xb J (fun h4 => ?_) (fun h4 => ?_)
  ·have h4 : c < row.size := by have := of_decide_eq_true h4; omega
   have hbt := Yh row c
   have hbt2 := Yh row (c : Int).toNat
   by_cases hd : byteAt row c = 49 + p
   ·have hb : decide (byteAt row (c : Int).toNat - 49 = p) = true := decide_eq_true (by show byteAt row c - 49 = p; omega)
    have hb3 : decide (byteAt row (c : Int).toNat ≠ 35) = true := decide_eq_true (by show byteAt row c ≠ 35; omega)
    rw [start_dig hp_A hrow hp_D h4 hd]
    clear hd
    cases ho : openF l.Rows row r c with
    | some x =>
     have hlt : decide (spX (openF l.Rows row r c) < 0) = false := decide_eq_false (by rw [spX_neg,ho]; simp)
     rw [ho] at hlt
     refine Wz [29,5,0,61,0,106,56,69,16,10,24,16,135,6,73,6,30,19,8,9,7,92,71,2,49,92,71,2,7,135,73,0,19,9,39,72,2,75,63,63,25] ?_
     exact E_tmp2 J J J (X6 [] (by decide) J J J)
    | none =>
     have hlt : decide (spX none < 0) = true := rfl
     refine Wz [29,5,0,61,0,106,56,69,16,10,24,44,53,84,24,9,7,92,71,2,49,92,71,2,7,135,73,0,19,9,39,72,2,75,63,63,25] ?_
     exact E_tmp2 J J J (X6 [] (by decide) J J J)
   have hb : decide (byteAt row (c : Int).toNat - 49 = p) = false := decide_eq_false (by show ¬ byteAt row c - 49 = p; omega)
   have hnd := colF_step hp_D (show isDig p (byteAt row c) = false from decide_eq_false hd)
   by_cases h35 : byteAt row c = 35
   ·have hb3 : decide (byteAt row (c : Int).toNat ≠ 35) = false := decide_eq_false (fun q => q h35)
    have hnx : spX (openF l.Rows row r c) = spX (openF l.Rows row r (c + 1)) := by rw [openF_35 h35]
    have hny : spY (openF l.Rows row r c) = spY (openF l.Rows row r (c + 1)) := by rw [openF_35 h35]
    clear h35
    refine Wz [29,5,0,61,0,106,56,69,44,8,16,135,6,73,6,30,19,8,35,7,135,73,0,19,45,50] ?_
    exact ⟨row.size - (c + 1),by omega,(fun c : Nat => (⟨_,[(1,I p),(2,.o (.c (.ptr 0 0))),(6,I (spX (openF l.Rows row r c))),(7,I (spY (openF l.Rows row r c))),(8,I r),(9,I c)],[.box ((Enc.e l).map (V1.rd []))]⟩ : St)) (c + 1),⟨c + 1,by omega,hnd,J⟩,X8 [0] (by decide) J (by kernel_rfl) (.c J (.c J (.cons (Xy hnx) (.cons (Xy hny) (.c J (.c J (.nil)))))))⟩
   have hb3 : decide (byteAt row (c : Int).toNat ≠ 35) = true := decide_eq_true h35
   have h35' := h35
   cases ho : openF l.Rows row r c with
   | some x =>
    have hlt : decide (spX (openF l.Rows row r c) < 0) = false := decide_eq_false (by rw [spX_neg,ho]; simp)
    have hnx : spX (some x) = spX (openF l.Rows row r (c + 1)) := by rw [Y9 ho]
    have hny : spY (some x) = spY (openF l.Rows row r (c + 1)) := by rw [Y9 ho]
    rw [ho] at hlt
    refine Wz [29,5,0,61,0,106,56,69,16,10,24,16,135,6,73,6,30,19,8,35,7,135,73,0,19,45,50] ?_
    exact ⟨row.size - (c + 1),by omega,(fun c : Nat => (⟨_,[(1,I p),(2,.o (.c (.ptr 0 0))),(6,I (spX (openF l.Rows row r c))),(7,I (spY (openF l.Rows row r c))),(8,I r),(9,I c)],[.box ((Enc.e l).map (V1.rd []))]⟩ : St)) (c + 1),⟨c + 1,by omega,hnd,J⟩,X8 [0] (by decide) J (by kernel_rfl) (.c J (.c J (.cons (Xy hnx) (.cons (Xy hny) (.c J (.c J (.nil)))))))⟩
   | none =>
    have hlt : decide (spX none < 0) = true := rfl
    have hnx : 16 * (c : Int) + 2 = spX (openF l.Rows row r (c + 1)) := by rw [Za ho,if_neg h35']; rfl
    have hny : 16 * (r : Int) + 2 = spY (openF l.Rows row r (c + 1)) := by rw [Za ho,if_neg h35']; rfl
    refine Wz [29,5,0,61,0,106,56,69,16,10,24,44,53,84,24,9,7,92,71,2,49,92,71,2,7,135,73,0,19,45,50] ?_
    exact ⟨row.size - (c + 1),by omega,(fun c : Nat => (⟨_,[(1,I p),(2,.o (.c (.ptr 0 0))),(6,I (spX (openF l.Rows row r c))),(7,I (spY (openF l.Rows row r c))),(8,I r),(9,I c)],[.box ((Enc.e l).map (V1.rd []))]⟩ : St)) (c + 1),⟨c + 1,by omega,hnd,J⟩,X8 [0] (by decide) J (by kernel_rfl) (.c J (.c J (.cons (Xy hnx) (.cons (Xy hny) (.c J (.c J (.nil)))))))⟩
  ·have h4 : c = row.size := by have := of_decide_eq_false h4; omega
   subst h4
   refine Wz [136,50] ?_
   exact ⟨l.Rows.length - (r + 1),by omega,(fun r : Nat => (⟨_,[(1,I p),(2,.o (.c (.ptr 0 0))),(6,I (spX (tileF isOpen l.Rows r))),(7,I (spY (tileF isOpen l.Rows r))),(8,I r)],[.box ((Enc.e l).map (V1.rd []))]⟩ : St)) (r + 1),⟨r + 1,by omega,tileF_step hp_A hrow hp_D,J⟩,X8 [0] (by decide) J (by kernel_rfl) (.c J (.c J (.cons (Xy (by rw [← openF_end hrow])) (.cons (Xy (by rw [← openF_end hrow])) (.c J (.nil))))))⟩
 ·have h3 : r = l.Rows.length := by have := of_decide_eq_false h; omega
  rw [start_open hp_A h3]
  refine Wz [32,39,72,34] ?_
  exact E_tmp2 J J J (X6 [] (by decide) J J J)
end
section
open Go.RowKit

theorem I_fresh (l : TLevel) (p : Int) (hg : Enc.gd l) (hl : levelOk l = true) (hp : 0 ≤ p ∧ p ≤ 3) : Con Tryz.prog 118 [] [ag l,ai p] [] (.o (.ag ((Enc.e (fresh l p)).map (V1.rd [])))) := by
 have hc := I_StartOf l p hg hl hp
 refine Con.of Tryz.func118 J Tryz.ntmps118 J (fun E => ?_)
 refine Wz [26,18,1,15,0] ?_;refine M1 (Zk J J (hc) J J J) J J ?_;refine Wz [88,42,42,72,2,39,0,108,37,67] ?_
 exact Xl J J J J (X6 [] (by decide) J J J)
theorem S_fresh (l : TLevel) (p : Int) (hg : Enc.gd l) (hl : levelOk l = true) (hp : 0 ≤ p ∧ p ≤ 3) : Con Tryz.prog 114 [] [ag l,ai p] [] (.o (.ag ((Enc.e (fresh l p)).map (V1.rd [])))) := by
 have hc := S_StartOf l p hg hl hp
 refine Con.of Tryz.func114 J Tryz.ntmps114 J (fun E => ?_)
 refine Wz [26,18,1,15,0] ?_;refine M1 (Zk J J (hc) J J J) J J ?_;refine Wz [88,42,42,72,2,39,0,108,37,67] ?_
 exact Xl J J J J (X6 [] (by decide) J J J)
theorem row6w {a b c d e : Ob} {k : Nat} {x y : List (List T)} (h : x = y) : [a,b,c,d,e,Ob.row k x] = [a,b,c,d,e,Ob.row k y] := by rw [h]
def freshs (l : TLevel) (k : Nat) : List TBody := (List.range k).map fun (k : Nat) => fresh l (k : Int)
theorem freshs_succ (l : TLevel) (k : Nat) : freshs l (k + 1) = freshs l k ++ [fresh l k] := by simp [freshs,List.range_succ]
theorem freshs_len (l : TLevel) (k : Nat) : (freshs l k).length = k := by simp [freshs]
theorem zeros_els (n : Nat) : els (List.replicate n (0 : Int)) = List.replicate n [.v (.int .i64 0)] := by simp [els,Enc.e]
theorem newWorld_gd {l : TLevel} {n : Nat} {seed : Int} (hg : Enc.gd l) (hl : levelOk l = true) (hn : 1 ≤ n ∧ n ≤ 4) (hs : inR seed 0 65535 = true) : Enc.gd (newWorld l n seed) := by
 have h0 : I64 0 := ⟨by decide,by decide⟩
 have hsd := Y0.1 hs
 refine ⟨hg,h0,⟨by show (-9223372036854775808 : Int) ≤ seed; omega,by show seed ≤ 9223372036854775807; omega⟩,⟨by simp [newWorld]; omega,fun x hx => ?_⟩,⟨by simp [newWorld]; omega,fun b hb => ?_⟩⟩
 ·have : x = 0 := by simpa [newWorld] using List.eq_of_mem_replicate hx
  rw [this]; exact h0
 ·simp only [newWorld,List.mem_map,List.mem_range] at hb
  obtain ⟨k,hk,rfl⟩ := hb
  obtain ⟨_,h3,h4⟩ := fresh_free hl (p := (k : Int)) (by omega)
  exact ⟨h0,⟨by show (-9223372036854775808 : Int) ≤ (k : Int); omega,by show (k : Int) ≤ 9223372036854775807; omega⟩,⟨by omega,by omega⟩,⟨by omega,by omega⟩,h0,h0,⟨by simp only [fresh]; omega,by simp only [fresh]; omega⟩,⟨by simp only [fresh]; omega,by simp only [fresh]; omega⟩,h0⟩
theorem I_NewWorld (l : TLevel) (n : Nat) (seed : Int) (hg : Enc.gd l) (hL : l.Rows.length ≤ 1048576) (hl : levelOk l = true) (hn : 1 ≤ n ∧ n ≤ 4) (hs : inR seed 0 65535 = true) : Con Tryz.prog 39 [] [ag l,ai n,ai seed] (ownO (Enc.e (newWorld l n seed))) (.tu [.ag (ownV 0 (Enc.e (newWorld l n seed))),.c (bv true)]) := by
 have c1 := Xr l hg
 have c2 := Xw n 1 4
 have c3 := Xw seed 0 65535
 rw [hl] at c1
 rw [Y0.2 (by omega)] at c2
 rw [hs] at c3
 have hwk := Xv (newWorld l n seed) (newWorld_gd hg hl hn hs)
 rw [newWorld_ok hl hn hs] at hwk
 have hcl := I_copyLevel l hg hL
 refine Con.of Tryz.func39 J Tryz.ntmps39 J (fun E => ?_)
 refine Wz [26,18,22,15] ?_;refine zx (Qj J J (c1) J) J ?_;refine Wz [14,16] ?_;refine zx (Qj J J (c2) J) J ?_;refine Wz [6,14,8,16] ?_;refine zx (Qj J J (c3) J) J ?_;refine Wz [6,14,8,60,70] ?_
 refine AWP.pre (st' := (⟨_,[(1,I n),(2,I seed),(3,.o (.c (.ptr 0 0))),(6,.o (.c (.ptr 1 0)))],[.box ((Enc.e l).map (V1.rd [])),.box [nilV,jn 0,jn 0,nilV,nilV]]⟩ : St)) ?_ (X7 [0,1] (by kernel_rfl))
 skip
 refine Xh [[],[0],[],[],[3],(u9 5),[],(u9 7)] [[],[24],[],[],[27],[24,25,26,27,28],[],[8,24,25,26,27,28,29]] [[8,26,27,28],[8,26,27,28],[8,24,25,27,28],[8,24,25,26],[8,24,25,26],[8],[24,25,26,27,28,29],[]] J (DR.s (Qu J J J J J J) J J ?_);refine DR.s (Zk J J (hcl) J J J) J J ?_;refine Wz [3,3] ?_;refine DR.s (q_make 0 J J J J (by omega) (by omega) (by omega) J (by decide)) J J ?_;refine DR.s (Zh J J J J J) J J (DR.s (Qx J J J) J J (DR.stop (by kernel_rfl) (by kernel_rfl) ?_))
 refine AL.weak (st' := (⟨_,[(1,I n),(3,.o (.c (.ptr 0 0))),(6,.o (.c (.ptr 1 0))),(8,.o (.c (.ptr 4 0))),(29,.o (.ag [.ref 2,jn 0,jn seed,.ref 3,nilV]))],[.box ((Enc.e l).map (V1.rd [])),.box [nilV,jn 0,jn 0,nilV,nilV],.row 1 (els l.Rows),.row 1 (els (List.replicate n (0 : Int))),.box [nilV,jn 0,jn 0,nilV,nilV]]⟩ : St)) (by rw [zeros_els]; exact X7 [0,1,2,3,4] (by kernel_rfl)) ?_
 refine Wz [40,21,11,13] ?_
 refine AWP.pre (st' := (⟨_,[(1,I n),(3,.o (.c (.ptr 0 0))),(6,.o (.c (.ptr 1 0))),(8,.o (.c (.ptr 4 0))),(9,I 0)],[.box ((Enc.e l).map (V1.rd [])),.box [nilV,jn 0,jn 0,nilV,nilV],.row 1 (els l.Rows),.row 1 (els (List.replicate n (0 : Int))),.box [.ref 2,jn 0,jn seed,.ref 3,nilV]]⟩ : St)) ?_ (X7 [0,1,2,3,4] (by kernel_rfl))
 refine AWP.pre ?_ (Wk.nilbox (p := 4) (i := 4) 9 J J)
 refine Xi (fun m st => ∃ k : Nat,k + m = n ∧ (True) ∧ st = (⟨_,[(1,I n),(3,.o (.c (.ptr 0 0))),(6,.o (.c (.ptr 1 0))),(8,.o (.c (.ptr 4 0))),(9,I k)],[.box ((Enc.e l).map (V1.rd [])),.box [nilV,jn 0,jn 0,nilV,nilV],.row 1 (els l.Rows),.row 1 (els (List.replicate n (0 : Int))),.box [.ref 2,jn 0,jn seed,.ref 3,.ref 5],.row 9 (els (freshs l k))]⟩ : St)) (n) ⟨_,⟨0,by omega,trivial,J⟩,X7 [0,1,2,3,4,5] (by kernel_rfl)⟩ ?_
 rintro m_A _ ⟨k,hk_A,hp_A,rfl⟩
 have hlk := Ym (freshs l k)
 have hlk2 := freshs_len l k
 refine Wz [36,48,1] ?_
 refine Xb J (fun h => ?_) (fun h => ?_)
 ·have h3 : k < n := by have := of_decide_eq_true h; omega
  have hf := I_fresh l k hg hl (by omega)
  refine Wz [29] ?_;refine Xh u8_6 [[],[35],[],[],[37,38],[37,38,39],[35,36,37,38,39,40],[35,36,37,38,39,40,41],[35,36,37,38,39,40,41,42]] [[37,38,39,40],[37,38,39,40],[35,36,38],[35,36,37],[35,36],[35,36],[],[],[]] J ?_;refine Wz [33,100,3] ?_;refine DR.s (Zk J J (hf) J J J) J J ?_;refine Wz [168,31] ?_;refine AL.weak (st' := (⟨_,[(1,I n),(3,.o (.c (.ptr 0 0))),(6,.o (.c (.ptr 1 0))),(8,.o (.c (.ptr 4 0))),(9,I k),(36,.o (.c (.ref 5))),(40,.o (.c (.sb 6 1 9)))],[.box ((Enc.e l).map (V1.rd [])),.box [nilV,jn 0,jn 0,nilV,nilV],.row 1 (els l.Rows),.row 1 (els (List.replicate n (0 : Int))),.box [.ref 2,jn 0,jn seed,.ref 3,.ref 5],.row 9 (els (freshs l k)),.box [jn 0,jn (k : Int),jn (spX (startT l k)),jn (spY (startT l k)),jn 0,jn 0,jn 1,jn 3,jn 0]]⟩ : St)) (X7 [0,1,2,3,4,5,6] (by kernel_rfl)) ?_;refine Wz [111,41,74,50] ?_
  exact ⟨n - (k + 1),by omega,(fun k : Nat => (⟨_,[(1,I n),(3,.o (.c (.ptr 0 0))),(6,.o (.c (.ptr 1 0))),(8,.o (.c (.ptr 4 0))),(9,I k)],[.box ((Enc.e l).map (V1.rd [])),.box [nilV,jn 0,jn 0,nilV,nilV],.row 1 (els l.Rows),.row 1 (els (List.replicate n (0 : Int))),.box [.ref 2,jn 0,jn seed,.ref 3,.ref 5],.row 9 (els (freshs l k))]⟩ : St)) (k + 1),⟨k + 1,by omega,trivial,J⟩,X8 [0,1,2,3,4,5] (by decide) J (row6w (by rw [freshs_succ]; simp [els]; rfl)) (.c J (.c J (.c J (.c J (.c J (.nil))))))⟩
 have h3 : k = n := by have := of_decide_eq_false h; omega
 subst h3
 refine Wz [32,20,15] ?_;refine zx (Qj J J (hwk) J) J ?_;refine Wz [14,35,15,40,34] ?_
 exact Xm J J J J J (X6 [2,3,5] (by decide) J J J)
theorem reps_succ (k : Nat) : els (List.replicate k (0 : Int)) ++ [[.v (.int .i64 0)]] = els (List.replicate (k + 1) (0 : Int)) := by rw [List.replicate_succ']; simp [els,Enc.e]
theorem row65 {a b c d e : Ob} {k : Nat} {x y : List (List T)} (h : x = y) : [a,b,c,d,Ob.row k x,e] = [a,b,c,d,Ob.row k y,e] := by rw [h]
theorem S_NewWorld (l : TLevel) (n : Nat) (seed : Int) (hg : Enc.gd l) (hL : l.Rows.length ≤ 1048576) (hl : levelOk l = true) (hn : 1 ≤ n ∧ n ≤ 4) (hs : inR seed 0 65535 = true) : Con Tryz.prog 37 [] [ag l,ai n,ai seed] (ownO (Enc.e (newWorld l n seed))) (.tu [.ag (ownV 0 (Enc.e (newWorld l n seed))),.c (bv true)]) := by
 have hwk := S_WorldOk (newWorld l n seed) (newWorld_gd hg hl hn hs)
 rw [newWorld_ok hl hn hs] at hwk
 have hcl := S_copyLevel l hg hL
 refine Con.of Tryz.func37 J Tryz.ntmps37 J (fun E => ?_)
 refine Wz [26,18,2,15] ?_;refine M1 (Zk J J (hcl) J J J) J J ?_;refine Wz [0,108,18,40,21,11,13] ?_
 refine AWP.pre (st' := (⟨_,[(1,I n),(3,.o (.c (.ptr 0 0))),(6,.o (.c (.ptr 1 0))),(8,.o (.c (.ptr 3 0))),(9,I 0)],[.box ((Enc.e l).map (V1.rd [])),.box [nilV,jn 0,jn 0,nilV,nilV],.row 1 (els l.Rows),.box [.ref 2,jn 0,jn seed,nilV,nilV]]⟩ : St)) ?_ (X7 [0,1,2,3] (by kernel_rfl))
 refine AWP.pre ?_ (Wk.nilbox (p := 3) (i := 3) 1 J J)
 refine AWP.pre ?_ (Wk.nilbox (p := 3) (i := 4) 9 J J)
 refine Xi (fun m st => ∃ k : Nat,k + m = n ∧ (True) ∧ st = (⟨_,[(1,I n),(3,.o (.c (.ptr 0 0))),(6,.o (.c (.ptr 1 0))),(8,.o (.c (.ptr 3 0))),(9,I k)],[.box ((Enc.e l).map (V1.rd [])),.box [nilV,jn 0,jn 0,nilV,nilV],.row 1 (els l.Rows),.box [.ref 2,jn 0,jn seed,.ref 4,.ref 5],.row 1 (els (List.replicate k (0 : Int))),.row 9 (els (freshs l k))]⟩ : St)) (n) ⟨_,⟨0,by omega,trivial,J⟩,X7 [0,1,2,3,4,5] (by kernel_rfl)⟩ ?_
 rintro m_A _ ⟨k,hk_A,hp_A,rfl⟩
 have hlk := Ym (freshs l k)
 have hlk2 := freshs_len l k
 have hl0 : (els (List.replicate k (0 : Int))).length = k := by rw [Ym,List.length_replicate]
 have f2 : decide ((k : Int) ≤ 4) = true := decide_eq_true (by omega)
 by_cases h3 : k < n
 ·have f1 : decide ((k : Int) < n) = true := decide_eq_true (by omega)
  have hf := S_fresh l k hg hl (by omega)
  refine Wz [36,10,16,130,24,9,29,5,54,87,41,1] ?_
  refine AWP.pre (st' := (⟨_,[(1,I n),(3,.o (.c (.ptr 0 0))),(6,.o (.c (.ptr 1 0))),(8,.o (.c (.ptr 3 0))),(9,I k)],[.box ((Enc.e l).map (V1.rd [])),.box [nilV,jn 0,jn 0,nilV,nilV],.row 1 (els l.Rows),.box [.ref 2,jn 0,jn seed,.ref 4,.ref 5],.row 1 (els (List.replicate (k + 1) (0 : Int))),.row 9 (els (freshs l k))]⟩ : St)) ?_ (X8 [0,1,2,3,4,5] (by decide) J ((row65 (reps_succ k).symm)) (.c J (.c J (.c J (.c J (.c J (.nil)))))))
  refine Xh u8_6 [[],[28],[],[],[30,31],[30,31,32],[28,29,30,31,32,33],[28,29,30,31,32,33,34],[28,29,30,31,32,33,34,35]] [[30,31,32,33],[30,31,32,33],[28,29,31],[28,29,30],[28,29],[28,29],[],[],[]] J ?_;refine Wz [33,100,3] ?_;refine DR.s (Zk J J (hf) J J J) J J ?_;refine Wz [168,31] ?_;refine AL.weak (st' := (⟨_,[(1,I n),(3,.o (.c (.ptr 0 0))),(6,.o (.c (.ptr 1 0))),(8,.o (.c (.ptr 3 0))),(9,I k),(29,.o (.c (.ref 5))),(33,.o (.c (.sb 6 1 9)))],[.box ((Enc.e l).map (V1.rd [])),.box [nilV,jn 0,jn 0,nilV,nilV],.row 1 (els l.Rows),.box [.ref 2,jn 0,jn seed,.ref 4,.ref 5],.row 1 (els (List.replicate (k + 1) (0 : Int))),.row 9 (els (freshs l k)),.box [jn 0,jn (k : Int),jn (spX (startT l k)),jn (spY (startT l k)),jn 0,jn 0,jn 1,jn 3,jn 0]]⟩ : St)) (X7 [0,1,2,3,4,5,6] (by kernel_rfl)) ?_;refine Wz [111,41,74,50] ?_
  exact ⟨n - (k + 1),by omega,(fun k : Nat => (⟨_,[(1,I n),(3,.o (.c (.ptr 0 0))),(6,.o (.c (.ptr 1 0))),(8,.o (.c (.ptr 3 0))),(9,I k)],[.box ((Enc.e l).map (V1.rd [])),.box [nilV,jn 0,jn 0,nilV,nilV],.row 1 (els l.Rows),.box [.ref 2,jn 0,jn seed,.ref 4,.ref 5],.row 1 (els (List.replicate k (0 : Int))),.row 9 (els (freshs l k))]⟩ : St)) (k + 1),⟨k + 1,by omega,trivial,J⟩,X8 [0,1,2,3,4,5] (by decide) J (row6w (by rw [freshs_succ]; simp [els]; rfl)) (.c J (.c J (.c J (.c J (.c J (.nil))))))⟩
 have f1 : decide ((k : Int) < n) = false := decide_eq_false (by omega)
 have h3 : k = n := by omega
 subst h3
 refine Wz [36,10,44,8,60,32,20,15] ?_;refine zx (Qj J J (hwk) J) J ?_;refine Wz [14,35,15,40,34] ?_
 exact Xm J J J J J (X6 [2,4,5] (by decide) J J J)
end
section
open Go.RowKit

theorem I_NextRandom (s : Int) (h : 0 ≤ s ∧ s ≤ 65535) : Con Tryz.prog 201 [] [ai s] [] (I (nextR s)) := by
 have f1 : decide (s < 0) = false := decide_eq_false (by omega)
 have f2 : decide (65535 < s) = false := decide_eq_false (by omega)
 refine Con.of Tryz.func201 J Tryz.ntmps201 J (fun E => ?_)
 refine Wz [11,28,10,16,85,8,35,7,92,71,122,34] ?_
 exact Xn J J (X6 [] (by decide) J J (Xy (by rw [nextR,if_pos h])))
theorem I_RandomBelow (s n : Int) (h : 0 ≤ s ∧ s ≤ 65535) (hn : 1 ≤ n ∧ n ≤ 4096) : Con Tryz.prog 203 [] [ai s,ai n] [] (.tu [.c (jn (nextR s)),.c (jn (belowR s n))]) := by
 have f1 : decide (s < 0) = false := decide_eq_false (by omega)
 have f2 : decide (65535 < s) = false := decide_eq_false (by omega)
 have f3 : decide (n < 1) = false := decide_eq_false (by omega)
 have f4 : decide (4096 < n) = false := decide_eq_false (by omega)
 have hc := I_NextRandom s h
 have hr := Y7 s
 refine Con.of Tryz.func203 J Tryz.ntmps203 J (fun E => ?_)
 refine Wz [4,72,56,10,16,85,8,16,10,8,16,85,8,35,7] ?_;refine zx (Qj J J (hc) J) J ?_;refine Wz [22] ?_;refine Xh [[],[],[1],[],[1,2,3],[0],(u9 6)] [[],[],[24],[],[24,25,26],[23],[4,23,24,25,26,27]] [[24,25,26,27],[4,23,26],[4,23,26],[4,23,24,25],[4,23],[24,25,26,27],[]] J ?_;refine Wz [3,3] ?_;refine DR.s (q_quo J J J J (by omega)) J J (DR.s (Qa J J J) J J (DR.s (q_rem J J J J (by omega)) J J ?_));refine Wz [109,109,31,1,67] ?_
 exact E_tmp2 J J J (X6 [] (by decide) J J J)
theorem I_ShotOf (b : TBody) (hx : 0 ≤ b.X ∧ b.X ≤ 1000) (hy : 0 ≤ b.Y ∧ b.Y ≤ 1000) (ha : -1 ≤ b.Aim ∧ b.Aim ≤ 1) : Con Tryz.prog 225 [] [ag b] [] (.o (.ag ((Enc.e (shotOf b)).map (V1.rd [])))) := by
 have c1 := Xw b.X 0 1000
 have c2 := Xw b.Y 0 1000
 have c3 := Xw b.Aim (-1) 1
 rw [Y0.2 hx] at c1
 rw [Y0.2 hy] at c2
 rw [Y0.2 ha] at c3
 refine Con.of Tryz.func225 J Tryz.ntmps225 J (fun E => ?_)
 refine Wz [26,18,21,5] ?_;refine zx (Qj J J (c1) J) J ?_;refine Wz [14,57] ?_;refine zx (Qj J J (c2) J) J ?_;refine Wz [6,14,8,57] ?_;refine zx (Qj J J (c3) J) J ?_;refine Wz [6,14,8,35,5,17,71,17,71,17,92,108,37,67] ?_
 exact Xl J J J J (X6 [] (by decide) J J J)
theorem I_direction (v : Int) (h : -15 ≤ v ∧ v ≤ 15) : Con Tryz.prog 242 [] [ai v] [] (.tu [.c (jn (dirOf v)),.c (jn v.natAbs)]) := by
 by_cases hv : v < 0
 ·have f1 : decide (v < 0) = true := decide_eq_true hv
  refine Con.of Tryz.func242 J Tryz.ntmps242 J (fun E => ?_)
  refine Wz [4,72,56,10,9,7] ?_;refine zx (q_neg J J J (by omega)) J ?_;refine Wz [72,2,75,25] ?_
  exact E_tmp2 J J J (X6 [] (by decide) J J (tu2 (by rw [dirOf,if_pos hv]) (by omega)))
 ·have f1 : decide (v < 0) = false := decide_eq_false hv
  refine Con.of Tryz.func242 J Tryz.ntmps242 J (fun E => ?_)
  refine Wz [4,72,56,10,35,7,72,34] ?_
  exact E_tmp2 J J J (X6 [] (by decide) J J (tu2 (by rw [dirOf,if_neg hv]) (by omega)))
theorem I_BodiesMeet (a b : TBody) (ha : Placed a) (hb : Placed b) : Con Tryz.prog 243 [] [ag a,ag b] [] (B (meetM a b)) := by
 have sa := size_pos ha.k
 have sb := size_pos hb.k
 obtain ⟨ax1,ax2⟩ := ha.x
 obtain ⟨ay1,ay2⟩ := ha.y
 obtain ⟨bx1,bx2⟩ := hb.x
 obtain ⟨by1,by2⟩ := hb.y
 have c1 := I_SizeOf a.Kind
 have c2 := I_SizeOf b.Kind
 have f1 : decide (sizeOf a.Kind = 0) = false := decide_eq_false (by omega)
 have f2 : decide (sizeOf b.Kind = 0) = false := decide_eq_false (by omega)
 have x1 : decide (a.X < 0) = false := decide_eq_false (by omega)
 have x2 : decide (1000 < a.X) = false := decide_eq_false (by omega)
 have x3 : decide (a.Y < 0) = false := decide_eq_false (by omega)
 have x4 : decide (1000 < a.Y) = false := decide_eq_false (by omega)
 have x5 : decide (b.X < 0) = false := decide_eq_false (by omega)
 have x6 : decide (1000 < b.X) = false := decide_eq_false (by omega)
 have x7 : decide (b.Y < 0) = false := decide_eq_false (by omega)
 have x8 : decide (1000 < b.Y) = false := decide_eq_false (by omega)
 refine Con.of Tryz.func243 J Tryz.ntmps243 J (fun E => ?_)
 refine Wz [26,79,2,5] ?_;refine zx (Qj J J (c1) J) J ?_;refine Wz [2,5] ?_;refine zx (Qj J J (c2) J) J ?_;refine Wz [56,19,16,19,8,60,70,5,17,17,17,54] ?_;refine zx (q_lensb J J J) J ?_;refine Wz [78,13] ?_;refine Xi (fun m st => ∃ k : Nat,k + m = 4 ∧ (True) ∧ st = (⟨_,[(2,.o (.c (.ptr 0 0))),(3,.o (.c (.ptr 1 0))),(5,I (sizeOf a.Kind)),(6,I (sizeOf b.Kind)),(29,.o (.c (.sb 2 4 1))),(30,I 4),(31,I k)],[.box ((Enc.e a).map (V1.rd [])),.box ((Enc.e b).map (V1.rd [])),.box [jn a.X,jn a.Y,jn b.X,jn b.Y]]⟩ : St)) (4) ⟨_,⟨0,by omega,trivial,J⟩,X7 [0,1,2] (by kernel_rfl)⟩ ?_
 rintro m_A _ ⟨k,hk_A,hp_A,rfl⟩
 have hk : k = 0 ∨ k = 1 ∨ k = 2 ∨ k = 3 ∨ k = 4 := by omega
 rcases hk with hk | hk | hk | hk | hk
 ·subst hk
  refine Wz [4,120,21,46,29,4,134,105,2,7,10,16,85,8,45,38] ?_
  exact ⟨4 - (0 + 1),by omega,_,⟨0 + 1,by omega,trivial,J⟩,X7 [0,1,2] (by kernel_rfl)⟩
 ·subst hk
  refine Wz [4,120,21,46,29,4,134,105,2,7,10,16,85,8,45,38] ?_
  exact ⟨4 - (1 + 1),by omega,_,⟨1 + 1,by omega,trivial,J⟩,X7 [0,1,2] (by kernel_rfl)⟩
 ·subst hk
  refine Wz [4,120,21,46,29,4,134,105,2,7,10,16,85,8,45,38] ?_
  exact ⟨4 - (2 + 1),by omega,_,⟨2 + 1,by omega,trivial,J⟩,X7 [0,1,2] (by kernel_rfl)⟩
 ·subst hk
  refine Wz [4,120,21,46,29,4,134,105,2,7,10,16,85,8,45,38] ?_
  exact ⟨4 - (3 + 1),by omega,_,⟨3 + 1,by omega,trivial,J⟩,X7 [0,1,2] (by kernel_rfl)⟩
 ·subst hk
  refine Wz [4] ?_;refine zx (Qr (b := false) J J J J (by decide)) J ?_;refine Wz [21,47,32,5,17,89,48,0,98,99] ?_;refine zx (Qt.grdT J J J (.hit (.hit .stop)) (fun hgrd => Qf J J J J (by decide))) J ?_;refine zx (Qt.grdT J J J (.hit (.hit (.hit .stop))) (fun hgrd => Qg J J J J J)) J ?_;refine zx (Qt.grdT J J J (.hit (.hit (.hit (.hit .stop)))) (fun hgrd => Qa J J J)) J ?_;refine zx (Qt.grdT J J J (.hit (.hit (.hit (.hit (.hit .stop))))) (fun hgrd => Qs J J J J (by omega))) J ?_;refine zx (Qt.grdT J J J (.hit (.hit (.hit (.hit (.hit (.hit .stop)))))) (fun hgrd => Zx J J J J)) J ?_;refine Wz [76,0,98,99] ?_;refine zx (Qt.grdT J J J (.hit (.hit .stop)) (fun hgrd => Qf J J J J (by decide))) J ?_;refine zx (Qt.grdT J J J (.hit (.hit (.hit .stop))) (fun hgrd => Qg J J J J J)) J ?_;refine zx (Qt.grdT J J J (.hit (.hit (.hit (.hit .stop)))) (fun hgrd => Qa J J J)) J ?_;refine zx (Qt.grdT J J J (.hit (.hit (.hit (.hit (.hit .stop))))) (fun hgrd => Qs J J J J (by omega))) J ?_;refine zx (Qt.grdT J J J (.hit (.hit (.hit (.hit (.hit (.hit .stop)))))) (fun hgrd => Zx J J J J)) J ?_;refine Wz [76,0,98,99] ?_;refine zx (Qt.grdT J J J (.hit (.hit .stop)) (fun hgrd => Qf J J J J (by decide))) J ?_;refine zx (Qt.grdT J J J (.hit (.hit (.hit .stop))) (fun hgrd => Qg J J J J J)) J ?_;refine zx (Qt.grdT J J J (.hit (.hit (.hit (.hit .stop)))) (fun hgrd => Qa J J J)) J ?_;refine zx (Qt.grdT J J J (.hit (.hit (.hit (.hit (.hit .stop))))) (fun hgrd => Qs J J J J (by omega))) J ?_;refine zx (Qt.grdT J J J (.hit (.hit (.hit (.hit (.hit (.hit .stop)))))) (fun hgrd => Zx J J J J)) J ?_;refine Wz [76,34] ?_
  exact Xn J J (X6 [] (by decide) J J J)
end
section
open Go.RowKit

theorem Zc {l : TLevel} {x y s : Int} (hl : levelOk l = true) (h1 : 1 ≤ s ∧ s ≤ 16) (h : solidM l x y s = false) : (0 ≤ x ∧ x ≤ 400) ∧ (0 ≤ y ∧ y ≤ 400) := by
 obtain ⟨l3,l12,w,w4,w20,hw⟩ := Y2 hl
 have hn : ¬ hits l x y s := fun hh => by rw [Ka hh] at h; cases h
 have : ¬ (x < 0 ∨ y < 0 ∨ (w : Int) * 16 - s < x ∨ (l.Rows.length : Int) * 16 - s < y) := fun q => hn (out_hits hw h1.1 q)
 omega
theorem solidAt_eq {l : TLevel} {x y s : Int} (hl : levelOk l = true) (h1 : 1 ≤ s ∧ s ≤ 16) : solidAt l x y s = solidM l x y s := by
 rw [solidAt,Y0.2 h1,hl]; rfl
@[reducible] def stB (K O X Y VX VY A L T : Int) : List V1 := [jn K,jn O,jn X,jn Y,jn VX,jn VY,jn A,jn L,jn T]
theorem I_SteerPlayer (l : TLevel) (b : TBody) (i : Int) (hg : Enc.gd l) (hl : levelOk l = true) (gb : Enc.gd b) (hk : b.Kind = 0) (ho : 0 ≤ b.Owner ∧ b.Owner ≤ 3) (hf : 1 ≤ b.Life) (hi : 0 ≤ i ∧ i ≤ 15) (hb : bodyM l (b.Owner + 1) b = true) (ht : 0 ≤ b.Timer ∧ b.Timer ≤ 20) (hv : -15 ≤ b.VY ∧ b.VY ≤ 15) (hp : solidM l b.X b.Y 12 = false) : Con Tryz.prog 224 [] [ag l,ag b,ai i] [] (.tu [.ag ((Enc.e (steer l b i).1).map (V1.rd [])),.c (bv (steer l b i).2)]) := by
 obtain ⟨⟨px1,px2⟩,⟨py1,py2⟩⟩ := Zc hl (by decide) hp
 have c1 := Xr l hg
 have c2 := Xw b.Owner 0 3
 have c3 := Xw i 0 15
 have c4 := I_BodyOk l (b.Owner + 1) b hg gb (by omega)
 rw [hl] at c1
 rw [Y0.2 ho] at c2
 rw [Y0.2 hi] at c3
 rw [hl,hb] at c4
 have f1 : decide (b.Kind ≠ 0) = false := decide_eq_false (fun q => q hk)
 have f2 : decide (b.Life < 1) = false := decide_eq_false (by omega)
 have cs := I_SolidAt l b.X (b.Y + 1) 12 hg ⟨by omega,by omega⟩ ⟨by omega,by omega⟩
 rw [solidAt_eq hl (by decide)] at cs
 have cz : Con Tryz.prog 223 [] [ai 0] [] (I 12) := I_SizeOf 0
 obtain ⟨T,hT⟩ : ∃ T,T = (if 0 < b.Timer then b.Timer - 1 else b.Timer) := ⟨_,rfl⟩
 have hT1 : 0 ≤ T ∧ T ≤ 20 := by rw [hT]; split <;> omega
 obtain ⟨R,hR⟩ : ∃ R,R = (pressed i 2 && !pressed i 1) := ⟨_,rfl⟩
 obtain ⟨Lf,hLf⟩ : ∃ Lf,Lf = (pressed i 1 && !pressed i 2) := ⟨_,rfl⟩
 rw [steer,← hT,← hR,← hLf]
 refine Con.of Tryz.func224 J Tryz.ntmps224 J (fun E => ?_)
 refine Wz [26,79,18,22,15] ?_;refine zx (Qj J J (c1) J) J ?_;refine Wz [14,57,69,8,57,10,8,57] ?_;refine zx (Qj J J (c2) J) J ?_;refine Wz [6,14,8,35,28] ?_;refine zx (Qj J J (c3) J) J ?_;refine Wz [14,30,27,6,116,71,6,27,6] ?_;refine zx (Qj J J (c4) J) J ?_;refine Wz [6,14,8,60,70,5] ?_;refine zx (q_gtr J J J J) J ?_;refine Wz [1] ?_
 refine A_join (⟨101,[(2,I i),(3,.o (.c (.ptr 0 0))),(4,.o (.c (.ptr 1 0))),(6,.o (.c (.ptr 2 0)))],[.box ((Enc.e l).map (V1.rd [])),.box (stB b.Kind b.Owner b.X b.Y b.VX b.VY b.Aim b.Life T),.box (stB 0 0 0 0 0 0 0 0 0)]⟩ : St) ?_ ?_
 ·refine Xb rfl (fun h => ?_) (fun h => ?_)
  ·have h := of_decide_eq_true h
   have hT2 : b.Timer - 1 = T := by rw [hT,if_pos h]
   refine Wz [81,17,73,41,74] ?_
   exact Mid.n (by rw [← hT2]; exact X7 [0,1,2] (by kernel_rfl))
  ·have h := of_decide_eq_false h
   have hT2 : b.Timer = T := by rw [hT,if_neg h]
   refine Qh ?_
   exact Mid.n (by rw [← hT2]; exact X7 [0,1,2] (by kernel_rfl))
 refine Wz [7] ?_;refine zx (q_band J J J J (by omega)) J ?_;refine Wz [114,2,7] ?_;refine zx (q_band J J J J (by omega)) J ?_;refine Wz [114,2,4,41,1,36,129] ?_;refine zx (Qt.grdT J J J (.hit .stop) (fun hgrd => Q4 J J J)) J ?_;refine Wz [76,1] ?_
 refine A_join (⟨101,[(2,I i),(3,.o (.c (.ptr 0 0))),(4,.o (.c (.ptr 1 0))),(6,.o (.c (.ptr 2 0))),(8,B (pressed i 1)),(9,B (pressed i 2))],[.box ((Enc.e l).map (V1.rd [])),.box (stB b.Kind b.Owner b.X b.Y (if R = true then 3 else 0) b.VY (if R = true then 1 else b.Aim) b.Life T),.box (stB 0 0 0 0 0 0 0 0 0)]⟩ : St) ?_ ?_
 ·refine Xb rfl (fun h => ?_) (fun h => ?_)
  ·have h2 : R = true := by rw [hR]; exact h
   refine Wz [4,41,1,81,41,74] ?_
   exact Mid.n (by rw [if_pos h2,if_pos h2]; exact X7 [0,1,2] (by kernel_rfl))
  ·have h2 : ¬ R = true := by rw [hR]; intro q; exact Bool.false_ne_true (Eq.trans (h).symm q)
   refine Qh ?_
   exact Mid.n (by rw [if_neg h2,if_neg h2]; exact X7 [0,1,2] (by kernel_rfl))
 refine Wz [36,129] ?_;refine zx (Qt.grdT J J J (.hit .stop) (fun hgrd => Q4 J J J)) J ?_;refine Wz [76,1] ?_
 refine A_join (⟨101,[(2,I i),(3,.o (.c (.ptr 0 0))),(4,.o (.c (.ptr 1 0))),(6,.o (.c (.ptr 2 0))),(8,B (pressed i 1)),(9,B (pressed i 2))],[.box ((Enc.e l).map (V1.rd [])),.box (stB b.Kind b.Owner b.X b.Y (if Lf = true then -3 else if R = true then 3 else 0) b.VY (if Lf = true then -1 else if R = true then 1 else b.Aim) b.Life T),.box (stB 0 0 0 0 0 0 0 0 0)]⟩ : St) ?_ ?_
 ·refine Xb rfl (fun h => ?_) (fun h => ?_)
  ·have h2 : Lf = true := by rw [hLf]; exact h
   refine Wz [4,41,1,81,41,74] ?_
   exact Mid.n (by rw [if_pos h2,if_pos h2]; exact X7 [0,1,2] (by kernel_rfl))
  ·have h2 : ¬ Lf = true := by rw [hLf]; intro q; exact Bool.false_ne_true (Eq.trans (h).symm q)
   refine Qh ?_
   exact Mid.n (by rw [if_neg h2,if_neg h2]; exact X7 [0,1,2] (by kernel_rfl))
 obtain ⟨vx,hvx⟩ : ∃ vx,vx = (if Lf = true then -3 else if R = true then 3 else 0) := ⟨_,rfl⟩
 obtain ⟨am,ham⟩ : ∃ am,am = (if Lf = true then -1 else if R = true then 1 else b.Aim) := ⟨_,rfl⟩
 rw [← hvx,← ham]
 obtain ⟨Fi,hFi⟩ : ∃ Fi,Fi = (pressed i 8 && decide (T = 0)) := ⟨_,rfl⟩
 rw [← hFi]
 by_cases hJ : pressed i 4 = true
 ·have fJ : decide (((i.toNat &&& (4 : Int).toNat : Nat) : Int) ≠ 0) = true := hJ
  cases hs : solidM l b.X (b.Y + 1) 12 with
  | true =>
   rw [hs] at cs
   rw [hJ]
   refine Wz [20,20] ?_;refine Xh u8_7 u8_8 u8_9 J (DR.s (Qa J J J) J J (DR.s (q_band J J J J (by omega)) J J ?_));refine Wz [138,3,119,23,23] ?_;refine DR.s (Qt.yes J J J (Qs J J J J (by omega))) J J ?_;refine DR.s (Qt.yes J J J (Qj J J (cz) J)) J J ?_;refine DR.s (Qt.yes J J J (Qj J J (cs) J)) J J ?_;refine Wz [65,31,9,81,41,1,28] ?_;refine zx (q_band J J J J (by omega)) J ?_;refine Wz [114,0,98,99,160,76,1] ?_
   refine Xb J (fun h => ?_) (fun h => ?_)
   ·have h2 : Fi = true := by rw [hFi]; exact h
    rw [h2]
    refine Wz [4,41,1,15,40,2,75,25] ?_
    exact Xm J J J J J (X6 [] (by decide) J J J)
   ·have h2 : Fi = false := by rw [hFi]; exact h
    rw [h2]
    refine Wz [68,15,40,34] ?_
    exact Xm J J J J J (X6 [] (by decide) J J J)
  | false =>
   rw [hs] at cs
   rw [hJ]
   refine Wz [20,20] ?_;refine Xh u8_7 u8_8 u8_9 J (DR.s (Qa J J J) J J (DR.s (q_band J J J J (by omega)) J J ?_));refine Wz [138,3,119,23,23] ?_;refine DR.s (Qt.yes J J J (Qs J J J J (by omega))) J J ?_;refine DR.s (Qt.yes J J J (Qj J J (cz) J)) J J ?_;refine DR.s (Qt.yes J J J (Qj J J (cs) J)) J J ?_;refine Wz [65,31,60,81,17,71] ?_;refine zx (q_min J J J J) J ?_;refine Wz [41,1,28] ?_;refine zx (q_band J J J J (by omega)) J ?_;refine Wz [114,0,98,99,160,76,1] ?_
   refine Xb J (fun h => ?_) (fun h => ?_)
   ·have h2 : Fi = true := by rw [hFi]; exact h
    rw [h2]
    refine Wz [4,41,1,15,40,2,75,25] ?_
    exact Xm J J J J J (X6 [] (by decide) J J J)
   ·have h2 : Fi = false := by rw [hFi]; exact h
    rw [h2]
    refine Wz [68,15,40,34] ?_
    exact Xm J J J J J (X6 [] (by decide) J J J)
 ·have fJ : decide (((i.toNat &&& (4 : Int).toNat : Nat) : Int) ≠ 0) = false := by simpa [pressed] using hJ
  rw [show pressed i 4 = false by simpa using hJ]
  refine Wz [20,20] ?_;refine Xh u8_7 u8_8 u8_9 J (DR.s (Qa J J J) J J (DR.s (q_band J J J J (by omega)) J J ?_));refine Wz [138,3,58,58,59,31,60,81,17,71] ?_;refine zx (q_min J J J J) J ?_;refine Wz [41,1,28] ?_;refine zx (q_band J J J J (by omega)) J ?_;refine Wz [114,0,98,99,160,76,1] ?_
  refine Xb J (fun h => ?_) (fun h => ?_)
  ·have h2 : Fi = true := by rw [hFi]; exact h
   rw [h2]
   refine Wz [4,41,1,15,40,2,75,25] ?_
   exact Xm J J J J J (X6 [] (by decide) J J J)
  ·have h2 : Fi = false := by rw [hFi]; exact h
   rw [h2]
   refine Wz [68,15,40,34] ?_
   exact Xm J J J J J (X6 [] (by decide) J J J)
end
section
open Go.RowKit

theorem slide_free {hit : Int → Bool} {step : Int} : ∀ (n : Nat) (x : Int),hit x = false → hit (slide hit step n x).1 = false
 | 0,x,h => h
 | n + 1,x,h => by
  rw [slide]
  split
  ·exact h
  ·exact slide_free n (x + step) (by rename_i q; simpa using q)
section
variable {P : Program} {E : Env} {st st' : St}
theorem A_joinb {c d : Code} {id : Nat} {Q Q' : Exit → St → Prop} (st' : St) (h1 : AWP P E c (blk id (Mid st')) st) (h2 : AWP P E d Q' st') : AWP P E c (blk id (thn (AWP P E d Q') Q)) st :=
 AWP.mono (fun e s h => by
  have hh := h.h
  cases e with
  | normal => obtain ⟨_,hw⟩ := hh.h; exact ⟨⟨AWP.weak hw h2⟩⟩
  | exit id' =>
   by_cases hi : id' = id
   ·subst hi
    have hh : (if id' = id' then Mid st' .normal s else Mid st' (.exit id') s) := hh
    rw [if_pos rfl] at hh
    obtain ⟨_,hw⟩ := hh.h
    exact Xk (Q0 (AWP.weak hw h2))
   ·have hh : (if id' = id then Mid st' .normal s else Mid st' (.exit id') s) := hh
    rw [if_neg hi] at hh
    obtain ⟨he,_⟩ := hh.h
    cases he
  | goto l => obtain ⟨he,_⟩ := Mid.h hh; cases he
  | ret => obtain ⟨he,_⟩ := Mid.h hh; cases he
  | panic c => obtain ⟨he,_⟩ := Mid.h hh; cases he
  | outgrown => obtain ⟨he,_⟩ := Mid.h hh; cases he) h1
end
theorem I_MoveBody (l : TLevel) (b : TBody) (hg : Enc.gd l) (hl : levelOk l = true) (hk : 0 ≤ b.Kind ∧ b.Kind ≤ 2) (hp : solidM l b.X b.Y (sizeOf b.Kind) = false) (hx : -15 ≤ b.VX ∧ b.VX ≤ 15) (hy : -15 ≤ b.VY ∧ b.VY ≤ 15) : Con Tryz.prog 226 [] [ag l,ag b] [] (.tu [.ag ((Enc.e (moveM l b).1).map (V1.rd [])),.c (bv (moveM l b).2)]) := by
 obtain ⟨s4,s12⟩ := size_pos hk
 obtain ⟨s,hs⟩ : ∃ s,s = sizeOf b.Kind := ⟨_,rfl⟩
 rw [← hs] at s4 s12 hp
 have cz := I_SizeOf b.Kind
 rw [← hs] at cz
 obtain ⟨⟨px1,px2⟩,⟨py1,py2⟩⟩ := Zc hl ⟨by omega,by omega⟩ hp
 obtain ⟨X1,b1,hR⟩ : ∃ X1 b1,(X1,b1) = moveX l b := ⟨_,_,rfl⟩
 obtain ⟨Y1,b2,hS⟩ : ∃ Y1 b2,(Y1,b2) = moveY l b := ⟨_,_,rfl⟩
 obtain ⟨N,hN⟩ : ∃ N,N = b.VX.natAbs := ⟨_,rfl⟩
 obtain ⟨M,hM⟩ : ∃ M,M = b.VY.natAbs := ⟨_,rfl⟩
 obtain ⟨d,hd⟩ : ∃ d,d = dirOf b.VX := ⟨_,rfl⟩
 obtain ⟨e,he⟩ : ∃ e,e = dirOf b.VY := ⟨_,rfl⟩
 have hd1 : -1 ≤ d ∧ d ≤ 1 := by rw [hd,dirOf]; split <;> omega
 have he1 : -1 ≤ e ∧ e ≤ 1 := by rw [he,dirOf]; split <;> omega
 have hR1 : slide (fun z => solidM l z b.Y s) d (N - 0) b.X = (X1,b1) := by rw [hs,hd,hN]; exact hR.symm
 have hR2 : slide (fun z => solidM l X1 z s) e (M - 0) b.Y = (Y1,b2) := by rw [show X1 = (moveX l b).1 by rw [← hR],hs,he,hM]; exact hS.symm
 have hp2 : solidM l X1 b.Y s = false := by have h := slide_free (hit := fun z => solidM l z b.Y s) (step := d) (N - 0) b.X hp; rw [hR1] at h; exact h
 have hmm : moveM l b = (⟨b.Kind,b.Owner,X1,Y1,if b1 = true then 0 else b.VX,if b2 = true then 0 else b.VY,b.Aim,b.Life,b.Timer⟩,b1 || b2) := by rw [moveM,← hR,← hS]
 rw [hmm]
 have hNb : N ≤ 15 := by omega
 have hMb : M ≤ 15 := by omega
 have ca := I_SolidAt l b.X b.Y s hg ⟨by omega,by omega⟩ ⟨by omega,by omega⟩
 rw [solidAt_eq hl ⟨by omega,by omega⟩,hp] at ca
 have c1 := Xw b.VX (-15) 15
 have c2 := Xw b.VY (-15) 15
 rw [Y0.2 hx] at c1
 rw [Y0.2 hy] at c2
 have d1 := I_direction b.VX hx
 have d2 := I_direction b.VY hy
 rw [← hd,← hN] at d1
 rw [← he,← hM] at d2
 refine Con.of Tryz.func226 J Tryz.ntmps226 J (fun E => ?_)
 refine Wz [26,79,18,2,5] ?_;refine zx (Qj J J (cz) J) J ?_;refine Wz [22,15,17,17,0] ?_;refine zx (Qj J J (ca) J) J ?_;refine Wz [60,70,5] ?_;refine zx (Qj J J (c1) J) J ?_;refine Wz [14,57] ?_;refine zx (Qj J J (c2) J) J ?_;refine Wz [6,14,8,35,11,5] ?_;refine M1 (Zk J J (d1) J J J) J J ?_;refine Wz [88,42,42,72,22,11,13] ?_
 refine A_joinb (⟨88,[(2,.o (.c (.ptr 0 0))),(3,.o (.c (.ptr 1 0))),(4,.o (.c (.ptr 2 0))),(6,I s),(7,B b1)],[.box ((Enc.e l).map (V1.rd [])),.box (stB b.Kind b.Owner X1 b.Y (if b1 = true then 0 else b.VX) b.VY b.Aim b.Life b.Timer),.box (stB 0 0 0 0 0 0 0 0 0)]⟩ : St) ?_ ?_
 ·skip
  refine Xi (fun m__ st => ∃ (k : Nat) (x : Int),N - k = m__ ∧ (k ≤ N ∧ solidM l x b.Y s = false ∧ slide (fun z => solidM l z b.Y s) d (N - k) x = (X1,b1)) ∧ st = (⟨_,[(2,.o (.c (.ptr 0 0))),(3,.o (.c (.ptr 1 0))),(4,.o (.c (.ptr 2 0))),(6,I s),(7,B false),(8,I d),(9,I N),(10,I k)],[.box ((Enc.e l).map (V1.rd [])),.box (stB b.Kind b.Owner x b.Y b.VX b.VY b.Aim b.Life b.Timer),.box (stB 0 0 0 0 0 0 0 0 0)]⟩ : St)) _ ⟨_,⟨0,b.X,J,⟨by omega,hp,hR1⟩,J⟩,X7 [0,1,2] (by kernel_rfl)⟩ ?_
  rintro m_A _ ⟨k,x,hk_A,hp_A,rfl⟩
  obtain ⟨hkn,hfr,hsl⟩ := hp_A
  obtain ⟨⟨qx1,qx2⟩,_⟩ := Zc hl ⟨by omega,by omega⟩ hfr
  by_cases hlt : k < N
  ·have hb : decide ((k : Int) < N) = true := decide_eq_true (by omega)
   have cs := I_solid l (x + d) b.Y s hl ⟨by omega,by omega⟩ ⟨by omega,by omega⟩ (by omega) (by omega)
   obtain ⟨m,hm⟩ : ∃ m,N - k = m + 1 := ⟨N - k - 1,by omega⟩
   cases hh : solidM l (x + d) b.Y s with
   | true =>
    rw [hh] at cs
    rw [hm,slide_hit (hit := fun z => solidM l z b.Y s) hh] at hsl
    obtain ⟨rfl,rfl⟩ := Prod.mk.inj hsl
    refine Wz [36,10,9,29,20,15,17,89,17,0] ?_;refine zx (Qj J J (cs) J) J ?_;refine Wz [9,4,41,1,11,143,172] ?_;refine B_xo J ?_;refine Wz [170] ?_
    exact Mid.n (X7 [0,1,2] (by kernel_rfl))
   | false =>
    rw [hh] at cs
    rw [hm,slide_go (hit := fun z => solidM l z b.Y s) hh] at hsl
    refine Wz [36,10,9,29,20,15,17,89,17,0] ?_;refine zx (Qj J J (cs) J) J ?_;refine Wz [35,81,17,89,41,74,50] ?_
    refine ⟨_,(by omega),_,⟨k + 1,x + d,J,⟨by omega,hh,by rw [show N - (k + 1) = m by omega]; exact hsl⟩,J⟩,X7 [0,1,2] (by kernel_rfl)⟩
  ·have hb : decide ((k : Int) < N) = false := decide_eq_false (by omega)
   rw [show N - k = 0 by omega,slide] at hsl
   obtain ⟨rfl,rfl⟩ := Prod.mk.inj hsl
   refine Wz [36,10,60,136] ?_
   exact Mid.n (X7 [0,1,2] (by kernel_rfl))
 refine Wz [5] ?_;refine M1 (Zk J J (d2) J J J) J J ?_;refine Wz [88,42,42,72,22,11,13] ?_
 refine A_joinb (⟨88,[(2,.o (.c (.ptr 0 0))),(3,.o (.c (.ptr 1 0))),(4,.o (.c (.ptr 2 0))),(6,I s),(7,B (b1 || b2))],[.box ((Enc.e l).map (V1.rd [])),.box (stB b.Kind b.Owner X1 Y1 (if b1 = true then 0 else b.VX) (if b2 = true then 0 else b.VY) b.Aim b.Life b.Timer),.box (stB 0 0 0 0 0 0 0 0 0)]⟩ : St) ?_ ?_
 ·skip
  refine Xi (fun m__ st => ∃ (k : Nat) (y : Int),M - k = m__ ∧ (k ≤ M ∧ solidM l X1 y s = false ∧ slide (fun z => solidM l X1 z s) e (M - k) y = (Y1,b2)) ∧ st = (⟨_,[(2,.o (.c (.ptr 0 0))),(3,.o (.c (.ptr 1 0))),(4,.o (.c (.ptr 2 0))),(6,I s),(7,B b1),(8,I e),(9,I M),(11,I k)],[.box ((Enc.e l).map (V1.rd [])),.box (stB b.Kind b.Owner X1 y (if b1 = true then 0 else b.VX) b.VY b.Aim b.Life b.Timer),.box (stB 0 0 0 0 0 0 0 0 0)]⟩ : St)) _ ⟨_,⟨0,b.Y,J,⟨by omega,hp2,hR2⟩,J⟩,X7 [0,1,2] (by kernel_rfl)⟩ ?_
  rintro m_B _ ⟨k,y,hk_B,hp_B,rfl⟩
  obtain ⟨hkn,hfr,hsl⟩ := hp_B
  obtain ⟨_,⟨qx1,qx2⟩⟩ := Zc hl ⟨by omega,by omega⟩ hfr
  by_cases hlt : k < M
  ·have hb : decide ((k : Int) < M) = true := decide_eq_true (by omega)
   have cs := I_solid l X1 (y + e) s hl ⟨by omega,by omega⟩ ⟨by omega,by omega⟩ (by omega) (by omega)
   obtain ⟨m,hm⟩ : ∃ m,M - k = m + 1 := ⟨M - k - 1,by omega⟩
   cases hh : solidM l X1 (y + e) s with
   | true =>
    rw [hh] at cs
    rw [hm,slide_hit (hit := fun z => solidM l X1 z s) hh] at hsl
    obtain ⟨rfl,rfl⟩ := Prod.mk.inj hsl
    refine Wz [36,10,9,29,20,15,17,17,89,0] ?_;refine zx (Qj J J (cs) J) J ?_;refine Wz [9,4,41,1,11,143,172] ?_;refine B_xo J ?_;refine Wz [170] ?_
    exact Mid.n (X8 [0,1,2] (by decide) J (by kernel_rfl) (.c J (.c J (.c J (.c J (.cons (by cases b1 <;> rfl) (.nil)))))))
   | false =>
    rw [hh] at cs
    rw [hm,slide_go (hit := fun z => solidM l X1 z s) hh] at hsl
    refine Wz [36,10,9,29,20,15,17,17,89,0] ?_;refine zx (Qj J J (cs) J) J ?_;refine Wz [35,81,17,89,41,74,50] ?_
    refine ⟨_,(by omega),_,⟨k + 1,y + e,J,⟨by omega,hh,by rw [show M - (k + 1) = m by omega]; exact hsl⟩,J⟩,X7 [0,1,2] (by kernel_rfl)⟩
  ·have hb : decide ((k : Int) < M) = false := decide_eq_false (by omega)
   rw [show M - k = 0 by omega,slide] at hsl
   obtain ⟨rfl,rfl⟩ := Prod.mk.inj hsl
   refine Wz [36,10,60,136] ?_
   exact Mid.n (X8 [0,1,2] (by decide) J (by kernel_rfl) (.c J (.c J (.c J (.c J (.cons (by cases b1 <;> rfl) (.nil)))))))
 refine Wz [15,0,40,34] ?_
 exact Xm J J J J J (X6 [] (by decide) J J J)
end
end Go.Proofs.YtpmacgnmlmmojaaGreatDoor
