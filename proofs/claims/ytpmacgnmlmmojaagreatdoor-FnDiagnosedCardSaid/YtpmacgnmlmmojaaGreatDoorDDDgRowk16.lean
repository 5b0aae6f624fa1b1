/-
  Parts of the proof (rules, data, and what functions of the program and of the reference return), among them: A tick of a world, as data: steering, moving, meeting; Nil checks of pointers to one's own memory; two branches that come to one state.
  Conditions: those that each theorem names.
-/
import Derived.Lib.LazyBuf
import Derived.Test.YtpmacgnmlmmojaaGreatDoorDDDgRowk10
import Derived.Test.YtpmacgnmlmmojaaGreatDoorDDDgRowk13
import Derived.Test.YtpmacgnmlmmojaaGreatDoorDDDgRowk14
import Derived.Test.YtpmacgnmlmmojaaGreatDoorDDDgRowk15
set_option linter.unusedSimpArgs false
set_option linter.unusedVariables false
set_option maxRecDepth 8000
set_option maxHeartbeats 8000000
namespace Go.Proofs.YtpmacgnmlmmojaaGreatDoor
section
open Go.RowKit

def V1.tosr (q : Nat) : V1 → V1
 | .sb p n k => match Nat.beq p q with
  | true => match k with
   | 1 => .ref q
   | _ => .un
  | false => (V1.sb p n k).kill [q]
 | x => x.kill [q]
theorem Wk.sbrow {st : St} {q : Nat} {cs : List V1} {es : List (List T)} (hq : st.objs[q]? = some (.box cs)) (hs : sbE cs = some es) (hm : cs.length ≤ maxLen) : Wk st ⟨st.n,st.tmps.map fun t => (t.1,t.2.mapk (V1.tosr q)),(st.objs.map (Ob.mapk (V1.tosr q))).set q (.row 1 es)⟩ := by
 intro w H F a h1
 obtain ⟨hel,hes⟩ := sbE_ok cs es hs
 have hb := h1.obs q
 rw [Yw hq] at hb
 obtain ⟨g,t,vs,e1,e2,e3⟩ := hb
 have hsay := h1.ok.says q
 rw [e1] at hsay
 have hg : w.heap[g]? = some (.cells vs.toArray t (0,0)) := hsay
 have hqlt := Yx hq
 have hplain : ∀ (i : Nat) (e : List T),es[i]? = some e → ∃ u,vs[i]? = some u ∧ e = [.v u] ∧ u.oneCell' = true := fun i e hi => by
  obtain ⟨ps,u,h2,h3⟩ := hes i e hi
  have hil := Yx h2
  have hiv : vs[i]? = some (vs[i]'(by omega)) := List.getElem?_eq_getElem (by omega)
  obtain ⟨h4,h5⟩ := e3 i _ _ h2 hiv
  obtain ⟨h6,h7⟩ := RO.plain h4
  exact ⟨u,by rw [hiv,h6],h3,h7⟩
 obtain ⟨f,hf⟩ : ∃ f : Nat → Value,f = fun i => vs.getD i undef := ⟨_,rfl⟩
 have hOW : ∃ fp,OW w (.sl 1 es) (.slice (some ⟨g,0,none⟩) es.length vs.length) fp ∧ (∀ b ∈ fp,b = g) ∧ fp.Nodup := by
  refine ⟨g :: (List.replicate es.length [([] : List Nat)]).flatten.flatten,OW.sl es g 0 1 vs.length t vs.toArray (0,0) (fun i _ => vs.getD i undef) (List.replicate es.length [[]]) hg (.inl J) (by omega) (by omega) (by simp) (by omega) (fun e he => ?_) (by simp) (fun fs hfs => by rw [List.eq_of_mem_replicate hfs]; rfl) (fun i j hi hj => ?_) (fun i j e tt fs ff k1 k2 k3 k4 => ?_),?_,?_⟩
  ·obtain ⟨i,hi⟩ := List.getElem?_of_mem he
   obtain ⟨u,_,h3,_⟩ := hplain i e hi
   rw [h3]; rfl
  ·have h2 : i < vs.length := by omega
   have h3 : j = 0 := by omega
   subst h3
   simp [List.getD_eq_getElem?_getD,h2]
  ·obtain ⟨u,h3,h4,h5⟩ := hplain i e k1
   subst h4
   have hj : j = 0 := by have := Yx k2; simp at this; exact this
   subst hj
   simp at k2
   subst k2
   have hfs : fs = [[]] := List.eq_of_mem_replicate (Yy k3)
   subst hfs
   simp at k4
   subst k4
   have h6 : vs.getD i undef = u := Yw h3
   rw [h6]
   exact .v u h5
  ·intro b hb
   simpa using hb
  ·simp
 obtain ⟨fp,hO,hfp,hnd⟩ := hOW
 have hkeep : Keeps w w [g] := ⟨rfl,rfl,rfl,Nat.le_refl _,fun _ _ _ => rfl⟩
 obtain ⟨hok,htn⟩ := h1.ok.turn (p := q) (fp := [g]) (by rw [e1]; rfl) hkeep (.ow (.sl 1 es) (.slice (some ⟨g,0,none⟩) es.length vs.length) fp) hO hnd trivial (fun b hb => .inl (by simp [hfp b hb]))
 have hone : ∀ x v,R1 w H F x v → R1 w (H.put q (.ow (.sl 1 es) (.slice (some ⟨g,0,none⟩) es.length vs.length) fp)) F (V1.tosr q x) v := fun x v hx => by
  cases x with
  | sb p n k =>
   simp only [V1.tosr]
   split
   ·rename_i hp
    have hpq := Nat.eq_of_beq_eq_true hp
    subst hpq
    split
    ·obtain ⟨g',t',vs',k1,k2,k3,k4⟩ := hx
     rw [e1] at k1
     simp only [Pc.box.injEq] at k1
     obtain ⟨rfl,rfl,rfl⟩ := k1
     have hn : n = es.length := by omega
     have hvn : vs.length = es.length := by omega
     rw [k4,hn]
     exact ⟨.sl 1 es,fp,by rw [Hs.put_self,hvn]⟩
    ·trivial
   ·exact R1.killed h1.ok htn hx
  | _ => exact R1.killed h1.ok htn hx
 refine ⟨_,h1.mapk (V1.tosr q) hone hok ((st.objs.map (Ob.mapk (V1.tosr q))).set q (.row 1 es)) (fun p => ?_),fun p b hb => ?_,htn.gh⟩
 ·by_cases hpq : p = q
  ·subst hpq
   rw [Yw (x := .row 1 es) (by simp [hqlt])]
   exact ⟨_,_,Hs.put_self _ _ _⟩
  ·rw [List.getD_eq_getElem?_getD,List.getElem?_set_ne (Ne.symm hpq),List.getElem?_map]
   have h2 := h1.obs p
   rw [List.getD_eq_getElem?_getD] at h2
   have h3 := Hs.put_ne H (.ow (.sl 1 es) (.slice (some ⟨g,0,none⟩) es.length vs.length) fp) hpq
   cases ho : st.objs[p]? with
   | none => rw [ho] at h2; exact h3.trans h2
   | some ob => rw [ho] at h2; exact RB.mapk hone h3 h2
 ·by_cases hpq : p = q
  ·subst hpq
   rw [Hs.put_self] at hb
   exact ⟨p,by rw [e1,hfp b hb]; simp [Pc.fp]⟩
  ·exact ⟨p,by rw [← Hs.put_ne H _ hpq]; exact hb⟩
section
variable {P : Program} {ops : Array Oper} {o : Oper} {st : St} {n : Nat} {t t' : TypeId} {y z : Operand} {ps qs : List Nat}
end
end
section
open Go.RowKit

def varN (n : Nat) : List UInt8 := if n < 128 then [UInt8.ofNat n] else UInt8.ofNat (n % 128 + 128) :: varN (n / 128)
termination_by n
decreasing_by omega
def encVar (n : Int) : List UInt8 := if 0 ≤ n ∧ n ≤ 1099511627775 then varN n.toNat else []
theorem varN_small {n : Nat} (h : n < 128) : varN n = [UInt8.ofNat n] := by rw [varN,if_pos h]
theorem varN_big {n : Nat} (h : ¬ n < 128) : varN n = UInt8.ofNat (n % 128 + 128) :: varN (n / 128) := by rw [varN,if_neg h]
theorem varN_step {acc : List UInt8} {m : Nat} {l : List UInt8} (h : acc ++ varN m = l) (hm : ¬ m < 128) {x : UInt8} (hx : x = UInt8.ofNat (m % 128 + 128)) : (acc ++ [x]) ++ varN (m / 128) = l := by
 rw [← h,varN_big hm,hx]; simp
theorem varN_end {acc : List UInt8} {m : Nat} {l : List UInt8} (h : acc ++ varN m = l) (hm : m < 128) {x : UInt8} (hx : x = UInt8.ofNat m) : acc ++ [x] = l := by
 rw [← h,varN_small hm,hx]

theorem Xo (n : Int) : Con Tryz.prog 130 [] [ai n] [] (S (bs (encVar n))) := by
 refine Con.of Tryz.func130 J Tryz.ntmps130 J (fun E => ?_)
 refine Wz [11,28,48,0,91] ?_;refine zx (Qt.grdF J J J (.hit .stop) (fun hgrd => q_gtr J J J J)) J ?_;refine Wz [43,1] ?_
 refine Xb J (fun h => ?_) (fun h => ?_)
 ·simp only [Bool.or_eq_true,decide_eq_true_eq] at h
  refine Wz [55] ?_
  exact Xn J J (X6 [] (by decide) J J (S_eq (by rw [encVar,if_neg (by omega)])))
 simp only [Bool.or_eq_false_iff,decide_eq_false_iff_not] at h
 have he : encVar n = varN n.toNat := by rw [encVar,if_pos (by omega)]
 rw [he]
 refine Wz [68,11,20,13] ?_
 refine AWP.pre ?_ (W_nil 3 1 J)
 refine Xi (fun m__ st => ∃ (m : Nat) (acc : List UInt8),m = m__ ∧ (acc ++ varN m = varN n.toNat ∧ acc.length + m ≤ 1099511627775) ∧ st = (⟨_,[(0,I m),(3,.o (.c (.ref 0)))],[.row 1 (bE acc)]⟩ : St)) _ ⟨(fun (m : Nat) (acc : List UInt8) => (⟨_,[(0,I m),(3,.o (.c (.ref 0)))],[.row 1 (bE acc)]⟩ : St)) (n.toNat) ([]),⟨n.toNat,[],J,⟨J,by simp <;> omega⟩,J⟩,X8 [0] (by decide) J (by kernel_rfl) (.cons (Xy (by omega)) (.c J (.nil)))⟩ ?_
 rintro m_A _ ⟨m,acc,hk_A,hp_A,rfl⟩
 refine Wz [28,165,1] ?_
 refine Xb J (fun h5 => ?_) (fun h5 => ?_)
 ·have h5 : ¬ m < 128 := by have := of_decide_eq_true h5; omega
  have hl := Yc acc
  refine Wz [68,13,39,122,71,161,54,87,2,49,137,51,90] ?_
  refine ⟨_,(by omega),(fun (m : Nat) (acc : List UInt8) => (⟨_,[(0,I m),(3,.o (.c (.ref 0)))],[.row 1 (bE acc)]⟩ : St)) (m / 128) (acc ++ [UInt8.ofNat ((m : Int) % 128 + 128).toNat]),⟨m / 128,acc ++ [UInt8.ofNat ((m : Int) % 128 + 128).toNat],J,⟨varN_step hp_A.1 h5 (by congr 1 <;> omega),by have := hp_A.2; simp <;> omega⟩,J⟩,X8 [0] (by decide) J (row_eq (bE_snoc _ _ (by omega)).symm) (.cons (Xy (by omega)) (.c J (.nil)))⟩
 ·have h5 : m < 128 := by have := of_decide_eq_false h5; omega
  have hl := Yc acc
  have hb := hp_A.2
  refine Wz [32,39,161,54,87,2,7] ?_;refine zx (q_bstr J J J J) J ?_;refine Wz [34] ?_
  exact Xn J J (X6 [] (by decide) J J (S_eq (congrArg bs (varN_end hp_A.1 h5 (by congr 1)))))
theorem varN_pow : ∀ (j n : Nat),n < 128 ^ (j + 1) → (varN n).length ≤ j + 1
 | 0,n,h => by rw [varN_small (by omega)]; simp
 | j + 1,n,h => by
  by_cases hn : n < 128
  ·rw [varN_small hn]; simp
  ·rw [varN_big hn,List.length_cons]
   have := varN_pow j (n / 128) (by rw [Nat.pow_succ] at h; omega)
   omega
theorem Yq (n : Int) : (encVar n).length ≤ 6 := by
 unfold encVar
 split
 ·exact varN_pow 5 _ (by omega)
 ·simp
def signless (n : Int) : Int := if -549755813888 ≤ n ∧ n ≤ 549755813887 then (if 0 ≤ n then 2 * n else -2 * n - 1) else -1
theorem I_Signless (n : Int) (hn : I64 n) : Con Tryz.prog 148 [] [ai n] [] (I (signless n)) := by
 obtain ⟨hn1,hn2⟩ := hn
 refine Con.of Tryz.func148 J Tryz.ntmps148 J (fun E => ?_)
 refine Wz [11,28,48,0,91] ?_;refine zx (Qt.grdF J J J (.hit .stop) (fun hgrd => q_gtr J J J J)) J ?_;refine Wz [43,1] ?_
 refine Xb J (fun h => ?_) (fun h => ?_)
 ·simp only [Bool.or_eq_true,decide_eq_true_eq] at h
  refine Wz [55] ?_
  exact Xn J J (X6 [] (by decide) J J (Xy (by rw [signless,if_neg (by omega)])))
 simp only [Bool.or_eq_false_iff,decide_eq_false_iff_not] at h
 refine Wz [68,28,165,1] ?_
 refine Xb J (fun h1 => ?_) (fun h1 => ?_)
 ·have h1 := of_decide_eq_true h1
  refine Wz [7,92,2,75,25] ?_
  exact Xn J J (X6 [] (by decide) J J (Xy (by rw [signless,if_pos (by omega),if_pos (by omega)])))
 ·have h1 := of_decide_eq_false h1
  refine Wz [68,7,92,73,34] ?_
  exact Xn J J (X6 [] (by decide) J J (Xy (by rw [signless,if_pos (by omega),if_neg (by omega)])))
def packText (s : ByteArray) : ByteArray := bs (encVar s.size) ++ s
theorem Zb (s : ByteArray) : (packText s).size ≤ s.size + 6 := by
 unfold packText
 rw [Yj,Yg]
 have := Yq s.size
 omega
theorem I_PackText (s : ByteArray) (hs : s.size ≤ 1099511627776) : Con Tryz.prog 64 [] [astr s] [] (S (packText s)) := by
 have h1 := Yg (encVar s.size)
 have h2 := Yq s.size
 refine Con.of Tryz.func64 J Tryz.ntmps64 J (fun E => ?_)
 refine Wz [11,7,80] ?_;refine zx (Qj J J (Xo s.size) J) J ?_;refine z0 J (zx (q_cat J J J J (by omega)) J ?_);refine Wz [34] ?_
 exact Xn J J (X6 [] (by decide) J J J)
def packK (xs : List Int) (k : Nat) : List UInt8 := encVar xs.length ++ (xs.take k).flatMap fun x => encVar (signless x)
def packInts (xs : List Int) : ByteArray := if xs.all (fun x => decide (0 ≤ signless x)) then bs (packK xs xs.length) else bs []
theorem packK_succ {xs : List Int} {k : Nat} (h : k < xs.length) : packK xs (k + 1) = packK xs k ++ encVar (signless xs[k]) := by
 unfold packK
 rw [List.take_succ_eq_append_getElem h,List.flatMap_append,List.append_assoc]
 simp
theorem packK_len (xs : List Int) : ∀ k,k ≤ xs.length → (packK xs k).length ≤ 6 * k + 6
 | 0,_ => by simp [packK]; exact Yq _
 | k + 1,h => by
  rw [packK_succ (by omega),List.length_append]
  have := packK_len xs k (by omega)
  have := Yq (signless xs[k])
  omega
theorem packInts_size (xs : List Int) : (packInts xs).size ≤ 6 * xs.length + 6 := by
 unfold packInts
 split
 ·rw [Yg]; exact packK_len xs _ (Nat.le_refl _)
 ·rw [Yg]; simp
theorem I_PackInts (xs : List Int) (hg : Enc.gd xs) (hL : xs.length ≤ 1073741824) : Con Tryz.prog 66 [] [al xs] [] (S (packInts xs)) := by
 have hlx := Ym xs
 have h1 := Yg (encVar (els xs).length)
 have h2 := Yq (els xs).length
 refine Con.of Tryz.func66 J Tryz.ntmps66 J (fun E => ?_)
 refine Wz [11,7,12] ?_;refine zx (Qj J J (Xo (els xs).length) J) J ?_;refine M1 (q_strb J J J (by omega)) J J ?_;refine Wz [56,12,78,13] ?_
 refine Xi (fun m st => ∃ k : Nat,k + m = xs.length ∧ ((xs.take k).all (fun x => decide (0 ≤ signless x)) = true) ∧ st = (⟨_,[(3,.o (.c (.ref 0))),(11,L xs),(12,I (els xs).length),(13,I k)],[.row 1 (bE (packK xs k))]⟩ : St)) (xs.length) ⟨(fun k : Nat => (⟨_,[(3,.o (.c (.ref 0))),(11,L xs),(12,I (els xs).length),(13,I k)],[.row 1 (bE (packK xs k))]⟩ : St)) 0,⟨0,by omega,by simp,J⟩,X8 [0] (by decide) J (row_eq (by rw [Yf,hlx]; simp [packK])) (.c J (.c J (.c J (.c J (.nil)))))⟩ ?_
 rintro m_A _ ⟨k,hk_A,hp_A,rfl⟩
 refine Wz [4,48,21] ?_
 refine Xb J (fun h => ?_) (fun h => ?_)
 ·have h3 : k < xs.length := by have := of_decide_eq_true h; omega
  have hat := Yl h3
  have hb1 := Yc (packK xs k)
  have hb2 := packK_len xs k (by omega)
  have hb3 := Yg (encVar (signless xs[k]))
  have hb4 := Yq (signless xs[k])
  refine Wz [29,4,61,2,7] ?_;refine zx (Qj J J (I_Signless xs[k] (hg.2 _ (List.getElem_mem h3))) J) J ?_;refine Wz [56,48,1] ?_
  refine Xb J (fun h4 => ?_) (fun h4 => ?_)
  ·refine Wz [62,83,166,166] ?_
   refine Wz [133,25] ?_
   exact Xn J J (X6 [] (by decide) J J (S_eq (by rw [packInts,all_no h3 (by simpa using h4)]; rfl)))
  ·refine Wz [68,49,0] ?_
   refine zx (Qj J J (Xo (signless xs[k])) J) J ?_;refine X3 J J J J J J J (by omega) (by omega) ?_;refine Wz [51,38] ?_
   exact ⟨xs.length - (k + 1),by omega,_,⟨k + 1,by omega,all_next hp_A h3 (by simpa using h4),J⟩,(by rw [Yf,bE_app,packK_succ h3]; exact X7 [0] (by kernel_rfl))⟩
 ·have h3 : ¬ ((k : Int) < (els xs).length) := of_decide_eq_false h
  have hk : k = xs.length := by omega
  refine Wz [32,7] ?_;refine zx (q_bstr J J J J) J ?_;refine Wz [34] ?_
  exact Xn J J (X6 [] (by decide) J J (S_eq (by rw [packInts,all_end hp_A (by omega),hk]; rfl)))
def sumA (s : ByteArray) : Nat → Int
 | 0 => 0
 | k + 1 => (sumA s k + byteAt s k) % 65521
def sumB (s : ByteArray) : Nat → Int
 | 0 => 0
 | k + 1 => (sumB s k + byteAt s k * (((k : Int) + 1) % 65521)) % 65521
def checksum (s : ByteArray) : Int := sumA s s.size + 65536 * sumB s s.size
theorem sumA_lt (s : ByteArray) : ∀ k,0 ≤ sumA s k ∧ sumA s k < 65521
 | 0 => by simp [sumA]
 | k + 1 => by simp only [sumA]; omega
theorem sumB_lt (s : ByteArray) : ∀ k,0 ≤ sumB s k ∧ sumB s k < 65521
 | 0 => by simp [sumB]
 | k + 1 => by simp only [sumB]; omega
theorem checksum_lt (s : ByteArray) : 0 ≤ checksum s ∧ checksum s < 4294967296 := by
 have := sumA_lt s s.size
 have := sumB_lt s s.size
 unfold checksum
 omega
theorem I_Checksum (s : ByteArray) (hs : s.size ≤ 1099511627776) : Con Tryz.prog 120 [] [astr s] [] (I (checksum s)) := by
 refine Con.of Tryz.func120 J Tryz.ntmps120 J (fun E => ?_)
 refine Wz [11,11,11,20,11,13] ?_;refine Xi (fun m st => ∃ k : Nat,k + m = s.size ∧ (True) ∧ st = (⟨_,[(0,S s),(3,I (sumA s k)),(4,I (sumB s k)),(5,I k)],[]⟩ : St)) (s.size) ⟨_,⟨0,by omega,trivial,J⟩,X7 [] (by kernel_rfl)⟩ ?_
 rintro m_A _ ⟨k,hk_A,hp_A,rfl⟩
 refine Wz [36,80,48,1] ?_
 refine Xb J (fun h => ?_) (fun h => ?_)
 ·have h3 : k < s.size := by have := of_decide_eq_true h; omega
  have hb1 := sumA_lt s k
  have hb2 := sumB_lt s k
  obtain ⟨t,ht⟩ : ∃ t,byteAt s (k : Int).toNat = t := ⟨_,rfl⟩
  have htb : 0 ≤ t ∧ t ≤ 255 := ht ▸ Yh _ _
  have hmul : 0 ≤ t * (((k : Int) + 1) % 65521) ∧ t * (((k : Int) + 1) % 65521) ≤ 255 * 65520 := by
   have h5 : 0 ≤ ((k : Int) + 1) % 65521 ∧ ((k : Int) + 1) % 65521 ≤ 65520 := by omega
   exact ⟨Int.mul_nonneg htb.1 h5.1,Int.mul_le_mul htb.2 h5.2 h5.1 (by omega)⟩
  have e1 : sumA s (k + 1) = (sumA s k + t) % 65521 := by rw [sumA,← ht]; rfl
  have e2 : sumB s (k + 1) = (sumB s k + t * (((k : Int) + 1) % 65521)) % 65521 := by rw [sumB,← ht]; rfl
  refine Wz [29,39,0,141,135,71,122,2,49,0,0,141,135,89,122,92,71,122,51,50] ?_
  exact ⟨s.size - (k + 1),by omega,(fun k : Nat => (⟨_,[(0,S s),(3,I (sumA s k)),(4,I (sumB s k)),(5,I k)],[]⟩ : St)) (k + 1),⟨k + 1,by omega,trivial,J⟩,X8 [] (by decide) J (by kernel_rfl) (.c J (.cons (Xy e1.symm) (.cons (Xy e2.symm) (.c J (.nil)))))⟩
 ·have h3 : ¬ ((k : Int) < s.size) := of_decide_eq_false h
  have hk : k = s.size := by omega
  have hb1 := sumA_lt s k
  have hb2 := sumB_lt s k
  refine Wz [32,39,92,71,34] ?_
  exact Xn J J (X6 [] (by decide) J J (Xy (by rw [checksum,hk])))
end
section
open Go.RowKit

theorem W_pre {st st' : St} {f : List (Nat × V) → St} (h : Wk st st') (k : ∃ l,Wk st' (f l)) : ∃ l,Wk st (f l) := k.imp fun _ hl => h.trans hl
theorem row2b {k : Nat} {o : Ob} {a b : List (List T)} (h : a = b) : [o,Ob.row k a] = [o,Ob.row k b] := by rw [h]
def bodyInts (b : TBody) : List Int := [b.Kind,b.Owner,b.X,b.Y,b.VX,b.VY,b.Aim,b.Life,b.Timer]
def worldInts (w : TWorld) : List Int := ([w.Tick,w.Seed,(w.Scores.length : Int)] ++ w.Scores) ++ w.Bodies.flatMap bodyInts
noncomputable def worldBytes (w : TWorld) : ByteArray := if worldOk w = true then packInts (worldInts w) else ⟨#[]⟩
theorem Yk {α : Type} [Enc α] (xs ys : List α) : els (xs ++ ys) = els xs ++ els ys := List.map_append
theorem flat_snoc {bs : List TBody} {k : Nat} (h : k < bs.length) : (bs.take (k + 1)).flatMap bodyInts = (bs.take k).flatMap bodyInts ++ bodyInts bs[k] := by
 rw [List.take_succ_eq_append_getElem h,List.flatMap_append]
 simp
theorem flat_len (bs : List TBody) : ∀ k,k ≤ bs.length → ((bs.take k).flatMap bodyInts).length = 9 * k
 | 0,_ => by simp
 | k + 1,h => by
  rw [flat_snoc (by omega),List.length_append,flat_len bs k (by omega)]
  simp [bodyInts]
  omega
theorem flat_gd {bs : List TBody} (hg : ∀ b ∈ bs,Enc.gd b) : ∀ x ∈ bs.flatMap bodyInts,I64 x := fun x hx => by
 obtain ⟨b,hb,hx⟩ := List.mem_flatMap.1 hx
 obtain ⟨b1,b2,b3,b4,b5,b6,b7,b8,b9⟩ := hg b hb
 simp only [bodyInts,List.mem_cons,List.not_mem_nil,or_false] at hx
 rcases hx with rfl | rfl | rfl | rfl | rfl | rfl | rfl | rfl | rfl <;> assumption
theorem I_bodyInts (b : TBody) : Con Tryz.prog 133 [] [ag b] [.row 1 (els (bodyInts b))] (.o (.c (.ref 0))) := by
 refine Con.of Tryz.func133 J Tryz.ntmps133 J (fun E => ?_)
 refine Wz [26,2,5,17,17,17,17,17,17,17,17,54,34] ?_
 exact Xn J J (W_pre (Wk.sbrow (q := 1) J J (Nat.le_of_ble_eq_true J)) (X6 [1] (by decide) J J J))
theorem I_WorldBytes (x : TWorld) (hg : Enc.gd x) : Con Tryz.prog 49 [] [ag x] [] (S (worldBytes x)) := by
 have hc := Xv x hg
 obtain ⟨gL,gT,gS,gSc,gB⟩ := hg
 cases ho : worldOk x with
 | false =>
  rw [ho] at hc
  rw [show worldBytes x = ⟨#[]⟩ by rw [worldBytes,ho]; exact if_neg (by decide)]
  refine Con.of Tryz.func49 J Tryz.ntmps49 J (fun E => ?_)
  refine Wz [26,22,15] ?_;refine zx (Qj J J (hc) J) J ?_;refine Wz [14,9,55] ?_
  exact Xn J J (X6 [] (by decide) J J J)
 | true =>
  rw [ho] at hc
  rw [show worldBytes x = packInts (worldInts x) by rw [worldBytes,ho]; exact if_pos rfl]
  obtain ⟨_,_,_,hn,_,hb,_⟩ := Kh ho
  have hls := Ym x.Scores
  have hlb := Ym x.Bodies
  refine Con.of Tryz.func49 J Tryz.ntmps49 J (fun E => ?_)
  refine Wz [26,22,15] ?_;refine zx (Qj J J (hc) J) J ?_;refine Wz [14,35,5,17,17,12,54,2,7,17] ?_
  have hl3 : (els [x.Tick,x.Seed,((els x.Scores).length : Int)]).length = 3 := rfl
  refine AL.weak (Wk.sbrow (q := 1) (es := els [x.Tick,x.Seed,((els x.Scores).length : Int)]) J J (Nat.le_of_ble_eq_true J)) ?_;refine AL.weak (st' := (⟨_,[(1,.o (.c (.ptr 0 0))),(17,.o (.c (.ref 1))),(19,L x.Scores)],[.box ((Enc.e x).map (V1.rd [])),.row 1 (els [x.Tick,x.Seed,((els x.Scores).length : Int)])]⟩ : St)) (X7 [0,1] (by kernel_rfl)) ?_;refine M_app J J J J J J J J J J (Yn _) (els_k _) (by omega) (by omega) ?_;refine Wz [22,5,12,78,13] ?_
  have hini : els (([x.Tick,x.Seed,(x.Scores.length : Int)] ++ x.Scores) ++ (x.Bodies.take 0).flatMap bodyInts) = els [x.Tick,x.Seed,((els x.Scores).length : Int)] ++ els x.Scores := by rw [List.take_zero,List.flatMap_nil,List.append_nil,Yk,hls]
  refine Xi (fun m st => ∃ k : Nat,k + m = x.Bodies.length ∧ (True) ∧ st = (⟨_,[(1,.o (.c (.ptr 0 0))),(3,.o (.c (.ref 1))),(22,L x.Bodies),(23,I (els x.Bodies).length),(24,I k)],[.box ((Enc.e x).map (V1.rd [])),.row 1 (els (([x.Tick,x.Seed,(x.Scores.length : Int)] ++ x.Scores) ++ (x.Bodies.take k).flatMap bodyInts))]⟩ : St)) (x.Bodies.length) ⟨(fun k : Nat => (⟨_,[(1,.o (.c (.ptr 0 0))),(3,.o (.c (.ref 1))),(22,L x.Bodies),(23,I (els x.Bodies).length),(24,I k)],[.box ((Enc.e x).map (V1.rd [])),.row 1 (els (([x.Tick,x.Seed,(x.Scores.length : Int)] ++ x.Scores) ++ (x.Bodies.take k).flatMap bodyInts))]⟩ : St)) 0,⟨0,by omega,trivial,J⟩,X8 [0,1] (by decide) J (row2b hini) (.c J (.c J (.c J (.c J (.c J (.nil))))))⟩ ?_
  rintro m_A _ ⟨k,hk_A,hp_A,rfl⟩
  have hla := Ym (([x.Tick,x.Seed,(x.Scores.length : Int)] ++ x.Scores) ++ (x.Bodies.take k).flatMap bodyInts)
  have hfl := flat_len x.Bodies k (by omega)
  have hlc : (([x.Tick,x.Seed,(x.Scores.length : Int)] ++ x.Scores) ++ (x.Bodies.take k).flatMap bodyInts).length = 3 + x.Scores.length + 9 * k := by
   rw [List.length_append,List.length_append,hfl]; rfl
  refine Wz [4,48,21] ?_
  refine Xb J (fun h => ?_) (fun h => ?_)
  ·have h3 : k < x.Bodies.length := by have := of_decide_eq_true h; omega
   have hat := Yl h3
   have hlb9 : (els (bodyInts x.Bodies[k])).length = 9 := rfl
   refine Wz [29,4,77,107,18,37,49,27] ?_;refine M1 (Zk J J (I_bodyInts x.Bodies[k]) J J J) J J ?_;refine M_app J J J J J J J J J J (Yn _) (els_k _) (by omega) (by omega) ?_;refine Wz [51,38] ?_
   exact ⟨x.Bodies.length - (k + 1),by omega,(fun k : Nat => (⟨_,[(1,.o (.c (.ptr 0 0))),(3,.o (.c (.ref 1))),(22,L x.Bodies),(23,I (els x.Bodies).length),(24,I k)],[.box ((Enc.e x).map (V1.rd [])),.row 1 (els (([x.Tick,x.Seed,(x.Scores.length : Int)] ++ x.Scores) ++ (x.Bodies.take k).flatMap bodyInts))]⟩ : St)) (k + 1),⟨k + 1,by omega,trivial,J⟩,X8 [0,1] (by decide) J (row2b (by rw [flat_snoc h3,← List.append_assoc,Yk _ (bodyInts x.Bodies[k])])) (.c J (.c J (.c J (.c J (.c J (.nil))))))⟩
  ·have h3 : ¬ k < x.Bodies.length := by have := of_decide_eq_false h; omega
   have hk : x.Bodies.take k = x.Bodies := List.take_of_length_le (by omega)
   rw [hk] at hlc hla ⊢
   have hgi : Enc.gd (([x.Tick,x.Seed,(x.Scores.length : Int)] ++ x.Scores) ++ x.Bodies.flatMap bodyInts) := ⟨by omega,fun y hy => by
    rcases List.mem_append.1 hy with hy | hy
    ·rcases List.mem_append.1 hy with hy | hy
     ·simp only [List.mem_cons,List.not_mem_nil,or_false] at hy
      rcases hy with rfl | rfl | rfl
      ·exact gT
      ·exact gS
      ·exact ⟨by omega,by omega⟩
     ·exact gSc.2 y hy
    ·exact flat_gd gB.2 y hy⟩
   have hp := I_PackInts (([x.Tick,x.Seed,(x.Scores.length : Int)] ++ x.Scores) ++ x.Bodies.flatMap bodyInts) hgi (by omega)
   refine Wz [32,7] ?_;refine zx (Qj J J (hp) J) J ?_;refine Wz [34] ?_
   exact Xn J J (X6 [] (by decide) J J J)
end
section
open Go.RowKit

def dvGo (s : ByteArray) (p : Nat) (n : Int) (k : Nat) : Nat → Option (Int × Nat)
 | 0 => none
 | f + 1 => if p + k < s.size then
   (if 128 ≤ byteAt s (p + k) then dvGo s p (n + byteAt s (p + k) % 128 * 2 ^ (7 * k)) (k + 1) f
    else if (byteAt s (p + k) = 0 ∧ 0 < k) ∨ 1099511627775 < n + byteAt s (p + k) % 128 * 2 ^ (7 * k) then none
    else some (n + byteAt s (p + k) % 128 * 2 ^ (7 * k),k + 1)) else none
def decVar (s : ByteArray) (p : Int) : Option (Int × Nat) := if 0 ≤ p ∧ p < s.size then dvGo s p.toNat 0 0 6 else none
@[reducible] def bv (b : Bool) : V1 := .rd [] (.v (.bool b))
@[reducible] def jn (n : Int) : V1 := .rd [] (.v (.int .i64 n))
theorem byteAt_list {s : ByteArray} {i : Nat} (h : i < s.size) : ∃ b : UInt8,s.data.toList[i]? = some b ∧ byteAt s i = (b.toNat : Int) := by
 have h1 : i < s.data.size := h
 refine ⟨s.data[i],by simp [h1],?_⟩
 unfold byteAt
 have : s[i]? = some s.data[i] := by
  rw [getElem?_pos s i h]
  rfl
 rw [this]
 rfl
theorem extract_list (s : ByteArray) (p q : Nat) : (s.extract p q).data.toList = (s.data.toList.drop p).take (q - p) := by
 rw [ByteArray.data_extract,Array.toList_extract]
end
section
open Go.RowKit

def signed (n : Int) : Int := if 0 ≤ n ∧ n ≤ 1099511627775 then (if n % 2 = 0 then n / 2 else -((n + 1) / 2)) else 0
/-! ### Lists -/
/-! ### Texts -/
def unpackText (s : ByteArray) (p : Int) : Option (ByteArray × Nat) := match decVar s p with
 | none => none
 | some (n,k) => if (s.size : Int) - p - k < n then none else some (s.extract (p + k).toNat (p + k + n).toNat,k + n.toNat)
end
section
open Go.RowKit
end
section
open Go.RowKit
end
section
open Go.RowKit
end
section
open Go.RowKit

def colM (rows : List (List Int)) (p : Nat) : List Int := rows.map fun r => r.getD p 0
theorem colM_len (rows : List (List Int)) (p : Nat) : (colM rows p).length = rows.length := by simp [colM]
end
section
open Go.RowKit

/-! ### Numbers -/
/-! ### Lists -/
/-! ### Texts -/
/-! ### Columns -/
/-! ### DecodeStream -/
end
section
open Go.RowKit

theorem els_takeE2 {α : Type} [Enc α] (xs : List α) (n : Nat) : els (xs.take n) = (els xs).take n := List.map_take
end
section
open Go.RowKit

theorem els_snoc {α : Type} [Enc α] {xs : List α} {k : Nat} (h : k < xs.length) : els (xs.take (k + 1)) = els (xs.take k) ++ [Enc.e xs[k]] := by
 rw [List.take_succ_eq_append_getElem h]
 exact List.map_append
theorem I_copyInts (xs : List Int) (hL : xs.length ≤ 1048576) : Con Tryz.prog 126 [] [al xs] [.row 1 (els xs)] (.o (.c (.ref 0))) := by
 have hlx := Ym xs
 refine Con.of Tryz.func126 J Tryz.ntmps126 J (fun E => ?_)
 refine Wz [11,7] ?_;refine M_appnil J J J J J J J J (Yn _) (els_k _) (by omega) (by omega) ?_;refine Wz [34] ?_
 exact Xn J J (X6 [0] (by decide) J J J)
theorem I_copyRows (xs : List (List Int)) (hg : Enc.gd xs) (hL : xs.length ≤ 1048576) (hr : ∀ r ∈ xs,r.length ≤ 1048576) : Con Tryz.prog 125 [] [al xs] [.row 1 (els xs)] (.o (.c (.ref 0))) := by
 have hlx := Ym xs
 refine Con.of Tryz.func125 J Tryz.ntmps125 J (fun E => ?_)
 refine Wz [11,11,28,12,78,13] ?_
 refine AWP.pre ?_ (W_nil 3 1 J)
 refine Xi (fun m st => ∃ k : Nat,k + m = xs.length ∧ (True) ∧ st = (⟨_,[(3,.o (.c (.ref 0))),(6,L xs),(7,I (els xs).length),(8,I k)],[.row 1 (els (xs.take k))]⟩ : St)) (xs.length) ⟨_,⟨0,by omega,trivial,J⟩,X7 [0] (by kernel_rfl)⟩ ?_
 rintro m_A _ ⟨k,hk_A,hp_A,rfl⟩
 have hl2 : (els (xs.take k)).length = k := by rw [Ym]; simp; omega
 refine Wz [4,48,21] ?_
 refine Xb J (fun h => ?_) (fun h => ?_)
 ·have h3 : k < xs.length := by have := of_decide_eq_true h; omega
  have hat := Yl h3
  refine Wz [29,4,61,2,49,0] ?_;refine M1 (Zk J J (I_copyInts xs[k] (hr _ (List.getElem_mem h3))) J J J) J J ?_;refine Wz [54,111,51,38] ?_
  exact ⟨xs.length - (k + 1),by omega,(fun k : Nat => (⟨_,[(3,.o (.c (.ref 0))),(6,L xs),(7,I (els xs).length),(8,I k)],[.row 1 (els (xs.take k))]⟩ : St)) (k + 1),⟨k + 1,by omega,trivial,J⟩,X8 [0] (by decide) J (row_eq (els_snoc h3)) (.c J (.c J (.c J (.c J (.nil)))))⟩
 ·have h3 : ¬ ((k : Int) < (els xs).length) := of_decide_eq_false h
  have hk : xs.take k = xs := List.take_of_length_le (by omega)
  refine Wz [32,7,34] ?_
  exact Xn J J (X6 [0] (by decide) J (row_eq (by rw [hk])) J)
section
variable {P : Program} {ops : Array Oper} {o : Oper} {st : St} {m : Nat} {t e : TypeId} {y z : Operand} {zs : List Value} {by_ : Nat}
end
end
section
open Go.RowKit
end
section
open Go.RowKit

def colF (q : Int → Bool) (row : ByteArray) : Nat → Option Nat
 | 0 => none
 | c + 1 => match colF q row c with
  | some x => some x
  | none => if q (byteAt row c) = true then some c else none
def tileF (q : Int → Bool) (rows : List ByteArray) : Nat → Option (Nat × Nat)
 | 0 => none
 | r + 1 => match tileF q rows r with
  | some x => some x
  | none => match rows[r]? with
   | none => none
   | some row => (colF q row row.size).map fun c => (r,c)
def isOpen (t : Int) : Bool := decide (t ≠ 35)
def isDig (p : Int) (t : Int) : Bool := decide (t = 49 + p)
def spX : Option (Nat × Nat) → Int
 | none => -1
 | some (_,c) => 16 * c + 2
def spY : Option (Nat × Nat) → Int
 | none => -1
 | some (r,_) => 16 * r + 2
def startT (l : TLevel) (p : Int) : Option (Nat × Nat) := match tileF (isDig p) l.Rows l.Rows.length with
 | some x => some x
 | none => tileF isOpen l.Rows l.Rows.length
theorem colF_some {q : Int → Bool} {row : ByteArray} : ∀ {n c : Nat},colF q row n = some c → c < n ∧ q (byteAt row c) = true
 | 0,c,h => by cases h
 | n + 1,c,h => by
  rw [colF] at h
  cases h1 : colF q row n with
  | some x => rw [h1] at h; cases h; have := colF_some h1; exact ⟨by omega,this.2⟩
  | none =>
   rw [h1] at h
   by_cases h2 : q (byteAt row n) = true
   ·rw [if_pos h2] at h; cases h; exact ⟨by omega,h2⟩
   ·rw [if_neg h2] at h; cases h
theorem colF_none {q : Int → Bool} {row : ByteArray} : ∀ {n : Nat},colF q row n = none → ∀ c,c < n → q (byteAt row c) = false
 | 0,h,c,hc => by omega
 | n + 1,h,c,hc => by
  rw [colF] at h
  cases h1 : colF q row n with
  | some x => rw [h1] at h; cases h
  | none =>
   rw [h1] at h
   by_cases h2 : q (byteAt row n) = true
   ·rw [if_pos h2] at h; cases h
   ·by_cases e : c = n
    ·subst e; simpa using h2
    ·exact colF_none h1 c (by omega)
theorem tileF_some {q : Int → Bool} {rows : List ByteArray} : ∀ {n r c : Nat},tileF q rows n = some (r,c) → ∃ h : r < rows.length,r < n ∧ c < rows[r].size ∧ q (byteAt rows[r] c) = true
 | 0,r,c,h => by cases h
 | n + 1,r,c,h => by
  rw [tileF] at h
  cases h1 : tileF q rows n with
  | some x => rw [h1] at h; cases h; obtain ⟨a,b,d⟩ := tileF_some h1; exact ⟨a,by omega,d⟩
  | none =>
   rw [h1] at h
   cases h2 : rows[n]? with
   | none => rw [h2] at h; cases h
   | some row =>
    rw [h2] at h
    simp only [Option.map_eq_some_iff,Prod.mk.injEq] at h
    obtain ⟨c',h3,rfl,rfl⟩ := h
    have hn := (List.getElem?_eq_some_iff.1 h2).1
    have he := (List.getElem?_eq_some_iff.1 h2).2
    have := colF_some h3
    exact ⟨hn,by omega,by rw [he]; exact this.1,by rw [he]; exact this.2⟩
theorem tileF_none {q : Int → Bool} {rows : List ByteArray} : ∀ {n : Nat},tileF q rows n = none → ∀ r (h : r < rows.length),r < n → ∀ c,c < rows[r].size → q (byteAt rows[r] c) = false
 | 0,h,r,hr,hn,c,hc => by omega
 | n + 1,h,r,hr,hn,c,hc => by
  rw [tileF] at h
  cases h1 : tileF q rows n with
  | some x => rw [h1] at h; cases h
  | none =>
   rw [h1] at h
   by_cases e : r = n
   ·subst e
    rw [List.getElem?_eq_getElem hr] at h
    simp only [Option.map_eq_none_iff] at h
    exact colF_none h c hc
   ·exact tileF_none h1 r hr (by omega) c hc
theorem tileM_open {e : Bool} {t : Int} {s s' : Seen × Bool} (h : tileM e t s = some s') (ho : s'.2 = true) : s.2 = true ∨ t ≠ 35 := by
 by_cases ht : t = 35
 ·rw [tileM,if_pos ht] at h; cases h; exact .inl ho
 ·exact .inr ht
theorem cols_open {row : ByteArray} {er : Bool} {w : Nat} {s : Seen × Bool} : ∀ {n : Nat} {s' : Seen × Bool},colsM row er w s n = some s' → s'.2 = true → s.2 = true ∨ ∃ c,c < n ∧ byteAt row c ≠ 35
 | 0,s',h,ho => by cases h; exact .inl ho
 | n + 1,s',h,ho => by
  rw [colsM] at h
  cases h1 : colsM row er w s n with
  | none => rw [h1] at h; cases h
  | some s1 =>
   rw [h1] at h
   rcases tileM_open h ho with h2 | h2
   ·rcases cols_open h1 h2 with h3 | ⟨c,hc,h3⟩
    ·exact .inl h3
    ·exact .inr ⟨c,by omega,h3⟩
   ·exact .inr ⟨n,by omega,h2⟩
theorem rows_open {rows : List ByteArray} {w : Nat} : ∀ {n : Nat} {s : Seen × Bool},rowsM rows w n = some s → s.2 = true → ∃ r c,∃ h : r < rows.length,r < n ∧ c < rows[r].size ∧ byteAt rows[r] c ≠ 35
 | 0,s,h,ho => by cases h; cases ho
 | n + 1,s,h,ho => by
  rw [rowsM] at h
  cases h1 : rowsM rows w n with
  | none => rw [h1] at h; cases h
  | some s1 =>
   rw [h1] at h
   cases h2 : rows[n]? with
   | none => rw [h2] at h; cases h
   | some row =>
    rw [h2] at h
    simp only at h
    split at h
    ·rename_i hw
     have hn := (List.getElem?_eq_some_iff.1 h2).1
     have he := (List.getElem?_eq_some_iff.1 h2).2
     rcases cols_open h ho with h3 | ⟨c,hc,h3⟩
     ·obtain ⟨r,c,a,b,d⟩ := rows_open h1 h3
      exact ⟨r,c,a,by omega,d⟩
     ·exact ⟨n,c,hn,by omega,by rw [he]; omega,by rw [he]; exact h3⟩
    ·cases h
theorem level_open {l : TLevel} (h : levelOk l = true) : ∃ r c,∃ h : r < l.Rows.length,c < (l.Rows[r]).size ∧ byteAt (l.Rows[r]) c ≠ 35 := by
 unfold levelOk at h
 simp only [Bool.and_eq_true] at h
 obtain ⟨_,h5⟩ := h
 split at h5
 ·rename_i s hs
  obtain ⟨r,c,a,b,d⟩ := rows_open hs h5
  exact ⟨r,c,a,d⟩
 ·cases h5
theorem start_some {l : TLevel} (hl : levelOk l = true) {p : Int} (hp : 0 ≤ p ∧ p ≤ 3) : ∃ r c,startT l p = some (r,c) ∧ ∃ h : r < l.Rows.length,c < (l.Rows[r]).size ∧ byteAt (l.Rows[r]) c ≠ 35 := by
 unfold startT
 cases h1 : tileF (isDig p) l.Rows l.Rows.length with
 | some x =>
  obtain ⟨r,c⟩ := x
  obtain ⟨a,b,d,e⟩ := tileF_some h1
  refine ⟨r,c,J,a,d,?_⟩
  have := of_decide_eq_true e
  omega
 | none =>
  cases h2 : tileF isOpen l.Rows l.Rows.length with
  | some x =>
   obtain ⟨r,c⟩ := x
   obtain ⟨a,b,d,e⟩ := tileF_some h2
   exact ⟨r,c,J,a,d,of_decide_eq_true e⟩
  | none =>
   obtain ⟨r,c,a,d,e⟩ := level_open hl
   have := tileF_none h2 r a a c d
   exact absurd e (of_decide_eq_false this)
def openF (rows : List ByteArray) (row : ByteArray) (r c : Nat) : Option (Nat × Nat) := match tileF isOpen rows r with
 | some x => some x
 | none => (colF isOpen row c).map fun c => (r,c)
theorem openF_zero {rows : List ByteArray} {row : ByteArray} {r : Nat} : openF rows row r 0 = tileF isOpen rows r := by
 unfold openF
 cases tileF isOpen rows r <;> rfl
theorem openF_end {rows : List ByteArray} {row : ByteArray} {r : Nat} (h : rows[r]? = some row) : openF rows row r row.size = tileF isOpen rows (r + 1) := by
 rw [openF,tileF,h]
theorem Y9 {rows : List ByteArray} {row : ByteArray} {r c : Nat} {x : Nat × Nat} (h : openF rows row r c = some x) : openF rows row r (c + 1) = some x := by
 unfold openF at h ⊢
 cases h1 : tileF isOpen rows r with
 | some y => rw [h1] at h; exact h
 | none =>
  rw [h1] at h
  simp only [Option.map_eq_some_iff] at h ⊢
  obtain ⟨a,h2,h3⟩ := h
  exact ⟨a,by rw [colF,h2],h3⟩
theorem Za {rows : List ByteArray} {row : ByteArray} {r c : Nat} (h : openF rows row r c = none) : openF rows row r (c + 1) = if byteAt row c = 35 then none else some (r,c) := by
 unfold openF at h ⊢
 cases h1 : tileF isOpen rows r with
 | some y => rw [h1] at h; cases h
 | none =>
  rw [h1] at h
  simp only [Option.map_eq_none_iff] at h
  simp only [colF,h]
  by_cases h2 : byteAt row c = 35
  ·rw [if_pos h2,if_neg (show ¬ isOpen (byteAt row c) = true from fun q => of_decide_eq_true q h2)]; rfl
  ·rw [if_neg h2,if_pos (show isOpen (byteAt row c) = true from decide_eq_true h2)]; rfl
theorem colF_step {q : Int → Bool} {row : ByteArray} {c : Nat} (h : colF q row c = none) (hq : q (byteAt row c) = false) : colF q row (c + 1) = none := by rw [colF,h]; simp [hq]
theorem colF_hit {q : Int → Bool} {row : ByteArray} {c : Nat} (h : colF q row c = none) (hq : q (byteAt row c) = true) : ∀ {n : Nat},c < n → colF q row n = some c
 | 0,hn => by omega
 | n + 1,hn => by
  rw [colF]
  by_cases e : c = n
  ·subst e; rw [h]; simp [hq]
  ·rw [colF_hit h hq (by omega)]
theorem tileF_step {q : Int → Bool} {rows : List ByteArray} {row : ByteArray} {r : Nat} (h : tileF q rows r = none) (hr : rows[r]? = some row) (hc : colF q row row.size = none) : tileF q rows (r + 1) = none := by rw [tileF,h,hr]; simp [hc]
theorem tileF_hit {q : Int → Bool} {rows : List ByteArray} {row : ByteArray} {r c : Nat} (h : tileF q rows r = none) (hr : rows[r]? = some row) (hc : colF q row row.size = some c) : ∀ {n : Nat},r < n → tileF q rows n = some (r,c)
 | 0,hn => by omega
 | n + 1,hn => by
  rw [tileF]
  by_cases e : r = n
  ·subst e; rw [h,hr]; simp [hc]
  ·rw [tileF_hit h hr hc (by omega)]
theorem start_dig {l : TLevel} {p : Int} {row : ByteArray} {r c : Nat} (h : tileF (isDig p) l.Rows r = none) (hr : l.Rows[r]? = some row) (hc : colF (isDig p) row c = none) (hcs : c < row.size) (hb : byteAt row c = 49 + p) : startT l p = some (r,c) := by
 have h1 := colF_hit hc (show isDig p (byteAt row c) = true from decide_eq_true hb) hcs
 rw [startT,tileF_hit h hr h1 (List.getElem?_eq_some_iff.1 hr).1]
theorem start_open {l : TLevel} {p : Int} {n : Nat} (h : tileF (isDig p) l.Rows n = none) (hn : n = l.Rows.length) : startT l p = tileF isOpen l.Rows n := by
 subst hn
 rw [startT,h]
theorem spX_neg {o : Option (Nat × Nat)} : spX o < 0 ↔ o = none := by
 cases o with
 | none => simp [spX]
 | some x => obtain ⟨r,c⟩ := x; simp [spX]; omega
def fresh (l : TLevel) (p : Int) : TBody := ⟨0,p,spX (startT l p),spY (startT l p),0,0,1,3,0⟩
theorem fresh_free {l : TLevel} (hl : levelOk l = true) {p : Int} (hp : 0 ≤ p ∧ p ≤ 3) : solidM l (fresh l p).X (fresh l p).Y 12 = false ∧ (0 ≤ (fresh l p).X ∧ (fresh l p).X ≤ 400) ∧ (0 ≤ (fresh l p).Y ∧ (fresh l p).Y ≤ 400) := by
 obtain ⟨r,c,h1,hr,hc,hb⟩ := start_some hl hp
 obtain ⟨l3,l12,w,w4,w20,hw⟩ := Y2 hl
 have hwr := hw r hr
 rw [fresh,h1]
 refine ⟨solidM_F ?_,by simp only [spX]; omega,by simp only [spY]; omega⟩
 rintro ⟨r',c',a1,a2,a3,a4,hwall⟩
 simp only [spX,spY] at a1 a2 a3 a4
 have e1 : r' = r := by omega
 have e2 : c' = c := by omega
 subst e1 e2
 exact no_wall hr hc hb hwall
def newWorld (l : TLevel) (n : Nat) (seed : Int) : TWorld := ⟨l,0,seed,List.replicate n 0,(List.range n).map fun (k : Nat) => fresh l (k : Int)⟩
theorem newWorld_ok {l : TLevel} {n : Nat} {seed : Int} (hl : levelOk l = true) (hn : 1 ≤ n ∧ n ≤ 4) (hs : inR seed 0 65535 = true) : worldOk (newWorld l n seed) = true := by
 refine worldOk_T ⟨hl,J,hs,by simpa [newWorld] using hn,?_,by simp [newWorld]; omega,?_⟩
 ·simp only [newWorld,scoresOk,List.all_replicate]
  simp [inR]
 ·intro k hk
  have hk4 : k < n := by simpa [newWorld] using hk
  have hlen : (newWorld l n seed).Scores.length = n := by simp [newWorld]
  have hb : (newWorld l n seed).Bodies[k] = fresh l k := by simp [newWorld]
  rw [hlen,hb]
  obtain ⟨h1,h2,h3⟩ := fresh_free hl (p := (k : Int)) (by omega)
  show bodyAt l n k (fresh l k) = true
  rw [bodyAt,if_pos hk4,Bool.and_eq_true]
  refine ⟨?_,decide_eq_true ⟨J,J⟩⟩
  rw [bodyM,show sizeOf (fresh l k).Kind = 12 from rfl,h1]
  have e1 : inR (fresh l (k : Int)).Kind 0 2 = true := rfl
  have e2 : inR (fresh l (k : Int)).Owner 0 ((n : Int) - 1) = true := Y0.2 ⟨by show (0 : Int) ≤ k; omega,by show (k : Int) ≤ n - 1; omega⟩
  have e3 : inR (fresh l (k : Int)).VX (-15) 15 = true := rfl
  have e4 : inR (fresh l (k : Int)).VY (-15) 15 = true := rfl
  have e5 : tailM (fresh l (k : Int)) = true := rfl
  rw [e1,e2,e3,e4,e5]
  rfl
theorem flat_length (bs : List TBody) : (bs.flatMap bodyInts).length = 9 * bs.length := by
 have := flat_len bs bs.length (Nat.le_refl _)
 rwa [List.take_length] at this
end
section
open Go.RowKit

def nextR (s : Int) : Int := if 0 ≤ s ∧ s ≤ 65535 then (s * 25173 + 13849) % 65536 else 0
def belowR (s n : Int) : Int := nextR s / 16 % n
theorem Y7 (s : Int) : 0 ≤ nextR s ∧ nextR s ≤ 65535 := by
 unfold nextR
 split <;> omega
def pressed (i k : Int) : Bool := decide (((i.toNat &&& k.toNat : Nat) : Int) ≠ 0)
noncomputable def steer (l : TLevel) (b : TBody) (i : Int) : TBody × Bool :=
 (⟨b.Kind,b.Owner,b.X,b.Y,
  if (pressed i 1 && !pressed i 2) = true then -3 else if (pressed i 2 && !pressed i 1) = true then 3 else 0,
  if (pressed i 4 && solidM l b.X (b.Y + 1) 12) = true then -9 else min (b.VY + 1) 8,
  if (pressed i 1 && !pressed i 2) = true then -1 else if (pressed i 2 && !pressed i 1) = true then 1 else b.Aim,
  b.Life,
  if (pressed i 8 && decide ((if 0 < b.Timer then b.Timer - 1 else b.Timer) = 0)) = true then 12 else (if 0 < b.Timer then b.Timer - 1 else b.Timer)⟩,
  pressed i 8 && decide ((if 0 < b.Timer then b.Timer - 1 else b.Timer) = 0))
def slide (hit : Int → Bool) (step : Int) : Nat → Int → Int × Bool
 | 0,x => (x,false)
 | n + 1,x => if hit (x + step) = true then (x,true) else slide hit step n (x + step)
theorem slide_hit {hit : Int → Bool} {step x : Int} {n : Nat} (h : hit (x + step) = true) : slide hit step (n + 1) x = (x,true) := by rw [slide,if_pos h]
theorem slide_go {hit : Int → Bool} {step x : Int} {n : Nat} (h : hit (x + step) = false) : slide hit step (n + 1) x = slide hit step n (x + step) := by rw [slide,if_neg (by rw [h]; simp)]
def dirOf (v : Int) : Int := if v < 0 then -1 else 1
noncomputable def moveX (l : TLevel) (b : TBody) : Int × Bool := slide (fun x => solidM l x b.Y (sizeOf b.Kind)) (dirOf b.VX) b.VX.natAbs b.X
noncomputable def moveY (l : TLevel) (b : TBody) : Int × Bool := slide (fun y => solidM l (moveX l b).1 y (sizeOf b.Kind)) (dirOf b.VY) b.VY.natAbs b.Y
noncomputable def moveM (l : TLevel) (b : TBody) : TBody × Bool :=
 (⟨b.Kind,b.Owner,(moveX l b).1,(moveY l b).1,if (moveX l b).2 = true then 0 else b.VX,if (moveY l b).2 = true then 0 else b.VY,b.Aim,b.Life,b.Timer⟩,(moveX l b).2 || (moveY l b).2)
def shotOf (b : TBody) : TBody := ⟨1,b.Owner,b.X + 4,b.Y + 4,6 * b.Aim,0,0,0,25⟩
def meetM (a b : TBody) : Bool :=
 ((decide (a.X < b.X + sizeOf b.Kind) && decide (b.X < a.X + sizeOf a.Kind)) && decide (a.Y < b.Y + sizeOf b.Kind)) && decide (b.Y < a.Y + sizeOf a.Kind)
structure Placed (b : TBody) : Prop where
 k : 0 ≤ b.Kind ∧ b.Kind ≤ 2
 x : 0 ≤ b.X ∧ b.X ≤ 1000
 y : 0 ≤ b.Y ∧ b.Y ≤ 1000
theorem size_pos {k : Int} (h : 0 ≤ k ∧ k ≤ 2) : 4 ≤ sizeOf k ∧ sizeOf k ≤ 12 := by
 unfold sizeOf
 split
 ·omega
 ·split
  ·omega
  ·split <;> omega
def colSp (row : ByteArray) (r : Nat) : Nat → List (List Int)
 | 0 => []
 | c + 1 => if byteAt row c = 111 then colSp row r c ++ [[(c : Int) * 16 + 4,(r : Int) * 16 + 4]] else colSp row r c
def rowSp (rows : List ByteArray) : Nat → List (List Int)
 | 0 => []
 | r + 1 => match rows[r]? with
  | none => rowSp rows r
  | some row => rowSp rows r ++ colSp row r row.size
end
section
open Go.RowKit

section
variable {P : Program} {E : Env} {ops : Array Oper} {o : Oper} {st : St} {n : Nat} {y : Operand}
theorem Qz {p i : Nat} (ho : o.op = .nilCheck y) (hg : o.guard = none) (hy : st.ev y = .o (.c (.ptr p i))) : Qt P ops o st (.o (.c (.ptr p i))) [] n :=
 .pure hg fun a w H F hr => by
  obtain ⟨g,tt,vs,e1,e2⟩ := hr.v1 hy
  exact ⟨.pointer (some ⟨g,i,none⟩),by simp [execOp,ho,e2],g,tt,vs,e1,J⟩
theorem q_nile {p k i j : Nat} (ho : o.op = .nilCheck y) (hg : o.guard = none) (hy : st.ev y = .o (.c (.el p k i j))) : Qt P ops o st (.o (.c (.el p k i j))) [] n :=
 .pure hg fun a w H F hr => by
  obtain ⟨b,o',m',c,x,fp,e1,e2⟩ := hr.v1 hy
  exact ⟨.pointer (some ⟨b,o' + i * k + j,none⟩),by simp [execOp,ho,e2],b,o',m',c,x,fp,e1,J⟩
end
structure Mid (st' : St) (e : Exit) (st : St) : Prop where
 h : e = .normal ∧ Wk st st'
section
variable {P : Program} {E : Env} {st st' : St}
theorem Mid.n (h : Wk st st') : Mid st' .normal st := ⟨rfl,h⟩
theorem A_join {c d : Code} {Q Q' : Exit → St → Prop} (st' : St) (h1 : AWP P E c (Mid st') st) (h2 : AWP P E d Q' st') : AWP P E c (thn (AWP P E d Q') Q) st :=
 AWP.mono (fun e s h => by obtain ⟨rfl,hw⟩ := h.h; exact ⟨AWP.weak hw h2⟩) h1
end
end
end Go.Proofs.YtpmacgnmlmmojaaGreatDoor
