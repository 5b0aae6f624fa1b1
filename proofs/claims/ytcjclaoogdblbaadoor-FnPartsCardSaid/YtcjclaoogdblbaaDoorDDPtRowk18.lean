/-
  Parts of the proof (rules, data, and what functions of the program and of the reference return), among them: What ReadWorld returns, as data; Clone of lists; Where players begin, and new worlds, as data; a new world is valid and is read back from its bytes.
  Conditions: those that each theorem names.
-/
import Derived.Lib.LazyBuf
import Derived.Test.YtcjclaoogdblbaaDoorDDPtRowk13
import Derived.Test.YtcjclaoogdblbaaDoorDDPtRowk14
import Derived.Test.YtcjclaoogdblbaaDoorDDPtRowk15
import Derived.Test.YtcjclaoogdblbaaDoorDDPtRowk17
set_option linter.unusedSimpArgs false
set_option linter.unusedVariables false
set_option maxRecDepth 8000
set_option maxHeartbeats 8000000
namespace Go.Proofs.YtcjclaoogdblbaaDoor
section
open Go.RowKit

def V1.tosr (q : Nat) : V1 → V1
 | .sb p n k => match Nat.beq p q with
  | true => match k with
   | 1 => .ref q
   | _ => .un
  | false => (V1.sb p n k).kill [q]
 | x => x.kill [q]
theorem Wk.sbrow {st : St} {q : Nat} {cs : List V1} {es : List (List T)} (hq : st.objs[q]? = some (.box cs)) (hs : sbE cs = some es) (hm : cs.length ≤ maxLen) : Wk st ⟨st.n,st.tmps.map fun t => (t.1,t.2.mapk (V1.tosr q)),(st.objs.map (Ob.mapk (V1.tosr q))).set q (.row 1 es)⟩ := by
 intro w H F a h1
 obtain ⟨hel,hes⟩ := sbE_ok cs es hs
 have hb := h1.obs q
 rw [Ye hq] at hb
 obtain ⟨g,t,vs,e1,e2,e3⟩ := hb
 have hsay := h1.ok.says q
 rw [e1] at hsay
 have hg : w.heap[g]? = some (.cells vs.toArray t (0,0)) := hsay
 have hqlt := Yf hq
 have hplain : ∀ (i : Nat) (e : List T),es[i]? = some e → ∃ u,vs[i]? = some u ∧ e = [.v u] ∧ u.oneCell' = true := fun i e hi => by
  obtain ⟨ps,u,h2,h3⟩ := hes i e hi
  have hil := Yf h2
  have hiv : vs[i]? = some (vs[i]'(by omega)) := List.getElem?_eq_getElem (by omega)
  obtain ⟨h4,h5⟩ := e3 i _ _ h2 hiv
  obtain ⟨h6,h7⟩ := RO.plain h4
  exact ⟨u,by rw [hiv,h6],h3,h7⟩
 obtain ⟨f,hf⟩ : ∃ f : Nat → Value,f = fun i => vs.getD i undef := ⟨_,rfl⟩
 have hOW : ∃ fp,OW w (.sl 1 es) (.slice (some ⟨g,0,none⟩) es.length vs.length) fp ∧ (∀ b ∈ fp,b = g) ∧ fp.Nodup := by
  refine ⟨g :: (List.replicate es.length [([] : List Nat)]).flatten.flatten,OW.sl es g 0 1 vs.length t vs.toArray (0,0) (fun i _ => vs.getD i undef) (List.replicate es.length [[]]) hg (.inl J) (by omega) (by omega) (by simp) (by omega) (fun e he => ?_) (by simp) (fun fs hfs => by rw [List.eq_of_mem_replicate hfs]; rfl) (fun i j hi hj => ?_) (fun i j e tt fs ff k1 k2 k3 k4 => ?_),?_,?_⟩
  ·obtain ⟨i,hi⟩ := List.getElem?_of_mem he
   obtain ⟨u,_,h3,_⟩ := hplain i e hi
   rw [h3]; rfl
  ·have h2 : i < vs.length := by omega
   have h3 : j = 0 := by omega
   subst h3
   simp [List.getD_eq_getElem?_getD,h2]
  ·obtain ⟨u,h3,h4,h5⟩ := hplain i e k1
   subst h4
   have hj : j = 0 := by have := Yf k2; simp at this; exact this
   subst hj
   simp at k2
   subst k2
   have hfs : fs = [[]] := List.eq_of_mem_replicate (Yg k3)
   subst hfs
   simp at k4
   subst k4
   have h6 : vs.getD i undef = u := Ye h3
   rw [h6]
   exact .v u h5
  ·intro b hb
   simpa using hb
  ·simp
 obtain ⟨fp,hO,hfp,hnd⟩ := hOW
 have hkeep : Keeps w w [g] := ⟨rfl,rfl,rfl,Nat.le_refl _,fun _ _ _ => rfl⟩
 obtain ⟨hok,htn⟩ := h1.ok.turn (p := q) (fp := [g]) (by rw [e1]; rfl) hkeep (.ow (.sl 1 es) (.slice (some ⟨g,0,none⟩) es.length vs.length) fp) hO hnd trivial (fun b hb => .inl (by simp [hfp b hb]))
 have hone : ∀ x v,R1 w H F x v → R1 w (H.put q (.ow (.sl 1 es) (.slice (some ⟨g,0,none⟩) es.length vs.length) fp)) F (V1.tosr q x) v := fun x v hx => by
  cases x with
  | sb p n k =>
   simp only [V1.tosr]
   split
   ·rename_i hp
    have hpq := Nat.eq_of_beq_eq_true hp
    subst hpq
    split
    ·obtain ⟨g',t',vs',k1,k2,k3,k4⟩ := hx
     rw [e1] at k1
     simp only [Pc.box.injEq] at k1
     obtain ⟨rfl,rfl,rfl⟩ := k1
     have hn : n = es.length := by omega
     have hvn : vs.length = es.length := by omega
     rw [k4,hn]
     exact ⟨.sl 1 es,fp,by rw [Hs.put_self,hvn]⟩
    ·trivial
   ·exact R1.killed h1.ok htn hx
  | _ => exact R1.killed h1.ok htn hx
 refine ⟨_,h1.mapk (V1.tosr q) hone hok ((st.objs.map (Ob.mapk (V1.tosr q))).set q (.row 1 es)) (fun p => ?_),fun p b hb => ?_,htn.gh⟩
 ·by_cases hpq : p = q
  ·subst hpq
   rw [Ye (x := .row 1 es) (by simp [hqlt])]
   exact ⟨_,_,Hs.put_self _ _ _⟩
  ·rw [List.getD_eq_getElem?_getD,List.getElem?_set_ne (Ne.symm hpq),List.getElem?_map]
   have h2 := h1.obs p
   rw [List.getD_eq_getElem?_getD] at h2
   have h3 := Hs.put_ne H (.ow (.sl 1 es) (.slice (some ⟨g,0,none⟩) es.length vs.length) fp) hpq
   cases ho : st.objs[p]? with
   | none => rw [ho] at h2; exact h3.trans h2
   | some ob => rw [ho] at h2; exact RB.mapk hone h3 h2
 ·by_cases hpq : p = q
  ·subst hpq
   rw [Hs.put_self] at hb
   exact ⟨p,by rw [e1,hfp b hb]; simp [Pc.fp]⟩
  ·exact ⟨p,by rw [← Hs.put_ne H _ hpq]; exact hb⟩
section
variable {P : Program} {ops : Array Oper} {o : Oper} {st : St} {n : Nat} {t t' : TypeId} {y z : Operand} {ps qs : List Nat}
end
end
section
open Go.RowKit

theorem row2p {k : Nat} {o : Ob} {a b : List (List T)} (h : a = b) : [o,Ob.row k a] = [o,Ob.row k b] := by rw [h]
def seedB : ByteArray := bs [115,101,101,100]
def scoreN (k : Nat) : ByteArray := bs [115,99,111,114,101,32] ++ fmtN k
def bodyN (k : Nat) : ByteArray := bs [98,111,100,121,32] ++ fmtN k
def partsTo (n m : Nat) : List ByteArray := (seedB :: (List.range n).map scoreN) ++ (List.range m).map bodyN
noncomputable def partsOf (w : TWorld) : List ByteArray := if worldOk w = true then partsTo w.Scores.length w.Bodies.length else []
theorem Yp (n m : Nat) : (partsTo n m).length = 1 + n + m := by simp [partsTo]; omega
theorem partsTo_n (n : Nat) : partsTo (n + 1) 0 = partsTo n 0 ++ [scoreN n] := by simp [partsTo,List.range_succ]
theorem partsTo_m (n m : Nat) : partsTo n (m + 1) = partsTo n m ++ [bodyN m] := by simp [partsTo,List.range_succ]
theorem parts_next {n m : Nat} {l : List ByteArray} {x : ByteArray} (h : l = partsTo n m ++ [x]) : els l = els (partsTo n m) ++ [Enc.e x] := by rw [h]; simp [els]
theorem I_PartsOf (x : TWorld) (hg : Enc.gd x) : Con Tryd.prog 28 [] [ag x] [.row 1 (els (partsOf x))] (.o (.c (.ref 0))) := by
 have hc := I_WorldOk x hg
 cases ho : worldOk x with
 | false =>
  rw [ho] at hc
  rw [show partsOf x = [] by rw [partsOf,ho]; exact if_neg (by decide)]
  refine Con.of Tryd.func28 J Tryd.ntmps28 J (fun E => ?_)
  refine zy (M1 (Qq J J J J) J J (z1 J (zz (Qd (zy (z4 J J J ?_))))));refine zx (Qj J J (hc) J) J ?_;refine zn J (zz (Qm J (zy (z1 J (zz (Xa (T_r (F_r ?_))))))))
  exact Xl J J (W_fill [1] [1] J J (by decide) J J J)
 | true =>
  rw [ho] at hc
  rw [show partsOf x = partsTo x.Scores.length x.Bodies.length by rw [partsOf,ho]; exact if_pos rfl]
  obtain ⟨_,_,_,hn,_,hb,_⟩ := Zl ho
  have hls := X7 x.Scores
  have hlb := X7 x.Bodies
  refine Con.of Tryd.func28 J Tryd.ntmps28 J (fun E => ?_)
  refine zy (M1 (Qq J J J J) J J (z1 J (zz (Qd (zy (z4 J J J ?_))))));refine zx (Qj J J (hc) J) J ?_;refine zn J (zz (Ql J (Qh (Q0 (zy (M1 (Yt J J J J J J) J J (z1 J (zz ?_))))))));refine Qd (zy (z2 J J J (z3 J (zx (Y2 J J J) J (z0 J (zz (Qk ?_)))))))
  refine AWP.pre ?_ (Wk.sbrow (q := 1) (es := els [seedB]) J J (Nat.le_of_ble_eq_true J))
  refine Xi (fun m st => ∃ k : Nat,k + m = x.Scores.length ∧ (True) ∧ st = (⟨_,[(1,.o (.c (.ptr 0 0))),(3,.o (.c (.ref 1))),(12,I (els x.Scores).length),(13,I k)],[.box ((Enc.e x).map (V1.rd [])),.row 1 (els (partsTo k 0))]⟩ : St)) (x.Scores.length) ⟨_,⟨0,by omega,trivial,J⟩,Xt [0,1] (by kernel_rfl)⟩ ?_
  rintro m_A _ ⟨k,hk_A,hp_A,rfl⟩
  have hpl := Yp k 0
  have hle := X7 (partsTo k 0)
  refine zy (zx (Y7 J J J J) J (zz (Qd ?_)))
  refine Xb J (fun h => ?_) (fun h => ?_)
  ·have h3 : k < x.Scores.length := by have := of_decide_eq_true h; omega
   have hf := Xm k (by omega)
   have hfs := Yd k
   refine Qh (Q0 (Qd (Qk (zy (z0 J (z1 J (zz (Qc (z0 J ?_)))))))));refine z0 J ?_;refine zx (Qj J J (hf) J) J ?_
   refine M0 (q_cat J J J J (by simp only [Xz,X4,List.length_cons,List.length_nil,List.length_append]; omega)) J J ?_
   refine M1 (Yt J J J J J J) J J ?_;refine Xp J J J J J J J J J J (by omega) (by omega) ?_;refine z1 J (Qe (Q1 (Q0 (Qc (z7 J (by omega) (z0 J (zz ?_)))))))
   exact ⟨x.Scores.length - (k + 1),by omega,(fun k : Nat => (⟨_,[(1,.o (.c (.ptr 0 0))),(3,.o (.c (.ref 1))),(12,I (els x.Scores).length),(13,I k)],[.box ((Enc.e x).map (V1.rd [])),.row 1 (els (partsTo k 0))]⟩ : St)) (k + 1),⟨k + 1,by omega,trivial,J⟩,Xu [0,1] (by decide) J (row2p (parts_next (partsTo_n k))) (.c J (.c J (.c J (.c J (.nil)))))⟩
  ·have h3 : ¬ k < x.Scores.length := by have := of_decide_eq_false h; omega
   have hk : k = x.Scores.length := by omega
   rw [hk]
   refine Q9 (T_x (T_x (Xj (Q0 (Qd (zy (z2 J J J (z3 J (zx (Y2 J J J) J (z0 J ?_))))))))));refine zz (Qk ?_);refine Xi (fun m st => ∃ j : Nat,j + m = x.Bodies.length ∧ (True) ∧ st = (⟨_,[(1,.o (.c (.ptr 0 0))),(3,.o (.c (.ref 1))),(25,I (els x.Bodies).length),(26,I j)],[.box ((Enc.e x).map (V1.rd [])),.row 1 (els (partsTo x.Scores.length j))]⟩ : St)) (x.Bodies.length) ⟨_,⟨0,by omega,trivial,J⟩,Xt [0,1] (by kernel_rfl)⟩ ?_
   rintro m_B _ ⟨j,hk_B,hp_B,rfl⟩
   have hpl2 := Yp x.Scores.length j
   have hle2 := X7 (partsTo x.Scores.length j)
   refine zy (zx (Y7 J J J J) J (zz (Qd ?_)))
   refine Xb J (fun h => ?_) (fun h => ?_)
   ·have h3 : j < x.Bodies.length := by have := of_decide_eq_true h; omega
    have hf := Xm j (by omega)
    have hfs := Yd j
    refine Qh (Q0 (Qd (Qk (zy (z0 J (z1 J (zz (Qc (z0 J ?_)))))))));refine z0 J ?_;refine zx (Qj J J (hf) J) J ?_
    refine M0 (q_cat J J J J (by simp only [Xz,X4,List.length_cons,List.length_nil,List.length_append]; omega)) J J ?_
    refine M1 (Yt J J J J J J) J J ?_;refine Xp J J J J J J J J J J (by omega) (by omega) ?_;refine z1 J (Qe (Q1 (Q0 (Qc (z7 J (by omega) (z0 J (zz ?_)))))))
    exact ⟨x.Bodies.length - (j + 1),by omega,(fun j : Nat => (⟨_,[(1,.o (.c (.ptr 0 0))),(3,.o (.c (.ref 1))),(25,I (els x.Bodies).length),(26,I j)],[.box ((Enc.e x).map (V1.rd [])),.row 1 (els (partsTo x.Scores.length j))]⟩ : St)) (j + 1),⟨j + 1,by omega,trivial,J⟩,Xu [0,1] (by decide) J (row2p (parts_next (partsTo_m x.Scores.length j))) (.c J (.c J (.c J (.c J (.nil)))))⟩
   ·have h3 : ¬ j < x.Bodies.length := by have := of_decide_eq_false h; omega
    have hm : j = x.Bodies.length := by omega
    rw [hm]
    refine Q9 (T_x (T_x (Xj (Q0 (zy (z0 J (z1 J (zz (Xa ?_)))))))));refine F_r ?_
    exact Xl J J (Xs [1] (by decide) J J J)
end
section
open Go.RowKit

def varN (n : Nat) : List UInt8 := if n < 128 then [UInt8.ofNat n] else UInt8.ofNat (n % 128 + 128) :: varN (n / 128)
termination_by n
decreasing_by omega
def encVar (n : Int) : List UInt8 := if 0 ≤ n ∧ n ≤ 1099511627775 then varN n.toNat else []
theorem varN_small {n : Nat} (h : n < 128) : varN n = [UInt8.ofNat n] := by rw [varN,if_pos h]
theorem varN_big {n : Nat} (h : ¬ n < 128) : varN n = UInt8.ofNat (n % 128 + 128) :: varN (n / 128) := by rw [varN,if_neg h]
theorem varN_step {acc : List UInt8} {m : Nat} {l : List UInt8} (h : acc ++ varN m = l) (hm : ¬ m < 128) {x : UInt8} (hx : x = UInt8.ofNat (m % 128 + 128)) : (acc ++ [x]) ++ varN (m / 128) = l := by
 rw [← h,varN_big hm,hx]; simp
theorem varN_end {acc : List UInt8} {m : Nat} {l : List UInt8} (h : acc ++ varN m = l) (hm : m < 128) {x : UInt8} (hx : x = UInt8.ofNat m) : acc ++ [x] = l := by
 rw [← h,varN_small hm,hx]

theorem I_EncodeVarint (n : Int) : Con Tryd.prog 110 [] [ai n] [] (S (bs (encVar n))) := by
 refine Con.of Tryd.func110 J Tryd.ntmps110 J (fun E => ?_)
 refine zy (z1 J (zz (Qd (zy (z0 J (zx (Y7 J J J J) J (z0 J ?_)))))));refine zx (Qt.grdF J J J .stop (fun hgrd => Qa J J J)) J ?_;refine zx (Qt.grdF J J J (.hit .stop) (fun hgrd => q_gtr J J J J)) J ?_;refine zx (Za J J J J) J (zz ?_)
 refine Xb J (fun h => ?_) (fun h => ?_)
 ·simp only [Bool.or_eq_true,decide_eq_true_eq] at h
  refine zy (z1 J (zz (Xa (T_r (F_r ?_)))))
  exact Xl J J (Xs [] (by decide) J J (S_eq (by rw [encVar,if_neg (by omega)])))
 simp only [Bool.or_eq_false_iff,decide_eq_false_iff_not] at h
 have he : encVar n = varN n.toNat := by rw [encVar,if_pos (by omega)]
 rw [he]
 refine Qh (Q0 (zy (z1 J (zz (Qd (Qk ?_))))))
 refine AWP.pre ?_ (W_nil 3 1 J)
 refine Xi (fun m__ st => ∃ (m : Nat) (acc : List UInt8),m = m__ ∧ (acc ++ varN m = varN n.toNat ∧ acc.length + m ≤ 1099511627775) ∧ st = (⟨_,[(0,I m),(3,.o (.c (.ref 0)))],[.row 1 (bE acc)]⟩ : St)) _ ⟨(fun (m : Nat) (acc : List UInt8) => (⟨_,[(0,I m),(3,.o (.c (.ref 0)))],[.row 1 (bE acc)]⟩ : St)) (n.toNat) ([]),⟨n.toNat,[],J,⟨J,by simp <;> omega⟩,J⟩,Xu [0] (by decide) J (by kernel_rfl) (.cons (Xo (by omega)) (.c J (.nil)))⟩ ?_
 rintro m_A _ ⟨m,acc,hk_A,hp_A,rfl⟩
 refine Qd (zy (z0 J (zx (q_geq J J J J) J (zz ?_))))
 refine Xb J (fun h5 => ?_) (fun h5 => ?_)
 ·have h5 : ¬ m < 128 := by have := of_decide_eq_true h5; omega
  have hl := bE_len acc
  refine Qh (Q0 (Qk (zy (z0 J (z0 J (zx (q_rem J J J J (by omega)) J (z7 J (by omega) (zx (Yw J J J J (wrap_u8_in (by omega))) J (M1 (Yt J J J J J J) J J ?_)))))))));refine Xp J J J J J J J J J J (by omega) (by omega) ?_;refine z1 J (zz (Qc (z0 J (zx (q_quo J J J J (by omega)) J (z1 J (Qe (Q1 (Q0 ?_))))))))
  refine ⟨_,(by omega),(fun (m : Nat) (acc : List UInt8) => (⟨_,[(0,I m),(3,.o (.c (.ref 0)))],[.row 1 (bE acc)]⟩ : St)) (m / 128) (acc ++ [UInt8.ofNat ((m : Int) % 128 + 128).toNat]),⟨m / 128,acc ++ [UInt8.ofNat ((m : Int) % 128 + 128).toNat],J,⟨varN_step hp_A.1 h5 (by congr 1 <;> omega),by have := hp_A.2; simp <;> omega⟩,J⟩,Xu [0] (by decide) J (row_eq (bE_snoc _ _ (by omega)).symm) (.cons (Xo (by omega)) (.c J (.nil)))⟩
 ·have h5 : m < 128 := by have := of_decide_eq_false h5; omega
  have hl := bE_len acc
  have hb := hp_A.2
  refine Q9 (T_x (T_x (Xj (Q0 (zy (z0 J (z0 J (zx (Yw J J J J (wrap_u8_in (by omega))) J (M1 (Yt J J J J J J) J J ?_)))))))));refine Xp J J J J J J J J J J (by omega) (by omega) ?_;refine z1 J (zz (zy (z0 J (zx (q_bstr J J J J) J (z1 J (zz (Xa (F_r ?_))))))))
  exact Xl J J (Xs [] (by decide) J J (S_eq (congrArg bs (varN_end hp_A.1 h5 (by congr 1)))))
theorem varN_pow : ∀ (j n : Nat),n < 128 ^ (j + 1) → (varN n).length ≤ j + 1
 | 0,n,h => by rw [varN_small (by omega)]; simp
 | j + 1,n,h => by
  by_cases hn : n < 128
  ·rw [varN_small hn]; simp
  ·rw [varN_big hn,List.length_cons]
   have := varN_pow j (n / 128) (by rw [Nat.pow_succ] at h; omega)
   omega
theorem encVar_len (n : Int) : (encVar n).length ≤ 6 := by
 unfold encVar
 split
 ·exact varN_pow 5 _ (by omega)
 ·simp
def signless (n : Int) : Int := if -549755813888 ≤ n ∧ n ≤ 549755813887 then (if 0 ≤ n then 2 * n else -2 * n - 1) else -1
theorem I_Signless (n : Int) (hn : I64 n) : Con Tryd.prog 111 [] [ai n] [] (I (signless n)) := by
 obtain ⟨hn1,hn2⟩ := hn
 refine Con.of Tryd.func111 J Tryd.ntmps111 J (fun E => ?_)
 refine zy (z1 J (zz (Qd (zy (z0 J (zx (Y7 J J J J) J (z0 J ?_)))))));refine zx (Qt.grdF J J J .stop (fun hgrd => Qa J J J)) J ?_;refine zx (Qt.grdF J J J (.hit .stop) (fun hgrd => q_gtr J J J J)) J ?_;refine zx (Za J J J J) J (zz ?_)
 refine Xb J (fun h => ?_) (fun h => ?_)
 ·simp only [Bool.or_eq_true,decide_eq_true_eq] at h
  refine zy (z1 J (zz (Xa (T_r (F_r ?_)))))
  exact Xl J J (Xs [] (by decide) J J (Xo (by rw [signless,if_neg (by omega)])))
 simp only [Bool.or_eq_false_iff,decide_eq_false_iff_not] at h
 refine Qh (Q0 (Qd (zy (z0 J (zx (q_geq J J J J) J (zz ?_))))))
 refine Xb J (fun h1 => ?_) (fun h1 => ?_)
 ·have h1 := of_decide_eq_true h1
  refine zy (z0 J (zx (Y8 J J J J (by omega)) J (z1 J (zz (Xa (T_r (F_r ?_)))))))
  exact Xl J J (Xs [] (by decide) J J (Xo (by rw [signless,if_pos (by omega),if_pos (by omega)])))
 ·have h1 := of_decide_eq_false h1
  refine Qh (Q0 (zy (z0 J (zx (Y8 J J J J (by omega)) J (z8 J (by omega) (z1 J (zz (Xa (F_r ?_)))))))))
  exact Xl J J (Xs [] (by decide) J J (Xo (by rw [signless,if_pos (by omega),if_neg (by omega)])))
def packK (xs : List Int) (k : Nat) : List UInt8 := encVar xs.length ++ (xs.take k).flatMap fun x => encVar (signless x)
def packInts (xs : List Int) : ByteArray := if xs.all (fun x => decide (0 ≤ signless x)) then bs (packK xs xs.length) else bs []
theorem packK_succ {xs : List Int} {k : Nat} (h : k < xs.length) : packK xs (k + 1) = packK xs k ++ encVar (signless xs[k]) := by
 unfold packK
 rw [List.take_succ_eq_append_getElem h,List.flatMap_append,List.append_assoc]
 simp
theorem packK_len (xs : List Int) : ∀ k,k ≤ xs.length → (packK xs k).length ≤ 6 * k + 6
 | 0,_ => by simp [packK]; exact encVar_len _
 | k + 1,h => by
  rw [packK_succ (by omega),List.length_append]
  have := packK_len xs k (by omega)
  have := encVar_len (signless xs[k])
  omega
theorem packInts_size (xs : List Int) : (packInts xs).size ≤ 6 * xs.length + 6 := by
 unfold packInts
 split
 ·rw [Xz]; exact packK_len xs _ (Nat.le_refl _)
 ·rw [Xz]; simp
theorem I_PackInts (xs : List Int) (hg : Enc.gd xs) (hL : xs.length ≤ 1073741824) : Con Tryd.prog 72 [] [al xs] [] (S (packInts xs)) := by
 have hlx := X7 xs
 have h1 := Xz (encVar (els xs).length)
 have h2 := encVar_len (els xs).length
 refine Con.of Tryd.func72 J Tryd.ntmps72 J (fun E => ?_)
 refine zy (z1 J (zz (zy (z0 J (zx (Y2 J J J) J ?_)))));refine zx (Qj J J (I_EncodeVarint (els xs).length) J) J ?_;refine M1 (q_strb J J J (by omega)) J J (z1 J (zz (Qd (zy (z0 J (zx (Y2 J J J) J (z0 J (zz ?_))))))));refine Qk ?_
 refine Xi (fun m st => ∃ k : Nat,k + m = xs.length ∧ ((xs.take k).all (fun x => decide (0 ≤ signless x)) = true) ∧ st = (⟨_,[(3,.o (.c (.ref 0))),(11,L xs),(12,I (els xs).length),(13,I k)],[.row 1 (bE (packK xs k))]⟩ : St)) (xs.length) ⟨(fun k : Nat => (⟨_,[(3,.o (.c (.ref 0))),(11,L xs),(12,I (els xs).length),(13,I k)],[.row 1 (bE (packK xs k))]⟩ : St)) 0,⟨0,by omega,by simp,J⟩,Xu [0] (by decide) J (row_eq (by rw [bs_list,hlx]; simp [packK])) (.c J (.c J (.c J (.c J (.nil)))))⟩ ?_
 rintro m_A _ ⟨k,hk_A,hp_A,rfl⟩
 refine zy (zx (Y7 J J J J) J (zz (Qd ?_)))
 refine Xb J (fun h => ?_) (fun h => ?_)
 ·have h3 : k < xs.length := by have := of_decide_eq_true h; omega
  have hat := X6 h3
  have hb1 := bE_len (packK xs k)
  have hb2 := packK_len xs k (by omega)
  have hb3 := Xz (encVar (signless xs[k]))
  have hb4 := encVar_len (signless xs[k])
  refine Qh (Q0 (Qd (Qk (zy (zx (Q2 J J J J (by omega) (by assumption) J) J (zx (Y6 J J J J) J (z1 J (zz (Qd ?_)))))))));refine Qc (z0 J ?_);refine zx (Qj J J (I_Signless xs[k] (hg.2 _ (List.getElem_mem h3))) J) J ?_;refine z1 J (zz (Qd (zy (z0 J (zx (Y7 J J J J) J (zz ?_))))))
  refine Xb J (fun h4 => ?_) (fun h4 => ?_)
  ·refine zy (z1 rfl (zz (Xa (T_r (B_r (T_r (T_r ?_)))))))
   refine B_r (T_r (F_r ?_))
   exact Xl J J (Xs [] (by decide) J J (S_eq (by rw [packInts,all_no h3 (by simpa using h4)]; rfl)))
  ·refine Qh (Q0 (Qc (z0 rfl (z0 rfl ?_))))
   refine zx (Qj J J (I_EncodeVarint (signless xs[k])) J) J ?_;refine M_appstr J J J J J J J (by omega) (by omega) ?_;refine z1 J (Qe (Q1 (Q0 (Qc (z7 J (by omega) (z0 J (zz ?_)))))))
   exact ⟨xs.length - (k + 1),by omega,_,⟨k + 1,by omega,all_next hp_A h3 (by simpa using h4),J⟩,(by rw [bs_list,bE_app,packK_succ h3]; exact Xt [0] (by kernel_rfl))⟩
 ·have h3 : ¬ ((k : Int) < (els xs).length) := of_decide_eq_false h
  have hk : k = xs.length := by omega
  refine Q9 (T_x (T_x (Xj (Q0 (zy (z0 J (zx (q_bstr J J J J) J (z1 J (zz ?_)))))))));refine Xa (F_r ?_)
  exact Xl J J (Xs [] (by decide) J J (S_eq (by rw [packInts,all_end hp_A (by omega),hk]; rfl)))
def sumA (s : ByteArray) : Nat → Int
 | 0 => 0
 | k + 1 => (sumA s k + byteAt s k) % 65521
def sumB (s : ByteArray) : Nat → Int
 | 0 => 0
 | k + 1 => (sumB s k + byteAt s k * (((k : Int) + 1) % 65521)) % 65521
def checksum (s : ByteArray) : Int := sumA s s.size + 65536 * sumB s s.size
theorem sumA_lt (s : ByteArray) : ∀ k,0 ≤ sumA s k ∧ sumA s k < 65521
 | 0 => by simp [sumA]
 | k + 1 => by simp only [sumA]; omega
theorem sumB_lt (s : ByteArray) : ∀ k,0 ≤ sumB s k ∧ sumB s k < 65521
 | 0 => by simp [sumB]
 | k + 1 => by simp only [sumB]; omega
theorem I_Checksum (s : ByteArray) (hs : s.size ≤ 1099511627776) : Con Tryd.prog 71 [] [astr s] [] (I (checksum s)) := by
 refine Con.of Tryd.func71 J Tryd.ntmps71 J (fun E => ?_)
 refine zy (z1 J (zz (zy (z1 J (zz (zy ?_))))));refine z1 J (zz (Qd (zy (z1 J (zz (Qk ?_))))));refine Xi (fun m st => ∃ k : Nat,k + m = s.size ∧ (True) ∧ st = (⟨_,[(0,S s),(3,I (sumA s k)),(4,I (sumB s k)),(5,I k)],[]⟩ : St)) (s.size) ⟨_,⟨0,by omega,trivial,J⟩,Xt [] (by kernel_rfl)⟩ ?_
 rintro m_A _ ⟨k,hk_A,hp_A,rfl⟩
 refine Qd (zy (z0 J (z0 J (zx (Y4 J J J) J (zx (Y7 J J J J) J (zz ?_))))))
 refine Xb J (fun h => ?_) (fun h => ?_)
 ·have h3 : k < s.size := by have := of_decide_eq_true h; omega
  have hb1 := sumA_lt s k
  have hb2 := sumB_lt s k
  obtain ⟨t,ht⟩ : ∃ t,byteAt s (k : Int).toNat = t := ⟨_,rfl⟩
  have htb : 0 ≤ t ∧ t ≤ 255 := ht ▸ X0 _ _
  have hmul : 0 ≤ t * (((k : Int) + 1) % 65521) ∧ t * (((k : Int) + 1) % 65521) ≤ 255 * 65520 := by
   have h5 : 0 ≤ ((k : Int) + 1) % 65521 ∧ ((k : Int) + 1) % 65521 ≤ 65520 := by omega
   exact ⟨Int.mul_nonneg htb.1 h5.1,Int.mul_le_mul htb.2 h5.2 h5.1 (by omega)⟩
  have e1 : sumA s (k + 1) = (sumA s k + t) % 65521 := by rw [sumA,← ht]; rfl
  have e2 : sumB s (k + 1) = (sumB s k + t * (((k : Int) + 1) % 65521)) % 65521 := by rw [sumB,← ht]; rfl
  refine Qh (Q0 (Qd (Qk (zy (z0 J (z0 J (z0 J (zx (q_byteK J J J J (by assumption) (by omega)) J (zx (Yw J J J J (Zm (by omega))) J (z7 J (by omega) ?_))))))))));refine zx (q_rem J J J J (by omega)) J (z1 J (zz (Qc (z0 J (z0 J (z0 J (zx (q_byteK J J J J (by assumption) (by omega)) J (zx (Yw J J J J (Zm (by omega))) J (z0 J (z7 J (by omega) ?_))))))))));refine zx (q_rem J J J J (by omega)) J (zx (Y8 J J J J (by omega)) J (z7 J (by omega) (zx (q_rem J J J J (by omega)) J (z1 J (Qe (Q1 (Q0 (Qc (z0 J (z7 J (by omega) (z1 J ?_)))))))))));refine zz ?_
  exact ⟨s.size - (k + 1),by omega,(fun k : Nat => (⟨_,[(0,S s),(3,I (sumA s k)),(4,I (sumB s k)),(5,I k)],[]⟩ : St)) (k + 1),⟨k + 1,by omega,trivial,J⟩,Xu [] (by decide) J (by kernel_rfl) (.c J (.cons (Xo e1.symm) (.cons (Xo e2.symm) (.c J (.nil)))))⟩
 ·have h3 : ¬ ((k : Int) < s.size) := of_decide_eq_false h
  have hk : k = s.size := by omega
  have hb1 := sumA_lt s k
  have hb2 := sumB_lt s k
  refine Q9 (T_x (T_x (Xj (Q0 (zy (z0 J (z0 J (zx (Y8 J J J J (by omega)) J (z7 J (by omega) (z1 J ?_))))))))));refine zz (Xa (F_r ?_))
  exact Xl J J (Xs [] (by decide) J J (Xo (by rw [checksum,hk])))
end
section
open Go.RowKit

theorem W_pre {st st' : St} {f : List (Nat × V) → St} (h : Wk st st') (k : ∃ l,Wk st' (f l)) : ∃ l,Wk st (f l) := k.imp fun _ hl => h.trans hl
def bodyInts (b : TBody) : List Int := [b.Kind,b.Owner,b.X,b.Y,b.VX,b.VY,b.Aim,b.Life,b.Timer]
theorem X5 {α : Type} [Enc α] (xs ys : List α) : els (xs ++ ys) = els xs ++ els ys := List.map_append
theorem flat_gd {bs : List TBody} (hg : ∀ b ∈ bs,Enc.gd b) : ∀ x ∈ bs.flatMap bodyInts,I64 x := fun x hx => by
 obtain ⟨b,hb,hx⟩ := List.mem_flatMap.1 hx
 obtain ⟨b1,b2,b3,b4,b5,b6,b7,b8,b9⟩ := hg b hb
 simp only [bodyInts,List.mem_cons,List.not_mem_nil,or_false] at hx
 rcases hx with rfl | rfl | rfl | rfl | rfl | rfl | rfl | rfl | rfl <;> assumption
theorem I_bodyInts (b : TBody) : Con Tryd.prog 73 [] [ag b] [.row 1 (els (bodyInts b))] (.o (.c (.ref 0))) := by
 refine Con.of Tryd.func73 J Tryd.ntmps73 J (fun E => ?_)
 refine zy (M1 (Qq J J J J) J J (z1 J (zz (zy (z2 J J J (z3 J (z2 J J J (z3 J ?_))))))));refine z2 J J J (z3 J (z2 J J J (z3 J (z2 J J J (z3 J (z2 J J J (z3 J (z2 J J J (z3 J (z2 J J J (z3 J ?_)))))))))));refine z2 J J J (z3 J (M1 (Yt J J J J J J) J J (z1 J (zz (Xa (F_r ?_))))))
 exact Xl J J (W_pre (Wk.sbrow (q := 1) J J (Nat.le_of_ble_eq_true J)) (Xs [1] (by decide) J J J))
end
section
open Go.RowKit

def zB : TBody := ⟨0,0,0,0,0,0,0,0,0⟩
def partAt (x : TWorld) (k : Nat) : List Int := if k = 0 then [x.Seed] else if k ≤ x.Scores.length then [x.Scores.getD (k - 1) 0] else bodyInts (x.Bodies.getD (k - 1 - x.Scores.length) zB)
noncomputable def partInts (x : TWorld) (s : ByteArray) : List Int := match (partsOf x).findIdx? (fun t => decide (t = s)) with
 | none => []
 | some k => partAt x k
noncomputable def sumOf (l : List Int) : Int := match l with
 | [] => -1
 | [n] => n
 | l => checksum (packInts l)
theorem part_none {x : TWorld} {s : ByteArray} {k : Nat} (hk : (partsOf x).length ≤ k) (h : ∀ j (hj : j < (partsOf x).length),j < k → (partsOf x)[j] ≠ s) : partInts x s = [] := by
 have h1 : (partsOf x).findIdx? (fun t => decide (t = s)) = none := by
  rw [List.findIdx?_eq_none_iff]
  intro t ht
  obtain ⟨j,hj,rfl⟩ := List.getElem_of_mem ht
  exact decide_eq_false (h j hj (by omega))
 rw [partInts,h1]
theorem part_hit {x : TWorld} {s : ByteArray} {k : Nat} (hk : k < (partsOf x).length) (h : ∀ j (hj : j < (partsOf x).length),j < k → (partsOf x)[j] ≠ s) (he : (partsOf x)[k] = s) : partInts x s = partAt x k := by
 have h1 : (partsOf x).findIdx? (fun t => decide (t = s)) = some k := by
  rw [List.findIdx?_eq_some_iff_getElem]
  exact ⟨hk,decide_eq_true he,fun j hj => by simpa using h j (by omega) hj⟩
 rw [partInts,h1]
theorem part_next {y : List ByteArray} {s : ByteArray} {k : Nat} (hk : k < y.length) (h : ∀ j (hj : j < y.length),j < k → y[j] ≠ s) (he : ¬ y[k] = s) : ∀ j (hj : j < y.length),j < k + 1 → y[j] ≠ s := fun j hj hl => by
 by_cases e : j = k
 ·subst e; exact he
 ·exact h j hj (by omega)
theorem parts_at {x : TWorld} {k : Nat} (hk : k < (partsOf x).length) : worldOk x = true ∧ k < 1 + x.Scores.length + x.Bodies.length := by
 unfold partsOf at hk
 split at hk
 ·rename_i h
  exact ⟨h,by rwa [Yp] at hk⟩
 ·simp at hk
theorem parts_29 (x : TWorld) : (partsOf x).length ≤ 29 := by
 unfold partsOf
 split
 ·rename_i h
  obtain ⟨_,_,_,hn,_,hb,_⟩ := Zl h
  rw [Yp]; omega
 ·simp
theorem at_int {α : Type} [Enc α] {xs : List α} {i : Int} {k : Nat} (e : i = k) (h : k < xs.length) : (els xs)[i.toNat]? = some (Enc.e xs[k]) := by
 subst e; exact X6 h
theorem partAt_0 (x : TWorld) : partAt x 0 = [x.Seed] := if_pos rfl
theorem partAt_s {x : TWorld} {k : Nat} (h0 : k ≠ 0) (h : k - 1 < x.Scores.length) : partAt x k = [x.Scores[k - 1]] := by
 rw [partAt,if_neg h0,if_pos (by omega),List.getD_eq_getElem?_getD,List.getElem?_eq_getElem h]; rfl
theorem partAt_b {x : TWorld} {k : Nat} (h0 : k ≠ 0) (h1 : ¬ k ≤ x.Scores.length) (h : k - 1 - x.Scores.length < x.Bodies.length) : partAt x k = bodyInts x.Bodies[k - 1 - x.Scores.length] := by
 rw [partAt,if_neg h0,if_neg h1,List.getD_eq_getElem?_getD,List.getElem?_eq_getElem h]; rfl
theorem bodyi_gd {b : TBody} (h : Enc.gd b) : Enc.gd (bodyInts b) := ⟨by show (9 : Nat) ≤ _; decide,fun x hx => by
 have := flat_gd (bs := [b]) (fun c hc => by simp at hc; subst hc; exact h) x (by simpa using hx)
 exact this⟩
theorem body_pk (b : TBody) : (packInts (bodyInts b)).size ≤ 1099511627776 := by
 have h := packInts_size (bodyInts b)
 have h2 : (bodyInts b).length = 9 := rfl
 omega
theorem sumOf_b (b : TBody) : sumOf (bodyInts b) = checksum (packInts (bodyInts b)) := rfl
theorem I_PartSum (x : TWorld) (s : ByteArray) (hg : Enc.gd x) : Con Tryd.prog 30 [] [ag x,astr s] [] (I (sumOf (partInts x s))) := by
 have hp := I_PartsOf x hg
 have hly := X7 (partsOf x)
 have hpl := parts_29 x
 have hls := X7 x.Scores
 have hlb := X7 x.Bodies
 refine Con.of Tryd.func30 J Tryd.ntmps30 J (fun E => ?_)
 refine zy (M1 (Qq J J J J) J J (z1 J (zz (Qd (zy (z4 J J J ?_))))));refine M1 (Yv J J (hp) J J J) J J ?_;refine zx (Y3 J J J J) J (z0 J (zz (Qk ?_)));refine Xi (fun m st => ∃ k : Nat,k + m = (partsOf x).length ∧ ((∀ j (hj : j < (partsOf x).length),j < k → (partsOf x)[j] ≠ s)) ∧ st = (⟨_,[(1,S s),(2,.o (.c (.ptr 0 0))),(8,.o (.c (.ref 1))),(9,I (els (partsOf x)).length),(10,I k)],[.box ((Enc.e x).map (V1.rd [])),.row 1 (els (partsOf x))]⟩ : St)) ((partsOf x).length) ⟨_,⟨0,by omega,fun j hj h => absurd h (Nat.not_lt_zero _),J⟩,Xt [0,1] (by kernel_rfl)⟩ ?_
 rintro m_A _ ⟨k,hk_A,hp_A,rfl⟩
 refine zy (zx (Y7 J J J J) J (zz (Qd ?_)))
 refine Xb J (fun h => ?_) (fun h => ?_)
 ·have h3 : k < (partsOf x).length := by have := of_decide_eq_true h; omega
  have hat := X6 h3
  by_cases he : (partsOf x)[k] = s
  ·have hb : decide ((partsOf x)[k] ≠ s) = false := decide_eq_false (fun h => h he)
   rw [part_hit h3 hp_A he]
   obtain ⟨hok,hkl⟩ := parts_at h3
   by_cases k0 : k = 0
   ·have hb0 : decide ((k : Int) = 0) = true := decide_eq_true (by omega)
    subst k0
    rw [partAt_0]
    refine Qh (Q0 (Qd (Qk (zy (z0 J (zx (Q3 J J J J J (by omega) (by omega)) J (zx (Q7 J J J J (by assumption) J) J (z1 J (z1 J (Qe ?_))))))))));refine Q0 (Qd (zy (z0 J (z0 J (zx (q_sneqK J J J J (by assumption)) J (zz (Ql J (Qh (Q0 ?_)))))))));refine Qd (zy (z0 J (z9e J (by assumption) (zz (Qm J (zy (z2 J J J (z3 J ?_))))))));refine z1 J (zz (Xa (T_r (B_r (T_r (T_r (B_r (T_r (F_r ?_)))))))))
    exact Xl J J (Xs [] (by decide) J J J)
   ·have hb0 : decide ((k : Int) = 0) = false := decide_eq_false (by omega)
    by_cases k1 : k ≤ x.Scores.length
    ·have hb1 : decide ((k : Int) ≤ (els x.Scores).length) = true := decide_eq_true (by omega)
     have hat2 := at_int (xs := x.Scores) (i := (k : Int) - 1) (k := k - 1) (by omega) (by omega)
     rw [partAt_s k0 (by omega)]
     refine Qh (Q0 (Qd (Qk (zy (z0 J (zx (Q3 J J J J J (by omega) (by omega)) J (zx (Q7 J J J J (by assumption) J) J (z1 J (z1 J (Qe ?_))))))))));refine Q0 (Qd (zy (z0 J (z0 J (zx (q_sneqK J J J J (by assumption)) J (zz (Ql J (Qh (Q0 ?_)))))))));refine Qd (zy (z0 J (z9e J (by assumption) (zz (Ql J (Qh (Q0 (Qd (Qd ?_)))))))));refine Qc (z0 J (z2 J J J (z3 J (zx (Y2 J J J) J (z9b J (by assumption) (zz (Qm J (zy (z2 J J J ?_)))))))));refine z3 J (z0 J (z8 J (by omega) (zx (Q2 J J J J (by omega) (by assumption) J) J (zx (Y6 J J J J) J (z1 J (zz (Xa (T_r (B_r (T_r ?_))))))))));refine T_r (B_r (T_r (F_r ?_)))
     exact Xl J J (Xs [] (by decide) J J J)
    ·have hb1 : decide ((k : Int) ≤ (els x.Scores).length) = false := decide_eq_false (by omega)
     have hjb : k - 1 - x.Scores.length < x.Bodies.length := by omega
     have hat2 := at_int (xs := x.Bodies) (i := (k : Int) - 1 - (els x.Scores).length) (k := k - 1 - x.Scores.length) (by omega) hjb
     have hbg : Enc.gd x.Bodies[k - 1 - x.Scores.length] := hg.2.2.2.2.2 _ (List.getElem_mem hjb)
     rw [partAt_b k0 k1 hjb,sumOf_b]
     generalize x.Bodies[k - 1 - x.Scores.length] = b at hat2 hbg
     have hc1 := I_bodyInts b
     have hc2 := I_PackInts (bodyInts b) (bodyi_gd hbg) (by show (9 : Nat) ≤ _; decide)
     have hc3 := I_Checksum (packInts (bodyInts b)) (body_pk b)
     refine Qh (Q0 (Qd (Qk (zy (z0 J (zx (Q3 J J J J J (by omega) (by omega)) J (zx (Q7 J J J J (by assumption) J) J (z1 J (z1 J (Qe ?_))))))))));refine Q0 (Qd (zy (z0 J (z0 J (zx (q_sneqK J J J J (by assumption)) J (zz (Ql J (Qh (Q0 ?_)))))))));refine Qd (zy (z0 J (z9e J (by assumption) (zz (Ql J (Qh (Q0 (Qd (Qd ?_)))))))));refine Qc (z0 J (z2 J J J (z3 J (zx (Y2 J J J) J (z9b J (by assumption) (zz (Ql J (Qh (Q0 (Qd ?_))))))))));refine Qc (z2 J J J (z3 J (z0 J (z8 J (by omega) (z2 J J J (z3 J (zx (Y2 J J J) J (z8 J (by omega) (zx (Q2 J J J J (by omega) (by assumption) J) J (zx (q_lrN J J J J J) J ?_))))))))));refine M1 (Yv J J (hc1) J J J) J J ?_;refine zx (Qj J J (hc2) J) J ?_;refine zx (Qj J J (hc3) J) J ?_;refine z1 J (zz (Xa (B_r (T_r (T_r (B_r (T_r (F_r ?_))))))))
     exact Xl J J (Xs [] (by decide) J J J)
  ·have hb : decide ((partsOf x)[k] ≠ s) = true := decide_eq_true he
   refine Qh (Q0 (Qd (Qk (zy (z0 J (zx (Q3 J J J J J (by omega) (by omega)) J (zx (Q7 J J J J (by assumption) J) J (z1 J (z1 J (Qe ?_))))))))));refine Q0 (Qd (zy (z0 J (z0 J (zx (q_sneqK J J J J (by assumption)) J (zz (Qm J (Q9 (T_x ?_)))))))));refine Xj (Q0 (Qc (z7 J (by omega) (z0 J (zz ?_)))))
   exact ⟨(partsOf x).length - (k + 1),by omega,_,⟨k + 1,by omega,part_next h3 hp_A he,J⟩,Xt [0,1] (by kernel_rfl)⟩
 ·have h3 : ¬ ((k : Int) < (els (partsOf x)).length) := of_decide_eq_false h
  rw [part_none (by omega) hp_A]
  refine Q9 (T_x (T_x (Xj (Q0 (zy (z1 J (zz (Xa (F_r ?_)))))))))
  exact Xl J J (Xs [] (by decide) J J J)
end
section
open Go.RowKit

def dSeed (a b : TWorld) : List ByteArray := if a.Seed ≠ b.Seed then [seedB] else []
def scDiff (a b : TWorld) (k : Nat) : Bool := decide (b.Scores.length ≤ k) || decide (a.Scores.getD k 0 ≠ b.Scores.getD k 0)
def boDiff (a b : TWorld) (k : Nat) : Bool := decide (b.Bodies.length ≤ k) || decide (bodyInts (a.Bodies.getD k zB) ≠ bodyInts (b.Bodies.getD k zB))
def dS (a b : TWorld) (n : Nat) : List ByteArray := dSeed a b ++ ((List.range n).filter (scDiff a b)).map scoreN
def dB (a b : TWorld) (m : Nat) : List ByteArray := dS a b a.Scores.length ++ ((List.range m).filter (boDiff a b)).map bodyN
def dC (a b : TWorld) (j : Nat) : List ByteArray := dB a b a.Bodies.length ++ (List.range' a.Scores.length j).map scoreN
def dD (a b : TWorld) (j : Nat) : List ByteArray := dC a b (b.Scores.length - a.Scores.length) ++ (List.range' a.Bodies.length j).map bodyN
noncomputable def differ (a b : TWorld) : List ByteArray := if worldOk a = true ∧ worldOk b = true then dD a b (b.Bodies.length - a.Bodies.length) else []
theorem Yb {α : Type} {p : Nat → Bool} {f : Nat → α} {n : Nat} (l : List α) (h : p n = true) : l ++ ((List.range (n + 1)).filter p).map f = (l ++ ((List.range n).filter p).map f) ++ [f n] := by
 rw [List.range_succ,List.filter_append,List.map_append,List.append_assoc]
 simp [h]
theorem filt_no {α : Type} {p : Nat → Bool} {f : Nat → α} {n : Nat} (l : List α) (h : p n = false) : l ++ ((List.range (n + 1)).filter p).map f = l ++ ((List.range n).filter p).map f := by
 rw [List.range_succ,List.filter_append,List.map_append]
 simp [h]
theorem rng_snoc {α : Type} {f : Nat → α} {a j : Nat} (l : List α) : l ++ (List.range' a (j + 1)).map f = (l ++ (List.range' a j).map f) ++ [f (a + j)] := by
 rw [List.range'_1_concat,List.map_append,List.append_assoc]
 rfl
theorem dec_inj {i j : Nat} (hi : i < 100) (hj : j < 100) (h : Lib.decDigits i = Lib.decDigits j) : i = j := by
 have u : ∀ {x y : Nat},x < 256 → y < 256 → UInt8.ofNat x = UInt8.ofNat y → x = y := fun {x y} hx hy e => by
  have := congrArg UInt8.toNat e
  rwa [UInt8.toNat_ofNat',UInt8.toNat_ofNat',Nat.mod_eq_of_lt hx,Nat.mod_eq_of_lt hy] at this
 by_cases h1 : i < 10
 ·rw [Lib.decDigits_one h1] at h
  by_cases h2 : j < 10
  ·rw [Lib.decDigits_one h2] at h
   have := u (by omega) (by omega) (List.cons.inj h).1
   omega
  ·rw [Lib.decDigits_two h2 hj] at h
   have := congrArg List.length h
   simp at this
 ·rw [Lib.decDigits_two h1 hi] at h
  by_cases h2 : j < 10
  ·rw [Lib.decDigits_one h2] at h
   have := congrArg List.length h
   simp at this
  ·rw [Lib.decDigits_two h2 hj] at h
   have e1 := u (by omega) (by omega) (List.cons.inj h).1
   have e2 := u (by omega) (by omega) (List.cons.inj (List.cons.inj h).2).1
   omega
theorem scoreN_eq (k : Nat) : scoreN k = bs ([115,99,111,114,101,32] ++ Lib.decDigits k) := bs_app _ _
theorem bodyN_eq (k : Nat) : bodyN k = bs ([98,111,100,121,32] ++ Lib.decDigits k) := bs_app _ _
theorem score_inj {i j : Nat} (hi : i < 100) (hj : j < 100) (h : scoreN i = scoreN j) : i = j := by
 rw [scoreN_eq,scoreN_eq,bs_inj] at h
 exact dec_inj hi hj (List.append_cancel_left h)
theorem score_body (i j : Nat) : scoreN i ≠ bodyN j := fun h => by
 rw [scoreN_eq,bodyN_eq,bs_inj] at h
 exact absurd (List.cons.inj h).1 (by decide)
theorem seed_score (i : Nat) : seedB ≠ scoreN i := fun h => by
 rw [scoreN_eq,seedB,bs_inj] at h
 exact absurd (List.cons.inj (List.cons.inj h).2).1 (by decide)
theorem to_0 {n m : Nat} {h : 0 < (partsTo n m).length} : (partsTo n m)[0] = seedB := rfl
theorem to_s {n m k : Nat} (hk : k < n) {h : k + 1 < (partsTo n m).length} : (partsTo n m)[k + 1] = scoreN k := by
 simp only [partsTo]
 rw [List.getElem_append_left (by simp; omega),List.getElem_cons_succ]
 simp
theorem to_b {n m k : Nat} (hk : k < m) {h : k + 1 + n < (partsTo n m).length} : (partsTo n m)[k + 1 + n] = bodyN k := by
 simp only [partsTo]
 rw [List.getElem_append_right (by simp; omega)]
 simp [show k + 1 + n - (n + 1) = k by omega]
section
variable {x : TWorld} (ho : worldOk x = true)
include ho
theorem parts_is : partsOf x = partsTo x.Scores.length x.Bodies.length := by rw [partsOf,ho]; exact if_pos rfl
theorem pI_score (k : Nat) (hk : k < 100) : partInts x (scoreN k) = if k < x.Scores.length then [x.Scores.getD k 0] else [] := by
 have hp := parts_is ho
 have hl := Yp x.Scores.length x.Bodies.length
 obtain ⟨_,_,_,hn,_,hb,_⟩ := Zl ho
 have hne : ∀ j (hj : j < (partsOf x).length),j ≠ k + 1 ∨ ¬ k < x.Scores.length → (partsOf x)[j] ≠ scoreN k := fun j hj hc => by
  have hj2 : j < (partsTo x.Scores.length x.Bodies.length).length := by rw [← hp]; exact hj
  rw [List.getElem_of_eq hp hj]
  rcases j with _ | j
  ·rw [to_0]; exact seed_score k
  ·by_cases h1 : j < x.Scores.length
   ·rw [to_s h1]
    intro e
    have := score_inj (by omega) hk e
    omega
   ·obtain ⟨i,rfl⟩ : ∃ i,j = i + x.Scores.length := ⟨j - x.Scores.length,by omega⟩
    have h2 := to_b (n := x.Scores.length) (m := x.Bodies.length) (k := i) (by omega) (h := by omega)
    have h3 : (partsTo x.Scores.length x.Bodies.length)[i + x.Scores.length + 1] = bodyN i := by
     rw [← h2]; congr 1; omega
    rw [h3]
    exact fun e => score_body k i e.symm
 by_cases h : k < x.Scores.length
 ·rw [if_pos h]
  have h2 := part_hit (x := x) (s := scoreN k) (k := k + 1) (by rw [hp]; omega) (fun j hj hjk => hne j hj (by omega)) (by rw [List.getElem_of_eq hp]; exact to_s h)
  rw [h2,partAt,if_neg (by omega),if_pos (by omega)]
  rfl
 ·rw [if_neg h]
  exact part_none (k := (partsOf x).length) (Nat.le_refl _) (fun j hj _ => hne j hj (.inr h))
end
end
section
open Go.RowKit

@[reducible] def bv (b : Bool) : V1 := .rd [] (.v (.bool b))
@[reducible] def jn (n : Int) : V1 := .rd [] (.v (.int .i64 n))
end
section
open Go.RowKit

def signed (n : Int) : Int := if 0 ≤ n ∧ n ≤ 1099511627775 then (if n % 2 = 0 then n / 2 else -((n + 1) / 2)) else 0
/-! ### Lists -/
/-! ### Texts -/
end
section
open Go.RowKit
end
section
open Go.RowKit
end
section
open Go.RowKit
end
section
open Go.RowKit
end
section
open Go.RowKit

/-! ### Numbers -/
/-! ### Lists -/
/-! ### Texts -/
/-! ### Columns -/
/-! ### DecodeStream -/
end
section
open Go.RowKit
end
section
open Go.RowKit
end
section
open Go.RowKit

inductive Den1 : V1 → V1 → Prop
 | same (x : V1) : Den1 x x
 | nil (qs : List Nat) (k : Nat) : Den1 (.rd qs (.v (.slice none 0 0))) (.rd qs (.sl k []))
inductive DenL : List V1 → List V1 → Prop
 | nil : DenL [] []
 | cons {x y : V1} {xs ys : List V1} (h : Den1 x y) (t : DenL xs ys) : DenL (x :: xs) (y :: ys)
inductive Den2 : V2 → V2 → Prop
 | same (x : V2) : Den2 x x
 | ag {xs ys : List V1} (h : DenL xs ys) : Den2 (.ag xs) (.ag ys)
inductive DenA : List V2 → List V2 → Prop
 | nil : DenA [] []
 | cons {x y : V2} {xs ys : List V2} (h : Den2 x y) (t : DenA xs ys) : DenA (x :: xs) (y :: ys)
section
variable {w : World} {H : Hs} {F : Nat → Prop}
theorem Den1.r {x y : V1} (h : Den1 x y) {v : Value} (hx : R1 w H F x v) : R1 w H F y v := by
 cases h with
 | same => exact hx
 | nil qs k => obtain ⟨rfl,_⟩ := RO.plain hx; exact .nil _ _ _ (by simp)
theorem DenL.r : ∀ {xs ys : List V1},DenL xs ys → xs.length = ys.length ∧ ∀ (i : Nat) (y : V1),ys[i]? = some y → ∃ x,xs[i]? = some x ∧ Den1 x y
 | _,_,.nil => ⟨rfl,fun i y h => by simp at h⟩
 | _,_,.cons (x := x) h t => by
  obtain ⟨h1,h2⟩ := DenL.r t
  refine ⟨by simp [h1],fun i y hy => ?_⟩
  cases i with
  | zero => simp at hy; subst hy; exact ⟨x,rfl,h⟩
  | succ i => simpa using h2 i y (by simpa using hy)
theorem Den2.r {x y : V2} (h : Den2 x y) {v : Value} (hx : R2 w H F x v) : R2 w H F y v := by
 cases h with
 | same => exact hx
 | ag h =>
  obtain ⟨h1,h2⟩ := h.r
  obtain ⟨us,e,hl,hr⟩ := hx
  refine ⟨us,e,by omega,fun i y u h3 h4 => ?_⟩
  obtain ⟨x,h5,h6⟩ := h2 i y h3
  exact h6.r (hr i x u h5 h4)
theorem DenA.r : ∀ {xs ys : List V2},DenA xs ys → xs.length = ys.length ∧ ∀ (i : Nat) (y : V2),ys[i]? = some y → ∃ x,xs[i]? = some x ∧ Den2 x y
 | _,_,.nil => ⟨rfl,fun i y h => by simp at h⟩
 | _,_,.cons (x := x) h t => by
  obtain ⟨h1,h2⟩ := DenA.r t
  refine ⟨by simp [h1],fun i y hy => ?_⟩
  cases i with
  | zero => simp at hy; subst hy; exact ⟨x,rfl,h⟩
  | succ i => simpa using h2 i y (by simpa using hy)
end
def nilV : V1 := .rd [] (.v (.slice none 0 0))
theorem S_copyLevel (x : TLevel) (hg : Enc.gd x) (hL : x.Rows.length ≤ 1048576) : Con Tryd.prog 103 [] [ag x] [.row 1 (els x.Rows)] (.o (.ag [.ref 0])) := by
 have hlx := X7 x.Rows
 have hg1 := hg.1
 have h00 : ([] : List (List T)).length = 0 := rfl
 refine Con.of Tryd.func103 J Tryd.ntmps103 J (fun E => ?_)
 refine zy (M1 (Qq J J J J) J J (M1 (Qx J J J) J J (zz (zy (M1 (Yu J J J) J J (z2 J J J (z3 J ?_)))))));refine M_app J J J J J J J J J J (els_plain _) (els_k _) (by omega) (by omega) ?_;refine zx (q_build J J J J J) J ?_;refine Qy J J J J J J J J J (zz (Xa (F_r ?_)))
 exact E_cell J J J J (Xs [2] (by decide) J J J)
end
section
open Go.RowKit

theorem els_takeE2 {α : Type} [Enc α] (xs : List α) (n : Nat) : els (xs.take n) = (els xs).take n := List.map_take
theorem els_getD {l : List Int} {j : Nat} (h : j < l.length) (i : Int) (hi : i = j) : (els l)[i.toNat]? = some [.v (.int .i64 (l.getD j 0))] := by
 subst hi
 rw [Int.toNat_natCast,List.getD_eq_getElem?_getD,els,List.getElem?_map,List.getElem?_eq_getElem h]
 rfl
end
section
open Go.RowKit

def colF (q : Int → Bool) (row : ByteArray) : Nat → Option Nat
 | 0 => none
 | c + 1 => match colF q row c with
  | some x => some x
  | none => if q (byteAt row c) = true then some c else none
def tileF (q : Int → Bool) (rows : List ByteArray) : Nat → Option (Nat × Nat)
 | 0 => none
 | r + 1 => match tileF q rows r with
  | some x => some x
  | none => match rows[r]? with
   | none => none
   | some row => (colF q row row.size).map fun c => (r,c)
def isOpen (t : Int) : Bool := decide (t ≠ 35)
def isDig (p : Int) (t : Int) : Bool := decide (t = 49 + p)
def spX : Option (Nat × Nat) → Int
 | none => -1
 | some (_,c) => 16 * c + 2
def spY : Option (Nat × Nat) → Int
 | none => -1
 | some (r,_) => 16 * r + 2
def startT (l : TLevel) (p : Int) : Option (Nat × Nat) := match tileF (isDig p) l.Rows l.Rows.length with
 | some x => some x
 | none => tileF isOpen l.Rows l.Rows.length
theorem colF_some {q : Int → Bool} {row : ByteArray} : ∀ {n c : Nat},colF q row n = some c → c < n ∧ q (byteAt row c) = true
 | 0,c,h => by cases h
 | n + 1,c,h => by
  rw [colF] at h
  cases h1 : colF q row n with
  | some x => rw [h1] at h; cases h; have := colF_some h1; exact ⟨by omega,this.2⟩
  | none =>
   rw [h1] at h
   by_cases h2 : q (byteAt row n) = true
   ·rw [if_pos h2] at h; cases h; exact ⟨by omega,h2⟩
   ·rw [if_neg h2] at h; cases h
theorem colF_none {q : Int → Bool} {row : ByteArray} : ∀ {n : Nat},colF q row n = none → ∀ c,c < n → q (byteAt row c) = false
 | 0,h,c,hc => by omega
 | n + 1,h,c,hc => by
  rw [colF] at h
  cases h1 : colF q row n with
  | some x => rw [h1] at h; cases h
  | none =>
   rw [h1] at h
   by_cases h2 : q (byteAt row n) = true
   ·rw [if_pos h2] at h; cases h
   ·by_cases e : c = n
    ·subst e; simpa using h2
    ·exact colF_none h1 c (by omega)
theorem tileF_some {q : Int → Bool} {rows : List ByteArray} : ∀ {n r c : Nat},tileF q rows n = some (r,c) → ∃ h : r < rows.length,r < n ∧ c < rows[r].size ∧ q (byteAt rows[r] c) = true
 | 0,r,c,h => by cases h
 | n + 1,r,c,h => by
  rw [tileF] at h
  cases h1 : tileF q rows n with
  | some x => rw [h1] at h; cases h; obtain ⟨a,b,d⟩ := tileF_some h1; exact ⟨a,by omega,d⟩
  | none =>
   rw [h1] at h
   cases h2 : rows[n]? with
   | none => rw [h2] at h; cases h
   | some row =>
    rw [h2] at h
    simp only [Option.map_eq_some_iff,Prod.mk.injEq] at h
    obtain ⟨c',h3,rfl,rfl⟩ := h
    have hn := (List.getElem?_eq_some_iff.1 h2).1
    have he := (List.getElem?_eq_some_iff.1 h2).2
    have := colF_some h3
    exact ⟨hn,by omega,by rw [he]; exact this.1,by rw [he]; exact this.2⟩
theorem tileF_none {q : Int → Bool} {rows : List ByteArray} : ∀ {n : Nat},tileF q rows n = none → ∀ r (h : r < rows.length),r < n → ∀ c,c < rows[r].size → q (byteAt rows[r] c) = false
 | 0,h,r,hr,hn,c,hc => by omega
 | n + 1,h,r,hr,hn,c,hc => by
  rw [tileF] at h
  cases h1 : tileF q rows n with
  | some x => rw [h1] at h; cases h
  | none =>
   rw [h1] at h
   by_cases e : r = n
   ·subst e
    rw [List.getElem?_eq_getElem hr] at h
    simp only [Option.map_eq_none_iff] at h
    exact colF_none h c hc
   ·exact tileF_none h1 r hr (by omega) c hc
theorem tileM_open {e : Bool} {t : Int} {s s' : Seen × Bool} (h : tileM e t s = some s') (ho : s'.2 = true) : s.2 = true ∨ t ≠ 35 := by
 by_cases ht : t = 35
 ·rw [tileM,if_pos ht] at h; cases h; exact .inl ho
 ·exact .inr ht
theorem cols_open {row : ByteArray} {er : Bool} {w : Nat} {s : Seen × Bool} : ∀ {n : Nat} {s' : Seen × Bool},colsM row er w s n = some s' → s'.2 = true → s.2 = true ∨ ∃ c,c < n ∧ byteAt row c ≠ 35
 | 0,s',h,ho => by cases h; exact .inl ho
 | n + 1,s',h,ho => by
  rw [colsM] at h
  cases h1 : colsM row er w s n with
  | none => rw [h1] at h; cases h
  | some s1 =>
   rw [h1] at h
   rcases tileM_open h ho with h2 | h2
   ·rcases cols_open h1 h2 with h3 | ⟨c,hc,h3⟩
    ·exact .inl h3
    ·exact .inr ⟨c,by omega,h3⟩
   ·exact .inr ⟨n,by omega,h2⟩
theorem rows_open {rows : List ByteArray} {w : Nat} : ∀ {n : Nat} {s : Seen × Bool},rowsM rows w n = some s → s.2 = true → ∃ r c,∃ h : r < rows.length,r < n ∧ c < rows[r].size ∧ byteAt rows[r] c ≠ 35
 | 0,s,h,ho => by cases h; cases ho
 | n + 1,s,h,ho => by
  rw [rowsM] at h
  cases h1 : rowsM rows w n with
  | none => rw [h1] at h; cases h
  | some s1 =>
   rw [h1] at h
   cases h2 : rows[n]? with
   | none => rw [h2] at h; cases h
   | some row =>
    rw [h2] at h
    simp only at h
    split at h
    ·rename_i hw
     have hn := (List.getElem?_eq_some_iff.1 h2).1
     have he := (List.getElem?_eq_some_iff.1 h2).2
     rcases cols_open h ho with h3 | ⟨c,hc,h3⟩
     ·obtain ⟨r,c,a,b,d⟩ := rows_open h1 h3
      exact ⟨r,c,a,by omega,d⟩
     ·exact ⟨n,c,hn,by omega,by rw [he]; omega,by rw [he]; exact h3⟩
    ·cases h
theorem level_open {l : TLevel} (h : levelOk l = true) : ∃ r c,∃ h : r < l.Rows.length,c < (l.Rows[r]).size ∧ byteAt (l.Rows[r]) c ≠ 35 := by
 unfold levelOk at h
 simp only [Bool.and_eq_true] at h
 obtain ⟨_,h5⟩ := h
 split at h5
 ·rename_i s hs
  obtain ⟨r,c,a,b,d⟩ := rows_open hs h5
  exact ⟨r,c,a,d⟩
 ·cases h5
theorem start_some {l : TLevel} (hl : levelOk l = true) {p : Int} (hp : 0 ≤ p ∧ p ≤ 3) : ∃ r c,startT l p = some (r,c) ∧ ∃ h : r < l.Rows.length,c < (l.Rows[r]).size ∧ byteAt (l.Rows[r]) c ≠ 35 := by
 unfold startT
 cases h1 : tileF (isDig p) l.Rows l.Rows.length with
 | some x =>
  obtain ⟨r,c⟩ := x
  obtain ⟨a,b,d,e⟩ := tileF_some h1
  refine ⟨r,c,J,a,d,?_⟩
  have := of_decide_eq_true e
  omega
 | none =>
  cases h2 : tileF isOpen l.Rows l.Rows.length with
  | some x =>
   obtain ⟨r,c⟩ := x
   obtain ⟨a,b,d,e⟩ := tileF_some h2
   exact ⟨r,c,J,a,d,of_decide_eq_true e⟩
  | none =>
   obtain ⟨r,c,a,d,e⟩ := level_open hl
   have := tileF_none h2 r a a c d
   exact absurd e (of_decide_eq_false this)
def openF (rows : List ByteArray) (row : ByteArray) (r c : Nat) : Option (Nat × Nat) := match tileF isOpen rows r with
 | some x => some x
 | none => (colF isOpen row c).map fun c => (r,c)
theorem openF_zero {rows : List ByteArray} {row : ByteArray} {r : Nat} : openF rows row r 0 = tileF isOpen rows r := by
 unfold openF
 cases tileF isOpen rows r <;> rfl
theorem openF_end {rows : List ByteArray} {row : ByteArray} {r : Nat} (h : rows[r]? = some row) : openF rows row r row.size = tileF isOpen rows (r + 1) := by
 rw [openF,tileF,h]
theorem openF_keep {rows : List ByteArray} {row : ByteArray} {r c : Nat} {x : Nat × Nat} (h : openF rows row r c = some x) : openF rows row r (c + 1) = some x := by
 unfold openF at h ⊢
 cases h1 : tileF isOpen rows r with
 | some y => rw [h1] at h; exact h
 | none =>
  rw [h1] at h
  simp only [Option.map_eq_some_iff] at h ⊢
  obtain ⟨a,h2,h3⟩ := h
  exact ⟨a,by rw [colF,h2],h3⟩
theorem openF_step {rows : List ByteArray} {row : ByteArray} {r c : Nat} (h : openF rows row r c = none) : openF rows row r (c + 1) = if byteAt row c = 35 then none else some (r,c) := by
 unfold openF at h ⊢
 cases h1 : tileF isOpen rows r with
 | some y => rw [h1] at h; cases h
 | none =>
  rw [h1] at h
  simp only [Option.map_eq_none_iff] at h
  simp only [colF,h]
  by_cases h2 : byteAt row c = 35
  ·rw [if_pos h2,if_neg (show ¬ isOpen (byteAt row c) = true from fun q => of_decide_eq_true q h2)]; rfl
  ·rw [if_neg h2,if_pos (show isOpen (byteAt row c) = true from decide_eq_true h2)]; rfl
theorem colF_step {q : Int → Bool} {row : ByteArray} {c : Nat} (h : colF q row c = none) (hq : q (byteAt row c) = false) : colF q row (c + 1) = none := by rw [colF,h]; simp [hq]
theorem colF_hit {q : Int → Bool} {row : ByteArray} {c : Nat} (h : colF q row c = none) (hq : q (byteAt row c) = true) : ∀ {n : Nat},c < n → colF q row n = some c
 | 0,hn => by omega
 | n + 1,hn => by
  rw [colF]
  by_cases e : c = n
  ·subst e; rw [h]; simp [hq]
  ·rw [colF_hit h hq (by omega)]
theorem tileF_step {q : Int → Bool} {rows : List ByteArray} {row : ByteArray} {r : Nat} (h : tileF q rows r = none) (hr : rows[r]? = some row) (hc : colF q row row.size = none) : tileF q rows (r + 1) = none := by rw [tileF,h,hr]; simp [hc]
theorem tileF_hit {q : Int → Bool} {rows : List ByteArray} {row : ByteArray} {r c : Nat} (h : tileF q rows r = none) (hr : rows[r]? = some row) (hc : colF q row row.size = some c) : ∀ {n : Nat},r < n → tileF q rows n = some (r,c)
 | 0,hn => by omega
 | n + 1,hn => by
  rw [tileF]
  by_cases e : r = n
  ·subst e; rw [h,hr]; simp [hc]
  ·rw [tileF_hit h hr hc (by omega)]
theorem start_dig {l : TLevel} {p : Int} {row : ByteArray} {r c : Nat} (h : tileF (isDig p) l.Rows r = none) (hr : l.Rows[r]? = some row) (hc : colF (isDig p) row c = none) (hcs : c < row.size) (hb : byteAt row c = 49 + p) : startT l p = some (r,c) := by
 have h1 := colF_hit hc (show isDig p (byteAt row c) = true from decide_eq_true hb) hcs
 rw [startT,tileF_hit h hr h1 (List.getElem?_eq_some_iff.1 hr).1]
theorem start_open {l : TLevel} {p : Int} {n : Nat} (h : tileF (isDig p) l.Rows n = none) (hn : n = l.Rows.length) : startT l p = tileF isOpen l.Rows n := by
 subst hn
 rw [startT,h]
theorem spX_neg {o : Option (Nat × Nat)} : spX o < 0 ↔ o = none := by
 cases o with
 | none => simp [spX]
 | some x => obtain ⟨r,c⟩ := x; simp [spX]; omega
def fresh (l : TLevel) (p : Int) : TBody := ⟨0,p,spX (startT l p),spY (startT l p),0,0,1,3,0⟩
theorem fresh_free {l : TLevel} (hl : levelOk l = true) {p : Int} (hp : 0 ≤ p ∧ p ≤ 3) : solidM l (fresh l p).X (fresh l p).Y 12 = false ∧ (0 ≤ (fresh l p).X ∧ (fresh l p).X ≤ 400) ∧ (0 ≤ (fresh l p).Y ∧ (fresh l p).Y ≤ 400) := by
 obtain ⟨r,c,h1,hr,hc,hb⟩ := start_some hl hp
 obtain ⟨l3,l12,w,w4,w20,hw⟩ := Yj hl
 have hwr := hw r hr
 rw [fresh,h1]
 refine ⟨solidM_F ?_,by simp only [spX]; omega,by simp only [spY]; omega⟩
 rintro ⟨r',c',a1,a2,a3,a4,hwall⟩
 simp only [spX,spY] at a1 a2 a3 a4
 have e1 : r' = r := by omega
 have e2 : c' = c := by omega
 subst e1 e2
 exact no_wall hr hc hb hwall
def newWorld (l : TLevel) (n : Nat) (seed : Int) : TWorld := ⟨l,0,seed,List.replicate n 0,(List.range n).map fun (k : Nat) => fresh l (k : Int)⟩
theorem newWorld_ok {l : TLevel} {n : Nat} {seed : Int} (hl : levelOk l = true) (hn : 1 ≤ n ∧ n ≤ 4) (hs : inR seed 0 65535 = true) : worldOk (newWorld l n seed) = true := by
 refine worldOk_T ⟨hl,J,hs,by simpa [newWorld] using hn,?_,by simp [newWorld]; omega,?_⟩
 ·simp only [newWorld,scoresOk,List.all_replicate]
  simp [inR]
 ·intro k hk
  have hk4 : k < n := by simpa [newWorld] using hk
  have hlen : (newWorld l n seed).Scores.length = n := by simp [newWorld]
  have hb : (newWorld l n seed).Bodies[k] = fresh l k := by simp [newWorld]
  rw [hlen,hb]
  obtain ⟨h1,h2,h3⟩ := fresh_free hl (p := (k : Int)) (by omega)
  show bodyAt l n k (fresh l k) = true
  rw [bodyAt,if_pos hk4,Bool.and_eq_true]
  refine ⟨?_,decide_eq_true ⟨J,J⟩⟩
  rw [bodyM,show sizeOf (fresh l k).Kind = 12 from rfl,h1]
  have e1 : inR (fresh l (k : Int)).Kind 0 2 = true := rfl
  have e2 : inR (fresh l (k : Int)).Owner 0 ((n : Int) - 1) = true := Yi.2 ⟨by show (0 : Int) ≤ k; omega,by show (k : Int) ≤ n - 1; omega⟩
  have e3 : inR (fresh l (k : Int)).VX (-15) 15 = true := rfl
  have e4 : inR (fresh l (k : Int)).VY (-15) 15 = true := rfl
  have e5 : tailM (fresh l (k : Int)) = true := rfl
  rw [e1,e2,e3,e4,e5]
  rfl
end
end Go.Proofs.YtcjclaoogdblbaaDoor
