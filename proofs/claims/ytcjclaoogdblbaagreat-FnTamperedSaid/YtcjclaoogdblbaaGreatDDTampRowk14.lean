/-
  Parts of the proof (rules, data, and what functions of the program and of the reference return), among them: StartOf, fresh players and NewWorld, in the program and in the reference; Fresh players and NewWorld, in the program and in the reference.
  Conditions: those that each theorem names.
-/
import Derived.Lib.LazyBuf
import Derived.Test.YtcjclaoogdblbaaGreatDDTampRowk8
import Derived.Test.YtcjclaoogdblbaaGreatDDTampRowk10
import Derived.Test.YtcjclaoogdblbaaGreatDDTampRowk11
import Derived.Test.YtcjclaoogdblbaaGreatDDTampRowk12
import Derived.Test.YtcjclaoogdblbaaGreatDDTampRowk13
set_option linter.unusedSimpArgs false
set_option linter.unusedVariables false
set_option maxRecDepth 8000
set_option maxHeartbeats 8000000
namespace Go.Proofs.YtcjclaoogdblbaaGreat
section
open Go.RowKit

def V1.tosr (q : Nat) : V1 → V1
 | .sb p n k => match Nat.beq p q with
  | true => match k with
   | 1 => .ref q
   | _ => .un
  | false => (V1.sb p n k).kill [q]
 | x => x.kill [q]
theorem Wk.sbrow {st : St} {q : Nat} {cs : List V1} {es : List (List T)} (hq : st.objs[q]? = some (.box cs)) (hs : sbE cs = some es) (hm : cs.length ≤ maxLen) : Wk st ⟨st.n,st.tmps.map fun t => (t.1,t.2.mapk (V1.tosr q)),(st.objs.map (Ob.mapk (V1.tosr q))).set q (.row 1 es)⟩ := by
 intro w H F a h1
 obtain ⟨hel,hes⟩ := sbE_ok cs es hs
 have hb := h1.obs q
 rw [Y6 hq] at hb
 obtain ⟨g,t,vs,e1,e2,e3⟩ := hb
 have hsay := h1.ok.says q
 rw [e1] at hsay
 have hg : w.heap[g]? = some (.cells vs.toArray t (0,0)) := hsay
 have hqlt := Y7 hq
 have hplain : ∀ (i : Nat) (e : List T),es[i]? = some e → ∃ u,vs[i]? = some u ∧ e = [.v u] ∧ u.oneCell' = true := fun i e hi => by
  obtain ⟨ps,u,h2,h3⟩ := hes i e hi
  have hil := Y7 h2
  have hiv : vs[i]? = some (vs[i]'(by omega)) := List.getElem?_eq_getElem (by omega)
  obtain ⟨h4,h5⟩ := e3 i _ _ h2 hiv
  obtain ⟨h6,h7⟩ := RO.plain h4
  exact ⟨u,by rw [hiv,h6],h3,h7⟩
 obtain ⟨f,hf⟩ : ∃ f : Nat → Value,f = fun i => vs.getD i undef := ⟨_,rfl⟩
 have hOW : ∃ fp,OW w (.sl 1 es) (.slice (some ⟨g,0,none⟩) es.length vs.length) fp ∧ (∀ b ∈ fp,b = g) ∧ fp.Nodup := by
  refine ⟨g :: (List.replicate es.length [([] : List Nat)]).flatten.flatten,OW.sl es g 0 1 vs.length t vs.toArray (0,0) (fun i _ => vs.getD i undef) (List.replicate es.length [[]]) hg (.inl J) (by omega) (by omega) (by simp) (by omega) (fun e he => ?_) (by simp) (fun fs hfs => by rw [List.eq_of_mem_replicate hfs]; rfl) (fun i j hi hj => ?_) (fun i j e tt fs ff k1 k2 k3 k4 => ?_),?_,?_⟩
  ·obtain ⟨i,hi⟩ := List.getElem?_of_mem he
   obtain ⟨u,_,h3,_⟩ := hplain i e hi
   rw [h3]; rfl
  ·have h2 : i < vs.length := by omega
   have h3 : j = 0 := by omega
   subst h3
   simp [List.getD_eq_getElem?_getD,h2]
  ·obtain ⟨u,h3,h4,h5⟩ := hplain i e k1
   subst h4
   have hj : j = 0 := by have := Y7 k2; simp at this; exact this
   subst hj
   simp at k2
   subst k2
   have hfs : fs = [[]] := List.eq_of_mem_replicate (Y8 k3)
   subst hfs
   simp at k4
   subst k4
   have h6 : vs.getD i undef = u := Y6 h3
   rw [h6]
   exact .v u h5
  ·intro b hb
   simpa using hb
  ·simp
 obtain ⟨fp,hO,hfp,hnd⟩ := hOW
 have hkeep : Keeps w w [g] := ⟨rfl,rfl,rfl,Nat.le_refl _,fun _ _ _ => rfl⟩
 obtain ⟨hok,htn⟩ := h1.ok.turn (p := q) (fp := [g]) (by rw [e1]; rfl) hkeep (.ow (.sl 1 es) (.slice (some ⟨g,0,none⟩) es.length vs.length) fp) hO hnd trivial (fun b hb => .inl (by simp [hfp b hb]))
 have hone : ∀ x v,R1 w H F x v → R1 w (H.put q (.ow (.sl 1 es) (.slice (some ⟨g,0,none⟩) es.length vs.length) fp)) F (V1.tosr q x) v := fun x v hx => by
  cases x with
  | sb p n k =>
   simp only [V1.tosr]
   split
   ·rename_i hp
    have hpq := Nat.eq_of_beq_eq_true hp
    subst hpq
    split
    ·obtain ⟨g',t',vs',k1,k2,k3,k4⟩ := hx
     rw [e1] at k1
     simp only [Pc.box.injEq] at k1
     obtain ⟨rfl,rfl,rfl⟩ := k1
     have hn : n = es.length := by omega
     have hvn : vs.length = es.length := by omega
     rw [k4,hn]
     exact ⟨.sl 1 es,fp,by rw [Hs.put_self,hvn]⟩
    ·trivial
   ·exact R1.killed h1.ok htn hx
  | _ => exact R1.killed h1.ok htn hx
 refine ⟨_,h1.mapk (V1.tosr q) hone hok ((st.objs.map (Ob.mapk (V1.tosr q))).set q (.row 1 es)) (fun p => ?_),fun p b hb => ?_,htn.gh⟩
 ·by_cases hpq : p = q
  ·subst hpq
   rw [Y6 (x := .row 1 es) (by simp [hqlt])]
   exact ⟨_,_,Hs.put_self _ _ _⟩
  ·rw [List.getD_eq_getElem?_getD,List.getElem?_set_ne (Ne.symm hpq),List.getElem?_map]
   have h2 := h1.obs p
   rw [List.getD_eq_getElem?_getD] at h2
   have h3 := Hs.put_ne H (.ow (.sl 1 es) (.slice (some ⟨g,0,none⟩) es.length vs.length) fp) hpq
   cases ho : st.objs[p]? with
   | none => rw [ho] at h2; exact h3.trans h2
   | some ob => rw [ho] at h2; exact RB.mapk hone h3 h2
 ·by_cases hpq : p = q
  ·subst hpq
   rw [Hs.put_self] at hb
   exact ⟨p,by rw [e1,hfp b hb]; simp [Pc.fp]⟩
  ·exact ⟨p,by rw [← Hs.put_ne H _ hpq]; exact hb⟩
section
variable {P : Program} {ops : Array Oper} {o : Oper} {st : St} {n : Nat} {t t' : TypeId} {y z : Operand} {ps qs : List Nat}
theorem q_slnil {kk : Nat} {es : List (List T)} {e : TypeId} {zs : List Value} {by_ : Nat} [hm : TyMake P t e zs by_] (ho : o.op = .binOp .eql t y z t') (hg : o.guard = none) (hy : st.ev y = .o (.c (.rd ps (.sl kk es)))) (hz : st.ev z = .o (.c (.rd qs (.v (.slice none 0 0))))) (hne : 0 < es.length) : Qt P ops o st (B false) [] n :=
 .pure hg fun a w H F hr => ⟨.bool false,by
  have h2 := hr.plain hz
  have h1 : RO w (inP H F ps) (.sl kk es) (a.eval y) := hr.v1 hy
  obtain ⟨b,o',c,hv,_⟩ := RO.at_ h1 (i := 0) (List.getElem?_eq_getElem hne)
  simp [execOp,ho,h2,hv,eqGuard,Lib.run_eql_slice_nil (P := P) (h := hm.slice)],plainV _ rfl⟩
end
end
section
open Go.RowKit

theorem W_pre {st st' : St} {f : List (Nat × V) → St} (h : Wk st st') (k : ∃ l,Wk st' (f l)) : ∃ l,Wk st (f l) := k.imp fun _ hl => h.trans hl
theorem row2b {k : Nat} {o : Ob} {a b : List (List T)} (h : a = b) : [o,Ob.row k a] = [o,Ob.row k b] := by rw [h]
def bodyInts (b : TBody) : List Int := [b.Kind,b.Owner,b.X,b.Y,b.VX,b.VY,b.Aim,b.Life,b.Timer]
def worldInts (w : TWorld) : List Int := ([w.Tick,w.Seed,(w.Scores.length : Int)] ++ w.Scores) ++ w.Bodies.flatMap bodyInts
noncomputable def worldBytes (w : TWorld) : ByteArray := if worldOk w = true then packInts (worldInts w) else ⟨#[]⟩
theorem Yu {α : Type} [Enc α] (xs ys : List α) : els (xs ++ ys) = els xs ++ els ys := List.map_append
theorem flat_snoc {bs : List TBody} {k : Nat} (h : k < bs.length) : (bs.take (k + 1)).flatMap bodyInts = (bs.take k).flatMap bodyInts ++ bodyInts bs[k] := by
 rw [List.take_succ_eq_append_getElem h,List.flatMap_append]
 simp
theorem flat_len (bs : List TBody) : ∀ k,k ≤ bs.length → ((bs.take k).flatMap bodyInts).length = 9 * k
 | 0,_ => by simp
 | k + 1,h => by
  rw [flat_snoc (by omega),List.length_append,flat_len bs k (by omega)]
  simp [bodyInts]
  omega
theorem flat_gd {bs : List TBody} (hg : ∀ b ∈ bs,Enc.gd b) : ∀ x ∈ bs.flatMap bodyInts,I64 x := fun x hx => by
 obtain ⟨b,hb,hx⟩ := List.mem_flatMap.1 hx
 obtain ⟨b1,b2,b3,b4,b5,b6,b7,b8,b9⟩ := hg b hb
 simp only [bodyInts,List.mem_cons,List.not_mem_nil,or_false] at hx
 rcases hx with rfl | rfl | rfl | rfl | rfl | rfl | rfl | rfl | rfl <;> assumption
theorem I_bodyInts (b : TBody) : Con Tryz.prog 24 [] [ag b] [.row 1 (els (bodyInts b))] (.o (.c (.ref 0))) := by
 refine Con.of Tryz.func24 J Tryz.ntmps24 J (fun E => ?_)
 refine zy (Un (Gf J) J (z1 J (zz (zy (Gg J J (z3 J (Gg J J (z3 J ?_))))))));refine Gg J J (z3 J (Gg J J (z3 J (Gg J J (z3 J (Gg J J (z3 J (Gg J J (z3 J (Gg J J (z3 J ?_)))))))))));refine Gg J J (z3 J (Un (Uo J J) J (z1 J (zz (Xa (F_r ?_))))))
 exact Ud J (W_pre (Wk.sbrow (q := 1) J J (Nat.le_of_ble_eq_true J)) (Ue [1] J J J))
theorem I_WorldBytes (x : TWorld) (hg : Enc.gd x) : Con Tryz.prog 10 [] [ag x] [] (S (worldBytes x)) := by
 have hc := I_WorldOk x hg
 obtain ⟨gL,gT,gS,gSc,gB⟩ := hg
 cases ho : worldOk x with
 | false =>
  rw [ho] at hc
  rw [show worldBytes x = ⟨#[]⟩ by rw [worldBytes,ho]; exact if_neg (by decide)]
  refine Con.of Tryz.func10 J Tryz.ntmps10 J (fun E => ?_)
  refine zy (Un (Gf J) J (z1 J (zz (Qd (zy (Gw J J ?_))))));refine zx (Qj J J (hc) J) J ?_;refine zn J (zz (Qm J (zy (z1 J (zz (Xa (T_r (F_r ?_))))))))
  exact Ud J (Ue [] J J J)
 | true =>
  rw [ho] at hc
  rw [show worldBytes x = packInts (worldInts x) by rw [worldBytes,ho]; exact if_pos rfl]
  obtain ⟨_,_,_,hn,_,hb,_⟩ := K8 ho
  have hls := Yx x.Scores
  have hlb := Yx x.Bodies
  refine Con.of Tryz.func10 J Tryz.ntmps10 J (fun E => ?_)
  refine zy (Un (Gf J) J (z1 J (zz (Qd (zy (Gw J J ?_))))));refine zx (Qj J J (hc) J) J ?_;refine zn J (zz (Ql J (Qh (Q0 (zy (Gg J J (z3 J (Gg J J (z3 J ?_)))))))));refine Gg J J (z3 J (zx (Kb J J J) J (Un (Uo J J) J (z1 J (zz (zy (z0 J (Gg J J (z3 J ?_)))))))))
  have hl3 : (els [x.Tick,x.Seed,((els x.Scores).length : Int)]).length = 3 := rfl
  refine AL.weak (Wk.sbrow (q := 1) (es := els [x.Tick,x.Seed,((els x.Scores).length : Int)]) J J (Nat.le_of_ble_eq_true J)) ?_;refine AL.weak (st' := (⟨_,[(1,.o (.c (.ptr 0 0))),(17,.o (.c (.ref 1))),(19,L x.Scores)],[.box ((Enc.e x).map (V1.rd [])),.row 1 (els [x.Tick,x.Seed,((els x.Scores).length : Int)])]⟩ : St)) (Uf [0,1]) ?_;refine M_app J J J J J J J J J J (Yy _) (els_k _) (by omega) (by omega) ?_;refine z1 J (zz (Qd (zy (Gg J J (z3 J (zx (Kb J J J) J (z0 J (zz ?_))))))));refine Qk ?_
  have hini : els (([x.Tick,x.Seed,(x.Scores.length : Int)] ++ x.Scores) ++ (x.Bodies.take 0).flatMap bodyInts) = els [x.Tick,x.Seed,((els x.Scores).length : Int)] ++ els x.Scores := by rw [List.take_zero,List.flatMap_nil,List.append_nil,Yu,hls]
  refine Xi (fun m st => ∃ k : Nat,k + m = x.Bodies.length ∧ (True) ∧ st = (⟨_,[(1,.o (.c (.ptr 0 0))),(3,.o (.c (.ref 1))),(22,L x.Bodies),(23,I (els x.Bodies).length),(24,I k)],[.box ((Enc.e x).map (V1.rd [])),.row 1 (els (([x.Tick,x.Seed,(x.Scores.length : Int)] ++ x.Scores) ++ (x.Bodies.take k).flatMap bodyInts))]⟩ : St)) (x.Bodies.length) ⟨(fun k : Nat => (⟨_,[(1,.o (.c (.ptr 0 0))),(3,.o (.c (.ref 1))),(22,L x.Bodies),(23,I (els x.Bodies).length),(24,I k)],[.box ((Enc.e x).map (V1.rd [])),.row 1 (els (([x.Tick,x.Seed,(x.Scores.length : Int)] ++ x.Scores) ++ (x.Bodies.take k).flatMap bodyInts))]⟩ : St)) 0,⟨0,by omega,trivial,J⟩,Yb [0,1] (by decide) J (row2b hini) (.c J (.c J (.c J (.c J (.c J (.nil))))))⟩ ?_
  rintro m_A _ ⟨k,hk_A,hp_A,rfl⟩
  have hla := Yx (([x.Tick,x.Seed,(x.Scores.length : Int)] ++ x.Scores) ++ (x.Bodies.take k).flatMap bodyInts)
  have hfl := flat_len x.Bodies k (by omega)
  have hlc : (([x.Tick,x.Seed,(x.Scores.length : Int)] ++ x.Scores) ++ (x.Bodies.take k).flatMap bodyInts).length = 3 + x.Scores.length + 9 * k := by
   rw [List.length_append,List.length_append,hfl]; rfl
  refine zy (zx (Vi J) J (zz (Qd ?_)))
  refine Xb J (fun h => ?_) (fun h => ?_)
  ·have h3 : k < x.Bodies.length := by have := of_decide_eq_true h; omega
   have hat := Yv h3
   have hlb9 : (els (bodyInts x.Bodies[k])).length = 9 := rfl
   refine Qh (Q0 (Qd (Qk (zy (zx (Q2 J J J J (by omega) (by assumption) J) J (zx (Kg J J J J J) J (Un (Gh J J) J ?_)))))));refine G1 J J (zz (Qc (z0 J (Gw J J ?_))));refine Un (Z3 J J (I_bodyInts x.Bodies[k]) J J J) J ?_;refine M_app J J J J J J J J J J (Yy _) (els_k _) (by omega) (by omega) ?_;refine z1 J (Qe (Q1 (Q0 (Qc (Uh J (z0 J (zz ?_)))))))
   exact ⟨x.Bodies.length - (k + 1),by omega,(fun k : Nat => (⟨_,[(1,.o (.c (.ptr 0 0))),(3,.o (.c (.ref 1))),(22,L x.Bodies),(23,I (els x.Bodies).length),(24,I k)],[.box ((Enc.e x).map (V1.rd [])),.row 1 (els (([x.Tick,x.Seed,(x.Scores.length : Int)] ++ x.Scores) ++ (x.Bodies.take k).flatMap bodyInts))]⟩ : St)) (k + 1),⟨k + 1,by omega,trivial,J⟩,Yb [0,1] (by decide) J (row2b (by rw [flat_snoc h3,← List.append_assoc,Yu _ (bodyInts x.Bodies[k])])) (.c J (.c J (.c J (.c J (.c J (.nil))))))⟩
  ·have h3 : ¬ k < x.Bodies.length := by have := of_decide_eq_false h; omega
   have hk : x.Bodies.take k = x.Bodies := List.take_of_length_le (by omega)
   rw [hk] at hlc hla ⊢
   have hgi : Enc.gd (([x.Tick,x.Seed,(x.Scores.length : Int)] ++ x.Scores) ++ x.Bodies.flatMap bodyInts) := ⟨by omega,fun y hy => by
    rcases List.mem_append.1 hy with hy | hy
    ·rcases List.mem_append.1 hy with hy | hy
     ·simp only [List.mem_cons,List.not_mem_nil,or_false] at hy
      rcases hy with rfl | rfl | rfl
      ·exact gT
      ·exact gS
      ·exact ⟨by omega,by omega⟩
     ·exact gSc.2 y hy
    ·exact flat_gd gB.2 y hy⟩
   have hp := I_PackInts (([x.Tick,x.Seed,(x.Scores.length : Int)] ++ x.Scores) ++ x.Bodies.flatMap bodyInts) hgi (by omega)
   refine Q9 (T_x (T_x (Xk (Q0 (zy (z0 J ?_))))));refine zx (Qj J J (hp) J) J ?_;refine z1 J (zz (Xa (F_r ?_)))
   exact Ud J (Ue [] J J J)
theorem X5 (x : TWorld) (hg : Enc.gd x) : Con Tryz.prog 73 [] [ag x] [] (S (worldBytes x)) := by
 have hc := S_WorldOk x hg
 obtain ⟨gL,gT,gS,gSc,gB⟩ := hg
 cases ho : worldOk x with
 | false =>
  rw [ho] at hc
  rw [show worldBytes x = ⟨#[]⟩ by rw [worldBytes,ho]; exact if_neg (by decide)]
  refine Con.of Tryz.func73 J Tryz.ntmps73 J (fun E => ?_)
  refine zy (Un (Gf J) J (z1 J (zz (Qd (zy (Gw J J ?_))))));refine zx (Qj J J (hc) J) J ?_;refine zn J (zz (Qm J (zy (z1 J (zz (Xa (T_r (F_r ?_))))))))
  exact Ud J (Ue [] J J J)
 | true =>
  rw [ho] at hc
  rw [show worldBytes x = packInts (worldInts x) by rw [worldBytes,ho]; exact if_pos rfl]
  obtain ⟨_,_,_,hn,_,hb,_⟩ := K8 ho
  have hls := Yx x.Scores
  have hlb := Yx x.Bodies
  refine Con.of Tryz.func73 J Tryz.ntmps73 J (fun E => ?_)
  refine zy (Un (Gf J) J (z1 J (zz (Qd (zy (Gw J J ?_))))));refine zx (Qj J J (hc) J) J ?_;refine zn J (zz (Ql J (Qh (Q0 (zy (Gg J J (z3 J (Gg J J (z3 J ?_)))))))));refine Gg J J (z3 J (zx (Kb J J J) J (Un (Uo J J) J (Gg J J (z3 J ?_)))))
  have hl3 : (els [x.Tick,x.Seed,((els x.Scores).length : Int)]).length = 3 := rfl
  refine AL.weak (Wk.sbrow (q := 1) (es := els [x.Tick,x.Seed,((els x.Scores).length : Int)]) J J (Nat.le_of_ble_eq_true J)) ?_;refine AL.weak (st' := (⟨_,[(1,.o (.c (.ptr 0 0))),(16,.o (.c (.ref 1))),(18,L x.Scores)],[.box ((Enc.e x).map (V1.rd [])),.row 1 (els [x.Tick,x.Seed,((els x.Scores).length : Int)])]⟩ : St)) (Uf [0,1]) ?_;refine M_app J J J J J J J J J J (Yy _) (els_k _) (by omega) (by omega) ?_;refine z1 J (zz (Qd (zy (z1 J (zz (Qk ?_))))))
  have hini : els (([x.Tick,x.Seed,(x.Scores.length : Int)] ++ x.Scores) ++ (x.Bodies.take 0).flatMap bodyInts) = els [x.Tick,x.Seed,((els x.Scores).length : Int)] ++ els x.Scores := by rw [List.take_zero,List.flatMap_nil,List.append_nil,Yu,hls]
  refine Xi (fun m st => ∃ k : Nat,k + m = x.Bodies.length ∧ (True) ∧ st = (⟨_,[(1,.o (.c (.ptr 0 0))),(3,.o (.c (.ref 1))),(4,I k)],[.box ((Enc.e x).map (V1.rd [])),.row 1 (els (([x.Tick,x.Seed,(x.Scores.length : Int)] ++ x.Scores) ++ (x.Bodies.take k).flatMap bodyInts))]⟩ : St)) (x.Bodies.length) ⟨(fun k : Nat => (⟨_,[(1,.o (.c (.ptr 0 0))),(3,.o (.c (.ref 1))),(4,I k)],[.box ((Enc.e x).map (V1.rd [])),.row 1 (els (([x.Tick,x.Seed,(x.Scores.length : Int)] ++ x.Scores) ++ (x.Bodies.take k).flatMap bodyInts))]⟩ : St)) 0,⟨0,by omega,trivial,J⟩,Yb [0,1] (by decide) J (row2b hini) (.c J (.c J (.c J (.nil))))⟩ ?_
  rintro m_A _ ⟨k,hk_A,hp_A,rfl⟩
  have hla := Yx (([x.Tick,x.Seed,(x.Scores.length : Int)] ++ x.Scores) ++ (x.Bodies.take k).flatMap bodyInts)
  have hfl := flat_len x.Bodies k (by omega)
  have hlc : (([x.Tick,x.Seed,(x.Scores.length : Int)] ++ x.Scores) ++ (x.Bodies.take k).flatMap bodyInts).length = 3 + x.Scores.length + 9 * k := by
   rw [List.length_append,List.length_append,hfl]; rfl
  refine Qd (zy (z0 J (Gg J J (z3 J (zx (Kb J J J) J (zx (Vi J) J (zz ?_)))))))
  refine Xb J (fun h => ?_) (fun h => ?_)
  ·have h3 : k < x.Bodies.length := by have := of_decide_eq_true h; omega
   have hat := Yv h3
   have hlb9 : (els (bodyInts x.Bodies[k])).length = 9 := rfl
   refine Qh (Q0 (Qd (Qk (zy (Gg J J (z3 J (z0 J (zx (Q2 J J J J (by omega) (by assumption) J) J (zx (Kg J J J J J) J (Un (Gh J J) J ?_))))))))));refine G1 J J (zz (Qc (z0 J (Gg J J (z3 J (Gg J J (z3 J (Gg J J (z3 J (Gg J J ?_))))))))));refine z3 J (Gg J J (z3 J (Gg J J (z3 J (Gg J J (z3 J (Gg J J (z3 J (Gg J J (z3 J (Un (Uo J J) J ?_)))))))))));refine Xx J J J J J J J J J J (by omega) (by omega) ?_;refine z1 J (Qe (Q1 (Q0 (Qc (z0 J (Uh J (z1 J (zz ?_))))))))
   exact ⟨x.Bodies.length - (k + 1),by omega,(fun k : Nat => (⟨_,[(1,.o (.c (.ptr 0 0))),(3,.o (.c (.ref 1))),(4,I k)],[.box ((Enc.e x).map (V1.rd [])),.row 1 (els (([x.Tick,x.Seed,(x.Scores.length : Int)] ++ x.Scores) ++ (x.Bodies.take k).flatMap bodyInts))]⟩ : St)) (k + 1),⟨k + 1,by omega,trivial,J⟩,Yb [0,1] (by decide) J (row2b (by rw [flat_snoc h3,← List.append_assoc,Yu _ (bodyInts x.Bodies[k])]; rfl)) (.c J (.c J (.c J (.nil))))⟩
  ·have h3 : ¬ k < x.Bodies.length := by have := of_decide_eq_false h; omega
   have hk : x.Bodies.take k = x.Bodies := List.take_of_length_le (by omega)
   rw [hk] at hlc hla ⊢
   have hgi : Enc.gd (([x.Tick,x.Seed,(x.Scores.length : Int)] ++ x.Scores) ++ x.Bodies.flatMap bodyInts) := ⟨by omega,fun y hy => by
    rcases List.mem_append.1 hy with hy | hy
    ·rcases List.mem_append.1 hy with hy | hy
     ·simp only [List.mem_cons,List.not_mem_nil,or_false] at hy
      rcases hy with rfl | rfl | rfl
      ·exact gT
      ·exact gS
      ·exact ⟨by omega,by omega⟩
     ·exact gSc.2 y hy
    ·exact flat_gd gB.2 y hy⟩
   have hp := S_PackInts (([x.Tick,x.Seed,(x.Scores.length : Int)] ++ x.Scores) ++ x.Bodies.flatMap bodyInts) hgi (by omega)
   refine Q9 (T_x (T_x (Xk (Q0 (zy (z0 J ?_))))));refine zx (Qj J J (hp) J) J ?_;refine z1 J (zz (Xa (F_r ?_)))
   exact Ud J (Ue [] J J J)
end
section
open Go.RowKit

def replayOk (r : TReplay) : Bool := levelOk r.Level && inR r.Players 1 4 && inR r.Seed 0 65535 && inR r.Every 1 100 && decide (r.Rows.length ≤ 400) && (r.Rows.all fun row => rowOk row r.Players) && decide ((r.Keys.length : Int) = (r.Rows.length : Int) / r.Every)
theorem replay_no {r : TReplay} (h : ((!levelOk r.Level || !inR r.Players 1 4) || !inR r.Seed 0 65535) = true ∨ ((!inR r.Every 1 100) || decide (400 < (r.Rows.length : Int))) = true ∨ (r.Rows.all fun row => rowOk row r.Players) = false) : replayOk r = false := by
 unfold replayOk
 rcases h with h | h | h
 ·simp only [Bool.or_eq_true,Bool.not_eq_true'] at h
  rcases h with (h | h) | h <;> simp [h]
 ·simp only [Bool.or_eq_true,Bool.not_eq_true',decide_eq_true_eq] at h
  rcases h with h | h
  ·simp [h]
  ·simp [show ¬ r.Rows.length ≤ 400 by omega]
 ·simp [h]
theorem replay_yes {r : TReplay} (h1 : ((!levelOk r.Level || !inR r.Players 1 4) || !inR r.Seed 0 65535) = false) (h2 : ((!inR r.Every 1 100) || decide (400 < (r.Rows.length : Int))) = false) (h3 : (r.Rows.all fun row => rowOk row r.Players) = true) : replayOk r = decide ((r.Keys.length : Int) = (r.Rows.length : Int) / r.Every) := by
 simp only [Bool.or_eq_false_iff,Bool.not_eq_false',decide_eq_false_iff_not] at h1 h2
 unfold replayOk
 rw [h3]
 simp [h1,h2,show r.Rows.length ≤ 400 by omega]

theorem I_ReplayOk (x : TReplay) (hg : Enc.gd x) : Con Tryz.prog 14 [] [ag x] [] (B (replayOk x)) := by
 obtain ⟨g_Level,g_Players,g_Seed,g_Every,g_Rows,g_Keys⟩ := hg
 have g1 := g_Rows.1
 have g2 := g_Keys.1
 have hlr := Yx x.Rows
 have hlk := Yx x.Keys
 have cl := Xt x.Level g_Level
 refine Con.of Tryz.func14 J Tryz.ntmps14 J (fun E => ?_)
 refine zy (Un (Gf J) J (z1 J (zz (Qd (zy (Gg J J (Gw J J ?_)))))));refine zx (Qj J J (cl) J) J ?_;refine zn J (z0 J ?_);refine zx (Qt.grdF J J J .stop (fun hgrd => Vq J J)) J ?_;refine zx (Uj J (.hit .stop) (fun hgrd => Vr J)) J ?_;refine zx (Uj J (.hit (.hit .stop)) (fun hgrd => Qj J J (Xu x.Players 1 4) J)) J ?_;refine zx (Uj J (.hit (.hit (.hit .stop))) (fun hgrd => V3 J)) J ?_;refine zx (Uk J) J (z0 J ?_);refine zx (Qt.grdF J J J .stop (fun hgrd => Vq J J)) J ?_;refine zx (Uj J (.hit .stop) (fun hgrd => Vr J)) J ?_;refine zx (Uj J (.hit (.hit .stop)) (fun hgrd => Qj J J (Xu x.Seed 0 65535) J)) J ?_;refine zx (Uj J (.hit (.hit (.hit .stop))) (fun hgrd => V3 J)) J ?_;refine zx (Uk J) J (zz ?_)
 refine Xb J (fun h1 => ?_) (fun h1 => ?_)
 ·refine zy (z1 rfl (zz (Xa (T_r (F_r ?_)))))
  exact Ud J (Ue [] J J (Xj (replay_no (.inl h1)).symm))
 refine AWP.pre (st' := (⟨_,[(1,.o (.c (.ptr 0 0)))],[.box ((Enc.e x).map (V1.rd []))]⟩ : St)) ?_ (Uf [0])
 refine Qh (Q0 (Qd (zy (Gg J J (z3 J ?_)))));refine zx (Qj J J (Xu x.Every 1 100) J) J ?_;refine zn J (z0 J ?_);refine zx (Qt.grdF J J J .stop (fun hgrd => Vq J J)) J ?_;refine zx (Uj J (.hit .stop) (fun hgrd => Vr J)) J ?_;refine zx (Uj J (.hit (.hit .stop)) (fun hgrd => Kb J J J)) J ?_;refine zx (Uj J (.hit (.hit (.hit .stop))) (fun hgrd => Z9 J J J J)) J ?_;refine zx (Uk J) J (zz ?_)
 refine Xb J (fun h2 => ?_) (fun h2 => ?_)
 ·refine zy (z1 rfl (zz (Xa (T_r (F_r ?_)))))
  exact Ud J (Ue [] J J (Xj (replay_no (.inr (.inl (by rwa [hlr] at h2)))).symm))
 rw [hlr] at h2
 have hE : 1 ≤ x.Every := by
  simp only [Bool.or_eq_false_iff,Bool.not_eq_false',Za] at h2
  exact h2.1.1
 refine Qh (Q0 (Qd (zy (Gg J J (z3 J (zx (Kb J J J) J (z0 J (zz (Qk ?_)))))))));refine Xi (fun m st => ∃ k : Nat,k + m = x.Rows.length ∧ ((x.Rows.take k).all (fun row => rowOk row x.Players) = true) ∧ st = (⟨_,[(1,.o (.c (.ptr 0 0))),(32,L x.Rows),(33,I (els x.Rows).length),(34,I k)],[.box ((Enc.e x).map (V1.rd []))]⟩ : St)) (x.Rows.length) ⟨_,⟨0,by omega,by simp,J⟩,Uf [0]⟩ ?_
 rintro m_A _ ⟨k,hk_A,hp_A,rfl⟩
 refine zy (zx (Vi J) J (zz (Qd ?_)))
 refine Xb J (fun h => ?_) (fun h => ?_)
 ·have h3 : k < x.Rows.length := by have := of_decide_eq_true h; omega
  have hat := Yv h3
  have hc := I_rowOk x.Rows[k] x.Players (g_Rows.2 _ (List.getElem_mem h3))
  refine Qh (Q0 (Qd (Qk (zy (zx (Q2 J J J J (by omega) (by assumption) J) J (zx (Ug J) J (z1 J (zz (Qd ?_)))))))));refine Qc (z0 J (Gg J J (z3 J ?_)));refine zx (Qj J J (hc) J) J ?_;refine zn J (zz ?_)
  refine Xb J (fun h4 => ?_) (fun h4 => ?_)
  ·refine zy (z1 rfl (zz (Xa (B_r (T_r (T_r (B_r ?_)))))))
   refine T_r (F_r ?_)
   exact Ud J (Ue [] J J (Xj (replay_no (.inr (.inr (all_no h3 (by simpa using h4))))).symm))
  ·refine Qh (Q1 (Q0 (Qc (Uh rfl (z0 rfl (Qe ?_))))))
   refine Q0 ?_
   exact ⟨x.Rows.length - (k + 1),by omega,_,⟨k + 1,by omega,Ye hp_A h3 (by simpa using h4),J⟩,Uf [0]⟩
 ·have h3 : ¬ ((k : Int) < (els x.Rows).length) := of_decide_eq_false h
  refine Q9 (T_x (T_x (Xk (Q0 (Qd (Xh u8_9 [[],[44],[44,45],[],[47],[47,48],[],[50],[47,48,49,50,51],[44,45,46,47,48,49,50,51,52],[44,45,46,47,48,49,50,51,52,53]] [[47,48,49,50,51,52],[47,48,49,50,51,52],[47,48,49,50,51,52],[44,45,46,50,51],[44,45,46,50,51],[44,45,46,50,51],[44,45,46,47,48,49],[44,45,46,47,48,49],[44,45,46],[],[]] J (Ve (Vq J J) J (Ve (Vr J) J (Ve (Kb J J J) J (Ve (Vq J J) J (Ve (Vr J) J ?_)))))))))));refine Ve (Kb J J J) J (Ve (Vq J J) J (Ve (Vr J) J (Ve (q_quo J J J J (by omega)) J (Ve (Z5 J J J J) J (Ve (Qb J J J) J (Vd (zz (Xa (F_r ?_)))))))))
  exact Ud J (Ue [] J J (Xj (by rw [replay_yes h1 h2 (all_end hp_A (by omega)),hlr,hlk])))
theorem X4 (x : TReplay) (hg : Enc.gd x) : Con Tryz.prog 54 [] [ag x] [] (B (replayOk x)) := by
 obtain ⟨g_Level,g_Players,g_Seed,g_Every,g_Rows,g_Keys⟩ := hg
 have g1 := g_Rows.1
 have g2 := g_Keys.1
 have hlr := Yx x.Rows
 have hlk := Yx x.Keys
 have cl := S_LevelOk x.Level g_Level
 refine Con.of Tryz.func54 J Tryz.ntmps54 J (fun E => ?_)
 refine zy (Un (Gf J) J (z1 J (zz (Qd (zy (Gg J J (Gw J J ?_)))))));refine zx (Qj J J (cl) J) J ?_;refine zn J (z0 J ?_);refine zx (Qt.grdF J J J .stop (fun hgrd => Vq J J)) J ?_;refine zx (Uj J (.hit .stop) (fun hgrd => Vr J)) J ?_;refine zx (Uj J (.hit (.hit .stop)) (fun hgrd => Qj J J (S_in x.Players 1 4) J)) J ?_;refine zx (Uj J (.hit (.hit (.hit .stop))) (fun hgrd => V3 J)) J ?_;refine zx (Uk J) J (z0 J ?_);refine zx (Qt.grdF J J J .stop (fun hgrd => Vq J J)) J ?_;refine zx (Uj J (.hit .stop) (fun hgrd => Vr J)) J ?_;refine zx (Uj J (.hit (.hit .stop)) (fun hgrd => Qj J J (S_in x.Seed 0 65535) J)) J ?_;refine zx (Uj J (.hit (.hit (.hit .stop))) (fun hgrd => V3 J)) J ?_;refine zx (Uk J) J (z0 J ?_);refine zx (Qt.grdF J J J .stop (fun hgrd => Vq J J)) J ?_;refine zx (Uj J (.hit .stop) (fun hgrd => Vr J)) J ?_;refine zx (Uj J (.hit (.hit .stop)) (fun hgrd => Qj J J (S_in x.Every 1 100) J)) J ?_;refine zx (Uj J (.hit (.hit (.hit .stop))) (fun hgrd => V3 J)) J ?_;refine zx (Uk J) J (z0 J ?_);refine zx (Qt.grdF J J J .stop (fun hgrd => Vq J J)) J ?_;refine zx (Uj J (.hit .stop) (fun hgrd => Vr J)) J ?_;refine zx (Uj J (.hit (.hit .stop)) (fun hgrd => Kb J J J)) J ?_;refine zx (Uj J (.hit (.hit (.hit .stop))) (fun hgrd => Z9 J J J J)) J ?_;refine zx (Uk J) J (zz ?_)
 refine Xb J (fun h1 => ?_) (fun h1 => ?_)
 ·rw [hlr,Bool.or_assoc,Bool.or_eq_true] at h1
  refine zy (z1 J (zz (Xa (T_r (F_r ?_)))))
  exact Ud J (Ue [] J J (Xj (replay_no (h1.imp_right .inl)).symm))
 rw [hlr,Bool.or_assoc,Bool.or_eq_false_iff] at h1
 have hE : 1 ≤ x.Every := by
  have h2 := h1.2
  simp only [Bool.or_eq_false_iff,Bool.not_eq_false',Za] at h2
  exact h2.1.1
 refine AWP.pre (st' := (⟨_,[(1,.o (.c (.ptr 0 0)))],[.box ((Enc.e x).map (V1.rd []))]⟩ : St)) ?_ (Uf [0])
 refine Qh (Q0 (Qd (zy (z1 J (zz (Qk ?_))))));refine Xi (fun m st => ∃ k : Nat,k + m = x.Rows.length ∧ ((x.Rows.take k).all (fun row => rowOk row x.Players) = true) ∧ st = (⟨_,[(1,.o (.c (.ptr 0 0))),(3,I k)],[.box ((Enc.e x).map (V1.rd []))]⟩ : St)) (x.Rows.length) ⟨_,⟨0,by omega,by simp,J⟩,Uf [0]⟩ ?_
 rintro m_A _ ⟨k,hk_A,hp_A,rfl⟩
 refine Qd (zy (z0 J (Gg J J (z3 J (zx (Kb J J J) J (zx (Vi J) J (zz ?_)))))))
 refine Xb J (fun h => ?_) (fun h => ?_)
 ·have h3 : k < x.Rows.length := by have := of_decide_eq_true h; omega
  have hat := Yv h3
  have hc := S_rowOk x.Rows[k] x.Players (g_Rows.2 _ (List.getElem_mem h3))
  refine Qh (Q0 (Qd (Qk (Qd (Xh [[],[0],[],[0,1,2],(u9 4),[],[5],(u9 7),(u9 8)] [[],[39],[],[39,40,41],[39,40,41,42],[],[44],[39,40,41,42,43,44,45],[39,40,41,42,43,44,45,46]] [[41,44,45],[41,44,45],[39,40,44,45],[44,45],[44,45],[39,40,41,42,43],[39,40,41,42,43],[],[]] J (Ve (Vq J J) J (Ve (Vr J) J (Ve (Vo J) J (Ve (Q2 J J J J (by omega) (by assumption) J) J (Ve (Ug J) J (Ve (Vq J J) J ?_)))))))))));refine Ve (Vr J) J ?_;refine Ve (Qj J J (hc) J) J ?_;refine Ve (V3 J) J (Vd (zz ?_))
  refine Xb J (fun h4 => ?_) (fun h4 => ?_)
  ·refine zy (z1 rfl (zz (Xa (B_r (T_r (T_r (B_r ?_)))))))
   refine T_r (F_r ?_)
   exact Ud J (Ue [] J J (Xj (replay_no (.inr (.inr (all_no h3 (by simpa using h4))))).symm))
  ·refine Qh (Q1 (Q0 (Qc (z0 rfl (Uh rfl ?_)))))
   refine z1 J (zz ?_)
   exact ⟨x.Rows.length - (k + 1),by omega,_,⟨k + 1,by omega,Ye hp_A h3 (by simpa using h4),J⟩,Uf [0]⟩
 ·have h3 : ¬ ((k : Int) < (els x.Rows).length) := of_decide_eq_false h
  refine Q9 (T_x (T_x (Xk (Q0 (Qd (Xh u8_9 [[],[48],[48,49],[],[51],[51,52],[],[54],[51,52,53,54,55],[48,49,50,51,52,53,54,55,56],[48,49,50,51,52,53,54,55,56,57]] [[51,52,53,54,55,56],[51,52,53,54,55,56],[51,52,53,54,55,56],[48,49,50,54,55],[48,49,50,54,55],[48,49,50,54,55],[48,49,50,51,52,53],[48,49,50,51,52,53],[48,49,50],[],[]] J (Ve (Vq J J) J (Ve (Vr J) J (Ve (Kb J J J) J (Ve (Vq J J) J (Ve (Vr J) J ?_)))))))))));refine Ve (Kb J J J) J (Ve (Vq J J) J (Ve (Vr J) J (Ve (q_quo J J J J (by omega)) J (Ve (Z5 J J J J) J (Ve (Qb J J J) J (Vd (zz (Xa (F_r ?_)))))))))
  exact Ud J (Ue [] J J (Xj (by rw [replay_yes h1.1 h1.2 (all_end hp_A (by omega)),hlr,hlk])))
end
section
open Go.RowKit

inductive Den1 : V1 → V1 → Prop
 | same (x : V1) : Den1 x x
 | nil (qs : List Nat) (k : Nat) : Den1 (.rd qs (.v (.slice none 0 0))) (.rd qs (.sl k []))
inductive DenL : List V1 → List V1 → Prop
 | nil : DenL [] []
 | cons {x y : V1} {xs ys : List V1} (h : Den1 x y) (t : DenL xs ys) : DenL (x :: xs) (y :: ys)
inductive Den2 : V2 → V2 → Prop
 | same (x : V2) : Den2 x x
 | ag {xs ys : List V1} (h : DenL xs ys) : Den2 (.ag xs) (.ag ys)
inductive DenA : List V2 → List V2 → Prop
 | nil : DenA [] []
 | cons {x y : V2} {xs ys : List V2} (h : Den2 x y) (t : DenA xs ys) : DenA (x :: xs) (y :: ys)
section
variable {w : World} {H : Hs} {F : Nat → Prop}
theorem Den1.r {x y : V1} (h : Den1 x y) {v : Value} (hx : R1 w H F x v) : R1 w H F y v := by
 cases h with
 | same => exact hx
 | nil qs k => obtain ⟨rfl,_⟩ := RO.plain hx; exact .nil _ _ _ (by simp)
theorem DenL.r : ∀ {xs ys : List V1},DenL xs ys → xs.length = ys.length ∧ ∀ (i : Nat) (y : V1),ys[i]? = some y → ∃ x,xs[i]? = some x ∧ Den1 x y
 | _,_,.nil => ⟨rfl,fun i y h => by simp at h⟩
 | _,_,.cons (x := x) h t => by
  obtain ⟨h1,h2⟩ := DenL.r t
  refine ⟨by simp [h1],fun i y hy => ?_⟩
  cases i with
  | zero => simp at hy; subst hy; exact ⟨x,rfl,h⟩
  | succ i => simpa using h2 i y (by simpa using hy)
theorem Den2.r {x y : V2} (h : Den2 x y) {v : Value} (hx : R2 w H F x v) : R2 w H F y v := by
 cases h with
 | same => exact hx
 | ag h =>
  obtain ⟨h1,h2⟩ := h.r
  obtain ⟨us,e,hl,hr⟩ := hx
  refine ⟨us,e,by omega,fun i y u h3 h4 => ?_⟩
  obtain ⟨x,h5,h6⟩ := h2 i y h3
  exact h6.r (hr i x u h5 h4)
theorem DenA.r : ∀ {xs ys : List V2},DenA xs ys → xs.length = ys.length ∧ ∀ (i : Nat) (y : V2),ys[i]? = some y → ∃ x,xs[i]? = some x ∧ Den2 x y
 | _,_,.nil => ⟨rfl,fun i y h => by simp at h⟩
 | _,_,.cons (x := x) h t => by
  obtain ⟨h1,h2⟩ := DenA.r t
  refine ⟨by simp [h1],fun i y hy => ?_⟩
  cases i with
  | zero => simp at hy; subst hy; exact ⟨x,rfl,h⟩
  | succ i => simpa using h2 i y (by simpa using hy)
theorem Con.den {P : Program} {f : FuncId} {objs objs' : List Ob} {args args2 : List V2} {res : V} (hc : Con P f objs args objs' res) (h : DenA args2 args) : Con P f objs args2 objs' res := fun w H F vs hok hob hvl hr => by
 obtain ⟨h1,h2⟩ := h.r
 exact hc w H F vs hok hob (by omega) fun i y v hy hv => by
  obtain ⟨x,h3,h4⟩ := h2 i y hy
  exact h4.r (hr i x v h3 hv)
end
def nilV : V1 := .rd [] (.v (.slice none 0 0))
theorem I_copyLevel (x : TLevel) (hg : Enc.gd x) (hL : x.Rows.length ≤ 1048576) : Con Tryz.prog 41 [] [ag x] [.row 1 (els x.Rows)] (.o (.ag [.ref 0])) := by
 have hlx := Yx x.Rows
 have hg1 := hg.1
 refine Con.of Tryz.func41 J Tryz.ntmps41 J (fun E => ?_)
 refine zy (Un (Gf J) J (Un (Gh J J) J (zz (zy (Gg J J (z3 J ?_))))));refine M_appnil J J J J J J J J (Yy _) (els_k _) (by omega) (by omega) ?_;refine zx (Zz J J J J J) J ?_;refine G1 J J (zz (Xa (F_r ?_)))
 exact Xl J J J J (Ue [2] J J J)
theorem X6 (x : TLevel) (hg : Enc.gd x) (hL : x.Rows.length ≤ 1048576) : Con Tryz.prog 53 [] [ag x] [.row 1 (els x.Rows)] (.o (.ag [.ref 0])) := by
 have hlx := Yx x.Rows
 have hg1 := hg.1
 have h00 : ([] : List (List T)).length = 0 := rfl
 refine Con.of Tryz.func53 J Tryz.ntmps53 J (fun E => ?_)
 refine zy (Un (Gf J) J (Un (Gh J J) J (zz (zy (Un (Zx J J J) J (Gg J J (z3 J ?_)))))));refine M_app J J J J J J J J J J (Yy _) (els_k _) (by omega) (by omega) ?_;refine zx (Zz J J J J J) J ?_;refine G1 J J (zz (Xa (F_r ?_)))
 exact Xl J J J J (Ue [2] J J J)
def zeroReplay : TReplay := ⟨⟨[]⟩,0,0,0,[],[]⟩
def newReplay (l : TLevel) (p s e : Int) : TReplay := if replayOk ⟨l,p,s,e,[],[]⟩ = true then ⟨l,p,s,e,[],[]⟩ else zeroReplay
theorem S_NewReplay (l : TLevel) (p s e : Int) (hl : Enc.gd l) (hL : l.Rows.length ≤ 1048576) (hp : I64 p) (hs : I64 s) (he : I64 e) : Con Tryz.prog 30 [] [ag l,ai p,ai s,ai e] (ownO (Enc.e (newReplay l p s e))) (.tu [.ag (ownV 0 (Enc.e (newReplay l p s e))),.c (.rd [] (.v (.bool (replayOk ⟨l,p,s,e,[],[]⟩))))]) := by
 have hc := (X4 ⟨l,p,s,e,[],[]⟩ ⟨hl,hp,hs,he,⟨by simp,fun x hx => by simp at hx⟩,⟨by simp,fun x hx => by simp at hx⟩⟩).den (args2 := [.ag [.rd [] (sl l.Rows),.rd [] (.v (.int .i64 p)),.rd [] (.v (.int .i64 s)),.rd [] (.v (.int .i64 e)),.rd [] (.v (.slice none 0 0)),.rd [] (.v (.slice none 0 0))]])
  (.cons (.ag (.cons (.same _) (.cons (.same _) (.cons (.same _) (.cons (.same _) (.cons (.nil _ _) (.cons (.nil _ _) .nil))))))) .nil)
 cases hr : replayOk ⟨l,p,s,e,[],[]⟩ with
 | false =>
  rw [hr] at hc
  rw [show newReplay l p s e = zeroReplay by rw [newReplay,hr]; rfl]
  refine Con.of Tryz.func30 J Tryz.ntmps30 J (fun E => ?_)
  refine zy (Un (Gf J) J (Un (Gh J J) J (z1 J (zz (zy (Gw J J ?_))))));refine Un (Z3 J J (X6 l hl hL) J J J) J ?_;refine z0 J (z0 J (z0 J (zx (Zz J J J J J) J (Un (Gh J J) J ?_))));refine G1 J J (zz (Qd (zy (Gw J J ?_))));refine zx (Qj J J (hc) J) J ?_;refine zn J (zz (Qm J (zy (zx (Zz J J J J J) J ?_))));refine G1 J J (z1 J (zz (Xa (T_r (F_r ?_)))))
  exact G7 J J (X9 [1,1,1] [4,5,6] J J (by decide) J J J)
 | true =>
  rw [hr] at hc
  rw [show newReplay l p s e = ⟨l,p,s,e,[],[]⟩ by rw [newReplay,hr]; rfl]
  refine Con.of Tryz.func30 J Tryz.ntmps30 J (fun E => ?_)
  refine zy (Un (Gf J) J (Un (Gh J J) J (z1 J (zz (zy (Gw J J ?_))))));refine Un (Z3 J J (X6 l hl hL) J J J) J ?_;refine z0 J (z0 J (z0 J (zx (Zz J J J J J) J (Un (Gh J J) J ?_))));refine G1 J J (zz (Qd (zy (Gw J J ?_))));refine zx (Qj J J (hc) J) J ?_;refine zn J (zz (Ql J (Qh (Q0 (zy (Gw J J ?_))))));refine G1 J J (z1 J (zz (Xa (F_r ?_))))
  exact G7 J J (X9 [1,1] [2,4,5] J J (by decide) J J J)
end
section
open Go.RowKit

theorem Clone_ints (xs : List Int) (hne : 0 < xs.length) (hL : xs.length ≤ 1099511627776) : Con Tryz.prog 46 [] [al xs] [.row 1 (els xs)] (.o (.c (.ref 0))) := by
 have hlx := Yx xs
 have hlp : 0 < (els xs).length := by omega
 refine Con.of Tryz.func46 J Tryz.ntmps46 J (fun E => ?_)
 have h00 : ([] : List (List T)).length = 0 := rfl
 refine zy (z1 J (zz (Qd (zy (z0 J (zx (q_slnil J J J J hlp) J (zz ?_)))))));refine Ql J (Qh (Q0 (zy (Un (Zx J J J) J (z0 J ?_)))));refine M_app J J J J J J J J J J (Yy _) (els_k _) (by omega) (by omega) ?_;refine z1 J (zz (Xa (F_r ?_)))
 exact Ud J (Ue [0] J J J)
@[reducible] def jv (n : Int) : V1 := .rd [] (.v (.int .i64 n))
def bodyOf (l : List Int) : TBody := ⟨l.getD 0 0,l.getD 1 0,l.getD 2 0,l.getD 3 0,l.getD 4 0,l.getD 5 0,l.getD 6 0,l.getD 7 0,l.getD 8 0⟩
def bodiesOf (l : List Int) (n : Nat) : List TBody := (List.range n).map fun k => bodyOf (l.drop (9 * k))
def zeroWorld : TWorld := ⟨⟨[]⟩,0,0,[],[]⟩
def worldOf (lv : TLevel) (l : List Int) : TWorld := ⟨lv,l.getD 0 0,l.getD 1 0,(l.drop 3).take (l.getD 2 0).toNat,bodiesOf (l.drop (3 + (l.getD 2 0).toNat)) ((l.length - 3 - (l.getD 2 0).toNat) / 9)⟩
def formOk (l : List Int) : Prop := 3 ≤ l.length ∧ (1 ≤ l.getD 2 0 ∧ l.getD 2 0 ≤ 4) ∧ 3 + l.getD 2 0 ≤ l.length ∧ ((l.length : Int) - 3 - l.getD 2 0) % 9 = 0
noncomputable def readWorld (lv : TLevel) (s : ByteArray) : Option TWorld := match unpackInts s 0 with
 | none => none
 | some (l,pos) => @ite _ (pos = s.size ∧ formOk l ∧ worldOk (worldOf lv l) = true) (Classical.propDecidable _) (some (worldOf lv l)) none
theorem Kr {lv : TLevel} {s : ByteArray} (h : unpackInts s 0 = none) : readWorld lv s = none := by rw [readWorld,h]
theorem Ks {lv : TLevel} {s : ByteArray} {l : List Int} {pos : Nat} (h : unpackInts s 0 = some (l,pos)) (hp : pos = s.size ∧ formOk l ∧ worldOk (worldOf lv l) = true) : readWorld lv s = some (worldOf lv l) := by
 rw [readWorld,h]
 exact @if_pos _ (Classical.propDecidable _) hp _ _ _
theorem Kq {lv : TLevel} {s : ByteArray} {l : List Int} {pos : Nat} (h : unpackInts s 0 = some (l,pos)) (hp : ¬ (pos = s.size ∧ formOk l ∧ worldOk (worldOf lv l) = true)) : readWorld lv s = none := by
 rw [readWorld,h]
 exact @if_neg _ (Classical.propDecidable _) hp _ _ _
@[reducible] def rwW (r : Option TWorld) : TWorld := r.getD zeroWorld
@[reducible] def rwB (r : Option TWorld) : Bool := r.isSome
theorem Yk (l : List Int) (n : Nat) : (bodiesOf l n).length = n := by simp [bodiesOf]
theorem bodiesOf_snoc (l : List Int) (n : Nat) : bodiesOf l (n + 1) = bodiesOf l n ++ [bodyOf (l.drop (9 * n))] := by
 rw [bodiesOf,List.range_succ,List.map_append]
 rfl
theorem bodyOf_ints {l : List Int} (h : 9 ≤ l.length) : bodyInts (bodyOf l) = l.take 9 := by
 match l,h with
 | a :: b :: c :: d :: e :: f :: g :: i :: j :: r,_ => rfl
theorem bodiesOf_ints : ∀ (n : Nat) (l : List Int),9 * n ≤ l.length → (bodiesOf l n).flatMap bodyInts = l.take (9 * n)
 | 0,l,_ => by simp [bodiesOf]
 | n + 1,l,h => by
  rw [bodiesOf_snoc,List.flatMap_append,bodiesOf_ints n l (by omega),List.flatMap_singleton,bodyOf_ints (by simp; omega),Nat.mul_succ,List.take_add]
theorem bodyOf_gd {l : List Int} (h : ∀ x ∈ l,I64 x) : Enc.gd (bodyOf l) := by
 have hd : ∀ i,I64 (l.getD i 0) := fun i => by
  rw [List.getD_eq_getElem?_getD]
  cases hi : l[i]? with
  | none => exact ⟨by decide,by decide⟩
  | some x => exact h x (List.mem_of_getElem? hi)
 exact ⟨hd 0,hd 1,hd 2,hd 3,hd 4,hd 5,hd 6,hd 7,hd 8⟩
theorem worldOf_gd {lv : TLevel} {l : List Int} (hlv : Enc.gd lv) (h : ∀ x ∈ l,I64 x) (hL : l.length ≤ 1099511627776) : Enc.gd (worldOf lv l) := by
 have hd : ∀ i,I64 (l.getD i 0) := fun i => by
  rw [List.getD_eq_getElem?_getD]
  cases hi : l[i]? with
  | none => exact ⟨by decide,by decide⟩
  | some x => exact h x (List.mem_of_getElem? hi)
 refine ⟨hlv,hd 0,hd 1,⟨?_,fun x hx => h x (List.mem_of_mem_drop (List.mem_of_mem_take hx))⟩,⟨?_,fun b hb => ?_⟩⟩
 ·show ((l.drop 3).take (l.getD 2 0).toNat).length ≤ _
  simp; omega
 ·show (bodiesOf _ _).length ≤ _
  rw [Yk]
  have : (l.length - 3 - (l.getD 2 0).toNat) / 9 ≤ l.length := by omega
  omega
 ·obtain ⟨k,hk,rfl⟩ := List.mem_map.1 (show b ∈ (List.range _).map _ from hb)
  exact bodyOf_gd fun x hx => h x (List.mem_of_mem_drop (List.mem_of_mem_drop hx))
theorem worldOf_ints {lv : TLevel} {l : List Int} (h : formOk l) : worldInts (worldOf lv l) = l := by
 obtain ⟨h3,h4,h5,h6⟩ := h
 obtain ⟨p,hp⟩ : ∃ p : Nat,l.getD 2 0 = p := ⟨(l.getD 2 0).toNat,by omega⟩
 match l,h3 with
 | a :: b :: c :: r,_ =>
  have hc : c = p := by simpa using hp
  subst hc
  simp only [List.length_cons] at h5 h6
  simp only [List.getD_cons_succ,List.getD_cons_zero] at h4 h5 h6
  have hl : ((r.take p).length : Int) = p := by simp; omega
  show ([a,b,((((a :: b :: (p : Int) :: r).drop 3).take ((p : Int)).toNat).length : Int)] ++ ((a :: b :: (p : Int) :: r).drop 3).take ((p : Int)).toNat) ++ (bodiesOf ((a :: b :: (p : Int) :: r).drop (3 + ((p : Int)).toNat)) (((a :: b :: (p : Int) :: r).length - 3 - ((p : Int)).toNat) / 9)).flatMap bodyInts = _
  rw [Int.toNat_natCast]
  have hdr : (a :: b :: (p : Int) :: r).drop (3 + p) = r.drop p := by
   rw [← List.drop_drop]; rfl
  have hd3 : (a :: b :: (p : Int) :: r).drop 3 = r := rfl
  have hlen : (a :: b :: (p : Int) :: r).length - 3 - p = (r.drop p).length := by simp
  have h9 : 9 * ((r.drop p).length / 9) = (r.drop p).length := by
   have : (r.drop p).length = r.length - p := by simp
   omega
  rw [hdr,hd3,hlen,bodiesOf_ints _ _ (by omega),h9,List.take_length,hl]
  simp
theorem row7 {a b c d e f : Ob} {k : Nat} {x y : List (List T)} (h : x = y) : [a,b,c,d,e,f,Ob.row k x] = [a,b,c,d,e,f,Ob.row k y] := by rw [h]
theorem rdE {ps : List Nat} {k : Nat} {a b : List (List T)} (h : a = b) : V.o (.c (.rd ps (.sl k a))) = V.o (.c (.rd ps (.sl k b))) := by rw [h]
theorem Y0 {α : Type} [Enc α] (xs : List α) (n : Nat) : els (xs.take n) = (els xs).take n := List.map_take
theorem els_dropE {α : Type} [Enc α] (xs : List α) (n : Nat) : els (xs.drop n) = (els xs).drop n := List.map_drop
theorem Yq {rest : List Int} {m : Nat} (h : 9 * m + 9 ≤ rest.length) {j : Nat} (hj : j < 9) (a b : Int) (ha : a = 9 * m + 9) (hb : b = 9 * m) (i : Int) (hi : i = j) : (((els rest).take a.toNat).drop b.toNat)[i.toNat]? = some [.v (.int .i64 ((rest.drop (9 * m)).getD j 0))] := by
 subst ha hb hi
 rw [show ((9 : Int) * (m : Int) + 9).toNat = 9 * m + 9 by omega,show ((9 : Int) * (m : Int)).toNat = 9 * m by omega,Int.toNat_natCast,List.getElem?_drop,List.getElem?_take,if_pos (by omega),List.getD_eq_getElem?_getD,List.getElem?_drop,els,List.getElem?_map,List.getElem?_eq_getElem (by omega)]
 rfl
theorem Yw {l : List Int} {j : Nat} (h : j < l.length) (i : Int) (hi : i = j) : (els l)[i.toNat]? = some [.v (.int .i64 (l.getD j 0))] := by
 subst hi
 rw [Int.toNat_natCast,List.getD_eq_getElem?_getD,els,List.getElem?_map,List.getElem?_eq_getElem h]
 rfl
end
section
open Go.RowKit

def colF (q : Int → Bool) (row : ByteArray) : Nat → Option Nat
 | 0 => none
 | c + 1 => match colF q row c with
  | some x => some x
  | none => if q (byteAt row c) = true then some c else none
def tileF (q : Int → Bool) (rows : List ByteArray) : Nat → Option (Nat × Nat)
 | 0 => none
 | r + 1 => match tileF q rows r with
  | some x => some x
  | none => match rows[r]? with
   | none => none
   | some row => (colF q row row.size).map fun c => (r,c)
def isOpen (t : Int) : Bool := decide (t ≠ 35)
def isDig (p : Int) (t : Int) : Bool := decide (t = 49 + p)
def spX : Option (Nat × Nat) → Int
 | none => -1
 | some (_,c) => 16 * c + 2
def spY : Option (Nat × Nat) → Int
 | none => -1
 | some (r,_) => 16 * r + 2
def startT (l : TLevel) (p : Int) : Option (Nat × Nat) := match tileF (isDig p) l.Rows l.Rows.length with
 | some x => some x
 | none => tileF isOpen l.Rows l.Rows.length
theorem colF_some {q : Int → Bool} {row : ByteArray} : ∀ {n c : Nat},colF q row n = some c → c < n ∧ q (byteAt row c) = true
 | 0,c,h => by cases h
 | n + 1,c,h => by
  rw [colF] at h
  cases h1 : colF q row n with
  | some x => rw [h1] at h; cases h; have := colF_some h1; exact ⟨by omega,this.2⟩
  | none =>
   rw [h1] at h
   by_cases h2 : q (byteAt row n) = true
   ·rw [if_pos h2] at h; cases h; exact ⟨by omega,h2⟩
   ·rw [if_neg h2] at h; cases h
theorem colF_none {q : Int → Bool} {row : ByteArray} : ∀ {n : Nat},colF q row n = none → ∀ c,c < n → q (byteAt row c) = false
 | 0,h,c,hc => by omega
 | n + 1,h,c,hc => by
  rw [colF] at h
  cases h1 : colF q row n with
  | some x => rw [h1] at h; cases h
  | none =>
   rw [h1] at h
   by_cases h2 : q (byteAt row n) = true
   ·rw [if_pos h2] at h; cases h
   ·by_cases e : c = n
    ·subst e; simpa using h2
    ·exact colF_none h1 c (by omega)
theorem tileF_some {q : Int → Bool} {rows : List ByteArray} : ∀ {n r c : Nat},tileF q rows n = some (r,c) → ∃ h : r < rows.length,r < n ∧ c < rows[r].size ∧ q (byteAt rows[r] c) = true
 | 0,r,c,h => by cases h
 | n + 1,r,c,h => by
  rw [tileF] at h
  cases h1 : tileF q rows n with
  | some x => rw [h1] at h; cases h; obtain ⟨a,b,d⟩ := tileF_some h1; exact ⟨a,by omega,d⟩
  | none =>
   rw [h1] at h
   cases h2 : rows[n]? with
   | none => rw [h2] at h; cases h
   | some row =>
    rw [h2] at h
    simp only [Option.map_eq_some_iff,Prod.mk.injEq] at h
    obtain ⟨c',h3,rfl,rfl⟩ := h
    have hn := (List.getElem?_eq_some_iff.1 h2).1
    have he := (List.getElem?_eq_some_iff.1 h2).2
    have := colF_some h3
    exact ⟨hn,by omega,by rw [he]; exact this.1,by rw [he]; exact this.2⟩
theorem tileF_none {q : Int → Bool} {rows : List ByteArray} : ∀ {n : Nat},tileF q rows n = none → ∀ r (h : r < rows.length),r < n → ∀ c,c < rows[r].size → q (byteAt rows[r] c) = false
 | 0,h,r,hr,hn,c,hc => by omega
 | n + 1,h,r,hr,hn,c,hc => by
  rw [tileF] at h
  cases h1 : tileF q rows n with
  | some x => rw [h1] at h; cases h
  | none =>
   rw [h1] at h
   by_cases e : r = n
   ·subst e
    rw [List.getElem?_eq_getElem hr] at h
    simp only [Option.map_eq_none_iff] at h
    exact colF_none h c hc
   ·exact tileF_none h1 r hr (by omega) c hc
theorem tileM_open {e : Bool} {t : Int} {s s' : Seen × Bool} (h : tileM e t s = some s') (ho : s'.2 = true) : s.2 = true ∨ t ≠ 35 := by
 by_cases ht : t = 35
 ·rw [tileM,if_pos ht] at h; cases h; exact .inl ho
 ·exact .inr ht
theorem cols_open {row : ByteArray} {er : Bool} {w : Nat} {s : Seen × Bool} : ∀ {n : Nat} {s' : Seen × Bool},colsM row er w s n = some s' → s'.2 = true → s.2 = true ∨ ∃ c,c < n ∧ byteAt row c ≠ 35
 | 0,s',h,ho => by cases h; exact .inl ho
 | n + 1,s',h,ho => by
  rw [colsM] at h
  cases h1 : colsM row er w s n with
  | none => rw [h1] at h; cases h
  | some s1 =>
   rw [h1] at h
   rcases tileM_open h ho with h2 | h2
   ·rcases cols_open h1 h2 with h3 | ⟨c,hc,h3⟩
    ·exact .inl h3
    ·exact .inr ⟨c,by omega,h3⟩
   ·exact .inr ⟨n,by omega,h2⟩
theorem rows_open {rows : List ByteArray} {w : Nat} : ∀ {n : Nat} {s : Seen × Bool},rowsM rows w n = some s → s.2 = true → ∃ r c,∃ h : r < rows.length,r < n ∧ c < rows[r].size ∧ byteAt rows[r] c ≠ 35
 | 0,s,h,ho => by cases h; cases ho
 | n + 1,s,h,ho => by
  rw [rowsM] at h
  cases h1 : rowsM rows w n with
  | none => rw [h1] at h; cases h
  | some s1 =>
   rw [h1] at h
   cases h2 : rows[n]? with
   | none => rw [h2] at h; cases h
   | some row =>
    rw [h2] at h
    simp only at h
    split at h
    ·rename_i hw
     have hn := (List.getElem?_eq_some_iff.1 h2).1
     have he := (List.getElem?_eq_some_iff.1 h2).2
     rcases cols_open h ho with h3 | ⟨c,hc,h3⟩
     ·obtain ⟨r,c,a,b,d⟩ := rows_open h1 h3
      exact ⟨r,c,a,by omega,d⟩
     ·exact ⟨n,c,hn,by omega,by rw [he]; omega,by rw [he]; exact h3⟩
    ·cases h
theorem level_open {l : TLevel} (h : levelOk l = true) : ∃ r c,∃ h : r < l.Rows.length,c < (l.Rows[r]).size ∧ byteAt (l.Rows[r]) c ≠ 35 := by
 unfold levelOk at h
 simp only [Bool.and_eq_true] at h
 obtain ⟨_,h5⟩ := h
 split at h5
 ·rename_i s hs
  obtain ⟨r,c,a,b,d⟩ := rows_open hs h5
  exact ⟨r,c,a,d⟩
 ·cases h5
theorem start_some {l : TLevel} (hl : levelOk l = true) {p : Int} (hp : 0 ≤ p ∧ p ≤ 3) : ∃ r c,startT l p = some (r,c) ∧ ∃ h : r < l.Rows.length,c < (l.Rows[r]).size ∧ byteAt (l.Rows[r]) c ≠ 35 := by
 unfold startT
 cases h1 : tileF (isDig p) l.Rows l.Rows.length with
 | some x =>
  obtain ⟨r,c⟩ := x
  obtain ⟨a,b,d,e⟩ := tileF_some h1
  refine ⟨r,c,J,a,d,?_⟩
  have := of_decide_eq_true e
  omega
 | none =>
  cases h2 : tileF isOpen l.Rows l.Rows.length with
  | some x =>
   obtain ⟨r,c⟩ := x
   obtain ⟨a,b,d,e⟩ := tileF_some h2
   exact ⟨r,c,J,a,d,of_decide_eq_true e⟩
  | none =>
   obtain ⟨r,c,a,d,e⟩ := level_open hl
   have := tileF_none h2 r a a c d
   exact absurd e (of_decide_eq_false this)
def openF (rows : List ByteArray) (row : ByteArray) (r c : Nat) : Option (Nat × Nat) := match tileF isOpen rows r with
 | some x => some x
 | none => (colF isOpen row c).map fun c => (r,c)
theorem openF_zero {rows : List ByteArray} {row : ByteArray} {r : Nat} : openF rows row r 0 = tileF isOpen rows r := by
 unfold openF
 cases tileF isOpen rows r <;> rfl
theorem openF_end {rows : List ByteArray} {row : ByteArray} {r : Nat} (h : rows[r]? = some row) : openF rows row r row.size = tileF isOpen rows (r + 1) := by
 rw [openF,tileF,h]
theorem Zo {rows : List ByteArray} {row : ByteArray} {r c : Nat} {x : Nat × Nat} (h : openF rows row r c = some x) : openF rows row r (c + 1) = some x := by
 unfold openF at h ⊢
 cases h1 : tileF isOpen rows r with
 | some y => rw [h1] at h; exact h
 | none =>
  rw [h1] at h
  simp only [Option.map_eq_some_iff] at h ⊢
  obtain ⟨a,h2,h3⟩ := h
  exact ⟨a,by rw [colF,h2],h3⟩
theorem Zp {rows : List ByteArray} {row : ByteArray} {r c : Nat} (h : openF rows row r c = none) : openF rows row r (c + 1) = if byteAt row c = 35 then none else some (r,c) := by
 unfold openF at h ⊢
 cases h1 : tileF isOpen rows r with
 | some y => rw [h1] at h; cases h
 | none =>
  rw [h1] at h
  simp only [Option.map_eq_none_iff] at h
  simp only [colF,h]
  by_cases h2 : byteAt row c = 35
  ·rw [if_pos h2,if_neg (show ¬ isOpen (byteAt row c) = true from fun q => of_decide_eq_true q h2)]; rfl
  ·rw [if_neg h2,if_pos (show isOpen (byteAt row c) = true from decide_eq_true h2)]; rfl
theorem colF_step {q : Int → Bool} {row : ByteArray} {c : Nat} (h : colF q row c = none) (hq : q (byteAt row c) = false) : colF q row (c + 1) = none := by rw [colF,h]; simp [hq]
theorem colF_hit {q : Int → Bool} {row : ByteArray} {c : Nat} (h : colF q row c = none) (hq : q (byteAt row c) = true) : ∀ {n : Nat},c < n → colF q row n = some c
 | 0,hn => by omega
 | n + 1,hn => by
  rw [colF]
  by_cases e : c = n
  ·subst e; rw [h]; simp [hq]
  ·rw [colF_hit h hq (by omega)]
theorem tileF_step {q : Int → Bool} {rows : List ByteArray} {row : ByteArray} {r : Nat} (h : tileF q rows r = none) (hr : rows[r]? = some row) (hc : colF q row row.size = none) : tileF q rows (r + 1) = none := by rw [tileF,h,hr]; simp [hc]
theorem tileF_hit {q : Int → Bool} {rows : List ByteArray} {row : ByteArray} {r c : Nat} (h : tileF q rows r = none) (hr : rows[r]? = some row) (hc : colF q row row.size = some c) : ∀ {n : Nat},r < n → tileF q rows n = some (r,c)
 | 0,hn => by omega
 | n + 1,hn => by
  rw [tileF]
  by_cases e : r = n
  ·subst e; rw [h,hr]; simp [hc]
  ·rw [tileF_hit h hr hc (by omega)]
theorem start_dig {l : TLevel} {p : Int} {row : ByteArray} {r c : Nat} (h : tileF (isDig p) l.Rows r = none) (hr : l.Rows[r]? = some row) (hc : colF (isDig p) row c = none) (hcs : c < row.size) (hb : byteAt row c = 49 + p) : startT l p = some (r,c) := by
 have h1 := colF_hit hc (show isDig p (byteAt row c) = true from decide_eq_true hb) hcs
 rw [startT,tileF_hit h hr h1 (List.getElem?_eq_some_iff.1 hr).1]
theorem start_open {l : TLevel} {p : Int} {n : Nat} (h : tileF (isDig p) l.Rows n = none) (hn : n = l.Rows.length) : startT l p = tileF isOpen l.Rows n := by
 subst hn
 rw [startT,h]
theorem spX_neg {o : Option (Nat × Nat)} : spX o < 0 ↔ o = none := by
 cases o with
 | none => simp [spX]
 | some x => obtain ⟨r,c⟩ := x; simp [spX]; omega
def fresh (l : TLevel) (p : Int) : TBody := ⟨0,p,spX (startT l p),spY (startT l p),0,0,1,3,0⟩
theorem fresh_free {l : TLevel} (hl : levelOk l = true) {p : Int} (hp : 0 ≤ p ∧ p ≤ 3) : solidM l (fresh l p).X (fresh l p).Y 12 = false ∧ (0 ≤ (fresh l p).X ∧ (fresh l p).X ≤ 400) ∧ (0 ≤ (fresh l p).Y ∧ (fresh l p).Y ≤ 400) := by
 obtain ⟨r,c,h1,hr,hc,hb⟩ := start_some hl hp
 obtain ⟨l3,l12,w,w4,w20,hw⟩ := Zh hl
 have hwr := hw r hr
 rw [fresh,h1]
 refine ⟨solidM_F ?_,by simp only [spX]; omega,by simp only [spY]; omega⟩
 rintro ⟨r',c',a1,a2,a3,a4,hwall⟩
 simp only [spX,spY] at a1 a2 a3 a4
 have e1 : r' = r := by omega
 have e2 : c' = c := by omega
 subst e1 e2
 exact no_wall hr hc hb hwall
def newWorld (l : TLevel) (n : Nat) (seed : Int) : TWorld := ⟨l,0,seed,List.replicate n 0,(List.range n).map fun (k : Nat) => fresh l (k : Int)⟩
theorem newWorld_ok {l : TLevel} {n : Nat} {seed : Int} (hl : levelOk l = true) (hn : 1 ≤ n ∧ n ≤ 4) (hs : inR seed 0 65535 = true) : worldOk (newWorld l n seed) = true := by
 refine worldOk_T ⟨hl,J,hs,by simpa [newWorld] using hn,?_,by simp [newWorld]; omega,?_⟩
 ·simp only [newWorld,scoresOk,List.all_replicate]
  simp [inR]
 ·intro k hk
  have hk4 : k < n := by simpa [newWorld] using hk
  have hlen : (newWorld l n seed).Scores.length = n := by simp [newWorld]
  have hb : (newWorld l n seed).Bodies[k] = fresh l k := by simp [newWorld]
  rw [hlen,hb]
  obtain ⟨h1,h2,h3⟩ := fresh_free hl (p := (k : Int)) (by omega)
  show bodyAt l n k (fresh l k) = true
  rw [bodyAt,if_pos hk4,Bool.and_eq_true]
  refine ⟨?_,decide_eq_true ⟨J,J⟩⟩
  rw [bodyM,show sizeOf (fresh l k).Kind = 12 from rfl,h1]
  have e1 : inR (fresh l (k : Int)).Kind 0 2 = true := rfl
  have e2 : inR (fresh l (k : Int)).Owner 0 ((n : Int) - 1) = true := Za.2 ⟨by show (0 : Int) ≤ k; omega,by show (k : Int) ≤ n - 1; omega⟩
  have e3 : inR (fresh l (k : Int)).VX (-15) 15 = true := rfl
  have e4 : inR (fresh l (k : Int)).VY (-15) 15 = true := rfl
  have e5 : tailM (fresh l (k : Int)) = true := rfl
  rw [e1,e2,e3,e4,e5]
  rfl
theorem bodyOf_app (b : TBody) (r : List Int) : bodyOf (bodyInts b ++ r) = b := by cases b; rfl
theorem flat_drop : ∀ (bs : List TBody) (k : Nat) (h : k < bs.length),∃ r,(bs.flatMap bodyInts).drop (9 * k) = bodyInts bs[k] ++ r
 | [],k,h => by simp at h
 | b :: bs,0,h => ⟨bs.flatMap bodyInts,by simp⟩
 | b :: bs,k + 1,h => by
  obtain ⟨r,hr⟩ := flat_drop bs k (by simpa using h)
  refine ⟨r,?_⟩
  rw [List.flatMap_cons,show 9 * (k + 1) = (bodyInts b).length + 9 * k by simp [bodyInts]; omega,← List.drop_drop,List.drop_left,hr]
  rfl
theorem bodiesOf_flat (bs : List TBody) : bodiesOf (bs.flatMap bodyInts) bs.length = bs := by
 apply List.ext_getElem
 ·simp [bodiesOf]
 ·intro k h1 h2
  obtain ⟨r,hr⟩ := flat_drop bs k h2
  simp only [bodiesOf,List.getElem_map,List.getElem_range,hr,bodyOf_app]
theorem flat_length (bs : List TBody) : (bs.flatMap bodyInts).length = 9 * bs.length := by
 have := flat_len bs bs.length (Nat.le_refl _)
 rwa [List.take_length] at this
theorem worldOf_ints2 (w : TWorld) (h1 : 1 ≤ w.Scores.length) (h2 : w.Scores.length ≤ 4) : worldOf w.Level (worldInts w) = w ∧ formOk (worldInts w) := by
 have hn : (worldInts w).getD 2 0 = (w.Scores.length : Int) := rfl
 have hd : (worldInts w).drop 3 = w.Scores ++ w.Bodies.flatMap bodyInts := by simp [worldInts]
 have hd2 : (worldInts w).drop (3 + w.Scores.length) = w.Bodies.flatMap bodyInts := by rw [← List.drop_drop,hd,List.drop_left]
 have hl : (worldInts w).length = 3 + w.Scores.length + 9 * w.Bodies.length := by
  have := flat_length w.Bodies
  simp only [worldInts,List.length_append,List.length_cons,List.length_nil]
  omega
 constructor
 ·rw [worldOf,hn,hd,show ((w.Scores.length : Nat) : Int).toNat = w.Scores.length by omega,List.take_left,hd2,hl,show (3 + w.Scores.length + 9 * w.Bodies.length - 3 - w.Scores.length) / 9 = w.Bodies.length by omega,bodiesOf_flat]
  rfl
 ·rw [formOk,hn,hl]
  omega
theorem newWorld_back {l : TLevel} {n : Nat} {seed : Int} (hl : levelOk l = true) (hn : 1 ≤ n ∧ n ≤ 4) (hs : inR seed 0 65535 = true) : readWorld l (worldBytes (newWorld l n seed)) = some (newWorld l n seed) := by
 have hok := newWorld_ok hl hn hs
 have hlen : (newWorld l n seed).Scores.length = n := by simp [newWorld]
 obtain ⟨h1,h2⟩ := worldOf_ints2 (newWorld l n seed) (by omega) (by omega)
 have hs := Za.1 hs
 have hx : ∀ x ∈ worldInts (newWorld l n seed),0 ≤ signless x := by
  intro x hx
  have hb : 0 ≤ x ∧ x ≤ 65535 := by
   simp only [worldInts,List.mem_append,List.mem_cons,List.not_mem_nil,or_false,List.mem_flatMap] at hx
   rcases hx with (h | h) | ⟨b,hb,h⟩
   ·rcases h with h | h | h <;> subst h
    ·show (0 : Int) ≤ 0 ∧ (0 : Int) ≤ 65535; omega
    ·exact hs
    ·omega
   ·have : x = 0 := by simpa [newWorld] using (List.eq_of_mem_replicate h)
    omega
   ·simp only [newWorld,List.mem_map,List.mem_range] at hb
    obtain ⟨k,hk,rfl⟩ := hb
    obtain ⟨_,h3,h4⟩ := fresh_free hl (p := (k : Int)) (by omega)
    simp only [bodyInts,List.mem_cons,List.not_mem_nil,or_false] at h
    rcases h with h | h | h | h | h | h | h | h | h <;> subst h
    ·show (0 : Int) ≤ 0 ∧ (0 : Int) ≤ 65535; omega
    ·show (0 : Int) ≤ k ∧ (k : Int) ≤ 65535; omega
    ·omega
    ·omega
    all_goals (simp only [fresh]; omega)
  unfold signless
  rw [if_pos (by omega),if_pos hb.1]
  omega
 have hL : (worldInts (newWorld l n seed)).length ≤ 1073741824 := by
  have := flat_length (newWorld l n seed).Bodies
  have h5 : (newWorld l n seed).Bodies.length = n := by simp [newWorld]
  simp only [worldInts,List.length_append,List.length_cons,List.length_nil]
  omega
 have hu := unpackInts_enc hx hL
 rw [worldBytes,if_pos hok]
 have := Ks (lv := l) hu ⟨rfl,h2,by rw [show worldOf l (worldInts (newWorld l n seed)) = newWorld l n seed from h1]; exact hok⟩
 rw [this,show worldOf l (worldInts (newWorld l n seed)) = newWorld l n seed from h1]
end
section
open Go.RowKit

def nextR (s : Int) : Int := if 0 ≤ s ∧ s ≤ 65535 then (s * 25173 + 13849) % 65536 else 0
def belowR (s n : Int) : Int := nextR s / 16 % n
theorem Zm (s : Int) : 0 ≤ nextR s ∧ nextR s ≤ 65535 := by
 unfold nextR
 split <;> omega
def pressed (i k : Int) : Bool := decide (((i.toNat &&& k.toNat : Nat) : Int) ≠ 0)
noncomputable def steer (l : TLevel) (b : TBody) (i : Int) : TBody × Bool :=
 (⟨b.Kind,b.Owner,b.X,b.Y,
  if (pressed i 1 && !pressed i 2) = true then -3 else if (pressed i 2 && !pressed i 1) = true then 3 else 0,
  if (pressed i 4 && solidM l b.X (b.Y + 1) 12) = true then -9 else min (b.VY + 1) 8,
  if (pressed i 1 && !pressed i 2) = true then -1 else if (pressed i 2 && !pressed i 1) = true then 1 else b.Aim,
  b.Life,
  if (pressed i 8 && decide ((if 0 < b.Timer then b.Timer - 1 else b.Timer) = 0)) = true then 12 else (if 0 < b.Timer then b.Timer - 1 else b.Timer)⟩,
  pressed i 8 && decide ((if 0 < b.Timer then b.Timer - 1 else b.Timer) = 0))
def slide (hit : Int → Bool) (step : Int) : Nat → Int → Int × Bool
 | 0,x => (x,false)
 | n + 1,x => if hit (x + step) = true then (x,true) else slide hit step n (x + step)
theorem slide_hit {hit : Int → Bool} {step x : Int} {n : Nat} (h : hit (x + step) = true) : slide hit step (n + 1) x = (x,true) := by rw [slide,if_pos h]
theorem slide_go {hit : Int → Bool} {step x : Int} {n : Nat} (h : hit (x + step) = false) : slide hit step (n + 1) x = slide hit step n (x + step) := by rw [slide,if_neg (by rw [h]; simp)]
def dirOf (v : Int) : Int := if v < 0 then -1 else 1
noncomputable def moveX (l : TLevel) (b : TBody) : Int × Bool := slide (fun x => solidM l x b.Y (sizeOf b.Kind)) (dirOf b.VX) b.VX.natAbs b.X
noncomputable def moveY (l : TLevel) (b : TBody) : Int × Bool := slide (fun y => solidM l (moveX l b).1 y (sizeOf b.Kind)) (dirOf b.VY) b.VY.natAbs b.Y
noncomputable def moveM (l : TLevel) (b : TBody) : TBody × Bool :=
 (⟨b.Kind,b.Owner,(moveX l b).1,(moveY l b).1,if (moveX l b).2 = true then 0 else b.VX,if (moveY l b).2 = true then 0 else b.VY,b.Aim,b.Life,b.Timer⟩,(moveX l b).2 || (moveY l b).2)
def shotOf (b : TBody) : TBody := ⟨1,b.Owner,b.X + 4,b.Y + 4,6 * b.Aim,0,0,0,25⟩
def meetM (a b : TBody) : Bool :=
 ((decide (a.X < b.X + sizeOf b.Kind) && decide (b.X < a.X + sizeOf a.Kind)) && decide (a.Y < b.Y + sizeOf b.Kind)) && decide (b.Y < a.Y + sizeOf a.Kind)
structure Placed (b : TBody) : Prop where
 k : 0 ≤ b.Kind ∧ b.Kind ≤ 2
 x : 0 ≤ b.X ∧ b.X ≤ 1000
 y : 0 ≤ b.Y ∧ b.Y ≤ 1000
theorem size_pos {k : Int} (h : 0 ≤ k ∧ k ≤ 2) : 4 ≤ sizeOf k ∧ sizeOf k ≤ 12 := by
 unfold sizeOf
 split
 ·omega
 ·split
  ·omega
  ·split <;> omega
def colSp (row : ByteArray) (r : Nat) : Nat → List (List Int)
 | 0 => []
 | c + 1 => if byteAt row c = 111 then colSp row r c ++ [[(c : Int) * 16 + 4,(r : Int) * 16 + 4]] else colSp row r c
def rowSp (rows : List ByteArray) : Nat → List (List Int)
 | 0 => []
 | r + 1 => match rows[r]? with
  | none => rowSp rows r
  | some row => rowSp rows r ++ colSp row r row.size
end
section
open Go.RowKit

section
variable {P : Program} {E : Env} {ops : Array Oper} {o : Oper} {st : St} {n : Nat} {y : Operand}
theorem Qz {p i : Nat} (ho : o.op = .nilCheck y) (hg : o.guard = none) (hy : st.ev y = .o (.c (.ptr p i))) : Qt P ops o st (.o (.c (.ptr p i))) [] n :=
 .pure hg fun a w H F hr => by
  obtain ⟨g,tt,vs,e1,e2⟩ := hr.v1 hy
  exact ⟨.pointer (some ⟨g,i,none⟩),by simp [execOp,ho,e2],g,tt,vs,e1,J⟩
theorem qi {p i : Nat} (h0_ : (o.op, o.guard, st.ev y) = (.nilCheck y, none, .o (.c (.ptr p i)))) : Qt P ops o st (.o (.c (.ptr p i))) [] n := by
 simp only [Prod.mk.injEq] at h0_
 exact Qz h0_.1 h0_.2.1 h0_.2.2
theorem q_nile {p k i j : Nat} (ho : o.op = .nilCheck y) (hg : o.guard = none) (hy : st.ev y = .o (.c (.el p k i j))) : Qt P ops o st (.o (.c (.el p k i j))) [] n :=
 .pure hg fun a w H F hr => by
  obtain ⟨b,o',m',c,x,fp,e1,e2⟩ := hr.v1 hy
  exact ⟨.pointer (some ⟨b,o' + i * k + j,none⟩),by simp [execOp,ho,e2],b,o',m',c,x,fp,e1,J⟩
end
structure Mid (st' : St) (e : Exit) (st : St) : Prop where
 h : e = .normal ∧ Wk st st'
section
variable {P : Program} {E : Env} {st st' : St}
theorem Mid.n (h : Wk st st') : Mid st' .normal st := ⟨rfl,h⟩
theorem A_join {c d : Code} {Q Q' : Exit → St → Prop} (st' : St) (h1 : AWP P E c (Mid st') st) (h2 : AWP P E d Q' st') : AWP P E c (thn (AWP P E d Q') Q) st :=
 AWP.mono (fun e s h => by obtain ⟨rfl,hw⟩ := h.h; exact ⟨AWP.weak hw h2⟩) h1
end
end
section
open Go.RowKit

theorem openF_35 {rows : List ByteArray} {row : ByteArray} {r c : Nat} (h : byteAt row c = 35) : openF rows row r c = openF rows row r (c + 1) := by
 cases ho : openF rows row r c with
 | some x => rw [Zo ho]
 | none => rw [Zp ho,if_pos h]
theorem tu2 {x y x' y' : Int} (h1 : x = x') (h2 : y = y') : V.tu [.c (jn x),.c (jn y)] = V.tu [.c (jn x'),.c (jn y')] := by rw [h1,h2]
theorem I_StartOf (l : TLevel) (p : Int) (hg : Enc.gd l) (hl : levelOk l = true) (hp : 0 ≤ p ∧ p ≤ 3) : Con Tryz.prog 62 [] [ag l,ai p] [] (.tu [.c (jn (spX (startT l p))),.c (jn (spY (startT l p)))]) := by
 have hc := Xt l hg
 rw [hl] at hc
 have hlr := Yx l.Rows
 have hx : l.Rows.length ≤ 9223372036854775807 := hg.1
 obtain ⟨l3,l12,w,w4,w20,hw⟩ := Zh hl
 have b1 : decide (p < 0) = false := decide_eq_false (by omega)
 have b2 : decide (p ≥ 4) = false := decide_eq_false (by omega)
 refine Con.of Tryz.func62 J Tryz.ntmps62 J (fun E => ?_)
 refine zy (Un (Gf J) J (z1 J (z1 J (zz (Qd (zy (z0 J (U1 J ?_))))))));refine z0 J (z5 J (z0 J (z5 J (z9d J (by assumption) (zpF J (z0 J (z5 J (Gw J J (z5 J ?_)))))))));refine zx (Qj J J (hc) J) J ?_;refine z5 J (zn J (zpF J (zz (Ql J (Qh (Q0 (zy (z1 J (Qe ?_)))))))));refine Q0 (zy (z1 J (zz (Qd (zy (Gg J J (z3 J (zx (Kb J J J) J ?_))))))));refine z0 J (zz (Qk ?_));refine Xi (fun m st => ∃ r : Nat,r + m = l.Rows.length ∧ (tileF (isDig p) l.Rows r = none) ∧ st = (⟨_,[(1,I p),(2,.o (.c (.ptr 0 0))),(6,I (spX (tileF isOpen l.Rows r))),(7,I (spY (tileF isOpen l.Rows r))),(23,L l.Rows),(24,I (els l.Rows).length),(25,I r)],[.box ((Enc.e l).map (V1.rd []))]⟩ : St)) (l.Rows.length) ⟨_,⟨0,by omega,J,J⟩,Uf [0]⟩ ?_
 rintro m_A _ ⟨r,hk_A,hp_A,rfl⟩
 refine zy (zx (Vi J) J (zz (Qd ?_)))
 refine Xb J (fun h => ?_) (fun h => ?_)
 ·have h3 : r < l.Rows.length := by have := of_decide_eq_true h; omega
  have hat := Yv h3
  have hwr := hw r h3
  have hrow := List.getElem?_eq_getElem h3
  generalize l.Rows[r] = row at hat hwr hrow
  refine Qh (Q0 (Qd (Qk (zy (z0 J (zx (Q2 J J J J (by omega) (by assumption) J) J (zx (Ug J) J (z1 J (z1 J (Qe ?_))))))))));refine Q0 (zy (z1 J (zz (Qk ?_))));refine Xi (fun m st => ∃ c : Nat,c + m = row.size ∧ (colF (isDig p) row c = none) ∧ st = (⟨_,[(1,I p),(2,.o (.c (.ptr 0 0))),(6,I (spX (openF l.Rows row r c))),(7,I (spY (openF l.Rows row r c))),(8,I r),(9,S row),(10,I c),(23,L l.Rows),(24,I (els l.Rows).length),(25,I r)],[.box ((Enc.e l).map (V1.rd []))]⟩ : St)) (row.size) ⟨(fun c : Nat => (⟨_,[(1,I p),(2,.o (.c (.ptr 0 0))),(6,I (spX (openF l.Rows row r c))),(7,I (spY (openF l.Rows row r c))),(8,I r),(9,S row),(10,I c),(23,L l.Rows),(24,I (els l.Rows).length),(25,I r)],[.box ((Enc.e l).map (V1.rd []))]⟩ : St)) 0,⟨0,by omega,J,J⟩,V6 [0] J (.c J (.c J (.cons (Xv (by rw [openF_zero])) (.cons (Xv (by rw [openF_zero])) (.c J (.c J (.c J (.c J (.c J (.c J (.nil)))))))))))⟩ ?_
  rintro m_D _ ⟨c,hk_D,hp_D,rfl⟩
  refine Qd (zy (z0 J (z0 J (zx (Kd J J J) J (zx (Vi J) J (zz ?_))))))
  refine Xb J (fun h4 => ?_) (fun h4 => ?_)
  ·have h4 : c < row.size := by have := of_decide_eq_true h4; omega
   have hbt := Yn row c
   have hbt2 := Yn row (c : Int).toNat
   by_cases hd : byteAt row c = 49 + p
   ·have hb : decide (byteAt row (c : Int).toNat = 49 + p) = true := decide_eq_true hd
    rw [start_dig hp_A hrow hp_D h4 hd]
    clear hd
    refine Qh (Q0 (Qd (Qk (Qd (zy (z0 J (z0 J (zx (V7 J) J (z0 J (Uh J ?_))))))))));refine zx (Z4 J J J J (V9)) J (Gr J (zz (Qm J (zy (z0 J (zx (Uw J) J (Uh J (z0 J (zx (Uw J) J ?_)))))))));refine Uh J (z1 J (z1 J (zz (Xa (T_r (B_r (T_r (T_r (B_r (B_r ?_))))))))));refine T_r (T_r (B_r (T_r (F_r ?_))))
    exact Xp J J J (Ue [] J J (tu2 (show (c : Int) * 16 + 2 = 16 * (c : Int) + 2 by omega) (show (r : Int) * 16 + 2 = 16 * (r : Int) + 2 by omega)))
   have hb : decide (byteAt row (c : Int).toNat = 49 + p) = false := decide_eq_false hd
   have hnd := colF_step hp_D (show isDig p (byteAt row c) = false from decide_eq_false hd)
   by_cases h35 : byteAt row c = 35
   ·have hb3 : decide (byteAt row (c : Int).toNat ≠ 35) = false := decide_eq_false (fun q => q h35)
    have hnx : spX (openF l.Rows row r c) = spX (openF l.Rows row r (c + 1)) := by rw [openF_35 h35]
    have hny : spY (openF l.Rows row r c) = spY (openF l.Rows row r (c + 1)) := by rw [openF_35 h35]
    clear h35
    refine Qh (Q0 (Qd (Qk (Qd (zy (z0 J (z0 J (zx (V7 J) J (z0 J (Uh J ?_))))))))));refine zx (Z4 J J J J (V9)) J (Gr J (zz (Ql J (Qh (Q0 (zy (z0 J (z0 J (zx (V7 J) J ?_)))))))));refine Gn J (z0 J (z6 J (z6 J (zpF J (zz (Ql J (Qh (Q1 (Q0 (Qc ?_))))))))));refine z0 J (Uh J (z1 J (zz ?_)))
    exact ⟨row.size - (c + 1),by omega,(fun c : Nat => (⟨_,[(1,I p),(2,.o (.c (.ptr 0 0))),(6,I (spX (openF l.Rows row r c))),(7,I (spY (openF l.Rows row r c))),(8,I r),(9,S row),(10,I c),(23,L l.Rows),(24,I (els l.Rows).length),(25,I r)],[.box ((Enc.e l).map (V1.rd []))]⟩ : St)) (c + 1),⟨c + 1,by omega,hnd,J⟩,V6 [0] J (.c J (.c J (.cons (Xv hnx) (.cons (Xv hny) (.c J (.c J (.c J (.c J (.c J (.c J (.nil)))))))))))⟩
   have hb3 : decide (byteAt row (c : Int).toNat ≠ 35) = true := decide_eq_true h35
   have h35' := h35
   cases ho : openF l.Rows row r c with
   | some x =>
    have hlt : decide (spX (openF l.Rows row r c) < 0) = false := decide_eq_false (by rw [spX_neg,ho]; simp)
    have hnx : spX (some x) = spX (openF l.Rows row r (c + 1)) := by rw [Zo ho]
    have hny : spY (some x) = spY (openF l.Rows row r (c + 1)) := by rw [Zo ho]
    rw [ho] at hlt
    refine Qh (Q0 (Qd (Qk (Qd (zy (z0 J (z0 J (zx (V7 J) J (z0 J (Uh J ?_))))))))));refine zx (Z4 J J J J (V9)) J (Gr J (zz (Ql J (Qh (Q0 (zy (z0 J (z0 J (zx (V7 J) J ?_)))))))));refine Gn J (z0 J (z5 J (z0 J (z5 J (U1 J (zpT J (zz (Ql J (Qh (Q1 ?_))))))))));refine Q0 (Qc (z0 J (Uh J (z1 J (zz ?_)))))
    exact ⟨row.size - (c + 1),by omega,(fun c : Nat => (⟨_,[(1,I p),(2,.o (.c (.ptr 0 0))),(6,I (spX (openF l.Rows row r c))),(7,I (spY (openF l.Rows row r c))),(8,I r),(9,S row),(10,I c),(23,L l.Rows),(24,I (els l.Rows).length),(25,I r)],[.box ((Enc.e l).map (V1.rd []))]⟩ : St)) (c + 1),⟨c + 1,by omega,hnd,J⟩,V6 [0] J (.c J (.c J (.cons (Xv hnx) (.cons (Xv hny) (.c J (.c J (.c J (.c J (.c J (.c J (.nil)))))))))))⟩
   | none =>
    have hlt : decide (spX none < 0) = true := rfl
    have hnx : (c : Int) * 16 + 2 = spX (openF l.Rows row r (c + 1)) := by rw [Zp ho,if_neg h35']; show (c : Int) * 16 + 2 = 16 * (c : Int) + 2; omega
    have hny : (r : Int) * 16 + 2 = spY (openF l.Rows row r (c + 1)) := by rw [Zp ho,if_neg h35']; show (r : Int) * 16 + 2 = 16 * (r : Int) + 2; omega
    refine Qh (Q0 (Qd (Qk (Qd (zy (z0 J (z0 J (zx (V7 J) J (z0 J (Uh J ?_))))))))));refine zx (Z4 J J J J (V9)) J (Gr J (zz (Ql J (Qh (Q0 (zy (z0 J (z0 J (zx (V7 J) J ?_)))))))));refine Gn J (z0 J (z5 J (z0 J (z5 J (U1 J (zpT J (zz (Qm J (zy ?_)))))))));refine z0 J (zx (Uw J) J (Uh J (z1 J (zz (Qc (z0 J (zx (Uw J) J (Uh J (z1 J (Qe ?_))))))))));refine Q1 (Q0 (Qc (z0 J (Uh J (z1 J (zz ?_))))))
    exact ⟨row.size - (c + 1),by omega,(fun c : Nat => (⟨_,[(1,I p),(2,.o (.c (.ptr 0 0))),(6,I (spX (openF l.Rows row r c))),(7,I (spY (openF l.Rows row r c))),(8,I r),(9,S row),(10,I c),(23,L l.Rows),(24,I (els l.Rows).length),(25,I r)],[.box ((Enc.e l).map (V1.rd []))]⟩ : St)) (c + 1),⟨c + 1,by omega,hnd,J⟩,V6 [0] J (.c J (.c J (.cons (Xv hnx) (.cons (Xv hny) (.c J (.c J (.c J (.c J (.c J (.c J (.nil)))))))))))⟩
  ·have h4 : c = row.size := by have := of_decide_eq_false h4; omega
   subst h4
   refine Q9 (T_x (T_x (Xk (Q1 (Q0 (Qc (Uh J (z0 J (zz ?_)))))))))
   exact ⟨l.Rows.length - (r + 1),by omega,(fun r : Nat => (⟨_,[(1,I p),(2,.o (.c (.ptr 0 0))),(6,I (spX (tileF isOpen l.Rows r))),(7,I (spY (tileF isOpen l.Rows r))),(23,L l.Rows),(24,I (els l.Rows).length),(25,I r)],[.box ((Enc.e l).map (V1.rd []))]⟩ : St)) (r + 1),⟨r + 1,by omega,tileF_step hp_A hrow hp_D,J⟩,V6 [0] J (.c J (.c J (.cons (Xv (by rw [← openF_end hrow])) (.cons (Xv (by rw [← openF_end hrow])) (.c J (.c J (.c J (.nil))))))))⟩
 ·have h3 : r = l.Rows.length := by have := of_decide_eq_false h; omega
  rw [start_open hp_A h3]
  refine Q9 (T_x (T_x (Xk (Q0 (zy (z0 J (z0 J (z1 J (z1 J (Qe ?_))))))))));refine Q0 (Xa (F_r ?_))
  exact Xp J J J (Ue [] J J J)
theorem S_StartOf (l : TLevel) (p : Int) (hg : Enc.gd l) (hl : levelOk l = true) (hp : 0 ≤ p ∧ p ≤ 3) : Con Tryz.prog 116 [] [ag l,ai p] [] (.tu [.c (jn (spX (startT l p))),.c (jn (spY (startT l p)))]) := by
 have hc := S_LevelOk l hg
 rw [hl] at hc
 have hlr := Yx l.Rows
 have hx : l.Rows.length ≤ 9223372036854775807 := hg.1
 obtain ⟨l3,l12,w,w4,w20,hw⟩ := Zh hl
 have hci := S_in p 0 3
 rw [Za.2 hp] at hci
 refine Con.of Tryz.func116 J Tryz.ntmps116 J (fun E => ?_)
 refine zy (Un (Gf J) J (z1 J (z1 J (zz (zy (z1 J (zz ?_)))))));refine zy (z1 J (zz (Qd (zy (Gw J J ?_)))));refine zx (Qj J J (hc) J) J ?_;refine zn J (z0 J (z5 J (z0 J (z5 J ?_))));refine zx (Qj J J (hci) J) J ?_;refine z5 J (zn J (zpF J (zz (Ql J (Qh (Q0 (Qd (zy (z1 J ?_)))))))));refine zz (Qk ?_);refine Xi (fun m st => ∃ r : Nat,r + m = l.Rows.length ∧ (tileF (isDig p) l.Rows r = none) ∧ st = (⟨_,[(1,I p),(2,.o (.c (.ptr 0 0))),(6,I (spX (tileF isOpen l.Rows r))),(7,I (spY (tileF isOpen l.Rows r))),(8,I r)],[.box ((Enc.e l).map (V1.rd []))]⟩ : St)) (l.Rows.length) ⟨_,⟨0,by omega,J,J⟩,Uf [0]⟩ ?_
 rintro m_A _ ⟨r,hk_A,hp_A,rfl⟩
 refine Qd (zy (z0 J (Gg J J (z3 J (zx (Kb J J J) J (zx (Vi J) J (zz ?_)))))))
 refine Xb J (fun h => ?_) (fun h => ?_)
 ·have h3 : r < l.Rows.length := by have := of_decide_eq_true h; omega
  have hat := Yv h3
  have hwr := hw r h3
  have hrow := List.getElem?_eq_getElem h3
  generalize l.Rows[r] = row at hat hwr hrow
  refine Qh (Q0 (Qd (Qk (zy (z1 J (zz (Qk ?_)))))));refine Xi (fun m st => ∃ c : Nat,c + m = row.size ∧ (colF (isDig p) row c = none) ∧ st = (⟨_,[(1,I p),(2,.o (.c (.ptr 0 0))),(6,I (spX (openF l.Rows row r c))),(7,I (spY (openF l.Rows row r c))),(8,I r),(9,I c)],[.box ((Enc.e l).map (V1.rd []))]⟩ : St)) (row.size) ⟨(fun c : Nat => (⟨_,[(1,I p),(2,.o (.c (.ptr 0 0))),(6,I (spX (openF l.Rows row r c))),(7,I (spY (openF l.Rows row r c))),(8,I r),(9,I c)],[.box ((Enc.e l).map (V1.rd []))]⟩ : St)) 0,⟨0,by omega,J,J⟩,V6 [0] J (.c J (.c J (.cons (Xv (by rw [openF_zero])) (.cons (Xv (by rw [openF_zero])) (.c J (.c J (.nil)))))))⟩ ?_
  rintro m_D _ ⟨c,hk_D,hp_D,rfl⟩
  refine Qd (zy (z0 J (Gg J J (z3 J (z0 J (zx (Q2 J J J J (by omega) (by assumption) J) J (zx (Ug J) J (zx (Kd J J J) J (zx (Vi J) J (Qe ?_))))))))));refine Q0 ?_
  refine Xb J (fun h4 => ?_) (fun h4 => ?_)
  ·have h4 : c < row.size := by have := of_decide_eq_true h4; omega
   have hbt := Yn row c
   have hbt2 := Yn row (c : Int).toNat
   by_cases hd : byteAt row c = 49 + p
   ·have hb : decide (byteAt row (c : Int).toNat - 49 = p) = true := decide_eq_true (by show byteAt row c - 49 = p; omega)
    have hb3 : decide (byteAt row (c : Int).toNat ≠ 35) = true := decide_eq_true (by show byteAt row c ≠ 35; omega)
    rw [start_dig hp_A hrow hp_D h4 hd]
    clear hd
    cases ho : openF l.Rows row r c with
    | some x =>
     have hlt : decide (spX (openF l.Rows row r c) < 0) = false := decide_eq_false (by rw [spX_neg,ho]; simp)
     rw [ho] at hlt
     refine Qh (Q0 (Qd (Qk (zy (Gg J J (z3 J (z0 J (zx (Q2 J J J J (by omega) (by assumption) J) J (zx (Ug J) J (z0 J ?_))))))))));refine zx (V7 J) J (z1 J (zz (Qd (zy (z0 J (Gn J (z0 J (z5 J (z0 J ?_)))))))));refine z5 J (U1 J (zpT J (z0 J (z5 J (z0 J (z5 J (zx (Z4 J J J J (V8)) J (z5 J (Ux J (z5 J (z0 J ?_)))))))))));refine z5 J (Gr J (zpF J (zz (Qm J (zy (z0 J (zx (Uw J) J (Uh J (z1 J ?_)))))))));refine zz (Qc (z0 J (zx (Uw J) J (Uh J (z1 J (zz (zy (z0 J ?_))))))));refine zx (Z4 J J J J (V8)) J (Ux J (z0 J (Gr J (zz (Qm J (zy (z0 J (z0 J (z1 J ?_)))))))));refine z1 J (zz (Xa (B_r (T_r (T_r (B_r (B_r (T_r (T_r (B_r ?_))))))))));refine T_r (F_r ?_)
     exact Xp J J J (Ue [] J J J)
    | none =>
     have hlt : decide (spX none < 0) = true := rfl
     refine Qh (Q0 (Qd (Qk (zy (Gg J J (z3 J (z0 J (zx (Q2 J J J J (by omega) (by assumption) J) J (zx (Ug J) J (z0 J ?_))))))))));refine zx (V7 J) J (z1 J (zz (Qd (zy (z0 J (Gn J (z0 J (z5 J (z0 J ?_)))))))));refine z5 J (U1 J (zpT J (z0 J (z6 J (z6 J (z6 J (z6 J (z6 J (zpT J (zz ?_))))))))));refine Qm J (zy (z0 J (zx (Uw J) J (Uh J (z1 J (zz (Qc (z0 J (zx (Uw J) J ?_)))))))));refine Uh J (z1 J (zz (zy (z0 J (zx (Z4 J J J J (V8)) J (Ux J (z0 J (Gr J (Qe ?_)))))))));refine Q0 (Qm J (zy (z0 J (z0 J (z1 J (z1 J (zz (Xa (B_r ?_)))))))));refine T_r (T_r (B_r (B_r (T_r (T_r (B_r (T_r (F_r ?_))))))))
     exact Xp J J J (Ue [] J J J)
   have hb : decide (byteAt row (c : Int).toNat - 49 = p) = false := decide_eq_false (by show ¬ byteAt row c - 49 = p; omega)
   have hnd := colF_step hp_D (show isDig p (byteAt row c) = false from decide_eq_false hd)
   by_cases h35 : byteAt row c = 35
   ·have hb3 : decide (byteAt row (c : Int).toNat ≠ 35) = false := decide_eq_false (fun q => q h35)
    have hnx : spX (openF l.Rows row r c) = spX (openF l.Rows row r (c + 1)) := by rw [openF_35 h35]
    have hny : spY (openF l.Rows row r c) = spY (openF l.Rows row r (c + 1)) := by rw [openF_35 h35]
    clear h35
    refine Qh (Q0 (Qd (Qk (zy (Gg J J (z3 J (z0 J (zx (Q2 J J J J (by omega) (by assumption) J) J (zx (Ug J) J (z0 J ?_))))))))));refine zx (V7 J) J (z1 J (zz (Qd (zy (z0 J (Gn J (z0 J (z6 J (z6 J ?_)))))))));refine zpF J (z0 J (z5 J (z0 J (z5 J (zx (Z4 J J J J (V8)) J (z5 J (Ux J (z5 J (z0 J (z5 J (Gr J ?_)))))))))));refine zpF J (zz (Ql J (Qh (Q0 (zy (z0 J (zx (Z4 J J J J (V8)) J (Ux J (z0 J ?_)))))))));refine Gr J (zz (Ql J (Qh (Q1 (Q0 (Qc (z0 J (Uh J (z1 J (Qe ?_))))))))));refine Q0 ?_
    exact ⟨row.size - (c + 1),by omega,(fun c : Nat => (⟨_,[(1,I p),(2,.o (.c (.ptr 0 0))),(6,I (spX (openF l.Rows row r c))),(7,I (spY (openF l.Rows row r c))),(8,I r),(9,I c)],[.box ((Enc.e l).map (V1.rd []))]⟩ : St)) (c + 1),⟨c + 1,by omega,hnd,J⟩,V6 [0] J (.c J (.c J (.cons (Xv hnx) (.cons (Xv hny) (.c J (.c J (.nil)))))))⟩
   have hb3 : decide (byteAt row (c : Int).toNat ≠ 35) = true := decide_eq_true h35
   have h35' := h35
   cases ho : openF l.Rows row r c with
   | some x =>
    have hlt : decide (spX (openF l.Rows row r c) < 0) = false := decide_eq_false (by rw [spX_neg,ho]; simp)
    have hnx : spX (some x) = spX (openF l.Rows row r (c + 1)) := by rw [Zo ho]
    have hny : spY (some x) = spY (openF l.Rows row r (c + 1)) := by rw [Zo ho]
    rw [ho] at hlt
    refine Qh (Q0 (Qd (Qk (zy (Gg J J (z3 J (z0 J (zx (Q2 J J J J (by omega) (by assumption) J) J (zx (Ug J) J (z0 J ?_))))))))));refine zx (V7 J) J (z1 J (zz (Qd (zy (z0 J (Gn J (z0 J (z5 J (z0 J ?_)))))))));refine z5 J (U1 J (zpT J (z0 J (z5 J (z0 J (z5 J (zx (Z4 J J J J (V8)) J (z5 J (Ux J (z5 J (z0 J ?_)))))))))));refine z5 J (Gr J (zpF J (zz (Ql J (Qh (Q0 (zy (z0 J (zx (Z4 J J J J (V8)) J ?_)))))))));refine Ux J (z0 J (Gr J (zz (Ql J (Qh (Q1 (Q0 (Qc (z0 J (Uh J ?_))))))))));refine z1 J (zz ?_)
    exact ⟨row.size - (c + 1),by omega,(fun c : Nat => (⟨_,[(1,I p),(2,.o (.c (.ptr 0 0))),(6,I (spX (openF l.Rows row r c))),(7,I (spY (openF l.Rows row r c))),(8,I r),(9,I c)],[.box ((Enc.e l).map (V1.rd []))]⟩ : St)) (c + 1),⟨c + 1,by omega,hnd,J⟩,V6 [0] J (.c J (.c J (.cons (Xv hnx) (.cons (Xv hny) (.c J (.c J (.nil)))))))⟩
   | none =>
    have hlt : decide (spX none < 0) = true := rfl
    have hnx : 16 * (c : Int) + 2 = spX (openF l.Rows row r (c + 1)) := by rw [Zp ho,if_neg h35']; rfl
    have hny : 16 * (r : Int) + 2 = spY (openF l.Rows row r (c + 1)) := by rw [Zp ho,if_neg h35']; rfl
    refine Qh (Q0 (Qd (Qk (zy (Gg J J (z3 J (z0 J (zx (Q2 J J J J (by omega) (by assumption) J) J (zx (Ug J) J (z0 J ?_))))))))));refine zx (V7 J) J (z1 J (zz (Qd (zy (z0 J (Gn J (z0 J (z5 J (z0 J ?_)))))))));refine z5 J (U1 J (zpT J (z0 J (z6 J (z6 J (z6 J (z6 J (z6 J (zpT J (zz ?_))))))))));refine Qm J (zy (z0 J (zx (Uw J) J (Uh J (z1 J (zz (Qc (z0 J (zx (Uw J) J ?_)))))))));refine Uh J (z1 J (zz (zy (z0 J (zx (Z4 J J J J (V8)) J (Ux J (z0 J (Gr J (Qe ?_)))))))));refine Q0 (Ql J (Qh (Q1 (Q0 (Qc (z0 J (Uh J (z1 J (zz ?_)))))))))
    exact ⟨row.size - (c + 1),by omega,(fun c : Nat => (⟨_,[(1,I p),(2,.o (.c (.ptr 0 0))),(6,I (spX (openF l.Rows row r c))),(7,I (spY (openF l.Rows row r c))),(8,I r),(9,I c)],[.box ((Enc.e l).map (V1.rd []))]⟩ : St)) (c + 1),⟨c + 1,by omega,hnd,J⟩,V6 [0] J (.c J (.c J (.cons (Xv hnx) (.cons (Xv hny) (.c J (.c J (.nil)))))))⟩
  ·have h4 : c = row.size := by have := of_decide_eq_false h4; omega
   subst h4
   refine Q9 (T_x (T_x (Xk (Q1 (Q0 (Qc (z0 J (Uh J (z1 J (zz ?_))))))))))
   exact ⟨l.Rows.length - (r + 1),by omega,(fun r : Nat => (⟨_,[(1,I p),(2,.o (.c (.ptr 0 0))),(6,I (spX (tileF isOpen l.Rows r))),(7,I (spY (tileF isOpen l.Rows r))),(8,I r)],[.box ((Enc.e l).map (V1.rd []))]⟩ : St)) (r + 1),⟨r + 1,by omega,tileF_step hp_A hrow hp_D,J⟩,V6 [0] J (.c J (.c J (.cons (Xv (by rw [← openF_end hrow])) (.cons (Xv (by rw [← openF_end hrow])) (.c J (.nil))))))⟩
 ·have h3 : r = l.Rows.length := by have := of_decide_eq_false h; omega
  rw [start_open hp_A h3]
  refine Q9 (T_x (T_x (Xk (Q0 (zy (z0 J (z0 J (z1 J (z1 J (Qe ?_))))))))));refine Q0 (Xa (F_r ?_))
  exact Xp J J J (Ue [] J J J)
end
section
open Go.RowKit

theorem I_fresh (l : TLevel) (p : Int) (hg : Enc.gd l) (hl : levelOk l = true) (hp : 0 ≤ p ∧ p ≤ 3) : Con Tryz.prog 42 [] [ag l,ai p] [] (.o (.ag ((Enc.e (fresh l p)).map (V1.rd [])))) := by
 have hc := I_StartOf l p hg hl hp
 refine Con.of Tryz.func42 J Tryz.ntmps42 J (fun E => ?_)
 refine zy (Un (Gf J) J (Un (Gh J J) J (zz (zy (Gw J J (z0 J ?_))))));refine Un (Z3 J J (hc) J J J) J ?_;refine zx (Ga J) J (ze J (ze J (z1 J (z1 J (zz (zy (z0 J (z0 J (z0 J ?_)))))))));refine zx (Zz J J J J J) J ?_;refine G1 J J (zz (Xa (F_r ?_)))
 exact Xl J J J J (Ue [] J J J)
theorem S_fresh (l : TLevel) (p : Int) (hg : Enc.gd l) (hl : levelOk l = true) (hp : 0 ≤ p ∧ p ≤ 3) : Con Tryz.prog 100 [] [ag l,ai p] [] (.o (.ag ((Enc.e (fresh l p)).map (V1.rd [])))) := by
 have hc := S_StartOf l p hg hl hp
 refine Con.of Tryz.func100 J Tryz.ntmps100 J (fun E => ?_)
 refine zy (Un (Gf J) J (Un (Gh J J) J (zz (zy (Gw J J (z0 J ?_))))));refine Un (Z3 J J (hc) J J J) J ?_;refine zx (Ga J) J (ze J (ze J (z1 J (z1 J (zz (zy (z0 J (z0 J (z0 J ?_)))))))));refine zx (Zz J J J J J) J ?_;refine G1 J J (zz (Xa (F_r ?_)))
 exact Xl J J J J (Ue [] J J J)
theorem row6w {a b c d e : Ob} {k : Nat} {x y : List (List T)} (h : x = y) : [a,b,c,d,e,Ob.row k x] = [a,b,c,d,e,Ob.row k y] := by rw [h]
def freshs (l : TLevel) (k : Nat) : List TBody := (List.range k).map fun (k : Nat) => fresh l (k : Int)
theorem freshs_succ (l : TLevel) (k : Nat) : freshs l (k + 1) = freshs l k ++ [fresh l k] := by simp [freshs,List.range_succ]
theorem freshs_len (l : TLevel) (k : Nat) : (freshs l k).length = k := by simp [freshs]
theorem zeros_els (n : Nat) : els (List.replicate n (0 : Int)) = List.replicate n [.v (.int .i64 0)] := by simp [els,Enc.e]
theorem Zl {l : TLevel} {n : Nat} {seed : Int} (hg : Enc.gd l) (hl : levelOk l = true) (hn : 1 ≤ n ∧ n ≤ 4) (hs : inR seed 0 65535 = true) : Enc.gd (newWorld l n seed) := by
 have h0 : I64 0 := ⟨by decide,by decide⟩
 have hsd := Za.1 hs
 refine ⟨hg,h0,⟨by show (-9223372036854775808 : Int) ≤ seed; omega,by show seed ≤ 9223372036854775807; omega⟩,⟨by simp [newWorld]; omega,fun x hx => ?_⟩,⟨by simp [newWorld]; omega,fun b hb => ?_⟩⟩
 ·have : x = 0 := by simpa [newWorld] using List.eq_of_mem_replicate hx
  rw [this]; exact h0
 ·simp only [newWorld,List.mem_map,List.mem_range] at hb
  obtain ⟨k,hk,rfl⟩ := hb
  obtain ⟨_,h3,h4⟩ := fresh_free hl (p := (k : Int)) (by omega)
  exact ⟨h0,⟨by show (-9223372036854775808 : Int) ≤ (k : Int); omega,by show (k : Int) ≤ 9223372036854775807; omega⟩,⟨by omega,by omega⟩,⟨by omega,by omega⟩,h0,h0,⟨by simp only [fresh]; omega,by simp only [fresh]; omega⟩,⟨by simp only [fresh]; omega,by simp only [fresh]; omega⟩,h0⟩
theorem I_NewWorld (l : TLevel) (n : Nat) (seed : Int) (hg : Enc.gd l) (hL : l.Rows.length ≤ 1048576) (hl : levelOk l = true) (hn : 1 ≤ n ∧ n ≤ 4) (hs : inR seed 0 65535 = true) : Con Tryz.prog 17 [] [ag l,ai n,ai seed] (ownO (Enc.e (newWorld l n seed))) (.tu [.ag (ownV 0 (Enc.e (newWorld l n seed))),.c (bv true)]) := by
 have c1 := Xt l hg
 have c2 := Xu n 1 4
 have c3 := Xu seed 0 65535
 rw [hl] at c1
 rw [Za.2 (by omega)] at c2
 rw [hs] at c3
 have hwk := I_WorldOk (newWorld l n seed) (Zl hg hl hn hs)
 rw [newWorld_ok hl hn hs] at hwk
 have hcl := I_copyLevel l hg hL
 refine Con.of Tryz.func17 J Tryz.ntmps17 J (fun E => ?_)
 refine zy (Un (Gf J) J (Un (Gh J J) J (z1 J (zz (Qd (zy (Gw J J ?_)))))));refine zx (Qj J J (c1) J) J ?_;refine zn J (z0 J (z5 J (z0 J (z5 J ?_))));refine zx (Qj J J (c2) J) J ?_;refine z5 J (zn J (zpF J (z0 J (z5 J (z0 J (z5 J ?_))))));refine zx (Qj J J (c3) J) J ?_;refine z5 J (zn J (zpF J (zz (Ql J (Qh (Q0 (Qd ?_)))))))
 refine AWP.pre (st' := (⟨_,[(1,I n),(2,I seed),(3,.o (.c (.ptr 0 0))),(6,.o (.c (.ptr 1 0)))],[.box ((Enc.e l).map (V1.rd [])),.box [nilV,jn 0,jn 0,nilV,nilV]]⟩ : St)) ?_ (Uf [0,1])
 skip
 refine Xh [[],[0],[],[],[3],(u9 5),[],(u9 7)] [[],[24],[],[],[27],[24,25,26,27,28],[],[8,24,25,26,27,28,29]] [[8,26,27,28],[8,26,27,28],[8,24,25,27,28],[8,24,25,26],[8,24,25,26],[8],[24,25,26,27,28,29],[]] J (Ve (Vs J J) J ?_);refine Ve (Z3 J J (hcl) J J J) J ?_;refine Ve (Vo J) J (Ve (Vo J) J ?_);refine Ve (q_make 0 J J J J (by omega) (by omega) (by omega) J (by decide)) J ?_;refine Ve (Zz J J J J J) J (Ve (Gh J J) J (Vd ?_))
 refine AL.weak (st' := (⟨_,[(1,I n),(3,.o (.c (.ptr 0 0))),(6,.o (.c (.ptr 1 0))),(8,.o (.c (.ptr 4 0))),(29,.o (.ag [.ref 2,jn 0,jn seed,.ref 3,nilV]))],[.box ((Enc.e l).map (V1.rd [])),.box [nilV,jn 0,jn 0,nilV,nilV],.row 1 (els l.Rows),.row 1 (els (List.replicate n (0 : Int))),.box [nilV,jn 0,jn 0,nilV,nilV]]⟩ : St)) (by rw [zeros_els]; exact Uf [0,1,2,3,4]) ?_
 refine G1 J J (zz (Qd (zy (z1 J (zz (Qk ?_))))))
 refine AWP.pre (st' := (⟨_,[(1,I n),(3,.o (.c (.ptr 0 0))),(6,.o (.c (.ptr 1 0))),(8,.o (.c (.ptr 4 0))),(9,I 0)],[.box ((Enc.e l).map (V1.rd [])),.box [nilV,jn 0,jn 0,nilV,nilV],.row 1 (els l.Rows),.row 1 (els (List.replicate n (0 : Int))),.box [.ref 2,jn 0,jn seed,.ref 3,nilV]]⟩ : St)) ?_ (Uf [0,1,2,3,4])
 refine AWP.pre ?_ (Wk.nilbox (p := 4) (i := 4) 9 J J)
 refine Xi (fun m st => ∃ k : Nat,k + m = n ∧ (True) ∧ st = (⟨_,[(1,I n),(3,.o (.c (.ptr 0 0))),(6,.o (.c (.ptr 1 0))),(8,.o (.c (.ptr 4 0))),(9,I k)],[.box ((Enc.e l).map (V1.rd [])),.box [nilV,jn 0,jn 0,nilV,nilV],.row 1 (els l.Rows),.row 1 (els (List.replicate n (0 : Int))),.box [.ref 2,jn 0,jn seed,.ref 3,.ref 5],.row 9 (els (freshs l k))]⟩ : St)) (n) ⟨_,⟨0,by omega,trivial,J⟩,Uf [0,1,2,3,4,5]⟩ ?_
 rintro m_A _ ⟨k,hk_A,hp_A,rfl⟩
 have hlk := Yx (freshs l k)
 have hlk2 := freshs_len l k
 refine Qd (zy (z0 J (z0 J (zx (Vi J) J (zz ?_)))))
 refine Xb J (fun h => ?_) (fun h => ?_)
 ·have h3 : k < n := by have := of_decide_eq_true h; omega
  have hf := I_fresh l k hg hl (by omega)
  refine Qh (Q0 (Qd (Qk (Xh u8_10 [[],[35],[],[],[37,38],[37,38,39],[35,36,37,38,39,40],[35,36,37,38,39,40,41],[35,36,37,38,39,40,41,42]] [[37,38,39,40],[37,38,39,40],[35,36,38],[35,36,37],[35,36],[35,36],[],[],[]] J (Ve (Vq J J) J (Ve (Vr J) J (Ve (Vs J J) J (Ve (Vo J) J ?_))))))));refine Ve (Z3 J J (hf) J J J) J ?_;refine Ve (Uo J J) J (Vd ?_);refine AL.weak (st' := (⟨_,[(1,I n),(3,.o (.c (.ptr 0 0))),(6,.o (.c (.ptr 1 0))),(8,.o (.c (.ptr 4 0))),(9,I k),(36,.o (.c (.ref 5))),(40,.o (.c (.sb 6 1 9)))],[.box ((Enc.e l).map (V1.rd [])),.box [nilV,jn 0,jn 0,nilV,nilV],.row 1 (els l.Rows),.row 1 (els (List.replicate n (0 : Int))),.box [.ref 2,jn 0,jn seed,.ref 3,.ref 5],.row 9 (els (freshs l k)),.box [jn 0,jn (k : Int),jn (spX (startT l k)),jn (spY (startT l k)),jn 0,jn 0,jn 1,jn 3,jn 0]]⟩ : St)) (Uf [0,1,2,3,4,5,6]) ?_;refine Xw J J J J J J J J J J J J J J (by omega) (by omega) ?_;refine Gg J J ?_;refine Gl J (Qe (Q1 (Q0 (Qc (z0 J (Uh J (z1 J (zz ?_))))))))
  exact ⟨n - (k + 1),by omega,(fun k : Nat => (⟨_,[(1,I n),(3,.o (.c (.ptr 0 0))),(6,.o (.c (.ptr 1 0))),(8,.o (.c (.ptr 4 0))),(9,I k)],[.box ((Enc.e l).map (V1.rd [])),.box [nilV,jn 0,jn 0,nilV,nilV],.row 1 (els l.Rows),.row 1 (els (List.replicate n (0 : Int))),.box [.ref 2,jn 0,jn seed,.ref 3,.ref 5],.row 9 (els (freshs l k))]⟩ : St)) (k + 1),⟨k + 1,by omega,trivial,J⟩,Yb [0,1,2,3,4,5] (by decide) J (row6w (by rw [freshs_succ]; simp [els]; rfl)) (.c J (.c J (.c J (.c J (.c J (.nil))))))⟩
 have h3 : k = n := by have := of_decide_eq_false h; omega
 subst h3
 refine Q9 (T_x (T_x (Xk (Q0 (Qd (zy (Gw J J ?_)))))));refine zx (Qj J J (hwk) J) J ?_;refine zn J (zz (Ql J (Qh (Q0 (zy (Gw J J ?_))))));refine G1 J J (z1 J (zz (Xa (F_r ?_))))
 exact G7 J J (Ue [2,3,5] J J J)
theorem reps_succ (k : Nat) : els (List.replicate k (0 : Int)) ++ [[.v (.int .i64 0)]] = els (List.replicate (k + 1) (0 : Int)) := by rw [List.replicate_succ']; simp [els,Enc.e]
theorem row65 {a b c d e : Ob} {k : Nat} {x y : List (List T)} (h : x = y) : [a,b,c,d,Ob.row k x,e] = [a,b,c,d,Ob.row k y,e] := by rw [h]
theorem S_NewWorld (l : TLevel) (n : Nat) (seed : Int) (hg : Enc.gd l) (hL : l.Rows.length ≤ 1048576) (hl : levelOk l = true) (hn : 1 ≤ n ∧ n ≤ 4) (hs : inR seed 0 65535 = true) : Con Tryz.prog 85 [] [ag l,ai n,ai seed] (ownO (Enc.e (newWorld l n seed))) (.tu [.ag (ownV 0 (Enc.e (newWorld l n seed))),.c (bv true)]) := by
 have hwk := S_WorldOk (newWorld l n seed) (Zl hg hl hn hs)
 rw [newWorld_ok hl hn hs] at hwk
 have hcl := X6 l hg hL
 refine Con.of Tryz.func85 J Tryz.ntmps85 J (fun E => ?_)
 refine zy (Un (Gf J) J (Un (Gh J J) J (z1 J (zz (zy (Gw J J ?_))))));refine Un (Z3 J J (hcl) J J J) J ?_;refine z0 J (zx (Zz J J J J J) J (Un (Gh J J) J ?_));refine G1 J J (zz (Qd (zy (z1 J (zz (Qk ?_))))))
 refine AWP.pre (st' := (⟨_,[(1,I n),(3,.o (.c (.ptr 0 0))),(6,.o (.c (.ptr 1 0))),(8,.o (.c (.ptr 3 0))),(9,I 0)],[.box ((Enc.e l).map (V1.rd [])),.box [nilV,jn 0,jn 0,nilV,nilV],.row 1 (els l.Rows),.box [.ref 2,jn 0,jn seed,nilV,nilV]]⟩ : St)) ?_ (Uf [0,1,2,3])
 refine AWP.pre ?_ (Wk.nilbox (p := 3) (i := 3) 1 J J)
 refine AWP.pre ?_ (Wk.nilbox (p := 3) (i := 4) 9 J J)
 refine Xi (fun m st => ∃ k : Nat,k + m = n ∧ (True) ∧ st = (⟨_,[(1,I n),(3,.o (.c (.ptr 0 0))),(6,.o (.c (.ptr 1 0))),(8,.o (.c (.ptr 3 0))),(9,I k)],[.box ((Enc.e l).map (V1.rd [])),.box [nilV,jn 0,jn 0,nilV,nilV],.row 1 (els l.Rows),.box [.ref 2,jn 0,jn seed,.ref 4,.ref 5],.row 1 (els (List.replicate k (0 : Int))),.row 9 (els (freshs l k))]⟩ : St)) (n) ⟨_,⟨0,by omega,trivial,J⟩,Uf [0,1,2,3,4,5]⟩ ?_
 rintro m_A _ ⟨k,hk_A,hp_A,rfl⟩
 have hlk := Yx (freshs l k)
 have hlk2 := freshs_len l k
 have hl0 : (els (List.replicate k (0 : Int))).length = k := by rw [Yx,List.length_replicate]
 have f2 : decide ((k : Int) ≤ 4) = true := decide_eq_true (by omega)
 by_cases h3 : k < n
 ·have f1 : decide ((k : Int) < n) = true := decide_eq_true (by omega)
  have hf := S_fresh l k hg hl (by omega)
  refine Qd (zy (z0 J (z0 J (U1 J (z0 J (z5 J (z0 J (z5 J (z9b J (by assumption) (zpT J ?_))))))))));refine zz (Qm J (Qh (Q0 (Qd (Qk (zy (Gg J J (z3 J (Un (Uo J J) J ?_)))))))));refine Xx J J J J J J J J J J (by omega) (by omega) ?_;refine Gg J J ?_;refine Gl J (zz ?_)
  refine AWP.pre (st' := (⟨_,[(1,I n),(3,.o (.c (.ptr 0 0))),(6,.o (.c (.ptr 1 0))),(8,.o (.c (.ptr 3 0))),(9,I k)],[.box ((Enc.e l).map (V1.rd [])),.box [nilV,jn 0,jn 0,nilV,nilV],.row 1 (els l.Rows),.box [.ref 2,jn 0,jn seed,.ref 4,.ref 5],.row 1 (els (List.replicate (k + 1) (0 : Int))),.row 9 (els (freshs l k))]⟩ : St)) ?_ (Yb [0,1,2,3,4,5] (by decide) J ((row65 (reps_succ k).symm)) (.c J (.c J (.c J (.c J (.c J (.nil)))))))
  refine Xh u8_10 [[],[28],[],[],[30,31],[30,31,32],[28,29,30,31,32,33],[28,29,30,31,32,33,34],[28,29,30,31,32,33,34,35]] [[30,31,32,33],[30,31,32,33],[28,29,31],[28,29,30],[28,29],[28,29],[],[],[]] J (Ve (Vq J J) J (Ve (Vr J) J (Ve (Vs J J) J (Ve (Vo J) J ?_))));refine Ve (Z3 J J (hf) J J J) J ?_;refine Ve (Uo J J) J (Vd ?_);refine AL.weak (st' := (⟨_,[(1,I n),(3,.o (.c (.ptr 0 0))),(6,.o (.c (.ptr 1 0))),(8,.o (.c (.ptr 3 0))),(9,I k),(29,.o (.c (.ref 5))),(33,.o (.c (.sb 6 1 9)))],[.box ((Enc.e l).map (V1.rd [])),.box [nilV,jn 0,jn 0,nilV,nilV],.row 1 (els l.Rows),.box [.ref 2,jn 0,jn seed,.ref 4,.ref 5],.row 1 (els (List.replicate (k + 1) (0 : Int))),.row 9 (els (freshs l k)),.box [jn 0,jn (k : Int),jn (spX (startT l k)),jn (spY (startT l k)),jn 0,jn 0,jn 1,jn 3,jn 0]]⟩ : St)) (Uf [0,1,2,3,4,5,6]) ?_;refine Xw J J J J J J J J J J J J J J (by omega) (by omega) ?_;refine Gg J J ?_;refine Gl J (Qe (Q1 (Q0 (Qc (z0 J (Uh J (z1 J (zz ?_))))))))
  exact ⟨n - (k + 1),by omega,(fun k : Nat => (⟨_,[(1,I n),(3,.o (.c (.ptr 0 0))),(6,.o (.c (.ptr 1 0))),(8,.o (.c (.ptr 3 0))),(9,I k)],[.box ((Enc.e l).map (V1.rd [])),.box [nilV,jn 0,jn 0,nilV,nilV],.row 1 (els l.Rows),.box [.ref 2,jn 0,jn seed,.ref 4,.ref 5],.row 1 (els (List.replicate k (0 : Int))),.row 9 (els (freshs l k))]⟩ : St)) (k + 1),⟨k + 1,by omega,trivial,J⟩,Yb [0,1,2,3,4,5] (by decide) J (row6w (by rw [freshs_succ]; simp [els]; rfl)) (.c J (.c J (.c J (.c J (.c J (.nil))))))⟩
 have f1 : decide ((k : Int) < n) = false := decide_eq_false (by omega)
 have h3 : k = n := by omega
 subst h3
 refine Qd (zy (z0 J (z0 J (U1 J (z0 J (z6 J (z6 J (zpF J (zz ?_)))))))));refine Ql J (Q9 (T_x (T_x (Xk (Q0 (Qd (zy (Gw J J ?_))))))));refine zx (Qj J J (hwk) J) J ?_;refine zn J (zz (Ql J (Qh (Q0 (zy (Gw J J ?_))))));refine G1 J J (z1 J (zz (Xa (F_r ?_))))
 exact G7 J J (Ue [2,4,5] J J J)
end
end Go.Proofs.YtcjclaoogdblbaaGreat
