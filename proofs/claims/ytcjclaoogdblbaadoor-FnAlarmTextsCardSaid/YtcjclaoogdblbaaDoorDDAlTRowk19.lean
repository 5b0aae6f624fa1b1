/-
  Parts of the proof (rules, data, and what functions of the program and of the reference return), among them: The laws' comparison of lists of texts (sameTexts); The law FnAlarmTexts returns true.
  Conditions: those that each theorem names.
-/
import Derived.Test.YtcjclaoogdblbaaDoorDDAlTRowk7
import Derived.Test.YtcjclaoogdblbaaDoorDDAlTRowk12
import Derived.Test.YtcjclaoogdblbaaDoorDDAlTRowk14
import Derived.Test.YtcjclaoogdblbaaDoorDDAlTRowk16
import Derived.Test.YtcjclaoogdblbaaDoorDDAlTRowk17
import Derived.Test.YtcjclaoogdblbaaDoorDDAlTRowk18
set_option linter.unusedSimpArgs false
set_option linter.unusedVariables false
set_option maxRecDepth 8000
set_option maxHeartbeats 8000000
namespace Go.Proofs.YtcjclaoogdblbaaDoor
section
open Go.RowKit

theorem str_cells {w : World} {G : Nat → Prop} {xs : List ByteArray} {v : Value} (h : RO w G (sl xs) v) : (xs = [] ∧ ∃ A c,v = .slice A 0 c) ∨ ∃ b o c,v = .slice (some ⟨b,o,none⟩) xs.length c ∧ b < w.heap.size ∧ xs.length ≤ c ∧ ∀ (j : Nat) x,xs[j]? = some x → w.cell? ⟨b,o + j,none⟩ = some (.string x) := by
 have hl := Xe xs
 obtain ⟨A,c,hv,hc,hm⟩ := RO.form h
 rw [hl] at hv hc
 cases xs with
 | nil => exact .inl ⟨rfl,A,c,hv⟩
 | cons x xs =>
  refine .inr ?_
  obtain ⟨b,o,c',hv',_,hp,hk,hcell⟩ := RO.at_ h (i := 0) (e := Enc.e x) rfl
  rw [hv] at hv'
  simp only [Value.slice.injEq] at hv'
  obtain ⟨hA,_,rfl⟩ := hv'
  obtain ⟨u,hu,_⟩ := hcell 0 (.v (.string x)) rfl
  refine ⟨b,o,c,by rw [hv,hA],World.block_lt_of_cell? w _ hu,hc,fun j y hj => ?_⟩
  have hje : (els (x :: xs))[j]? = some (Enc.e y) := by simp only [els,List.getElem?_map,hj,Option.map_some]
  obtain ⟨b2,o2,c2,hv2,_,_,_,hcell2⟩ := RO.at_ h hje
  rw [hv] at hv2
  simp only [Value.slice.injEq] at hv2
  obtain ⟨hA2,_,_⟩ := hv2
  rw [hA] at hA2
  simp only [Option.some.injEq,Addr.mk.injEq] at hA2
  obtain ⟨rfl,rfl,_⟩ := hA2
  obtain ⟨u2,hu2,hr2⟩ := hcell2 0 (.v (.string y)) rfl
  obtain ⟨rfl,_⟩ := RO.plain hr2
  have hk1 : (Enc.k ByteArray) = 1 := rfl
  rw [hk1] at hu2
  simpa using hu2
def joinB (xs : List ByteArray) (sep : ByteArray) : ByteArray := ⟨(Lib.join (xs.map (·.data.toList)) sep.data.toList).toArray⟩
theorem I_Join (xs : List ByteArray) (sep : ByteArray) (h1 : xs.length ≤ 140737488355328) (h2 : (Lib.join (xs.map (·.data.toList)) sep.data.toList).length ≤ 140737488355328) : Con Tryd.prog 34 [] [al xs,astr sep] [] (S (joinB xs sep)) := by
 refine Con.kit J fun w H F vs hok hnil hlen hargs => ?_
 match vs,hlen with
 | [v,u],_ =>
  have h3 := hargs 0 _ v J J
  have h4 := hargs 1 _ u J J
  obtain ⟨rfl,_⟩ : u = .string sep ∧ _ := RO.plain h4
  rcases str_cells h3 with ⟨rfl,A,c,rfl⟩ | ⟨b,o,c,rfl,hb,hc,hcell⟩
  ·exact (Tryd.strings_Join_none A c sep w).mono fun e w' ⟨he,hw⟩ => ⟨he,hw ▸ Below.refl _ _⟩
  ·exact Tryd.strings_Join b o c xs sep w hcell hb h1 hc h2
def joinG (xs : List ByteArray) (sep : ByteArray) : Nat → ByteArray
 | 0 => ⟨#[]⟩
 | k + 1 => (if 0 < k then joinG xs sep k ++ sep else joinG xs sep k) ++ (xs.getD k ⟨#[]⟩)
theorem joinG_list (xs : List ByteArray) (sep : ByteArray) : ∀ k,k ≤ xs.length → (joinG xs sep k).data.toList = Lib.join ((xs.map (·.data.toList)).take k) sep.data.toList
 | 0,_ => rfl
 | k + 1,h => by
  have ih := joinG_list xs sep k (by omega)
  have hk : k < xs.length := by omega
  have hx : (xs.map (·.data.toList))[k]? = some xs[k].data.toList := by rw [List.getElem?_map,List.getElem?_eq_getElem hk]; rfl
  have hd : xs.getD k ⟨#[]⟩ = xs[k] := by simp [List.getD_eq_getElem?_getD,hk]
  cases k with
  | zero =>
   rw [joinG,if_neg (by omega),hd,ByteArray.data_append,Array.toList_append,ih,List.take_add_one,hx]
   simp [Lib.join,List.intercalate]
  | succ j =>
   obtain ⟨x,r,hr⟩ : ∃ x r,xs.map (·.data.toList) = x :: r := by
    cases hm : xs.map (·.data.toList) with
    | nil => rw [hm] at hx; simp at hx
    | cons x r => exact ⟨x,r,rfl⟩
   rw [hr] at ih hx ⊢
   rw [joinG,if_pos (by omega),hd,ByteArray.data_append,Array.toList_append,ByteArray.data_append,Array.toList_append,ih,List.take_succ_cons,Lib.join_cons,List.take_succ_cons,Lib.join_cons,Lib.joinTail_take_succ sep.data.toList r j xs[j + 1].data.toList (by simpa using hx)]
   simp [List.append_assoc]
theorem joinG_all (xs : List ByteArray) (sep : ByteArray) : joinG xs sep xs.length = joinB xs sep := by
 have h := joinG_list xs sep xs.length (Nat.le_refl _)
 rw [List.take_of_length_le (by simp)] at h
 rw [joinB,← h]
theorem joinG_size (xs : List ByteArray) (sep : ByteArray) : ∀ k,k ≤ xs.length → (joinG xs sep k).size ≤ wts (xs.take k) + sep.size * k
 | 0,_ => by show (0 : Nat) ≤ _; omega
 | k + 1,h => by
  have ih := joinG_size xs sep k (by omega)
  have hw := wts_take xs k (by omega)
  have hd : xs.getD k ⟨#[]⟩ = xs[k]'(by omega) := by simp [List.getD_eq_getElem?_getD,show k < xs.length by omega]
  have hws : Enc.wt (xs[k]'(by omega)) = (xs[k]'(by omega)).size := rfl
  rw [joinG,Xd,hd,hw,hws,Nat.mul_succ]
  split
  ·rw [Xd]; omega
  ·omega
theorem joinB_size (xs : List ByteArray) (sep : ByteArray) : (joinB xs sep).size ≤ wts xs + sep.size * xs.length := by
 have h := joinG_size xs sep xs.length (Nat.le_refl _)
 rw [joinG_all,List.take_of_length_le (Nat.le_refl _)] at h
 exact h
theorem joinB_len (xs : List ByteArray) (sep : ByteArray) : (Lib.join (xs.map (·.data.toList)) sep.data.toList).length = (joinB xs sep).size := by simp [joinB,ByteArray.size]
end
section
open Go.RowKit

section
variable {P : Program} {E : Env} {l : List Oper} {Q : Exit → St → Prop} {st : St} {a : Act} {w : World}
structure DAL (P : Program) (E : Env) (l : List Oper) (Q : Exit → St → Prop) (f : Nat) (listed : Array Bool) (st : St) : Prop where
 h : ∀ a w,Rel E st a w → wpAny P .any l.toArray (fun e a' w' => ∃ st',Q e st' ∧ Rel E st' a' w') f listed a w
theorem wpop_of {K : St → Prop} {K' : Act → World → Prop} {i : Nat} {o : Oper} (h : wpList P l.toArray (fun e a' w' => ∃ st',thn K Q e st' ∧ Rel E st' a' w') [o] a w) (hi : l[i]? = some o) (hK : ∀ st a' w',K st → Rel E st a' w' → K' a' w') :
  wpOp P l.toArray (fun e a' w' => ∃ st',Q e st' ∧ Rel E st' a' w') i K' a w := by
 have hoi : l.toArray[i]? = some o := by simpa using hi
 unfold wpOp
 simp only [hoi]
 have hn : ∀ a' w',wpList P l.toArray (fun e a' w' => ∃ st',thn K Q e st' ∧ Rel E st' a' w') [] a' w' → K' a' w' := fun a' w' h' => by
  obtain ⟨st',h1,h2⟩ := h'
  exact hK st' a' w' h1.h h2
 unfold wpList at h
 split
 ·rename_i hw
  rw [if_pos hw] at h
  rcases h with h | ⟨h,a1,w1,st1,h1,h2⟩
  ·left
   unfold Oper.wp at h ⊢
   generalize (execOp a.eval o).run P w = r at h ⊢
   cases r with
   | ok n w' =>
    cases n <;> simp only [Oper.upon] at h ⊢ <;>
     first
      | exact hn _ _ h
      | exact Calls.mono h (fun e w'' he => by
        cases e
        ·exact hn _ _ he
        ·obtain ⟨st',h1,h2⟩ := he; exact ⟨st',h1.h,h2⟩
        ·obtain ⟨a1,w1,st',h1,h2⟩ := he; exact ⟨a1,w1,st',h1.h,h2⟩)
      | exact Rows.mono h (fun _ _ he => hn _ _ he)
   | halt x w' =>
    cases x <;> simp only [Oper.upon] at h ⊢ <;>
     first
      | exact h
      | (obtain ⟨st',h1,h2⟩ := h; exact ⟨st',h1.h,h2⟩)
      | (obtain ⟨a1,w1,st',h1,h2⟩ := h; exact ⟨a1,w1,st',h1.h,h2⟩)
  ·exact .inr ⟨h,a1,w1,st1,h1.h,h2⟩
 ·rename_i hw
  rw [if_neg hw] at h
  exact hn _ _ h
theorem DAL.nil {listed : Array Bool} (hr : Region.ready .any l.toArray listed = []) (h : Q .normal st) : DAL P E l Q 0 listed st := ⟨fun a w hR => ⟨hr,st,h,hR⟩⟩
theorem DAL.weak {f : Nat} {listed : Array Bool} {st' : St} (hw : Wk st st') (h : DAL P E l Q f listed st') : DAL P E l Q f listed st := ⟨fun a w hr => h.h a w (hr.weak hw)⟩
theorem DAL.one {f : Nat} {listed : Array Bool} (i : Nat) {o : Oper} (hr : Region.ready .any l.toArray listed = [i]) (ho : l[i]? = some o) (h : AL P E l.toArray (thn (DAL P E l Q f (listed.setIfInBounds i true)) Q) [o] st) : DAL P E l Q (f + 1) listed st :=
 ⟨fun a w hR => ⟨fun e => (List.cons_ne_nil _ _ (hr.symm.trans e)).elim,fun j hj => by
  rw [hr,List.mem_singleton] at hj
  subst hj
  exact wpop_of (h.h a w hR) ho fun st' a' w' h1 h2 => h1.h a' w' h2⟩⟩
theorem DAL.two {f : Nat} {listed : Array Bool} (i k : Nat) {o p : Oper} (hr : Region.ready .any l.toArray listed = [i,k]) (ho : l[i]? = some o) (hp : l[k]? = some p) (h : AL P E l.toArray (thn (DAL P E l Q f (listed.setIfInBounds i true)) Q) [o] st) (h2 : AL P E l.toArray (thn (DAL P E l Q f (listed.setIfInBounds k true)) Q) [p] st) : DAL P E l Q (f + 1) listed st :=
 ⟨fun a w hR => ⟨fun e => (List.cons_ne_nil _ _ (hr.symm.trans e)).elim,fun j hj => by
  rw [hr] at hj
  simp only [List.mem_cons,List.not_mem_nil,or_false] at hj
  rcases hj with rfl | rfl
  ·exact wpop_of (h.h a w hR) ho fun st' a' w' h1 h2 => h1.h a' w' h2
  ·exact wpop_of (h2.h a w hR) hp fun st' a' w' h1 h2 => h1.h a' w' h2⟩⟩
def src2 : Op → Option Nat
 | .fieldAddr _ (.tmp t) _ => some t
 | o => srcO o
theorem src2_exec {o : Oper} {t : Nat} (h : src2 o.op = some t) : ∀ r r' : Operand → Value,r (.tmp t) = r' (.tmp t) → execOp r o = execOp r' o := fun r r' e => by
 unfold src2 at h
 split at h
 ·rename_i ho
  cases h
  simp only [execOp,ho,e]
 ·exact srcO_exec h r r' e
def late2 (ops : List Oper) (A : List (List Nat)) (m : Nat) : Bool := match ops[m]? with
 | some o => match src2 o.op,o.dst with
  | some t,some d => o.guard.isNone && !Nat.beq t d && allB ops.length fun j => Nat.beq j m || match ops[j]? with
   | some oj => oj.guard.isNone && (oj.dst != some t || memN (A.getD m []) j) && oj.dst != some d && (memN (A.getD j []) m || blindO d oj.op)
   | none => true
  | _,_ => false
 | none => false
theorem late2_spec {A : List (List Nat)} {m : Nat} (h : late2 l A m = true) : ∃ o t d,l[m]? = some o ∧ src2 o.op = some t ∧ o.dst = some d ∧ o.guard = none ∧ t ≠ d ∧
  ∀ j oj,j ≠ m → l[j]? = some oj → oj.guard = none ∧ (oj.dst ≠ some t ∨ j ∈ A.getD m []) ∧ oj.dst ≠ some d ∧ (m ∈ A.getD j [] ∨ blindO d oj.op = true) := by
 unfold late2 at h
 split at h
 ·rename_i o hl
  split at h
  ·rename_i t d ho hd
   simp only [Bool.and_eq_true] at h
   obtain ⟨⟨h1,h3⟩,h4⟩ := h
   refine ⟨o,t,d,hl,ho,hd,by simpa using h1,fun e => ?_,fun j oj hj hoj => ?_⟩
   ·subst e
    rw [show Nat.beq t t = true from Nat.beq_refl t] at h3
    cases h3
   ·have h5 := Xa h4 (Xh hoj)
    rw [hoj,Bool.or_eq_true] at h5
    rcases h5 with h5 | h5
    ·exact absurd (Nat.eq_of_beq_eq_true h5) hj
    ·simp only [Bool.and_eq_true] at h5
     obtain ⟨⟨⟨h6,h7⟩,h8⟩,h9⟩ := h5
     refine ⟨by simpa using h6,?_,by simpa using h8,?_⟩
     ·rw [Bool.or_eq_true] at h7
      exact h7.imp (fun h => by simpa using h) (Xm _ _).1
     ·rw [Bool.or_eq_true] at h9
      exact h9.imp (Xm _ _).1 id
  ·cases h
 ·cases h
def cloB (l : List Oper) (listed : Array Bool) : Bool := allB l.length fun i => !listed.getD i false || (preAt l i).all fun k => listed.getD k false
def hoB (l : List Oper) (A S M : List (List Nat)) (m : Nat) (listed : Array Bool) : Bool :=
 drawB l A S M l.length && late2 l A m && cloB l listed && !listed.getD m false && ((preAt l m).all fun k => listed.getD k false) && Nat.beq listed.size l.length
theorem DAL.hoist [hnp : NP Q] {f : Nat} {listed : Array Bool} {A S M : List (List Nat)} {m t d : Nat} {n : Nat} {ts : List (Nat × V)} {obs : List Ob} {o : Oper} {x : V} (hc : hoB l A S M m listed = true) (ho : l[m]? = some o) (hs : src2 o.op = some t) (hdd : o.dst = some d) (hd : Nat.blt d n = true)
  (hx : ∀ a w H F,R0 w H F ⟨n,ts,obs⟩ a → ∃ u,(∀ w2,(execOp a.eval o).run P w2 = .ok (.value u) w2) ∧ RV w H F x u)
  (h : DAL P E l Q f (listed.setIfInBounds m true) ⟨n,(d,x) :: ts,obs⟩) : DAL P E l Q (f + 1) listed ⟨n,ts,obs⟩ := by
 unfold hoB at hc
 simp only [Bool.and_eq_true] at hc
 obtain ⟨⟨⟨⟨⟨c1,c2⟩,c3⟩,c4⟩,c5⟩,c6⟩ := hc
 have hk := drawB_spec c1
 obtain ⟨o',t0,d0,l1,l2,l3,l4,l5,l6⟩ := late2_spec c2
 rw [ho] at l1
 cases l1
 rw [hs] at l2
 cases l2
 rw [hdd] at l3
 cases l3
 have hsz : listed.size = l.length := Nat.eq_of_beq_eq_true c6
 have hcl : Clo l listed := fun i hi k hkk => by
  have hi' : i < l.length := by
   rw [← hsz]
   unfold Lst at hi
   refine Nat.lt_of_not_le fun hge => ?_
   rw [Array.getD_eq_getD_getElem?,Array.getElem?_eq_none hge] at hi
   cases hi
  have h1 := Xa c3 hi'
  rw [show listed.getD i false = true from hi] at h1
  rw [Bool.not_true,Bool.false_or] at h1
  exact List.all_eq_true.1 h1 k hkk
 refine ⟨fun a w hR => ?_⟩
 obtain ⟨H,F,h1,h2⟩ := hR
 obtain ⟨u,hu,hv⟩ := hx a w H F h1
 refine Go.Proofs.YtcjclaoogdblbaaDoor.hoist hk ho (src2_exec hs) hdd l4 l6 (fun c a w ⟨st',hq,_⟩ => hnp.no c st' hq) f listed a w u hu hsz hcl (fun hh => ?_) (fun k hkk => List.all_eq_true.1 c5 k hkk) ?_
 ·rw [show listed.getD m false = true from hh] at c4
  cases c4
 ·refine h.h _ w ⟨H,F,?_,h2⟩
  exact h1.put (x := x) (some d) (by simpa [dstOk] using hd) hv
theorem DAL.fld [hnp : NP Q] {f : Nat} {listed : Array Bool} (A S M : List (List Nat)) (m t d : Nat) {n : Nat} {ts : List (Nat × V)} {obs : List Ob} {o : Oper} {ty : TypeId} {p q ff off sz : Nat} {pl : List (Nat × Nat)} [hpl : TyPl P ty pl] (hc : hoB l A S M m listed = true) (ho : l[m]? = some o) (hop : o.op = .fieldAddr ty (.tmp t) ff) (hdd : o.dst = some d) (hd : Nat.blt d n = true) (hy : look ts t = .o (.c (.ptr p q))) (hf : pl[ff]? = some (off,sz)) (hsz : sz ≠ 0) (h : DAL P E l Q f (listed.setIfInBounds m true) ⟨n,(d,.o (.c (.ptr p (q + off)))) :: ts,obs⟩) : DAL P E l Q (f + 1) listed ⟨n,ts,obs⟩ :=
 DAL.hoist hc ho (by rw [hop]; rfl) hdd hd (fun a w H F hR => by
  obtain ⟨g,tt,vs,e1,e2⟩ := hR.v1 (y := .tmp t) hy
  refine ⟨.pointer (some ⟨g,q + off,none⟩),fun w2 => ?_,g,tt,vs,e1,J⟩
  simp only [execOp,hop,e2,Sem.run_bind,run_fieldAt (P := P) (w := w2) ty g q ff hf hsz,Result.andThen_ok]
  rfl) h
theorem DAL.have_ {f0 : Nat} {l0 : Array Bool} {s0 : St} (f : Nat) (listed : Array Bool) (st : St) (h : DAL P E l Q f listed st) (k : DAL P E l Q f listed st → DAL P E l Q f0 l0 s0) : DAL P E l Q f0 l0 s0 := k h
theorem DAL.join {f : Nat} {listed listed' : Array Bool} {st' : St} (he : listed = listed') (hw : Wk st st') (h : DAL P E l Q f listed' st') : DAL P E l Q f listed st := by subst he; exact DAL.weak hw h
theorem Yy {f : Nat} {listed listed' : Array Bool} {st' : St} (hw : Wk st st') (h : DAL P E l Q f listed' st') (he : listed = listed' := by kernel_rfl) : DAL P E l Q f listed st := DAL.join he hw h
def ms (n m : Nat) : Array Bool := ((List.range n).map fun i => Nat.testBit m i).toArray
theorem A_seqW {x y : Code} {st : St} (st0 : St) (hx : AWP P E x (thn (fun st => Wk st st0) Q) st) (hy : AWP P E y Q st0) : AWP P E x (thn (AWP P E y Q) Q) st := AWP.mono (fun e st h => by
 have h1 := h.h
 refine ⟨?_⟩
 cases e with
 | normal => exact AWP.weak h1 hy
 | _ => exact h1) hx
theorem A_drawn {id : Nat} {f : Nat} (hm : P.follows .mixedOrders = true) (hf : f = l.length) (h : DAL P E l Q f (Array.replicate f false) st) : AWP P E (.region id l.toArray true) Q st := by
 refine ⟨fun a w ⟨H,F,hr,hsi⟩ => wp_region_any hm ?_⟩
 have hgr : Grow w H F { w with drawn := w.drawn + 1 } H F := ⟨(Below.refl _ _).drew,fun _ _ => rfl,fun _ h => h,fun _ h => .inl h,fun p hp b hb => by rw [hp] at hb; simp [Pc.fp] at hb,fun p i v h => ⟨p,h⟩⟩
 have hok : Ok { w with drawn := w.drawn + 1 } H F := ⟨fun p => Pc.frame (w := w) (fun _ _ => rfl) (hr.ok.says p),hr.ok.nodup,hr.ok.disj,hr.ok.free,hr.ok.flt⟩
 have hR : R0 { w with drawn := w.drawn + 1 } H F st a := ⟨hok,fun p => rb_grow hgr (fun h => h) (hr.obs p),fun d => hgr.rv (hr.tmp d),hr.size,hr.defers⟩
 have := h.h a { w with drawn := w.drawn + 1 } ⟨H,F,hR,hsi.grow hgr⟩
 subst hf
 simpa using this
end
end
section
open Go.RowKit

def comma : ByteArray := ⟨#[44]⟩
def colonB : ByteArray := ⟨#[58]⟩
def fmtAl (a : TAlarm) : ByteArray := itoaB a.Tick ++ colonB ++ joinB a.Parts comma
theorem itoaB_size {n : Int} (h : I64 n) : (itoaB n).size ≤ 21 := by
 obtain ⟨h1,h2⟩ := h
 rw [itoaB,Xc,Lib.itoa]
 split
 ·have := dec_len20 (m := n.natAbs) (by omega)
  simp only [List.length_cons]; omega
 ·have := dec_len20 (m := n.toNat) (by omega)
  omega
def fa1A : List (List Nat) := [[],[0],[0,1],[0,1,2],[],[4],[0,1,2,4,5],[0,1,2,3,4,5,6],[0,1,2,3,4,5,6,7]]
def fa1M : List (List Nat) := [[3,4,5,6,7,8,9,10,2],[3,4,5,6,7,8,9,10,2],[3,4,5,6,7,8,9,10,2],[3,4,5,6,7,8,9,10,2],[3,4,5,6,7,8,9,10,2],[3,4,5,6,7,8,9,10,2],[3,4,5,6,7,8,9,10,2],[3,4,5,6,7,8,9,10,2],[3,4,5,6,7,8,9,10,2]]
theorem I_FormatAlarmT (a : TAlarm) (hg : Enc.gd a) (hw : Enc.wt a ≤ 1048576) : ConP (TabW Tryd.prog) Tryd.prog 11 [ag a] [] (S (fmtAl a)) := by
 have hi := itoaB_size hg.1
 have hc := I_FormatIntT a.Tick hg.1
 have h0 : Enc.wt a = a.Parts.length + wts a.Parts := rfl
 have h1 := joinB_size a.Parts comma
 have h2 : comma.size = 1 := rfl
 have h3 : colonB.size = 1 := rfl
 rw [h2] at h1
 have hj := I_Join a.Parts comma (by omega) (by rw [joinB_len]; omega)
 have hs2 : (itoaB a.Tick ++ colonB).size = (itoaB a.Tick).size + 1 := by rw [Xd,h3]
 refine ConP.of Tryd.func11 J Tryd.ntmps11 J (fun E hE hT => ?_)
 refine zy (M1 (Qq J J J J) J J (z1 J (zz (Qd ?_))))
 refine A_seqW ⟨11,[(2,S (fmtAl a))],[.box ((Enc.e a).map (V1.rd []))]⟩ ?_ ?_
 ·
  refine A_drawn (f := 9) J J ?_
  refine DAL.have_ 0 (ms 9 511) ⟨11,[(1,.o (.c (.ptr 0 0))),(2,S (fmtAl a))],[.box ((Enc.e a).map (V1.rd []))]⟩ ?_ (fun hd0 => ?_)
  ·
   refine DAL.nil (by kernel_rfl) (Qz ?_)
   exact X9 [0]
  refine DAL.have_ 1 (ms 9 255) ⟨11,[(1,.o (.c (.ptr 0 0))),(3,.o (.c (.ptr 0 0))),(4,I a.Tick),(5,S (itoaB a.Tick)),(6,S (itoaB a.Tick ++ colonB)),(7,.o (.c (.ptr 0 1))),(8,L a.Parts),(9,S (joinB a.Parts comma)),(10,S (fmtAl a))],[.box ((Enc.e a).map (V1.rd []))]⟩ ?_ (fun hd1 => ?_)
  ·
   refine DAL.one 8 (by kernel_rfl) J (z1 J (zz ?_))
   exact Yy (X9 [0]) hd0
  refine DAL.have_ 2 (ms 9 127) ⟨11,[(1,.o (.c (.ptr 0 0))),(3,.o (.c (.ptr 0 0))),(4,I a.Tick),(5,S (itoaB a.Tick)),(6,S (itoaB a.Tick ++ colonB)),(7,.o (.c (.ptr 0 1))),(8,L a.Parts),(9,S (joinB a.Parts comma))],[.box ((Enc.e a).map (V1.rd []))]⟩ ?_ (fun hd2 => ?_)
  ·
   refine DAL.one 7 (by kernel_rfl) J (zx (q_cat J J J J (by omega)) J (zz ?_))
   exact Yy (X9 [0]) hd1
  refine DAL.have_ 3 (ms 9 119) ⟨11,[(1,.o (.c (.ptr 0 0))),(3,.o (.c (.ptr 0 0))),(4,I a.Tick),(5,S (itoaB a.Tick)),(7,.o (.c (.ptr 0 1))),(8,L a.Parts),(9,S (joinB a.Parts comma))],[.box ((Enc.e a).map (V1.rd []))]⟩ ?_ (fun hd3 => ?_)
  ·
   refine DAL.one 3 (by kernel_rfl) J ?_
   refine M0 (q_cat J J J J (by simp only [Xc,Xd,List.length_cons,List.length_nil,List.length_append]; omega)) J J ?_;refine zz ?_
   exact Yy (X9 [0]) hd2
  refine DAL.have_ 3 (ms 9 63) ⟨11,[(1,.o (.c (.ptr 0 0))),(3,.o (.c (.ptr 0 0))),(4,I a.Tick),(5,S (itoaB a.Tick)),(6,S (itoaB a.Tick ++ colonB)),(7,.o (.c (.ptr 0 1))),(8,L a.Parts)],[.box ((Enc.e a).map (V1.rd []))]⟩ ?_ (fun hd4 => ?_)
  ·
   refine DAL.one 6 (by kernel_rfl) J ?_;refine zx (Qj J J (hj) J) J ?_;refine zz ?_
   exact Yy (X9 [0]) hd2
  refine DAL.have_ 4 (ms 9 55) ⟨11,[(1,.o (.c (.ptr 0 0))),(3,.o (.c (.ptr 0 0))),(4,I a.Tick),(5,S (itoaB a.Tick)),(7,.o (.c (.ptr 0 1))),(8,L a.Parts)],[.box ((Enc.e a).map (V1.rd []))]⟩ ?_ (fun hd5 => ?_)
  ·
   refine DAL.two 3 6 (by kernel_rfl) J J ?_ ?_
   ·
    refine M0 (q_cat J J J J (by simp only [Xc,Xd,List.length_cons,List.length_nil,List.length_append]; omega)) J J ?_;refine zz ?_
    exact Yy (X9 [0]) hd4
   ·
    refine zx (Qj J J (hj) J) J ?_;refine zz ?_
    exact Yy (X9 [0]) hd3
  refine DAL.have_ 4 (ms 9 31) ⟨11,[(1,.o (.c (.ptr 0 0))),(3,.o (.c (.ptr 0 0))),(4,I a.Tick),(5,S (itoaB a.Tick)),(6,S (itoaB a.Tick ++ colonB)),(7,.o (.c (.ptr 0 1)))],[.box ((Enc.e a).map (V1.rd []))]⟩ ?_ (fun hd6 => ?_)
  ·
   refine DAL.one 5 (by kernel_rfl) J (z3 J (zz ?_))
   exact Yy (X9 [0]) hd4
  refine DAL.have_ 5 (ms 9 51) ⟨11,[(1,.o (.c (.ptr 0 0))),(3,.o (.c (.ptr 0 0))),(4,I a.Tick),(7,.o (.c (.ptr 0 1))),(8,L a.Parts)],[.box ((Enc.e a).map (V1.rd []))]⟩ ?_ (fun hd7 => ?_)
  ·
   refine DAL.one 2 (by kernel_rfl) J ?_;refine Q8 tab_kept hE hT (hc) J J J J J J J ?_;refine zz ?_
   exact Yy (X9 [0]) hd5
  refine DAL.have_ 5 (ms 9 23) ⟨11,[(1,.o (.c (.ptr 0 0))),(3,.o (.c (.ptr 0 0))),(4,I a.Tick),(5,S (itoaB a.Tick)),(7,.o (.c (.ptr 0 1)))],[.box ((Enc.e a).map (V1.rd []))]⟩ ?_ (fun hd8 => ?_)
  ·
   refine DAL.two 3 5 (by kernel_rfl) J J ?_ ?_
   ·
    refine M0 (q_cat J J J J (by simp only [Xc,Xd,List.length_cons,List.length_nil,List.length_append]; omega)) J J ?_;refine zz ?_
    exact Yy (X9 [0]) hd6
   ·
    refine z3 J (zz ?_)
    exact Yy (X9 [0]) hd5
  refine DAL.have_ 6 (ms 9 49) ⟨11,[(1,.o (.c (.ptr 0 0))),(3,.o (.c (.ptr 0 0))),(7,.o (.c (.ptr 0 1))),(8,L a.Parts)],[.box ((Enc.e a).map (V1.rd []))]⟩ ?_ (fun hd9 => ?_)
  ·
   refine DAL.one 1 (by kernel_rfl) J (z3 J (zz ?_))
   exact Yy (X9 [0]) hd7
  refine DAL.have_ 6 (ms 9 19) ⟨11,[(1,.o (.c (.ptr 0 0))),(3,.o (.c (.ptr 0 0))),(4,I a.Tick),(7,.o (.c (.ptr 0 1)))],[.box ((Enc.e a).map (V1.rd []))]⟩ ?_ (fun hd10 => ?_)
  ·
   refine DAL.two 2 5 (by kernel_rfl) J J ?_ ?_
   ·
    refine Q8 tab_kept hE hT (hc) J J J J J J J ?_;refine zz ?_
    exact Yy (X9 [0]) hd8
   ·
    refine z3 J (zz ?_)
    exact Yy (X9 [0]) hd7
  refine DAL.have_ 7 (ms 9 17) ⟨11,[(1,.o (.c (.ptr 0 0))),(3,.o (.c (.ptr 0 0))),(7,.o (.c (.ptr 0 1)))],[.box ((Enc.e a).map (V1.rd []))]⟩ ?_ (fun hd11 => ?_)
  ·
   refine DAL.two 1 5 (by kernel_rfl) J J ?_ ?_
   ·
    refine z3 J (zz ?_)
    exact Yy (X9 [0]) hd10
   ·
    refine z3 J (zz ?_)
    exact Yy (X9 [0]) hd9
  refine DAL.fld fa1A [] fa1M 0 _ 3 (by kernel_rfl) J J J J J J (by decide) ?_;refine DAL.fld fa1A [] fa1M 4 _ 7 (by kernel_rfl) J J J J J J (by decide) ?_
  exact Yy (X9 [0]) hd11
 refine Q6 (F_r ?_)
 exact E_tmp J J (Q9 [] (by decide) J J J)
end
section
open Go.RowKit

theorem byte_of {l : List UInt8} {j : Nat} {c : UInt8} (h : l[j]? = some c) : byteAt (bs l) j = (c.toNat : Int) := by
 have hj : j < (bs l).size := by rw [Xc]; exact (List.getElem?_eq_some_iff.1 h).1
 obtain ⟨b,h1,h2⟩ := byteAt_l hj
 rw [bs_list l,h] at h1
 cases h1
 exact h2
theorem valK_pre {l m : List UInt8} : ∀ k,k ≤ l.length → valK (bs (l ++ m)) k = valK (bs l) k
 | 0,_ => rfl
 | k + 1,h => by
  have hl : l[k]? = some l[k] := List.getElem?_eq_getElem (by omega)
  have h2 : (l ++ m)[k]? = some l[k] := by rw [List.getElem?_append_left (by omega)]; exact hl
  rw [valK,valK,valK_pre k (by omega),byte_of hl,byte_of h2]
theorem dec_step {n : Nat} (h : ¬ n < 10) : Lib.decDigits n = Lib.decDigits (n / 10) ++ [UInt8.ofNat (48 + n % 10)] := by rw [Lib.decDigits,dif_neg h]
theorem dig_nat {d : Nat} (h : d < 10) : (UInt8.ofNat (48 + d)).toNat = 48 + d := by
 rw [UInt8.toNat_ofNat',Nat.mod_eq_of_lt (by omega)]
theorem val_dec (n : Nat) : (∀ j,j < (fmtN n).size → digB (fmtN n) j) ∧ valK (fmtN n) (fmtN n).size = n := by
 induction n using Nat.strongRecOn with
 | ind n ih =>
  by_cases h : n < 10
  ·have e : fmtN n = bs [UInt8.ofNat (48 + n)] := by rw [fmtN,Lib.decDigits_one h]
   have hb : byteAt (bs [UInt8.ofNat (48 + n)]) 0 = ((48 + n : Nat) : Int) := by rw [byte_of (c := UInt8.ofNat (48 + n)) rfl,dig_nat h]
   rw [e,Xc]
   refine ⟨fun j hj => ?_,?_⟩
   ·have : j = 0 := by simp at hj; omega
    subst this
    exact ⟨by rw [hb]; omega,by rw [hb]; omega⟩
   ·show valK _ 1 = n
    rw [valK,valK,hb]; omega
  ·obtain ⟨h1,h2⟩ := ih (n / 10) (by omega)
   have e : fmtN n = bs (Lib.decDigits (n / 10) ++ [UInt8.ofNat (48 + n % 10)]) := by rw [fmtN,dec_step h]
   have e2 : (fmtN (n / 10)).size = (Lib.decDigits (n / 10)).length := Xc _
   rw [e2] at h1 h2
   have hb : byteAt (bs (Lib.decDigits (n / 10) ++ [UInt8.ofNat (48 + n % 10)])) (Lib.decDigits (n / 10)).length = ((48 + n % 10 : Nat) : Int) := by
    rw [byte_of (c := UInt8.ofNat (48 + n % 10)) (by rw [List.getElem?_append_right (Nat.le_refl _),Nat.sub_self]; rfl),dig_nat (by omega)]
   rw [e,Xc,List.length_append]
   refine ⟨fun j hj => ?_,?_⟩
   ·by_cases hj2 : j < (Lib.decDigits (n / 10)).length
    ·have hl : (Lib.decDigits (n / 10))[j]? = some (Lib.decDigits (n / 10))[j] := List.getElem?_eq_getElem hj2
     have h3 := h1 j hj2
     unfold digB at h3 ⊢
     rw [show fmtN (n / 10) = bs (Lib.decDigits (n / 10)) from rfl,byte_of hl] at h3
     rw [byte_of (c := (Lib.decDigits (n / 10))[j]) (by rw [List.getElem?_append_left hj2]; exact hl)]
     exact h3
    ·have : j = (Lib.decDigits (n / 10)).length := by simp at hj; omega
     subst this
     exact ⟨by rw [hb]; omega,by rw [hb]; omega⟩
   ·show valK _ ((Lib.decDigits (n / 10)).length + 1) = n
    rw [valK,valK_pre _ (Nat.le_refl _),hb,show valK (bs (Lib.decDigits (n / 10))) (Lib.decDigits (n / 10)).length = n / 10 from h2]
    omega
theorem dec_len3 {n : Nat} (h : n < 1000) : (Lib.decDigits n).length ≤ 3 := by
 rw [Lib.decDigits_length]
 by_cases h1 : n < 10
 ·rw [Lib.nDigits_small h1]; omega
 rw [Lib.nDigits_big h1]
 by_cases h2 : n / 10 < 10
 ·rw [Lib.nDigits_small h2]; omega
 rw [Lib.nDigits_big h2,Lib.nDigits_small (by omega)]; omega
theorem uint_fmt {n : Nat} (h : n < 1000) : uintB (fmtN n) = true ∧ uintN (fmtN n) = n := by
 obtain ⟨h1,h2⟩ := val_dec n
 have h3 := (fmt_val h1).1 (by rw [h2])
 have h4 : (fmtN n).size ≤ 3 := by have := dec_len3 h; rw [fmtN,Xc]; exact this
 have hp : UintP (fmtN n) := ⟨h3.1,by omega,h3.2,h1,by rw [h2]; omega⟩
 exact ⟨uint_T hp,by rw [uintN_T hp,h2]⟩
/-! ### Parts -/
theorem split_app : ∀ {x : List UInt8} {r : List UInt8},(∀ b ∈ x,b ≠ 44) → splitL (x ++ 44 :: r) = x :: splitL r
 | [],r,_ => by rw [List.nil_append,splitL,if_pos rfl]
 | b :: x,r,h => by
  rw [List.cons_append,splitL,if_neg (h b (by simp)),split_app (fun c hc => h c (by simp [hc]))]
  rfl
theorem split_end : ∀ {x : List UInt8},(∀ b ∈ x,b ≠ 44) → splitL x = [x]
 | [],_ => rfl
 | b :: x,h => by
  rw [splitL,if_neg (h b (by simp)),split_end (fun c hc => h c (by simp [hc]))]
  rfl
theorem split_join : ∀ (x : List UInt8) (r : List (List UInt8)),(∀ y ∈ x :: r,∀ b ∈ y,b ≠ 44) → splitL (Lib.join (x :: r) [44]) = x :: r
 | x,[],h => by rw [Lib.join_one]; exact split_end (h x (by simp))
 | x,y :: r,h => by
  have ih := split_join y r (fun z hz => h z (by simp only [List.mem_cons] at hz ⊢; exact .inr hz))
  have e : Lib.join (x :: y :: r) [44] = x ++ 44 :: Lib.join (y :: r) [44] := by
   rw [Lib.join_cons,Lib.join_cons]
   simp [Lib.joinTail]
  rw [e,split_app (h x (by simp)),ih]
theorem parts_back {ps : List ByteArray} (h : ∀ p ∈ ps,p.size ≠ 0 ∧ ∀ b ∈ p.data.toList,b ≠ 44) : partsL (joinB ps comma) = ps := by
 cases ps with
 | nil => rfl
 | cons p ps =>
  have hs := split_join p.data.toList (ps.map (·.data.toList)) (fun y hy b hb => by
   rcases List.mem_cons.1 hy with rfl | hy
   ·exact (h p (by simp)).2 b hb
   ·obtain ⟨q,hq,rfl⟩ := List.mem_map.1 hy
    exact (h q (by simp [hq])).2 b hb)
  have hj : (joinB (p :: ps) comma).data.toList = Lib.join (p.data.toList :: ps.map (·.data.toList)) [44] := by simp [joinB]; rfl
  have hsz : ¬ (joinB (p :: ps) comma).size = 0 := by
   intro e
   have h1 : (joinB (p :: ps) comma).data.toList.length = 0 := by rw [← Lib.size_eq]; exact e
   rw [hj,Lib.join_cons,List.length_append] at h1
   have h2 := (h p (by simp)).1
   rw [Lib.size_eq] at h2
   omega
  rw [partsL,if_neg hsz,hj,hs,List.map_cons,List.map_map,bs_lst]
  have : (bs ∘ fun x : ByteArray => x.data.toList) = id := funext fun x => bs_lst x
  rw [this,List.map_id]
theorem alarm_back {n : Nat} {ps : List ByteArray} (hn : n < 1000) (h : ∀ p ∈ ps,p.size ≠ 0 ∧ ∀ b ∈ p.data.toList,b ≠ 44) : parsed (fmtAl ⟨n,ps⟩) = ⟨n,ps⟩ ∧ parsedB (fmtAl ⟨n,ps⟩) = true := by
 obtain ⟨d1,d2⟩ := val_dec n
 have hl : (fmtAl ⟨n,ps⟩).data.toList = Lib.decDigits n ++ 58 :: (joinB ps comma).data.toList := by
  rw [fmtAl,itoaB,Lib.itoa_nonneg,ByteArray.data_append,Array.toList_append,ByteArray.data_append,Array.toList_append,bs_list]
  simp [colonB]
 have hcol : colAt (fmtAl ⟨n,ps⟩) = ((Lib.decDigits n).length : Int) := by
  unfold colAt
  rw [hl]
  refine ix_hit (by rw [List.getElem?_append_right (Nat.le_refl _),Nat.sub_self]; rfl) fun j hj => ?_
  rw [List.getElem?_append_left hj,List.getElem?_eq_getElem hj]
  intro e
  have e2 : (Lib.decDigits n)[j]? = some 58 := by rw [List.getElem?_eq_getElem hj]; exact e
  have hd := d1 j (by rw [fmtN,Xc]; exact hj)
  unfold digB at hd
  rw [show fmtN n = bs (Lib.decDigits n) from rfl,byte_of e2] at hd
  have : ((58 : UInt8).toNat : Int) = 58 := rfl
  omega
 have hh : headB (fmtAl ⟨n,ps⟩) = fmtN n := by
  rw [headB,hcol,hl,Int.toNat_natCast,List.take_left']
  rfl
  rfl
 have hr : restB (fmtAl ⟨n,ps⟩) = joinB ps comma := by
  rw [restB,hcol,hl,Int.toNat_natCast,← List.drop_drop,List.drop_left' rfl]
  exact bs_lst _
 obtain ⟨u1,u2⟩ := uint_fmt hn
 obtain ⟨p1,p2⟩ := parsed_yes (s := fmtAl ⟨n,ps⟩) (by rw [hcol]; omega) (by rw [hh]; exact u1)
 rw [hh,hr,u2,parts_back h] at p1
 exact ⟨p1,p2⟩
end
section
open Go.RowKit

instance : Enc UInt8 := ⟨1,by omega,fun b => [.v (.int .u8 (b.toNat : Int))],fun _ => rfl,fun _ => True,fun _ => 0⟩
theorem byte_at {b : List UInt8} {i : Nat} {y : UInt8} (h : b[i]? = some y) : (els b)[(i : Int).toNat]? = some (Enc.e y) := by
 rw [Int.toNat_natCast,List.getElem?_map,h]
 rfl
theorem L_big (b : List UInt8) : Con Tryd.prog 17 [] [al b] [] (B (decide (b.length > 1048576))) := by
 have hl := Xe b
 refine Con.of Tryd.func17 J Tryd.ntmps17 J (fun E => ?_)
 refine zy (z1 J (zz (zy (z0 J (zx (q_len J J J) J (zx (q_gtr J J J J) J (z1 J (Qe ?_))))))));refine Qz (Q6 (F_r ?_))
 exact E_tmp J J (Q9 [] (by decide) J J (B_eq (by rw [hl]; exact decide_eq_decide.2 (by omega))))
def atM (b : List UInt8) (i : Int) : Int := if b.length = 0 then 0 else ((b.getD ((i * 5 + 1) % (b.length : Int)).toNat 0).toNat : Int)
theorem atM_rng (b : List UInt8) (i : Int) : 0 ≤ atM b i ∧ atM b i ≤ 255 := by
 unfold atM
 split
 ·omega
 ·have := (b.getD ((i * 5 + 1) % (b.length : Int)).toNat 0).toNat_lt; omega
theorem L_at (b : List UInt8) (i : Int) (hi : 0 ≤ i ∧ i ≤ 1000000) (hb : b.length ≤ 1048576) : Con Tryd.prog 18 [] [al b,ai i] [] (I (atM b i)) := by
 have hl := Xe b
 by_cases h0 : b.length = 0
 ·have f0 : decide (((els b).length : Int) = 0) = true := decide_eq_true (by omega)
  rw [atM,if_pos h0]
  refine Con.of Tryd.func18 J Tryd.ntmps18 J (fun E => ?_)
  refine zy (z1 J (zz (Qd (zy (z0 J (zx (q_len J J J) J (z9e J (by assumption) (Qe ?_))))))));refine Qz (Qm J (zy (z1 J (zz (Q6 (T_r (F_r ?_)))))))
  exact E_tmp J J (Q9 [] (by decide) J J J)
 ·have f0 : decide (((els b).length : Int) = 0) = false := decide_eq_false (by omega)
  have hm : 0 ≤ (i * 5 + 1) % ((els b).length : Int) ∧ (i * 5 + 1) % ((els b).length : Int) < ((els b).length : Int) := ⟨Int.emod_nonneg _ (by omega),Int.emod_lt_of_pos _ (by omega)⟩
  rw [atM,if_neg h0]
  rw [hl] at hm
  have hk : ((i * 5 + 1) % (b.length : Int)).toNat < b.length := by omega
  have hy : b[((i * 5 + 1) % (b.length : Int)).toNat]? = some (b.getD ((i * 5 + 1) % (b.length : Int)).toNat 0) := by rw [List.getD_eq_getElem?_getD,List.getElem?_eq_getElem hk]; rfl
  have he := byte_at hy
  rw [Int.toNat_natCast,← hl] at he
  rw [← hl] at hm ⊢
  generalize b.getD ((i * 5 + 1) % ((els b).length : Int)).toNat 0 = y at he ⊢
  have hy1 : (y.toNat : Int) ≤ 255 := by have := y.toNat_lt; omega
  have hy0 : 0 ≤ (y.toNat : Int) := by omega
  refine Con.of Tryd.func18 J Tryd.ntmps18 J (fun E => ?_)
  refine zy (z1 J (zz (Qd (zy (z0 J (zx (q_len J J J) J (z9e J (by assumption) (Qe ?_))))))));refine Qz (Ql J (Qh (Qz (zy (z0 J (z0 J (zx (q_mul J J J J (by omega)) J (z7 J (by omega) (z0 J (zx (q_len J J J) J ?_))))))))));refine zx (q_rem J J J J (by omega)) J (zx (Q1 J J J J (by omega) (by assumption) J) J (zx (q_lr1 J J J J) J (zx (q_convI J J J J (wrap_i64 (by omega))) J (z1 J (zz (Q6 (F_r ?_)))))))
  exact E_tmp J J (Q9 [] (by decide) J J J)
end
section
open Go.RowKit
end
section
open Go.RowKit

theorem L_sameTexts (xs ys : List ByteArray) (hn : Enc.gd xs) : Con Tryd.prog 19 [] [al xs,al ys] [] (B (decide (xs = ys))) := by
 have hn1 := hn.1
 have hlx := Xe xs
 have hly := Xe ys
 by_cases hl : xs.length = ys.length
 ·have hb : decide (((els xs).length : Int) ≠ ((els ys).length : Int)) = false := by rw [hlx,hly,hl]; simp
  refine Con.of Tryd.func19 J Tryd.ntmps19 J (fun E => ?_)
  refine zy (z1 J (zz (Qd (zy (z0 J (zx (q_len J J J) J (z0 J (zx (q_len J J J) J ?_))))))));refine z9f J (by assumption) (zz (Ql J (Qh (Qz (Qd (zy (z1 J (zz ?_))))))));refine Qk ?_;refine A_lq (fun m st => ∃ k : Nat,k + m = xs.length ∧ (xs.take k = ys.take k) ∧ st = (⟨_,[(0,L xs),(1,L ys),(5,I k)],[]⟩ : St)) (xs.length) ⟨_,⟨0,by omega,by simp,J⟩,X9 []⟩ ?_
  rintro m_A _ ⟨k,hk_A,hp_A,rfl⟩
  refine Qd (zy (z0 J (z0 J (zx (q_len J J J) J (zx (q_lss J J J J) J (zz ?_))))))
  refine Q7 J (fun h => ?_) (fun h => ?_)
  ·have h3 : k < xs.length := by have := of_decide_eq_true h; omega
   have h4 : k < ys.length := by omega
   have hat := els_at h3
   have hat2 := els_at h4
   by_cases he : xs[k] = ys[k]
   ·have hk : decide (xs[k] ≠ ys[k]) = false := by simp [he]
    refine Qh (Qz (Qd (Qk (Qd (A_draw u8_0 u8_1 u8_2 J (Xs (Qa J J J) J (Xs (Qa J J J) J (Xs (Q1 J J J J (by omega) (by assumption) J) J (Xs (q_lr1 J J J J) J (Xs (Qa J J J) J (Xs (Qa J J J) J ?_)))))))))));refine Xs (Q1 J J J J (by omega) (by assumption) J) J (Xs (q_lr1 J J J J) J (Xs (q_sneqK J J J J (by assumption)) J (Xr (zz (Ql J (Qh (Q0 (Qz (Qc (z0 J ?_))))))))));refine z7 J (by omega) (z1 J (zz ?_))
    exact ⟨xs.length - (k + 1),by omega,_,⟨k + 1,by omega,eq_next h3 h4 hp_A he,J⟩,X9 []⟩
   ·have hk : decide (xs[k] ≠ ys[k]) = true := by simp [he]
    refine Qh (Qz (Qd (Qk (Qd (A_draw u8_0 u8_1 u8_2 J (Xs (Qa J J J) J (Xs (Qa J J J) J (Xs (Q1 J J J J (by omega) (by assumption) J) J (Xs (q_lr1 J J J J) J (Xs (Qa J J J) J (Xs (Qa J J J) J ?_)))))))))));refine Xs (Q1 J J J J (by omega) (by assumption) J) J (Xs (q_lr1 J J J J) J (Xs (q_sneqK J J J J (by assumption)) J (Xr (zz (Qm J (zy (z1 J (zz ?_))))))));refine Q6 (B_r (T_r (T_r (B_r (T_r (F_r ?_))))))
    exact E_tmp J J (Q9 [] (by decide) J J (B_eq (eq_ne h3 h4 he).symm))
  ·have h3 : ¬ ((k : Int) < (els xs).length) := of_decide_eq_false h
   refine Q5 (T_x (T_x (B_xs (Qz (zy (z1 J (zz (Q6 (F_r ?_)))))))))
   exact E_tmp J J (Q9 [] (by decide) J J (B_eq (eq_all (by omega) hl hp_A).symm))
 ·have hb : decide (((els xs).length : Int) ≠ ((els ys).length : Int)) = true := by rw [hlx,hly]; simp; omega
  refine Con.of Tryd.func19 J Tryd.ntmps19 J (fun E => ?_)
  refine zy (z1 J (zz (Qd (zy (z0 J (zx (q_len J J J) J (z0 J (zx (q_len J J J) J ?_))))))));refine z9f J (by assumption) (zz (Qm J (zy (z1 J (zz (Q6 (T_r (F_r ?_))))))))
  exact E_tmp J J (Q9 [] (by decide) J J (B_eq (eq_len hl).symm))
end
section
open Go.RowKit

@[reducible] def LibW (P : Program) (w : World) : Prop := TabW P w ∧ MaxW w
theorem lib_kept {P : Program} : Kept (LibW P) := ⟨fun w w' h hk => ⟨tab_kept.h w w' h.1 hk,max_kept.h w w' h.2 hk⟩⟩
def n0 : ByteArray := ⟨#[115,101,101,100]⟩
def n1 : ByteArray := ⟨#[115,99,111,114,101,32,50]⟩
def n2 : ByteArray := ⟨#[98,111,100,121,32,49,49]⟩
def goodN (p : ByteArray) : Prop := p = n0 ∨ p = n1 ∨ p = n2
theorem good_ok {p : ByteArray} (h : goodN p) : p.size ≤ 7 ∧ p.size ≠ 0 ∧ ∀ b ∈ p.data.toList,b ≠ 44 := by
 rcases h with rfl | rfl | rfl
 ·exact ⟨by decide,by decide,fun b hb => by simp [n0] at hb; rcases hb with rfl | rfl | rfl <;> decide⟩
 ·exact ⟨by decide,by decide,fun b hb => by simp [n1] at hb; rcases hb with rfl | rfl | rfl | rfl | rfl | rfl | rfl <;> decide⟩
 ·exact ⟨by decide,by decide,fun b hb => by simp [n2] at hb; rcases hb with rfl | rfl | rfl | rfl | rfl | rfl <;> decide⟩
theorem wts_good : ∀ {ps : List ByteArray},(∀ p ∈ ps,goodN p) → wts ps ≤ 7 * ps.length
 | [],_ => by show (0 : Nat) ≤ _; omega
 | p :: ps,h => by
  have ih := wts_good (ps := ps) (fun q hq => h q (by simp [hq]))
  have h1 := (good_ok (h p (by simp))).1
  have h2 : wts (p :: ps) = p.size + wts ps := rfl
  rw [h2,List.length_cons]; omega
theorem law_AlarmTexts (code : List UInt8) (hg : Enc.gd code) : ConP (LibW Tryd.prog) Tryd.prog 5 [al code] [] (B true) := by
 have cb := L_big code
 by_cases hb : code.length > 1048576
 ·rw [decide_eq_true hb] at cb
  refine ConP.of Tryd.func5 J Tryd.ntmps5 J (fun E hE hT => ?_)
  refine zy (z1 J (zz (Qd (zy (z0 J ?_)))));refine zx (Qj J J (cb) J) J ?_;refine zz (Qm J (zy (z1 J (zz (Q6 (T_r (F_r ?_)))))))
  exact E_tmp J J (Q9 [] (by decide) J J J)
 rw [decide_eq_false hb] at cb
 have hb : code.length ≤ 1048576 := by omega
 have ca0 := L_at code 0 (by omega) hb
 have ca1 := L_at code 1 (by omega) hb
 have h0 := atM_rng code 0
 have h1 := atM_rng code 1
 obtain ⟨n,hn⟩ : ∃ n : Nat,(n : Int) = atM code 0 * 3 := ⟨(atM code 0 * 3).toNat,by omega⟩
 obtain ⟨mx,hm⟩ : ∃ mx : Nat,(mx : Int) = atM code 1 % 4 := ⟨(atM code 1 % 4).toNat,by omega⟩
 have hm3 : mx ≤ 3 := by omega
 have hn9 : n < 1000 := by omega
 have cp0 : ConP (LibW Tryd.prog) Tryd.prog 14 [astr n0] (ownO (Enc.e zAl)) (.tu [.ag (ownV 0 (Enc.e zAl)),.c (.rd [] (.v (.bool false)))]) := fun w hw => by
  have h := I_ParseAlarm n0 (by decide) w hw.2
  have hc : colAt n0 = -1 := rfl
  obtain ⟨e1,e2⟩ := parsed_no (s := n0) (fun h => by rw [hc] at h; exact absurd h.1 (by decide))
  rw [e1,e2] at h
  exact h
 refine ConP.of Tryd.func5 J Tryd.ntmps5 J (fun E hE hT => ?_)
 refine zy (z1 J (zz (Qd (zy (z0 J ?_)))));refine zx (Qj J J (cb) J) J ?_;refine zz (Ql J (Qh (Qz (zy (z0 J ?_)))));refine zx (Qj J J (ca0) J) J ?_;refine zx (q_mul J J J J (by omega)) J (zx (q_build J J J J J) J (M1 (Qx J J J) J J ?_));refine Qy J J J J J J J J J (zz (Qd (zy (z1 J (zz (Qk ?_))))))
 refine AWP.pre ?_ (Wk.nilbox (p := 0) (i := 1) 1 J J)
 refine A_lq (fun m st => ∃ (k : Nat) (P : List ByteArray),k + m = mx ∧ ((P.length = k ∧ ∀ p ∈ P,goodN p)) ∧ st = (⟨_,[(0,L code),(3,.o (.c (.ptr 0 0))),(4,I k)],[.box [jA n,.ref 1],.row 1 (els P)]⟩ : St)) (mx) ⟨(fun (k : Nat) (P : List ByteArray) => (⟨_,[(0,L code),(3,.o (.c (.ptr 0 0))),(4,I k)],[.box [jA n,.ref 1],.row 1 (els P)]⟩ : St)) 0 ([]),⟨0,[],by omega,⟨J,fun p h => by cases h⟩,J⟩,W_go [0,1] (by decide) J ((by rw [hn]; rfl)) (.c J (.c J (.c J (.nil))))⟩ ?_
 rintro m_A _ ⟨k,P,hk_A,hp_A,rfl⟩
 obtain ⟨hPl,hPg⟩ := hp_A
 have hel := Xe P
 by_cases hk : k < mx
 ·have f0 : decide ((k : Int) < atM code 1 % 4) = true := decide_eq_true (by omega)
  have ca2 := L_at code ((k : Int) + 2) (by omega) hb
  have h2 := atM_rng code ((k : Int) + 2)
  have hrb : (1 : Int) ≤ 3 := by omega
  have hcs : (atM code ((k : Int) + 2)).tmod 3 = 0 ∨ (atM code ((k : Int) + 2)).tmod 3 = 1 ∨ (atM code ((k : Int) + 2)).tmod 3 = 2 := by rw [Int.tmod_eq_emod_of_nonneg (by omega)]; omega
  have hnx : ∀ x,goodN x → (P ++ [x]).length = k + 1 ∧ ∀ p ∈ P ++ [x],goodN p := fun x hx => ⟨by simp [hPl],fun p hp => by
   rcases List.mem_append.1 hp with h | h
   ·exact hPg p h
   ·simp at h; rw [h]; exact hx⟩
  refine Qd (zy (z0 J (z0 J ?_)));refine zx (Qj J J (ca1) J) J ?_;refine zx (q_rem J J J J (by omega)) J (z9a J (by assumption) (zz (Qm J (Qh (Qz (Qd (Qk ?_)))))))
  rcases hcs with hr | hr | hr
  ·refine A_draw u8_3 u8_4 u8_5 rfl ?_
   refine Xs (Qf J J J J (by decide)) J (Xs (Qg J J J J J) J (Xs (q_bslice J J J J J J) J (Xs (Qa J J J) J (Xs (Qa J J J) J (Xs (Qs J J J J (by omega)) J ?_)))));refine Xs (Qj J J (ca2) J) J ?_;refine Xs (q_remT hr hrb J J J J) J (Xs (q_sbat J J J J (by omega)) J (Xs (Qg J J J J J) J (Xs (q_bslice J J J J J J) J (Xr ?_))));refine M_appsb J J J J J J J J J J (by omega) (by omega) ?_;refine z2 J J J ?_;refine Q3 J J J J J J J J (Qe (Q0 (Qz (Qc (z0 J (z7 J (by omega) (z1 J (zz ?_))))))))
   exact ⟨mx - (k + 1),by omega,_,⟨k + 1,P ++ [n0],by omega,hnx n0 (.inl J),J⟩,(by rw [els_snocB]; exact X9 [0,1])⟩
  ·refine A_draw u8_3 u8_4 u8_5 rfl ?_
   refine Xs (Qf J J J J (by decide)) J (Xs (Qg J J J J J) J (Xs (q_bslice J J J J J J) J (Xs (Qa J J J) J (Xs (Qa J J J) J (Xs (Qs J J J J (by omega)) J ?_)))));refine Xs (Qj J J (ca2) J) J ?_;refine Xs (q_remT hr hrb J J J J) J (Xs (q_sbat J J J J (by omega)) J (Xs (Qg J J J J J) J (Xs (q_bslice J J J J J J) J (Xr ?_))));refine M_appsb J J J J J J J J J J (by omega) (by omega) ?_;refine z2 J J J ?_;refine Q3 J J J J J J J J (Qe (Q0 (Qz (Qc (z0 J (z7 J (by omega) (z1 J (zz ?_))))))))
   exact ⟨mx - (k + 1),by omega,_,⟨k + 1,P ++ [n1],by omega,hnx n1 (.inr (.inl J)),J⟩,(by rw [els_snocB]; exact X9 [0,1])⟩
  ·refine A_draw u8_3 u8_4 u8_5 rfl ?_
   refine Xs (Qf J J J J (by decide)) J (Xs (Qg J J J J J) J (Xs (q_bslice J J J J J J) J (Xs (Qa J J J) J (Xs (Qa J J J) J (Xs (Qs J J J J (by omega)) J ?_)))));refine Xs (Qj J J (ca2) J) J ?_;refine Xs (q_remT hr hrb J J J J) J (Xs (q_sbat J J J J (by omega)) J (Xs (Qg J J J J J) J (Xs (q_bslice J J J J J J) J (Xr ?_))));refine M_appsb J J J J J J J J J J (by omega) (by omega) ?_;refine z2 J J J ?_;refine Q3 J J J J J J J J (Qe (Q0 (Qz (Qc (z0 J (z7 J (by omega) (z1 J (zz ?_))))))))
   exact ⟨mx - (k + 1),by omega,_,⟨k + 1,P ++ [n2],by omega,hnx n2 (.inr (.inr J)),J⟩,(by rw [els_snocB]; exact X9 [0,1])⟩
 have f0 : decide ((k : Int) < atM code 1 % 4) = false := decide_eq_false (by omega)
 have hw := wts_good hPg
 have hwt : Enc.wt (⟨n,P⟩ : TAlarm) = P.length + wts P := rfl
 have gP : Enc.gd P := ⟨by omega,fun x hx => by have := (good_ok (hPg x hx)).1; show x.size ≤ _; omega⟩
 have ga : Enc.gd (⟨n,P⟩ : TAlarm) := ⟨⟨by show _ ≤ ((n : Nat) : Int); omega,by show ((n : Nat) : Int) ≤ _; omega⟩,gP⟩
 have cfa : ConP (LibW Tryd.prog) Tryd.prog 11 [ag (⟨n,P⟩ : TAlarm)] [] (S (fmtAl ⟨n,P⟩)) := fun w hw => I_FormatAlarmT ⟨n,P⟩ ga (by omega) w hw.1
 have hjs := joinB_size P comma
 have hcm : comma.size = 1 := rfl
 have his := itoaB_size (n := (n : Int)) ⟨by omega,by omega⟩
 have hfs : (fmtAl ⟨n,P⟩).size ≤ 1048576 := by
  rw [fmtAl,Xd,Xd]
  have : colonB.size = 1 := rfl
  rw [hcm] at hjs
  show (itoaB (n : Int)).size + _ + (joinB P comma).size ≤ _
  omega
 obtain ⟨b1,b2⟩ := alarm_back (ps := P) hn9 (fun p hp => (good_ok (hPg p hp)).2)
 have cpa : ConP (LibW Tryd.prog) Tryd.prog 14 [astr (fmtAl ⟨n,P⟩)] (ownO (Enc.e (⟨n,P⟩ : TAlarm))) (.tu [.ag (ownV 0 (Enc.e (⟨n,P⟩ : TAlarm))),.c (.rd [] (.v (.bool true)))]) := fun w hw => by
  have h := I_ParseAlarm (fmtAl ⟨n,P⟩) hfs w hw.2
  rw [b1,b2] at h
  exact h
 have cst := L_sameTexts P P gP
 rw [decide_eq_true rfl] at cst
 have g1 : decide ((n : Int) = n) = true := decide_eq_true rfl
 generalize fmtAl ⟨n,P⟩ = fa at cfa cpa
 refine Qd (zy (z0 J (z0 J ?_)));refine zx (Qj J J (ca1) J) J ?_;refine zx (q_rem J J J J (by omega)) J (z9a J (by assumption) (zz (Ql J (Q5 (T_x (T_x (B_xs (Qz (zy ?_)))))))));refine z4 J J J (Q8 lib_kept hE hT (cfa) J J J J J J J (Q8 lib_kept hE hT (cpa) J J J J J J J (zx (Q4 J J J) J (ze J (ze J (M1 (Qx J J J) J J ?_))))));refine Qy J J J J J J J J J (z1 J (zz (zy ?_)));refine AL.weak (st' := (⟨_,[(3,.o (.c (.ptr 0 0))),(5,.o (.c (.ptr 3 0))),(6,B true)],[.box [jA n,.ref 1],.row 1 (els P),.row 1 (els P),.box [jA n,.ref 2]]⟩ : St)) (X9 [0,1,2,3]) ?_;refine Q8 lib_kept hE hT (cp0) J J J J J J J (zx (Q4 J J J) J (ze J (ze J (M1 (Qx J J J) J J ?_))));refine Qy J J J J J J J J J (z1 J (zz (zy (z0 J (z0 J (z5 J (z0 J (z5 J (zn J ?_)))))))));refine zpT J (z0 J (z5 J (z2 J J J (z5 J (z3 J (z5 J (z2 J J J (z5 J (z3 J (z5 J (z9e J (by assumption) ?_)))))))))));refine zpT J (z0 J (z5 J (z2 J J J (z5 J (z3 J (z5 J (z2 J J J (z5 J (z3 J (z5 J ?_))))))))));refine zx (Qj J J (cst) J) J ?_;refine zpT J (z1 J (zz (Q6 (F_r ?_))))
 exact E_tmp J J (Q9 [] (by decide) J J J)
end
end Go.Proofs.YtcjclaoogdblbaaDoor
