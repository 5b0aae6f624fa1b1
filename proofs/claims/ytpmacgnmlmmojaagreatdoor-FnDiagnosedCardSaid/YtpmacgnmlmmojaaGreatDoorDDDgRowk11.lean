/-
  Calls whose results may be read-only data that lies in new memory (or where the caller's own read-only data lies). No statement of the program is proved here.
  Conditions: the texts built with the pieces that hold shared rows.
-/
import Derived.Test.YtpmacgnmlmmojaaGreatDoorDDDgRowk10
set_option linter.unusedSimpArgs false
set_option linter.unusedVariables false
namespace Go.Proofs.YtpmacgnmlmmojaaGreatDoor
section
open Go.RowKit

section
variable {P : Program} {E : Env} {ops : Array Oper} {o : Oper} {st : St} {n : Nat} {rest : List Oper} {QQ : Exit → St → Prop} {w w' : World} {H H' : Hs} {F F' : Nat → Prop} {a : Act}
theorem inP.moreF (hF : ∀ b,F b → F' b) {ps : List Nat} {b : Nat} (h : inP H F ps b) : inP H F' ps b := by
 rcases h with h | h
 ·exact .inl (hF b h)
 ·exact .inr h
theorem R1.moreF (hF : ∀ b,F b → F' b) {x : V1} {v : Value} (h : R1 w H F x v) : R1 w H F' x v := by
 cases x with
 | rd ps x => exact RO.weak h fun b hb _ => hb.moreF hF
 | rp ps xs =>
  obtain ⟨b,o,e,hb,hr⟩ := h
  exact ⟨b,o,e,hb.moreF hF,fun j t hj => by obtain ⟨u,h1,h2⟩ := hr j t hj; exact ⟨u,h1,h2.weak fun b hb _ => hb.moreF hF⟩⟩
 | _ => exact h
theorem R0.mapkF (h : R0 w H F st a) (k : V1 → V1) (hk : ∀ x v,R1 w H F x v → R1 w' H' F' (k x) v) (hok : Ok w' H' F') (objs' : List Ob) (hob : ∀ p,RB w' H' F' p (objs'.getD p .gone)) :
  R0 w' H' F' ⟨st.n,st.tmps.map fun e => (e.1,e.2.mapk k),objs'⟩ a := by
 refine ⟨hok,hob,fun d => ?_,h.size,h.defers⟩
 have hl : ∀ l : List (Nat × V),RV w H F (look l d) (a.tmps.getD d undef) → RV w' H' F' (look (l.map fun e => (e.1,e.2.mapk k)) d) (a.tmps.getD d undef) := by
  intro l
  induction l with
  | nil => intro _; trivial
  | cons e l ih =>
   obtain ⟨e1,e2⟩ := e
   rw [List.map_cons,Y4,Y4]
   split
   ·exact RV.mapk hk
   ·exact ih
 exact hl _ (h.tmp d)
def lendF1 (ρ : List Nat) : V1 → V1
 | .rd [] x => .rd [] x
 | .rd _ (.v u) => .rd [] (.v u)
 | .ptr p i => match idxN ρ p 0 with
  | some q => .ptr q i
  | none => .un
 | .ref p => match idxN ρ p 0 with
  | some q => .ref q
  | none => .un
 | _ => .un
def lendF (ρ : List Nat) : V → V2
 | .o (.c x) => .c (lendF1 ρ x)
 | .o (.ag xs) => .ag (xs.map (lendF1 ρ))
 | _ => .c .un
theorem lendF1_ok {ρ : List Nat} {H1 : Hs} (a1 : ∀ q p,ρ[q]? = some p → H1 q = H p) {x : V1} {v : Value} (hx : R1 w H F x v) : R1 w H1 F (lendF1 ρ x) v := by
 unfold lendF1
 split
 ·exact RO.weak hx fun b hb _ => by
   rcases hb with h | ⟨p,hp,_⟩
   ·exact .inl h
   ·cases hp
 ·obtain ⟨rfl,h⟩ := RO.plain hx
  exact RO.v _ h
 ·split
  ·rename_i p i _ q hq
   obtain ⟨g,t,vs,e,hv⟩ := hx
   have h1 := (idxN_ok ρ p 0 q hq).2
   rw [Nat.sub_zero] at h1
   exact ⟨g,t,vs,by rw [a1 q p h1,e],hv⟩
  ·trivial
 ·split
  ·rename_i p _ q hq
   obtain ⟨x,fp,e⟩ := hx
   have h1 := (idxN_ok ρ p 0 q hq).2
   rw [Nat.sub_zero] at h1
   exact ⟨x,fp,by rw [a1 q p h1,e]⟩
  ·trivial
 ·trivial
def V1.clF : V1 → Bool
 | .rd [] _ => true
 | .rd _ (.sl _ _) => false
 | .rp _ _ => false
 | _ => true
def V2.clF : V2 → Bool
 | .c x => x.clF
 | .ag xs => xs.all V1.clF
def V.clF : V → Bool
 | .o x => x.clF
 | .tu xs => xs.all V2.clF
 | .iff _ x => x.clF
def Ob.bkF : Ob → Bool
 | .box cs => cs.all V1.clF
 | .row _ _ => true
 | .bl _ _ _ => true
 | _ => false
section
variable {H2 : Hs} {F2 : Nat → Prop} {φ : Nat → Nat}
theorem plantw1F (hpl : ∀ q,H2 q ≠ .nil → (∀ i v,H2 q ≠ .gh i v) → H' (φ q) = H2 q) {x : V1} {v : Value} (hc : x.clF = true) (hx : R1 w H2 F2 x v) : R1 w H' F2 (x.ren φ) v := by
 cases x with
 | rd ps x =>
  cases ps with
  | nil =>
   exact RO.weak hx fun b hb _ => by
    rcases hb with h | ⟨p,hp,_⟩
    ·exact .inl h
    ·cases hp
  | cons p ps =>
   cases x with
   | v x => obtain ⟨rfl,h⟩ := RO.plain hx; exact RO.v _ h
   | sl k es => simp [V1.clF] at hc
   | un => exact RO.un _ (RO.one hx)
   | bl => exact RO.bl _ _ _ _ (RO.one hx)
 | rp => simp [V1.clF] at hc
 | ref q => exact plantw1 hpl (x := .ref q) rfl hx
 | ptr q i => exact plantw1 hpl (x := .ptr q i) rfl hx
 | sb q i j => exact plantw1 hpl (x := .sb q i j) rfl hx
 | el q k i j => exact plantw1 hpl (x := .el q k i j) rfl hx
 | le q k i j => exact plantw1 hpl (x := .le q k i j) rfl hx
 | hd q i => exact plantw1 hpl (x := .hd q i) rfl hx
 | tl q k i => exact plantw1 hpl (x := .tl q k i) rfl hx
 | un => trivial
theorem plantw2F (hpl : ∀ q,H2 q ≠ .nil → (∀ i v,H2 q ≠ .gh i v) → H' (φ q) = H2 q) {x : V2} {v : Value} (hc : x.clF = true) (hx : R2 w H2 F2 x v) : R2 w H' F2 (x.ren φ) v := by
 cases x with
 | c x => exact plantw1F hpl hc hx
 | ag xs =>
  obtain ⟨us,e,hl,hr⟩ := hx
  refine ⟨us,e,by simpa using hl,fun i x u hi hu => ?_⟩
  rw [List.getElem?_map] at hi
  obtain ⟨c,h1,rfl⟩ := Option.map_eq_some_iff.1 hi
  exact plantw1F hpl (List.all_eq_true.1 hc c (Yy h1)) (hr i c u h1 hu)
theorem plantwVF (hpl : ∀ q,H2 q ≠ .nil → (∀ i v,H2 q ≠ .gh i v) → H' (φ q) = H2 q) {x : V} {v : Value} (hc : x.clF = true) (hx : RV w H2 F2 x v) : RV w H' F2 (x.ren φ) v := by
 cases x with
 | o x => exact plantw2F hpl hc hx
 | tu xs =>
  obtain ⟨us,e,hl,hr⟩ := hx
  refine ⟨us,e,by simpa using hl,fun i x u hi hu => ?_⟩
  rw [List.getElem?_map] at hi
  obtain ⟨c,h1,rfl⟩ := Option.map_eq_some_iff.1 hi
  exact plantw2F hpl (List.all_eq_true.1 hc c (Yy h1)) (hr i c u h1 hu)
 | iff cs x => exact ⟨fun h => plantw2F hpl hc (hx.1 h),hx.2⟩
theorem bkF_ng {q : Nat} {ob : Ob} (hb : ob.bkF = true) (h : RB w H2 F2 q ob) : H2 q ≠ .nil ∧ ∀ i v,H2 q ≠ .gh i v := by
 cases ob with
 | box cs => obtain ⟨g,t,vs,e,_⟩ := h; rw [e]; simp
 | row k es => obtain ⟨v,fp,e⟩ := h; rw [e]; simp
 | bl => obtain ⟨v,fp,e⟩ := h; rw [e]; simp
 | _ => cases hb
theorem plantwBF (hpl : ∀ q,H2 q ≠ .nil → (∀ i v,H2 q ≠ .gh i v) → H' (φ q) = H2 q) {q p : Nat} {ob : Ob} (hp : H' p = H2 q) (hb : ob.bkF = true) (h : RB w H2 F2 q ob) : RB w H' F2 p (ob.ren φ) := by
 cases ob with
 | box cs =>
  obtain ⟨g,t,vs,e,hl,hr⟩ := h
  refine ⟨g,t,vs,hp.trans e,by simpa using hl,fun i c u hi hu => ?_⟩
  rw [List.getElem?_map] at hi
  obtain ⟨c',h1,rfl⟩ := Option.map_eq_some_iff.1 hi
  exact ⟨plantw1F hpl (List.all_eq_true.1 hb c' (Yy h1)) (hr i c' u h1 hu).1,(hr i c' u h1 hu).2⟩
 | row k es => obtain ⟨v,fp,e⟩ := h; exact ⟨v,fp,hp.trans e⟩
 | bl => obtain ⟨v,fp,e⟩ := h; exact ⟨v,fp,hp.trans e⟩
 | _ => cases hb
end
theorem L_lentF {f : FuncId} [hf : FunOk P f] {ass : Array Operand} {tys : Array TypeId} {args : List V2} {lo lo' new : List Ob} {gs gs' : List (Nat × V2)} {res : V} (ρ : List Nat) (kq : List (Nat × Nat × V1)) (ho : o.op = .call { callee := .value (.func f),args := ass,argTypes := tys }) (hg : o.guard = none)
  (hc : Con P f (lo ++ gs.map gh1) args (lo' ++ (gs'.map gh1 ++ new)) res) (hρ : nodupB ρ = true) (hlt : ρ.all (fun p => Nat.blt p st.objs.length) = true) (hl1 : lo.length = ρ.length) (hl2 : lo'.length = ρ.length) (hl3 : gs'.length = gs.length)
  (hlo : lo.map (Ob.ren (rho ρ st.objs.length)) = ρ.map fun p => st.objs.getD p .gone) (hgn : ρ.all (fun p => (st.objs.getD p .gone).back || (match st.objs.getD p .gone with | .box _ => true | _ => false)) = true) (ha : ass.toList.map (fun y => lendF ρ (st.ev y)) = args)
  (hgs : gs.map (fun g => gsrc args lo g.1) = gs.map (fun g => some g.2)) (hk1 : kq.map (fun k => gs[k.1]?.bind fun g => pickC g.2 k.2.1) = kq.map (fun k => some k.2.2)) (hk2 : kq.map (fun k => gs'[k.1]?) = kq.map (fun k => gs[k.1]?)) (hk3 : kq.all (fun k => match plc k.2.2 with | some q => Nat.blt q ρ.length | none => false) = true)
  (hcl : res.clF = true) (hb1 : lo'.all Ob.bkF = true) (hb2 : new.all Ob.bkF = true) (hd : dstOk st.n o.dst = true)
  (h : AL P E ops QQ rest ⟨st.n,setT (st.tmps.map fun e => (e.1,e.2.mapk (V1.killw (ρ ++ (List.range new.length).map (st.objs.length + ·)) (kq.map fun k => ρ.getD ((plc k.2.2).getD 0) 0)))) o.dst (res.ren (phi ρ gs.length st.objs.length)),
   setL (st.objs.map (Ob.mapk (V1.killw (ρ ++ (List.range new.length).map (st.objs.length + ·)) (kq.map fun k => ρ.getD ((plc k.2.2).getD 0) 0)))) ρ (lo'.map (Ob.ren (phi ρ gs.length st.objs.length))) ++ new.map (Ob.ren (phi ρ gs.length st.objs.length))⟩) : AL P E ops QQ (o :: rest) st := by
 refine ⟨fun a w ⟨H,F,hr,hsince⟩ => ?_⟩
 have hrun : (execOp a.eval o).run P w = .ok (.enter f (ass.toList.map a.eval).toArray) w := by
  unfold execOp
  simp only [ho,resolve,Act.eval,Deferred.ofValue,Sem.run_bind,Sem.run_pure,Result.andThen_ok,invoke]
  rw [show (#[] ++ ass.map a.eval ++ #[]) = (ass.toList.map a.eval).toArray by
   apply Array.ext'
   simp]
  exact run_callFunc _
 refine wpList_step fun K hK => ?_
 rw [if_pos (by unfold Region.wanted; rw [hg])]
 unfold Oper.wp
 rw [hrun]
 have hnd : ρ.Nodup := Y8 hρ
 have hltN : ∀ p ∈ ρ,p < st.objs.length := fun p hp => Nat.le_of_ble_eq_true (List.all_eq_true.1 hlt p hp)
 have hnilN : ∀ p,st.objs.length ≤ p → H p = .nil := fun p hp => by
  have := hr.obs p
  simpa [List.getD_eq_getElem?_getD,hp,RB] using this
 have hinj : ∀ (i j p : Nat),ρ[i]? = some p → ρ[j]? = some p → i = j := fun i j p h1 h2 => by
  obtain ⟨a1,e1⟩ := List.getElem?_eq_some_iff.1 h1
  obtain ⟨a2,e2⟩ := List.getElem?_eq_some_iff.1 h2
  rcases Nat.lt_trichotomy i j with hij | hij | hij
  ·exact absurd (e1.trans e2.symm) (List.pairwise_iff_getElem.1 hnd i j a1 a2 hij)
  ·exact hij
  ·exact absurd (e2.trans e1.symm) (List.pairwise_iff_getElem.1 hnd j i a2 a1 hij)
 obtain ⟨vs,hvs⟩ : ∃ vs,vs = ass.toList.map a.eval := ⟨_,rfl⟩
 obtain ⟨gv,hgv⟩ : ∃ gv : Nat → Value,gv = fun i => match args[i]? with | some _ => vs.getD i undef | none => pcV (H (ρ.getD (i - args.length) 0)) := ⟨_,rfl⟩
 obtain ⟨H1,hH1⟩ : ∃ H1 : Hs,H1 = fun q => match ρ[q]? with | some p => H p | none => match gs[q - ρ.length]? with | some g => if ρ.length ≤ q then .gh g.1 (gv g.1) else .nil | none => .nil := ⟨_,rfl⟩
 have a1 : ∀ q p,ρ[q]? = some p → H1 q = H p := fun q p hq => by rw [hH1]; simp only [hq]
 have a2 : ∀ j g,gs[j]? = some g → H1 (ρ.length + j) = .gh g.1 (gv g.1) := fun j g hj => by
  rw [hH1]
  have : ρ[ρ.length + j]? = none := List.getElem?_eq_none (by omega)
  simp only [this,Nat.add_sub_cancel_left,hj]
  rw [if_pos (by omega)]
 have a3 : ∀ q b,b ∈ (H1 q).fp → ∃ p,ρ[q]? = some p ∧ b ∈ (H p).fp := fun q b hb => by
  cases hq : ρ[q]? with
  | some p => rw [a1 q p hq] at hb; exact ⟨p,rfl,hb⟩
  | none =>
   rw [hH1] at hb
   simp only [hq] at hb
   split at hb
   ·split at hb <;> simp [Pc.fp] at hb
   ·simp [Pc.fp] at hb
 have a4 : ∀ q i v,H1 q = .gh i v → (∃ p,ρ[q]? = some p ∧ H p = .gh i v) ∨ v = gv i := fun q i v hq => by
  cases hp : ρ[q]? with
  | some p => rw [a1 q p hp] at hq; exact .inl ⟨p,rfl,hq⟩
  | none =>
   rw [hH1] at hq
   simp only [hp] at hq
   split at hq
   ·split at hq
    ·simp only [Pc.gh.injEq] at hq
     exact .inr (by rw [← hq.2,hq.1])
    ·cases hq
   ·cases hq
 obtain ⟨F1,hF1⟩ : ∃ F1 : Nat → Prop,F1 = F := ⟨_,rfl⟩
 have hFF : ∀ b,F b → F1 b := fun b hb => by rw [hF1]; exact hb
 have hsubH : ∀ q,H (rho ρ st.objs.length q) ≠ .nil → H1 q = H (rho ρ st.objs.length q) := fun q hq => by
  cases hp : ρ[q]? with
  | some p => rw [a1 q p hp]; simp [rho,List.getD_eq_getElem?_getD,hp]
  | none => exact absurd (hnilN _ (by simp [rho,List.getD_eq_getElem?_getD,hp])) hq
 have hgok : ∀ p ∈ ρ,H p ≠ .nil ∧ ∀ i v,H p ≠ .gh i v := fun p hp => by
  have h1 := List.all_eq_true.1 hgn p hp
  have h2 := hr.obs p
  cases ho : st.objs.getD p .gone with
  | box cs => rw [ho] at h2; obtain ⟨g,t,us,e,_⟩ := h2; rw [e]; simp
  | row k es => rw [ho] at h2; obtain ⟨v,fp,e⟩ := h2; rw [e]; simp
  | gone => rw [ho] at h1; cases h1
  | hole => rw [ho] at h1; cases h1
  | gh => rw [ho] at h1; cases h1
  | shr => rw [ho] at h1; cases h1
  | bl => rw [ho] at h2; obtain ⟨v,fp,e⟩ := h2; rw [e]; simp
 have hok1 : Ok w H1 F1 := by
  refine ⟨fun q => ?_,fun q => ?_,fun q r b h1 h2 => ?_,fun q b h1 h2 => ?_,fun b hb => by rw [hF1] at hb; exact hr.ok.flt b hb⟩
  ·cases hp : ρ[q]? with
   | some p => rw [a1 q p hp]; exact hr.ok.says p
   | none =>
    rw [hH1]
    simp only [hp]
    split
    ·split <;> trivial
    ·trivial
  ·cases hp : ρ[q]? with
   | some p => rw [a1 q p hp]; exact hr.ok.nodup p
   | none =>
    rw [hH1]
    simp only [hp]
    split
    ·split <;> simp [Pc.fp]
    ·simp [Pc.fp]
  ·obtain ⟨p,e1,e2⟩ := a3 q b h1
   obtain ⟨p',e3,e4⟩ := a3 r b h2
   have := hr.ok.disj p p' b e2 e4
   subst this
   exact hinj q r p e1 e3
  ·obtain ⟨p,e1,e2⟩ := a3 q b h1
   rw [hF1] at h2
   exact hr.ok.free p b e2 h2
 have hargs1 : ∀ (i : Nat) (x : V2) (v : Value),args[i]? = some x → vs[i]? = some v → R2 w H1 F1 x v := by
  intro i x v hx hv
  rw [← ha,List.getElem?_map] at hx
  obtain ⟨y,h1,rfl⟩ := Option.map_eq_some_iff.1 hx
  rw [hvs,List.getElem?_map,h1] at hv
  simp only [Option.map_some,Option.some.injEq] at hv
  subst hv
  have h2 := hr.ev y
  have hl1 : ∀ {x : V1} {v : Value},R1 w H F x v → R1 w H1 F1 (lendF1 ρ x) v := fun hx => by rw [hF1]; exact lendF1_ok a1 hx
  cases he : st.ev y with
  | o x =>
   rw [he] at h2
   cases x with
   | c x => exact hl1 h2
   | ag xs =>
    obtain ⟨us,e,hl,hcs⟩ := h2
    refine ⟨us,e,by simpa using hl,fun i x u hi hu => ?_⟩
    rw [List.getElem?_map] at hi
    obtain ⟨c,h3,rfl⟩ := Option.map_eq_some_iff.1 hi
    exact hl1 (hcs i c u h3 hu)
  | tu xs => trivial
  | iff cs x => trivial
 have hgsat : ∀ (j : Nat) (g : Nat × V2),gs[j]? = some g → gsrc args lo g.1 = some g.2 := fun j g hj => by
  have := congrArg (·[j]?) hgs
  simpa [hj] using this
 have hvl : vs.length = args.length := by rw [hvs,← ha]; simp
 have hvat : ∀ (i : Nat) (x : V2),args[i]? = some x → vs[i]? = some (vs.getD i undef) := fun i x hx => by
  have : i < vs.length := by rw [hvl]; exact Yx hx
  simp [List.getD_eq_getElem?_getD,this]
 have hobsL : ∀ q (hq : q < ρ.length) (hq' : q < lo.length),RB w H1 F1 q lo[q] := by
  intro q hq hq'
  have hp : ρ[q]? = some ρ[q] := List.getElem?_eq_getElem hq
  have hlq : lo[q]? = some (lo[q]'(by omega)) := List.getElem?_eq_getElem (by omega)
  have h1 := congrArg (·[q]?) hlo
  simp only [List.getElem?_map,hlq,hp,Option.map_some,Option.some.injEq] at h1
  have h2 := hr.obs ρ[q]
  rw [← h1] at h2
  have hf : rho ρ st.objs.length q = ρ[q] := by simp [rho,List.getD_eq_getElem?_getD,hq]
  have h3 : RB w (fun p => H (rho ρ st.objs.length p)) F q (lo[q]'(by omega)) := RB.ren (f := rho ρ st.objs.length) (by rw [hf]; exact h2)
  exact RB.sub (H := fun p => H (rho ρ st.objs.length p)) hsubH hFF (by simp only [hf]; exact (hgok _ (List.getElem_mem hq)).1) h3
 have hgat : ∀ (j : Nat) (g : Nat × V2),gs[j]? = some g → R2 w H1 F1 g.2 (gv g.1) := fun j g hj => by
  have h1 := hgsat j g hj
  unfold gsrc at h1
  rw [hgv]
  cases ha1 : args[g.1]? with
  | some x =>
   rw [ha1] at h1
   simp only [Option.some.injEq] at h1
   subst h1
   simp only [ha1]
   exact hargs1 _ _ _ ha1 (hvat _ _ ha1)
  | none =>
   rw [ha1] at h1
   simp only [ha1]
   simp only at h1
   split at h1
   ·rename_i k es hlo1
    have hq := Yx hlo1
    have hq1 : g.1 - args.length < ρ.length := by omega
    have h2 := hobsL _ hq1 hq
    rw [(List.getElem?_eq_some_iff.1 hlo1).2] at h2
    obtain ⟨v,fp,e⟩ := h2
    have h3 := a1 (g.1 - args.length) (ρ[g.1 - args.length]) (List.getElem?_eq_getElem hq1)
    rw [show ρ.getD (g.1 - args.length) 0 = ρ[g.1 - args.length] by simp [List.getD_eq_getElem?_getD,hq1],← h3,e]
    simp only [Option.some.injEq] at h1
    rw [← h1]
    exact ⟨_,_,e⟩
   ·cases h1
 have hobs1 : ∀ q,RB w H1 F1 q ((lo ++ gs.map gh1).getD q .gone) := by
  intro q
  rcases Nat.lt_or_ge q ρ.length with hq | hq
  ·rw [show (lo ++ gs.map gh1).getD q .gone = lo[q]'(by omega) by simp [List.getD_eq_getElem?_getD,List.getElem?_append_left (show q < lo.length by omega),hl1,hq]]
   exact hobsL q hq (by omega)
  ·cases hj : gs[q - ρ.length]? with
   | some g =>
    rw [show (lo ++ gs.map gh1).getD q .gone = gh1 g by simp [List.getD_eq_getElem?_getD,List.getElem?_append_right (show lo.length ≤ q by omega),hl1,hj]]
    have h1 := a2 _ g hj
    rw [show ρ.length + (q - ρ.length) = q by omega] at h1
    exact ⟨_,h1,hgat _ g hj⟩
   | none =>
    rw [show (lo ++ gs.map gh1).getD q .gone = .gone by simp [List.getD_eq_getElem?_getD,List.getElem?_append_right (show lo.length ≤ q by omega),hl1,hj]]
    show H1 q = .nil
    rw [hH1]
    have : ρ[q]? = none := List.getElem?_eq_none (by omega)
    simp only [this,hj]
 rw [← hvs]
 refine (hc w H1 F1 vs hok1 hobs1 hvl hargs1).mono ?_
 rintro e w' ⟨H2,F2,rv,rfl,hsi,hok2,hobs2,hres⟩
 -- the pieces that come back
 have hoL : ∀ q,q < ρ.length → ∃ ob,lo'[q]? = some ob ∧ ob.bkF = true ∧ RB w' H2 F2 q ob := fun q hq => by
  have hlq : lo'[q]? = some (lo'[q]'(by omega)) := List.getElem?_eq_getElem (by omega)
  have h1 := hobs2 q
  rw [show (lo' ++ (gs'.map gh1 ++ new)).getD q .gone = lo'[q]'(by omega) by simp [List.getD_eq_getElem?_getD,List.getElem?_append_left (show q < lo'.length by omega),hl2,hq]] at h1
  exact ⟨_,hlq,List.all_eq_true.1 hb1 _ (List.getElem_mem _),h1⟩
 have hoG : ∀ (j : Nat) (g : Nat × V2),gs'[j]? = some g → ∃ v,H2 (ρ.length + j) = .gh g.1 v ∧ R2 w' H2 F2 g.2 v := fun j g hj => by
  have h1 := hobs2 (ρ.length + j)
  rw [show (lo' ++ (gs'.map gh1 ++ new)).getD (ρ.length + j) .gone = gh1 g by
   have : j < (gs'.map gh1).length := by simpa using Yx hj
   simp [List.getD_eq_getElem?_getD,List.getElem?_append_right (show lo'.length ≤ ρ.length + j by omega),hl2,List.getElem?_append_left this,hj]] at h1
  exact h1
 have hoN : ∀ r ob,new[r]? = some ob → RB w' H2 F2 (ρ.length + gs.length + r) ob := fun r ob hj => by
  have h1 := hobs2 (ρ.length + gs.length + r)
  rw [show (lo' ++ (gs'.map gh1 ++ new)).getD (ρ.length + gs.length + r) .gone = ob by
   simp [List.getD_eq_getElem?_getD,List.getElem?_append_right (show lo'.length ≤ ρ.length + gs.length + r by omega),hl2,List.getElem?_append_right (show (gs'.map gh1).length ≤ gs.length + r by simp [hl3]),show ρ.length + gs.length + r - ρ.length = gs.length + r by omega,hl3,hj]] at h1
  exact h1
 have hoX : ∀ q,ρ.length + gs.length + new.length ≤ q → H2 q = .nil := fun q hq => by
  have h1 := hobs2 q
  rw [show (lo' ++ (gs'.map gh1 ++ new)).getD q .gone = .gone by rw [List.getD_eq_getElem?_getD,List.getElem?_eq_none (by simp; omega)]; rfl] at h1
  exact h1
 obtain ⟨H',hH'⟩ : ∃ H' : Hs,H' = fun p => match idxN ρ p 0 with | some q => H2 q | none => if st.objs.length ≤ p then H2 (ρ.length + gs.length + (p - st.objs.length)) else H p := ⟨_,rfl⟩
 have b1 : ∀ q p,ρ[q]? = some p → H' p = H2 q := fun q p hq => by
  rw [hH']
  cases hi : idxN ρ p 0 with
  | some q' =>
   obtain ⟨_,h2⟩ := idxN_ok ρ p 0 q' hi
   rw [Nat.sub_zero] at h2
   simp only [hi]
   rw [hinj q q' p hq h2]
  | none => exact absurd (Yy hq) (idxN_none ρ p 0 hi)
 have bn : ∀ p,p ∉ ρ → idxN ρ p 0 = none := fun p hp => by
  cases hi : idxN ρ p 0 with
  | none => rfl
  | some q' => exact absurd (Yy (idxN_ok ρ p 0 q' hi).2) hp
 have b2 : ∀ p,p ∉ ρ → p < st.objs.length → H' p = H p := fun p hp hlt => by
  rw [hH']
  simp only [bn p hp]
  rw [if_neg (by omega)]
 have b3 : ∀ r,H' (st.objs.length + r) = H2 (ρ.length + gs.length + r) := fun r => by
  have hp : st.objs.length + r ∉ ρ := fun hm => by have := hltN _ hm; omega
  rw [hH']
  simp only [bn _ hp]
  rw [if_pos (by omega),Nat.add_sub_cancel_left]
 -- where each piece comes from
 have hcase : ∀ p,(∃ q,H' p = H2 q ∧ (ρ[q]? = some p ∨ (st.objs.length ≤ p ∧ q = ρ.length + gs.length + (p - st.objs.length)))) ∨ (p ∉ ρ ∧ p < st.objs.length ∧ H' p = H p) := fun p => by
  by_cases hp : p ∈ ρ
  ·obtain ⟨q,hq⟩ := List.getElem?_of_mem hp
   exact .inl ⟨q,b1 q p hq,.inl hq⟩
  ·rcases Nat.lt_or_ge p st.objs.length with h1 | h1
   ·exact .inr ⟨hp,h1,b2 p hp h1⟩
   ·have h2 := b3 (p - st.objs.length)
    rw [show st.objs.length + (p - st.objs.length) = p by omega] at h2
    exact .inl ⟨_,h2,.inr ⟨h1,J⟩⟩
 have hfp2 : ∀ q b,b ∈ (H2 q).fp → (∃ p ∈ ρ,b ∈ (H p).fp) ∨ w.heap.size ≤ b := fun q b hb => by
  rcases hsi.org q b hb with ⟨q',h1⟩ | h1
  ·obtain ⟨p,e1,e2⟩ := a3 q' b h1
   exact .inl ⟨p,Yy e1,e2⟩
  ·exact .inr h1
 have hblk : ∀ b,b < w.heap.size → (∀ p ∈ ρ,b ∉ (H p).fp) → w'.heap[b]? = w.heap[b]? := fun b h1 h2 => hsi.keep b h1 fun q hq => by
  obtain ⟨p,e1,e2⟩ := a3 q b hq
  exact h2 p (Yy e1) e2
 have hold : ∀ p b,p ∉ ρ → b ∈ (H p).fp → w'.heap[b]? = w.heap[b]? := fun p b hp hb => hblk b (hr.ok.lt hb) fun r hr' hb' => hp (hr.ok.disj p r b hb hb' ▸ hr')
 have hok' : Ok w' H' F := by
  refine ⟨fun p => ?_,fun p => ?_,fun p r b h1 h2 => ?_,fun p b h1 h2 => ?_,fun b hb => Nat.lt_of_lt_of_le (hr.ok.flt b hb) hsi.size⟩
  ·rcases hcase p with ⟨q,e,_⟩ | ⟨h1,_,e⟩
   ·rw [e]; exact hok2.says q
   ·rw [e]; exact Pc.frame (fun b hb => hold p b h1 hb) (hr.ok.says p)
  ·rcases hcase p with ⟨q,e,_⟩ | ⟨_,_,e⟩
   ·rw [e]; exact hok2.nodup q
   ·rw [e]; exact hr.ok.nodup p
  ·rcases hcase p with ⟨q,e,hq⟩ | ⟨n1,l1,e⟩ <;> rcases hcase r with ⟨q',e',hq'⟩ | ⟨n2,l2,e'⟩ <;> rw [e] at h1 <;> rw [e'] at h2
   ·have := hok2.disj q q' b h1 h2
    subst this
    rcases hq with hq | ⟨hq,hq2⟩ <;> rcases hq' with hq' | ⟨hq',hq2'⟩
    ·rw [hq] at hq'; exact Option.some.inj hq'
    ·have := Yx hq; omega
    ·have := Yx hq'; omega
    ·omega
   ·rcases hfp2 q b h1 with ⟨p',hp',hb'⟩ | hb'
    ·have := hr.ok.disj p' r b hb' h2
     exact absurd (this ▸ hp') n2
    ·have := hr.ok.lt h2; omega
   ·rcases hfp2 q' b h2 with ⟨p',hp',hb'⟩ | hb'
    ·have := hr.ok.disj p' p b hb' h1
     exact absurd (this ▸ hp') n1
    ·have := hr.ok.lt h1; omega
   ·exact hr.ok.disj p r b h1 h2
  ·rcases hcase p with ⟨q,e,_⟩ | ⟨_,_,e⟩ <;> rw [e] at h1
   ·rcases hfp2 q b h1 with ⟨p',hp',hb'⟩ | hb'
    ·exact hr.ok.free p' b hb' h2
    ·have := hr.ok.flt b h2; omega
   ·exact hr.ok.free p b h1 h2
 have hng : ∀ q,(q < ρ.length ∨ ρ.length + gs.length ≤ q) → ∀ i v,H2 q ≠ .gh i v := fun q hq i v e => by
  rcases hq with hq | hq
  ·obtain ⟨ob,_,h2,h3⟩ := hoL q hq
   exact (bkF_ng h2 h3).2 i v e
  ·rcases Nat.lt_or_ge (q - (ρ.length + gs.length)) new.length with h1 | h1
   ·have h2 := hoN _ _ (List.getElem?_eq_getElem h1)
    rw [show ρ.length + gs.length + (q - (ρ.length + gs.length)) = q by omega] at h2
    exact (bkF_ng (List.all_eq_true.1 hb2 _ (List.getElem_mem h1)) h2).2 i v e
   ·rw [hoX q (by omega)] at e; cases e
 have htn : Turn w H w' H' (ρ ++ (List.range new.length).map (st.objs.length + ·)) := by
  refine ⟨hsi.os,hsi.tape,hsi.output,hsi.size,fun b h1 h2 => hblk b h1 fun p hp => h2 p (by simp [hp]),fun p hp => ?_,fun p b hb => ?_,fun p i v hp => ?_⟩
  ·simp only [List.mem_append,List.mem_map,List.mem_range,not_or] at hp
   rcases hcase p with ⟨q,e,hq⟩ | ⟨_,_,e⟩
   ·rcases hq with hq | ⟨hq,hq2⟩
    ·exact absurd (Yy hq) hp.1
    ·have h1 : ¬ p - st.objs.length < new.length := fun h => hp.2 ⟨_,h,by omega⟩
     rw [e,hoX q (by omega),hnilN p hq]
   ·exact e
  ·rcases hcase p with ⟨q,e,_⟩ | ⟨_,_,e⟩ <;> rw [e] at hb
   ·rcases hfp2 q b hb with ⟨p',_,hb'⟩ | hb'
    ·exact .inl ⟨p',hb'⟩
    ·exact .inr hb'
   ·exact .inl ⟨p,hb⟩
  ·rcases hcase p with ⟨q,e,hq⟩ | ⟨_,_,e⟩ <;> rw [e] at hp
   ·refine absurd hp (hng q ?_ i v)
    rcases hq with hq | ⟨_,hq⟩
    ·exact .inl (Yx hq)
    ·exact .inr (by omega)
   ·exact ⟨p,hp⟩
 have hplace : ∀ p ∈ kq.map (fun k => ρ.getD ((plc k.2.2).getD 0) 0),Place (H p) (H' p) := by
  intro p hp
  obtain ⟨k,hk,rfl⟩ := List.mem_map.1 hp
  obtain ⟨jj,hjj⟩ := List.getElem?_of_mem hk
  have e1 := congrArg (·[jj]?) hk1
  have e2 := congrArg (·[jj]?) hk2
  have e3 := List.all_eq_true.1 hk3 k hk
  simp only [List.getElem?_map,hjj,Option.map_some,Option.some.injEq] at e1 e2
  obtain ⟨g,g1,g2⟩ := Option.bind_eq_some_iff.1 e1
  rw [g1] at e2
  obtain ⟨v,v1,v2⟩ := hoG k.1 g e2
  have hv : v = gv g.1 := by
   obtain ⟨q',hq'⟩ := hsi.gh _ g.1 v v1
   rcases a4 q' g.1 v hq' with ⟨p',h1,h2⟩ | h1
   ·exact absurd h2 ((hgok p' (Yy h1)).2 _ _)
   ·exact h1
  have hent := hgat _ g g1
  rw [← hv] at hent
  have hent := R2.cell hent g2
  have v2 := R2.cell v2 g2
  cases hpl : plc k.2.2 with
  | none => rw [hpl] at e3; cases e3
  | some q =>
   rw [hpl] at e3
   have hq : q < ρ.length := Nat.le_of_ble_eq_true e3
   have hqp : ρ[q]? = some (ρ.getD q 0) := by simp [List.getD_eq_getElem?_getD,hq]
   simp only [Option.getD_some]
   rw [b1 q _ hqp,← a1 q _ hqp]
   cases hx : k.2.2 with
   | ref q' =>
    rw [hx] at hpl hent v2
    simp only [plc,Option.some.injEq] at hpl
    subst hpl
    obtain ⟨x1,f1,k1⟩ := hent
    obtain ⟨x2,f2,k2⟩ := v2
    exact .inl ⟨_,_,_,_,_,k1,k2⟩
   | ptr q' i =>
    rw [hx] at hpl hent v2
    simp only [plc,Option.some.injEq] at hpl
    subst hpl
    obtain ⟨g3,t3,vs3,k1,k2⟩ := hent
    obtain ⟨g4,t4,vs4,k3,k4⟩ := v2
    rw [k2] at k4
    simp only [Value.pointer.injEq,Option.some.injEq,Addr.mk.injEq] at k4
    obtain ⟨rfl,_⟩ := k4
    exact .inr ⟨_,_,_,_,_,k1,k3⟩
   | _ => rw [hx] at hpl; cases hpl
 have hpl : ∀ q,H2 q ≠ .nil → (∀ i v,H2 q ≠ .gh i v) → H' (phi ρ gs.length st.objs.length q) = H2 q := fun q h1 h2 => by
  unfold phi
  split
  ·rename_i hq
   have hq := Nat.le_of_ble_eq_true hq
   exact b1 q _ (by simp [List.getD_eq_getElem?_getD,show q < ρ.length by omega])
  ·rename_i hq
   have hq : ρ.length ≤ q := Nat.le_of_not_lt fun hlt => by rw [show Nat.blt q ρ.length = true from Nat.ble_eq_true_of_le hlt] at hq; cases hq
   have hq2 : ρ.length + gs.length ≤ q := by
    refine Nat.le_of_not_lt fun hlt => ?_
    have hj : q - ρ.length < gs'.length := by omega
    obtain ⟨v,v1,_⟩ := hoG (q - ρ.length) _ (List.getElem?_eq_getElem hj)
    rw [show ρ.length + (q - ρ.length) = q by omega] at v1
    exact h2 _ _ v1
   rw [b3,show ρ.length + gs.length + (q - (ρ.length + gs.length)) = q by omega]
 have hF2 : ∀ b,F b → F2 b := fun b hb => hsi.fF b (hFF b hb)
 have hF3 : ∀ b,F2 b → F b ∨ w.heap.size ≤ b ∨ ∃ p ∈ ρ,b ∈ (H p).fp := fun b hb => by
  rcases hsi.fF' b hb with h1 | h1 | ⟨q,h1⟩
  ·rw [hF1] at h1; exact .inl h1
  ·exact .inr (.inl h1)
  ·obtain ⟨p,e1,e2⟩ := a3 q b h1
   exact .inr (.inr ⟨p,Yy e1,e2⟩)
 have hok2' : Ok w' H' F2 := by
  refine ⟨hok'.says,hok'.nodup,hok'.disj,fun p b h1 h2 => ?_,hok2.flt⟩
  rcases hcase p with ⟨q,e,_⟩ | ⟨n1,_,e⟩ <;> rw [e] at h1
  ·exact hok2.free q b h1 h2
  ·rcases hF3 b h2 with h3 | h3 | ⟨p',hp',h3⟩
   ·exact hr.ok.free p b h1 h3
   ·have := hr.ok.lt h1; omega
   ·exact n1 (hr.ok.disj p' p b h3 h1 ▸ hp')
 have hS2 : Since E w' H' F2 := by
  have hs := hsince.turn htn
  refine ⟨hs.os,hs.tape,hs.output,hs.size,hs.keep,fun b hb => hF2 b (hsince.fF b hb),fun b hb => ?_,hs.org,hs.gh⟩
  rcases hF3 b hb with h3 | h3 | ⟨p',_,h3⟩
  ·exact hsince.fF' b h3
  ·exact .inr (.inl (Nat.le_trans hsince.size h3))
  ·rcases hsince.org p' b h3 with h4 | h4
   ·exact .inr (.inr h4)
   ·exact .inr (.inl h4)
 have hR := hr.mapkF (V1.killw (ρ ++ (List.range new.length).map (st.objs.length + ·)) (kq.map fun k => ρ.getD ((plc k.2.2).getD 0) 0)) (fun x v hx => R1.moreF hF2 (R1.killw hr.ok htn hplace hx)) hok2'
  (setL (st.objs.map (Ob.mapk (V1.killw (ρ ++ (List.range new.length).map (st.objs.length + ·)) (kq.map fun k => ρ.getD ((plc k.2.2).getD 0) 0)))) ρ (lo'.map (Ob.ren (phi ρ gs.length st.objs.length))) ++ new.map (Ob.ren (phi ρ gs.length st.objs.length))) (fun p => ?_)
 ·have hR2 := hR.put (x := res.ren (phi ρ gs.length st.objs.length)) o.dst hd (v := rv) (plantwVF hpl hcl hres)
  exact hK _ _ (h.h _ _ ⟨_,F2,hR2,hS2⟩)
 ·have hsl : (setL (st.objs.map (Ob.mapk (V1.killw (ρ ++ (List.range new.length).map (st.objs.length + ·)) (kq.map fun k => ρ.getD ((plc k.2.2).getD 0) 0)))) ρ (lo'.map (Ob.ren (phi ρ gs.length st.objs.length)))).length = st.objs.length := by rw [setL_len]; simp
  rcases Nat.lt_or_ge p st.objs.length with h1 | h1
  ·rw [List.getD_eq_getElem?_getD,List.getElem?_append_left (by rw [hsl]; exact h1),← List.getD_eq_getElem?_getD]
   by_cases hp : p ∈ ρ
   ·obtain ⟨q,hq⟩ := List.getElem?_of_mem hp
    obtain ⟨ob,k1,k2,k3⟩ := hoL q (Yx hq)
    rw [setL_in ρ _ _ q p (ob.ren (phi ρ gs.length st.objs.length)) hnd (fun r hr' => by simpa using hltN r hr') hq (by rw [List.getElem?_map,k1]; rfl)]
    exact plantwBF hpl (b1 q p hq) k2 k3
   ·rw [setL_out ρ _ _ p hp,List.getD_eq_getElem?_getD,List.getElem?_map,List.getElem?_eq_getElem h1]
    have h2 := hr.obs p
    rw [List.getD_eq_getElem?_getD,List.getElem?_eq_getElem h1] at h2
    exact RB.mapk (fun x v hx => R1.moreF hF2 (R1.killw hr.ok htn hplace hx)) (b2 p hp h1) h2
  ·rw [List.getD_eq_getElem?_getD,List.getElem?_append_right (by rw [hsl]; exact h1),hsl,List.getElem?_map]
   have h2 := b3 (p - st.objs.length)
   rw [show st.objs.length + (p - st.objs.length) = p by omega] at h2
   cases hn : new[p - st.objs.length]? with
   | none => exact h2.trans (hoX _ (by have := List.getElem?_eq_none_iff.1 hn; omega))
   | some ob => exact plantwBF hpl h2 (List.all_eq_true.1 hb2 ob (Yy hn)) (hoN _ ob hn)
theorem X4 {ts : List (Nat × V)} {obs : List Ob} {d : Nat} {f : FuncId} [hf : FunOk P f] {ass : Array Operand} {tys : Array TypeId} {args : List V2} {lo lo' new : List Ob} {gs : List (Nat × V2)} {res : V} (ρ : List Nat) (kq : List (Nat × Nat × V1)) (hc : Con P f (lo ++ gs.map gh1) args (lo' ++ (gs.map gh1 ++ new)) res) (ho : o.op = .call { callee := .value (.func f),args := ass,argTypes := tys }) (hg : o.guard = none)
  (hd : o.dst = some d) (hl : Nat.blt d n = true) (hρ : nodupB ρ = true) (hlt : ρ.all (fun p => Nat.blt p obs.length) = true) (hl1 : lo.length = ρ.length) (hl2 : lo'.length = ρ.length)
  (hlo : lo.map (Ob.ren (rho ρ obs.length)) = ρ.map fun p => obs.getD p .gone) (hgn : ρ.all (fun p => (obs.getD p .gone).back || (match obs.getD p .gone with | .box _ => true | _ => false)) = true) (ha : ass.toList.map (fun y => lendF ρ (St.ev ⟨n,ts,obs⟩ y)) = args)
  (hgs : gs.map (fun g => gsrc args lo g.1) = gs.map (fun g => some g.2)) (hk1 : kq.map (fun k => gs[k.1]?.bind fun g => pickC g.2 k.2.1) = kq.map (fun k => some k.2.2)) (hk3 : kq.all (fun k => match plc k.2.2 with | some q => Nat.blt q ρ.length | none => false) = true)
  (hcl : res.clF = true) (hb1 : lo'.all Ob.bkF = true) (hb2 : new.all Ob.bkF = true)
  (h : AL P E ops QQ rest ⟨n,(d,res.ren (phi ρ gs.length obs.length)) :: (ts.map fun e => (e.1,e.2.mapk (V1.killw (ρ ++ (List.range new.length).map (obs.length + ·)) (kq.map fun k => ρ.getD ((plc k.2.2).getD 0) 0)))),
   setL (obs.map (Ob.mapk (V1.killw (ρ ++ (List.range new.length).map (obs.length + ·)) (kq.map fun k => ρ.getD ((plc k.2.2).getD 0) 0)))) ρ (lo'.map (Ob.ren (phi ρ gs.length obs.length))) ++ new.map (Ob.ren (phi ρ gs.length obs.length))⟩) : AL P E ops QQ (o :: rest) ⟨n,ts,obs⟩ := by
 have hk2 : kq.map (fun k => gs[k.1]?) = kq.map (fun k => gs[k.1]?) := rfl
 exact L_lentF (st := ⟨n,ts,obs⟩) ρ kq ho hg hc hρ hlt hl1 hl2 J hlo hgn ha hgs hk1 hk2 hk3 hcl hb1 hb2 (by rw [hd]; exact hl) (by rw [hd]; exact h)
end
end
end Go.Proofs.YtpmacgnmlmmojaaGreatDoor
