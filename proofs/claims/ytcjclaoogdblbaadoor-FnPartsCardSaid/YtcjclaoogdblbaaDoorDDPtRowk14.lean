/-
  Parts of the proof (rules, data, and what functions of the program and of the reference return), among them: Bodies, worlds and spectators as data; how the laws compare and mark them; What a valid level is, in the program and in the reference.
  Conditions: those that each theorem names.
-/
import Derived.Test.YtcjclaoogdblbaaDoorDDPtRowk13
set_option linter.unusedSimpArgs false
set_option linter.unusedVariables false
set_option maxRecDepth 8000
namespace Go.Proofs.YtcjclaoogdblbaaDoor
section
open Go.RowKit

section
variable {P : Program} {E : Env} {ops : Array Oper} {o : Oper} {st : St} {n : Nat} {rest : List Oper} {QQ : Exit → St → Prop} {w w' : World} {H H' : Hs} {F F' : Nat → Prop} {a : Act}
theorem inP.moreF (hF : ∀ b,F b → F' b) {ps : List Nat} {b : Nat} (h : inP H F ps b) : inP H F' ps b := by
 rcases h with h | h
 ·exact .inl (hF b h)
 ·exact .inr h
theorem R1.moreF (hF : ∀ b,F b → F' b) {x : V1} {v : Value} (h : R1 w H F x v) : R1 w H F' x v := by
 cases x with
 | rd ps x => exact RO.weak h fun b hb _ => hb.moreF hF
 | rp ps xs =>
  obtain ⟨b,o,e,hb,hr⟩ := h
  exact ⟨b,o,e,hb.moreF hF,fun j t hj => by obtain ⟨u,h1,h2⟩ := hr j t hj; exact ⟨u,h1,h2.weak fun b hb _ => hb.moreF hF⟩⟩
 | _ => exact h
theorem R0.mapkF (h : R0 w H F st a) (k : V1 → V1) (hk : ∀ x v,R1 w H F x v → R1 w' H' F' (k x) v) (hok : Ok w' H' F') (objs' : List Ob) (hob : ∀ p,RB w' H' F' p (objs'.getD p .gone)) :
  R0 w' H' F' ⟨st.n,st.tmps.map fun e => (e.1,e.2.mapk k),objs'⟩ a := by
 refine ⟨hok,hob,fun d => ?_,h.size,h.defers⟩
 have hl : ∀ l : List (Nat × V),RV w H F (look l d) (a.tmps.getD d undef) → RV w' H' F' (look (l.map fun e => (e.1,e.2.mapk k)) d) (a.tmps.getD d undef) := by
  intro l
  induction l with
  | nil => intro _; trivial
  | cons e l ih =>
   obtain ⟨e1,e2⟩ := e
   rw [List.map_cons,Yk,Yk]
   split
   ·exact RV.mapk hk
   ·exact ih
 exact hl _ (h.tmp d)
def lendF1 (ρ : List Nat) : V1 → V1
 | .rd [] x => .rd [] x
 | .rd _ (.v u) => .rd [] (.v u)
 | .ptr p i => match idxN ρ p 0 with
  | some q => .ptr q i
  | none => .un
 | .ref p => match idxN ρ p 0 with
  | some q => .ref q
  | none => .un
 | _ => .un
def lendF (ρ : List Nat) : V → V2
 | .o (.c x) => .c (lendF1 ρ x)
 | .o (.ag xs) => .ag (xs.map (lendF1 ρ))
 | _ => .c .un
theorem lendF1_ok {ρ : List Nat} {H1 : Hs} (a1 : ∀ q p,ρ[q]? = some p → H1 q = H p) {x : V1} {v : Value} (hx : R1 w H F x v) : R1 w H1 F (lendF1 ρ x) v := by
 unfold lendF1
 split
 ·exact RO.weak hx fun b hb _ => by
   rcases hb with h | ⟨p,hp,_⟩
   ·exact .inl h
   ·cases hp
 ·obtain ⟨rfl,h⟩ := RO.plain hx
  exact RO.v _ h
 ·split
  ·rename_i p i _ q hq
   obtain ⟨g,t,vs,e,hv⟩ := hx
   have h1 := (idxN_ok ρ p 0 q hq).2
   rw [Nat.sub_zero] at h1
   exact ⟨g,t,vs,by rw [a1 q p h1,e],hv⟩
  ·trivial
 ·split
  ·rename_i p _ q hq
   obtain ⟨x,fp,e⟩ := hx
   have h1 := (idxN_ok ρ p 0 q hq).2
   rw [Nat.sub_zero] at h1
   exact ⟨x,fp,by rw [a1 q p h1,e]⟩
  ·trivial
 ·trivial
def V1.clF : V1 → Bool
 | .rd [] _ => true
 | .rd _ (.sl _ _) => false
 | .rp _ _ => false
 | _ => true
def V2.clF : V2 → Bool
 | .c x => x.clF
 | .ag xs => xs.all V1.clF
def V.clF : V → Bool
 | .o x => x.clF
 | .tu xs => xs.all V2.clF
 | .iff _ x => x.clF
def Ob.bkF : Ob → Bool
 | .box cs => cs.all V1.clF
 | .row _ _ => true
 | _ => false
section
variable {H2 : Hs} {F2 : Nat → Prop} {φ : Nat → Nat}
theorem plantw1F (hpl : ∀ q,H2 q ≠ .nil → (∀ i v,H2 q ≠ .gh i v) → H' (φ q) = H2 q) {x : V1} {v : Value} (hc : x.clF = true) (hx : R1 w H2 F2 x v) : R1 w H' F2 (x.ren φ) v := by
 cases x with
 | rd ps x =>
  cases ps with
  | nil =>
   exact RO.weak hx fun b hb _ => by
    rcases hb with h | ⟨p,hp,_⟩
    ·exact .inl h
    ·cases hp
  | cons p ps =>
   cases x with
   | v x => obtain ⟨rfl,h⟩ := RO.plain hx; exact RO.v _ h
   | sl k es => simp [V1.clF] at hc
   | un => exact RO.un _ (RO.one hx)
 | rp => simp [V1.clF] at hc
 | ref q => exact plantw1 hpl (x := .ref q) rfl hx
 | ptr q i => exact plantw1 hpl (x := .ptr q i) rfl hx
 | sb q i j => exact plantw1 hpl (x := .sb q i j) rfl hx
 | el q k i j => exact plantw1 hpl (x := .el q k i j) rfl hx
 | le q k i j => exact plantw1 hpl (x := .le q k i j) rfl hx
 | hd q i => exact plantw1 hpl (x := .hd q i) rfl hx
 | tl q k i => exact plantw1 hpl (x := .tl q k i) rfl hx
 | un => trivial
theorem plantw2F (hpl : ∀ q,H2 q ≠ .nil → (∀ i v,H2 q ≠ .gh i v) → H' (φ q) = H2 q) {x : V2} {v : Value} (hc : x.clF = true) (hx : R2 w H2 F2 x v) : R2 w H' F2 (x.ren φ) v := by
 cases x with
 | c x => exact plantw1F hpl hc hx
 | ag xs =>
  obtain ⟨us,e,hl,hr⟩ := hx
  refine ⟨us,e,by simpa using hl,fun i x u hi hu => ?_⟩
  rw [List.getElem?_map] at hi
  obtain ⟨c,h1,rfl⟩ := Option.map_eq_some_iff.1 hi
  exact plantw1F hpl (List.all_eq_true.1 hc c (Yg h1)) (hr i c u h1 hu)
theorem plantwVF (hpl : ∀ q,H2 q ≠ .nil → (∀ i v,H2 q ≠ .gh i v) → H' (φ q) = H2 q) {x : V} {v : Value} (hc : x.clF = true) (hx : RV w H2 F2 x v) : RV w H' F2 (x.ren φ) v := by
 cases x with
 | o x => exact plantw2F hpl hc hx
 | tu xs =>
  obtain ⟨us,e,hl,hr⟩ := hx
  refine ⟨us,e,by simpa using hl,fun i x u hi hu => ?_⟩
  rw [List.getElem?_map] at hi
  obtain ⟨c,h1,rfl⟩ := Option.map_eq_some_iff.1 hi
  exact plantw2F hpl (List.all_eq_true.1 hc c (Yg h1)) (hr i c u h1 hu)
 | iff cs x => exact ⟨fun h => plantw2F hpl hc (hx.1 h),hx.2⟩
theorem bkF_ng {q : Nat} {ob : Ob} (hb : ob.bkF = true) (h : RB w H2 F2 q ob) : H2 q ≠ .nil ∧ ∀ i v,H2 q ≠ .gh i v := by
 cases ob with
 | box cs => obtain ⟨g,t,vs,e,_⟩ := h; rw [e]; simp
 | row k es => obtain ⟨v,fp,e⟩ := h; rw [e]; simp
 | _ => cases hb
theorem plantwBF (hpl : ∀ q,H2 q ≠ .nil → (∀ i v,H2 q ≠ .gh i v) → H' (φ q) = H2 q) {q p : Nat} {ob : Ob} (hp : H' p = H2 q) (hb : ob.bkF = true) (h : RB w H2 F2 q ob) : RB w H' F2 p (ob.ren φ) := by
 cases ob with
 | box cs =>
  obtain ⟨g,t,vs,e,hl,hr⟩ := h
  refine ⟨g,t,vs,hp.trans e,by simpa using hl,fun i c u hi hu => ?_⟩
  rw [List.getElem?_map] at hi
  obtain ⟨c',h1,rfl⟩ := Option.map_eq_some_iff.1 hi
  exact ⟨plantw1F hpl (List.all_eq_true.1 hb c' (Yg h1)) (hr i c' u h1 hu).1,(hr i c' u h1 hu).2⟩
 | row k es => obtain ⟨v,fp,e⟩ := h; exact ⟨v,fp,hp.trans e⟩
 | _ => cases hb
end
theorem L_lentF {f : FuncId} [hf : FunOk P f] {ass : Array Operand} {tys : Array TypeId} {args : List V2} {lo lo' new : List Ob} {gs gs' : List (Nat × V2)} {res : V} (ρ : List Nat) (kq : List (Nat × Nat × V1)) (ho : o.op = .call { callee := .value (.func f),args := ass,argTypes := tys }) (hg : o.guard = none)
  (hc : Con P f (lo ++ gs.map gh1) args (lo' ++ (gs'.map gh1 ++ new)) res) (hρ : nodupB ρ = true) (hlt : ρ.all (fun p => Nat.blt p st.objs.length) = true) (hl1 : lo.length = ρ.length) (hl2 : lo'.length = ρ.length) (hl3 : gs'.length = gs.length)
  (hlo : lo.map (Ob.ren (rho ρ st.objs.length)) = ρ.map fun p => st.objs.getD p .gone) (hgn : ρ.all (fun p => (st.objs.getD p .gone).back || (match st.objs.getD p .gone with | .box _ => true | _ => false)) = true) (ha : ass.toList.map (fun y => lendF ρ (st.ev y)) = args)
  (hgs : gs.map (fun g => gsrc args lo g.1) = gs.map (fun g => some g.2)) (hk1 : kq.map (fun k => gs[k.1]?.bind fun g => pickC g.2 k.2.1) = kq.map (fun k => some k.2.2)) (hk2 : kq.map (fun k => gs'[k.1]?) = kq.map (fun k => gs[k.1]?)) (hk3 : kq.all (fun k => match plc k.2.2 with | some q => Nat.blt q ρ.length | none => false) = true)
  (hcl : res.clF = true) (hb1 : lo'.all Ob.bkF = true) (hb2 : new.all Ob.bkF = true) (hd : dstOk st.n o.dst = true)
  (h : AL P E ops QQ rest ⟨st.n,setT (st.tmps.map fun e => (e.1,e.2.mapk (V1.killw (ρ ++ (List.range new.length).map (st.objs.length + ·)) (kq.map fun k => ρ.getD ((plc k.2.2).getD 0) 0)))) o.dst (res.ren (phi ρ gs.length st.objs.length)),
   setL (st.objs.map (Ob.mapk (V1.killw (ρ ++ (List.range new.length).map (st.objs.length + ·)) (kq.map fun k => ρ.getD ((plc k.2.2).getD 0) 0)))) ρ (lo'.map (Ob.ren (phi ρ gs.length st.objs.length))) ++ new.map (Ob.ren (phi ρ gs.length st.objs.length))⟩) : AL P E ops QQ (o :: rest) st := by
 refine ⟨fun a w ⟨H,F,hr,hsince⟩ => ?_⟩
 have hrun : (execOp a.eval o).run P w = .ok (.enter f (ass.toList.map a.eval).toArray) w := by
  unfold execOp
  simp only [ho,resolve,Act.eval,Deferred.ofValue,Sem.run_bind,Sem.run_pure,Result.andThen_ok,invoke]
  rw [show (#[] ++ ass.map a.eval ++ #[]) = (ass.toList.map a.eval).toArray by
   apply Array.ext'
   simp]
  exact run_callFunc _
 refine wpList_step fun K hK => ?_
 rw [if_pos (by unfold Region.wanted; rw [hg])]
 unfold Oper.wp
 rw [hrun]
 have hnd : ρ.Nodup := Yo hρ
 have hltN : ∀ p ∈ ρ,p < st.objs.length := fun p hp => Nat.le_of_ble_eq_true (List.all_eq_true.1 hlt p hp)
 have hnilN : ∀ p,st.objs.length ≤ p → H p = .nil := fun p hp => by
  have := hr.obs p
  simpa [List.getD_eq_getElem?_getD,hp,RB] using this
 have hinj : ∀ (i j p : Nat),ρ[i]? = some p → ρ[j]? = some p → i = j := fun i j p h1 h2 => by
  obtain ⟨a1,e1⟩ := List.getElem?_eq_some_iff.1 h1
  obtain ⟨a2,e2⟩ := List.getElem?_eq_some_iff.1 h2
  rcases Nat.lt_trichotomy i j with hij | hij | hij
  ·exact absurd (e1.trans e2.symm) (List.pairwise_iff_getElem.1 hnd i j a1 a2 hij)
  ·exact hij
  ·exact absurd (e2.trans e1.symm) (List.pairwise_iff_getElem.1 hnd j i a2 a1 hij)
 obtain ⟨vs,hvs⟩ : ∃ vs,vs = ass.toList.map a.eval := ⟨_,rfl⟩
 obtain ⟨gv,hgv⟩ : ∃ gv : Nat → Value,gv = fun i => match args[i]? with | some _ => vs.getD i undef | none => pcV (H (ρ.getD (i - args.length) 0)) := ⟨_,rfl⟩
 obtain ⟨H1,hH1⟩ : ∃ H1 : Hs,H1 = fun q => match ρ[q]? with | some p => H p | none => match gs[q - ρ.length]? with | some g => if ρ.length ≤ q then .gh g.1 (gv g.1) else .nil | none => .nil := ⟨_,rfl⟩
 have a1 : ∀ q p,ρ[q]? = some p → H1 q = H p := fun q p hq => by rw [hH1]; simp only [hq]
 have a2 : ∀ j g,gs[j]? = some g → H1 (ρ.length + j) = .gh g.1 (gv g.1) := fun j g hj => by
  rw [hH1]
  have : ρ[ρ.length + j]? = none := List.getElem?_eq_none (by omega)
  simp only [this,Nat.add_sub_cancel_left,hj]
  rw [if_pos (by omega)]
 have a3 : ∀ q b,b ∈ (H1 q).fp → ∃ p,ρ[q]? = some p ∧ b ∈ (H p).fp := fun q b hb => by
  cases hq : ρ[q]? with
  | some p => rw [a1 q p hq] at hb; exact ⟨p,rfl,hb⟩
  | none =>
   rw [hH1] at hb
   simp only [hq] at hb
   split at hb
   ·split at hb <;> simp [Pc.fp] at hb
   ·simp [Pc.fp] at hb
 have a4 : ∀ q i v,H1 q = .gh i v → (∃ p,ρ[q]? = some p ∧ H p = .gh i v) ∨ v = gv i := fun q i v hq => by
  cases hp : ρ[q]? with
  | some p => rw [a1 q p hp] at hq; exact .inl ⟨p,rfl,hq⟩
  | none =>
   rw [hH1] at hq
   simp only [hp] at hq
   split at hq
   ·split at hq
    ·simp only [Pc.gh.injEq] at hq
     exact .inr (by rw [← hq.2,hq.1])
    ·cases hq
   ·cases hq
 obtain ⟨F1,hF1⟩ : ∃ F1 : Nat → Prop,F1 = F := ⟨_,rfl⟩
 have hFF : ∀ b,F b → F1 b := fun b hb => by rw [hF1]; exact hb
 have hsubH : ∀ q,H (rho ρ st.objs.length q) ≠ .nil → H1 q = H (rho ρ st.objs.length q) := fun q hq => by
  cases hp : ρ[q]? with
  | some p => rw [a1 q p hp]; simp [rho,List.getD_eq_getElem?_getD,hp]
  | none => exact absurd (hnilN _ (by simp [rho,List.getD_eq_getElem?_getD,hp])) hq
 have hgok : ∀ p ∈ ρ,H p ≠ .nil ∧ ∀ i v,H p ≠ .gh i v := fun p hp => by
  have h1 := List.all_eq_true.1 hgn p hp
  have h2 := hr.obs p
  cases ho : st.objs.getD p .gone with
  | box cs => rw [ho] at h2; obtain ⟨g,t,us,e,_⟩ := h2; rw [e]; simp
  | row k es => rw [ho] at h2; obtain ⟨v,fp,e⟩ := h2; rw [e]; simp
  | gone => rw [ho] at h1; cases h1
  | hole => rw [ho] at h1; cases h1
  | gh => rw [ho] at h1; cases h1
  | shr => rw [ho] at h1; cases h1
 have hok1 : Ok w H1 F1 := by
  refine ⟨fun q => ?_,fun q => ?_,fun q r b h1 h2 => ?_,fun q b h1 h2 => ?_,fun b hb => by rw [hF1] at hb; exact hr.ok.flt b hb⟩
  ·cases hp : ρ[q]? with
   | some p => rw [a1 q p hp]; exact hr.ok.says p
   | none =>
    rw [hH1]
    simp only [hp]
    split
    ·split <;> trivial
    ·trivial
  ·cases hp : ρ[q]? with
   | some p => rw [a1 q p hp]; exact hr.ok.nodup p
   | none =>
    rw [hH1]
    simp only [hp]
    split
    ·split <;> simp [Pc.fp]
    ·simp [Pc.fp]
  ·obtain ⟨p,e1,e2⟩ := a3 q b h1
   obtain ⟨p',e3,e4⟩ := a3 r b h2
   have := hr.ok.disj p p' b e2 e4
   subst this
   exact hinj q r p e1 e3
  ·obtain ⟨p,e1,e2⟩ := a3 q b h1
   rw [hF1] at h2
   exact hr.ok.free p b e2 h2
 have hargs1 : ∀ (i : Nat) (x : V2) (v : Value),args[i]? = some x → vs[i]? = some v → R2 w H1 F1 x v := by
  intro i x v hx hv
  rw [← ha,List.getElem?_map] at hx
  obtain ⟨y,h1,rfl⟩ := Option.map_eq_some_iff.1 hx
  rw [hvs,List.getElem?_map,h1] at hv
  simp only [Option.map_some,Option.some.injEq] at hv
  subst hv
  have h2 := hr.ev y
  have hl1 : ∀ {x : V1} {v : Value},R1 w H F x v → R1 w H1 F1 (lendF1 ρ x) v := fun hx => by rw [hF1]; exact lendF1_ok a1 hx
  cases he : st.ev y with
  | o x =>
   rw [he] at h2
   cases x with
   | c x => exact hl1 h2
   | ag xs =>
    obtain ⟨us,e,hl,hcs⟩ := h2
    refine ⟨us,e,by simpa using hl,fun i x u hi hu => ?_⟩
    rw [List.getElem?_map] at hi
    obtain ⟨c,h3,rfl⟩ := Option.map_eq_some_iff.1 hi
    exact hl1 (hcs i c u h3 hu)
  | tu xs => trivial
  | iff cs x => trivial
 have hgsat : ∀ (j : Nat) (g : Nat × V2),gs[j]? = some g → gsrc args lo g.1 = some g.2 := fun j g hj => by
  have := congrArg (·[j]?) hgs
  simpa [hj] using this
 have hvl : vs.length = args.length := by rw [hvs,← ha]; simp
 have hvat : ∀ (i : Nat) (x : V2),args[i]? = some x → vs[i]? = some (vs.getD i undef) := fun i x hx => by
  have : i < vs.length := by rw [hvl]; exact Yf hx
  simp [List.getD_eq_getElem?_getD,this]
 have hobsL : ∀ q (hq : q < ρ.length) (hq' : q < lo.length),RB w H1 F1 q lo[q] := by
  intro q hq hq'
  have hp : ρ[q]? = some ρ[q] := List.getElem?_eq_getElem hq
  have hlq : lo[q]? = some (lo[q]'(by omega)) := List.getElem?_eq_getElem (by omega)
  have h1 := congrArg (·[q]?) hlo
  simp only [List.getElem?_map,hlq,hp,Option.map_some,Option.some.injEq] at h1
  have h2 := hr.obs ρ[q]
  rw [← h1] at h2
  have hf : rho ρ st.objs.length q = ρ[q] := by simp [rho,List.getD_eq_getElem?_getD,hq]
  have h3 : RB w (fun p => H (rho ρ st.objs.length p)) F q (lo[q]'(by omega)) := RB.ren (f := rho ρ st.objs.length) (by rw [hf]; exact h2)
  exact RB.sub (H := fun p => H (rho ρ st.objs.length p)) hsubH hFF (by simp only [hf]; exact (hgok _ (List.getElem_mem hq)).1) h3
 have hgat : ∀ (j : Nat) (g : Nat × V2),gs[j]? = some g → R2 w H1 F1 g.2 (gv g.1) := fun j g hj => by
  have h1 := hgsat j g hj
  unfold gsrc at h1
  rw [hgv]
  cases ha1 : args[g.1]? with
  | some x =>
   rw [ha1] at h1
   simp only [Option.some.injEq] at h1
   subst h1
   simp only [ha1]
   exact hargs1 _ _ _ ha1 (hvat _ _ ha1)
  | none =>
   rw [ha1] at h1
   simp only [ha1]
   simp only at h1
   split at h1
   ·rename_i k es hlo1
    have hq := Yf hlo1
    have hq1 : g.1 - args.length < ρ.length := by omega
    have h2 := hobsL _ hq1 hq
    rw [(List.getElem?_eq_some_iff.1 hlo1).2] at h2
    obtain ⟨v,fp,e⟩ := h2
    have h3 := a1 (g.1 - args.length) (ρ[g.1 - args.length]) (List.getElem?_eq_getElem hq1)
    rw [show ρ.getD (g.1 - args.length) 0 = ρ[g.1 - args.length] by simp [List.getD_eq_getElem?_getD,hq1],← h3,e]
    simp only [Option.some.injEq] at h1
    rw [← h1]
    exact ⟨_,_,e⟩
   ·cases h1
 have hobs1 : ∀ q,RB w H1 F1 q ((lo ++ gs.map gh1).getD q .gone) := by
  intro q
  rcases Nat.lt_or_ge q ρ.length with hq | hq
  ·rw [show (lo ++ gs.map gh1).getD q .gone = lo[q]'(by omega) by simp [List.getD_eq_getElem?_getD,List.getElem?_append_left (show q < lo.length by omega),hl1,hq]]
   exact hobsL q hq (by omega)
  ·cases hj : gs[q - ρ.length]? with
   | some g =>
    rw [show (lo ++ gs.map gh1).getD q .gone = gh1 g by simp [List.getD_eq_getElem?_getD,List.getElem?_append_right (show lo.length ≤ q by omega),hl1,hj]]
    have h1 := a2 _ g hj
    rw [show ρ.length + (q - ρ.length) = q by omega] at h1
    exact ⟨_,h1,hgat _ g hj⟩
   | none =>
    rw [show (lo ++ gs.map gh1).getD q .gone = .gone by simp [List.getD_eq_getElem?_getD,List.getElem?_append_right (show lo.length ≤ q by omega),hl1,hj]]
    show H1 q = .nil
    rw [hH1]
    have : ρ[q]? = none := List.getElem?_eq_none (by omega)
    simp only [this,hj]
 rw [← hvs]
 refine (hc w H1 F1 vs hok1 hobs1 hvl hargs1).mono ?_
 rintro e w' ⟨H2,F2,rv,rfl,hsi,hok2,hobs2,hres⟩
 -- the pieces that come back
 have hoL : ∀ q,q < ρ.length → ∃ ob,lo'[q]? = some ob ∧ ob.bkF = true ∧ RB w' H2 F2 q ob := fun q hq => by
  have hlq : lo'[q]? = some (lo'[q]'(by omega)) := List.getElem?_eq_getElem (by omega)
  have h1 := hobs2 q
  rw [show (lo' ++ (gs'.map gh1 ++ new)).getD q .gone = lo'[q]'(by omega) by simp [List.getD_eq_getElem?_getD,List.getElem?_append_left (show q < lo'.length by omega),hl2,hq]] at h1
  exact ⟨_,hlq,List.all_eq_true.1 hb1 _ (List.getElem_mem _),h1⟩
 have hoG : ∀ (j : Nat) (g : Nat × V2),gs'[j]? = some g → ∃ v,H2 (ρ.length + j) = .gh g.1 v ∧ R2 w' H2 F2 g.2 v := fun j g hj => by
  have h1 := hobs2 (ρ.length + j)
  rw [show (lo' ++ (gs'.map gh1 ++ new)).getD (ρ.length + j) .gone = gh1 g by
   have : j < (gs'.map gh1).length := by simpa using Yf hj
   simp [List.getD_eq_getElem?_getD,List.getElem?_append_right (show lo'.length ≤ ρ.length + j by omega),hl2,List.getElem?_append_left this,hj]] at h1
  exact h1
 have hoN : ∀ r ob,new[r]? = some ob → RB w' H2 F2 (ρ.length + gs.length + r) ob := fun r ob hj => by
  have h1 := hobs2 (ρ.length + gs.length + r)
  rw [show (lo' ++ (gs'.map gh1 ++ new)).getD (ρ.length + gs.length + r) .gone = ob by
   simp [List.getD_eq_getElem?_getD,List.getElem?_append_right (show lo'.length ≤ ρ.length + gs.length + r by omega),hl2,List.getElem?_append_right (show (gs'.map gh1).length ≤ gs.length + r by simp [hl3]),show ρ.length + gs.length + r - ρ.length = gs.length + r by omega,hl3,hj]] at h1
  exact h1
 have hoX : ∀ q,ρ.length + gs.length + new.length ≤ q → H2 q = .nil := fun q hq => by
  have h1 := hobs2 q
  rw [show (lo' ++ (gs'.map gh1 ++ new)).getD q .gone = .gone by rw [List.getD_eq_getElem?_getD,List.getElem?_eq_none (by simp; omega)]; rfl] at h1
  exact h1
 obtain ⟨H',hH'⟩ : ∃ H' : Hs,H' = fun p => match idxN ρ p 0 with | some q => H2 q | none => if st.objs.length ≤ p then H2 (ρ.length + gs.length + (p - st.objs.length)) else H p := ⟨_,rfl⟩
 have b1 : ∀ q p,ρ[q]? = some p → H' p = H2 q := fun q p hq => by
  rw [hH']
  cases hi : idxN ρ p 0 with
  | some q' =>
   obtain ⟨_,h2⟩ := idxN_ok ρ p 0 q' hi
   rw [Nat.sub_zero] at h2
   simp only [hi]
   rw [hinj q q' p hq h2]
  | none => exact absurd (Yg hq) (idxN_none ρ p 0 hi)
 have bn : ∀ p,p ∉ ρ → idxN ρ p 0 = none := fun p hp => by
  cases hi : idxN ρ p 0 with
  | none => rfl
  | some q' => exact absurd (Yg (idxN_ok ρ p 0 q' hi).2) hp
 have b2 : ∀ p,p ∉ ρ → p < st.objs.length → H' p = H p := fun p hp hlt => by
  rw [hH']
  simp only [bn p hp]
  rw [if_neg (by omega)]
 have b3 : ∀ r,H' (st.objs.length + r) = H2 (ρ.length + gs.length + r) := fun r => by
  have hp : st.objs.length + r ∉ ρ := fun hm => by have := hltN _ hm; omega
  rw [hH']
  simp only [bn _ hp]
  rw [if_pos (by omega),Nat.add_sub_cancel_left]
 -- where each piece comes from
 have hcase : ∀ p,(∃ q,H' p = H2 q ∧ (ρ[q]? = some p ∨ (st.objs.length ≤ p ∧ q = ρ.length + gs.length + (p - st.objs.length)))) ∨ (p ∉ ρ ∧ p < st.objs.length ∧ H' p = H p) := fun p => by
  by_cases hp : p ∈ ρ
  ·obtain ⟨q,hq⟩ := List.getElem?_of_mem hp
   exact .inl ⟨q,b1 q p hq,.inl hq⟩
  ·rcases Nat.lt_or_ge p st.objs.length with h1 | h1
   ·exact .inr ⟨hp,h1,b2 p hp h1⟩
   ·have h2 := b3 (p - st.objs.length)
    rw [show st.objs.length + (p - st.objs.length) = p by omega] at h2
    exact .inl ⟨_,h2,.inr ⟨h1,J⟩⟩
 have hfp2 : ∀ q b,b ∈ (H2 q).fp → (∃ p ∈ ρ,b ∈ (H p).fp) ∨ w.heap.size ≤ b := fun q b hb => by
  rcases hsi.org q b hb with ⟨q',h1⟩ | h1
  ·obtain ⟨p,e1,e2⟩ := a3 q' b h1
   exact .inl ⟨p,Yg e1,e2⟩
  ·exact .inr h1
 have hblk : ∀ b,b < w.heap.size → (∀ p ∈ ρ,b ∉ (H p).fp) → w'.heap[b]? = w.heap[b]? := fun b h1 h2 => hsi.keep b h1 fun q hq => by
  obtain ⟨p,e1,e2⟩ := a3 q b hq
  exact h2 p (Yg e1) e2
 have hold : ∀ p b,p ∉ ρ → b ∈ (H p).fp → w'.heap[b]? = w.heap[b]? := fun p b hp hb => hblk b (hr.ok.lt hb) fun r hr' hb' => hp (hr.ok.disj p r b hb hb' ▸ hr')
 have hok' : Ok w' H' F := by
  refine ⟨fun p => ?_,fun p => ?_,fun p r b h1 h2 => ?_,fun p b h1 h2 => ?_,fun b hb => Nat.lt_of_lt_of_le (hr.ok.flt b hb) hsi.size⟩
  ·rcases hcase p with ⟨q,e,_⟩ | ⟨h1,_,e⟩
   ·rw [e]; exact hok2.says q
   ·rw [e]; exact Pc.frame (fun b hb => hold p b h1 hb) (hr.ok.says p)
  ·rcases hcase p with ⟨q,e,_⟩ | ⟨_,_,e⟩
   ·rw [e]; exact hok2.nodup q
   ·rw [e]; exact hr.ok.nodup p
  ·rcases hcase p with ⟨q,e,hq⟩ | ⟨n1,l1,e⟩ <;> rcases hcase r with ⟨q',e',hq'⟩ | ⟨n2,l2,e'⟩ <;> rw [e] at h1 <;> rw [e'] at h2
   ·have := hok2.disj q q' b h1 h2
    subst this
    rcases hq with hq | ⟨hq,hq2⟩ <;> rcases hq' with hq' | ⟨hq',hq2'⟩
    ·rw [hq] at hq'; exact Option.some.inj hq'
    ·have := Yf hq; omega
    ·have := Yf hq'; omega
    ·omega
   ·rcases hfp2 q b h1 with ⟨p',hp',hb'⟩ | hb'
    ·have := hr.ok.disj p' r b hb' h2
     exact absurd (this ▸ hp') n2
    ·have := hr.ok.lt h2; omega
   ·rcases hfp2 q' b h2 with ⟨p',hp',hb'⟩ | hb'
    ·have := hr.ok.disj p' p b hb' h1
     exact absurd (this ▸ hp') n1
    ·have := hr.ok.lt h1; omega
   ·exact hr.ok.disj p r b h1 h2
  ·rcases hcase p with ⟨q,e,_⟩ | ⟨_,_,e⟩ <;> rw [e] at h1
   ·rcases hfp2 q b h1 with ⟨p',hp',hb'⟩ | hb'
    ·exact hr.ok.free p' b hb' h2
    ·have := hr.ok.flt b h2; omega
   ·exact hr.ok.free p b h1 h2
 have hng : ∀ q,(q < ρ.length ∨ ρ.length + gs.length ≤ q) → ∀ i v,H2 q ≠ .gh i v := fun q hq i v e => by
  rcases hq with hq | hq
  ·obtain ⟨ob,_,h2,h3⟩ := hoL q hq
   exact (bkF_ng h2 h3).2 i v e
  ·rcases Nat.lt_or_ge (q - (ρ.length + gs.length)) new.length with h1 | h1
   ·have h2 := hoN _ _ (List.getElem?_eq_getElem h1)
    rw [show ρ.length + gs.length + (q - (ρ.length + gs.length)) = q by omega] at h2
    exact (bkF_ng (List.all_eq_true.1 hb2 _ (List.getElem_mem h1)) h2).2 i v e
   ·rw [hoX q (by omega)] at e; cases e
 have htn : Turn w H w' H' (ρ ++ (List.range new.length).map (st.objs.length + ·)) := by
  refine ⟨hsi.os,hsi.tape,hsi.output,hsi.size,fun b h1 h2 => hblk b h1 fun p hp => h2 p (by simp [hp]),fun p hp => ?_,fun p b hb => ?_,fun p i v hp => ?_⟩
  ·simp only [List.mem_append,List.mem_map,List.mem_range,not_or] at hp
   rcases hcase p with ⟨q,e,hq⟩ | ⟨_,_,e⟩
   ·rcases hq with hq | ⟨hq,hq2⟩
    ·exact absurd (Yg hq) hp.1
    ·have h1 : ¬ p - st.objs.length < new.length := fun h => hp.2 ⟨_,h,by omega⟩
     rw [e,hoX q (by omega),hnilN p hq]
   ·exact e
  ·rcases hcase p with ⟨q,e,_⟩ | ⟨_,_,e⟩ <;> rw [e] at hb
   ·rcases hfp2 q b hb with ⟨p',_,hb'⟩ | hb'
    ·exact .inl ⟨p',hb'⟩
    ·exact .inr hb'
   ·exact .inl ⟨p,hb⟩
  ·rcases hcase p with ⟨q,e,hq⟩ | ⟨_,_,e⟩ <;> rw [e] at hp
   ·refine absurd hp (hng q ?_ i v)
    rcases hq with hq | ⟨_,hq⟩
    ·exact .inl (Yf hq)
    ·exact .inr (by omega)
   ·exact ⟨p,hp⟩
 have hplace : ∀ p ∈ kq.map (fun k => ρ.getD ((plc k.2.2).getD 0) 0),Place (H p) (H' p) := by
  intro p hp
  obtain ⟨k,hk,rfl⟩ := List.mem_map.1 hp
  obtain ⟨jj,hjj⟩ := List.getElem?_of_mem hk
  have e1 := congrArg (·[jj]?) hk1
  have e2 := congrArg (·[jj]?) hk2
  have e3 := List.all_eq_true.1 hk3 k hk
  simp only [List.getElem?_map,hjj,Option.map_some,Option.some.injEq] at e1 e2
  obtain ⟨g,g1,g2⟩ := Option.bind_eq_some_iff.1 e1
  rw [g1] at e2
  obtain ⟨v,v1,v2⟩ := hoG k.1 g e2
  have hv : v = gv g.1 := by
   obtain ⟨q',hq'⟩ := hsi.gh _ g.1 v v1
   rcases a4 q' g.1 v hq' with ⟨p',h1,h2⟩ | h1
   ·exact absurd h2 ((hgok p' (Yg h1)).2 _ _)
   ·exact h1
  have hent := hgat _ g g1
  rw [← hv] at hent
  have hent := R2.cell hent g2
  have v2 := R2.cell v2 g2
  cases hpl : plc k.2.2 with
  | none => rw [hpl] at e3; cases e3
  | some q =>
   rw [hpl] at e3
   have hq : q < ρ.length := Nat.le_of_ble_eq_true e3
   have hqp : ρ[q]? = some (ρ.getD q 0) := by simp [List.getD_eq_getElem?_getD,hq]
   simp only [Option.getD_some]
   rw [b1 q _ hqp,← a1 q _ hqp]
   cases hx : k.2.2 with
   | ref q' =>
    rw [hx] at hpl hent v2
    simp only [plc,Option.some.injEq] at hpl
    subst hpl
    obtain ⟨x1,f1,k1⟩ := hent
    obtain ⟨x2,f2,k2⟩ := v2
    exact .inl ⟨_,_,_,_,_,k1,k2⟩
   | ptr q' i =>
    rw [hx] at hpl hent v2
    simp only [plc,Option.some.injEq] at hpl
    subst hpl
    obtain ⟨g3,t3,vs3,k1,k2⟩ := hent
    obtain ⟨g4,t4,vs4,k3,k4⟩ := v2
    rw [k2] at k4
    simp only [Value.pointer.injEq,Option.some.injEq,Addr.mk.injEq] at k4
    obtain ⟨rfl,_⟩ := k4
    exact .inr ⟨_,_,_,_,_,k1,k3⟩
   | _ => rw [hx] at hpl; cases hpl
 have hpl : ∀ q,H2 q ≠ .nil → (∀ i v,H2 q ≠ .gh i v) → H' (phi ρ gs.length st.objs.length q) = H2 q := fun q h1 h2 => by
  unfold phi
  split
  ·rename_i hq
   have hq := Nat.le_of_ble_eq_true hq
   exact b1 q _ (by simp [List.getD_eq_getElem?_getD,show q < ρ.length by omega])
  ·rename_i hq
   have hq : ρ.length ≤ q := Nat.le_of_not_lt fun hlt => by rw [show Nat.blt q ρ.length = true from Nat.ble_eq_true_of_le hlt] at hq; cases hq
   have hq2 : ρ.length + gs.length ≤ q := by
    refine Nat.le_of_not_lt fun hlt => ?_
    have hj : q - ρ.length < gs'.length := by omega
    obtain ⟨v,v1,_⟩ := hoG (q - ρ.length) _ (List.getElem?_eq_getElem hj)
    rw [show ρ.length + (q - ρ.length) = q by omega] at v1
    exact h2 _ _ v1
   rw [b3,show ρ.length + gs.length + (q - (ρ.length + gs.length)) = q by omega]
 have hF2 : ∀ b,F b → F2 b := fun b hb => hsi.fF b (hFF b hb)
 have hF3 : ∀ b,F2 b → F b ∨ w.heap.size ≤ b ∨ ∃ p ∈ ρ,b ∈ (H p).fp := fun b hb => by
  rcases hsi.fF' b hb with h1 | h1 | ⟨q,h1⟩
  ·rw [hF1] at h1; exact .inl h1
  ·exact .inr (.inl h1)
  ·obtain ⟨p,e1,e2⟩ := a3 q b h1
   exact .inr (.inr ⟨p,Yg e1,e2⟩)
 have hok2' : Ok w' H' F2 := by
  refine ⟨hok'.says,hok'.nodup,hok'.disj,fun p b h1 h2 => ?_,hok2.flt⟩
  rcases hcase p with ⟨q,e,_⟩ | ⟨n1,_,e⟩ <;> rw [e] at h1
  ·exact hok2.free q b h1 h2
  ·rcases hF3 b h2 with h3 | h3 | ⟨p',hp',h3⟩
   ·exact hr.ok.free p b h1 h3
   ·have := hr.ok.lt h1; omega
   ·exact n1 (hr.ok.disj p' p b h3 h1 ▸ hp')
 have hS2 : Since E w' H' F2 := by
  have hs := hsince.turn htn
  refine ⟨hs.os,hs.tape,hs.output,hs.size,hs.keep,fun b hb => hF2 b (hsince.fF b hb),fun b hb => ?_,hs.org,hs.gh⟩
  rcases hF3 b hb with h3 | h3 | ⟨p',_,h3⟩
  ·exact hsince.fF' b h3
  ·exact .inr (.inl (Nat.le_trans hsince.size h3))
  ·rcases hsince.org p' b h3 with h4 | h4
   ·exact .inr (.inr h4)
   ·exact .inr (.inl h4)
 have hR := hr.mapkF (V1.killw (ρ ++ (List.range new.length).map (st.objs.length + ·)) (kq.map fun k => ρ.getD ((plc k.2.2).getD 0) 0)) (fun x v hx => R1.moreF hF2 (R1.killw hr.ok htn hplace hx)) hok2'
  (setL (st.objs.map (Ob.mapk (V1.killw (ρ ++ (List.range new.length).map (st.objs.length + ·)) (kq.map fun k => ρ.getD ((plc k.2.2).getD 0) 0)))) ρ (lo'.map (Ob.ren (phi ρ gs.length st.objs.length))) ++ new.map (Ob.ren (phi ρ gs.length st.objs.length))) (fun p => ?_)
 ·have hR2 := hR.put (x := res.ren (phi ρ gs.length st.objs.length)) o.dst hd (v := rv) (plantwVF hpl hcl hres)
  exact hK _ _ (h.h _ _ ⟨_,F2,hR2,hS2⟩)
 ·have hsl : (setL (st.objs.map (Ob.mapk (V1.killw (ρ ++ (List.range new.length).map (st.objs.length + ·)) (kq.map fun k => ρ.getD ((plc k.2.2).getD 0) 0)))) ρ (lo'.map (Ob.ren (phi ρ gs.length st.objs.length)))).length = st.objs.length := by rw [setL_len]; simp
  rcases Nat.lt_or_ge p st.objs.length with h1 | h1
  ·rw [List.getD_eq_getElem?_getD,List.getElem?_append_left (by rw [hsl]; exact h1),← List.getD_eq_getElem?_getD]
   by_cases hp : p ∈ ρ
   ·obtain ⟨q,hq⟩ := List.getElem?_of_mem hp
    obtain ⟨ob,k1,k2,k3⟩ := hoL q (Yf hq)
    rw [setL_in ρ _ _ q p (ob.ren (phi ρ gs.length st.objs.length)) hnd (fun r hr' => by simpa using hltN r hr') hq (by rw [List.getElem?_map,k1]; rfl)]
    exact plantwBF hpl (b1 q p hq) k2 k3
   ·rw [setL_out ρ _ _ p hp,List.getD_eq_getElem?_getD,List.getElem?_map,List.getElem?_eq_getElem h1]
    have h2 := hr.obs p
    rw [List.getD_eq_getElem?_getD,List.getElem?_eq_getElem h1] at h2
    exact RB.mapk (fun x v hx => R1.moreF hF2 (R1.killw hr.ok htn hplace hx)) (b2 p hp h1) h2
  ·rw [List.getD_eq_getElem?_getD,List.getElem?_append_right (by rw [hsl]; exact h1),hsl,List.getElem?_map]
   have h2 := b3 (p - st.objs.length)
   rw [show st.objs.length + (p - st.objs.length) = p by omega] at h2
   cases hn : new[p - st.objs.length]? with
   | none => exact h2.trans (hoX _ (by have := List.getElem?_eq_none_iff.1 hn; omega))
   | some ob => exact plantwBF hpl h2 (List.all_eq_true.1 hb2 ob (Yg hn)) (hoN _ ob hn)
theorem Xq {ts : List (Nat × V)} {obs : List Ob} {d : Nat} {f : FuncId} [hf : FunOk P f] {ass : Array Operand} {tys : Array TypeId} {args : List V2} {lo lo' new : List Ob} {gs : List (Nat × V2)} {res : V} (ρ : List Nat) (kq : List (Nat × Nat × V1)) (hc : Con P f (lo ++ gs.map gh1) args (lo' ++ (gs.map gh1 ++ new)) res) (ho : o.op = .call { callee := .value (.func f),args := ass,argTypes := tys }) (hg : o.guard = none)
  (hd : o.dst = some d) (hl : Nat.blt d n = true) (hρ : nodupB ρ = true) (hlt : ρ.all (fun p => Nat.blt p obs.length) = true) (hl1 : lo.length = ρ.length) (hl2 : lo'.length = ρ.length)
  (hlo : lo.map (Ob.ren (rho ρ obs.length)) = ρ.map fun p => obs.getD p .gone) (hgn : ρ.all (fun p => (obs.getD p .gone).back || (match obs.getD p .gone with | .box _ => true | _ => false)) = true) (ha : ass.toList.map (fun y => lendF ρ (St.ev ⟨n,ts,obs⟩ y)) = args)
  (hgs : gs.map (fun g => gsrc args lo g.1) = gs.map (fun g => some g.2)) (hk1 : kq.map (fun k => gs[k.1]?.bind fun g => pickC g.2 k.2.1) = kq.map (fun k => some k.2.2)) (hk3 : kq.all (fun k => match plc k.2.2 with | some q => Nat.blt q ρ.length | none => false) = true)
  (hcl : res.clF = true) (hb1 : lo'.all Ob.bkF = true) (hb2 : new.all Ob.bkF = true)
  (h : AL P E ops QQ rest ⟨n,(d,res.ren (phi ρ gs.length obs.length)) :: (ts.map fun e => (e.1,e.2.mapk (V1.killw (ρ ++ (List.range new.length).map (obs.length + ·)) (kq.map fun k => ρ.getD ((plc k.2.2).getD 0) 0)))),
   setL (obs.map (Ob.mapk (V1.killw (ρ ++ (List.range new.length).map (obs.length + ·)) (kq.map fun k => ρ.getD ((plc k.2.2).getD 0) 0)))) ρ (lo'.map (Ob.ren (phi ρ gs.length obs.length))) ++ new.map (Ob.ren (phi ρ gs.length obs.length))⟩) : AL P E ops QQ (o :: rest) ⟨n,ts,obs⟩ := by
 have hk2 : kq.map (fun k => gs[k.1]?) = kq.map (fun k => gs[k.1]?) := rfl
 exact L_lentF (st := ⟨n,ts,obs⟩) ρ kq ho hg hc hρ hlt hl1 hl2 J hlo hgn ha hgs hk1 hk2 hk3 hcl hb1 hb2 (by rw [hd]; exact hl) (by rw [hd]; exact h)
end
end
section
open Go.RowKit

theorem els_set {α : Type} [Enc α] (xs : List α) (i : Nat) (x : α) : els (xs.set i x) = (els xs).set i (Enc.e x) := by simp [els,List.map_set]
end
section
open Go.RowKit

theorem flat_one {fps : List (List (List Nat))} {i j : Nat} {G : List (List Nat)} {f : List Nat} (hi : fps[i]? = some G) (hj : G[j]? = some f) : ∃ X Z : List Nat,fps.flatten.flatten = X ++ f ++ Z ∧ ∀ f' : List Nat,(fps.set i (splice G j [f'])).flatten.flatten = X ++ f' ++ Z := by
 obtain ⟨hlt,he⟩ := List.getElem?_eq_some_iff.1 hi
 obtain ⟨hlj,hf⟩ := List.getElem?_eq_some_iff.1 hj
 refine ⟨(fps.take i).flatten.flatten ++ (G.take j).flatten,(G.drop (j + 1)).flatten ++ (fps.drop (i + 1)).flatten.flatten,?_,fun f' => ?_⟩
 ·conv => lhs; rw [← List.take_append_drop i fps,List.drop_eq_getElem_cons hlt,he]
  have hG : G.flatten = (G.take j).flatten ++ f ++ (G.drop (j + 1)).flatten := by
   conv => lhs; rw [← List.take_append_drop j G,List.drop_eq_getElem_cons hlj,hf]
   simp [List.append_assoc]
  rw [List.flatten_append,List.flatten_cons,List.flatten_append,List.flatten_append,hG]
  simp [List.append_assoc]
 ·rw [List.set_eq_take_append_cons_drop,if_pos hlt]
  rw [List.flatten_append,List.flatten_cons,List.flatten_append,List.flatten_append,splice,List.flatten_append,List.flatten_append]
  simp [List.append_assoc]

theorem sep_list {l : List (List Nat)} (hn : l.flatten.Nodup) {i j : Nat} {f g : List Nat} (hi : l[i]? = some f) (hj : l[j]? = some g) (hij : i ≠ j) {x : Nat} (hx : x ∈ f) (hy : x ∈ g) : False := by
 obtain ⟨hp,hq⟩ := List.pairwise_flatten.1 hn
 obtain ⟨h1,rfl⟩ := List.getElem?_eq_some_iff.1 hi
 obtain ⟨h2,rfl⟩ := List.getElem?_eq_some_iff.1 hj
 rcases Nat.lt_or_gt_of_ne hij with h | h
 ·exact (List.pairwise_iff_getElem.1 hq i j h1 h2 h) x hx x hy rfl
 ·exact (List.pairwise_iff_getElem.1 hq j i h2 h1 h) x hy x hx rfl
theorem sep_elems {fps : List (List (List Nat))} (hn : fps.flatten.flatten.Nodup) {i i' j j' : Nat} {G G' : List (List Nat)} {f g : List Nat} (hi : fps[i]? = some G) (hi' : fps[i']? = some G') (hii : i ≠ i') (hf : G[j]? = some f) (hg : G'[j']? = some g) {x : Nat} (hx : x ∈ f) (hy : x ∈ g) : False := by
 have h1 : (fps.map List.flatten).flatten = fps.flatten.flatten := by simp [List.flatten_flatten]
 rw [← h1] at hn
 exact sep_list hn (i := i) (j := i') (f := G.flatten) (g := G'.flatten) (by simp [hi]) (by simp [hi']) hii (List.mem_flatten.2 ⟨f,Yg hf,hx⟩) (List.mem_flatten.2 ⟨g,Yg hg,hy⟩)
theorem sep_cells {fps : List (List (List Nat))} (hn : fps.flatten.flatten.Nodup) {i j j' : Nat} {G : List (List Nat)} {f g : List Nat} (hi : fps[i]? = some G) (hf : G[j]? = some f) (hg : G[j']? = some g) (hjj : j ≠ j') {x : Nat} (hx : x ∈ f) (hy : x ∈ g) : False := by
 have h1 : (fps.map List.flatten).flatten = fps.flatten.flatten := by simp [List.flatten_flatten]
 rw [← h1] at hn
 obtain ⟨hp,_⟩ := List.pairwise_flatten.1 hn
 exact sep_list (hp G.flatten (List.mem_map.2 ⟨G,Yg hi,J⟩)) hf hg hjj hx hy

theorem OW.inner {w : World} {k : Nat} {es : List (List T)} {v : Value} {fp : List Nat} (h : OW w (.sl k es) v fp) (hnd : fp.Nodup) {i j k' : Nat} {e : List T} {es0 : List (List T)} (hi : es[i]? = some e) (hj : e[j]? = some (.sl k' es0)) :
  ∃ b o c u f,v = .slice (some ⟨b,o,none⟩) es.length c ∧ b ∈ fp ∧ w.cell? ⟨b,o + i * k + j,none⟩ = some u ∧ OW w (.sl k' es0) u f ∧ f.Nodup ∧ (∀ x ∈ f,x ∈ fp) ∧
   ∀ (w' : World) (t1 : T) (f' : List Nat),(∀ x ∈ fp,x ∉ f → w'.heap[x]? = w.heap[x]?) → OW w' t1 u f' → f'.Nodup → (∀ x ∈ f',x ∈ f ∨ w.heap.size ≤ x) → (∀ x ∈ fp,x < w.heap.size) →
    ∃ fp',OW w' (.sl k (es.set i (splice e j [t1]))) v fp' ∧ fp'.Nodup ∧ ∀ x ∈ fp',(x ∈ fp ∧ x ∉ f) ∨ x ∈ f' := by
 rcases h.open_ with ⟨rfl,rfl,rfl⟩ | ⟨b,o,c,tid,cur,fz,val,fps,rfl,rfl,hg,hz,hc,hcm,hcs,hp,hk,hff,hfk,hv,ht⟩
 ·simp at hi
 have hil := Yf hi
 have hek : e.length = k := hk e (Yg hi)
 have hjl := Yf hj
 rw [hek] at hjl
 have hfi : fps[i]? = some fps[i] := List.getElem?_eq_getElem (by omega)
 have hfik : (fps[i]'(by omega)).length = k := hfk _ (List.getElem_mem _)
 obtain ⟨G,hG⟩ : ∃ G,G = fps[i]'(by omega) := ⟨_,rfl⟩
 rw [← hG] at hfi hfik
 obtain ⟨f,hf⟩ : ∃ f,G[j]? = some f := ⟨_,List.getElem?_eq_getElem (by omega)⟩
 obtain ⟨X,Z,e1,e2⟩ := flat_one hfi hf
 have hndc := List.nodup_cons.1 hnd
 have hndf := hndc.2
 rw [e1] at hndf
 obtain ⟨n1,n2,n3⟩ := List.nodup_append.1 hndf
 obtain ⟨n4,n5,n6⟩ := List.nodup_append.1 n1
 have hbf : b ∉ f := fun hb => hndc.1 (mem_ff hfi hf hb)
 refine ⟨b,o,c,val i j,f,J,by simp,?_,ht i j e _ G f hi hj hfi hf,n5,fun x hx => List.mem_cons_of_mem _ (mem_ff hfi hf hx),fun w' t1 f' hw hO hn' hf' hlt => ?_⟩
 ·rw [cell_of_row w b _ cur tid fz hg]
  exact hv i j hil hjl
 have hset : (es.set i (splice e j [t1])).length = es.length := by simp
 have hfr : ∀ (i' j' : Nat) (e' : List T) (t : T) (fs : List (List Nat)) (g : List Nat),es[i']? = some e' → e'[j']? = some t → fps[i']? = some fs → fs[j']? = some g → (∀ x ∈ g,x ∉ f) → OW w' t (val i' j') g := fun i' j' e' t fs g g1 g2 g3 g4 hd =>
  (ht i' j' e' t fs g g1 g2 g3 g4).frame fun x hx => hw x (List.mem_cons_of_mem _ (mem_ff g3 g4 hx)) (hd x hx)
 have hold : ∀ x ∈ X ++ f ++ Z,x < w.heap.size := fun x hx => hlt x (List.mem_cons_of_mem _ (by rw [e1]; exact hx))
 have hdX : ∀ x ∈ X,x ∉ f' := fun x hx hx' => by
  rcases hf' x hx' with h1 | h1
  ·exact n6 x hx x h1 rfl
  ·have := hold x (by simp [hx]); omega
 have hdZ : ∀ x ∈ Z,x ∉ f' := fun x hx hx' => by
  rcases hf' x hx' with h1 | h1
  ·exact n3 x (by simp [h1]) x hx rfl
  ·have := hold x (by simp [hx]); omega
 refine ⟨b :: (fps.set i (splice G j [f'])).flatten.flatten,?_,?_,?_⟩
 ·rw [← hset]
  refine .sl _ b o k c tid cur fz val _ (by rw [hw b (by simp) hbf]; exact hg) hz (by rw [hset]; exact hc) hcm hcs hp ?_ (by simp [hff]) ?_ (fun i' j' hi' hj' => hv i' j' (by rw [← hset]; exact hi') hj') fun i' j' e' t' fs' g' g1 g2 g3 g4 => ?_
  ·intro e' he'
   rcases List.mem_or_eq_of_mem_set he' with he' | rfl
   ·exact hk e' he'
   ·rw [splice_len (by simp; omega),hek]
  ·intro g hg'
   rcases List.mem_or_eq_of_mem_set hg' with hg' | rfl
   ·exact hfk g hg'
   ·rw [splice_len (by simp; omega),hfik]
  ·rw [List.getElem?_set] at g1 g3
   by_cases hii : i = i'
   ·subst hii
    simp only [hil,if_true,Option.some.injEq] at g1
    rw [if_pos rfl,if_pos (by omega)] at g3
    simp only [Option.some.injEq] at g3
    subst g1 g3
    rw [splice_at (by simp; omega)] at g2 g4
    by_cases hcond : j ≤ j' ∧ j' < j + 1
    ·have hjj : j' = j := by omega
     subst hjj
     rw [if_pos (by simp)] at g2 g4
     simp at g2 g4
     subst g2 g4
     exact hO
    ·rw [if_neg (by simpa using hcond)] at g2 g4
     refine hfr i j' e t' G g' hi g2 hfi g4 fun x hx hxf => ?_
     -- two cells of one element own different blocks
     obtain ⟨X2,Z2,e3,e4⟩ := flat_one hfi g4
     exact sep_cells hndc.2 hfi hf g4 (fun e => hcond ⟨by omega,by omega⟩) hxf hx
   ·rw [if_neg hii] at g1 g3
    refine hfr i' j' e' t' fs' g' g1 g2 g3 g4 fun x hx hxf => ?_
    exact sep_elems hndc.2 hfi g3 hii hf g4 hxf hx
 ·rw [e2]
  refine List.nodup_cons.2 ⟨fun hb => ?_,List.nodup_append.2 ⟨List.nodup_append.2 ⟨n4,hn',fun x hx y hy e => hdX x hx (e ▸ hy)⟩,n2,fun x hx y hy e => ?_⟩⟩
  ·rcases List.mem_append.1 hb with hb | hb
   ·rcases List.mem_append.1 hb with hb | hb
    ·exact hndc.1 (by rw [e1]; simp [hb])
    ·rcases hf' b hb with h1 | h1
     ·exact hbf h1
     ·have := hlt b (by simp); omega
   ·exact hndc.1 (by rw [e1]; simp [hb])
  ·rcases List.mem_append.1 hx with hx | hx
   ·exact n3 x (by simp [hx]) y hy e
   ·exact hdZ y hy (e ▸ hx)
 ·rw [e2,e1]
  intro x hx
  rcases List.mem_cons.1 hx with rfl | hx
  ·exact .inl ⟨by simp,hbf⟩
  ·rcases List.mem_append.1 hx with hx | hx
   ·rcases List.mem_append.1 hx with hx | hx
    ·exact .inl ⟨by simp [hx],fun h => n6 x hx x h rfl⟩
    ·exact .inr hx
   ·exact .inl ⟨by simp [hx],fun h => n3 x (by simp [h]) x hx rfl⟩

section
variable {P : Program} {E : Env} {ops : Array Oper} {o : Oper} {st : St} {rest : List Oper} {QQ : Exit → St → Prop} {w : World} {H : Hs} {F : Nat → Prop} {a : Act} {t : TypeId} {y : Operand} {n : Nat}
end
end
section
open Go.RowKit

section
variable {P : Program} {ops : Array Oper} {o : Oper} {st : St} {m : Nat} {t t' : TypeId} {y z : Operand} {ps qs : List Nat}
theorem Q8 {xs : List V2} (ho : o.op = .move y) (hg : o.guard = none) (hy : st.ev y = .tu xs) : Qt P ops o st (.tu xs) [] m :=
 .pure hg fun a w H F hr => ⟨a.eval y,by simp [execOp,ho],by rw [← hy]; exact hr.ev y⟩
end
end
section
open Go.RowKit

def tot (xs : List (List Int)) : Nat := (xs.map List.length).sum
end
section
open Go.RowKit

structure TBody where
 Kind : Int
 Owner : Int
 X : Int
 Y : Int
 VX : Int
 VY : Int
 Aim : Int
 Life : Int
 Timer : Int
 deriving DecidableEq
instance : Enc TBody := ⟨9,by omega,fun x => [.v (.int .i64 x.Kind),.v (.int .i64 x.Owner),.v (.int .i64 x.X),.v (.int .i64 x.Y),.v (.int .i64 x.VX),.v (.int .i64 x.VY),.v (.int .i64 x.Aim),.v (.int .i64 x.Life),.v (.int .i64 x.Timer)],fun _ => rfl,fun x => Enc.gd x.Kind ∧ Enc.gd x.Owner ∧ Enc.gd x.X ∧ Enc.gd x.Y ∧ Enc.gd x.VX ∧ Enc.gd x.VY ∧ Enc.gd x.Aim ∧ Enc.gd x.Life ∧ Enc.gd x.Timer,fun x => 0⟩
theorem TBody.same {x y : TBody} (h0 : x.Kind = y.Kind) (h1 : x.Owner = y.Owner) (h2 : x.X = y.X) (h3 : x.Y = y.Y) (h4 : x.VX = y.VX) (h5 : x.VY = y.VY) (h6 : x.Aim = y.Aim) (h7 : x.Life = y.Life) (h8 : x.Timer = y.Timer) : x = y := by cases x; cases y; simp_all
structure TWorld where
 Level : TLevel
 Tick : Int
 Seed : Int
 Scores : (List Int)
 Bodies : (List TBody)
 deriving DecidableEq
instance : Enc TWorld := ⟨5,by omega,fun x => [sl x.Level.Rows,.v (.int .i64 x.Tick),.v (.int .i64 x.Seed),sl x.Scores,sl x.Bodies],fun _ => rfl,fun x => Enc.gd x.Level ∧ Enc.gd x.Tick ∧ Enc.gd x.Seed ∧ Enc.gd x.Scores ∧ Enc.gd x.Bodies,fun x => Enc.wt x.Level + Enc.wt x.Scores + Enc.wt x.Bodies⟩
theorem TWorld.same {x y : TWorld} (h0 : x.Level = y.Level) (h1 : x.Tick = y.Tick) (h2 : x.Seed = y.Seed) (h3 : x.Scores = y.Scores) (h4 : x.Bodies = y.Bodies) : x = y := by cases x; cases y; simp_all
structure TSpectator where
 World : TWorld
 Gaps : Int
 deriving DecidableEq
instance : Enc TSpectator := ⟨6,by omega,fun x => [sl x.World.Level.Rows,.v (.int .i64 x.World.Tick),.v (.int .i64 x.World.Seed),sl x.World.Scores,sl x.World.Bodies,.v (.int .i64 x.Gaps)],fun _ => rfl,fun x => Enc.gd x.World ∧ Enc.gd x.Gaps,fun x => Enc.wt x.World⟩
theorem TSpectator.same {x y : TSpectator} (h0 : x.World = y.World) (h1 : x.Gaps = y.Gaps) : x = y := by cases x; cases y; simp_all

/-! ### Marks -/
end
section
open Go.RowKit

abbrev Seen := Bool × Bool × Bool × Bool
def tileM (e : Bool) (t : Int) (s : Seen × Bool) : Option (Seen × Bool) :=
 if t = 35 then some s else if e then none else
 if t = 49 then (if s.1.1 then none else some ((true,s.1.2),true)) else
 if t = 50 then (if s.1.2.1 then none else some ((s.1.1,true,s.1.2.2),true)) else
 if t = 51 then (if s.1.2.2.1 then none else some ((s.1.1,s.1.2.1,true,s.1.2.2.2),true)) else
 if t = 52 then (if s.1.2.2.2 then none else some ((s.1.1,s.1.2.1,s.1.2.2.1,true),true)) else
 if t = 111 ∨ t = 46 then some (s.1,true) else none
def colsM (row : ByteArray) (er : Bool) (w : Nat) (s : Seen × Bool) : Nat → Option (Seen × Bool)
 | 0 => some s
 | c + 1 => match colsM row er w s c with
  | none => none
  | some s' => tileM (er || decide (c = 0) || decide (c + 1 = w)) (byteAt row c) s'
def rowsM (rows : List ByteArray) (w : Nat) : Nat → Option (Seen × Bool)
 | 0 => some ((false,false,false,false),false)
 | r + 1 => match rowsM rows w r with
  | none => none
  | some s => match rows[r]? with
   | none => none
   | some row => if row.size = w then colsM row (decide (r = 0) || decide (r + 1 = rows.length)) w s w else none
def widthM (rows : List ByteArray) : Nat := match rows[0]? with
 | some row => row.size
 | none => 0
def levelOk (l : TLevel) : Bool := decide (3 ≤ l.Rows.length) && decide (l.Rows.length ≤ 12) && decide (4 ≤ widthM l.Rows) && decide (widthM l.Rows ≤ 20) && match rowsM l.Rows (widthM l.Rows) l.Rows.length with
 | some s => s.2
 | none => false

@[reducible] def vb (b : Bool) : V1 := .rd [] (.v (.bool b))
section
variable {rows : List ByteArray} {row : ByteArray} {w k c : Nat} {s s' : Seen × Bool} {er : Bool}
theorem rows_none {n : Nat} (h : rowsM rows w k = none) (hk : k ≤ n) : rowsM rows w n = none := by
 induction n with
 | zero => have : k = 0 := by omega
           subst this; exact h
 | succ n ih =>
  rcases Nat.lt_or_ge n k with h1 | h1
  ·have : k = n + 1 := by omega
   subst this; exact h
  ·simp [rowsM,ih h1]
theorem cols_none {n : Nat} (h : colsM row er w s c = none) (hc : c ≤ n) : colsM row er w s n = none := by
 induction n with
 | zero => have : c = 0 := by omega
           subst this; exact h
 | succ n ih =>
  rcases Nat.lt_or_ge n c with h1 | h1
  ·have : c = n + 1 := by omega
   subst this; exact h
  ·simp [colsM,ih h1]
theorem rows_next (h : rowsM rows w k = some s) (hk : k < rows.length) (hw : rows[k].size = w) : rowsM rows w (k + 1) = colsM rows[k] (decide (k = 0) || decide (k + 1 = rows.length)) w s w := by
 rw [rowsM,h]
 simp [List.getElem?_eq_getElem hk,hw]
theorem rows_bad (hk : k < rows.length) (hw : rows[k].size ≠ w) : rowsM rows w (k + 1) = none := by
 rw [rowsM]
 cases rowsM rows w k with
 | none => rfl
 | some s => simp [List.getElem?_eq_getElem hk,hw]
theorem cols_next (h : colsM row er w s c = some s') : colsM row er w s (c + 1) = tileM (er || decide (c = 0) || decide (c + 1 = w)) (byteAt row c) s' := by
 rw [colsM,h]
theorem level_no {l : TLevel} (hk : k < l.Rows.length) (hw : widthM l.Rows = w) (h : rowsM l.Rows w (k + 1) = none) : levelOk l = false := by
 unfold levelOk
 rw [hw,rows_none h (by omega)]
 simp
theorem width_at (h : 0 < rows.length) : widthM rows = rows[0].size := by simp [widthM,List.getElem?_eq_getElem h]
end
end
end Go.Proofs.YtcjclaoogdblbaaDoor
