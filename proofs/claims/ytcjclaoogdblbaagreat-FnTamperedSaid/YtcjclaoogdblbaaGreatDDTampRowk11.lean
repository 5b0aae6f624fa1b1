/-
  Parts of the proof (rules, data, and what functions of the program and of the reference return), among them: Bodies, worlds and spectators as data; how the laws compare and mark them; What a valid level is, in the program and in the reference.
  Conditions: those that each theorem names.
-/
import Derived.Test.YtcjclaoogdblbaaGreatDDTampRowk8
import Derived.Test.YtcjclaoogdblbaaGreatDDTampRowk10
set_option linter.unusedSimpArgs false
set_option linter.unusedVariables false
set_option maxRecDepth 8000
namespace Go.Proofs.YtcjclaoogdblbaaGreat
section
open Go.RowKit

def V2.mapk (k : V1 → V1) : V2 → V2
 | .c x => .c (k x)
 | .ag xs => .ag (xs.map k)
def V.mapk (k : V1 → V1) : V → V
 | .o x => .o (x.mapk k)
 | .tu xs => .tu (xs.map (V2.mapk k))
 | .iff cs x => .iff cs (x.mapk k)
def Ob.mapk (k : V1 → V1) : Ob → Ob
 | .box cs => .box (cs.map k)
 | .gh i x => .gh i (x.mapk k)
 | ob => ob

section
variable {P : Program} {E : Env} {ops : Array Oper} {o : Oper} {st : St} {n : Nat} {rest : List Oper} {QQ : Exit → St → Prop} {w w' : World} {H H' : Hs} {F F' : Nat → Prop} {a : Act}

theorem R2.mapk {k : V1 → V1} (hk : ∀ x v,R1 w H F x v → R1 w' H' F' (k x) v) {x : V2} {v : Value} (h : R2 w H F x v) : R2 w' H' F' (x.mapk k) v := by
 cases x with
 | c x => exact hk _ _ h
 | ag xs =>
  obtain ⟨us,e,hl,hr⟩ := h
  refine ⟨us,e,by simpa using hl,fun i x u h1 h2 => ?_⟩
  rw [List.getElem?_map] at h1
  obtain ⟨y,h3,rfl⟩ := Option.map_eq_some_iff.1 h1
  exact hk _ _ (hr i y u h3 h2)
theorem RV.mapk {k : V1 → V1} (hk : ∀ x v,R1 w H F x v → R1 w' H' F' (k x) v) {x : V} {v : Value} (h : RV w H F x v) : RV w' H' F' (x.mapk k) v := by
 cases x with
 | o x => exact R2.mapk hk h
 | tu xs =>
  obtain ⟨us,e,hl,hr⟩ := h
  refine ⟨us,e,by simpa using hl,fun i x u h1 h2 => ?_⟩
  rw [List.getElem?_map] at h1
  obtain ⟨y,h3,rfl⟩ := Option.map_eq_some_iff.1 h1
  exact R2.mapk hk (hr i y u h3 h2)
 | iff cs x => exact ⟨fun hc => R2.mapk hk (h.1 hc),h.2⟩
theorem RB.mapk {k : V1 → V1} (hk : ∀ x v,R1 w H F x v → R1 w' H' F' (k x) v) {p : Nat} (hp : H' p = H p) {ob : Ob} (h : RB w H F p ob) (hk0 : ∀ t,k (.rd [] t) = .rd [] t := by intro t; rfl) : RB w' H' F' p (ob.mapk k) := by
 cases ob with
 | gone => exact hp.trans h
 | hole => trivial
 | box cs =>
  obtain ⟨g,t,vs,e,hl,hr⟩ := h
  refine ⟨g,t,vs,hp.trans e,by simpa using hl,fun i c u h1 h2 => ?_⟩
  rw [List.getElem?_map] at h1
  obtain ⟨y,h3,rfl⟩ := Option.map_eq_some_iff.1 h1
  exact ⟨hk _ _ (hr i y u h3 h2).1,(hr i y u h3 h2).2⟩
 | row k es => obtain ⟨v,fp,e⟩ := h; exact ⟨v,fp,hp.trans e⟩
 | gh i x => obtain ⟨v,e,hr⟩ := h; exact ⟨v,hp.trans e,R2.mapk hk hr⟩
 | shr es => obtain ⟨us,v,fp,e,hl,hr⟩ := h; exact ⟨us,v,fp,hp.trans e,hl,fun i t u h1 h2 => by have := hk _ _ (hr i t u h1 h2); rwa [hk0] at this⟩
theorem R0.mapk (h : R0 w H F st a) (k : V1 → V1) (hk : ∀ x v,R1 w H F x v → R1 w' H' F (k x) v) (hok : Ok w' H' F) (objs' : List Ob) (hob : ∀ p,RB w' H' F p (objs'.getD p .gone)) :
  R0 w' H' F ⟨st.n,st.tmps.map fun e => (e.1,e.2.mapk k),objs'⟩ a := by
 refine ⟨hok,hob,fun d => ?_,h.size,h.defers⟩
 have hl : ∀ l : List (Nat × V),RV w H F (look l d) (a.tmps.getD d undef) → RV w' H' F (look (l.map fun e => (e.1,e.2.mapk k)) d) (a.tmps.getD d undef) := by
  intro l
  induction l with
  | nil => intro _; trivial
  | cons e l ih =>
   obtain ⟨e1,e2⟩ := e
   rw [List.map_cons,Zi,Zi]
   split
   ·exact RV.mapk hk
   ·exact ih
 exact hl _ (h.tmp d)

def idxN : List Nat → Nat → Nat → Option Nat
 | [],_,_ => none
 | r :: rs,p,i => match Nat.beq r p with
  | true => some i
  | false => idxN rs p (i + 1)
theorem idxN_ok : ∀ (ρ : List Nat) (p i j : Nat),idxN ρ p i = some j → i ≤ j ∧ ρ[j - i]? = some p
 | [],p,i,j,h => by simp [idxN] at h
 | r :: rs,p,i,j,h => by
  rw [idxN] at h
  split at h
  ·rename_i e
   have := Nat.eq_of_beq_eq_true e
   simp only [Option.some.injEq] at h
   subst h this
   exact ⟨Nat.le_refl _,by simp⟩
  ·obtain ⟨h1,h2⟩ := idxN_ok rs p (i + 1) j h
   exact ⟨by omega,by rw [show j - i = (j - (i + 1)) + 1 by omega,List.getElem?_cons_succ]; exact h2⟩
theorem idxN_none : ∀ (ρ : List Nat) (p i : Nat),idxN ρ p i = none → p ∉ ρ
 | [],p,i,_ => by simp
 | r :: rs,p,i,h => by
  rw [idxN] at h
  split at h
  ·cases h
  ·rename_i e
   have h1 := idxN_none rs p (i + 1) h
   intro hp
   rcases List.mem_cons.1 hp with rfl | hp
   ·rw [show Nat.beq p p = true from Nat.beq_refl p] at e; cases e
   ·exact h1 hp
def offN (ρ qs : List Nat) : Bool := qs.all fun q => !memN ρ q
def V1.killw (ps kc : List Nat) : V1 → V1
 | .rd qs x => match offN ps qs with
  | true => .rd qs x
  | false => match x with
   | .v u => .rd [] (.v u)
   | _ => .un
 | .ref p => match memN ps p with
  | false => .ref p
  | true => match memN kc p with
   | true => .ref p
   | false => .un
 | .ptr p i => match memN ps p with
  | false => .ptr p i
  | true => match memN kc p with
   | true => .ptr p i
   | false => .un
 | .el p k i j => match memN ps p with
  | false => .el p k i j
  | true => match memN kc p with
   | true => .el p k i j
   | false => .un
 | .sb p n k => match memN ps p with
  | false => .sb p n k
  | true => .un
 | .rp qs xs => match offN ps qs with
  | true => .rp qs xs
  | false => .un
 | .le p k i j => match memN ps p with
  | false => .le p k i j
  | true => .un
 | .hd p n => match memN ps p with
  | false => .hd p n
  | true => .un
 | .tl p k n => match memN ps p with
  | false => .tl p k n
  | true => match memN kc p with
   | true => .tl p k n
   | false => .un
 | .un => .un
def Place (x y : Pc) : Prop := (∃ t v fp t' fp',x = .ow t v fp ∧ y = .ow t' v fp') ∨ ∃ g t vs t' vs',x = .box g t vs ∧ y = .box g t' vs'

theorem offN_ok {ρ qs : List Nat} (h : offN ρ qs = true) : ∀ q ∈ qs,q ∉ ρ := fun q hq => by
 have := List.all_eq_true.1 h q hq
 simp only [Bool.not_eq_true'] at this
 exact memN_not this
theorem R1.killw {ps kc : List Nat} (hok : Ok w H F) (ht : Turn w H w' H' ps) (hkc : ∀ p ∈ kc,Place (H p) (H' p)) {x : V1} {v : Value} (h : R1 w H F x v) : R1 w' H' F (x.killw ps kc) v := by
 have hoff : ∀ qs : List Nat,offN ps qs = true → (qs.all fun q => !ps.contains q) = true := fun qs hq => List.all_eq_true.2 fun q hm => by simpa using offN_ok hq q hm
 have hone : ∀ p,memN ps p = false → (!ps.contains p) = true := fun p hp => by simpa using memN_not hp
 cases x with
 | rd qs x =>
  simp only [V1.killw]
  split
  ·rename_i hq; exact R1.turn hok ht (x := .rd qs x) (hoff qs hq) h
  ·split
   ·obtain ⟨rfl,h1⟩ := RO.plain h; exact RO.v _ h1
   ·trivial
 | ref p =>
  simp only [V1.killw]
  split
  ·rename_i hp; exact R1.turn hok ht (x := .ref p) (hone p hp) h
  ·split
   ·rename_i hp
    obtain ⟨x,fp,e⟩ := h
    rcases hkc p ((Zk _ _).1 hp) with ⟨t,v',fp1,t',fp2,e1,e2⟩ | ⟨g,t,vs,t',vs',e1,e2⟩
    ·rw [e] at e1
     simp only [Pc.ow.injEq] at e1
     obtain ⟨_,rfl,_⟩ := e1
     exact ⟨t',fp2,e2⟩
    ·rw [e] at e1; cases e1
   ·trivial
 | ptr p i =>
  simp only [V1.killw]
  split
  ·rename_i hp; exact R1.turn hok ht (x := .ptr p i) (hone p hp) h
  ·split
   ·rename_i hp
    obtain ⟨g0,t0,vs0,e,hv⟩ := h
    rcases hkc p ((Zk _ _).1 hp) with ⟨t,v',fp1,t',fp2,e1,e2⟩ | ⟨g,t,vs,t',vs',e1,e2⟩
    ·rw [e] at e1; cases e1
    ·rw [e] at e1
     simp only [Pc.box.injEq] at e1
     obtain ⟨rfl,_,_⟩ := e1
     exact ⟨_,_,_,e2,hv⟩
   ·trivial
 | el p k i j =>
  simp only [V1.killw]
  split
  ·rename_i hp; exact R1.turn hok ht (x := .el p k i j) (hone p hp) h
  ·split
   ·rename_i hp
    obtain ⟨b,o,n,c,x,fp,e,hv⟩ := h
    rcases hkc p ((Zk _ _).1 hp) with ⟨t,v',fp1,t',fp2,e1,e2⟩ | ⟨g,t,vs,t',vs',e1,e2⟩
    ·rw [e] at e1
     simp only [Pc.ow.injEq] at e1
     obtain ⟨_,rfl,_⟩ := e1
     exact ⟨b,o,n,c,t',fp2,e2,hv⟩
    ·rw [e] at e1; cases e1
   ·trivial
 | sb p n k =>
  simp only [V1.killw]
  split
  ·rename_i hp; exact R1.turn hok ht (x := .sb p n k) (hone p hp) h
  ·trivial
 | rp qs xs =>
  simp only [V1.killw]
  split
  ·rename_i hq; exact R1.turn hok ht (x := .rp qs xs) (hoff qs hq) h
  ·trivial
 | le p k i j =>
  simp only [V1.killw]
  split
  ·rename_i hp; exact R1.turn hok ht (x := .le p k i j) (hone p hp) h
  ·trivial
 | hd p n =>
  simp only [V1.killw]
  split
  ·rename_i hp; exact R1.turn hok ht (x := .hd p n) (hone p hp) h
  ·trivial
 | tl p k n =>
  simp only [V1.killw]
  split
  ·rename_i hp; exact R1.turn hok ht (x := .tl p k n) (hone p hp) h
  ·split
   ·rename_i hp
    obtain ⟨A,A',m,c,x,fp,e,hv⟩ := h
    rcases hkc p ((Zk _ _).1 hp) with ⟨t,v',fp1,t',fp2,e1,e2⟩ | ⟨g,t,vs,t',vs',e1,e2⟩
    ·rw [e] at e1
     simp only [Pc.ow.injEq] at e1
     obtain ⟨_,rfl,_⟩ := e1
     exact ⟨A,A',m,c,t',fp2,e2,hv⟩
    ·rw [e] at e1; cases e1
   ·trivial
 | un => trivial

theorem R1.sub {H1 : Hs} {F1 : Nat → Prop} (hs : ∀ q,H q ≠ .nil → H1 q = H q) (hF : ∀ b,F b → F1 b) {x : V1} {v : Value} (h : R1 w H F x v) : R1 w H1 F1 x v := by
 have hin : ∀ {qs : List Nat} {b : Nat},inP H F qs b → inP H1 F1 qs b := fun hb => by
  rcases hb with hb | ⟨q,hq,x,v,fp,e,hb⟩
  ·exact .inl (hF _ hb)
  ·exact .inr ⟨q,hq,x,v,fp,by rw [hs q (by rw [e]; simp),e],hb⟩
 cases x with
 | rd qs x => exact RO.weak h fun b hb _ => hin hb
 | ref p => obtain ⟨x,fp,e⟩ := h; exact ⟨x,fp,by rw [hs p (by rw [e]; simp),e]⟩
 | ptr p i => obtain ⟨g,t,vs,e,hv⟩ := h; exact ⟨g,t,vs,by rw [hs p (by rw [e]; simp),e],hv⟩
 | sb p n k => obtain ⟨g,t,vs,e,hv⟩ := h; exact ⟨g,t,vs,by rw [hs p (by rw [e]; simp),e],hv⟩
 | el p k i j => obtain ⟨b,o,n,c,x,fp,e,hv⟩ := h; exact ⟨b,o,n,c,x,fp,by rw [hs p (by rw [e]; simp),e],hv⟩
 | le p k i j => obtain ⟨b,o,n,c,x,fp,e,hv⟩ := h; exact ⟨b,o,n,c,x,fp,by rw [hs p (by rw [e]; simp),e],hv⟩
 | hd p n => obtain ⟨A,m,c,x,fp,e,hv⟩ := h; exact ⟨A,m,c,x,fp,by rw [hs p (by rw [e]; simp),e],hv⟩
 | tl p k n => obtain ⟨A,A',m,c,x,fp,e,hv⟩ := h; exact ⟨A,A',m,c,x,fp,by rw [hs p (by rw [e]; simp),e],hv⟩
 | rp qs xs =>
  obtain ⟨b,o,hv,hb,hc⟩ := h
  refine ⟨b,o,hv,hin hb,fun j t hj => ?_⟩
  obtain ⟨u,h1,h2⟩ := hc j t hj
  exact ⟨u,h1,RO.weak h2 fun b hb _ => hin hb⟩
 | un => trivial
theorem R2.sub {H1 : Hs} {F1 : Nat → Prop} (hs : ∀ q,H q ≠ .nil → H1 q = H q) (hF : ∀ b,F b → F1 b) {x : V2} {v : Value} (h : R2 w H F x v) : R2 w H1 F1 x v := by
 cases x with
 | c x => exact R1.sub hs hF h
 | ag xs => obtain ⟨us,e,hl,hr⟩ := h; exact ⟨us,e,hl,fun i x u h1 h2 => R1.sub hs hF (hr i x u h1 h2)⟩
theorem RB.sub {H1 : Hs} {F1 : Nat → Prop} (hs : ∀ q,H q ≠ .nil → H1 q = H q) (hF : ∀ b,F b → F1 b) {p : Nat} {ob : Ob} (hp : H p ≠ .nil) (h : RB w H F p ob) : RB w H1 F1 p ob := by
 cases ob with
 | gone => exact absurd h hp
 | hole => trivial
 | box cs => obtain ⟨g,t,vs,e,hl,hr⟩ := h; exact ⟨g,t,vs,by rw [hs p hp,e],hl,fun i c u h1 h2 => ⟨R1.sub hs hF (hr i c u h1 h2).1,(hr i c u h1 h2).2⟩⟩
 | row k es => obtain ⟨v,fp,e⟩ := h; exact ⟨v,fp,by rw [hs p hp,e]⟩
 | gh i x => obtain ⟨v,e,hr⟩ := h; exact ⟨v,by rw [hs p hp,e],R2.sub hs hF hr⟩
 | shr es => obtain ⟨us,v,fp,e,hl,hr⟩ := h; exact ⟨us,v,fp,by rw [hs p hp,e],hl,fun i t u h1 h2 => R1.sub hs hF (hr i t u h1 h2)⟩

def phi (ρ : List Nat) (m N q : Nat) : Nat := match Nat.blt q ρ.length with
 | true => ρ.getD q 0
 | false => N + (q - (ρ.length + m))
section
variable {H2 : Hs} {F2 : Nat → Prop} {φ : Nat → Nat}
theorem plantw1 (hpl : ∀ q,H2 q ≠ .nil → (∀ i v,H2 q ≠ .gh i v) → H' (φ q) = H2 q) {x : V1} {v : Value} (hc : x.closed = true) (hx : R1 w H2 F2 x v) : R1 w H' F (x.ren φ) v := by
 cases x with
 | rd ps x =>
  cases x with
  | v x => obtain ⟨rfl,h⟩ := RO.plain hx; exact RO.v _ h
  | sl k es => simp [V1.closed] at hc
  | un => exact RO.un _ (RO.one hx)
 | ref q => obtain ⟨x,fp,e⟩ := hx; exact ⟨x,fp,by rw [hpl q (by rw [e]; simp) (by rw [e]; simp),e]⟩
 | ptr q i => obtain ⟨g,t,vs,e,hv⟩ := hx; exact ⟨g,t,vs,by rw [hpl q (by rw [e]; simp) (by rw [e]; simp),e],hv⟩
 | sb q i j => obtain ⟨g,t,vs,e,hv⟩ := hx; exact ⟨g,t,vs,by rw [hpl q (by rw [e]; simp) (by rw [e]; simp),e],hv⟩
 | el q k i j => obtain ⟨b,o,n',c,x,fp,e,hv⟩ := hx; exact ⟨b,o,n',c,x,fp,by rw [hpl q (by rw [e]; simp) (by rw [e]; simp),e],hv⟩
 | rp => simp [V1.closed] at hc
 | le q k i j => obtain ⟨b,o,n',c,x,fp,e,hv⟩ := hx; exact ⟨b,o,n',c,x,fp,by rw [hpl q (by rw [e]; simp) (by rw [e]; simp),e],hv⟩
 | hd q i => obtain ⟨A,m',c,x,fp,e,hv⟩ := hx; exact ⟨A,m',c,x,fp,by rw [hpl q (by rw [e]; simp) (by rw [e]; simp),e],hv⟩
 | tl q k i => obtain ⟨A,A',m',c,x,fp,e,hv⟩ := hx; exact ⟨A,A',m',c,x,fp,by rw [hpl q (by rw [e]; simp) (by rw [e]; simp),e],hv⟩
 | un => trivial
def Ob.back : Ob → Bool
 | .box cs => cs.all V1.closed
 | .row _ _ => true
 | _ => false
end
def setL {α : Type} : List α → List Nat → List α → List α
 | l,r :: rs,o :: os => setL (l.set r o) rs os
 | l,_,_ => l
theorem setL_len {α : Type} : ∀ (rs : List Nat) (os : List α) (l : List α),(setL l rs os).length = l.length
 | [],os,l => by cases os <;> rfl
 | r :: rs,[],l => rfl
 | r :: rs,o :: os,l => by rw [setL,setL_len rs os,List.length_set]
theorem setL_out {α : Type} {d : α} : ∀ (rs : List Nat) (os : List α) (l : List α) (p : Nat),p ∉ rs → (setL l rs os).getD p d = l.getD p d
 | [],os,l,p,_ => by cases os <;> rfl
 | r :: rs,[],l,p,_ => rfl
 | r :: rs,o :: os,l,p,hp => by
  rw [setL,setL_out rs os _ p (fun h => hp (by simp [h])),List.getD_eq_getElem?_getD,List.getElem?_set_ne (fun e => hp (by simp [e])),List.getD_eq_getElem?_getD]
theorem setL_in {α : Type} {d : α} : ∀ (rs : List Nat) (os : List α) (l : List α) (q p : Nat) (x : α),rs.Nodup → (∀ r ∈ rs,r < l.length) → rs[q]? = some p → os[q]? = some x → (setL l rs os).getD p d = x
 | [],os,l,q,p,x,_,_,h,_ => by simp at h
 | r :: rs,[],l,q,p,x,_,_,_,h => by simp at h
 | r :: rs,o :: os,l,q,p,x,hn,hl,h1,h2 => by
  obtain ⟨n1,n2⟩ := List.nodup_cons.1 hn
  cases q with
  | zero =>
   simp only [List.getElem?_cons_zero,Option.some.injEq] at h1 h2
   subst h1 h2
   rw [setL,setL_out rs os _ r n1,List.getD_eq_getElem?_getD,List.getElem?_set_self (hl r (by simp))]
   rfl
  | succ q =>
   rw [setL]
   exact setL_in rs os _ q p x n2 (fun r hr => by rw [List.length_set]; exact hl r (by simp [hr])) (by simpa using h1) (by simpa using h2)
def gh1 (g : Nat × V2) : Ob := .gh g.1 g.2
def gsrc (args : List V2) (lo : List Ob) (i : Nat) : Option V2 :=
 match args[i]? with
 | some x => some x
 | none => match lo[i - args.length]? with
  | some (.row _ _) => some (.c (.ref (i - args.length)))
  | _ => none
def pcV : Pc → Value
 | .ow _ v _ => v
 | _ => undef
def plc : V1 → Option Nat
 | .ref q => some q
 | .ptr q _ => some q
 | _ => none

def pickC : V2 → Nat → Option V1
 | .c x,_ => some x
 | .ag xs,j => xs[j]?
def pickU : V2 → Value → Nat → Value
 | .c _,v,_ => v
 | .ag _,v,j => match v with
  | .agg us => us.toList.getD j undef
  | _ => undef
theorem R2.cell {x : V2} {v : Value} {j : Nat} {c : V1} (h : R2 w H F x v) (hp : pickC x j = some c) : R1 w H F c (pickU x v j) := by
 cases x with
 | c x => simp only [pickC,Option.some.injEq] at hp; subst hp; exact h
 | ag xs =>
  obtain ⟨us,rfl,hl,hr⟩ := h
  have hj : j < us.length := by rw [hl]; exact Y7 hp
  have := hr j c _ hp (List.getElem?_eq_getElem hj)
  simpa [pickU,List.getD_eq_getElem?_getD,hj] using this

end
end
section
open Go.RowKit

section
variable {P : Program} {E : Env} {ops : Array Oper} {o : Oper} {st : St} {n : Nat} {rest : List Oper} {QQ : Exit → St → Prop} {w w' : World} {H H' : Hs} {F F' : Nat → Prop} {a : Act}
theorem inP.moreF (hF : ∀ b,F b → F' b) {ps : List Nat} {b : Nat} (h : inP H F ps b) : inP H F' ps b := by
 rcases h with h | h
 ·exact .inl (hF b h)
 ·exact .inr h
theorem R1.moreF (hF : ∀ b,F b → F' b) {x : V1} {v : Value} (h : R1 w H F x v) : R1 w H F' x v := by
 cases x with
 | rd ps x => exact RO.weak h fun b hb _ => hb.moreF hF
 | rp ps xs =>
  obtain ⟨b,o,e,hb,hr⟩ := h
  exact ⟨b,o,e,hb.moreF hF,fun j t hj => by obtain ⟨u,h1,h2⟩ := hr j t hj; exact ⟨u,h1,h2.weak fun b hb _ => hb.moreF hF⟩⟩
 | _ => exact h
theorem R0.mapkF (h : R0 w H F st a) (k : V1 → V1) (hk : ∀ x v,R1 w H F x v → R1 w' H' F' (k x) v) (hok : Ok w' H' F') (objs' : List Ob) (hob : ∀ p,RB w' H' F' p (objs'.getD p .gone)) :
  R0 w' H' F' ⟨st.n,st.tmps.map fun e => (e.1,e.2.mapk k),objs'⟩ a := by
 refine ⟨hok,hob,fun d => ?_,h.size,h.defers⟩
 have hl : ∀ l : List (Nat × V),RV w H F (look l d) (a.tmps.getD d undef) → RV w' H' F' (look (l.map fun e => (e.1,e.2.mapk k)) d) (a.tmps.getD d undef) := by
  intro l
  induction l with
  | nil => intro _; trivial
  | cons e l ih =>
   obtain ⟨e1,e2⟩ := e
   rw [List.map_cons,Zi,Zi]
   split
   ·exact RV.mapk hk
   ·exact ih
 exact hl _ (h.tmp d)
def lendF1 (ρ : List Nat) : V1 → V1
 | .rd [] x => .rd [] x
 | .rd _ (.v u) => .rd [] (.v u)
 | .ptr p i => match idxN ρ p 0 with
  | some q => .ptr q i
  | none => .un
 | .ref p => match idxN ρ p 0 with
  | some q => .ref q
  | none => .un
 | _ => .un
def lendF (ρ : List Nat) : V → V2
 | .o (.c x) => .c (lendF1 ρ x)
 | .o (.ag xs) => .ag (xs.map (lendF1 ρ))
 | _ => .c .un
theorem lendF1_ok {ρ : List Nat} {H1 : Hs} (a1 : ∀ q p,ρ[q]? = some p → H1 q = H p) {x : V1} {v : Value} (hx : R1 w H F x v) : R1 w H1 F (lendF1 ρ x) v := by
 unfold lendF1
 split
 ·exact RO.weak hx fun b hb _ => by
   rcases hb with h | ⟨p,hp,_⟩
   ·exact .inl h
   ·cases hp
 ·obtain ⟨rfl,h⟩ := RO.plain hx
  exact RO.v _ h
 ·split
  ·rename_i p i _ q hq
   obtain ⟨g,t,vs,e,hv⟩ := hx
   have h1 := (idxN_ok ρ p 0 q hq).2
   rw [Nat.sub_zero] at h1
   exact ⟨g,t,vs,by rw [a1 q p h1,e],hv⟩
  ·trivial
 ·split
  ·rename_i p _ q hq
   obtain ⟨x,fp,e⟩ := hx
   have h1 := (idxN_ok ρ p 0 q hq).2
   rw [Nat.sub_zero] at h1
   exact ⟨x,fp,by rw [a1 q p h1,e]⟩
  ·trivial
 ·trivial
def V1.clF : V1 → Bool
 | .rd [] _ => true
 | .rd _ (.sl _ _) => false
 | .rp _ _ => false
 | _ => true
def V2.clF : V2 → Bool
 | .c x => x.clF
 | .ag xs => xs.all V1.clF
def V.clF : V → Bool
 | .o x => x.clF
 | .tu xs => xs.all V2.clF
 | .iff _ x => x.clF
def Ob.bkF : Ob → Bool
 | .box cs => cs.all V1.clF
 | .row _ _ => true
 | _ => false
section
variable {H2 : Hs} {F2 : Nat → Prop} {φ : Nat → Nat}
theorem plantw1F (hpl : ∀ q,H2 q ≠ .nil → (∀ i v,H2 q ≠ .gh i v) → H' (φ q) = H2 q) {x : V1} {v : Value} (hc : x.clF = true) (hx : R1 w H2 F2 x v) : R1 w H' F2 (x.ren φ) v := by
 cases x with
 | rd ps x =>
  cases ps with
  | nil =>
   exact RO.weak hx fun b hb _ => by
    rcases hb with h | ⟨p,hp,_⟩
    ·exact .inl h
    ·cases hp
  | cons p ps =>
   cases x with
   | v x => obtain ⟨rfl,h⟩ := RO.plain hx; exact RO.v _ h
   | sl k es => simp [V1.clF] at hc
   | un => exact RO.un _ (RO.one hx)
 | rp => simp [V1.clF] at hc
 | ref q => exact plantw1 hpl (x := .ref q) rfl hx
 | ptr q i => exact plantw1 hpl (x := .ptr q i) rfl hx
 | sb q i j => exact plantw1 hpl (x := .sb q i j) rfl hx
 | el q k i j => exact plantw1 hpl (x := .el q k i j) rfl hx
 | le q k i j => exact plantw1 hpl (x := .le q k i j) rfl hx
 | hd q i => exact plantw1 hpl (x := .hd q i) rfl hx
 | tl q k i => exact plantw1 hpl (x := .tl q k i) rfl hx
 | un => trivial
theorem plantw2F (hpl : ∀ q,H2 q ≠ .nil → (∀ i v,H2 q ≠ .gh i v) → H' (φ q) = H2 q) {x : V2} {v : Value} (hc : x.clF = true) (hx : R2 w H2 F2 x v) : R2 w H' F2 (x.ren φ) v := by
 cases x with
 | c x => exact plantw1F hpl hc hx
 | ag xs =>
  obtain ⟨us,e,hl,hr⟩ := hx
  refine ⟨us,e,by simpa using hl,fun i x u hi hu => ?_⟩
  rw [List.getElem?_map] at hi
  obtain ⟨c,h1,rfl⟩ := Option.map_eq_some_iff.1 hi
  exact plantw1F hpl (List.all_eq_true.1 hc c (Y8 h1)) (hr i c u h1 hu)
theorem plantwVF (hpl : ∀ q,H2 q ≠ .nil → (∀ i v,H2 q ≠ .gh i v) → H' (φ q) = H2 q) {x : V} {v : Value} (hc : x.clF = true) (hx : RV w H2 F2 x v) : RV w H' F2 (x.ren φ) v := by
 cases x with
 | o x => exact plantw2F hpl hc hx
 | tu xs =>
  obtain ⟨us,e,hl,hr⟩ := hx
  refine ⟨us,e,by simpa using hl,fun i x u hi hu => ?_⟩
  rw [List.getElem?_map] at hi
  obtain ⟨c,h1,rfl⟩ := Option.map_eq_some_iff.1 hi
  exact plantw2F hpl (List.all_eq_true.1 hc c (Y8 h1)) (hr i c u h1 hu)
 | iff cs x => exact ⟨fun h => plantw2F hpl hc (hx.1 h),hx.2⟩
theorem bkF_ng {q : Nat} {ob : Ob} (hb : ob.bkF = true) (h : RB w H2 F2 q ob) : H2 q ≠ .nil ∧ ∀ i v,H2 q ≠ .gh i v := by
 cases ob with
 | box cs => obtain ⟨g,t,vs,e,_⟩ := h; rw [e]; simp
 | row k es => obtain ⟨v,fp,e⟩ := h; rw [e]; simp
 | _ => cases hb
theorem plantwBF (hpl : ∀ q,H2 q ≠ .nil → (∀ i v,H2 q ≠ .gh i v) → H' (φ q) = H2 q) {q p : Nat} {ob : Ob} (hp : H' p = H2 q) (hb : ob.bkF = true) (h : RB w H2 F2 q ob) : RB w H' F2 p (ob.ren φ) := by
 cases ob with
 | box cs =>
  obtain ⟨g,t,vs,e,hl,hr⟩ := h
  refine ⟨g,t,vs,hp.trans e,by simpa using hl,fun i c u hi hu => ?_⟩
  rw [List.getElem?_map] at hi
  obtain ⟨c',h1,rfl⟩ := Option.map_eq_some_iff.1 hi
  exact ⟨plantw1F hpl (List.all_eq_true.1 hb c' (Y8 h1)) (hr i c' u h1 hu).1,(hr i c' u h1 hu).2⟩
 | row k es => obtain ⟨v,fp,e⟩ := h; exact ⟨v,fp,hp.trans e⟩
 | _ => cases hb
end
theorem L_lentF {f : FuncId} [hf : FunOk P f] {ass : Array Operand} {tys : Array TypeId} {args : List V2} {lo lo' new : List Ob} {gs gs' : List (Nat × V2)} {res : V} (ρ : List Nat) (kq : List (Nat × Nat × V1)) (ho : o.op = .call { callee := .value (.func f),args := ass,argTypes := tys }) (hg : o.guard = none)
  (hc : Con P f (lo ++ gs.map gh1) args (lo' ++ (gs'.map gh1 ++ new)) res) (hρ : nodupB ρ = true) (hlt : ρ.all (fun p => Nat.blt p st.objs.length) = true) (hl1 : lo.length = ρ.length) (hl2 : lo'.length = ρ.length) (hl3 : gs'.length = gs.length)
  (hlo : lo.map (Ob.ren (rho ρ st.objs.length)) = ρ.map fun p => st.objs.getD p .gone) (hgn : ρ.all (fun p => (st.objs.getD p .gone).back || (match st.objs.getD p .gone with | .box _ => true | _ => false)) = true) (ha : ass.toList.map (fun y => lendF ρ (st.ev y)) = args)
  (hgs : gs.map (fun g => gsrc args lo g.1) = gs.map (fun g => some g.2)) (hk1 : kq.map (fun k => gs[k.1]?.bind fun g => pickC g.2 k.2.1) = kq.map (fun k => some k.2.2)) (hk2 : kq.map (fun k => gs'[k.1]?) = kq.map (fun k => gs[k.1]?)) (hk3 : kq.all (fun k => match plc k.2.2 with | some q => Nat.blt q ρ.length | none => false) = true)
  (hcl : res.clF = true) (hb1 : lo'.all Ob.bkF = true) (hb2 : new.all Ob.bkF = true) (hd : dstOk st.n o.dst = true)
  (h : AL P E ops QQ rest ⟨st.n,setT (st.tmps.map fun e => (e.1,e.2.mapk (V1.killw (ρ ++ (List.range new.length).map (st.objs.length + ·)) (kq.map fun k => ρ.getD ((plc k.2.2).getD 0) 0)))) o.dst (res.ren (phi ρ gs.length st.objs.length)),
   setL (st.objs.map (Ob.mapk (V1.killw (ρ ++ (List.range new.length).map (st.objs.length + ·)) (kq.map fun k => ρ.getD ((plc k.2.2).getD 0) 0)))) ρ (lo'.map (Ob.ren (phi ρ gs.length st.objs.length))) ++ new.map (Ob.ren (phi ρ gs.length st.objs.length))⟩) : AL P E ops QQ (o :: rest) st := by
 refine ⟨fun a w ⟨H,F,hr,hsince⟩ => ?_⟩
 have hrun : (execOp a.eval o).run P w = .ok (.enter f (ass.toList.map a.eval).toArray) w := by
  unfold execOp
  simp only [ho,resolve,Act.eval,Deferred.ofValue,Sem.run_bind,Sem.run_pure,Result.andThen_ok,invoke]
  rw [show (#[] ++ ass.map a.eval ++ #[]) = (ass.toList.map a.eval).toArray by
   apply Array.ext'
   simp]
  exact run_callFunc _
 refine wpList_step fun K hK => ?_
 rw [if_pos (by unfold Region.wanted; rw [hg])]
 unfold Oper.wp
 rw [hrun]
 have hnd : ρ.Nodup := Zn hρ
 have hltN : ∀ p ∈ ρ,p < st.objs.length := fun p hp => Nat.le_of_ble_eq_true (List.all_eq_true.1 hlt p hp)
 have hnilN : ∀ p,st.objs.length ≤ p → H p = .nil := fun p hp => by
  have := hr.obs p
  simpa [List.getD_eq_getElem?_getD,hp,RB] using this
 have hinj : ∀ (i j p : Nat),ρ[i]? = some p → ρ[j]? = some p → i = j := fun i j p h1 h2 => by
  obtain ⟨a1,e1⟩ := List.getElem?_eq_some_iff.1 h1
  obtain ⟨a2,e2⟩ := List.getElem?_eq_some_iff.1 h2
  rcases Nat.lt_trichotomy i j with hij | hij | hij
  ·exact absurd (e1.trans e2.symm) (List.pairwise_iff_getElem.1 hnd i j a1 a2 hij)
  ·exact hij
  ·exact absurd (e2.trans e1.symm) (List.pairwise_iff_getElem.1 hnd j i a2 a1 hij)
 obtain ⟨vs,hvs⟩ : ∃ vs,vs = ass.toList.map a.eval := ⟨_,rfl⟩
 obtain ⟨gv,hgv⟩ : ∃ gv : Nat → Value,gv = fun i => match args[i]? with | some _ => vs.getD i undef | none => pcV (H (ρ.getD (i - args.length) 0)) := ⟨_,rfl⟩
 obtain ⟨H1,hH1⟩ : ∃ H1 : Hs,H1 = fun q => match ρ[q]? with | some p => H p | none => match gs[q - ρ.length]? with | some g => if ρ.length ≤ q then .gh g.1 (gv g.1) else .nil | none => .nil := ⟨_,rfl⟩
 have a1 : ∀ q p,ρ[q]? = some p → H1 q = H p := fun q p hq => by rw [hH1]; simp only [hq]
 have a2 : ∀ j g,gs[j]? = some g → H1 (ρ.length + j) = .gh g.1 (gv g.1) := fun j g hj => by
  rw [hH1]
  have : ρ[ρ.length + j]? = none := List.getElem?_eq_none (by omega)
  simp only [this,Nat.add_sub_cancel_left,hj]
  rw [if_pos (by omega)]
 have a3 : ∀ q b,b ∈ (H1 q).fp → ∃ p,ρ[q]? = some p ∧ b ∈ (H p).fp := fun q b hb => by
  cases hq : ρ[q]? with
  | some p => rw [a1 q p hq] at hb; exact ⟨p,rfl,hb⟩
  | none =>
   rw [hH1] at hb
   simp only [hq] at hb
   split at hb
   ·split at hb <;> simp [Pc.fp] at hb
   ·simp [Pc.fp] at hb
 have a4 : ∀ q i v,H1 q = .gh i v → (∃ p,ρ[q]? = some p ∧ H p = .gh i v) ∨ v = gv i := fun q i v hq => by
  cases hp : ρ[q]? with
  | some p => rw [a1 q p hp] at hq; exact .inl ⟨p,rfl,hq⟩
  | none =>
   rw [hH1] at hq
   simp only [hp] at hq
   split at hq
   ·split at hq
    ·simp only [Pc.gh.injEq] at hq
     exact .inr (by rw [← hq.2,hq.1])
    ·cases hq
   ·cases hq
 obtain ⟨F1,hF1⟩ : ∃ F1 : Nat → Prop,F1 = F := ⟨_,rfl⟩
 have hFF : ∀ b,F b → F1 b := fun b hb => by rw [hF1]; exact hb
 have hsubH : ∀ q,H (rho ρ st.objs.length q) ≠ .nil → H1 q = H (rho ρ st.objs.length q) := fun q hq => by
  cases hp : ρ[q]? with
  | some p => rw [a1 q p hp]; simp [rho,List.getD_eq_getElem?_getD,hp]
  | none => exact absurd (hnilN _ (by simp [rho,List.getD_eq_getElem?_getD,hp])) hq
 have hgok : ∀ p ∈ ρ,H p ≠ .nil ∧ ∀ i v,H p ≠ .gh i v := fun p hp => by
  have h1 := List.all_eq_true.1 hgn p hp
  have h2 := hr.obs p
  cases ho : st.objs.getD p .gone with
  | box cs => rw [ho] at h2; obtain ⟨g,t,us,e,_⟩ := h2; rw [e]; simp
  | row k es => rw [ho] at h2; obtain ⟨v,fp,e⟩ := h2; rw [e]; simp
  | gone => rw [ho] at h1; cases h1
  | hole => rw [ho] at h1; cases h1
  | gh => rw [ho] at h1; cases h1
  | shr => rw [ho] at h1; cases h1
 have hok1 : Ok w H1 F1 := by
  refine ⟨fun q => ?_,fun q => ?_,fun q r b h1 h2 => ?_,fun q b h1 h2 => ?_,fun b hb => by rw [hF1] at hb; exact hr.ok.flt b hb⟩
  ·cases hp : ρ[q]? with
   | some p => rw [a1 q p hp]; exact hr.ok.says p
   | none =>
    rw [hH1]
    simp only [hp]
    split
    ·split <;> trivial
    ·trivial
  ·cases hp : ρ[q]? with
   | some p => rw [a1 q p hp]; exact hr.ok.nodup p
   | none =>
    rw [hH1]
    simp only [hp]
    split
    ·split <;> simp [Pc.fp]
    ·simp [Pc.fp]
  ·obtain ⟨p,e1,e2⟩ := a3 q b h1
   obtain ⟨p',e3,e4⟩ := a3 r b h2
   have := hr.ok.disj p p' b e2 e4
   subst this
   exact hinj q r p e1 e3
  ·obtain ⟨p,e1,e2⟩ := a3 q b h1
   rw [hF1] at h2
   exact hr.ok.free p b e2 h2
 have hargs1 : ∀ (i : Nat) (x : V2) (v : Value),args[i]? = some x → vs[i]? = some v → R2 w H1 F1 x v := by
  intro i x v hx hv
  rw [← ha,List.getElem?_map] at hx
  obtain ⟨y,h1,rfl⟩ := Option.map_eq_some_iff.1 hx
  rw [hvs,List.getElem?_map,h1] at hv
  simp only [Option.map_some,Option.some.injEq] at hv
  subst hv
  have h2 := hr.ev y
  have hl1 : ∀ {x : V1} {v : Value},R1 w H F x v → R1 w H1 F1 (lendF1 ρ x) v := fun hx => by rw [hF1]; exact lendF1_ok a1 hx
  cases he : st.ev y with
  | o x =>
   rw [he] at h2
   cases x with
   | c x => exact hl1 h2
   | ag xs =>
    obtain ⟨us,e,hl,hcs⟩ := h2
    refine ⟨us,e,by simpa using hl,fun i x u hi hu => ?_⟩
    rw [List.getElem?_map] at hi
    obtain ⟨c,h3,rfl⟩ := Option.map_eq_some_iff.1 hi
    exact hl1 (hcs i c u h3 hu)
  | tu xs => trivial
  | iff cs x => trivial
 have hgsat : ∀ (j : Nat) (g : Nat × V2),gs[j]? = some g → gsrc args lo g.1 = some g.2 := fun j g hj => by
  have := congrArg (·[j]?) hgs
  simpa [hj] using this
 have hvl : vs.length = args.length := by rw [hvs,← ha]; simp
 have hvat : ∀ (i : Nat) (x : V2),args[i]? = some x → vs[i]? = some (vs.getD i undef) := fun i x hx => by
  have : i < vs.length := by rw [hvl]; exact Y7 hx
  simp [List.getD_eq_getElem?_getD,this]
 have hobsL : ∀ q (hq : q < ρ.length) (hq' : q < lo.length),RB w H1 F1 q lo[q] := by
  intro q hq hq'
  have hp : ρ[q]? = some ρ[q] := List.getElem?_eq_getElem hq
  have hlq : lo[q]? = some (lo[q]'(by omega)) := List.getElem?_eq_getElem (by omega)
  have h1 := congrArg (·[q]?) hlo
  simp only [List.getElem?_map,hlq,hp,Option.map_some,Option.some.injEq] at h1
  have h2 := hr.obs ρ[q]
  rw [← h1] at h2
  have hf : rho ρ st.objs.length q = ρ[q] := by simp [rho,List.getD_eq_getElem?_getD,hq]
  have h3 : RB w (fun p => H (rho ρ st.objs.length p)) F q (lo[q]'(by omega)) := RB.ren (f := rho ρ st.objs.length) (by rw [hf]; exact h2)
  exact RB.sub (H := fun p => H (rho ρ st.objs.length p)) hsubH hFF (by simp only [hf]; exact (hgok _ (List.getElem_mem hq)).1) h3
 have hgat : ∀ (j : Nat) (g : Nat × V2),gs[j]? = some g → R2 w H1 F1 g.2 (gv g.1) := fun j g hj => by
  have h1 := hgsat j g hj
  unfold gsrc at h1
  rw [hgv]
  cases ha1 : args[g.1]? with
  | some x =>
   rw [ha1] at h1
   simp only [Option.some.injEq] at h1
   subst h1
   simp only [ha1]
   exact hargs1 _ _ _ ha1 (hvat _ _ ha1)
  | none =>
   rw [ha1] at h1
   simp only [ha1]
   simp only at h1
   split at h1
   ·rename_i k es hlo1
    have hq := Y7 hlo1
    have hq1 : g.1 - args.length < ρ.length := by omega
    have h2 := hobsL _ hq1 hq
    rw [(List.getElem?_eq_some_iff.1 hlo1).2] at h2
    obtain ⟨v,fp,e⟩ := h2
    have h3 := a1 (g.1 - args.length) (ρ[g.1 - args.length]) (List.getElem?_eq_getElem hq1)
    rw [show ρ.getD (g.1 - args.length) 0 = ρ[g.1 - args.length] by simp [List.getD_eq_getElem?_getD,hq1],← h3,e]
    simp only [Option.some.injEq] at h1
    rw [← h1]
    exact ⟨_,_,e⟩
   ·cases h1
 have hobs1 : ∀ q,RB w H1 F1 q ((lo ++ gs.map gh1).getD q .gone) := by
  intro q
  rcases Nat.lt_or_ge q ρ.length with hq | hq
  ·rw [show (lo ++ gs.map gh1).getD q .gone = lo[q]'(by omega) by simp [List.getD_eq_getElem?_getD,List.getElem?_append_left (show q < lo.length by omega),hl1,hq]]
   exact hobsL q hq (by omega)
  ·cases hj : gs[q - ρ.length]? with
   | some g =>
    rw [show (lo ++ gs.map gh1).getD q .gone = gh1 g by simp [List.getD_eq_getElem?_getD,List.getElem?_append_right (show lo.length ≤ q by omega),hl1,hj]]
    have h1 := a2 _ g hj
    rw [show ρ.length + (q - ρ.length) = q by omega] at h1
    exact ⟨_,h1,hgat _ g hj⟩
   | none =>
    rw [show (lo ++ gs.map gh1).getD q .gone = .gone by simp [List.getD_eq_getElem?_getD,List.getElem?_append_right (show lo.length ≤ q by omega),hl1,hj]]
    show H1 q = .nil
    rw [hH1]
    have : ρ[q]? = none := List.getElem?_eq_none (by omega)
    simp only [this,hj]
 rw [← hvs]
 refine (hc w H1 F1 vs hok1 hobs1 hvl hargs1).mono ?_
 rintro e w' ⟨H2,F2,rv,rfl,hsi,hok2,hobs2,hres⟩
 -- the pieces that come back
 have hoL : ∀ q,q < ρ.length → ∃ ob,lo'[q]? = some ob ∧ ob.bkF = true ∧ RB w' H2 F2 q ob := fun q hq => by
  have hlq : lo'[q]? = some (lo'[q]'(by omega)) := List.getElem?_eq_getElem (by omega)
  have h1 := hobs2 q
  rw [show (lo' ++ (gs'.map gh1 ++ new)).getD q .gone = lo'[q]'(by omega) by simp [List.getD_eq_getElem?_getD,List.getElem?_append_left (show q < lo'.length by omega),hl2,hq]] at h1
  exact ⟨_,hlq,List.all_eq_true.1 hb1 _ (List.getElem_mem _),h1⟩
 have hoG : ∀ (j : Nat) (g : Nat × V2),gs'[j]? = some g → ∃ v,H2 (ρ.length + j) = .gh g.1 v ∧ R2 w' H2 F2 g.2 v := fun j g hj => by
  have h1 := hobs2 (ρ.length + j)
  rw [show (lo' ++ (gs'.map gh1 ++ new)).getD (ρ.length + j) .gone = gh1 g by
   have : j < (gs'.map gh1).length := by simpa using Y7 hj
   simp [List.getD_eq_getElem?_getD,List.getElem?_append_right (show lo'.length ≤ ρ.length + j by omega),hl2,List.getElem?_append_left this,hj]] at h1
  exact h1
 have hoN : ∀ r ob,new[r]? = some ob → RB w' H2 F2 (ρ.length + gs.length + r) ob := fun r ob hj => by
  have h1 := hobs2 (ρ.length + gs.length + r)
  rw [show (lo' ++ (gs'.map gh1 ++ new)).getD (ρ.length + gs.length + r) .gone = ob by
   simp [List.getD_eq_getElem?_getD,List.getElem?_append_right (show lo'.length ≤ ρ.length + gs.length + r by omega),hl2,List.getElem?_append_right (show (gs'.map gh1).length ≤ gs.length + r by simp [hl3]),show ρ.length + gs.length + r - ρ.length = gs.length + r by omega,hl3,hj]] at h1
  exact h1
 have hoX : ∀ q,ρ.length + gs.length + new.length ≤ q → H2 q = .nil := fun q hq => by
  have h1 := hobs2 q
  rw [show (lo' ++ (gs'.map gh1 ++ new)).getD q .gone = .gone by rw [List.getD_eq_getElem?_getD,List.getElem?_eq_none (by simp; omega)]; rfl] at h1
  exact h1
 obtain ⟨H',hH'⟩ : ∃ H' : Hs,H' = fun p => match idxN ρ p 0 with | some q => H2 q | none => if st.objs.length ≤ p then H2 (ρ.length + gs.length + (p - st.objs.length)) else H p := ⟨_,rfl⟩
 have b1 : ∀ q p,ρ[q]? = some p → H' p = H2 q := fun q p hq => by
  rw [hH']
  cases hi : idxN ρ p 0 with
  | some q' =>
   obtain ⟨_,h2⟩ := idxN_ok ρ p 0 q' hi
   rw [Nat.sub_zero] at h2
   simp only [hi]
   rw [hinj q q' p hq h2]
  | none => exact absurd (Y8 hq) (idxN_none ρ p 0 hi)
 have bn : ∀ p,p ∉ ρ → idxN ρ p 0 = none := fun p hp => by
  cases hi : idxN ρ p 0 with
  | none => rfl
  | some q' => exact absurd (Y8 (idxN_ok ρ p 0 q' hi).2) hp
 have b2 : ∀ p,p ∉ ρ → p < st.objs.length → H' p = H p := fun p hp hlt => by
  rw [hH']
  simp only [bn p hp]
  rw [if_neg (by omega)]
 have b3 : ∀ r,H' (st.objs.length + r) = H2 (ρ.length + gs.length + r) := fun r => by
  have hp : st.objs.length + r ∉ ρ := fun hm => by have := hltN _ hm; omega
  rw [hH']
  simp only [bn _ hp]
  rw [if_pos (by omega),Nat.add_sub_cancel_left]
 -- where each piece comes from
 have hcase : ∀ p,(∃ q,H' p = H2 q ∧ (ρ[q]? = some p ∨ (st.objs.length ≤ p ∧ q = ρ.length + gs.length + (p - st.objs.length)))) ∨ (p ∉ ρ ∧ p < st.objs.length ∧ H' p = H p) := fun p => by
  by_cases hp : p ∈ ρ
  ·obtain ⟨q,hq⟩ := List.getElem?_of_mem hp
   exact .inl ⟨q,b1 q p hq,.inl hq⟩
  ·rcases Nat.lt_or_ge p st.objs.length with h1 | h1
   ·exact .inr ⟨hp,h1,b2 p hp h1⟩
   ·have h2 := b3 (p - st.objs.length)
    rw [show st.objs.length + (p - st.objs.length) = p by omega] at h2
    exact .inl ⟨_,h2,.inr ⟨h1,J⟩⟩
 have hfp2 : ∀ q b,b ∈ (H2 q).fp → (∃ p ∈ ρ,b ∈ (H p).fp) ∨ w.heap.size ≤ b := fun q b hb => by
  rcases hsi.org q b hb with ⟨q',h1⟩ | h1
  ·obtain ⟨p,e1,e2⟩ := a3 q' b h1
   exact .inl ⟨p,Y8 e1,e2⟩
  ·exact .inr h1
 have hblk : ∀ b,b < w.heap.size → (∀ p ∈ ρ,b ∉ (H p).fp) → w'.heap[b]? = w.heap[b]? := fun b h1 h2 => hsi.keep b h1 fun q hq => by
  obtain ⟨p,e1,e2⟩ := a3 q b hq
  exact h2 p (Y8 e1) e2
 have hold : ∀ p b,p ∉ ρ → b ∈ (H p).fp → w'.heap[b]? = w.heap[b]? := fun p b hp hb => hblk b (hr.ok.lt hb) fun r hr' hb' => hp (hr.ok.disj p r b hb hb' ▸ hr')
 have hok' : Ok w' H' F := by
  refine ⟨fun p => ?_,fun p => ?_,fun p r b h1 h2 => ?_,fun p b h1 h2 => ?_,fun b hb => Nat.lt_of_lt_of_le (hr.ok.flt b hb) hsi.size⟩
  ·rcases hcase p with ⟨q,e,_⟩ | ⟨h1,_,e⟩
   ·rw [e]; exact hok2.says q
   ·rw [e]; exact Pc.frame (fun b hb => hold p b h1 hb) (hr.ok.says p)
  ·rcases hcase p with ⟨q,e,_⟩ | ⟨_,_,e⟩
   ·rw [e]; exact hok2.nodup q
   ·rw [e]; exact hr.ok.nodup p
  ·rcases hcase p with ⟨q,e,hq⟩ | ⟨n1,l1,e⟩ <;> rcases hcase r with ⟨q',e',hq'⟩ | ⟨n2,l2,e'⟩ <;> rw [e] at h1 <;> rw [e'] at h2
   ·have := hok2.disj q q' b h1 h2
    subst this
    rcases hq with hq | ⟨hq,hq2⟩ <;> rcases hq' with hq' | ⟨hq',hq2'⟩
    ·rw [hq] at hq'; exact Option.some.inj hq'
    ·have := Y7 hq; omega
    ·have := Y7 hq'; omega
    ·omega
   ·rcases hfp2 q b h1 with ⟨p',hp',hb'⟩ | hb'
    ·have := hr.ok.disj p' r b hb' h2
     exact absurd (this ▸ hp') n2
    ·have := hr.ok.lt h2; omega
   ·rcases hfp2 q' b h2 with ⟨p',hp',hb'⟩ | hb'
    ·have := hr.ok.disj p' p b hb' h1
     exact absurd (this ▸ hp') n1
    ·have := hr.ok.lt h1; omega
   ·exact hr.ok.disj p r b h1 h2
  ·rcases hcase p with ⟨q,e,_⟩ | ⟨_,_,e⟩ <;> rw [e] at h1
   ·rcases hfp2 q b h1 with ⟨p',hp',hb'⟩ | hb'
    ·exact hr.ok.free p' b hb' h2
    ·have := hr.ok.flt b h2; omega
   ·exact hr.ok.free p b h1 h2
 have hng : ∀ q,(q < ρ.length ∨ ρ.length + gs.length ≤ q) → ∀ i v,H2 q ≠ .gh i v := fun q hq i v e => by
  rcases hq with hq | hq
  ·obtain ⟨ob,_,h2,h3⟩ := hoL q hq
   exact (bkF_ng h2 h3).2 i v e
  ·rcases Nat.lt_or_ge (q - (ρ.length + gs.length)) new.length with h1 | h1
   ·have h2 := hoN _ _ (List.getElem?_eq_getElem h1)
    rw [show ρ.length + gs.length + (q - (ρ.length + gs.length)) = q by omega] at h2
    exact (bkF_ng (List.all_eq_true.1 hb2 _ (List.getElem_mem h1)) h2).2 i v e
   ·rw [hoX q (by omega)] at e; cases e
 have htn : Turn w H w' H' (ρ ++ (List.range new.length).map (st.objs.length + ·)) := by
  refine ⟨hsi.os,hsi.tape,hsi.output,hsi.size,fun b h1 h2 => hblk b h1 fun p hp => h2 p (by simp [hp]),fun p hp => ?_,fun p b hb => ?_,fun p i v hp => ?_⟩
  ·simp only [List.mem_append,List.mem_map,List.mem_range,not_or] at hp
   rcases hcase p with ⟨q,e,hq⟩ | ⟨_,_,e⟩
   ·rcases hq with hq | ⟨hq,hq2⟩
    ·exact absurd (Y8 hq) hp.1
    ·have h1 : ¬ p - st.objs.length < new.length := fun h => hp.2 ⟨_,h,by omega⟩
     rw [e,hoX q (by omega),hnilN p hq]
   ·exact e
  ·rcases hcase p with ⟨q,e,_⟩ | ⟨_,_,e⟩ <;> rw [e] at hb
   ·rcases hfp2 q b hb with ⟨p',_,hb'⟩ | hb'
    ·exact .inl ⟨p',hb'⟩
    ·exact .inr hb'
   ·exact .inl ⟨p,hb⟩
  ·rcases hcase p with ⟨q,e,hq⟩ | ⟨_,_,e⟩ <;> rw [e] at hp
   ·refine absurd hp (hng q ?_ i v)
    rcases hq with hq | ⟨_,hq⟩
    ·exact .inl (Y7 hq)
    ·exact .inr (by omega)
   ·exact ⟨p,hp⟩
 have hplace : ∀ p ∈ kq.map (fun k => ρ.getD ((plc k.2.2).getD 0) 0),Place (H p) (H' p) := by
  intro p hp
  obtain ⟨k,hk,rfl⟩ := List.mem_map.1 hp
  obtain ⟨jj,hjj⟩ := List.getElem?_of_mem hk
  have e1 := congrArg (·[jj]?) hk1
  have e2 := congrArg (·[jj]?) hk2
  have e3 := List.all_eq_true.1 hk3 k hk
  simp only [List.getElem?_map,hjj,Option.map_some,Option.some.injEq] at e1 e2
  obtain ⟨g,g1,g2⟩ := Option.bind_eq_some_iff.1 e1
  rw [g1] at e2
  obtain ⟨v,v1,v2⟩ := hoG k.1 g e2
  have hv : v = gv g.1 := by
   obtain ⟨q',hq'⟩ := hsi.gh _ g.1 v v1
   rcases a4 q' g.1 v hq' with ⟨p',h1,h2⟩ | h1
   ·exact absurd h2 ((hgok p' (Y8 h1)).2 _ _)
   ·exact h1
  have hent := hgat _ g g1
  rw [← hv] at hent
  have hent := R2.cell hent g2
  have v2 := R2.cell v2 g2
  cases hpl : plc k.2.2 with
  | none => rw [hpl] at e3; cases e3
  | some q =>
   rw [hpl] at e3
   have hq : q < ρ.length := Nat.le_of_ble_eq_true e3
   have hqp : ρ[q]? = some (ρ.getD q 0) := by simp [List.getD_eq_getElem?_getD,hq]
   simp only [Option.getD_some]
   rw [b1 q _ hqp,← a1 q _ hqp]
   cases hx : k.2.2 with
   | ref q' =>
    rw [hx] at hpl hent v2
    simp only [plc,Option.some.injEq] at hpl
    subst hpl
    obtain ⟨x1,f1,k1⟩ := hent
    obtain ⟨x2,f2,k2⟩ := v2
    exact .inl ⟨_,_,_,_,_,k1,k2⟩
   | ptr q' i =>
    rw [hx] at hpl hent v2
    simp only [plc,Option.some.injEq] at hpl
    subst hpl
    obtain ⟨g3,t3,vs3,k1,k2⟩ := hent
    obtain ⟨g4,t4,vs4,k3,k4⟩ := v2
    rw [k2] at k4
    simp only [Value.pointer.injEq,Option.some.injEq,Addr.mk.injEq] at k4
    obtain ⟨rfl,_⟩ := k4
    exact .inr ⟨_,_,_,_,_,k1,k3⟩
   | _ => rw [hx] at hpl; cases hpl
 have hpl : ∀ q,H2 q ≠ .nil → (∀ i v,H2 q ≠ .gh i v) → H' (phi ρ gs.length st.objs.length q) = H2 q := fun q h1 h2 => by
  unfold phi
  split
  ·rename_i hq
   have hq := Nat.le_of_ble_eq_true hq
   exact b1 q _ (by simp [List.getD_eq_getElem?_getD,show q < ρ.length by omega])
  ·rename_i hq
   have hq : ρ.length ≤ q := Nat.le_of_not_lt fun hlt => by rw [show Nat.blt q ρ.length = true from Nat.ble_eq_true_of_le hlt] at hq; cases hq
   have hq2 : ρ.length + gs.length ≤ q := by
    refine Nat.le_of_not_lt fun hlt => ?_
    have hj : q - ρ.length < gs'.length := by omega
    obtain ⟨v,v1,_⟩ := hoG (q - ρ.length) _ (List.getElem?_eq_getElem hj)
    rw [show ρ.length + (q - ρ.length) = q by omega] at v1
    exact h2 _ _ v1
   rw [b3,show ρ.length + gs.length + (q - (ρ.length + gs.length)) = q by omega]
 have hF2 : ∀ b,F b → F2 b := fun b hb => hsi.fF b (hFF b hb)
 have hF3 : ∀ b,F2 b → F b ∨ w.heap.size ≤ b ∨ ∃ p ∈ ρ,b ∈ (H p).fp := fun b hb => by
  rcases hsi.fF' b hb with h1 | h1 | ⟨q,h1⟩
  ·rw [hF1] at h1; exact .inl h1
  ·exact .inr (.inl h1)
  ·obtain ⟨p,e1,e2⟩ := a3 q b h1
   exact .inr (.inr ⟨p,Y8 e1,e2⟩)
 have hok2' : Ok w' H' F2 := by
  refine ⟨hok'.says,hok'.nodup,hok'.disj,fun p b h1 h2 => ?_,hok2.flt⟩
  rcases hcase p with ⟨q,e,_⟩ | ⟨n1,_,e⟩ <;> rw [e] at h1
  ·exact hok2.free q b h1 h2
  ·rcases hF3 b h2 with h3 | h3 | ⟨p',hp',h3⟩
   ·exact hr.ok.free p b h1 h3
   ·have := hr.ok.lt h1; omega
   ·exact n1 (hr.ok.disj p' p b h3 h1 ▸ hp')
 have hS2 : Since E w' H' F2 := by
  have hs := hsince.turn htn
  refine ⟨hs.os,hs.tape,hs.output,hs.size,hs.keep,fun b hb => hF2 b (hsince.fF b hb),fun b hb => ?_,hs.org,hs.gh⟩
  rcases hF3 b hb with h3 | h3 | ⟨p',_,h3⟩
  ·exact hsince.fF' b h3
  ·exact .inr (.inl (Nat.le_trans hsince.size h3))
  ·rcases hsince.org p' b h3 with h4 | h4
   ·exact .inr (.inr h4)
   ·exact .inr (.inl h4)
 have hR := hr.mapkF (V1.killw (ρ ++ (List.range new.length).map (st.objs.length + ·)) (kq.map fun k => ρ.getD ((plc k.2.2).getD 0) 0)) (fun x v hx => R1.moreF hF2 (R1.killw hr.ok htn hplace hx)) hok2'
  (setL (st.objs.map (Ob.mapk (V1.killw (ρ ++ (List.range new.length).map (st.objs.length + ·)) (kq.map fun k => ρ.getD ((plc k.2.2).getD 0) 0)))) ρ (lo'.map (Ob.ren (phi ρ gs.length st.objs.length))) ++ new.map (Ob.ren (phi ρ gs.length st.objs.length))) (fun p => ?_)
 ·have hR2 := hR.put (x := res.ren (phi ρ gs.length st.objs.length)) o.dst hd (v := rv) (plantwVF hpl hcl hres)
  exact hK _ _ (h.h _ _ ⟨_,F2,hR2,hS2⟩)
 ·have hsl : (setL (st.objs.map (Ob.mapk (V1.killw (ρ ++ (List.range new.length).map (st.objs.length + ·)) (kq.map fun k => ρ.getD ((plc k.2.2).getD 0) 0)))) ρ (lo'.map (Ob.ren (phi ρ gs.length st.objs.length)))).length = st.objs.length := by rw [setL_len]; simp
  rcases Nat.lt_or_ge p st.objs.length with h1 | h1
  ·rw [List.getD_eq_getElem?_getD,List.getElem?_append_left (by rw [hsl]; exact h1),← List.getD_eq_getElem?_getD]
   by_cases hp : p ∈ ρ
   ·obtain ⟨q,hq⟩ := List.getElem?_of_mem hp
    obtain ⟨ob,k1,k2,k3⟩ := hoL q (Y7 hq)
    rw [setL_in ρ _ _ q p (ob.ren (phi ρ gs.length st.objs.length)) hnd (fun r hr' => by simpa using hltN r hr') hq (by rw [List.getElem?_map,k1]; rfl)]
    exact plantwBF hpl (b1 q p hq) k2 k3
   ·rw [setL_out ρ _ _ p hp,List.getD_eq_getElem?_getD,List.getElem?_map,List.getElem?_eq_getElem h1]
    have h2 := hr.obs p
    rw [List.getD_eq_getElem?_getD,List.getElem?_eq_getElem h1] at h2
    exact RB.mapk (fun x v hx => R1.moreF hF2 (R1.killw hr.ok htn hplace hx)) (b2 p hp h1) h2
  ·rw [List.getD_eq_getElem?_getD,List.getElem?_append_right (by rw [hsl]; exact h1),hsl,List.getElem?_map]
   have h2 := b3 (p - st.objs.length)
   rw [show st.objs.length + (p - st.objs.length) = p by omega] at h2
   cases hn : new[p - st.objs.length]? with
   | none => exact h2.trans (hoX _ (by have := List.getElem?_eq_none_iff.1 hn; omega))
   | some ob => exact plantwBF hpl h2 (List.all_eq_true.1 hb2 ob (Y8 hn)) (hoN _ ob hn)
theorem Xz {ts : List (Nat × V)} {obs : List Ob} {d : Nat} {f : FuncId} [hf : FunOk P f] {ass : Array Operand} {tys : Array TypeId} {args : List V2} {lo lo' new : List Ob} {gs : List (Nat × V2)} {res : V} (ρ : List Nat) (kq : List (Nat × Nat × V1)) (hc : Con P f (lo ++ gs.map gh1) args (lo' ++ (gs.map gh1 ++ new)) res) (ho : o.op = .call { callee := .value (.func f),args := ass,argTypes := tys }) (hg : o.guard = none)
  (hd : o.dst = some d) (hl : Nat.blt d n = true) (hρ : nodupB ρ = true) (hlt : ρ.all (fun p => Nat.blt p obs.length) = true) (hl1 : lo.length = ρ.length) (hl2 : lo'.length = ρ.length)
  (hlo : lo.map (Ob.ren (rho ρ obs.length)) = ρ.map fun p => obs.getD p .gone) (hgn : ρ.all (fun p => (obs.getD p .gone).back || (match obs.getD p .gone with | .box _ => true | _ => false)) = true) (ha : ass.toList.map (fun y => lendF ρ (St.ev ⟨n,ts,obs⟩ y)) = args)
  (hgs : gs.map (fun g => gsrc args lo g.1) = gs.map (fun g => some g.2)) (hk1 : kq.map (fun k => gs[k.1]?.bind fun g => pickC g.2 k.2.1) = kq.map (fun k => some k.2.2)) (hk3 : kq.all (fun k => match plc k.2.2 with | some q => Nat.blt q ρ.length | none => false) = true)
  (hcl : res.clF = true) (hb1 : lo'.all Ob.bkF = true) (hb2 : new.all Ob.bkF = true)
  (h : AL P E ops QQ rest ⟨n,(d,res.ren (phi ρ gs.length obs.length)) :: (ts.map fun e => (e.1,e.2.mapk (V1.killw (ρ ++ (List.range new.length).map (obs.length + ·)) (kq.map fun k => ρ.getD ((plc k.2.2).getD 0) 0)))),
   setL (obs.map (Ob.mapk (V1.killw (ρ ++ (List.range new.length).map (obs.length + ·)) (kq.map fun k => ρ.getD ((plc k.2.2).getD 0) 0)))) ρ (lo'.map (Ob.ren (phi ρ gs.length obs.length))) ++ new.map (Ob.ren (phi ρ gs.length obs.length))⟩) : AL P E ops QQ (o :: rest) ⟨n,ts,obs⟩ := by
 have hk2 : kq.map (fun k => gs[k.1]?) = kq.map (fun k => gs[k.1]?) := rfl
 exact L_lentF (st := ⟨n,ts,obs⟩) ρ kq ho hg hc hρ hlt hl1 hl2 J hlo hgn ha hgs hk1 hk2 hk3 hcl hb1 hb2 (by rw [hd]; exact hl) (by rw [hd]; exact h)
end
end
section
open Go.RowKit

theorem flat_one {fps : List (List (List Nat))} {i j : Nat} {G : List (List Nat)} {f : List Nat} (hi : fps[i]? = some G) (hj : G[j]? = some f) : ∃ X Z : List Nat,fps.flatten.flatten = X ++ f ++ Z ∧ ∀ f' : List Nat,(fps.set i (splice G j [f'])).flatten.flatten = X ++ f' ++ Z := by
 obtain ⟨hlt,he⟩ := List.getElem?_eq_some_iff.1 hi
 obtain ⟨hlj,hf⟩ := List.getElem?_eq_some_iff.1 hj
 refine ⟨(fps.take i).flatten.flatten ++ (G.take j).flatten,(G.drop (j + 1)).flatten ++ (fps.drop (i + 1)).flatten.flatten,?_,fun f' => ?_⟩
 ·conv => lhs; rw [← List.take_append_drop i fps,List.drop_eq_getElem_cons hlt,he]
  have hG : G.flatten = (G.take j).flatten ++ f ++ (G.drop (j + 1)).flatten := by
   conv => lhs; rw [← List.take_append_drop j G,List.drop_eq_getElem_cons hlj,hf]
   simp [List.append_assoc]
  rw [List.flatten_append,List.flatten_cons,List.flatten_append,List.flatten_append,hG]
  simp [List.append_assoc]
 ·rw [List.set_eq_take_append_cons_drop,if_pos hlt]
  rw [List.flatten_append,List.flatten_cons,List.flatten_append,List.flatten_append,splice,List.flatten_append,List.flatten_append]
  simp [List.append_assoc]

theorem sep_list {l : List (List Nat)} (hn : l.flatten.Nodup) {i j : Nat} {f g : List Nat} (hi : l[i]? = some f) (hj : l[j]? = some g) (hij : i ≠ j) {x : Nat} (hx : x ∈ f) (hy : x ∈ g) : False := by
 obtain ⟨hp,hq⟩ := List.pairwise_flatten.1 hn
 obtain ⟨h1,rfl⟩ := List.getElem?_eq_some_iff.1 hi
 obtain ⟨h2,rfl⟩ := List.getElem?_eq_some_iff.1 hj
 rcases Nat.lt_or_gt_of_ne hij with h | h
 ·exact (List.pairwise_iff_getElem.1 hq i j h1 h2 h) x hx x hy rfl
 ·exact (List.pairwise_iff_getElem.1 hq j i h2 h1 h) x hy x hx rfl
theorem sep_elems {fps : List (List (List Nat))} (hn : fps.flatten.flatten.Nodup) {i i' j j' : Nat} {G G' : List (List Nat)} {f g : List Nat} (hi : fps[i]? = some G) (hi' : fps[i']? = some G') (hii : i ≠ i') (hf : G[j]? = some f) (hg : G'[j']? = some g) {x : Nat} (hx : x ∈ f) (hy : x ∈ g) : False := by
 have h1 : (fps.map List.flatten).flatten = fps.flatten.flatten := by simp [List.flatten_flatten]
 rw [← h1] at hn
 exact sep_list hn (i := i) (j := i') (f := G.flatten) (g := G'.flatten) (by simp [hi]) (by simp [hi']) hii (List.mem_flatten.2 ⟨f,Y8 hf,hx⟩) (List.mem_flatten.2 ⟨g,Y8 hg,hy⟩)
theorem sep_cells {fps : List (List (List Nat))} (hn : fps.flatten.flatten.Nodup) {i j j' : Nat} {G : List (List Nat)} {f g : List Nat} (hi : fps[i]? = some G) (hf : G[j]? = some f) (hg : G[j']? = some g) (hjj : j ≠ j') {x : Nat} (hx : x ∈ f) (hy : x ∈ g) : False := by
 have h1 : (fps.map List.flatten).flatten = fps.flatten.flatten := by simp [List.flatten_flatten]
 rw [← h1] at hn
 obtain ⟨hp,_⟩ := List.pairwise_flatten.1 hn
 exact sep_list (hp G.flatten (List.mem_map.2 ⟨G,Y8 hi,J⟩)) hf hg hjj hx hy

theorem OW.inner {w : World} {k : Nat} {es : List (List T)} {v : Value} {fp : List Nat} (h : OW w (.sl k es) v fp) (hnd : fp.Nodup) {i j k' : Nat} {e : List T} {es0 : List (List T)} (hi : es[i]? = some e) (hj : e[j]? = some (.sl k' es0)) :
  ∃ b o c u f,v = .slice (some ⟨b,o,none⟩) es.length c ∧ b ∈ fp ∧ w.cell? ⟨b,o + i * k + j,none⟩ = some u ∧ OW w (.sl k' es0) u f ∧ f.Nodup ∧ (∀ x ∈ f,x ∈ fp) ∧
   ∀ (w' : World) (t1 : T) (f' : List Nat),(∀ x ∈ fp,x ∉ f → w'.heap[x]? = w.heap[x]?) → OW w' t1 u f' → f'.Nodup → (∀ x ∈ f',x ∈ f ∨ w.heap.size ≤ x) → (∀ x ∈ fp,x < w.heap.size) →
    ∃ fp',OW w' (.sl k (es.set i (splice e j [t1]))) v fp' ∧ fp'.Nodup ∧ ∀ x ∈ fp',(x ∈ fp ∧ x ∉ f) ∨ x ∈ f' := by
 rcases h.open_ with ⟨rfl,rfl,rfl⟩ | ⟨b,o,c,tid,cur,fz,val,fps,rfl,rfl,hg,hz,hc,hcm,hcs,hp,hk,hff,hfk,hv,ht⟩
 ·simp at hi
 have hil := Y7 hi
 have hek : e.length = k := hk e (Y8 hi)
 have hjl := Y7 hj
 rw [hek] at hjl
 have hfi : fps[i]? = some fps[i] := List.getElem?_eq_getElem (by omega)
 have hfik : (fps[i]'(by omega)).length = k := hfk _ (List.getElem_mem _)
 obtain ⟨G,hG⟩ : ∃ G,G = fps[i]'(by omega) := ⟨_,rfl⟩
 rw [← hG] at hfi hfik
 obtain ⟨f,hf⟩ : ∃ f,G[j]? = some f := ⟨_,List.getElem?_eq_getElem (by omega)⟩
 obtain ⟨X,Z,e1,e2⟩ := flat_one hfi hf
 have hndc := List.nodup_cons.1 hnd
 have hndf := hndc.2
 rw [e1] at hndf
 obtain ⟨n1,n2,n3⟩ := List.nodup_append.1 hndf
 obtain ⟨n4,n5,n6⟩ := List.nodup_append.1 n1
 have hbf : b ∉ f := fun hb => hndc.1 (mem_ff hfi hf hb)
 refine ⟨b,o,c,val i j,f,J,by simp,?_,ht i j e _ G f hi hj hfi hf,n5,fun x hx => List.mem_cons_of_mem _ (mem_ff hfi hf hx),fun w' t1 f' hw hO hn' hf' hlt => ?_⟩
 ·rw [cell_of_row w b _ cur tid fz hg]
  exact hv i j hil hjl
 have hset : (es.set i (splice e j [t1])).length = es.length := by simp
 have hfr : ∀ (i' j' : Nat) (e' : List T) (t : T) (fs : List (List Nat)) (g : List Nat),es[i']? = some e' → e'[j']? = some t → fps[i']? = some fs → fs[j']? = some g → (∀ x ∈ g,x ∉ f) → OW w' t (val i' j') g := fun i' j' e' t fs g g1 g2 g3 g4 hd =>
  (ht i' j' e' t fs g g1 g2 g3 g4).frame fun x hx => hw x (List.mem_cons_of_mem _ (mem_ff g3 g4 hx)) (hd x hx)
 have hold : ∀ x ∈ X ++ f ++ Z,x < w.heap.size := fun x hx => hlt x (List.mem_cons_of_mem _ (by rw [e1]; exact hx))
 have hdX : ∀ x ∈ X,x ∉ f' := fun x hx hx' => by
  rcases hf' x hx' with h1 | h1
  ·exact n6 x hx x h1 rfl
  ·have := hold x (by simp [hx]); omega
 have hdZ : ∀ x ∈ Z,x ∉ f' := fun x hx hx' => by
  rcases hf' x hx' with h1 | h1
  ·exact n3 x (by simp [h1]) x hx rfl
  ·have := hold x (by simp [hx]); omega
 refine ⟨b :: (fps.set i (splice G j [f'])).flatten.flatten,?_,?_,?_⟩
 ·rw [← hset]
  refine .sl _ b o k c tid cur fz val _ (by rw [hw b (by simp) hbf]; exact hg) hz (by rw [hset]; exact hc) hcm hcs hp ?_ (by simp [hff]) ?_ (fun i' j' hi' hj' => hv i' j' (by rw [← hset]; exact hi') hj') fun i' j' e' t' fs' g' g1 g2 g3 g4 => ?_
  ·intro e' he'
   rcases List.mem_or_eq_of_mem_set he' with he' | rfl
   ·exact hk e' he'
   ·rw [splice_len (by simp; omega),hek]
  ·intro g hg'
   rcases List.mem_or_eq_of_mem_set hg' with hg' | rfl
   ·exact hfk g hg'
   ·rw [splice_len (by simp; omega),hfik]
  ·rw [List.getElem?_set] at g1 g3
   by_cases hii : i = i'
   ·subst hii
    simp only [hil,if_true,Option.some.injEq] at g1
    rw [if_pos rfl,if_pos (by omega)] at g3
    simp only [Option.some.injEq] at g3
    subst g1 g3
    rw [splice_at (by simp; omega)] at g2 g4
    by_cases hcond : j ≤ j' ∧ j' < j + 1
    ·have hjj : j' = j := by omega
     subst hjj
     rw [if_pos (by simp)] at g2 g4
     simp at g2 g4
     subst g2 g4
     exact hO
    ·rw [if_neg (by simpa using hcond)] at g2 g4
     refine hfr i j' e t' G g' hi g2 hfi g4 fun x hx hxf => ?_
     -- two cells of one element own different blocks
     obtain ⟨X2,Z2,e3,e4⟩ := flat_one hfi g4
     exact sep_cells hndc.2 hfi hf g4 (fun e => hcond ⟨by omega,by omega⟩) hxf hx
   ·rw [if_neg hii] at g1 g3
    refine hfr i' j' e' t' fs' g' g1 g2 g3 g4 fun x hx hxf => ?_
    exact sep_elems hndc.2 hfi g3 hii hf g4 hxf hx
 ·rw [e2]
  refine List.nodup_cons.2 ⟨fun hb => ?_,List.nodup_append.2 ⟨List.nodup_append.2 ⟨n4,hn',fun x hx y hy e => hdX x hx (e ▸ hy)⟩,n2,fun x hx y hy e => ?_⟩⟩
  ·rcases List.mem_append.1 hb with hb | hb
   ·rcases List.mem_append.1 hb with hb | hb
    ·exact hndc.1 (by rw [e1]; simp [hb])
    ·rcases hf' b hb with h1 | h1
     ·exact hbf h1
     ·have := hlt b (by simp); omega
   ·exact hndc.1 (by rw [e1]; simp [hb])
  ·rcases List.mem_append.1 hx with hx | hx
   ·exact n3 x (by simp [hx]) y hy e
   ·exact hdZ y hy (e ▸ hx)
 ·rw [e2,e1]
  intro x hx
  rcases List.mem_cons.1 hx with rfl | hx
  ·exact .inl ⟨by simp,hbf⟩
  ·rcases List.mem_append.1 hx with hx | hx
   ·rcases List.mem_append.1 hx with hx | hx
    ·exact .inl ⟨by simp [hx],fun h => n6 x hx x h rfl⟩
    ·exact .inr hx
   ·exact .inl ⟨by simp [hx],fun h => n3 x (by simp [h]) x hx rfl⟩

section
variable {P : Program} {E : Env} {ops : Array Oper} {o : Oper} {st : St} {rest : List Oper} {QQ : Exit → St → Prop} {w : World} {H : Hs} {F : Nat → Prop} {a : Act} {t : TypeId} {y : Operand} {n : Nat}
end
end
section
open Go.RowKit

theorem OW.take {w : World} {k : Nat} {es : List (List T)} {v : Value} {fp : List Nat} (h : OW w (.sl k es) v fp) (hnd : fp.Nodup) {n : Nat} (hn : n ≤ es.length) : ∃ A c fp',v = .slice A es.length c ∧ es.length ≤ c ∧ OW w (.sl k (es.take n)) (.slice (if c = 0 then A else A.map (·.add (0 * k))) (n - 0) (c - 0)) fp' ∧ (∀ b ∈ fp',b ∈ fp) ∧ fp'.Nodup := by
 cases h with
 | nil =>
  have : n = 0 := by simpa using hn
  subst this
  exact ⟨none,0,[],J,Nat.le_refl _,by simpa using OW.nil (w := w) k,by simp,by simp⟩
 | sl _ b o _ c tid cur fz val fps hg hz hc hm hs hp hk hf hfk hv ht =>
  have hA : (if c = 0 then some (⟨b,o,none⟩ : Addr) else (some (⟨b,o,none⟩ : Addr)).map (·.add (0 * k))) = some ⟨b,o,none⟩ := by
   split
   ·rfl
   ·simp [Addr.add]
  have hl : (es.take n).length = n := by simp; omega
  have hfl : fps.flatten.flatten = (fps.take n).flatten.flatten ++ (fps.drop n).flatten.flatten := by
   rw [← List.flatten_append,← List.flatten_append,List.take_append_drop]
  refine ⟨some ⟨b,o,none⟩,c,b :: (fps.take n).flatten.flatten,J,hc,?_,fun x hx => ?_,?_⟩
  ·rw [hA]
   have h1 := OW.sl (w := w) (es.take n) b o k c tid cur fz val (fps.take n) hg hz (by omega) hm hs hp (fun e he => hk e (List.mem_of_mem_take he)) (by simp [hf]) (fun f hf' => hfk f (List.mem_of_mem_take hf'))
    (fun i j hi hj => hv i j (by omega) hj) (fun i j e t fs f g1 g2 g3 g4 => by
     have hi := Y7 g1
     rw [hl] at hi
     rw [List.getElem?_take,if_pos hi] at g1 g3
     exact ht i j e t fs f g1 g2 g3 g4)
   rw [hl] at h1
   simpa using h1
  ·rcases List.mem_cons.1 hx with rfl | hx
   ·simp
   ·exact List.mem_cons_of_mem _ (by rw [hfl]; exact List.mem_append_left _ hx)
  ·rw [hfl,← List.cons_append] at hnd
   exact (List.nodup_append.1 hnd).1

def V1.tohd (p n : Nat) : V1 → V1
 | .hd q m => match Nat.beq q p with
  | true => match Nat.beq m n with
   | true => .ref p
   | false => .un
  | false => .hd q m
 | x => x.kill [p]
theorem Wk.head0 {st : St} {p k : Nat} {es : List (List T)} (n : Nat) (hp : st.objs[p]? = some (.row k es)) (hn : n ≤ es.length) : Wk st ⟨st.n,st.tmps.map fun e => (e.1,e.2.mapk (V1.tohd p n)),(st.objs.map (Ob.mapk (V1.tohd p n))).set p (.row k (es.take n))⟩ := by
 intro w H F a h1
 obtain ⟨v,fp,e1,e2⟩ := h1.ow hp
 have hnd := h1.ok.nodup p
 rw [e1] at hnd
 obtain ⟨A,c,fp'',hvA,hc,h3,h5,h4⟩ := e2.take hnd hn
 have hA : (if c = 0 then A else A.map (·.add (0 * k))) = A := by
  split
  ·rfl
  ·cases A <;> simp [Addr.add]
 rw [hA,Nat.sub_zero,Nat.sub_zero] at h3
 have hkeep : Keeps w w fp := ⟨rfl,rfl,rfl,Nat.le_refl _,fun _ _ _ => rfl⟩
 obtain ⟨hok,htn⟩ := h1.ok.turn (p := p) (fp := fp) (by rw [e1]; rfl) hkeep (.ow (.sl k (es.take n)) _ fp'') h3 h4 trivial (fun b hb => .inl (h5 b hb))
 have hone : ∀ x v,R1 w H F x v → R1 w (H.put p (.ow (.sl k (es.take n)) (.slice A n c) fp'')) F (V1.tohd p n x) v := fun x u hx => by
  cases x with
  | hd q m =>
   simp only [V1.tohd]
   obtain ⟨A',m',c',x,fp',e3,rfl⟩ := hx
   split
   ·rename_i hq
    have hqp := Nat.eq_of_beq_eq_true hq
    subst hqp
    split
    ·rename_i hm
     have := Nat.eq_of_beq_eq_true hm
     subst this
     rw [e1] at e3
     simp only [Pc.ow.injEq] at e3
     obtain ⟨_,e4,_⟩ := e3
     rw [hvA] at e4
     simp only [Value.slice.injEq] at e4
     obtain ⟨rfl,_,rfl⟩ := e4
     exact ⟨_,_,Hs.put_self _ _ _⟩
    ·trivial
   ·rename_i hq
    have hqp : q ≠ p := fun e => by rw [e,show Nat.beq p p = true from Nat.beq_refl p] at hq; cases hq
    exact ⟨A',m',c',x,fp',by rw [Hs.put_ne _ _ hqp,e3],J⟩
  | _ => exact R1.killed h1.ok htn hx
 obtain ⟨hplt,_⟩ := List.getElem?_eq_some_iff.1 hp
 refine ⟨_,h1.mapk (V1.tohd p n) hone hok ((st.objs.map (Ob.mapk (V1.tohd p n))).set p (.row k (es.take n))) (fun q => ?_),fun q b hb => ?_,htn.gh⟩
 ·by_cases hqp : q = p
  ·subst hqp
   rw [Y6 (x := .row k (es.take n)) (by simp [hplt])]
   exact ⟨_,_,Hs.put_self _ _ _⟩
  ·rw [List.getD_eq_getElem?_getD,List.getElem?_set_ne (Ne.symm hqp),List.getElem?_map]
   have h2 := h1.obs q
   rw [List.getD_eq_getElem?_getD] at h2
   have h3 : H.put p (.ow (.sl k (es.take n)) (.slice A n c) fp'') q = H q := Hs.put_ne _ _ hqp
   cases ho : st.objs[q]? with
   | none => rw [ho] at h2; exact h3.trans h2
   | some ob => rw [ho] at h2; exact RB.mapk hone h3 h2
 ·by_cases hqp : q = p
  ·subst hqp
   rw [Hs.put_self] at hb
   exact ⟨q,by rw [e1]; exact h5 b hb⟩
  ·exact ⟨q,by rw [← Hs.put_ne H _ hqp]; exact hb⟩
def allP {α : Type} (f : α → Prop) : List α → Prop
 | [] => True
 | x :: l => f x ∧ allP f l
theorem Yd {α β : Type} {f : α → Prop} {g h : α → β} (hgh : ∀ x,f x → g x = h x) : ∀ {l : List α},allP f l → l.map g = l.map h
 | [],_ => rfl
 | x :: l,hl => by rw [List.map_cons,List.map_cons,hgh x hl.1,Yd hgh hl.2]
def V1.hdok (p n : Nat) : V1 → Prop
 | .hd q m => match Nat.beq q p with
  | true => m = n
  | false => True
 | _ => True
def V2.hdok (p n : Nat) : V2 → Prop
 | .c x => x.hdok p n
 | .ag xs => allP (V1.hdok p n) xs
def V.hdok (p n : Nat) : V → Prop
 | .o x => x.hdok p n
 | .tu xs => allP (V2.hdok p n) xs
 | .iff _ x => x.hdok p n
def Ob.hdok (p n : Nat) : Ob → Prop
 | .box cs => allP (V1.hdok p n) cs
 | .gh _ x => x.hdok p n
 | _ => True
def V1.tohe (p : Nat) : V1 → V1
 | .hd q m => match Nat.beq q p with
  | true => .ref p
  | false => .hd q m
 | x => x.kill [p]
theorem V1.tohe_eq {p n : Nat} (x : V1) (h : x.hdok p n) : x.tohd p n = x.tohe p := by
 cases x with
 | hd q m =>
  simp only [V1.tohd,V1.tohe]
  cases hq : Nat.beq q p with
  | true =>
   simp only [V1.hdok,hq] at h
   subst h
   simp only [show Nat.beq m m = true from Nat.beq_refl m]
  | false => rfl
 | _ => rfl
theorem V2.tohe_eq {p n : Nat} (x : V2) (h : x.hdok p n) : x.mapk (V1.tohd p n) = x.mapk (V1.tohe p) := by
 cases x with
 | c x => exact congrArg V2.c (V1.tohe_eq x h)
 | ag xs => exact congrArg V2.ag (Yd (fun x hx => V1.tohe_eq x hx) h)
theorem V.tohe_eq {p n : Nat} (x : V) (h : x.hdok p n) : x.mapk (V1.tohd p n) = x.mapk (V1.tohe p) := by
 cases x with
 | o x => exact congrArg V.o (V2.tohe_eq x h)
 | tu xs => exact congrArg V.tu (Yd (fun x hx => V2.tohe_eq x hx) h)
 | iff cs x => exact congrArg (V.iff cs) (V2.tohe_eq x h)
theorem Ob.tohe_eq {p n : Nat} (x : Ob) (h : x.hdok p n) : x.mapk (V1.tohd p n) = x.mapk (V1.tohe p) := by
 cases x with
 | box cs => exact congrArg Ob.box (Yd (fun x hx => V1.tohe_eq x hx) h)
 | gh i x => exact congrArg (Ob.gh i) (V2.tohe_eq x h)
 | _ => rfl
theorem Wk.head {st : St} {p k : Nat} {es : List (List T)} (n : Nat) (hp : st.objs[p]? = some (.row k es)) (hn : n ≤ es.length) (ht : allP (fun e : Nat × V => e.2.hdok p n) st.tmps) (ho : allP (Ob.hdok p n) st.objs) : Wk st ⟨st.n,st.tmps.map fun e => (e.1,e.2.mapk (V1.tohe p)),(st.objs.map (Ob.mapk (V1.tohe p))).set p (.row k (es.take n))⟩ := by
 have h := Wk.head0 n hp hn
 rw [Yd (g := fun e : Nat × V => (e.1,e.2.mapk (V1.tohd p n))) (h := fun e : Nat × V => (e.1,e.2.mapk (V1.tohe p))) (fun e he => by rw [V.tohe_eq e.2 he]) ht,Yd (fun x hx => Ob.tohe_eq x hx) ho] at h
 exact h
section
variable {P : Program} {E : Env} {ops : Array Oper} {o : Oper} {st : St} {rest : List Oper} {QQ : Exit → St → Prop} {t : TypeId} {y u : Operand} {rs : List Nat} {j : Int} {m : Nat}
theorem q_hd {p kk : Nat} {es : List (List T)} {e : TypeId} {zs : List Value} {by_ : Nat} [hm : TyMake P t e zs by_] (ho : o.op = .slice t y none (some u) none) (hg : o.guard = none) (hy : st.ev y = .o (.c (.ref p))) (hp : st.objs[p]? = some (.row kk es)) (hu : st.ev u = .o (.c (.rd rs (.v (.int .i64 j))))) (hkz : kk = zs.length) (h0 : 0 ≤ j ∧ j ≤ es.length) : Qt P ops o st (.o (.c (.hd p j.toNat))) [] m :=
 .pure hg fun a w H F h1 => by
  obtain ⟨v,fp,e1,e2⟩ := h1.ow hp
  obtain ⟨x',fp',e3⟩ := h1.v1 hy
  rw [e1] at e3
  simp only [Pc.ow.injEq] at e3
  obtain ⟨_,hv,_⟩ := e3
  have hnd := h1.ok.nodup p
  rw [e1] at hnd
  obtain ⟨A,c,fp'',hvA,hc,h3,h5,h4⟩ := e2.take hnd (n := j.toNat) (by omega)
  have hA : (if c = 0 then A else A.map (·.add (0 * kk))) = A := by
   split
   ·rfl
   ·cases A <;> simp [Addr.add]
  have hrun := run_slice (P := P) (w := w) (t := t) (e := e) (zs := zs) (by_ := by_) (A := A) (m := es.length) (c := c) none (some j) 0 j.toNat rfl ⟨h0.1,rfl⟩ (Nat.zero_le _) (by omega)
  rw [← hkz,hA,Nat.sub_zero,Nat.sub_zero] at hrun
  refine ⟨.slice A j.toNat c,?_,?_⟩
  ·have hu1 := h1.plain hu
   have hvy : a.eval y = .slice A es.length c := by rw [← hv,hvA]
   unfold execOp
   simp only [ho,Option.map_none,Option.map_some,hu1,hvy,Sem.run_bind]
   simp only [Option.map_none,Option.map_some] at hrun
   rw [hrun]
   rfl
  ·exact ⟨A,es.length,c,_,_,by rw [e1,hvA],rfl⟩
end
section
variable {P : Program} {E : Env} {ops : Array Oper} {o : Oper} {st : St} {rest : List Oper} {QQ : Exit → St → Prop} {t : TypeId} {y u : Operand} {rs : List Nat} {j : Int}
end
end
section
open Go.RowKit

def V2.allk (f : V1 → Prop) : V2 → Prop
 | .c x => f x
 | .ag xs => allP f xs
def V.allk (f : V1 → Prop) : V → Prop
 | .o x => x.allk f
 | .tu xs => allP (V2.allk f) xs
 | .iff _ x => x.allk f
def Ob.allk (f : V1 → Prop) : Ob → Prop
 | .box cs => allP f cs
 | .gh _ x => x.allk f
 | _ => True
section
variable {f : V1 → Prop} {g h : V1 → V1} (hgh : ∀ x,f x → g x = h x)
include hgh
theorem V2.allk_eq (x : V2) (hx : x.allk f) : x.mapk g = x.mapk h := by
 cases x with
 | c x => exact congrArg V2.c (hgh x hx)
 | ag xs => exact congrArg V2.ag (Yd hgh hx)
theorem V.allk_eq (x : V) (hx : x.allk f) : x.mapk g = x.mapk h := by
 cases x with
 | o x => exact congrArg V.o (V2.allk_eq hgh x hx)
 | tu xs => exact congrArg V.tu (Yd (V2.allk_eq hgh) hx)
 | iff cs x => exact congrArg (V.iff cs) (V2.allk_eq hgh x hx)
theorem Ob.allk_eq (x : Ob) (hx : x.allk f) : x.mapk g = x.mapk h := by
 cases x with
 | box cs => exact congrArg Ob.box (Yd hgh hx)
 | gh i x => exact congrArg (Ob.gh i) (V2.allk_eq hgh x hx)
 | _ => rfl
end
def V1.leok (p kk i j : Nat) : V1 → Prop
 | .le q k a b => match Nat.beq q p with
  | true => k = kk ∧ a = i ∧ b = j
  | false => True
 | _ => True
def V1.tole (p m : Nat) : V1 → V1
 | .le q k a b => match Nat.beq q p with
  | true => .ref m
  | false => (V1.le q k a b).killw [p,m] [p]
 | x => x.killw [p,m] [p]
def V1.tole0 (p m kk i j : Nat) : V1 → V1
 | .le q k a b => match Nat.beq q p with
  | true => if k = kk ∧ a = i ∧ b = j then .ref m else .un
  | false => (V1.le q k a b).killw [p,m] [p]
 | x => x.killw [p,m] [p]
theorem V1.tole_eq {p m kk i j : Nat} (x : V1) (hx : x.leok p kk i j) : x.tole0 p m kk i j = x.tole p m := by
 cases x with
 | le q k a b =>
  simp only [V1.tole0,V1.tole]
  simp only [V1.leok] at hx
  split
  ·rename_i hq
   rw [hq] at hx
   exact if_pos hx
  ·rfl
 | _ => rfl
theorem Wk.split0 {st : St} {p kk i j k' : Nat} {es es0 : List (List T)} {e : List T} (hp : st.objs[p]? = some (.row kk es)) (he : es[i]? = some e) (hx : e[j]? = some (.sl k' es0)) :
  Wk st ⟨st.n,st.tmps.map fun t => (t.1,t.2.mapk (V1.tole0 p st.objs.length kk i j)),((st.objs.map (Ob.mapk (V1.tole0 p st.objs.length kk i j))).set p (.row kk (es.set i (splice e j [.un])))) ++ [.row k' es0]⟩ := by
 intro w H F a h1
 obtain ⟨v,fp,e1,e2⟩ := h1.ow hp
 have hnd := h1.ok.nodup p
 rw [e1] at hnd
 have hnil : H st.objs.length = .nil := by
  have := h1.obs st.objs.length
  simpa [List.getD_eq_getElem?_getD,RB] using this
 have hplt := Y7 hp
 obtain ⟨b,o,c,u,f,rfl,hbf,hcell,hO,hfn,hsub,hback⟩ := e2.inner hnd he hx
 have hlt : ∀ x ∈ fp,x < w.heap.size := fun x hx => h1.ok.lt (p := p) (by rw [e1]; exact hx)
 have hu1 : u.oneCell' = true := OW.one hO
 obtain ⟨fp',g1,g2,g3⟩ := hback w .un [] (fun _ _ _ => rfl) (.un u hu1) List.nodup_nil (fun x hx => by simp at hx) hlt
 have g4 : ∀ x ∈ fp',x ∈ fp ∧ x ∉ f := fun x hx => (g3 x hx).resolve_right (by simp)
 obtain ⟨N,hN⟩ : ∃ N,N = st.objs.length := ⟨_,rfl⟩
 rw [← hN] at hnil ⊢
 have hNp : N ≠ p := by omega
 obtain ⟨H',hH'⟩ : ∃ H' : Hs,H' = fun q => if q = N then .ow (.sl k' es0) u f else if q = p then .ow (.sl kk (es.set i (splice e j [.un]))) (.slice (some ⟨b,o,none⟩) es.length c) fp' else H q := ⟨_,rfl⟩
 have hHN : H' N = .ow (.sl k' es0) u f := by rw [hH']; exact if_pos rfl
 have hHp : H' p = .ow (.sl kk (es.set i (splice e j [.un]))) (.slice (some ⟨b,o,none⟩) es.length c) fp' := by rw [hH']; simp [Ne.symm hNp]
 have hHo : ∀ q,q ≠ N → q ≠ p → H' q = H q := fun q h1 h2 => by rw [hH']; simp only; rw [if_neg h1,if_neg h2]
 have hin : ∀ q x,x ∈ (H' q).fp → (q = N ∧ x ∈ f) ∨ (q = p ∧ x ∈ fp ∧ x ∉ f) ∨ (q ≠ N ∧ q ≠ p ∧ x ∈ (H q).fp) := fun q x hx => by
  by_cases hq : q = N
  ·subst hq; rw [hHN] at hx; exact .inl ⟨rfl,hx⟩
  ·by_cases hqp : q = p
   ·subst hqp; rw [hHp] at hx; exact .inr (.inl ⟨rfl,g4 x hx⟩)
   ·rw [hHo q hq hqp] at hx; exact .inr (.inr ⟨hq,hqp,hx⟩)
 have hpf : ∀ x,x ∈ fp → x ∈ (H p).fp := fun x hx => by rw [e1]; exact hx
 have hok : Ok w H' F := by
  refine ⟨fun q => ?_,fun q => ?_,fun q r x h2 h3 => ?_,fun q x h2 => ?_,h1.ok.flt⟩
  ·by_cases hq : q = N
   ·subst hq; rw [hHN]; exact hO
   ·by_cases hqp : q = p
    ·subst hqp; rw [hHp]; exact g1
    ·rw [hHo q hq hqp]; exact h1.ok.says q
  ·by_cases hq : q = N
   ·subst hq; rw [hHN]; exact hfn
   ·by_cases hqp : q = p
    ·subst hqp; rw [hHp]; exact g2
    ·rw [hHo q hq hqp]; exact h1.ok.nodup q
  ·rcases hin q x h2 with ⟨rfl,k1⟩ | ⟨rfl,k1,k2⟩ | ⟨k1,k2,k3⟩ <;> rcases hin r x h3 with ⟨e5,m1⟩ | ⟨e5,m1,m2⟩ | ⟨m1,m2,m3⟩
   ·exact e5.symm
   ·exact absurd k1 m2
   ·exact absurd (h1.ok.disj r p x m3 (hpf x (hsub x k1))) m2
   ·exact absurd m1 k2
   ·exact e5.symm
   ·exact absurd (h1.ok.disj r q x m3 (hpf x k1)) m2
   ·exact absurd (h1.ok.disj q p x k3 (hpf x (hsub x m1))) k2
   ·exact absurd (h1.ok.disj q p x k3 (hpf x m1)) k2
   ·exact h1.ok.disj q r x k3 m3
  ·rcases hin q x h2 with ⟨rfl,k1⟩ | ⟨rfl,k1,k2⟩ | ⟨k1,k2,k3⟩
   ·exact h1.ok.free p x (hpf x (hsub x k1))
   ·exact h1.ok.free q x (hpf x k1)
   ·exact h1.ok.free q x k3
 have hfpo : ∀ q x,x ∈ (H' q).fp → ∃ r,x ∈ (H r).fp := fun q x hx => by
  rcases hin q x hx with ⟨rfl,k1⟩ | ⟨rfl,k1,k2⟩ | ⟨k1,k2,k3⟩
  ·exact ⟨p,hpf x (hsub x k1)⟩
  ·exact ⟨q,hpf x k1⟩
  ·exact ⟨q,k3⟩
 have hghs : ∀ q i v,H' q = .gh i v → ∃ r,H r = .gh i v := fun q i v hq => by
  by_cases hqN : q = N
  ·subst hqN; rw [hHN] at hq; cases hq
  ·by_cases hqp : q = p
   ·subst hqp; rw [hHp] at hq; cases hq
   ·exact ⟨q,by rw [← hHo q hqN hqp]; exact hq⟩
 have htn : Turn w H w H' [p,N] := ⟨rfl,rfl,rfl,Nat.le_refl _,fun _ _ _ => rfl,fun q hq => hHo q (fun e => hq (by simp [e])) (fun e => hq (by simp [e])),fun q x hx => .inl (hfpo q x hx),hghs⟩
 have hplace : ∀ q ∈ [p],Place (H q) (H' q) := fun q hq => by
  have : q = p := by simpa using hq
  subst this
  exact .inl ⟨_,_,_,_,_,e1,hHp⟩
 have hone : ∀ x v,R1 w H F x v → R1 w H' F (V1.tole0 p N kk i j x) v := fun x v hx => by
  cases x with
  | le q k a b' =>
   simp only [V1.tole0]
   split
   ·rename_i hq
    have hqp := Nat.eq_of_beq_eq_true hq
    subst hqp
    split
    ·rename_i hc
     rw [hc.1,hc.2.1,hc.2.2] at hx
     obtain ⟨b2,o2,n2,c2,x2,fp2,k1,k2,k3,k4⟩ := hx
     rw [e1] at k1
     simp only [Pc.ow.injEq,Value.slice.injEq,Option.some.injEq,Addr.mk.injEq] at k1
     obtain ⟨_,⟨⟨rfl,rfl,_⟩,_,_⟩,_⟩ := k1
     rw [hcell] at k4
     simp only [Option.some.injEq] at k4
     subst k4
     exact ⟨_,_,hHN⟩
    ·trivial
   ·exact R1.killw h1.ok htn hplace hx
  | _ => exact R1.killw h1.ok htn hplace hx
 refine ⟨H',h1.mapk (V1.tole0 p N kk i j) hone hok _ (fun q => ?_),hfpo,hghs⟩
 by_cases hqN : q = N
 ·subst hqN
  rw [Y6 (x := .row k' es0) (by rw [List.getElem?_append_right (by simp; omega)]; simp [hN])]
  exact ⟨_,_,hHN⟩
 by_cases hqp : q = p
 ·subst hqp
  rw [Y6 (x := .row kk (es.set i (splice e j [.un]))) (by rw [List.getElem?_append_left (by simpa using hplt)]; simp [hplt])]
  exact ⟨_,_,hHp⟩
 ·rcases Nat.lt_or_ge q st.objs.length with hlt2 | hge
  ·rw [List.getD_eq_getElem?_getD,List.getElem?_append_left (by simpa using hlt2),List.getElem?_set_ne (Ne.symm hqp),List.getElem?_map]
   have h2 := h1.obs q
   rw [List.getD_eq_getElem?_getD] at h2
   have h3 : H' q = H q := hHo q hqN hqp
   cases ho : st.objs[q]? with
   | none => rw [ho] at h2; exact h3.trans h2
   | some ob => rw [ho] at h2; exact RB.mapk hone h3 h2
  ·rw [List.getD_eq_getElem?_getD,List.getElem?_eq_none (by simp; omega)]
   have h2 := h1.obs q
   rw [List.getD_eq_getElem?_getD,List.getElem?_eq_none hge] at h2
   exact (hHo q hqN hqp).trans h2
theorem Wk.split {st : St} {p kk i j k' : Nat} {es es0 : List (List T)} {e : List T} (hp : st.objs[p]? = some (.row kk es)) (he : es[i]? = some e) (hx : e[j]? = some (.sl k' es0)) (ht : allP (fun t : Nat × V => t.2.allk (V1.leok p kk i j)) st.tmps) (ho : allP (Ob.allk (V1.leok p kk i j)) st.objs) :
  Wk st ⟨st.n,st.tmps.map fun t => (t.1,t.2.mapk (V1.tole p st.objs.length)),((st.objs.map (Ob.mapk (V1.tole p st.objs.length))).set p (.row kk (es.set i (splice e j [.un])))) ++ [.row k' es0]⟩ := by
 have h := Wk.split0 hp he hx
 rw [Yd (g := fun e : Nat × V => (e.1,e.2.mapk (V1.tole0 p st.objs.length kk i j))) (h := fun e : Nat × V => (e.1,e.2.mapk (V1.tole p st.objs.length))) (fun e he => by rw [V.allk_eq V1.tole_eq e.2 he]) ht,Yd (fun x hx => Ob.allk_eq V1.tole_eq x hx) ho] at h
 exact h
end
section
open Go.RowKit

theorem els_set {α : Type} [Enc α] (xs : List α) (i : Nat) (x : α) : els (xs.set i x) = (els xs).set i (Enc.e x) := by simp [els,List.map_set]
end
section
open Go.RowKit

theorem mk_at {α : Type} {ms xs : List α} (hl : ms.length = xs.length) {i : Nat} (h : i < xs.length) (h' : i < (ms.take i ++ xs.drop i).length := by simp; omega) : (ms.take i ++ xs.drop i)[i] = xs[i] := by
 have hi : (ms.take i).length = i := by simp; omega
 rw [List.getElem_append_right (by omega)]
 simp [hi]
theorem mk_len {α : Type} {ms xs : List α} (hl : ms.length = xs.length) {i : Nat} (h : i ≤ xs.length) : (ms.take i ++ xs.drop i).length = xs.length := by simp; omega
def tot (xs : List (List Int)) : Nat := (xs.map List.length).sum
end
section
open Go.RowKit
end
section
open Go.RowKit
end
section
open Go.RowKit

/-! ### Numbers -/
theorem bytesL_len {s : ByteArray} {q k : Nat} (h : q + k ≤ s.size) : (bytesL s q k).length = k := by
 have : s.data.toList.length = s.size := by simp
 simp [bytesL]; omega
theorem dvGo_canon (s : ByteArray) (q : Nat) : ∀ (f k : Nat) (m : Int) (j : Nat),q + k ≤ s.size → (∀ a ∈ bytesL s q k,128 ≤ a.toNat) → dvGo s q (dval (bytesL s q k) : Nat) k f = some (m,j) → encVar m = bytesL s q j := by
 intro f
 induction f with
 | zero => intro k m j _ _ h; simp [dvGo] at h
 | succ f ih =>
  intro k m j hqk hall h
  have hlen := bytesL_len hqk
  rw [dvGo] at h
  split at h
  ·rename_i hlt
   obtain ⟨b,hb,hcb⟩ := bytesL_succ hlt
   have hval : (dval (bytesL s q k) : Int) + byteAt s (q + k) % 128 * 2 ^ (7 * k) = ((dval (bytesL s q (k + 1)) : Nat) : Int) := by
    rw [hb,dval_snoc,hlen,hcb]
    push_cast
    rfl
   rw [hval] at h
   split at h
   ·rename_i h128
    refine ih (k + 1) m j (by omega) (fun a ha => ?_) h
    rw [hb] at ha
    rcases List.mem_append.1 ha with ha | ha
    ·exact hall a ha
    ·simp only [List.mem_singleton] at ha
     rw [ha]; omega
   ·rename_i h128
    split at h
    ·cases h
    ·rename_i hbad
     simp only [Option.some.injEq,Prod.mk.injEq] at h
     obtain ⟨rfl,rfl⟩ := h
     have hcan := canon (b := b) (by omega) (bytesL s q k) hall
     have hnil : bytesL s q k = [] ↔ k = 0 := by rw [← List.length_eq_zero_iff,hlen]
     rw [← hb,hnil] at hcan
     rw [encVar,if_pos (by omega),show ((dval (bytesL s q (k + 1)) : Nat) : Int).toNat = dval (bytesL s q (k + 1)) by omega]
     exact hcan.2 (by omega)
  ·cases h
theorem decVar_canon {s : ByteArray} {p m : Int} {j : Nat} (h : decVar s p = some (m,j)) : encVar m = bytesL s p.toNat j := by
 unfold decVar at h
 split at h
 ·exact dvGo_canon s p.toNat 6 0 m j (by omega) (by simp [bytesL]) (by simpa [bytesL,dval] using h)
 ·cases h
theorem signless_signed {u : Int} (h : 0 ≤ u ∧ u ≤ 1099511627775) : signless (signed u) = u := by
 unfold signed
 rw [if_pos h]
 split
 ·rw [signless,if_pos (by omega),if_pos (by omega)]; omega
 ·rw [signless,if_pos (by omega),if_neg (by omega)]; omega
/-! ### Lists -/
theorem bytesL_app {s : ByteArray} {q j k : Nat} : bytesL s q j ++ bytesL s (q + j) k = bytesL s q (j + k) := by
 unfold bytesL
 rw [← List.drop_drop,List.take_add]
def packB (l : List Int) : List UInt8 := l.flatMap fun x => encVar (signless x)
theorem uiGo_canon (s : ByteArray) (p : Nat) : ∀ (c pos : Nat) (l : List Int) (j : Nat),uiGo s p c pos = some (l,j) → pos ≤ j ∧ packB l = bytesL s (p + pos) (j - pos) ∧ ∀ x ∈ l,0 ≤ signless x := by
 intro c
 induction c with
 | zero =>
  intro pos l j h
  simp only [uiGo,Option.some.injEq,Prod.mk.injEq] at h
  obtain ⟨rfl,rfl⟩ := h
  exact ⟨Nat.le_refl _,by simp [packB,bytesL],fun x hx => by simp at hx⟩
 | succ c ih =>
  intro pos l j h
  rw [uiGo] at h
  split at h
  ·cases h
  ·rename_i v m hd
   obtain ⟨r,h1,h2⟩ := Option.map_eq_some_iff.1 h
   simp only [Prod.mk.injEq] at h2
   obtain ⟨rfl,rfl⟩ := h2
   have hm := Ys hd
   have hcn := decVar_canon hd
   obtain ⟨a1,a2,a3⟩ := ih (pos + m) r.1 r.2 h1
   have hsg := signless_signed (u := v) (by omega)
   refine ⟨by omega,?_,fun x hx => ?_⟩
   ·rw [packB,List.flatMap_cons,hsg,hcn,show ((p : Int) + (pos : Int)).toNat = p + pos by omega]
    show bytesL s (p + pos) m ++ packB r.1 = _
    rw [a2,show p + (pos + m) = p + pos + m by omega,bytesL_app]
    congr 1
    omega
   ·rcases List.mem_cons.1 hx with rfl | hx
    ·rw [hsg]; omega
    ·exact a3 x hx
theorem unpackInts_canon {s : ByteArray} {p : Int} {l : List Int} {j : Nat} (h : unpackInts s p = some (l,j)) : packInts l = bs (bytesL s p.toNat j) := by
 unfold unpackInts at h
 split at h
 ·cases h
 ·rename_i n k hd
  have hm := Ys hd
  have hcn := decVar_canon hd
  obtain ⟨a1,a2,a3⟩ := uiGo_canon s _ _ _ _ _ h
  obtain ⟨b1,b2,b3,b4⟩ := uiGo_some s _ _ _ _ _ h
  have hall : (l.all fun x => decide (0 ≤ signless x)) = true := List.all_eq_true.2 fun x hx => decide_eq_true (a3 x hx)
  rw [packInts,if_pos hall,packK,List.take_length,show (l.length : Int) = n by omega,hcn]
  show bs (bytesL s p.toNat k ++ packB l) = _
  rw [a2,bytesL_app]
  congr 2
  omega
/-! ### Texts -/
/-! ### Columns -/
/-! ### DecodeStream -/
theorem bytesL_all (s : ByteArray) (k : Nat) (h : k ≤ s.size) : bs (bytesL s 0 k) = s ↔ k = s.size := by
 constructor
 ·intro e
  have := congrArg ByteArray.size e
  rw [Ym,bytesL_len (by omega)] at this
  exact this
 ·intro e
  subst e
  unfold bytesL
  rw [List.drop_zero,show s.size = s.data.toList.length by simp,List.take_length,bs_of]
end
section
open Go.RowKit

theorem byte_drop {s : ByteArray} {q : Nat} {b : UInt8} {r : List UInt8} (h : s.data.toList.drop q = b :: r) : q < s.size ∧ byteAt s q = (b.toNat : Int) := by
 have hl : q < s.data.toList.length := by
  rcases Nat.lt_or_ge q s.data.toList.length with h1 | h1
  ·exact h1
  ·rw [List.drop_eq_nil_of_le h1] at h; cases h
 have hs : s.data.toList.length = s.size := by simp
 obtain ⟨b',h1,h2⟩ := byteAt_list (s := s) (i := q) (by omega)
 rw [List.drop_eq_getElem_cons hl] at h
 rw [List.getElem?_eq_getElem hl] at h1
 simp only [Option.some.injEq] at h1
 simp only [List.cons.injEq] at h
 exact ⟨by omega,by rw [h2,← h1,h.1]⟩
theorem dvGo_enc (s : ByteArray) (p : Nat) (r : List UInt8) : ∀ (f N k : Nat) (acc : Int),0 ≤ acc → s.data.toList.drop (p + k) = varN N ++ r → acc + N * 2 ^ (7 * k) ≤ 1099511627775 → (0 < k → N ≠ 0) → (varN N).length ≤ f → dvGo s p acc k f = some (acc + N * 2 ^ (7 * k),k + (varN N).length) := by
 intro f
 induction f with
 | zero => intro N k acc _ _ _ _ h; have := (varN_len N).1; omega
 | succ f ih =>
  intro N k acc h0 hd hb hk hf
  rw [dvGo]
  by_cases hN : N < 128
  ·rw [K5 hN] at hd ⊢
   obtain ⟨h1,h2⟩ := byte_drop hd
   have e : ((UInt8.ofNat N).toNat : Int) = N := by rw [UInt8.toNat_ofNat']; omega
   rw [e] at h2
   rw [if_pos h1,h2,if_neg (by omega),show (N : Int) % 128 = N by omega,if_neg (by omega)]
   rfl
  ·rw [varN_big hN] at hd hf ⊢
   have e : ((UInt8.ofNat (N % 128 + 128)).toNat : Int) = N % 128 + 128 := by rw [UInt8.toNat_ofNat']; omega
   obtain ⟨h1,h2⟩ := byte_drop hd
   rw [e] at h2
   have hd2 : s.data.toList.drop (p + (k + 1)) = varN (N / 128) ++ r := by
    have := congrArg (List.drop 1) hd
    rw [List.drop_drop] at this
    rw [show p + (k + 1) = p + k + 1 by omega,this]
    rfl
   have hv : acc + (N : Int) % 128 * 2 ^ (7 * k) + ((N / 128 : Nat) : Int) * 2 ^ (7 * (k + 1)) = acc + N * 2 ^ (7 * k) := by
    have e2 : (2 : Int) ^ (7 * (k + 1)) = 128 * 2 ^ (7 * k) := by rw [show 7 * (k + 1) = 7 * k + 7 by omega,Int.pow_add]; omega
    have e3 : (N : Int) = 128 * ((N / 128 : Nat) : Int) + (N : Int) % 128 := by omega
    rw [e2]
    generalize (2 : Int) ^ (7 * k) = M
    generalize ((N / 128 : Nat) : Int) = q at e3 ⊢
    generalize (N : Int) % 128 = d at e3 ⊢
    rw [e3]
    grind
   have hM : (0 : Int) ≤ (N : Int) % 128 * 2 ^ (7 * k) := Int.mul_nonneg (by omega) (Int.le_of_lt (Int.pow_pos (by omega)))
   have hi := ih (N / 128) (k + 1) (acc + (N : Int) % 128 * 2 ^ (7 * k)) (by omega) hd2 (by omega) (fun _ => by omega) (by simp at hf; omega)
   rw [hv] at hi
   rw [if_pos h1,h2,if_pos (by omega),show ((N : Int) % 128 + 128) % 128 = (N : Int) % 128 by omega,hi]
   simp only [List.length_cons]
   congr 2
   omega
theorem Yr {s : ByteArray} {p : Nat} {n : Int} {r : List UInt8} (h0 : 0 ≤ n) (h1 : n ≤ 1099511627775) (hs : s.data.toList.drop p = encVar n ++ r) : decVar s p = some (n,(encVar n).length) := by
 have hl := Y2 n
 rw [encVar,if_pos ⟨h0,h1⟩] at hs hl ⊢
 have hne := (varN_len n.toNat).1
 have hp : p < s.size := by
  have : (s.data.toList.drop p).length = (varN n.toNat ++ r).length := by rw [hs]
  have e : s.data.toList.length = s.size := by simp
  simp only [List.length_drop,List.length_append] at this
  omega
 rw [decVar,if_pos (by omega)]
 have := dvGo_enc s p r 6 n.toNat 0 0 (by omega) (by simpa using hs) (by simp; omega) (by omega) hl
 simp at this
 rw [show ((p : Int)).toNat = p by omega,this]
 simp
 omega
theorem signed_signless {x : Int} (h : 0 ≤ signless x) : signed (signless x) = x := by
 unfold signless at h ⊢
 split at h
 ·rename_i hx
  rw [if_pos hx]
  split
  ·rw [signed,if_pos (by omega),if_pos (by omega)]; omega
  ·rw [signed,if_pos (by omega),if_neg (by omega)]; omega
 ·omega
theorem signless_le (x : Int) : signless x ≤ 1099511627775 := by
 unfold signless
 split
 ·split <;> omega
 ·omega
theorem uiGo_enc (s : ByteArray) (p : Nat) (r : List UInt8) : ∀ (l : List Int) (pos : Nat),(∀ x ∈ l,0 ≤ signless x) → s.data.toList.drop (p + pos) = (l.flatMap fun x => encVar (signless x)) ++ r → uiGo s p l.length pos = some (l,pos + (l.flatMap fun x => encVar (signless x)).length)
 | [],pos,_,_ => rfl
 | x :: l,pos,hx,hs => by
  have h0 := hx x (by simp)
  rw [List.flatMap_cons,List.append_assoc] at hs
  have h1 := Yr h0 (signless_le x) hs
  have hd : s.data.toList.drop (p + (pos + (encVar (signless x)).length)) = (l.flatMap fun x => encVar (signless x)) ++ r := by
   have := congrArg (List.drop (encVar (signless x)).length) hs
   rw [List.drop_drop,List.drop_left] at this
   rw [← this]
   congr 1
   omega
  have h2 := uiGo_enc s p r l (pos + (encVar (signless x)).length) (fun y hy => hx y (by simp [hy])) hd
  rw [List.length_cons,uiGo,show (p : Int) + (pos : Int) = ((p + pos : Nat) : Int) by omega,h1]
  simp only [h2,Option.map_some,signed_signless h0,List.flatMap_cons,List.length_append]
  congr 2
  omega
theorem unpackInts_enc {xs : List Int} (hx : ∀ x ∈ xs,0 ≤ signless x) (hL : xs.length ≤ 1073741824) : unpackInts (packInts xs) 0 = some (xs,(packInts xs).size) := by
 have hall : xs.all (fun x => decide (0 ≤ signless x)) = true := by simpa using hx
 have hp : packInts xs = bs (encVar xs.length ++ xs.flatMap fun x => encVar (signless x)) := by
  rw [packInts,if_pos hall,packK,List.take_length]
 have hl : (packInts xs).data.toList = encVar xs.length ++ ((xs.flatMap fun x => encVar (signless x)) ++ []) := by rw [hp,Yl,List.append_nil]
 have h1 : decVar (packInts xs) ((0 : Nat) : Int) = _ := Yr (n := (xs.length : Int)) (by omega) (by omega) (by rw [List.drop_zero]; exact hl)
 have h2 := uiGo_enc (packInts xs) 0 [] xs (encVar (xs.length : Int)).length hx (by
  have := congrArg (List.drop (encVar (xs.length : Int)).length) hl
  rw [List.drop_left] at this
  rw [Nat.zero_add]; exact this)
 rw [unpackInts,show (0 : Int) = ((0 : Nat) : Int) from rfl,h1]
 simp only [Int.toNat_natCast,h2]
 congr 2
 rw [hp,Ym,List.length_append]
end
section
open Go.RowKit

structure TBody where
 Kind : Int
 Owner : Int
 X : Int
 Y : Int
 VX : Int
 VY : Int
 Aim : Int
 Life : Int
 Timer : Int
 deriving DecidableEq
instance : Enc TBody := ⟨9,by omega,fun x => [.v (.int .i64 x.Kind),.v (.int .i64 x.Owner),.v (.int .i64 x.X),.v (.int .i64 x.Y),.v (.int .i64 x.VX),.v (.int .i64 x.VY),.v (.int .i64 x.Aim),.v (.int .i64 x.Life),.v (.int .i64 x.Timer)],fun _ => rfl,fun x => Enc.gd x.Kind ∧ Enc.gd x.Owner ∧ Enc.gd x.X ∧ Enc.gd x.Y ∧ Enc.gd x.VX ∧ Enc.gd x.VY ∧ Enc.gd x.Aim ∧ Enc.gd x.Life ∧ Enc.gd x.Timer,fun x => 0⟩
theorem TBody.same {x y : TBody} (h0 : x.Kind = y.Kind) (h1 : x.Owner = y.Owner) (h2 : x.X = y.X) (h3 : x.Y = y.Y) (h4 : x.VX = y.VX) (h5 : x.VY = y.VY) (h6 : x.Aim = y.Aim) (h7 : x.Life = y.Life) (h8 : x.Timer = y.Timer) : x = y := by cases x; cases y; simp_all
structure TWorld where
 Level : TLevel
 Tick : Int
 Seed : Int
 Scores : (List Int)
 Bodies : (List TBody)
 deriving DecidableEq
instance : Enc TWorld := ⟨5,by omega,fun x => [sl x.Level.Rows,.v (.int .i64 x.Tick),.v (.int .i64 x.Seed),sl x.Scores,sl x.Bodies],fun _ => rfl,fun x => Enc.gd x.Level ∧ Enc.gd x.Tick ∧ Enc.gd x.Seed ∧ Enc.gd x.Scores ∧ Enc.gd x.Bodies,fun x => Enc.wt x.Level + Enc.wt x.Scores + Enc.wt x.Bodies⟩
theorem TWorld.same {x y : TWorld} (h0 : x.Level = y.Level) (h1 : x.Tick = y.Tick) (h2 : x.Seed = y.Seed) (h3 : x.Scores = y.Scores) (h4 : x.Bodies = y.Bodies) : x = y := by cases x; cases y; simp_all
structure TSpectator where
 World : TWorld
 Gaps : Int
 deriving DecidableEq
instance : Enc TSpectator := ⟨6,by omega,fun x => [sl x.World.Level.Rows,.v (.int .i64 x.World.Tick),.v (.int .i64 x.World.Seed),sl x.World.Scores,sl x.World.Bodies,.v (.int .i64 x.Gaps)],fun _ => rfl,fun x => Enc.gd x.World ∧ Enc.gd x.Gaps,fun x => Enc.wt x.World⟩
theorem TSpectator.same {x y : TSpectator} (h0 : x.World = y.World) (h1 : x.Gaps = y.Gaps) : x = y := by cases x; cases y; simp_all

/-! ### Marks -/
end
section
open Go.RowKit

abbrev Seen := Bool × Bool × Bool × Bool
def tileM (e : Bool) (t : Int) (s : Seen × Bool) : Option (Seen × Bool) :=
 if t = 35 then some s else if e then none else
 if t = 49 then (if s.1.1 then none else some ((true,s.1.2),true)) else
 if t = 50 then (if s.1.2.1 then none else some ((s.1.1,true,s.1.2.2),true)) else
 if t = 51 then (if s.1.2.2.1 then none else some ((s.1.1,s.1.2.1,true,s.1.2.2.2),true)) else
 if t = 52 then (if s.1.2.2.2 then none else some ((s.1.1,s.1.2.1,s.1.2.2.1,true),true)) else
 if t = 111 ∨ t = 46 then some (s.1,true) else none
def colsM (row : ByteArray) (er : Bool) (w : Nat) (s : Seen × Bool) : Nat → Option (Seen × Bool)
 | 0 => some s
 | c + 1 => match colsM row er w s c with
  | none => none
  | some s' => tileM (er || decide (c = 0) || decide (c + 1 = w)) (byteAt row c) s'
def rowsM (rows : List ByteArray) (w : Nat) : Nat → Option (Seen × Bool)
 | 0 => some ((false,false,false,false),false)
 | r + 1 => match rowsM rows w r with
  | none => none
  | some s => match rows[r]? with
   | none => none
   | some row => if row.size = w then colsM row (decide (r = 0) || decide (r + 1 = rows.length)) w s w else none
def widthM (rows : List ByteArray) : Nat := match rows[0]? with
 | some row => row.size
 | none => 0
def levelOk (l : TLevel) : Bool := decide (3 ≤ l.Rows.length) && decide (l.Rows.length ≤ 12) && decide (4 ≤ widthM l.Rows) && decide (widthM l.Rows ≤ 20) && match rowsM l.Rows (widthM l.Rows) l.Rows.length with
 | some s => s.2
 | none => false

@[reducible] def vb (b : Bool) : V1 := .rd [] (.v (.bool b))
section
variable {rows : List ByteArray} {row : ByteArray} {w k c : Nat} {s s' : Seen × Bool} {er : Bool}
theorem rows_none {n : Nat} (h : rowsM rows w k = none) (hk : k ≤ n) : rowsM rows w n = none := by
 induction n with
 | zero => have : k = 0 := by omega
           subst this; exact h
 | succ n ih =>
  rcases Nat.lt_or_ge n k with h1 | h1
  ·have : k = n + 1 := by omega
   subst this; exact h
  ·simp [rowsM,ih h1]
theorem cols_none {n : Nat} (h : colsM row er w s c = none) (hc : c ≤ n) : colsM row er w s n = none := by
 induction n with
 | zero => have : c = 0 := by omega
           subst this; exact h
 | succ n ih =>
  rcases Nat.lt_or_ge n c with h1 | h1
  ·have : c = n + 1 := by omega
   subst this; exact h
  ·simp [colsM,ih h1]
theorem rows_next (h : rowsM rows w k = some s) (hk : k < rows.length) (hw : rows[k].size = w) : rowsM rows w (k + 1) = colsM rows[k] (decide (k = 0) || decide (k + 1 = rows.length)) w s w := by
 rw [rowsM,h]
 simp [List.getElem?_eq_getElem hk,hw]
theorem rows_bad (hk : k < rows.length) (hw : rows[k].size ≠ w) : rowsM rows w (k + 1) = none := by
 rw [rowsM]
 cases rowsM rows w k with
 | none => rfl
 | some s => simp [List.getElem?_eq_getElem hk,hw]
theorem cols_next (h : colsM row er w s c = some s') : colsM row er w s (c + 1) = tileM (er || decide (c = 0) || decide (c + 1 = w)) (byteAt row c) s' := by
 rw [colsM,h]
theorem level_no {l : TLevel} (hk : k < l.Rows.length) (hw : widthM l.Rows = w) (h : rowsM l.Rows w (k + 1) = none) : levelOk l = false := by
 unfold levelOk
 rw [hw,rows_none h (by omega)]
 simp
theorem width_at (h : 0 < rows.length) : widthM rows = rows[0].size := by simp [widthM,List.getElem?_eq_getElem h]
end
end
end Go.Proofs.YtcjclaoogdblbaaGreat
