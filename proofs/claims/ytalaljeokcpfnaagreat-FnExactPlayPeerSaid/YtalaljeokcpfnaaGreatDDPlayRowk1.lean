/-
  What a call knows of its slots and of the memory that is its own, as plain data: pieces of memory by number, slots that hold plain values, read-only data, or places in the pieces. No statement of the program is proved here.
  Conditions: none.
-/
import Derived.Test.YtalaljeokcpfnaaGreatDDPlayRowk0
set_option linter.unusedSimpArgs false
set_option linter.unusedVariables false
namespace Go.Proofs.YtalaljeokcpfnaaGreat
section
open Go.RowKit

inductive Pc where
 |nil
 |box (g:Nat) (t:TypeId) (vs:List Value)
 |ow (x:T) (v:Value) (fp:List Nat)
 |gh (i:Nat) (v:Value)
 |lk (v:Value)
def Pc.fp:Pc→List Nat
 | .nil => []
 | .box g _ _ => [g]
 | .ow _ _ fp=>fp
 | .gh _ _ => []
 | .lk _ => []
def Pc.says (w:World):Pc→Prop
 | .nil=>True
 | .box g t vs=>w.heap[g]? = some (.cells vs.toArray t (0,0))
 | .ow x v fp=>OW w x v fp
 | .gh _ _=>True
 | .lk _=>True
theorem Pc.frame {w w':World} {p:Pc} (hf:∀ b∈p.fp,w'.heap[b]? = w.heap[b]?) (h:p.says w):p.says w':=by
 cases p with
 |nil=>trivial
 |box g t vs=>exact (hf g (by simp[Pc.fp])).trans h
 |ow x v fp=>exact OW.frame h hf
 |gh i v=>trivial
 |lk v=>trivial
theorem Pc.lt {w:World} {p:Pc} (h:p.says w):∀ b∈p.fp,b<w.heap.size:=by
 cases p with
 |nil=>intro b hb; simp[Pc.fp] at hb
 |box g t vs =>
  intro b hb
  simp only[Pc.fp,Gxd] at hb
  subst hb
  exact (Array.getElem?_eq_some_iff.1 h).1
 |ow x v fp=>exact OW.lt h
 |gh i v=>intro b hb; simp[Pc.fp] at hb
 |lk v=>intro b hb; simp[Pc.fp] at hb

def Pc.ng:Pc→Prop
 | .gh _ _=>False
 |_=>True
abbrev Hs:=Nat→Pc
def Hs.put (H:Hs) (p:Nat) (h:Pc):Hs:=fun q=>if q=p then h else H q
theorem Hs.put_self (H:Hs) (p:Nat) (h:Pc):H.put p h p=h:=by simp[Hs.put]
theorem Hs.put_ne (H:Hs) {p q:Nat} (h:Pc) (hn:q≠p):H.put p h q=H q:=by simp[Hs.put,hn]

structure Ok (w:World) (H:Hs) (F:Nat→Prop):Prop where
 says:∀ p,(H p).says w
 nodup:∀ p,(H p).fp.Nodup
 disj:∀ p q b,b∈(H p).fp→b∈(H q).fp→p=q
 free:∀ p b,b∈(H p).fp→¬F b
 flt:∀ b,F b→b<w.heap.size
theorem Ok.lt {w:World} {H:Hs} {F:Nat→Prop} (h:Ok w H F) {p b:Nat} (hb:b∈(H p).fp):b<w.heap.size:=Pc.lt (h.says p) b hb

def inP (H:Hs) (F:Nat→Prop) (ps:List Nat) (b:Nat):Prop:=F b∨∃ p∈ps,∃ x v fp,H p = .ow x v fp∧b∈fp

inductive V1 where
 |rd (ps:List Nat) (x:T)
 |ref (p:Nat)
 |ptr (p i:Nat)
 |sb (p n k:Nat)
 |el (p k i j:Nat)
 |rp (ps:List Nat) (xs:List T)
 |le (p k i j:Nat)
 |hd (p n:Nat)
 |tl (p k n:Nat)
 |un
inductive V2 where
 |c (x:V1)
 |ag (xs:List V1)
inductive V where
 |o (x:V2)
 |tu (xs:List V2)
 |iff (cs:List Bool) (x:V2)
inductive Ob where
 |gone
 |hole
 |box (cs:List V1)
 |row (k:Nat) (es:List (List T))
 |gh (i:Nat) (x:V2)
 |lk (x y:V1)
structure St where
 n:Nat
 tmps:List (Nat×V)
 objs:List Ob
@[reducible] def U:V := .o (.c .un)
def look:List (Nat×V)→Nat→V
 | [],_=>U
 |e::l,d=>match Nat.beq e.1 d with
  |true=>e.2
  |false=>look l d

section
variable (w:World) (H:Hs) (F:Nat→Prop)
def R1:V1→Value→Prop
 | .rd ps x,v=>RO w (inP H F ps) x v
 | .ref p,v=>∃ x fp,H p = .ow x v fp
 | .ptr p i,v=>∃ g t vs,H p = .box g t vs∧v = .pointer (some ⟨g,i,none⟩)
 | .sb p n k,v=>∃ g t vs,H p = .box g t vs∧vs.length=n*k∧n≤maxLen∧v = .slice (some ⟨g,0,none⟩) n n
 | .el p k i j,v=>∃ b o n c x fp,H p = .ow x (.slice (some ⟨b,o,none⟩) n c) fp∧v = .pointer (some ⟨b,o+i*k+j,none⟩)
 | .rp ps xs,v=>∃ b o,v = .pointer (some ⟨b,o,none⟩)∧inP H F ps b∧∀ (j:Nat) (t:T),xs[j]? = some t→∃ u,w.cell? ⟨b,o+j,none⟩=some u∧RO w (inP H F ps) t u
 | .le p k i j,v=>∃ b o n c x fp,H p = .ow x (.slice (some ⟨b,o,none⟩) n c) fp∧b∈fp∧v.oneCell'=true∧w.cell? ⟨b,o+i*k+j,none⟩=some v
 | .hd p n,v=>∃ A m c x fp,H p = .ow x (.slice A m c) fp∧v = .slice A n c
 | .tl p k n,v=>∃ A A' m c x fp,H p = .ow x (.slice A m c) fp∧v = .slice A' (m-n) (c-n)∧(n<m→A'=A.map (·.add (n*k)))
 | .un,_=>True
def R2:V2→Value→Prop
 | .c x,v=>R1 w H F x v
 | .ag xs,v=>∃ us:List Value,v = .agg us.toArray∧us.length=xs.length∧∀ (i:Nat) (x:V1) (u:Value),xs[i]? = some x→us[i]? = some u→R1 w H F x u
def RV:V→Value→Prop
 | .o x,v=>R2 w H F x v
 | .tu xs,v=>∃ us:List Value,v = .tuple us.toArray∧us.length=xs.length∧∀ (i:Nat) (x:V2) (u:Value),xs[i]? = some x→us[i]? = some u→R2 w H F x u
 | .iff cs x,v=>((∀ c∈cs,c=true)→R2 w H F x v)∧(∀ c∈cs,c=false→v=undef)
def RB (p:Nat):Ob→Prop
 | .gone=>H p = .nil
 | .hole=>True
 | .box cs=>∃ g t vs,H p = .box g t vs∧vs.length=cs.length∧∀ (i:Nat) (c:V1) (u:Value),cs[i]? = some c→vs[i]? = some u→R1 w H F c u∧u.oneCell'=true
 | .row k es=>∃ v fp,H p = .ow (.sl k es) v fp
 | .gh i x=>∃ v,H p = .gh i v∧R2 w H F x v
 | .lk x y=>∃ v,H p = .lk v∧R1 w H F x v∧R1 w H F y v
structure R0 (st:St) (a:Act):Prop where
 ok:Ok w H F
 obs:∀ p,RB w H F p (st.objs.getD p .gone)
 tmp:∀ d:Nat,RV w H F (look st.tmps d) (a.tmps.getD d undef)
 size:st.n=a.tmps.size
 defers:a.defers = []
end

structure Grow (w:World) (H:Hs) (F:Nat→Prop) (w':World) (H':Hs) (F':Nat→Prop):Prop where
 below:Below w.heap.size w w'
 keep:∀ p,H p ≠ .nil→H' p=H p
 fF:∀ b,F b→F' b
 fF':∀ b,F' b→F b∨w.heap.size≤b
 new:∀ p,H p = .nil→∀ b∈(H' p).fp,w.heap.size≤b
 gh:∀ p i v,H' p = .gh i v→∃ q,H q = .gh i v

section
variable {w w' w'':World} {H H' H'':Hs} {F F' F'':Nat→Prop}

theorem Grow.refl (w:World) (H:Hs) (F:Nat→Prop):Grow w H F w H F :=
 ⟨Below.refl _ _,fun _ _=>rfl,fun _ h=>h,fun _ h => .inl h,fun p hp b hb=>by rw[hp] at hb; simp[Pc.fp] at hb,fun p i v h=>⟨p,h⟩⟩
theorem Grow.inP (g:Grow w H F w' H' F') {ps:List Nat} {b:Nat} (h:inP H F ps b):inP H' F' ps b:=by
 rcases h with h | ⟨p,hp,x,v,fp,e,hb⟩
 ·exact .inl (g.fF b h)
 ·exact .inr ⟨p,hp,x,v,fp,by rw[g.keep p Bqy,e],hb⟩
theorem Grow.ro (g:Grow w H F w' H' F') {ps:List Nat} {x:T} {v:Value} (h:RO w (Go.Proofs.YtalaljeokcpfnaaGreat.inP H F ps) x v):RO w' (Go.Proofs.YtalaljeokcpfnaaGreat.inP H' F' ps) x v :=
 h.move fun b hb hlt=>⟨g.inP hb,g.below.block b hlt⟩
theorem Grow.r1 (g:Grow w H F w' H' F') {x:V1} {v:Value} (h:R1 w H F x v):R1 w' H' F' x v:=by
 cases x with
 |rd ps x=>exact g.ro h
 |ref p=>obtain⟨x,fp,e⟩:=h; exact⟨x,fp,by rw[g.keep p Bqy,e]⟩
 |ptr p i=>obtain⟨a,t,vs,e,hv⟩:=h; exact⟨a,t,vs,by rw[g.keep p Bqy,e],hv⟩
 |sb p n k=>obtain⟨a,t,vs,e,hv⟩:=h; exact⟨a,t,vs,by rw[g.keep p Bqy,e],hv⟩
 |el p k i j=>obtain⟨b,o,n,c,x,fp,e,hv⟩:=h; exact⟨b,o,n,c,x,fp,by rw[g.keep p Bqy,e],hv⟩
 |rp ps xs =>
  obtain⟨b,o,hv,hb,hc⟩:=h
  refine⟨b,o,hv,g.inP hb,fun j t hj=>?_⟩
  obtain⟨u,h1,h2⟩:=hc j t hj
  have hlt:=World.block_lt_of_cell? w _ h1
  exact⟨u,(World.cell?_of_block (w:=w) (a:=⟨b,o+j,none⟩) (g.below.block b hlt)).trans h1,g.ro h2⟩
 |le p k i j =>
  obtain⟨b,o,n,c,x,fp,e,hb,h1,h2⟩:=h
  have hlt:=World.block_lt_of_cell? w _ h2
  exact⟨b,o,n,c,x,fp,by rw[g.keep p Bqy,e],hb,h1,(World.cell?_of_block (w:=w) (a:=⟨b,o+i*k+j,none⟩) (g.below.block b hlt)).trans h2⟩
 |hd p n=>obtain⟨A,m,c,x,fp,e,hv⟩:=h; exact⟨A,m,c,x,fp,by rw[g.keep p Bqy,e],hv⟩
 |tl p k n=>obtain⟨A,A',m,c,x,fp,e,hv⟩:=h; exact⟨A,A',m,c,x,fp,by rw[g.keep p Bqy,e],hv⟩
 |un=>trivial
theorem Grow.r2 (g:Grow w H F w' H' F') {x:V2} {v:Value} (h:R2 w H F x v):R2 w' H' F' x v:=by
 cases x with
 |c x=>exact g.r1 h
 |ag xs=>obtain⟨us,e,hl,hr⟩:=h; exact⟨us,e,hl,fun i x u h1 h2=>g.r1 (hr i x u h1 h2)⟩
theorem Grow.rv (g:Grow w H F w' H' F') {x:V} {v:Value} (h:RV w H F x v):RV w' H' F' x v:=by
 cases x with
 |o x=>exact g.r2 h
 |tu xs=>obtain⟨us,e,hl,hr⟩:=h; exact⟨us,e,hl,fun i x u h1 h2=>g.r2 (hr i x u h1 h2)⟩
 |iff cs x=>exact⟨fun hc=>g.r2 (h.1 hc),h.2⟩
theorem Grow.rb (g:Grow w H F w' H' F') {p:Nat} {ob:Ob} (hn:H p ≠ .nil) (h:RB w H F p ob):RB w' H' F' p ob:=by
 cases ob with
 |gone=>exact absurd h hn
 |hole=>trivial
 |box cs=>obtain⟨a,t,vs,e,hl,hr⟩:=h; exact⟨a,t,vs,by rw[g.keep p hn,e],hl,fun i c u h1 h2=>⟨g.r1 (hr i c u h1 h2).1,(hr i c u h1 h2).2⟩⟩
 |row k es=>obtain⟨v,fp,e⟩:=h; exact⟨v,fp,by rw[g.keep p hn,e]⟩
 |gh i x=>obtain⟨v,e,hr⟩:=h; exact⟨v,by rw[g.keep p hn,e],g.r2 hr⟩
 |lk x y=>obtain⟨v,e,h1,h2⟩:=h; exact⟨v,by rw[g.keep p hn,e],g.r1 h1,g.r1 h2⟩
theorem R1.one {x:V1} {v:Value} (hx:x ≠ .un) (hok:Ok w H F) (h:R1 w H F x v):v.oneCell'=true:=by
 cases x with
 |rd ps x=>exact RO.one h
 |ref p =>
  obtain⟨x,fp,e⟩:=h
  have:=hok.says p
  rw[e] at this
  exact OW.one this
 |ptr p i=>obtain⟨a,t,vs,e,rfl⟩:=h; rfl
 |sb p n k=>obtain⟨a,t,vs,e,_,_,rfl⟩:=h; rfl
 |el p k i j=>obtain⟨b,o,n,c,x,fp,e,rfl⟩:=h; rfl
 |rp ps xs=>obtain⟨b,o,rfl,_⟩:=h; rfl
 |le p k i j=>obtain⟨b,o,n,c,x,fp,e,_,h1,_⟩:=h; exact h1
 |hd p n=>obtain⟨A,m,c,x,fp,e,rfl⟩:=h; rfl
 |tl p k n=>obtain⟨A,A',m,c,x,fp,e,rfl,_⟩:=h; rfl
 |un=>exact absurd rfl hx
end

structure Env where
 w:World
 H:Hs
 F:Nat→Prop

structure Since (E:Env) (w:World) (H:Hs) (F:Nat→Prop):Prop where
 os:w.os=E.w.os
 tape:w.tape=E.w.tape
 output:w.output=E.w.output
 size:E.w.heap.size≤w.heap.size
 keep:∀ b,b<E.w.heap.size→(∀ p,b∉(E.H p).fp)→w.heap[b]? = E.w.heap[b]?
 fF:∀ b,E.F b→F b
 fF':∀ b,F b→E.F b∨E.w.heap.size≤b
 org:∀ p b,b∈(H p).fp→(∃ q,b∈(E.H q).fp)∨E.w.heap.size≤b
 gh:∀ p i v,H p = .gh i v→∃ q,E.H q = .gh i v

theorem Since.refl (w:World) (H:Hs) (F:Nat→Prop):Since ⟨w,H,F⟩ w H F:=⟨rfl,rfl,rfl,Gqi _,fun _ _ _=>rfl,fun _ h=>h,fun _ h => .inl h,fun p _ hb => .inl ⟨p,hb⟩,fun p _ _ h=>⟨p,h⟩⟩
theorem Since.grow {E:Env} {w w':World} {H H':Hs} {F F':Nat→Prop} (h:Since E w H F) (g:Grow w H F w' H' F'):Since E w' H' F':=by
 refine⟨g.below.os.trans h.os,g.below.tape.trans h.tape,g.below.output.trans h.output,Gxo h.size g.below.size,fun b h1 h2=>(g.below.block b (Gx2 h1 h.size)).trans (h.keep b h1 h2),fun b hb=>g.fF b (h.fF b hb),fun b hb=>?_,fun p b hb=>?_,fun p i v hp=>by obtain⟨q,hq⟩:=g.gh p i v hp; exact h.gh q i v hq⟩
 ·rcases g.fF' b hb with hb | hb
  ·exact h.fF' b hb
  ·exact .inr (Gxo h.size hb)
 ·by_cases hn:H p = .nil
  ·exact .inr (Gxo h.size (g.new p hn b hb))
  ·rw[g.keep p hn] at hb
   exact h.org p b hb

def Rel (E:Env) (st:St) (a:Act) (w:World):Prop:=∃ H F,R0 w H F st a∧Since E w H F

def Con (P:Program) (f:FuncId) (objs:List Ob) (args:List V2) (objs':List Ob) (res:V):Prop :=
 ∀ (w:World) (H:Hs) (F:Nat→Prop) (vs:List Value),Ok w H F→(∀ p,RB w H F p (objs.getD p .gone))→vs.length=args.length →
  (∀ (i:Nat) (x:V2) (v:Value),args[i]? = some x→vs[i]? = some v→R2 w H F x v) →
  Calls P f vs.toArray w fun e w'=>∃ H' F' rv,e = .returned rv∧Since ⟨w,H,F⟩ w' H' F'∧Ok w' H' F'∧(∀ p,RB w' H' F' p (objs'.getD p .gone))∧RV w' H' F' res rv

def ConAt (P:Program) (f:FuncId) (objs:List Ob) (args:List V2) (objs':List Ob) (res:V) (w:World):Prop :=
 ∀ (H:Hs) (F:Nat→Prop) (vs:List Value),Ok w H F→(∀ p,RB w H F p (objs.getD p .gone))→vs.length=args.length →
  (∀ (i:Nat) (x:V2) (v:Value),args[i]? = some x→vs[i]? = some v→R2 w H F x v) →
  Calls P f vs.toArray w fun e w'=>∃ H' F' rv,e = .returned rv∧Since ⟨w,H,F⟩ w' H' F'∧Ok w' H' F'∧(∀ p,RB w' H' F' p (objs'.getD p .gone))∧RV w' H' F' res rv

structure AWP (P:Program) (E:Env) (c:Code) (Q:Exit→St→Prop) (st:St):Prop where
 mk' ::
 h:∀ a w,Rel E st a w→c.wp P (fun e a' w'=>∃ st',Q e st'∧Rel E st' a' w') a w
end
end Go.Proofs.YtalaljeokcpfnaaGreat
