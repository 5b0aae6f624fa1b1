/-
  Calls of functions that write to what they are lent. No statement of the program is proved here.
  Conditions: none.
-/
import Derived.Test.YtalaljeokcpfnaaGreatDDPlayRowk12
set_option linter.unusedSimpArgs false
set_option linter.unusedVariables false
namespace Go.Proofs.YtalaljeokcpfnaaGreat
section
open Go.RowKit

def V2.mapk (k:V1→V1):V2→V2
 | .c x => .c (k x)
 | .ag xs => .ag (xs.map k)
def V.mapk (k:V1→V1):V→V
 | .o x => .o (x.mapk k)
 | .tu xs => .tu (xs.map (V2.mapk k))
 | .iff cs x => .iff cs (x.mapk k)
def Ob.mapk (k:V1→V1):Ob→Ob
 | .box cs => .box (cs.map k)
 | .gh i x => .gh i (x.mapk k)
 | .lk x y => .lk (k x) (k y)
 |ob=>ob

section
variable {P:Program} {E:Env} {ops:Array Oper} {o:Oper} {st:St} {n:Nat} {rest:List Oper} {QQ:Exit→St→Prop} {w w':World} {H H':Hs} {F F':Nat→Prop} {a:Act}

theorem R2.mapk {k:V1→V1} (hk:∀ x v,R1 w H F x v→R1 w' H' F' (k x) v) {x:V2} {v:Value} (h:R2 w H F x v):R2 w' H' F' (x.mapk k) v:=by
 cases x with
 |c x=>exact hk _ _ h
 |ag xs =>
  obtain⟨us,e,hl,hr⟩:=h
  refine⟨us,e,by simpa using hl,fun i x u h1 h2=>?_⟩
  rw[Gqk] at h1
  obtain⟨y,h3,rfl⟩:=Option.map_eq_some_iff.1 h1
  exact hk _ _ (hr i y u h3 h2)
theorem RV.mapk {k:V1→V1} (hk:∀ x v,R1 w H F x v→R1 w' H' F' (k x) v) {x:V} {v:Value} (h:RV w H F x v):RV w' H' F' (x.mapk k) v:=by
 cases x with
 |o x=>exact R2.mapk hk h
 |tu xs =>
  obtain⟨us,e,hl,hr⟩:=h
  refine⟨us,e,by simpa using hl,fun i x u h1 h2=>?_⟩
  rw[Gqk] at h1
  obtain⟨y,h3,rfl⟩:=Option.map_eq_some_iff.1 h1
  exact R2.mapk hk (hr i y u h3 h2)
 |iff cs x=>exact⟨fun hc=>R2.mapk hk (h.1 hc),h.2⟩
theorem RB.mapk {k:V1→V1} (hk:∀ x v,R1 w H F x v→R1 w' H' F' (k x) v) {p:Nat} (hp:H' p=H p) {ob:Ob} (h:RB w H F p ob):RB w' H' F' p (ob.mapk k):=by
 cases ob with
 |gone=>exact hp.trans h
 |hole=>trivial
 |box cs =>
  obtain⟨g,t,vs,e,hl,hr⟩:=h
  refine⟨g,t,vs,hp.trans e,by simpa using hl,fun i c u h1 h2=>?_⟩
  rw[Gqk] at h1
  obtain⟨y,h3,rfl⟩:=Option.map_eq_some_iff.1 h1
  exact⟨hk _ _ (hr i y u h3 h2).1,(hr i y u h3 h2).2⟩
 |row k es=>obtain⟨v,fp,e⟩:=h; exact⟨v,fp,hp.trans e⟩
 |gh i x=>obtain⟨v,e,hr⟩:=h; exact⟨v,hp.trans e,R2.mapk hk hr⟩
 |lk x y=>obtain⟨v,e,h1,h2⟩:=h; exact⟨v,hp.trans e,hk _ _ h1,hk _ _ h2⟩
theorem R0.mapk (h:R0 w H F st a) (k:V1→V1) (hk:∀ x v,R1 w H F x v→R1 w' H' F (k x) v) (hok:Ok w' H' F) (objs':List Ob) (hob:∀ p,RB w' H' F p (objs'.getD p .gone)) :
  R0 w' H' F ⟨st.n,st.tmps.map fun e=>(e.1,e.2.mapk k),objs'⟩ a:=by
 refine⟨hok,hob,fun d=>?_,h.size,h.defers⟩
 have hl:∀ l:List (Nat×V),RV w H F (look l d) (a.tmps.getD d undef)→RV w' H' F (look (l.map fun e=>(e.1,e.2.mapk k)) d) (a.tmps.getD d undef):=by
  intro l
  induction l with
  |nil=>intro _; trivial
  |cons e l ih =>
   obtain⟨e1,e2⟩:=e
   rw[List.map_cons,Zq,Zq]
   split
   ·exact RV.mapk hk
   ·exact ih
 exact hl _ (h.tmp d)

def idxN:List Nat→Nat→Nat→Option Nat
 | [],_,_=>none
 |r::rs,p,i=>match Nat.beq r p with
  |true=>some i
  |false=>idxN rs p (i+1)
theorem idxN_ok:∀ (ρ:List Nat) (p i j:Nat),idxN ρ p i=some j→i≤j∧ρ[j-i]? = some p
 | [],p,i,j,h=>by simp[idxN] at h
 | r::rs,p,i,j,h=>by
  rw[idxN] at h
  split at h
  ·rename_i e
   have:=Gq8 e
   simp only[Option.some.injEq] at h
   subst h this
   exact⟨Gqi _,Aqd⟩
  ·obtain⟨h1,h2⟩:=idxN_ok rs p (i+1) j h
   exact⟨Aqa,by rw[show j-i=(j-(i+1))+1 by omega,Gxw]; exact h2⟩
theorem idxN_none:∀ (ρ:List Nat) (p i:Nat),idxN ρ p i=none→p∉ρ
 | [],p,i,_=>by simp
 | r::rs,p,i,h=>by
  rw[idxN] at h
  split at h
  ·cases h
  ·rename_i e
   have h1:=idxN_none rs p (i+1) h
   intro hp
   rcases List.mem_cons.1 hp with rfl | hp
   ·rw[show Nat.beq p p=true from Gxz p] at e; cases e
   ·exact h1 hp
def offN (ρ qs:List Nat):Bool:=qs.all fun q => !memN ρ q
def lendw1 (objs:List Ob) (ρ:List Nat):V1→V1
 | .rd qs x=>match offN ρ qs with
  |true => .rd [] x
  |false=>match x with
   | .v u => .rd [] (.v u)
   |_ => .un
 | .ref p=>match idxN ρ p 0 with
  |some q => .ref q
  |none=>match objs.getD p .gone with
   | .row k es => .rd [] (.sl k es)
   |_ => .un
 | .ptr p i=>match idxN ρ p 0 with
  |some q => .ptr q i
  |none => .un
 | .el p k i j=>match idxN ρ p 0 with
  |some q => .el q k i j
  |none => .un
 | .sb p _ 1=>match idxN ρ p 0 with
  |some _ => .un
  | none=>match objs.getD p .gone with
   | .box cs=>match sbE cs with
    |some es => .rd [] (.sl 1 es)
    |none => .un
   |_ => .un
 |_ => .un
def lendw (objs:List Ob) (ρ:List Nat):V→V2
 | .o (.c x) => .c (lendw1 objs ρ x)
 | .o (.ag xs) => .ag (xs.map (lendw1 objs ρ))
 |_ => .c .un
def V1.killw (ps kc:List Nat):V1→V1
 | .rd qs x=>match offN ps qs with
  |true => .rd qs x
  |false=>match x with
   | .v u => .rd [] (.v u)
   |_ => .un
 | .ref p=>match memN ps p with
  |false => .ref p
  |true=>match memN kc p with
   |true => .ref p
   |false => .un
 | .ptr p i=>match memN ps p with
  |false => .ptr p i
  |true=>match memN kc p with
   |true => .ptr p i
   |false => .un
 | .el p k i j=>match memN ps p with
  |false => .el p k i j
  |true=>match memN kc p with
   |true => .el p k i j
   |false => .un
 | .sb p n k=>match memN ps p with
  |false => .sb p n k
  |true => .un
 | .rp qs xs=>match offN ps qs with
  |true => .rp qs xs
  |false => .un
 | .le p k i j=>match memN ps p with
  |false => .le p k i j
  |true => .un
 | .hd p n=>match memN ps p with
  |false => .hd p n
  |true => .un
 | .tl p k n=>match memN ps p with
  |false => .tl p k n
  |true=>match memN kc p with
   |true => .tl p k n
   |false => .un
 | .un => .un
def Place (x y:Pc):Prop:=(∃ t v fp t' fp',x = .ow t v fp∧y = .ow t' v fp')∨∃ g t vs t' vs',x = .box g t vs∧y = .box g t' vs'

theorem offN_ok {ρ qs:List Nat} (h:offN ρ qs=true):∀ q∈qs,q∉ρ:=fun q hq=>by
 have:=Gqp.1 h q hq
 simp only[Gq6] at this
 exact memN_not this
theorem R1.killw {ps kc:List Nat} (hok:Ok w H F) (ht:Turn w H w' H' ps) (hkc:∀ p∈kc,Place (H p) (H' p)) {x:V1} {v:Value} (h:R1 w H F x v):R1 w' H' F (x.killw ps kc) v:=by
 have hoff:∀ qs:List Nat,offN ps qs=true→(qs.all fun q => !ps.contains q)=true:=fun qs hq=>Gqp.2 fun q hm=>by simpa using offN_ok hq q hm
 have hone:∀ p,memN ps p=false→(!ps.contains p)=true:=fun p hp=>by simpa using memN_not hp
 cases x with
 | rd qs x =>
  simp only[V1.killw]
  split
  ·rename_i hq; exact R1.turn hok ht (x := .rd qs x) (hoff qs hq) h
  ·split
   ·obtain⟨rfl,h1⟩:=RO.plain h; exact RO.v _ h1
   ·trivial
 | ref p =>
  simp only[V1.killw]
  split
  ·rename_i hp; exact R1.turn hok ht (x := .ref p) (hone p hp) h
  ·split
   ·rename_i hp
    obtain⟨x,fp,e⟩:=h
    rcases hkc p ((Zs _ _).1 hp) with ⟨t,v',fp1,t',fp2,e1,e2⟩ | ⟨g,t,vs,t',vs',e1,e2⟩
    ·rw[e] at e1
     simp only[Pc.ow.injEq] at e1
     obtain⟨_,rfl,_⟩:=e1
     exact⟨t',fp2,e2⟩
    ·rw[e] at e1; cases e1
   ·trivial
 | ptr p i =>
  simp only[V1.killw]
  split
  ·rename_i hp; exact R1.turn hok ht (x := .ptr p i) (hone p hp) h
  ·split
   ·rename_i hp
    obtain⟨g0,t0,vs0,e,hv⟩:=h
    rcases hkc p ((Zs _ _).1 hp) with ⟨t,v',fp1,t',fp2,e1,e2⟩ | ⟨g,t,vs,t',vs',e1,e2⟩
    ·rw[e] at e1; cases e1
    ·rw[e] at e1
     simp only[Pc.box.injEq] at e1
     obtain⟨rfl,_,_⟩:=e1
     exact⟨_,_,_,e2,hv⟩
   ·trivial
 | el p k i j =>
  simp only[V1.killw]
  split
  ·rename_i hp; exact R1.turn hok ht (x := .el p k i j) (hone p hp) h
  ·split
   ·rename_i hp
    obtain⟨b,o,n,c,x,fp,e,hv⟩:=h
    rcases hkc p ((Zs _ _).1 hp) with ⟨t,v',fp1,t',fp2,e1,e2⟩ | ⟨g,t,vs,t',vs',e1,e2⟩
    ·rw[e] at e1
     simp only[Pc.ow.injEq] at e1
     obtain⟨_,rfl,_⟩:=e1
     exact⟨b,o,n,c,t',fp2,e2,hv⟩
    ·rw[e] at e1; cases e1
   ·trivial
 |sb p n k =>
  simp only[V1.killw]
  split
  ·rename_i hp; exact R1.turn hok ht (x := .sb p n k) (hone p hp) h
  ·trivial
 |rp qs xs =>
  simp only[V1.killw]
  split
  ·rename_i hq; exact R1.turn hok ht (x := .rp qs xs) (hoff qs hq) h
  ·trivial
 |le p k i j =>
  simp only[V1.killw]
  split
  ·rename_i hp; exact R1.turn hok ht (x := .le p k i j) (hone p hp) h
  ·trivial
 |hd p n =>
  simp only[V1.killw]
  split
  ·rename_i hp; exact R1.turn hok ht (x := .hd p n) (hone p hp) h
  ·trivial
 | tl p k n =>
  simp only[V1.killw]
  split
  ·rename_i hp; exact R1.turn hok ht (x := .tl p k n) (hone p hp) h
  ·split
   ·rename_i hp
    obtain⟨A,A',m,c,x,fp,e,hv⟩:=h
    rcases hkc p ((Zs _ _).1 hp) with ⟨t,v',fp1,t',fp2,e1,e2⟩ | ⟨g,t,vs,t',vs',e1,e2⟩
    ·rw[e] at e1
     simp only[Pc.ow.injEq] at e1
     obtain⟨_,rfl,_⟩:=e1
     exact⟨A,A',m,c,t',fp2,e2,hv⟩
    ·rw[e] at e1; cases e1
   ·trivial
 |un=>trivial

theorem lendw1_ok {ρ:List Nat} {H1:Hs} {F1:Nat→Prop} (h:R0 w H F st a) (hH:∀ q p,ρ[q]? = some p→H1 q=H p) (hF:∀ b,b<w.heap.size→(∀ p∈ρ,b∉(H p).fp)→F1 b) {x:V1} {v:Value} (hx:R1 w H F x v):R1 w H1 F1 (lendw1 st.objs ρ x) v:=by
 have hrow:∀ (p k:Nat) (es:List (List T)),p∉ρ→st.objs.getD p .gone = .row k es→R1 w H F (.ref p) v→R1 w H1 F1 (.rd [] (.sl k es)) v:=by
  intro p k es hp ho hx
  have h1:=h.obs p
  rw[ho] at h1
  obtain⟨u,fp,e⟩:=h1
  obtain⟨x,fp',e'⟩:=hx
  have h2:=h.ok.says p
  rw[e] at h2 e'
  simp only[Pc.ow.injEq] at e'
  obtain⟨_,rfl,_⟩:=e'
  refine RO.weak (OW.ro h2) fun b hb hlt => .inl (hF b hlt fun r hr hb' => ?_)
  have:=h.ok.disj p r b Bxu hb'
  exact hp (this▸hr)
 cases x with
 | rd qs x =>
  simp only[lendw1]
  split
  ·rename_i hq
   refine RO.weak hx fun b hb hlt => .inl (hF b hlt fun r hr hb' => ?_)
   rcases hb with hb | ⟨q,h1,x,v,fp,e,hb⟩
   ·exact h.ok.free r b hb' hb
   ·have:=h.ok.disj q r b Bxu hb'
    exact offN_ok hq q h1 (this▸hr)
  ·split
   ·obtain⟨rfl,h1⟩:=RO.plain hx; exact RO.v _ h1
   ·trivial
 | ref p =>
  simp only[lendw1]
  split
  ·rename_i q hq
   obtain⟨_,h2⟩:=idxN_ok ρ p 0 q hq
   obtain⟨x,fp,e⟩:=hx
   exact⟨x,fp,(hH q p (by simpa using h2)).trans e⟩
  ·rename_i hq
   split
   ·rename_i k es ho; exact hrow p k es (idxN_none ρ p 0 hq) ho hx
   ·trivial
 | ptr p i =>
  simp only[lendw1]
  split
  ·rename_i q hq
   obtain⟨_,h2⟩:=idxN_ok ρ p 0 q hq
   obtain⟨g,t,vs,e,hv⟩:=hx
   exact⟨g,t,vs,(hH q p (by simpa using h2)).trans e,hv⟩
  ·trivial
 | el p k i j =>
  simp only[lendw1]
  split
  ·rename_i q hq
   obtain⟨_,h2⟩:=idxN_ok ρ p 0 q hq
   obtain⟨b,o,n,c,x,fp,e,hv⟩:=hx
   exact⟨b,o,n,c,x,fp,(hH q p (by simpa using h2)).trans e,hv⟩
  ·trivial
 | sb p n' k =>
  unfold lendw1
  split
  ·rename_i e; cases e
  ·rename_i e; cases e
  ·rename_i e; cases e
  ·rename_i e; cases e
  ·rename_i p' n'' e
   simp only[V1.sb.injEq] at e
   obtain⟨rfl,rfl,rfl⟩:=e
   split
   ·trivial
   ·rename_i hq
    have hp:=idxN_none ρ p 0 hq
    have h3:=lend_ok (H1:=H1) h hx
    simp only[lend] at h3
    split
    ·rename_i cs ho
     rw[ho] at h3
     simp only at h3
     split
     ·rename_i es hs
      rw[sbA_of _ _ hs] at h3
      obtain⟨g,t,vs,e1,e2,e3,rfl⟩:=hx
      -- the cells lie in the box's own block
      have h4:R1 w (fun _ => .nil) (fun b=>b=g) (.rd [] (.sl 1 es)) (.slice (some ⟨g,0,none⟩) n' n'):=by
       have h5:RO w _ (.sl 1 es) (.slice (some ⟨g,0,none⟩) n' n'):=h3
       cases h5 with
       |nil=>exact .nil _ _ _ Aqe 
       | sl _ b o _ c val hF' hc hm hp' hk hv ht =>
        refine .sl es g 0 1 _ val (.inl J) hc hm hp' hk hv fun i j e t' hi hj => ?_
        have h6:=ht i j e t' hi hj
        obtain⟨hpl,_⟩:(∃ u,t' = .v u)∧True:=by
         obtain⟨_,k2⟩:=sbE_ok _ _ hs
         obtain⟨_,u,_,k4⟩:=k2 i e hi
         subst k4
         cases j with
         |zero=>simp at hj; exact⟨⟨u,hj.symm⟩,trivial⟩
         |succ j=>simp at hj
        obtain⟨u,rfl⟩:=hpl
        obtain⟨h7,h8⟩:=RO.plain h6
        rw[h7]
        exact .v u h8
      refine RO.weak h4 fun b hb hlt => .inl (hF b hlt fun r hr hb' => ?_)
      rcases hb with e9 | ⟨q,h1,_⟩
      ·have:=h.ok.disj p r b (by rw[e1,e9]; simp[Pc.fp]) hb'
       exact hp (this▸hr)
      ·simp at h1
     ·trivial
    ·trivial
  ·trivial
 |rp=>trivial
 |le=>trivial
 |hd=>trivial
 |tl=>trivial
 |un=>trivial

theorem R1.sub {H1:Hs} {F1:Nat→Prop} (hs:∀ q,H q ≠ .nil→H1 q=H q) (hF:∀ b,F b→F1 b) {x:V1} {v:Value} (h:R1 w H F x v):R1 w H1 F1 x v:=by
 have hin:∀ {qs:List Nat} {b:Nat},inP H F qs b→inP H1 F1 qs b:=fun hb=>by
  rcases hb with hb | ⟨q,hq,x,v,fp,e,hb⟩
  ·exact .inl (hF _ hb)
  ·exact .inr ⟨q,hq,x,v,fp,by rw[hs q Bqy,e],hb⟩
 cases x with
 |rd qs x=>exact RO.weak h fun b hb _=>hin hb
 |ref p=>obtain⟨x,fp,e⟩:=h; exact⟨x,fp,by rw[hs p Bqy,e]⟩
 |ptr p i=>obtain⟨g,t,vs,e,hv⟩:=h; exact⟨g,t,vs,by rw[hs p Bqy,e],hv⟩
 |sb p n k=>obtain⟨g,t,vs,e,hv⟩:=h; exact⟨g,t,vs,by rw[hs p Bqy,e],hv⟩
 |el p k i j=>obtain⟨b,o,n,c,x,fp,e,hv⟩:=h; exact⟨b,o,n,c,x,fp,by rw[hs p Bqy,e],hv⟩
 |le p k i j=>obtain⟨b,o,n,c,x,fp,e,hv⟩:=h; exact⟨b,o,n,c,x,fp,by rw[hs p Bqy,e],hv⟩
 |hd p n=>obtain⟨A,m,c,x,fp,e,hv⟩:=h; exact⟨A,m,c,x,fp,by rw[hs p Bqy,e],hv⟩
 |tl p k n=>obtain⟨A,A',m,c,x,fp,e,hv⟩:=h; exact⟨A,A',m,c,x,fp,by rw[hs p Bqy,e],hv⟩
 |rp qs xs =>
  obtain⟨b,o,hv,hb,hc⟩:=h
  refine⟨b,o,hv,hin hb,fun j t hj=>?_⟩
  obtain⟨u,h1,h2⟩:=hc j t hj
  exact⟨u,h1,RO.weak h2 fun b hb _=>hin hb⟩
 |un=>trivial
theorem R2.sub {H1:Hs} {F1:Nat→Prop} (hs:∀ q,H q ≠ .nil→H1 q=H q) (hF:∀ b,F b→F1 b) {x:V2} {v:Value} (h:R2 w H F x v):R2 w H1 F1 x v:=by
 cases x with
 |c x=>exact R1.sub hs hF h
 |ag xs=>obtain⟨us,e,hl,hr⟩:=h; exact⟨us,e,hl,fun i x u h1 h2=>R1.sub hs hF (hr i x u h1 h2)⟩
theorem RB.sub {H1:Hs} {F1:Nat→Prop} (hs:∀ q,H q ≠ .nil→H1 q=H q) (hF:∀ b,F b→F1 b) {p:Nat} {ob:Ob} (hp:H p ≠ .nil) (h:RB w H F p ob):RB w H1 F1 p ob:=by
 cases ob with
 |gone=>exact absurd h hp
 |hole=>trivial
 |box cs=>obtain⟨g,t,vs,e,hl,hr⟩:=h; exact⟨g,t,vs,by rw[hs p hp,e],hl,fun i c u h1 h2=>⟨R1.sub hs hF (hr i c u h1 h2).1,(hr i c u h1 h2).2⟩⟩
 |row k es=>obtain⟨v,fp,e⟩:=h; exact⟨v,fp,by rw[hs p hp,e]⟩
 |gh i x=>obtain⟨v,e,hr⟩:=h; exact⟨v,by rw[hs p hp,e],R2.sub hs hF hr⟩
 |lk x y=>obtain⟨v,e,h1,h2⟩:=h; exact⟨v,by rw[hs p hp,e],R1.sub hs hF h1,R1.sub hs hF h2⟩

def phi (ρ:List Nat) (m N q:Nat):Nat:=match Nat.blt q ρ.length with
 |true=>ρ.getD q 0
 |false=>N+(q-(ρ.length+m))
section
variable {H2:Hs} {F2:Nat→Prop} {φ:Nat→Nat}
theorem plantw1 (hpl:∀ q,H2 q ≠ .nil→(∀ i v,H2 q ≠ .gh i v)→H' (φ q)=H2 q) {x:V1} {v:Value} (hc:x.closed=true) (hx:R1 w H2 F2 x v):R1 w H' F (x.ren φ) v:=by
 cases x with
 |rd ps x =>
  cases x with
  |v x=>obtain⟨rfl,h⟩:=RO.plain hx; exact RO.v _ h
  |sl k es=>simp[V1.closed] at hc
  |un=>exact RO.un _ (RO.one hx)
 |ref q=>obtain⟨x,fp,e⟩:=hx; exact⟨x,fp,by rw[hpl q Bqy Bqy,e]⟩
 |ptr q i=>obtain⟨g,t,vs,e,hv⟩:=hx; exact⟨g,t,vs,by rw[hpl q Bqy Bqy,e],hv⟩
 |sb q i j=>obtain⟨g,t,vs,e,hv⟩:=hx; exact⟨g,t,vs,by rw[hpl q Bqy Bqy,e],hv⟩
 |el q k i j=>obtain⟨b,o,n',c,x,fp,e,hv⟩:=hx; exact⟨b,o,n',c,x,fp,by rw[hpl q Bqy Bqy,e],hv⟩
 |rp=>simp[V1.closed] at hc
 |le q k i j=>obtain⟨b,o,n',c,x,fp,e,hv⟩:=hx; exact⟨b,o,n',c,x,fp,by rw[hpl q Bqy Bqy,e],hv⟩
 |hd q i=>obtain⟨A,m',c,x,fp,e,hv⟩:=hx; exact⟨A,m',c,x,fp,by rw[hpl q Bqy Bqy,e],hv⟩
 |tl q k i=>obtain⟨A,A',m',c,x,fp,e,hv⟩:=hx; exact⟨A,A',m',c,x,fp,by rw[hpl q Bqy Bqy,e],hv⟩
 |un=>trivial
theorem plantw2 (hpl:∀ q,H2 q ≠ .nil→(∀ i v,H2 q ≠ .gh i v)→H' (φ q)=H2 q) {x:V2} {v:Value} (hc:x.closed=true) (hx:R2 w H2 F2 x v):R2 w H' F (x.ren φ) v:=by
 cases x with
 |c x=>exact plantw1 hpl hc hx
 |ag xs =>
  obtain⟨us,e,hl,hr⟩:=hx
  refine⟨us,e,by simpa using hl,fun i x u hi hu=>?_⟩
  rw[Gqk] at hi
  obtain⟨c,h1,rfl⟩:=Option.map_eq_some_iff.1 hi
  exact plantw1 hpl (Gqp.1 hc c (Zk h1)) (hr i c u h1 hu)
theorem plantwV (hpl:∀ q,H2 q ≠ .nil→(∀ i v,H2 q ≠ .gh i v)→H' (φ q)=H2 q) {x:V} {v:Value} (hc:x.closed=true) (hx:RV w H2 F2 x v):RV w H' F (x.ren φ) v:=by
 cases x with
 |o x=>exact plantw2 hpl hc hx
 |tu xs =>
  obtain⟨us,e,hl,hr⟩:=hx
  refine⟨us,e,by simpa using hl,fun i x u hi hu=>?_⟩
  rw[Gqk] at hi
  obtain⟨c,h1,rfl⟩:=Option.map_eq_some_iff.1 hi
  exact plantw2 hpl (Gqp.1 hc c (Zk h1)) (hr i c u h1 hu)
 |iff cs x=>exact⟨fun h=>plantw2 hpl hc (hx.1 h),hx.2⟩
def Ob.back:Ob→Bool
 | .box cs=>cs.all V1.closed
 | .row _ _=>true
 |_=>false
theorem back_ng {q:Nat} {ob:Ob} (hb:ob.back=true) (h:RB w H2 F2 q ob):H2 q ≠ .nil∧∀ i v,H2 q ≠ .gh i v:=by
 cases ob with
 |box cs=>obtain⟨g,t,vs,e,_⟩:=h; rw[e]; simp
 |row k es=>obtain⟨v,fp,e⟩:=h; rw[e]; simp
 |gone=>cases hb
 |hole=>cases hb
 |gh=>cases hb
 |lk=>cases hb
theorem plantwB (hpl:∀ q,H2 q ≠ .nil→(∀ i v,H2 q ≠ .gh i v)→H' (φ q)=H2 q) {q p:Nat} {ob:Ob} (hp:H' p=H2 q) (hb:ob.back=true) (h:RB w H2 F2 q ob):RB w H' F p (ob.ren φ):=by
 cases ob with
 |box cs =>
  obtain⟨g,t,vs,e,hl,hr⟩:=h
  refine⟨g,t,vs,hp.trans e,by simpa using hl,fun i c u hi hu=>?_⟩
  rw[Gqk] at hi
  obtain⟨c',h1,rfl⟩:=Option.map_eq_some_iff.1 hi
  exact⟨plantw1 hpl (Gqp.1 hb c' (Zk h1)) (hr i c' u h1 hu).1,(hr i c' u h1 hu).2⟩
 |row k es=>obtain⟨v,fp,e⟩:=h; exact⟨v,fp,hp.trans e⟩
 |gone=>cases hb
 |hole=>cases hb
 |gh=>cases hb
 |lk=>cases hb
end
def setL {α:Type}:List α→List Nat→List α→List α
 |l,r::rs,o::os=>setL (l.set r o) rs os
 |l,_,_=>l
theorem setL_len {α:Type}:∀ (rs:List Nat) (os:List α) (l:List α),(setL l rs os).length=l.length
 | [],os,l=>by cases os <;> rfl
 |r::rs,[],l=>rfl
 |r::rs,o::os,l=>by rw[setL,setL_len rs os,Gqu]
theorem setL_out {α:Type} {d:α}:∀ (rs:List Nat) (os:List α) (l:List α) (p:Nat),p∉rs→(setL l rs os).getD p d=l.getD p d
 | [],os,l,p,_=>by cases os <;> rfl
 |r::rs,[],l,p,_=>rfl
 |r::rs,o::os,l,p,hp=>by
  rw[setL,setL_out rs os _ p (fun h=>hp (by simp[h])),Gqf,Gxa (fun e=>hp (by simp[e])),Gqf]
theorem setL_in {α:Type} {d:α}:∀ (rs:List Nat) (os:List α) (l:List α) (q p:Nat) (x:α),rs.Nodup→(∀ r∈rs,r<l.length)→rs[q]? = some p→os[q]? = some x→(setL l rs os).getD p d=x
 | [],os,l,q,p,x,_,_,h,_=>by simp at h
 |r::rs,[],l,q,p,x,_,_,_,h=>by simp at h
 | r::rs,o::os,l,q,p,x,hn,hl,h1,h2=>by
  obtain⟨n1,n2⟩:=Gxi.1 hn
  cases q with
  |zero =>
   simp only[Gxf,Option.some.injEq] at h1 h2
   subst h1 h2
   rw[setL,setL_out rs os _ r n1,Gqf,Gxg (hl r Aqd)]
   rfl
  |succ q =>
   rw[setL]
   exact setL_in rs os _ q p x n2 (fun r hr=>by rw[Gqu]; exact hl r (by simp[hr])) (by simpa using h1) (by simpa using h2)
def gh1 (g:Nat×V2):Ob := .gh g.1 g.2
def gsrc (args:List V2) (lo:List Ob) (i:Nat):Option V2 :=
 match args[i]? with
 |some x=>some x
 |none=>match lo[i-args.length]? with
  |some (.row _ _)=>some (.c (.ref (i-args.length)))
  |_=>none
def pcV:Pc→Value
 | .ow _ v _=>v
 |_=>undef
def plc:V1→Option Nat
 | .ref q=>some q
 | .ptr q _=>some q
 |_=>none

def pickC:V2→Nat→Option V1
 | .c x,_=>some x
 | .ag xs,j=>xs[j]?
def pickU:V2→Value→Nat→Value
 | .c _,v,_=>v
 | .ag _,v,j=>match v with
  | .agg us=>us.toList.getD j undef
  |_=>undef
theorem R2.cell {x:V2} {v:Value} {j:Nat} {c:V1} (h:R2 w H F x v) (hp:pickC x j=some c):R1 w H F c (pickU x v j):=by
 cases x with
 |c x=>simp only[pickC,Option.some.injEq] at hp; subst hp; exact h
 |ag xs =>
  obtain⟨us,rfl,hl,hr⟩:=h
  have hj:j<us.length:=by rw[hl]; exact Zj hp
  have:=hr j c _ hp (Gqg hj)
  simpa[pickU,Gqf,hj] using this

theorem L_lent {f:FuncId} [hf:FunOk P f] {ass:Array Operand} {tys:Array TypeId} {args:List V2} {lo lo' new:List Ob} {gs gs':List (Nat×V2)} {res:V} (ρ:List Nat) (kq:List (Nat×Nat×V1)) (ho:o.op = .call { callee := .value (.func f),args:=ass,argTypes:=tys }) (hg:o.guard=none)
  (hc:Con P f (lo++gs.map gh1) args (lo'++(gs'.map gh1++new)) res) (hρ:nodupB ρ=true) (hlt:ρ.all (fun p=>Nat.blt p st.objs.length)=true) (hl1:lo.length=ρ.length) (hl2:lo'.length=ρ.length) (hl3:gs'.length=gs.length)
  (hlo:lo.map (Ob.ren (rho ρ st.objs.length))=ρ.map fun p=>st.objs.getD p .gone) (hgn:ρ.all (fun p=>(st.objs.getD p .gone).back || (match st.objs.getD p .gone with | .box _=>true | _=>false))=true) (ha:ass.toList.map (fun y=>lendw st.objs ρ (st.ev y))=args)
  (hgs:gs.map (fun g=>gsrc args lo g.1)=gs.map (fun g=>some g.2)) (hk1:kq.map (fun k=>gs[k.1]?.bind fun g=>pickC g.2 k.2.1)=kq.map (fun k=>some k.2.2)) (hk2:kq.map (fun k=>gs'[k.1]?)=kq.map (fun k=>gs[k.1]?)) (hk3:kq.all (fun k=>match plc k.2.2 with | some q=>Nat.blt q ρ.length | none=>false)=true)
  (hcl:res.closed=true) (hb1:lo'.all Ob.back=true) (hb2:new.all Ob.back=true) (hd:dstOk st.n o.dst=true)
  (h:AL P E ops QQ rest ⟨st.n,setT (st.tmps.map fun e=>(e.1,e.2.mapk (V1.killw (ρ++(List.range new.length).map (st.objs.length+·)) (kq.map fun k=>ρ.getD ((plc k.2.2).getD 0) 0)))) o.dst (res.ren (phi ρ gs.length st.objs.length)),
   setL (st.objs.map (Ob.mapk (V1.killw (ρ++(List.range new.length).map (st.objs.length+·)) (kq.map fun k=>ρ.getD ((plc k.2.2).getD 0) 0)))) ρ (lo'.map (Ob.ren (phi ρ gs.length st.objs.length)))++new.map (Ob.ren (phi ρ gs.length st.objs.length))⟩):AL P E ops QQ (o::rest) st:=by
 refine⟨fun a w ⟨H,F,hr,hsince⟩ => ?_⟩
 have hrun:(execOp a.eval o).run P w = .ok (.enter f (ass.toList.map a.eval).toArray) w:=by
  unfold execOp
  simp only[ho,resolve,Act.eval,Deferred.ofValue,Sem.run_bind,Sem.run_pure,Result.andThen_ok,invoke]
  rw[show (#[]++ass.map a.eval++#[])=(ass.toList.map a.eval).toArray by
   apply Array.ext'
   simp]
  exact run_callFunc _
 refine wpList_step fun K hK=>?_
 rw[if_pos Bq6]
 unfold Oper.wp
 rw[hrun]
 have hnd:ρ.Nodup:=Z4 hρ
 have hltN:∀ p∈ρ,p<st.objs.length:=fun p hp=>Gqx (Gqp.1 hlt p hp)
 have hnilN:∀ p,st.objs.length≤p→H p = .nil:=fun p hp=>by
  have:=hr.obs p
  simpa[Gqf,hp,RB] using this
 have hinj:∀ (i j p:Nat),ρ[i]? = some p→ρ[j]? = some p→i=j:=fun i j p h1 h2=>by
  obtain⟨a1,e1⟩:=Gqo.1 h1
  obtain⟨a2,e2⟩:=Gqo.1 h2
  rcases Nat.lt_trichotomy i j with hij | hij | hij
  ·exact absurd (e1.trans e2.symm) (List.pairwise_iff_getElem.1 hnd i j a1 a2 hij)
  ·exact hij
  ·exact absurd (e2.trans e1.symm) (List.pairwise_iff_getElem.1 hnd j i a2 a1 hij)
 obtain⟨vs,hvs⟩:∃ vs,vs=ass.toList.map a.eval:=⟨_,rfl⟩
 obtain⟨gv,hgv⟩:∃ gv:Nat→Value,gv=fun i=>match args[i]? with | some _=>vs.getD i undef | none=>pcV (H (ρ.getD (i-args.length) 0)):=⟨_,rfl⟩
 obtain⟨H1,hH1⟩:∃ H1:Hs,H1=fun q=>match ρ[q]? with | some p=>H p | none=>match gs[q-ρ.length]? with | some g=>if ρ.length≤q then .gh g.1 (gv g.1) else .nil | none => .nil:=⟨_,rfl⟩
 have a1:∀ q p,ρ[q]? = some p→H1 q=H p:=fun q p hq=>by rw[hH1]; simp only[hq]
 have a2:∀ j g,gs[j]? = some g→H1 (ρ.length+j) = .gh g.1 (gv g.1):=fun j g hj=>by
  rw[hH1]
  have:ρ[ρ.length+j]? = none:=List.getElem?_eq_none Aqa 
  simp only[this,Nat.add_sub_cancel_left,hj]
  rw[if_pos Aqa]
 have a3:∀ q b,b∈(H1 q).fp→∃ p,ρ[q]? = some p∧b∈(H p).fp:=fun q b hb=>by
  cases hq:ρ[q]? with
  |some p=>rw[a1 q p hq] at hb; exact⟨p,rfl,hb⟩
  |none =>
   rw[hH1] at hb
   simp only[hq] at hb
   split at hb
   ·split at hb <;> simp[Pc.fp] at hb
   ·simp[Pc.fp] at hb
 have a4:∀ q i v,H1 q = .gh i v→(∃ p,ρ[q]? = some p∧H p = .gh i v)∨v=gv i:=fun q i v hq=>by
  cases hp:ρ[q]? with
  |some p=>rw[a1 q p hp] at hq; exact .inl ⟨p,rfl,hq⟩
  | none =>
   rw[hH1] at hq
   simp only[hp] at hq
   split at hq
   ·split at hq
    ·simp only[Pc.gh.injEq] at hq
     exact .inr (by rw[←hq.2,hq.1])
    ·cases hq
   ·cases hq
 obtain⟨F1,hF1⟩:∃ F1:Nat→Prop,F1=fun b=>b<w.heap.size∧∀ p∈ρ,b∉(H p).fp:=⟨_,rfl⟩
 have hFF:∀ b,F b→F1 b:=fun b hb=>by rw[hF1]; exact⟨hr.ok.flt b hb,fun p _ h=>hr.ok.free p b h hb⟩
 have hsubH:∀ q,H (rho ρ st.objs.length q) ≠ .nil→H1 q=H (rho ρ st.objs.length q):=fun q hq=>by
  cases hp:ρ[q]? with
  |some p=>rw[a1 q p hp]; simp[rho,Gqf,hp]
  |none=>exact absurd (hnilN _ (by simp[rho,Gqf,hp])) hq
 have hgok:∀ p∈ρ,H p ≠ .nil∧∀ i v,H p ≠ .gh i v:=fun p hp=>by
  have h1:=Gqp.1 hgn p hp
  have h2:=hr.obs p
  cases ho:st.objs.getD p .gone with
  |box cs=>rw[ho] at h2; obtain⟨g,t,us,e,_⟩:=h2; rw[e]; simp
  |row k es=>rw[ho] at h2; obtain⟨v,fp,e⟩:=h2; rw[e]; simp
  |gone=>rw[ho] at h1; cases h1
  |hole=>rw[ho] at h1; cases h1
  |gh=>rw[ho] at h1; cases h1
  |lk=>rw[ho] at h1; cases h1
 have hok1:Ok w H1 F1:=by
  refine⟨fun q=>?_,fun q=>?_,fun q r b h1 h2=>?_,fun q b h1 h2=>?_,fun b hb=>by rw[hF1] at hb; exact hb.1⟩
  ·cases hp:ρ[q]? with
   |some p=>rw[a1 q p hp]; exact hr.ok.says p
   |none =>
    rw[hH1]
    simp only[hp]
    split
    ·split <;> trivial
    ·trivial
  ·cases hp:ρ[q]? with
   |some p=>rw[a1 q p hp]; exact hr.ok.nodup p
   |none =>
    rw[hH1]
    simp only[hp]
    split
    ·split <;> simp[Pc.fp]
    ·simp[Pc.fp]
  ·obtain⟨p,e1,e2⟩:=a3 q b h1
   obtain⟨p',e3,e4⟩:=a3 r b h2
   have:=hr.ok.disj p p' b e2 e4
   subst this
   exact hinj q r p e1 e3
  ·obtain⟨p,e1,e2⟩:=a3 q b h1
   rw[hF1] at h2
   exact h2.2 p (Zk e1) e2
 have hargs1:∀ (i:Nat) (x:V2) (v:Value),args[i]? = some x→vs[i]? = some v→R2 w H1 F1 x v:=by
  intro i x v hx hv
  rw[←ha,Gqk] at hx
  obtain⟨y,h1,rfl⟩:=Option.map_eq_some_iff.1 hx
  rw[hvs,Gqk,h1] at hv
  simp only[Gq1,Option.some.injEq] at hv
  subst hv
  have h2:=hr.ev y
  have hl1:∀ {x:V1} {v:Value},R1 w H F x v→R1 w H1 F1 (lendw1 st.objs ρ x) v:=fun hx=>lendw1_ok hr a1 (fun b h1 h2=>by rw[hF1]; exact⟨h1,h2⟩) hx
  cases he:st.ev y with
  | o x =>
   rw[he] at h2
   cases x with
   |c x=>exact hl1 h2
   |ag xs =>
    obtain⟨us,e,hl,hcs⟩:=h2
    refine⟨us,e,by simpa using hl,fun i x u hi hu=>?_⟩
    rw[Gqk] at hi
    obtain⟨c,h3,rfl⟩:=Option.map_eq_some_iff.1 hi
    exact hl1 (hcs i c u h3 hu)
  |tu xs=>trivial
  |iff cs x=>trivial
 have hgsat:∀ (j:Nat) (g:Nat×V2),gs[j]? = some g→gsrc args lo g.1=some g.2:=fun j g hj=>by
  have:=congrArg (·[j]?) hgs
  simpa[hj] using this
 have hvl:vs.length=args.length:=by rw[hvs,←ha]; simp
 have hvat:∀ (i:Nat) (x:V2),args[i]? = some x→vs[i]? = some (vs.getD i undef):=fun i x hx=>by
  have:i<vs.length:=by rw[hvl]; exact Zj hx
  simp[Gqf,this]
 have hobsL:∀ q (hq:q<ρ.length) (hq':q<lo.length),RB w H1 F1 q lo[q]:=by
  intro q hq hq'
  have hp:ρ[q]? = some ρ[q]:=Gqg hq
  have hlq:lo[q]? = some (lo[q]' Aqa):=Gqg Aqa 
  have h1:=congrArg (·[q]?) hlo
  simp only[Gqk,hlq,hp,Gq1,Option.some.injEq] at h1
  have h2:=hr.obs ρ[q]
  rw[←h1] at h2
  have hf:rho ρ st.objs.length q=ρ[q]:=by simp[rho,Gqf,hq]
  have h3:RB w (fun p=>H (rho ρ st.objs.length p)) F q (lo[q]' Aqa):=RB.ren (f:=rho ρ st.objs.length) (by rw[hf]; exact h2)
  exact RB.sub (H:=fun p=>H (rho ρ st.objs.length p)) hsubH hFF (by simp only[hf]; exact (hgok _ (Gqe hq)).1) h3
 have hgat:∀ (j:Nat) (g:Nat×V2),gs[j]? = some g→R2 w H1 F1 g.2 (gv g.1):=fun j g hj=>by
  have h1:=hgsat j g hj
  unfold gsrc at h1
  rw[hgv]
  cases ha1:args[g.1]? with
  |some x =>
   rw[ha1] at h1
   simp only[Option.some.injEq] at h1
   subst h1
   simp only[ha1]
   exact hargs1 _ _ _ ha1 (hvat _ _ ha1)
  | none =>
   rw[ha1] at h1
   simp only[ha1]
   simp only at h1
   split at h1
   ·rename_i k es hlo1
    have hq:=Zj hlo1
    have hq1:g.1-args.length<ρ.length:=Aqa
    have h2:=hobsL _ hq1 hq
    rw[(Gqo.1 hlo1).2] at h2
    obtain⟨v,fp,e⟩:=h2
    have h3:=a1 (g.1-args.length) (ρ[g.1-args.length]) (Gqg hq1)
    rw[show ρ.getD (g.1-args.length) 0=ρ[g.1-args.length] by simp[Gqf,hq1],←h3,e]
    simp only[Option.some.injEq] at h1
    rw[←h1]
    exact⟨_,_,e⟩
   ·cases h1
 have hobs1:∀ q,RB w H1 F1 q ((lo++gs.map gh1).getD q .gone):=by
  intro q
  rcases Gqr q ρ.length with hq | hq
  ·rw[show (lo++gs.map gh1).getD q .gone=lo[q]' Aqa by simp[Gqf,Gq2 (show q<lo.length by omega),hl1,hq]]
   exact hobsL q hq Aqa 
  ·cases hj:gs[q-ρ.length]? with
   |some g =>
    rw[show (lo++gs.map gh1).getD q .gone=gh1 g by simp[Gqf,Gq3 (show lo.length≤q by omega),hl1,hj]]
    have h1:=a2 _ g hj
    rw[show ρ.length+(q-ρ.length)=q by omega] at h1
    exact⟨_,h1,hgat _ g hj⟩
   |none =>
    rw[show (lo++gs.map gh1).getD q .gone = .gone by simp[Gqf,Gq3 (show lo.length≤q by omega),hl1,hj]]
    show H1 q = .nil
    rw[hH1]
    have:ρ[q]? = none:=List.getElem?_eq_none Aqa 
    simp only[this,hj]
 rw[←hvs]
 refine (hc w H1 F1 vs hok1 hobs1 hvl hargs1).mono ?_
 rintro e w' ⟨H2,F2,rv,rfl,hsi,hok2,hobs2,hres⟩
 -- the pieces that come back
 have hoL:∀ q,q<ρ.length→∃ ob,lo'[q]? = some ob∧ob.back=true∧RB w' H2 F2 q ob:=fun q hq=>by
  have hlq:lo'[q]? = some (lo'[q]' Aqa):=Gqg Aqa 
  have h1:=hobs2 q
  rw[show (lo'++(gs'.map gh1++new)).getD q .gone=lo'[q]' Aqa by simp[Gqf,Gq2 (show q<lo'.length by omega),hl2,hq]] at h1
  exact⟨_,hlq,Gqp.1 hb1 _ (Gqe _),h1⟩
 have hoG:∀ (j:Nat) (g:Nat×V2),gs'[j]? = some g→∃ v,H2 (ρ.length+j) = .gh g.1 v∧R2 w' H2 F2 g.2 v:=fun j g hj=>by
  have h1:=hobs2 (ρ.length+j)
  rw[show (lo'++(gs'.map gh1++new)).getD (ρ.length+j) .gone=gh1 g by
   have:j<(gs'.map gh1).length:=by simpa using Zj hj
   simp[Gqf,Gq3 (show lo'.length≤ρ.length+j by omega),hl2,Gq2 this,hj]] at h1
  exact h1
 have hoN:∀ r ob,new[r]? = some ob→RB w' H2 F2 (ρ.length+gs.length+r) ob:=fun r ob hj=>by
  have h1:=hobs2 (ρ.length+gs.length+r)
  rw[show (lo'++(gs'.map gh1++new)).getD (ρ.length+gs.length+r) .gone=ob by
   simp[Gqf,Gq3 (show lo'.length≤ρ.length+gs.length+r by omega),hl2,Gq3 (show (gs'.map gh1).length≤gs.length+r by simp[hl3]),show ρ.length+gs.length+r-ρ.length=gs.length+r by omega,hl3,hj]] at h1
  exact h1
 have hoX:∀ q,ρ.length+gs.length+new.length≤q→H2 q = .nil:=fun q hq=>by
  have h1:=hobs2 q
  rw[show (lo'++(gs'.map gh1++new)).getD q .gone = .gone by rw[Gqf,List.getElem?_eq_none Bqz]; rfl] at h1
  exact h1
 obtain⟨H',hH'⟩:∃ H':Hs,H'=fun p=>match idxN ρ p 0 with | some q=>H2 q | none=>if st.objs.length≤p then H2 (ρ.length+gs.length+(p-st.objs.length)) else H p:=⟨_,rfl⟩
 have b1:∀ q p,ρ[q]? = some p→H' p=H2 q:=fun q p hq=>by
  rw[hH']
  cases hi:idxN ρ p 0 with
  |some q' =>
   obtain⟨_,h2⟩:=idxN_ok ρ p 0 q' hi
   rw[Gx6] at h2
   simp only[hi]
   rw[hinj q q' p hq h2]
  |none=>exact absurd (Zk hq) (idxN_none ρ p 0 hi)
 have bn:∀ p,p∉ρ→idxN ρ p 0=none:=fun p hp=>by
  cases hi:idxN ρ p 0 with
  |none=>rfl
  |some q'=>exact absurd (Zk (idxN_ok ρ p 0 q' hi).2) hp
 have b2:∀ p,p∉ρ→p<st.objs.length→H' p=H p:=fun p hp hlt=>by
  rw[hH']
  simp only[bn p hp]
  rw[if_neg Aqa]
 have b3:∀ r,H' (st.objs.length+r)=H2 (ρ.length+gs.length+r):=fun r=>by
  have hp:st.objs.length+r∉ρ:=fun hm=>by have:=hltN _ hm; omega
  rw[hH']
  simp only[bn _ hp]
  rw[if_pos Aqa,Nat.add_sub_cancel_left]
 -- where each piece comes from
 have hcase:∀ p,(∃ q,H' p=H2 q∧(ρ[q]? = some p∨(st.objs.length≤p∧q=ρ.length+gs.length+(p-st.objs.length))))∨(p∉ρ∧p<st.objs.length∧H' p=H p):=fun p=>by
  by_cases hp:p∈ρ
  ·obtain⟨q,hq⟩:=List.getElem?_of_mem hp
   exact .inl ⟨q,b1 q p hq,.inl hq⟩
  ·rcases Gqr p st.objs.length with h1 | h1
   ·exact .inr ⟨hp,h1,b2 p hp h1⟩
   ·have h2:=b3 (p-st.objs.length)
    rw[show st.objs.length+(p-st.objs.length)=p by omega] at h2
    exact .inl ⟨_,h2,.inr ⟨h1,J⟩⟩
 have hfp2:∀ q b,b∈(H2 q).fp→(∃ p∈ρ,b∈(H p).fp)∨w.heap.size≤b:=fun q b hb=>by
  rcases hsi.org q b hb with ⟨q',h1⟩ | h1
  ·obtain⟨p,e1,e2⟩:=a3 q' b h1
   exact .inl ⟨p,Zk e1,e2⟩
  ·exact .inr h1
 have hblk:∀ b,b<w.heap.size→(∀ p∈ρ,b∉(H p).fp)→w'.heap[b]? = w.heap[b]? := fun b h1 h2=>hsi.keep b h1 fun q hq=>by
  obtain⟨p,e1,e2⟩:=a3 q b hq
  exact h2 p (Zk e1) e2
 have hold:∀ p b,p∉ρ→b∈(H p).fp→w'.heap[b]? = w.heap[b]? := fun p b hp hb=>hblk b (hr.ok.lt hb) fun r hr' hb'=>hp (hr.ok.disj p r b hb hb'▸hr')
 have hok':Ok w' H' F:=by
  refine⟨fun p=>?_,fun p=>?_,fun p r b h1 h2=>?_,fun p b h1 h2=>?_,fun b hb=>Gx2 (hr.ok.flt b hb) hsi.size⟩
  ·rcases hcase p with ⟨q,e,_⟩ | ⟨h1,_,e⟩
   ·rw[e]; exact hok2.says q
   ·rw[e]; exact Pc.frame (fun b hb=>hold p b h1 hb) (hr.ok.says p)
  ·rcases hcase p with ⟨q,e,_⟩ | ⟨_,_,e⟩
   ·rw[e]; exact hok2.nodup q
   ·rw[e]; exact hr.ok.nodup p
  ·rcases hcase p with ⟨q,e,hq⟩ | ⟨n1,l1,e⟩ <;> rcases hcase r with ⟨q',e',hq'⟩ | ⟨n2,l2,e'⟩ <;> rw[e] at h1 <;> rw[e'] at h2
   ·have:=hok2.disj q q' b h1 h2
    subst this
    rcases hq with hq | ⟨hq,hq2⟩ <;> rcases hq' with hq' | ⟨hq',hq2'⟩
    ·rw[hq] at hq'; exact Option.some.inj hq'
    ·have:=Zj hq; omega
    ·have:=Zj hq'; omega
    ·omega
   ·rcases hfp2 q b h1 with ⟨p',hp',hb'⟩ | hb'
    ·have:=hr.ok.disj p' r b hb' h2
     exact absurd (this▸hp') n2
    ·have:=hr.ok.lt h2; omega
   ·rcases hfp2 q' b h2 with ⟨p',hp',hb'⟩ | hb'
    ·have:=hr.ok.disj p' p b hb' h1
     exact absurd (this▸hp') n1
    ·have:=hr.ok.lt h1; omega
   ·exact hr.ok.disj p r b h1 h2
  ·rcases hcase p with ⟨q,e,_⟩ | ⟨_,_,e⟩ <;> rw[e] at h1
   ·rcases hfp2 q b h1 with ⟨p',hp',hb'⟩ | hb'
    ·exact hr.ok.free p' b hb' h2
    ·have:=hr.ok.flt b h2; omega
   ·exact hr.ok.free p b h1 h2
 have hng:∀ q,(q<ρ.length∨ρ.length+gs.length≤q)→∀ i v,H2 q ≠ .gh i v:=fun q hq i v e=>by
  rcases hq with hq | hq
  ·obtain⟨ob,_,h2,h3⟩:=hoL q hq
   exact (back_ng h2 h3).2 i v e
  ·rcases Gqr (q-(ρ.length+gs.length)) new.length with h1 | h1
   ·have h2:=hoN _ _ (Gqg h1)
    rw[show ρ.length+gs.length+(q-(ρ.length+gs.length))=q by omega] at h2
    exact (back_ng (Gqp.1 hb2 _ (Gqe h1)) h2).2 i v e
   ·rw[hoX q Aqa] at e; cases e
 have htn:Turn w H w' H' (ρ++(List.range new.length).map (st.objs.length+·)):=by
  refine⟨hsi.os,hsi.tape,hsi.output,hsi.size,fun b h1 h2=>hblk b h1 fun p hp=>h2 p (by simp[hp]),fun p hp=>?_,fun p b hb=>?_,fun p i v hp=>?_⟩
  ·simp only[Gqs,Gqv,List.mem_range,not_or] at hp
   rcases hcase p with ⟨q,e,hq⟩ | ⟨_,_,e⟩
   ·rcases hq with hq | ⟨hq,hq2⟩
    ·exact absurd (Zk hq) hp.1
    ·have h1:¬p-st.objs.length<new.length:=fun h=>hp.2 ⟨_,h,Aqa⟩
     rw[e,hoX q Aqa,hnilN p hq]
   ·exact e
  ·rcases hcase p with ⟨q,e,_⟩ | ⟨_,_,e⟩ <;> rw[e] at hb
   ·rcases hfp2 q b hb with ⟨p',_,hb'⟩ | hb'
    ·exact .inl ⟨p',hb'⟩
    ·exact .inr hb'
   ·exact .inl ⟨p,hb⟩
  ·rcases hcase p with ⟨q,e,hq⟩ | ⟨_,_,e⟩ <;> rw[e] at hp
   ·refine absurd hp (hng q ?_ i v)
    rcases hq with hq | ⟨_,hq⟩
    ·exact .inl (Zj hq)
    ·exact .inr Aqa 
   ·exact⟨p,hp⟩
 have hplace:∀ p∈kq.map (fun k=>ρ.getD ((plc k.2.2).getD 0) 0),Place (H p) (H' p):=by
  intro p hp
  obtain⟨k,hk,rfl⟩:=Gqv.1 hp
  obtain⟨jj,hjj⟩:=List.getElem?_of_mem hk
  have e1:=congrArg (·[jj]?) hk1
  have e2:=congrArg (·[jj]?) hk2
  have e3:=Gqp.1 hk3 k hk
  simp only[Gqk,hjj,Gq1,Option.some.injEq] at e1 e2
  obtain⟨g,g1,g2⟩:=Option.bind_eq_some_iff.1 e1
  rw[g1] at e2
  obtain⟨v,v1,v2⟩:=hoG k.1 g e2
  have hv:v=gv g.1:=by
   obtain⟨q',hq'⟩:=hsi.gh _ g.1 v v1
   rcases a4 q' g.1 v hq' with ⟨p',h1,h2⟩ | h1
   ·exact absurd h2 ((hgok p' (Zk h1)).2 _ _)
   ·exact h1
  have hent:=hgat _ g g1
  rw[←hv] at hent
  have hent:=R2.cell hent g2
  have v2:=R2.cell v2 g2
  cases hpl:plc k.2.2 with
  |none=>rw[hpl] at e3; cases e3
  | some q =>
   rw[hpl] at e3
   have hq:q<ρ.length:=Gqx e3
   have hqp:ρ[q]? = some (ρ.getD q 0):=by simp[Gqf,hq]
   simp only[Option.getD_some]
   rw[b1 q _ hqp,←a1 q _ hqp]
   cases hx:k.2.2 with
   |ref q' =>
    rw[hx] at hpl hent v2
    simp only[plc,Option.some.injEq] at hpl
    subst hpl
    obtain⟨x1,f1,k1⟩:=hent
    obtain⟨x2,f2,k2⟩:=v2
    exact .inl ⟨_,_,_,_,_,k1,k2⟩
   |ptr q' i =>
    rw[hx] at hpl hent v2
    simp only[plc,Option.some.injEq] at hpl
    subst hpl
    obtain⟨g3,t3,vs3,k1,k2⟩:=hent
    obtain⟨g4,t4,vs4,k3,k4⟩:=v2
    rw[k2] at k4
    simp only[Value.pointer.injEq,Option.some.injEq,Addr.mk.injEq] at k4
    obtain⟨rfl,_⟩:=k4
    exact .inr ⟨_,_,_,_,_,k1,k3⟩
   |_=>rw[hx] at hpl; cases hpl
 have hpl:∀ q,H2 q ≠ .nil→(∀ i v,H2 q ≠ .gh i v)→H' (phi ρ gs.length st.objs.length q)=H2 q:=fun q h1 h2=>by
  unfold phi
  split
  ·rename_i hq
   have hq:=Gqx hq
   exact b1 q _ (by simp[Gqf,show q<ρ.length by omega])
  ·rename_i hq
   have hq:ρ.length≤q:=Nat.le_of_not_lt fun hlt=>by rw[show Nat.blt q ρ.length=true from Nat.ble_eq_true_of_le hlt] at hq; cases hq
   have hq2:ρ.length+gs.length≤q:=by
    refine Nat.le_of_not_lt fun hlt=>?_
    have hj:q-ρ.length<gs'.length:=Aqa
    obtain⟨v,v1,_⟩:=hoG (q-ρ.length) _ (Gqg hj)
    rw[show ρ.length+(q-ρ.length)=q by omega] at v1
    exact h2 _ _ v1
   rw[b3,show ρ.length+gs.length+(q-(ρ.length+gs.length))=q by omega]
 have hR:=hr.mapk (V1.killw (ρ++(List.range new.length).map (st.objs.length+·)) (kq.map fun k=>ρ.getD ((plc k.2.2).getD 0) 0)) (fun x v hx=>R1.killw hr.ok htn hplace hx) hok'
  (setL (st.objs.map (Ob.mapk (V1.killw (ρ++(List.range new.length).map (st.objs.length+·)) (kq.map fun k=>ρ.getD ((plc k.2.2).getD 0) 0)))) ρ (lo'.map (Ob.ren (phi ρ gs.length st.objs.length)))++new.map (Ob.ren (phi ρ gs.length st.objs.length))) (fun p=>?_)
 ·have hR2:=hR.put (x:=res.ren (phi ρ gs.length st.objs.length)) o.dst hd (v:=rv) (plantwV hpl hcl hres)
  exact hK _ _ (h.h _ _ ⟨_,F,hR2,hsince.turn htn⟩)
 ·have hsl:(setL (st.objs.map (Ob.mapk (V1.killw (ρ++(List.range new.length).map (st.objs.length+·)) (kq.map fun k=>ρ.getD ((plc k.2.2).getD 0) 0)))) ρ (lo'.map (Ob.ren (phi ρ gs.length st.objs.length)))).length=st.objs.length:=by rw[setL_len]; simp
  rcases Gqr p st.objs.length with h1 | h1
  ·rw[Gqf,Gq2 (by rw[hsl]; exact h1),←Gqf]
   by_cases hp:p∈ρ
   ·obtain⟨q,hq⟩:=List.getElem?_of_mem hp
    obtain⟨ob,k1,k2,k3⟩:=hoL q (Zj hq)
    rw[setL_in ρ _ _ q p (ob.ren (phi ρ gs.length st.objs.length)) hnd (fun r hr'=>by simpa using hltN r hr') hq (by rw[Gqk,k1]; rfl)]
    exact plantwB hpl (b1 q p hq) k2 k3
   ·rw[setL_out ρ _ _ p hp,Gqf,Gqk,Gqg h1]
    have h2:=hr.obs p
    rw[Gqf,Gqg h1] at h2
    exact RB.mapk (fun x v hx=>R1.killw hr.ok htn hplace hx) (b2 p hp h1) h2
  ·rw[Gqf,Gq3 (by rw[hsl]; exact h1),hsl,Gqk]
   have h2:=b3 (p-st.objs.length)
   rw[show st.objs.length+(p-st.objs.length)=p by omega] at h2
   cases hn:new[p-st.objs.length]? with
   |none=>exact h2.trans (hoX _ (by have:=List.getElem?_eq_none_iff.1 hn; omega))
   |some ob=>exact plantwB hpl h2 (Gqp.1 hb2 ob (Zk hn)) (hoN _ ob hn)
theorem Xd {ts:List (Nat×V)} {obs:List Ob} {d:Nat} {f:FuncId} [hf:FunOk P f] {ass:Array Operand} {tys:Array TypeId} {args:List V2} {lo lo' new:List Ob} {gs:List (Nat×V2)} {res:V} (ρ:List Nat) (kq:List (Nat×Nat×V1)) (hc:Con P f (lo++gs.map gh1) args (lo'++(gs.map gh1++new)) res) (ho:o.op = .call { callee := .value (.func f),args:=ass,argTypes:=tys }) (hg:o.guard=none)
  (hd:o.dst=some d) (hl:Nat.blt d n=true) (hρ:nodupB ρ=true) (hlt:ρ.all (fun p=>Nat.blt p obs.length)=true) (hl1:lo.length=ρ.length) (hl2:lo'.length=ρ.length)
  (hlo:lo.map (Ob.ren (rho ρ obs.length))=ρ.map fun p=>obs.getD p .gone) (hgn:ρ.all (fun p=>(obs.getD p .gone).back || (match obs.getD p .gone with | .box _=>true | _=>false))=true) (ha:ass.toList.map (fun y=>lendw obs ρ (St.ev ⟨n,ts,obs⟩ y))=args)
  (hgs:gs.map (fun g=>gsrc args lo g.1)=gs.map (fun g=>some g.2)) (hk1:kq.map (fun k=>gs[k.1]?.bind fun g=>pickC g.2 k.2.1)=kq.map (fun k=>some k.2.2)) (hk3:kq.all (fun k=>match plc k.2.2 with | some q=>Nat.blt q ρ.length | none=>false)=true)
  (hcl:res.closed=true) (hb1:lo'.all Ob.back=true) (hb2:new.all Ob.back=true)
  (h:AL P E ops QQ rest ⟨n,(d,res.ren (phi ρ gs.length obs.length))::(ts.map fun e=>(e.1,e.2.mapk (V1.killw (ρ++(List.range new.length).map (obs.length+·)) (kq.map fun k=>ρ.getD ((plc k.2.2).getD 0) 0)))),
   setL (obs.map (Ob.mapk (V1.killw (ρ++(List.range new.length).map (obs.length+·)) (kq.map fun k=>ρ.getD ((plc k.2.2).getD 0) 0)))) ρ (lo'.map (Ob.ren (phi ρ gs.length obs.length)))++new.map (Ob.ren (phi ρ gs.length obs.length))⟩):AL P E ops QQ (o::rest) ⟨n,ts,obs⟩:=by
 have hk2:kq.map (fun k=>gs[k.1]?)=kq.map (fun k=>gs[k.1]?):=rfl
 exact L_lent (st:=⟨n,ts,obs⟩) ρ kq ho hg hc hρ hlt hl1 hl2 J hlo hgn ha hgs hk1 hk2 hk3 hcl hb1 hb2 Bq8 Bq9
end
end
end Go.Proofs.YtalaljeokcpfnaaGreat
