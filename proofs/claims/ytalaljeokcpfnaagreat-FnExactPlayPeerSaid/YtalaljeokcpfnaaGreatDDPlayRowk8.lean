/-
  A statement whose order Go leaves open: operations that change nothing that was there may come in any order that their edges allow; the others follow in the order of the text. No statement of the program is proved here.
  Conditions: none.
-/
import Derived.Test.YtalaljeokcpfnaaGreatDDPlayRowk7
set_option linter.unusedSimpArgs false
set_option linter.unusedVariables false
namespace Go.Proofs.YtalaljeokcpfnaaGreat
section
open Go.RowKit

def pre (o:Oper):List Nat:=(o.after.toList.filter (Region.binds .any)).map (·.on)
def under (A:List (List Nat)) (ks:List Nat) (j:Nat):Bool:=ks.any fun k=>Nat.beq k j || (A.getD k []).any fun q=>Nat.beq q j
def allB (n:Nat) (f:Nat→Bool):Bool:=(List.range n).all f
theorem Yl {n:Nat} {f:Nat→Bool} (h:allB n f=true) {i:Nat} (hi:i<n):f i=true:=Gqp.1 h i Bxi
def preAt (ops:List Oper) (i:Nat):List Nat:=match ops[i]? with | some o=>pre o | none => []
def memN:List Nat→Nat→Bool
 | [],_=>false
 |x::xs,j=>match Nat.beq x j with
  |true=>true
  |false=>memN xs j
theorem Zs:∀ (xs:List Nat) (j:Nat),memN xs j=true↔j∈xs
 | [],j=>by simp[memN]
 | x::xs,j=>by
  rw[memN,List.mem_cons]
  split
  ·rename_i h
   have:=Gq8 h
   simp[this]
  ·rename_i h
   rw[Zs xs j]
   constructor
   ·intro h; exact .inr h
   ·rintro (e | h1)
    ·subst e; rw[show Nat.beq j j=true from Gxz j] at h; cases h
    ·exact h1
theorem memN_not {xs:List Nat} {j:Nat} (h:memN xs j=false):j∉xs:=fun hh=>by rw[(Zs xs j).2 hh] at h; cases h
def srcO:Op→Option (List Nat)
 | .move (.tmp t)=>some [t]
 | .extract (.tmp t) _=>some [t]
 | .fieldAddr _ (.tmp t) _=>some [t]
 | .indexAddr _ (.tmp t) (.tmp s)=>some [t,s]
 |_=>none
def srcP:Op→Bool
 | .move (.tmp _)=>true
 | .extract (.tmp _) _=>true
 |_=>false
def lateB (ops:List Oper) (A:List (List Nat)) (m:Nat):Bool:=match ops[m]? with
 | some o=>match srcO o.op,o.dst with
  |some t,some d=>o.guard.isNone && !memN t d&&allB ops.length fun j=>Nat.beq j m || match ops[j]? with
   |some oj=>oj.guard.isNone&&(t.all (fun t=>oj.dst != some t) || memN (A.getD m []) j)&&oj.dst != some d&&(memN (A.getD j []) m || blindO d oj.op)
   |none=>true
  |_,_=>false
 |none=>false
def drawG (ops:List Oper) (A S M:List (List Nat)) (n:Nat) (f:Nat→Bool):Bool :=
 allB ops.length (fun i=>(A.getD i []).all (fun j=>under A (preAt ops i) j)&&(preAt ops i).all (fun k=>Nat.blt k i)) &&
 allB ops.length (fun t=>Nat.blt t n || allB t (fun j=>memN (A.getD t []) j || memN (M.getD ops.length []) j || (Nat.beq t n&&f j))) &&
 allB n (fun i=>allB n fun j=>Nat.beq i j || ((ops[i]?).bind (·.dst) != (ops[j]?).bind (·.dst))) &&
 allB n (fun i=>allB ops.length fun j=>memN (A.getD j []) i || Nat.beq i j || match (ops[j]?).bind (·.dst) with
  |some d=>match memN (S.getD i []) d with
   |true=>memN (A.getD i []) j&&Nat.blt j n
   |false=>memN (M.getD i []) d
  |none=>true) &&
 (M.getD ops.length []).all (fun m=>Nat.blt m n&&lateB ops A m)
def drawC (ops:List Oper) (A S M:List (List Nat)) (n s:Nat):Bool:=drawG ops A S M n fun j=>Nat.beq j s
def drawB (ops:List Oper) (A S M:List (List Nat)) (n:Nat):Bool:=drawC ops A S M n ops.length
def lateL (ops:List Oper) (M:List (List Nat)) (L:List Nat):Bool:=(M.getD ops.length []).all fun m=>L.all fun s => !memN (preAt ops m) s && !Nat.beq m s
def subs:List Nat→List (List Nat)
 | [] => [[]]
 |x::xs=>subs xs++(subs xs).map (x::·)
theorem filter_subs (f:Nat→Bool):∀ (L:List Nat),L.filter f∈subs L
 | []=>by simp[subs]
 |x::xs=>by
  have h:=filter_subs f xs
  rw[List.filter_cons,subs,Gqs]
  split
  ·exact .inr (Gqv.2 ⟨_,h,rfl⟩)
  ·exact .inl h
def AllX (F:List Nat→Prop):List (List Nat)→Prop
 | []=>True
 |x::xs=>F x∧AllX F xs
theorem AllX.mem {F:List Nat→Prop}:∀ {l:List (List Nat)},AllX F l→∀ x∈l,F x
 |y::ys,h,x,hx=>by
  rcases List.mem_cons.1 hx with rfl | hx
  ·exact h.1
  ·exact AllX.mem h.2 x hx
def lmiss (N n:Nat) (X:List Nat):Array Bool:=((List.range N).map fun j=>Nat.ble j n && !memN X j).toArray
def fuelL (n:Nat) (X:List Nat) (k:Nat):Nat:=((List.range n).filter fun j=>memN X j).length+k
structure DAL (P:Program) (E:Env) (l:List Oper) (Q:Exit→St→Prop) (f:Nat) (listed:Array Bool) (st:St):Prop where
 h:∀ a w,Rel E st a w→wpAny P .any l.toArray (fun e a' w'=>∃ st',Q e st'∧Rel E st' a' w') f listed a w

structure Hd where
 d:Nat
 x:V
 obs:List Ob
 lx:Bool
def lxB (l:List Oper) (M:List (List Nat)) (hs:List Hd):Bool:=(M.getD l.length []).all fun m=>match l[m]?,hs[m]? with
 |some o,some h=>srcP o.op || h.lx
 |_,_=>false
def hdE (ks:List Nat) (r:List (Nat×V)):List Hd→List (Nat×V)
 | []=>r
 |h::hs=>match memN ks h.d with
  |true=>(h.d,h.x)::hdE ks r hs
  |false=>hdE ks r hs
def mskT (ts:List (Nat×V)):List Nat→List (Nat×V)
 | []=>ts
 |d::ds=>(d,U)::mskT ts ds
def hdO (ks:List Nat):List Hd→List Ob→List Ob
 | [],acc=>acc
 |h::r,acc=>hdO ks r ((match memN ks h.d with | true=>h.obs | false=>h.obs.map fun _ => .hole)++acc)
def holes:List Ob:=List.replicate 64 .hole
def finR (ts:List (Nat×V)):List Hd→List (Nat×V)
 | []=>ts
 |h::r=>(h.d,h.x)::finR ts r
def allR:List Hd→List Ob→List Ob
 | [],acc=>acc
 |h::r,acc=>allR r (h.obs++acc)
def allO:List Hd→List Ob
 | [] => []
 |h::r=>h.obs++allO r

def missT (hs:List Hd):List Nat→List (Nat×V)→List (Nat×V)
 | [],ts=>ts
 |s::X,ts=>(match hs[s]? with | some h=>h.d | none=>0,U)::missT hs X ts
def noObs (hs:List Hd) (L:List Nat):Bool:=L.all fun s=>match hs[s]? with | some h=>h.obs.isEmpty | none=>false
def LX (P:Program) (o:Oper) (st:St):Prop:=∀ (a:Act) (w:World) (H:Hs) (F:Nat→Prop),R0 w H F st a→∃ u,∀ w2,(execOp a.eval o).run P w2 = .ok (.value u) w2
inductive DR (P:Program) (E:Env) (l:List Oper) (A S M:List (List Nat)) (Q:Exit→St→Prop) (N:Nat) (ts:List (Nat×V)) (obs:List Ob):List (List Nat)→List (List Nat)→List Hd→Nat→Nat→List Oper→Prop
 |stop {aS mS:List (List Nat)} {done:List Hd} {k c:Nat} {tail:List Oper} (hn:(drawB l A S M k&&lxB l M done.reverse)=true) (hm:Nat.ble c 64=true) (h:AL P E l.toArray Q tail ⟨N,finR ts done,obs++allR done []⟩):DR P E l A S M Q N ts obs aS mS done k c tail
 |late (L:List Nat) {aS mS:List (List Nat)} {done:List Hd} {k c:Nat} {o:Oper} {tl:List Oper} (hn:(((drawG l A S M k (memN L)&&lateL l M L)&&lxB l M done.reverse)&&noObs done.reverse L)=true) (hm:Nat.ble c 64=true) (h:AllX (fun X=>AL P E l.toArray (thn (DAL P E l Q (fuelL k X tl.length) (lmiss l.length k X)) Q) [o] ⟨N,missT done.reverse X (finR ts done),obs++allR done []⟩) (subs L)):DR P E l A S M Q N ts obs aS mS done k c (o::tl)
 | s {a m:List Nat} {aS mS:List (List Nat)} {done:List Hd} {k c:Nat} {o:Oper} {rest:List Oper} {d:Nat} {x:V} {obs1:List Ob} (hq:Qt P l.toArray o ⟨N,hdE a (mskT ts m) done,obs++hdO a done holes⟩ x obs1 (obs.length+c)) (hd:o.dst=some d) (hl:Nat.blt d N=true)
   (h:DR P E l A S M Q N ts obs aS mS (⟨d,x,obs1,false⟩::done) (k+1) (c+obs1.length) rest):DR P E l A S M Q N ts obs (a::aS) (m::mS) done k c (o::rest)
 | stepL {a m:List Nat} {aS mS:List (List Nat)} {done:List Hd} {k c:Nat} {o:Oper} {rest:List Oper} {d:Nat} {x:V} {obs1:List Ob} (hq:Qt P l.toArray o ⟨N,hdE a (mskT ts m) done,obs++hdO a done holes⟩ x obs1 (obs.length+c)∧LX P o ⟨N,hdE a (mskT ts m) done,obs++hdO a done holes⟩) (hd:o.dst=some d) (hl:Nat.blt d N=true)
   (h:DR P E l A S M Q N ts obs aS mS (⟨d,x,obs1,true⟩::done) (k+1) (c+obs1.length) rest):DR P E l A S M Q N ts obs (a::aS) (m::mS) done k c (o::rest)

def DEnd (P:Program) (E:Env) (l:List Oper) (A S M:List (List Nat)) (Q:Exit→St→Prop) (N:Nat) (ts:List (Nat×V)) (obs:List Ob) (hs:List Hd) (tail:List Oper):Prop :=
 (drawB l A S M hs.length=true∧AL P E l.toArray Q tail ⟨N,finR ts hs.reverse,obs++allO hs⟩)∨∃ L o tl,drawG l A S M hs.length (memN L)=true∧lateL l M L=true∧noObs hs L=true∧tail=o::tl∧∀ X∈subs L,AL P E l.toArray (thn (DAL P E l Q (fuelL hs.length X tl.length) (lmiss l.length hs.length X)) Q) [o] ⟨N,missT hs X (finR ts hs.reverse),obs++allO hs⟩
section
variable {P:Program} {E:Env} {l:List Oper} {A S M:List (List Nat)} {Q:Exit→St→Prop} {N:Nat} {ts:List (Nat×V)} {obs:List Ob}

theorem Up {aS mS:List (List Nat)} {done:List Hd} {k c:Nat} {tail:List Oper} (h:AL P E l.toArray Q tail ⟨N,finR ts done,obs++allR done []⟩) (hn:(drawB l A S M k&&lxB l M done.reverse)=true:=by kernel_rfl) (hm:Nat.ble c 64=true:=by kernel_rfl):DR P E l A S M Q N ts obs aS mS done k c tail := .stop hn hm h
theorem Uq {a m:List Nat} {aS mS:List (List Nat)} {done:List Hd} {k c:Nat} {o:Oper} {rest:List Oper} {d:Nat} {x:V} {obs1:List Ob} (hq:Qt P l.toArray o ⟨N,hdE a (mskT ts m) done,obs++hdO a done holes⟩ x obs1 (obs.length+c)) (h:(o.dst,Nat.blt d N)=(some d,true)) (r:DR P E l A S M Q N ts obs aS mS (⟨d,x,obs1,false⟩::done) (k+1) (c+obs1.length) rest):DR P E l A S M Q N ts obs (a::aS) (m::mS) done k c (o::rest):=by
  simp only[Prod.mk.injEq] at h
  exact .s hq h.1 h.2 r
theorem allO_append:∀ (a b:List Hd),allO (a++b)=allO a++allO b
 | [],b=>rfl
 |h::a,b=>by simp[allO,allO_append a b]
theorem allR_eq:∀ (done:List Hd) (acc:List Ob),allR done acc=allO done.reverse++acc
 | [],acc=>rfl
 |h::done,acc=>by
  rw[allR,allR_eq done,List.reverse_cons,allO_append]
  simp[allO]
theorem finR_eq (ts:List (Nat×V)):∀ (done:List Hd),finR ts done=(done.map fun h=>(h.d,h.x))++ts
 | []=>rfl
 |h::done=>by rw[finR,finR_eq ts done]; rfl

theorem DR.out {aS mS:List (List Nat)} {done:List Hd} {k c:Nat} {rest:List Oper} (h:DR P E l A S M Q N ts obs aS mS done k c rest) (hk:k=done.length) (hc:c=(allO done.reverse).length):∃ hs:List Hd,∃ tail,done.reverse++hs.drop done.length=hs∧done.length≤hs.length∧rest=rest.take (hs.length-done.length)++tail∧(rest.take (hs.length-done.length)).length=hs.length-done.length ∧
  lxB l M hs=true∧(allO hs).length≤64∧DEnd P E l A S M Q N ts obs hs tail ∧
  ∀ (i:Nat) (o:Oper) (hd:Hd),done.length≤i→rest[i-done.length]? = some o→hs[i]? = some hd→∃ a m,aS[i-done.length]? = some a∧mS[i-done.length]? = some m∧o.dst=some hd.d∧hd.d<N∧Qt P l.toArray o ⟨N,hdE a (mskT ts m) (hs.take i).reverse,obs++hdO a (hs.take i).reverse holes⟩ hd.x hd.obs (obs.length+(allO (hs.take i)).length)∧(hd.lx=true→LX P o ⟨N,hdE a (mskT ts m) (hs.take i).reverse,obs++hdO a (hs.take i).reverse holes⟩):=by
 have key:∀ {b:Bool} {a m:List Nat} {aS mS:List (List Nat)} {done:List Hd} {k c:Nat} {o:Oper} {rest:List Oper} {d:Nat} {x:V} {obs1:List Ob},Qt P l.toArray o ⟨N,hdE a (mskT ts m) done,obs++hdO a done holes⟩ x obs1 (obs.length+c)∧(b=true→LX P o ⟨N,hdE a (mskT ts m) done,obs++hdO a done holes⟩)→o.dst=some d→Nat.blt d N=true →
   (∀ (_:k+1=((⟨d,x,obs1,b⟩:Hd)::done).length) (_:c+obs1.length=(allO ((⟨d,x,obs1,b⟩:Hd)::done).reverse).length),∃ hs:List Hd,∃ tail,((⟨d,x,obs1,b⟩:Hd)::done).reverse++hs.drop ((⟨d,x,obs1,b⟩:Hd)::done).length=hs∧((⟨d,x,obs1,b⟩:Hd)::done).length≤hs.length∧rest=rest.take (hs.length-((⟨d,x,obs1,b⟩:Hd)::done).length)++tail∧(rest.take (hs.length-((⟨d,x,obs1,b⟩:Hd)::done).length)).length=hs.length-((⟨d,x,obs1,b⟩:Hd)::done).length ∧
    lxB l M hs=true∧(allO hs).length≤64∧DEnd P E l A S M Q N ts obs hs tail ∧
    ∀ (i:Nat) (o:Oper) (hd:Hd),((⟨d,x,obs1,b⟩:Hd)::done).length≤i→rest[i-((⟨d,x,obs1,b⟩:Hd)::done).length]? = some o→hs[i]? = some hd→∃ a m,aS[i-((⟨d,x,obs1,b⟩:Hd)::done).length]? = some a∧mS[i-((⟨d,x,obs1,b⟩:Hd)::done).length]? = some m∧o.dst=some hd.d∧hd.d<N∧Qt P l.toArray o ⟨N,hdE a (mskT ts m) (hs.take i).reverse,obs++hdO a (hs.take i).reverse holes⟩ hd.x hd.obs (obs.length+(allO (hs.take i)).length)∧(hd.lx=true→LX P o ⟨N,hdE a (mskT ts m) (hs.take i).reverse,obs++hdO a (hs.take i).reverse holes⟩)) →
   k=done.length→c=(allO done.reverse).length→∃ hs:List Hd,∃ tail,done.reverse++hs.drop done.length=hs∧done.length≤hs.length∧o::rest=(o::rest).take (hs.length-done.length)++tail∧((o::rest).take (hs.length-done.length)).length=hs.length-done.length ∧
  lxB l M hs=true∧(allO hs).length≤64∧DEnd P E l A S M Q N ts obs hs tail ∧
  ∀ (i:Nat) (o':Oper) (hd:Hd),done.length≤i→(o::rest)[i-done.length]? = some o'→hs[i]? = some hd→∃ a' m',(a::aS)[i-done.length]? = some a'∧(m::mS)[i-done.length]? = some m'∧o'.dst=some hd.d∧hd.d<N∧Qt P l.toArray o' ⟨N,hdE a' (mskT ts m') (hs.take i).reverse,obs++hdO a' (hs.take i).reverse holes⟩ hd.x hd.obs (obs.length+(allO (hs.take i)).length)∧(hd.lx=true→LX P o' ⟨N,hdE a' (mskT ts m') (hs.take i).reverse,obs++hdO a' (hs.take i).reverse holes⟩):=by
  intro b a m aS mS done k c o rest d x obs1 hq hd hl ih hk hc
  subst hk hc
  obtain⟨hs,tail,h1,h2,h3,h3',h4,h5,h6,h7⟩:=ih rfl (by simp[allO_append,allO])
  have hlen:((⟨d,x,obs1,b⟩:Hd)::done).length=done.length+1:=Aqd
  rw[hlen] at h1 h2 h3 h3' h7
  rw[List.reverse_cons] at h1
  have hat:hs[done.length]? = some ⟨d,x,obs1,b⟩:=by
   rw[←h1,Gqz,Gq3 Aqd]
   simp
  have htk:hs.take done.length=done.reverse:=by
   rw[←h1,Gqz,show done.length=done.reverse.length by simp,List.take_left]
  refine⟨hs,tail,?_,Aqa,?_,?_,h4,h5,h6,fun i o' hd' h8 h9 h10 => ?_⟩
  ·conv=>rhs; rw[←Gxq done.length hs,htk]
  ·rw[show hs.length-done.length=(hs.length-(done.length+1))+1 by omega,List.take_succ_cons,List.cons_append,←h3]
  ·rw[show hs.length-done.length=(hs.length-(done.length+1))+1 by omega,List.take_succ_cons,Gqw,h3']
  ·rcases Nat.eq_or_lt_of_le h8 with e | e
   ·subst e
    rw[Gx8] at h9 ⊢
    simp only[Gxf,Option.some.injEq] at h9
    subst h9
    rw[hat] at h10
    simp only[Option.some.injEq] at h10
    subst h10
    rw[htk,List.reverse_reverse]
    exact⟨a,m,J,J,hd,Gqx hl,hq⟩
   ·have h11:i-done.length=(i-(done.length+1))+1:=Aqa
    rw[h11,Gxw] at h9 ⊢
    rw[Gxw]
    exact h7 i o' hd' Aqa h9 h10
 induction h with
 | stop hn hm h =>
  rename_i aS mS done k c tail
  subst hk hc
  rw[Gqh] at hn
  refine⟨done.reverse,tail,Aqd,Aqd,Aqd,Aqd,hn.2,Gqx hm,.inl ⟨by simpa using hn.1,?_⟩,fun i o hd h1 _ h3=>?_⟩
  ·rw[List.reverse_reverse]
   rw[allR_eq,Gqy] at h
   exact h
  ·have:=Zj h3
   simp at this
   omega
 | late L hn hm h =>
  rename_i aS mS done k c o tl
  subst hk hc
  simp only[Gqh] at hn
  rw[allR_eq,Gqy] at h
  refine⟨done.reverse,o::tl,Aqd,Aqd,Aqd,Aqd,hn.1.2,Gqx hm,.inr ⟨L,o,tl,by simpa using hn.1.1.1,hn.1.1.2,hn.2,J,fun X hX=>?_⟩,fun i o hd h1 _ h3=>?_⟩
  ·rw[List.reverse_reverse,List.length_reverse]; exact h.mem X hX
  ·have:=Zj h3
   simp at this
   omega
 |s hq hd hl h ih=>exact key (b:=false) ⟨hq,fun e=>by cases e⟩ hd hl ih hk hc
 |stepL hq hd hl h ih=>exact key (b:=true) ⟨hq.1,fun _=>hq.2⟩ hd hl ih hk hc

def Lst (listed:Array Bool) (j:Nat):Prop:=listed.getD j false=true
structure RS (w:World) (H:Hs) (F:Nat→Prop) (N:Nat) (ts:List (Nat×V)) (obs:List Ob) (hs:List Hd) (S:Nat→Prop) (a:Act):Prop where
 ok:Ok w H F
 old:∀ p ob,obs[p]? = some ob→RB w H F p ob
 new:∀ (j:Nat) (h:Hd) (q:Nat) (ob:Ob),S j→hs[j]? = some h→h.obs[q]? = some ob→RB w H F (obs.length+(allO (hs.take j)).length+q) ob
 nil:∀ (j:Nat) (h:Hd) (q:Nat),¬S j→hs[j]? = some h→q<h.obs.length→H (obs.length+(allO (hs.take j)).length+q) = .nil
 out:∀ p,obs.length+(allO hs).length≤p→H p = .nil
 told:∀ d,(∀ (j:Nat) (h:Hd),S j→hs[j]? = some h→h.d≠d)→RV w H F (look ts d) (a.tmps.getD d undef)
 tnew:∀ (j:Nat) (h:Hd),S j→hs[j]? = some h→RV w H F h.x (a.tmps.getD h.d undef)
 size:N=a.tmps.size
 defers:a.defers = []

theorem look_append (l1 l2:List (Nat×V)) (d:Nat):(look (l1++l2) d=look l1 d∧∃ x,(d,x)∈l1∧look l1 d=x)∨(look (l1++l2) d=look l2 d∧∀ x,(d,x)∉l1):=by
 induction l1 with
 |nil=>exact .inr ⟨rfl,Aqd⟩
 | cons e l1 ih =>
  obtain⟨e1,e2⟩:=e
  rw[List.cons_append,Zq,Zq]
  by_cases h:e1=d
  ·subst h
   rw[if_pos rfl,if_pos rfl]
   exact .inl ⟨J,e2,Aqd,J⟩
  ·rw[if_neg h,if_neg h]
   rcases ih with ⟨h1,x,h2,h3⟩ | ⟨h1,h2⟩
   ·exact .inl ⟨h1,x,by simp[h2],h3⟩
   ·exact .inr ⟨h1,fun x hx=>by
     rcases List.mem_cons.1 hx with e | e
     ·cases e; exact h rfl
     ·exact h2 x e⟩

theorem seg_le {hs:List Hd} {j j':Nat} {h:Hd} (hj:hs[j]? = some h) (hlt:j<j'):(allO (hs.take j)).length+h.obs.length≤(allO (hs.take j')).length:=by
 have h1:hs.take j'=hs.take j++(hs.take j').drop j:=by
  conv=>lhs; rw[←Gxq j (hs.take j')]
  rw[List.take_take,Nat.min_eq_left (Nat.le_of_lt hlt)]
 have h2:(hs.take j').drop j=h::(hs.take j').drop (j+1):=by
  have hjl:=Zj hj
  rw[Gxr Bqz]
  congr 1
  have:=(Gqo.1 hj).2
  simpa using this
 rw[h1,h2,allO_append,allO,Gql,Gql]
 omega
theorem seg_tot {hs:List Hd} {j:Nat} {h:Hd} (hj:hs[j]? = some h):(allO (hs.take j)).length+h.obs.length≤(allO hs).length:=by
 have:=seg_le hj (Zj hj)
 rwa[Gxs] at this
theorem allO_at:∀ (hs:List Hd) (q:Nat) (ob:Ob),(allO hs)[q]? = some ob→∃ j h r,hs[j]? = some h∧h.obs[r]? = some ob∧q=(allO (hs.take j)).length+r
 | [],q,ob,h=>by simp[allO] at h
 | h::hs,q,ob,he=>by
  rw[allO,List.getElem?_append] at he
  split at he
  ·exact⟨0,h,q,rfl,he,by simp[allO]⟩
  ·obtain⟨j,h',r,h1,h2,h3⟩:=allO_at hs _ ob he
   exact⟨j+1,h',r,by simpa using h1,h2,by rw[List.take_succ_cons,allO,Gql]; omega⟩
def hdF (ks:List Nat):List Hd→List Ob
 | [] => []
 |h::r=>(match memN ks h.d with | true=>h.obs | false=>h.obs.map fun _ => .hole)++hdF ks r
theorem hdF_append (ks:List Nat):∀ (a b:List Hd),hdF ks (a++b)=hdF ks a++hdF ks b
 | [],b=>rfl
 |h::a,b=>by simp[hdF,hdF_append ks a b]
theorem hdO_eq (ks:List Nat):∀ (done:List Hd) (acc:List Ob),hdO ks done acc=hdF ks done.reverse++acc
 | [],acc=>rfl
 |h::done,acc=>by
  rw[hdO,hdO_eq ks done,List.reverse_cons,hdF_append]
  simp[hdF]
theorem hdF_at (ks:List Nat):∀ (hs:List Hd) (q:Nat) (ob:Ob),(hdF ks hs)[q]? = some ob→ob = .hole∨∃ j h r,hs[j]? = some h∧memN ks h.d=true∧h.obs[r]? = some ob∧q=(allO (hs.take j)).length+r
 | [],q,ob,h=>by simp[hdF] at h
 | h::hs,q,ob,he=>by
  have hlen:(match memN ks h.d with | true=>h.obs | false=>h.obs.map fun _=>Ob.hole).length=h.obs.length:=by split <;> simp
  rw[hdF,List.getElem?_append,hlen] at he
  split at he
  ·split at he
   ·rename_i hcA
    exact .inr ⟨0,h,q,J,hcA,he,by simp[allO]⟩
   ·rw[Gqk] at he
    obtain⟨_,_,rfl⟩:=Option.map_eq_some_iff.1 he
    exact .inl J
  ·rcases hdF_at ks hs _ ob he with h1 | ⟨j,h',r,h1,h2,h3,h4⟩
   ·exact .inl h1
   ·exact .inr ⟨j+1,h',r,by simpa using h1,h2,h3,by rw[List.take_succ_cons,allO,Gql]; omega⟩
theorem hdF_len (ks:List Nat):∀ (hs:List Hd),(hdF ks hs).length=(allO hs).length
 | []=>rfl
 |h::hs=>by
  have hlen:(match memN ks h.d with | true=>h.obs | false=>h.obs.map fun _=>Ob.hole).length=h.obs.length:=by split <;> simp
  rw[hdF,Gql,hlen,hdF_len ks hs,allO,Gql]
section ready
variable {ops:Array Oper} {listed:Array Bool}
theorem rdy {i:Nat} (hs:listed.size=ops.size):i∈Region.ready .any ops listed↔i<ops.size∧¬Lst listed i∧∀ k∈preAt ops.toList i,Lst listed k:=by
 unfold Region.ready
 rw[List.mem_filter,List.mem_range]
 constructor
 ·rintro⟨h1,h2⟩
  rw[Gqh] at h2
  obtain⟨h2,h3⟩:=h2
  refine⟨h1,fun hl=>?_,fun k hk=>?_⟩
  ·unfold Lst at hl
   rw[Gq5,Gxe Aqa] at hl h2
   simp at hl h2
   rw[hl] at h2
   cases h2
  ·have h4:ops[i]? = some ops[i]:=Gxe h1
   rw[h4] at h3
   simp only[Gq1,Option.getD_some] at h3
   unfold preAt at hk
   have h5:ops.toList[i]? = some ops[i]:=by simp[h1]
   rw[h5] at hk
   obtain⟨e,he,rfl⟩:=Gqv.1 hk
   obtain⟨he1,he2⟩:=List.mem_filter.1 he
   have h6:=Array.all_eq_true_iff_forall_mem.1 h3 e (by simpa using he1)
   rw[he2] at h6
   simpa[Lst] using h6
 ·rintro⟨h1,h2,h3⟩
  refine⟨h1,?_⟩
  rw[Gqh]
  constructor
  ·unfold Lst at h2
   rw[Gq5,Gxe Aqa] at h2 ⊢
   simpa using h2
  ·have h4:ops[i]? = some ops[i]:=Gxe h1
   rw[h4]
   simp only[Gq1,Option.getD_some]
   rw[Array.all_eq_true_iff_forall_mem]
   intro e he
   cases hb:Region.binds .any e with
   |false=>rfl
   | true =>
    have h5:ops.toList[i]? = some ops[i]:=by simp[h1]
    have h6:=h3 e.on (by
     unfold preAt
     rw[h5]
     exact Gqv.2 ⟨e,List.mem_filter.2 ⟨by simpa using he,hb⟩,J⟩)
    simpa[Lst] using h6
theorem Zr {i j:Nat} (hi:i<listed.size):Lst (listed.setIfInBounds i true) j↔Lst listed j∨j=i:=by
 unfold Lst
 by_cases e:i=j
 ·subst e
  simp[Gq5,hi]
 ·simp only[Gq5,Array.getElem?_setIfInBounds_ne e]
  constructor
  ·intro h; exact .inl h
  ·rintro (h | h)
   ·exact h
   ·exact absurd h.symm e
end ready

def Clo (l:List Oper) (listed:Array Bool):Prop:=∀ i,Lst listed i→∀ k∈preAt l i,Lst listed k

structure Chk (l:List Oper) (A S M:List (List Nat)) (n:Nat):Prop where
 anc:∀ i,i<l.length→∀ j∈A.getD i [],∃ k∈preAt l i,k=j∨j∈A.getD k []
 down:∀ i,i<l.length→∀ k∈preAt l i,k<i
 late:∀ m∈M.getD l.length [],m<n∧lateB l A m=true
 uniq:∀ i j,i<n→j<n→i≠j→(l[i]?).bind (·.dst)≠(l[j]?).bind (·.dst)
 msk:∀ i j d,i<n→j<l.length→i∉A.getD j []→i≠j→(l[j]?).bind (·.dst)=some d→(d∈S.getD i []∧j∈A.getD i []∧j<n)∨(memN (S.getD i []) d=false∧d∈M.getD i [])
def Tl (l:List Oper) (A M:List (List Nat)) (n:Nat):Prop:=∀ t,t<l.length→n≤t→∀ j,j<t→j∈A.getD t []∨j∈M.getD l.length []
theorem drawG_spec {n:Nat} {f:Nat→Bool} (h:drawG l A S M n f=true):Chk l A S M n∧∀ t,t<l.length→n≤t→∀ j,j<t→(j∈A.getD t []∨j∈M.getD l.length [])∨t=n∧f j=true:=by
 unfold drawG at h
 simp only[Gqh] at h
 obtain⟨⟨⟨⟨h1,h2⟩,h3⟩,h3'⟩,hlt⟩:=h
 refine⟨⟨fun i hi j hj=>?_,fun i hi k hk=>?_,fun m hm=>?_,fun i j hi hj hne=>?_,fun i j d hi hj hB hne hd=>?_⟩,fun t ht hn j hj=>?_⟩
 ·have h4:=Yl h1 hi
  rw[Gqh] at h4
  have h5:=Gqp.1 h4.1 j hj
  unfold under at h5
  obtain⟨k,hk,h6⟩:=List.any_eq_true.1 h5
  refine⟨k,hk,?_⟩
  rw[Gqq] at h6
  rcases h6 with h6 | h6
  ·exact .inl (Gq8 h6)
  ·obtain⟨q,hq,h7⟩:=List.any_eq_true.1 h6
   have:=Gq8 h7
   subst this
   exact .inr hq
 ·have h4:=Yl h1 hi
  rw[Gqh] at h4
  exact Gqx (Gqp.1 h4.2 k hk)
 ·have h4:=Gqp.1 hlt m hm
  rw[Gqh] at h4
  exact⟨Gqx h4.1,h4.2⟩
 ·have h4:=Yl (Yl h3 hi) hj
  rw[Gqq] at h4
  rcases h4 with h4 | h4
  ·exact absurd (Gq8 h4) hne
  ·simpa using h4
 ·have h4:=Yl (Yl h3' hi) hj
  rw[hd] at h4
  simp only[Gqq] at h4
  rcases h4 with (h4 | h4) | h4
  ·exact absurd ((Zs _ _).1 h4) hB
  ·exact absurd (Gq8 h4) hne
  ·split at h4
   ·rename_i hS
    rw[Gqh] at h4
    exact .inl ⟨(Zs _ _).1 hS,(Zs _ _).1 h4.1,Gqx h4.2⟩
   ·rename_i hS
    exact .inr ⟨hS,(Zs _ _).1 h4⟩
 ·have h4:=Yl h2 ht
  rw[Gqq] at h4
  rcases h4 with h4 | h4
  ·have:=Gqx h4; omega
  ·have h5:=Yl h4 hj
   rw[Gqq,Gqq,Gqh] at h5
   exact h5.imp (fun h=>h.imp (Zs _ _).1 (Zs _ _).1) fun h=>⟨Gq8 h.1,h.2⟩
theorem drawC_spec {n s:Nat} (h:drawC l A S M n s=true):Chk l A S M n∧∀ t,t<l.length→n≤t→∀ j,j<t→(j∈A.getD t []∨j∈M.getD l.length [])∨t=n∧j=s :=
 have h1:=drawG_spec h
 ⟨h1.1,fun t ht hn j hj=>(h1.2 t ht hn j hj).imp id fun h=>⟨h.1,Gq8 h.2⟩⟩
theorem drawB_spec {n:Nat} (h:drawB l A S M n=true):Chk l A S M n∧Tl l A M n :=
 have h1:=drawC_spec h
 ⟨h1.1,fun t ht hn j hj=>(h1.2 t ht hn j hj).resolve_right fun hh=>by omega⟩

theorem Yq {n:Nat} (hc:Chk l A S M n) {listed:Array Bool} (hcl:Clo l listed):∀ (i:Nat),i<l.length→(∀ k∈preAt l i,Lst listed k)→∀ j∈A.getD i [],Lst listed j∧j<i:=by
 intro i
 induction i using Nat.strongRecOn with
 | _ i ih =>
  intro hi hp j hj
  obtain⟨k,hk,h1⟩:=hc.anc i hi j hj
  have hki:=hc.down i hi k hk
  rcases h1 with rfl | h1
  ·exact⟨hp _ hk,hki⟩
  ·have h2:=ih k hki Aqa (hcl k (hp k hk)) j h1
   exact⟨h2.1,Aqa⟩
theorem min_ready {listed:Array Bool} {n:Nat} (hc:Chk l A S M n) (hs:listed.size=l.length):(∃ i,i<l.length∧¬Lst listed i)→∃ i,i<l.length∧¬Lst listed i∧∀ k∈preAt l i,Lst listed k:=by
 rintro⟨i,hi,hn⟩
 induction i using Nat.strongRecOn with
 | _ i ih =>
  by_cases h:∀ k∈preAt l i,Lst listed k
  ·exact⟨i,hi,hn,h⟩
  ·simp only[Classical.not_forall] at h
   obtain⟨k,hk,h1⟩:=h
   have hki:=hc.down i hi k hk
   exact ih k hki Aqa h1

theorem tail_any {n n':Nat} (hc:Chk l A S M n) (ht:Tl l A M n') {Q':Exit→Act→World→Prop}:∀ (tl:List Oper) (t:Nat) (listed:Array Bool) (a:Act) (w:World),n≤t→n'≤t→t+tl.length=l.length→tl=l.drop t→listed.size=l.length→(∀ j,j<l.length→(Lst listed j↔j<t))→Clo l listed →
  wpList P l.toArray Q' tl a w→wpAny P .any l.toArray Q' tl.length listed a w
 | [],t,listed,a,w,hnt,hnt',hlen,htl,hsz,hls,hcl,h=>by
  refine⟨?_,h⟩
  apply List.eq_nil_iff_forall_not_mem.2
  intro i hi
  obtain⟨h1,h2,_⟩:=(rdy (ops:=l.toArray) Bq7).1 hi
  simp at h1 hlen
  exact h2 ((hls i h1).2 Aqa)
 | o::tl,t,listed,a,w,hnt,hnt',hlen,htl,hsz,hls,hcl,h=>by
  have htlt:t<l.length:=by simp at hlen; omega
  have hcons:=htl
  rw[Gxr htlt] at hcons
  simp only[List.cons.injEq] at hcons
  obtain⟨ho,htl'⟩:=hcons
  have hdown:=hc.down t htlt
  have htr:t∈Region.ready .any l.toArray listed:=(rdy (ops:=l.toArray) Bq7).2 ⟨by simpa using htlt,fun hh=>by have:=(hls t htlt).1 hh; omega,fun k hk=>(hls k (by have:=hdown k hk; omega)).2 (hdown k hk)⟩
  refine⟨fun e=>by rw[e] at htr; simp at htr,fun i hi=>?_⟩
  obtain⟨h1,h2,h3⟩:=(rdy (ops:=l.toArray) Bq7).1 hi
  have h1':i<l.length:=by simpa using h1
  have hge:t≤i:=Nat.le_of_not_lt fun hh=>h2 ((hls i h1').2 hh)
  have hit:i=t:=by
   rcases Nat.eq_or_lt_of_le hge with e | e
   ·exact e.symm
   ·rcases ht i h1' Aqa t e with h5 | h5
    ·have h4:=(Yq hc hcl i h1' (by simpa using h3) t h5).1
     have:=(hls t htlt).1 h4
     omega
    ·have:=(hc.late t h5).1; omega
  subst hit
  have hoi:l.toArray[i]? = some o:=by
   rw[ho]
   simp[htlt]
  unfold wpOp
  simp only[hoi]
  have hrec:∀ a' w',wpList P l.toArray Q' tl a' w'→wpAny P .any l.toArray Q' tl.length (listed.setIfInBounds i true) a' w':=fun a' w' h'=>by
   refine tail_any hc ht tl (i+1) _ a' w' Aqa Aqa  (by simp at hlen ⊢; omega) htl' Bq7 (fun j hj=>?_) (fun j hj k hk=>?_) h'
   ·rw[Zr Aqa,hls j hj]
    omega
   ·rw[Zr Aqa] at hj ⊢
    rcases hj with hj | rfl
    ·exact .inl (hcl j hj k hk)
    ·exact .inl ((hls k (by have:=hdown k hk; omega)).2 (hdown k hk))
  unfold wpList at h
  split
  ·rename_i hw
   rw[if_pos hw] at h
   exact h.imp (Oper.wp_mono fun a' w' h'=>hrec a' w' h') id
  ·rename_i hw
   rw[if_neg hw] at h
   exact hrec _ _ h

structure Heads (P:Program) (l:List Oper) (A S M:List (List Nat)) (N:Nat) (ts:List (Nat×V)) (obs:List Ob) (hs:List Hd):Prop where
 chk:Chk l A S M hs.length
 max:(allO hs).length≤64
 le:hs.length≤l.length
 qt:∀ (i:Nat) (o:Oper) (h:Hd),l[i]? = some o→hs[i]? = some h→o.dst=some h.d∧h.d<N∧Qt P l.toArray o ⟨N,hdE (S.getD i []) (mskT ts (M.getD i [])) (hs.take i).reverse,obs++hdO (S.getD i []) (hs.take i).reverse holes⟩ h.x h.obs (obs.length+(allO (hs.take i)).length)
 lx:∀ (i:Nat) (o:Oper) (h:Hd),l[i]? = some o→hs[i]? = some h→h.lx=true→LX P o ⟨N,hdE (S.getD i []) (mskT ts (M.getD i [])) (hs.take i).reverse,obs++hdO (S.getD i []) (hs.take i).reverse holes⟩
 lt:lxB l M hs=true

section
variable {hs:List Hd} {w w':World} {H H':Hs} {F F':Nat→Prop} {a:Act}

theorem Heads.uniq (hh:Heads P l A S M N ts obs hs) {i j:Nat} {g h:Hd} (hi:hs[i]? = some g) (hj:hs[j]? = some h) (hne:i≠j):g.d≠h.d:=by
 have h1:=Zj hi
 have h2:=Zj hj
 have hle:=hh.le
 have h3:=hh.qt i _ g (Gqg (show i<l.length by omega)) hi
 have h4:=hh.qt j _ h (Gqg (show j<l.length by omega)) hj
 have h5:=hh.chk.uniq i j h1 h2 hne
 rw[Gqg (show i<l.length by omega),Gqg (show j<l.length by omega)] at h5
 simp only[Option.bind_some,h3.1,h4.1] at h5
 intro e
 exact h5 (by rw[e])

theorem RS.r0 (hh:Heads P l A S M N ts obs hs) {listed:Array Bool} (hsz:listed.size=l.length) (hcl:Clo l listed) (hr:RS w H F N ts obs hs (Lst listed) a) {i:Nat} {g:Hd} (hg:hs[i]? = some g) (hi:¬Lst listed i) (hp:∀ k∈preAt l i,Lst listed k) :
  R0 w H F ⟨N,hdE (S.getD i []) (mskT ts (M.getD i [])) (hs.take i).reverse,obs++hdO (S.getD i []) (hs.take i).reverse holes⟩ a:=by
 have hil:=Zj hg
 have hle:=hh.le
 have hanc:=Yq hh.chk hcl i Aqa hp
 -- what is leant on has come
 have hmem:∀ (j:Nat) (h:Hd),j<i→hs[j]? = some h→memN (S.getD i []) h.d=true→Lst listed j:=by
  intro j h hj hjh hm
  have h8:=hh.qt j _ h (Gqg (show j<l.length by omega)) hjh
  have hnd:i∉A.getD j []:=fun hb=>by
   by_cases hlj:∀ k∈preAt l j,Lst listed k
   ·exact hi (Yq hh.chk hcl j Aqa hlj i hb).1
   ·have:∀ q,q<l.length→∀ z∈A.getD q [],z<q:=by
     intro q
     induction q using Nat.strongRecOn with
     |_ q ih =>
      intro hq z hz
      obtain⟨k,hk,h1⟩:=hh.chk.anc q hq z hz
      have hkq:=hh.chk.down q hq k hk
      rcases h1 with rfl | h1
      ·exact hkq
      ·have:=ih k hkq Aqa z h1; omega
    have:=this j Aqa i hb
    omega
  rcases hh.chk.msk i j h.d hil Aqa hnd Aqa (by rw[Gqg (show j<l.length by omega)]; simp[h8.1]) with h1 | h1
  ·exact (hanc j h1.2.1).1
  ·rw[h1.1] at hm; cases hm
 refine⟨hr.ok,fun p=>?_,fun d=>?_,hr.size,hr.defers⟩
 ·rw[hdO_eq,List.reverse_reverse]
  show RB w H F p ((obs++(hdF (S.getD i []) (hs.take i)++holes)).getD p .gone)
  rcases Gqr p obs.length with h1 | h1
  ·rw[show (obs++(hdF (S.getD i []) (hs.take i)++holes)).getD p .gone=obs[p] by simp[Gqf,Gq2 h1,h1]]
   exact hr.old p _ (Gqg h1)
  ·rw[show (obs++(hdF (S.getD i []) (hs.take i)++holes)).getD p .gone=(hdF (S.getD i []) (hs.take i)++holes).getD (p-obs.length) .gone by simp[Gqf,Gq3 h1]]
   cases ho:(hdF (S.getD i []) (hs.take i)++holes)[p-obs.length]? with
   |none =>
    rw[Gqf,ho]
    refine hr.out p ?_
    have h2:=List.getElem?_eq_none_iff.1 ho
    have h3:holes.length=64:=by simp[holes]
    rw[Gql,hdF_len,h3] at h2
    have:=hh.max
    omega
   | some ob =>
    rw[Zi ho]
    rw[List.getElem?_append] at ho
    split at ho
    ·rcases hdF_at _ _ _ ob ho with rfl | ⟨j,h,r,h2,h3,h4,h5⟩
     ·trivial
     ·have hj:j<i:=by have:=Zj h2; simp at this; omega
      have h2':hs[j]? = some h:=by rwa[Gxh,if_pos hj] at h2
      rw[List.take_take,Nat.min_eq_left (Nat.le_of_lt hj)] at h5
      have h6:=hr.new j h r ob (hmem j h hj h2' h3) h2' h4
      rwa[show obs.length+(allO (hs.take j)).length+r=p by omega] at h6
    ·unfold holes at ho
     rw[List.getElem?_replicate] at ho
     split at ho
     ·simp only[Option.some.injEq] at ho
      subst ho
      trivial
     ·cases ho
 ·have key:∀ (done:List Hd) (r:List (Nat×V)),(∃ h∈done,memN (S.getD i []) h.d=true∧h.d=d∧look (hdE (S.getD i []) r done) d=h.x)∨(look (hdE (S.getD i []) r done) d=look r d∧∀ h∈done,memN (S.getD i []) h.d=true→h.d≠d):=by
   intro done
   induction done with
   |nil=>intro r; exact .inr ⟨rfl,fun h hj=>by simp at hj⟩
   | cons g' done ih =>
    intro r
    simp only[hdE]
    cases hm:memN (S.getD i []) g'.d with
    | true =>
     simp only
     rw[Zq]
     by_cases hd:g'.d=d
     ·rw[if_pos hd]
      exact .inl ⟨g',Aqd,hm,hd,J⟩
     ·rw[if_neg hd]
      rcases ih r with ⟨h,h1,h2,h3,h4⟩ | ⟨h1,h2⟩
      ·exact .inl ⟨h,by simp[h1],h2,h3,h4⟩
      ·refine .inr ⟨h1,fun h hj hmm=>?_⟩
       rcases List.mem_cons.1 hj with rfl | hj
       ·exact hd
       ·exact h2 h hj hmm
    | false =>
     simp only
     rcases ih r with ⟨h,h1,h2,h3,h4⟩ | ⟨h1,h2⟩
     ·exact .inl ⟨h,by simp[h1],h2,h3,h4⟩
     ·refine .inr ⟨h1,fun h hj hmm=>?_⟩
      rcases List.mem_cons.1 hj with rfl | hj
      ·rw[hm] at hmm; cases hmm
      ·exact h2 h hj hmm
  have key2:∀ (ds:List Nat),look (mskT ts ds) d=U∨(look (mskT ts ds) d=look ts d∧d∉ds):=by
   intro ds
   induction ds with
   |nil=>exact .inr ⟨rfl,Aqd⟩
   | cons e ds ih =>
    simp only[mskT]
    rw[Zq]
    by_cases hd:e=d
    ·rw[if_pos hd]; exact .inl rfl
    ·rw[if_neg hd]
     rcases ih with h | ⟨h1,h2⟩
     ·exact .inl h
     ·exact .inr ⟨h1,fun hh=>by
       rcases List.mem_cons.1 hh with h3 | h3
       ·exact hd h3.symm
       ·exact h2 h3⟩
  show RV w H F (look (hdE (S.getD i []) (mskT ts (M.getD i [])) (hs.take i).reverse) d) _
  rcases key (hs.take i).reverse (mskT ts (M.getD i [])) with ⟨h,h1,h2,h3,h4⟩ | ⟨h1,h2⟩
  ·rw[h4]
   obtain⟨j,hj⟩:=List.getElem?_of_mem (List.mem_reverse.1 h1)
   have hj':j<i:=by have:=Zj hj; simp at this; omega
   rw[Gxh,if_pos hj'] at hj
   have:=hr.tnew j h (hmem j h hj' hj h2) hj
   rwa[h3] at this
  ·rw[h1]
   rcases key2 (M.getD i []) with h3 | ⟨h3,h4⟩
   ·rw[h3]; trivial
   ·rw[h3]
    refine hr.told d fun j h hS hj e=>?_
    have hjl:=Zj hj
    have hji:j≠i:=fun e=>hi (e▸hS)
    by_cases hB:i∈A.getD j []
    ·exact hi (Yq hh.chk hcl j Aqa (hcl j hS) i hB).1
    ·have h8:=hh.qt j _ h (Gqg (show j<l.length by omega)) hj
     rcases hh.chk.msk i j d hil Aqa hB (Ne.symm hji) (by rw[Gqg (show j<l.length by omega)]; simp[h8.1,e]) with h9 | h9
     ·have hlt:=(hanc j h9.2.1).2
      exact h2 h (List.mem_reverse.2 (Zk (i:=j) (by rw[Gxh,if_pos hlt,hj]))) (by rw[e]; exact (Zs _ _).2 h9.1) e
     ·exact h4 h9.2

theorem rb_grow {p:Nat} {ob:Ob} (g:Grow w H F w' H' F') (hno:H p = .nil→H' p = .nil) (h:RB w H F p ob):RB w' H' F' p ob:=by
 by_cases hn:H p = .nil
 ·cases ob with
  |gone=>exact hno hn
  |hole=>trivial
  |box cs=>obtain⟨_,_,_,e,_⟩:=h; rw[hn] at e; cases e
  |row k es=>obtain⟨_,_,e⟩:=h; rw[hn] at e; cases e
  |gh i x=>obtain⟨_,e,_⟩:=h; rw[hn] at e; cases e
  |lk x y=>obtain⟨_,e,_⟩:=h; rw[hn] at e; cases e
 ·exact g.rb hn h

theorem RS.step (hh:Heads P l A S M N ts obs hs) {S':Nat→Prop} (hr:RS w H F N ts obs hs S' a) {i:Nat} {g:Hd} (hg:hs[i]? = some g) (hdN:g.d<N) {v:Value} (gr:Grow w H F w' H' F') (hok:Ok w' H' F')
  (hob:∀ q ob,g.obs[q]? = some ob→RB w' H' F' (obs.length+(allO (hs.take i)).length+q) ob) (hno:∀ p,H p = .nil→(p<obs.length+(allO (hs.take i)).length∨obs.length+(allO (hs.take i)).length+g.obs.length≤p)→H' p = .nil) (hv:RV w' H' F' g.x v) :
  RS w' H' F' N ts obs hs (fun j=>S' j∨j=i) (a.put (some g.d) v):=by
 have hap:∀ (j:Nat) (h:Hd),hs[j]? = some h→j≠i→∀ q,q<h.obs.length→H (obs.length+(allO (hs.take j)).length+q) = .nil→H' (obs.length+(allO (hs.take j)).length+q) = .nil:=by
  intro j h hj hne q hq hn
  refine hno _ hn ?_
  rcases Nat.lt_or_gt_of_ne hne with hlt | hlt
  ·have:=seg_le hj hlt; omega
  ·have:=seg_le hg hlt; omega
 have hsame:∀ d,d≠g.d→(a.put (some g.d) v).tmps.getD d undef=a.tmps.getD d undef:=fun d hd=>by
  simp[Act.put,Array.getElem?_setIfInBounds_ne (Ne.symm hd)]
 have hself:(a.put (some g.d) v).tmps.getD g.d undef=v:=by
  have:=hr.size
  simp[Act.put,show g.d<a.tmps.size by omega]
 refine⟨hok,fun p ob hp=>?_,fun j h q ob hS hj hq=>?_,fun j h q hS hj hq=>?_,fun p hp=>?_,fun d hd=>?_,fun j h hS hj=>?_,by simpa[Act.put] using hr.size,hr.defers⟩
 ·exact rb_grow gr (fun hn=>hno p hn (.inl (by have:=Zj hp; omega))) (hr.old p ob hp)
 ·by_cases e:j=i
  ·subst e
   rw[hj] at hg
   simp only[Option.some.injEq] at hg
   subst hg
   exact hob q ob hq
  ·rcases hS with hS | hS
   ·exact rb_grow gr (hap j h hj e q (Zj hq)) (hr.new j h q ob hS hj hq)
   ·exact absurd hS e
 ·have hne:j≠i:=fun e=>hS (.inr e)
  exact hap j h hj hne q hq (hr.nil j h q (fun h=>hS (.inl h)) hj hq)
 ·have:=seg_tot hg
  exact hno p (hr.out p hp) (.inr Aqa)
 ·have hdg:g.d≠d:=hd i g (.inr rfl) hg
  rw[hsame d (Ne.symm hdg)]
  exact gr.rv (hr.told d fun j h hS hj=>hd j h (.inl hS) hj)
 ·by_cases e:j=i
  ·subst e
   rw[hj] at hg
   simp only[Option.some.injEq] at hg
   subst hg
   rw[hself]
   exact hv
  ·rcases hS with hS | hS
   ·rw[hsame _ (hh.uniq hj hg e)]
    exact gr.rv (hr.tnew j h hS hj)
   ·exact absurd hS e

theorem look_missT (hs:List Hd) (T:List (Nat×V)) (d:Nat):∀ (X:List Nat),look (missT hs X T) d=U∨look (missT hs X T) d=look T d∧∀ s∈X,∀ h,hs[s]? = some h→h.d≠d
 | [] => .inr ⟨rfl,Aqd⟩
 | s::X=>by
  rw[missT,Zq]
  by_cases hne:(match hs[s]? with | some h=>h.d | none=>0)=d
  ·rw[if_pos hne]; exact .inl rfl
  ·rw[if_neg hne]
   rcases look_missT hs T d X with h | ⟨h1,h2⟩
   ·exact .inl h
   ·refine .inr ⟨h1,fun s' hs' h hh => ?_⟩
    rcases List.mem_cons.1 hs' with rfl | hs'
    ·rw[hh] at hne; exact hne
    ·exact h2 s' hs' h hh
theorem RS.finX (hh:Heads P l A S M N ts obs hs) {S':Nat→Prop} (hr:RS w H F N ts obs hs S' a) {X:List Nat} (hX:∀ s∈X,∀ g,hs[s]? = some g→g.obs = []) (hS:∀ j,j<hs.length→j∉X→S' j):R0 w H F ⟨N,missT hs X (finR ts hs.reverse),obs++allO hs⟩ a:=by
 refine⟨hr.ok,fun p=>?_,fun d=>?_,hr.size,hr.defers⟩
 ·show RB w H F p ((obs++allO hs).getD p .gone)
  rcases Gqr p obs.length with h1 | h1
  ·rw[show (obs++allO hs).getD p .gone=obs[p] by simp[Gqf,Gq2 h1,h1]]
   exact hr.old p _ (Gqg h1)
  ·rw[show (obs++allO hs).getD p .gone=(allO hs).getD (p-obs.length) .gone by simp[Gqf,Gq3 h1]]
   cases ho:(allO hs)[p-obs.length]? with
   |none =>
    rw[Gqf,ho]
    have h2:=List.getElem?_eq_none_iff.1 ho
    exact hr.out p Aqa 
   |some ob =>
    rw[Zi ho]
    obtain⟨j,h,r,h2,h3,h4⟩:=allO_at hs _ ob ho
    have h6:=hr.new j h r ob (hS j (Zj h2) fun e=>by rw[hX j e h h2] at h3; simp at h3) h2 h3
    rwa[show obs.length+(allO (hs.take j)).length+r=p by omega] at h6
 ·show RV w H F (look (missT hs X (finR ts hs.reverse)) d) _
  rcases look_missT hs (finR ts hs.reverse) d X with h0 | ⟨h0,hne⟩
  ·rw[h0]; trivial
  rw[h0,finR_eq]
  rcases look_append (hs.reverse.map fun h=>(h.d,h.x)) ts d with ⟨h1,x,h2,h3⟩ | ⟨h1,h2⟩
  ·rw[h1,h3]
   obtain⟨h,h4,h5⟩:=Gqv.1 h2
   simp only[Prod.mk.injEq] at h5
   obtain⟨rfl,rfl⟩:=h5
   obtain⟨j,hj⟩:=List.getElem?_of_mem (List.mem_reverse.1 h4)
   exact hr.tnew j h (hS j (Zj hj) fun e=>hne j e h hj J) hj
  ·rw[h1]
   exact hr.told d fun j h _ hj e=>h2 h.x (Gqv.2 ⟨h,List.mem_reverse.2 (Zk hj),by rw[e]⟩)
theorem RS.fin (hh:Heads P l A S M N ts obs hs) {S':Nat→Prop} (hr:RS w H F N ts obs hs S' a) (hS:∀ j,j<hs.length→S' j):R0 w H F ⟨N,finR ts hs.reverse,obs++allO hs⟩ a:=hr.finX hh (X := []) Aqd fun j hj _=>hS j hj
theorem cnt_set {n i:Nat} {listed:Array Bool} (hin:i<n) (hsz:i<listed.size) (h2:¬Lst listed i):((List.range n).filter fun j => !(listed.setIfInBounds i true).getD j false).length+1=((List.range n).filter fun j => !listed.getD j false).length:=by
 have h8:∀ (L:List Nat),L.Nodup→(L.filter fun j => !(listed.setIfInBounds i true).getD j false).length+(if i∈L then 1 else 0)=(L.filter fun j => !listed.getD j false).length:=by
  intro L hL
  induction L with
  |nil=>simp
  | cons b L ihL =>
   obtain⟨hb1,hb2⟩:=Gxi.1 hL
   have h9:=ihL hb2
   by_cases e:b=i
   ·subst e
    have hx1:(listed.setIfInBounds b true).getD b false=true:=(Zr (listed:=listed) (i:=b) (j:=b) Aqa).2 (.inr rfl)
    have hx2:listed.getD b false=false:=by
     cases hb:listed.getD b false
     ·rfl
     ·exact absurd hb h2
    rw[List.filter_cons,List.filter_cons,hx1,hx2]
    rw[if_neg hb1] at h9
    simp at h9 ⊢
    omega
   ·have hx:(listed.setIfInBounds i true).getD b false=listed.getD b false:=by
     simp[Gq5,Array.getElem?_setIfInBounds_ne (Ne.symm e)]
    rw[List.filter_cons,List.filter_cons,hx]
    have hmem:(i∈b::L)↔i∈L:=by simp[Ne.symm e]
    rw[show (if i∈b::L then 1 else 0)=(if i∈L then 1 else 0) by simp[hmem]]
    split
    ·simp only[Gqw]; omega
    ·exact h9
 have h9:=h8 (List.range n) List.nodup_range
 rwa[if_pos (by simpa using hin)] at h9
theorem lateB_spec {m:Nat} (h:lateB l A m=true):∃ o t d,l[m]? = some o∧srcO o.op=some t∧o.dst=some d∧o.guard=none∧d∉t ∧
  ∀ j oj,j≠m→l[j]? = some oj→oj.guard=none∧((∀ r∈t,oj.dst≠some r)∨j∈A.getD m [])∧oj.dst≠some d∧(m∈A.getD j []∨blindO d oj.op=true):=by
 unfold lateB at h
 split at h
 ·rename_i o hl
  split at h
  ·rename_i t d ho hd
   simp only[Gqh] at h
   obtain⟨⟨h1,h3⟩,h4⟩:=h
   refine⟨o,t,d,hl,ho,hd,by simpa using h1,memN_not (by simpa using h3),fun j oj hj hoj=>?_⟩
   ·have h5:=Yl h4 (Zj hoj)
    rw[hoj,Gqq] at h5
    rcases h5 with h5 | h5
    ·exact absurd (Gq8 h5) hj
    ·simp only[Gqh] at h5
     obtain⟨⟨⟨h6,h7⟩,h8⟩,h9⟩:=h5
     refine⟨by simpa using h6,?_,by simpa using h8,?_⟩
     ·rw[Gqq] at h7
      exact h7.imp (fun h t ht=>by simpa using Gqp.1 h t ht) (Zs _ _).1
     ·rw[Gqq] at h9
      exact h9.imp (Zs _ _).1 id
  ·cases h
 ·cases h
theorem srcO_exec {o:Oper} {t:List Nat} (h:srcO o.op=some t):∀ r r':Operand→Value,(∀ q∈t,r (.tmp q)=r' (.tmp q))→execOp r o=execOp r' o:=fun r r' e=>by
 unfold srcO at h
 split at h
 ·rename_i ho; cases h; simp only[execOp,ho,e _ (Gxd.2 rfl)]
 ·rename_i ho; cases h; simp only[execOp,ho,e _ (Gxd.2 rfl)]
 ·rename_i ho; cases h; simp only[execOp,ho,e _ (Gxd.2 rfl)]
 ·rename_i x y ho; cases h; simp only[execOp,ho,e x Aqd,e y Aqd]
 ·cases h
theorem srcO_run {o:Oper} (h:srcP o.op=true) (r:Operand→Value):(∃ v,∀ w,(execOp r o).run P w = .ok (.value v) w)∨∀ w,∃ x,(execOp r o).run P w = .halt (.stuck x) w:=by
 unfold srcP at h
 split at h
 ·rename_i t ho; exact .inl ⟨r (.tmp t),fun w=>by simp[execOp,ho]⟩
 ·rename_i t i ho
  simp only[execOp,ho,Instr.extract]
  cases r (.tmp t) with
  |tuple vs =>
   cases hi:vs[i]? with
   |some v=>exact .inl ⟨v,fun w=>by simp[hi]⟩
   |none=>exact .inr fun w=>⟨_,by simp[hi]; rfl⟩
  |_=>exact .inr fun w=>⟨_,rfl⟩
 ·cases h
theorem set_comm {x:Array Bool} {i j:Nat}:(x.setIfInBounds i true).setIfInBounds j true=(x.setIfInBounds j true).setIfInBounds i true:=by
 by_cases h:i=j
 ·rw[h]
 ·exact Array.setIfInBounds_comm _ _ h
theorem hoist {n:Nat} (hc:Chk l A S M n) {m d:Nat} {t:List Nat} {o:Oper} (hlm:l[m]? = some o) (ho:∀ r r':Operand→Value,(∀ q∈t,r (.tmp q)=r' (.tmp q))→execOp r o=execOp r' o) (hd:o.dst=some d) (hg:o.guard=none)
  (hot:∀ j oj,j≠m→l[j]? = some oj→oj.guard=none∧((∀ r∈t,oj.dst≠some r)∨j∈A.getD m [])∧oj.dst≠some d∧(m∈A.getD j []∨blindO d oj.op=true)) {Q':Exit→Act→World→Prop} (hQ:∀ c a w,¬Q' (.panic c) a w) :
  ∀ (f:Nat) (listed:Array Bool) (a:Act) (w:World) (u:Value),(∀ w,(execOp a.eval o).run P w = .ok (.value u) w)→listed.size=l.length→Clo l listed→¬Lst listed m→(∀ k∈preAt l m,Lst listed k)→wpAny P .any l.toArray Q' f (listed.setIfInBounds m true) (a.put (some d) u) w→wpAny P .any l.toArray Q' (f+1) listed a w:=by
 have hml:=Zj hlm
 have hmr:∀ (listed:Array Bool),listed.size=l.length→¬Lst listed m→(∀ k∈preAt l m,Lst listed k)→m∈Region.ready .any l.toArray listed:=fun listed hsz hm hp =>
  (rdy (ops:=l.toArray) Bq7).2 ⟨by simpa using hml,hm,by simpa using hp⟩
 have hmm:∀ (f:Nat) (listed:Array Bool) (a:Act) (w:World) (u:Value),(∀ w,(execOp a.eval o).run P w = .ok (.value u) w)→wpAny P .any l.toArray Q' f (listed.setIfInBounds m true) (a.put (some d) u) w→wpOp P l.toArray Q' m (wpAny P .any l.toArray Q' f (listed.setIfInBounds m true)) a w:=fun f listed a w u hu h=>by
  unfold wpOp
  have:l.toArray[m]? = some o:=by simp[hlm]
  rw[this]
  simp only[]
  rw[if_pos Bq6]
  refine .inl ?_
  unfold Oper.wp
  rw[hu w,Oper.upon_value,hd]
  exact h
 have hre:∀ (listed:Array Bool) (i:Nat),listed.size=l.length→i≠m→i∈Region.ready .any l.toArray listed→i∈Region.ready .any l.toArray (listed.setIfInBounds m true):=fun listed i hsz him hi=>by
  obtain⟨h1,h2,h3⟩:=(rdy (ops:=l.toArray) Bq7).1 hi
  refine (rdy (ops:=l.toArray) Bq7).2 ⟨h1,fun h=>?_,fun k hk=>(Zr Aqa).2 (.inl (h3 k hk))⟩
  rcases (Zr Aqa).1 h with h | h
  ·exact h2 h
  ·exact him h
 intro f
 induction f with
 | zero =>
  intro listed a w u hu hsz hcl hm hp h
  refine⟨fun e=>?_,fun i hi=>?_⟩
  ·have:=hmr listed hsz hm hp
   rw[e] at this
   simp at this
  ·by_cases him:i=m
   ·subst him
    exact hmm 0 listed a w u hu h
   ·have:=hre listed i hsz him hi
    rw[h.1] at this
    simp at this
 | succ f ih =>
  intro listed a w u hu hsz hcl hm hp h
  refine⟨fun e=>?_,fun i hi=>?_⟩
  ·have:=hmr listed hsz hm hp
   rw[e] at this
   simp at this
  ·by_cases him:i=m
   ·subst him
    exact hmm _ listed a w u hu h
   ·have h1:=h.2 i (hre listed i hsz him hi)
    obtain⟨k1,k2,k3⟩:=(rdy (ops:=l.toArray) Bq7).1 hi
    have k1':i<l.length:=by simpa using k1
    have hoi:l[i]? = some l[i]:=Gqg k1'
    obtain⟨g1,g2,g3,g4⟩:=hot i _ him hoi
    have hbl:blindO d (l[i]).op=true:=by
     rcases g4 with g4 | g4
     ·exact absurd (Yq hc hcl i k1' (by simpa using k3) m g4).1 hm
     ·exact g4
    have hoi':l.toArray[i]? = some l[i]:=by simp[k1']
    unfold wpOp at h1 ⊢
    rw[hoi'] at h1 ⊢
    simp only[] at h1 ⊢
    rw[if_pos (by unfold Region.wanted; rw[g1])] at h1 ⊢
    have g2:∀ r∈t,(l[i]).dst≠some r:=g2.resolve_right fun hh=>k2 (Yq hc hcl m hml hp i hh).1
    have he:execOp (a.put (some d) u).eval l[i]=execOp a.eval l[i]:=exec_blind hbl fun x hx=>eval_put hx
    refine h1.imp (wp_blind hQ hbl g3 fun v D w' hK2 => ?_) fun hh=>⟨?_,hh.2⟩
    ·refine ih _ _ w' u (fun w2=>?_) Bq7 (fun j hj k hk=>?_) (fun hh=>?_) (fun k hk=>(Zr Aqa).2 (.inl (hp k hk))) ?_
     ·rw[ho _ a.eval fun t ht=>eval_put_tmp (a:={ a with defers:=D }) (g2 t ht)]
      exact hu w2
     ·rw[Zr Aqa] at hj ⊢
      rcases hj with hj | rfl
      ·exact .inl (hcl j hj k hk)
      ·exact .inl (by simpa using k3 k hk)
     ·rcases (Zr Aqa).1 hh with hh | hh
      ·exact hm hh
      ·exact him hh.symm
     ·rw[set_comm]
      have e2:=put_comm' (a:={ a with defers:=D }) (u:=u) (v:=v) g3
      rw[←e2]
      exact hK2
    ·have h2:=hh.1
     unfold Oper.asks at h2 ⊢
     rw[he] at h2
     exact h2
theorem cut_allL {n:Nat} (hc:Chk l A S M n) {listed:Array Bool} (hcl:Clo l listed) (hnl:n≤l.length) (hnow:¬ ∃ x,x∈M.getD l.length []∧¬Lst listed x∧∀ k∈preAt l x,Lst listed k) {i:Nat} {f:Nat→Prop} (hi:i<l.length) (hp:∀ k∈preAt l i,Lst listed k) (hls:∀ m∈M.getD l.length [],∀ s∈preAt l m,¬f s) (ht:∀ j,j<n→¬f j→j∈A.getD i []∨j∈M.getD l.length []):∀ j,j<n→¬f j→Lst listed j:=by
 intro j
 induction j using Nat.strongRecOn with
 |_ j ihj =>
  intro hj hjs
  refine Classical.byContradiction fun hn=>?_
  rcases ht j hj hjs with h6 | h6
  ·exact hn (Yq hc hcl i hi hp j h6).1
  ·exact hnow ⟨j,h6,hn,fun k hk=>ihj k (hc.down j Aqa k hk) (by have:=hc.down j Aqa k hk; omega) (hls j h6 k hk)⟩
theorem cut_all {n:Nat} (hc:Chk l A S M n) {listed:Array Bool} (hcl:Clo l listed) (hnl:n≤l.length) (hnow:¬ ∃ x,x∈M.getD l.length []∧¬Lst listed x∧∀ k∈preAt l x,Lst listed k) {i s:Nat} (hi:i<l.length) (hp:∀ k∈preAt l i,Lst listed k) (hls:∀ m∈M.getD l.length [],s∉preAt l m) (ht:∀ j,j<n→j≠s→j∈A.getD i []∨j∈M.getD l.length []):∀ j,j<n→j≠s→Lst listed j :=
 cut_allL hc hcl hnl hnow (f:=fun j=>j=s) hi hp (fun m hm k hk e=>hls m hm (e▸hk)) ht
theorem head_any [hnp:NP Q] (hh:Heads P l A S M N ts obs hs) {tail:List Oper} 
  (hcut:∀ (m:Nat) (listed:Array Bool) (a:Act) (w:World) (H:Hs) (F:Nat→Prop),listed.size=l.length→Clo l listed→(∀ t,hs.length≤t→t<l.length→¬Lst listed t)→RS w H F N ts obs hs (Lst listed) a→Since E w H F→m+1=((List.range hs.length).filter fun j => !listed.getD j false).length →
   (¬ ∃ x,x∈M.getD l.length []∧¬Lst listed x∧∀ k∈preAt l x,Lst listed k)→∀ i,hs.length≤i→i<l.length→(∀ k∈preAt l i,Lst listed k)→wpOp P l.toArray (fun e a' w'=>∃ st',Q e st'∧Rel E st' a' w') i (wpAny P .any l.toArray (fun e a' w'=>∃ st',Q e st'∧Rel E st' a' w') (m+tail.length) (listed.setIfInBounds i true)) a w)
  (hdone:∀ (listed:Array Bool) (a:Act) (w:World) (H:Hs) (F:Nat→Prop),listed.size=l.length→Clo l listed→(∀ t,hs.length≤t→t<l.length→¬Lst listed t)→RS w H F N ts obs hs (Lst listed) a→Since E w H F→(∀ j,j<hs.length→Lst listed j) →
   wpAny P .any l.toArray (fun e a' w'=>∃ st',Q e st'∧Rel E st' a' w') tail.length listed a w) :
  ∀ (m:Nat) (listed:Array Bool) (a:Act) (w:World) (H:Hs) (F:Nat→Prop),listed.size=l.length→Clo l listed→(∀ t,hs.length≤t→t<l.length→¬Lst listed t)→RS w H F N ts obs hs (Lst listed) a→Since E w H F →
   m=((List.range hs.length).filter fun j => !listed.getD j false).length→wpAny P .any l.toArray (fun e a' w'=>∃ st',Q e st'∧Rel E st' a' w') (m+tail.length) listed a w:=by
 have hle:=hh.le
 intro m
 induction m with
 | zero =>
  intro listed a w H F hsz hcl hfree hr hsi hm
  rw[Gx1]
  refine hdone listed a w H F hsz hcl hfree hr hsi fun j hj=>?_
  have h1:=List.eq_nil_of_length_eq_zero hm.symm
  unfold Lst
  cases hb:listed.getD j false
  ·have:j∈(List.range hs.length).filter fun j => !listed.getD j false:=List.mem_filter.2 ⟨by simpa using hj,by rw[hb]; rfl⟩
   rw[h1] at this
   simp at this
  ·rfl
 | succ m ih =>
  intro listed a w H F hsz hcl hfree hr hsi hm
  have hex:∃ j,j<hs.length∧¬Lst listed j:=by
   have h1:(List.range hs.length).filter (fun j => !listed.getD j false) ≠ []:=fun e=>by rw[e] at hm; simp at hm
   obtain⟨j,hj⟩:=List.exists_mem_of_ne_nil _ h1
   obtain⟨h2,h3⟩:=List.mem_filter.1 hj
   exact⟨j,by simpa using h2,fun h=>by unfold Lst at h; rw[h] at h3; cases h3⟩
  rw[show m+1+tail.length=(m+tail.length)+1 by omega]
  by_cases hnow:∃ x,x∈M.getD l.length []∧¬Lst listed x∧∀ k∈preAt l x,Lst listed k
  ·obtain⟨x,hx1,hlm,hx3⟩:=hnow
   obtain⟨hmn,hmb⟩:=hh.chk.late x hx1
   obtain⟨o,t,d,h1,h2,h3,h4,h5',h6⟩:=lateB_spec hmb
   have hgi:hs[x]? = some hs[x]:=Gqg hmn
   obtain⟨hd1,hd2,hq⟩:=hh.qt x _ _ h1 hgi
   have hml:x<l.length:=Aqa
   have hcnt:=cnt_set (n:=hs.length) (listed:=listed) hmn Aqa hlm
   have hq2:=hq.h a w H F (fun e a' w'=>∃ st',Q e st'∧Rel E st' a' w') (fun a' w'=>∃ H' F',RS w' H' F' N ts obs hs (Lst (listed.setIfInBounds x true)) a'∧Since E w' H' F') (hr.r0 hh hsz hcl hgi hlm hx3) (fun q hq=>hr.nil x _ q hlm hgi hq) fun v w' H' F' g hok hob hno hv=>by
    refine⟨H',F',?_,hsi.grow g⟩
    rw[hd1]
    have h6:=hr.step hh hgi hd2 g hok hob hno hv
    have h7:(fun j=>Lst listed j∨j=x)=Lst (listed.setIfInBounds x true):=by
     funext j
     exact propext (Zr Aqa).symm
    rwa[h7] at h6
   rw[if_pos (by unfold Region.wanted; rw[h4])] at hq2
   unfold Oper.wp at hq2
   have hrun:(∃ v,∀ w,(execOp a.eval o).run P w = .ok (.value v) w)∨∀ w,∃ x,(execOp a.eval o).run P w = .halt (.stuck x) w:=by
    have h7:=Gqp.1 hh.lt x hx1
    rw[h1,hgi] at h7
    simp only[Gqq] at h7
    rcases h7 with h7 | h7
    ·exact srcO_run h7 a.eval
    ·exact .inl (hh.lx x o _ h1 hgi h7 a w H F (hr.r0 hh hsz hcl hgi hlm hx3))
   rcases hrun with ⟨u,hu⟩ | hst
   ·rw[hu w,Oper.upon_value,h3] at hq2
    obtain⟨H',F',hr',hsi'⟩:∃ H' F',RS w H' F' N ts obs hs (Lst (listed.setIfInBounds x true)) (a.put (some d) u)∧Since E w H' F':=hq2
    refine hoist hh.chk h1 (srcO_exec h2) h3 h4 h6 (fun c a w ⟨st',hq,_⟩=>hnp.no c st' hq) _ listed a w u hu hsz hcl hlm hx3 ?_
    refine ih _ _ w H' F' Bq7 (fun j hj k hk=>?_) (fun t ht1 ht2 ht3=>?_) hr' hsi' Aqa 
    ·rw[Zr Aqa] at hj ⊢
     rcases hj with hj | rfl
     ·exact .inl (hcl j hj k hk)
     ·exact .inl (hx3 k hk)
    ·rw[Zr Aqa] at ht3
     rcases ht3 with h | h
     ·exact hfree t ht1 ht2 h
     ·omega
   ·obtain⟨y,hy⟩:=hst w
    rw[hy] at hq2
    exact absurd hq2 (by simp[Oper.upon])
  refine⟨fun e=>?_,fun i hi=>?_⟩
  ·obtain⟨j,h1,h2⟩:=hex
   obtain⟨i,h3,h4,h5⟩:=min_ready hh.chk hsz ⟨j,Aqa,h2⟩
   have:i∈Region.ready .any l.toArray listed:=(rdy (ops:=l.toArray) Bq7).2 ⟨by simpa using h3,h4,by simpa using h5⟩
   rw[e] at this
   simp at this
  ·obtain⟨h1,h2,h3⟩:=(rdy (ops:=l.toArray) Bq7).1 hi
   have h1':i<l.length:=by simpa using h1
   have h3':∀ k∈preAt l i,Lst listed k:=by simpa using h3
   rcases Gqr i hs.length with hin | hge
   case inr=>exact hcut m listed a w H F hsz hcl hfree hr hsi hm hnow i hge h1' h3'
   have hoi:l[i]? = some l[i]:=Gqg h1'
   have hgi:hs[i]? = some hs[i]:=Gqg hin
   obtain⟨hd1,hd2,hq⟩:=hh.qt i _ _ hoi hgi
   have hoi':l.toArray[i]? = some l[i]:=by simp[h1']
   unfold wpOp
   simp only[hoi']
   have hq2:=hq.h a w H F (fun e a' w'=>∃ st',Q e st'∧Rel E st' a' w') (wpAny P .any l.toArray (fun e a' w'=>∃ st',Q e st'∧Rel E st' a' w') (m+tail.length) (listed.setIfInBounds i true)) (hr.r0 hh hsz hcl hgi h2 h3') (fun q hq=>hr.nil i _ q h2 hgi hq) fun v w' H' F' g hok hob hno hv=>by
    rw[hd1]
    refine ih _ _ w' H' F' Bq7 (fun j hj k hk=>?_) (fun t ht1 ht2 ht3=>?_) ?_ (hsi.grow g) ?_
    ·rw[Zr Aqa] at hj ⊢
     rcases hj with hj | rfl
     ·exact .inl (hcl j hj k hk)
     ·exact .inl (h3' k hk)
    ·rw[Zr Aqa] at ht3
     rcases ht3 with h | h
     ·exact hfree t ht1 ht2 h
     ·omega
    ·have h6:=hr.step hh hgi hd2 g hok hob hno hv
     have h7:(fun j=>Lst listed j∨j=i)=Lst (listed.setIfInBounds i true):=by
      funext j
      exact propext (Zr Aqa).symm
     rwa[h7] at h6
    ·have h9:=cnt_set (n:=hs.length) (listed:=listed) hin Aqa h2
     omega
   split
   ·rename_i hw
    rw[if_pos hw] at hq2
    exact .inl hq2
   ·rename_i hw
    rw[if_neg hw] at hq2
    exact hq2
end

theorem wpop_of {a:Act} {w:World} {K:St→Prop} {K':Act→World→Prop} {i:Nat} {o:Oper} (h:wpList P l.toArray (fun e a' w'=>∃ st',thn K Q e st'∧Rel E st' a' w') [o] a w) (hi:l[i]? = some o) (hK:∀ st a' w',K st→Rel E st a' w'→K' a' w') :
  wpOp P l.toArray (fun e a' w'=>∃ st',Q e st'∧Rel E st' a' w') i K' a w:=by
 have hoi:l.toArray[i]? = some o:=Bxi
 unfold wpOp
 simp only[hoi]
 have hn:∀ a' w',wpList P l.toArray (fun e a' w'=>∃ st',thn K Q e st'∧Rel E st' a' w') [] a' w'→K' a' w':=fun a' w' h'=>by
  obtain⟨st',h1,h2⟩:=h'
  exact hK st' a' w' h1.h h2
 unfold wpList at h
 split
 ·rename_i hw
  rw[if_pos hw] at h
  rcases h with h | ⟨h,a1,w1,st1,h1,h2⟩
  ·left
   unfold Oper.wp at h ⊢
   generalize (execOp a.eval o).run P w=r at h ⊢
   cases r with
   | ok n w' =>
    cases n <;> simp only[Oper.upon] at h ⊢ <;>
     first
      |exact hn _ _ h
      | exact Calls.mono h (fun e w'' he=>by
        cases e
        ·exact hn _ _ he
        ·obtain⟨st',h1,h2⟩:=he; exact⟨st',h1.h,h2⟩
        ·obtain⟨a1,w1,st',h1,h2⟩:=he; exact⟨a1,w1,st',h1.h,h2⟩)
      |exact Rows.mono h (fun _ _ he=>hn _ _ he)
   | halt x w' =>
    cases x <;> simp only[Oper.upon] at h ⊢ <;>
     first
      |exact h
      |(obtain⟨st',h1,h2⟩:=h; exact⟨st',h1.h,h2⟩)
      |(obtain⟨a1,w1,st',h1,h2⟩:=h; exact⟨a1,w1,st',h1.h,h2⟩)
  ·exact .inr ⟨h,a1,w1,st1,h1.h,h2⟩
 ·rename_i hw
  rw[if_neg hw] at h
  exact hn _ _ h
theorem Xi {id:Nat} [NP Q] (A S M:List (List Nat)) (hm:P.follows .mixedOrders=true) (h:DR P E l A S M Q N ts obs S M [] 0 0 l):AWP P E (.region id l.toArray true) Q ⟨N,ts,obs⟩:=by
 obtain⟨hs,tail,h1,h2,h3,h3',h4,h5,h6,h7⟩:=h.out rfl rfl
 simp only[List.length_nil,Gx6] at h3 h3' h7
 have hle:hs.length≤l.length:=by
  rw[Gq4] at h3'
  omega
 have htl:tail=l.drop hs.length:=by
  have h8:l.take hs.length++tail=l.take hs.length++l.drop hs.length:=by rw[←h3,Gxq]
  exact List.append_cancel_left h8
 have hchk:Chk l A S M hs.length:=by
  rcases h6 with h6 | ⟨L,o,tl,c1,_⟩
  ·exact (drawB_spec h6.1).1
  ·exact (drawG_spec c1).1
 have hh:Heads P l A S M N ts obs hs:=⟨hchk,h5,hle,fun i o hd h8 h9=>by
  obtain⟨a,m,g1,g2,g3,g4,g5,_⟩:=h7 i o hd (Gxm _) h8 h9
  refine⟨g3,g4,?_⟩
  rw[Zi g1,Zi g2]
  exact g5,fun i o hd h8 h9=>by
  obtain⟨a,m,g1,g2,g3,g4,_,g6⟩:=h7 i o hd (Gxm _) h8 h9
  rw[Zi g1,Zi g2]
  exact g6,h4⟩
 refine⟨fun a w ⟨H,F,hr,hsi⟩=>wp_region_any hm ?_⟩
 have hgr:Grow w H F { w with drawn:=w.drawn+1 } H F:=⟨(Below.refl _ _).drew,fun _ _=>rfl,fun _ h=>h,fun _ h => .inl h,fun p hp b hb=>by rw[hp] at hb; simp[Pc.fp] at hb,fun p i v h=>⟨p,h⟩⟩
 have hout:∀ p,obs.length≤p→H p = .nil:=fun p hp=>by
  have:=hr.obs p
  simpa[Gqf,hp,RB] using this
 have hno:∀ j,¬Lst (Array.replicate l.length false) j:=fun j hj=>by
  unfold Lst at hj
  rw[Gq5,Array.getElem?_replicate] at hj
  split at hj <;> simp at hj
 have hok:Ok { w with drawn:=w.drawn+1 } H F:=⟨fun p=>Pc.frame (w:=w) (fun _ _=>rfl) (hr.ok.says p),hr.ok.nodup,hr.ok.disj,hr.ok.free,hr.ok.flt⟩
 have hrs:RS { w with drawn:=w.drawn+1 } H F N ts obs hs (Lst (Array.replicate l.length false)) a :=
  ⟨hok,fun p ob hp=>rb_grow hgr (fun h=>h) (by have:=hr.obs p; rwa[Zi hp] at this),fun j h q ob hj=>absurd hj (hno j),fun j h q _ hj hq=>hout _ Aqa,fun p hp=>hout p Aqa,fun d _=>hgr.rv (hr.tmp d),fun j h hj=>absurd hj (hno j),hr.size,hr.defers⟩
 have hcs:(∀ (m:Nat) (listed:Array Bool) (a:Act) (w:World) (H:Hs) (F:Nat→Prop),listed.size=l.length→Clo l listed→(∀ t,hs.length≤t→t<l.length→¬Lst listed t)→RS w H F N ts obs hs (Lst listed) a→Since E w H F→m+1=((List.range hs.length).filter fun j => !listed.getD j false).length →
   (¬ ∃ x,x∈M.getD l.length []∧¬Lst listed x∧∀ k∈preAt l x,Lst listed k)→∀ i,hs.length≤i→i<l.length→(∀ k∈preAt l i,Lst listed k)→wpOp P l.toArray (fun e a' w'=>∃ st',Q e st'∧Rel E st' a' w') i (wpAny P .any l.toArray (fun e a' w'=>∃ st',Q e st'∧Rel E st' a' w') (m+tail.length) (listed.setIfInBounds i true)) a w) ∧
   (∀ (listed:Array Bool) (a:Act) (w:World) (H:Hs) (F:Nat→Prop),listed.size=l.length→Clo l listed→(∀ t,hs.length≤t→t<l.length→¬Lst listed t)→RS w H F N ts obs hs (Lst listed) a→Since E w H F→(∀ j,j<hs.length→Lst listed j) →
   wpAny P .any l.toArray (fun e a' w'=>∃ st',Q e st'∧Rel E st' a' w') tail.length listed a w):=by
  have hnone:∀ (m:Nat) (listed:Array Bool),(∀ j,j<hs.length→Lst listed j)→m+1=((List.range hs.length).filter fun j => !listed.getD j false).length→False:=fun m listed hall hm=>by
   have h1:(List.range hs.length).filter (fun j => !listed.getD j false) = []:=List.filter_eq_nil_iff.2 fun j hj=>by
    have h2:listed.getD j false=true:=hall j Bxm
    rw[h2]
    simp
   rw[h1] at hm
   simp at hm
  rcases h6 with ⟨h6,h8⟩ | ⟨L,o,tl,c1,c2,c5,c4,h8⟩
  ·have htt:=(drawB_spec h6).2
   refine⟨fun m listed a w H F hsz hcl hfree hr hsi hm hnow i hge hi hp=>?_,fun listed a w H F hsz hcl hfree hr hsi hall=>tail_any hh.chk htt tail hs.length listed a w (Gqi _) (Gqi _) (by rw[htl]; simp; omega) htl hsz (fun j hj=>⟨fun hl=>Nat.lt_of_not_le fun hge=>hfree j hge hj hl,fun hlt=>hall j hlt⟩) hcl (h8.h a w ⟨H,F,hr.fin hh hall,hsi⟩)⟩
   have hall:=cut_all hh.chk hcl hle hnow (s:=l.length) hi hp (fun m hm hh'=>by have h1:=(hh.chk.late m hm).1; have:=hh.chk.down m Aqa _ hh'; omega) fun j hj _=>htt i hi hge j Aqa 
   exact (hnone m listed (fun j hj=>hall j hj Aqa) hm).elim
  ·have hsp:=(drawG_spec c1).2
   have hlc:∀ m∈M.getD l.length [],∀ s∈L,s∉preAt l m∧m≠s:=fun m hm s hs'=>by
    have:=Gqp.1 (Gqp.1 c2 m hm) s hs'
    simp only[Gqh,Gq6] at this
    exact⟨memN_not this.1,fun e=>by rw[e,show Nat.beq s s=true from Gxz s] at this; exact absurd this.2 Aqd⟩
   have hnl:hs.length<l.length:=by
    refine Nat.lt_of_not_le fun hge=>?_
    rw[htl,List.drop_eq_nil_of_le hge] at c4
    cases c4
   have hdr:=htl.symm.trans c4
   rw[Gxr hnl] at hdr
   simp only[List.cons.injEq] at hdr
   have hon:l[hs.length]? = some o:=by simp[hnl,hdr.1]
   have hLn:∀ s∈L,∀ g,hs[s]? = some g→g.obs = []:=fun s hs' g hg=>by
    have:=Gqp.1 c5 s hs'
    rw[hg] at this
    simpa using this
   have key:∀ (listed:Array Bool) (a:Act) (w:World) (H:Hs) (F:Nat→Prop) (f:Nat),listed.size=l.length→(∀ t,hs.length≤t→t<l.length→¬Lst listed t)→RS w H F N ts obs hs (Lst listed) a→Since E w H F→(∀ j,j<hs.length→j∉L→Lst listed j)→f=((List.range hs.length).filter fun j => !listed.getD j false).length+tl.length→wpOp P l.toArray (fun e a' w'=>∃ st',Q e st'∧Rel E st' a' w') hs.length (wpAny P .any l.toArray (fun e a' w'=>∃ st',Q e st'∧Rel E st' a' w') f (listed.setIfInBounds hs.length true)) a w:=by
    intro listed a w H F f hsz hfree hr hsi ha hf
    obtain⟨X,hXd⟩:∃ X,X=L.filter fun j => !listed.getD j false:=⟨_,rfl⟩
    have hX:∀ j,j<hs.length→(memN X j = !listed.getD j false):=fun j hj=>by
     rw[Bool.eq_iff_iff,Zs,hXd,List.mem_filter]
     refine⟨fun h=>h.2,fun h=>⟨Classical.byContradiction fun hn=>?_,h⟩⟩
     have h2:listed.getD j false=true:=ha j hj hn
     rw[h2] at h
     cases h
    have heq:listed.setIfInBounds hs.length true=lmiss l.length hs.length X:=by
     refine Array.ext (by simp[lmiss,hsz]) fun j h1 h2=>?_
     have hjl:j<listed.size:=by simpa using h1
     have hg:listed.getD j false=listed[j]:=by simp[Gq5,hjl]
     simp only[lmiss,List.getElem_toArray,List.getElem_map,List.getElem_range]
     rcases Nat.lt_trichotomy j hs.length with e | e | e
     ·rw[Array.getElem_setIfInBounds_ne Aqa,hX j e,←hg,show Nat.ble j hs.length=true from Nat.ble_eq_true_of_le Aqa]
      ·simp
      ·omega
     ·subst e
      have h3:memN X hs.length=false:=by
       cases hm:memN X hs.length with
       |false=>rfl
       |true =>
        have h4:=(Zs _ _).1 hm
        rw[hXd,List.mem_filter] at h4
        have h5:=Gqp.1 c5 _ h4.1
        rw[List.getElem?_eq_none (Gqi _)] at h5
        cases h5
      rw[h3,show Nat.ble hs.length hs.length=true from Nat.ble_eq_true_of_le (Gqi _)]
      simp
     ·rw[Array.getElem_setIfInBounds_ne Aqa,←hg,show Nat.ble j hs.length=false from Bool.eq_false_iff.2 fun h=>by have:=Gqx h; omega]
      ·have:=hfree j Aqa Aqa 
       unfold Lst at this
       simpa using this
      ·omega
    have hff:f=fuelL hs.length X tl.length:=by
     rw[hf,fuelL,List.filter_congr fun j hj=>(hX j Bxm)]
    have hw:=(h8 X (hXd▸filter_subs _ L)).h a w ⟨H,F,hr.finX hh (fun s hs'=>hLn s (by rw[hXd] at hs'; exact (List.mem_filter.1 hs').1)) (fun j hj hjX=>by
     have h3:memN X j=false:=by
      cases hm:memN X j with
      |false=>rfl
      |true=>exact absurd ((Zs _ _).1 hm) hjX
     rw[hX j hj] at h3
     simpa[Lst] using h3),hsi⟩
    rw[heq,hff]
    exact wpop_of hw hon fun st' a' w' h1 h2=>h1.h a' w' h2
   have hat:∀ (listed:Array Bool),Clo l listed→(∀ t,hs.length≤t→t<l.length→¬Lst listed t)→∀ i,i<l.length→hs.length<i→(∀ k∈preAt l i,Lst listed k)→False:=fun listed hcl hfree i hi hgt hp=>by
    rcases (hsp i hi Aqa hs.length Aqa).resolve_right fun e=>by omega with h1 | h1
    ·exact hfree _ (Gqi _) hnl (Yq hh.chk hcl i hi hp _ h1).1
    ·have:=(hh.chk.late _ h1).1
     omega
   refine⟨fun m listed a w H F hsz hcl hfree hr hsi hm hnow i hge hi hp=>?_,fun listed a w H F hsz hcl hfree hr hsi hall=>?_⟩
   ·have hin:i=hs.length:=Classical.byContradiction fun hne=>hat listed hcl hfree i hi Aqa hp
    subst hin
    refine key listed a w H F _ hsz hfree hr hsi (cut_allL hh.chk hcl hle hnow (f:=fun j=>j∈L) hi hp (fun m hm k hk h1=>(hlc m hm k h1).1 hk) fun j hj hjL=>(hsp _ hi hge j hj).resolve_right fun e=>hjL ((Zs _ _).1 e.2)) ?_
    rw[←hm,c4,Gqw]
    omega
   ·rw[c4,Gqw]
    have hpn:∀ k∈preAt l hs.length,Lst listed k:=fun k hk=>hall k (hh.chk.down _ hnl k hk)
    have hnr:hs.length∈Region.ready .any l.toArray listed:=(rdy (ops:=l.toArray) Bq7).2 ⟨by simpa using hnl,hfree _ (Gqi _) hnl,by simpa using hpn⟩
    refine⟨fun e=>by rw[e] at hnr; simp at hnr,fun i hi=>?_⟩
    obtain⟨k1,k2,k3⟩:=(rdy (ops:=l.toArray) Bq7).1 hi
    have k1':i<l.length:=by simpa using k1
    have hin:i=hs.length:=by
     refine Classical.byContradiction fun hne=>?_
     have hgt:hs.length≤i:=Nat.le_of_not_lt fun hh'=>k2 (hall i hh')
     exact hat listed hcl hfree i k1' Aqa (by simpa using k3)
    subst hin
    refine key listed a w H F _ hsz hfree hr hsi (fun j hj _=>hall j hj) ?_
    rw[List.filter_eq_nil_iff.2 fun j hj=>by rw[show listed.getD j false=true from hall j Bxm]; simp]
    simp
 have hfin:=head_any hh (tail:=tail) hcs.1 hcs.2 hs.length (Array.replicate l.length false) a { w with drawn:=w.drawn+1 } H F Aqd (fun i hi=>absurd hi (hno i)) (fun t _ _=>hno t) hrs (hsi.grow hgr) (by
  rw[List.filter_eq_self.2 (fun j _=>by
   cases hb:(Array.replicate l.length false).getD j false
   ·rfl
   ·exact absurd hb (hno j))]
  simp)
 have hsum:hs.length+tail.length=l.toArray.size:=by rw[htl]; simp; omega
 rw[hsum] at hfin
 simpa using hfin
end
/-! ### Addresses, the same in every world -/
section
variable {P:Program} {ops:Array Oper} {o:Oper} {st:St} {n:Nat} {t:TypeId} {y z:Operand} {k:IntKind} {i:Int} {qs:List Nat}
theorem ql_fldp {p m f off sz:Nat} {pl:List (Nat×Nat)} [hpl:TyPl P t pl] (ho:o.op = .fieldAddr t y f) (hg:o.guard=none) (hy:st.ev y = .o (.c (.ptr p m))) (hf:pl[f]? = some (off,sz)) (hsz:sz≠0):Qt P ops o st (.o (.c (.ptr p (m+off)))) [] n∧LX P o st :=
 ⟨Qf ho hg hy hf hsz,fun a w H F hr=>by
  obtain⟨g,tt,vs,e1,e2⟩:=hr.v1 hy
  refine⟨.pointer (some ⟨g,m+off,none⟩),fun w2=>?_⟩
  simp only[execOp,ho,e2,Sem.run_bind,run_fieldAt (P:=P) (w:=w2) t g m f hf hsz,Result.andThen_ok]
  rfl⟩
end
def u9:Nat→List Nat
 |0 => []
 |n+1=>u9 n ++ [n]
def r9:Nat→Nat→List Nat
 |_,0 => []
 |a,n+1=>a::r9 (a+1) n
def gg:List Nat→List Nat
 |a::n::t=>r9 a n++gg t
 |_ => []
def tt:List (List Nat)→List (List Nat)
 | [] => []
 |a::t=>gg a::tt t
def u8_0:List (List Nat):=(tt [[],[],[0,2],[0,3],[],[],[4,2],[4,3],[0,8]])
def u8_1:List (List Nat):=(tt [[],[],[17,2],[17,3],[],[],[21,2],[21,3],[17,8]])
def u8_2:List (List Nat):=(tt [[18,1,21,4],[17,1,21,4],[21,4],[21,4],[17,4,22,1],[17,5],[17,4],[17,4],[]])
def u8_3:List (List Nat):=(tt [[],[],[0,2],[0,3],[],[],[4,2],[4,3],[0,8],[0,9]])
def u8_4:List (List Nat):=(tt [[],[],[17,2],[17,3],[],[],[21,2],[21,3],[17,8],[17,9]])
def u8_5:List (List Nat):=(tt [[18,1,21,4],[17,1,21,4],[21,4],[21,4],[17,4,22,1],[17,5],[17,4],[17,4],[],[]])
def u8_6:List (List Nat):=(tt [[],[0,1],[0,2],[0,3],[0,4],[0,5],[0,6],[0,5],[0,5,7,1],[0,9],[0,10],[0,11],[0,12],[0,13],[0,13],[0,13,14,1],[0,13],[0,13,16,1],[0,13],[0,13,18,1],[0,13,18,2],[0,21],[0,22],[0,23],[0,24],[0,25],[0,26],[0,27],[0,28],[0,29],[0,30],[0,31],[0,32],[0,33],[0,34]])
def u8_7:List (List Nat):=(tt [[],[7,1],[7,2],[7,3],[7,4],[7,5],[7,6],[7,5],[7,5,14,1],[7,9],[7,10],[7,11],[7,12],[7,13],[7,13],[7,13,21,1],[7,13],[7,13,23,1],[7,13],[7,13,25,1],[7,13,25,2],[7,21],[7,22],[7,23],[7,24],[7,25],[7,26],[7,27],[7,28],[7,29],[7,30],[7,31],[7,32],[7,33],[7,34]])
def u8_8:List (List Nat):=(tt [[],[],[],[],[],[14,2],[14,2],[12,2],[12,2],[],[],[],[],[21,7],[20,1,23,5],[20,1,23,5],[20,3,25,3],[20,3,25,3],[20,5],[20,5],[20,5],[],[],[],[],[],[],[],[],[],[],[],[],[],[]])
def u8_9:List (List Nat) := [[],[],[1],[],[3],[],[5],[5,6],(u9 8)]
def u8_10:List (List Nat) := [[],[],[40],[],[42],[],[44],[44,45],(gg [39,8])]
def u8_11:List (List Nat):=(tt [[40,7],[39,1,42,5],[39,1,42,5],[39,3,44,3],[39,3,44,3],[39,5],[39,5],[39,5],[]])
def u8_12:List (List Nat):=(tt [[],[],[16,2],[16,3],[],[],[20,2],[20,3],[16,8]])
def u8_13:List (List Nat):=(tt [[17,1,20,4],[16,1,20,4],[20,4],[20,4],[16,4,21,1],[16,5],[16,4],[16,4],[]])
def u8_14:List (List Nat):=(tt [[],[0,1],[],[0,3],[0,4],[],[5,1],[],[5,3],[5,4],[0,10]])
def u8_15:List (List Nat):=(tt [[],[20,1],[],[20,3],[20,4],[],[25,1],[],[25,3],[25,4],[20,10]])
def u8_16:List (List Nat):=(tt [[22,1,25,5],[22,1,25,5],[20,2,25,5],[25,5],[25,5],[20,5,27,1],[20,5,27,1],[20,7],[20,5],[20,5],[]])
def u8_17:List (List Nat):=(tt [[],[0,1],[0,2],[],[3,1],[3,2],[0,6],[0,7],[0,8],[0,9],[0,8],[0,8,10,1],[0,12],[0,13],[0,14],[0,15],[0,8],[0,8,16,1],[0,8,16,2],[0,19],[0,20],[0,21],[0,22],[0,23],[0,24],[0,22],[0,22,25,1],[0,22,25,2],[0,22,25,3],[0,29],[0,30],[0,31]])
def u8_18:List (List Nat):=(tt [[],[148,1],[148,2],[],[151,1],[151,2],[148,6],[148,7],[148,8],[148,9],[148,8],[148,8,158,1],[148,12],[148,13],[148,14],[148,15],[148,8],[148,8,164,1],[148,8,164,2],[148,19],[148,20],[148,21],[148,22],[148,23],[148,24],[148,22],[148,22,173,1],[148,22,173,2],[148,22,173,3],[148,29],[148,30],[148,31]])
def u8_19:List (List Nat):=(tt [[151,3],[151,3],[151,3],[148,3],[148,3],[148,3],[],[],[158,2,164,3],[158,2,164,3],[156,2,164,3],[156,2,164,3],[164,3],[164,3],[164,3],[164,3],[156,8],[156,8],[156,8],[],[],[],[173,4],[173,4],[173,4],[170,3],[170,3],[170,3],[170,3],[],[],[]])
def u8_20:List (List Nat):=(tt [[],[0,1],[],[0,3],[0,4],[],[0,6],[0,7],[0,8],[0,9],[0,10],[0,9],[0,12],[0,13],[0,14],[0,9],[0,9,15,1],[0,9,15,2],[0,9],[0,9,15,4],[0,20],[0,21]])
def u8_21:List (List Nat):=(tt [[],[127,1],[],[127,3],[127,4],[],[127,6],[127,7],[127,8],[127,9],[127,10],[127,9],[127,12],[127,13],[127,14],[127,9],[127,9,142,1],[127,9,142,2],[127,9],[127,9,142,4],[127,20],[127,21]])
def u8_22:List (List Nat):=(tt [[129,1,132,1],[129,1,132,1],[127,2,132,1],[132,1],[132,1],[127,5],[],[],[],[138,1,142,5],[138,1,142,5],[136,2,142,5],[142,5],[142,5],[142,5],[136,6,145,1],[136,6,145,1],[136,6,145,1],[136,9],[136,6],[],[]])
def u8_23:List (List Nat):=(tt [[],[149,1],[149,2],[],[152,1],[152,2],[149,6],[149,7],[149,8],[149,9],[149,8],[149,8,159,1],[149,12],[149,13],[149,14],[149,15],[149,8],[149,8,165,1],[149,8,165,2],[149,19],[149,20],[149,21],[149,22],[149,23],[149,24],[149,22],[149,22,174,1],[149,22,174,2],[149,22,174,3],[149,29],[149,30],[149,31]])
def u8_24:List (List Nat):=(tt [[152,3],[152,3],[152,3],[149,3],[149,3],[149,3],[],[],[159,2,165,3],[159,2,165,3],[157,2,165,3],[157,2,165,3],[165,3],[165,3],[165,3],[165,3],[157,8],[157,8],[157,8],[],[],[],[174,4],[174,4],[174,4],[171,3],[171,3],[171,3],[171,3],[],[],[]])
def u8_25:List (List Nat) := [[],[0],[],[0,1,2],(u9 4),[],[5],[],(u9 8),(u9 9)]
def u8_26:List (List Nat):=(tt [[],[16,1],[],[16,3],[16,4],[],[21,1],[],[16,8],[16,9]])
def u8_27:List (List Nat):=(tt [[18,1,21,3],[18,1,21,3],[16,2,21,3],[21,3],[21,3],[16,5,23,1],[16,5,23,1],[16,7],[],[]])
def u8_28:List (List Nat) := [[],[0],[],[],[],[],[4,5],[4,5,6],(gg [2,6]),(u9 9)]
def u8_29:List (List Nat):=(tt [[],[47,1],[],[],[],[],[51,2],[51,3],[49,6],[47,9]])
def u8_30:List (List Nat):=(tt [[49,7],[49,7],[47,2,50,5],[47,3,51,4],[47,4,52,1],[47,5],[47,4],[47,4],[47,2],[]])
def u8_31:List (List Nat) := [[],[],[1],[],[1,2,3],[0],(u9 6)]
def u8_32:List (List Nat):=(tt [[],[0,1],[0,2],[0,3],[0,4],[0,4],[0,4,5,1],[0,4],[0,4,7,1],[0,4,7,2],[0,4],[0,11],[0,12]])
def u8_33:List (List Nat):=(tt [[],[71,1],[71,2],[71,3],[71,4],[71,4],[71,4,76,1],[71,4],[71,4,78,1],[71,4,78,2],[71,4],[71,11],[71,12]])
def u8_34:List (List Nat):=(tt [[],[],[],[],[76,6],[75,1,78,4],[75,1,78,4],[75,3,81,1],[75,3,81,1],[75,3,81,1],[75,6],[],[]])
def u8_35:List (List Nat):=(tt [[],[0,1],[0,2],[0,3],[0,4],[0,4],[0,4,5,1],[0,4],[0,4,7,1],[0,4,7,2],[0,4],[0,4,10,1],[0,4,10,2],[0,13],[0,14]])
def u8_36:List (List Nat):=(tt [[],[36,1],[36,2],[36,3],[36,4],[36,4],[36,4,41,1],[36,4],[36,4,43,1],[36,4,43,2],[36,4],[36,4,46,1],[36,4,46,2],[36,13],[36,14]])
def u8_37:List (List Nat):=(tt [[],[],[],[],[41,8],[40,1,43,6],[40,1,43,6],[40,3,46,3],[40,3,46,3],[40,3,46,3],[40,6],[40,6],[40,6],[],[]])
def u8_38:List (List Nat) := [[],[],[0,1],[0,1,2],(u9 4),(u9 5),(u9 6),(u9 7),(u9 4),(u9 9),(u9 10),(u9 11),(u9 12),(u9 13),(u9 14),(u9 15),(u9 16),(u9 17),(u9 18),(u9 15),(u9 20),(u9 21),(u9 15),(u9 23),(u9 24)]
def u8_39:List (List Nat):=(tt [[],[],[16,2],[16,3],[16,4],[16,5],[16,6],[16,7],[16,4],[16,9],[16,10],[16,11],[16,12],[16,13],[16,14],[16,15],[16,16],[16,17],[16,18],[16,15],[16,20],[16,21],[16,15],[16,23],[16,24]])
def u8_40:List (List Nat) := [[17],[16],[],[],[24],[24],[24],[24],[20,21,22,23],[],[],[],[],[],[],[35,38],[35,38],[35,38],[35,38],[31,32,33,34,38],[38],[38],(gg [31,7]),[],[]]
def u8_41:List (List Nat):=(tt [[],[],[17,2],[17,3],[17,4],[17,5],[17,6],[17,7],[17,4],[17,9],[17,10],[17,11],[17,12],[17,13],[17,14],[17,15],[17,16],[17,17],[17,18],[17,15],[17,20],[17,21],[17,15],[17,23],[17,24]])
def u8_42:List (List Nat) := [[18],[17],[],[],[25],[25],[25],[25],[21,22,23,24],[],[],[],[],[],[],[36,39],[36,39],[36,39],[36,39],[32,33,34,35,39],[39],[39],(gg [32,7]),[],[]]
def u8_43:List (List Nat) := [[],[0],[0,1],[0,1,2],[],[],(u9 6),(u9 7)]
def u8_44:List (List Nat):=(tt [[],[39,1],[39,2],[39,3],[],[],[39,6],[39,7]])
def u8_45:List (List Nat):=(tt [[43,2],[43,2],[43,2],[43,2],[39,4,44,1],[39,5],[],[]])
def u8_46:List (List Nat) := [[],[],[1],[1,2],[1,2,3],[],[5],[5,6],(gg [1,7]),(u9 9),(u9 10),(u9 11)]
def u8_47:List (List Nat) := [[],[0],[0,1],[0,1,2],[],(u9 5),(u9 6),(u9 7),(u9 7),[],(gg [0,8,9,1]),(u9 11)]
def u8_48:List (List Nat):=(tt [[],[0,1],[0,2],[0,3],[],[4,1],[4,2],[4,3],[4,4],[0,9],[0,10],[]])
def u8_49:List (List Nat):=(tt [[],[],[1,1],[1,2],[1,3],[],[5,1],[5,2],[5,3],[5,4],[1,9],[],[1,11],[0,13],[0,14],[0,15]])
def u8_50:List (List Nat):=(tt [[],[149,1],[149,2],[149,3],[],[149,5],[149,6],[148,7],[148,7],[],[11,1,148,8],[11,1,148,9]])
def u8_51:List (List Nat) := [[11,153],[11,153],[11,153],[11,153],(gg [11,1,149,4]),[11],[11],[11,156],[11,155],(gg [148,9]),[156],[],[8]]
def u8_52:List (List Nat):=(tt [[],[0,1],[0,2],[0,3],[],[0,5],[0,6],[0,7],[0,8],[0,9],[0,10],[0,11],[0,12],[0,13],[0,10],[0,15],[0,16],[0,17],[0,10],[0,10],[0,10,18,2],[0,10,18,3],[0,10,18,4],[0,10,18,5],[0,24],[0,25],[0,26],[0,27],[0,28],[0,29],[0,30],[0,27],[0,32],[0,33],[0,34],[0,27],[0,27],[0,27,35,2],[0,27,35,3],[0,27,35,4],[0,27,35,5],[0,41],[0,42]])
def u8_53:List (List Nat):=(tt [[],[243,1],[243,2],[243,3],[],[243,5],[243,6],[243,7],[243,8],[243,9],[243,10],[243,11],[243,12],[243,13],[243,10],[243,15],[243,16],[243,17],[243,10],[243,10],[243,10,261,2],[243,10,261,3],[243,10,261,4],[243,10,261,5],[243,24],[243,25],[243,26],[243,27],[243,28],[243,29],[243,30],[243,27],[243,32],[243,33],[243,34],[243,27],[243,27],[243,27,278,2],[243,27,278,3],[243,27,278,4],[243,27,278,5],[243,41],[243,42]])
def u8_54:List (List Nat):=(tt [[247,1],[247,1],[247,1],[247,1],[243,4],[],[],[],[],[],[257,1,261,6],[257,1,261,6],[257,1,261,6],[257,1,261,6],[253,4,261,6],[261,6],[261,6],[261,6],[253,8,262,1],[253,9],[253,8],[253,8],[253,8],[253,8],[],[],[],[274,1,278,6],[274,1,278,6],[274,1,278,6],[274,1,278,6],[270,4,278,6],[278,6],[278,6],[278,6],[270,8,279,1],[270,9],[270,8],[270,8],[270,8],[270,8],[],[]])
def u8_55:List (List Nat) := [[],[0],[],[2],[2,3],(u9 5),(u9 6),(u9 7)]
def u8_56:List (List Nat):=(tt [[],[0,1],[],[],[3,1],[],[3,3],[3,4],[2,6],[2,7],[0,10],[0,11],[0,12]])
def u8_57:List (List Nat):=(tt [[],[26,1],[],[],[29,1],[],[29,3],[29,4],[28,6],[28,7],[26,10],[26,11],[26,12]])
def u8_58:List (List Nat):=(tt [[28,8],[28,8],[26,2,29,5],[26,3,31,1],[26,3,31,1],[26,5],[26,3],[26,3],[26,2],[26,2],[],[],[]])
def u8_59:List (List Nat):=(tt [[],[33,1],[],[],[36,1],[],[36,3],[36,4],[35,6],[35,7],[33,10],[33,11],[33,12]])
def u8_60:List (List Nat):=(tt [[35,8],[35,8],[33,2,36,5],[33,3,38,1],[33,3,38,1],[33,5],[33,3],[33,3],[33,2],[33,2],[],[],[]])
def u8_61:List (List Nat):=(tt [[],[0,1],[],[2,1],[],[2,3],[2,4],[2,5],[2,6],[0,9],[0,10],[0,11]])
def u8_62:List (List Nat):=(tt [[],[106,1],[],[],[109,1],[],[109,3],[109,4],[108,6],[108,7],[106,10],[106,11],[106,12]])
def u8_63:List (List Nat):=(tt [[108,8],[108,8],[106,2,109,5],[106,3,111,1],[106,3,111,1],[106,5],[106,3],[106,3],[106,2],[106,2],[],[],[]])
def u8_64:List (List Nat):=(tt [[],[125,1],[],[],[128,1],[],[128,3],[128,4],[127,6],[127,7],[125,10],[125,11],[125,12]])
def u8_65:List (List Nat):=(tt [[127,8],[127,8],[125,2,128,5],[125,3,130,1],[125,3,130,1],[125,5],[125,3],[125,3],[125,2],[125,2],[],[],[]])
def u8_66:List (List Nat):=(tt [[],[0,1],[],[2,1],[],[2,3],[2,4],[2,5],[],[],[9,1],[],[9,3],[9,4],[9,5],[8,7],[2,14],[2,15],[0,18],[0,19],[0,20]])
def u8_67:List (List Nat):=(tt [[],[188,1],[],[190,1],[],[190,3],[190,4],[190,5],[],[],[197,1],[],[197,3],[197,4],[197,5],[196,7],[190,14],[190,15],[188,18],[188,19],[188,20]])
def u8_68:List (List Nat):=(tt [[190,16],[190,16],[188,2,192,1,196,8],[188,2,192,1,196,8],[188,4,196,8],[188,2,196,8],[188,2,196,8],[188,2,196,8],[188,8,197,6],[188,9,199,1],[188,9,199,1],[188,11],[188,9],[188,9],[188,9],[188,8],[188,2],[188,2],[],[],[]])
def u8_69:List (List Nat):=(tt [[],[0,1],[],[0,3],[0,4],[],[0,6],[0,7],[],[8,1],[],[8,3],[8,4],[8,5],[],[8,7],[8,8],[8,9],[8,10],[0,19],[0,20]])
def u8_70:List (List Nat):=(tt [[],[88,1],[],[88,3],[88,4],[],[88,6],[88,7],[],[96,1],[],[96,3],[96,4],[96,5],[],[96,7],[96,8],[96,9],[96,10],[88,19],[88,20]])
def u8_71:List (List Nat):=(tt [[90,1,93,1,96,11],[90,1,93,1,96,11],[88,2,93,1,96,11],[93,1,96,11],[93,1,96,11],[88,5,96,11],[96,11],[96,11],[88,8,98,1,102,1],[88,8,98,1,102,1],[88,10,102,1],[88,8,102,1],[88,8,102,1],[88,8,102,1],[88,14],[88,8],[88,8],[88,8],[88,8],[],[],[2,1,5,1]])
def u8_72:List (List Nat):=(tt [[],[0,1],[],[0,3],[0,4],[],[0,6],[0,7],[0,8],[0,9],[0,10],[0,11],[0,12],[0,11],[0,14],[0,15],[0,11],[0,17],[0,18],[0,19],[0,20],[0,21],[0,22],[0,23],[0,24],[0,23],[0,26],[0,27],[0,23],[0,29],[0,30],[0,23],[0,23,31,1],[0,23],[0,23,31,3],[0,23,31,4],[0,23,31,5],[0,23],[0,23,31,7],[0,23,31,8],[0,23,31,9],[0,23,31,10],[0,42],[0,43],[0,44]])
def u8_73:List (List Nat):=(tt [[],[64,1],[],[64,3],[64,4],[],[64,6],[64,7],[64,8],[64,9],[64,10],[64,11],[64,12],[64,11],[64,14],[64,15],[64,11],[64,17],[64,18],[64,19],[64,20],[64,21],[64,22],[64,23],[64,24],[64,23],[64,26],[64,27],[64,23],[64,29],[64,30],[64,23],[64,23,95,1],[64,23],[64,23,95,3],[64,23,95,4],[64,23,95,5],[64,23],[64,23,95,7],[64,23,95,8],[64,23,95,9],[64,23,95,10],[64,42],[64,43],[64,44]])
def u8_74:List (List Nat):=(tt [[66,1,69,1],[66,1,69,1],[64,2,69,1],[69,1],[69,1],[64,5],[],[],[],[],[],[77,1,80,1],[77,1,80,1],[75,2,80,1],[80,1],[80,1],[75,5],[],[],[],[],[],[],[89,1,92,1,95,11],[89,1,92,1,95,11],[87,2,92,1,95,11],[92,1,95,11],[92,1,95,11],[87,5,95,11],[95,11],[95,11],[87,8,97,1,101,1],[87,8,97,1,101,1],[87,10,101,1],[87,8,101,1],[87,8,101,1],[87,8,101,1],[87,14],[87,8],[87,8],[87,8],[87,8],[],[],[]])
def u8_75:List (List Nat):=(tt [[],[0,1],[],[2,1],[],[4,1],[],[6,1],[4,4],[4,5],[],[10,1],[4,8],[4,9],[0,14],[0,15]])
def u8_76:List (List Nat):=(tt [[],[],[1,1],[0,3],[],[],[],[4,3],[1,2,4,4],[0,9],[0,10]])
def u8_77:List (List Nat):=(tt [[],[],[41,1],[40,3],[],[],[],[44,3],[41,2,44,4],[40,9],[40,10]])
def u8_78:List (List Nat):=(tt [[41,2,44,5],[40,1,44,4],[40,1,44,4],[44,5],[40,4,45,2],[40,5,46,1],[40,6],[40,4],[40,1,43,1],[],[]])
def u8_79:List (List Nat):=(tt [[],[0,1],[0,2],[0,3],[0,4],[0,5],[0,3],[0,3,6,1],[0,8],[0,9],[0,10],[0,11],[0,12],[0,11],[0,11,13,1],[0,15],[0,16],[0,17],[0,18],[0,11],[0,11,19,1],[0,11,19,2],[0,22],[0,23],[0,24]])
def u8_80:List (List Nat):=(tt [[],[3,1],[3,2],[3,3],[3,4],[3,5],[3,3],[3,3,9,1],[3,8],[3,9],[3,10],[3,11],[3,12],[3,11],[3,11,16,1],[3,15],[3,16],[3,17],[3,18],[3,11],[3,11,22,1],[3,11,22,2],[3,22],[3,23],[3,24]])
def u8_81:List (List Nat):=(tt [[],[],[],[9,2],[9,2],[9,2],[6,3],[6,3],[],[],[],[16,2,22,3],[16,2,22,3],[14,2,22,3],[14,2,22,3],[22,3],[22,3],[22,3],[22,3],[14,8],[14,8],[14,8],[],[],[]])
def u8_82:List (List Nat):=(tt [[],[],[1,1],[],[3,1],[3,2],[3,3],[1,6],[1,7],[1,8],[0,10],[0,11],[0,12],[0,12],[],[0,13,14,1],[0,16]])
def u8_83:List (List Nat):=(tt [[],[],[25,1],[],[27,1],[27,2],[27,3],[25,6],[25,7],[25,8],[24,10],[24,11],[23,12],[23,12],[],[6,1,23,13],[6,1,23,14]])
def u8_84:List (List Nat) := [(gg [6,1,25,9]),[6,24,27,28,29,30],[6,24,27,28,29,30],[6,24,25,26],[6,24,25,26],[6,24,25,26],[6,24,25,26],[6,24],[6,24],[6,24],[6],[6],[6,36],[6,35],(gg [23,14]),[36],[],[13]]
def u8_85:List (List Nat) := [[],[0],[],[2],(u9 4),(u9 5),(u9 6)]
def u8_86:List (List Nat):=(tt [[],[50,1],[],[52,1],[50,4],[50,5],[50,6]])
def u8_87:List (List Nat) := [[52,53],[52,53],[50,51],[50,51],[],[],[]]
def u8_88:List (List Nat):=(tt [[],[],[1,1],[],[3,1],[1,4],[1,5],[1,6],[0,8],[0,9],[0,10],[0,10],[],[0,11,12,1],[0,14]])
def u8_89:List (List Nat):=(tt [[],[],[27,1],[],[29,1],[27,4],[27,5],[27,6],[26,8],[26,9],[25,10],[25,10],[],[7,1,25,11],[7,1,25,12]])
def u8_90:List (List Nat) := [(gg [7,1,27,7]),[7,26,29,30],[7,26,29,30],[7,26,27,28],[7,26,27,28],[7,26],[7,26],[7,26],[7],[7],[7,36],[7,35],(gg [25,12]),[36],[],[11]]
def u8_91:List (List Nat) := [[],[0],[0,1],[],[3],[3,4],(u9 6),(u9 7),(u9 8),(u9 9),(u9 10),(u9 8),(u9 12),(u9 13),(u9 14),(u9 15),(u9 16),(u9 15),(gg [0,15,17,1]),(gg [0,15,17,2]),(u9 20),(u9 21)]
def u8_92:List (List Nat):=(tt [[],[17,1],[17,2],[],[20,1],[20,2],[17,6],[17,7],[17,8],[17,9],[17,10],[17,8],[17,12],[17,13],[17,14],[17,15],[17,16],[17,15],[17,15,34,1],[17,15,34,2],[17,20],[17,21]])
def u8_93:List (List Nat):=(tt [[20,3],[20,3],[20,3],[17,3],[17,3],[17,3],[],[],[28,1],[28,1],[28,1],[25,3],[],[],[],[34,3],[34,3],[32,2],[32,2],[32,2],[],[]])
def u8_94:List (List Nat) := [[],[0],[],[],[2,3],(u9 5),(u9 6),(u9 7)]
def u8_95:List (List Nat):=(tt [[],[0,1],[0,2],[0,3],[0,4],[0,5],[0,3],[0,3,6,1],[0,3,6,2],[0,9],[0,10],[0,11],[0,12],[0,13],[0,14],[0,12],[0,12,15,1],[0,12,15,2],[0,18],[0,19],[0,20],[0,21],[0,22],[0,21],[0,21,23,1],[0,21,23,2],[0,26],[0,27]])
def u8_96:List (List Nat):=(tt [[],[9,1],[9,2],[9,3],[9,4],[9,5],[9,3],[9,3,15,1],[9,3,15,2],[9,9],[9,10],[9,11],[9,12],[9,13],[9,14],[9,12],[9,12,24,1],[9,12,24,2],[9,18],[9,19],[9,20],[9,21],[9,22],[9,21],[9,21,32,1],[9,21,32,2],[9,26],[9,27]])
def u8_97:List (List Nat):=(tt [[],[],[],[15,3],[15,3],[15,3],[12,3],[12,3],[12,3],[],[],[],[24,3],[24,3],[24,3],[21,3],[21,3],[21,3],[],[],[],[32,3],[32,3],[30,2],[30,2],[30,2],[],[]])
def u8_98:List (List Nat):=(tt [[],[57,1],[],[59,1],[59,2],[57,5],[57,6],[57,7]])
def u8_99:List (List Nat):=(tt [[59,3],[59,3],[57,2],[57,2],[57,2],[],[],[]])
def u8_100:List (List Nat):=(tt [[],[78,1],[],[],[80,2],[78,5],[78,6],[78,7]])
def u8_101:List (List Nat):=(tt [[80,3],[80,3],[78,2,81,1],[78,3],[78,2],[],[],[]])
def u8_102:List (List Nat) := [[],[0],[0,1],[0,1,2],[],(u9 5),(u9 6),[],[7],[7,8],[],[10],[10,11],[10,11,12],(u9 14),(u9 15)]
def u8_103:List (List Nat) := [[],[0],[0,1],[0,1,2],[],[],[5],(u9 7),(u9 8)]
def u8_104:List (List Nat):=(tt [[],[70,1],[70,2],[70,3],[],[],[75,1],[70,7],[70,8]])
def u8_105:List (List Nat):=(tt [[74,3],[74,3],[74,3],[74,3],[70,4,75,2],[70,5],[70,5],[],[]])
def u8_106:List (List Nat):=(tt [[],[67,1],[67,2],[67,3],[],[],[72,1],[67,7],[67,8]])
def u8_107:List (List Nat):=(tt [[71,3],[71,3],[71,3],[71,3],[67,4,72,2],[67,5],[67,5],[],[]])
def u8_108:List (List Nat) := [[],[],[0,1],[0,1,2],(u9 4),[],[5],(u9 7)]
def u8_109:List (List Nat):=(tt [[],[],[21,2],[21,3],[21,4],[],[26,1],[21,7]])
def u8_110:List (List Nat):=(tt [[22,1,26,2],[21,1,26,2],[26,2],[26,2],[26,2],[21,5],[21,5],[]])
end
end Go.Proofs.YtalaljeokcpfnaaGreat
