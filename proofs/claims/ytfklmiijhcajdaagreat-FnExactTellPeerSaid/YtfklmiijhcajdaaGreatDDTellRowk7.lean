/-
  A statement whose order Go leaves open: operations that change nothing that was there may come in any order that their edges allow; the others follow in the order of the text. No statement of the program is proved here.
  Conditions: none.
-/
import Derived.Test.YtfklmiijhcajdaaGreatDDTellRowk6
set_option linter.unusedSimpArgs false
set_option linter.unusedVariables false
namespace Go.Proofs.YtfklmiijhcajdaaGreat
section
open Go.RowKit

def pre (o:Oper):List Nat:=(o.after.toList.filter (Region.binds .any)).map (·.on)
def under (A:List (List Nat)) (ks:List Nat) (j:Nat):Bool:=ks.any fun k=>Nat.beq k j || (A.getD k []).any fun q=>Nat.beq q j
def allB (n:Nat) (f:Nat→Bool):Bool:=(List.range n).all f
theorem X5 {n:Nat} {f:Nat→Bool} (h:allB n f=true) {i:Nat} (hi:i<n):f i=true:=Gqn.1 h i (by simpa using hi)
def preAt (ops:List Oper) (i:Nat):List Nat:=match ops[i]? with | some o=>pre o | none => []
def memN:List Nat→Nat→Bool
 | [],_=>false
 |x::xs,j=>match Nat.beq x j with
  |true=>true
  |false=>memN xs j
theorem Y2:∀ (xs:List Nat) (j:Nat),memN xs j=true↔j∈xs
 | [],j=>by simp[memN]
 | x::xs,j=>by
  rw[memN,List.mem_cons]
  split
  ·rename_i h
   have:=Gxa h
   simp[this]
  ·rename_i h
   rw[Y2 xs j]
   constructor
   ·intro h; exact .inr h
   ·rintro (e | h1)
    ·subst e; rw[show Nat.beq j j=true from Nat.beq_refl j] at h; cases h
    ·exact h1
theorem memN_not {xs:List Nat} {j:Nat} (h:memN xs j=false):j∉xs:=fun hh=>by rw[(Y2 xs j).2 hh] at h; cases h
def srcO:Op→Option Nat
 | .move (.tmp t)=>some t
 | .extract (.tmp t) _=>some t
 |_=>none
def lateB (ops:List Oper) (A:List (List Nat)) (m:Nat):Bool:=match ops[m]? with
 | some o=>match srcO o.op,o.dst with
  |some t,some d=>o.guard.isNone && !Nat.beq t d&&allB ops.length fun j=>Nat.beq j m || match ops[j]? with
   |some oj=>oj.guard.isNone&&(oj.dst != some t || memN (A.getD m []) j)&&oj.dst != some d&&(memN (A.getD j []) m || blindO d oj.op)
   |none=>true
  |_,_=>false
 |none=>false
def drawB (ops:List Oper) (A S M:List (List Nat)) (n:Nat):Bool :=
 allB ops.length (fun i=>(A.getD i []).all (fun j=>under A (preAt ops i) j)&&(preAt ops i).all (fun k=>Nat.blt k i)) &&
 allB ops.length (fun t=>Nat.blt t n || allB t (fun j=>memN (A.getD t []) j || memN (M.getD ops.length []) j)) &&
 allB n (fun i=>allB n fun j=>Nat.beq i j || ((ops[i]?).bind (·.dst) != (ops[j]?).bind (·.dst))) &&
 allB n (fun i=>allB ops.length fun j=>memN (A.getD j []) i || Nat.beq i j || match (ops[j]?).bind (·.dst) with
  |some d=>match memN (S.getD i []) d with
   |true=>memN (A.getD i []) j&&Nat.blt j n
   |false=>memN (M.getD i []) d
  |none=>true) &&
 (M.getD ops.length []).all (fun m=>Nat.blt m n&&lateB ops A m)

structure Hd where
 d:Nat
 x:V
 obs:List Ob
def hdE (ks:List Nat) (r:List (Nat×V)):List Hd→List (Nat×V)
 | []=>r
 |h::hs=>match memN ks h.d with
  |true=>(h.d,h.x)::hdE ks r hs
  |false=>hdE ks r hs
def mskT (ts:List (Nat×V)):List Nat→List (Nat×V)
 | []=>ts
 |d::ds=>(d,U)::mskT ts ds
def hdO (ks:List Nat):List Hd→List Ob→List Ob
 | [],acc=>acc
 |h::r,acc=>hdO ks r ((match memN ks h.d with | true=>h.obs | false=>h.obs.map fun _ => .hole)++acc)
def holes:List Ob:=List.replicate 64 .hole
def finR (ts:List (Nat×V)):List Hd→List (Nat×V)
 | []=>ts
 |h::r=>(h.d,h.x)::finR ts r
def allR:List Hd→List Ob→List Ob
 | [],acc=>acc
 |h::r,acc=>allR r (h.obs++acc)
def allO:List Hd→List Ob
 | [] => []
 |h::r=>h.obs++allO r

inductive DR (P:Program) (E:Env) (l:List Oper) (A S M:List (List Nat)) (Q:Exit→St→Prop) (N:Nat) (ts:List (Nat×V)) (obs:List Ob):List (List Nat)→List (List Nat)→List Hd→Nat→Nat→List Oper→Prop
 |stop {aS mS:List (List Nat)} {done:List Hd} {k c:Nat} {tail:List Oper} (hn:drawB l A S M k=true) (hm:Nat.ble c 64=true) (h:AL P E l.toArray Q tail ⟨N,finR ts done,obs++allR done []⟩):DR P E l A S M Q N ts obs aS mS done k c tail
 | s {a m:List Nat} {aS mS:List (List Nat)} {done:List Hd} {k c:Nat} {o:Oper} {rest:List Oper} {d:Nat} {x:V} {obs1:List Ob} (hq:Qt P l.toArray o ⟨N,hdE a (mskT ts m) done,obs++hdO a done holes⟩ x obs1 (obs.length+c)) (hd:o.dst=some d) (hl:Nat.blt d N=true)
   (h:DR P E l A S M Q N ts obs aS mS (⟨d,x,obs1⟩::done) (k+1) (c+obs1.length) rest):DR P E l A S M Q N ts obs (a::aS) (m::mS) done k c (o::rest)

section
variable {P:Program} {E:Env} {l:List Oper} {A S M:List (List Nat)} {Q:Exit→St→Prop} {N:Nat} {ts:List (Nat×V)} {obs:List Ob}

theorem allO_append:∀ (a b:List Hd),allO (a++b)=allO a++allO b
 | [],b=>rfl
 |h::a,b=>by simp[allO,allO_append a b]
theorem allR_eq:∀ (done:List Hd) (acc:List Ob),allR done acc=allO done.reverse++acc
 | [],acc=>rfl
 |h::done,acc=>by
  rw[allR,allR_eq done,List.reverse_cons,allO_append]
  simp[allO]
theorem finR_eq (ts:List (Nat×V)):∀ (done:List Hd),finR ts done=(done.map fun h=>(h.d,h.x))++ts
 | []=>rfl
 |h::done=>by rw[finR,finR_eq ts done]; rfl

theorem DR.out {aS mS:List (List Nat)} {done:List Hd} {k c:Nat} {rest:List Oper} (h:DR P E l A S M Q N ts obs aS mS done k c rest) (hk:k=done.length) (hc:c=(allO done.reverse).length):∃ hs:List Hd,∃ tail,done.reverse++hs.drop done.length=hs∧done.length≤hs.length∧rest=rest.take (hs.length-done.length)++tail∧(rest.take (hs.length-done.length)).length=hs.length-done.length ∧
  drawB l A S M hs.length=true∧(allO hs).length≤64∧AL P E l.toArray Q tail ⟨N,finR ts hs.reverse,obs++allO hs⟩ ∧
  ∀ (i:Nat) (o:Oper) (hd:Hd),done.length≤i→rest[i-done.length]? = some o→hs[i]? = some hd→∃ a m,aS[i-done.length]? = some a∧mS[i-done.length]? = some m∧o.dst=some hd.d∧hd.d<N∧Qt P l.toArray o ⟨N,hdE a (mskT ts m) (hs.take i).reverse,obs++hdO a (hs.take i).reverse holes⟩ hd.x hd.obs (obs.length+(allO (hs.take i)).length):=by
 induction h with
 | stop hn hm h =>
  rename_i aS mS done k c tail
  subst hk hc
  refine⟨done.reverse,tail,Aqd,Aqd,Aqd,Aqd,by simpa using hn,Gqz hm,?_,fun i o hd h1 _ h3 => ?_⟩
  ·rw[List.reverse_reverse]
   rw[allR_eq,Gq1] at h
   exact h
  ·have:=Yu h3
   simp at this
   omega
 | s hq hd hl h ih =>
  rename_i a m aS mS done k c o rest d x obs1
  subst hk hc
  obtain⟨hs,tail,h1,h2,h3,h3',h4,h5,h6,h7⟩:=ih rfl (by simp[allO_append,allO])
  have hlen:((⟨d,x,obs1⟩:Hd)::done).length=done.length+1:=Aqd
  rw[hlen] at h1 h2 h3 h3' h7
  rw[List.reverse_cons] at h1
  have hat:hs[done.length]? = some ⟨d,x,obs1⟩:=by
   rw[←h1,Gq5,Gqy Aqd]
   simp
  have htk:hs.take done.length=done.reverse:=by
   rw[←h1,Gq5,show done.length=done.reverse.length by simp,List.take_left]
  refine⟨hs,tail,?_,Aqa,?_,?_,h4,h5,h6,fun i o' hd' h8 h9 h10 => ?_⟩
  ·conv=>rhs; rw[←Gxg done.length hs,htk]
  ·rw[show hs.length-done.length=(hs.length-(done.length+1))+1 by omega,List.take_succ_cons,List.cons_append,←h3]
  ·rw[show hs.length-done.length=(hs.length-(done.length+1))+1 by omega,List.take_succ_cons,Gq3,h3']
  ·rcases Nat.eq_or_lt_of_le h8 with e | e
   ·subst e
    rw[Nat.sub_self] at h9 ⊢
    simp only[Gxc,Option.some.injEq] at h9
    subst h9
    rw[hat] at h10
    simp only[Option.some.injEq] at h10
    subst h10
    rw[htk,List.reverse_reverse]
    exact⟨a,m,J,J,hd,Gqz hl,hq⟩
   ·have h11:i-done.length=(i-(done.length+1))+1:=Aqa
    rw[h11,Gxl] at h9 ⊢
    rw[Gxl]
    exact h7 i o' hd' Aqa h9 h10

def Lst (listed:Array Bool) (j:Nat):Prop:=listed.getD j false=true
structure RS (w:World) (H:Hs) (F:Nat→Prop) (N:Nat) (ts:List (Nat×V)) (obs:List Ob) (hs:List Hd) (S:Nat→Prop) (a:Act):Prop where
 ok:Ok w H F
 old:∀ p ob,obs[p]? = some ob→RB w H F p ob
 new:∀ (j:Nat) (h:Hd) (q:Nat) (ob:Ob),S j→hs[j]? = some h→h.obs[q]? = some ob→RB w H F (obs.length+(allO (hs.take j)).length+q) ob
 nil:∀ (j:Nat) (h:Hd) (q:Nat),¬S j→hs[j]? = some h→q<h.obs.length→H (obs.length+(allO (hs.take j)).length+q) = .nil
 out:∀ p,obs.length+(allO hs).length≤p→H p = .nil
 told:∀ d,(∀ (j:Nat) (h:Hd),S j→hs[j]? = some h→h.d≠d)→RV w H F (look ts d) (a.tmps.getD d undef)
 tnew:∀ (j:Nat) (h:Hd),S j→hs[j]? = some h→RV w H F h.x (a.tmps.getD h.d undef)
 size:N=a.tmps.size
 defers:a.defers = []

theorem look_append (l1 l2:List (Nat×V)) (d:Nat):(look (l1++l2) d=look l1 d∧∃ x,(d,x)∈l1∧look l1 d=x)∨(look (l1++l2) d=look l2 d∧∀ x,(d,x)∉l1):=by
 induction l1 with
 |nil=>exact .inr ⟨rfl,Aqd⟩
 | cons e l1 ih =>
  obtain⟨e1,e2⟩:=e
  rw[List.cons_append,Y0,Y0]
  by_cases h:e1=d
  ·subst h
   rw[if_pos rfl,if_pos rfl]
   exact .inl ⟨J,e2,Aqd,J⟩
  ·rw[if_neg h,if_neg h]
   rcases ih with ⟨h1,x,h2,h3⟩ | ⟨h1,h2⟩
   ·exact .inl ⟨h1,x,by simp[h2],h3⟩
   ·exact .inr ⟨h1,fun x hx=>by
     rcases List.mem_cons.1 hx with e | e
     ·cases e; exact h rfl
     ·exact h2 x e⟩

theorem seg_le {hs:List Hd} {j j':Nat} {h:Hd} (hj:hs[j]? = some h) (hlt:j<j'):(allO (hs.take j)).length+h.obs.length≤(allO (hs.take j')).length:=by
 have h1:hs.take j'=hs.take j++(hs.take j').drop j:=by
  conv=>lhs; rw[←Gxg j (hs.take j')]
  rw[List.take_take,Nat.min_eq_left (Nat.le_of_lt hlt)]
 have h2:(hs.take j').drop j=h::(hs.take j').drop (j+1):=by
  have hjl:=Yu hj
  rw[Gxm (by simp; omega)]
  congr 1
  have:=(Gqo.1 hj).2
  simpa using this
 rw[h1,h2,allO_append,allO,Gqp,Gqp]
 omega
theorem seg_tot {hs:List Hd} {j:Nat} {h:Hd} (hj:hs[j]? = some h):(allO (hs.take j)).length+h.obs.length≤(allO hs).length:=by
 have:=seg_le hj (Yu hj)
 rwa[List.take_length] at this
theorem allO_at:∀ (hs:List Hd) (q:Nat) (ob:Ob),(allO hs)[q]? = some ob→∃ j h r,hs[j]? = some h∧h.obs[r]? = some ob∧q=(allO (hs.take j)).length+r
 | [],q,ob,h=>by simp[allO] at h
 | h::hs,q,ob,he=>by
  rw[allO,List.getElem?_append] at he
  split at he
  ·exact⟨0,h,q,rfl,he,by simp[allO]⟩
  ·obtain⟨j,h',r,h1,h2,h3⟩:=allO_at hs _ ob he
   exact⟨j+1,h',r,by simpa using h1,h2,by rw[List.take_succ_cons,allO,Gqp]; omega⟩
def hdF (ks:List Nat):List Hd→List Ob
 | [] => []
 |h::r=>(match memN ks h.d with | true=>h.obs | false=>h.obs.map fun _ => .hole)++hdF ks r
theorem hdF_append (ks:List Nat):∀ (a b:List Hd),hdF ks (a++b)=hdF ks a++hdF ks b
 | [],b=>rfl
 |h::a,b=>by simp[hdF,hdF_append ks a b]
theorem hdO_eq (ks:List Nat):∀ (done:List Hd) (acc:List Ob),hdO ks done acc=hdF ks done.reverse++acc
 | [],acc=>rfl
 |h::done,acc=>by
  rw[hdO,hdO_eq ks done,List.reverse_cons,hdF_append]
  simp[hdF]
theorem hdF_at (ks:List Nat):∀ (hs:List Hd) (q:Nat) (ob:Ob),(hdF ks hs)[q]? = some ob→ob = .hole∨∃ j h r,hs[j]? = some h∧memN ks h.d=true∧h.obs[r]? = some ob∧q=(allO (hs.take j)).length+r
 | [],q,ob,h=>by simp[hdF] at h
 | h::hs,q,ob,he=>by
  have hlen:(match memN ks h.d with | true=>h.obs | false=>h.obs.map fun _=>Ob.hole).length=h.obs.length:=by split <;> simp
  rw[hdF,List.getElem?_append,hlen] at he
  split at he
  ·split at he
   ·rename_i hcA
    exact .inr ⟨0,h,q,J,hcA,he,by simp[allO]⟩
   ·rw[Gqj] at he
    obtain⟨_,_,rfl⟩:=Option.map_eq_some_iff.1 he
    exact .inl J
  ·rcases hdF_at ks hs _ ob he with h1 | ⟨j,h',r,h1,h2,h3,h4⟩
   ·exact .inl h1
   ·exact .inr ⟨j+1,h',r,by simpa using h1,h2,h3,by rw[List.take_succ_cons,allO,Gqp]; omega⟩
theorem hdF_len (ks:List Nat):∀ (hs:List Hd),(hdF ks hs).length=(allO hs).length
 | []=>rfl
 |h::hs=>by
  have hlen:(match memN ks h.d with | true=>h.obs | false=>h.obs.map fun _=>Ob.hole).length=h.obs.length:=by split <;> simp
  rw[hdF,Gqp,hlen,hdF_len ks hs,allO,Gqp]
section ready
variable {ops:Array Oper} {listed:Array Bool}
theorem rdy {i:Nat} (hs:listed.size=ops.size):i∈Region.ready .any ops listed↔i<ops.size∧¬Lst listed i∧∀ k∈preAt ops.toList i,Lst listed k:=by
 unfold Region.ready
 rw[List.mem_filter,List.mem_range]
 constructor
 ·rintro⟨h1,h2⟩
  rw[Gqi] at h2
  obtain⟨h2,h3⟩:=h2
  refine⟨h1,fun hl => ?_,fun k hk => ?_⟩
  ·unfold Lst at hl
   rw[Gq0,Gq6 Aqa] at hl h2
   simp at hl h2
   rw[hl] at h2
   cases h2
  ·have h4:ops[i]? = some ops[i]:=Gq6 h1
   rw[h4] at h3
   simp only[Gq2,Option.getD_some] at h3
   unfold preAt at hk
   have h5:ops.toList[i]? = some ops[i]:=by simp[h1]
   rw[h5] at hk
   obtain⟨e,he,rfl⟩:=Gqv.1 hk
   obtain⟨he1,he2⟩:=List.mem_filter.1 he
   have h6:=Array.all_eq_true_iff_forall_mem.1 h3 e (by simpa using he1)
   rw[he2] at h6
   simpa[Lst] using h6
 ·rintro⟨h1,h2,h3⟩
  refine⟨h1,?_⟩
  rw[Gqi]
  constructor
  ·unfold Lst at h2
   rw[Gq0,Gq6 Aqa] at h2 ⊢
   simpa using h2
  ·have h4:ops[i]? = some ops[i]:=Gq6 h1
   rw[h4]
   simp only[Gq2,Option.getD_some]
   rw[Array.all_eq_true_iff_forall_mem]
   intro e he
   cases hb:Region.binds .any e with
   |false=>rfl
   | true =>
    have h5:ops.toList[i]? = some ops[i]:=by simp[h1]
    have h6:=h3 e.on (by
     unfold preAt
     rw[h5]
     exact Gqv.2 ⟨e,List.mem_filter.2 ⟨by simpa using he,hb⟩,J⟩)
    simpa[Lst] using h6
theorem Y1 {i j:Nat} (hi:i<listed.size):Lst (listed.setIfInBounds i true) j↔Lst listed j∨j=i:=by
 unfold Lst
 by_cases e:i=j
 ·subst e
  simp[Gq0,hi]
 ·simp only[Gq0,Array.getElem?_setIfInBounds_ne e]
  constructor
  ·intro h; exact .inl h
  ·rintro (h | h)
   ·exact h
   ·exact absurd h.symm e
end ready

def Clo (l:List Oper) (listed:Array Bool):Prop:=∀ i,Lst listed i→∀ k∈preAt l i,Lst listed k

structure Chk (l:List Oper) (A S M:List (List Nat)) (n:Nat):Prop where
 anc:∀ i,i<l.length→∀ j∈A.getD i [],∃ k∈preAt l i,k=j∨j∈A.getD k []
 down:∀ i,i<l.length→∀ k∈preAt l i,k<i
 tail:∀ t,t<l.length→n≤t→∀ j,j<t→j∈A.getD t []∨j∈M.getD l.length []
 late:∀ m∈M.getD l.length [],m<n∧lateB l A m=true
 uniq:∀ i j,i<n→j<n→i≠j→(l[i]?).bind (·.dst)≠(l[j]?).bind (·.dst)
 msk:∀ i j d,i<n→j<l.length→i∉A.getD j []→i≠j→(l[j]?).bind (·.dst)=some d→(d∈S.getD i []∧j∈A.getD i []∧j<n)∨(memN (S.getD i []) d=false∧d∈M.getD i [])
theorem drawB_spec {n:Nat} (h:drawB l A S M n=true):Chk l A S M n:=by
 unfold drawB at h
 simp only[Gqi] at h
 obtain⟨⟨⟨⟨h1,h2⟩,h3⟩,h3'⟩,hlt⟩:=h
 refine⟨fun i hi j hj => ?_,fun i hi k hk => ?_,fun t ht hn j hj => ?_,fun m hm => ?_,fun i j hi hj hne => ?_,fun i j d hi hj hB hne hd => ?_⟩
 ·have h4:=X5 h1 hi
  rw[Gqi] at h4
  have h5:=Gqn.1 h4.1 j hj
  unfold under at h5
  obtain⟨k,hk,h6⟩:=List.any_eq_true.1 h5
  refine⟨k,hk,?_⟩
  rw[Gqr] at h6
  rcases h6 with h6 | h6
  ·exact .inl (Gxa h6)
  ·obtain⟨q,hq,h7⟩:=List.any_eq_true.1 h6
   have:=Gxa h7
   subst this
   exact .inr hq
 ·have h4:=X5 h1 hi
  rw[Gqi] at h4
  exact Gqz (Gqn.1 h4.2 k hk)
 ·have h4:=X5 h2 ht
  rw[Gqr] at h4
  rcases h4 with h4 | h4
  ·have:=Gqz h4; omega
  ·have h5:=X5 h4 hj
   rw[Gqr] at h5
   exact h5.imp (Y2 _ _).1 (Y2 _ _).1
 ·have h4:=Gqn.1 hlt m hm
  rw[Gqi] at h4
  exact⟨Gqz h4.1,h4.2⟩
 ·have h4:=X5 (X5 h3 hi) hj
  rw[Gqr] at h4
  rcases h4 with h4 | h4
  ·exact absurd (Gxa h4) hne
  ·simpa using h4
 ·have h4:=X5 (X5 h3' hi) hj
  rw[hd] at h4
  simp only[Gqr] at h4
  rcases h4 with (h4 | h4) | h4
  ·exact absurd ((Y2 _ _).1 h4) hB
  ·exact absurd (Gxa h4) hne
  ·split at h4
   ·rename_i hS
    rw[Gqi] at h4
    exact .inl ⟨(Y2 _ _).1 hS,(Y2 _ _).1 h4.1,Gqz h4.2⟩
   ·rename_i hS
    exact .inr ⟨hS,(Y2 _ _).1 h4⟩

theorem Ya {n:Nat} (hc:Chk l A S M n) {listed:Array Bool} (hcl:Clo l listed):∀ (i:Nat),i<l.length→(∀ k∈preAt l i,Lst listed k)→∀ j∈A.getD i [],Lst listed j∧j<i:=by
 intro i
 induction i using Nat.strongRecOn with
 | _ i ih =>
  intro hi hp j hj
  obtain⟨k,hk,h1⟩:=hc.anc i hi j hj
  have hki:=hc.down i hi k hk
  rcases h1 with rfl | h1
  ·exact⟨hp _ hk,hki⟩
  ·have h2:=ih k hki Aqa (hcl k (hp k hk)) j h1
   exact⟨h2.1,Aqa⟩
theorem min_ready {listed:Array Bool} {n:Nat} (hc:Chk l A S M n) (hs:listed.size=l.length):(∃ i,i<l.length∧¬Lst listed i)→∃ i,i<l.length∧¬Lst listed i∧∀ k∈preAt l i,Lst listed k:=by
 rintro⟨i,hi,hn⟩
 induction i using Nat.strongRecOn with
 | _ i ih =>
  by_cases h:∀ k∈preAt l i,Lst listed k
  ·exact⟨i,hi,hn,h⟩
  ·simp only[Classical.not_forall] at h
   obtain⟨k,hk,h1⟩:=h
   have hki:=hc.down i hi k hk
   exact ih k hki Aqa h1

theorem tail_any {n:Nat} (hc:Chk l A S M n) {Q':Exit→Act→World→Prop}:∀ (tl:List Oper) (t:Nat) (listed:Array Bool) (a:Act) (w:World),n≤t→t+tl.length=l.length→tl=l.drop t→listed.size=l.length→(∀ j,j<l.length→(Lst listed j↔j<t))→Clo l listed →
  wpList P l.toArray Q' tl a w→wpAny P .any l.toArray Q' tl.length listed a w
 | [],t,listed,a,w,hnt,hlen,htl,hsz,hls,hcl,h=>by
  refine⟨?_,h⟩
  apply List.eq_nil_iff_forall_not_mem.2
  intro i hi
  obtain⟨h1,h2,_⟩:=(rdy (ops:=l.toArray) (by simpa using hsz)).1 hi
  simp at h1 hlen
  exact h2 ((hls i h1).2 Aqa)
 | o::tl,t,listed,a,w,hnt,hlen,htl,hsz,hls,hcl,h=>by
  have htlt:t<l.length:=by simp at hlen; omega
  have hcons:=htl
  rw[Gxm htlt] at hcons
  simp only[List.cons.injEq] at hcons
  obtain⟨ho,htl'⟩:=hcons
  have hdown:=hc.down t htlt
  have htr:t∈Region.ready .any l.toArray listed:=(rdy (ops:=l.toArray) (by simpa using hsz)).2 ⟨by simpa using htlt,fun hh=>by have:=(hls t htlt).1 hh; omega,fun k hk=>(hls k (by have:=hdown k hk; omega)).2 (hdown k hk)⟩
  refine⟨fun e=>by rw[e] at htr; simp at htr,fun i hi => ?_⟩
  obtain⟨h1,h2,h3⟩:=(rdy (ops:=l.toArray) (by simpa using hsz)).1 hi
  have h1':i<l.length:=by simpa using h1
  have hge:t≤i:=Nat.le_of_not_lt fun hh=>h2 ((hls i h1').2 hh)
  have hit:i=t:=by
   rcases Nat.eq_or_lt_of_le hge with e | e
   ·exact e.symm
   ·rcases hc.tail i h1' Aqa t e with h5 | h5
    ·have h4:=(Ya hc hcl i h1' (by simpa using h3) t h5).1
     have:=(hls t htlt).1 h4
     omega
    ·have:=(hc.late t h5).1; omega
  subst hit
  have hoi:l.toArray[i]? = some o:=by
   rw[ho]
   simp[htlt]
  unfold wpOp
  simp only[hoi]
  have hrec:∀ a' w',wpList P l.toArray Q' tl a' w'→wpAny P .any l.toArray Q' tl.length (listed.setIfInBounds i true) a' w':=fun a' w' h'=>by
   refine tail_any hc tl (i+1) _ a' w' Aqa (by simp at hlen ⊢; omega) htl' (by simpa using hsz) (fun j hj => ?_) (fun j hj k hk => ?_) h'
   ·rw[Y1 Aqa,hls j hj]
    omega
   ·rw[Y1 Aqa] at hj ⊢
    rcases hj with hj | rfl
    ·exact .inl (hcl j hj k hk)
    ·exact .inl ((hls k (by have:=hdown k hk; omega)).2 (hdown k hk))
  unfold wpList at h
  split
  ·rename_i hw
   rw[if_pos hw] at h
   exact h.imp (Oper.wp_mono fun a' w' h'=>hrec a' w' h') id
  ·rename_i hw
   rw[if_neg hw] at h
   exact hrec _ _ h

structure Heads (P:Program) (l:List Oper) (A S M:List (List Nat)) (N:Nat) (ts:List (Nat×V)) (obs:List Ob) (hs:List Hd):Prop where
 chk:Chk l A S M hs.length
 max:(allO hs).length≤64
 le:hs.length≤l.length
 qt:∀ (i:Nat) (o:Oper) (h:Hd),l[i]? = some o→hs[i]? = some h→o.dst=some h.d∧h.d<N∧Qt P l.toArray o ⟨N,hdE (S.getD i []) (mskT ts (M.getD i [])) (hs.take i).reverse,obs++hdO (S.getD i []) (hs.take i).reverse holes⟩ h.x h.obs (obs.length+(allO (hs.take i)).length)

section
variable {hs:List Hd} {w w':World} {H H':Hs} {F F':Nat→Prop} {a:Act}

theorem Heads.uniq (hh:Heads P l A S M N ts obs hs) {i j:Nat} {g h:Hd} (hi:hs[i]? = some g) (hj:hs[j]? = some h) (hne:i≠j):g.d≠h.d:=by
 have h1:=Yu hi
 have h2:=Yu hj
 have hle:=hh.le
 have h3:=hh.qt i _ g (Gqf (show i<l.length by omega)) hi
 have h4:=hh.qt j _ h (Gqf (show j<l.length by omega)) hj
 have h5:=hh.chk.uniq i j h1 h2 hne
 rw[Gqf (show i<l.length by omega),Gqf (show j<l.length by omega)] at h5
 simp only[Option.bind_some,h3.1,h4.1] at h5
 intro e
 exact h5 (by rw[e])

theorem RS.r0 (hh:Heads P l A S M N ts obs hs) {listed:Array Bool} (hsz:listed.size=l.length) (hcl:Clo l listed) (hr:RS w H F N ts obs hs (Lst listed) a) {i:Nat} {g:Hd} (hg:hs[i]? = some g) (hi:¬Lst listed i) (hp:∀ k∈preAt l i,Lst listed k) :
  R0 w H F ⟨N,hdE (S.getD i []) (mskT ts (M.getD i [])) (hs.take i).reverse,obs++hdO (S.getD i []) (hs.take i).reverse holes⟩ a:=by
 have hil:=Yu hg
 have hle:=hh.le
 have hanc:=Ya hh.chk hcl i Aqa hp
 -- what is leant on has come
 have hmem:∀ (j:Nat) (h:Hd),j<i→hs[j]? = some h→memN (S.getD i []) h.d=true→Lst listed j:=by
  intro j h hj hjh hm
  have h8:=hh.qt j _ h (Gqf (show j<l.length by omega)) hjh
  have hnd:i∉A.getD j []:=fun hb=>by
   by_cases hlj:∀ k∈preAt l j,Lst listed k
   ·exact hi (Ya hh.chk hcl j Aqa hlj i hb).1
   ·have:∀ q,q<l.length→∀ z∈A.getD q [],z<q:=by
     intro q
     induction q using Nat.strongRecOn with
     |_ q ih =>
      intro hq z hz
      obtain⟨k,hk,h1⟩:=hh.chk.anc q hq z hz
      have hkq:=hh.chk.down q hq k hk
      rcases h1 with rfl | h1
      ·exact hkq
      ·have:=ih k hkq Aqa z h1; omega
    have:=this j Aqa i hb
    omega
  rcases hh.chk.msk i j h.d hil Aqa hnd Aqa (by rw[Gqf (show j<l.length by omega)]; simp[h8.1]) with h1 | h1
  ·exact (hanc j h1.2.1).1
  ·rw[h1.1] at hm; cases hm
 refine⟨hr.ok,fun p => ?_,fun d => ?_,hr.size,hr.defers⟩
 ·rw[hdO_eq,List.reverse_reverse]
  show RB w H F p ((obs++(hdF (S.getD i []) (hs.take i)++holes)).getD p .gone)
  rcases Gqq p obs.length with h1 | h1
  ·rw[show (obs++(hdF (S.getD i []) (hs.take i)++holes)).getD p .gone=obs[p] by simp[Gqg,Gqw h1,h1]]
   exact hr.old p _ (Gqf h1)
  ·rw[show (obs++(hdF (S.getD i []) (hs.take i)++holes)).getD p .gone=(hdF (S.getD i []) (hs.take i)++holes).getD (p-obs.length) .gone by simp[Gqg,Gqy h1]]
   cases ho:(hdF (S.getD i []) (hs.take i)++holes)[p-obs.length]? with
   |none =>
    rw[Gqg,ho]
    refine hr.out p ?_
    have h2:=List.getElem?_eq_none_iff.1 ho
    have h3:holes.length=64:=by simp[holes]
    rw[Gqp,hdF_len,h3] at h2
    have:=hh.max
    omega
   | some ob =>
    rw[Yt ho]
    rw[List.getElem?_append] at ho
    split at ho
    ·rcases hdF_at _ _ _ ob ho with rfl | ⟨j,h,r,h2,h3,h4,h5⟩
     ·trivial
     ·have hj:j<i:=by have:=Yu h2; simp at this; omega
      have h2':hs[j]? = some h:=by rwa[Gxf,if_pos hj] at h2
      rw[List.take_take,Nat.min_eq_left (Nat.le_of_lt hj)] at h5
      have h6:=hr.new j h r ob (hmem j h hj h2' h3) h2' h4
      rwa[show obs.length+(allO (hs.take j)).length+r=p by omega] at h6
    ·unfold holes at ho
     rw[List.getElem?_replicate] at ho
     split at ho
     ·simp only[Option.some.injEq] at ho
      subst ho
      trivial
     ·cases ho
 ·have key:∀ (done:List Hd) (r:List (Nat×V)),(∃ h∈done,memN (S.getD i []) h.d=true∧h.d=d∧look (hdE (S.getD i []) r done) d=h.x)∨(look (hdE (S.getD i []) r done) d=look r d∧∀ h∈done,memN (S.getD i []) h.d=true→h.d≠d):=by
   intro done
   induction done with
   |nil=>intro r; exact .inr ⟨rfl,fun h hj=>by simp at hj⟩
   | cons g' done ih =>
    intro r
    simp only[hdE]
    cases hm:memN (S.getD i []) g'.d with
    | true =>
     simp only
     rw[Y0]
     by_cases hd:g'.d=d
     ·rw[if_pos hd]
      exact .inl ⟨g',Aqd,hm,hd,J⟩
     ·rw[if_neg hd]
      rcases ih r with ⟨h,h1,h2,h3,h4⟩ | ⟨h1,h2⟩
      ·exact .inl ⟨h,by simp[h1],h2,h3,h4⟩
      ·refine .inr ⟨h1,fun h hj hmm => ?_⟩
       rcases List.mem_cons.1 hj with rfl | hj
       ·exact hd
       ·exact h2 h hj hmm
    | false =>
     simp only
     rcases ih r with ⟨h,h1,h2,h3,h4⟩ | ⟨h1,h2⟩
     ·exact .inl ⟨h,by simp[h1],h2,h3,h4⟩
     ·refine .inr ⟨h1,fun h hj hmm => ?_⟩
      rcases List.mem_cons.1 hj with rfl | hj
      ·rw[hm] at hmm; cases hmm
      ·exact h2 h hj hmm
  have key2:∀ (ds:List Nat),look (mskT ts ds) d=U∨(look (mskT ts ds) d=look ts d∧d∉ds):=by
   intro ds
   induction ds with
   |nil=>exact .inr ⟨rfl,Aqd⟩
   | cons e ds ih =>
    simp only[mskT]
    rw[Y0]
    by_cases hd:e=d
    ·rw[if_pos hd]; exact .inl rfl
    ·rw[if_neg hd]
     rcases ih with h | ⟨h1,h2⟩
     ·exact .inl h
     ·exact .inr ⟨h1,fun hh=>by
       rcases List.mem_cons.1 hh with h3 | h3
       ·exact hd h3.symm
       ·exact h2 h3⟩
  show RV w H F (look (hdE (S.getD i []) (mskT ts (M.getD i [])) (hs.take i).reverse) d) _
  rcases key (hs.take i).reverse (mskT ts (M.getD i [])) with ⟨h,h1,h2,h3,h4⟩ | ⟨h1,h2⟩
  ·rw[h4]
   obtain⟨j,hj⟩:=List.getElem?_of_mem (List.mem_reverse.1 h1)
   have hj':j<i:=by have:=Yu hj; simp at this; omega
   rw[Gxf,if_pos hj'] at hj
   have:=hr.tnew j h (hmem j h hj' hj h2) hj
   rwa[h3] at this
  ·rw[h1]
   rcases key2 (M.getD i []) with h3 | ⟨h3,h4⟩
   ·rw[h3]; trivial
   ·rw[h3]
    refine hr.told d fun j h hS hj e => ?_
    have hjl:=Yu hj
    have hji:j≠i:=fun e=>hi (e▸hS)
    by_cases hB:i∈A.getD j []
    ·exact hi (Ya hh.chk hcl j Aqa (hcl j hS) i hB).1
    ·have h8:=hh.qt j _ h (Gqf (show j<l.length by omega)) hj
     rcases hh.chk.msk i j d hil Aqa hB (Ne.symm hji) (by rw[Gqf (show j<l.length by omega)]; simp[h8.1,e]) with h9 | h9
     ·have hlt:=(hanc j h9.2.1).2
      exact h2 h (List.mem_reverse.2 (Yv (i:=j) (by rw[Gxf,if_pos hlt,hj]))) (by rw[e]; exact (Y2 _ _).2 h9.1) e
     ·exact h4 h9.2

theorem rb_grow {p:Nat} {ob:Ob} (g:Grow w H F w' H' F') (hno:H p = .nil→H' p = .nil) (h:RB w H F p ob):RB w' H' F' p ob:=by
 by_cases hn:H p = .nil
 ·cases ob with
  |gone=>exact hno hn
  |hole=>trivial
  |box cs=>obtain⟨_,_,_,e,_⟩:=h; rw[hn] at e; cases e
  |row k es=>obtain⟨_,_,e⟩:=h; rw[hn] at e; cases e
  |gh i x=>obtain⟨_,e,_⟩:=h; rw[hn] at e; cases e
  |lk x y=>obtain⟨_,e,_⟩:=h; rw[hn] at e; cases e
 ·exact g.rb hn h

theorem RS.step (hh:Heads P l A S M N ts obs hs) {S':Nat→Prop} (hr:RS w H F N ts obs hs S' a) {i:Nat} {g:Hd} (hg:hs[i]? = some g) (hdN:g.d<N) {v:Value} (gr:Grow w H F w' H' F') (hok:Ok w' H' F')
  (hob:∀ q ob,g.obs[q]? = some ob→RB w' H' F' (obs.length+(allO (hs.take i)).length+q) ob) (hno:∀ p,H p = .nil→(p<obs.length+(allO (hs.take i)).length∨obs.length+(allO (hs.take i)).length+g.obs.length≤p)→H' p = .nil) (hv:RV w' H' F' g.x v) :
  RS w' H' F' N ts obs hs (fun j=>S' j∨j=i) (a.put (some g.d) v):=by
 have hap:∀ (j:Nat) (h:Hd),hs[j]? = some h→j≠i→∀ q,q<h.obs.length→H (obs.length+(allO (hs.take j)).length+q) = .nil→H' (obs.length+(allO (hs.take j)).length+q) = .nil:=by
  intro j h hj hne q hq hn
  refine hno _ hn ?_
  rcases Nat.lt_or_gt_of_ne hne with hlt | hlt
  ·have:=seg_le hj hlt; omega
  ·have:=seg_le hg hlt; omega
 have hsame:∀ d,d≠g.d→(a.put (some g.d) v).tmps.getD d undef=a.tmps.getD d undef:=fun d hd=>by
  simp[Act.put,Array.getElem?_setIfInBounds_ne (Ne.symm hd)]
 have hself:(a.put (some g.d) v).tmps.getD g.d undef=v:=by
  have:=hr.size
  simp[Act.put,show g.d<a.tmps.size by omega]
 refine⟨hok,fun p ob hp => ?_,fun j h q ob hS hj hq => ?_,fun j h q hS hj hq => ?_,fun p hp => ?_,fun d hd => ?_,fun j h hS hj => ?_,by simpa[Act.put] using hr.size,hr.defers⟩
 ·exact rb_grow gr (fun hn=>hno p hn (.inl (by have:=Yu hp; omega))) (hr.old p ob hp)
 ·by_cases e:j=i
  ·subst e
   rw[hj] at hg
   simp only[Option.some.injEq] at hg
   subst hg
   exact hob q ob hq
  ·rcases hS with hS | hS
   ·exact rb_grow gr (hap j h hj e q (Yu hq)) (hr.new j h q ob hS hj hq)
   ·exact absurd hS e
 ·have hne:j≠i:=fun e=>hS (.inr e)
  exact hap j h hj hne q hq (hr.nil j h q (fun h=>hS (.inl h)) hj hq)
 ·have:=seg_tot hg
  exact hno p (hr.out p hp) (.inr Aqa)
 ·have hdg:g.d≠d:=hd i g (.inr rfl) hg
  rw[hsame d (Ne.symm hdg)]
  exact gr.rv (hr.told d fun j h hS hj=>hd j h (.inl hS) hj)
 ·by_cases e:j=i
  ·subst e
   rw[hj] at hg
   simp only[Option.some.injEq] at hg
   subst hg
   rw[hself]
   exact hv
  ·rcases hS with hS | hS
   ·rw[hsame _ (hh.uniq hj hg e)]
    exact gr.rv (hr.tnew j h hS hj)
   ·exact absurd hS e

theorem RS.fin (hh:Heads P l A S M N ts obs hs) {S':Nat→Prop} (hr:RS w H F N ts obs hs S' a) (hS:∀ j,j<hs.length→S' j):R0 w H F ⟨N,finR ts hs.reverse,obs++allO hs⟩ a:=by
 refine⟨hr.ok,fun p => ?_,fun d => ?_,hr.size,hr.defers⟩
 ·show RB w H F p ((obs++allO hs).getD p .gone)
  rcases Gqq p obs.length with h1 | h1
  ·rw[show (obs++allO hs).getD p .gone=obs[p] by simp[Gqg,Gqw h1,h1]]
   exact hr.old p _ (Gqf h1)
  ·rw[show (obs++allO hs).getD p .gone=(allO hs).getD (p-obs.length) .gone by simp[Gqg,Gqy h1]]
   cases ho:(allO hs)[p-obs.length]? with
   |none =>
    rw[Gqg,ho]
    have h2:=List.getElem?_eq_none_iff.1 ho
    exact hr.out p Aqa 
   |some ob =>
    rw[Yt ho]
    obtain⟨j,h,r,h2,h3,h4⟩:=allO_at hs _ ob ho
    have h6:=hr.new j h r ob (hS j (Yu h2)) h2 h3
    rwa[show obs.length+(allO (hs.take j)).length+r=p by omega] at h6
 ·show RV w H F (look (finR ts hs.reverse) d) _
  rw[finR_eq]
  rcases look_append (hs.reverse.map fun h=>(h.d,h.x)) ts d with ⟨h1,x,h2,h3⟩ | ⟨h1,h2⟩
  ·rw[h1,h3]
   obtain⟨h,h4,h5⟩:=Gqv.1 h2
   simp only[Prod.mk.injEq] at h5
   obtain⟨rfl,rfl⟩:=h5
   obtain⟨j,hj⟩:=List.getElem?_of_mem (List.mem_reverse.1 h4)
   exact hr.tnew j h (hS j (Yu hj)) hj
  ·rw[h1]
   exact hr.told d fun j h _ hj e=>h2 h.x (Gqv.2 ⟨h,List.mem_reverse.2 (Yv hj),by rw[e]⟩)

theorem cnt_set {n i:Nat} {listed:Array Bool} (hin:i<n) (hsz:i<listed.size) (h2:¬Lst listed i):((List.range n).filter fun j => !(listed.setIfInBounds i true).getD j false).length+1=((List.range n).filter fun j => !listed.getD j false).length:=by
 have h8:∀ (L:List Nat),L.Nodup→(L.filter fun j => !(listed.setIfInBounds i true).getD j false).length+(if i∈L then 1 else 0)=(L.filter fun j => !listed.getD j false).length:=by
  intro L hL
  induction L with
  |nil=>simp
  | cons b L ihL =>
   obtain⟨hb1,hb2⟩:=Gxb.1 hL
   have h9:=ihL hb2
   by_cases e:b=i
   ·subst e
    have hx1:(listed.setIfInBounds b true).getD b false=true:=(Y1 (listed:=listed) (i:=b) (j:=b) Aqa).2 (.inr rfl)
    have hx2:listed.getD b false=false:=by
     cases hb:listed.getD b false
     ·rfl
     ·exact absurd hb h2
    rw[List.filter_cons,List.filter_cons,hx1,hx2]
    rw[if_neg hb1] at h9
    simp at h9 ⊢
    omega
   ·have hx:(listed.setIfInBounds i true).getD b false=listed.getD b false:=by
     simp[Gq0,Array.getElem?_setIfInBounds_ne (Ne.symm e)]
    rw[List.filter_cons,List.filter_cons,hx]
    have hmem:(i∈b::L)↔i∈L:=by simp[Ne.symm e]
    rw[show (if i∈b::L then 1 else 0)=(if i∈L then 1 else 0) by simp[hmem]]
    split
    ·simp only[Gq3]; omega
    ·exact h9
 have h9:=h8 (List.range n) List.nodup_range
 rwa[if_pos (by simpa using hin)] at h9
theorem lateB_spec {m:Nat} (h:lateB l A m=true):∃ o t d,l[m]? = some o∧srcO o.op=some t∧o.dst=some d∧o.guard=none∧t≠d ∧
  ∀ j oj,j≠m→l[j]? = some oj→oj.guard=none∧(oj.dst≠some t∨j∈A.getD m [])∧oj.dst≠some d∧(m∈A.getD j []∨blindO d oj.op=true):=by
 unfold lateB at h
 split at h
 ·rename_i o hl
  split at h
  ·rename_i t d ho hd
   simp only[Gqi] at h
   obtain⟨⟨h1,h3⟩,h4⟩:=h
   refine⟨o,t,d,hl,ho,hd,by simpa using h1,fun e => ?_,fun j oj hj hoj => ?_⟩
   ·subst e
    rw[show Nat.beq t t=true from Nat.beq_refl t] at h3
    cases h3
   ·have h5:=X5 h4 (Yu hoj)
    rw[hoj,Gqr] at h5
    rcases h5 with h5 | h5
    ·exact absurd (Gxa h5) hj
    ·simp only[Gqi] at h5
     obtain⟨⟨⟨h6,h7⟩,h8⟩,h9⟩:=h5
     refine⟨by simpa using h6,?_,by simpa using h8,?_⟩
     ·rw[Gqr] at h7
      exact h7.imp (fun h=>by simpa using h) (Y2 _ _).1
     ·rw[Gqr] at h9
      exact h9.imp (Y2 _ _).1 id
  ·cases h
 ·cases h
theorem srcO_exec {o:Oper} {t:Nat} (h:srcO o.op=some t):∀ r r':Operand→Value,r (.tmp t)=r' (.tmp t)→execOp r o=execOp r' o:=fun r r' e=>by
 unfold srcO at h
 split at h
 ·rename_i ho; cases h; simp only[execOp,ho,e]
 ·rename_i ho; cases h; simp only[execOp,ho,e]
 ·cases h
theorem srcO_run {o:Oper} {t:Nat} (h:srcO o.op=some t) (r:Operand→Value):(∃ v,∀ w,(execOp r o).run P w = .ok (.value v) w)∨∀ w,∃ x,(execOp r o).run P w = .halt (.stuck x) w:=by
 unfold srcO at h
 split at h
 ·rename_i ho; exact .inl ⟨r (.tmp t),fun w=>by cases h; simp[execOp,ho]⟩
 ·rename_i t' i ho
  cases h
  simp only[execOp,ho,Instr.extract]
  cases r (.tmp t) with
  |tuple vs =>
   cases hi:vs[i]? with
   |some v=>exact .inl ⟨v,fun w=>by simp[hi]⟩
   |none=>exact .inr fun w=>⟨_,by simp[hi]; rfl⟩
  |_=>exact .inr fun w=>⟨_,rfl⟩
 ·cases h
theorem set_comm {x:Array Bool} {i j:Nat}:(x.setIfInBounds i true).setIfInBounds j true=(x.setIfInBounds j true).setIfInBounds i true:=by
 by_cases h:i=j
 ·rw[h]
 ·exact Array.setIfInBounds_comm _ _ h
theorem hoist {n:Nat} (hc:Chk l A S M n) {m t d:Nat} {o:Oper} (hlm:l[m]? = some o) (ho:∀ r r':Operand→Value,r (.tmp t)=r' (.tmp t)→execOp r o=execOp r' o) (hd:o.dst=some d) (hg:o.guard=none)
  (hot:∀ j oj,j≠m→l[j]? = some oj→oj.guard=none∧(oj.dst≠some t∨j∈A.getD m [])∧oj.dst≠some d∧(m∈A.getD j []∨blindO d oj.op=true)) {Q':Exit→Act→World→Prop} (hQ:∀ c a w,¬Q' (.panic c) a w) :
  ∀ (f:Nat) (listed:Array Bool) (a:Act) (w:World) (u:Value),(∀ w,(execOp a.eval o).run P w = .ok (.value u) w)→listed.size=l.length→Clo l listed→¬Lst listed m→(∀ k∈preAt l m,Lst listed k)→wpAny P .any l.toArray Q' f (listed.setIfInBounds m true) (a.put (some d) u) w→wpAny P .any l.toArray Q' (f+1) listed a w:=by
 have hml:=Yu hlm
 have hmr:∀ (listed:Array Bool),listed.size=l.length→¬Lst listed m→(∀ k∈preAt l m,Lst listed k)→m∈Region.ready .any l.toArray listed:=fun listed hsz hm hp =>
  (rdy (ops:=l.toArray) (by simpa using hsz)).2 ⟨by simpa using hml,hm,by simpa using hp⟩
 have hmm:∀ (f:Nat) (listed:Array Bool) (a:Act) (w:World) (u:Value),(∀ w,(execOp a.eval o).run P w = .ok (.value u) w)→wpAny P .any l.toArray Q' f (listed.setIfInBounds m true) (a.put (some d) u) w→wpOp P l.toArray Q' m (wpAny P .any l.toArray Q' f (listed.setIfInBounds m true)) a w:=fun f listed a w u hu h=>by
  unfold wpOp
  have:l.toArray[m]? = some o:=by simp[hlm]
  rw[this]
  simp only[]
  rw[if_pos (by unfold Region.wanted; rw[hg])]
  refine .inl ?_
  unfold Oper.wp
  rw[hu w,Oper.upon_value,hd]
  exact h
 have hre:∀ (listed:Array Bool) (i:Nat),listed.size=l.length→i≠m→i∈Region.ready .any l.toArray listed→i∈Region.ready .any l.toArray (listed.setIfInBounds m true):=fun listed i hsz him hi=>by
  obtain⟨h1,h2,h3⟩:=(rdy (ops:=l.toArray) (by simpa using hsz)).1 hi
  refine (rdy (ops:=l.toArray) (by simpa using hsz)).2 ⟨h1,fun h => ?_,fun k hk=>(Y1 Aqa).2 (.inl (h3 k hk))⟩
  rcases (Y1 Aqa).1 h with h | h
  ·exact h2 h
  ·exact him h
 intro f
 induction f with
 | zero =>
  intro listed a w u hu hsz hcl hm hp h
  refine⟨fun e => ?_,fun i hi => ?_⟩
  ·have:=hmr listed hsz hm hp
   rw[e] at this
   simp at this
  ·by_cases him:i=m
   ·subst him
    exact hmm 0 listed a w u hu h
   ·have:=hre listed i hsz him hi
    rw[h.1] at this
    simp at this
 | succ f ih =>
  intro listed a w u hu hsz hcl hm hp h
  refine⟨fun e => ?_,fun i hi => ?_⟩
  ·have:=hmr listed hsz hm hp
   rw[e] at this
   simp at this
  ·by_cases him:i=m
   ·subst him
    exact hmm _ listed a w u hu h
   ·have h1:=h.2 i (hre listed i hsz him hi)
    obtain⟨k1,k2,k3⟩:=(rdy (ops:=l.toArray) (by simpa using hsz)).1 hi
    have k1':i<l.length:=by simpa using k1
    have hoi:l[i]? = some l[i]:=Gqf k1'
    obtain⟨g1,g2,g3,g4⟩:=hot i _ him hoi
    have hbl:blindO d (l[i]).op=true:=by
     rcases g4 with g4 | g4
     ·exact absurd (Ya hc hcl i k1' (by simpa using k3) m g4).1 hm
     ·exact g4
    have hoi':l.toArray[i]? = some l[i]:=by simp[k1']
    unfold wpOp at h1 ⊢
    rw[hoi'] at h1 ⊢
    simp only[] at h1 ⊢
    rw[if_pos (by unfold Region.wanted; rw[g1])] at h1 ⊢
    have g2:(l[i]).dst≠some t:=g2.resolve_right fun hh=>k2 (Ya hc hcl m hml hp i hh).1
    have he:execOp (a.put (some d) u).eval l[i]=execOp a.eval l[i]:=exec_blind hbl fun x hx=>eval_put hx
    refine h1.imp (wp_blind hQ hbl g3 fun v D w' hK2 => ?_) fun hh=>⟨?_,hh.2⟩
    ·refine ih _ _ w' u (fun w2 => ?_) (by simpa using hsz) (fun j hj k hk => ?_) (fun hh => ?_) (fun k hk=>(Y1 Aqa).2 (.inl (hp k hk))) ?_
     ·rw[ho _ a.eval (eval_put_tmp (a:={ a with defers:=D }) g2)]
      exact hu w2
     ·rw[Y1 Aqa] at hj ⊢
      rcases hj with hj | rfl
      ·exact .inl (hcl j hj k hk)
      ·exact .inl (by simpa using k3 k hk)
     ·rcases (Y1 Aqa).1 hh with hh | hh
      ·exact hm hh
      ·exact him hh.symm
     ·rw[set_comm]
      have e2:=put_comm' (a:={ a with defers:=D }) (u:=u) (v:=v) g3
      rw[←e2]
      exact hK2
    ·have h2:=hh.1
     unfold Oper.asks at h2 ⊢
     rw[he] at h2
     exact h2
theorem head_any [hnp:NP Q] (hh:Heads P l A S M N ts obs hs) {tail:List Oper} (htl:tail=l.drop hs.length) (hal:AL P E l.toArray Q tail ⟨N,finR ts hs.reverse,obs++allO hs⟩) :
  ∀ (m:Nat) (listed:Array Bool) (a:Act) (w:World) (H:Hs) (F:Nat→Prop),listed.size=l.length→Clo l listed→(∀ t,hs.length≤t→t<l.length→¬Lst listed t)→RS w H F N ts obs hs (Lst listed) a→Since E w H F →
   m=((List.range hs.length).filter fun j => !listed.getD j false).length→wpAny P .any l.toArray (fun e a' w'=>∃ st',Q e st'∧Rel E st' a' w') (m+tail.length) listed a w:=by
 have hle:=hh.le
 have hdone:∀ (listed:Array Bool) (a:Act) (w:World) (H:Hs) (F:Nat→Prop),listed.size=l.length→Clo l listed→(∀ t,hs.length≤t→t<l.length→¬Lst listed t)→RS w H F N ts obs hs (Lst listed) a→Since E w H F→(∀ j,j<hs.length→Lst listed j) →
   wpAny P .any l.toArray (fun e a' w'=>∃ st',Q e st'∧Rel E st' a' w') tail.length listed a w:=by
  intro listed a w H F hsz hcl hfree hr hsi hall
  refine tail_any hh.chk tail hs.length listed a w (Gqk _) (by rw[htl]; simp; omega) htl hsz (fun j hj=>⟨fun hl=>Nat.lt_of_not_le fun hge=>hfree j hge hj hl,fun hlt=>hall j hlt⟩) hcl ?_
  exact hal.h a w ⟨H,F,hr.fin hh hall,hsi⟩
 intro m
 induction m with
 | zero =>
  intro listed a w H F hsz hcl hfree hr hsi hm
  rw[Gxq]
  refine hdone listed a w H F hsz hcl hfree hr hsi fun j hj => ?_
  have h1:=List.eq_nil_of_length_eq_zero hm.symm
  unfold Lst
  cases hb:listed.getD j false
  ·have:j∈(List.range hs.length).filter fun j => !listed.getD j false:=List.mem_filter.2 ⟨by simpa using hj,by rw[hb]; rfl⟩
   rw[h1] at this
   simp at this
  ·rfl
 | succ m ih =>
  intro listed a w H F hsz hcl hfree hr hsi hm
  have hex:∃ j,j<hs.length∧¬Lst listed j:=by
   have h1:(List.range hs.length).filter (fun j => !listed.getD j false) ≠ []:=fun e=>by rw[e] at hm; simp at hm
   obtain⟨j,hj⟩:=List.exists_mem_of_ne_nil _ h1
   obtain⟨h2,h3⟩:=List.mem_filter.1 hj
   exact⟨j,by simpa using h2,fun h=>by unfold Lst at h; rw[h] at h3; cases h3⟩
  rw[show m+1+tail.length=(m+tail.length)+1 by omega]
  by_cases hnow:∃ x,x∈M.getD l.length []∧¬Lst listed x∧∀ k∈preAt l x,Lst listed k
  ·obtain⟨x,hx1,hlm,hx3⟩:=hnow
   obtain⟨hmn,hmb⟩:=hh.chk.late x hx1
   obtain⟨o,t,d,h1,h2,h3,h4,h5',h6⟩:=lateB_spec hmb
   have hgi:hs[x]? = some hs[x]:=Gqf hmn
   obtain⟨hd1,hd2,hq⟩:=hh.qt x _ _ h1 hgi
   have hml:x<l.length:=Aqa
   have hcnt:=cnt_set (n:=hs.length) (listed:=listed) hmn Aqa hlm
   have hq2:=hq.h a w H F (fun e a' w'=>∃ st',Q e st'∧Rel E st' a' w') (fun a' w'=>∃ H' F',RS w' H' F' N ts obs hs (Lst (listed.setIfInBounds x true)) a'∧Since E w' H' F') (hr.r0 hh hsz hcl hgi hlm hx3) (fun q hq=>hr.nil x _ q hlm hgi hq) fun v w' H' F' g hok hob hno hv=>by
    refine⟨H',F',?_,hsi.grow g⟩
    rw[hd1]
    have h6:=hr.step hh hgi hd2 g hok hob hno hv
    have h7:(fun j=>Lst listed j∨j=x)=Lst (listed.setIfInBounds x true):=by
     funext j
     exact propext (Y1 Aqa).symm
    rwa[h7] at h6
   rw[if_pos (by unfold Region.wanted; rw[h4])] at hq2
   unfold Oper.wp at hq2
   rcases srcO_run (P:=P) h2 a.eval with ⟨u,hu⟩ | hst
   ·rw[hu w,Oper.upon_value,h3] at hq2
    obtain⟨H',F',hr',hsi'⟩:∃ H' F',RS w H' F' N ts obs hs (Lst (listed.setIfInBounds x true)) (a.put (some d) u)∧Since E w H' F':=hq2
    refine hoist hh.chk h1 (srcO_exec h2) h3 h4 h6 (fun c a w ⟨st',hq,_⟩=>hnp.no c st' hq) _ listed a w u hu hsz hcl hlm hx3 ?_
    refine ih _ _ w H' F' (by simpa using hsz) (fun j hj k hk => ?_) (fun t ht1 ht2 ht3 => ?_) hr' hsi' Aqa 
    ·rw[Y1 Aqa] at hj ⊢
     rcases hj with hj | rfl
     ·exact .inl (hcl j hj k hk)
     ·exact .inl (hx3 k hk)
    ·rw[Y1 Aqa] at ht3
     rcases ht3 with h | h
     ·exact hfree t ht1 ht2 h
     ·omega
   ·obtain⟨y,hy⟩:=hst w
    rw[hy] at hq2
    exact absurd hq2 (by simp[Oper.upon])
  refine⟨fun e => ?_,fun i hi => ?_⟩
  ·obtain⟨j,h1,h2⟩:=hex
   obtain⟨i,h3,h4,h5⟩:=min_ready hh.chk hsz ⟨j,Aqa,h2⟩
   have:i∈Region.ready .any l.toArray listed:=(rdy (ops:=l.toArray) (by simpa using hsz)).2 ⟨by simpa using h3,h4,by simpa using h5⟩
   rw[e] at this
   simp at this
  ·obtain⟨h1,h2,h3⟩:=(rdy (ops:=l.toArray) (by simpa using hsz)).1 hi
   have h1':i<l.length:=by simpa using h1
   have h3':∀ k∈preAt l i,Lst listed k:=by simpa using h3
   have hin:i<hs.length:=by
    rcases Gqq i hs.length with h | h
    ·exact h
    ·obtain⟨j,h4,h5⟩:=hex
     refine absurd ?_ h5
     have hdesc:∀ j,j<hs.length→Lst listed j:=by
      intro j
      induction j using Nat.strongRecOn with
      |_ j ihj =>
       intro hj
       refine Classical.byContradiction fun hn => ?_
       rcases hh.chk.tail i h1' h j Aqa with h6 | h6
       ·exact hn (Ya hh.chk hcl i h1' h3' j h6).1
       ·exact hnow ⟨j,h6,hn,fun k hk=>ihj k (hh.chk.down j Aqa k hk) (by have:=hh.chk.down j Aqa k hk; omega)⟩
     exact hdesc j h4
   have hoi:l[i]? = some l[i]:=Gqf h1'
   have hgi:hs[i]? = some hs[i]:=Gqf hin
   obtain⟨hd1,hd2,hq⟩:=hh.qt i _ _ hoi hgi
   have hoi':l.toArray[i]? = some l[i]:=by simp[h1']
   unfold wpOp
   simp only[hoi']
   have hq2:=hq.h a w H F (fun e a' w'=>∃ st',Q e st'∧Rel E st' a' w') (wpAny P .any l.toArray (fun e a' w'=>∃ st',Q e st'∧Rel E st' a' w') (m+tail.length) (listed.setIfInBounds i true)) (hr.r0 hh hsz hcl hgi h2 h3') (fun q hq=>hr.nil i _ q h2 hgi hq) fun v w' H' F' g hok hob hno hv=>by
    rw[hd1]
    refine ih _ _ w' H' F' (by simpa using hsz) (fun j hj k hk => ?_) (fun t ht1 ht2 ht3 => ?_) ?_ (hsi.grow g) ?_
    ·rw[Y1 Aqa] at hj ⊢
     rcases hj with hj | rfl
     ·exact .inl (hcl j hj k hk)
     ·exact .inl (h3' k hk)
    ·rw[Y1 Aqa] at ht3
     rcases ht3 with h | h
     ·exact hfree t ht1 ht2 h
     ·omega
    ·have h6:=hr.step hh hgi hd2 g hok hob hno hv
     have h7:(fun j=>Lst listed j∨j=i)=Lst (listed.setIfInBounds i true):=by
      funext j
      exact propext (Y1 Aqa).symm
     rwa[h7] at h6
    ·have h9:=cnt_set (n:=hs.length) (listed:=listed) hin Aqa h2
     omega
   split
   ·rename_i hw
    rw[if_pos hw] at hq2
    exact .inl hq2
   ·rename_i hw
    rw[if_neg hw] at hq2
    exact hq2
end

theorem Xg {id:Nat} [NP Q] (A S M:List (List Nat)) (hm:P.follows .mixedOrders=true) (h:DR P E l A S M Q N ts obs S M [] 0 0 l):AWP P E (.region id l.toArray true) Q ⟨N,ts,obs⟩:=by
 obtain⟨hs,tail,h1,h2,h3,h3',h4,h5,h6,h7⟩:=h.out rfl rfl
 simp only[List.length_nil,Nat.sub_zero] at h3 h3' h7
 have hle:hs.length≤l.length:=by
  rw[Gq4] at h3'
  omega
 have htl:tail=l.drop hs.length:=by
  have h8:l.take hs.length++tail=l.take hs.length++l.drop hs.length:=by rw[←h3,Gxg]
  exact List.append_cancel_left h8
 have hh:Heads P l A S M N ts obs hs:=⟨drawB_spec h4,h5,hle,fun i o hd h8 h9=>by
  obtain⟨a,m,g1,g2,g3,g4,g5⟩:=h7 i o hd (Nat.zero_le _) h8 h9
  refine⟨g3,g4,?_⟩
  rw[Yt g1,Yt g2]
  exact g5⟩
 refine⟨fun a w ⟨H,F,hr,hsi⟩=>wp_region_any hm ?_⟩
 have hgr:Grow w H F { w with drawn:=w.drawn+1 } H F:=⟨(Below.refl _ _).drew,fun _ _=>rfl,fun _ h=>h,fun _ h => .inl h,fun p hp b hb=>by rw[hp] at hb; simp[Pc.fp] at hb,fun p i v h=>⟨p,h⟩⟩
 have hout:∀ p,obs.length≤p→H p = .nil:=fun p hp=>by
  have:=hr.obs p
  simpa[Gqg,hp,RB] using this
 have hno:∀ j,¬Lst (Array.replicate l.length false) j:=fun j hj=>by
  unfold Lst at hj
  rw[Gq0,Array.getElem?_replicate] at hj
  split at hj <;> simp at hj
 have hok:Ok { w with drawn:=w.drawn+1 } H F:=⟨fun p=>Pc.frame (w:=w) (fun _ _=>rfl) (hr.ok.says p),hr.ok.nodup,hr.ok.disj,hr.ok.free,hr.ok.flt⟩
 have hrs:RS { w with drawn:=w.drawn+1 } H F N ts obs hs (Lst (Array.replicate l.length false)) a :=
  ⟨hok,fun p ob hp=>rb_grow hgr (fun h=>h) (by have:=hr.obs p; rwa[Yt hp] at this),fun j h q ob hj=>absurd hj (hno j),fun j h q _ hj hq=>hout _ Aqa,fun p hp=>hout p Aqa,fun d _=>hgr.rv (hr.tmp d),fun j h hj=>absurd hj (hno j),hr.size,hr.defers⟩
 have hfin:=head_any hh htl h6 hs.length (Array.replicate l.length false) a { w with drawn:=w.drawn+1 } H F Aqd (fun i hi=>absurd hi (hno i)) (fun t _ _=>hno t) hrs (hsi.grow hgr) (by
  rw[List.filter_eq_self.2 (fun j _=>by
   cases hb:(Array.replicate l.length false).getD j false
   ·rfl
   ·exact absurd hb (hno j))]
  simp)
 have hsum:hs.length+tail.length=l.toArray.size:=by rw[htl]; simp; omega
 rw[hsum] at hfin
 simpa using hfin
end
def u9:Nat→List Nat
 |0 => []
 |n+1=>u9 n ++ [n]
def u8_0:List (List Nat) := [[],[],[0,1],[0,1,2],[],[],[4,5],[4,5,6],(u9 8)]
def u8_1:List (List Nat) := [[],[],[17,18],[17,18,19],[],[],[21,22],[21,22,23],[17,18,19,20,21,22,23,24]]
def u8_2:List (List Nat) := [[18,21,22,23,24],[17,21,22,23,24],[21,22,23,24],[21,22,23,24],[17,18,19,20,22],[17,18,19,20,21],[17,18,19,20],[17,18,19,20],[]]
def u8_3:List (List Nat) := [[],[],[0,1],[0,1,2],[],[],[4,5],[4,5,6],(u9 8),(u9 9)]
def u8_4:List (List Nat) := [[],[],[17,18],[17,18,19],[],[],[21,22],[21,22,23],[17,18,19,20,21,22,23,24],[17,18,19,20,21,22,23,24,25]]
def u8_5:List (List Nat) := [[18,21,22,23,24],[17,21,22,23,24],[21,22,23,24],[21,22,23,24],[17,18,19,20,22],[17,18,19,20,21],[17,18,19,20],[17,18,19,20],[],[]]
def u8_6:List (List Nat) := [[],[0],[0,1],[0,1,2],(u9 4),(u9 5),(u9 6),(u9 5),[0,1,2,3,4,7],(u9 9),(u9 10),(u9 11),(u9 12),(u9 13),(u9 13),[0,1,2,3,4,5,6,7,8,9,10,11,12,14],(u9 13),[0,1,2,3,4,5,6,7,8,9,10,11,12,16],(u9 13),[0,1,2,3,4,5,6,7,8,9,10,11,12,18],[0,1,2,3,4,5,6,7,8,9,10,11,12,18,19],(u9 21),(u9 22),(u9 23),(u9 24),(u9 25),(u9 26),(u9 27),(u9 28),(u9 29),(u9 30),(u9 31),(u9 32),(u9 33),(u9 34)]
def u8_7:List (List Nat) := [[],[7],[7,8],[7,8,9],[7,8,9,10],[7,8,9,10,11],[7,8,9,10,11,12],[7,8,9,10,11],[7,8,9,10,11,14],[7,8,9,10,11,12,13,14,15],[7,8,9,10,11,12,13,14,15,16],[7,8,9,10,11,12,13,14,15,16,17],[7,8,9,10,11,12,13,14,15,16,17,18],[7,8,9,10,11,12,13,14,15,16,17,18,19],[7,8,9,10,11,12,13,14,15,16,17,18,19],[7,8,9,10,11,12,13,14,15,16,17,18,19,21],[7,8,9,10,11,12,13,14,15,16,17,18,19],[7,8,9,10,11,12,13,14,15,16,17,18,19,23],[7,8,9,10,11,12,13,14,15,16,17,18,19],[7,8,9,10,11,12,13,14,15,16,17,18,19,25],[7,8,9,10,11,12,13,14,15,16,17,18,19,25,26],[7,8,9,10,11,12,13,14,15,16,17,18,19,20,21,22,23,24,25,26,27],[7,8,9,10,11,12,13,14,15,16,17,18,19,20,21,22,23,24,25,26,27,28],[7,8,9,10,11,12,13,14,15,16,17,18,19,20,21,22,23,24,25,26,27,28,29],[7,8,9,10,11,12,13,14,15,16,17,18,19,20,21,22,23,24,25,26,27,28,29,30],[7,8,9,10,11,12,13,14,15,16,17,18,19,20,21,22,23,24,25,26,27,28,29,30,31],[7,8,9,10,11,12,13,14,15,16,17,18,19,20,21,22,23,24,25,26,27,28,29,30,31,32],[7,8,9,10,11,12,13,14,15,16,17,18,19,20,21,22,23,24,25,26,27,28,29,30,31,32,33],[7,8,9,10,11,12,13,14,15,16,17,18,19,20,21,22,23,24,25,26,27,28,29,30,31,32,33,34],[7,8,9,10,11,12,13,14,15,16,17,18,19,20,21,22,23,24,25,26,27,28,29,30,31,32,33,34,35],[7,8,9,10,11,12,13,14,15,16,17,18,19,20,21,22,23,24,25,26,27,28,29,30,31,32,33,34,35,36],[7,8,9,10,11,12,13,14,15,16,17,18,19,20,21,22,23,24,25,26,27,28,29,30,31,32,33,34,35,36,37],[7,8,9,10,11,12,13,14,15,16,17,18,19,20,21,22,23,24,25,26,27,28,29,30,31,32,33,34,35,36,37,38],[7,8,9,10,11,12,13,14,15,16,17,18,19,20,21,22,23,24,25,26,27,28,29,30,31,32,33,34,35,36,37,38,39],[7,8,9,10,11,12,13,14,15,16,17,18,19,20,21,22,23,24,25,26,27,28,29,30,31,32,33,34,35,36,37,38,39,40]]
def u8_8:List (List Nat) := [[],[],[],[],[],[14,15],[14,15],[12,13],[12,13],[],[],[],[],[21,22,23,24,25,26,27],[20,23,24,25,26,27],[20,23,24,25,26,27],[20,21,22,25,26,27],[20,21,22,25,26,27],[20,21,22,23,24],[20,21,22,23,24],[20,21,22,23,24],[],[],[],[],[],[],[],[],[],[],[],[],[],[]]
def u8_9:List (List Nat) := [[],[],[1],[],[3],[],[5],[5,6],(u9 8)]
def u8_10:List (List Nat) := [[],[],[40],[],[42],[],[44],[44,45],[39,40,41,42,43,44,45,46]]
def u8_11:List (List Nat) := [[40,41,42,43,44,45,46],[39,42,43,44,45,46],[39,42,43,44,45,46],[39,40,41,44,45,46],[39,40,41,44,45,46],[39,40,41,42,43],[39,40,41,42,43],[39,40,41,42,43],[]]
def u8_12:List (List Nat) := [[],[],[1],[0,1,2],(u9 4),(u9 5),(u9 5),(u9 7),(u9 8),(u9 5),(u9 5),[0,1,2,3,4,9,10],[0,1,2,3,4,9,10,11],(u9 13),(u9 14)]
def u8_13:List (List Nat) := [[],[],[20],[19,20,21],[19,20,21,22],[19,20,21,22,23],[19,20,21,22,23],[19,20,21,22,23,24,25],[19,20,21,22,23,24,25,26],[19,20,21,22,23],[19,20,21,22,23],[19,20,21,22,23,28,29],[19,20,21,22,23,28,29,30],[19,20,21,22,23,24,25,26,27,28,29,30,31],[19,20,21,22,23,24,25,26,27,28,29,30,31,32]]
def u8_14:List (List Nat) := [[20,21],[19],[19],[],[],[25,28,29,30,31],[24,28,29,30,31],[28,29,30,31],[28,29,30,31],[24,25,26,27,29],[24,25,26,27,28],[24,25,26,27],[24,25,26,27],[],[]]
def u8_15:List (List Nat) := [[],[],[0,1],[],[3],(u9 5),(u9 6),(u9 7),(u9 7),(u9 7),[0,1,2,3,4,5,6,8,9],(u9 11),(u9 12),(u9 7),(u9 7),[0,1,2,3,4,5,6,13,14],[0,1,2,3,4,5,6,13,14,15],(u9 17),(u9 18)]
def u8_16:List (List Nat) := [[],[],[19,20],[],[22],[19,20,21,22,23],[19,20,21,22,23,24],[19,20,21,22,23,24,25],[19,20,21,22,23,24,25],[19,20,21,22,23,24,25],[19,20,21,22,23,24,25,27,28],[19,20,21,22,23,24,25,26,27,28,29],[19,20,21,22,23,24,25,26,27,28,29,30],[19,20,21,22,23,24,25],[19,20,21,22,23,24,25],[19,20,21,22,23,24,25,32,33],[19,20,21,22,23,24,25,32,33,34],[19,20,21,22,23,24,25,26,27,28,29,30,31,32,33,34,35],[19,20,21,22,23,24,25,26,27,28,29,30,31,32,33,34,35,36]]
def u8_17:List (List Nat) := [[20,22,23],[19,22,23],[22,23],[19,20,21],[19,20,21],[],[],[27,28,29,32,33,34,35],[26,28,32,33,34,35],[26,27,32,33,34,35],[26,32,33,34,35],[32,33,34,35],[32,33,34,35],[26,27,28,29,30,31,33],[26,27,28,29,30,31,32],[26,27,28,29,30,31],[26,27,28,29,30,31],[],[]]
def u8_18:List (List Nat) := [[],[],[16,17],[16,17,18],[],[],[20,21],[20,21,22],[16,17,18,19,20,21,22,23]]
def u8_19:List (List Nat) := [[17,20,21,22,23],[16,20,21,22,23],[20,21,22,23],[20,21,22,23],[16,17,18,19,21],[16,17,18,19,20],[16,17,18,19],[16,17,18,19],[]]
def u8_20:List (List Nat) := [[],[0],[],[0,1,2],(u9 4),[],[5],[],[5,6,7],[5,6,7,8],(u9 10)]
def u8_21:List (List Nat) := [[],[20],[],[20,21,22],[20,21,22,23],[],[25],[],[25,26,27],[25,26,27,28],[20,21,22,23,24,25,26,27,28,29]]
def u8_22:List (List Nat) := [[22,25,26,27,28,29],[22,25,26,27,28,29],[20,21,25,26,27,28,29],[25,26,27,28,29],[25,26,27,28,29],[20,21,22,23,24,27],[20,21,22,23,24,27],[20,21,22,23,24,25,26],[20,21,22,23,24],[20,21,22,23,24],[]]
def u8_23:List (List Nat) := [[],[0],[0,1],[],[3],[3,4],(u9 6),(u9 7),(u9 8),(u9 9),(u9 8),[0,1,2,3,4,5,6,7,10],(u9 12),(u9 13),(u9 14),(u9 15),(u9 8),[0,1,2,3,4,5,6,7,16],[0,1,2,3,4,5,6,7,16,17],(u9 19),(u9 20),(u9 21),(u9 22),(u9 23),(u9 24),(u9 22),[0,1,2,3,4,5,6,7,8,9,10,11,12,13,14,15,16,17,18,19,20,21,25],[0,1,2,3,4,5,6,7,8,9,10,11,12,13,14,15,16,17,18,19,20,21,25,26],[0,1,2,3,4,5,6,7,8,9,10,11,12,13,14,15,16,17,18,19,20,21,25,26,27],(u9 29),(u9 30),(u9 31)]
def u8_24:List (List Nat) := [[],[148],[148,149],[],[151],[151,152],[148,149,150,151,152,153],[148,149,150,151,152,153,154],[148,149,150,151,152,153,154,155],[148,149,150,151,152,153,154,155,156],[148,149,150,151,152,153,154,155],[148,149,150,151,152,153,154,155,158],[148,149,150,151,152,153,154,155,156,157,158,159],[148,149,150,151,152,153,154,155,156,157,158,159,160],[148,149,150,151,152,153,154,155,156,157,158,159,160,161],[148,149,150,151,152,153,154,155,156,157,158,159,160,161,162],[148,149,150,151,152,153,154,155],[148,149,150,151,152,153,154,155,164],[148,149,150,151,152,153,154,155,164,165],[148,149,150,151,152,153,154,155,156,157,158,159,160,161,162,163,164,165,166],[148,149,150,151,152,153,154,155,156,157,158,159,160,161,162,163,164,165,166,167],[148,149,150,151,152,153,154,155,156,157,158,159,160,161,162,163,164,165,166,167,168],[148,149,150,151,152,153,154,155,156,157,158,159,160,161,162,163,164,165,166,167,168,169],[148,149,150,151,152,153,154,155,156,157,158,159,160,161,162,163,164,165,166,167,168,169,170],[148,149,150,151,152,153,154,155,156,157,158,159,160,161,162,163,164,165,166,167,168,169,170,171],[148,149,150,151,152,153,154,155,156,157,158,159,160,161,162,163,164,165,166,167,168,169],[148,149,150,151,152,153,154,155,156,157,158,159,160,161,162,163,164,165,166,167,168,169,173],[148,149,150,151,152,153,154,155,156,157,158,159,160,161,162,163,164,165,166,167,168,169,173,174],[148,149,150,151,152,153,154,155,156,157,158,159,160,161,162,163,164,165,166,167,168,169,173,174,175],[148,149,150,151,152,153,154,155,156,157,158,159,160,161,162,163,164,165,166,167,168,169,170,171,172,173,174,175,176],[148,149,150,151,152,153,154,155,156,157,158,159,160,161,162,163,164,165,166,167,168,169,170,171,172,173,174,175,176,177],[148,149,150,151,152,153,154,155,156,157,158,159,160,161,162,163,164,165,166,167,168,169,170,171,172,173,174,175,176,177,178]]
def u8_25:List (List Nat) := [[151,152,153],[151,152,153],[151,152,153],[148,149,150],[148,149,150],[148,149,150],[],[],[158,159,164,165,166],[158,159,164,165,166],[156,157,164,165,166],[156,157,164,165,166],[164,165,166],[164,165,166],[164,165,166],[164,165,166],[156,157,158,159,160,161,162,163],[156,157,158,159,160,161,162,163],[156,157,158,159,160,161,162,163],[],[],[],[173,174,175,176],[173,174,175,176],[173,174,175,176],[170,171,172],[170,171,172],[170,171,172],[170,171,172],[],[],[]]
def u8_26:List (List Nat) := [[],[0],[],[0,1,2],(u9 4),[],(u9 6),(u9 7),(u9 8),(u9 9),(u9 10),(u9 9),(u9 12),(u9 13),(u9 14),(u9 9),[0,1,2,3,4,5,6,7,8,15],[0,1,2,3,4,5,6,7,8,15,16],(u9 9),[0,1,2,3,4,5,6,7,8,15,16,17,18],(u9 20),(u9 21)]
def u8_27:List (List Nat) := [[],[127],[],[127,128,129],[127,128,129,130],[],[127,128,129,130,131,132],[127,128,129,130,131,132,133],[127,128,129,130,131,132,133,134],[127,128,129,130,131,132,133,134,135],[127,128,129,130,131,132,133,134,135,136],[127,128,129,130,131,132,133,134,135],[127,128,129,130,131,132,133,134,135,136,137,138],[127,128,129,130,131,132,133,134,135,136,137,138,139],[127,128,129,130,131,132,133,134,135,136,137,138,139,140],[127,128,129,130,131,132,133,134,135],[127,128,129,130,131,132,133,134,135,142],[127,128,129,130,131,132,133,134,135,142,143],[127,128,129,130,131,132,133,134,135],[127,128,129,130,131,132,133,134,135,142,143,144,145],[127,128,129,130,131,132,133,134,135,136,137,138,139,140,141,142,143,144,145,146],[127,128,129,130,131,132,133,134,135,136,137,138,139,140,141,142,143,144,145,146,147]]
def u8_28:List (List Nat) := [[129,132],[129,132],[127,128,132],[132],[132],[127,128,129,130,131],[],[],[],[138,142,143,144,145,146],[138,142,143,144,145,146],[136,137,142,143,144,145,146],[142,143,144,145,146],[142,143,144,145,146],[142,143,144,145,146],[136,137,138,139,140,141,145],[136,137,138,139,140,141,145],[136,137,138,139,140,141,145],[136,137,138,139,140,141,142,143,144],[136,137,138,139,140,141],[],[]]
def u8_29:List (List Nat) := [[],[149],[149,150],[],[152],[152,153],[149,150,151,152,153,154],[149,150,151,152,153,154,155],[149,150,151,152,153,154,155,156],[149,150,151,152,153,154,155,156,157],[149,150,151,152,153,154,155,156],[149,150,151,152,153,154,155,156,159],[149,150,151,152,153,154,155,156,157,158,159,160],[149,150,151,152,153,154,155,156,157,158,159,160,161],[149,150,151,152,153,154,155,156,157,158,159,160,161,162],[149,150,151,152,153,154,155,156,157,158,159,160,161,162,163],[149,150,151,152,153,154,155,156],[149,150,151,152,153,154,155,156,165],[149,150,151,152,153,154,155,156,165,166],[149,150,151,152,153,154,155,156,157,158,159,160,161,162,163,164,165,166,167],[149,150,151,152,153,154,155,156,157,158,159,160,161,162,163,164,165,166,167,168],[149,150,151,152,153,154,155,156,157,158,159,160,161,162,163,164,165,166,167,168,169],[149,150,151,152,153,154,155,156,157,158,159,160,161,162,163,164,165,166,167,168,169,170],[149,150,151,152,153,154,155,156,157,158,159,160,161,162,163,164,165,166,167,168,169,170,171],[149,150,151,152,153,154,155,156,157,158,159,160,161,162,163,164,165,166,167,168,169,170,171,172],[149,150,151,152,153,154,155,156,157,158,159,160,161,162,163,164,165,166,167,168,169,170],[149,150,151,152,153,154,155,156,157,158,159,160,161,162,163,164,165,166,167,168,169,170,174],[149,150,151,152,153,154,155,156,157,158,159,160,161,162,163,164,165,166,167,168,169,170,174,175],[149,150,151,152,153,154,155,156,157,158,159,160,161,162,163,164,165,166,167,168,169,170,174,175,176],[149,150,151,152,153,154,155,156,157,158,159,160,161,162,163,164,165,166,167,168,169,170,171,172,173,174,175,176,177],[149,150,151,152,153,154,155,156,157,158,159,160,161,162,163,164,165,166,167,168,169,170,171,172,173,174,175,176,177,178],[149,150,151,152,153,154,155,156,157,158,159,160,161,162,163,164,165,166,167,168,169,170,171,172,173,174,175,176,177,178,179]]
def u8_30:List (List Nat) := [[152,153,154],[152,153,154],[152,153,154],[149,150,151],[149,150,151],[149,150,151],[],[],[159,160,165,166,167],[159,160,165,166,167],[157,158,165,166,167],[157,158,165,166,167],[165,166,167],[165,166,167],[165,166,167],[165,166,167],[157,158,159,160,161,162,163,164],[157,158,159,160,161,162,163,164],[157,158,159,160,161,162,163,164],[],[],[],[174,175,176,177],[174,175,176,177],[174,175,176,177],[171,172,173],[171,172,173],[171,172,173],[171,172,173],[],[],[]]
def u8_31:List (List Nat) := [[],[],[1],[],[1,2,3],[0],(u9 6)]
def u8_32:List (List Nat) := [[],[0],[],[2],[2,3],(u9 5),(u9 6),(u9 7)]
def u8_33:List (List Nat) := [[],[0],[],[],[3],[],[3,4,5],[3,4,5,6],[2,3,4,5,6,7],[2,3,4,5,6,7,8],(u9 10),(u9 11),(u9 12)]
def u8_34:List (List Nat) := [[],[26],[],[],[29],[],[29,30,31],[29,30,31,32],[28,29,30,31,32,33],[28,29,30,31,32,33,34],[26,27,28,29,30,31,32,33,34,35],[26,27,28,29,30,31,32,33,34,35,36],[26,27,28,29,30,31,32,33,34,35,36,37]]
def u8_35:List (List Nat) := [[28,29,30,31,32,33,34,35],[28,29,30,31,32,33,34,35],[26,27,29,30,31,32,33],[26,27,28,31],[26,27,28,31],[26,27,28,29,30],[26,27,28],[26,27,28],[26,27],[26,27],[],[],[]]
def u8_36:List (List Nat) := [[],[33],[],[],[36],[],[36,37,38],[36,37,38,39],[35,36,37,38,39,40],[35,36,37,38,39,40,41],[33,34,35,36,37,38,39,40,41,42],[33,34,35,36,37,38,39,40,41,42,43],[33,34,35,36,37,38,39,40,41,42,43,44]]
def u8_37:List (List Nat) := [[35,36,37,38,39,40,41,42],[35,36,37,38,39,40,41,42],[33,34,36,37,38,39,40],[33,34,35,38],[33,34,35,38],[33,34,35,36,37],[33,34,35],[33,34,35],[33,34],[33,34],[],[],[]]
def u8_38:List (List Nat) := [[],[0],[],[2],[],[2,3,4],[2,3,4,5],[2,3,4,5,6],[2,3,4,5,6,7],(u9 9),(u9 10),(u9 11)]
def u8_39:List (List Nat) := [[],[106],[],[],[109],[],[109,110,111],[109,110,111,112],[108,109,110,111,112,113],[108,109,110,111,112,113,114],[106,107,108,109,110,111,112,113,114,115],[106,107,108,109,110,111,112,113,114,115,116],[106,107,108,109,110,111,112,113,114,115,116,117]]
def u8_40:List (List Nat) := [[108,109,110,111,112,113,114,115],[108,109,110,111,112,113,114,115],[106,107,109,110,111,112,113],[106,107,108,111],[106,107,108,111],[106,107,108,109,110],[106,107,108],[106,107,108],[106,107],[106,107],[],[],[]]
def u8_41:List (List Nat) := [[],[125],[],[],[128],[],[128,129,130],[128,129,130,131],[127,128,129,130,131,132],[127,128,129,130,131,132,133],[125,126,127,128,129,130,131,132,133,134],[125,126,127,128,129,130,131,132,133,134,135],[125,126,127,128,129,130,131,132,133,134,135,136]]
def u8_42:List (List Nat) := [[127,128,129,130,131,132,133,134],[127,128,129,130,131,132,133,134],[125,126,128,129,130,131,132],[125,126,127,130],[125,126,127,130],[125,126,127,128,129],[125,126,127],[125,126,127],[125,126],[125,126],[],[],[]]
def u8_43:List (List Nat) := [[],[0],[],[2],[],[2,3,4],[2,3,4,5],[2,3,4,5,6],[],[],[9],[],[9,10,11],[9,10,11,12],[9,10,11,12,13],[8,9,10,11,12,13,14],[2,3,4,5,6,7,8,9,10,11,12,13,14,15],[2,3,4,5,6,7,8,9,10,11,12,13,14,15,16],(u9 18),(u9 19),(u9 20)]
def u8_44:List (List Nat) := [[],[188],[],[190],[],[190,191,192],[190,191,192,193],[190,191,192,193,194],[],[],[197],[],[197,198,199],[197,198,199,200],[197,198,199,200,201],[196,197,198,199,200,201,202],[190,191,192,193,194,195,196,197,198,199,200,201,202,203],[190,191,192,193,194,195,196,197,198,199,200,201,202,203,204],[188,189,190,191,192,193,194,195,196,197,198,199,200,201,202,203,204,205],[188,189,190,191,192,193,194,195,196,197,198,199,200,201,202,203,204,205,206],[188,189,190,191,192,193,194,195,196,197,198,199,200,201,202,203,204,205,206,207]]
def u8_45:List (List Nat) := [[190,191,192,193,194,195,196,197,198,199,200,201,202,203,204,205],[190,191,192,193,194,195,196,197,198,199,200,201,202,203,204,205],[188,189,192,196,197,198,199,200,201,202,203],[188,189,192,196,197,198,199,200,201,202,203],[188,189,190,191,196,197,198,199,200,201,202,203],[188,189,196,197,198,199,200,201,202,203],[188,189,196,197,198,199,200,201,202,203],[188,189,196,197,198,199,200,201,202,203],[188,189,190,191,192,193,194,195,197,198,199,200,201,202],[188,189,190,191,192,193,194,195,196,199],[188,189,190,191,192,193,194,195,196,199],[188,189,190,191,192,193,194,195,196,197,198],[188,189,190,191,192,193,194,195,196],[188,189,190,191,192,193,194,195,196],[188,189,190,191,192,193,194,195,196],[188,189,190,191,192,193,194,195],[188,189],[188,189],[],[],[]]
def u8_46:List (List Nat) := [[],[0],[],[0,1,2],(u9 4),[],(u9 6),(u9 7),[],[8],[],[8,9,10],[8,9,10,11],[8,9,10,11,12],[],[8,9,10,11,12,13,14],[8,9,10,11,12,13,14,15],[8,9,10,11,12,13,14,15,16],[8,9,10,11,12,13,14,15,16,17],(u9 19),(u9 20)]
def u8_47:List (List Nat) := [[],[88],[],[88,89,90],[88,89,90,91],[],[88,89,90,91,92,93],[88,89,90,91,92,93,94],[],[96],[],[96,97,98],[96,97,98,99],[96,97,98,99,100],[],[96,97,98,99,100,101,102],[96,97,98,99,100,101,102,103],[96,97,98,99,100,101,102,103,104],[96,97,98,99,100,101,102,103,104,105],[88,89,90,91,92,93,94,95,96,97,98,99,100,101,102,103,104,105,106],[88,89,90,91,92,93,94,95,96,97,98,99,100,101,102,103,104,105,106,107]]
def u8_48:List (List Nat) := [[90,93,96,97,98,99,100,101,102,103,104,105,106],[90,93,96,97,98,99,100,101,102,103,104,105,106],[88,89,93,96,97,98,99,100,101,102,103,104,105,106],[93,96,97,98,99,100,101,102,103,104,105,106],[93,96,97,98,99,100,101,102,103,104,105,106],[88,89,90,91,92,96,97,98,99,100,101,102,103,104,105,106],[96,97,98,99,100,101,102,103,104,105,106],[96,97,98,99,100,101,102,103,104,105,106],[88,89,90,91,92,93,94,95,98,102],[88,89,90,91,92,93,94,95,98,102],[88,89,90,91,92,93,94,95,96,97,102],[88,89,90,91,92,93,94,95,102],[88,89,90,91,92,93,94,95,102],[88,89,90,91,92,93,94,95,102],[88,89,90,91,92,93,94,95,96,97,98,99,100,101],[88,89,90,91,92,93,94,95],[88,89,90,91,92,93,94,95],[88,89,90,91,92,93,94,95],[88,89,90,91,92,93,94,95],[],[],[2,5]]
def u8_49:List (List Nat) := [[],[0],[],[0,1,2],(u9 4),[],(u9 6),(u9 7),(u9 8),(u9 9),(u9 10),(u9 11),(u9 12),(u9 11),(u9 14),(u9 15),(u9 11),(u9 17),(u9 18),(u9 19),(u9 20),(u9 21),(u9 22),(u9 23),(u9 24),(u9 23),(u9 26),(u9 27),(u9 23),(u9 29),(u9 30),(u9 23),[0,1,2,3,4,5,6,7,8,9,10,11,12,13,14,15,16,17,18,19,20,21,22,31],(u9 23),[0,1,2,3,4,5,6,7,8,9,10,11,12,13,14,15,16,17,18,19,20,21,22,31,32,33],[0,1,2,3,4,5,6,7,8,9,10,11,12,13,14,15,16,17,18,19,20,21,22,31,32,33,34],[0,1,2,3,4,5,6,7,8,9,10,11,12,13,14,15,16,17,18,19,20,21,22,31,32,33,34,35],(u9 23),[0,1,2,3,4,5,6,7,8,9,10,11,12,13,14,15,16,17,18,19,20,21,22,31,32,33,34,35,36,37],[0,1,2,3,4,5,6,7,8,9,10,11,12,13,14,15,16,17,18,19,20,21,22,31,32,33,34,35,36,37,38],[0,1,2,3,4,5,6,7,8,9,10,11,12,13,14,15,16,17,18,19,20,21,22,31,32,33,34,35,36,37,38,39],[0,1,2,3,4,5,6,7,8,9,10,11,12,13,14,15,16,17,18,19,20,21,22,31,32,33,34,35,36,37,38,39,40],(u9 42),(u9 43),(u9 44)]
def u8_50:List (List Nat) := [[],[64],[],[64,65,66],[64,65,66,67],[],[64,65,66,67,68,69],[64,65,66,67,68,69,70],[64,65,66,67,68,69,70,71],[64,65,66,67,68,69,70,71,72],[64,65,66,67,68,69,70,71,72,73],[64,65,66,67,68,69,70,71,72,73,74],[64,65,66,67,68,69,70,71,72,73,74,75],[64,65,66,67,68,69,70,71,72,73,74],[64,65,66,67,68,69,70,71,72,73,74,75,76,77],[64,65,66,67,68,69,70,71,72,73,74,75,76,77,78],[64,65,66,67,68,69,70,71,72,73,74],[64,65,66,67,68,69,70,71,72,73,74,75,76,77,78,79,80],[64,65,66,67,68,69,70,71,72,73,74,75,76,77,78,79,80,81],[64,65,66,67,68,69,70,71,72,73,74,75,76,77,78,79,80,81,82],[64,65,66,67,68,69,70,71,72,73,74,75,76,77,78,79,80,81,82,83],[64,65,66,67,68,69,70,71,72,73,74,75,76,77,78,79,80,81,82,83,84],[64,65,66,67,68,69,70,71,72,73,74,75,76,77,78,79,80,81,82,83,84,85],[64,65,66,67,68,69,70,71,72,73,74,75,76,77,78,79,80,81,82,83,84,85,86],[64,65,66,67,68,69,70,71,72,73,74,75,76,77,78,79,80,81,82,83,84,85,86,87],[64,65,66,67,68,69,70,71,72,73,74,75,76,77,78,79,80,81,82,83,84,85,86],[64,65,66,67,68,69,70,71,72,73,74,75,76,77,78,79,80,81,82,83,84,85,86,87,88,89],[64,65,66,67,68,69,70,71,72,73,74,75,76,77,78,79,80,81,82,83,84,85,86,87,88,89,90],[64,65,66,67,68,69,70,71,72,73,74,75,76,77,78,79,80,81,82,83,84,85,86],[64,65,66,67,68,69,70,71,72,73,74,75,76,77,78,79,80,81,82,83,84,85,86,87,88,89,90,91,92],[64,65,66,67,68,69,70,71,72,73,74,75,76,77,78,79,80,81,82,83,84,85,86,87,88,89,90,91,92,93],[64,65,66,67,68,69,70,71,72,73,74,75,76,77,78,79,80,81,82,83,84,85,86],[64,65,66,67,68,69,70,71,72,73,74,75,76,77,78,79,80,81,82,83,84,85,86,95],[64,65,66,67,68,69,70,71,72,73,74,75,76,77,78,79,80,81,82,83,84,85,86],[64,65,66,67,68,69,70,71,72,73,74,75,76,77,78,79,80,81,82,83,84,85,86,95,96,97],[64,65,66,67,68,69,70,71,72,73,74,75,76,77,78,79,80,81,82,83,84,85,86,95,96,97,98],[64,65,66,67,68,69,70,71,72,73,74,75,76,77,78,79,80,81,82,83,84,85,86,95,96,97,98,99],[64,65,66,67,68,69,70,71,72,73,74,75,76,77,78,79,80,81,82,83,84,85,86],[64,65,66,67,68,69,70,71,72,73,74,75,76,77,78,79,80,81,82,83,84,85,86,95,96,97,98,99,100,101],[64,65,66,67,68,69,70,71,72,73,74,75,76,77,78,79,80,81,82,83,84,85,86,95,96,97,98,99,100,101,102],[64,65,66,67,68,69,70,71,72,73,74,75,76,77,78,79,80,81,82,83,84,85,86,95,96,97,98,99,100,101,102,103],[64,65,66,67,68,69,70,71,72,73,74,75,76,77,78,79,80,81,82,83,84,85,86,95,96,97,98,99,100,101,102,103,104],[64,65,66,67,68,69,70,71,72,73,74,75,76,77,78,79,80,81,82,83,84,85,86,87,88,89,90,91,92,93,94,95,96,97,98,99,100,101,102,103,104,105],[64,65,66,67,68,69,70,71,72,73,74,75,76,77,78,79,80,81,82,83,84,85,86,87,88,89,90,91,92,93,94,95,96,97,98,99,100,101,102,103,104,105,106],[64,65,66,67,68,69,70,71,72,73,74,75,76,77,78,79,80,81,82,83,84,85,86,87,88,89,90,91,92,93,94,95,96,97,98,99,100,101,102,103,104,105,106,107]]
def u8_51:List (List Nat) := [[66,69],[66,69],[64,65,69],[69],[69],[64,65,66,67,68],[],[],[],[],[],[77,80],[77,80],[75,76,80],[80],[80],[75,76,77,78,79],[],[],[],[],[],[],[89,92,95,96,97,98,99,100,101,102,103,104,105],[89,92,95,96,97,98,99,100,101,102,103,104,105],[87,88,92,95,96,97,98,99,100,101,102,103,104,105],[92,95,96,97,98,99,100,101,102,103,104,105],[92,95,96,97,98,99,100,101,102,103,104,105],[87,88,89,90,91,95,96,97,98,99,100,101,102,103,104,105],[95,96,97,98,99,100,101,102,103,104,105],[95,96,97,98,99,100,101,102,103,104,105],[87,88,89,90,91,92,93,94,97,101],[87,88,89,90,91,92,93,94,97,101],[87,88,89,90,91,92,93,94,95,96,101],[87,88,89,90,91,92,93,94,101],[87,88,89,90,91,92,93,94,101],[87,88,89,90,91,92,93,94,101],[87,88,89,90,91,92,93,94,95,96,97,98,99,100],[87,88,89,90,91,92,93,94],[87,88,89,90,91,92,93,94],[87,88,89,90,91,92,93,94],[87,88,89,90,91,92,93,94],[],[],[]]
def u8_52:List (List Nat) := [[],[],[1],[0],(u9 4)]
def u8_53:List (List Nat) := [[],[0],[0,1],[0,1,2],[],(u9 5),(u9 6),[],[7],[7,8],[7,8,9],[],[7,8,9,10,11],[7,8,9,10,11,12],[],[7,8,9,10,11,12,13,14],[7,8,9,10,11,12,13,14,15],(u9 17),(u9 18),(u9 19),(u9 19),[],[0,1,2,3,4,5,6,7,8,9,10,11,12,13,14,15,16,17,18,19,21],(u9 23)]
def u8_54:List (List Nat) := [[],[9],[9,10],[9,10,11],[],[9,10,11,12,13],[9,10,11,12,13,14],[],[16],[16,17],[16,17,18],[],[16,17,18,19,20],[16,17,18,19,20,21],[],[16,17,18,19,20,21,22,23],[16,17,18,19,20,21,22,23,24],[9,10,11,12,13,14,15,16,17,18,19,20,21,22,23,24,25],[9,10,11,12,13,14,15,16,17,18,19,20,21,22,23,24,25,26],[8,9,10,11,12,13,14,15,16,17,18,19,20,21,22,23,24,25,26],[8,9,10,11,12,13,14,15,16,17,18,19,20,21,22,23,24,25,26],[],[6,8,9,10,11,12,13,14,15,16,17,18,19,20,21,22,23,24,25,26,27],[6,8,9,10,11,12,13,14,15,16,17,18,19,20,21,22,23,24,25,26,27,28]]
def u8_55:List (List Nat) := [[6,13,16,17,18,19,20,21,22,23,24,25],[6,13,16,17,18,19,20,21,22,23,24,25],[6,13,16,17,18,19,20,21,22,23,24,25],[6,13,16,17,18,19,20,21,22,23,24,25],[6,9,10,11,12,16,17,18,19,20,21,22,23,24,25],[6,16,17,18,19,20,21,22,23,24,25],[6,16,17,18,19,20,21,22,23,24,25],[6,9,10,11,12,13,14,15,20,23],[6,9,10,11,12,13,14,15,20,23],[6,9,10,11,12,13,14,15,20,23],[6,9,10,11,12,13,14,15,20,23],[6,9,10,11,12,13,14,15,16,17,18,19,23],[6,9,10,11,12,13,14,15,23],[6,9,10,11,12,13,14,15,23],[6,9,10,11,12,13,14,15,16,17,18,19,20,21,22],[6,9,10,11,12,13,14,15],[6,9,10,11,12,13,14,15],[6],[6],[6,28],[6,27],[8,9,10,11,12,13,14,15,16,17,18,19,20,21,22,23,24,25,26,27,28],[28],[],[20]]
def u8_56:List (List Nat) := [[],[],[0,1],[0,1,2],(u9 4),[],[5],(u9 7)]
def u8_57:List (List Nat) := [[],[],[21,22],[21,22,23],[21,22,23,24],[],[26],[21,22,23,24,25,26,27]]
def u8_58:List (List Nat) := [[22,26,27],[21,26,27],[26,27],[26,27],[26,27],[21,22,23,24,25],[21,22,23,24,25],[]]
end
end Go.Proofs.YtfklmiijhcajdaaGreat
