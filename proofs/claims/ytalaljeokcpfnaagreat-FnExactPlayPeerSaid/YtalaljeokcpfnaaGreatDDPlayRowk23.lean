/-
  A literal slice becomes an owned slice; comparing a slice with nil. No statement of the program is proved here.
  Conditions: none.
-/
import Derived.Lib.LazyBuf
import Derived.Test.YtalaljeokcpfnaaGreatDDPlayRowk22
set_option linter.unusedSimpArgs false
set_option linter.unusedVariables false
namespace Go.Proofs.YtalaljeokcpfnaaGreat
section
open Go.RowKit

def V1.tosr (q:Nat):V1→V1
 | .sb p n k=>match Nat.beq p q with
  |true=>match k with
   |1 => .ref q
   |_ => .un
  |false=>(V1.sb p n k).kill [q]
 |x=>x.kill [q]
theorem Wk.sbrow {st:St} {q:Nat} {cs:List V1} {es:List (List T)} (hq:st.objs[q]? = some (.box cs)) (hs:sbE cs=some es) (hm:cs.length≤maxLen):Wk st ⟨st.n,st.tmps.map fun t=>(t.1,t.2.mapk (V1.tosr q)),(st.objs.map (Ob.mapk (V1.tosr q))).set q (.row 1 es)⟩:=by
 intro w H F a h1
 obtain⟨hel,hes⟩:=sbE_ok cs es hs
 have hb:=h1.obs q
 rw[Zi hq] at hb
 obtain⟨g,t,vs,e1,e2,e3⟩:=hb
 have hsay:=h1.ok.says q
 rw[e1] at hsay
 have hg:w.heap[g]? = some (.cells vs.toArray t (0,0)):=hsay
 have hqlt:=Zj hq
 have hplain:∀ (i:Nat) (e:List T),es[i]? = some e→∃ u,vs[i]? = some u∧e = [.v u]∧u.oneCell'=true:=fun i e hi=>by
  obtain⟨ps,u,h2,h3⟩:=hes i e hi
  have hil:=Zj h2
  have hiv:vs[i]? = some (vs[i]' Aqa):=Gqg Aqa 
  obtain⟨h4,h5⟩:=e3 i _ _ h2 hiv
  obtain⟨h6,h7⟩:=RO.plain h4
  exact⟨u,by rw[hiv,h6],h3,h7⟩
 obtain⟨f,hf⟩:∃ f:Nat→Value,f=fun i=>vs.getD i undef:=⟨_,rfl⟩
 have hOW:∃ fp,OW w (.sl 1 es) (.slice (some ⟨g,0,none⟩) es.length vs.length) fp∧(∀ b∈fp,b=g)∧fp.Nodup:=by
  refine⟨g::(List.replicate es.length [([]:List Nat)]).flatten.flatten,OW.sl es g 0 1 vs.length t vs.toArray (0,0) (fun i _=>vs.getD i undef) (List.replicate es.length [[]]) hg (.inl J) Aqa Aqa Aqd Aqa  (fun e he=>?_) Aqd (fun fs hfs=>by rw[List.eq_of_mem_replicate hfs]; rfl) (fun i j hi hj=>?_) (fun i j e tt fs ff k1 k2 k3 k4=>?_),?_,?_⟩
  ·obtain⟨i,hi⟩:=List.getElem?_of_mem he
   obtain⟨u,_,h3,_⟩:=hplain i e hi
   rw[h3]; rfl
  ·have h2:i<vs.length:=Aqa
   have h3:j=0:=Aqa
   subst h3
   simp[Gqf,h2]
  ·obtain⟨u,h3,h4,h5⟩:=hplain i e k1
   subst h4
   have hj:j=0:=by have:=Zj k2; simp at this; exact this
   subst hj
   simp at k2
   subst k2
   have hfs:fs = [[]]:=List.eq_of_mem_replicate (Zk k3)
   subst hfs
   simp at k4
   subst k4
   have h6:vs.getD i undef=u:=Zi h3
   rw[h6]
   exact .v u h5
  ·intro b hb
   simpa using hb
  ·simp
 obtain⟨fp,hO,hfp,hnd⟩:=hOW
 have hkeep:Keeps w w [g]:=⟨rfl,rfl,rfl,Gqi _,fun _ _ _=>rfl⟩
 obtain⟨hok,htn⟩:=h1.ok.turn (p:=q) (fp := [g]) Bxe hkeep (.ow (.sl 1 es) (.slice (some ⟨g,0,none⟩) es.length vs.length) fp) hO hnd trivial (fun b hb => .inl (by simp[hfp b hb]))
 have hone:∀ x v,R1 w H F x v→R1 w (H.put q (.ow (.sl 1 es) (.slice (some ⟨g,0,none⟩) es.length vs.length) fp)) F (V1.tosr q x) v:=fun x v hx=>by
  cases x with
  | sb p n k =>
   simp only[V1.tosr]
   split
   ·rename_i hp
    have hpq:=Gq8 hp
    subst hpq
    split
    ·obtain⟨g',t',vs',k1,k2,k3,k4⟩:=hx
     rw[e1] at k1
     simp only[Pc.box.injEq] at k1
     obtain⟨rfl,rfl,rfl⟩:=k1
     have hn:n=es.length:=Aqa
     have hvn:vs.length=es.length:=Aqa
     rw[k4,hn]
     exact⟨.sl 1 es,fp,by rw[Hs.put_self,hvn]⟩
    ·trivial
   ·exact R1.killed h1.ok htn hx
  |_=>exact R1.killed h1.ok htn hx
 refine⟨_,h1.mapk (V1.tosr q) hone hok ((st.objs.map (Ob.mapk (V1.tosr q))).set q (.row 1 es)) (fun p=>?_),fun p b hb=>?_,htn.gh⟩
 ·by_cases hpq:p=q
  ·subst hpq
   rw[Zi (x := .row 1 es) (by simp[hqlt])]
   exact Bzs
  ·rw[Gqf,Gxa (Ne.symm hpq),Gqk]
   have h2:=h1.obs p
   rw[Gqf] at h2
   have h3:=Hs.put_ne H (.ow (.sl 1 es) (.slice (some ⟨g,0,none⟩) es.length vs.length) fp) hpq
   cases ho:st.objs[p]? with
   |none=>rw[ho] at h2; exact h3.trans h2
   |some ob=>rw[ho] at h2; exact RB.mapk hone h3 h2
 ·by_cases hpq:p=q
  ·subst hpq
   rw[Hs.put_self] at hb
   exact⟨p,by rw[e1,hfp b hb]; simp[Pc.fp]⟩
  ·exact⟨p,by rw[←Hs.put_ne H _ hpq]; exact hb⟩
section
variable {P:Program} {ops:Array Oper} {o:Oper} {st:St} {n:Nat} {t t':TypeId} {y z:Operand} {ps qs:List Nat}
theorem q_slnil {kk:Nat} {es:List (List T)} {e:TypeId} {zs:List Value} {by_:Nat} [hm:TyMake P t e zs by_] (ho:o.op = .binOp .eql t y z t') (hg:o.guard=none) (hy:st.ev y = .o (.c (.rd ps (.sl kk es)))) (hz:st.ev z = .o (.c (.rd qs (.v (.slice none 0 0))))) (hne:0<es.length):Qt P ops o st (B false) [] n :=
 .pure hg fun a w H F hr=>⟨.bool false,by
  have h2:=hr.plain hz
  have h1:RO w (inP H F ps) (.sl kk es) (a.eval y):=hr.v1 hy
  obtain⟨b,o',c,hv,_⟩:=RO.at_ h1 (i:=0) (Gqg hne)
  simp[execOp,ho,h2,hv,eqGuard,Lib.run_eql_slice_nil (P:=P) (h:=hm.slice)],plainV _ rfl⟩
end
end
end Go.Proofs.YtalaljeokcpfnaaGreat
