/-
  Rules, data and contracts of functions: part 27 of the proof.
  Conditions: those that each theorem names.
-/
import Derived.Lib.LazyBuf
import Derived.Test.YtpmacgnmlmmojaaGreatDoorDDRBRowk25
set_option linter.unusedSimpArgs false
set_option linter.unusedVariables false
set_option maxRecDepth 8000
set_option maxHeartbeats 8000000
namespace Go.Proofs.YtpmacgnmlmmojaaGreatDoor
section
open Go.RowKit

def V1.tosr (q:Nat):V1→V1
 | .sb p n k=>match Nat.beq p q with
  |true=>match k with
   |1 => .ref q
   |_ => .un
  |false=>(V1.sb p n k).kill [q]
 |x=>x.kill [q]
theorem Wk.sbrow {st:St} {q:Nat} {cs:List V1} {es:List (List T)} (hq:st.objs[q]? = some (.box cs)) (hs:sbE cs=some es) (hm:cs.length≤maxLen):Wk st ⟨st.n,st.tmps.map fun t=>(t.1,t.2.mapk (V1.tosr q)),(st.objs.map (Ob.mapk (V1.tosr q))).set q (.row 1 es)⟩:=by
 intro w H F a h1
 obtain⟨hel,hes⟩:=sbE_ok cs es hs
 have hb:=h1.obs q
 rw[Zj hq] at hb
 obtain⟨g,t,vs,e1,e2,e3⟩:=hb
 have hsay:=h1.ok.says q
 rw[e1] at hsay
 have hg:w.heap[g]? = some (.cells vs.toArray t (0,0)):=hsay
 have hqlt:=Zk hq
 have hplain:∀ (i:Nat) (e:List T),es[i]? = some e→∃ u,vs[i]? = some u∧e = [.v u]∧u.oneCell'=true:=fun i e hi=>by
  obtain⟨ps,u,h2,h3⟩:=hes i e hi
  have hil:=Zk h2
  have hiv:vs[i]? = some (vs[i]'(by omega)):=Gqd (by omega)
  obtain⟨h4,h5⟩:=e3 i _ _ h2 hiv
  obtain⟨h6,h7⟩:=RO.plain h4
  exact⟨u,by rw[hiv,h6],h3,h7⟩
 obtain⟨f,hf⟩:∃ f:Nat→Value,f=fun i=>vs.getD i undef:=⟨_,rfl⟩
 have hOW:∃ fp,OW w (.sl 1 es) (.slice (some ⟨g,0,none⟩) es.length vs.length) fp∧(∀ b∈fp,b=g)∧fp.Nodup:=by
  refine⟨g::(List.replicate es.length [([]:List Nat)]).flatten.flatten,OW.sl es g 0 1 vs.length t vs.toArray (0,0) (fun i _=>vs.getD i undef) (List.replicate es.length [[]]) hg (.inl J) (by omega) (by omega) (by simp) (by omega) (fun e he => ?_) (by simp) (fun fs hfs=>by rw[Gx5 hfs]; rfl) (fun i j hi hj => ?_) (fun i j e tt fs ff k1 k2 k3 k4 => ?_),?_,?_⟩
  ·obtain⟨i,hi⟩:=List.getElem?_of_mem he
   obtain⟨u,_,h3,_⟩:=hplain i e hi
   rw[h3]; rfl
  ·have h2:i<vs.length:=by omega
   have h3:j=0:=by omega
   subst h3
   simp[Gqc,h2]
  ·obtain⟨u,h3,h4,h5⟩:=hplain i e k1
   subst h4
   have hj:j=0:=by have:=Zk k2; simp at this; exact this
   subst hj
   simp at k2
   subst k2
   have hfs:fs = [[]]:=Gx5 (Zl k3)
   subst hfs
   simp at k4
   subst k4
   have h6:vs.getD i undef=u:=Zj h3
   rw[h6]
   exact .v u h5
  ·intro b hb
   simpa using hb
  ·simp
 obtain⟨fp,hO,hfp,hnd⟩:=hOW
 have hkeep:Keeps w w [g]:=⟨rfl,rfl,rfl,Gqf _,fun _ _ _=>rfl⟩
 obtain⟨hok,htn⟩:=h1.ok.turn (p:=q) (fp := [g]) (by rw[e1]; rfl) hkeep (.ow (.sl 1 es) (.slice (some ⟨g,0,none⟩) es.length vs.length) fp) hO hnd trivial (fun b hb => .inl (by simp[hfp b hb]))
 have hone:∀ x v,R1 w H F x v→R1 w (H.put q (.ow (.sl 1 es) (.slice (some ⟨g,0,none⟩) es.length vs.length) fp)) F (V1.tosr q x) v:=fun x v hx=>by
  cases x with
  | sb p n k =>
   simp only[V1.tosr]
   split
   ·rename_i hp
    have hpq:=Gxf hp
    subst hpq
    split
    ·obtain⟨g',t',vs',k1,k2,k3,k4⟩:=hx
     rw[e1] at k1
     simp only[Pc.box.injEq] at k1
     obtain⟨rfl,rfl,rfl⟩:=k1
     have hn:n=es.length:=by omega
     have hvn:vs.length=es.length:=by omega
     rw[k4,hn]
     exact⟨.sl 1 es,fp,by rw[Hs.put_self,hvn]⟩
    ·trivial
   ·exact R1.killed h1.ok htn hx
  |_=>exact R1.killed h1.ok htn hx
 refine⟨_,h1.mapk (V1.tosr q) hone hok ((st.objs.map (Ob.mapk (V1.tosr q))).set q (.row 1 es)) (fun p => ?_),fun p b hb => ?_,htn.gh⟩
 ·by_cases hpq:p=q
  ·subst hpq
   rw[Zj (x := .row 1 es) (by simp[hqlt])]
   exact⟨_,_,Hs.put_self _ _ _⟩
  ·rw[Gqc,Gxb (Ne.symm hpq),Gqh]
   have h2:=h1.obs p
   rw[Gqc] at h2
   have h3:=Hs.put_ne H (.ow (.sl 1 es) (.slice (some ⟨g,0,none⟩) es.length vs.length) fp) hpq
   cases ho:st.objs[p]? with
   |none=>rw[ho] at h2; exact h3.trans h2
   |some ob=>rw[ho] at h2; exact RB.mapk hone h3 h2
 ·by_cases hpq:p=q
  ·subst hpq
   rw[Hs.put_self] at hb
   exact⟨p,by rw[e1,hfp b hb]; simp[Pc.fp]⟩
  ·exact⟨p,by rw[←Hs.put_ne H _ hpq]; exact hb⟩
section
variable {P:Program} {ops:Array Oper} {o:Oper} {st:St} {n:Nat} {t t':TypeId} {y z:Operand} {ps qs:List Nat}
theorem q_slnil {kk:Nat} {es:List (List T)} {e:TypeId} {zs:List Value} {by_:Nat} [hm:TyMake P t e zs by_] (ho:o.op = .binOp .eql t y z t') (hg:o.guard=none) (hy:st.ev y = .o (.c (.rd ps (.sl kk es)))) (hz:st.ev z = .o (.c (.rd qs (.v (.slice none 0 0))))) (hne:0<es.length):Qt P ops o st (B false) [] n :=
 .pure hg fun a w H F hr=>⟨.bool false,by
  have h2:=hr.plain hz
  have h1:RO w (inP H F ps) (.sl kk es) (a.eval y):=hr.v1 hy
  obtain⟨b,o',c,hv,_⟩:=RO.at_ h1 (i:=0) (Gqd hne)
  simp[execOp,ho,h2,hv,eqGuard,Lib.run_eql_slice_nil (P:=P) (h:=hm.slice)],plainV _ rfl⟩
end
end
section
open Go.RowKit

theorem W_pre {st st':St} {f:List (Nat×V)→St} (h:Wk st st') (k:∃ l,Wk st' (f l)):∃ l,Wk st (f l):=k.imp fun _ hl=>h.trans hl
theorem row2b {k:Nat} {o:Ob} {a b:List (List T)} (h:a=b) : [o,Ob.row k a] = [o,Ob.row k b]:=by rw[h]
def bodyInts (b:TBody):List Int := [b.Kind,b.Owner,b.X,b.Y,b.VX,b.VY,b.Aim,b.Life,b.Timer]
def worldInts (w:TWorld):List Int:=([w.Tick,w.Seed,(w.Scores.length:Int)]++w.Scores)++w.Bodies.flatMap bodyInts
noncomputable def worldBytes (w:TWorld):ByteArray:=if worldOk w=true then packInts (worldInts w) else ⟨#[]⟩
theorem Y6 {α:Type} [Enc α] (xs ys:List α):els (xs++ys)=els xs++els ys:=List.map_append
theorem flat_snoc {bs:List TBody} {k:Nat} (h:k<bs.length):(bs.take (k+1)).flatMap bodyInts=(bs.take k).flatMap bodyInts++bodyInts bs[k]:=by
 rw[Gxd h,List.flatMap_append]
 simp
theorem flat_len (bs:List TBody):∀ k,k≤bs.length→((bs.take k).flatMap bodyInts).length=9*k
 |0,_=>by simp
 |k+1,h=>by
  rw[flat_snoc (by omega),Gqe,flat_len bs k (by omega)]
  simp[bodyInts]
  omega
theorem flat_gd {bs:List TBody} (hg:∀ b∈bs,Enc.gd b):∀ x∈bs.flatMap bodyInts,I64 x:=fun x hx=>by
 obtain⟨b,hb,hx⟩:=List.mem_flatMap.1 hx
 obtain⟨b1,b2,b3,b4,b5,b6,b7,b8,b9⟩:=hg b hb
 simp only[bodyInts,List.mem_cons,Gxp,or_false] at hx
 rcases hx with rfl | rfl | rfl | rfl | rfl | rfl | rfl | rfl | rfl <;> assumption
theorem I_bodyInts (b:TBody):Con Tryz.prog 133 [] [ag b] [.row 1 (els (bodyInts b))] (.o (.c (.ref 0))):=by
 refine Con.of Tryz.func133 J Tryz.ntmps133 J (fun E => ?_)
 refine Wz [55,11,14,146,146,146,146,45,19] ?_
 exact Gq J (W_pre (Wk.sbrow (q:=1) J J (Gqq J)) (Gr [1] J J J))
theorem I_WorldBytes (x:TWorld) (hg:Enc.gd x):Con Tryz.prog 49 [] [ag x] [] (S (worldBytes x)):=by
 have hc:=I_WorldOk x hg
 obtain⟨gL,gT,gS,gSc,gB⟩:=hg
 cases ho:worldOk x with
 |false =>
  rw[ho] at hc
  rw[show worldBytes x=⟨#[]⟩ by rw[worldBytes,ho]; exact if_neg (by decide)]
  refine Con.of Tryz.func49 J Tryz.ntmps49 J (fun E => ?_)
  refine Wz [55,23,6] ?_;refine zx (Qj J J (hc) J) J ?_;refine Wz [16,28,31] ?_
  exact Gq J (Gr [] J J J)
 | true =>
  rw[ho] at hc
  rw[show worldBytes x=packInts (worldInts x) by rw[worldBytes,ho]; exact if_pos rfl]
  obtain⟨_,_,_,hn,_,hb,_⟩:=Vr ho
  have hls:=Y9 x.Scores
  have hlb:=Y9 x.Bodies
  refine Con.of Tryz.func49 J Tryz.ntmps49 J (fun E => ?_)
  refine Wz [55,23,6] ?_;refine zx (Qj J J (hc) J) J ?_;refine Wz [16,38,14,146,21,45,32,30] ?_
  have hl3:(els [x.Tick,x.Seed,((els x.Scores).length:Int)]).length=3:=rfl
  refine AL.weak (Wk.sbrow (q:=1) (es:=els [x.Tick,x.Seed,((els x.Scores).length:Int)]) J J (Gqq J)) ?_;refine AL.weak (st':=(⟨_,[(1,.o (.c (.ptr 0 0))),(17,.o (.c (.ref 1))),(19,L x.Scores)],[.box ((Enc.e x).map (V1.rd [])),.row 1 (els [x.Tick,x.Seed,((els x.Scores).length:Int)])]⟩:St)) (Gs [0,1]) ?_;refine M_app J J J J J J J J J J (Za _) (els_k _) (by omega) (by omega) ?_;refine Wz [23,14,21,131,33] ?_
  have hini:els (([x.Tick,x.Seed,(x.Scores.length:Int)]++x.Scores)++(x.Bodies.take 0).flatMap bodyInts)=els [x.Tick,x.Seed,((els x.Scores).length:Int)]++els x.Scores:=by rw[List.take_zero,List.flatMap_nil,Gxg,Y6,hls]
  refine Xi (fun m st=>∃ k:Nat,k+m=x.Bodies.length∧(True)∧st=(⟨_,[(1,.o (.c (.ptr 0 0))),(3,.o (.c (.ref 1))),(22,L x.Bodies),(23,I (els x.Bodies).length),(24,I k)],[.box ((Enc.e x).map (V1.rd [])),.row 1 (els (([x.Tick,x.Seed,(x.Scores.length:Int)]++x.Scores)++(x.Bodies.take k).flatMap bodyInts))]⟩:St)) (x.Bodies.length) ⟨(fun k:Nat=>(⟨_,[(1,.o (.c (.ptr 0 0))),(3,.o (.c (.ref 1))),(22,L x.Bodies),(23,I (els x.Bodies).length),(24,I k)],[.box ((Enc.e x).map (V1.rd [])),.row 1 (els (([x.Tick,x.Seed,(x.Scores.length:Int)]++x.Scores)++(x.Bodies.take k).flatMap bodyInts))]⟩:St)) 0,⟨0,by omega,trivial,J⟩,Yg [0,1] (by decide) J (row2b hini) (.c J (.c J (.c J (.c J (.c J (.nil))))))⟩ ?_
  rintro m_A _ ⟨k,hk_A,hp_A,rfl⟩
  have hla:=Y9 (([x.Tick,x.Seed,(x.Scores.length:Int)]++x.Scores)++(x.Bodies.take k).flatMap bodyInts)
  have hfl:=flat_len x.Bodies k (by omega)
  have hlc:(([x.Tick,x.Seed,(x.Scores.length:Int)]++x.Scores)++(x.Bodies.take k).flatMap bodyInts).length=3+x.Scores.length+9*k:=by
   rw[Gqe,Gqe,hfl]; rfl
  refine Wz [1,100,39] ?_
  refine Xb J (fun h => ?_) (fun h => ?_)
  ·have h3:k<x.Bodies.length:=by have:=Gqi h; omega
   have hat:=Y7 h3
   have hlb9:(els (bodyInts x.Bodies[k])).length=9:=rfl
   refine Wz [26,1,169,192,75,22,48] ?_;refine V6 (Kh J J (I_bodyInts x.Bodies[k]) J J J) J ?_;refine M_app J J J J J J J J J J (Za _) (els_k _) (by omega) (by omega) ?_;refine Wz [127,64] ?_
   exact⟨x.Bodies.length-(k+1),by omega,(fun k:Nat=>(⟨_,[(1,.o (.c (.ptr 0 0))),(3,.o (.c (.ref 1))),(22,L x.Bodies),(23,I (els x.Bodies).length),(24,I k)],[.box ((Enc.e x).map (V1.rd [])),.row 1 (els (([x.Tick,x.Seed,(x.Scores.length:Int)]++x.Scores)++(x.Bodies.take k).flatMap bodyInts))]⟩:St)) (k+1),⟨k+1,by omega,trivial,J⟩,Yg [0,1] (by decide) J (row2b (by rw[flat_snoc h3,←Gqn,Y6 _ (bodyInts x.Bodies[k])])) (.c J (.c J (.c J (.c J (.c J (.nil))))))⟩
  ·have h3:¬k<x.Bodies.length:=by have:=Gqj h; omega
   have hk:x.Bodies.take k=x.Bodies:=Gxk (by omega)
   rw[hk] at hlc hla ⊢
   have hgi:Enc.gd (([x.Tick,x.Seed,(x.Scores.length:Int)]++x.Scores)++x.Bodies.flatMap bodyInts):=⟨by omega,fun y hy=>by
    rcases Gqm.1 hy with hy | hy
    ·rcases Gqm.1 hy with hy | hy
     ·simp only[List.mem_cons,Gxp,or_false] at hy
      rcases hy with rfl | rfl | rfl
      ·exact gT
      ·exact gS
      ·exact⟨by omega,by omega⟩
     ·exact gSc.2 y hy
    ·exact flat_gd gB.2 y hy⟩
   have hp:=I_PackInts (([x.Tick,x.Seed,(x.Scores.length:Int)]++x.Scores)++x.Bodies.flatMap bodyInts) hgi (by omega)
   refine Wz [40,10] ?_;refine zx (Qj J J (hp) J) J ?_;refine Wz [19] ?_
   exact Gq J (Gr [] J J J)
theorem Ya (x:TWorld) (hg:Enc.gd x):Con Tryz.prog 233 [] [ag x] [] (S (worldBytes x)):=by
 have hc:=S_WorldOk x hg
 obtain⟨gL,gT,gS,gSc,gB⟩:=hg
 cases ho:worldOk x with
 |false =>
  rw[ho] at hc
  rw[show worldBytes x=⟨#[]⟩ by rw[worldBytes,ho]; exact if_neg (by decide)]
  refine Con.of Tryz.func233 J Tryz.ntmps233 J (fun E => ?_)
  refine Wz [55,23,6] ?_;refine zx (Qj J J (hc) J) J ?_;refine Wz [16,28,31] ?_
  exact Gq J (Gr [] J J J)
 | true =>
  rw[ho] at hc
  rw[show worldBytes x=packInts (worldInts x) by rw[worldBytes,ho]; exact if_pos rfl]
  obtain⟨_,_,_,hn,_,hb,_⟩:=Vr ho
  have hls:=Y9 x.Scores
  have hlb:=Y9 x.Bodies
  refine Con.of Tryz.func233 J Tryz.ntmps233 J (fun E => ?_)
  refine Wz [55,23,6] ?_;refine zx (Qj J J (hc) J) J ?_;refine Wz [16,38,14,146,21,45,30] ?_
  have hl3:(els [x.Tick,x.Seed,((els x.Scores).length:Int)]).length=3:=rfl
  refine AL.weak (Wk.sbrow (q:=1) (es:=els [x.Tick,x.Seed,((els x.Scores).length:Int)]) J J (Gqq J)) ?_;refine AL.weak (st':=(⟨_,[(1,.o (.c (.ptr 0 0))),(16,.o (.c (.ref 1))),(18,L x.Scores)],[.box ((Enc.e x).map (V1.rd [])),.row 1 (els [x.Tick,x.Seed,((els x.Scores).length:Int)])]⟩:St)) (Gs [0,1]) ?_;refine M_app J J J J J J J J J J (Za _) (els_k _) (by omega) (by omega) ?_;refine Wz [23,63] ?_
  have hini:els (([x.Tick,x.Seed,(x.Scores.length:Int)]++x.Scores)++(x.Bodies.take 0).flatMap bodyInts)=els [x.Tick,x.Seed,((els x.Scores).length:Int)]++els x.Scores:=by rw[List.take_zero,List.flatMap_nil,Gxg,Y6,hls]
  refine Xi (fun m st=>∃ k:Nat,k+m=x.Bodies.length∧(True)∧st=(⟨_,[(1,.o (.c (.ptr 0 0))),(3,.o (.c (.ref 1))),(4,I k)],[.box ((Enc.e x).map (V1.rd [])),.row 1 (els (([x.Tick,x.Seed,(x.Scores.length:Int)]++x.Scores)++(x.Bodies.take k).flatMap bodyInts))]⟩:St)) (x.Bodies.length) ⟨(fun k:Nat=>(⟨_,[(1,.o (.c (.ptr 0 0))),(3,.o (.c (.ref 1))),(4,I k)],[.box ((Enc.e x).map (V1.rd [])),.row 1 (els (([x.Tick,x.Seed,(x.Scores.length:Int)]++x.Scores)++(x.Bodies.take k).flatMap bodyInts))]⟩:St)) 0,⟨0,by omega,trivial,J⟩,Yg [0,1] (by decide) J (row2b hini) (.c J (.c J (.c J (.nil))))⟩ ?_
  rintro m_A _ ⟨k,hk_A,hp_A,rfl⟩
  have hla:=Y9 (([x.Tick,x.Seed,(x.Scores.length:Int)]++x.Scores)++(x.Bodies.take k).flatMap bodyInts)
  have hfl:=flat_len x.Bodies k (by omega)
  have hlc:(([x.Tick,x.Seed,(x.Scores.length:Int)]++x.Scores)++(x.Bodies.take k).flatMap bodyInts).length=3+x.Scores.length+9*k:=by
   rw[Gqe,Gqe,hfl]; rfl
  refine Wz [25,30,21,119] ?_
  refine Xb J (fun h => ?_) (fun h => ?_)
  ·have h3:k<x.Bodies.length:=by have:=Gqi h; omega
   have hat:=Y7 h3
   have hlb9:(els (bodyInts x.Bodies[k])).length=9:=rfl
   refine Wz [26,14,0,169,192,75,22,146,146,146,146,30,45,148,105] ?_
   exact⟨x.Bodies.length-(k+1),by omega,(fun k:Nat=>(⟨_,[(1,.o (.c (.ptr 0 0))),(3,.o (.c (.ref 1))),(4,I k)],[.box ((Enc.e x).map (V1.rd [])),.row 1 (els (([x.Tick,x.Seed,(x.Scores.length:Int)]++x.Scores)++(x.Bodies.take k).flatMap bodyInts))]⟩:St)) (k+1),⟨k+1,by omega,trivial,J⟩,Yg [0,1] (by decide) J (row2b (by rw[flat_snoc h3,←Gqn,Y6 _ (bodyInts x.Bodies[k])]; rfl)) (.c J (.c J (.c J (.nil))))⟩
  ·have h3:¬k<x.Bodies.length:=by have:=Gqj h; omega
   have hk:x.Bodies.take k=x.Bodies:=Gxk (by omega)
   rw[hk] at hlc hla ⊢
   have hgi:Enc.gd (([x.Tick,x.Seed,(x.Scores.length:Int)]++x.Scores)++x.Bodies.flatMap bodyInts):=⟨by omega,fun y hy=>by
    rcases Gqm.1 hy with hy | hy
    ·rcases Gqm.1 hy with hy | hy
     ·simp only[List.mem_cons,Gxp,or_false] at hy
      rcases hy with rfl | rfl | rfl
      ·exact gT
      ·exact gS
      ·exact⟨by omega,by omega⟩
     ·exact gSc.2 y hy
    ·exact flat_gd gB.2 y hy⟩
   have hp:=S_PackInts (([x.Tick,x.Seed,(x.Scores.length:Int)]++x.Scores)++x.Bodies.flatMap bodyInts) hgi (by omega)
   refine Wz [40,10] ?_;refine zx (Qj J J (hp) J) J ?_;refine Wz [19] ?_
   exact Gq J (Gr [] J J J)
end
section
open Go.RowKit

inductive Den1:V1→V1→Prop
 |same (x:V1):Den1 x x
 |nil (qs:List Nat) (k:Nat):Den1 (.rd qs (.v (.slice none 0 0))) (.rd qs (.sl k []))
inductive DenL:List V1→List V1→Prop
 |nil:DenL [] []
 |cons {x y:V1} {xs ys:List V1} (h:Den1 x y) (t:DenL xs ys):DenL (x::xs) (y::ys)
inductive Den2:V2→V2→Prop
 |same (x:V2):Den2 x x
 |ag {xs ys:List V1} (h:DenL xs ys):Den2 (.ag xs) (.ag ys)
inductive DenA:List V2→List V2→Prop
 |nil:DenA [] []
 |cons {x y:V2} {xs ys:List V2} (h:Den2 x y) (t:DenA xs ys):DenA (x::xs) (y::ys)
section
variable {w:World} {H:Hs} {F:Nat→Prop}
theorem Den1.r {x y:V1} (h:Den1 x y) {v:Value} (hx:R1 w H F x v):R1 w H F y v:=by
 cases h with
 |same=>exact hx
 |nil qs k=>obtain⟨rfl,_⟩:=RO.plain hx; exact .nil _ _ _ (by simp)
theorem DenL.r:∀ {xs ys:List V1},DenL xs ys→xs.length=ys.length∧∀ (i:Nat) (y:V1),ys[i]? = some y→∃ x,xs[i]? = some x∧Den1 x y
 |_,_,.nil=>⟨rfl,fun i y h=>by simp at h⟩
 |_,_,.cons (x:=x) h t=>by
  obtain⟨h1,h2⟩:=DenL.r t
  refine⟨by simp[h1],fun i y hy => ?_⟩
  cases i with
  |zero=>simp at hy; subst hy; exact⟨x,rfl,h⟩
  |succ i=>simpa using h2 i y (by simpa using hy)
theorem Den2.r {x y:V2} (h:Den2 x y) {v:Value} (hx:R2 w H F x v):R2 w H F y v:=by
 cases h with
 |same=>exact hx
 |ag h =>
  obtain⟨h1,h2⟩:=h.r
  obtain⟨us,e,hl,hr⟩:=hx
  refine⟨us,e,by omega,fun i y u h3 h4 => ?_⟩
  obtain⟨x,h5,h6⟩:=h2 i y h3
  exact h6.r (hr i x u h5 h4)
theorem DenA.r:∀ {xs ys:List V2},DenA xs ys→xs.length=ys.length∧∀ (i:Nat) (y:V2),ys[i]? = some y→∃ x,xs[i]? = some x∧Den2 x y
 |_,_,.nil=>⟨rfl,fun i y h=>by simp at h⟩
 |_,_,.cons (x:=x) h t=>by
  obtain⟨h1,h2⟩:=DenA.r t
  refine⟨by simp[h1],fun i y hy => ?_⟩
  cases i with
  |zero=>simp at hy; subst hy; exact⟨x,rfl,h⟩
  |succ i=>simpa using h2 i y (by simpa using hy)
theorem Con.den {P:Program} {f:FuncId} {objs objs':List Ob} {args args2:List V2} {res:V} (hc:Con P f objs args objs' res) (h:DenA args2 args):Con P f objs args2 objs' res:=fun w H F vs hok hob hvl hr=>by
 obtain⟨h1,h2⟩:=h.r
 exact hc w H F vs hok hob (by omega) fun i y v hy hv=>by
  obtain⟨x,h3,h4⟩:=h2 i y hy
  exact h4.r (hr i x v h3 hv)
end
def nilV:V1 := .rd [] (.v (.slice none 0 0))
theorem Xy (x:TLevel) (hg:Enc.gd x) (hL:x.Rows.length≤1048576):Con Tryz.prog 76 [] [ag x] [.row 1 (els x.Rows)] (.o (.ag [.ref 0])):=by
 have hlx:=Y9 x.Rows
 have hg1:=hg.1
 refine Con.of Tryz.func76 J Tryz.ntmps76 J (fun E => ?_)
 refine Wz [51,2,14] ?_;refine M_appnil J J J J J J J J (Za _) (els_k _) (by omega) (by omega) ?_;refine Wz [151,126,145] ?_
 exact Xl J J J J (Gr [2] J J J)
theorem Yb (x:TLevel) (hg:Enc.gd x) (hL:x.Rows.length≤1048576):Con Tryz.prog 113 [] [ag x] [.row 1 (els x.Rows)] (.o (.ag [.ref 0])):=by
 have hlx:=Y9 x.Rows
 have hg1:=hg.1
 have h00:([]:List (List T)).length=0:=rfl
 refine Con.of Tryz.func113 J Tryz.ntmps113 J (fun E => ?_)
 refine Wz [51,2,1,179,30] ?_;refine M_app J J J J J J J J J J (Za _) (els_k _) (by omega) (by omega) ?_;refine Wz [151,126,145] ?_
 exact Xl J J J J (Gr [2] J J J)
def zeroReplay:TReplay:=⟨⟨[]⟩,0,0,0,[],[]⟩
def newReplay (l:TLevel) (p s e:Int):TReplay:=if replayOk ⟨l,p,s,e,[],[]⟩=true then ⟨l,p,s,e,[],[]⟩ else zeroReplay
theorem I_NewReplay (l:TLevel) (p s e:Int) (hl:Enc.gd l) (hL:l.Rows.length≤1048576) (hp:I64 p) (hs:I64 s) (he:I64 e):Con Tryz.prog 23 [] [ag l,ai p,ai s,ai e] (ownO (Enc.e (newReplay l p s e))) (.tu [.ag (ownV 0 (Enc.e (newReplay l p s e))),.c (.rd [] (.v (.bool (replayOk ⟨l,p,s,e,[],[]⟩))))]):=by
 have hc:=(Xv ⟨l,p,s,e,[],[]⟩ ⟨hl,hp,hs,he,⟨by simp,fun x hx=>by simp at hx⟩,⟨by simp,fun x hx=>by simp at hx⟩⟩).den (args2 := [.ag [.rd [] (sl l.Rows),.rd [] (.v (.int .i64 p)),.rd [] (.v (.int .i64 s)),.rd [] (.v (.int .i64 e)),.rd [] (.v (.slice none 0 0)),.rd [] (.v (.slice none 0 0))]])
  (.cons (.ag (.cons (.same _) (.cons (.same _) (.cons (.same _) (.cons (.same _) (.cons (.nil _ _) (.cons (.nil _ _) .nil))))))) .nil)
 cases hr:replayOk ⟨l,p,s,e,[],[]⟩ with
 |false =>
  rw[hr] at hc
  rw[show newReplay l p s e=zeroReplay by rw[newReplay,hr]; rfl]
  refine Con.of Tryz.func23 J Tryz.ntmps23 J (fun E => ?_)
  refine Wz [51,11,6] ?_;refine V6 (Kh J J (Xy l hl hL) J J J) J ?_;refine Wz [144,0,151,75,102] ?_;refine zx (Qj J J (hc) J) J ?_;refine Wz [16,93] ?_
  exact G4 J J (Ye [1,1,1] [4,5,6] J J (by decide) J J J)
 |true =>
  rw[hr] at hc
  rw[show newReplay l p s e=⟨l,p,s,e,[],[]⟩ by rw[newReplay,hr]; rfl]
  refine Con.of Tryz.func23 J Tryz.ntmps23 J (fun E => ?_)
  refine Wz [51,11,6] ?_;refine V6 (Kh J J (Xy l hl hL) J J J) J ?_;refine Wz [144,0,151,75,102] ?_;refine zx (Qj J J (hc) J) J ?_;refine Wz [16,38,6,115] ?_
  exact G4 J J (Ye [1,1] [2,4,5] J J (by decide) J J J)
theorem S_NewReplay (l:TLevel) (p s e:Int) (hl:Enc.gd l) (hL:l.Rows.length≤1048576) (hp:I64 p) (hs:I64 s) (he:I64 e):Con Tryz.prog 143 [] [ag l,ai p,ai s,ai e] (ownO (Enc.e (newReplay l p s e))) (.tu [.ag (ownV 0 (Enc.e (newReplay l p s e))),.c (.rd [] (.v (.bool (replayOk ⟨l,p,s,e,[],[]⟩))))]):=by
 have hc:=(X9 ⟨l,p,s,e,[],[]⟩ ⟨hl,hp,hs,he,⟨by simp,fun x hx=>by simp at hx⟩,⟨by simp,fun x hx=>by simp at hx⟩⟩).den (args2 := [.ag [.rd [] (sl l.Rows),.rd [] (.v (.int .i64 p)),.rd [] (.v (.int .i64 s)),.rd [] (.v (.int .i64 e)),.rd [] (.v (.slice none 0 0)),.rd [] (.v (.slice none 0 0))]])
  (.cons (.ag (.cons (.same _) (.cons (.same _) (.cons (.same _) (.cons (.same _) (.cons (.nil _ _) (.cons (.nil _ _) .nil))))))) .nil)
 cases hr:replayOk ⟨l,p,s,e,[],[]⟩ with
 |false =>
  rw[hr] at hc
  rw[show newReplay l p s e=zeroReplay by rw[newReplay,hr]; rfl]
  refine Con.of Tryz.func143 J Tryz.ntmps143 J (fun E => ?_)
  refine Wz [51,11,6] ?_;refine V6 (Kh J J (Yb l hl hL) J J J) J ?_;refine Wz [144,0,151,75,102] ?_;refine zx (Qj J J (hc) J) J ?_;refine Wz [16,93] ?_
  exact G4 J J (Ye [1,1,1] [4,5,6] J J (by decide) J J J)
 |true =>
  rw[hr] at hc
  rw[show newReplay l p s e=⟨l,p,s,e,[],[]⟩ by rw[newReplay,hr]; rfl]
  refine Con.of Tryz.func143 J Tryz.ntmps143 J (fun E => ?_)
  refine Wz [51,11,6] ?_;refine V6 (Kh J J (Yb l hl hL) J J J) J ?_;refine Wz [144,0,151,75,102] ?_;refine zx (Qj J J (hc) J) J ?_;refine Wz [16,38,6,115] ?_
  exact G4 J J (Ye [1,1] [2,4,5] J J (by decide) J J J)
end
section
open Go.RowKit

theorem Clone_ints (xs:List Int) (hne:0<xs.length) (hL:xs.length≤1099511627776):Con Tryz.prog 196 [] [al xs] [.row 1 (els xs)] (.o (.c (.ref 0))):=by
 have hlx:=Y9 xs
 have hlp:0<(els xs).length:=by omega
 refine Con.of Tryz.func196 J Tryz.ntmps196 J (fun E => ?_)
 have h00:([]:List (List T)).length=0:=rfl
 refine Wz [94] ?_;refine zx (q_slnil J J J J hlp) J ?_;refine Wz [38,1,179,0] ?_;refine M_app J J J J J J J J J J (Za _) (els_k _) (by omega) (by omega) ?_;refine Wz [19] ?_
 exact Gq J (Gr [0] J J J)
@[reducible] def jv (n:Int):V1 := .rd [] (.v (.int .i64 n))
def bodyOf (l:List Int):TBody:=⟨l.getD 0 0,l.getD 1 0,l.getD 2 0,l.getD 3 0,l.getD 4 0,l.getD 5 0,l.getD 6 0,l.getD 7 0,l.getD 8 0⟩
def bodiesOf (l:List Int) (n:Nat):List TBody:=(List.range n).map fun k=>bodyOf (l.drop (9*k))
def zeroWorld:TWorld:=⟨⟨[]⟩,0,0,[],[]⟩
def worldOf (lv:TLevel) (l:List Int):TWorld:=⟨lv,l.getD 0 0,l.getD 1 0,(l.drop 3).take (l.getD 2 0).toNat,bodiesOf (l.drop (3+(l.getD 2 0).toNat)) ((l.length-3-(l.getD 2 0).toNat)/9)⟩
def formOk (l:List Int):Prop:=3≤l.length∧(1≤l.getD 2 0∧l.getD 2 0≤4)∧3+l.getD 2 0≤l.length∧((l.length:Int)-3-l.getD 2 0)%9=0
noncomputable def readWorld (lv:TLevel) (s:ByteArray):Option TWorld:=match unpackInts s 0 with
 |none=>none
 |some (l,pos)=>@ite _ (pos=s.size∧formOk l∧worldOk (worldOf lv l)=true) (Classical.propDecidable _) (some (worldOf lv l)) none
theorem K5 {lv:TLevel} {s:ByteArray} (h:unpackInts s 0=none):readWorld lv s=none:=by rw[readWorld,h]
theorem K6 {lv:TLevel} {s:ByteArray} {l:List Int} {pos:Nat} (h:unpackInts s 0=some (l,pos)) (hp:pos=s.size∧formOk l∧worldOk (worldOf lv l)=true):readWorld lv s=some (worldOf lv l):=by
 rw[readWorld,h]
 exact @if_pos _ (Classical.propDecidable _) hp _ _ _
theorem K4 {lv:TLevel} {s:ByteArray} {l:List Int} {pos:Nat} (h:unpackInts s 0=some (l,pos)) (hp:¬(pos=s.size∧formOk l∧worldOk (worldOf lv l)=true)):readWorld lv s=none:=by
 rw[readWorld,h]
 exact @if_neg _ (Classical.propDecidable _) hp _ _ _
@[reducible] def rwW (r:Option TWorld):TWorld:=r.getD zeroWorld
@[reducible] def rwB (r:Option TWorld):Bool:=r.isSome
theorem Yp (l:List Int) (n:Nat):(bodiesOf l n).length=n:=by simp[bodiesOf]
theorem bodiesOf_snoc (l:List Int) (n:Nat):bodiesOf l (n+1)=bodiesOf l n ++ [bodyOf (l.drop (9*n))]:=by
 rw[bodiesOf,List.range_succ,List.map_append]
 rfl
theorem bodyOf_ints {l:List Int} (h:9≤l.length):bodyInts (bodyOf l)=l.take 9:=by
 match l,h with
 |a::b::c::d::e::f::g::i::j::r,_=>rfl
theorem bodiesOf_ints:∀ (n:Nat) (l:List Int),9*n≤l.length→(bodiesOf l n).flatMap bodyInts=l.take (9*n)
 |0,l,_=>by simp[bodiesOf]
 |n+1,l,h=>by
  rw[bodiesOf_snoc,List.flatMap_append,bodiesOf_ints n l (by omega),List.flatMap_singleton,bodyOf_ints (by simp; omega),Nat.mul_succ,List.take_add]
theorem bodyOf_gd {l:List Int} (h:∀ x∈l,I64 x):Enc.gd (bodyOf l):=by
 have hd:∀ i,I64 (l.getD i 0):=fun i=>by
  rw[Gqc]
  cases hi:l[i]? with
  |none=>exact⟨by decide,by decide⟩
  |some x=>exact h x (Gqu hi)
 exact⟨hd 0,hd 1,hd 2,hd 3,hd 4,hd 5,hd 6,hd 7,hd 8⟩
theorem worldOf_gd {lv:TLevel} {l:List Int} (hlv:Enc.gd lv) (h:∀ x∈l,I64 x) (hL:l.length≤1099511627776):Enc.gd (worldOf lv l):=by
 have hd:∀ i,I64 (l.getD i 0):=fun i=>by
  rw[Gqc]
  cases hi:l[i]? with
  |none=>exact⟨by decide,by decide⟩
  |some x=>exact h x (Gqu hi)
 refine⟨hlv,hd 0,hd 1,⟨?_,fun x hx=>h x (Gxw (Gxc hx))⟩,⟨?_,fun b hb => ?_⟩⟩
 ·show ((l.drop 3).take (l.getD 2 0).toNat).length≤_
  simp; omega
 ·show (bodiesOf _ _).length≤_
  rw[Yp]
  have:(l.length-3-(l.getD 2 0).toNat)/9≤l.length:=by omega
  omega
 ·obtain⟨k,hk,rfl⟩:=Gqr.1 (show b∈(List.range _).map _ from hb)
  exact bodyOf_gd fun x hx=>h x (Gxw (Gxw hx))
theorem worldOf_ints {lv:TLevel} {l:List Int} (h:formOk l):worldInts (worldOf lv l)=l:=by
 obtain⟨h3,h4,h5,h6⟩:=h
 obtain⟨p,hp⟩:∃ p:Nat,l.getD 2 0=p:=⟨(l.getD 2 0).toNat,by omega⟩
 match l,h3 with
 | a::b::c::r,_ =>
  have hc:c=p:=by simpa using hp
  subst hc
  simp only[Gqt] at h5 h6
  simp only[List.getD_cons_succ,List.getD_cons_zero] at h4 h5 h6
  have hl:((r.take p).length:Int)=p:=by simp; omega
  show ([a,b,((((a::b::(p:Int)::r).drop 3).take ((p:Int)).toNat).length:Int)]++((a::b::(p:Int)::r).drop 3).take ((p:Int)).toNat)++(bodiesOf ((a::b::(p:Int)::r).drop (3+((p:Int)).toNat)) (((a::b::(p:Int)::r).length-3-((p:Int)).toNat)/9)).flatMap bodyInts=_
  rw[Int.toNat_natCast]
  have hdr:(a::b::(p:Int)::r).drop (3+p)=r.drop p:=by
   rw[←Gxn]; rfl
  have hd3:(a::b::(p:Int)::r).drop 3=r:=rfl
  have hlen:(a::b::(p:Int)::r).length-3-p=(r.drop p).length:=by simp
  have h9:9*((r.drop p).length/9)=(r.drop p).length:=by
   have:(r.drop p).length=r.length-p:=by simp
   omega
  rw[hdr,hd3,hlen,bodiesOf_ints _ _ (by omega),h9,Gq1,hl]
  simp
theorem row7 {a b c d e f:Ob} {k:Nat} {x y:List (List T)} (h:x=y) : [a,b,c,d,e,f,Ob.row k x] = [a,b,c,d,e,f,Ob.row k y]:=by rw[h]
theorem rdE {ps:List Nat} {k:Nat} {a b:List (List T)} (h:a=b):V.o (.c (.rd ps (.sl k a)))=V.o (.c (.rd ps (.sl k b))):=by rw[h]
theorem Zc {α:Type} [Enc α] (xs:List α) (n:Nat):els (xs.take n)=(els xs).take n:=List.map_take
theorem els_dropE {α:Type} [Enc α] (xs:List α) (n:Nat):els (xs.drop n)=(els xs).drop n:=List.map_drop
theorem Yz {rest:List Int} {m:Nat} (h:9*m+9≤rest.length) {j:Nat} (hj:j<9) (a b:Int) (ha:a=9*m+9) (hb:b=9*m) (i:Int) (hi:i=j):(((els rest).take a.toNat).drop b.toNat)[i.toNat]? = some [.v (.int .i64 ((rest.drop (9*m)).getD j 0))]:=by
 subst ha hb hi
 rw[show ((9:Int)*(m:Int)+9).toNat=9*m+9 by omega,show ((9:Int)*(m:Int)).toNat=9*m by omega,Int.toNat_natCast,Gq5,Gxi,if_pos (by omega),Gqc,Gq5,els,Gqh,Gqd (by omega)]
 rfl
theorem Y8 {l:List Int} {j:Nat} (h:j<l.length) (i:Int) (hi:i=j):(els l)[i.toNat]? = some [.v (.int .i64 (l.getD j 0))]:=by
 subst hi
 rw[Int.toNat_natCast,Gqc,els,Gqh,Gqd h]
 rfl
end
section
open Go.RowKit

def colF (q:Int→Bool) (row:ByteArray):Nat→Option Nat
 |0=>none
 |c+1=>match colF q row c with
  |some x=>some x
  |none=>if q (byteAt row c)=true then some c else none
def tileF (q:Int→Bool) (rows:List ByteArray):Nat→Option (Nat×Nat)
 |0=>none
 | r+1=>match tileF q rows r with
  |some x=>some x
  |none=>match rows[r]? with
   |none=>none
   |some row=>(colF q row row.size).map fun c=>(r,c)
def isOpen (t:Int):Bool:=decide (t≠35)
def isDig (p:Int) (t:Int):Bool:=decide (t=49+p)
def spX:Option (Nat×Nat)→Int
 |none => -1
 |some (_,c)=>16*c+2
def spY:Option (Nat×Nat)→Int
 |none => -1
 |some (r,_)=>16*r+2
def startT (l:TLevel) (p:Int):Option (Nat×Nat):=match tileF (isDig p) l.Rows l.Rows.length with
 |some x=>some x
 |none=>tileF isOpen l.Rows l.Rows.length
theorem colF_some {q:Int→Bool} {row:ByteArray}:∀ {n c:Nat},colF q row n=some c→c<n∧q (byteAt row c)=true
 |0,c,h=>by cases h
 | n+1,c,h=>by
  rw[colF] at h
  cases h1:colF q row n with
  |some x=>rw[h1] at h; cases h; have:=colF_some h1; exact⟨by omega,this.2⟩
  |none =>
   rw[h1] at h
   by_cases h2:q (byteAt row n)=true
   ·rw[if_pos h2] at h; cases h; exact⟨by omega,h2⟩
   ·rw[if_neg h2] at h; cases h
theorem colF_none {q:Int→Bool} {row:ByteArray}:∀ {n:Nat},colF q row n=none→∀ c,c<n→q (byteAt row c)=false
 |0,h,c,hc=>by omega
 | n+1,h,c,hc=>by
  rw[colF] at h
  cases h1:colF q row n with
  |some x=>rw[h1] at h; cases h
  | none =>
   rw[h1] at h
   by_cases h2:q (byteAt row n)=true
   ·rw[if_pos h2] at h; cases h
   ·by_cases e:c=n
    ·subst e; simpa using h2
    ·exact colF_none h1 c (by omega)
theorem tileF_some {q:Int→Bool} {rows:List ByteArray}:∀ {n r c:Nat},tileF q rows n=some (r,c)→∃ h:r<rows.length,r<n∧c<rows[r].size∧q (byteAt rows[r] c)=true
 |0,r,c,h=>by cases h
 | n+1,r,c,h=>by
  rw[tileF] at h
  cases h1:tileF q rows n with
  |some x=>rw[h1] at h; cases h; obtain⟨a,b,d⟩:=tileF_some h1; exact⟨a,by omega,d⟩
  | none =>
   rw[h1] at h
   cases h2:rows[n]? with
   |none=>rw[h2] at h; cases h
   |some row =>
    rw[h2] at h
    simp only[Option.map_eq_some_iff,Prod.mk.injEq] at h
    obtain⟨c',h3,rfl,rfl⟩:=h
    have hn:=(Gqo.1 h2).1
    have he:=(Gqo.1 h2).2
    have:=colF_some h3
    exact⟨hn,by omega,by rw[he]; exact this.1,by rw[he]; exact this.2⟩
theorem tileF_none {q:Int→Bool} {rows:List ByteArray}:∀ {n:Nat},tileF q rows n=none→∀ r (h:r<rows.length),r<n→∀ c,c<rows[r].size→q (byteAt rows[r] c)=false
 |0,h,r,hr,hn,c,hc=>by omega
 | n+1,h,r,hr,hn,c,hc=>by
  rw[tileF] at h
  cases h1:tileF q rows n with
  |some x=>rw[h1] at h; cases h
  | none =>
   rw[h1] at h
   by_cases e:r=n
   ·subst e
    rw[Gqd hr] at h
    simp only[Option.map_eq_none_iff] at h
    exact colF_none h c hc
   ·exact tileF_none h1 r hr (by omega) c hc
theorem tileM_open {e:Bool} {t:Int} {s s':Seen×Bool} (h:tileM e t s=some s') (ho:s'.2=true):s.2=true∨t≠35:=by
 by_cases ht:t=35
 ·rw[tileM,if_pos ht] at h; cases h; exact .inl ho
 ·exact .inr ht
theorem cols_open {row:ByteArray} {er:Bool} {w:Nat} {s:Seen×Bool}:∀ {n:Nat} {s':Seen×Bool},colsM row er w s n=some s'→s'.2=true→s.2=true∨∃ c,c<n∧byteAt row c≠35
 |0,s',h,ho=>by cases h; exact .inl ho
 | n+1,s',h,ho=>by
  rw[colsM] at h
  cases h1:colsM row er w s n with
  |none=>rw[h1] at h; cases h
  | some s1 =>
   rw[h1] at h
   rcases tileM_open h ho with h2 | h2
   ·rcases cols_open h1 h2 with h3 | ⟨c,hc,h3⟩
    ·exact .inl h3
    ·exact .inr ⟨c,by omega,h3⟩
   ·exact .inr ⟨n,by omega,h2⟩
theorem rows_open {rows:List ByteArray} {w:Nat}:∀ {n:Nat} {s:Seen×Bool},rowsM rows w n=some s→s.2=true→∃ r c,∃ h:r<rows.length,r<n∧c<rows[r].size∧byteAt rows[r] c≠35
 |0,s,h,ho=>by cases h; cases ho
 | n+1,s,h,ho=>by
  rw[rowsM] at h
  cases h1:rowsM rows w n with
  |none=>rw[h1] at h; cases h
  | some s1 =>
   rw[h1] at h
   cases h2:rows[n]? with
   |none=>rw[h2] at h; cases h
   | some row =>
    rw[h2] at h
    simp only at h
    split at h
    ·rename_i hw
     have hn:=(Gqo.1 h2).1
     have he:=(Gqo.1 h2).2
     rcases cols_open h ho with h3 | ⟨c,hc,h3⟩
     ·obtain⟨r,c,a,b,d⟩:=rows_open h1 h3
      exact⟨r,c,a,by omega,d⟩
     ·exact⟨n,c,hn,by omega,by rw[he]; omega,by rw[he]; exact h3⟩
    ·cases h
theorem level_open {l:TLevel} (h:levelOk l=true):∃ r c,∃ h:r<l.Rows.length,c<(l.Rows[r]).size∧byteAt (l.Rows[r]) c≠35:=by
 unfold levelOk at h
 simp only[Gqg] at h
 obtain⟨_,h5⟩:=h
 split at h5
 ·rename_i s hs
  obtain⟨r,c,a,b,d⟩:=rows_open hs h5
  exact⟨r,c,a,d⟩
 ·cases h5
theorem start_some {l:TLevel} (hl:levelOk l=true) {p:Int} (hp:0≤p∧p≤3):∃ r c,startT l p=some (r,c)∧∃ h:r<l.Rows.length,c<(l.Rows[r]).size∧byteAt (l.Rows[r]) c≠35:=by
 unfold startT
 cases h1:tileF (isDig p) l.Rows l.Rows.length with
 |some x =>
  obtain⟨r,c⟩:=x
  obtain⟨a,b,d,e⟩:=tileF_some h1
  refine⟨r,c,J,a,d,?_⟩
  have:=Gqi e
  omega
 | none =>
  cases h2:tileF isOpen l.Rows l.Rows.length with
  |some x =>
   obtain⟨r,c⟩:=x
   obtain⟨a,b,d,e⟩:=tileF_some h2
   exact⟨r,c,J,a,d,Gqi e⟩
  |none =>
   obtain⟨r,c,a,d,e⟩:=level_open hl
   have:=tileF_none h2 r a a c d
   exact absurd e (Gqj this)
def openF (rows:List ByteArray) (row:ByteArray) (r c:Nat):Option (Nat×Nat):=match tileF isOpen rows r with
 |some x=>some x
 |none=>(colF isOpen row c).map fun c=>(r,c)
theorem openF_zero {rows:List ByteArray} {row:ByteArray} {r:Nat}:openF rows row r 0=tileF isOpen rows r:=by
 unfold openF
 cases tileF isOpen rows r <;> rfl
theorem openF_end {rows:List ByteArray} {row:ByteArray} {r:Nat} (h:rows[r]? = some row):openF rows row r row.size=tileF isOpen rows (r+1):=by
 rw[openF,tileF,h]
theorem Z1 {rows:List ByteArray} {row:ByteArray} {r c:Nat} {x:Nat×Nat} (h:openF rows row r c=some x):openF rows row r (c+1)=some x:=by
 unfold openF at h ⊢
 cases h1:tileF isOpen rows r with
 |some y=>rw[h1] at h; exact h
 |none =>
  rw[h1] at h
  simp only[Option.map_eq_some_iff] at h ⊢
  obtain⟨a,h2,h3⟩:=h
  exact⟨a,by rw[colF,h2],h3⟩
theorem Z3 {rows:List ByteArray} {row:ByteArray} {r c:Nat} (h:openF rows row r c=none):openF rows row r (c+1)=if byteAt row c=35 then none else some (r,c):=by
 unfold openF at h ⊢
 cases h1:tileF isOpen rows r with
 |some y=>rw[h1] at h; cases h
 |none =>
  rw[h1] at h
  simp only[Option.map_eq_none_iff] at h
  simp only[colF,h]
  by_cases h2:byteAt row c=35
  ·rw[if_pos h2,if_neg (show ¬isOpen (byteAt row c)=true from fun q=>Gqi q h2)]; rfl
  ·rw[if_neg h2,if_pos (show isOpen (byteAt row c)=true from Gqb h2)]; rfl
theorem colF_step {q:Int→Bool} {row:ByteArray} {c:Nat} (h:colF q row c=none) (hq:q (byteAt row c)=false):colF q row (c+1)=none:=by rw[colF,h]; simp[hq]
theorem colF_hit {q:Int→Bool} {row:ByteArray} {c:Nat} (h:colF q row c=none) (hq:q (byteAt row c)=true):∀ {n:Nat},c<n→colF q row n=some c
 |0,hn=>by omega
 |n+1,hn=>by
  rw[colF]
  by_cases e:c=n
  ·subst e; rw[h]; simp[hq]
  ·rw[colF_hit h hq (by omega)]
theorem tileF_step {q:Int→Bool} {rows:List ByteArray} {row:ByteArray} {r:Nat} (h:tileF q rows r=none) (hr:rows[r]? = some row) (hc:colF q row row.size=none):tileF q rows (r+1)=none:=by rw[tileF,h,hr]; simp[hc]
theorem tileF_hit {q:Int→Bool} {rows:List ByteArray} {row:ByteArray} {r c:Nat} (h:tileF q rows r=none) (hr:rows[r]? = some row) (hc:colF q row row.size=some c):∀ {n:Nat},r<n→tileF q rows n=some (r,c)
 |0,hn=>by omega
 |n+1,hn=>by
  rw[tileF]
  by_cases e:r=n
  ·subst e; rw[h,hr]; simp[hc]
  ·rw[tileF_hit h hr hc (by omega)]
theorem start_dig {l:TLevel} {p:Int} {row:ByteArray} {r c:Nat} (h:tileF (isDig p) l.Rows r=none) (hr:l.Rows[r]? = some row) (hc:colF (isDig p) row c=none) (hcs:c<row.size) (hb:byteAt row c=49+p):startT l p=some (r,c):=by
 have h1:=colF_hit hc (show isDig p (byteAt row c)=true from Gqb hb) hcs
 rw[startT,tileF_hit h hr h1 (Gqo.1 hr).1]
theorem start_open {l:TLevel} {p:Int} {n:Nat} (h:tileF (isDig p) l.Rows n=none) (hn:n=l.Rows.length):startT l p=tileF isOpen l.Rows n:=by
 subst hn
 rw[startT,h]
theorem spX_neg {o:Option (Nat×Nat)}:spX o<0↔o=none:=by
 cases o with
 |none=>simp[spX]
 |some x=>obtain⟨r,c⟩:=x; simp[spX]; omega
def fresh (l:TLevel) (p:Int):TBody:=⟨0,p,spX (startT l p),spY (startT l p),0,0,1,3,0⟩
theorem fresh_free {l:TLevel} (hl:levelOk l=true) {p:Int} (hp:0≤p∧p≤3):solidM l (fresh l p).X (fresh l p).Y 12=false∧(0≤(fresh l p).X∧(fresh l p).X≤400)∧(0≤(fresh l p).Y∧(fresh l p).Y≤400):=by
 obtain⟨r,c,h1,hr,hc,hb⟩:=start_some hl hp
 obtain⟨l3,l12,w,w4,w20,hw⟩:=Zt hl
 have hwr:=hw r hr
 rw[fresh,h1]
 refine⟨solidM_F ?_,by simp only[spX]; omega,by simp only[spY]; omega⟩
 rintro⟨r',c',a1,a2,a3,a4,hwall⟩
 simp only[spX,spY] at a1 a2 a3 a4
 have e1:r'=r:=by omega
 have e2:c'=c:=by omega
 subst e1 e2
 exact no_wall hr hc hb hwall
def newWorld (l:TLevel) (n:Nat) (seed:Int):TWorld:=⟨l,0,seed,List.replicate n 0,(List.range n).map fun (k:Nat)=>fresh l (k:Int)⟩
theorem newWorld_ok {l:TLevel} {n:Nat} {seed:Int} (hl:levelOk l=true) (hn:1≤n∧n≤4) (hs:inR seed 0 65535=true):worldOk (newWorld l n seed)=true:=by
 refine worldOk_T ⟨hl,J,hs,by simpa[newWorld] using hn,?_,by simp[newWorld]; omega,?_⟩
 ·simp only[newWorld,scoresOk,List.all_replicate]
  simp[inR]
 ·intro k hk
  have hk4:k<n:=by simpa[newWorld] using hk
  have hlen:(newWorld l n seed).Scores.length=n:=by simp[newWorld]
  have hb:(newWorld l n seed).Bodies[k]=fresh l k:=by simp[newWorld]
  rw[hlen,hb]
  obtain⟨h1,h2,h3⟩:=fresh_free hl (p:=(k:Int)) (by omega)
  show bodyAt l n k (fresh l k)=true
  rw[bodyAt,if_pos hk4,Gqg]
  refine⟨?_,Gqb ⟨J,J⟩⟩
  rw[bodyM,show sizeOf (fresh l k).Kind=12 from rfl,h1]
  have e1:inR (fresh l (k:Int)).Kind 0 2=true:=rfl
  have e2:inR (fresh l (k:Int)).Owner 0 ((n:Int)-1)=true:=Zn.2 ⟨by show (0:Int)≤k; omega,by show (k:Int)≤n-1; omega⟩
  have e3:inR (fresh l (k:Int)).VX (-15) 15=true:=rfl
  have e4:inR (fresh l (k:Int)).VY (-15) 15=true:=rfl
  have e5:tailM (fresh l (k:Int))=true:=rfl
  rw[e1,e2,e3,e4,e5]
  rfl
theorem bodyOf_app (b:TBody) (r:List Int):bodyOf (bodyInts b++r)=b:=by cases b; rfl
theorem flat_drop:∀ (bs:List TBody) (k:Nat) (h:k<bs.length),∃ r,(bs.flatMap bodyInts).drop (9*k)=bodyInts bs[k]++r
 | [],k,h=>by simp at h
 |b::bs,0,h=>⟨bs.flatMap bodyInts,by simp⟩
 |b::bs,k+1,h=>by
  obtain⟨r,hr⟩:=flat_drop bs k (by simpa using h)
  refine⟨r,?_⟩
  rw[List.flatMap_cons,show 9*(k+1)=(bodyInts b).length+9*k by simp[bodyInts]; omega,←Gxn,List.drop_left,hr]
  rfl
theorem bodiesOf_flat (bs:List TBody):bodiesOf (bs.flatMap bodyInts) bs.length=bs:=by
 apply List.ext_getElem
 ·simp[bodiesOf]
 ·intro k h1 h2
  obtain⟨r,hr⟩:=flat_drop bs k h2
  simp only[bodiesOf,List.getElem_map,List.getElem_range,hr,bodyOf_app]
theorem flat_length (bs:List TBody):(bs.flatMap bodyInts).length=9*bs.length:=by
 have:=flat_len bs bs.length (Gqf _)
 rwa[Gq1] at this
theorem worldOf_ints2 (w:TWorld) (h1:1≤w.Scores.length) (h2:w.Scores.length≤4):worldOf w.Level (worldInts w)=w∧formOk (worldInts w):=by
 have hn:(worldInts w).getD 2 0=(w.Scores.length:Int):=rfl
 have hd:(worldInts w).drop 3=w.Scores++w.Bodies.flatMap bodyInts:=by simp[worldInts]
 have hd2:(worldInts w).drop (3+w.Scores.length)=w.Bodies.flatMap bodyInts:=by rw[←Gxn,hd,List.drop_left]
 have hl:(worldInts w).length=3+w.Scores.length+9*w.Bodies.length:=by
  have:=flat_length w.Bodies
  simp only[worldInts,Gqe,Gqt,List.length_nil]
  omega
 constructor
 ·rw[worldOf,hn,hd,show ((w.Scores.length:Nat):Int).toNat=w.Scores.length by omega,List.take_left,hd2,hl,show (3+w.Scores.length+9*w.Bodies.length-3-w.Scores.length)/9=w.Bodies.length by omega,bodiesOf_flat]
  rfl
 ·rw[formOk,hn,hl]
  omega
theorem newWorld_back {l:TLevel} {n:Nat} {seed:Int} (hl:levelOk l=true) (hn:1≤n∧n≤4) (hs:inR seed 0 65535=true):readWorld l (worldBytes (newWorld l n seed))=some (newWorld l n seed):=by
 have hok:=newWorld_ok hl hn hs
 have hlen:(newWorld l n seed).Scores.length=n:=by simp[newWorld]
 obtain⟨h1,h2⟩:=worldOf_ints2 (newWorld l n seed) (by omega) (by omega)
 have hs:=Zn.1 hs
 have hx:∀ x∈worldInts (newWorld l n seed),0≤signless x:=by
  intro x hx
  have hb:0≤x∧x≤65535:=by
   simp only[worldInts,Gqm,List.mem_cons,Gxp,or_false,List.mem_flatMap] at hx
   rcases hx with (h | h) | ⟨b,hb,h⟩
   ·rcases h with h | h | h <;> subst h
    ·show (0:Int)≤0∧(0:Int)≤65535; omega
    ·exact hs
    ·omega
   ·have:x=0:=by simpa[newWorld] using (Gx5 h)
    omega
   ·simp only[newWorld,Gqr,List.mem_range] at hb
    obtain⟨k,hk,rfl⟩:=hb
    obtain⟨_,h3,h4⟩:=fresh_free hl (p:=(k:Int)) (by omega)
    simp only[bodyInts,List.mem_cons,Gxp,or_false] at h
    rcases h with h | h | h | h | h | h | h | h | h <;> subst h
    ·show (0:Int)≤0∧(0:Int)≤65535; omega
    ·show (0:Int)≤k∧(k:Int)≤65535; omega
    ·omega
    ·omega
    all_goals (simp only[fresh]; omega)
  unfold signless
  rw[if_pos (by omega),if_pos hb.1]
  omega
 have hL:(worldInts (newWorld l n seed)).length≤1073741824:=by
  have:=flat_length (newWorld l n seed).Bodies
  have h5:(newWorld l n seed).Bodies.length=n:=by simp[newWorld]
  simp only[worldInts,Gqe,Gqt,List.length_nil]
  omega
 have hu:=unpackInts_enc hx hL
 rw[worldBytes,if_pos hok]
 have:=K6 (lv:=l) hu ⟨rfl,h2,by rw[show worldOf l (worldInts (newWorld l n seed))=newWorld l n seed from h1]; exact hok⟩
 rw[this,show worldOf l (worldInts (newWorld l n seed))=newWorld l n seed from h1]
end
section
open Go.RowKit

def nextR (s:Int):Int:=if 0≤s∧s≤65535 then (s*25173+13849)%65536 else 0
def belowR (s n:Int):Int:=nextR s/16%n
theorem Zz (s:Int):0≤nextR s∧nextR s≤65535:=by
 unfold nextR
 split <;> omega
def pressed (i k:Int):Bool:=decide (((i.toNat &&& k.toNat:Nat):Int)≠0)
noncomputable def steer (l:TLevel) (b:TBody) (i:Int):TBody×Bool :=
 (⟨b.Kind,b.Owner,b.X,b.Y,
  if (pressed i 1 && !pressed i 2)=true then -3 else if (pressed i 2 && !pressed i 1)=true then 3 else 0,
  if (pressed i 4&&solidM l b.X (b.Y+1) 12)=true then -9 else min (b.VY+1) 8,
  if (pressed i 1 && !pressed i 2)=true then -1 else if (pressed i 2 && !pressed i 1)=true then 1 else b.Aim,
  b.Life,
  if (pressed i 8&&decide ((if 0<b.Timer then b.Timer-1 else b.Timer)=0))=true then 12 else (if 0<b.Timer then b.Timer-1 else b.Timer)⟩,
  pressed i 8&&decide ((if 0<b.Timer then b.Timer-1 else b.Timer)=0))
def slide (hit:Int→Bool) (step:Int):Nat→Int→Int×Bool
 |0,x=>(x,false)
 |n+1,x=>if hit (x+step)=true then (x,true) else slide hit step n (x+step)
theorem slide_hit {hit:Int→Bool} {step x:Int} {n:Nat} (h:hit (x+step)=true):slide hit step (n+1) x=(x,true):=by rw[slide,if_pos h]
theorem slide_go {hit:Int→Bool} {step x:Int} {n:Nat} (h:hit (x+step)=false):slide hit step (n+1) x=slide hit step n (x+step):=by rw[slide,if_neg (by rw[h]; simp)]
def dirOf (v:Int):Int:=if v<0 then -1 else 1
noncomputable def moveX (l:TLevel) (b:TBody):Int×Bool:=slide (fun x=>solidM l x b.Y (sizeOf b.Kind)) (dirOf b.VX) b.VX.natAbs b.X
noncomputable def moveY (l:TLevel) (b:TBody):Int×Bool:=slide (fun y=>solidM l (moveX l b).1 y (sizeOf b.Kind)) (dirOf b.VY) b.VY.natAbs b.Y
noncomputable def moveM (l:TLevel) (b:TBody):TBody×Bool :=
 (⟨b.Kind,b.Owner,(moveX l b).1,(moveY l b).1,if (moveX l b).2=true then 0 else b.VX,if (moveY l b).2=true then 0 else b.VY,b.Aim,b.Life,b.Timer⟩,(moveX l b).2 || (moveY l b).2)
def shotOf (b:TBody):TBody:=⟨1,b.Owner,b.X+4,b.Y+4,6*b.Aim,0,0,0,25⟩
def meetM (a b:TBody):Bool :=
 ((decide (a.X<b.X+sizeOf b.Kind)&&decide (b.X<a.X+sizeOf a.Kind))&&decide (a.Y<b.Y+sizeOf b.Kind))&&decide (b.Y<a.Y+sizeOf a.Kind)
structure Placed (b:TBody):Prop where
 k:0≤b.Kind∧b.Kind≤2
 x:0≤b.X∧b.X≤1000
 y:0≤b.Y∧b.Y≤1000
theorem size_pos {k:Int} (h:0≤k∧k≤2):4≤sizeOf k∧sizeOf k≤12:=by
 unfold sizeOf
 split
 ·omega
 ·split
  ·omega
  ·split <;> omega
def colSp (row:ByteArray) (r:Nat):Nat→List (List Int)
 |0 => []
 |c+1=>if byteAt row c=111 then colSp row r c ++ [[(c:Int)*16+4,(r:Int)*16+4]] else colSp row r c
def rowSp (rows:List ByteArray):Nat→List (List Int)
 |0 => []
 |r+1=>match rows[r]? with
  |none=>rowSp rows r
  |some row=>rowSp rows r++colSp row r row.size
end
section
open Go.RowKit

section
variable {P:Program} {E:Env} {ops:Array Oper} {o:Oper} {st:St} {n:Nat} {y:Operand}
theorem Qz {p i:Nat} (ho:o.op = .nilCheck y) (hg:o.guard=none) (hy:st.ev y = .o (.c (.ptr p i))):Qt P ops o st (.o (.c (.ptr p i))) [] n :=
 .pure hg fun a w H F hr=>by
  obtain⟨g,tt,vs,e1,e2⟩:=hr.v1 hy
  exact⟨.pointer (some ⟨g,i,none⟩),by simp[execOp,ho,e2],g,tt,vs,e1,J⟩
theorem q_nile {p k i j:Nat} (ho:o.op = .nilCheck y) (hg:o.guard=none) (hy:st.ev y = .o (.c (.el p k i j))):Qt P ops o st (.o (.c (.el p k i j))) [] n :=
 .pure hg fun a w H F hr=>by
  obtain⟨b,o',m',c,x,fp,e1,e2⟩:=hr.v1 hy
  exact⟨.pointer (some ⟨b,o'+i*k+j,none⟩),by simp[execOp,ho,e2],b,o',m',c,x,fp,e1,J⟩
end
structure Mid (st':St) (e:Exit) (st:St):Prop where
 h:e = .normal∧Wk st st'
section
variable {P:Program} {E:Env} {st st':St}
theorem Mid.n (h:Wk st st'):Mid st' .normal st:=⟨rfl,h⟩
theorem A_join {c d:Code} {Q Q':Exit→St→Prop} (st':St) (h1:AWP P E c (Mid st') st) (h2:AWP P E d Q' st'):AWP P E c (thn (AWP P E d Q') Q) st :=
 AWP.mono (fun e s h=>by obtain⟨rfl,hw⟩:=h.h; exact⟨AWP.weak hw h2⟩) h1
end
end
end Go.Proofs.YtpmacgnmlmmojaaGreatDoor
