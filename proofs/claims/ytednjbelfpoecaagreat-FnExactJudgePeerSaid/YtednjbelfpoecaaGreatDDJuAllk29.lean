/-
  Rules, data and contracts of functions: part 30 of the proof.
  Conditions: those that each theorem names.
-/
import Derived.ChangeKeysEq
import Derived.Test.YtednjbelfpoecaaGreatDDJuAllk28
set_option linter.unusedSimpArgs false
set_option linter.unusedVariables false
set_option maxRecDepth 8000
set_option maxHeartbeats 8000000
namespace Go.Proofs.YtednjbelfpoecaaGreat
section
open Go.RowKit

class TyInts (P:Program) (t:TypeId) (n:outParam Nat):Prop where
 u:P.underlying t=some (.struct (P.fieldsOf t))
 held:P.stoodInHeld t=false
 guard:P.eqGuardType P.depth t=false
 fs : ((P.fieldsOf t).toList.map fun f => (f.name == "_", f.offset, (match P.underlying f.type with | some (.int .i64) => true | _ => false), P.cellsOf f.type)) = (List.range n).map fun i => (false, i, true, 1)
theorem eqInts {P : Program} {w : World} (d : Nat) (xs ys : List Int) (hl : xs.length = ys.length) : ∀ (fs : List Field) (o : Nat), (fs.map fun f => (f.name == "_", f.offset, (match P.underlying f.type with | some (.int .i64) => true | _ => false), P.cellsOf f.type)) = ((List.range xs.length).drop o).map (fun i => (false, i, true, 1)) →
  (Op.eqFields (d+1) (xs.map (Value.int .i64)).toArray (ys.map (Value.int .i64)).toArray fs).run P w = .ok (decide (xs.drop o=ys.drop o)) w
 | [],o,h=>by
  have h1:((List.range xs.length).drop o) = []:=by simpa using h.symm
  have h2:xs.length≤o:=by simpa using h1
  rw[List.drop_eq_nil_of_le h2,List.drop_eq_nil_of_le (by omega)]
  simp[Op.eqFields]
 | f::fs,o,h=>by
  by_cases ho:o<xs.length
  ·rw[Gxr (by simpa using ho)] at h
   simp only[List.map_cons,List.cons.injEq,List.getElem_range,Prod.mk.injEq] at h
   obtain⟨⟨h1,h2,h3,h4⟩,h5⟩:=h
   have hu:P.underlying f.type=some (.int .i64):=by
    split at h3
    ·assumption
    ·cases h3
   have ih:=eqInts (w:=w) d xs ys hl fs (o+1) h5
   have hn : f.name ≠ "_" := by simpa using h1
   have hk:P.plainKey f.type=true:=by simp[Program.plainKey,hu]
   have p1:(Go.part f.type (xs.map (Value.int .i64)).toArray f.offset).run P w = .ok (.int .i64 xs[o]) w:=run_part_plain w hk (by rw[h2]; simp[ho])
   have p2:(Go.part f.type (ys.map (Value.int .i64)).toArray f.offset).run P w = .ok (.int .i64 (ys[o]'(by omega))) w:=run_part_plain w hk (by rw[h2]; simp[show o<ys.length by omega])
   simp only[Op.eqFields,if_pos hn,Sem.run_bind,p1,p2,Result.andThen_ok,run_equalIn_int w d f.type .i64 .i64 _ _ hu]
   have dx:xs.drop o=xs[o]::xs.drop (o+1):=Gxr ho
   have dy:ys.drop o=ys[o]'(by omega)::ys.drop (o+1):=Gxr (by omega)
   have hd:decide (xs.drop o=ys.drop o)=(decide (xs[o]=ys[o]'(by omega))&&decide (xs.drop (o+1)=ys.drop (o+1))):=by
    rw[dx,dy,←Bool.decide_and]
    exact decide_eq_decide.2 (by rw[List.cons.injEq])
   rw[hd]
   by_cases e:xs[o]=ys[o]'(by omega)
   ·rw[Gqb e,Bool.true_and]
    simp[e,ih]
   ·rw[Gqa e,Gxs]
    have e2:(xs[o] == ys[o]'(by omega))=false:=by simp[e]
    simp[e2]
  ·rw[List.drop_eq_nil_of_le (by simp; omega)] at h
   simp at h
theorem ag_ints {w:World} {H:Hs} {F:Nat→Prop} {ps:List Nat} {cs:List V1} {xs:List Int} {v:Value} (hc:cs=xs.map fun n=>V1.rd ps (.v (.int .i64 n))) (h:R2 w H F (.ag cs) v):v = .agg (xs.map (Value.int .i64)).toArray:=by
 obtain⟨us,rfl,hl,hu⟩:=h
 subst hc
 rw[List.length_map] at hl
 congr 2
 apply List.ext_getElem
 ·simp[hl]
 ·intro i h1 h2
  have h3:=hu i (V1.rd ps (.v (.int .i64 (xs[i]'(by omega))))) us[i] (by simp[show i<xs.length by omega]) (by simp[h1])
  have h4:RO w (inP H F ps) (.v (.int .i64 (xs[i]'(by omega)))) us[i]:=h3
  rw[(RO.plain h4).1]
  simp
section
variable {P:Program} {ops:Array Oper} {o:Oper} {st:St} {m n:Nat} {t t':TypeId} {y z:Operand} {ps qs:List Nat} {cs ds:List V1} {xs ys:List Int} {b:Bool}
theorem q_aneq [hi:TyInts P t n] (ho:o.op = .binOp .neq t y z t') (hg:o.guard=none) (hy:st.ev y = .o (.ag cs)) (hz:st.ev z = .o (.ag ds)) (hc:cs=xs.map fun n=>V1.rd ps (.v (.int .i64 n))) (hd:ds=ys.map fun n=>V1.rd qs (.v (.int .i64 n))) (h1:xs.length=n) (h2:ys.length=n) (hb:decide (xs≠ys)=b):Qt P ops o st (B b) [] m :=
 .pure hg fun a w H F hr=>⟨.bool b,by
  have e1:=ag_ints (w:=w) (H:=H) (F:=F) hc (by have:=hr.ev y; rw[hy] at this; exact this)
  have e2:=ag_ints (w:=w) (H:=H) (F:=F) hd (by have:=hr.ev z; rw[hz] at this; exact this)
  have hq:=eqInts (P:=P) (w:=w) 9998 xs ys (by omega) (P.fieldsOf t).toList 0 (by rw[hi.fs,h1]; rfl)
  have hf:=run_equalIn_struct (P:=P) w 9999 t (xs.map (Value.int .i64)).toArray (ys.map (Value.int .i64)).toArray hi.u hi.held
  rw[hq] at hf
  have hb2:(!decide (xs=ys))=b:=by rw[←hb]; simp
  simp only[execOp,ho,e1,e2,Sem.run_bind,run_eqGuard_agg w .neq t y z _ _ hi.guard,Result.andThen_ok,run_neq_struct,hf,List.drop_zero,hb2]
  rfl,plainV _ rfl⟩
end
instance:TyInts Tryz.prog 138 9:=⟨by kernel_rfl,by kernel_rfl,by kernel_rfl,by kernel_rfl⟩
end
section
open Go.RowKit

theorem bi_eq {x y:TBody} (h:x=y):decide (bodyInts x≠bodyInts y)=false:=by rw[h]; simp
theorem bi_ne {x y:TBody} (h:¬x=y):decide (bodyInts x≠bodyInts y)=true:=by
 refine Gqb fun e=>h ?_
 cases x
 cases y
 simp only[bodyInts,List.cons.injEq,and_true] at e
 simp only[TBody.mk.injEq]
 exact e
theorem slEqB (xs ys:List TBody) (hn:Enc.gd xs):Con Tryz.prog 220 [] [al xs,al ys] [] (B (decide (xs=ys))):=by
 have hn1:=hn.1
 have hlx:=Ya xs
 have hly:=Ya ys
 by_cases hl:xs.length=ys.length
 ·have hb:decide (((els xs).length:Int)≠((els ys).length:Int))=false:=by rw[hlx,hly,hl]; simp
  refine Con.of Tryz.func220 J Tryz.ntmps220 J (fun E => ?_)
  refine Wz [96,29,56,54,11,121,53] ?_;refine Xj (fun m st=>∃ k:Nat,k+m=xs.length∧(xs.take k=ys.take k)∧st=(⟨_,[(0,L xs),(1,L ys),(12,I (els xs).length),(13,I k)],[]⟩:St)) (xs.length) ⟨_,⟨0,by omega,by simp,J⟩,V8 []⟩ ?_
  rintro m_A _ ⟨k,hk_A,hp_A,rfl⟩
  refine Wz [2,66,18] ?_
  refine Xb J (fun h => ?_) (fun h => ?_)
  ·have h3:k<xs.length:=by have:=Gqc h; omega
   have h4:k<ys.length:=by omega
   have hat:=X9 h3
   have hat2:=X9 h4
   by_cases he:xs[k]=ys[k]
   ·have hb6:=bi_eq he
    refine Wz [25,4,18,253,90,90] ?_;refine Kk (q_aneq (ps := []) (qs := []) (xs:=bodyInts xs[k]) (ys:=bodyInts ys[k]) J J J J J J J J hb6) J ?_;refine Wz [10,119,85] ?_
    exact⟨xs.length-(k+1),by omega,_,⟨k+1,by omega,Yh h3 h4 hp_A he,J⟩,V8 []⟩
   ·have hb6:=bi_ne he
    refine Wz [25,4,18,253,90,90] ?_;refine Kk (q_aneq (ps := []) (qs := []) (xs:=bodyInts xs[k]) (ys:=bodyInts ys[k]) J J J J J J J J hb6) J ?_;refine Wz [10,64] ?_
    exact Vz J (V0 [] J J (Xk (Yg h3 h4 he).symm))
  ·have h3:¬((k:Int)<(els xs).length):=Gqd h
   refine Wz [101] ?_
   exact Vz J (V0 [] J J (Xk (V9 hl hp_A).symm))
 ·have hb:decide (((els xs).length:Int)≠((els ys).length:Int))=true:=by rw[hlx,hly]; simp; omega
  refine Con.of Tryz.func220 J Tryz.ntmps220 J (fun E => ?_)
  refine Wz [96,41] ?_
  exact Vz J (V0 [] J J (Xk (Yf hl).symm))
theorem I_SameWorld (x y:TWorld) (hg:Enc.gd x):Con Tryz.prog 136 [] [ag x,ag y] [] (B (decide (x=y))):=by
 obtain⟨g_Level,g_Tick,g_Seed,g_Scores,g_Bodies⟩:=hg
 by_cases e_Level:¬x.Level=y.Level
 ·have hc:=Xt x.Level y.Level g_Level
  rw[Gqa e_Level] at hc
  refine Con.of Tryz.func136 J Tryz.ntmps136 J (fun E => ?_)
  refine Wz [77,63,188] ?_;refine zx (Qj J J (hc) J) J ?_;refine Wz [57,51,7,57,51,7,57,51,7,57,51,7,59] ?_
  exact Vz J (V0 [] J J (Xk (Gqa fun e=>e_Level (by rw[e])).symm))
 have e_Level:=Classical.not_not.1 e_Level
 have hc_Level:=Xt x.Level y.Level g_Level
 rw[Gqb e_Level] at hc_Level
 by_cases e_Tick:¬x.Tick=y.Tick
 ·have hk:decide (x.Tick=y.Tick)=false:=by simp[e_Tick]
  refine Con.of Tryz.func136 J Tryz.ntmps136 J (fun E => ?_)
  refine Wz [77,63,188] ?_;refine zx (Qj J J (hc_Level) J) J ?_;refine Wz [17,83,9,12,57,51,7,57,51,7,57,51,7,59] ?_
  exact Vz J (V0 [] J J (Xk (Gqa fun e=>e_Tick (by rw[e])).symm))
 have e_Tick:=Classical.not_not.1 e_Tick
 have k_Tick:decide (x.Tick=y.Tick)=true:=by simp[e_Tick]
 by_cases e_Seed:¬x.Seed=y.Seed
 ·have hk:decide (x.Seed=y.Seed)=false:=by simp[e_Seed]
  refine Con.of Tryz.func136 J Tryz.ntmps136 J (fun E => ?_)
  refine Wz [77,63,188] ?_;refine zx (Qj J J (hc_Level) J) J ?_;refine Wz [17,83,9,12,17,83,9,12,57,51,7,57,51,7,59] ?_
  exact Vz J (V0 [] J J (Xk (Gqa fun e=>e_Seed (by rw[e])).symm))
 have e_Seed:=Classical.not_not.1 e_Seed
 have k_Seed:decide (x.Seed=y.Seed)=true:=by simp[e_Seed]
 by_cases e_Scores:¬x.Scores=y.Scores
 ·have hc:=slEqI x.Scores y.Scores g_Scores
  rw[Gqa e_Scores] at hc
  refine Con.of Tryz.func136 J Tryz.ntmps136 J (fun E => ?_)
  refine Wz [77,63,188] ?_;refine zx (Qj J J (hc_Level) J) J ?_;refine Wz [17,83,9,12,17,83,9,12,17,83] ?_;refine zx (Qj J J (hc) J) J ?_;refine Wz [12,57,51,7,59] ?_
  exact Vz J (V0 [] J J (Xk (Gqa fun e=>e_Scores (by rw[e])).symm))
 have e_Scores:=Classical.not_not.1 e_Scores
 have hc_Scores:=slEqI x.Scores y.Scores g_Scores
 rw[Gqb e_Scores] at hc_Scores
 by_cases e_Bodies:¬x.Bodies=y.Bodies
 ·have hc:=slEqB x.Bodies y.Bodies g_Bodies
  rw[Gqa e_Bodies] at hc
  refine Con.of Tryz.func136 J Tryz.ntmps136 J (fun E => ?_)
  refine Wz [77,63,188] ?_;refine zx (Qj J J (hc_Level) J) J ?_;refine Wz [17,83,9,12,17,83,9,12,17,83] ?_;refine zx (Qj J J (hc_Scores) J) J ?_;refine Wz [12,17,83] ?_;refine zx (Qj J J (hc) J) J ?_;refine Wz [12,59] ?_
  exact Vz J (V0 [] J J (Xk (Gqa fun e=>e_Bodies (by rw[e])).symm))
 have e_Bodies:=Classical.not_not.1 e_Bodies
 have hc_Bodies:=slEqB x.Bodies y.Bodies g_Bodies
 rw[Gqb e_Bodies] at hc_Bodies
 refine Con.of Tryz.func136 J Tryz.ntmps136 J (fun E => ?_)
 refine Wz [77,63,188] ?_;refine zx (Qj J J (hc_Level) J) J ?_;refine Wz [17,83,9,12,17,83,9,12,17,83] ?_;refine zx (Qj J J (hc_Scores) J) J ?_;refine Wz [12,17,83] ?_;refine zx (Qj J J (hc_Bodies) J) J ?_;refine Wz [12,59] ?_
 exact Vz J (V0 [] J J (Xk (Gqb (by cases x; cases y; simp_all)).symm))
theorem S_SameWorld (x y:TWorld) (hg:Enc.gd x):Con Tryz.prog 19 [] [ag x,ag y] [] (B (decide (x=y))):=by
 obtain⟨g_Level,g_Tick,g_Seed,g_Scores,g_Bodies⟩:=hg
 have hlx:=Ya x.Bodies
 have hly:=Ya y.Bodies
 have hnb:=g_Bodies.1
 have c1:=S_ints x.Scores y.Scores g_Scores
 have c2:=S_sameLevel x.Level y.Level g_Level
 by_cases n1:x.Tick=y.Tick
 case neg =>
  have f1:decide (x.Tick≠y.Tick)=true:=Gqb n1
  rw[Gqa (fun e:x=y=>n1 (by rw[e]))]
  refine Con.of Tryz.func19 J Tryz.ntmps19 J (fun E => ?_)
  refine Wz [38,29,57,51,12,57,123,12,57,123,51,12,57,123,12,28] ?_
  exact Vz J (V0 [] J J J)
 have f1:decide (x.Tick≠y.Tick)=false:=Gqa (fun q=>q n1)
 by_cases n2:x.Seed=y.Seed
 case neg =>
  have f2:decide (x.Seed≠y.Seed)=true:=Gqb n2
  rw[Gqa (fun e:x=y=>n2 (by rw[e]))]
  refine Con.of Tryz.func19 J Tryz.ntmps19 J (fun E => ?_)
  refine Wz [38,29,17,83,29,7,57,123,12,57,123,51,12,57,123,12,28] ?_
  exact Vz J (V0 [] J J J)
 have f2:decide (x.Seed≠y.Seed)=false:=Gqa (fun q=>q n2)
 by_cases n3:x.Scores=y.Scores
 case neg =>
  rw[Gqa n3] at c1
  rw[Gqa (fun e:x=y=>n3 (by rw[e]))]
  refine Con.of Tryz.func19 J Tryz.ntmps19 J (fun E => ?_)
  refine Wz [38,29,17,83,29,7,17,83] ?_;refine zx (Qj J J (c1) J) J ?_;refine Wz [93,7,57,123,51,12,57,123,12,28] ?_
  exact Vz J (V0 [] J J J)
 rw[Gqb n3] at c1
 by_cases n4:x.Bodies.length=y.Bodies.length
 case neg =>
  have f4:decide (((els x.Bodies).length:Int)≠((els y.Bodies).length:Int))=true:=Gqb (by omega)
  rw[Gqa (fun e:x=y=>n4 (by rw[e]))]
  refine Con.of Tryz.func19 J Tryz.ntmps19 J (fun E => ?_)
  refine Wz [38,29,17,83,29,7,17,83] ?_;refine zx (Qj J J (c1) J) J ?_;refine Wz [93,7,17,11,6,83,11,6,29,7,57,123,12,28] ?_
  exact Vz J (V0 [] J J J)
 have f4:decide (((els x.Bodies).length:Int)≠((els y.Bodies).length:Int))=false:=Gqa (by omega)
 by_cases n5:x.Level=y.Level
 case neg =>
  rw[Gqa n5] at c2
  rw[Gqa (fun e:x=y=>n5 (by rw[e]))]
  refine Con.of Tryz.func19 J Tryz.ntmps19 J (fun E => ?_)
  refine Wz [38,29,17,83,29,7,17,83] ?_;refine zx (Qj J J (c1) J) J ?_;refine Wz [93,7,17,11,6,83,11,6,29,7,30,291,79,6,291,79,6] ?_;refine zx (Qj J J (c2) J) J ?_;refine Wz [93,7,28] ?_
  exact Vz J (V0 [] J J J)
 rw[Gqb n5] at c2
 have hxy:decide (x=y)=decide (x.Bodies=y.Bodies):=decide_eq_decide.2 ⟨fun e=>by rw[e],fun e=>by cases x; cases y; simp_all⟩
 rw[hxy]
 clear hxy
 refine Con.of Tryz.func19 J Tryz.ntmps19 J (fun E => ?_)
 refine Wz [38,29,17,83,29,7,17,83] ?_;refine zx (Qj J J (c1) J) J ?_;refine Wz [93,7,17,11,6,83,11,6,29,7,30,291,79,6,291,79,6] ?_;refine zx (Qj J J (c2) J) J ?_;refine Wz [93,91,32] ?_;refine Xj (fun m st=>∃ k:Nat,k+m=x.Bodies.length∧(x.Bodies.take k=y.Bodies.take k)∧st=(⟨_,[(2,.o (.c (.ptr 0 0))),(3,.o (.c (.ptr 1 0))),(5,I k)],[.box ((Enc.e x).map (V1.rd [])),.box ((Enc.e y).map (V1.rd []))]⟩:St)) (x.Bodies.length) ⟨_,⟨0,by omega,by simp,J⟩,V8 [0,1]⟩ ?_
 rintro m_A _ ⟨k,hk_A,hp_A,rfl⟩
 by_cases h3:k<x.Bodies.length
 ·have hb0:decide ((k:Int)<(els x.Bodies).length)=true:=Gqb (by omega)
  have h4:k<y.Bodies.length:=by omega
  have hat:=X9 h3
  have hat2:=X9 h4
  by_cases he:x.Bodies[k]=y.Bodies[k]
  ·have hb6:=bi_eq he
   refine Wz [54,14,11,5,13,72] ?_;refine Xi u8_34 u8_57 u8_58 J ?_;refine Wz [20,111,200,20,111,200] ?_;refine Kk (q_aneq (ps := []) (qs := []) (xs:=bodyInts x.Bodies[k]) (ys:=bodyInts y.Bodies[k]) J J J J J J J J hb6) J ?_;refine Wz [10,49] ?_
   exact⟨x.Bodies.length-(k+1),by omega,_,⟨k+1,by omega,Yh h3 h4 hp_A he,J⟩,V8 [0,1]⟩
  ·have hb6:=bi_ne he
   refine Wz [54,14,11,5,13,72] ?_;refine Xi u8_34 u8_57 u8_58 J ?_;refine Wz [20,111,200,20,111,200] ?_;refine Kk (q_aneq (ps := []) (qs := []) (xs:=bodyInts x.Bodies[k]) (ys:=bodyInts y.Bodies[k]) J J J J J J J J hb6) J ?_;refine Wz [10,64] ?_
   exact Vz J (V0 [] J J (Xk (Yg h3 h4 he).symm))
 ·have hb0:decide ((k:Int)<(els x.Bodies).length)=false:=Gqa (by omega)
  refine Wz [54,14,11,5,128,101] ?_
  exact Vz J (V0 [] J J (Xk (V9 n4 hp_A).symm))
end
section
open Go.RowKit

theorem known_400 {l:List TTrack} (h:tracksOk l=true):knownTicks l≤400:=by
 have hts:=Kb h
 refine Nat.le_of_not_lt fun hc => ?_
 have h1:=known_all (l:=l) (k:=400) hc _ (Gqg (show 0<l.length by omega))
 have h2:=all_at h (show 0<l.length by omega)
 simp only[trackOk,Gqh,decide_eq_true_eq] at h2
 omega
noncomputable def judgeP (m:TMatch) (i:Int):Bool:=if matchOk m=true∧inR i 0 ((m.Peers.length:Int)-1)=true then (match m.Peers[i.toNat]? with | some p=>decide (lockM m p.Fault p.Base.Tick.toNat=p.Base) | none=>false) else false
theorem judgeP_at {m:TMatch} {k:Nat} (ok:matchOk m=true) (h:k<m.Peers.length):judgeP m k=decide (lockM m m.Peers[k].Fault m.Peers[k].Base.Tick.toNat=m.Peers[k].Base):=by
 rw[judgeP,if_pos ⟨ok,Yo.2 ⟨by omega,by omega⟩⟩]
 simp[h]
theorem judgeP_out {m:TMatch} {i:Int} (h:i<0∨(m.Peers.length:Int)≤i):judgeP m i=false:=if_neg fun ⟨_,q⟩=>by have:=Yo.1 q; omega
theorem judgeP_bad {m:TMatch} {i:Int} (h:matchOk m=false):judgeP m i=false:=if_neg fun ⟨q,_⟩=>by rw[h] at q; cases q
noncomputable def judgeW (m:TMatch) (i:Int):Bool:=if matchOk m=true∧inR i 0 ((m.Watchers.length:Int)-1)=true then (match m.Watchers[i.toNat]? with | some s=>inR s.World.Tick 0 400&&decide (lockM m ⟨0,0,0⟩ s.World.Tick.toNat=s.World) | none=>false) else false
theorem judgeW_at {m:TMatch} {k:Nat} (ok:matchOk m=true) (h:k<m.Watchers.length):judgeW m k=(inR m.Watchers[k].World.Tick 0 400&&decide (lockM m ⟨0,0,0⟩ m.Watchers[k].World.Tick.toNat=m.Watchers[k].World)):=by
 rw[judgeW,if_pos ⟨ok,Yo.2 ⟨by omega,by omega⟩⟩]
 simp[h]
theorem judgeW_out {m:TMatch} {i:Int} (h:i<0∨(m.Watchers.length:Int)≤i):judgeW m i=false:=if_neg fun ⟨_,q⟩=>by have:=Yo.1 q; omega
theorem judgeW_bad {m:TMatch} {i:Int} (h:matchOk m=false):judgeW m i=false:=if_neg fun ⟨q,_⟩=>by rw[h] at q; cases q
theorem base_tick {m:TMatch} (ok:matchOk m=true) {k:Nat} (h:k<m.Peers.length):∃ n:Nat,m.Peers[k].Base.Tick=n∧n≤400:=by
 have h1:=(dS ok:MatchP m).2.2.2.1.2 k m.Peers[k] (Gqf h)
 unfold peerIn at h1
 simp only[Gqh] at h1
 have ⟨⟨o1,o2,_⟩,_,_,_,_,_,q1,_⟩:=peer_spec h1.1.1.1
 have h3:=known_400 o1
 have h4:=Yo.1 (Ke o2).2.1
 exact⟨m.Peers[k].Base.Tick.toNat,by omega,by omega⟩
theorem lev_in {x:TMatch} (h:Enc.wt x≤1048576):x.Level.Rows.length≤1048576:=by
 have hw:Enc.wt x=(x.Level.Rows.length+wts x.Level.Rows)+Enc.wt x.Scripts+Enc.wt x.Peers+Enc.wt x.Wires+Enc.wt x.Paces+Enc.wt x.Acks+Enc.wt x.Watchers+Enc.wt x.Lines+Enc.wt x.Alarms:=rfl
 omega
end
section
open Go.RowKit

theorem I_JudgePeer (x:TMatch) (i:Int) (g:Enc.gd x) (gi:Enc.gd i) (ll:x.Level.Rows.length≤1048576):Con Tryz.prog 44 [] [ag x,ai i] [] (B (judgeP x i)):=by
 have hlp:=Ya x.Peers
 have g0:=g
 obtain⟨gL,gS,gD,gSc,gP,gW,gPa,gA,gC,gWa,gLi,gAl,gB⟩:=g
 have hx:=gP.1
 by_cases hr:i<0∨(x.Peers.length:Int)≤i
 ·rw[judgeP_out hr]
  have hc:(decide (i<0) || decide (((els x.Peers).length:Int)≤i))=true:=by simp only[Gqp,decide_eq_true_eq]; omega
  refine Con.of Tryz.func44 J Tryz.ntmps44 J (fun E => ?_)
  refine Wz [74,42,144,0,112,183,206,211] ?_;refine zx (Kq J (.hit (.hit (.hit (.hit .stop)))) (fun hgrd=>q_geq J J J J)) J ?_;refine Wz [65] ?_
  refine Xb J (fun h => ?_) (fun h => ?_)
  ·refine Wz [55] ?_
   exact Vz J (V0 [] J J J)
  ·rw[hc] at h; cases h
 obtain⟨k,rfl⟩:∃ k:Nat,i=k:=⟨i.toNat,by omega⟩
 have hk:k<x.Peers.length:=by omega
 have hc:(decide ((k:Int)<0) || decide (((els x.Peers).length:Int)≤(k:Int)))=false:=by simp only[Gqk,decide_eq_false_iff_not]; omega
 have hat:=X9 hk
 have hgp:=gP.2 _ (Gqg hk)
 cases hm:matchOk x with
 |false =>
  rw[judgeP_bad hm]
  generalize x.Peers[k]=p at hat hgp ⊢
  have c1:=I_LockNo x p.Base.Tick p.Fault g0 (.inl hm)
  refine Con.of Tryz.func44 J Tryz.ntmps44 J (fun E => ?_)
  refine Wz [74,42,144,30,17,11,6,138,91,82,170,204,256,98,18] ?_
  refine AWP.pre (st':=(⟨42,[(1,I k),(2,.o (.c (.ptr 0 0))),(5,.o (.c (.ptr 1 0)))],[.box ((Enc.e x).map (V1.rd [])),.box [.rd [] (sl p.Base.Level.Rows),jn p.Base.Tick,jn p.Base.Seed,.rd [] (sl p.Base.Scores),.rd [] (sl p.Base.Bodies)]]⟩:St)) ?_ (Vy [0,1] J ((by kernel_rfl)) (.c J (.c J (.c J (.nil)))))
  refine Xi u8_59 u8_60 u8_61 J ?_;refine Wz [105,20,20,111,182,200] ?_;refine Kk (Za J J (c1) J J J) J ?_;refine Wz [199,136,136,196,10] ?_;refine AL.weak (st':=(⟨42,[(6,.o (.c (.ptr 0 0))),(34,.o (.ag [nv,jn 0,jn 0,nv,nv])),(35,B false)],[.box [nv,jn 0,jn 0,nv,nv]]⟩:St)) (Vy [2] J ((by kernel_rfl)) (.c J (.c J (.c J (.nil))))) ?_;refine Wz [88,48,95,51,7,59] ?_
  exact Vz J (V0 [] J J J)
 |true =>
 obtain⟨n,ht,hn⟩:=base_tick hm hk
 rw[judgeP_at hm hk,ht]
 generalize x.Peers[k]=p at hat hgp ht ⊢
 have c1:=I_Lock x n p.Fault g0 hgp.2.2.2.2.2.2.2.2.2.2.1 hm ll hn
 have hw:=(lock_fit g0.1 ll (dS hm:MatchP x) p.Fault n).wi
 show Con _ _ _ _ _ (B (decide (lockM x p.Fault n=p.Base)))
 generalize lockM x p.Fault n=w at c1 hw ⊢
 have c2:=I_SameWorld w p.Base hw.gd
 rw[←ht] at c1
 generalize decide (w=p.Base)=y at c2 ⊢
 refine Con.of Tryz.func44 J Tryz.ntmps44 J (fun E => ?_)
 refine Wz [74,42,144,30,17,11,6,138,91,82,170,204,256,98,18] ?_
 refine AWP.pre (st':=(⟨42,[(1,I k),(2,.o (.c (.ptr 0 0))),(5,.o (.c (.ptr 1 0)))],[.box ((Enc.e x).map (V1.rd [])),.box [.rd [] (sl p.Base.Level.Rows),jn p.Base.Tick,jn p.Base.Seed,.rd [] (sl p.Base.Scores),.rd [] (sl p.Base.Bodies)]]⟩:St)) ?_ (Vy [0,1] J ((by kernel_rfl)) (.c J (.c J (.c J (.nil)))))
 refine Xi u8_59 u8_60 u8_61 J ?_;refine Wz [105,20,20,111,182,200] ?_;refine Kk (Za J J (c1) J J J) J ?_;refine Wz [199,136,136,196,10] ?_;refine AL.weak (st':=(⟨42,[(5,.o (.c (.ptr 0 0))),(6,.o (.c (.ptr 4 0))),(34,.o (.ag [.ref 1,jn w.Tick,jn w.Seed,.ref 2,.ref 3])),(35,B true)],[.box [.rd [] (sl p.Base.Level.Rows),jn p.Base.Tick,jn p.Base.Seed,.rd [] (sl p.Base.Scores),.rd [] (sl p.Base.Bodies)],.row 1 (els w.Level.Rows),.row 1 (els w.Scores),.row 9 (els w.Bodies),.box [nv,jn 0,jn 0,nv,nv]]⟩:St)) (Vy [1,2,3,4,5] J ((by kernel_rfl)) (.c J (.c J (.c J (.c J (.nil)))))) ?_;refine Qy J J J J J J J J J ?_;refine AL.weak (st':=(⟨42,[(5,.o (.c (.ptr 0 0))),(6,.o (.c (.ptr 4 0))),(35,B true)],[.box [.rd [] (sl p.Base.Level.Rows),jn p.Base.Tick,jn p.Base.Seed,.rd [] (sl p.Base.Scores),.rd [] (sl p.Base.Bodies)],.row 1 (els w.Level.Rows),.row 1 (els w.Scores),.row 9 (els w.Bodies),.box [.ref 1,jn w.Tick,jn w.Seed,.ref 2,.ref 3]]⟩:St)) (Vy [0,1,2,3,4] J ((by kernel_rfl)) (.c J (.c J (.c J (.nil))))) ?_;refine Wz [48,30,79,6,79,6] ?_;refine zx (Qj J J (c2) J) J ?_;refine Wz [12,59] ?_
 exact Vz J (V0 [] J J J)
theorem S_JudgePeer (x:TMatch) (i:Int) (g:Enc.gd x) (gi:Enc.gd i) (ll:x.Level.Rows.length≤1048576):Con Tryz.prog 42 [] [ag x,ai i] [] (B (judgeP x i)):=by
 have hlp:=Ya x.Peers
 have g0:=g
 obtain⟨gL,gS,gD,gSc,gP,gW,gPa,gA,gC,gWa,gLi,gAl,gB⟩:=g
 have hx:=gP.1
 have cm:=S_MatchOk x g0
 have ci:=Xv i 0 (((els x.Peers).length:Int)-1)
 cases hm:matchOk x with
 |false =>
  rw[hm] at cm
  rw[judgeP_bad hm]
  refine Con.of Tryz.func42 J Tryz.ntmps42 J (fun E => ?_)
  refine Wz [26,71] ?_;refine zx (Qj J J (cm) J) J ?_;refine Wz [8,57,123,51,12,28] ?_
  exact Vz J (V0 [] J J J)
 |true =>
 rw[hm] at cm
 cases hr:inR i 0 (((els x.Peers).length:Int)-1) with
 | false =>
  rw[hr] at ci
  rw[judgeP_out (by
   refine Classical.byContradiction fun hn => ?_
   rw[Yo.2 ⟨by omega,by omega⟩] at hr
   cases hr)]
  refine Con.of Tryz.func42 J Tryz.ntmps42 J (fun E => ?_)
  refine Wz [26,71] ?_;refine zx (Qj J J (cm) J) J ?_;refine Wz [8,30,17,11,6,45,6] ?_;refine zx (Qj J J (ci) J) J ?_;refine Wz [93,7,28] ?_
  exact Vz J (V0 [] J J J)
 |true =>
 rw[hr] at ci
 have hr2:=Yo.1 hr
 obtain⟨k,rfl⟩:∃ k:Nat,i=k:=⟨i.toNat,by omega⟩
 have hk:k<x.Peers.length:=by omega
 have hat:=X9 hk
 have hgp:=gP.2 _ (Gqg hk)
 obtain⟨n,ht,hn⟩:=base_tick hm hk
 rw[judgeP_at hm hk,ht]
 generalize x.Peers[k]=p at hat hgp ht ⊢
 have c1:=S_Lock x n p.Fault g0 hgp.2.2.2.2.2.2.2.2.2.2.1 hm ll hn
 have hw:=(lock_fit g0.1 ll (dS hm:MatchP x) p.Fault n).wi
 show Con _ _ _ _ _ (B (decide (lockM x p.Fault n=p.Base)))
 generalize lockM x p.Fault n=w at c1 hw ⊢
 have c2:=S_SameWorld w p.Base hw.gd
 rw[←ht] at c1
 generalize decide (w=p.Base)=y at c2 ⊢
 refine Con.of Tryz.func42 J Tryz.ntmps42 J (fun E => ?_)
 refine Wz [26,71] ?_;refine zx (Qj J J (cm) J) J ?_;refine Wz [8,30,17,11,6,45,6] ?_;refine zx (Qj J J (ci) J) J ?_;refine Wz [93,91,18] ?_
 refine AWP.pre (st':=(⟨48,[(1,I k),(2,.o (.c (.ptr 0 0)))],[.box ((Enc.e x).map (V1.rd []))]⟩:St)) ?_ (Vy [0] J ((by kernel_rfl)) (.c J (.c J (.nil))))
 refine Xi [[],[],[1],[],[1,2,3],[1,2,3,4],[1,2,3,4,5],[1,2,3,4,5,6],[],[8],[],[8,9,10],[8,9,10,11],[8,9,10,11,12],(u9 14),(u9 15),(u9 16),(u9 16),[],[0,1,2,3,4,5,6,7,8,9,10,11,12,13,14,15,16,18],(u9 20)] [[],[],[21],[],[21,22,23],[21,22,23,24],[21,22,23,24,25],[21,22,23,24,25,26],[],[28],[],[28,29,30],[28,29,30,31],[28,29,30,31,32],[20,21,22,23,24,25,26,27,28,29,30,31,32,33],[20,21,22,23,24,25,26,27,28,29,30,31,32,33,34],[19,20,21,22,23,24,25,26,27,28,29,30,31,32,33,34],[19,20,21,22,23,24,25,26,27,28,29,30,31,32,33,34],[],[5,19,20,21,22,23,24,25,26,27,28,29,30,31,32,33,34,35],[5,19,20,21,22,23,24,25,26,27,28,29,30,31,32,33,34,35,36]] [[5,21,22,23,24,25,26,27,28,29,30,31,32,33],[5,20,23,28,29,30,31,32,33],[5,20,23,28,29,30,31,32,33],[5,20,21,22,28,29,30,31,32,33],[5,20,28,29,30,31,32,33],[5,20,28,29,30,31,32,33],[5,20,28,29,30,31,32,33],[5,20,28,29,30,31,32,33],[5,20,21,22,23,24,25,26,27,30],[5,20,21,22,23,24,25,26,27,30],[5,20,21,22,23,24,25,26,27,28,29],[5,20,21,22,23,24,25,26,27],[5,20,21,22,23,24,25,26,27],[5,20,21,22,23,24,25,26,27],[5],[5],[5,36],[5,35],[19,20,21,22,23,24,25,26,27,28,29,30,31,32,33,34,35,36],[36],[],[17]] J ?_;refine Wz [105,20,111,182,182,46,20,111,182,200] ?_;refine Kk (Za J J (c1) J J J) J ?_;refine Wz [199,136,136,196,10] ?_;refine AL.weak (st':=(⟨48,[(1,I k),(2,.o (.c (.ptr 0 0))),(5,.o (.c (.ptr 4 0))),(35,.o (.ag [.ref 1,jn w.Tick,jn w.Seed,.ref 2,.ref 3])),(36,B true)],[.box ((Enc.e x).map (V1.rd [])),.row 1 (els w.Level.Rows),.row 1 (els w.Scores),.row 9 (els w.Bodies),.box [nv,jn 0,jn 0,nv,nv]]⟩:St)) (Vy [0,1,2,3,4] J ((by kernel_rfl)) (.c J (.c J (.c J (.c J (.c J (.nil))))))) ?_;refine Qy J J J J J J J J J ?_;refine AL.weak (st':=(⟨48,[(1,I k),(2,.o (.c (.ptr 0 0))),(5,.o (.c (.ptr 4 0))),(36,B true)],[.box ((Enc.e x).map (V1.rd [])),.row 1 (els w.Level.Rows),.row 1 (els w.Scores),.row 9 (els w.Bodies),.box [.ref 1,jn w.Tick,jn w.Seed,.ref 2,.ref 3]]⟩:St)) (Vy [0,1,2,3,4] J ((by kernel_rfl)) (.c J (.c J (.c J (.c J (.nil)))))) ?_;refine Wz [4,18] ?_
 refine AWP.pre (st':=(⟨48,[(1,I k),(2,.o (.c (.ptr 0 0))),(5,.o (.c (.ptr 4 0))),(6,B true)],[.box ((Enc.e x).map (V1.rd [])),.row 1 (els w.Level.Rows),.row 1 (els w.Scores),.row 9 (els w.Bodies),.box [.ref 1,jn w.Tick,jn w.Seed,.ref 2,.ref 3]]⟩:St)) ?_ (Vy [0,1,2,3,4] J ((by kernel_rfl)) (.c J (.c J (.c J (.c J (.nil))))))
 refine Xi u8_62 [[],[37],[37,38],[37,38],[37,38,40],[37,38],[37,38,40,41,42],[37,38,40,41,42,43],[37,38,40,41,42,43,44],[37,38,39,40,41,42,43,44,45],[37,38,39,40,41,42,43,44,45,46],[37,38,39,40,41,42,43,44,45,46,47]] [[],[],[40,41,42,43,44,45],[39,42],[39,42],[39,40,41],[39],[39],[39],[],[],[]] J ?_;refine Wz [1,1,166,104,124,189,266] ?_;refine Kk (Qt.yes J J J (Qj J J (c2) J)) J ?_;refine Wz [86,179,10,16,84] ?_
 exact Vz J (V0 [] J J J)
end
end Go.Proofs.YtednjbelfpoecaaGreat
