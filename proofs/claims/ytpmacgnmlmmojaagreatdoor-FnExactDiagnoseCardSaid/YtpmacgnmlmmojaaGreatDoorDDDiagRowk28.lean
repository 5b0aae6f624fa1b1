/-
  Rules, data and contracts of functions: part 29 of the proof.
  Conditions: those that each theorem names.
-/
import Derived.ChangeKeysEq
import Derived.Test.YtpmacgnmlmmojaaGreatDoorDDDiagRowk25
import Derived.Test.YtpmacgnmlmmojaaGreatDoorDDDiagRowk27
set_option linter.unusedSimpArgs false
set_option linter.unusedVariables false
set_option maxRecDepth 8000
set_option maxHeartbeats 8000000
namespace Go.Proofs.YtpmacgnmlmmojaaGreatDoor
section
open Go.RowKit

class TyInts (P:Program) (t:TypeId) (n:outParam Nat):Prop where
 u:P.underlying t=some (.struct (P.fieldsOf t))
 held:P.stoodInHeld t=false
 guard:P.eqGuardType P.depth t=false
 fs : ((P.fieldsOf t).toList.map fun f => (f.name == "_", f.offset, (match P.underlying f.type with | some (.int .i64) => true | _ => false), P.cellsOf f.type)) = (List.range n).map fun i => (false, i, true, 1)
theorem eqInts {P : Program} {w : World} (d : Nat) (xs ys : List Int) (hl : xs.length = ys.length) : ∀ (fs : List Field) (o : Nat), (fs.map fun f => (f.name == "_", f.offset, (match P.underlying f.type with | some (.int .i64) => true | _ => false), P.cellsOf f.type)) = ((List.range xs.length).drop o).map (fun i => (false, i, true, 1)) →
  (Op.eqFields (d+1) (xs.map (Value.int .i64)).toArray (ys.map (Value.int .i64)).toArray fs).run P w = .ok (decide (xs.drop o=ys.drop o)) w
 | [],o,h=>by
  have h1:((List.range xs.length).drop o) = []:=by simpa using h.symm
  have h2:xs.length≤o:=by simpa using h1
  rw[List.drop_eq_nil_of_le h2,List.drop_eq_nil_of_le (by omega)]
  simp[Op.eqFields]
 | f::fs,o,h=>by
  by_cases ho:o<xs.length
  ·rw[Gxj (by simpa using ho)] at h
   simp only[List.map_cons,List.cons.injEq,List.getElem_range,Prod.mk.injEq] at h
   obtain⟨⟨h1,h2,h3,h4⟩,h5⟩:=h
   have hu:P.underlying f.type=some (.int .i64):=by
    split at h3
    ·assumption
    ·cases h3
   have ih:=eqInts (w:=w) d xs ys hl fs (o+1) h5
   have hn : f.name ≠ "_" := by simpa using h1
   have hk:P.plainKey f.type=true:=by simp[Program.plainKey,hu]
   have p1:(Go.part f.type (xs.map (Value.int .i64)).toArray f.offset).run P w = .ok (.int .i64 xs[o]) w:=run_part_plain w hk (by rw[h2]; simp[ho])
   have p2:(Go.part f.type (ys.map (Value.int .i64)).toArray f.offset).run P w = .ok (.int .i64 (ys[o]'(by omega))) w:=run_part_plain w hk (by rw[h2]; simp[show o<ys.length by omega])
   simp only[Op.eqFields,if_pos hn,Sem.run_bind,p1,p2,Result.andThen_ok,run_equalIn_int w d f.type .i64 .i64 _ _ hu]
   have dx:xs.drop o=xs[o]::xs.drop (o+1):=Gxj ho
   have dy:ys.drop o=ys[o]'(by omega)::ys.drop (o+1):=Gxj (by omega)
   have hd:decide (xs.drop o=ys.drop o)=(decide (xs[o]=ys[o]'(by omega))&&decide (xs.drop (o+1)=ys.drop (o+1))):=by
    rw[dx,dy,←Bool.decide_and]
    exact decide_eq_decide.2 (by rw[List.cons.injEq])
   rw[hd]
   by_cases e:xs[o]=ys[o]'(by omega)
   ·rw[Gqb e,Bool.true_and]
    simp[e,ih]
   ·rw[Gqa e,Bool.false_and]
    have e2:(xs[o] == ys[o]'(by omega))=false:=by simp[e]
    simp[e2]
  ·rw[List.drop_eq_nil_of_le (by simp; omega)] at h
   simp at h
theorem ag_ints {w:World} {H:Hs} {F:Nat→Prop} {ps:List Nat} {cs:List V1} {xs:List Int} {v:Value} (hc:cs=xs.map fun n=>V1.rd ps (.v (.int .i64 n))) (h:R2 w H F (.ag cs) v):v = .agg (xs.map (Value.int .i64)).toArray:=by
 obtain⟨us,rfl,hl,hu⟩:=h
 subst hc
 rw[List.length_map] at hl
 congr 2
 apply List.ext_getElem
 ·simp[hl]
 ·intro i h1 h2
  have h3:=hu i (V1.rd ps (.v (.int .i64 (xs[i]'(by omega))))) us[i] (by simp[show i<xs.length by omega]) (by simp[h1])
  have h4:RO w (inP H F ps) (.v (.int .i64 (xs[i]'(by omega)))) us[i]:=h3
  rw[(RO.plain h4).1]
  simp
section
variable {P:Program} {ops:Array Oper} {o:Oper} {st:St} {m n:Nat} {t t':TypeId} {y z:Operand} {ps qs:List Nat} {cs ds:List V1} {xs ys:List Int} {b:Bool}
theorem q_aneq [hi:TyInts P t n] (ho:o.op = .binOp .neq t y z t') (hg:o.guard=none) (hy:st.ev y = .o (.ag cs)) (hz:st.ev z = .o (.ag ds)) (hc:cs=xs.map fun n=>V1.rd ps (.v (.int .i64 n))) (hd:ds=ys.map fun n=>V1.rd qs (.v (.int .i64 n))) (h1:xs.length=n) (h2:ys.length=n) (hb:decide (xs≠ys)=b):Qt P ops o st (B b) [] m :=
 .pure hg fun a w H F hr=>⟨.bool b,by
  have e1:=ag_ints (w:=w) (H:=H) (F:=F) hc (by have:=hr.ev y; rw[hy] at this; exact this)
  have e2:=ag_ints (w:=w) (H:=H) (F:=F) hd (by have:=hr.ev z; rw[hz] at this; exact this)
  have hq:=eqInts (P:=P) (w:=w) 9998 xs ys (by omega) (P.fieldsOf t).toList 0 (by rw[hi.fs,h1]; rfl)
  have hf:=run_equalIn_struct (P:=P) w 9999 t (xs.map (Value.int .i64)).toArray (ys.map (Value.int .i64)).toArray hi.u hi.held
  rw[hq] at hf
  have hb2:(!decide (xs=ys))=b:=by rw[←hb]; simp
  simp only[execOp,ho,e1,e2,Sem.run_bind,run_eqGuard_agg w .neq t y z _ _ hi.guard,Result.andThen_ok,run_neq_struct,hf,List.drop_zero,hb2]
  rfl,plainV _ rfl⟩
end
instance:TyInts Tryz.prog 168 9:=⟨by kernel_rfl,by kernel_rfl,by kernel_rfl,by kernel_rfl⟩
end
section
open Go.RowKit

theorem row3p {k:Nat} {o o2:Ob} {a b:List (List T)} (h:a=b) : [o,o2,Ob.row k a] = [o,o2,Ob.row k b]:=by rw[h]
theorem Yi {l l':List ByteArray} {x:ByteArray} (h:l'=l ++ [x]):els l'=els l ++ [Enc.e x]:=by rw[h]; simp[els]
theorem differ_no {a b:TWorld} (h:¬(worldOk a=true∧worldOk b=true)):differ a b = []:=if_neg h
theorem differ_ok {a b:TWorld} (h:worldOk a=true) (h2:worldOk b=true):differ a b=dD a b (b.Bodies.length-a.Bodies.length):=if_pos ⟨h,h2⟩
theorem sc_T {a b:TWorld} {k:Nat} (h:b.Scores.length≤k):scDiff a b k=true:=by rw[scDiff,Gqb h]; rfl
theorem sc_is {a b:TWorld} {k:Nat} (h1:k<a.Scores.length) (h2:k<b.Scores.length):scDiff a b k=decide (a.Scores[k]≠b.Scores[k]):=by
 rw[scDiff,Gqa (by omega),Bool.false_or]
 simp[Gqc,h1,h2]
theorem bo_T {a b:TWorld} {k:Nat} (h:b.Bodies.length≤k):boDiff a b k=true:=by rw[boDiff,Gqb h]; rfl
theorem bo_is {a b:TWorld} {k:Nat} (h1:k<a.Bodies.length) (h2:k<b.Bodies.length):boDiff a b k=decide (bodyInts a.Bodies[k]≠bodyInts b.Bodies[k]):=by
 rw[boDiff,Gqa (by omega),Bool.false_or]
 simp[Gqc,h1,h2]
theorem dS_len (a b:TWorld) (n:Nat):(dS a b n).length≤1+n:=by
 have h1:(dSeed a b).length≤1:=by unfold dSeed; split <;> simp
 have h2:=List.length_filter_le (scDiff a b) (List.range n)
 simp only[dS,Gqj,List.length_map]
 simp only[List.length_range] at h2
 omega
theorem dB_len (a b:TWorld) (n:Nat):(dB a b n).length≤1+a.Scores.length+n:=by
 have h1:=dS_len a b a.Scores.length
 have h2:=List.length_filter_le (boDiff a b) (List.range n)
 simp only[dB,Gqj,List.length_map]
 simp only[List.length_range] at h2
 omega
theorem dC_len (a b:TWorld) (n:Nat):(dC a b n).length≤1+a.Scores.length+a.Bodies.length+n:=by
 have h1:=dB_len a b a.Bodies.length
 simp only[dC,Gqj,List.length_map,List.length_range']
 omega
theorem dD_len (a b:TWorld) (n:Nat):(dD a b n).length≤1+a.Scores.length+a.Bodies.length+b.Scores.length+n:=by
 have h1:=dC_len a b (b.Scores.length-a.Scores.length)
 simp only[dD,Gqj,List.length_map,List.length_range']
 omega
theorem I_DifferOf (a b:TWorld) (ga:Enc.gd a) (gb:Enc.gd b):Con Tryz.prog 56 [] [ag a,ag b] [.row 1 (els (differ a b))] (.o (.c (.ref 0))):=by
 have hca:=Xt a ga
 have hcb:=Xt b gb
 cases hoa:worldOk a with
 |false =>
  rw[hoa] at hca
  rw[differ_no (by simp[hoa])]
  refine Con.of Tryz.func56 J Tryz.ntmps56 J (fun E => ?_)
  refine Wz [100,31] ?_;refine zx (Qj J J (hca) J) J ?_;refine Wz [15,95,77,26,57] ?_
  exact V3 J (W_fill [1] [2] J J (by decide) J J J)
 |true =>
 rw[hoa] at hca
 cases hob:worldOk b with
 |false =>
  rw[hob] at hcb
  rw[differ_no (by simp[hob])]
  refine Con.of Tryz.func56 J Tryz.ntmps56 J (fun E => ?_)
  refine Wz [100,31] ?_;refine zx (Qj J J (hca) J) J ?_;refine Wz [15,25,39,5] ?_;refine zx (Qj J J (hcb) J) J ?_;refine Wz [71,7,57] ?_
  exact V3 J (W_fill [1] [2] J J (by decide) J J J)
 |true =>
 rw[hob] at hcb
 rw[differ_ok hoa hob]
 obtain⟨_,_,_,hn,_,hm,_⟩:=Kd hoa
 obtain⟨_,_,_,hn2,_,hm2,_⟩:=Kd hob
 have hlsa:=Ye a.Scores
 have hlba:=Ye a.Bodies
 have hlsb:=Ye b.Scores
 have hlbb:=Ye b.Bodies
 refine Con.of Tryz.func56 J Tryz.ntmps56 J (fun E => ?_)
 refine Wz [100,31] ?_;refine zx (Qj J J (hca) J) J ?_;refine Wz [15,25,39,5] ?_;refine zx (Qj J J (hcb) J) J ?_;refine Wz [71,45,34,306,142,3] ?_
 refine AWP.pre ?_ (W_nil 5 1 J)
 refine Xb J (fun h => ?_) (fun h => ?_)
 ·have hse:=Gqd h
  have hds:dSeed a b=_:=if_pos hse
  refine Wz [65,53] ?_;refine Xx J J J J J J J J J J (by decide) (by decide) ?_;refine Wz [2,21,12,140,64] ?_
  refine Xj (fun m st=>∃ k:Nat,k+m=a.Scores.length∧(True)∧st=(⟨_,[(2,.o (.c (.ptr 0 0))),(3,.o (.c (.ptr 1 0))),(5,.o (.c (.ref 2))),(28,I (els a.Scores).length),(29,I k)],[.box ((Enc.e a).map (V1.rd [])),.box ((Enc.e b).map (V1.rd [])),.row 1 (els (dS a b k))]⟩:St)) (a.Scores.length) ⟨(fun k:Nat=>(⟨_,[(2,.o (.c (.ptr 0 0))),(3,.o (.c (.ptr 1 0))),(5,.o (.c (.ref 2))),(28,I (els a.Scores).length),(29,I k)],[.box ((Enc.e a).map (V1.rd [])),.box ((Enc.e b).map (V1.rd [])),.row 1 (els (dS a b k))]⟩:St)) 0,⟨0,by omega,trivial,J⟩,V0 [0,1,2] J (row3p (by rw[dS,hds]; rfl)) (.c J (.c J (.c J (.c J (.c J (.nil))))))⟩ ?_
  rintro m_A _ ⟨k,hk_A,hp_A,rfl⟩
  have hdl:=dS_len a b k
  have hel:=Ye (dS a b k)
  refine Wz [1,67,17] ?_
  refine Xb J (fun h => ?_) (fun h => ?_)
  ·have h3:k<a.Scores.length:=by have:=Gqd h; omega
   have hat:=Yd h3
   have hf:=Gt k
   have hfs:=Ym k
   by_cases h4:b.Scores.length≤k
   ·have hb4:decide (((els b.Scores).length:Int)≤k)=true:=Gqb (by omega)
    refine Wz [50,2,17,256,4,19,190,180,90,102,202,173,55,9,22,81] ?_;refine zx (Qj J J (hf) J) J ?_
    refine M0 (q_cat J J J J (by simp only[X9,Yb,Gqr,List.length_nil,Gqj]; omega)) J J ?_
    refine Wz [53,153,149,54] ?_
    exact⟨a.Scores.length-(k+1),by omega,(fun k:Nat=>(⟨_,[(2,.o (.c (.ptr 0 0))),(3,.o (.c (.ptr 1 0))),(5,.o (.c (.ref 2))),(28,I (els a.Scores).length),(29,I k)],[.box ((Enc.e a).map (V1.rd [])),.box ((Enc.e b).map (V1.rd [])),.row 1 (els (dS a b k))]⟩:St)) (k+1),⟨k+1,by omega,trivial,J⟩,V0 [0,1,2] J (row3p (Yi (Yk _ (sc_T h4)))) (.c J (.c J (.c J (.c J (.c J (.nil))))))⟩
   ·have hb4:decide (((els b.Scores).length:Int)≤k)=false:=Gqa (by omega)
    have h5:k<b.Scores.length:=by omega
    have hat2:=Yd h5
    by_cases h6:a.Scores[k]≠b.Scores[k]
    ·have hb6:decide (a.Scores[k]≠b.Scores[k])=true:=Gqb h6
     refine Wz [50,2,17,256,4,19,190,180,4,62,96,139,62,96,139,255,43,9,22,81] ?_;refine zx (Qj J J (hf) J) J ?_
     refine M0 (q_cat J J J J (by simp only[X9,Yb,Gqr,List.length_nil,Gqj]; omega)) J J ?_
     refine Wz [53,153,149,54] ?_
     exact⟨a.Scores.length-(k+1),by omega,(fun k:Nat=>(⟨_,[(2,.o (.c (.ptr 0 0))),(3,.o (.c (.ptr 1 0))),(5,.o (.c (.ref 2))),(28,I (els a.Scores).length),(29,I k)],[.box ((Enc.e a).map (V1.rd [])),.box ((Enc.e b).map (V1.rd [])),.row 1 (els (dS a b k))]⟩:St)) (k+1),⟨k+1,by omega,trivial,J⟩,V0 [0,1,2] J (row3p (Yi (Yk _ (by rw[sc_is h3 h5,hb6])))) (.c J (.c J (.c J (.c J (.c J (.nil))))))⟩
    ·have hb6:decide (a.Scores[k]≠b.Scores[k])=false:=Gqa h6
     refine Wz [50,2,17,256,4,19,190,180,4,62,96,139,62,96,139,255,43,9,127,54] ?_
     exact⟨a.Scores.length-(k+1),by omega,(fun k:Nat=>(⟨_,[(2,.o (.c (.ptr 0 0))),(3,.o (.c (.ptr 1 0))),(5,.o (.c (.ref 2))),(28,I (els a.Scores).length),(29,I k)],[.box ((Enc.e a).map (V1.rd [])),.box ((Enc.e b).map (V1.rd [])),.row 1 (els (dS a b k))]⟩:St)) (k+1),⟨k+1,by omega,trivial,J⟩,V0 [0,1,2] J (row3p (congrArg els (filt_no _ (by rw[sc_is h3 h5,hb6])))) (.c J (.c J (.c J (.c J (.c J (.nil))))))⟩
  have h3:¬k<a.Scores.length:=by have:=Gqf h; omega
  have hk:k=a.Scores.length:=by omega
  rw[hk]
  refine Wz [29,21,12,140,64] ?_
  refine Xj (fun m st=>∃ i:Nat,i+m=a.Bodies.length∧(True)∧st=(⟨_,[(2,.o (.c (.ptr 0 0))),(3,.o (.c (.ptr 1 0))),(5,.o (.c (.ref 2))),(59,I (els a.Bodies).length),(60,I i)],[.box ((Enc.e a).map (V1.rd [])),.box ((Enc.e b).map (V1.rd [])),.row 1 (els (dB a b i))]⟩:St)) (a.Bodies.length) ⟨(fun i:Nat=>(⟨_,[(2,.o (.c (.ptr 0 0))),(3,.o (.c (.ptr 1 0))),(5,.o (.c (.ref 2))),(59,I (els a.Bodies).length),(60,I i)],[.box ((Enc.e a).map (V1.rd [])),.box ((Enc.e b).map (V1.rd [])),.row 1 (els (dB a b i))]⟩:St)) 0,⟨0,by omega,trivial,J⟩,V0 [0,1,2] J (row3p (by rw[dB]; simp)) (.c J (.c J (.c J (.c J (.c J (.nil))))))⟩ ?_
  rintro m_B _ ⟨i,hk_B,hp_B,rfl⟩
  have hdl:=dB_len a b i
  have hel:=Ye (dB a b i)
  refine Wz [1,67,17] ?_
  refine Xb J (fun h => ?_) (fun h => ?_)
  ·have h3:i<a.Bodies.length:=by have:=Gqd h; omega
   have hat:=Yd h3
   have hf:=Gt i
   have hfs:=Ym i
   by_cases h4:b.Bodies.length≤i
   ·have hb4:decide (((els b.Bodies).length:Int)≤i)=true:=Gqb (by omega)
    refine Wz [50,2,17,257,4,19,190,180,90,102,202,173,55,9,22,81] ?_;refine zx (Qj J J (hf) J) J ?_
    refine M0 (q_cat J J J J (by simp only[X9,Yb,Gqr,List.length_nil,Gqj]; omega)) J J ?_
    refine Wz [53,153,149,54] ?_
    exact⟨a.Bodies.length-(i+1),by omega,(fun i:Nat=>(⟨_,[(2,.o (.c (.ptr 0 0))),(3,.o (.c (.ptr 1 0))),(5,.o (.c (.ref 2))),(59,I (els a.Bodies).length),(60,I i)],[.box ((Enc.e a).map (V1.rd [])),.box ((Enc.e b).map (V1.rd [])),.row 1 (els (dB a b i))]⟩:St)) (i+1),⟨i+1,by omega,trivial,J⟩,V0 [0,1,2] J (row3p (Yi (Yk _ (bo_T h4)))) (.c J (.c J (.c J (.c J (.c J (.nil))))))⟩
   ·have hb4:decide (((els b.Bodies).length:Int)≤i)=false:=Gqa (by omega)
    have h5:i<b.Bodies.length:=by omega
    have hat2:=Yd h5
    by_cases h6:bodyInts a.Bodies[i]≠bodyInts b.Bodies[i]
    ·have hb6:decide (bodyInts a.Bodies[i]≠bodyInts b.Bodies[i])=true:=Gqb h6
     refine Wz [50,2,17,257,4,19,190,180,4,62,96,222,62,96,222] ?_;refine Ki (Qt.yes J J J (q_aneq (ps := []) (qs := []) (xs:=bodyInts a.Bodies[i]) (ys:=bodyInts b.Bodies[i]) J J J J J J J J hb6)) J ?_;refine Wz [43,9,22,81] ?_;refine zx (Qj J J (hf) J) J ?_
     refine M0 (q_cat J J J J (by simp only[X9,Yb,Gqr,List.length_nil,Gqj]; omega)) J J ?_
     refine Wz [53,153,149,54] ?_
     exact⟨a.Bodies.length-(i+1),by omega,(fun i:Nat=>(⟨_,[(2,.o (.c (.ptr 0 0))),(3,.o (.c (.ptr 1 0))),(5,.o (.c (.ref 2))),(59,I (els a.Bodies).length),(60,I i)],[.box ((Enc.e a).map (V1.rd [])),.box ((Enc.e b).map (V1.rd [])),.row 1 (els (dB a b i))]⟩:St)) (i+1),⟨i+1,by omega,trivial,J⟩,V0 [0,1,2] J (row3p (Yi (Yk _ (by rw[bo_is h3 h5,hb6])))) (.c J (.c J (.c J (.c J (.c J (.nil))))))⟩
    ·have hb6:decide (bodyInts a.Bodies[i]≠bodyInts b.Bodies[i])=false:=Gqa h6
     refine Wz [50,2,17,257,4,19,190,180,4,62,96,222,62,96,222] ?_;refine Ki (Qt.yes J J J (q_aneq (ps := []) (qs := []) (xs:=bodyInts a.Bodies[i]) (ys:=bodyInts b.Bodies[i]) J J J J J J J J hb6)) J ?_;refine Wz [43,9,127,54] ?_
     exact⟨a.Bodies.length-(i+1),by omega,(fun i:Nat=>(⟨_,[(2,.o (.c (.ptr 0 0))),(3,.o (.c (.ptr 1 0))),(5,.o (.c (.ref 2))),(59,I (els a.Bodies).length),(60,I i)],[.box ((Enc.e a).map (V1.rd [])),.box ((Enc.e b).map (V1.rd [])),.row 1 (els (dB a b i))]⟩:St)) (i+1),⟨i+1,by omega,trivial,J⟩,V0 [0,1,2] J (row3p (congrArg els (filt_no _ (by rw[bo_is h3 h5,hb6])))) (.c J (.c J (.c J (.c J (.c J (.nil))))))⟩
  have h3:¬i<a.Bodies.length:=by have:=Gqf h; omega
  have hk2:i=a.Bodies.length:=by omega
  rw[hk2]
  refine Wz [29,21,12,151] ?_
  refine Xj (fun m__ st=>∃ (j:Nat),b.Scores.length-a.Scores.length-j=m__∧(j≤b.Scores.length-a.Scores.length)∧st=(⟨_,[(2,.o (.c (.ptr 0 0))),(3,.o (.c (.ptr 1 0))),(5,.o (.c (.ref 2))),(8,I ((a.Scores.length+j:Nat):Int))],[.box ((Enc.e a).map (V1.rd [])),.box ((Enc.e b).map (V1.rd [])),.row 1 (els (dC a b j))]⟩:St)) _ ⟨(fun (j:Nat)=>(⟨_,[(2,.o (.c (.ptr 0 0))),(3,.o (.c (.ptr 1 0))),(5,.o (.c (.ref 2))),(8,I ((a.Scores.length+j:Nat):Int))],[.box ((Enc.e a).map (V1.rd [])),.box ((Enc.e b).map (V1.rd [])),.row 1 (els (dC a b j))]⟩:St)) (0),⟨0,J,Gxf _,J⟩,V0 [0,1,2] J (row3p (by rw[dC]; simp)) (.c J (.c J (.c J (.cons (Xv (by omega)) (.nil)))))⟩ ?_
  rintro m_C _ ⟨j,hk_C,hp_C,rfl⟩
  have hdl:=dC_len a b j
  have hel:=Ye (dC a b j)
  refine Wz [36,10,87] ?_
  refine Xb J (fun h => ?_) (fun h => ?_)
  ·have h3:a.Scores.length+j<b.Scores.length:=by have:=Gqd h; omega
   have hf:=Gt (a.Scores.length+j)
   have hfs:=Ym (a.Scores.length+j)
   refine Wz [16,81] ?_;refine zx (Qj J J (hf) J) J ?_
   refine M0 (q_cat J J J J (by simp only[X9,Yb,Gqr,List.length_nil,Gqj]; omega)) J J ?_
   refine Wz [53,153,82] ?_
   refine⟨_,(by omega),(fun (j:Nat)=>(⟨_,[(2,.o (.c (.ptr 0 0))),(3,.o (.c (.ptr 1 0))),(5,.o (.c (.ref 2))),(8,I ((a.Scores.length+j:Nat):Int))],[.box ((Enc.e a).map (V1.rd [])),.box ((Enc.e b).map (V1.rd [])),.row 1 (els (dC a b j))]⟩:St)) (j+1),⟨j+1,J,by omega,J⟩,V0 [0,1,2] J (row3p (Yi (rng_snoc _))) (.c J (.c J (.c J (.cons (Xv (by omega)) (.nil)))))⟩
  have h3:¬a.Scores.length+j<b.Scores.length:=by have:=Gqf h; omega
  have hk3:j=b.Scores.length-a.Scores.length:=by omega
  rw[hk3]
  refine Wz [29,21,12,151] ?_
  refine Xj (fun m__ st=>∃ (q:Nat),b.Bodies.length-a.Bodies.length-q=m__∧(q≤b.Bodies.length-a.Bodies.length)∧st=(⟨_,[(2,.o (.c (.ptr 0 0))),(3,.o (.c (.ptr 1 0))),(5,.o (.c (.ref 2))),(9,I ((a.Bodies.length+q:Nat):Int))],[.box ((Enc.e a).map (V1.rd [])),.box ((Enc.e b).map (V1.rd [])),.row 1 (els (dD a b q))]⟩:St)) _ ⟨(fun (q:Nat)=>(⟨_,[(2,.o (.c (.ptr 0 0))),(3,.o (.c (.ptr 1 0))),(5,.o (.c (.ref 2))),(9,I ((a.Bodies.length+q:Nat):Int))],[.box ((Enc.e a).map (V1.rd [])),.box ((Enc.e b).map (V1.rd [])),.row 1 (els (dD a b q))]⟩:St)) (0),⟨0,J,Gxf _,J⟩,V0 [0,1,2] J (row3p (by rw[dD]; simp)) (.c J (.c J (.c J (.cons (Xv (by omega)) (.nil)))))⟩ ?_
  rintro m_D _ ⟨q,hk_D,hp_D,rfl⟩
  have hdl:=dD_len a b q
  have hel:=Ye (dD a b q)
  refine Wz [36,10,87] ?_
  refine Xb J (fun h => ?_) (fun h => ?_)
  ·have h3:a.Bodies.length+q<b.Bodies.length:=by have:=Gqd h; omega
   have hf:=Gt (a.Bodies.length+q)
   have hfs:=Ym (a.Bodies.length+q)
   refine Wz [16,81] ?_;refine zx (Qj J J (hf) J) J ?_
   refine M0 (q_cat J J J J (by simp only[X9,Yb,Gqr,List.length_nil,Gqj]; omega)) J J ?_
   refine Wz [53,153,82] ?_
   refine⟨_,(by omega),(fun (q:Nat)=>(⟨_,[(2,.o (.c (.ptr 0 0))),(3,.o (.c (.ptr 1 0))),(5,.o (.c (.ref 2))),(9,I ((a.Bodies.length+q:Nat):Int))],[.box ((Enc.e a).map (V1.rd [])),.box ((Enc.e b).map (V1.rd [])),.row 1 (els (dD a b q))]⟩:St)) (q+1),⟨q+1,J,by omega,J⟩,V0 [0,1,2] J (row3p (Yi (rng_snoc _))) (.c J (.c J (.c J (.cons (Xv (by omega)) (.nil)))))⟩
  have h3:¬a.Bodies.length+q<b.Bodies.length:=by have:=Gqf h; omega
  have hk4:q=b.Bodies.length-a.Bodies.length:=by omega
  rw[hk4]
  refine Wz [111] ?_
  exact V3 J (V4 [2] J J J)
 ·have hse:=Gqf h
  have hds:dSeed a b=_:=if_neg hse
  refine Wz [27,21,12,140,64] ?_
  refine Xj (fun m st=>∃ k:Nat,k+m=a.Scores.length∧(True)∧st=(⟨_,[(2,.o (.c (.ptr 0 0))),(3,.o (.c (.ptr 1 0))),(5,.o (.c (.ref 2))),(28,I (els a.Scores).length),(29,I k)],[.box ((Enc.e a).map (V1.rd [])),.box ((Enc.e b).map (V1.rd [])),.row 1 (els (dS a b k))]⟩:St)) (a.Scores.length) ⟨(fun k:Nat=>(⟨_,[(2,.o (.c (.ptr 0 0))),(3,.o (.c (.ptr 1 0))),(5,.o (.c (.ref 2))),(28,I (els a.Scores).length),(29,I k)],[.box ((Enc.e a).map (V1.rd [])),.box ((Enc.e b).map (V1.rd [])),.row 1 (els (dS a b k))]⟩:St)) 0,⟨0,by omega,trivial,J⟩,V0 [0,1,2] J (row3p (by rw[dS,hds]; rfl)) (.c J (.c J (.c J (.c J (.c J (.nil))))))⟩ ?_
  rintro m_A _ ⟨k,hk_A,hp_A,rfl⟩
  have hdl:=dS_len a b k
  have hel:=Ye (dS a b k)
  refine Wz [1,67,17] ?_
  refine Xb J (fun h => ?_) (fun h => ?_)
  ·have h3:k<a.Scores.length:=by have:=Gqd h; omega
   have hat:=Yd h3
   have hf:=Gt k
   have hfs:=Ym k
   by_cases h4:b.Scores.length≤k
   ·have hb4:decide (((els b.Scores).length:Int)≤k)=true:=Gqb (by omega)
    refine Wz [50,2,17,256,4,19,190,180,90,102,202,173,55,9,22,81] ?_;refine zx (Qj J J (hf) J) J ?_
    refine M0 (q_cat J J J J (by simp only[X9,Yb,Gqr,List.length_nil,Gqj]; omega)) J J ?_
    refine Wz [53,153,149,54] ?_
    exact⟨a.Scores.length-(k+1),by omega,(fun k:Nat=>(⟨_,[(2,.o (.c (.ptr 0 0))),(3,.o (.c (.ptr 1 0))),(5,.o (.c (.ref 2))),(28,I (els a.Scores).length),(29,I k)],[.box ((Enc.e a).map (V1.rd [])),.box ((Enc.e b).map (V1.rd [])),.row 1 (els (dS a b k))]⟩:St)) (k+1),⟨k+1,by omega,trivial,J⟩,V0 [0,1,2] J (row3p (Yi (Yk _ (sc_T h4)))) (.c J (.c J (.c J (.c J (.c J (.nil))))))⟩
   ·have hb4:decide (((els b.Scores).length:Int)≤k)=false:=Gqa (by omega)
    have h5:k<b.Scores.length:=by omega
    have hat2:=Yd h5
    by_cases h6:a.Scores[k]≠b.Scores[k]
    ·have hb6:decide (a.Scores[k]≠b.Scores[k])=true:=Gqb h6
     refine Wz [50,2,17,256,4,19,190,180,4,62,96,139,62,96,139,255,43,9,22,81] ?_;refine zx (Qj J J (hf) J) J ?_
     refine M0 (q_cat J J J J (by simp only[X9,Yb,Gqr,List.length_nil,Gqj]; omega)) J J ?_
     refine Wz [53,153,149,54] ?_
     exact⟨a.Scores.length-(k+1),by omega,(fun k:Nat=>(⟨_,[(2,.o (.c (.ptr 0 0))),(3,.o (.c (.ptr 1 0))),(5,.o (.c (.ref 2))),(28,I (els a.Scores).length),(29,I k)],[.box ((Enc.e a).map (V1.rd [])),.box ((Enc.e b).map (V1.rd [])),.row 1 (els (dS a b k))]⟩:St)) (k+1),⟨k+1,by omega,trivial,J⟩,V0 [0,1,2] J (row3p (Yi (Yk _ (by rw[sc_is h3 h5,hb6])))) (.c J (.c J (.c J (.c J (.c J (.nil))))))⟩
    ·have hb6:decide (a.Scores[k]≠b.Scores[k])=false:=Gqa h6
     refine Wz [50,2,17,256,4,19,190,180,4,62,96,139,62,96,139,255,43,9,127,54] ?_
     exact⟨a.Scores.length-(k+1),by omega,(fun k:Nat=>(⟨_,[(2,.o (.c (.ptr 0 0))),(3,.o (.c (.ptr 1 0))),(5,.o (.c (.ref 2))),(28,I (els a.Scores).length),(29,I k)],[.box ((Enc.e a).map (V1.rd [])),.box ((Enc.e b).map (V1.rd [])),.row 1 (els (dS a b k))]⟩:St)) (k+1),⟨k+1,by omega,trivial,J⟩,V0 [0,1,2] J (row3p (congrArg els (filt_no _ (by rw[sc_is h3 h5,hb6])))) (.c J (.c J (.c J (.c J (.c J (.nil))))))⟩
  have h3:¬k<a.Scores.length:=by have:=Gqf h; omega
  have hk:k=a.Scores.length:=by omega
  rw[hk]
  refine Wz [29,21,12,140,64] ?_
  refine Xj (fun m st=>∃ i:Nat,i+m=a.Bodies.length∧(True)∧st=(⟨_,[(2,.o (.c (.ptr 0 0))),(3,.o (.c (.ptr 1 0))),(5,.o (.c (.ref 2))),(59,I (els a.Bodies).length),(60,I i)],[.box ((Enc.e a).map (V1.rd [])),.box ((Enc.e b).map (V1.rd [])),.row 1 (els (dB a b i))]⟩:St)) (a.Bodies.length) ⟨(fun i:Nat=>(⟨_,[(2,.o (.c (.ptr 0 0))),(3,.o (.c (.ptr 1 0))),(5,.o (.c (.ref 2))),(59,I (els a.Bodies).length),(60,I i)],[.box ((Enc.e a).map (V1.rd [])),.box ((Enc.e b).map (V1.rd [])),.row 1 (els (dB a b i))]⟩:St)) 0,⟨0,by omega,trivial,J⟩,V0 [0,1,2] J (row3p (by rw[dB]; simp)) (.c J (.c J (.c J (.c J (.c J (.nil))))))⟩ ?_
  rintro m_B _ ⟨i,hk_B,hp_B,rfl⟩
  have hdl:=dB_len a b i
  have hel:=Ye (dB a b i)
  refine Wz [1,67,17] ?_
  refine Xb J (fun h => ?_) (fun h => ?_)
  ·have h3:i<a.Bodies.length:=by have:=Gqd h; omega
   have hat:=Yd h3
   have hf:=Gt i
   have hfs:=Ym i
   by_cases h4:b.Bodies.length≤i
   ·have hb4:decide (((els b.Bodies).length:Int)≤i)=true:=Gqb (by omega)
    refine Wz [50,2,17,257,4,19,190,180,90,102,202,173,55,9,22,81] ?_;refine zx (Qj J J (hf) J) J ?_
    refine M0 (q_cat J J J J (by simp only[X9,Yb,Gqr,List.length_nil,Gqj]; omega)) J J ?_
    refine Wz [53,153,149,54] ?_
    exact⟨a.Bodies.length-(i+1),by omega,(fun i:Nat=>(⟨_,[(2,.o (.c (.ptr 0 0))),(3,.o (.c (.ptr 1 0))),(5,.o (.c (.ref 2))),(59,I (els a.Bodies).length),(60,I i)],[.box ((Enc.e a).map (V1.rd [])),.box ((Enc.e b).map (V1.rd [])),.row 1 (els (dB a b i))]⟩:St)) (i+1),⟨i+1,by omega,trivial,J⟩,V0 [0,1,2] J (row3p (Yi (Yk _ (bo_T h4)))) (.c J (.c J (.c J (.c J (.c J (.nil))))))⟩
   ·have hb4:decide (((els b.Bodies).length:Int)≤i)=false:=Gqa (by omega)
    have h5:i<b.Bodies.length:=by omega
    have hat2:=Yd h5
    by_cases h6:bodyInts a.Bodies[i]≠bodyInts b.Bodies[i]
    ·have hb6:decide (bodyInts a.Bodies[i]≠bodyInts b.Bodies[i])=true:=Gqb h6
     refine Wz [50,2,17,257,4,19,190,180,4,62,96,222,62,96,222] ?_;refine Ki (Qt.yes J J J (q_aneq (ps := []) (qs := []) (xs:=bodyInts a.Bodies[i]) (ys:=bodyInts b.Bodies[i]) J J J J J J J J hb6)) J ?_;refine Wz [43,9,22,81] ?_;refine zx (Qj J J (hf) J) J ?_
     refine M0 (q_cat J J J J (by simp only[X9,Yb,Gqr,List.length_nil,Gqj]; omega)) J J ?_
     refine Wz [53,153,149,54] ?_
     exact⟨a.Bodies.length-(i+1),by omega,(fun i:Nat=>(⟨_,[(2,.o (.c (.ptr 0 0))),(3,.o (.c (.ptr 1 0))),(5,.o (.c (.ref 2))),(59,I (els a.Bodies).length),(60,I i)],[.box ((Enc.e a).map (V1.rd [])),.box ((Enc.e b).map (V1.rd [])),.row 1 (els (dB a b i))]⟩:St)) (i+1),⟨i+1,by omega,trivial,J⟩,V0 [0,1,2] J (row3p (Yi (Yk _ (by rw[bo_is h3 h5,hb6])))) (.c J (.c J (.c J (.c J (.c J (.nil))))))⟩
    ·have hb6:decide (bodyInts a.Bodies[i]≠bodyInts b.Bodies[i])=false:=Gqa h6
     refine Wz [50,2,17,257,4,19,190,180,4,62,96,222,62,96,222] ?_;refine Ki (Qt.yes J J J (q_aneq (ps := []) (qs := []) (xs:=bodyInts a.Bodies[i]) (ys:=bodyInts b.Bodies[i]) J J J J J J J J hb6)) J ?_;refine Wz [43,9,127,54] ?_
     exact⟨a.Bodies.length-(i+1),by omega,(fun i:Nat=>(⟨_,[(2,.o (.c (.ptr 0 0))),(3,.o (.c (.ptr 1 0))),(5,.o (.c (.ref 2))),(59,I (els a.Bodies).length),(60,I i)],[.box ((Enc.e a).map (V1.rd [])),.box ((Enc.e b).map (V1.rd [])),.row 1 (els (dB a b i))]⟩:St)) (i+1),⟨i+1,by omega,trivial,J⟩,V0 [0,1,2] J (row3p (congrArg els (filt_no _ (by rw[bo_is h3 h5,hb6])))) (.c J (.c J (.c J (.c J (.c J (.nil))))))⟩
  have h3:¬i<a.Bodies.length:=by have:=Gqf h; omega
  have hk2:i=a.Bodies.length:=by omega
  rw[hk2]
  refine Wz [29,21,12,151] ?_
  refine Xj (fun m__ st=>∃ (j:Nat),b.Scores.length-a.Scores.length-j=m__∧(j≤b.Scores.length-a.Scores.length)∧st=(⟨_,[(2,.o (.c (.ptr 0 0))),(3,.o (.c (.ptr 1 0))),(5,.o (.c (.ref 2))),(8,I ((a.Scores.length+j:Nat):Int))],[.box ((Enc.e a).map (V1.rd [])),.box ((Enc.e b).map (V1.rd [])),.row 1 (els (dC a b j))]⟩:St)) _ ⟨(fun (j:Nat)=>(⟨_,[(2,.o (.c (.ptr 0 0))),(3,.o (.c (.ptr 1 0))),(5,.o (.c (.ref 2))),(8,I ((a.Scores.length+j:Nat):Int))],[.box ((Enc.e a).map (V1.rd [])),.box ((Enc.e b).map (V1.rd [])),.row 1 (els (dC a b j))]⟩:St)) (0),⟨0,J,Gxf _,J⟩,V0 [0,1,2] J (row3p (by rw[dC]; simp)) (.c J (.c J (.c J (.cons (Xv (by omega)) (.nil)))))⟩ ?_
  rintro m_C _ ⟨j,hk_C,hp_C,rfl⟩
  have hdl:=dC_len a b j
  have hel:=Ye (dC a b j)
  refine Wz [36,10,87] ?_
  refine Xb J (fun h => ?_) (fun h => ?_)
  ·have h3:a.Scores.length+j<b.Scores.length:=by have:=Gqd h; omega
   have hf:=Gt (a.Scores.length+j)
   have hfs:=Ym (a.Scores.length+j)
   refine Wz [16,81] ?_;refine zx (Qj J J (hf) J) J ?_
   refine M0 (q_cat J J J J (by simp only[X9,Yb,Gqr,List.length_nil,Gqj]; omega)) J J ?_
   refine Wz [53,153,82] ?_
   refine⟨_,(by omega),(fun (j:Nat)=>(⟨_,[(2,.o (.c (.ptr 0 0))),(3,.o (.c (.ptr 1 0))),(5,.o (.c (.ref 2))),(8,I ((a.Scores.length+j:Nat):Int))],[.box ((Enc.e a).map (V1.rd [])),.box ((Enc.e b).map (V1.rd [])),.row 1 (els (dC a b j))]⟩:St)) (j+1),⟨j+1,J,by omega,J⟩,V0 [0,1,2] J (row3p (Yi (rng_snoc _))) (.c J (.c J (.c J (.cons (Xv (by omega)) (.nil)))))⟩
  have h3:¬a.Scores.length+j<b.Scores.length:=by have:=Gqf h; omega
  have hk3:j=b.Scores.length-a.Scores.length:=by omega
  rw[hk3]
  refine Wz [29,21,12,151] ?_
  refine Xj (fun m__ st=>∃ (q:Nat),b.Bodies.length-a.Bodies.length-q=m__∧(q≤b.Bodies.length-a.Bodies.length)∧st=(⟨_,[(2,.o (.c (.ptr 0 0))),(3,.o (.c (.ptr 1 0))),(5,.o (.c (.ref 2))),(9,I ((a.Bodies.length+q:Nat):Int))],[.box ((Enc.e a).map (V1.rd [])),.box ((Enc.e b).map (V1.rd [])),.row 1 (els (dD a b q))]⟩:St)) _ ⟨(fun (q:Nat)=>(⟨_,[(2,.o (.c (.ptr 0 0))),(3,.o (.c (.ptr 1 0))),(5,.o (.c (.ref 2))),(9,I ((a.Bodies.length+q:Nat):Int))],[.box ((Enc.e a).map (V1.rd [])),.box ((Enc.e b).map (V1.rd [])),.row 1 (els (dD a b q))]⟩:St)) (0),⟨0,J,Gxf _,J⟩,V0 [0,1,2] J (row3p (by rw[dD]; simp)) (.c J (.c J (.c J (.cons (Xv (by omega)) (.nil)))))⟩ ?_
  rintro m_D _ ⟨q,hk_D,hp_D,rfl⟩
  have hdl:=dD_len a b q
  have hel:=Ye (dD a b q)
  refine Wz [36,10,87] ?_
  refine Xb J (fun h => ?_) (fun h => ?_)
  ·have h3:a.Bodies.length+q<b.Bodies.length:=by have:=Gqd h; omega
   have hf:=Gt (a.Bodies.length+q)
   have hfs:=Ym (a.Bodies.length+q)
   refine Wz [16,81] ?_;refine zx (Qj J J (hf) J) J ?_
   refine M0 (q_cat J J J J (by simp only[X9,Yb,Gqr,List.length_nil,Gqj]; omega)) J J ?_
   refine Wz [53,153,82] ?_
   refine⟨_,(by omega),(fun (q:Nat)=>(⟨_,[(2,.o (.c (.ptr 0 0))),(3,.o (.c (.ptr 1 0))),(5,.o (.c (.ref 2))),(9,I ((a.Bodies.length+q:Nat):Int))],[.box ((Enc.e a).map (V1.rd [])),.box ((Enc.e b).map (V1.rd [])),.row 1 (els (dD a b q))]⟩:St)) (q+1),⟨q+1,J,by omega,J⟩,V0 [0,1,2] J (row3p (Yi (rng_snoc _))) (.c J (.c J (.c J (.cons (Xv (by omega)) (.nil)))))⟩
  have h3:¬a.Bodies.length+q<b.Bodies.length:=by have:=Gqf h; omega
  have hk4:q=b.Bodies.length-a.Bodies.length:=by omega
  rw[hk4]
  refine Wz [111] ?_
  exact V3 J (V4 [2] J J J)
end
section
open Go.RowKit

theorem part_gd {x:TWorld} (g:Enc.gd x) (s:ByteArray):Enc.gd (partInts x s):=by
 obtain⟨gL,gT,gS,gSc,gB⟩:=g
 have one:∀ n:Int,I64 n→Enc.gd [n]:=fun n hn=>⟨by simp,fun y hy=>by simp at hy; subst hy; exact hn⟩
 cases hf:(partsOf x).findIdx? (fun t=>decide (t=s)) with
 |none=>rw[partInts,hf]; exact⟨by simp,fun y hy=>by simp at hy⟩
 |some k =>
  rw[partInts,hf]
  rw[List.findIdx?_eq_some_iff_getElem] at hf
  obtain⟨hk,h1,h2⟩:=hf
  obtain⟨hok,hkl⟩:=parts_at hk
  show Enc.gd (partAt x k)
  by_cases k0:k=0
  ·subst k0; rw[partAt_0]; exact one _ gS
  by_cases k1:k≤x.Scores.length
  ·rw[partAt_s k0 (by omega)]; exact one _ (gSc.2 _ (Gqi _))
  ·rw[partAt_b k0 k1 (by omega)]; exact bodyi_gd (gB.2 _ (Gqi _))
theorem take_yes {l:List ByteArray} {p:ByteArray→Bool} {k:Nat} (o:List ByteArray) (h:k<l.length) (hp:p l[k]=true):o++(l.take (k+1)).filter p=(o++(l.take k).filter p) ++ [l[k]]:=by
 rw[Gq2 h,List.filter_append,←Gq1]
 simp[hp]
theorem take_no {l:List ByteArray} {p:ByteArray→Bool} {k:Nat} (o:List ByteArray) (h:k<l.length) (hp:p l[k]=false):o++(l.take (k+1)).filter p=o++(l.take k).filter p:=by
 rw[Gq2 h,List.filter_append]
 simp[hp]
theorem row4p {k:Nat} {o o2 o3:Ob} {a b:List (List T)} (h:a=b) : [o,o2,Ob.row k a,o3] = [o,o2,Ob.row k b,o3]:=by rw[h]
noncomputable def oA (a b:TWorld) (k:Nat):List ByteArray := []++((partsOf a).take k).filter (fA a b)
noncomputable def oB (a b:TWorld) (k:Nat):List ByteArray:=oA a b (partsOf a).length++((partsOf b).take k).filter (fB a)
theorem oA_len (a b:TWorld) (k:Nat):(oA a b k).length≤29:=by
 have h1:=List.length_filter_le (fA a b) ((partsOf a).take k)
 have h2:=parts_29 a
 have h3:=List.length_take_le k (partsOf a)
 have h4:((partsOf a).take k).length≤(partsOf a).length:=by rw[Gq0]; omega
 rw[oA,List.nil_append]; omega
theorem oB_len (a b:TWorld) (k:Nat):(oB a b k).length≤58:=by
 have h1:=List.length_filter_le (fB a) ((partsOf b).take k)
 have h2:=parts_29 b
 have h3:=oA_len a b (partsOf a).length
 have h4:((partsOf b).take k).length≤(partsOf b).length:=by rw[Gq0]; omega
 rw[oB,Gqj]; omega
theorem oB_all {a b:TWorld} (ha:worldOk a=true) (hb:worldOk b=true):oB a b (partsOf b).length=differ a b:=by
 rw[oB,oA,Gq3 (Gqk _),Gq3 (Gqk _),List.nil_append,differ_eq ha hb]
theorem S_DifferOf (a b:TWorld) (ga:Enc.gd a) (gb:Enc.gd b):Con Tryz.prog 89 [] [ag a,ag b] [.row 1 (els (differ a b))] (.o (.c (.ref 0))):=by
 have hca:=Xy a ga
 have hcb:=Xy b gb
 cases hoa:worldOk a with
 |false =>
  rw[hoa] at hca
  rw[differ_no (by simp[hoa])]
  refine Con.of Tryz.func89 J Tryz.ntmps89 J (fun E => ?_)
  refine Wz [100,1,193,2,31] ?_;refine zx (Qj J J (hca) J) J ?_;refine Wz [15,95,77,110,6,116] ?_
  exact V3 J (V4 [2] J J J)
 |true =>
 rw[hoa] at hca
 cases hob:worldOk b with
 |false =>
  rw[hob] at hcb
  rw[differ_no (by simp[hob])]
  refine Con.of Tryz.func89 J Tryz.ntmps89 J (fun E => ?_)
  refine Wz [100,1,193,2,31] ?_;refine zx (Qj J J (hca) J) J ?_;refine Wz [15,25,39,5] ?_;refine zx (Qj J J (hcb) J) J ?_;refine Wz [71,7,22,6,116] ?_
  exact V3 J (V4 [2] J J J)
 |true =>
 rw[hob] at hcb
 rw[←oB_all hoa hob]
 have hpa:=S_PartsOf a ga
 have hpb:=S_PartsOf b gb
 have la:=parts_29 a
 have lb:=parts_29 b
 have hea:=Ye (partsOf a)
 have heb:=Ye (partsOf b)
 refine Con.of Tryz.func89 J Tryz.ntmps89 J (fun E => ?_)
 refine Wz [100,1,193,2,31] ?_;refine zx (Qj J J (hca) J) J ?_;refine Wz [15,25,39,5] ?_;refine zx (Qj J J (hcb) J) J ?_;refine Wz [71,45,79] ?_;refine M1 (Zc J J (hpa) J J J) J J ?_;refine Wz [2,42] ?_
 refine Xj (fun m st=>∃ k:Nat,k+m=(partsOf a).length∧(True)∧st=(⟨_,[(2,.o (.c (.ptr 0 0))),(3,.o (.c (.ptr 1 0))),(5,.o (.c (.ref 2))),(6,.o (.c (.ref 3))),(7,I k)],[.box ((Enc.e a).map (V1.rd [])),.box ((Enc.e b).map (V1.rd [])),.row 1 (els (oA a b k)),.row 1 (els (partsOf a))]⟩:St)) ((partsOf a).length) ⟨(fun k:Nat=>(⟨_,[(2,.o (.c (.ptr 0 0))),(3,.o (.c (.ptr 1 0))),(5,.o (.c (.ref 2))),(6,.o (.c (.ref 3))),(7,I k)],[.box ((Enc.e a).map (V1.rd [])),.box ((Enc.e b).map (V1.rd [])),.row 1 (els (oA a b k)),.row 1 (els (partsOf a))]⟩:St)) 0,⟨0,by omega,trivial,J⟩,V0 [0,1,2,3] J (row4p (by rw[oA]; simp[els])) (.c J (.c J (.c J (.c J (.c J (.nil))))))⟩ ?_
 rintro m_A _ ⟨k,hk_A,hp_A,rfl⟩
 have hol:=oA_len a b k
 have hoe:=Ye (oA a b k)
 refine Wz [18,41,67] ?_
 refine Xb J (fun h => ?_) (fun h => ?_)
 ·have h3:k<(partsOf a).length:=by have:=Gqd h; omega
  have hat:=Yd h3
  have h1:=S_l06Part a (partsOf a)[k] ga
  have h2:=S_l06Part b (partsOf a)[k] gb
  have h5:=S_ints (partInts a (partsOf a)[k]) (partInts b (partsOf a)[k]) (part_gd ga _)
  by_cases he:partInts a (partsOf a)[k]=partInts b (partsOf a)[k]
  ·rw[Gqb he] at h5
   refine Wz [108] ?_;refine Xi u8_65 u8_66 u8_67 J ?_;refine Wz [72,104,134,175] ?_;refine Ki (Zc J J (h1) J J J) J ?_;refine Wz [72,104,134,175] ?_;refine Ki (Zc J J (h2) J J J) J ?_;refine Ki (Qj J J (h5) J) J ?_;refine Wz [136,9,3] ?_
   refine AWP.pre (st':=(⟨_,[(2,.o (.c (.ptr 0 0))),(3,.o (.c (.ptr 1 0))),(5,.o (.c (.ref 2))),(6,.o (.c (.ref 3))),(7,I k),(40,B false)],[.box ((Enc.e a).map (V1.rd [])),.box ((Enc.e b).map (V1.rd [])),.row 1 (els (oA a b k)),.row 1 (els (partsOf a))]⟩:St)) ?_ (Ua [0,1,2,3])
   refine Wz [156,144,135] ?_
   exact⟨(partsOf a).length-(k+1),by omega,(fun k:Nat=>(⟨_,[(2,.o (.c (.ptr 0 0))),(3,.o (.c (.ptr 1 0))),(5,.o (.c (.ref 2))),(6,.o (.c (.ref 3))),(7,I k)],[.box ((Enc.e a).map (V1.rd [])),.box ((Enc.e b).map (V1.rd [])),.row 1 (els (oA a b k)),.row 1 (els (partsOf a))]⟩:St)) (k+1),⟨k+1,by omega,trivial,J⟩,V0 [0,1,2,3] J (row4p (congrArg els (take_no [] h3 (by rw[fA,Gqb he]; rfl)))) (.c J (.c J (.c J (.c J (.c J (.nil))))))⟩
  ·rw[Gqa he] at h5
   refine Wz [108] ?_;refine Xi u8_65 u8_66 u8_67 J ?_;refine Wz [72,104,134,175] ?_;refine Ki (Zc J J (h1) J J J) J ?_;refine Wz [72,104,134,175] ?_;refine Ki (Zc J J (h2) J J J) J ?_;refine Ki (Qj J J (h5) J) J ?_;refine Wz [136,9,3] ?_
   refine AWP.pre (st':=(⟨_,[(2,.o (.c (.ptr 0 0))),(3,.o (.c (.ptr 1 0))),(5,.o (.c (.ref 2))),(6,.o (.c (.ref 3))),(7,I k),(40,B true)],[.box ((Enc.e a).map (V1.rd [])),.box ((Enc.e b).map (V1.rd [])),.row 1 (els (oA a b k)),.row 1 (els (partsOf a))]⟩:St)) ?_ (Ua [0,1,2,3])
   refine Wz [51,81,0,99,128,53,153,82] ?_
   exact⟨(partsOf a).length-(k+1),by omega,(fun k:Nat=>(⟨_,[(2,.o (.c (.ptr 0 0))),(3,.o (.c (.ptr 1 0))),(5,.o (.c (.ref 2))),(6,.o (.c (.ref 3))),(7,I k)],[.box ((Enc.e a).map (V1.rd [])),.box ((Enc.e b).map (V1.rd [])),.row 1 (els (oA a b k)),.row 1 (els (partsOf a))]⟩:St)) (k+1),⟨k+1,by omega,trivial,J⟩,V0 [0,1,2,3] J (row4p (Yi (take_yes [] h3 (by rw[fA,Gqa he]; rfl)))) (.c J (.c J (.c J (.c J (.c J (.nil))))))⟩
 have h3:¬((k:Int)<(els (partsOf a)).length):=Gqf h
 have hk:k=(partsOf a).length:=by omega
 rw[hk]
 refine Wz [29,79] ?_;refine M1 (Zc J J (hpb) J J J) J J ?_;refine Wz [2,42] ?_
 refine Xj (fun m st=>∃ j:Nat,j+m=(partsOf b).length∧(True)∧st=(⟨_,[(2,.o (.c (.ptr 0 0))),(3,.o (.c (.ptr 1 0))),(5,.o (.c (.ref 2))),(6,.o (.c (.ref 3))),(8,I j)],[.box ((Enc.e a).map (V1.rd [])),.box ((Enc.e b).map (V1.rd [])),.row 1 (els (oB a b j)),.row 1 (els (partsOf b))]⟩:St)) ((partsOf b).length) ⟨(fun j:Nat=>(⟨_,[(2,.o (.c (.ptr 0 0))),(3,.o (.c (.ptr 1 0))),(5,.o (.c (.ref 2))),(6,.o (.c (.ref 3))),(8,I j)],[.box ((Enc.e a).map (V1.rd [])),.box ((Enc.e b).map (V1.rd [])),.row 1 (els (oB a b j)),.row 1 (els (partsOf b))]⟩:St)) 0,⟨0,by omega,trivial,J⟩,V0 [0,1,2,4] J (row4p (by rw[oB]; simp)) (.c J (.c J (.c J (.c J (.c J (.nil))))))⟩ ?_
 rintro m_B _ ⟨j,hk_B,hp_B,rfl⟩
 have hol:=oB_len a b j
 have hoe:=Ye (oB a b j)
 refine Wz [18,41,67] ?_
 refine Xb J (fun h => ?_) (fun h => ?_)
 ·have h3:j<(partsOf b).length:=by have:=Gqd h; omega
  have hat:=Yd h3
  have h1:=S_l06Part a (partsOf b)[j] ga
  have hel:=Ye (partInts a (partsOf b)[j])
  by_cases he:partInts a (partsOf b)[j] = []
  ·have hb5:decide (((els (partInts a (partsOf b)[j])).length:Int)=0)=true:=by rw[he]; rfl
   refine Wz [108] ?_;refine Xi u8_68 u8_69 u8_70 J ?_;refine Wz [72,104,134,175] ?_;refine Ki (Zc J J (h1) J J J) J ?_;refine Wz [249,252,9,3] ?_
   refine AWP.pre (st':=(⟨_,[(2,.o (.c (.ptr 0 0))),(3,.o (.c (.ptr 1 0))),(5,.o (.c (.ref 2))),(6,.o (.c (.ref 3))),(8,I j),(63,B true)],[.box ((Enc.e a).map (V1.rd [])),.box ((Enc.e b).map (V1.rd [])),.row 1 (els (oB a b j)),.row 1 (els (partsOf b))]⟩:St)) ?_ (Ua [0,1,2,3])
   refine Wz [51,81,0,99,128,53,153,82] ?_
   exact⟨(partsOf b).length-(j+1),by omega,(fun j:Nat=>(⟨_,[(2,.o (.c (.ptr 0 0))),(3,.o (.c (.ptr 1 0))),(5,.o (.c (.ref 2))),(6,.o (.c (.ref 3))),(8,I j)],[.box ((Enc.e a).map (V1.rd [])),.box ((Enc.e b).map (V1.rd [])),.row 1 (els (oB a b j)),.row 1 (els (partsOf b))]⟩:St)) (j+1),⟨j+1,by omega,trivial,J⟩,V0 [0,1,2,3] J (row4p (Yi (take_yes _ h3 (by rw[fB,Gqb he])))) (.c J (.c J (.c J (.c J (.c J (.nil))))))⟩
  ·have hb5:decide (((els (partInts a (partsOf b)[j])).length:Int)=0)=false:=Gqa (by
    have:=Gxo.2 he
    omega)
   refine Wz [108] ?_;refine Xi u8_68 u8_69 u8_70 J ?_;refine Wz [72,104,134,175] ?_;refine Ki (Zc J J (h1) J J J) J ?_;refine Wz [249,252,9,3] ?_
   refine AWP.pre (st':=(⟨_,[(2,.o (.c (.ptr 0 0))),(3,.o (.c (.ptr 1 0))),(5,.o (.c (.ref 2))),(6,.o (.c (.ref 3))),(8,I j),(63,B false)],[.box ((Enc.e a).map (V1.rd [])),.box ((Enc.e b).map (V1.rd [])),.row 1 (els (oB a b j)),.row 1 (els (partsOf b))]⟩:St)) ?_ (Ua [0,1,2,3])
   refine Wz [156,144,135] ?_
   exact⟨(partsOf b).length-(j+1),by omega,(fun j:Nat=>(⟨_,[(2,.o (.c (.ptr 0 0))),(3,.o (.c (.ptr 1 0))),(5,.o (.c (.ref 2))),(6,.o (.c (.ref 3))),(8,I j)],[.box ((Enc.e a).map (V1.rd [])),.box ((Enc.e b).map (V1.rd [])),.row 1 (els (oB a b j)),.row 1 (els (partsOf b))]⟩:St)) (j+1),⟨j+1,by omega,trivial,J⟩,V0 [0,1,2,3] J (row4p (congrArg els (take_no _ h3 (by rw[fB,Gqa he])))) (.c J (.c J (.c J (.c J (.c J (.nil))))))⟩
 have h3:¬((j:Int)<(els (partsOf b)).length):=Gqf h
 have hk2:j=(partsOf b).length:=by omega
 rw[hk2]
 refine Wz [111] ?_
 exact V3 J (V4 [2] J J J)
end
section
open Go.RowKit

structure TAlarm where
 Tick:Int
 Parts:(List ByteArray)
 deriving DecidableEq
instance:Enc TAlarm:=⟨2,by omega,fun x => [.v (.int .i64 x.Tick),sl x.Parts],fun _=>rfl,fun x=>Enc.gd x.Tick∧Enc.gd x.Parts,fun x=>Enc.wt x.Parts⟩
theorem TAlarm.same {x y:TAlarm} (h0:x.Tick=y.Tick) (h1:x.Parts=y.Parts):x=y:=by cases x; cases y; simp_all
theorem eq_Alarm (x y:TAlarm) (hg:Enc.gd x):Con Tryz.prog 29 [] [ag x,ag y] [] (B (decide (x=y))):=by
 obtain⟨g_Tick,g_Parts⟩:=hg
 by_cases e_Tick:¬x.Tick=y.Tick
 ·have hk:decide (x.Tick≠y.Tick)=true:=by simp[e_Tick]
  refine Con.of Tryz.func29 J Tryz.ntmps29 J (fun E => ?_)
  refine Wz [75,92] ?_
  exact V3 J (V4 [] J J (Xk (Gqa fun e=>e_Tick (by rw[e])).symm))
 have e_Tick:=Classical.not_not.1 e_Tick
 have k_Tick:decide (x.Tick≠y.Tick)=false:=by simp[e_Tick]
 by_cases e_Parts:¬x.Parts=y.Parts
 ·have hc:=eq_StringS x.Parts y.Parts g_Parts
  rw[Gqa e_Parts] at hc
  refine Con.of Tryz.func29 J Tryz.ntmps29 J (fun E => ?_)
  refine Wz [75,176] ?_;refine zx (Qj J J (hc) J) J ?_;refine Wz [15,57] ?_
  exact V3 J (V4 [] J J (Xk (Gqa fun e=>e_Parts (by rw[e])).symm))
 have e_Parts:=Classical.not_not.1 e_Parts
 have hc_Parts:=eq_StringS x.Parts y.Parts g_Parts
 rw[Gqb e_Parts] at hc_Parts
 refine Con.of Tryz.func29 J Tryz.ntmps29 J (fun E => ?_)
 refine Wz [75,176] ?_;refine zx (Qj J J (hc_Parts) J) J ?_;refine Wz [76,98] ?_
 exact V3 J (V4 [] J J (Xk (Gqb (TAlarm.same e_Tick e_Parts)).symm))
end
section
open Go.RowKit

theorem huntG_le {a b:List Int}:∀ (n lo hi s:Nat),hi-lo≤n→lo≤hi→(huntG a b lo hi s).1≤hi
 |0,lo,hi,s,h,hl=>by rw[huntG_end (by omega)]; exact Gqk _
 | n+1,lo,hi,s,h,hl=>by
  by_cases h2:hi-lo<2
  ·rw[huntG_end h2]; exact Gqk _
  by_cases h3:a.getD ((lo+hi)/2) 0=b.getD ((lo+hi)/2) 0
  ·rw[huntG_up h2 h3]
   exact huntG_le n _ _ _ (by omega) (by omega)
  ·rw[huntG_dn h2 h3]
   exact Nat.le_trans (huntG_le n _ _ _ (by omega) (by omega)) (by omega)
theorem hunted_no {a b:List Int} (h:startH a b=false):(hunted a b).1 = -1:=by rw[hunted,h]; rfl
theorem hunted_yes {a b:List Int} (h:startH a b=true):∃ t:Nat,(hunted a b).1=t∧t<a.length∧t<b.length:=by
 refine⟨(huntG a b 0 (lastH a b) 2).1,by rw[hunted,h]; rfl,?_⟩
 have h1:=huntG_le (a:=a) (b:=b) (lastH a b) 0 (lastH a b) 2 (by omega) (Gxf _)
 rw[startH,Gqg,Gqg,decide_eq_true_eq,decide_eq_true_eq] at h
 have h2:=h.1.1
 unfold lastH at h1 ⊢
 omega
noncomputable def runP (x:TPeer) (t:Nat):TWorld:=runF x.Base.Level x.Tracks.length x.Seed x.Tracks x.Fault t
noncomputable def diagB (x y:TPeer):Bool:=peerOk x&&peerOk y&&startH x.Sums y.Sums
noncomputable def diagV (x y:TPeer):TAlarm:=if diagB x y=true then ⟨(hunted x.Sums y.Sums).1,differ (runP x (hunted x.Sums y.Sums).1.toNat) (runP y (hunted x.Sums y.Sums).1.toNat)⟩ else ⟨0,[]⟩
theorem Z8 {x:TPeer} (ok:peerOk x=true) {t:Nat} (h:t<x.Sums.length):t≤knownTicks x.Tracks∧t≤1000:=by
 have ⟨⟨o1,_⟩,_,_,_,_,_,q1,_,q2⟩:=Y4 ok
 have hk:knownTicks x.Tracks≤400:=by
  have hts:=Kb o1
  refine Nat.le_of_not_lt fun hc => ?_
  have h1:=known_all (l:=x.Tracks) (k:=400) hc _ (Gqi (show 0<x.Tracks.length by omega))
  have h2:=all_at o1 (show 0<x.Tracks.length by omega)
  simp only[trackOk,Gqg,decide_eq_true_eq] at h2
  omega
 omega
theorem run_ok {x:TPeer} (h:PeerIn x) (ok:peerOk x=true) (t:Nat):Fit x.Tracks.length x.Base.Level (runP x t):=by
 have ⟨⟨o1,o2,_⟩,_,_,⟨⟨s1,s2⟩,_⟩,_⟩:=Y4 ok
 have hts:=Kb o1
 exact runF_fit (Kd o2).1 h.gd.2.2.2.2.2.1.1 h.bw.1 ⟨hts.1,hts.2⟩ (Yr.2 ⟨s1,s2⟩) t
theorem I_RepG (x:TPeer) (t:Nat) (h:PeerIn x) (ok:peerOk x=true) (ht:t≤knownTicks x.Tracks) (h1000:t≤1000):Con Tryz.prog 55 [] [ag x,ai t] (wR (runP x t) []) (.tu [.ag [.ref 0,jn (runP x t).Tick,jn (runP x t).Seed,.ref 1,.ref 2],.c (bv true)]):=by
 have ⟨⟨o1,o2,_⟩,_,_,⟨⟨s1,s2⟩,_⟩,_⟩:=Y4 ok
 have hts:=Kb o1
 exact I_Replayed x (runP x) t h ok ht h1000 J (runF_in (Kd o2).1 h.gd.2.2.2.2.2.1.1 h.bw.1 ⟨hts.1,hts.2⟩ (Yr.2 ⟨s1,s2⟩) h.gd.2.2.2.2.1 ht)
theorem S_RepG (x:TPeer) (t:Nat) (h:PeerIn x) (ok:peerOk x=true) (ht:t≤knownTicks x.Tracks) (h1000:t≤1000):Con Tryz.prog 88 [] [ag x,ai t] (wR (runP x t) []) (.tu [.ag [.ref 0,jn (runP x t).Tick,jn (runP x t).Seed,.ref 1,.ref 2],.c (bv true)]):=S_Replayed x t h ok ht h1000
theorem I_DiagG (x y:TPeer) (gx:Enc.gd x) (gy:Enc.gd y) (hx:peerOk x=true→PeerIn x) (hy:peerOk y=true→PeerIn y):Con Tryz.prog 12 [] [ag x,ag y] (ownO (Enc.e (diagV x y))) (.tu [.ag (ownV 0 (Enc.e (diagV x y))),.c (bv (diagB x y))]):=by
 have c1:=I_PeerOk x gx
 have c2:=I_PeerOk y gy
 cases ox:peerOk x with
 |false =>
  rw[ox] at c1
  have hd:diagB x y=false:=by rw[diagB,ox]; rfl
  rw[show diagV x y=⟨0,[]⟩ by rw[diagV,hd]; rfl,hd]
  refine Con.of Tryz.func12 J Tryz.ntmps12 J (fun E => ?_)
  refine Wz [147,61,2,31] ?_;refine zx (Qj J J (c1) J) J ?_;refine Wz [15,95,77,110,1,133,33,116] ?_
  exact Xn J J J J J (W_fill [1] [3] J J (by decide) J J J)
 |true =>
 rw[ox] at c1
 cases oy:peerOk y with
 |false =>
  rw[oy] at c2
  have hd:diagB x y=false:=by rw[diagB,ox,oy]; rfl
  rw[show diagV x y=⟨0,[]⟩ by rw[diagV,hd]; rfl,hd]
  refine Con.of Tryz.func12 J Tryz.ntmps12 J (fun E => ?_)
  refine Wz [147,61,2,31] ?_;refine zx (Qj J J (c1) J) J ?_;refine Wz [15,25,39,5] ?_;refine zx (Qj J J (c2) J) J ?_;refine Wz [71,7,22,1,133,33,116] ?_
  exact Xn J J J J J (W_fill [1] [3] J J (by decide) J J J)
 |true =>
 rw[oy] at c2
 have hsx:x.Sums.length≤1001:=by
  rcases Gxy x.Sums.length with h0 | h0
  ·omega
  ·have:=(Z8 ox (t:=x.Sums.length-1) (by omega)).2
   omega
 have c3:=I_Hunted x.Sums y.Sums hsx
 cases hs:startH x.Sums y.Sums with
 |false =>
  have hd:diagB x y=false:=by rw[diagB,ox,oy,hs]; rfl
  rw[show diagV x y=⟨0,[]⟩ by rw[diagV,hd]; rfl,hd]
  rw[hunted_no hs] at c3
  refine Con.of Tryz.func12 J Tryz.ntmps12 J (fun E => ?_)
  refine Wz [147,61,2,31] ?_;refine zx (Qj J J (c1) J) J ?_;refine Wz [15,25,39,5] ?_;refine zx (Qj J J (c2) J) J ?_;refine Wz [71,45,14,10] ?_;refine M1 (Zc J J (c3) J J J) J J ?_;refine Wz [138,56,56,60,46,216,22,1,133,33,116] ?_
  exact Xn J J J J J (W_fill [1] [3] J J (by decide) J J J)
 |true =>
 have hd:diagB x y=true:=by rw[diagB,ox,oy,hs]; rfl
 obtain⟨F,hF,hFx,hFy⟩:=hunted_yes hs
 rw[show diagV x y=⟨(F:Int),differ (runP x F) (runP y F)⟩ by rw[diagV,hd,hF]; rfl,hd]
 rw[hF] at c3
 have kx:=Z8 ox hFx
 have ky:=Z8 oy hFy
 have c4:=I_RepG x F (hx ox) ox kx.1 kx.2
 have c5:=I_RepG y F (hy oy) oy ky.1 ky.2
 have wx:=(run_ok (hx ox) ox F).wi
 have wy:=(run_ok (hy oy) oy F).wi
 have c6:=I_DifferOf (runP x F) (runP y F) wx.gd wy.gd
 have f1:decide ((F:Int)<0)=false:=Gqa (by omega)
 generalize (hunted x.Sums y.Sums).2=steps at c3
 generalize runP x F=w at c4 c6 ⊢
 generalize runP y F=v at c5 c6 ⊢
 generalize differ w v=ds at c6 ⊢
 refine Con.of Tryz.func12 J Tryz.ntmps12 J (fun E => ?_)
 refine Wz [147,61,2,31] ?_;refine zx (Qj J J (c1) J) J ?_;refine Wz [15,25,39,5] ?_;refine zx (Qj J J (c2) J) J ?_;refine Wz [71,45,14,10] ?_;refine M1 (Zc J J (c3) J J J) J J ?_;refine Wz [138,56,56,60,59,124] ?_;refine AL.weak (st':=(⟨56,[(2,.o (.c (.ptr 0 0))),(3,.o (.c (.ptr 1 0))),(4,.o (.c (.ptr 2 0))),(6,I F),(33,.o (.ag (pD x))),(34,I F)],[.box (pD x),.box (pD y),.box [jn 0,nv]]⟩:St)) (V0 [0,1,2] J ((by kernel_rfl)) (.c J (.c J (.c J (.c J (.c J (.c J (.nil)))))))) ?_;refine M1 (Zc J J (c4) J J J) J J ?_;refine Wz [138,56,56,61,33,2,124] ?_;refine AL.weak (st':=(⟨56,[(2,.o (.c (.ptr 0 0))),(3,.o (.c (.ptr 1 0))),(4,.o (.c (.ptr 2 0))),(6,I F),(8,.o (.c (.ptr 6 0))),(9,B true),(39,.o (.ag (pD y))),(40,I F)],[.box (pD x),.box (pD y),.box [jn 0,nv],.row 1 (els w.Level.Rows),.row 1 (els w.Scores),.row 9 (els w.Bodies),.box [.ref 3,jn w.Tick,jn w.Seed,.ref 4,.ref 5]]⟩:St)) (V0 [0,1,2,3,4,5,6] J ((by kernel_rfl)) (.c J (.c J (.c J (.c J (.c J (.c J (.c J (.c J (.nil)))))))))) ?_;refine M1 (Zc J J (c5) J J J) J J ?_;refine Wz [138,56,56,61,33,46,15,11,15,45,6,39,39] ?_;refine M1 (Zc J J (c6) J J J) J J ?_;refine Wz [133,33,48] ?_
 exact Xn J J J J J (V4 [11] J J J)
theorem S_DiagG (x y:TPeer) (gx:Enc.gd x) (gy:Enc.gd y) (hx:peerOk x=true→PeerIn x) (hy:peerOk y=true→PeerIn y):Con Tryz.prog 27 [] [ag x,ag y] (ownO (Enc.e (diagV x y))) (.tu [.ag (ownV 0 (Enc.e (diagV x y))),.c (bv (diagB x y))]):=by
 have c1:=S_PeerOk x gx
 have c2:=S_PeerOk y gy
 cases ox:peerOk x with
 |false =>
  rw[ox] at c1
  have hd:diagB x y=false:=by rw[diagB,ox]; rfl
  rw[show diagV x y=⟨0,[]⟩ by rw[diagV,hd]; rfl,hd]
  refine Con.of Tryz.func27 J Tryz.ntmps27 J (fun E => ?_)
  refine Wz [147,61,2,31] ?_;refine zx (Qj J J (c1) J) J ?_;refine Wz [15,95,77,110,1,133,33,116] ?_
  exact Xn J J J J J (W_fill [1] [3] J J (by decide) J J J)
 |true =>
 rw[ox] at c1
 cases oy:peerOk y with
 |false =>
  rw[oy] at c2
  have hd:diagB x y=false:=by rw[diagB,ox,oy]; rfl
  rw[show diagV x y=⟨0,[]⟩ by rw[diagV,hd]; rfl,hd]
  refine Con.of Tryz.func27 J Tryz.ntmps27 J (fun E => ?_)
  refine Wz [147,61,2,31] ?_;refine zx (Qj J J (c1) J) J ?_;refine Wz [15,25,39,5] ?_;refine zx (Qj J J (c2) J) J ?_;refine Wz [71,7,22,1,133,33,116] ?_
  exact Xn J J J J J (W_fill [1] [3] J J (by decide) J J J)
 |true =>
 rw[oy] at c2
 have hsx:x.Sums.length≤1001:=by
  rcases Gxy x.Sums.length with h0 | h0
  ·omega
  ·have:=(Z8 ox (t:=x.Sums.length-1) (by omega)).2
   omega
 have c3:=S_Hunted x.Sums y.Sums hsx
 cases hs:startH x.Sums y.Sums with
 |false =>
  have hd:diagB x y=false:=by rw[diagB,ox,oy,hs]; rfl
  rw[show diagV x y=⟨0,[]⟩ by rw[diagV,hd]; rfl,hd]
  rw[hunted_no hs] at c3
  refine Con.of Tryz.func27 J Tryz.ntmps27 J (fun E => ?_)
  refine Wz [147,61,2,31] ?_;refine zx (Qj J J (c1) J) J ?_;refine Wz [15,25,39,5] ?_;refine zx (Qj J J (c2) J) J ?_;refine Wz [71,45,14,10] ?_;refine M1 (Zc J J (c3) J J J) J J ?_;refine Wz [138,56,56,60,46,216,22,1,133,33,116] ?_
  exact Xn J J J J J (W_fill [1] [3] J J (by decide) J J J)
 |true =>
 have hd:diagB x y=true:=by rw[diagB,ox,oy,hs]; rfl
 obtain⟨F,hF,hFx,hFy⟩:=hunted_yes hs
 rw[show diagV x y=⟨(F:Int),differ (runP x F) (runP y F)⟩ by rw[diagV,hd,hF]; rfl,hd]
 rw[hF] at c3
 have kx:=Z8 ox hFx
 have ky:=Z8 oy hFy
 have c4:=S_RepG x F (hx ox) ox kx.1 kx.2
 have c5:=S_RepG y F (hy oy) oy ky.1 ky.2
 have wx:=(run_ok (hx ox) ox F).wi
 have wy:=(run_ok (hy oy) oy F).wi
 have c6:=S_DifferOf (runP x F) (runP y F) wx.gd wy.gd
 have f1:decide ((F:Int)<0)=false:=Gqa (by omega)
 generalize (hunted x.Sums y.Sums).2=steps at c3
 generalize runP x F=w at c4 c6 ⊢
 generalize runP y F=v at c5 c6 ⊢
 generalize differ w v=ds at c6 ⊢
 refine Con.of Tryz.func27 J Tryz.ntmps27 J (fun E => ?_)
 refine Wz [147,61,2,31] ?_;refine zx (Qj J J (c1) J) J ?_;refine Wz [15,25,39,5] ?_;refine zx (Qj J J (c2) J) J ?_;refine Wz [71,45,14,10] ?_;refine M1 (Zc J J (c3) J J J) J J ?_;refine Wz [138,56,56,60,59,124] ?_;refine AL.weak (st':=(⟨56,[(2,.o (.c (.ptr 0 0))),(3,.o (.c (.ptr 1 0))),(4,.o (.c (.ptr 2 0))),(6,I F),(33,.o (.ag (pD x))),(34,I F)],[.box (pD x),.box (pD y),.box [jn 0,nv]]⟩:St)) (V0 [0,1,2] J ((by kernel_rfl)) (.c J (.c J (.c J (.c J (.c J (.c J (.nil)))))))) ?_;refine M1 (Zc J J (c4) J J J) J J ?_;refine Wz [138,56,56,61,33,2,124] ?_;refine AL.weak (st':=(⟨56,[(2,.o (.c (.ptr 0 0))),(3,.o (.c (.ptr 1 0))),(4,.o (.c (.ptr 2 0))),(6,I F),(8,.o (.c (.ptr 6 0))),(9,B true),(39,.o (.ag (pD y))),(40,I F)],[.box (pD x),.box (pD y),.box [jn 0,nv],.row 1 (els w.Level.Rows),.row 1 (els w.Scores),.row 9 (els w.Bodies),.box [.ref 3,jn w.Tick,jn w.Seed,.ref 4,.ref 5]]⟩:St)) (V0 [0,1,2,3,4,5,6] J ((by kernel_rfl)) (.c J (.c J (.c J (.c J (.c J (.c J (.c J (.c J (.nil)))))))))) ?_;refine M1 (Zc J J (c5) J J J) J J ?_;refine Wz [138,56,56,61,33,46,15,11,15,45,6,39,39] ?_;refine M1 (Zc J J (c6) J J J) J J ?_;refine Wz [133,33,48] ?_
 exact Xn J J J J J (V4 [11] J J J)
end
section
open Go.RowKit

def cntW (x:TWorld) (k:Int):Int:=k+x.Level.Rows.length+x.Scores.length+9*x.Bodies.length
def markW (x:TWorld) (k:Int):TWorld:=⟨⟨markS x.Level.Rows k⟩,x.Tick,x.Seed,markI x.Scores (k+x.Level.Rows.length),markB x.Bodies (k+x.Level.Rows.length+x.Scores.length)⟩
theorem L_markWorld (x:TWorld) (k:Int) (h1:x.Level.Rows.length≤1048576) (h2:x.Scores.length≤1048576) (h3:x.Bodies.length≤1048576) (h0:0<k) (hk:k≤1073741823):Con Tryz.prog 104 [.row 1 (els x.Level.Rows),.row 1 (els x.Scores),.row 9 (els x.Bodies),.gh 0 (.ag (ownV 0 (Enc.e x)))] [.ag (ownV 0 (Enc.e x)),ai k]
  [.row 1 (els (markW x k).Level.Rows),.row 1 (els (markW x k).Scores),.row 9 (els (markW x k).Bodies),.gh 0 (.ag (ownV 0 (Enc.e x)))] (I (cntW x k)):=by
 refine Con.of Tryz.func104 J Tryz.ntmps104 J (fun E => ?_)
 refine Wz [44,93,0] ?_;refine Xd (lo := [_]) (gs := [(0,.ag [.ref 0])]) (lo' := [_]) (new := []) [0] [(0,0,.ref 0)] (L_markLevel x.Level.Rows k h1 h0 (by omega)) J J J J J J J J J J J J J J J J J ?_;refine Wz [2,32] ?_;refine Xd (lo := [_]) (gs := [(0,.c (.ref 0))]) (lo' := [_]) (new := []) [1] [(0,0,.ref 0)] (L_markIntS x.Scores (k+x.Level.Rows.length) (by omega) (by omega) (by omega)) J J J J J J J J J J J J J J J J J ?_;refine Wz [2,32] ?_;refine Xd (lo := [_]) (gs := [(0,.c (.ref 0))]) (lo' := [_]) (new := []) [2] [(0,0,.ref 0)] (L_markBodyS x.Bodies (k+x.Level.Rows.length+x.Scores.length) h3 (by omega) (by omega)) J J J J J J J J J J J J J J J J J ?_;refine Wz [73,48] ?_
 exact V3 J (V4 [0,1,2,3] J J J)
end
end Go.Proofs.YtpmacgnmlmmojaaGreatDoor
