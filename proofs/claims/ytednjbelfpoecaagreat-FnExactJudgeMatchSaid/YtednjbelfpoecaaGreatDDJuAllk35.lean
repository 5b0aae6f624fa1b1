/-
  Rules, data and contracts of functions: part 36 of the proof.
  Conditions: those that each theorem names.
-/
import Derived.Test.YtednjbelfpoecaaGreatDDJuAllk33
set_option linter.unusedSimpArgs false
set_option linter.unusedVariables false
set_option maxRecDepth 8000
set_option maxHeartbeats 8000000
namespace Go.Proofs.YtednjbelfpoecaaGreat
section
open Go.RowKit

def JudgeP3 (m:TMatch):Prop:=matchOk m=true∧(∀ k,k<m.Peers.length→judgeP m k=true)∧∀ k,k<m.Watchers.length→judgeW m k=true
noncomputable def judgeM (m:TMatch):Bool:=@decide (JudgeP3 m) (Classical.propDecidable _)
theorem I_JudgeMatch (x:TMatch) (g:Enc.gd x) (ll:x.Level.Rows.length≤1048576):Con Tryz.prog 48 [] [ag x] [] (B (judgeM x)):=by
 have hlp:=Ya x.Peers
 have hlw:=Ya x.Watchers
 have g0:=g
 obtain⟨gL,gS,gD,gSc,gP,gW,gPa,gA,gC,gWa,gLi,gAl,gB⟩:=g
 have hx:=gP.1
 have hy:=gWa.1
 have cm:=I_MatchOk x g0
 cases hm:matchOk x with
 |false =>
  rw[hm] at cm
  rw[show judgeM x=false from dF fun hp=>by have:=hp.1; rw[hm] at this; cases this]
  refine Con.of Tryz.func48 J Tryz.ntmps48 J (fun E => ?_)
  refine Wz [26,71] ?_;refine zx (Qj J J (cm) J) J ?_;refine Wz [8,28] ?_
  exact Vz J (V0 [] J J J)
 |true =>
 rw[hm] at cm
 refine Con.of Tryz.func48 J Tryz.ntmps48 J (fun E => ?_)
 refine Wz [26,71] ?_;refine zx (Qj J J (cm) J) J ?_;refine Wz [102,24,11,121,53] ?_;refine Xj (fun m st=>∃ k:Nat,k+m=x.Peers.length∧((∀ i,i<k→judgeP x i=true))∧st=(⟨30,[(1,.o (.c (.ptr 0 0))),(10,I (els x.Peers).length),(11,I k)],[.box ((Enc.e x).map (V1.rd []))]⟩:St)) (x.Peers.length) ⟨_,⟨0,by omega,fun i hi=>absurd hi (Nat.not_lt_zero _),J⟩,V8 [0]⟩ ?_
 rintro m_A _ ⟨k,hk_A,hp_A,rfl⟩
 by_cases h3:k<x.Peers.length
 ·have f3:decide ((k:Int)<((els x.Peers).length:Int))=true:=Gqb (by omega)
  have c1:=I_JudgePeer x k g0 ⟨by omega,by omega⟩ ll
  cases hj:judgeP x k with
  |false =>
   rw[hj] at c1
   rw[show judgeM x=false from dF fun hp=>by have:=hp.2.1 k h3; rw[hj] at this; cases this]
   refine Wz [2,5,99,69,25,4,15,0] ?_;refine zx (Qj J J (c1) J) J ?_;refine Wz [8,64] ?_
   exact Vz J (V0 [] J J J)
  |true =>
   rw[hj] at c1
   refine Wz [2,5,99,69,25,4,15,0] ?_;refine zx (Qj J J (c1) J) J ?_;refine Wz [8,119,85] ?_
   exact⟨x.Peers.length-(k+1),by omega,_,⟨k+1,by omega,Kc hp_A hj,J⟩,V8 [0]⟩
 have f3:decide ((k:Int)<((els x.Peers).length:Int))=false:=Gqa (by omega)
 refine Wz [2,5,99,147,35,24,11,121,53] ?_;refine Xj (fun m st=>∃ j:Nat,j+m=x.Watchers.length∧((∀ i,i<j→judgeW x i=true))∧st=(⟨30,[(1,.o (.c (.ptr 0 0))),(21,I (els x.Watchers).length),(22,I j)],[.box ((Enc.e x).map (V1.rd []))]⟩:St)) (x.Watchers.length) ⟨_,⟨0,by omega,fun i hi=>absurd hi (Nat.not_lt_zero _),J⟩,V8 [0]⟩ ?_
 rintro m_D _ ⟨j,hk_D,hp_D,rfl⟩
 by_cases h4:j<x.Watchers.length
 ·have f4:decide ((j:Int)<((els x.Watchers).length:Int))=true:=Gqb (by omega)
  have c1:=I_JudgeWatcher x j g0 ⟨by omega,by omega⟩ ll
  cases hj:judgeW x j with
  |false =>
   rw[hj] at c1
   rw[show judgeM x=false from dF fun hp=>by have:=hp.2.2 j h4; rw[hj] at this; cases this]
   refine Wz [2,5,99,69,25,4,15,0] ?_;refine zx (Qj J J (c1) J) J ?_;refine Wz [8,64] ?_
   exact Vz J (V0 [] J J J)
  |true =>
   rw[hj] at c1
   refine Wz [2,5,99,69,25,4,15,0] ?_;refine zx (Qj J J (c1) J) J ?_;refine Wz [8,119,85] ?_
   exact⟨x.Watchers.length-(j+1),by omega,_,⟨j+1,by omega,Kc hp_D hj,J⟩,V8 [0]⟩
 have f4:decide ((j:Int)<((els x.Watchers).length:Int))=false:=Gqa (by omega)
 rw[show judgeM x=true from dT ⟨hm,fun i hi=>hp_A i (by omega),fun i hi=>hp_D i (by omega)⟩]
 refine Wz [2,5,99,147,101] ?_
 exact Vz J (V0 [] J J J)
theorem S_JudgeMatch (x:TMatch) (g:Enc.gd x) (ll:x.Level.Rows.length≤1048576):Con Tryz.prog 47 [] [ag x] [] (B (judgeM x)):=by
 have hlp:=Ya x.Peers
 have hlw:=Ya x.Watchers
 have g0:=g
 obtain⟨gL,gS,gD,gSc,gP,gW,gPa,gA,gC,gWa,gLi,gAl,gB⟩:=g
 have hx:=gP.1
 have hy:=gWa.1
 have cm:=S_MatchOk x g0
 refine Con.of Tryz.func47 J Tryz.ntmps47 J (fun E => ?_)
 refine Wz [26,32] ?_;refine Xj (fun m st=>∃ k:Nat,k+m=x.Peers.length∧((∀ i,i<k→judgeP x i=true))∧st=(⟨29,[(1,.o (.c (.ptr 0 0))),(3,I k)],[.box ((Enc.e x).map (V1.rd []))]⟩:St)) (x.Peers.length) ⟨_,⟨0,by omega,fun i hi=>absurd hi (Nat.not_lt_zero _),J⟩,V8 [0]⟩ ?_
 rintro m_A _ ⟨k,hk_A,hp_A,rfl⟩
 by_cases h3:k<x.Peers.length
 ·have f3:decide ((k:Int)<((els x.Peers).length:Int))=true:=Gqb (by omega)
  have c1:=S_JudgePeer x k g0 ⟨by omega,by omega⟩ ll
  cases hj:judgeP x k with
  |false =>
   rw[hj] at c1
   rw[show judgeM x=false from dF fun hp=>by have:=hp.2.1 k h3; rw[hj] at this; cases this]
   refine Wz [54,14,11,5,13,21,15,0] ?_;refine zx (Qj J J (c1) J) J ?_;refine Wz [8,64] ?_
   exact Vz J (V0 [] J J J)
  |true =>
   rw[hj] at c1
   refine Wz [54,14,11,5,13,21,15,0] ?_;refine zx (Qj J J (c1) J) J ?_;refine Wz [8,49] ?_
   exact⟨x.Peers.length-(k+1),by omega,_,⟨k+1,by omega,Kc hp_A hj,J⟩,V8 [0]⟩
 have f3:decide ((k:Int)<((els x.Peers).length:Int))=false:=Gqa (by omega)
 refine Wz [54,14,11,5,128,35,32] ?_;refine Xj (fun m st=>∃ j:Nat,j+m=x.Watchers.length∧((∀ i,i<j→judgeW x i=true))∧st=(⟨29,[(1,.o (.c (.ptr 0 0))),(4,I j)],[.box ((Enc.e x).map (V1.rd []))]⟩:St)) (x.Watchers.length) ⟨_,⟨0,by omega,fun i hi=>absurd hi (Nat.not_lt_zero _),J⟩,V8 [0]⟩ ?_
 rintro m_D _ ⟨j,hk_D,hp_D,rfl⟩
 by_cases h4:j<x.Watchers.length
 ·have f4:decide ((j:Int)<((els x.Watchers).length:Int))=true:=Gqb (by omega)
  have c1:=S_JudgeWatcher x j g0 ⟨by omega,by omega⟩ ll
  cases hj:judgeW x j with
  |false =>
   rw[hj] at c1
   rw[show judgeM x=false from dF fun hp=>by have:=hp.2.2 j h4; rw[hj] at this; cases this]
   refine Wz [54,14,11,5,13,21,15,0] ?_;refine zx (Qj J J (c1) J) J ?_;refine Wz [8,64] ?_
   exact Vz J (V0 [] J J J)
  |true =>
   rw[hj] at c1
   refine Wz [54,14,11,5,13,21,15,0] ?_;refine zx (Qj J J (c1) J) J ?_;refine Wz [8,49] ?_
   exact⟨x.Watchers.length-(j+1),by omega,_,⟨j+1,by omega,Kc hp_D hj,J⟩,V8 [0]⟩
 have f4:decide ((j:Int)<((els x.Watchers).length:Int))=false:=Gqa (by omega)
 have hjm:judgeM x=matchOk x:=by
  cases hm:matchOk x with
  |false=>exact dF fun hp=>by have:=hp.1; rw[hm] at this; cases this
  |true=>exact dT ⟨hm,fun i hi=>hp_A i (by omega),fun i hi=>hp_D i (by omega)⟩
 rw[hjm]
 refine Wz [54,14,11,5,128,35,15] ?_;refine zx (Qj J J (cm) J) J ?_;refine Wz [59] ?_
 exact Vz J (V0 [] J J J)
end
section
open Go.RowKit

theorem law_JudgeMatch (x:TMatch) (g_x:Enc.gd x):Con Tryz.prog 7 [] [ag x] [] (B true):=by
 have hz:=sz_Match x (1048576) g_x (by omega) (by omega)
 by_cases n_x:(1048576:Int)<Enc.wt x
 ·rw[Z9 n_x] at hz
  refine Con.of Tryz.func7 J Tryz.ntmps7 J (fun E => ?_)
  refine Wz [26,31,15,0] ?_;refine zx (Qj J J (hz) J) J ?_;refine Wz [42,230,28] ?_
  exact Vz J (V0 [] J J J)
 rw[V4] at hz
 have hb:decide ((1048576:Int)-Enc.wt x<0)=false:=Gqa (by omega)
 have ht:=to_Match x (by omega)
 have hq:=eq_Match x x g_x
 rw[Gqb rfl] at hq
 have hsp:=S_JudgeMatch x g_x (lev_in (by omega))
 have hip:=I_JudgeMatch x g_x (lev_in (by omega))
 generalize judgeM x=y at hsp hip
 have hne:decide (y≠y)=false:=Gqa (fun h=>h rfl)
 refine Con.of Tryz.func7 J Tryz.ntmps7 J (fun E => ?_)
 refine Wz [26,31,15,0] ?_;refine zx (Qj J J (hz) J) J ?_;refine Wz [125,15] ?_;refine M1 (Za J J (ht) J J J) J J ?_;refine AL.weak (st':=(⟨_,[(1,.o (.c (.ptr 0 0))),(13,.o (.ag [.ref 1,.rd [] (.v (.int .i64 x.Seed)),.rd [] (.v (.int .i64 x.Delay)),.ref 2,.ref 3,.ref 4,.ref 5,.ref 6,.rd [] (.v (.int .i64 x.Clock)),.ref 7,.ref 8,.ref 9,.rd [] (.v (.int .i64 x.Bad))]))],[.box ((Enc.e x).map (V1.rd [])),.row 1 (els x.Level.Rows),.row 1 (els x.Scripts),.row 23 (els x.Peers),.row 1 (els x.Wires),.row 1 (els x.Paces),.row 1 (els x.Acks),.row 6 (els x.Watchers),.row 10 (els x.Lines),.row 2 (els x.Alarms)]⟩:St)) (Vy [0,1,2,3,4,5,6,7,8,9] J ((by kernel_rfl)) (.c J (.c J (.nil)))) ?_;refine zx (Qj J J (hsp) J) J ?_;refine AL.weak (st':=(⟨_,[(1,.o (.c (.ptr 0 0))),(14,B y)],[.box ((Enc.e x).map (V1.rd []))]⟩:St)) (V8 [0]) ?_;refine Wz [4,15] ?_;refine M1 (Za J J (ht) J J J) J J ?_;refine AL.weak (st':=(⟨_,[(1,.o (.c (.ptr 0 0))),(4,B y),(16,.o (.ag [.ref 1,.rd [] (.v (.int .i64 x.Seed)),.rd [] (.v (.int .i64 x.Delay)),.ref 2,.ref 3,.ref 4,.ref 5,.ref 6,.rd [] (.v (.int .i64 x.Clock)),.ref 7,.ref 8,.ref 9,.rd [] (.v (.int .i64 x.Bad))]))],[.box ((Enc.e x).map (V1.rd [])),.row 1 (els x.Level.Rows),.row 1 (els x.Scripts),.row 23 (els x.Peers),.row 1 (els x.Wires),.row 1 (els x.Paces),.row 1 (els x.Acks),.row 6 (els x.Watchers),.row 10 (els x.Lines),.row 2 (els x.Alarms)]⟩:St)) (Vy [0,1,2,3,4,5,6,7,8,9] J ((by kernel_rfl)) (.c J (.c J (.c J (.nil))))) ?_;refine Wz [115,88] ?_;refine AL.weak (st':=(⟨_,[(1,.o (.c (.ptr 0 0))),(4,B y),(5,.o (.c (.ptr 10 0)))],[.box ((Enc.e x).map (V1.rd [])),.row 1 (els x.Level.Rows),.row 1 (els x.Scripts),.row 23 (els x.Peers),.row 1 (els x.Wires),.row 1 (els x.Paces),.row 1 (els x.Acks),.row 6 (els x.Watchers),.row 10 (els x.Lines),.row 2 (els x.Alarms),.box [.ref 1,.rd [] (.v (.int .i64 x.Seed)),.rd [] (.v (.int .i64 x.Delay)),.ref 2,.ref 3,.ref 4,.ref 5,.ref 6,.rd [] (.v (.int .i64 x.Clock)),.ref 7,.ref 8,.ref 9,.rd [] (.v (.int .i64 x.Bad))]]⟩:St)) (Vy [0,1,2,3,4,5,6,7,8,9,10] J ((by kernel_rfl)) (.c J (.c J (.c J (.nil))))) ?_;refine Wz [16,15] ?_;refine AL.weak (st':=(⟨_,[(1,.o (.c (.ptr 0 0))),(4,B y),(5,.o (.c (.ptr 10 0))),(17,.o (.ag [.ref 1,.rd [] (.v (.int .i64 x.Seed)),.rd [] (.v (.int .i64 x.Delay)),.ref 2,.ref 3,.ref 4,.ref 5,.ref 6,.rd [] (.v (.int .i64 x.Clock)),.ref 7,.ref 8,.ref 9,.rd [] (.v (.int .i64 x.Bad))]))],[.box ((Enc.e x).map (V1.rd [])),.row 1 (els x.Level.Rows),.row 1 (els x.Scripts),.row 23 (els x.Peers),.row 1 (els x.Wires),.row 1 (els x.Paces),.row 1 (els x.Acks),.row 6 (els x.Watchers),.row 10 (els x.Lines),.row 2 (els x.Alarms),.box [.ref 1,.rd [] (.v (.int .i64 x.Seed)),.rd [] (.v (.int .i64 x.Delay)),.ref 2,.ref 3,.ref 4,.ref 5,.ref 6,.rd [] (.v (.int .i64 x.Clock)),.ref 7,.ref 8,.ref 9,.rd [] (.v (.int .i64 x.Bad))]]⟩:St)) (Vy [0,1,2,3,4,5,6,7,8,9,10] J ((by kernel_rfl)) (.c J (.c J (.c J (.c J (.nil)))))) ?_;refine zx (Qj J J (hip) J) J ?_;refine AL.weak (st':=(⟨_,[(1,.o (.c (.ptr 0 0))),(4,B y),(5,.o (.c (.ptr 10 0))),(18,B y)],[.box ((Enc.e x).map (V1.rd [])),.row 1 (els x.Level.Rows),.row 1 (els x.Scripts),.row 23 (els x.Peers),.row 1 (els x.Wires),.row 1 (els x.Paces),.row 1 (els x.Acks),.row 6 (els x.Watchers),.row 10 (els x.Lines),.row 2 (els x.Alarms),.box [.ref 1,.rd [] (.v (.int .i64 x.Seed)),.rd [] (.v (.int .i64 x.Delay)),.ref 2,.ref 3,.ref 4,.ref 5,.ref 6,.rd [] (.v (.int .i64 x.Clock)),.ref 7,.ref 8,.ref 9,.rd [] (.v (.int .i64 x.Bad))]]⟩:St)) (Vy [0,1,2,3,4,5,6,7,8,9,10] J ((by kernel_rfl)) (.c J (.c J (.c J (.c J (.nil)))))) ?_;refine Wz [42,0,219,16] ?_
 refine Xb J (fun h=>absurd h (by simp)) (fun h => ?_)
 refine Wz [229,18] ?_
 refine AWP.pre (st':=(⟨_,[(1,.o (.c (.ptr 0 0))),(5,.o (.c (.ptr 10 0)))],[.box ((Enc.e x).map (V1.rd [])),.row 1 (els x.Level.Rows),.row 1 (els x.Scripts),.row 23 (els x.Peers),.row 1 (els x.Wires),.row 1 (els x.Paces),.row 1 (els x.Acks),.row 6 (els x.Watchers),.row 10 (els x.Lines),.row 2 (els x.Alarms),.box [.ref 1,.rd [] (.v (.int .i64 x.Seed)),.rd [] (.v (.int .i64 x.Delay)),.ref 2,.ref 3,.ref 4,.ref 5,.ref 6,.rd [] (.v (.int .i64 x.Clock)),.ref 7,.ref 8,.ref 9,.rd [] (.v (.int .i64 x.Bad))]]⟩:St)) ?_ (Vy [0,1,2,3,4,5,6,7,8,9,10] J ((by kernel_rfl)) (.c J (.c J (.nil))))
 refine Xi u8_63 [[],[],[23],[22,23,24],[22,23,24,25]] [[23,24],[22],[22],[],[]] J ?_;refine Wz [105,105] ?_;refine Kk (Za J J (ht) J J J) J ?_;refine Kk (Qj J J (hq) J) J ?_;refine Wz [76,10,16] ?_
 refine AWP.pre (st':=(⟨_,[(26,B false)],[]⟩:St)) ?_ (V8 [])
 refine Wz [147,22,156] ?_
 exact Vz J (V0 [] J J J)
end
end Go.Proofs.YtednjbelfpoecaaGreat
