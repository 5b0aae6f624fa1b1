/-
  Rules, data and contracts of functions: part 34 of the proof.
  Conditions: those that each theorem names.
-/
import Derived.Test.YtednjbelfpoecaaGreatDDJuAllk31
set_option linter.unusedSimpArgs false
set_option linter.unusedVariables false
set_option maxRecDepth 8000
set_option maxHeartbeats 8000000
namespace Go.Proofs.YtednjbelfpoecaaGreat
section
open Go.RowKit

theorem I_JudgeWatcher (x:TMatch) (i:Int) (g:Enc.gd x) (gi:Enc.gd i) (ll:x.Level.Rows.length≤1048576):Con Tryz.prog 46 [] [ag x,ai i] [] (B (judgeW x i)):=by
 have hlp:=Ya x.Watchers
 have g0:=g
 obtain⟨gL,gS,gD,gSc,gP,gW,gPa,gA,gC,gWa,gLi,gAl,gB⟩:=g
 have hx:=gWa.1
 by_cases hr:i<0∨(x.Watchers.length:Int)≤i
 ·rw[judgeW_out hr]
  have hc:(decide (i<0) || decide (((els x.Watchers).length:Int)≤i))=true:=by simp only[Gqp,decide_eq_true_eq]; omega
  refine Con.of Tryz.func46 J Tryz.ntmps46 J (fun E => ?_)
  refine Wz [74,42,144,0,112,183,206,211] ?_;refine zx (Kq J (.hit (.hit (.hit (.hit .stop)))) (fun hgrd=>q_geq J J J J)) J ?_;refine Wz [65] ?_
  refine Xb J (fun h => ?_) (fun h => ?_)
  ·refine Wz [55] ?_
   exact Vz J (V0 [] J J J)
  ·rw[hc] at h; cases h
 obtain⟨k,rfl⟩:∃ k:Nat,i=k:=⟨i.toNat,by omega⟩
 have hk:k<x.Watchers.length:=by omega
 have hc:(decide ((k:Int)<0) || decide (((els x.Watchers).length:Int)≤(k:Int)))=false:=by simp only[Gqk,decide_eq_false_iff_not]; omega
 have hat:=X9 hk
 have hgp:=gWa.2 _ (Gqg hk)
 cases hm:matchOk x with
 |false =>
  rw[judgeW_bad hm]
  generalize x.Watchers[k]=p at hat hgp ⊢
  have c1:=I_LockNo x p.World.Tick ⟨0,0,0⟩ g0 (.inl hm)
  refine Con.of Tryz.func46 J Tryz.ntmps46 J (fun E => ?_)
  refine Wz [74,42,144,30,17,11,6,138,91,82,170,204,256,98,15,14,160] ?_;refine M1 (Za J J (c1) J J J) J J ?_;refine Wz [195,135,135,115,88,48,95,51,7,59] ?_
  exact Vz J (V0 [] J J J)
 |true =>
 rw[judgeW_at hm hk]
 generalize x.Watchers[k]=p at hat hgp ⊢
 cases ht2:inR p.World.Tick 0 400 with
 |false =>
  show Con _ _ _ _ _ (B false)
  have c1:=I_LockNo x p.World.Tick ⟨0,0,0⟩ g0 (.inr ht2)
  refine Con.of Tryz.func46 J Tryz.ntmps46 J (fun E => ?_)
  refine Wz [74,42,144,30,17,11,6,138,91,82,170,204,256,98,15,14,160] ?_;refine M1 (Za J J (c1) J J J) J J ?_;refine Wz [195,135,135,115,88,48,95,51,7,59] ?_
  exact Vz J (V0 [] J J J)
 |true =>
 have hr3:=Yo.1 ht2
 obtain⟨n,ht⟩:∃ n:Nat,p.World.Tick=n:=⟨p.World.Tick.toNat,by omega⟩
 have hn:n≤400:=by omega
 have c1:=I_Lock x n ⟨0,0,0⟩ g0 ⟨⟨by decide,by decide⟩,⟨by decide,by decide⟩,⟨by decide,by decide⟩⟩ hm ll hn
 have hw:=(lock_fit g0.1 ll (dS hm:MatchP x) ⟨0,0,0⟩ n).wi
 rw[ht]
 show Con _ _ _ _ _ (B (decide (lockM x ⟨0,0,0⟩ n=p.World)))
 generalize lockM x ⟨0,0,0⟩ n=w at c1 hw ⊢
 have c2:=I_SameWorld w p.World hw.gd
 rw[←ht] at c1
 generalize decide (w=p.World)=y at c2 ⊢
 refine Con.of Tryz.func46 J Tryz.ntmps46 J (fun E => ?_)
 refine Wz [74,42,144,30,17,11,6,138,91,82,170,204,256,98,15,14,160] ?_;refine M1 (Za J J (c1) J J J) J J ?_;refine Wz [195,135,135,115,88,48,30,79,6,79,6] ?_;refine zx (Qj J J (c2) J) J ?_;refine Wz [12,59] ?_
 exact Vz J (V0 [] J J J)
theorem S_JudgeWatcher (x:TMatch) (i:Int) (g:Enc.gd x) (gi:Enc.gd i) (ll:x.Level.Rows.length≤1048576):Con Tryz.prog 45 [] [ag x,ai i] [] (B (judgeW x i)):=by
 have hlp:=Ya x.Watchers
 have g0:=g
 obtain⟨gL,gS,gD,gSc,gP,gW,gPa,gA,gC,gWa,gLi,gAl,gB⟩:=g
 have hx:=gWa.1
 have cm:=S_MatchOk x g0
 have ci:=Xv i 0 (((els x.Watchers).length:Int)-1)
 cases hm:matchOk x with
 |false =>
  rw[hm] at cm
  rw[judgeW_bad hm]
  refine Con.of Tryz.func45 J Tryz.ntmps45 J (fun E => ?_)
  refine Wz [26,71] ?_;refine zx (Qj J J (cm) J) J ?_;refine Wz [8,57,123,51,12,28] ?_
  exact Vz J (V0 [] J J J)
 |true =>
 rw[hm] at cm
 cases hr:inR i 0 (((els x.Watchers).length:Int)-1) with
 | false =>
  rw[hr] at ci
  rw[judgeW_out (by
   refine Classical.byContradiction fun hn => ?_
   rw[Yo.2 ⟨by omega,by omega⟩] at hr
   cases hr)]
  refine Con.of Tryz.func45 J Tryz.ntmps45 J (fun E => ?_)
  refine Wz [26,71] ?_;refine zx (Qj J J (cm) J) J ?_;refine Wz [8,30,17,11,6,45,6] ?_;refine zx (Qj J J (ci) J) J ?_;refine Wz [93,7,28] ?_
  exact Vz J (V0 [] J J J)
 |true =>
 rw[hr] at ci
 have hr2:=Yo.1 hr
 obtain⟨k,rfl⟩:∃ k:Nat,i=k:=⟨i.toNat,by omega⟩
 have hk:k<x.Watchers.length:=by omega
 have hat:=X9 hk
 have hgp:=gWa.2 _ (Gqg hk)
 rw[judgeW_at hm hk]
 generalize x.Watchers[k]=p at hat hgp ⊢
 cases ht2:inR p.World.Tick 0 400 with
 |false =>
  show Con _ _ _ _ _ (B false)
  have c1:=S_LockNo x p.World.Tick ⟨0,0,0⟩ g0 (.inr ht2)
  refine Con.of Tryz.func45 J Tryz.ntmps45 J (fun E => ?_)
  refine Wz [26,71] ?_;refine zx (Qj J J (cm) J) J ?_;refine Wz [8,30,17,11,6,45,6] ?_;refine zx (Qj J J (ci) J) J ?_;refine Wz [93,91,18] ?_
  refine AWP.pre (st':=(⟨43,[(1,I k),(2,.o (.c (.ptr 0 0)))],[.box ((Enc.e x).map (V1.rd []))]⟩:St)) ?_ (Vy [0] J ((by kernel_rfl)) (.c J (.c J (.nil))))
  refine Xi u8_66 u8_67 u8_68 J ?_;refine Wz [105,20,111,182,182,46,274] ?_;refine Kk (Za J J (c1) J J J) J ?_;refine Wz [199,136,136,196,10] ?_;refine AL.weak (st':=(⟨43,[(1,I k),(2,.o (.c (.ptr 0 0))),(5,.o (.c (.ptr 1 0))),(30,.o (.ag [nv,jn 0,jn 0,nv,nv])),(31,B false)],[.box ((Enc.e x).map (V1.rd [])),.box [nv,jn 0,jn 0,nv,nv]]⟩:St)) (Vy [0,1] J ((by kernel_rfl)) (.c J (.c J (.c J (.c J (.c J (.nil))))))) ?_;refine Wz [88,4,18] ?_
  refine AWP.pre (st':=(⟨43,[(1,I k),(2,.o (.c (.ptr 0 0))),(5,.o (.c (.ptr 1 0))),(6,B false)],[.box ((Enc.e x).map (V1.rd [])),.box [nv,jn 0,jn 0,nv,nv]]⟩:St)) ?_ (Vy [0,1] J ((by kernel_rfl)) (.c J (.c J (.c J (.c J (.nil))))))
  refine Xi u8_62 u8_69 u8_70 J ?_;refine Wz [1,1,127,70,179,10,16,84] ?_
  exact Vz J (V0 [] J J J)
 |true =>
 have hr3:=Yo.1 ht2
 obtain⟨n,ht⟩:∃ n:Nat,p.World.Tick=n:=⟨p.World.Tick.toNat,by omega⟩
 have hn:n≤400:=by omega
 have c1:=S_Lock x n ⟨0,0,0⟩ g0 ⟨⟨by decide,by decide⟩,⟨by decide,by decide⟩,⟨by decide,by decide⟩⟩ hm ll hn
 have hw:=(lock_fit g0.1 ll (dS hm:MatchP x) ⟨0,0,0⟩ n).wi
 rw[ht]
 show Con _ _ _ _ _ (B (decide (lockM x ⟨0,0,0⟩ n=p.World)))
 generalize lockM x ⟨0,0,0⟩ n=w at c1 hw ⊢
 have c2:=S_SameWorld w p.World hw.gd
 rw[←ht] at c1
 generalize decide (w=p.World)=y at c2 ⊢
 refine Con.of Tryz.func45 J Tryz.ntmps45 J (fun E => ?_)
 refine Wz [26,71] ?_;refine zx (Qj J J (cm) J) J ?_;refine Wz [8,30,17,11,6,45,6] ?_;refine zx (Qj J J (ci) J) J ?_;refine Wz [93,91,18] ?_
 refine AWP.pre (st':=(⟨43,[(1,I k),(2,.o (.c (.ptr 0 0)))],[.box ((Enc.e x).map (V1.rd []))]⟩:St)) ?_ (Vy [0] J ((by kernel_rfl)) (.c J (.c J (.nil))))
 refine Xi u8_66 u8_67 u8_68 J ?_;refine Wz [105,20,111,182,182,46,274] ?_;refine Kk (Za J J (c1) J J J) J ?_;refine Wz [199,136,136,196,10] ?_;refine AL.weak (st':=(⟨43,[(1,I k),(2,.o (.c (.ptr 0 0))),(5,.o (.c (.ptr 4 0))),(30,.o (.ag [.ref 1,jn w.Tick,jn w.Seed,.ref 2,.ref 3])),(31,B true)],[.box ((Enc.e x).map (V1.rd [])),.row 1 (els w.Level.Rows),.row 1 (els w.Scores),.row 9 (els w.Bodies),.box [nv,jn 0,jn 0,nv,nv]]⟩:St)) (Vy [0,1,2,3,4] J ((by kernel_rfl)) (.c J (.c J (.c J (.c J (.c J (.nil))))))) ?_;refine Qy J J J J J J J J J ?_;refine AL.weak (st':=(⟨43,[(1,I k),(2,.o (.c (.ptr 0 0))),(5,.o (.c (.ptr 4 0))),(31,B true)],[.box ((Enc.e x).map (V1.rd [])),.row 1 (els w.Level.Rows),.row 1 (els w.Scores),.row 9 (els w.Bodies),.box [.ref 1,jn w.Tick,jn w.Seed,.ref 2,.ref 3]]⟩:St)) (Vy [0,1,2,3,4] J ((by kernel_rfl)) (.c J (.c J (.c J (.c J (.nil)))))) ?_;refine Wz [4,18] ?_
 refine AWP.pre (st':=(⟨43,[(1,I k),(2,.o (.c (.ptr 0 0))),(5,.o (.c (.ptr 4 0))),(6,B true)],[.box ((Enc.e x).map (V1.rd [])),.row 1 (els w.Level.Rows),.row 1 (els w.Scores),.row 9 (els w.Bodies),.box [.ref 1,jn w.Tick,jn w.Seed,.ref 2,.ref 3]]⟩:St)) ?_ (Vy [0,1,2,3,4] J ((by kernel_rfl)) (.c J (.c J (.c J (.c J (.nil))))))
 refine Xi u8_62 u8_69 u8_70 J ?_;refine Wz [1,1,166,104,124,189,266] ?_;refine Kk (Qt.yes J J J (Qj J J (c2) J)) J ?_;refine Wz [86,179,10,16,84] ?_
 exact Vz J (V0 [] J J J)
end
section
open Go.RowKit

theorem law_JudgeWatcher (x:TMatch) (i:Int) (g_x:Enc.gd x) (g_i:Enc.gd i):Con Tryz.prog 6 [] [ag x,ai i] [] (B true):=by
 have hz:=sz_Match x (1048576) g_x (by omega) (by omega)
 by_cases n_x:(1048576:Int)<Enc.wt x
 ·rw[Z9 n_x] at hz
  refine Con.of Tryz.func6 J Tryz.ntmps6 J (fun E => ?_)
  refine Wz [26,31,15,0] ?_;refine zx (Qj J J (hz) J) J ?_;refine Wz [42,230,28] ?_
  exact Vz J (V0 [] J J J)
 rw[V4] at hz
 have hb:decide ((1048576:Int)-Enc.wt x<0)=false:=Gqa (by omega)
 have ht:=to_Match x (by omega)
 have hq:=eq_Match x x g_x
 rw[Gqb rfl] at hq
 have hsp:=S_JudgeWatcher x i g_x g_i (lev_in (by omega))
 have hip:=I_JudgeWatcher x i g_x g_i (lev_in (by omega))
 generalize judgeW x i=y at hsp hip
 have hne:decide (y≠y)=false:=Gqa (fun h=>h rfl)
 refine Con.of Tryz.func6 J Tryz.ntmps6 J (fun E => ?_)
 refine Wz [26,31,15,0] ?_;refine zx (Qj J J (hz) J) J ?_;refine Wz [125,15] ?_;refine M1 (Za J J (ht) J J J) J J ?_;refine AL.weak (st':=(⟨_,[(1,I i),(2,.o (.c (.ptr 0 0))),(15,.o (.ag [.ref 1,.rd [] (.v (.int .i64 x.Seed)),.rd [] (.v (.int .i64 x.Delay)),.ref 2,.ref 3,.ref 4,.ref 5,.ref 6,.rd [] (.v (.int .i64 x.Clock)),.ref 7,.ref 8,.ref 9,.rd [] (.v (.int .i64 x.Bad))]))],[.box ((Enc.e x).map (V1.rd [])),.row 1 (els x.Level.Rows),.row 1 (els x.Scripts),.row 23 (els x.Peers),.row 1 (els x.Wires),.row 1 (els x.Paces),.row 1 (els x.Acks),.row 6 (els x.Watchers),.row 10 (els x.Lines),.row 2 (els x.Alarms)]⟩:St)) (Vy [0,1,2,3,4,5,6,7,8,9] J ((by kernel_rfl)) (.c J (.c J (.c J (.nil))))) ?_;refine z0 J ?_;refine zx (Qj J J (hsp) J) J ?_;refine AL.weak (st':=(⟨_,[(1,I i),(2,.o (.c (.ptr 0 0))),(17,B y)],[.box ((Enc.e x).map (V1.rd []))]⟩:St)) (V8 [0]) ?_;refine Wz [4,15] ?_;refine M1 (Za J J (ht) J J J) J J ?_;refine AL.weak (st':=(⟨_,[(1,I i),(2,.o (.c (.ptr 0 0))),(6,B y),(19,.o (.ag [.ref 1,.rd [] (.v (.int .i64 x.Seed)),.rd [] (.v (.int .i64 x.Delay)),.ref 2,.ref 3,.ref 4,.ref 5,.ref 6,.rd [] (.v (.int .i64 x.Clock)),.ref 7,.ref 8,.ref 9,.rd [] (.v (.int .i64 x.Bad))]))],[.box ((Enc.e x).map (V1.rd [])),.row 1 (els x.Level.Rows),.row 1 (els x.Scripts),.row 23 (els x.Peers),.row 1 (els x.Wires),.row 1 (els x.Paces),.row 1 (els x.Acks),.row 6 (els x.Watchers),.row 10 (els x.Lines),.row 2 (els x.Alarms)]⟩:St)) (Vy [0,1,2,3,4,5,6,7,8,9] J ((by kernel_rfl)) (.c J (.c J (.c J (.c J (.nil)))))) ?_;refine Wz [115,88] ?_;refine AL.weak (st':=(⟨_,[(1,I i),(2,.o (.c (.ptr 0 0))),(6,B y),(7,.o (.c (.ptr 10 0)))],[.box ((Enc.e x).map (V1.rd [])),.row 1 (els x.Level.Rows),.row 1 (els x.Scripts),.row 23 (els x.Peers),.row 1 (els x.Wires),.row 1 (els x.Paces),.row 1 (els x.Acks),.row 6 (els x.Watchers),.row 10 (els x.Lines),.row 2 (els x.Alarms),.box [.ref 1,.rd [] (.v (.int .i64 x.Seed)),.rd [] (.v (.int .i64 x.Delay)),.ref 2,.ref 3,.ref 4,.ref 5,.ref 6,.rd [] (.v (.int .i64 x.Clock)),.ref 7,.ref 8,.ref 9,.rd [] (.v (.int .i64 x.Bad))]]⟩:St)) (Vy [0,1,2,3,4,5,6,7,8,9,10] J ((by kernel_rfl)) (.c J (.c J (.c J (.c J (.nil)))))) ?_;refine Wz [16,15] ?_;refine AL.weak (st':=(⟨_,[(1,I i),(2,.o (.c (.ptr 0 0))),(6,B y),(7,.o (.c (.ptr 10 0))),(20,.o (.ag [.ref 1,.rd [] (.v (.int .i64 x.Seed)),.rd [] (.v (.int .i64 x.Delay)),.ref 2,.ref 3,.ref 4,.ref 5,.ref 6,.rd [] (.v (.int .i64 x.Clock)),.ref 7,.ref 8,.ref 9,.rd [] (.v (.int .i64 x.Bad))]))],[.box ((Enc.e x).map (V1.rd [])),.row 1 (els x.Level.Rows),.row 1 (els x.Scripts),.row 23 (els x.Peers),.row 1 (els x.Wires),.row 1 (els x.Paces),.row 1 (els x.Acks),.row 6 (els x.Watchers),.row 10 (els x.Lines),.row 2 (els x.Alarms),.box [.ref 1,.rd [] (.v (.int .i64 x.Seed)),.rd [] (.v (.int .i64 x.Delay)),.ref 2,.ref 3,.ref 4,.ref 5,.ref 6,.rd [] (.v (.int .i64 x.Clock)),.ref 7,.ref 8,.ref 9,.rd [] (.v (.int .i64 x.Bad))]]⟩:St)) (Vy [0,1,2,3,4,5,6,7,8,9,10] J ((by kernel_rfl)) (.c J (.c J (.c J (.c J (.c J (.nil))))))) ?_;refine z0 J ?_;refine zx (Qj J J (hip) J) J ?_;refine AL.weak (st':=(⟨_,[(1,I i),(2,.o (.c (.ptr 0 0))),(6,B y),(7,.o (.c (.ptr 10 0))),(22,B y)],[.box ((Enc.e x).map (V1.rd [])),.row 1 (els x.Level.Rows),.row 1 (els x.Scripts),.row 23 (els x.Peers),.row 1 (els x.Wires),.row 1 (els x.Paces),.row 1 (els x.Acks),.row 6 (els x.Watchers),.row 10 (els x.Lines),.row 2 (els x.Alarms),.box [.ref 1,.rd [] (.v (.int .i64 x.Seed)),.rd [] (.v (.int .i64 x.Delay)),.ref 2,.ref 3,.ref 4,.ref 5,.ref 6,.rd [] (.v (.int .i64 x.Clock)),.ref 7,.ref 8,.ref 9,.rd [] (.v (.int .i64 x.Bad))]]⟩:St)) (Vy [0,1,2,3,4,5,6,7,8,9,10] J ((by kernel_rfl)) (.c J (.c J (.c J (.c J (.c J (.nil))))))) ?_;refine Wz [42,0,219,16] ?_
 refine Xb J (fun h=>absurd h (by simp)) (fun h => ?_)
 refine Wz [229,18] ?_
 refine AWP.pre (st':=(⟨_,[(1,I i),(2,.o (.c (.ptr 0 0))),(7,.o (.c (.ptr 10 0)))],[.box ((Enc.e x).map (V1.rd [])),.row 1 (els x.Level.Rows),.row 1 (els x.Scripts),.row 23 (els x.Peers),.row 1 (els x.Wires),.row 1 (els x.Paces),.row 1 (els x.Acks),.row 6 (els x.Watchers),.row 10 (els x.Lines),.row 2 (els x.Alarms),.box [.ref 1,.rd [] (.v (.int .i64 x.Seed)),.rd [] (.v (.int .i64 x.Delay)),.ref 2,.ref 3,.ref 4,.ref 5,.ref 6,.rd [] (.v (.int .i64 x.Clock)),.ref 7,.ref 8,.ref 9,.rd [] (.v (.int .i64 x.Bad))]]⟩:St)) ?_ (Vy [0,1,2,3,4,5,6,7,8,9,10] J ((by kernel_rfl)) (.c J (.c J (.c J (.nil)))))
 refine Xi u8_63 u8_64 u8_65 J ?_;refine Wz [105,105] ?_;refine Kk (Za J J (ht) J J J) J ?_;refine Kk (Qj J J (hq) J) J ?_;refine Wz [76,10,16] ?_
 refine AWP.pre (st':=(⟨_,[(30,B false)],[]⟩:St)) ?_ (V8 [])
 refine Wz [147,22,156] ?_
 exact Vz J (V0 [] J J J)
end
end Go.Proofs.YtednjbelfpoecaaGreat
