/-
  Rules, data and contracts of functions: part 30 of the proof.
  Conditions: those that each theorem names.
-/
import Derived.Test.YtoecjaohdnoenaaGreatDDSmAllk25
import Derived.Test.YtoecjaohdnoenaaGreatDDSmAllk26
import Derived.Test.YtoecjaohdnoenaaGreatDDSmAllk28
set_option linter.unusedSimpArgs false
set_option linter.unusedVariables false
set_option maxRecDepth 8000
set_option maxHeartbeats 8000000
namespace Go.Proofs.YtoecjaohdnoenaaGreat
section
open Go.RowKit

theorem L_mkWire (w:TWire) (k:Int) (g:Enc.gd w) (h0:0<k) (hb:nkEs (els w.Flights) k≤1073741823):Con Tryz.prog 27 [.row 2 (els w.Flights),.gh 0 (.ag (wX w (.ref 0)))] [.ag (wX w (.ref 0)),ai k] [.row 2 (mkEs (els w.Flights) k),.gh 0 (.ag (wX w (.ref 0)))] (I (nkEs (els w.Flights) k)):=by
 have cF:=L_mkFlightS w.Flights k g.2.2.2.2.2.2.2.1 h0 hb
 refine Con.of Tryz.func27 J Tryz.ntmps27 J (fun E => ?_)
 refine Wz [19,54] ?_;refine Xa (lo := [_]) (gs := [(0,.c (.ref 0))]) (lo' := [_]) (new := []) [0] [(0,0,.ref 0)] (cF) J J J J J J J J J J J J J J J J J ?_;refine Wz [7,141] ?_
 exact Xi J J (Xt [0,1] (by decide) J (by kernel_rfl) (by kernel_rfl))
theorem gd_set {α:Type} [Enc α] {xs:List α} {k:Nat} {u:α} (h:Enc.gd xs) (hu:Enc.gd u):Enc.gd (xs.set k u):=⟨by rw[Gqs]; exact h.1,fun x hx=>by
 rcases List.mem_or_eq_of_mem_set hx with h' | rfl
 ·exact h.2 _ h'
 ·exact hu⟩
theorem wts_set {α:Type} [Enc α] {u v:α} (e:Enc.wt u=Enc.wt v):∀ {xs:List α} {k:Nat},xs[k]? = some v→wts (xs.set k u)=wts xs
 |x::xs,0,h=>by simp only[Gq5,Option.some.injEq] at h; subst h; simp only[List.set_cons_zero,wts,e]
 |x::xs,k+1,h=>by simp only[List.set_cons_succ,wts,wts_set e (xs:=xs) (k:=k) (by simpa using h)]
theorem wt_set {α:Type} [Enc α] {u v:α} (e:Enc.wt u=Enc.wt v) {xs:List α} {k:Nat} (h:xs[k]? = some v):Enc.wt (xs.set k u)=Enc.wt xs:=by
 show (xs.set k u).length+wts (xs.set k u)=xs.length+wts xs
 rw[Gqs,wts_set e h]
theorem setV_in {x:TMatch} {i j:Int} {w:TWire} (g:Enc.gd x) (gw:Enc.gd w):Enc.gd (setV x i j w)∧Enc.wt (setV x i j w)=Enc.wt x:=by
 rw[setV]
 split
 ·rename_i hb
  obtain⟨hm,hw1,h2⟩:=setB_iff.1 hb
  obtain⟨a,ha,b,hb2,u,v,hu,hv,hs⟩:=set_at hm h2 w
  rw[hs]
  have gu:Enc.gd u:=g.2.2.2.2.2.1.2 u (Gq1 hu)
  have gv:Enc.gd v:=gu.2 v (Gq1 hv)
  have gs:Enc.gd (setF v w):=⟨gv.1,gw.2.1,gw.2.2.1,gw.2.2.2.1,gw.2.2.2.2.1,gw.2.2.2.2.2.1,gv.2.2.2.2.2.2⟩
  have e1:Enc.wt (u.set b (setF v w))=Enc.wt u:=wt_set (show Enc.wt (setF v w)=Enc.wt v from rfl) hv
  have e2:Enc.wt (x.Wires.set a (u.set b (setF v w)))=Enc.wt x.Wires:=wt_set e1 hu
  refine⟨⟨g.1,g.2.1,g.2.2.1,g.2.2.2.1,g.2.2.2.2.1,gd_set g.2.2.2.2.2.1 (gd_set gu gs),g.2.2.2.2.2.2⟩,?_⟩
  show Enc.wt x.Level+Enc.wt x.Scripts+Enc.wt x.Peers+Enc.wt (x.Wires.set a (u.set b (setF v w)))+Enc.wt x.Paces+Enc.wt x.Acks+Enc.wt x.Watchers+Enc.wt x.Lines+Enc.wt x.Alarms=_
  rw[e2]
  rfl
 ·exact⟨g,rfl⟩
theorem law_SetWire (x:TMatch) (i j:Int) (w:TWire) (g_x:Enc.gd x) (g_i:Enc.gd i) (g_j:Enc.gd j) (g_w:Enc.gd w):Con Tryz.prog 5 [] [ag x,ai i,ai j,ag w] [] (B true):=by
 have hz:=sz_Match x (1048576) g_x (by omega) (by omega)
 by_cases n_x:(1048576:Int)<Enc.wt x
 ·rw[Z4 n_x] at hz
  refine Con.of Tryz.func5 J Tryz.ntmps5 J (fun E => ?_)
  refine Wz [64,28,25,0] ?_;refine zx (Qj J J (hz) J) J ?_;refine Wz [112] ?_;refine zx (Qr (b:=true) J J J J (by decide)) J ?_;refine Wz [21] ?_
  exact Xi J J (Xt [] (by decide) J J J)
 rw[Z5 (by omega)] at hz
 have hb:decide ((1048576:Int)-Enc.wt x<0)=false:=Gqa (by omega)
 have hzw:=sz_Wire w (1048576-Enc.wt x) g_w (by omega) (by omega)
 by_cases n_w:(1048576-Enc.wt x:Int)<Enc.wt w
 ·rw[Z4 n_w] at hzw
  refine Con.of Tryz.func5 J Tryz.ntmps5 J (fun E => ?_)
  refine Wz [64,28,25,0] ?_;refine zx (Qj J J (hz) J) J ?_;refine Wz [48,25,0] ?_;refine zx (Qj J J (hzw) J) J ?_;refine Wz [112] ?_;refine zx (Qr (b:=true) J J J J (by decide)) J ?_;refine Wz [21] ?_
  exact Xi J J (Xt [] (by decide) J J J)
 rw[Z5 (by omega)] at hzw
 have hb2:decide ((1048576:Int)-Enc.wt x-Enc.wt w<0)=false:=Gqa (by omega)
 have ht:=to_Match x (by omega)
 have htw:=to_Wire w (by omega)
 have hq:=eq_Match x x g_x
 rw[Gqb rfl] at hq
 have hqw:=eq_Wire w w g_w
 rw[Gqb rfl] at hqw
 have hmi:MatchIn x:=⟨g_x,by omega⟩
 have hsp:=S_SetWire x i j w hmi g_w
 have hip:=I_SetWire x i j w hmi g_w
 obtain⟨g_y,w_y⟩:=setV_in (i:=i) (j:=j) g_x g_w
 generalize setV x i j w=y at hsp hip g_y w_y
 generalize setB x i j w=b at hsp hip
 have hq1:=eq_Match y y g_y
 rw[Gqb rfl] at hq1
 obtain⟨k1,k2⟩:=nM_le x 1
 obtain⟨k3,k4⟩:=nM_le y 1
 have hm_x:=L_mkMatch x 1 g_x (by omega) (by omega)
 have k5:=Yw (els w.Flights) (n9M x 1)
 have k6:=Yp w.Flights (n9M x 1)
 have k7:Enc.wt w=w.Flights.length+wts w.Flights:=rfl
 have hm_w:=L_mkWire w (n9M x 1) g_w (by omega) (by omega)
 have hm_y:=L_mkMatch y 1 g_y (by omega) (by omega)
 have hh:=L_hdMatch y 1 g_y (by omega) (by omega)
 have hk1:decide (nkEs (els w.Flights) (n9M x 1)<0)=false:=Gqa (by omega)
 have hk2:decide (n9M y 1<0)=false:=Gqa (by omega)
 refine Con.of Tryz.func5 J Tryz.ntmps5 J (fun E => ?_)
 refine Wz [64,28,25,0] ?_;refine zx (Qj J J (hz) J) J ?_;refine Wz [48,25,0] ?_;refine zx (Qj J J (hzw) J) J ?_;refine Wz [48,17] ?_
 refine AWP.pre (st':=(⟨129,[(1,I i),(2,I j),(4,.o (.c (.ptr 0 0))),(7,.o (.c (.ptr 1 0)))],[.box ((Enc.e x).map (V1.rd [])),.box ((Enc.e w).map (V1.rd []))]⟩:St)) ?_ (Xv [0,1] (by decide) J ((by kernel_rfl)) (.c J (.c J (.c J (.c J (.nil))))))
 refine Xd u8_48 [[],[32],[],[],[],[32,33,36],[32,33,34,35,36,37],[32,33,34,35,36,37,38],[31,32,33,34,35,36,37,38],[31,32,33,34,35,36,37,38],[],[10,31,32,33,34,35,36,37,38,39],[10,31,32,33,34,35,36,37,38,39,40]] [[10,34,35,36],[10,34,35,36],[10,32,33,35,36,37],[10,32,33,34,36,37],[10,32,33,34,35],[10,34,35],[10],[10],[10,40],[10,39],[31,32,33,34,35,36,37,38,39,40],[40],[],[9]] J (DR.s (Qu J J J J J J) J J ?_);refine DR.s (Za J J (ht) J J J) J J ?_;refine Wz [15,15,153] ?_;refine DR.s (Za J J (htw) J J J) J J ?_;refine DR.s (Za J J (hsp) J J J) J J ?_;refine DR.s (Q5 J J J) J J ?_;refine Wz [237,237,247,11] ?_;refine AL.weak (st':=(⟨129,[(1,I i),(2,I j),(4,.o (.c (.ptr 0 0))),(7,.o (.c (.ptr 1 0))),(10,.o (.c (.ptr 11 0))),(39,.o (.ag (mC y 2))),(40,B b)],[.box ((Enc.e x).map (V1.rd [])),.box ((Enc.e w).map (V1.rd [])),.row 1 (els y.Level.Rows),.row 1 (els y.Scripts),.row 23 (els y.Peers),.row 1 (els y.Wires),.row 1 (els y.Paces),.row 1 (els y.Acks),.row 6 (els y.Watchers),.row 10 (els y.Lines),.row 2 (els y.Alarms),.box zM]⟩:St)) (Xv [0,1,12,13,14,15,16,17,18,19,20,21] (by decide) J ((by kernel_rfl)) (.c J (.c J (.c J (.c J (.c J (.c J (.c J (.nil))))))))) ?_;refine Qy J J J J J J J J J ?_;refine AL.weak (st':=(⟨129,[(1,I i),(2,I j),(4,.o (.c (.ptr 0 0))),(7,.o (.c (.ptr 1 0))),(10,.o (.c (.ptr 11 0))),(40,B b)],[.box ((Enc.e x).map (V1.rd [])),.box ((Enc.e w).map (V1.rd [])),.row 1 (els y.Level.Rows),.row 1 (els y.Scripts),.row 23 (els y.Peers),.row 1 (els y.Wires),.row 1 (els y.Paces),.row 1 (els y.Acks),.row 6 (els y.Watchers),.row 10 (els y.Lines),.row 2 (els y.Alarms),.box (mC y 2)]⟩:St)) (Xv [0,1,2,3,4,5,6,7,8,9,10,11] (by decide) J ((by kernel_rfl)) (.c J (.c J (.c J (.c J (.c J (.c J (.nil)))))))) ?_;refine Wz [7,25] ?_;refine M1 (Za J J (ht) J J J) J J ?_;refine AL.weak (st':=(⟨129,[(1,I i),(2,I j),(4,.o (.c (.ptr 0 0))),(7,.o (.c (.ptr 1 0))),(10,.o (.c (.ptr 11 0))),(11,B b),(42,.o (.ag (mC x 12)))],[.box ((Enc.e x).map (V1.rd [])),.box ((Enc.e w).map (V1.rd [])),.row 1 (els y.Level.Rows),.row 1 (els y.Scripts),.row 23 (els y.Peers),.row 1 (els y.Wires),.row 1 (els y.Paces),.row 1 (els y.Acks),.row 6 (els y.Watchers),.row 10 (els y.Lines),.row 2 (els y.Alarms),.box (mC y 2),.row 1 (els x.Level.Rows),.row 1 (els x.Scripts),.row 23 (els x.Peers),.row 1 (els x.Wires),.row 1 (els x.Paces),.row 1 (els x.Acks),.row 6 (els x.Watchers),.row 10 (els x.Lines),.row 2 (els x.Alarms)]⟩:St)) (Xv [0,1,2,3,4,5,6,7,8,9,10,11,12,13,14,15,16,17,18,19,20] (by decide) J ((by kernel_rfl)) (.c J (.c J (.c J (.c J (.c J (.c J (.c J (.nil))))))))) ?_;refine Wz [56,136] ?_;refine AL.weak (st':=(⟨129,[(1,I i),(2,I j),(4,.o (.c (.ptr 0 0))),(7,.o (.c (.ptr 1 0))),(10,.o (.c (.ptr 11 0))),(11,B b),(12,.o (.c (.ptr 21 0)))],[.box ((Enc.e x).map (V1.rd [])),.box ((Enc.e w).map (V1.rd [])),.row 1 (els y.Level.Rows),.row 1 (els y.Scripts),.row 23 (els y.Peers),.row 1 (els y.Wires),.row 1 (els y.Paces),.row 1 (els y.Acks),.row 6 (els y.Watchers),.row 10 (els y.Lines),.row 2 (els y.Alarms),.box (mC y 2),.row 1 (els x.Level.Rows),.row 1 (els x.Scripts),.row 23 (els x.Peers),.row 1 (els x.Wires),.row 1 (els x.Paces),.row 1 (els x.Acks),.row 6 (els x.Watchers),.row 10 (els x.Lines),.row 2 (els x.Alarms),.box (mC x 12)]⟩:St)) (Xv [0,1,2,3,4,5,6,7,8,9,10,11,12,13,14,15,16,17,18,19,20,21] (by decide) J ((by kernel_rfl)) (.c J (.c J (.c J (.c J (.c J (.c J (.c J (.nil))))))))) ?_;refine Wz [1,25] ?_;refine M1 (Za J J (htw) J J J) J J ?_;refine AL.weak (st':=(⟨129,[(1,I i),(2,I j),(4,.o (.c (.ptr 0 0))),(7,.o (.c (.ptr 1 0))),(10,.o (.c (.ptr 11 0))),(11,B b),(12,.o (.c (.ptr 21 0))),(44,.o (.ag (wX w (.ref 22))))],[.box ((Enc.e x).map (V1.rd [])),.box ((Enc.e w).map (V1.rd [])),.row 1 (els y.Level.Rows),.row 1 (els y.Scripts),.row 23 (els y.Peers),.row 1 (els y.Wires),.row 1 (els y.Paces),.row 1 (els y.Acks),.row 6 (els y.Watchers),.row 10 (els y.Lines),.row 2 (els y.Alarms),.box (mC y 2),.row 1 (els x.Level.Rows),.row 1 (els x.Scripts),.row 23 (els x.Peers),.row 1 (els x.Wires),.row 1 (els x.Paces),.row 1 (els x.Acks),.row 6 (els x.Watchers),.row 10 (els x.Lines),.row 2 (els x.Alarms),.box (mC x 12),.row 2 (els w.Flights)]⟩:St)) (Xv [0,1,2,3,4,5,6,7,8,9,10,11,12,13,14,15,16,17,18,19,20,21,22] (by decide) J ((by kernel_rfl)) (.c J (.c J (.c J (.c J (.c J (.c J (.c J (.c J (.nil)))))))))) ?_;refine Wz [56,136] ?_;refine AL.weak (st':=(⟨129,[(1,I i),(2,I j),(4,.o (.c (.ptr 0 0))),(7,.o (.c (.ptr 1 0))),(10,.o (.c (.ptr 11 0))),(11,B b),(12,.o (.c (.ptr 21 0))),(13,.o (.c (.ptr 23 0)))],[.box ((Enc.e x).map (V1.rd [])),.box ((Enc.e w).map (V1.rd [])),.row 1 (els y.Level.Rows),.row 1 (els y.Scripts),.row 23 (els y.Peers),.row 1 (els y.Wires),.row 1 (els y.Paces),.row 1 (els y.Acks),.row 6 (els y.Watchers),.row 10 (els y.Lines),.row 2 (els y.Alarms),.box (mC y 2),.row 1 (els x.Level.Rows),.row 1 (els x.Scripts),.row 23 (els x.Peers),.row 1 (els x.Wires),.row 1 (els x.Paces),.row 1 (els x.Acks),.row 6 (els x.Watchers),.row 10 (els x.Lines),.row 2 (els x.Alarms),.box (mC x 12),.row 2 (els w.Flights),.box (wX w (.ref 22))]⟩:St)) (Xv [0,1,2,3,4,5,6,7,8,9,10,11,12,13,14,15,16,17,18,19,20,21,22,23] (by decide) J ((by kernel_rfl)) (.c J (.c J (.c J (.c J (.c J (.c J (.c J (.c J (.nil)))))))))) ?_;refine Wz [1,25,41,71] ?_;refine M1 (Za J J (hip) J J J) J J ?_;refine AL.weak (st':=(⟨129,[(1,I i),(2,I j),(4,.o (.c (.ptr 0 0))),(7,.o (.c (.ptr 1 0))),(10,.o (.c (.ptr 11 0))),(11,B b),(12,.o (.c (.ptr 21 0))),(13,.o (.c (.ptr 23 0))),(50,.tu [.ag (mC y 24),.c (bv b)])],[.box ((Enc.e x).map (V1.rd [])),.box ((Enc.e w).map (V1.rd [])),.row 1 (els y.Level.Rows),.row 1 (els y.Scripts),.row 23 (els y.Peers),.row 1 (els y.Wires),.row 1 (els y.Paces),.row 1 (els y.Acks),.row 6 (els y.Watchers),.row 10 (els y.Lines),.row 2 (els y.Alarms),.box (mC y 2),.row 1 (els x.Level.Rows),.row 1 (els x.Scripts),.row 23 (els x.Peers),.row 1 (els x.Wires),.row 1 (els x.Paces),.row 1 (els x.Acks),.row 6 (els x.Watchers),.row 10 (els x.Lines),.row 2 (els x.Alarms),.box (mC x 12),.row 2 (els w.Flights),.box (wX w (.ref 22)),.row 1 (els y.Level.Rows),.row 1 (els y.Scripts),.row 23 (els y.Peers),.row 1 (els y.Wires),.row 1 (els y.Paces),.row 1 (els y.Acks),.row 6 (els y.Watchers),.row 10 (els y.Lines),.row 2 (els y.Alarms)]⟩:St)) (Xv [0,1,2,3,4,5,6,7,8,9,10,11,12,13,14,15,16,17,18,19,20,21,22,23,24,25,26,27,28,29,30,31,32] (by decide) J ((by kernel_rfl)) (.c J (.c J (.c J (.c J (.c J (.c J (.c J (.c J (.c J (.nil))))))))))) ?_;refine zx (Q5 J J J) J (ze J (ze J ?_));refine Wz [56,136,7,156,71,71] ?_;refine AL.weak (st':=(⟨129,[(1,I i),(2,I j),(4,.o (.c (.ptr 0 0))),(7,.o (.c (.ptr 1 0))),(10,.o (.c (.ptr 11 0))),(11,B b),(12,.o (.c (.ptr 21 0))),(13,.o (.c (.ptr 23 0))),(14,.o (.c (.ptr 33 0))),(15,B b),(53,.o (.ag (mC y 24))),(54,.o (.ag (mC y 2)))],[.box ((Enc.e x).map (V1.rd [])),.box ((Enc.e w).map (V1.rd [])),.row 1 (els y.Level.Rows),.row 1 (els y.Scripts),.row 23 (els y.Peers),.row 1 (els y.Wires),.row 1 (els y.Paces),.row 1 (els y.Acks),.row 6 (els y.Watchers),.row 10 (els y.Lines),.row 2 (els y.Alarms),.box (mC y 2),.row 1 (els x.Level.Rows),.row 1 (els x.Scripts),.row 23 (els x.Peers),.row 1 (els x.Wires),.row 1 (els x.Paces),.row 1 (els x.Acks),.row 6 (els x.Watchers),.row 10 (els x.Lines),.row 2 (els x.Alarms),.box (mC x 12),.row 2 (els w.Flights),.box (wX w (.ref 22)),.row 1 (els y.Level.Rows),.row 1 (els y.Scripts),.row 23 (els y.Peers),.row 1 (els y.Wires),.row 1 (els y.Paces),.row 1 (els y.Acks),.row 6 (els y.Watchers),.row 10 (els y.Lines),.row 2 (els y.Alarms),.box (mC y 24)]⟩:St)) (Xv [0,1,2,3,4,5,6,7,8,9,10,11,12,13,14,15,16,17,18,19,20,21,22,23,24,25,26,27,28,29,30,31,32,33] (by decide) J ((by kernel_rfl)) (.c J (.c J (.c J (.c J (.c J (.c J (.c J (.c J (.c J (.c J (.c J (.c J (.nil)))))))))))))) ?_;refine zx (Qj J J (hq1) J) J ?_;refine Wz [10,55,62,260,37,53,17,17] ?_
 refine AWP.pre (st':=(⟨129,[(1,I i),(2,I j),(4,.o (.c (.ptr 0 0))),(7,.o (.c (.ptr 1 0))),(10,.o (.c (.ptr 11 0))),(11,B b),(12,.o (.c (.ptr 21 0))),(13,.o (.c (.ptr 23 0))),(14,.o (.c (.ptr 33 0))),(15,B b)],[.box ((Enc.e x).map (V1.rd [])),.box ((Enc.e w).map (V1.rd [])),.row 1 (els y.Level.Rows),.row 1 (els y.Scripts),.row 23 (els y.Peers),.row 1 (els y.Wires),.row 1 (els y.Paces),.row 1 (els y.Acks),.row 6 (els y.Watchers),.row 10 (els y.Lines),.row 2 (els y.Alarms),.box (mC y 2),.row 1 (els x.Level.Rows),.row 1 (els x.Scripts),.row 23 (els x.Peers),.row 1 (els x.Wires),.row 1 (els x.Paces),.row 1 (els x.Acks),.row 6 (els x.Watchers),.row 10 (els x.Lines),.row 2 (els x.Alarms),.box (mC x 12),.row 2 (els w.Flights),.box (wX w (.ref 22)),.row 1 (els y.Level.Rows),.row 1 (els y.Scripts),.row 23 (els y.Peers),.row 1 (els y.Wires),.row 1 (els y.Paces),.row 1 (els y.Acks),.row 6 (els y.Watchers),.row 10 (els y.Lines),.row 2 (els y.Alarms),.box (mC y 24)]⟩:St)) ?_ (Xv [0,1,2,3,4,5,6,7,8,9,10,11,12,13,14,15,16,17,18,19,20,21,22,23,24,25,26,27,28,29,30,31,32,33] (by decide) J ((by kernel_rfl)) (.c J (.c J (.c J (.c J (.c J (.c J (.c J (.c J (.c J (.c J (.nil))))))))))))
 refine Xd u8_49 [[],[],[63],[62,63,64],[62,63,64,65]] [[63,64],[62],[62],[],[]] J ?_;refine Wz [153,153] ?_;refine DR.s (Za J J (ht) J J J) J J ?_;refine DR.s (Qj J J (hq) J) J J ?_;refine Wz [50,11,1] ?_
 refine AWP.pre (st':=(⟨129,[(1,I i),(2,I j),(4,.o (.c (.ptr 0 0))),(7,.o (.c (.ptr 1 0))),(10,.o (.c (.ptr 11 0))),(11,B b),(12,.o (.c (.ptr 21 0))),(13,.o (.c (.ptr 23 0))),(14,.o (.c (.ptr 33 0))),(15,B b),(66,B false)],[.box ((Enc.e x).map (V1.rd [])),.box ((Enc.e w).map (V1.rd [])),.row 1 (els y.Level.Rows),.row 1 (els y.Scripts),.row 23 (els y.Peers),.row 1 (els y.Wires),.row 1 (els y.Paces),.row 1 (els y.Acks),.row 6 (els y.Watchers),.row 10 (els y.Lines),.row 2 (els y.Alarms),.box (mC y 2),.row 1 (els x.Level.Rows),.row 1 (els x.Scripts),.row 23 (els x.Peers),.row 1 (els x.Wires),.row 1 (els x.Paces),.row 1 (els x.Acks),.row 6 (els x.Watchers),.row 10 (els x.Lines),.row 2 (els x.Alarms),.box (mC x 12),.row 2 (els w.Flights),.box (wX w (.ref 22)),.row 1 (els y.Level.Rows),.row 1 (els y.Scripts),.row 23 (els y.Peers),.row 1 (els y.Wires),.row 1 (els y.Paces),.row 1 (els y.Acks),.row 6 (els y.Watchers),.row 10 (els y.Lines),.row 2 (els y.Alarms),.box (mC y 24)]⟩:St)) ?_ (Xv [0,1,2,3,4,5,6,7,8,9,10,11,12,13,14,15,16,17,18,19,20,21,22,23,24,25,26,27,28,29,30,31,32,33] (by decide) J ((by kernel_rfl)) (.c J (.c J (.c J (.c J (.c J (.c J (.c J (.c J (.c J (.c J (.c J (.nil)))))))))))))
 refine Wz [193,211,17] ?_
 refine AWP.pre (st':=(⟨129,[(1,I i),(2,I j),(4,.o (.c (.ptr 0 0))),(7,.o (.c (.ptr 1 0))),(10,.o (.c (.ptr 11 0))),(11,B b),(12,.o (.c (.ptr 21 0))),(13,.o (.c (.ptr 23 0))),(14,.o (.c (.ptr 33 0))),(15,B b)],[.box ((Enc.e x).map (V1.rd [])),.box ((Enc.e w).map (V1.rd [])),.row 1 (els y.Level.Rows),.row 1 (els y.Scripts),.row 23 (els y.Peers),.row 1 (els y.Wires),.row 1 (els y.Paces),.row 1 (els y.Acks),.row 6 (els y.Watchers),.row 10 (els y.Lines),.row 2 (els y.Alarms),.box (mC y 2),.row 1 (els x.Level.Rows),.row 1 (els x.Scripts),.row 23 (els x.Peers),.row 1 (els x.Wires),.row 1 (els x.Paces),.row 1 (els x.Acks),.row 6 (els x.Watchers),.row 10 (els x.Lines),.row 2 (els x.Alarms),.box (mC x 12),.row 2 (els w.Flights),.box (wX w (.ref 22)),.row 1 (els y.Level.Rows),.row 1 (els y.Scripts),.row 23 (els y.Peers),.row 1 (els y.Wires),.row 1 (els y.Paces),.row 1 (els y.Acks),.row 6 (els y.Watchers),.row 10 (els y.Lines),.row 2 (els y.Alarms),.box (mC y 24)]⟩:St)) ?_ (Xv [0,1,2,3,4,5,6,7,8,9,10,11,12,13,14,15,16,17,18,19,20,21,22,23,24,25,26,27,28,29,30,31,32,33] (by decide) J ((by kernel_rfl)) (.c J (.c J (.c J (.c J (.c J (.c J (.c J (.c J (.c J (.c J (.nil))))))))))))
 refine Xd u8_49 [[],[],[68],[67,68,69],[67,68,69,70]] [[68,69],[67],[67],[],[]] J ?_;refine Wz [153,153] ?_;refine DR.s (Za J J (htw) J J J) J J ?_;refine DR.s (Qj J J (hqw) J) J J ?_;refine Wz [50,11,1] ?_
 refine AWP.pre (st':=(⟨129,[(1,I i),(2,I j),(4,.o (.c (.ptr 0 0))),(7,.o (.c (.ptr 1 0))),(10,.o (.c (.ptr 11 0))),(11,B b),(12,.o (.c (.ptr 21 0))),(13,.o (.c (.ptr 23 0))),(14,.o (.c (.ptr 33 0))),(15,B b),(71,B false)],[.box ((Enc.e x).map (V1.rd [])),.box ((Enc.e w).map (V1.rd [])),.row 1 (els y.Level.Rows),.row 1 (els y.Scripts),.row 23 (els y.Peers),.row 1 (els y.Wires),.row 1 (els y.Paces),.row 1 (els y.Acks),.row 6 (els y.Watchers),.row 10 (els y.Lines),.row 2 (els y.Alarms),.box (mC y 2),.row 1 (els x.Level.Rows),.row 1 (els x.Scripts),.row 23 (els x.Peers),.row 1 (els x.Wires),.row 1 (els x.Paces),.row 1 (els x.Acks),.row 6 (els x.Watchers),.row 10 (els x.Lines),.row 2 (els x.Alarms),.box (mC x 12),.row 2 (els w.Flights),.box (wX w (.ref 22)),.row 1 (els y.Level.Rows),.row 1 (els y.Scripts),.row 23 (els y.Peers),.row 1 (els y.Wires),.row 1 (els y.Paces),.row 1 (els y.Acks),.row 6 (els y.Watchers),.row 10 (els y.Lines),.row 2 (els y.Alarms),.box (mC y 24)]⟩:St)) ?_ (Xv [0,1,2,3,4,5,6,7,8,9,10,11,12,13,14,15,16,17,18,19,20,21,22,23,24,25,26,27,28,29,30,31,32,33] (by decide) J ((by kernel_rfl)) (.c J (.c J (.c J (.c J (.c J (.c J (.c J (.c J (.c J (.c J (.c J (.nil)))))))))))))
 refine Wz [193,13,28,25,0] ?_;refine Xa (lo := [_,_,_,_,_,_,_,_,_]) (gs := [(0,.ag (mC x 0))]) (lo' := [_,_,_,_,_,_,_,_,_]) (new := []) [12,13,14,15,16,17,18,19,20] [(0,0,.ref 0),(0,3,.ref 1),(0,4,.ref 2),(0,5,.ref 3),(0,6,.ref 4),(0,7,.ref 5),(0,9,.ref 6),(0,10,.ref 7),(0,11,.ref 8)] (hm_x) J J J J J J J J J J J J J J J J J ?_;refine AL.weak (st':=(⟨129,[(1,I i),(2,I j),(4,.o (.c (.ptr 0 0))),(7,.o (.c (.ptr 1 0))),(10,.o (.c (.ptr 11 0))),(11,B b),(13,.o (.c (.ptr 13 0))),(14,.o (.c (.ptr 23 0))),(15,B b),(74,I (n9M x 1))],[.box ((Enc.e x).map (V1.rd [])),.box ((Enc.e w).map (V1.rd [])),.row 1 (els y.Level.Rows),.row 1 (els y.Scripts),.row 23 (els y.Peers),.row 1 (els y.Wires),.row 1 (els y.Paces),.row 1 (els y.Acks),.row 6 (els y.Watchers),.row 10 (els y.Lines),.row 2 (els y.Alarms),.box (mC y 2),.row 2 (els w.Flights),.box (wX w (.ref 12)),.row 1 (els y.Level.Rows),.row 1 (els y.Scripts),.row 23 (els y.Peers),.row 1 (els y.Wires),.row 1 (els y.Paces),.row 1 (els y.Acks),.row 6 (els y.Watchers),.row 10 (els y.Lines),.row 2 (els y.Alarms),.box (mC y 14)]⟩:St)) (Xv [0,1,2,3,4,5,6,7,8,9,10,11,22,23,24,25,26,27,28,29,30,31,32,33] (by decide) J ((by kernel_rfl)) (.c J (.c J (.c J (.c J (.c J (.c J (.c J (.c J (.c J (.c J (.nil)))))))))))) ?_;refine Wz [7,25,0] ?_;refine Xa (lo := [_]) (gs := [(0,.ag (wX w (.ref 0)))]) (lo' := [_]) (new := []) [12] [(0,7,.ref 0)] (hm_w) J J J J J J J J J J J J J J J J J ?_;refine AL.weak (st':=(⟨129,[(1,I i),(2,I j),(4,.o (.c (.ptr 0 0))),(7,.o (.c (.ptr 1 0))),(10,.o (.c (.ptr 11 0))),(11,B b),(14,.o (.c (.ptr 21 0))),(15,B b),(77,I (nkEs (els w.Flights) (n9M x 1)))],[.box ((Enc.e x).map (V1.rd [])),.box ((Enc.e w).map (V1.rd [])),.row 1 (els y.Level.Rows),.row 1 (els y.Scripts),.row 23 (els y.Peers),.row 1 (els y.Wires),.row 1 (els y.Paces),.row 1 (els y.Acks),.row 6 (els y.Watchers),.row 10 (els y.Lines),.row 2 (els y.Alarms),.box (mC y 2),.row 1 (els y.Level.Rows),.row 1 (els y.Scripts),.row 23 (els y.Peers),.row 1 (els y.Wires),.row 1 (els y.Paces),.row 1 (els y.Acks),.row 6 (els y.Watchers),.row 10 (els y.Lines),.row 2 (els y.Alarms),.box (mC y 12)]⟩:St)) (Xv [0,1,2,3,4,5,6,7,8,9,10,11,14,15,16,17,18,19,20,21,22,23] (by decide) J ((by kernel_rfl)) (.c J (.c J (.c J (.c J (.c J (.c J (.c J (.c J (.c J (.nil))))))))))) ?_;refine Wz [106,62,71,2,71,2] ?_;refine zx (Qj J J (hq1) J) J ?_;refine Wz [2,10,37,55,62,260,37,53,28,25,0] ?_;refine Xa (lo := [_,_,_,_,_,_,_,_,_]) (gs := [(0,.ag (mC y 0))]) (lo' := [_,_,_,_,_,_,_,_,_]) (new := []) [12,13,14,15,16,17,18,19,20] [(0,0,.ref 0),(0,3,.ref 1),(0,4,.ref 2),(0,5,.ref 3),(0,6,.ref 4),(0,7,.ref 5),(0,9,.ref 6),(0,10,.ref 7),(0,11,.ref 8)] (hm_y) J J J J J J J J J J J J J J J J J ?_;refine AL.weak (st':=(⟨129,[(1,I i),(2,I j),(4,.o (.c (.ptr 0 0))),(7,.o (.c (.ptr 1 0))),(10,.o (.c (.ptr 11 0))),(11,B b),(14,.o (.c (.ptr 21 0))),(15,B b),(93,I (n9M y 1))],[.box ((Enc.e x).map (V1.rd [])),.box ((Enc.e w).map (V1.rd [])),.row 1 (els y.Level.Rows),.row 1 (els y.Scripts),.row 23 (els y.Peers),.row 1 (els y.Wires),.row 1 (els y.Paces),.row 1 (els y.Acks),.row 6 (els y.Watchers),.row 10 (els y.Lines),.row 2 (els y.Alarms),.box (mC y 2),.row 1 (mkEs (els y.Level.Rows) 1),.row 1 (mkEs (els y.Scripts) (n1M y 1)),.row 23 (mkEs (els y.Peers) (n2M y 1)),.row 1 (mkEs (els y.Wires) (n3M y 1)),.row 1 (mkEs (els y.Paces) (n4M y 1)),.row 1 (mkEs (els y.Acks) (n5M y 1)),.row 6 (mkEs (els y.Watchers) (n6M y 1)),.row 10 (mkEs (els y.Lines) (n7M y 1)),.row 2 (mkEs (els y.Alarms) (n8M y 1)),.box (mC y 12)]⟩:St)) (Xv [0,1,2,3,4,5,6,7,8,9,10,11,12,13,14,15,16,17,18,19,20,21] (by decide) J ((by kernel_rfl)) (.c J (.c J (.c J (.c J (.c J (.c J (.c J (.c J (.c J (.nil))))))))))) ?_;refine Wz [7,28,25,0] ?_;refine zx (Qj J J (hh) J) J ?_;refine Wz [48,33,238,17] ?_
 refine AWP.pre (st':=(⟨129,[(1,I i),(2,I j),(4,.o (.c (.ptr 0 0))),(7,.o (.c (.ptr 1 0))),(10,.o (.c (.ptr 11 0))),(11,B b),(14,.o (.c (.ptr 21 0))),(15,B b),(17,I (n9M y 1))],[.box ((Enc.e x).map (V1.rd [])),.box ((Enc.e w).map (V1.rd [])),.row 1 (els y.Level.Rows),.row 1 (els y.Scripts),.row 23 (els y.Peers),.row 1 (els y.Wires),.row 1 (els y.Paces),.row 1 (els y.Acks),.row 6 (els y.Watchers),.row 10 (els y.Lines),.row 2 (els y.Alarms),.box (mC y 2),.row 1 (mkEs (els y.Level.Rows) 1),.row 1 (mkEs (els y.Scripts) (n1M y 1)),.row 23 (mkEs (els y.Peers) (n2M y 1)),.row 1 (mkEs (els y.Wires) (n3M y 1)),.row 1 (mkEs (els y.Paces) (n4M y 1)),.row 1 (mkEs (els y.Acks) (n5M y 1)),.row 6 (mkEs (els y.Watchers) (n6M y 1)),.row 10 (mkEs (els y.Lines) (n7M y 1)),.row 2 (mkEs (els y.Alarms) (n8M y 1)),.box (mC y 12)]⟩:St)) ?_ (Xv [0,1,2,3,4,5,6,7,8,9,10,11,12,13,14,15,16,17,18,19,20,21] (by decide) J ((by kernel_rfl)) (.c J (.c J (.c J (.c J (.c J (.c J (.c J (.c J (.c J (.nil)))))))))))
 refine Xd u8_48 [[],[103],[],[],[],[103,104,107],[103,104,105,106,107,108],[103,104,105,106,107,108,109],[102,103,104,105,106,107,108,109],[102,103,104,105,106,107,108,109],[],[19,102,103,104,105,106,107,108,109,110],[19,102,103,104,105,106,107,108,109,110,111]] [[19,105,106,107],[19,105,106,107],[19,103,104,106,107,108],[19,103,104,105,107,108],[19,103,104,105,106],[19,105,106],[19],[19],[19,111],[19,110],[102,103,104,105,106,107,108,109,110,111],[111],[],[9]] J (DR.s (Qu J J J J J J) J J ?_);refine DR.s (Za J J (ht) J J J) J J ?_;refine Wz [15,15,153] ?_;refine DR.s (Za J J (htw) J J J) J J ?_;refine DR.s (Za J J (hip) J J J) J J ?_;refine DR.s (Q5 J J J) J J ?_;refine Wz [237,237,247,11] ?_;refine AL.weak (st':=(⟨129,[(1,I i),(2,I j),(4,.o (.c (.ptr 0 0))),(7,.o (.c (.ptr 1 0))),(10,.o (.c (.ptr 11 0))),(11,B b),(14,.o (.c (.ptr 21 0))),(15,B b),(17,I (n9M y 1)),(19,.o (.c (.ptr 31 0))),(110,.o (.ag (mC y 22))),(111,B b)],[.box ((Enc.e x).map (V1.rd [])),.box ((Enc.e w).map (V1.rd [])),.row 1 (els y.Level.Rows),.row 1 (els y.Scripts),.row 23 (els y.Peers),.row 1 (els y.Wires),.row 1 (els y.Paces),.row 1 (els y.Acks),.row 6 (els y.Watchers),.row 10 (els y.Lines),.row 2 (els y.Alarms),.box (mC y 2),.row 1 (mkEs (els y.Level.Rows) 1),.row 1 (mkEs (els y.Scripts) (n1M y 1)),.row 23 (mkEs (els y.Peers) (n2M y 1)),.row 1 (mkEs (els y.Wires) (n3M y 1)),.row 1 (mkEs (els y.Paces) (n4M y 1)),.row 1 (mkEs (els y.Acks) (n5M y 1)),.row 6 (mkEs (els y.Watchers) (n6M y 1)),.row 10 (mkEs (els y.Lines) (n7M y 1)),.row 2 (mkEs (els y.Alarms) (n8M y 1)),.box (mC y 12),.row 1 (els y.Level.Rows),.row 1 (els y.Scripts),.row 23 (els y.Peers),.row 1 (els y.Wires),.row 1 (els y.Paces),.row 1 (els y.Acks),.row 6 (els y.Watchers),.row 10 (els y.Lines),.row 2 (els y.Alarms),.box zM]⟩:St)) (Xv [0,1,2,3,4,5,6,7,8,9,10,11,12,13,14,15,16,17,18,19,20,21,32,33,34,35,36,37,38,39,40,41] (by decide) J ((by kernel_rfl)) (.c J (.c J (.c J (.c J (.c J (.c J (.c J (.c J (.c J (.c J (.c J (.c J (.nil)))))))))))))) ?_;refine Qy J J J J J J J J J ?_;refine AL.weak (st':=(⟨129,[(1,I i),(2,I j),(4,.o (.c (.ptr 0 0))),(7,.o (.c (.ptr 1 0))),(10,.o (.c (.ptr 11 0))),(11,B b),(14,.o (.c (.ptr 21 0))),(15,B b),(17,I (n9M y 1)),(19,.o (.c (.ptr 31 0))),(111,B b)],[.box ((Enc.e x).map (V1.rd [])),.box ((Enc.e w).map (V1.rd [])),.row 1 (els y.Level.Rows),.row 1 (els y.Scripts),.row 23 (els y.Peers),.row 1 (els y.Wires),.row 1 (els y.Paces),.row 1 (els y.Acks),.row 6 (els y.Watchers),.row 10 (els y.Lines),.row 2 (els y.Alarms),.box (mC y 2),.row 1 (mkEs (els y.Level.Rows) 1),.row 1 (mkEs (els y.Scripts) (n1M y 1)),.row 23 (mkEs (els y.Peers) (n2M y 1)),.row 1 (mkEs (els y.Wires) (n3M y 1)),.row 1 (mkEs (els y.Paces) (n4M y 1)),.row 1 (mkEs (els y.Acks) (n5M y 1)),.row 6 (mkEs (els y.Watchers) (n6M y 1)),.row 10 (mkEs (els y.Lines) (n7M y 1)),.row 2 (mkEs (els y.Alarms) (n8M y 1)),.box (mC y 12),.row 1 (els y.Level.Rows),.row 1 (els y.Scripts),.row 23 (els y.Peers),.row 1 (els y.Wires),.row 1 (els y.Paces),.row 1 (els y.Acks),.row 6 (els y.Watchers),.row 10 (els y.Lines),.row 2 (els y.Alarms),.box (mC y 22)]⟩:St)) (Xv [0,1,2,3,4,5,6,7,8,9,10,11,12,13,14,15,16,17,18,19,20,21,22,23,24,25,26,27,28,29,30,31] (by decide) J ((by kernel_rfl)) (.c J (.c J (.c J (.c J (.c J (.c J (.c J (.c J (.c J (.c J (.c J (.nil))))))))))))) ?_;refine Wz [7,156,71,71] ?_;refine zx (Qj J J (hq1) J) J ?_;refine Wz [10,55,62,260,37,53,28,25,0] ?_;refine zx (Qj J J (hh) J) J ?_;refine Wz [48,33,238,47] ?_
 exact Xi J J (Xt [] (by decide) J J J)
end
section
open Go.ChangeShapes Go.WideShapes Go.ChangeAt Go.RowKit

def RL (w:World) (ts:List T) (cs:List Value):Prop:=∀ (j:Nat) (t:T) (u:Value),ts[j]? = some t→cs[j]? = some u→RO w (fun _=>True) t u
theorem RL.nil {w:World} {cs:List Value}:RL w [] cs:=fun _ _ _ h=>by simp at h
theorem RL.app {w:World} {ts us:List T} {cs:List Value} {o n:Nat} (h1:RL w ts ((cs.drop o).take n)) (hn:ts.length=n) (h2:RL w us (cs.drop (o+n))):RL w (ts++us) (cs.drop o):=fun j t u h3 h4=>by
 rcases Gqp j ts.length with hj | hj
 ·rw[Gqu hj] at h3
  exact h1 j t u h3 (by rw[Gq9,if_pos (by omega)]; exact h4)
 ·rw[Gqr hj] at h3
  refine h2 (j-ts.length) t u h3 ?_
  rw[List.getElem?_drop] at h4 ⊢
  rw[←h4]
  congr 1
  omega
theorem Zv {P:Program} {t tt:TypeId} {fs:Array Field} {f:Field} {α:Type} [Enc α] {H:Type} {enc:TypeId×Value→H} {w:World} {spare:Nat→Bool} {held:Bool} {fuel:Nat} {cs:List Value} {x:DataW H×List MemPlace}
  (ht:P.underlying t=some (.struct fs)) (h:DataW.trod enc P w 0 spare held fuel t cs=some x) (i:Nat) (hf:fs[i]? = some f) (hty:f.type=tt) [hα:RdOf P tt α] {o:Nat} (ho:f.offset=o) :
  ∃ y:α,Enc.gd y∧RL w (Enc.e y) ((cs.drop o).take (Enc.k α)):=by
 obtain⟨xs,n,_,_,hl,hlen,hfs⟩:=DataW.trod_struct ht h
 have h1:=hfs i f hf
 have hi:i<fs.size:=by
  rcases Gqp i fs.size with h2 | h2
  ·exact h2
  ·rw[Array.getElem?_eq_none h2] at hf; cases hf
 rw[Gqg (by omega),hty,ho,hα.size] at h1
 obtain⟨y,hg,hr⟩:=hα.of h1
 exact⟨y,hg,hr.2⟩
theorem Zw {P:Program} {t:TypeId} {fs:Array Field} {H:Type} {enc:TypeId×Value→H} {w:World} {spare:Nat→Bool} {held:Bool} {fuel:Nat} {cs:List Value} {x:DataW H×List MemPlace}
  (ht:P.underlying t=some (.struct fs)) (h:DataW.trod enc P w 0 spare held fuel t cs=some x):cs.length=P.cellsOf t:=by
 obtain⟨xs,n,_,_,hl,_⟩:=DataW.trod_struct ht h
 exact hl

instance:RdOf Tryz.prog 3 Int:=rdOf_int Tryz.underlying3 (by kernel_rfl)
instance:RdOf Tryz.prog 9 ByteArray:=rdOf_string Tryz.underlying9 (by kernel_rfl)
instance:RdOf Tryz.prog 64 (List Int):=Zu Tryz.underlying64 (by kernel_rfl)
instance:RdOf Tryz.prog 22 (List ByteArray):=Zu Tryz.underlying22 (by kernel_rfl)
instance:RdOf Tryz.prog 25 (List (List Int)):=Zu Tryz.underlying25 (by kernel_rfl)
instance:RdOf Tryz.prog 24 TLevel where
 size:=by kernel_rfl
 of {H enc w spare held fuel cs x} h:=by
  obtain⟨y0,g0,r0⟩:=Zv (α:=(List ByteArray)) (tt:=22) Tryz.underlying24 h 0 rfl rfl rfl
  refine⟨⟨y0⟩,g0,?_,?_⟩
  ·rw[Zw Tryz.underlying24 h]; kernel_rfl
  ·exact (RL.app (o:=0) (n:=1) r0 rfl (RL.nil):RL w _ (cs.drop 0))
end
section
open Go.ChangeShapes Go.WideShapes Go.ChangeAt Go.RowKit

instance:RdOf Tryz.prog 261 TBody where
 size:=by kernel_rfl
 of {H enc w spare held fuel cs x} h:=by
  obtain⟨y0,g0,r0⟩:=Zv (α:=Int) (tt:=3) Tryz.underlying261 h 0 rfl rfl rfl
  obtain⟨y1,g1,r1⟩:=Zv (α:=Int) (tt:=3) Tryz.underlying261 h 1 rfl rfl rfl
  obtain⟨y2,g2,r2⟩:=Zv (α:=Int) (tt:=3) Tryz.underlying261 h 2 rfl rfl rfl
  obtain⟨y3,g3,r3⟩:=Zv (α:=Int) (tt:=3) Tryz.underlying261 h 3 rfl rfl rfl
  obtain⟨y4,g4,r4⟩:=Zv (α:=Int) (tt:=3) Tryz.underlying261 h 4 rfl rfl rfl
  obtain⟨y5,g5,r5⟩:=Zv (α:=Int) (tt:=3) Tryz.underlying261 h 5 rfl rfl rfl
  obtain⟨y6,g6,r6⟩:=Zv (α:=Int) (tt:=3) Tryz.underlying261 h 6 rfl rfl rfl
  obtain⟨y7,g7,r7⟩:=Zv (α:=Int) (tt:=3) Tryz.underlying261 h 7 rfl rfl rfl
  obtain⟨y8,g8,r8⟩:=Zv (α:=Int) (tt:=3) Tryz.underlying261 h 8 rfl rfl rfl
  refine⟨⟨y0,y1,y2,y3,y4,y5,y6,y7,y8⟩,⟨g0,g1,g2,g3,g4,g5,g6,g7,g8⟩,?_,?_⟩
  ·rw[Zw Tryz.underlying261 h]; kernel_rfl
  ·exact (RL.app (o:=0) (n:=1) r0 rfl (RL.app (o:=1) (n:=1) r1 rfl (RL.app (o:=2) (n:=1) r2 rfl (RL.app (o:=3) (n:=1) r3 rfl (RL.app (o:=4) (n:=1) r4 rfl (RL.app (o:=5) (n:=1) r5 rfl (RL.app (o:=6) (n:=1) r6 rfl (RL.app (o:=7) (n:=1) r7 rfl (RL.app (o:=8) (n:=1) r8 rfl (RL.nil))))))))):RL w _ (cs.drop 0))
instance:RdOf Tryz.prog 65 (List TBody):=Zu Tryz.underlying65 (by kernel_rfl)
instance:RdOf Tryz.prog 67 TWorld where
 size:=by kernel_rfl
 of {H enc w spare held fuel cs x} h:=by
  obtain⟨y0,g0,r0⟩:=Zv (α:=TLevel) (tt:=24) Tryz.underlying67 h 0 rfl rfl rfl
  obtain⟨y1,g1,r1⟩:=Zv (α:=Int) (tt:=3) Tryz.underlying67 h 1 rfl rfl rfl
  obtain⟨y2,g2,r2⟩:=Zv (α:=Int) (tt:=3) Tryz.underlying67 h 2 rfl rfl rfl
  obtain⟨y3,g3,r3⟩:=Zv (α:=(List Int)) (tt:=64) Tryz.underlying67 h 3 rfl rfl rfl
  obtain⟨y4,g4,r4⟩:=Zv (α:=(List TBody)) (tt:=65) Tryz.underlying67 h 4 rfl rfl rfl
  refine⟨⟨y0,y1,y2,y3,y4⟩,⟨g0,g1,g2,g3,g4⟩,?_,?_⟩
  ·rw[Zw Tryz.underlying67 h]; kernel_rfl
  ·exact (RL.app (o:=0) (n:=1) r0 rfl (RL.app (o:=1) (n:=1) r1 rfl (RL.app (o:=2) (n:=1) r2 rfl (RL.app (o:=3) (n:=1) r3 rfl (RL.app (o:=4) (n:=1) r4 rfl (RL.nil))))):RL w _ (cs.drop 0))
end
section
open Go.ChangeShapes Go.WideShapes Go.ChangeAt Go.RowKit

instance:RdOf Tryz.prog 208 TTrack where
 size:=by kernel_rfl
 of {H enc w spare held fuel cs x} h:=by
  obtain⟨y0,g0,r0⟩:=Zv (α:=(List Int)) (tt:=64) Tryz.underlying208 h 0 rfl rfl rfl
  refine⟨⟨y0⟩,g0,?_,?_⟩
  ·rw[Zw Tryz.underlying208 h]; kernel_rfl
  ·exact (RL.app (o:=0) (n:=1) r0 rfl (RL.nil):RL w _ (cs.drop 0))
instance:RdOf Tryz.prog 63 (List TTrack):=Zu Tryz.underlying63 (by kernel_rfl)
instance:RdOf Tryz.prog 212 TSave where
 size:=by kernel_rfl
 of {H enc w spare held fuel cs x} h:=by
  obtain⟨y0,g0,r0⟩:=Zv (α:=Int) (tt:=3) Tryz.underlying212 h 0 rfl rfl rfl
  obtain⟨y1,g1,r1⟩:=Zv (α:=ByteArray) (tt:=9) Tryz.underlying212 h 1 rfl rfl rfl
  refine⟨⟨y0,y1⟩,⟨g0,g1⟩,?_,?_⟩
  ·rw[Zw Tryz.underlying212 h]; kernel_rfl
  ·exact (RL.app (o:=0) (n:=1) r0 rfl (RL.app (o:=1) (n:=1) r1 rfl (RL.nil)):RL w _ (cs.drop 0))
instance:RdOf Tryz.prog 68 (List TSave):=Zu Tryz.underlying68 (by kernel_rfl)
instance:RdOf Tryz.prog 70 TFault where
 size:=by kernel_rfl
 of {H enc w spare held fuel cs x} h:=by
  obtain⟨y0,g0,r0⟩:=Zv (α:=Int) (tt:=3) Tryz.underlying70 h 0 rfl rfl rfl
  obtain⟨y1,g1,r1⟩:=Zv (α:=Int) (tt:=3) Tryz.underlying70 h 1 rfl rfl rfl
  obtain⟨y2,g2,r2⟩:=Zv (α:=Int) (tt:=3) Tryz.underlying70 h 2 rfl rfl rfl
  refine⟨⟨y0,y1,y2⟩,⟨g0,g1,g2⟩,?_,?_⟩
  ·rw[Zw Tryz.underlying70 h]; kernel_rfl
  ·exact (RL.app (o:=0) (n:=1) r0 rfl (RL.app (o:=1) (n:=1) r1 rfl (RL.app (o:=2) (n:=1) r2 rfl (RL.nil))):RL w _ (cs.drop 0))
instance:RdOf Tryz.prog 72 TPeer where
 size:=by kernel_rfl
 of {H enc w spare held fuel cs x} h:=by
  obtain⟨y0,g0,r0⟩:=Zv (α:=Int) (tt:=3) Tryz.underlying72 h 0 rfl rfl rfl
  obtain⟨y1,g1,r1⟩:=Zv (α:=Int) (tt:=3) Tryz.underlying72 h 1 rfl rfl rfl
  obtain⟨y2,g2,r2⟩:=Zv (α:=Int) (tt:=3) Tryz.underlying72 h 2 rfl rfl rfl
  obtain⟨y3,g3,r3⟩:=Zv (α:=Int) (tt:=3) Tryz.underlying72 h 3 rfl rfl rfl
  obtain⟨y4,g4,r4⟩:=Zv (α:=(List TTrack)) (tt:=63) Tryz.underlying72 h 4 rfl rfl rfl
  obtain⟨y5,g5,r5⟩:=Zv (α:=TWorld) (tt:=67) Tryz.underlying72 h 5 rfl rfl rfl
  obtain⟨y6,g6,r6⟩:=Zv (α:=TWorld) (tt:=67) Tryz.underlying72 h 6 rfl rfl rfl
  obtain⟨y7,g7,r7⟩:=Zv (α:=(List (List Int))) (tt:=25) Tryz.underlying72 h 7 rfl rfl rfl
  obtain⟨y8,g8,r8⟩:=Zv (α:=(List TSave)) (tt:=68) Tryz.underlying72 h 8 rfl rfl rfl
  obtain⟨y9,g9,r9⟩:=Zv (α:=(List Int)) (tt:=64) Tryz.underlying72 h 9 rfl rfl rfl
  obtain⟨y10,g10,r10⟩:=Zv (α:=TFault) (tt:=70) Tryz.underlying72 h 10 rfl rfl rfl
  obtain⟨y11,g11,r11⟩:=Zv (α:=Int) (tt:=3) Tryz.underlying72 h 11 rfl rfl rfl
  obtain⟨y12,g12,r12⟩:=Zv (α:=Int) (tt:=3) Tryz.underlying72 h 12 rfl rfl rfl
  refine⟨⟨y0,y1,y2,y3,y4,y5,y6,y7,y8,y9,y10,y11,y12⟩,⟨g0,g1,g2,g3,g4,g5,g6,g7,g8,g9,g10,g11,g12⟩,?_,?_⟩
  ·rw[Zw Tryz.underlying72 h]; kernel_rfl
  ·exact (RL.app (o:=0) (n:=1) r0 rfl (RL.app (o:=1) (n:=1) r1 rfl (RL.app (o:=2) (n:=1) r2 rfl (RL.app (o:=3) (n:=1) r3 rfl (RL.app (o:=4) (n:=1) r4 rfl (RL.app (o:=5) (n:=5) r5 rfl (RL.app (o:=10) (n:=5) r6 rfl (RL.app (o:=15) (n:=1) r7 rfl (RL.app (o:=16) (n:=1) r8 rfl (RL.app (o:=17) (n:=1) r9 rfl (RL.app (o:=18) (n:=3) r10 rfl (RL.app (o:=21) (n:=1) r11 rfl (RL.app (o:=22) (n:=1) r12 rfl (RL.nil))))))))))))):RL w _ (cs.drop 0))
end
section
open Go.ChangeShapes Go.WideShapes Go.ChangeAt Go.RowKit

instance:RdOf Tryz.prog 187 TFlight where
 size:=by kernel_rfl
 of {H enc w spare held fuel cs x} h:=by
  obtain⟨y0,g0,r0⟩:=Zv (α:=Int) (tt:=3) Tryz.underlying187 h 0 rfl rfl rfl
  obtain⟨y1,g1,r1⟩:=Zv (α:=ByteArray) (tt:=9) Tryz.underlying187 h 1 rfl rfl rfl
  refine⟨⟨y0,y1⟩,⟨g0,g1⟩,?_,?_⟩
  ·rw[Zw Tryz.underlying187 h]; kernel_rfl
  ·exact (RL.app (o:=0) (n:=1) r0 rfl (RL.app (o:=1) (n:=1) r1 rfl (RL.nil)):RL w _ (cs.drop 0))
instance:RdOf Tryz.prog 27 (List TFlight):=Zu Tryz.underlying27 (by kernel_rfl)
instance:RdOf Tryz.prog 29 TWire where
 size:=by kernel_rfl
 of {H enc w spare held fuel cs x} h:=by
  obtain⟨y0,g0,r0⟩:=Zv (α:=Int) (tt:=3) Tryz.underlying29 h 0 rfl rfl rfl
  obtain⟨y1,g1,r1⟩:=Zv (α:=Int) (tt:=3) Tryz.underlying29 h 1 rfl rfl rfl
  obtain⟨y2,g2,r2⟩:=Zv (α:=Int) (tt:=3) Tryz.underlying29 h 2 rfl rfl rfl
  obtain⟨y3,g3,r3⟩:=Zv (α:=Int) (tt:=3) Tryz.underlying29 h 3 rfl rfl rfl
  obtain⟨y4,g4,r4⟩:=Zv (α:=Int) (tt:=3) Tryz.underlying29 h 4 rfl rfl rfl
  obtain⟨y5,g5,r5⟩:=Zv (α:=Int) (tt:=3) Tryz.underlying29 h 5 rfl rfl rfl
  obtain⟨y6,g6,r6⟩:=Zv (α:=Int) (tt:=3) Tryz.underlying29 h 6 rfl rfl rfl
  obtain⟨y7,g7,r7⟩:=Zv (α:=(List TFlight)) (tt:=27) Tryz.underlying29 h 7 rfl rfl rfl
  obtain⟨y8,g8,r8⟩:=Zv (α:=Int) (tt:=3) Tryz.underlying29 h 8 rfl rfl rfl
  obtain⟨y9,g9,r9⟩:=Zv (α:=Int) (tt:=3) Tryz.underlying29 h 9 rfl rfl rfl
  refine⟨⟨y0,y1,y2,y3,y4,y5,y6,y7,y8,y9⟩,⟨g0,g1,g2,g3,g4,g5,g6,g7,g8,g9⟩,?_,?_⟩
  ·rw[Zw Tryz.underlying29 h]; kernel_rfl
  ·exact (RL.app (o:=0) (n:=1) r0 rfl (RL.app (o:=1) (n:=1) r1 rfl (RL.app (o:=2) (n:=1) r2 rfl (RL.app (o:=3) (n:=1) r3 rfl (RL.app (o:=4) (n:=1) r4 rfl (RL.app (o:=5) (n:=1) r5 rfl (RL.app (o:=6) (n:=1) r6 rfl (RL.app (o:=7) (n:=1) r7 rfl (RL.app (o:=8) (n:=1) r8 rfl (RL.app (o:=9) (n:=1) r9 rfl (RL.nil)))))))))):RL w _ (cs.drop 0))
instance:RdOf Tryz.prog 96 (List TWire):=Zu Tryz.underlying96 (by kernel_rfl)
instance:RdOf Tryz.prog 93 (List (List TWire)):=Zu Tryz.underlying93 (by kernel_rfl)
instance:RdOf Tryz.prog 264 TPace where
 size:=by kernel_rfl
 of {H enc w spare held fuel cs x} h:=by
  obtain⟨y0,g0,r0⟩:=Zv (α:=Int) (tt:=3) Tryz.underlying264 h 0 rfl rfl rfl
  obtain⟨y1,g1,r1⟩:=Zv (α:=Int) (tt:=3) Tryz.underlying264 h 1 rfl rfl rfl
  obtain⟨y2,g2,r2⟩:=Zv (α:=Int) (tt:=3) Tryz.underlying264 h 2 rfl rfl rfl
  obtain⟨y3,g3,r3⟩:=Zv (α:=Int) (tt:=3) Tryz.underlying264 h 3 rfl rfl rfl
  obtain⟨y4,g4,r4⟩:=Zv (α:=Int) (tt:=3) Tryz.underlying264 h 4 rfl rfl rfl
  refine⟨⟨y0,y1,y2,y3,y4⟩,⟨g0,g1,g2,g3,g4⟩,?_,?_⟩
  ·rw[Zw Tryz.underlying264 h]; kernel_rfl
  ·exact (RL.app (o:=0) (n:=1) r0 rfl (RL.app (o:=1) (n:=1) r1 rfl (RL.app (o:=2) (n:=1) r2 rfl (RL.app (o:=3) (n:=1) r3 rfl (RL.app (o:=4) (n:=1) r4 rfl (RL.nil))))):RL w _ (cs.drop 0))
instance:RdOf Tryz.prog 229 (List TPace):=Zu Tryz.underlying229 (by kernel_rfl)
instance:RdOf Tryz.prog 94 (List (List TPace)):=Zu Tryz.underlying94 (by kernel_rfl)
instance:RdOf Tryz.prog 234 TAlarm where
 size:=by kernel_rfl
 of {H enc w spare held fuel cs x} h:=by
  obtain⟨y0,g0,r0⟩:=Zv (α:=Int) (tt:=3) Tryz.underlying234 h 0 rfl rfl rfl
  obtain⟨y1,g1,r1⟩:=Zv (α:=(List ByteArray)) (tt:=22) Tryz.underlying234 h 1 rfl rfl rfl
  refine⟨⟨y0,y1⟩,⟨g0,g1⟩,?_,?_⟩
  ·rw[Zw Tryz.underlying234 h]; kernel_rfl
  ·exact (RL.app (o:=0) (n:=1) r0 rfl (RL.app (o:=1) (n:=1) r1 rfl (RL.nil)):RL w _ (cs.drop 0))
instance:RdOf Tryz.prog 97 (List TAlarm):=Zu Tryz.underlying97 (by kernel_rfl)
instance:RdOf Tryz.prog 232 TSpectator where
 size:=by kernel_rfl
 of {H enc w spare held fuel cs x} h:=by
  obtain⟨y0,g0,r0⟩:=Zv (α:=TWorld) (tt:=67) Tryz.underlying232 h 0 rfl rfl rfl
  obtain⟨y1,g1,r1⟩:=Zv (α:=Int) (tt:=3) Tryz.underlying232 h 1 rfl rfl rfl
  refine⟨⟨y0,y1⟩,⟨g0,g1⟩,?_,?_⟩
  ·rw[Zw Tryz.underlying232 h]; kernel_rfl
  ·exact (RL.app (o:=0) (n:=5) r0 rfl (RL.app (o:=5) (n:=1) r1 rfl (RL.nil)):RL w _ (cs.drop 0))
instance:RdOf Tryz.prog 95 (List TSpectator):=Zu Tryz.underlying95 (by kernel_rfl)
instance:RdOf Tryz.prog 92 (List TPeer):=Zu Tryz.underlying92 (by kernel_rfl)
instance:RdOf Tryz.prog 99 TMatch where
 size:=by kernel_rfl
 of {H enc w spare held fuel cs x} h:=by
  obtain⟨y0,g0,r0⟩:=Zv (α:=TLevel) (tt:=24) Tryz.underlying99 h 0 rfl rfl rfl
  obtain⟨y1,g1,r1⟩:=Zv (α:=Int) (tt:=3) Tryz.underlying99 h 1 rfl rfl rfl
  obtain⟨y2,g2,r2⟩:=Zv (α:=Int) (tt:=3) Tryz.underlying99 h 2 rfl rfl rfl
  obtain⟨y3,g3,r3⟩:=Zv (α:=(List (List Int))) (tt:=25) Tryz.underlying99 h 3 rfl rfl rfl
  obtain⟨y4,g4,r4⟩:=Zv (α:=(List TPeer)) (tt:=92) Tryz.underlying99 h 4 rfl rfl rfl
  obtain⟨y5,g5,r5⟩:=Zv (α:=(List (List TWire))) (tt:=93) Tryz.underlying99 h 5 rfl rfl rfl
  obtain⟨y6,g6,r6⟩:=Zv (α:=(List (List TPace))) (tt:=94) Tryz.underlying99 h 6 rfl rfl rfl
  obtain⟨y7,g7,r7⟩:=Zv (α:=(List (List Int))) (tt:=25) Tryz.underlying99 h 7 rfl rfl rfl
  obtain⟨y8,g8,r8⟩:=Zv (α:=Int) (tt:=3) Tryz.underlying99 h 8 rfl rfl rfl
  obtain⟨y9,g9,r9⟩:=Zv (α:=(List TSpectator)) (tt:=95) Tryz.underlying99 h 9 rfl rfl rfl
  obtain⟨y10,g10,r10⟩:=Zv (α:=(List TWire)) (tt:=96) Tryz.underlying99 h 10 rfl rfl rfl
  obtain⟨y11,g11,r11⟩:=Zv (α:=(List TAlarm)) (tt:=97) Tryz.underlying99 h 11 rfl rfl rfl
  obtain⟨y12,g12,r12⟩:=Zv (α:=Int) (tt:=3) Tryz.underlying99 h 12 rfl rfl rfl
  refine⟨⟨y0,y1,y2,y3,y4,y5,y6,y7,y8,y9,y10,y11,y12⟩,⟨g0,g1,g2,g3,g4,g5,g6,g7,g8,g9,g10,g11,g12⟩,?_,?_⟩
  ·rw[Zw Tryz.underlying99 h]; kernel_rfl
  ·exact (RL.app (o:=0) (n:=1) r0 rfl (RL.app (o:=1) (n:=1) r1 rfl (RL.app (o:=2) (n:=1) r2 rfl (RL.app (o:=3) (n:=1) r3 rfl (RL.app (o:=4) (n:=1) r4 rfl (RL.app (o:=5) (n:=1) r5 rfl (RL.app (o:=6) (n:=1) r6 rfl (RL.app (o:=7) (n:=1) r7 rfl (RL.app (o:=8) (n:=1) r8 rfl (RL.app (o:=9) (n:=1) r9 rfl (RL.app (o:=10) (n:=1) r10 rfl (RL.app (o:=11) (n:=1) r11 rfl (RL.app (o:=12) (n:=1) r12 rfl (RL.nil))))))))))))):RL w _ (cs.drop 0))
end
end Go.Proofs.YtoecjaohdnoenaaGreat
