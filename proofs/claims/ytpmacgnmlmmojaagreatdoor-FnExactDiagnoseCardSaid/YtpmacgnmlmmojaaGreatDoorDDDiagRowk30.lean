/-
  Rules, data and contracts of functions: part 31 of the proof.
  Conditions: those that each theorem names.
-/
import Derived.Test.YtpmacgnmlmmojaaGreatDoorDDDiagRowk29
set_option linter.unusedSimpArgs false
set_option linter.unusedVariables false
set_option maxRecDepth 8000
set_option maxHeartbeats 8000000
namespace Go.Proofs.YtpmacgnmlmmojaaGreatDoor
section
open Go.RowKit

@[reducible] def iv (n:Int):V1 := .rd [] (.v (.int .i64 n))
theorem law_Diagnose (p:TPeer) (q:TPeer) (g_p:Enc.gd p) (g_q:Enc.gd q):Con Tryz.prog 5 [] [ag p,ag q] [] (B true):=by
 have hz_p:=sz_Peer p (1048576) g_p (by omega) (by omega)
 by_cases n_p:(1048576:Int)<Enc.wt p
 ·rw[Z9 n_p] at hz_p
  refine Con.of Tryz.func5 J Tryz.ntmps5 J (fun E => ?_)
  refine Wz [100,34,124] ?_;refine zx (Qj J J (hz_p) J) J ?_;refine Wz [46,216,57] ?_
  exact V3 J (V4 [] J J J)
 rw[V6] at hz_p
 have hb_p:decide ((1048576:Int)-Enc.wt p<0)=false:=Gqa (by omega)
 have hz_q:=sz_Peer q (1048576-Enc.wt p) g_q (by omega) (by omega)
 by_cases n_q:(1048576-Enc.wt p:Int)<Enc.wt q
 ·rw[Z9 n_q] at hz_q
  refine Con.of Tryz.func5 J Tryz.ntmps5 J (fun E => ?_)
  refine Wz [100,34,124] ?_;refine zx (Qj J J (hz_p) J) J ?_;refine Wz [59,124] ?_;refine zx (Qj J J (hz_q) J) J ?_;refine Wz [46,216,57] ?_
  exact V3 J (V4 [] J J J)
 rw[V6] at hz_q
 have hb_q:decide ((1048576-Enc.wt p:Int)-Enc.wt q<0)=false:=Gqa (by omega)
 have ht_p:=to_Peer p (by omega)
 have hq_p:=eq_Peer p p g_p
 rw[Gqb rfl] at hq_p
 have mi_p:=mark_in (x:=p) (by omega)
 have ht_q:=to_Peer q (by omega)
 have hq_q:=eq_Peer q q g_q
 rw[Gqb rfl] at hq_q
 have mi_q:=mark_in (x:=q) (by omega)
 have hsp:=S_DiagG p q g_p g_q (peer_in g_p (by omega)) (peer_in g_q (by omega))
 have hip:=I_DiagG p q g_p g_q (peer_in g_p (by omega)) (peer_in g_q (by omega))
 obtain⟨hgd,hyl⟩:=diag_gd p q
 generalize diagV p q=y at hsp hip hgd hyl
 generalize diagB p q=b at hsp hip
 have hq1:=eq_Alarm y y hgd
 rw[Gqb rfl] at hq1
 have hm_p:=L_markPeer p 1 mi_p (by omega) (by omega)
 obtain⟨k1,k2⟩:=cnt_in mi_p 1 (by omega)
 have hm_q:=L_markPeer q (cntP p 1) mi_q (by omega) (by omega)
 obtain⟨k3,k4⟩:=cnt_in mi_q (cntP p 1) (by omega)
 have hk1:decide (cntP q (cntP p 1)<0)=false:=Gqa (by omega)
 have hm_y:=L_markAlarm y.Tick y.Parts 1 (by omega) (by omega) (by omega) hyl
 have hh:=L_heldAlarm y.Tick y.Parts 1 hyl (by omega) (by omega)
 have hk2:decide ((1:Int)+y.Parts.length<0)=false:=Gqa (by omega)
 refine Con.of Tryz.func5 J Tryz.ntmps5 J (fun E => ?_)
 refine Wz [100,34,124] ?_;refine zx (Qj J J (hz_p) J) J ?_;refine Wz [59,124] ?_;refine zx (Qj J J (hz_q) J) J ?_;refine Wz [59,17] ?_
 refine AWP.pre (st':=(⟨_,[(2,.o (.c (.ptr 0 0))),(3,.o (.c (.ptr 1 0)))],[.box ((Enc.e p).map (V1.rd [])),.box ((Enc.e q).map (V1.rd []))]⟩:St)) ?_ (Ua [0,1])
 refine Xi u8_71 [[],[28],[],[28,29,30],[28,29,30,31],[28,29,30,31,32],[27,28,29,30,31,32],[27,28,29,30,31,32],[],[6,27,28,29,30,31,32,33],[6,27,28,29,30,31,32,33,34]] [[6,30],[6,30],[6,28,29],[6],[6],[6],[6,34],[6,33],[27,28,29,30,31,32,33,34],[34],[],[7]] J (Ki (Qu J J J J J J) J ?_);refine Ki (Zc J J (ht_p) J J J) J ?_;refine Ki (Qu J J J J J J) J ?_;refine Ki (Zc J J (ht_q) J J J) J ?_;refine Ki (Zc J J (hsp) J J J) J ?_;refine Wz [219,169,169,215,9] ?_;refine AL.weak (st':=(⟨119,[(2,.o (.c (.ptr 0 0))),(3,.o (.c (.ptr 1 0))),(6,.o (.c (.ptr 3 0))),(33,.o (.ag [iv y.Tick,.ref 2])),(34,B b)],[.box ((Enc.e p).map (V1.rd [])),.box ((Enc.e q).map (V1.rd [])),.row 1 (els y.Parts),.box [iv 0,.rd [] (.v (.slice none 0 0))]]⟩:St)) (V0 [0,1,22,23] J ((by kernel_rfl)) (.c J (.c J (.c J (.c J (.c J (.nil))))))) ?_;refine Wz [33,2,79] ?_;refine M1 (Zc J J (ht_p) J J J) J J ?_;refine AL.weak (st':=(⟨119,[(2,.o (.c (.ptr 0 0))),(3,.o (.c (.ptr 1 0))),(6,.o (.c (.ptr 3 0))),(7,B b),(36,.o (.ag (pV p 4 5 6 7 8 9 10 11 12 13)))],[.box ((Enc.e p).map (V1.rd [])),.box ((Enc.e q).map (V1.rd [])),.row 1 (els y.Parts),.box [iv y.Tick,.ref 2],.row 1 (els p.Tracks),.row 1 (els p.Base.Level.Rows),.row 1 (els p.Base.Scores),.row 9 (els p.Base.Bodies),.row 1 (els p.Now.Level.Rows),.row 1 (els p.Now.Scores),.row 9 (els p.Now.Bodies),.row 1 (els p.Used),.row 2 (els p.Saves),.row 1 (els p.Sums)]⟩:St)) (V0 [0,1,2,3,4,5,6,7,8,9,10,11,12,13] J ((by kernel_rfl)) (.c J (.c J (.c J (.c J (.c J (.nil))))))) ?_;refine Wz [61,33] ?_;refine AL.weak (st':=(⟨119,[(2,.o (.c (.ptr 0 0))),(3,.o (.c (.ptr 1 0))),(6,.o (.c (.ptr 3 0))),(7,B b),(8,.o (.c (.ptr 14 0)))],[.box ((Enc.e p).map (V1.rd [])),.box ((Enc.e q).map (V1.rd [])),.row 1 (els y.Parts),.box [iv y.Tick,.ref 2],.row 1 (els p.Tracks),.row 1 (els p.Base.Level.Rows),.row 1 (els p.Base.Scores),.row 9 (els p.Base.Bodies),.row 1 (els p.Now.Level.Rows),.row 1 (els p.Now.Scores),.row 9 (els p.Now.Bodies),.row 1 (els p.Used),.row 2 (els p.Saves),.row 1 (els p.Sums),.box (pV p 4 5 6 7 8 9 10 11 12 13)]⟩:St)) (V0 [0,1,2,3,4,5,6,7,8,9,10,11,12,13,14] J ((by kernel_rfl)) (.c J (.c J (.c J (.c J (.c J (.nil))))))) ?_;refine Wz [3,79] ?_;refine M1 (Zc J J (ht_q) J J J) J J ?_;refine AL.weak (st':=(⟨119,[(2,.o (.c (.ptr 0 0))),(3,.o (.c (.ptr 1 0))),(6,.o (.c (.ptr 3 0))),(7,B b),(8,.o (.c (.ptr 14 0))),(38,.o (.ag (pV q 15 16 17 18 19 20 21 22 23 24)))],[.box ((Enc.e p).map (V1.rd [])),.box ((Enc.e q).map (V1.rd [])),.row 1 (els y.Parts),.box [iv y.Tick,.ref 2],.row 1 (els p.Tracks),.row 1 (els p.Base.Level.Rows),.row 1 (els p.Base.Scores),.row 9 (els p.Base.Bodies),.row 1 (els p.Now.Level.Rows),.row 1 (els p.Now.Scores),.row 9 (els p.Now.Bodies),.row 1 (els p.Used),.row 2 (els p.Saves),.row 1 (els p.Sums),.box (pV p 4 5 6 7 8 9 10 11 12 13),.row 1 (els q.Tracks),.row 1 (els q.Base.Level.Rows),.row 1 (els q.Base.Scores),.row 9 (els q.Base.Bodies),.row 1 (els q.Now.Level.Rows),.row 1 (els q.Now.Scores),.row 9 (els q.Now.Bodies),.row 1 (els q.Used),.row 2 (els q.Saves),.row 1 (els q.Sums)]⟩:St)) (V0 [0,1,2,3,4,5,6,7,8,9,10,11,12,13,14,15,16,17,18,19,20,21,22,23,24] J ((by kernel_rfl)) (.c J (.c J (.c J (.c J (.c J (.c J (.nil)))))))) ?_;refine Wz [61,33] ?_;refine AL.weak (st':=(⟨119,[(2,.o (.c (.ptr 0 0))),(3,.o (.c (.ptr 1 0))),(6,.o (.c (.ptr 3 0))),(7,B b),(8,.o (.c (.ptr 14 0))),(9,.o (.c (.ptr 25 0)))],[.box ((Enc.e p).map (V1.rd [])),.box ((Enc.e q).map (V1.rd [])),.row 1 (els y.Parts),.box [iv y.Tick,.ref 2],.row 1 (els p.Tracks),.row 1 (els p.Base.Level.Rows),.row 1 (els p.Base.Scores),.row 9 (els p.Base.Bodies),.row 1 (els p.Now.Level.Rows),.row 1 (els p.Now.Scores),.row 9 (els p.Now.Bodies),.row 1 (els p.Used),.row 2 (els p.Saves),.row 1 (els p.Sums),.box (pV p 4 5 6 7 8 9 10 11 12 13),.row 1 (els q.Tracks),.row 1 (els q.Base.Level.Rows),.row 1 (els q.Base.Scores),.row 9 (els q.Base.Bodies),.row 1 (els q.Now.Level.Rows),.row 1 (els q.Now.Scores),.row 9 (els q.Now.Bodies),.row 1 (els q.Used),.row 2 (els q.Saves),.row 1 (els q.Sums),.box (pV q 15 16 17 18 19 20 21 22 23 24)]⟩:St)) (V0 [0,1,2,3,4,5,6,7,8,9,10,11,12,13,14,15,16,17,18,19,20,21,22,23,24,25] J ((by kernel_rfl)) (.c J (.c J (.c J (.c J (.c J (.c J (.nil)))))))) ?_;refine Wz [3,79] ?_;refine AL.weak (st':=(⟨119,[(2,.o (.c (.ptr 0 0))),(3,.o (.c (.ptr 1 0))),(6,.o (.c (.ptr 3 0))),(7,B b),(8,.o (.c (.ptr 14 0))),(9,.o (.c (.ptr 25 0))),(40,.o (.ag (pV p 4 5 6 7 8 9 10 11 12 13)))],[.box ((Enc.e p).map (V1.rd [])),.box ((Enc.e q).map (V1.rd [])),.row 1 (els y.Parts),.box [iv y.Tick,.ref 2],.row 1 (els p.Tracks),.row 1 (els p.Base.Level.Rows),.row 1 (els p.Base.Scores),.row 9 (els p.Base.Bodies),.row 1 (els p.Now.Level.Rows),.row 1 (els p.Now.Scores),.row 9 (els p.Now.Bodies),.row 1 (els p.Used),.row 2 (els p.Saves),.row 1 (els p.Sums),.box (pV p 4 5 6 7 8 9 10 11 12 13),.row 1 (els q.Tracks),.row 1 (els q.Base.Level.Rows),.row 1 (els q.Base.Scores),.row 9 (els q.Base.Bodies),.row 1 (els q.Now.Level.Rows),.row 1 (els q.Now.Scores),.row 9 (els q.Now.Bodies),.row 1 (els q.Used),.row 2 (els q.Saves),.row 1 (els q.Sums),.box (pV q 15 16 17 18 19 20 21 22 23 24)]⟩:St)) (V0 [0,1,2,3,4,5,6,7,8,9,10,11,12,13,14,15,16,17,18,19,20,21,22,23,24,25] J ((by kernel_rfl)) (.c J (.c J (.c J (.c J (.c J (.c J (.c J (.nil))))))))) ?_;refine z4 J J J ?_;refine AL.weak (st':=(⟨119,[(2,.o (.c (.ptr 0 0))),(3,.o (.c (.ptr 1 0))),(6,.o (.c (.ptr 3 0))),(7,B b),(8,.o (.c (.ptr 14 0))),(9,.o (.c (.ptr 25 0))),(40,.o (.ag (pV p 4 5 6 7 8 9 10 11 12 13))),(41,.o (.ag (pV q 15 16 17 18 19 20 21 22 23 24)))],[.box ((Enc.e p).map (V1.rd [])),.box ((Enc.e q).map (V1.rd [])),.row 1 (els y.Parts),.box [iv y.Tick,.ref 2],.row 1 (els p.Tracks),.row 1 (els p.Base.Level.Rows),.row 1 (els p.Base.Scores),.row 9 (els p.Base.Bodies),.row 1 (els p.Now.Level.Rows),.row 1 (els p.Now.Scores),.row 9 (els p.Now.Bodies),.row 1 (els p.Used),.row 2 (els p.Saves),.row 1 (els p.Sums),.box (pV p 4 5 6 7 8 9 10 11 12 13),.row 1 (els q.Tracks),.row 1 (els q.Base.Level.Rows),.row 1 (els q.Base.Scores),.row 9 (els q.Base.Bodies),.row 1 (els q.Now.Level.Rows),.row 1 (els q.Now.Scores),.row 9 (els q.Now.Bodies),.row 1 (els q.Used),.row 2 (els q.Saves),.row 1 (els q.Sums),.box (pV q 15 16 17 18 19 20 21 22 23 24)]⟩:St)) (V0 [0,1,2,3,4,5,6,7,8,9,10,11,12,13,14,15,16,17,18,19,20,21,22,23,24,25] J ((by kernel_rfl)) (.c J (.c J (.c J (.c J (.c J (.c J (.c J (.c J (.nil)))))))))) ?_;refine M1 (Zc J J (hip) J J J) J J ?_;refine AL.weak (st':=(⟨119,[(2,.o (.c (.ptr 0 0))),(3,.o (.c (.ptr 1 0))),(6,.o (.c (.ptr 3 0))),(7,B b),(8,.o (.c (.ptr 14 0))),(9,.o (.c (.ptr 25 0))),(42,.tu [.ag [iv y.Tick,.ref 26],.c (bv b)])],[.box ((Enc.e p).map (V1.rd [])),.box ((Enc.e q).map (V1.rd [])),.row 1 (els y.Parts),.box [iv y.Tick,.ref 2],.row 1 (els p.Tracks),.row 1 (els p.Base.Level.Rows),.row 1 (els p.Base.Scores),.row 9 (els p.Base.Bodies),.row 1 (els p.Now.Level.Rows),.row 1 (els p.Now.Scores),.row 9 (els p.Now.Bodies),.row 1 (els p.Used),.row 2 (els p.Saves),.row 1 (els p.Sums),.box (pV p 4 5 6 7 8 9 10 11 12 13),.row 1 (els q.Tracks),.row 1 (els q.Base.Level.Rows),.row 1 (els q.Base.Scores),.row 9 (els q.Base.Bodies),.row 1 (els q.Now.Level.Rows),.row 1 (els q.Now.Scores),.row 9 (els q.Now.Bodies),.row 1 (els q.Used),.row 2 (els q.Saves),.row 1 (els q.Sums),.box (pV q 15 16 17 18 19 20 21 22 23 24),.row 1 (els y.Parts)]⟩:St)) (V0 [0,1,2,3,4,5,6,7,8,9,10,11,12,13,14,15,16,17,18,19,20,21,22,23,24,25,26] J ((by kernel_rfl)) (.c J (.c J (.c J (.c J (.c J (.c J (.c J (.nil))))))))) ?_;refine Wz [138,56,56,61,33,2,31,39] ?_;refine zx (Qj J J (hq1) J) J ?_;refine Wz [15,11,25,301,45,17,17] ?_
 refine AWP.pre (st':=(⟨119,[(2,.o (.c (.ptr 0 0))),(3,.o (.c (.ptr 1 0))),(6,.o (.c (.ptr 3 0))),(7,B b),(8,.o (.c (.ptr 14 0))),(9,.o (.c (.ptr 25 0))),(10,.o (.c (.ptr 27 0))),(11,B b)],[.box ((Enc.e p).map (V1.rd [])),.box ((Enc.e q).map (V1.rd [])),.row 1 (els y.Parts),.box [iv y.Tick,.ref 2],.row 1 (els p.Tracks),.row 1 (els p.Base.Level.Rows),.row 1 (els p.Base.Scores),.row 9 (els p.Base.Bodies),.row 1 (els p.Now.Level.Rows),.row 1 (els p.Now.Scores),.row 9 (els p.Now.Bodies),.row 1 (els p.Used),.row 2 (els p.Saves),.row 1 (els p.Sums),.box (pV p 4 5 6 7 8 9 10 11 12 13),.row 1 (els q.Tracks),.row 1 (els q.Base.Level.Rows),.row 1 (els q.Base.Scores),.row 9 (els q.Base.Bodies),.row 1 (els q.Now.Level.Rows),.row 1 (els q.Now.Scores),.row 9 (els q.Now.Bodies),.row 1 (els q.Used),.row 2 (els q.Saves),.row 1 (els q.Sums),.box (pV q 15 16 17 18 19 20 21 22 23 24),.row 1 (els y.Parts),.box [iv y.Tick,.ref 26]]⟩:St)) ?_ (V0 [0,1,2,3,4,5,6,7,8,9,10,11,12,13,14,15,16,17,18,19,20,21,22,23,24,25,26,27] J ((by kernel_rfl)) (.c J (.c J (.c J (.c J (.c J (.c J (.c J (.c J (.nil))))))))))
 refine Xi u8_72 [[],[],[55],[54,55,56],[54,55,56,57]] [[55,56],[54],[54],[],[]] J ?_;refine Wz [72,72] ?_;refine Ki (Zc J J (ht_p) J J J) J ?_;refine Ki (Qj J J (hq_p) J) J ?_;refine Wz [136,9,3] ?_
 refine AWP.pre (st':=(⟨119,[(2,.o (.c (.ptr 0 0))),(3,.o (.c (.ptr 1 0))),(6,.o (.c (.ptr 3 0))),(7,B b),(8,.o (.c (.ptr 14 0))),(9,.o (.c (.ptr 25 0))),(10,.o (.c (.ptr 27 0))),(11,B b),(58,B false)],[.box ((Enc.e p).map (V1.rd [])),.box ((Enc.e q).map (V1.rd [])),.row 1 (els y.Parts),.box [iv y.Tick,.ref 2],.row 1 (els p.Tracks),.row 1 (els p.Base.Level.Rows),.row 1 (els p.Base.Scores),.row 9 (els p.Base.Bodies),.row 1 (els p.Now.Level.Rows),.row 1 (els p.Now.Scores),.row 9 (els p.Now.Bodies),.row 1 (els p.Used),.row 2 (els p.Saves),.row 1 (els p.Sums),.box (pV p 4 5 6 7 8 9 10 11 12 13),.row 1 (els q.Tracks),.row 1 (els q.Base.Level.Rows),.row 1 (els q.Base.Scores),.row 9 (els q.Base.Bodies),.row 1 (els q.Now.Level.Rows),.row 1 (els q.Now.Scores),.row 9 (els q.Now.Bodies),.row 1 (els q.Used),.row 2 (els q.Saves),.row 1 (els q.Sums),.box (pV q 15 16 17 18 19 20 21 22 23 24),.row 1 (els y.Parts),.box [iv y.Tick,.ref 26]]⟩:St)) ?_ (V0 [0,1,2,3,4,5,6,7,8,9,10,11,12,13,14,15,16,17,18,19,20,21,22,23,24,25,26,27] J ((by kernel_rfl)) (.c J (.c J (.c J (.c J (.c J (.c J (.c J (.c J (.c J (.nil)))))))))))
 refine Wz [156,27,17,17] ?_
 refine AWP.pre (st':=(⟨119,[(2,.o (.c (.ptr 0 0))),(3,.o (.c (.ptr 1 0))),(6,.o (.c (.ptr 3 0))),(7,B b),(8,.o (.c (.ptr 14 0))),(9,.o (.c (.ptr 25 0))),(10,.o (.c (.ptr 27 0))),(11,B b)],[.box ((Enc.e p).map (V1.rd [])),.box ((Enc.e q).map (V1.rd [])),.row 1 (els y.Parts),.box [iv y.Tick,.ref 2],.row 1 (els p.Tracks),.row 1 (els p.Base.Level.Rows),.row 1 (els p.Base.Scores),.row 9 (els p.Base.Bodies),.row 1 (els p.Now.Level.Rows),.row 1 (els p.Now.Scores),.row 9 (els p.Now.Bodies),.row 1 (els p.Used),.row 2 (els p.Saves),.row 1 (els p.Sums),.box (pV p 4 5 6 7 8 9 10 11 12 13),.row 1 (els q.Tracks),.row 1 (els q.Base.Level.Rows),.row 1 (els q.Base.Scores),.row 9 (els q.Base.Bodies),.row 1 (els q.Now.Level.Rows),.row 1 (els q.Now.Scores),.row 9 (els q.Now.Bodies),.row 1 (els q.Used),.row 2 (els q.Saves),.row 1 (els q.Sums),.box (pV q 15 16 17 18 19 20 21 22 23 24),.row 1 (els y.Parts),.box [iv y.Tick,.ref 26]]⟩:St)) ?_ (V0 [0,1,2,3,4,5,6,7,8,9,10,11,12,13,14,15,16,17,18,19,20,21,22,23,24,25,26,27] J ((by kernel_rfl)) (.c J (.c J (.c J (.c J (.c J (.c J (.c J (.c J (.nil))))))))))
 refine Xi u8_72 [[],[],[60],[59,60,61],[59,60,61,62]] [[60,61],[59],[59],[],[]] J ?_;refine Wz [72,72] ?_;refine Ki (Zc J J (ht_q) J J J) J ?_;refine Ki (Qj J J (hq_q) J) J ?_;refine Wz [136,9,3] ?_
 refine AWP.pre (st':=(⟨119,[(2,.o (.c (.ptr 0 0))),(3,.o (.c (.ptr 1 0))),(6,.o (.c (.ptr 3 0))),(7,B b),(8,.o (.c (.ptr 14 0))),(9,.o (.c (.ptr 25 0))),(10,.o (.c (.ptr 27 0))),(11,B b),(63,B false)],[.box ((Enc.e p).map (V1.rd [])),.box ((Enc.e q).map (V1.rd [])),.row 1 (els y.Parts),.box [iv y.Tick,.ref 2],.row 1 (els p.Tracks),.row 1 (els p.Base.Level.Rows),.row 1 (els p.Base.Scores),.row 9 (els p.Base.Bodies),.row 1 (els p.Now.Level.Rows),.row 1 (els p.Now.Scores),.row 9 (els p.Now.Bodies),.row 1 (els p.Used),.row 2 (els p.Saves),.row 1 (els p.Sums),.box (pV p 4 5 6 7 8 9 10 11 12 13),.row 1 (els q.Tracks),.row 1 (els q.Base.Level.Rows),.row 1 (els q.Base.Scores),.row 9 (els q.Base.Bodies),.row 1 (els q.Now.Level.Rows),.row 1 (els q.Now.Scores),.row 9 (els q.Now.Bodies),.row 1 (els q.Used),.row 2 (els q.Saves),.row 1 (els q.Sums),.box (pV q 15 16 17 18 19 20 21 22 23 24),.row 1 (els y.Parts),.box [iv y.Tick,.ref 26]]⟩:St)) ?_ (V0 [0,1,2,3,4,5,6,7,8,9,10,11,12,13,14,15,16,17,18,19,20,21,22,23,24,25,26,27] J ((by kernel_rfl)) (.c J (.c J (.c J (.c J (.c J (.c J (.c J (.c J (.c J (.nil)))))))))))
 refine Wz [156,27,34,124] ?_;refine Xd (lo := [_,_,_,_,_,_,_,_,_,_]) (gs := [(0,.ag (pV p 0 1 2 3 4 5 6 7 8 9))]) (lo' := [_,_,_,_,_,_,_,_,_,_]) (new := []) [4,5,6,7,8,9,10,11,12,13] [(0,4,.ref 0),(0,5,.ref 1),(0,8,.ref 2),(0,9,.ref 3),(0,10,.ref 4),(0,13,.ref 5),(0,14,.ref 6),(0,15,.ref 7),(0,16,.ref 8),(0,17,.ref 9)] (hm_p) J J J J J J J J J J J J J J J J J ?_;refine AL.weak (st':=(⟨119,[(2,.o (.c (.ptr 0 0))),(3,.o (.c (.ptr 1 0))),(6,.o (.c (.ptr 3 0))),(7,B b),(9,.o (.c (.ptr 14 0))),(10,.o (.c (.ptr 16 0))),(11,B b),(66,I (cntP p 1))],[.box ((Enc.e p).map (V1.rd [])),.box ((Enc.e q).map (V1.rd [])),.row 1 (els y.Parts),.box [iv y.Tick,.ref 2],.row 1 (els q.Tracks),.row 1 (els q.Base.Level.Rows),.row 1 (els q.Base.Scores),.row 9 (els q.Base.Bodies),.row 1 (els q.Now.Level.Rows),.row 1 (els q.Now.Scores),.row 9 (els q.Now.Bodies),.row 1 (els q.Used),.row 2 (els q.Saves),.row 1 (els q.Sums),.box (pV q 4 5 6 7 8 9 10 11 12 13),.row 1 (els y.Parts),.box [iv y.Tick,.ref 15]]⟩:St)) (V0 [0,1,2,3,15,16,17,18,19,20,21,22,23,24,25,26,27] J ((by kernel_rfl)) (.c J (.c J (.c J (.c J (.c J (.c J (.c J (.c J (.nil)))))))))) ?_;refine Wz [2,124] ?_;refine Xd (lo := [_,_,_,_,_,_,_,_,_,_]) (gs := [(0,.ag (pV q 0 1 2 3 4 5 6 7 8 9))]) (lo' := [_,_,_,_,_,_,_,_,_,_]) (new := []) [4,5,6,7,8,9,10,11,12,13] [(0,4,.ref 0),(0,5,.ref 1),(0,8,.ref 2),(0,9,.ref 3),(0,10,.ref 4),(0,13,.ref 5),(0,14,.ref 6),(0,15,.ref 7),(0,16,.ref 8),(0,17,.ref 9)] (hm_q) J J J J J J J J J J J J J J J J J ?_;refine AL.weak (st':=(⟨119,[(2,.o (.c (.ptr 0 0))),(3,.o (.c (.ptr 1 0))),(6,.o (.c (.ptr 3 0))),(7,B b),(10,.o (.c (.ptr 5 0))),(11,B b),(69,I (cntP q (cntP p 1)))],[.box ((Enc.e p).map (V1.rd [])),.box ((Enc.e q).map (V1.rd [])),.row 1 (els y.Parts),.box [iv y.Tick,.ref 2],.row 1 (els y.Parts),.box [iv y.Tick,.ref 4]]⟩:St)) (V0 [0,1,2,3,15,16] J ((by kernel_rfl)) (.c J (.c J (.c J (.c J (.c J (.c J (.c J (.nil))))))))) ?_;refine Wz [113,25,39,5,39,5] ?_;refine zx (Qj J J (hq1) J) J ?_;refine Wz [71,7,11,25,301,45,34,124] ?_;refine Xd (lo := [_]) (gs := [(0,.ag [iv y.Tick,.ref 0])]) (lo' := [_]) (new := []) [4] [(0,1,.ref 0)] (hm_y) J J J J J J J J J J J J J J J J J ?_;refine AL.weak (st':=(⟨119,[(2,.o (.c (.ptr 0 0))),(3,.o (.c (.ptr 1 0))),(6,.o (.c (.ptr 3 0))),(7,B b),(10,.o (.c (.ptr 5 0))),(85,I (1+y.Parts.length))],[.box ((Enc.e p).map (V1.rd [])),.box ((Enc.e q).map (V1.rd [])),.row 1 (els y.Parts),.box [iv y.Tick,.ref 2],.row 1 (els (markS y.Parts 1)),.box [iv y.Tick,.ref 4]]⟩:St)) (V0 [0,1,2,3,4,5] J ((by kernel_rfl)) (.c J (.c J (.c J (.c J (.c J (.c J (.nil)))))))) ?_;refine Wz [2,34,124] ?_;refine zx (Qj J J (hh) J) J ?_;refine Wz [59,18] ?_;refine zx (q_neqR J J J J) J ?_;refine Wz [47,17] ?_
 refine AWP.pre (st':=(⟨119,[(2,.o (.c (.ptr 0 0))),(3,.o (.c (.ptr 1 0))),(6,.o (.c (.ptr 3 0))),(7,B b),(10,.o (.c (.ptr 5 0))),(13,I (1+y.Parts.length))],[.box ((Enc.e p).map (V1.rd [])),.box ((Enc.e q).map (V1.rd [])),.row 1 (els y.Parts),.box [iv y.Tick,.ref 2],.row 1 (els (markS y.Parts 1)),.box [iv y.Tick,.ref 4]]⟩:St)) ?_ (V0 [0,1,2,3,4,5] J ((by kernel_rfl)) (.c J (.c J (.c J (.c J (.c J (.c J (.nil))))))))
 refine Xi u8_71 [[],[95],[],[95,96,97],[95,96,97,98],[95,96,97,98,99],[94,95,96,97,98,99],[94,95,96,97,98,99],[],[15,94,95,96,97,98,99,100],[15,94,95,96,97,98,99,100,101]] [[15,97],[15,97],[15,95,96],[15],[15],[15],[15,101],[15,100],[94,95,96,97,98,99,100,101],[101],[],[7]] J (Ki (Qu J J J J J J) J ?_);refine Ki (Zc J J (ht_p) J J J) J ?_;refine Ki (Qu J J J J J J) J ?_;refine Ki (Zc J J (ht_q) J J J) J ?_;refine Ki (Zc J J (hip) J J J) J ?_;refine Wz [219,169,169,215,9] ?_;refine AL.weak (st':=(⟨119,[(6,.o (.c (.ptr 1 0))),(7,B b),(10,.o (.c (.ptr 3 0))),(13,I (1+y.Parts.length)),(15,.o (.c (.ptr 5 0))),(100,.o (.ag [iv y.Tick,.ref 4])),(101,B b)],[.row 1 (els y.Parts),.box [iv y.Tick,.ref 0],.row 1 (els (markS y.Parts 1)),.box [iv y.Tick,.ref 2],.row 1 (els y.Parts),.box [iv 0,.rd [] (.v (.slice none 0 0))]]⟩:St)) (V0 [2,3,4,5,26,27] J ((by kernel_rfl)) (.c J (.c J (.c J (.c J (.c J (.c J (.c J (.nil))))))))) ?_;refine Wz [33,2,31,39] ?_;refine zx (Qj J J (hq1) J) J ?_;refine Wz [15,11,25,301,45,34,124] ?_;refine zx (Qj J J (hh) J) J ?_;refine Wz [59,18] ?_;refine zx (q_neqR J J J J) J ?_;refine Wz [47,98] ?_
 exact V3 J (V4 [] J J J)
end
section
open Go.ChangeShapes Go.WideShapes Go.ChangeAt Go.RowKit

def RL (w:World) (ts:List T) (cs:List Value):Prop:=∀ (j:Nat) (t:T) (u:Value),ts[j]? = some t→cs[j]? = some u→RO w (fun _=>True) t u
theorem RL.nil {w:World} {cs:List Value}:RL w [] cs:=fun _ _ _ h=>by simp at h
theorem RL.app {w:World} {ts us:List T} {cs:List Value} {o n:Nat} (h1:RL w ts ((cs.drop o).take n)) (hn:ts.length=n) (h2:RL w us (cs.drop (o+n))):RL w (ts++us) (cs.drop o):=fun j t u h3 h4=>by
 rcases Gqn j ts.length with hj | hj
 ·rw[Gqv hj] at h3
  exact h1 j t u h3 (by rw[Gxc,if_pos (by omega)]; exact h4)
 ·rw[Gqz hj] at h3
  refine h2 (j-ts.length) t u h3 ?_
  rw[Gxg] at h4 ⊢
  rw[←h4]
  congr 1
  omega
theorem Zw {P:Program} {t tt:TypeId} {fs:Array Field} {f:Field} {α:Type} [Enc α] {H:Type} {enc:TypeId×Value→H} {w:World} {spare:Nat→Bool} {held:Bool} {fuel:Nat} {cs:List Value} {x:DataW H×List MemPlace}
  (ht:P.underlying t=some (.struct fs)) (h:DataW.trod enc P w 0 spare held fuel t cs=some x) (i:Nat) (hf:fs[i]? = some f) (hty:f.type=tt) [hα:RdOf P tt α] {o:Nat} (ho:f.offset=o) :
  ∃ y:α,Enc.gd y∧RL w (Enc.e y) ((cs.drop o).take (Enc.k α)):=by
 obtain⟨xs,n,_,_,hl,hlen,hfs⟩:=DataW.trod_struct ht h
 have h1:=hfs i f hf
 have hi:i<fs.size:=by
  rcases Gqn i fs.size with h2 | h2
  ·exact h2
  ·rw[Array.getElem?_eq_none h2] at hf; cases hf
 rw[Gqe (by omega),hty,ho,hα.size] at h1
 obtain⟨y,hg,hr⟩:=hα.of h1
 exact⟨y,hg,hr.2⟩
theorem Zx {P:Program} {t:TypeId} {fs:Array Field} {H:Type} {enc:TypeId×Value→H} {w:World} {spare:Nat→Bool} {held:Bool} {fuel:Nat} {cs:List Value} {x:DataW H×List MemPlace}
  (ht:P.underlying t=some (.struct fs)) (h:DataW.trod enc P w 0 spare held fuel t cs=some x):cs.length=P.cellsOf t:=by
 obtain⟨xs,n,_,_,hl,_⟩:=DataW.trod_struct ht h
 exact hl

instance:RdOf Tryz.prog 3 Int:=rdOf_int Tryz.underlying3 (by kernel_rfl)
instance:RdOf Tryz.prog 9 ByteArray:=rdOf_string Tryz.underlying9 (by kernel_rfl)
instance:RdOf Tryz.prog 27 (List Int):=Zv Tryz.underlying27 (by kernel_rfl)
instance:RdOf Tryz.prog 24 (List ByteArray):=Zv Tryz.underlying24 (by kernel_rfl)
instance:RdOf Tryz.prog 31 (List (List Int)):=Zv Tryz.underlying31 (by kernel_rfl)
instance:RdOf Tryz.prog 71 TLevel where
 size:=by kernel_rfl
 of {H enc w spare held fuel cs x} h:=by
  obtain⟨y0,g0,r0⟩:=Zw (α:=(List ByteArray)) (tt:=24) Tryz.underlying71 h 0 rfl rfl rfl
  refine⟨⟨y0⟩,g0,?_,?_⟩
  ·rw[Zx Tryz.underlying71 h]; kernel_rfl
  ·exact (RL.app (o:=0) (n:=1) r0 rfl (RL.nil):RL w _ (cs.drop 0))
end
section
open Go.ChangeShapes Go.WideShapes Go.ChangeAt Go.RowKit

instance:RdOf Tryz.prog 237 TBody where
 size:=by kernel_rfl
 of {H enc w spare held fuel cs x} h:=by
  obtain⟨y0,g0,r0⟩:=Zw (α:=Int) (tt:=3) Tryz.underlying237 h 0 rfl rfl rfl
  obtain⟨y1,g1,r1⟩:=Zw (α:=Int) (tt:=3) Tryz.underlying237 h 1 rfl rfl rfl
  obtain⟨y2,g2,r2⟩:=Zw (α:=Int) (tt:=3) Tryz.underlying237 h 2 rfl rfl rfl
  obtain⟨y3,g3,r3⟩:=Zw (α:=Int) (tt:=3) Tryz.underlying237 h 3 rfl rfl rfl
  obtain⟨y4,g4,r4⟩:=Zw (α:=Int) (tt:=3) Tryz.underlying237 h 4 rfl rfl rfl
  obtain⟨y5,g5,r5⟩:=Zw (α:=Int) (tt:=3) Tryz.underlying237 h 5 rfl rfl rfl
  obtain⟨y6,g6,r6⟩:=Zw (α:=Int) (tt:=3) Tryz.underlying237 h 6 rfl rfl rfl
  obtain⟨y7,g7,r7⟩:=Zw (α:=Int) (tt:=3) Tryz.underlying237 h 7 rfl rfl rfl
  obtain⟨y8,g8,r8⟩:=Zw (α:=Int) (tt:=3) Tryz.underlying237 h 8 rfl rfl rfl
  refine⟨⟨y0,y1,y2,y3,y4,y5,y6,y7,y8⟩,⟨g0,g1,g2,g3,g4,g5,g6,g7,g8⟩,?_,?_⟩
  ·rw[Zx Tryz.underlying237 h]; kernel_rfl
  ·exact (RL.app (o:=0) (n:=1) r0 rfl (RL.app (o:=1) (n:=1) r1 rfl (RL.app (o:=2) (n:=1) r2 rfl (RL.app (o:=3) (n:=1) r3 rfl (RL.app (o:=4) (n:=1) r4 rfl (RL.app (o:=5) (n:=1) r5 rfl (RL.app (o:=6) (n:=1) r6 rfl (RL.app (o:=7) (n:=1) r7 rfl (RL.app (o:=8) (n:=1) r8 rfl (RL.nil))))))))):RL w _ (cs.drop 0))
instance:RdOf Tryz.prog 72 (List TBody):=Zv Tryz.underlying72 (by kernel_rfl)
instance:RdOf Tryz.prog 74 TWorld where
 size:=by kernel_rfl
 of {H enc w spare held fuel cs x} h:=by
  obtain⟨y0,g0,r0⟩:=Zw (α:=TLevel) (tt:=71) Tryz.underlying74 h 0 rfl rfl rfl
  obtain⟨y1,g1,r1⟩:=Zw (α:=Int) (tt:=3) Tryz.underlying74 h 1 rfl rfl rfl
  obtain⟨y2,g2,r2⟩:=Zw (α:=Int) (tt:=3) Tryz.underlying74 h 2 rfl rfl rfl
  obtain⟨y3,g3,r3⟩:=Zw (α:=(List Int)) (tt:=27) Tryz.underlying74 h 3 rfl rfl rfl
  obtain⟨y4,g4,r4⟩:=Zw (α:=(List TBody)) (tt:=72) Tryz.underlying74 h 4 rfl rfl rfl
  refine⟨⟨y0,y1,y2,y3,y4⟩,⟨g0,g1,g2,g3,g4⟩,?_,?_⟩
  ·rw[Zx Tryz.underlying74 h]; kernel_rfl
  ·exact (RL.app (o:=0) (n:=1) r0 rfl (RL.app (o:=1) (n:=1) r1 rfl (RL.app (o:=2) (n:=1) r2 rfl (RL.app (o:=3) (n:=1) r3 rfl (RL.app (o:=4) (n:=1) r4 rfl (RL.nil))))):RL w _ (cs.drop 0))
end
section
open Go.ChangeShapes Go.WideShapes Go.ChangeAt Go.RowKit

instance:RdOf Tryz.prog 203 TTrack where
 size:=by kernel_rfl
 of {H enc w spare held fuel cs x} h:=by
  obtain⟨y0,g0,r0⟩:=Zw (α:=(List Int)) (tt:=27) Tryz.underlying203 h 0 rfl rfl rfl
  refine⟨⟨y0⟩,g0,?_,?_⟩
  ·rw[Zx Tryz.underlying203 h]; kernel_rfl
  ·exact (RL.app (o:=0) (n:=1) r0 rfl (RL.nil):RL w _ (cs.drop 0))
instance:RdOf Tryz.prog 70 (List TTrack):=Zv Tryz.underlying70 (by kernel_rfl)
instance:RdOf Tryz.prog 207 TSave where
 size:=by kernel_rfl
 of {H enc w spare held fuel cs x} h:=by
  obtain⟨y0,g0,r0⟩:=Zw (α:=Int) (tt:=3) Tryz.underlying207 h 0 rfl rfl rfl
  obtain⟨y1,g1,r1⟩:=Zw (α:=ByteArray) (tt:=9) Tryz.underlying207 h 1 rfl rfl rfl
  refine⟨⟨y0,y1⟩,⟨g0,g1⟩,?_,?_⟩
  ·rw[Zx Tryz.underlying207 h]; kernel_rfl
  ·exact (RL.app (o:=0) (n:=1) r0 rfl (RL.app (o:=1) (n:=1) r1 rfl (RL.nil)):RL w _ (cs.drop 0))
instance:RdOf Tryz.prog 75 (List TSave):=Zv Tryz.underlying75 (by kernel_rfl)
instance:RdOf Tryz.prog 76 TFault where
 size:=by kernel_rfl
 of {H enc w spare held fuel cs x} h:=by
  obtain⟨y0,g0,r0⟩:=Zw (α:=Int) (tt:=3) Tryz.underlying76 h 0 rfl rfl rfl
  obtain⟨y1,g1,r1⟩:=Zw (α:=Int) (tt:=3) Tryz.underlying76 h 1 rfl rfl rfl
  obtain⟨y2,g2,r2⟩:=Zw (α:=Int) (tt:=3) Tryz.underlying76 h 2 rfl rfl rfl
  refine⟨⟨y0,y1,y2⟩,⟨g0,g1,g2⟩,?_,?_⟩
  ·rw[Zx Tryz.underlying76 h]; kernel_rfl
  ·exact (RL.app (o:=0) (n:=1) r0 rfl (RL.app (o:=1) (n:=1) r1 rfl (RL.app (o:=2) (n:=1) r2 rfl (RL.nil))):RL w _ (cs.drop 0))
instance:RdOf Tryz.prog 78 TPeer where
 size:=by kernel_rfl
 of {H enc w spare held fuel cs x} h:=by
  obtain⟨y0,g0,r0⟩:=Zw (α:=Int) (tt:=3) Tryz.underlying78 h 0 rfl rfl rfl
  obtain⟨y1,g1,r1⟩:=Zw (α:=Int) (tt:=3) Tryz.underlying78 h 1 rfl rfl rfl
  obtain⟨y2,g2,r2⟩:=Zw (α:=Int) (tt:=3) Tryz.underlying78 h 2 rfl rfl rfl
  obtain⟨y3,g3,r3⟩:=Zw (α:=Int) (tt:=3) Tryz.underlying78 h 3 rfl rfl rfl
  obtain⟨y4,g4,r4⟩:=Zw (α:=(List TTrack)) (tt:=70) Tryz.underlying78 h 4 rfl rfl rfl
  obtain⟨y5,g5,r5⟩:=Zw (α:=TWorld) (tt:=74) Tryz.underlying78 h 5 rfl rfl rfl
  obtain⟨y6,g6,r6⟩:=Zw (α:=TWorld) (tt:=74) Tryz.underlying78 h 6 rfl rfl rfl
  obtain⟨y7,g7,r7⟩:=Zw (α:=(List (List Int))) (tt:=31) Tryz.underlying78 h 7 rfl rfl rfl
  obtain⟨y8,g8,r8⟩:=Zw (α:=(List TSave)) (tt:=75) Tryz.underlying78 h 8 rfl rfl rfl
  obtain⟨y9,g9,r9⟩:=Zw (α:=(List Int)) (tt:=27) Tryz.underlying78 h 9 rfl rfl rfl
  obtain⟨y10,g10,r10⟩:=Zw (α:=TFault) (tt:=76) Tryz.underlying78 h 10 rfl rfl rfl
  obtain⟨y11,g11,r11⟩:=Zw (α:=Int) (tt:=3) Tryz.underlying78 h 11 rfl rfl rfl
  obtain⟨y12,g12,r12⟩:=Zw (α:=Int) (tt:=3) Tryz.underlying78 h 12 rfl rfl rfl
  refine⟨⟨y0,y1,y2,y3,y4,y5,y6,y7,y8,y9,y10,y11,y12⟩,⟨g0,g1,g2,g3,g4,g5,g6,g7,g8,g9,g10,g11,g12⟩,?_,?_⟩
  ·rw[Zx Tryz.underlying78 h]; kernel_rfl
  ·exact (RL.app (o:=0) (n:=1) r0 rfl (RL.app (o:=1) (n:=1) r1 rfl (RL.app (o:=2) (n:=1) r2 rfl (RL.app (o:=3) (n:=1) r3 rfl (RL.app (o:=4) (n:=1) r4 rfl (RL.app (o:=5) (n:=5) r5 rfl (RL.app (o:=10) (n:=5) r6 rfl (RL.app (o:=15) (n:=1) r7 rfl (RL.app (o:=16) (n:=1) r8 rfl (RL.app (o:=17) (n:=1) r9 rfl (RL.app (o:=18) (n:=3) r10 rfl (RL.app (o:=21) (n:=1) r11 rfl (RL.app (o:=22) (n:=1) r12 rfl (RL.nil))))))))))))):RL w _ (cs.drop 0))
end
end Go.Proofs.YtpmacgnmlmmojaaGreatDoor
