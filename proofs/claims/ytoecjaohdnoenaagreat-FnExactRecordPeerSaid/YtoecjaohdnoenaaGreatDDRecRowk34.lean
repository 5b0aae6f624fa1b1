/-
  Rules, data and contracts of functions: part 35 of the proof.
  Conditions: those that each theorem names.
-/
import Derived.Test.YtoecjaohdnoenaaGreatDDRecRowk33
set_option linter.unusedVariables false
set_option linter.unusedSimpArgs false
set_option maxRecDepth 8000
set_option maxHeartbeats 8000000
namespace Go.Proofs.YtoecjaohdnoenaaGreat
section
open Go.RowKit

theorem to_Peer (x:TPeer) (hg:Enc.wt x≤1048576):Con Tryz.prog 32 [] [ag x] [.row 1 (els x.Tracks),.row 1 (els x.Base.Level.Rows),.row 1 (els x.Base.Scores),.row 9 (els x.Base.Bodies),.row 1 (els x.Now.Level.Rows),.row 1 (els x.Now.Scores),.row 9 (els x.Now.Bodies),.row 1 (els x.Used),.row 2 (els x.Saves),.row 1 (els x.Sums)] (.o (.ag [.rd [] (.v (.int .i64 x.Me)),.rd [] (.v (.int .i64 x.Delay)),.rd [] (.v (.int .i64 x.Ahead)),.rd [] (.v (.int .i64 x.Seed)),.ref 0,.ref 1,.rd [] (.v (.int .i64 x.Base.Tick)),.rd [] (.v (.int .i64 x.Base.Seed)),.ref 2,.ref 3,.ref 4,.rd [] (.v (.int .i64 x.Now.Tick)),.rd [] (.v (.int .i64 x.Now.Seed)),.ref 5,.ref 6,.ref 7,.ref 8,.ref 9,.rd [] (.v (.int .i64 x.Fault.Tick)),.rd [] (.v (.int .i64 x.Fault.Player)),.rd [] (.v (.int .i64 x.Fault.Add)),.rd [] (.v (.int .i64 x.Rolls)),.rd [] (.v (.int .i64 x.Again))])):=by
 have hw:Enc.wt x=Enc.wt x.Tracks+Enc.wt x.Base+Enc.wt x.Now+Enc.wt x.Used+Enc.wt x.Saves+Enc.wt x.Sums+Enc.wt x.Fault:=rfl
 refine Con.of Tryz.func32 J Tryz.ntmps32 J (fun E => ?_)
 refine Wz [53,3,4,66,3,23,30,23,30,23,30,23,30,23] ?_;refine AL.weak (st':=(⟨_,[(1,.o (.c (.ptr 0 0))),(2,.o (.c (.ptr 1 0))),(3,.o (.c (.ptr 2 0))),(17,L x.Tracks)],[.box ((Enc.e x).map (V1.rd [])),.box [.rd [] (.v (.int .i64 0)),.rd [] (.v (.int .i64 0)),.rd [] (.v (.int .i64 0)),.rd [] (.v (.int .i64 0)),.rd [] (.v (.slice none 0 0)),.rd [] (.v (.slice none 0 0)),.rd [] (.v (.int .i64 0)),.rd [] (.v (.int .i64 0)),.rd [] (.v (.slice none 0 0)),.rd [] (.v (.slice none 0 0)),.rd [] (.v (.slice none 0 0)),.rd [] (.v (.int .i64 0)),.rd [] (.v (.int .i64 0)),.rd [] (.v (.slice none 0 0)),.rd [] (.v (.slice none 0 0)),.rd [] (.v (.slice none 0 0)),.rd [] (.v (.slice none 0 0)),.rd [] (.v (.slice none 0 0)),.rd [] (.v (.int .i64 0)),.rd [] (.v (.int .i64 0)),.rd [] (.v (.int .i64 0)),.rd [] (.v (.int .i64 0)),.rd [] (.v (.int .i64 0))],.box [.rd [] (.v (.int .i64 x.Me)),.rd [] (.v (.int .i64 x.Delay)),.rd [] (.v (.int .i64 x.Ahead)),.rd [] (.v (.int .i64 x.Seed)),.rd [] (.v (.slice none 0 0)),.rd [] (.v (.slice none 0 0)),.rd [] (.v (.int .i64 0)),.rd [] (.v (.int .i64 0)),.rd [] (.v (.slice none 0 0)),.rd [] (.v (.slice none 0 0)),.rd [] (.v (.slice none 0 0)),.rd [] (.v (.int .i64 0)),.rd [] (.v (.int .i64 0)),.rd [] (.v (.slice none 0 0)),.rd [] (.v (.slice none 0 0)),.rd [] (.v (.slice none 0 0)),.rd [] (.v (.slice none 0 0)),.rd [] (.v (.slice none 0 0)),.rd [] (.v (.int .i64 0)),.rd [] (.v (.int .i64 0)),.rd [] (.v (.int .i64 0)),.rd [] (.v (.int .i64 0)),.rd [] (.v (.int .i64 0))]]⟩:St)) (Gi [0,1,2]) ?_;refine M1 (Z3 J J (to_TrackS x.Tracks (by omega)) J J J) J J ?_;refine Wz [30,185] ?_;refine AL.weak (st':=(⟨_,[(1,.o (.c (.ptr 0 0))),(2,.o (.c (.ptr 1 0))),(3,.o (.c (.ptr 2 0))),(21,.o (.ag ((Enc.e x.Base).map (V1.rd []))))],[.box ((Enc.e x).map (V1.rd [])),.box [.rd [] (.v (.int .i64 0)),.rd [] (.v (.int .i64 0)),.rd [] (.v (.int .i64 0)),.rd [] (.v (.int .i64 0)),.rd [] (.v (.slice none 0 0)),.rd [] (.v (.slice none 0 0)),.rd [] (.v (.int .i64 0)),.rd [] (.v (.int .i64 0)),.rd [] (.v (.slice none 0 0)),.rd [] (.v (.slice none 0 0)),.rd [] (.v (.slice none 0 0)),.rd [] (.v (.int .i64 0)),.rd [] (.v (.int .i64 0)),.rd [] (.v (.slice none 0 0)),.rd [] (.v (.slice none 0 0)),.rd [] (.v (.slice none 0 0)),.rd [] (.v (.slice none 0 0)),.rd [] (.v (.slice none 0 0)),.rd [] (.v (.int .i64 0)),.rd [] (.v (.int .i64 0)),.rd [] (.v (.int .i64 0)),.rd [] (.v (.int .i64 0)),.rd [] (.v (.int .i64 0))],.box [.rd [] (.v (.int .i64 x.Me)),.rd [] (.v (.int .i64 x.Delay)),.rd [] (.v (.int .i64 x.Ahead)),.rd [] (.v (.int .i64 x.Seed)),.ref 3,.rd [] (.v (.slice none 0 0)),.rd [] (.v (.int .i64 0)),.rd [] (.v (.int .i64 0)),.rd [] (.v (.slice none 0 0)),.rd [] (.v (.slice none 0 0)),.rd [] (.v (.slice none 0 0)),.rd [] (.v (.int .i64 0)),.rd [] (.v (.int .i64 0)),.rd [] (.v (.slice none 0 0)),.rd [] (.v (.slice none 0 0)),.rd [] (.v (.slice none 0 0)),.rd [] (.v (.slice none 0 0)),.rd [] (.v (.slice none 0 0)),.rd [] (.v (.int .i64 0)),.rd [] (.v (.int .i64 0)),.rd [] (.v (.int .i64 0)),.rd [] (.v (.int .i64 0)),.rd [] (.v (.int .i64 0))],.row 1 (els x.Tracks)]⟩:St)) (Gi [0,1,2,3]) ?_;refine M1 (Z3 J J (to_World x.Base (by omega)) J J J) J J ?_;refine Wz [159,56,185] ?_;refine AL.weak (st':=(⟨_,[(1,.o (.c (.ptr 0 0))),(2,.o (.c (.ptr 1 0))),(3,.o (.c (.ptr 2 0))),(25,.o (.ag ((Enc.e x.Now).map (V1.rd []))))],[.box ((Enc.e x).map (V1.rd [])),.box [.rd [] (.v (.int .i64 0)),.rd [] (.v (.int .i64 0)),.rd [] (.v (.int .i64 0)),.rd [] (.v (.int .i64 0)),.rd [] (.v (.slice none 0 0)),.rd [] (.v (.slice none 0 0)),.rd [] (.v (.int .i64 0)),.rd [] (.v (.int .i64 0)),.rd [] (.v (.slice none 0 0)),.rd [] (.v (.slice none 0 0)),.rd [] (.v (.slice none 0 0)),.rd [] (.v (.int .i64 0)),.rd [] (.v (.int .i64 0)),.rd [] (.v (.slice none 0 0)),.rd [] (.v (.slice none 0 0)),.rd [] (.v (.slice none 0 0)),.rd [] (.v (.slice none 0 0)),.rd [] (.v (.slice none 0 0)),.rd [] (.v (.int .i64 0)),.rd [] (.v (.int .i64 0)),.rd [] (.v (.int .i64 0)),.rd [] (.v (.int .i64 0)),.rd [] (.v (.int .i64 0))],.box [.rd [] (.v (.int .i64 x.Me)),.rd [] (.v (.int .i64 x.Delay)),.rd [] (.v (.int .i64 x.Ahead)),.rd [] (.v (.int .i64 x.Seed)),.ref 3,.ref 4,.rd [] (.v (.int .i64 x.Base.Tick)),.rd [] (.v (.int .i64 x.Base.Seed)),.ref 5,.ref 6,.rd [] (.v (.slice none 0 0)),.rd [] (.v (.int .i64 0)),.rd [] (.v (.int .i64 0)),.rd [] (.v (.slice none 0 0)),.rd [] (.v (.slice none 0 0)),.rd [] (.v (.slice none 0 0)),.rd [] (.v (.slice none 0 0)),.rd [] (.v (.slice none 0 0)),.rd [] (.v (.int .i64 0)),.rd [] (.v (.int .i64 0)),.rd [] (.v (.int .i64 0)),.rd [] (.v (.int .i64 0)),.rd [] (.v (.int .i64 0))],.row 1 (els x.Tracks),.row 1 (els x.Base.Level.Rows),.row 1 (els x.Base.Scores),.row 9 (els x.Base.Bodies)]⟩:St)) (Gi [0,1,2,3,4,5,6]) ?_;refine M1 (Z3 J J (to_World x.Now (by omega)) J J J) J J ?_;refine Wz [159,56,23] ?_;refine AL.weak (st':=(⟨_,[(1,.o (.c (.ptr 0 0))),(2,.o (.c (.ptr 1 0))),(3,.o (.c (.ptr 2 0))),(29,L x.Used)],[.box ((Enc.e x).map (V1.rd [])),.box [.rd [] (.v (.int .i64 0)),.rd [] (.v (.int .i64 0)),.rd [] (.v (.int .i64 0)),.rd [] (.v (.int .i64 0)),.rd [] (.v (.slice none 0 0)),.rd [] (.v (.slice none 0 0)),.rd [] (.v (.int .i64 0)),.rd [] (.v (.int .i64 0)),.rd [] (.v (.slice none 0 0)),.rd [] (.v (.slice none 0 0)),.rd [] (.v (.slice none 0 0)),.rd [] (.v (.int .i64 0)),.rd [] (.v (.int .i64 0)),.rd [] (.v (.slice none 0 0)),.rd [] (.v (.slice none 0 0)),.rd [] (.v (.slice none 0 0)),.rd [] (.v (.slice none 0 0)),.rd [] (.v (.slice none 0 0)),.rd [] (.v (.int .i64 0)),.rd [] (.v (.int .i64 0)),.rd [] (.v (.int .i64 0)),.rd [] (.v (.int .i64 0)),.rd [] (.v (.int .i64 0))],.box [.rd [] (.v (.int .i64 x.Me)),.rd [] (.v (.int .i64 x.Delay)),.rd [] (.v (.int .i64 x.Ahead)),.rd [] (.v (.int .i64 x.Seed)),.ref 3,.ref 4,.rd [] (.v (.int .i64 x.Base.Tick)),.rd [] (.v (.int .i64 x.Base.Seed)),.ref 5,.ref 6,.ref 7,.rd [] (.v (.int .i64 x.Now.Tick)),.rd [] (.v (.int .i64 x.Now.Seed)),.ref 8,.ref 9,.rd [] (.v (.slice none 0 0)),.rd [] (.v (.slice none 0 0)),.rd [] (.v (.slice none 0 0)),.rd [] (.v (.int .i64 0)),.rd [] (.v (.int .i64 0)),.rd [] (.v (.int .i64 0)),.rd [] (.v (.int .i64 0)),.rd [] (.v (.int .i64 0))],.row 1 (els x.Tracks),.row 1 (els x.Base.Level.Rows),.row 1 (els x.Base.Scores),.row 9 (els x.Base.Bodies),.row 1 (els x.Now.Level.Rows),.row 1 (els x.Now.Scores),.row 9 (els x.Now.Bodies)]⟩:St)) (Gi [0,1,2,3,4,5,6,7,8,9]) ?_;refine M1 (Z3 J J (to_IntSS x.Used (by omega)) J J J) J J ?_;refine Wz [30,23] ?_;refine AL.weak (st':=(⟨_,[(1,.o (.c (.ptr 0 0))),(2,.o (.c (.ptr 1 0))),(3,.o (.c (.ptr 2 0))),(33,L x.Saves)],[.box ((Enc.e x).map (V1.rd [])),.box [.rd [] (.v (.int .i64 0)),.rd [] (.v (.int .i64 0)),.rd [] (.v (.int .i64 0)),.rd [] (.v (.int .i64 0)),.rd [] (.v (.slice none 0 0)),.rd [] (.v (.slice none 0 0)),.rd [] (.v (.int .i64 0)),.rd [] (.v (.int .i64 0)),.rd [] (.v (.slice none 0 0)),.rd [] (.v (.slice none 0 0)),.rd [] (.v (.slice none 0 0)),.rd [] (.v (.int .i64 0)),.rd [] (.v (.int .i64 0)),.rd [] (.v (.slice none 0 0)),.rd [] (.v (.slice none 0 0)),.rd [] (.v (.slice none 0 0)),.rd [] (.v (.slice none 0 0)),.rd [] (.v (.slice none 0 0)),.rd [] (.v (.int .i64 0)),.rd [] (.v (.int .i64 0)),.rd [] (.v (.int .i64 0)),.rd [] (.v (.int .i64 0)),.rd [] (.v (.int .i64 0))],.box [.rd [] (.v (.int .i64 x.Me)),.rd [] (.v (.int .i64 x.Delay)),.rd [] (.v (.int .i64 x.Ahead)),.rd [] (.v (.int .i64 x.Seed)),.ref 3,.ref 4,.rd [] (.v (.int .i64 x.Base.Tick)),.rd [] (.v (.int .i64 x.Base.Seed)),.ref 5,.ref 6,.ref 7,.rd [] (.v (.int .i64 x.Now.Tick)),.rd [] (.v (.int .i64 x.Now.Seed)),.ref 8,.ref 9,.ref 10,.rd [] (.v (.slice none 0 0)),.rd [] (.v (.slice none 0 0)),.rd [] (.v (.int .i64 0)),.rd [] (.v (.int .i64 0)),.rd [] (.v (.int .i64 0)),.rd [] (.v (.int .i64 0)),.rd [] (.v (.int .i64 0))],.row 1 (els x.Tracks),.row 1 (els x.Base.Level.Rows),.row 1 (els x.Base.Scores),.row 9 (els x.Base.Bodies),.row 1 (els x.Now.Level.Rows),.row 1 (els x.Now.Scores),.row 9 (els x.Now.Bodies),.row 1 (els x.Used)]⟩:St)) (Gi [0,1,2,3,4,5,6,7,8,9,10]) ?_;refine M1 (Z3 J J (to_SaveS x.Saves (by omega)) J J J) J J ?_;refine Wz [30,23] ?_;refine AL.weak (st':=(⟨_,[(1,.o (.c (.ptr 0 0))),(2,.o (.c (.ptr 1 0))),(3,.o (.c (.ptr 2 0))),(37,L x.Sums)],[.box ((Enc.e x).map (V1.rd [])),.box [.rd [] (.v (.int .i64 0)),.rd [] (.v (.int .i64 0)),.rd [] (.v (.int .i64 0)),.rd [] (.v (.int .i64 0)),.rd [] (.v (.slice none 0 0)),.rd [] (.v (.slice none 0 0)),.rd [] (.v (.int .i64 0)),.rd [] (.v (.int .i64 0)),.rd [] (.v (.slice none 0 0)),.rd [] (.v (.slice none 0 0)),.rd [] (.v (.slice none 0 0)),.rd [] (.v (.int .i64 0)),.rd [] (.v (.int .i64 0)),.rd [] (.v (.slice none 0 0)),.rd [] (.v (.slice none 0 0)),.rd [] (.v (.slice none 0 0)),.rd [] (.v (.slice none 0 0)),.rd [] (.v (.slice none 0 0)),.rd [] (.v (.int .i64 0)),.rd [] (.v (.int .i64 0)),.rd [] (.v (.int .i64 0)),.rd [] (.v (.int .i64 0)),.rd [] (.v (.int .i64 0))],.box [.rd [] (.v (.int .i64 x.Me)),.rd [] (.v (.int .i64 x.Delay)),.rd [] (.v (.int .i64 x.Ahead)),.rd [] (.v (.int .i64 x.Seed)),.ref 3,.ref 4,.rd [] (.v (.int .i64 x.Base.Tick)),.rd [] (.v (.int .i64 x.Base.Seed)),.ref 5,.ref 6,.ref 7,.rd [] (.v (.int .i64 x.Now.Tick)),.rd [] (.v (.int .i64 x.Now.Seed)),.ref 8,.ref 9,.ref 10,.ref 11,.rd [] (.v (.slice none 0 0)),.rd [] (.v (.int .i64 0)),.rd [] (.v (.int .i64 0)),.rd [] (.v (.int .i64 0)),.rd [] (.v (.int .i64 0)),.rd [] (.v (.int .i64 0))],.row 1 (els x.Tracks),.row 1 (els x.Base.Level.Rows),.row 1 (els x.Base.Scores),.row 9 (els x.Base.Bodies),.row 1 (els x.Now.Level.Rows),.row 1 (els x.Now.Scores),.row 9 (els x.Now.Bodies),.row 1 (els x.Used),.row 2 (els x.Saves)]⟩:St)) (Gi [0,1,2,3,4,5,6,7,8,9,10,11]) ?_;refine M1 (Z3 J J (to_IntS x.Sums (by omega)) J J J) J J ?_;refine Wz [30,185] ?_;refine AL.weak (st':=(⟨_,[(1,.o (.c (.ptr 0 0))),(2,.o (.c (.ptr 1 0))),(3,.o (.c (.ptr 2 0))),(41,.o (.ag ((Enc.e x.Fault).map (V1.rd []))))],[.box ((Enc.e x).map (V1.rd [])),.box [.rd [] (.v (.int .i64 0)),.rd [] (.v (.int .i64 0)),.rd [] (.v (.int .i64 0)),.rd [] (.v (.int .i64 0)),.rd [] (.v (.slice none 0 0)),.rd [] (.v (.slice none 0 0)),.rd [] (.v (.int .i64 0)),.rd [] (.v (.int .i64 0)),.rd [] (.v (.slice none 0 0)),.rd [] (.v (.slice none 0 0)),.rd [] (.v (.slice none 0 0)),.rd [] (.v (.int .i64 0)),.rd [] (.v (.int .i64 0)),.rd [] (.v (.slice none 0 0)),.rd [] (.v (.slice none 0 0)),.rd [] (.v (.slice none 0 0)),.rd [] (.v (.slice none 0 0)),.rd [] (.v (.slice none 0 0)),.rd [] (.v (.int .i64 0)),.rd [] (.v (.int .i64 0)),.rd [] (.v (.int .i64 0)),.rd [] (.v (.int .i64 0)),.rd [] (.v (.int .i64 0))],.box [.rd [] (.v (.int .i64 x.Me)),.rd [] (.v (.int .i64 x.Delay)),.rd [] (.v (.int .i64 x.Ahead)),.rd [] (.v (.int .i64 x.Seed)),.ref 3,.ref 4,.rd [] (.v (.int .i64 x.Base.Tick)),.rd [] (.v (.int .i64 x.Base.Seed)),.ref 5,.ref 6,.ref 7,.rd [] (.v (.int .i64 x.Now.Tick)),.rd [] (.v (.int .i64 x.Now.Seed)),.ref 8,.ref 9,.ref 10,.ref 11,.ref 12,.rd [] (.v (.int .i64 0)),.rd [] (.v (.int .i64 0)),.rd [] (.v (.int .i64 0)),.rd [] (.v (.int .i64 0)),.rd [] (.v (.int .i64 0))],.row 1 (els x.Tracks),.row 1 (els x.Base.Level.Rows),.row 1 (els x.Base.Scores),.row 9 (els x.Base.Bodies),.row 1 (els x.Now.Level.Rows),.row 1 (els x.Now.Scores),.row 9 (els x.Now.Bodies),.row 1 (els x.Used),.row 2 (els x.Saves),.row 1 (els x.Sums)]⟩:St)) (Gi [0,1,2,3,4,5,6,7,8,9,10,11,12]) ?_;refine M1 (Z3 J J (to_Fault x.Fault (by omega)) J J J) J J ?_;refine AL.weak (st':=(⟨_,[(1,.o (.c (.ptr 0 0))),(2,.o (.c (.ptr 1 0))),(3,.o (.c (.ptr 2 0))),(42,.o (.ag ((Enc.e x.Fault).map (V1.rd []))))],[.box ((Enc.e x).map (V1.rd [])),.box [.rd [] (.v (.int .i64 0)),.rd [] (.v (.int .i64 0)),.rd [] (.v (.int .i64 0)),.rd [] (.v (.int .i64 0)),.rd [] (.v (.slice none 0 0)),.rd [] (.v (.slice none 0 0)),.rd [] (.v (.int .i64 0)),.rd [] (.v (.int .i64 0)),.rd [] (.v (.slice none 0 0)),.rd [] (.v (.slice none 0 0)),.rd [] (.v (.slice none 0 0)),.rd [] (.v (.int .i64 0)),.rd [] (.v (.int .i64 0)),.rd [] (.v (.slice none 0 0)),.rd [] (.v (.slice none 0 0)),.rd [] (.v (.slice none 0 0)),.rd [] (.v (.slice none 0 0)),.rd [] (.v (.slice none 0 0)),.rd [] (.v (.int .i64 0)),.rd [] (.v (.int .i64 0)),.rd [] (.v (.int .i64 0)),.rd [] (.v (.int .i64 0)),.rd [] (.v (.int .i64 0))],.box [.rd [] (.v (.int .i64 x.Me)),.rd [] (.v (.int .i64 x.Delay)),.rd [] (.v (.int .i64 x.Ahead)),.rd [] (.v (.int .i64 x.Seed)),.ref 3,.ref 4,.rd [] (.v (.int .i64 x.Base.Tick)),.rd [] (.v (.int .i64 x.Base.Seed)),.ref 5,.ref 6,.ref 7,.rd [] (.v (.int .i64 x.Now.Tick)),.rd [] (.v (.int .i64 x.Now.Seed)),.ref 8,.ref 9,.ref 10,.ref 11,.ref 12,.rd [] (.v (.int .i64 0)),.rd [] (.v (.int .i64 0)),.rd [] (.v (.int .i64 0)),.rd [] (.v (.int .i64 0)),.rd [] (.v (.int .i64 0))],.row 1 (els x.Tracks),.row 1 (els x.Base.Level.Rows),.row 1 (els x.Base.Scores),.row 9 (els x.Base.Bodies),.row 1 (els x.Now.Level.Rows),.row 1 (els x.Now.Scores),.row 9 (els x.Now.Bodies),.row 1 (els x.Used),.row 2 (els x.Saves),.row 1 (els x.Sums)]⟩:St)) (Gi [0,1,2,3,4,5,6,7,8,9,10,11,12]) ?_;refine Wz [159,56,23,30,23,30,4] ?_;refine AL.weak (st':=(⟨_,[(2,.o (.c (.ptr 1 0))),(3,.o (.c (.ptr 2 0)))],[.box ((Enc.e x).map (V1.rd [])),.box [.rd [] (.v (.int .i64 0)),.rd [] (.v (.int .i64 0)),.rd [] (.v (.int .i64 0)),.rd [] (.v (.int .i64 0)),.rd [] (.v (.slice none 0 0)),.rd [] (.v (.slice none 0 0)),.rd [] (.v (.int .i64 0)),.rd [] (.v (.int .i64 0)),.rd [] (.v (.slice none 0 0)),.rd [] (.v (.slice none 0 0)),.rd [] (.v (.slice none 0 0)),.rd [] (.v (.int .i64 0)),.rd [] (.v (.int .i64 0)),.rd [] (.v (.slice none 0 0)),.rd [] (.v (.slice none 0 0)),.rd [] (.v (.slice none 0 0)),.rd [] (.v (.slice none 0 0)),.rd [] (.v (.slice none 0 0)),.rd [] (.v (.int .i64 0)),.rd [] (.v (.int .i64 0)),.rd [] (.v (.int .i64 0)),.rd [] (.v (.int .i64 0)),.rd [] (.v (.int .i64 0))],.box [.rd [] (.v (.int .i64 x.Me)),.rd [] (.v (.int .i64 x.Delay)),.rd [] (.v (.int .i64 x.Ahead)),.rd [] (.v (.int .i64 x.Seed)),.ref 3,.ref 4,.rd [] (.v (.int .i64 x.Base.Tick)),.rd [] (.v (.int .i64 x.Base.Seed)),.ref 5,.ref 6,.ref 7,.rd [] (.v (.int .i64 x.Now.Tick)),.rd [] (.v (.int .i64 x.Now.Seed)),.ref 8,.ref 9,.ref 10,.ref 11,.ref 12,.rd [] (.v (.int .i64 x.Fault.Tick)),.rd [] (.v (.int .i64 x.Fault.Player)),.rd [] (.v (.int .i64 x.Fault.Add)),.rd [] (.v (.int .i64 x.Rolls)),.rd [] (.v (.int .i64 x.Again))],.row 1 (els x.Tracks),.row 1 (els x.Base.Level.Rows),.row 1 (els x.Base.Scores),.row 9 (els x.Base.Bodies),.row 1 (els x.Now.Level.Rows),.row 1 (els x.Now.Scores),.row 9 (els x.Now.Bodies),.row 1 (els x.Used),.row 2 (els x.Saves),.row 1 (els x.Sums)]⟩:St)) (Gi [0,1,2,3,4,5,6,7,8,9,10,11,12]) ?_;refine z4 J J J ?_;refine AL.weak (st':=(⟨_,[(2,.o (.c (.ptr 1 0))),(50,.o (.ag [.rd [] (.v (.int .i64 x.Me)),.rd [] (.v (.int .i64 x.Delay)),.rd [] (.v (.int .i64 x.Ahead)),.rd [] (.v (.int .i64 x.Seed)),.ref 3,.ref 4,.rd [] (.v (.int .i64 x.Base.Tick)),.rd [] (.v (.int .i64 x.Base.Seed)),.ref 5,.ref 6,.ref 7,.rd [] (.v (.int .i64 x.Now.Tick)),.rd [] (.v (.int .i64 x.Now.Seed)),.ref 8,.ref 9,.ref 10,.ref 11,.ref 12,.rd [] (.v (.int .i64 x.Fault.Tick)),.rd [] (.v (.int .i64 x.Fault.Player)),.rd [] (.v (.int .i64 x.Fault.Add)),.rd [] (.v (.int .i64 x.Rolls)),.rd [] (.v (.int .i64 x.Again))]))],[.box ((Enc.e x).map (V1.rd [])),.box [.rd [] (.v (.int .i64 0)),.rd [] (.v (.int .i64 0)),.rd [] (.v (.int .i64 0)),.rd [] (.v (.int .i64 0)),.rd [] (.v (.slice none 0 0)),.rd [] (.v (.slice none 0 0)),.rd [] (.v (.int .i64 0)),.rd [] (.v (.int .i64 0)),.rd [] (.v (.slice none 0 0)),.rd [] (.v (.slice none 0 0)),.rd [] (.v (.slice none 0 0)),.rd [] (.v (.int .i64 0)),.rd [] (.v (.int .i64 0)),.rd [] (.v (.slice none 0 0)),.rd [] (.v (.slice none 0 0)),.rd [] (.v (.slice none 0 0)),.rd [] (.v (.slice none 0 0)),.rd [] (.v (.slice none 0 0)),.rd [] (.v (.int .i64 0)),.rd [] (.v (.int .i64 0)),.rd [] (.v (.int .i64 0)),.rd [] (.v (.int .i64 0)),.rd [] (.v (.int .i64 0))],.box [.rd [] (.v (.int .i64 x.Me)),.rd [] (.v (.int .i64 x.Delay)),.rd [] (.v (.int .i64 x.Ahead)),.rd [] (.v (.int .i64 x.Seed)),.ref 3,.ref 4,.rd [] (.v (.int .i64 x.Base.Tick)),.rd [] (.v (.int .i64 x.Base.Seed)),.ref 5,.ref 6,.ref 7,.rd [] (.v (.int .i64 x.Now.Tick)),.rd [] (.v (.int .i64 x.Now.Seed)),.ref 8,.ref 9,.ref 10,.ref 11,.ref 12,.rd [] (.v (.int .i64 x.Fault.Tick)),.rd [] (.v (.int .i64 x.Fault.Player)),.rd [] (.v (.int .i64 x.Fault.Add)),.rd [] (.v (.int .i64 x.Rolls)),.rd [] (.v (.int .i64 x.Again))],.row 1 (els x.Tracks),.row 1 (els x.Base.Level.Rows),.row 1 (els x.Base.Scores),.row 9 (els x.Base.Bodies),.row 1 (els x.Now.Level.Rows),.row 1 (els x.Now.Scores),.row 9 (els x.Now.Bodies),.row 1 (els x.Used),.row 2 (els x.Saves),.row 1 (els x.Sums)]⟩:St)) (Gi [0,1,2,3,4,5,6,7,8,9,10,11,12]) ?_;refine Qy J J J J J J J J J ?_;refine AL.weak (st':=(⟨_,[(2,.o (.c (.ptr 1 0)))],[.box ((Enc.e x).map (V1.rd [])),.box [.rd [] (.v (.int .i64 x.Me)),.rd [] (.v (.int .i64 x.Delay)),.rd [] (.v (.int .i64 x.Ahead)),.rd [] (.v (.int .i64 x.Seed)),.ref 3,.ref 4,.rd [] (.v (.int .i64 x.Base.Tick)),.rd [] (.v (.int .i64 x.Base.Seed)),.ref 5,.ref 6,.ref 7,.rd [] (.v (.int .i64 x.Now.Tick)),.rd [] (.v (.int .i64 x.Now.Seed)),.ref 8,.ref 9,.ref 10,.ref 11,.ref 12,.rd [] (.v (.int .i64 x.Fault.Tick)),.rd [] (.v (.int .i64 x.Fault.Player)),.rd [] (.v (.int .i64 x.Fault.Add)),.rd [] (.v (.int .i64 x.Rolls)),.rd [] (.v (.int .i64 x.Again))],.box [.rd [] (.v (.int .i64 x.Me)),.rd [] (.v (.int .i64 x.Delay)),.rd [] (.v (.int .i64 x.Ahead)),.rd [] (.v (.int .i64 x.Seed)),.ref 3,.ref 4,.rd [] (.v (.int .i64 x.Base.Tick)),.rd [] (.v (.int .i64 x.Base.Seed)),.ref 5,.ref 6,.ref 7,.rd [] (.v (.int .i64 x.Now.Tick)),.rd [] (.v (.int .i64 x.Now.Seed)),.ref 8,.ref 9,.ref 10,.ref 11,.ref 12,.rd [] (.v (.int .i64 x.Fault.Tick)),.rd [] (.v (.int .i64 x.Fault.Player)),.rd [] (.v (.int .i64 x.Fault.Add)),.rd [] (.v (.int .i64 x.Rolls)),.rd [] (.v (.int .i64 x.Again))],.row 1 (els x.Tracks),.row 1 (els x.Base.Level.Rows),.row 1 (els x.Base.Scores),.row 9 (els x.Base.Bodies),.row 1 (els x.Now.Level.Rows),.row 1 (els x.Now.Scores),.row 9 (els x.Now.Bodies),.row 1 (els x.Used),.row 2 (els x.Saves),.row 1 (els x.Sums)]⟩:St)) (Ga [0,1,2,3,4,5,6,7,8,9,10,11,12] J ((by kernel_rfl)) (.c J (.nil))) ?_;refine Wz [3,74,48] ?_;refine Xm (cs := [.rd [] (.v (.int .i64 x.Me)),.rd [] (.v (.int .i64 x.Delay)),.rd [] (.v (.int .i64 x.Ahead)),.rd [] (.v (.int .i64 x.Seed)),.ref 3,.ref 4,.rd [] (.v (.int .i64 x.Base.Tick)),.rd [] (.v (.int .i64 x.Base.Seed)),.ref 5,.ref 6,.ref 7,.rd [] (.v (.int .i64 x.Now.Tick)),.rd [] (.v (.int .i64 x.Now.Seed)),.ref 8,.ref 9,.ref 10,.ref 11,.ref 12,.rd [] (.v (.int .i64 x.Fault.Tick)),.rd [] (.v (.int .i64 x.Fault.Player)),.rd [] (.v (.int .i64 x.Fault.Add)),.rd [] (.v (.int .i64 x.Rolls)),.rd [] (.v (.int .i64 x.Again))]) J J J J ?_
 exact Gc [3,4,5,6,7,8,9,10,11,12] J (by kernel_rfl) (by kernel_rfl)
theorem sz_Peer (x:TPeer) (left:Int) (hg:Enc.gd x) (h0:0≤left) (h1:left≤1048576):Con Tryz.prog 30 [] [ag x,ai left] [] (I (szr (Enc.wt x) left)):=by
 obtain⟨g_Me,g_Delay,g_Ahead,g_Seed,g_Tracks,g_Base,g_Now,g_Used,g_Saves,g_Sums,g_Fault,g_Rolls,g_Again⟩:=hg
 have hw:Enc.wt x=Enc.wt x.Tracks+Enc.wt x.Base+Enc.wt x.Now+Enc.wt x.Used+Enc.wt x.Saves+Enc.wt x.Sums+Enc.wt x.Fault:=rfl
 have hm1:decide ((-1:Int)<0)=true:=rfl
 have hz_Fault:Enc.wt x.Fault=0:=rfl
 have hc_Tracks:=sz_TrackS x.Tracks (left) g_Tracks (by omega) (by omega)
 by_cases n_Tracks:left<Enc.wt x.Tracks
 ·rw[K7 n_Tracks] at hc_Tracks
  refine Con.of Tryz.func30 J Tryz.ntmps30 J (fun E => ?_)
  refine Wz [82,52] ?_;refine zx (Qj J J (hc_Tracks) J) J ?_;refine Wz [148,39] ?_
  exact Gb J (Gc [] J J (Xz (by rw[Gd])))
 rw[Ge] at hc_Tracks
 have hb_Tracks:decide (left-Enc.wt x.Tracks<0)=false:=Gqa (by omega)
 have hc_Base:=sz_World x.Base (left-Enc.wt x.Tracks) g_Base (by omega) (by omega)
 by_cases n_Base:left-Enc.wt x.Tracks<Enc.wt x.Base
 ·rw[K7 n_Base] at hc_Base
  refine Con.of Tryz.func30 J Tryz.ntmps30 J (fun E => ?_)
  refine Wz [82,52] ?_;refine zx (Qj J J (hc_Tracks) J) J ?_;refine Wz [91,120] ?_;refine zx (Qj J J (hc_Base) J) J ?_;refine Wz [148,39] ?_
  exact Gb J (Gc [] J J (Xz (by rw[Gd])))
 rw[Ge] at hc_Base
 have hb_Base:decide (left-Enc.wt x.Tracks-Enc.wt x.Base<0)=false:=Gqa (by omega)
 have hc_Now:=sz_World x.Now (left-Enc.wt x.Tracks-Enc.wt x.Base) g_Now (by omega) (by omega)
 by_cases n_Now:left-Enc.wt x.Tracks-Enc.wt x.Base<Enc.wt x.Now
 ·rw[K7 n_Now] at hc_Now
  refine Con.of Tryz.func30 J Tryz.ntmps30 J (fun E => ?_)
  refine Wz [82,52] ?_;refine zx (Qj J J (hc_Tracks) J) J ?_;refine Wz [91,120] ?_;refine zx (Qj J J (hc_Base) J) J ?_;refine Wz [91,120] ?_;refine zx (Qj J J (hc_Now) J) J ?_;refine Wz [148,39] ?_
  exact Gb J (Gc [] J J (Xz (by rw[Gd])))
 rw[Ge] at hc_Now
 have hb_Now:decide (left-Enc.wt x.Tracks-Enc.wt x.Base-Enc.wt x.Now<0)=false:=Gqa (by omega)
 have hc_Used:=sz_IntSS x.Used (left-Enc.wt x.Tracks-Enc.wt x.Base-Enc.wt x.Now) g_Used (by omega) (by omega)
 by_cases n_Used:left-Enc.wt x.Tracks-Enc.wt x.Base-Enc.wt x.Now<Enc.wt x.Used
 ·rw[K7 n_Used] at hc_Used
  refine Con.of Tryz.func30 J Tryz.ntmps30 J (fun E => ?_)
  refine Wz [82,52] ?_;refine zx (Qj J J (hc_Tracks) J) J ?_;refine Wz [91,120] ?_;refine zx (Qj J J (hc_Base) J) J ?_;refine Wz [91,120] ?_;refine zx (Qj J J (hc_Now) J) J ?_;refine Wz [91,52] ?_;refine zx (Qj J J (hc_Used) J) J ?_;refine Wz [148,39] ?_
  exact Gb J (Gc [] J J (Xz (by rw[Gd])))
 rw[Ge] at hc_Used
 have hb_Used:decide (left-Enc.wt x.Tracks-Enc.wt x.Base-Enc.wt x.Now-Enc.wt x.Used<0)=false:=Gqa (by omega)
 have hc_Saves:=sz_SaveS x.Saves (left-Enc.wt x.Tracks-Enc.wt x.Base-Enc.wt x.Now-Enc.wt x.Used) g_Saves (by omega) (by omega)
 by_cases n_Saves:left-Enc.wt x.Tracks-Enc.wt x.Base-Enc.wt x.Now-Enc.wt x.Used<Enc.wt x.Saves
 ·rw[K7 n_Saves] at hc_Saves
  refine Con.of Tryz.func30 J Tryz.ntmps30 J (fun E => ?_)
  refine Wz [82,52] ?_;refine zx (Qj J J (hc_Tracks) J) J ?_;refine Wz [91,120] ?_;refine zx (Qj J J (hc_Base) J) J ?_;refine Wz [91,120] ?_;refine zx (Qj J J (hc_Now) J) J ?_;refine Wz [91,52] ?_;refine zx (Qj J J (hc_Used) J) J ?_;refine Wz [91,52] ?_;refine zx (Qj J J (hc_Saves) J) J ?_;refine Wz [148,39] ?_
  exact Gb J (Gc [] J J (Xz (by rw[Gd])))
 rw[Ge] at hc_Saves
 have hb_Saves:decide (left-Enc.wt x.Tracks-Enc.wt x.Base-Enc.wt x.Now-Enc.wt x.Used-Enc.wt x.Saves<0)=false:=Gqa (by omega)
 have hc_Sums:=sz_IntS x.Sums (left-Enc.wt x.Tracks-Enc.wt x.Base-Enc.wt x.Now-Enc.wt x.Used-Enc.wt x.Saves) g_Sums (by omega) (by omega)
 by_cases n_Sums:left-Enc.wt x.Tracks-Enc.wt x.Base-Enc.wt x.Now-Enc.wt x.Used-Enc.wt x.Saves<Enc.wt x.Sums
 ·rw[K7 n_Sums] at hc_Sums
  refine Con.of Tryz.func30 J Tryz.ntmps30 J (fun E => ?_)
  refine Wz [82,52] ?_;refine zx (Qj J J (hc_Tracks) J) J ?_;refine Wz [91,120] ?_;refine zx (Qj J J (hc_Base) J) J ?_;refine Wz [91,120] ?_;refine zx (Qj J J (hc_Now) J) J ?_;refine Wz [91,52] ?_;refine zx (Qj J J (hc_Used) J) J ?_;refine Wz [91,52] ?_;refine zx (Qj J J (hc_Saves) J) J ?_;refine Wz [91,52] ?_;refine zx (Qj J J (hc_Sums) J) J ?_;refine Wz [148,39] ?_
  exact Gb J (Gc [] J J (Xz (by rw[Gd])))
 rw[Ge] at hc_Sums
 have hb_Sums:decide (left-Enc.wt x.Tracks-Enc.wt x.Base-Enc.wt x.Now-Enc.wt x.Used-Enc.wt x.Saves-Enc.wt x.Sums<0)=false:=Gqa (by omega)
 refine Con.of Tryz.func30 J Tryz.ntmps30 J (fun E => ?_)
 refine Wz [82,52] ?_;refine zx (Qj J J (hc_Tracks) J) J ?_;refine Wz [91,120] ?_;refine zx (Qj J J (hc_Base) J) J ?_;refine Wz [91,120] ?_;refine zx (Qj J J (hc_Now) J) J ?_;refine Wz [91,52] ?_;refine zx (Qj J J (hc_Used) J) J ?_;refine Wz [91,52] ?_;refine zx (Qj J J (hc_Saves) J) J ?_;refine Wz [91,52] ?_;refine zx (Qj J J (hc_Sums) J) J ?_;refine Wz [91,10,17] ?_
 exact Gb J (Gc [] J J (Xz (by rw[Ge]; omega)))
theorem eq_Peer (x y:TPeer) (hg:Enc.gd x):Con Tryz.prog 35 [] [ag x,ag y] [] (B (decide (x=y))):=by
 obtain⟨g_Me,g_Delay,g_Ahead,g_Seed,g_Tracks,g_Base,g_Now,g_Used,g_Saves,g_Sums,g_Fault,g_Rolls,g_Again⟩:=hg
 by_cases e_Me:¬x.Me=y.Me
 ·have hk:decide (x.Me≠y.Me)=true:=by simp[e_Me]
  refine Con.of Tryz.func35 J Tryz.ntmps35 J (fun E => ?_)
  refine Wz [115,24,39] ?_
  exact Gb J (Gc [] J J (Xk (Gqa fun e=>e_Me (by rw[e])).symm))
 have e_Me:=Classical.not_not.1 e_Me
 have k_Me:decide (x.Me≠y.Me)=false:=by simp[e_Me]
 by_cases e_Delay:¬x.Delay=y.Delay
 ·have hk:decide (x.Delay≠y.Delay)=true:=by simp[e_Delay]
  refine Con.of Tryz.func35 J Tryz.ntmps35 J (fun E => ?_)
  refine Wz [115,167,24,39] ?_
  exact Gb J (Gc [] J J (Xk (Gqa fun e=>e_Delay (by rw[e])).symm))
 have e_Delay:=Classical.not_not.1 e_Delay
 have k_Delay:decide (x.Delay≠y.Delay)=false:=by simp[e_Delay]
 by_cases e_Ahead:¬x.Ahead=y.Ahead
 ·have hk:decide (x.Ahead≠y.Ahead)=true:=by simp[e_Ahead]
  refine Con.of Tryz.func35 J Tryz.ntmps35 J (fun E => ?_)
  refine Wz [115,67,24,39] ?_
  exact Gb J (Gc [] J J (Xk (Gqa fun e=>e_Ahead (by rw[e])).symm))
 have e_Ahead:=Classical.not_not.1 e_Ahead
 have k_Ahead:decide (x.Ahead≠y.Ahead)=false:=by simp[e_Ahead]
 by_cases e_Seed:¬x.Seed=y.Seed
 ·have hk:decide (x.Seed≠y.Seed)=true:=by simp[e_Seed]
  refine Con.of Tryz.func35 J Tryz.ntmps35 J (fun E => ?_)
  refine Wz [115,67,167,24,39] ?_
  exact Gb J (Gc [] J J (Xk (Gqa fun e=>e_Seed (by rw[e])).symm))
 have e_Seed:=Classical.not_not.1 e_Seed
 have k_Seed:decide (x.Seed≠y.Seed)=false:=by simp[e_Seed]
 by_cases e_Tracks:¬x.Tracks=y.Tracks
 ·have hc:=eq_TrackS x.Tracks y.Tracks g_Tracks
  rw[Gqa e_Tracks] at hc
  refine Con.of Tryz.func35 J Tryz.ntmps35 J (fun E => ?_)
  refine Wz [115,67,67] ?_;refine zx (Qj J J (hc) J) J ?_;refine Wz [9,39] ?_
  exact Gb J (Gc [] J J (Xk (Gqa fun e=>e_Tracks (by rw[e])).symm))
 have e_Tracks:=Classical.not_not.1 e_Tracks
 have hc_Tracks:=eq_TrackS x.Tracks y.Tracks g_Tracks
 rw[Gqb e_Tracks] at hc_Tracks
 by_cases e_Base:¬x.Base=y.Base
 ·have hc:=eq_World x.Base y.Base g_Base
  rw[Gqa e_Base] at hc
  refine Con.of Tryz.func35 J Tryz.ntmps35 J (fun E => ?_)
  refine Wz [115,67,67] ?_;refine zx (Qj J J (hc_Tracks) J) J ?_;refine Wz [73,119] ?_;refine zx (Qj J J (hc) J) J ?_;refine Wz [9,39] ?_
  exact Gb J (Gc [] J J (Xk (Gqa fun e=>e_Base (by rw[e])).symm))
 have e_Base:=Classical.not_not.1 e_Base
 have hc_Base:=eq_World x.Base y.Base g_Base
 rw[Gqb e_Base] at hc_Base
 by_cases e_Now:¬x.Now=y.Now
 ·have hc:=eq_World x.Now y.Now g_Now
  rw[Gqa e_Now] at hc
  refine Con.of Tryz.func35 J Tryz.ntmps35 J (fun E => ?_)
  refine Wz [115,67,67] ?_;refine zx (Qj J J (hc_Tracks) J) J ?_;refine Wz [73,119] ?_;refine zx (Qj J J (hc_Base) J) J ?_;refine Wz [73,119] ?_;refine zx (Qj J J (hc) J) J ?_;refine Wz [9,39] ?_
  exact Gb J (Gc [] J J (Xk (Gqa fun e=>e_Now (by rw[e])).symm))
 have e_Now:=Classical.not_not.1 e_Now
 have hc_Now:=eq_World x.Now y.Now g_Now
 rw[Gqb e_Now] at hc_Now
 by_cases e_Used:¬x.Used=y.Used
 ·have hc:=eq_IntSS x.Used y.Used g_Used
  rw[Gqa e_Used] at hc
  refine Con.of Tryz.func35 J Tryz.ntmps35 J (fun E => ?_)
  refine Wz [115,67,67] ?_;refine zx (Qj J J (hc_Tracks) J) J ?_;refine Wz [73,119] ?_;refine zx (Qj J J (hc_Base) J) J ?_;refine Wz [73,119] ?_;refine zx (Qj J J (hc_Now) J) J ?_;refine Wz [109] ?_;refine zx (Qj J J (hc) J) J ?_;refine Wz [9,39] ?_
  exact Gb J (Gc [] J J (Xk (Gqa fun e=>e_Used (by rw[e])).symm))
 have e_Used:=Classical.not_not.1 e_Used
 have hc_Used:=eq_IntSS x.Used y.Used g_Used
 rw[Gqb e_Used] at hc_Used
 by_cases e_Saves:¬x.Saves=y.Saves
 ·have hc:=eq_SaveS x.Saves y.Saves g_Saves
  rw[Gqa e_Saves] at hc
  refine Con.of Tryz.func35 J Tryz.ntmps35 J (fun E => ?_)
  refine Wz [115,67,67] ?_;refine zx (Qj J J (hc_Tracks) J) J ?_;refine Wz [73,119] ?_;refine zx (Qj J J (hc_Base) J) J ?_;refine Wz [73,119] ?_;refine zx (Qj J J (hc_Now) J) J ?_;refine Wz [109] ?_;refine zx (Qj J J (hc_Used) J) J ?_;refine Wz [109] ?_;refine zx (Qj J J (hc) J) J ?_;refine Wz [9,39] ?_
  exact Gb J (Gc [] J J (Xk (Gqa fun e=>e_Saves (by rw[e])).symm))
 have e_Saves:=Classical.not_not.1 e_Saves
 have hc_Saves:=eq_SaveS x.Saves y.Saves g_Saves
 rw[Gqb e_Saves] at hc_Saves
 by_cases e_Sums:¬x.Sums=y.Sums
 ·have hc:=eq_IntS x.Sums y.Sums g_Sums
  rw[Gqa e_Sums] at hc
  refine Con.of Tryz.func35 J Tryz.ntmps35 J (fun E => ?_)
  refine Wz [115,67,67] ?_;refine zx (Qj J J (hc_Tracks) J) J ?_;refine Wz [73,119] ?_;refine zx (Qj J J (hc_Base) J) J ?_;refine Wz [73,119] ?_;refine zx (Qj J J (hc_Now) J) J ?_;refine Wz [109] ?_;refine zx (Qj J J (hc_Used) J) J ?_;refine Wz [109] ?_;refine zx (Qj J J (hc_Saves) J) J ?_;refine Wz [109] ?_;refine zx (Qj J J (hc) J) J ?_;refine Wz [9,39] ?_
  exact Gb J (Gc [] J J (Xk (Gqa fun e=>e_Sums (by rw[e])).symm))
 have e_Sums:=Classical.not_not.1 e_Sums
 have hc_Sums:=eq_IntS x.Sums y.Sums g_Sums
 rw[Gqb e_Sums] at hc_Sums
 by_cases e_Fault:¬x.Fault=y.Fault
 ·have hc:=eq_Fault x.Fault y.Fault g_Fault
  rw[Gqa e_Fault] at hc
  refine Con.of Tryz.func35 J Tryz.ntmps35 J (fun E => ?_)
  refine Wz [115,67,67] ?_;refine zx (Qj J J (hc_Tracks) J) J ?_;refine Wz [73,119] ?_;refine zx (Qj J J (hc_Base) J) J ?_;refine Wz [73,119] ?_;refine zx (Qj J J (hc_Now) J) J ?_;refine Wz [109] ?_;refine zx (Qj J J (hc_Used) J) J ?_;refine Wz [109] ?_;refine zx (Qj J J (hc_Saves) J) J ?_;refine Wz [109] ?_;refine zx (Qj J J (hc_Sums) J) J ?_;refine Wz [73,119] ?_;refine zx (Qj J J (hc) J) J ?_;refine Wz [9,39] ?_
  exact Gb J (Gc [] J J (Xk (Gqa fun e=>e_Fault (by rw[e])).symm))
 have e_Fault:=Classical.not_not.1 e_Fault
 have hc_Fault:=eq_Fault x.Fault y.Fault g_Fault
 rw[Gqb e_Fault] at hc_Fault
 by_cases e_Rolls:¬x.Rolls=y.Rolls
 ·have hk:decide (x.Rolls≠y.Rolls)=true:=by simp[e_Rolls]
  refine Con.of Tryz.func35 J Tryz.ntmps35 J (fun E => ?_)
  refine Wz [115,67,67] ?_;refine zx (Qj J J (hc_Tracks) J) J ?_;refine Wz [73,119] ?_;refine zx (Qj J J (hc_Base) J) J ?_;refine Wz [73,119] ?_;refine zx (Qj J J (hc_Now) J) J ?_;refine Wz [109] ?_;refine zx (Qj J J (hc_Used) J) J ?_;refine Wz [109] ?_;refine zx (Qj J J (hc_Saves) J) J ?_;refine Wz [109] ?_;refine zx (Qj J J (hc_Sums) J) J ?_;refine Wz [73,119] ?_;refine zx (Qj J J (hc_Fault) J) J ?_;refine Wz [109,24,39] ?_
  exact Gb J (Gc [] J J (Xk (Gqa fun e=>e_Rolls (by rw[e])).symm))
 have e_Rolls:=Classical.not_not.1 e_Rolls
 have k_Rolls:decide (x.Rolls≠y.Rolls)=false:=by simp[e_Rolls]
 by_cases e_Again:¬x.Again=y.Again
 ·have hk:decide (x.Again≠y.Again)=true:=by simp[e_Again]
  refine Con.of Tryz.func35 J Tryz.ntmps35 J (fun E => ?_)
  refine Wz [115,67,67] ?_;refine zx (Qj J J (hc_Tracks) J) J ?_;refine Wz [73,119] ?_;refine zx (Qj J J (hc_Base) J) J ?_;refine Wz [73,119] ?_;refine zx (Qj J J (hc_Now) J) J ?_;refine Wz [109] ?_;refine zx (Qj J J (hc_Used) J) J ?_;refine Wz [109] ?_;refine zx (Qj J J (hc_Saves) J) J ?_;refine Wz [109] ?_;refine zx (Qj J J (hc_Sums) J) J ?_;refine Wz [73,119] ?_;refine zx (Qj J J (hc_Fault) J) J ?_;refine Wz [109,167,24,39] ?_
  exact Gb J (Gc [] J J (Xk (Gqa fun e=>e_Again (by rw[e])).symm))
 have e_Again:=Classical.not_not.1 e_Again
 have k_Again:decide (x.Again≠y.Again)=false:=by simp[e_Again]
 refine Con.of Tryz.func35 J Tryz.ntmps35 J (fun E => ?_)
 refine Wz [115,67,67] ?_;refine zx (Qj J J (hc_Tracks) J) J ?_;refine Wz [73,119] ?_;refine zx (Qj J J (hc_Base) J) J ?_;refine Wz [73,119] ?_;refine zx (Qj J J (hc_Now) J) J ?_;refine Wz [109] ?_;refine zx (Qj J J (hc_Used) J) J ?_;refine Wz [109] ?_;refine zx (Qj J J (hc_Saves) J) J ?_;refine Wz [109] ?_;refine zx (Qj J J (hc_Sums) J) J ?_;refine Wz [73,119] ?_;refine zx (Qj J J (hc_Fault) J) J ?_;refine Wz [109,167,24,41,26,48] ?_
 exact Gb J (Gc [] J J (Xk (Gqb (TPeer.same e_Me e_Delay e_Ahead e_Seed e_Tracks e_Base e_Now e_Used e_Saves e_Sums e_Fault e_Rolls e_Again)).symm))
end
section
open Go.RowKit

@[reducible] def iv (n:Int):V1 := .rd [] (.v (.int .i64 n))
theorem law_RecordPeer (x:TPeer) (e:Int) (g_x:Enc.gd x) (g_e:Enc.gd e):Con Tryz.prog 4 [] [ag x,ai e] [] (B true):=by
 have hz_x:=sz_Peer x (1048576) g_x (by omega) (by omega)
 by_cases n_x:(1048576:Int)<Enc.wt x
 ·rw[K7 n_x] at hz_x
  refine Con.of Tryz.func4 J Tryz.ntmps4 J (fun E => ?_)
  refine Wz [82,32,14,0] ?_;refine zx (Qj J J (hz_x) J) J ?_;refine Wz [78,265,39] ?_
  exact Gb J (Gc [] J J J)
 rw[Ge] at hz_x
 have hb_x:decide ((1048576:Int)-Enc.wt x<0)=false:=Gqa (by omega)
 have ht_x:=to_Peer x (by omega)
 have hq_x:=eq_Peer x x g_x
 rw[Gqb rfl] at hq_x
 have mi_x:=mark_in (x:=x) (by omega)
 have hsp:=S_RecordPeer x e g_x (by omega) g_e
 have hip:=I_RecordPeer x e g_x (by omega) g_e
 have iy:=rec_y g_x (by omega) g_e
 generalize recM x e=y at hsp hip iy
 generalize recB x e=b at hsp hip
 have hq1:=eq_Replay y y iy.gd
 rw[Gqb rfl] at hq1
 have hm_x:=L_markPeer x 1 mi_x (by omega) (by omega)
 obtain⟨k1,k2⟩:=cnt_in mi_x 1 (by omega)
 have hk1:decide (cntP x 1<0)=false:=Gqa (by omega)
 have i1:=iy.h1
 have i2:=iy.h2
 have i3:=iy.h3
 have i4:=iy.h4
 have hm_y:=L_markReplay y 1 iy.h1 iy.h2 iy.h3 iy.h4 (by omega) (by omega)
 have hh:=L_heldReplay y 1 iy.h1 iy.h2 iy.h3 iy.h4 (by omega) (by omega)
 have hk2:decide ((1:Int)+y.Level.Rows.length+tot y.Rows+y.Keys.length<0)=false:=Gqa (by omega)
 refine Con.of Tryz.func4 J Tryz.ntmps4 J (fun E => ?_)
 refine Wz [82,32,14,0] ?_;refine zx (Qj J J (hz_x) J) J ?_;refine Wz [91,14] ?_;refine M1 (Z3 J J (ht_x) J J J) J J ?_;refine AL.weak (st':=(⟨101,[(1,I e),(2,.o (.c (.ptr 0 0))),(23,.o (.ag (pV x 1 2 3 4 5 6 7 8 9 10)))],[.box ((Enc.e x).map (V1.rd [])),.row 1 (els x.Tracks),.row 1 (els x.Base.Level.Rows),.row 1 (els x.Base.Scores),.row 9 (els x.Base.Bodies),.row 1 (els x.Now.Level.Rows),.row 1 (els x.Now.Scores),.row 9 (els x.Now.Bodies),.row 1 (els x.Used),.row 2 (els x.Saves),.row 1 (els x.Sums)]⟩:St)) (Ga [0,1,2,3,4,5,6,7,8,9,10] J ((by kernel_rfl)) (.c J (.c J (.c J (.nil))))) ?_;refine z0 J ?_;refine M1 (Z3 J J (hsp) J J J) J J ?_;refine AL.weak (st':=(⟨101,[(1,I e),(2,.o (.c (.ptr 0 0))),(25,.tu [.ag [.ref 1,iv y.Players,iv y.Seed,iv y.Every,.ref 2,.ref 3],.c (bv b)])],[.box ((Enc.e x).map (V1.rd [])),.row 1 (els y.Level.Rows),.row 1 (els y.Rows),.row 1 (els y.Keys)]⟩:St)) (Ga [0,11,12,13] J ((by kernel_rfl)) (.c J (.c J (.c J (.nil))))) ?_;refine Wz [71,66,36,2,14] ?_;refine M1 (Z3 J J (ht_x) J J J) J J ?_;refine AL.weak (st':=(⟨101,[(1,I e),(2,.o (.c (.ptr 0 0))),(6,.o (.c (.ptr 4 0))),(7,B b),(29,.o (.ag (pV x 5 6 7 8 9 10 11 12 13 14)))],[.box ((Enc.e x).map (V1.rd [])),.row 1 (els y.Level.Rows),.row 1 (els y.Rows),.row 1 (els y.Keys),.box [.ref 1,iv y.Players,iv y.Seed,iv y.Every,.ref 2,.ref 3],.row 1 (els x.Tracks),.row 1 (els x.Base.Level.Rows),.row 1 (els x.Base.Scores),.row 9 (els x.Base.Bodies),.row 1 (els x.Now.Level.Rows),.row 1 (els x.Now.Scores),.row 9 (els x.Now.Bodies),.row 1 (els x.Used),.row 2 (els x.Saves),.row 1 (els x.Sums)]⟩:St)) (Ga [0,1,2,3,4,5,6,7,8,9,10,11,12,13,14] J ((by kernel_rfl)) (.c J (.c J (.c J (.c J (.c J (.nil))))))) ?_;refine Wz [66,36] ?_;refine AL.weak (st':=(⟨101,[(1,I e),(2,.o (.c (.ptr 0 0))),(6,.o (.c (.ptr 4 0))),(7,B b),(8,.o (.c (.ptr 15 0)))],[.box ((Enc.e x).map (V1.rd [])),.row 1 (els y.Level.Rows),.row 1 (els y.Rows),.row 1 (els y.Keys),.box [.ref 1,iv y.Players,iv y.Seed,iv y.Every,.ref 2,.ref 3],.row 1 (els x.Tracks),.row 1 (els x.Base.Level.Rows),.row 1 (els x.Base.Scores),.row 9 (els x.Base.Bodies),.row 1 (els x.Now.Level.Rows),.row 1 (els x.Now.Scores),.row 9 (els x.Now.Bodies),.row 1 (els x.Used),.row 2 (els x.Saves),.row 1 (els x.Sums),.box (pV x 5 6 7 8 9 10 11 12 13 14)]⟩:St)) (Ga [0,1,2,3,4,5,6,7,8,9,10,11,12,13,14,15] J ((by kernel_rfl)) (.c J (.c J (.c J (.c J (.c J (.nil))))))) ?_;refine Wz [3,14,0] ?_;refine M1 (Z3 J J (hip) J J J) J J ?_;refine AL.weak (st':=(⟨101,[(1,I e),(2,.o (.c (.ptr 0 0))),(6,.o (.c (.ptr 4 0))),(7,B b),(8,.o (.c (.ptr 15 0))),(33,.tu [.ag [.ref 16,iv y.Players,iv y.Seed,iv y.Every,.ref 17,.ref 18],.c (bv b)])],[.box ((Enc.e x).map (V1.rd [])),.row 1 (els y.Level.Rows),.row 1 (els y.Rows),.row 1 (els y.Keys),.box [.ref 1,iv y.Players,iv y.Seed,iv y.Every,.ref 2,.ref 3],.row 1 (els x.Tracks),.row 1 (els x.Base.Level.Rows),.row 1 (els x.Base.Scores),.row 9 (els x.Base.Bodies),.row 1 (els x.Now.Level.Rows),.row 1 (els x.Now.Scores),.row 9 (els x.Now.Bodies),.row 1 (els x.Used),.row 2 (els x.Saves),.row 1 (els x.Sums),.box (pV x 5 6 7 8 9 10 11 12 13 14),.row 1 (els y.Level.Rows),.row 1 (els y.Rows),.row 1 (els y.Keys)]⟩:St)) (Ga [0,1,2,3,4,5,6,7,8,9,10,11,12,13,14,15,16,17,18] J ((by kernel_rfl)) (.c J (.c J (.c J (.c J (.c J (.c J (.nil)))))))) ?_;refine Wz [71,66,36,2,55,92] ?_;refine zx (Qj J J (hq1) J) J ?_;refine Wz [9,81] ?_;refine zx (q_bneqR J J J J) J ?_;refine Wz [60,8,8] ?_
 refine AWP.pre (st':=(⟨101,[(1,I e),(2,.o (.c (.ptr 0 0))),(6,.o (.c (.ptr 4 0))),(7,B b),(8,.o (.c (.ptr 15 0))),(9,.o (.c (.ptr 19 0))),(10,B b)],[.box ((Enc.e x).map (V1.rd [])),.row 1 (els y.Level.Rows),.row 1 (els y.Rows),.row 1 (els y.Keys),.box [.ref 1,iv y.Players,iv y.Seed,iv y.Every,.ref 2,.ref 3],.row 1 (els x.Tracks),.row 1 (els x.Base.Level.Rows),.row 1 (els x.Base.Scores),.row 9 (els x.Base.Bodies),.row 1 (els x.Now.Level.Rows),.row 1 (els x.Now.Scores),.row 9 (els x.Now.Bodies),.row 1 (els x.Used),.row 2 (els x.Saves),.row 1 (els x.Sums),.box (pV x 5 6 7 8 9 10 11 12 13 14),.row 1 (els y.Level.Rows),.row 1 (els y.Rows),.row 1 (els y.Keys),.box [.ref 16,iv y.Players,iv y.Seed,iv y.Every,.ref 17,.ref 18]]⟩:St)) ?_ (Ga [0,1,2,3,4,5,6,7,8,9,10,11,12,13,14,15,16,17,18,19] J ((by kernel_rfl)) (.c J (.c J (.c J (.c J (.c J (.c J (.c J (.nil)))))))))
 refine Xi [[],[],[1],[0,1,2],(u9 4)] [[],[],[46],[45,46,47],[45,46,47,48]] [[46,47],[45],[45],[],[]] J ?_;refine Wz [114,114] ?_;refine Vk (Z3 J J (ht_x) J J J) J ?_;refine Vk (Qj J J (hq_x) J) J ?_;refine Wz [147,21,3] ?_
 refine AWP.pre (st':=(⟨101,[(1,I e),(2,.o (.c (.ptr 0 0))),(6,.o (.c (.ptr 4 0))),(7,B b),(8,.o (.c (.ptr 15 0))),(9,.o (.c (.ptr 19 0))),(10,B b),(49,B false)],[.box ((Enc.e x).map (V1.rd [])),.row 1 (els y.Level.Rows),.row 1 (els y.Rows),.row 1 (els y.Keys),.box [.ref 1,iv y.Players,iv y.Seed,iv y.Every,.ref 2,.ref 3],.row 1 (els x.Tracks),.row 1 (els x.Base.Level.Rows),.row 1 (els x.Base.Scores),.row 9 (els x.Base.Bodies),.row 1 (els x.Now.Level.Rows),.row 1 (els x.Now.Scores),.row 9 (els x.Now.Bodies),.row 1 (els x.Used),.row 2 (els x.Saves),.row 1 (els x.Sums),.box (pV x 5 6 7 8 9 10 11 12 13 14),.row 1 (els y.Level.Rows),.row 1 (els y.Rows),.row 1 (els y.Keys),.box [.ref 16,iv y.Players,iv y.Seed,iv y.Every,.ref 17,.ref 18]]⟩:St)) ?_ (Ga [0,1,2,3,4,5,6,7,8,9,10,11,12,13,14,15,16,17,18,19] J ((by kernel_rfl)) (.c J (.c J (.c J (.c J (.c J (.c J (.c J (.c J (.nil))))))))))
 refine Wz [172,22,32,14,0] ?_;refine Xd (lo := [_,_,_,_,_,_,_,_,_,_]) (gs := [(0,.ag (pV x 0 1 2 3 4 5 6 7 8 9))]) (lo' := [_,_,_,_,_,_,_,_,_,_]) (new := []) [5,6,7,8,9,10,11,12,13,14] [(0,4,.ref 0),(0,5,.ref 1),(0,8,.ref 2),(0,9,.ref 3),(0,10,.ref 4),(0,13,.ref 5),(0,14,.ref 6),(0,15,.ref 7),(0,16,.ref 8),(0,17,.ref 9)] (hm_x) J J J J J J J J J J J J J J J J J ?_;refine AL.weak (st':=(⟨101,[(1,I e),(2,.o (.c (.ptr 0 0))),(6,.o (.c (.ptr 4 0))),(7,B b),(9,.o (.c (.ptr 8 0))),(10,B b),(52,I (cntP x 1))],[.box ((Enc.e x).map (V1.rd [])),.row 1 (els y.Level.Rows),.row 1 (els y.Rows),.row 1 (els y.Keys),.box [.ref 1,iv y.Players,iv y.Seed,iv y.Every,.ref 2,.ref 3],.row 1 (els y.Level.Rows),.row 1 (els y.Rows),.row 1 (els y.Keys),.box [.ref 5,iv y.Players,iv y.Seed,iv y.Every,.ref 6,.ref 7]]⟩:St)) (Ga [0,1,2,3,4,16,17,18,19] J ((by kernel_rfl)) (.c J (.c J (.c J (.c J (.c J (.c J (.c J (.nil))))))))) ?_;refine Wz [148,31,92,1,92,1] ?_;refine zx (Qj J J (hq1) J) J ?_;refine Wz [1,9,6,81] ?_;refine zx (q_bneqR J J J J) J ?_;refine Wz [60,32,14,0] ?_;refine Xd (lo := [_,_,_]) (gs := [(0,.ag (ownV 0 (Enc.e y)))]) (lo' := [_,_,_]) (new := []) [5,6,7] [(0,0,.ref 0),(0,4,.ref 1),(0,5,.ref 2)] (hm_y) J J J J J J J J J J J J J J J J J ?_;refine AL.weak (st':=(⟨101,[(1,I e),(2,.o (.c (.ptr 0 0))),(6,.o (.c (.ptr 4 0))),(7,B b),(9,.o (.c (.ptr 8 0))),(68,I (1+y.Level.Rows.length+tot y.Rows+y.Keys.length))],[.box ((Enc.e x).map (V1.rd [])),.row 1 (els y.Level.Rows),.row 1 (els y.Rows),.row 1 (els y.Keys),.box [.ref 1,iv y.Players,iv y.Seed,iv y.Every,.ref 2,.ref 3],.row 1 (els (markS y.Level.Rows 1)),.row 1 (els (markII y.Rows (1+y.Level.Rows.length))),.row 1 (els (markS y.Keys (1+y.Level.Rows.length+tot y.Rows))),.box [.ref 5,iv y.Players,iv y.Seed,iv y.Every,.ref 6,.ref 7]]⟩:St)) (Ga [0,1,2,3,4,5,6,7,8] J ((by kernel_rfl)) (.c J (.c J (.c J (.c J (.c J (.c J (.nil)))))))) ?_;refine Wz [2,32,14,0] ?_;refine zx (Qj J J (hh) J) J ?_;refine Wz [91,20,294,41,14] ?_;refine M1 (Z3 J J (ht_x) J J J) J J ?_;refine AL.weak (st':=(⟨101,[(1,I e),(2,.o (.c (.ptr 0 0))),(6,.o (.c (.ptr 4 0))),(7,B b),(9,.o (.c (.ptr 8 0))),(12,I (1+y.Level.Rows.length+tot y.Rows+y.Keys.length)),(79,.o (.ag (pV x 9 10 11 12 13 14 15 16 17 18)))],[.box ((Enc.e x).map (V1.rd [])),.row 1 (els y.Level.Rows),.row 1 (els y.Rows),.row 1 (els y.Keys),.box [.ref 1,iv y.Players,iv y.Seed,iv y.Every,.ref 2,.ref 3],.row 1 (els (markS y.Level.Rows 1)),.row 1 (els (markII y.Rows (1+y.Level.Rows.length))),.row 1 (els (markS y.Keys (1+y.Level.Rows.length+tot y.Rows))),.box [.ref 5,iv y.Players,iv y.Seed,iv y.Every,.ref 6,.ref 7],.row 1 (els x.Tracks),.row 1 (els x.Base.Level.Rows),.row 1 (els x.Base.Scores),.row 9 (els x.Base.Bodies),.row 1 (els x.Now.Level.Rows),.row 1 (els x.Now.Scores),.row 9 (els x.Now.Bodies),.row 1 (els x.Used),.row 2 (els x.Saves),.row 1 (els x.Sums)]⟩:St)) (Ga [0,1,2,3,4,5,6,7,8,9,10,11,12,13,14,15,16,17,18] J ((by kernel_rfl)) (.c J (.c J (.c J (.c J (.c J (.c J (.c J (.nil))))))))) ?_;refine z0 J ?_;refine M1 (Z3 J J (hip) J J J) J J ?_;refine AL.weak (st':=(⟨101,[(1,I e),(2,.o (.c (.ptr 0 0))),(6,.o (.c (.ptr 4 0))),(7,B b),(9,.o (.c (.ptr 8 0))),(12,I (1+y.Level.Rows.length+tot y.Rows+y.Keys.length)),(81,.tu [.ag [.ref 9,iv y.Players,iv y.Seed,iv y.Every,.ref 10,.ref 11],.c (bv b)])],[.box ((Enc.e x).map (V1.rd [])),.row 1 (els y.Level.Rows),.row 1 (els y.Rows),.row 1 (els y.Keys),.box [.ref 1,iv y.Players,iv y.Seed,iv y.Every,.ref 2,.ref 3],.row 1 (els (markS y.Level.Rows 1)),.row 1 (els (markII y.Rows (1+y.Level.Rows.length))),.row 1 (els (markS y.Keys (1+y.Level.Rows.length+tot y.Rows))),.box [.ref 5,iv y.Players,iv y.Seed,iv y.Every,.ref 6,.ref 7],.row 1 (els y.Level.Rows),.row 1 (els y.Rows),.row 1 (els y.Keys)]⟩:St)) (Ga [0,1,2,3,4,5,6,7,8,19,20,21] J ((by kernel_rfl)) (.c J (.c J (.c J (.c J (.c J (.c J (.c J (.nil))))))))) ?_;refine Wz [71,66,36,2,55,92] ?_;refine zx (Qj J J (hq1) J) J ?_;refine Wz [9,81] ?_;refine zx (q_bneqR J J J J) J ?_;refine Wz [60,32,14,0] ?_;refine zx (Qj J J (hh) J) J ?_;refine Wz [91,20,294,41,26,48] ?_
 exact Gb J (Gc [] J J J)
end
section
open Go.ChangeShapes Go.WideShapes Go.ChangeAt Go.RowKit

def RL (w:World) (ts:List T) (cs:List Value):Prop:=∀ (j:Nat) (t:T) (u:Value),ts[j]? = some t→cs[j]? = some u→RO w (fun _=>True) t u
theorem RL.nil {w:World} {cs:List Value}:RL w [] cs:=fun _ _ _ h=>by simp at h
theorem RL.app {w:World} {ts us:List T} {cs:List Value} {o n:Nat} (h1:RL w ts ((cs.drop o).take n)) (hn:ts.length=n) (h2:RL w us (cs.drop (o+n))):RL w (ts++us) (cs.drop o):=fun j t u h3 h4=>by
 rcases Gqo j ts.length with hj | hj
 ·rw[Gqy hj] at h3
  exact h1 j t u h3 (by rw[Gq9,if_pos (by omega)]; exact h4)
 ·rw[Gq2 hj] at h3
  refine h2 (j-ts.length) t u h3 ?_
  rw[Gq5] at h4 ⊢
  rw[←h4]
  congr 1
  omega
theorem Ku {P:Program} {t tt:TypeId} {fs:Array Field} {f:Field} {α:Type} [Enc α] {H:Type} {enc:TypeId×Value→H} {w:World} {spare:Nat→Bool} {held:Bool} {fuel:Nat} {cs:List Value} {x:DataW H×List MemPlace}
  (ht:P.underlying t=some (.struct fs)) (h:DataW.trod enc P w 0 spare held fuel t cs=some x) (i:Nat) (hf:fs[i]? = some f) (hty:f.type=tt) [hα:RdOf P tt α] {o:Nat} (ho:f.offset=o) :
  ∃ y:α,Enc.gd y∧RL w (Enc.e y) ((cs.drop o).take (Enc.k α)):=by
 obtain⟨xs,n,_,_,hl,hlen,hfs⟩:=DataW.trod_struct ht h
 have h1:=hfs i f hf
 have hi:i<fs.size:=by
  rcases Gqo i fs.size with h2 | h2
  ·exact h2
  ·rw[Array.getElem?_eq_none h2] at hf; cases hf
 rw[Gqd (by omega),hty,ho,hα.size] at h1
 obtain⟨y,hg,hr⟩:=hα.of h1
 exact⟨y,hg,hr.2⟩
theorem Kv {P:Program} {t:TypeId} {fs:Array Field} {H:Type} {enc:TypeId×Value→H} {w:World} {spare:Nat→Bool} {held:Bool} {fuel:Nat} {cs:List Value} {x:DataW H×List MemPlace}
  (ht:P.underlying t=some (.struct fs)) (h:DataW.trod enc P w 0 spare held fuel t cs=some x):cs.length=P.cellsOf t:=by
 obtain⟨xs,n,_,_,hl,_⟩:=DataW.trod_struct ht h
 exact hl

instance:RdOf Tryz.prog 3 Int:=rdOf_int Tryz.underlying3 (by kernel_rfl)
instance:RdOf Tryz.prog 9 ByteArray:=rdOf_string Tryz.underlying9 (by kernel_rfl)
instance:RdOf Tryz.prog 64 (List Int):=Kq Tryz.underlying64 (by kernel_rfl)
instance:RdOf Tryz.prog 22 (List ByteArray):=Kq Tryz.underlying22 (by kernel_rfl)
instance:RdOf Tryz.prog 25 (List (List Int)):=Kq Tryz.underlying25 (by kernel_rfl)
instance:RdOf Tryz.prog 24 TLevel where
 size:=by kernel_rfl
 of {H enc w spare held fuel cs x} h:=by
  obtain⟨y0,g0,r0⟩:=Ku (α:=(List ByteArray)) (tt:=22) Tryz.underlying24 h 0 rfl rfl rfl
  refine⟨⟨y0⟩,g0,?_,?_⟩
  ·rw[Kv Tryz.underlying24 h]; kernel_rfl
  ·exact (RL.app (o:=0) (n:=1) r0 rfl (RL.nil):RL w _ (cs.drop 0))
end
section
open Go.ChangeShapes Go.WideShapes Go.ChangeAt Go.RowKit

instance:RdOf Tryz.prog 261 TBody where
 size:=by kernel_rfl
 of {H enc w spare held fuel cs x} h:=by
  obtain⟨y0,g0,r0⟩:=Ku (α:=Int) (tt:=3) Tryz.underlying261 h 0 rfl rfl rfl
  obtain⟨y1,g1,r1⟩:=Ku (α:=Int) (tt:=3) Tryz.underlying261 h 1 rfl rfl rfl
  obtain⟨y2,g2,r2⟩:=Ku (α:=Int) (tt:=3) Tryz.underlying261 h 2 rfl rfl rfl
  obtain⟨y3,g3,r3⟩:=Ku (α:=Int) (tt:=3) Tryz.underlying261 h 3 rfl rfl rfl
  obtain⟨y4,g4,r4⟩:=Ku (α:=Int) (tt:=3) Tryz.underlying261 h 4 rfl rfl rfl
  obtain⟨y5,g5,r5⟩:=Ku (α:=Int) (tt:=3) Tryz.underlying261 h 5 rfl rfl rfl
  obtain⟨y6,g6,r6⟩:=Ku (α:=Int) (tt:=3) Tryz.underlying261 h 6 rfl rfl rfl
  obtain⟨y7,g7,r7⟩:=Ku (α:=Int) (tt:=3) Tryz.underlying261 h 7 rfl rfl rfl
  obtain⟨y8,g8,r8⟩:=Ku (α:=Int) (tt:=3) Tryz.underlying261 h 8 rfl rfl rfl
  refine⟨⟨y0,y1,y2,y3,y4,y5,y6,y7,y8⟩,⟨g0,g1,g2,g3,g4,g5,g6,g7,g8⟩,?_,?_⟩
  ·rw[Kv Tryz.underlying261 h]; kernel_rfl
  ·exact (RL.app (o:=0) (n:=1) r0 rfl (RL.app (o:=1) (n:=1) r1 rfl (RL.app (o:=2) (n:=1) r2 rfl (RL.app (o:=3) (n:=1) r3 rfl (RL.app (o:=4) (n:=1) r4 rfl (RL.app (o:=5) (n:=1) r5 rfl (RL.app (o:=6) (n:=1) r6 rfl (RL.app (o:=7) (n:=1) r7 rfl (RL.app (o:=8) (n:=1) r8 rfl (RL.nil))))))))):RL w _ (cs.drop 0))
instance:RdOf Tryz.prog 65 (List TBody):=Kq Tryz.underlying65 (by kernel_rfl)
instance:RdOf Tryz.prog 67 TWorld where
 size:=by kernel_rfl
 of {H enc w spare held fuel cs x} h:=by
  obtain⟨y0,g0,r0⟩:=Ku (α:=TLevel) (tt:=24) Tryz.underlying67 h 0 rfl rfl rfl
  obtain⟨y1,g1,r1⟩:=Ku (α:=Int) (tt:=3) Tryz.underlying67 h 1 rfl rfl rfl
  obtain⟨y2,g2,r2⟩:=Ku (α:=Int) (tt:=3) Tryz.underlying67 h 2 rfl rfl rfl
  obtain⟨y3,g3,r3⟩:=Ku (α:=(List Int)) (tt:=64) Tryz.underlying67 h 3 rfl rfl rfl
  obtain⟨y4,g4,r4⟩:=Ku (α:=(List TBody)) (tt:=65) Tryz.underlying67 h 4 rfl rfl rfl
  refine⟨⟨y0,y1,y2,y3,y4⟩,⟨g0,g1,g2,g3,g4⟩,?_,?_⟩
  ·rw[Kv Tryz.underlying67 h]; kernel_rfl
  ·exact (RL.app (o:=0) (n:=1) r0 rfl (RL.app (o:=1) (n:=1) r1 rfl (RL.app (o:=2) (n:=1) r2 rfl (RL.app (o:=3) (n:=1) r3 rfl (RL.app (o:=4) (n:=1) r4 rfl (RL.nil))))):RL w _ (cs.drop 0))
end
section
open Go.ChangeShapes Go.WideShapes Go.ChangeAt Go.RowKit

instance:RdOf Tryz.prog 208 TTrack where
 size:=by kernel_rfl
 of {H enc w spare held fuel cs x} h:=by
  obtain⟨y0,g0,r0⟩:=Ku (α:=(List Int)) (tt:=64) Tryz.underlying208 h 0 rfl rfl rfl
  refine⟨⟨y0⟩,g0,?_,?_⟩
  ·rw[Kv Tryz.underlying208 h]; kernel_rfl
  ·exact (RL.app (o:=0) (n:=1) r0 rfl (RL.nil):RL w _ (cs.drop 0))
instance:RdOf Tryz.prog 63 (List TTrack):=Kq Tryz.underlying63 (by kernel_rfl)
instance:RdOf Tryz.prog 212 TSave where
 size:=by kernel_rfl
 of {H enc w spare held fuel cs x} h:=by
  obtain⟨y0,g0,r0⟩:=Ku (α:=Int) (tt:=3) Tryz.underlying212 h 0 rfl rfl rfl
  obtain⟨y1,g1,r1⟩:=Ku (α:=ByteArray) (tt:=9) Tryz.underlying212 h 1 rfl rfl rfl
  refine⟨⟨y0,y1⟩,⟨g0,g1⟩,?_,?_⟩
  ·rw[Kv Tryz.underlying212 h]; kernel_rfl
  ·exact (RL.app (o:=0) (n:=1) r0 rfl (RL.app (o:=1) (n:=1) r1 rfl (RL.nil)):RL w _ (cs.drop 0))
instance:RdOf Tryz.prog 68 (List TSave):=Kq Tryz.underlying68 (by kernel_rfl)
instance:RdOf Tryz.prog 70 TFault where
 size:=by kernel_rfl
 of {H enc w spare held fuel cs x} h:=by
  obtain⟨y0,g0,r0⟩:=Ku (α:=Int) (tt:=3) Tryz.underlying70 h 0 rfl rfl rfl
  obtain⟨y1,g1,r1⟩:=Ku (α:=Int) (tt:=3) Tryz.underlying70 h 1 rfl rfl rfl
  obtain⟨y2,g2,r2⟩:=Ku (α:=Int) (tt:=3) Tryz.underlying70 h 2 rfl rfl rfl
  refine⟨⟨y0,y1,y2⟩,⟨g0,g1,g2⟩,?_,?_⟩
  ·rw[Kv Tryz.underlying70 h]; kernel_rfl
  ·exact (RL.app (o:=0) (n:=1) r0 rfl (RL.app (o:=1) (n:=1) r1 rfl (RL.app (o:=2) (n:=1) r2 rfl (RL.nil))):RL w _ (cs.drop 0))
instance:RdOf Tryz.prog 72 TPeer where
 size:=by kernel_rfl
 of {H enc w spare held fuel cs x} h:=by
  obtain⟨y0,g0,r0⟩:=Ku (α:=Int) (tt:=3) Tryz.underlying72 h 0 rfl rfl rfl
  obtain⟨y1,g1,r1⟩:=Ku (α:=Int) (tt:=3) Tryz.underlying72 h 1 rfl rfl rfl
  obtain⟨y2,g2,r2⟩:=Ku (α:=Int) (tt:=3) Tryz.underlying72 h 2 rfl rfl rfl
  obtain⟨y3,g3,r3⟩:=Ku (α:=Int) (tt:=3) Tryz.underlying72 h 3 rfl rfl rfl
  obtain⟨y4,g4,r4⟩:=Ku (α:=(List TTrack)) (tt:=63) Tryz.underlying72 h 4 rfl rfl rfl
  obtain⟨y5,g5,r5⟩:=Ku (α:=TWorld) (tt:=67) Tryz.underlying72 h 5 rfl rfl rfl
  obtain⟨y6,g6,r6⟩:=Ku (α:=TWorld) (tt:=67) Tryz.underlying72 h 6 rfl rfl rfl
  obtain⟨y7,g7,r7⟩:=Ku (α:=(List (List Int))) (tt:=25) Tryz.underlying72 h 7 rfl rfl rfl
  obtain⟨y8,g8,r8⟩:=Ku (α:=(List TSave)) (tt:=68) Tryz.underlying72 h 8 rfl rfl rfl
  obtain⟨y9,g9,r9⟩:=Ku (α:=(List Int)) (tt:=64) Tryz.underlying72 h 9 rfl rfl rfl
  obtain⟨y10,g10,r10⟩:=Ku (α:=TFault) (tt:=70) Tryz.underlying72 h 10 rfl rfl rfl
  obtain⟨y11,g11,r11⟩:=Ku (α:=Int) (tt:=3) Tryz.underlying72 h 11 rfl rfl rfl
  obtain⟨y12,g12,r12⟩:=Ku (α:=Int) (tt:=3) Tryz.underlying72 h 12 rfl rfl rfl
  refine⟨⟨y0,y1,y2,y3,y4,y5,y6,y7,y8,y9,y10,y11,y12⟩,⟨g0,g1,g2,g3,g4,g5,g6,g7,g8,g9,g10,g11,g12⟩,?_,?_⟩
  ·rw[Kv Tryz.underlying72 h]; kernel_rfl
  ·exact (RL.app (o:=0) (n:=1) r0 rfl (RL.app (o:=1) (n:=1) r1 rfl (RL.app (o:=2) (n:=1) r2 rfl (RL.app (o:=3) (n:=1) r3 rfl (RL.app (o:=4) (n:=1) r4 rfl (RL.app (o:=5) (n:=5) r5 rfl (RL.app (o:=10) (n:=5) r6 rfl (RL.app (o:=15) (n:=1) r7 rfl (RL.app (o:=16) (n:=1) r8 rfl (RL.app (o:=17) (n:=1) r9 rfl (RL.app (o:=18) (n:=3) r10 rfl (RL.app (o:=21) (n:=1) r11 rfl (RL.app (o:=22) (n:=1) r12 rfl (RL.nil))))))))))))):RL w _ (cs.drop 0))
end
end Go.Proofs.YtoecjaohdnoenaaGreat
