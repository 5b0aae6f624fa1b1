/-
  Rules, data and contracts of functions: part 18 of the proof.
  Conditions: those that each theorem names.
-/
import Derived.Test.YtoecjaohdnoenaaGreatDDLockRowk16
set_option linter.unusedVariables false
set_option linter.unusedSimpArgs false
set_option maxRecDepth 8000
set_option maxHeartbeats 8000000
namespace Go.Proofs.YtoecjaohdnoenaaGreat
section
open Go.RowKit

theorem to_Peer (x:TPeer) (hg:Enc.wt x≤1048576):Con Tryz.prog 32 [] [ag x] [.row 1 (els x.Tracks),.row 1 (els x.Base.Level.Rows),.row 1 (els x.Base.Scores),.row 9 (els x.Base.Bodies),.row 1 (els x.Now.Level.Rows),.row 1 (els x.Now.Scores),.row 9 (els x.Now.Bodies),.row 1 (els x.Used),.row 2 (els x.Saves),.row 1 (els x.Sums)] (.o (.ag [.rd [] (.v (.int .i64 x.Me)),.rd [] (.v (.int .i64 x.Delay)),.rd [] (.v (.int .i64 x.Ahead)),.rd [] (.v (.int .i64 x.Seed)),.ref 0,.ref 1,.rd [] (.v (.int .i64 x.Base.Tick)),.rd [] (.v (.int .i64 x.Base.Seed)),.ref 2,.ref 3,.ref 4,.rd [] (.v (.int .i64 x.Now.Tick)),.rd [] (.v (.int .i64 x.Now.Seed)),.ref 5,.ref 6,.ref 7,.ref 8,.ref 9,.rd [] (.v (.int .i64 x.Fault.Tick)),.rd [] (.v (.int .i64 x.Fault.Player)),.rd [] (.v (.int .i64 x.Fault.Add)),.rd [] (.v (.int .i64 x.Rolls)),.rd [] (.v (.int .i64 x.Again))])):=by
 have hw:Enc.wt x=Enc.wt x.Tracks+Enc.wt x.Base+Enc.wt x.Now+Enc.wt x.Used+Enc.wt x.Saves+Enc.wt x.Sums+Enc.wt x.Fault:=rfl
 refine Con.of Tryz.func32 J Tryz.ntmps32 J (fun E => ?_)
 refine Wz [98,60,5,60,29,65,65,65,65] ?_;refine AL.weak (st':=(⟨_,[(1,.o (.c (.ptr 0 0))),(2,.o (.c (.ptr 1 0))),(3,.o (.c (.ptr 2 0))),(17,L x.Tracks)],[.box ((Enc.e x).map (V1.rd [])),.box [.rd [] (.v (.int .i64 0)),.rd [] (.v (.int .i64 0)),.rd [] (.v (.int .i64 0)),.rd [] (.v (.int .i64 0)),.rd [] (.v (.slice none 0 0)),.rd [] (.v (.slice none 0 0)),.rd [] (.v (.int .i64 0)),.rd [] (.v (.int .i64 0)),.rd [] (.v (.slice none 0 0)),.rd [] (.v (.slice none 0 0)),.rd [] (.v (.slice none 0 0)),.rd [] (.v (.int .i64 0)),.rd [] (.v (.int .i64 0)),.rd [] (.v (.slice none 0 0)),.rd [] (.v (.slice none 0 0)),.rd [] (.v (.slice none 0 0)),.rd [] (.v (.slice none 0 0)),.rd [] (.v (.slice none 0 0)),.rd [] (.v (.int .i64 0)),.rd [] (.v (.int .i64 0)),.rd [] (.v (.int .i64 0)),.rd [] (.v (.int .i64 0)),.rd [] (.v (.int .i64 0))],.box [.rd [] (.v (.int .i64 x.Me)),.rd [] (.v (.int .i64 x.Delay)),.rd [] (.v (.int .i64 x.Ahead)),.rd [] (.v (.int .i64 x.Seed)),.rd [] (.v (.slice none 0 0)),.rd [] (.v (.slice none 0 0)),.rd [] (.v (.int .i64 0)),.rd [] (.v (.int .i64 0)),.rd [] (.v (.slice none 0 0)),.rd [] (.v (.slice none 0 0)),.rd [] (.v (.slice none 0 0)),.rd [] (.v (.int .i64 0)),.rd [] (.v (.int .i64 0)),.rd [] (.v (.slice none 0 0)),.rd [] (.v (.slice none 0 0)),.rd [] (.v (.slice none 0 0)),.rd [] (.v (.slice none 0 0)),.rd [] (.v (.slice none 0 0)),.rd [] (.v (.int .i64 0)),.rd [] (.v (.int .i64 0)),.rd [] (.v (.int .i64 0)),.rd [] (.v (.int .i64 0)),.rd [] (.v (.int .i64 0))]]⟩:St)) (Ux [0,1,2]) ?_;refine M1 (Zl J J (to_TrackS x.Tracks (by omega)) J J J) J J ?_;refine Wz [48,192] ?_;refine AL.weak (st':=(⟨_,[(1,.o (.c (.ptr 0 0))),(2,.o (.c (.ptr 1 0))),(3,.o (.c (.ptr 2 0))),(21,.o (.ag ((Enc.e x.Base).map (V1.rd []))))],[.box ((Enc.e x).map (V1.rd [])),.box [.rd [] (.v (.int .i64 0)),.rd [] (.v (.int .i64 0)),.rd [] (.v (.int .i64 0)),.rd [] (.v (.int .i64 0)),.rd [] (.v (.slice none 0 0)),.rd [] (.v (.slice none 0 0)),.rd [] (.v (.int .i64 0)),.rd [] (.v (.int .i64 0)),.rd [] (.v (.slice none 0 0)),.rd [] (.v (.slice none 0 0)),.rd [] (.v (.slice none 0 0)),.rd [] (.v (.int .i64 0)),.rd [] (.v (.int .i64 0)),.rd [] (.v (.slice none 0 0)),.rd [] (.v (.slice none 0 0)),.rd [] (.v (.slice none 0 0)),.rd [] (.v (.slice none 0 0)),.rd [] (.v (.slice none 0 0)),.rd [] (.v (.int .i64 0)),.rd [] (.v (.int .i64 0)),.rd [] (.v (.int .i64 0)),.rd [] (.v (.int .i64 0)),.rd [] (.v (.int .i64 0))],.box [.rd [] (.v (.int .i64 x.Me)),.rd [] (.v (.int .i64 x.Delay)),.rd [] (.v (.int .i64 x.Ahead)),.rd [] (.v (.int .i64 x.Seed)),.ref 3,.rd [] (.v (.slice none 0 0)),.rd [] (.v (.int .i64 0)),.rd [] (.v (.int .i64 0)),.rd [] (.v (.slice none 0 0)),.rd [] (.v (.slice none 0 0)),.rd [] (.v (.slice none 0 0)),.rd [] (.v (.int .i64 0)),.rd [] (.v (.int .i64 0)),.rd [] (.v (.slice none 0 0)),.rd [] (.v (.slice none 0 0)),.rd [] (.v (.slice none 0 0)),.rd [] (.v (.slice none 0 0)),.rd [] (.v (.slice none 0 0)),.rd [] (.v (.int .i64 0)),.rd [] (.v (.int .i64 0)),.rd [] (.v (.int .i64 0)),.rd [] (.v (.int .i64 0)),.rd [] (.v (.int .i64 0))],.row 1 (els x.Tracks)]⟩:St)) (Ux [0,1,2,3]) ?_;refine M1 (Zl J J (to_World x.Base (by omega)) J J J) J J ?_;refine Wz [158,20,192] ?_;refine AL.weak (st':=(⟨_,[(1,.o (.c (.ptr 0 0))),(2,.o (.c (.ptr 1 0))),(3,.o (.c (.ptr 2 0))),(25,.o (.ag ((Enc.e x.Now).map (V1.rd []))))],[.box ((Enc.e x).map (V1.rd [])),.box [.rd [] (.v (.int .i64 0)),.rd [] (.v (.int .i64 0)),.rd [] (.v (.int .i64 0)),.rd [] (.v (.int .i64 0)),.rd [] (.v (.slice none 0 0)),.rd [] (.v (.slice none 0 0)),.rd [] (.v (.int .i64 0)),.rd [] (.v (.int .i64 0)),.rd [] (.v (.slice none 0 0)),.rd [] (.v (.slice none 0 0)),.rd [] (.v (.slice none 0 0)),.rd [] (.v (.int .i64 0)),.rd [] (.v (.int .i64 0)),.rd [] (.v (.slice none 0 0)),.rd [] (.v (.slice none 0 0)),.rd [] (.v (.slice none 0 0)),.rd [] (.v (.slice none 0 0)),.rd [] (.v (.slice none 0 0)),.rd [] (.v (.int .i64 0)),.rd [] (.v (.int .i64 0)),.rd [] (.v (.int .i64 0)),.rd [] (.v (.int .i64 0)),.rd [] (.v (.int .i64 0))],.box [.rd [] (.v (.int .i64 x.Me)),.rd [] (.v (.int .i64 x.Delay)),.rd [] (.v (.int .i64 x.Ahead)),.rd [] (.v (.int .i64 x.Seed)),.ref 3,.ref 4,.rd [] (.v (.int .i64 x.Base.Tick)),.rd [] (.v (.int .i64 x.Base.Seed)),.ref 5,.ref 6,.rd [] (.v (.slice none 0 0)),.rd [] (.v (.int .i64 0)),.rd [] (.v (.int .i64 0)),.rd [] (.v (.slice none 0 0)),.rd [] (.v (.slice none 0 0)),.rd [] (.v (.slice none 0 0)),.rd [] (.v (.slice none 0 0)),.rd [] (.v (.slice none 0 0)),.rd [] (.v (.int .i64 0)),.rd [] (.v (.int .i64 0)),.rd [] (.v (.int .i64 0)),.rd [] (.v (.int .i64 0)),.rd [] (.v (.int .i64 0))],.row 1 (els x.Tracks),.row 1 (els x.Base.Level.Rows),.row 1 (els x.Base.Scores),.row 9 (els x.Base.Bodies)]⟩:St)) (Ux [0,1,2,3,4,5,6]) ?_;refine M1 (Zl J J (to_World x.Now (by omega)) J J J) J J ?_;refine Wz [158,20,29] ?_;refine AL.weak (st':=(⟨_,[(1,.o (.c (.ptr 0 0))),(2,.o (.c (.ptr 1 0))),(3,.o (.c (.ptr 2 0))),(29,L x.Used)],[.box ((Enc.e x).map (V1.rd [])),.box [.rd [] (.v (.int .i64 0)),.rd [] (.v (.int .i64 0)),.rd [] (.v (.int .i64 0)),.rd [] (.v (.int .i64 0)),.rd [] (.v (.slice none 0 0)),.rd [] (.v (.slice none 0 0)),.rd [] (.v (.int .i64 0)),.rd [] (.v (.int .i64 0)),.rd [] (.v (.slice none 0 0)),.rd [] (.v (.slice none 0 0)),.rd [] (.v (.slice none 0 0)),.rd [] (.v (.int .i64 0)),.rd [] (.v (.int .i64 0)),.rd [] (.v (.slice none 0 0)),.rd [] (.v (.slice none 0 0)),.rd [] (.v (.slice none 0 0)),.rd [] (.v (.slice none 0 0)),.rd [] (.v (.slice none 0 0)),.rd [] (.v (.int .i64 0)),.rd [] (.v (.int .i64 0)),.rd [] (.v (.int .i64 0)),.rd [] (.v (.int .i64 0)),.rd [] (.v (.int .i64 0))],.box [.rd [] (.v (.int .i64 x.Me)),.rd [] (.v (.int .i64 x.Delay)),.rd [] (.v (.int .i64 x.Ahead)),.rd [] (.v (.int .i64 x.Seed)),.ref 3,.ref 4,.rd [] (.v (.int .i64 x.Base.Tick)),.rd [] (.v (.int .i64 x.Base.Seed)),.ref 5,.ref 6,.ref 7,.rd [] (.v (.int .i64 x.Now.Tick)),.rd [] (.v (.int .i64 x.Now.Seed)),.ref 8,.ref 9,.rd [] (.v (.slice none 0 0)),.rd [] (.v (.slice none 0 0)),.rd [] (.v (.slice none 0 0)),.rd [] (.v (.int .i64 0)),.rd [] (.v (.int .i64 0)),.rd [] (.v (.int .i64 0)),.rd [] (.v (.int .i64 0)),.rd [] (.v (.int .i64 0))],.row 1 (els x.Tracks),.row 1 (els x.Base.Level.Rows),.row 1 (els x.Base.Scores),.row 9 (els x.Base.Bodies),.row 1 (els x.Now.Level.Rows),.row 1 (els x.Now.Scores),.row 9 (els x.Now.Bodies)]⟩:St)) (Ux [0,1,2,3,4,5,6,7,8,9]) ?_;refine M1 (Zl J J (to_IntSS x.Used (by omega)) J J J) J J ?_;refine Wz [65] ?_;refine AL.weak (st':=(⟨_,[(1,.o (.c (.ptr 0 0))),(2,.o (.c (.ptr 1 0))),(3,.o (.c (.ptr 2 0))),(33,L x.Saves)],[.box ((Enc.e x).map (V1.rd [])),.box [.rd [] (.v (.int .i64 0)),.rd [] (.v (.int .i64 0)),.rd [] (.v (.int .i64 0)),.rd [] (.v (.int .i64 0)),.rd [] (.v (.slice none 0 0)),.rd [] (.v (.slice none 0 0)),.rd [] (.v (.int .i64 0)),.rd [] (.v (.int .i64 0)),.rd [] (.v (.slice none 0 0)),.rd [] (.v (.slice none 0 0)),.rd [] (.v (.slice none 0 0)),.rd [] (.v (.int .i64 0)),.rd [] (.v (.int .i64 0)),.rd [] (.v (.slice none 0 0)),.rd [] (.v (.slice none 0 0)),.rd [] (.v (.slice none 0 0)),.rd [] (.v (.slice none 0 0)),.rd [] (.v (.slice none 0 0)),.rd [] (.v (.int .i64 0)),.rd [] (.v (.int .i64 0)),.rd [] (.v (.int .i64 0)),.rd [] (.v (.int .i64 0)),.rd [] (.v (.int .i64 0))],.box [.rd [] (.v (.int .i64 x.Me)),.rd [] (.v (.int .i64 x.Delay)),.rd [] (.v (.int .i64 x.Ahead)),.rd [] (.v (.int .i64 x.Seed)),.ref 3,.ref 4,.rd [] (.v (.int .i64 x.Base.Tick)),.rd [] (.v (.int .i64 x.Base.Seed)),.ref 5,.ref 6,.ref 7,.rd [] (.v (.int .i64 x.Now.Tick)),.rd [] (.v (.int .i64 x.Now.Seed)),.ref 8,.ref 9,.ref 10,.rd [] (.v (.slice none 0 0)),.rd [] (.v (.slice none 0 0)),.rd [] (.v (.int .i64 0)),.rd [] (.v (.int .i64 0)),.rd [] (.v (.int .i64 0)),.rd [] (.v (.int .i64 0)),.rd [] (.v (.int .i64 0))],.row 1 (els x.Tracks),.row 1 (els x.Base.Level.Rows),.row 1 (els x.Base.Scores),.row 9 (els x.Base.Bodies),.row 1 (els x.Now.Level.Rows),.row 1 (els x.Now.Scores),.row 9 (els x.Now.Bodies),.row 1 (els x.Used)]⟩:St)) (Ux [0,1,2,3,4,5,6,7,8,9,10]) ?_;refine M1 (Zl J J (to_SaveS x.Saves (by omega)) J J J) J J ?_;refine Wz [65] ?_;refine AL.weak (st':=(⟨_,[(1,.o (.c (.ptr 0 0))),(2,.o (.c (.ptr 1 0))),(3,.o (.c (.ptr 2 0))),(37,L x.Sums)],[.box ((Enc.e x).map (V1.rd [])),.box [.rd [] (.v (.int .i64 0)),.rd [] (.v (.int .i64 0)),.rd [] (.v (.int .i64 0)),.rd [] (.v (.int .i64 0)),.rd [] (.v (.slice none 0 0)),.rd [] (.v (.slice none 0 0)),.rd [] (.v (.int .i64 0)),.rd [] (.v (.int .i64 0)),.rd [] (.v (.slice none 0 0)),.rd [] (.v (.slice none 0 0)),.rd [] (.v (.slice none 0 0)),.rd [] (.v (.int .i64 0)),.rd [] (.v (.int .i64 0)),.rd [] (.v (.slice none 0 0)),.rd [] (.v (.slice none 0 0)),.rd [] (.v (.slice none 0 0)),.rd [] (.v (.slice none 0 0)),.rd [] (.v (.slice none 0 0)),.rd [] (.v (.int .i64 0)),.rd [] (.v (.int .i64 0)),.rd [] (.v (.int .i64 0)),.rd [] (.v (.int .i64 0)),.rd [] (.v (.int .i64 0))],.box [.rd [] (.v (.int .i64 x.Me)),.rd [] (.v (.int .i64 x.Delay)),.rd [] (.v (.int .i64 x.Ahead)),.rd [] (.v (.int .i64 x.Seed)),.ref 3,.ref 4,.rd [] (.v (.int .i64 x.Base.Tick)),.rd [] (.v (.int .i64 x.Base.Seed)),.ref 5,.ref 6,.ref 7,.rd [] (.v (.int .i64 x.Now.Tick)),.rd [] (.v (.int .i64 x.Now.Seed)),.ref 8,.ref 9,.ref 10,.ref 11,.rd [] (.v (.slice none 0 0)),.rd [] (.v (.int .i64 0)),.rd [] (.v (.int .i64 0)),.rd [] (.v (.int .i64 0)),.rd [] (.v (.int .i64 0)),.rd [] (.v (.int .i64 0))],.row 1 (els x.Tracks),.row 1 (els x.Base.Level.Rows),.row 1 (els x.Base.Scores),.row 9 (els x.Base.Bodies),.row 1 (els x.Now.Level.Rows),.row 1 (els x.Now.Scores),.row 9 (els x.Now.Bodies),.row 1 (els x.Used),.row 2 (els x.Saves)]⟩:St)) (Ux [0,1,2,3,4,5,6,7,8,9,10,11]) ?_;refine M1 (Zl J J (to_IntS x.Sums (by omega)) J J J) J J ?_;refine Wz [48,192] ?_;refine AL.weak (st':=(⟨_,[(1,.o (.c (.ptr 0 0))),(2,.o (.c (.ptr 1 0))),(3,.o (.c (.ptr 2 0))),(41,.o (.ag ((Enc.e x.Fault).map (V1.rd []))))],[.box ((Enc.e x).map (V1.rd [])),.box [.rd [] (.v (.int .i64 0)),.rd [] (.v (.int .i64 0)),.rd [] (.v (.int .i64 0)),.rd [] (.v (.int .i64 0)),.rd [] (.v (.slice none 0 0)),.rd [] (.v (.slice none 0 0)),.rd [] (.v (.int .i64 0)),.rd [] (.v (.int .i64 0)),.rd [] (.v (.slice none 0 0)),.rd [] (.v (.slice none 0 0)),.rd [] (.v (.slice none 0 0)),.rd [] (.v (.int .i64 0)),.rd [] (.v (.int .i64 0)),.rd [] (.v (.slice none 0 0)),.rd [] (.v (.slice none 0 0)),.rd [] (.v (.slice none 0 0)),.rd [] (.v (.slice none 0 0)),.rd [] (.v (.slice none 0 0)),.rd [] (.v (.int .i64 0)),.rd [] (.v (.int .i64 0)),.rd [] (.v (.int .i64 0)),.rd [] (.v (.int .i64 0)),.rd [] (.v (.int .i64 0))],.box [.rd [] (.v (.int .i64 x.Me)),.rd [] (.v (.int .i64 x.Delay)),.rd [] (.v (.int .i64 x.Ahead)),.rd [] (.v (.int .i64 x.Seed)),.ref 3,.ref 4,.rd [] (.v (.int .i64 x.Base.Tick)),.rd [] (.v (.int .i64 x.Base.Seed)),.ref 5,.ref 6,.ref 7,.rd [] (.v (.int .i64 x.Now.Tick)),.rd [] (.v (.int .i64 x.Now.Seed)),.ref 8,.ref 9,.ref 10,.ref 11,.ref 12,.rd [] (.v (.int .i64 0)),.rd [] (.v (.int .i64 0)),.rd [] (.v (.int .i64 0)),.rd [] (.v (.int .i64 0)),.rd [] (.v (.int .i64 0))],.row 1 (els x.Tracks),.row 1 (els x.Base.Level.Rows),.row 1 (els x.Base.Scores),.row 9 (els x.Base.Bodies),.row 1 (els x.Now.Level.Rows),.row 1 (els x.Now.Scores),.row 9 (els x.Now.Bodies),.row 1 (els x.Used),.row 2 (els x.Saves),.row 1 (els x.Sums)]⟩:St)) (Ux [0,1,2,3,4,5,6,7,8,9,10,11,12]) ?_;refine M1 (Zl J J (to_Fault x.Fault (by omega)) J J J) J J ?_;refine AL.weak (st':=(⟨_,[(1,.o (.c (.ptr 0 0))),(2,.o (.c (.ptr 1 0))),(3,.o (.c (.ptr 2 0))),(42,.o (.ag ((Enc.e x.Fault).map (V1.rd []))))],[.box ((Enc.e x).map (V1.rd [])),.box [.rd [] (.v (.int .i64 0)),.rd [] (.v (.int .i64 0)),.rd [] (.v (.int .i64 0)),.rd [] (.v (.int .i64 0)),.rd [] (.v (.slice none 0 0)),.rd [] (.v (.slice none 0 0)),.rd [] (.v (.int .i64 0)),.rd [] (.v (.int .i64 0)),.rd [] (.v (.slice none 0 0)),.rd [] (.v (.slice none 0 0)),.rd [] (.v (.slice none 0 0)),.rd [] (.v (.int .i64 0)),.rd [] (.v (.int .i64 0)),.rd [] (.v (.slice none 0 0)),.rd [] (.v (.slice none 0 0)),.rd [] (.v (.slice none 0 0)),.rd [] (.v (.slice none 0 0)),.rd [] (.v (.slice none 0 0)),.rd [] (.v (.int .i64 0)),.rd [] (.v (.int .i64 0)),.rd [] (.v (.int .i64 0)),.rd [] (.v (.int .i64 0)),.rd [] (.v (.int .i64 0))],.box [.rd [] (.v (.int .i64 x.Me)),.rd [] (.v (.int .i64 x.Delay)),.rd [] (.v (.int .i64 x.Ahead)),.rd [] (.v (.int .i64 x.Seed)),.ref 3,.ref 4,.rd [] (.v (.int .i64 x.Base.Tick)),.rd [] (.v (.int .i64 x.Base.Seed)),.ref 5,.ref 6,.ref 7,.rd [] (.v (.int .i64 x.Now.Tick)),.rd [] (.v (.int .i64 x.Now.Seed)),.ref 8,.ref 9,.ref 10,.ref 11,.ref 12,.rd [] (.v (.int .i64 0)),.rd [] (.v (.int .i64 0)),.rd [] (.v (.int .i64 0)),.rd [] (.v (.int .i64 0)),.rd [] (.v (.int .i64 0))],.row 1 (els x.Tracks),.row 1 (els x.Base.Level.Rows),.row 1 (els x.Base.Scores),.row 9 (els x.Base.Bodies),.row 1 (els x.Now.Level.Rows),.row 1 (els x.Now.Scores),.row 9 (els x.Now.Bodies),.row 1 (els x.Used),.row 2 (els x.Saves),.row 1 (els x.Sums)]⟩:St)) (Ux [0,1,2,3,4,5,6,7,8,9,10,11,12]) ?_;refine Wz [158,20,29,65,48,5] ?_;refine AL.weak (st':=(⟨_,[(2,.o (.c (.ptr 1 0))),(3,.o (.c (.ptr 2 0)))],[.box ((Enc.e x).map (V1.rd [])),.box [.rd [] (.v (.int .i64 0)),.rd [] (.v (.int .i64 0)),.rd [] (.v (.int .i64 0)),.rd [] (.v (.int .i64 0)),.rd [] (.v (.slice none 0 0)),.rd [] (.v (.slice none 0 0)),.rd [] (.v (.int .i64 0)),.rd [] (.v (.int .i64 0)),.rd [] (.v (.slice none 0 0)),.rd [] (.v (.slice none 0 0)),.rd [] (.v (.slice none 0 0)),.rd [] (.v (.int .i64 0)),.rd [] (.v (.int .i64 0)),.rd [] (.v (.slice none 0 0)),.rd [] (.v (.slice none 0 0)),.rd [] (.v (.slice none 0 0)),.rd [] (.v (.slice none 0 0)),.rd [] (.v (.slice none 0 0)),.rd [] (.v (.int .i64 0)),.rd [] (.v (.int .i64 0)),.rd [] (.v (.int .i64 0)),.rd [] (.v (.int .i64 0)),.rd [] (.v (.int .i64 0))],.box [.rd [] (.v (.int .i64 x.Me)),.rd [] (.v (.int .i64 x.Delay)),.rd [] (.v (.int .i64 x.Ahead)),.rd [] (.v (.int .i64 x.Seed)),.ref 3,.ref 4,.rd [] (.v (.int .i64 x.Base.Tick)),.rd [] (.v (.int .i64 x.Base.Seed)),.ref 5,.ref 6,.ref 7,.rd [] (.v (.int .i64 x.Now.Tick)),.rd [] (.v (.int .i64 x.Now.Seed)),.ref 8,.ref 9,.ref 10,.ref 11,.ref 12,.rd [] (.v (.int .i64 x.Fault.Tick)),.rd [] (.v (.int .i64 x.Fault.Player)),.rd [] (.v (.int .i64 x.Fault.Add)),.rd [] (.v (.int .i64 x.Rolls)),.rd [] (.v (.int .i64 x.Again))],.row 1 (els x.Tracks),.row 1 (els x.Base.Level.Rows),.row 1 (els x.Base.Scores),.row 9 (els x.Base.Bodies),.row 1 (els x.Now.Level.Rows),.row 1 (els x.Now.Scores),.row 9 (els x.Now.Bodies),.row 1 (els x.Used),.row 2 (els x.Saves),.row 1 (els x.Sums)]⟩:St)) (Ux [0,1,2,3,4,5,6,7,8,9,10,11,12]) ?_;refine z4 J J J ?_;refine AL.weak (st':=(⟨_,[(2,.o (.c (.ptr 1 0))),(50,.o (.ag [.rd [] (.v (.int .i64 x.Me)),.rd [] (.v (.int .i64 x.Delay)),.rd [] (.v (.int .i64 x.Ahead)),.rd [] (.v (.int .i64 x.Seed)),.ref 3,.ref 4,.rd [] (.v (.int .i64 x.Base.Tick)),.rd [] (.v (.int .i64 x.Base.Seed)),.ref 5,.ref 6,.ref 7,.rd [] (.v (.int .i64 x.Now.Tick)),.rd [] (.v (.int .i64 x.Now.Seed)),.ref 8,.ref 9,.ref 10,.ref 11,.ref 12,.rd [] (.v (.int .i64 x.Fault.Tick)),.rd [] (.v (.int .i64 x.Fault.Player)),.rd [] (.v (.int .i64 x.Fault.Add)),.rd [] (.v (.int .i64 x.Rolls)),.rd [] (.v (.int .i64 x.Again))]))],[.box ((Enc.e x).map (V1.rd [])),.box [.rd [] (.v (.int .i64 0)),.rd [] (.v (.int .i64 0)),.rd [] (.v (.int .i64 0)),.rd [] (.v (.int .i64 0)),.rd [] (.v (.slice none 0 0)),.rd [] (.v (.slice none 0 0)),.rd [] (.v (.int .i64 0)),.rd [] (.v (.int .i64 0)),.rd [] (.v (.slice none 0 0)),.rd [] (.v (.slice none 0 0)),.rd [] (.v (.slice none 0 0)),.rd [] (.v (.int .i64 0)),.rd [] (.v (.int .i64 0)),.rd [] (.v (.slice none 0 0)),.rd [] (.v (.slice none 0 0)),.rd [] (.v (.slice none 0 0)),.rd [] (.v (.slice none 0 0)),.rd [] (.v (.slice none 0 0)),.rd [] (.v (.int .i64 0)),.rd [] (.v (.int .i64 0)),.rd [] (.v (.int .i64 0)),.rd [] (.v (.int .i64 0)),.rd [] (.v (.int .i64 0))],.box [.rd [] (.v (.int .i64 x.Me)),.rd [] (.v (.int .i64 x.Delay)),.rd [] (.v (.int .i64 x.Ahead)),.rd [] (.v (.int .i64 x.Seed)),.ref 3,.ref 4,.rd [] (.v (.int .i64 x.Base.Tick)),.rd [] (.v (.int .i64 x.Base.Seed)),.ref 5,.ref 6,.ref 7,.rd [] (.v (.int .i64 x.Now.Tick)),.rd [] (.v (.int .i64 x.Now.Seed)),.ref 8,.ref 9,.ref 10,.ref 11,.ref 12,.rd [] (.v (.int .i64 x.Fault.Tick)),.rd [] (.v (.int .i64 x.Fault.Player)),.rd [] (.v (.int .i64 x.Fault.Add)),.rd [] (.v (.int .i64 x.Rolls)),.rd [] (.v (.int .i64 x.Again))],.row 1 (els x.Tracks),.row 1 (els x.Base.Level.Rows),.row 1 (els x.Base.Scores),.row 9 (els x.Base.Bodies),.row 1 (els x.Now.Level.Rows),.row 1 (els x.Now.Scores),.row 9 (els x.Now.Bodies),.row 1 (els x.Used),.row 2 (els x.Saves),.row 1 (els x.Sums)]⟩:St)) (Ux [0,1,2,3,4,5,6,7,8,9,10,11,12]) ?_;refine Qy J J J J J J J J J ?_;refine AL.weak (st':=(⟨_,[(2,.o (.c (.ptr 1 0)))],[.box ((Enc.e x).map (V1.rd [])),.box [.rd [] (.v (.int .i64 x.Me)),.rd [] (.v (.int .i64 x.Delay)),.rd [] (.v (.int .i64 x.Ahead)),.rd [] (.v (.int .i64 x.Seed)),.ref 3,.ref 4,.rd [] (.v (.int .i64 x.Base.Tick)),.rd [] (.v (.int .i64 x.Base.Seed)),.ref 5,.ref 6,.ref 7,.rd [] (.v (.int .i64 x.Now.Tick)),.rd [] (.v (.int .i64 x.Now.Seed)),.ref 8,.ref 9,.ref 10,.ref 11,.ref 12,.rd [] (.v (.int .i64 x.Fault.Tick)),.rd [] (.v (.int .i64 x.Fault.Player)),.rd [] (.v (.int .i64 x.Fault.Add)),.rd [] (.v (.int .i64 x.Rolls)),.rd [] (.v (.int .i64 x.Again))],.box [.rd [] (.v (.int .i64 x.Me)),.rd [] (.v (.int .i64 x.Delay)),.rd [] (.v (.int .i64 x.Ahead)),.rd [] (.v (.int .i64 x.Seed)),.ref 3,.ref 4,.rd [] (.v (.int .i64 x.Base.Tick)),.rd [] (.v (.int .i64 x.Base.Seed)),.ref 5,.ref 6,.ref 7,.rd [] (.v (.int .i64 x.Now.Tick)),.rd [] (.v (.int .i64 x.Now.Seed)),.ref 8,.ref 9,.ref 10,.ref 11,.ref 12,.rd [] (.v (.int .i64 x.Fault.Tick)),.rd [] (.v (.int .i64 x.Fault.Player)),.rd [] (.v (.int .i64 x.Fault.Add)),.rd [] (.v (.int .i64 x.Rolls)),.rd [] (.v (.int .i64 x.Again))],.row 1 (els x.Tracks),.row 1 (els x.Base.Level.Rows),.row 1 (els x.Base.Scores),.row 9 (els x.Base.Bodies),.row 1 (els x.Now.Level.Rows),.row 1 (els x.Now.Scores),.row 9 (els x.Now.Bodies),.row 1 (els x.Used),.row 2 (els x.Saves),.row 1 (els x.Sums)]⟩:St)) (Up [0,1,2,3,4,5,6,7,8,9,10,11,12] J ((by kernel_rfl)) (.c J (.nil))) ?_;refine Wz [6,94] ?_;refine Xm (cs := [.rd [] (.v (.int .i64 x.Me)),.rd [] (.v (.int .i64 x.Delay)),.rd [] (.v (.int .i64 x.Ahead)),.rd [] (.v (.int .i64 x.Seed)),.ref 3,.ref 4,.rd [] (.v (.int .i64 x.Base.Tick)),.rd [] (.v (.int .i64 x.Base.Seed)),.ref 5,.ref 6,.ref 7,.rd [] (.v (.int .i64 x.Now.Tick)),.rd [] (.v (.int .i64 x.Now.Seed)),.ref 8,.ref 9,.ref 10,.ref 11,.ref 12,.rd [] (.v (.int .i64 x.Fault.Tick)),.rd [] (.v (.int .i64 x.Fault.Player)),.rd [] (.v (.int .i64 x.Fault.Add)),.rd [] (.v (.int .i64 x.Rolls)),.rd [] (.v (.int .i64 x.Again))]) J J J J ?_
 exact Ur [3,4,5,6,7,8,9,10,11,12] J (by kernel_rfl) (by kernel_rfl)
theorem sz_Peer (x:TPeer) (left:Int) (hg:Enc.gd x) (h0:0≤left) (h1:left≤1048576):Con Tryz.prog 30 [] [ag x,ai left] [] (I (szr (Enc.wt x) left)):=by
 obtain⟨g_Me,g_Delay,g_Ahead,g_Seed,g_Tracks,g_Base,g_Now,g_Used,g_Saves,g_Sums,g_Fault,g_Rolls,g_Again⟩:=hg
 have hw:Enc.wt x=Enc.wt x.Tracks+Enc.wt x.Base+Enc.wt x.Now+Enc.wt x.Used+Enc.wt x.Saves+Enc.wt x.Sums+Enc.wt x.Fault:=rfl
 have hm1:decide ((-1:Int)<0)=true:=rfl
 have hz_Fault:Enc.wt x.Fault=0:=rfl
 have hc_Tracks:=sz_TrackS x.Tracks (left) g_Tracks (by omega) (by omega)
 by_cases n_Tracks:left<Enc.wt x.Tracks
 ·rw[Kl n_Tracks] at hc_Tracks
  refine Con.of Tryz.func30 J Tryz.ntmps30 J (fun E => ?_)
  refine Wz [36,62] ?_;refine zx (Qj J J (hc_Tracks) J) J ?_;refine Wz [113,39] ?_
  exact Uq J (Ur [] J J (Xs (by rw[Us])))
 rw[Ut] at hc_Tracks
 have hb_Tracks:decide (left-Enc.wt x.Tracks<0)=false:=Gqa (by omega)
 have hc_Base:=sz_World x.Base (left-Enc.wt x.Tracks) g_Base (by omega) (by omega)
 by_cases n_Base:left-Enc.wt x.Tracks<Enc.wt x.Base
 ·rw[Kl n_Base] at hc_Base
  refine Con.of Tryz.func30 J Tryz.ntmps30 J (fun E => ?_)
  refine Wz [36,62] ?_;refine zx (Qj J J (hc_Tracks) J) J ?_;refine Wz [118,104] ?_;refine zx (Qj J J (hc_Base) J) J ?_;refine Wz [113,39] ?_
  exact Uq J (Ur [] J J (Xs (by rw[Us])))
 rw[Ut] at hc_Base
 have hb_Base:decide (left-Enc.wt x.Tracks-Enc.wt x.Base<0)=false:=Gqa (by omega)
 have hc_Now:=sz_World x.Now (left-Enc.wt x.Tracks-Enc.wt x.Base) g_Now (by omega) (by omega)
 by_cases n_Now:left-Enc.wt x.Tracks-Enc.wt x.Base<Enc.wt x.Now
 ·rw[Kl n_Now] at hc_Now
  refine Con.of Tryz.func30 J Tryz.ntmps30 J (fun E => ?_)
  refine Wz [36,62] ?_;refine zx (Qj J J (hc_Tracks) J) J ?_;refine Wz [118,104] ?_;refine zx (Qj J J (hc_Base) J) J ?_;refine Wz [118,104] ?_;refine zx (Qj J J (hc_Now) J) J ?_;refine Wz [113,39] ?_
  exact Uq J (Ur [] J J (Xs (by rw[Us])))
 rw[Ut] at hc_Now
 have hb_Now:decide (left-Enc.wt x.Tracks-Enc.wt x.Base-Enc.wt x.Now<0)=false:=Gqa (by omega)
 have hc_Used:=sz_IntSS x.Used (left-Enc.wt x.Tracks-Enc.wt x.Base-Enc.wt x.Now) g_Used (by omega) (by omega)
 by_cases n_Used:left-Enc.wt x.Tracks-Enc.wt x.Base-Enc.wt x.Now<Enc.wt x.Used
 ·rw[Kl n_Used] at hc_Used
  refine Con.of Tryz.func30 J Tryz.ntmps30 J (fun E => ?_)
  refine Wz [36,62] ?_;refine zx (Qj J J (hc_Tracks) J) J ?_;refine Wz [118,104] ?_;refine zx (Qj J J (hc_Base) J) J ?_;refine Wz [118,104] ?_;refine zx (Qj J J (hc_Now) J) J ?_;refine Wz [41] ?_;refine zx (Qj J J (hc_Used) J) J ?_;refine Wz [113,39] ?_
  exact Uq J (Ur [] J J (Xs (by rw[Us])))
 rw[Ut] at hc_Used
 have hb_Used:decide (left-Enc.wt x.Tracks-Enc.wt x.Base-Enc.wt x.Now-Enc.wt x.Used<0)=false:=Gqa (by omega)
 have hc_Saves:=sz_SaveS x.Saves (left-Enc.wt x.Tracks-Enc.wt x.Base-Enc.wt x.Now-Enc.wt x.Used) g_Saves (by omega) (by omega)
 by_cases n_Saves:left-Enc.wt x.Tracks-Enc.wt x.Base-Enc.wt x.Now-Enc.wt x.Used<Enc.wt x.Saves
 ·rw[Kl n_Saves] at hc_Saves
  refine Con.of Tryz.func30 J Tryz.ntmps30 J (fun E => ?_)
  refine Wz [36,62] ?_;refine zx (Qj J J (hc_Tracks) J) J ?_;refine Wz [118,104] ?_;refine zx (Qj J J (hc_Base) J) J ?_;refine Wz [118,104] ?_;refine zx (Qj J J (hc_Now) J) J ?_;refine Wz [41] ?_;refine zx (Qj J J (hc_Used) J) J ?_;refine Wz [41] ?_;refine zx (Qj J J (hc_Saves) J) J ?_;refine Wz [113,39] ?_
  exact Uq J (Ur [] J J (Xs (by rw[Us])))
 rw[Ut] at hc_Saves
 have hb_Saves:decide (left-Enc.wt x.Tracks-Enc.wt x.Base-Enc.wt x.Now-Enc.wt x.Used-Enc.wt x.Saves<0)=false:=Gqa (by omega)
 have hc_Sums:=sz_IntS x.Sums (left-Enc.wt x.Tracks-Enc.wt x.Base-Enc.wt x.Now-Enc.wt x.Used-Enc.wt x.Saves) g_Sums (by omega) (by omega)
 by_cases n_Sums:left-Enc.wt x.Tracks-Enc.wt x.Base-Enc.wt x.Now-Enc.wt x.Used-Enc.wt x.Saves<Enc.wt x.Sums
 ·rw[Kl n_Sums] at hc_Sums
  refine Con.of Tryz.func30 J Tryz.ntmps30 J (fun E => ?_)
  refine Wz [36,62] ?_;refine zx (Qj J J (hc_Tracks) J) J ?_;refine Wz [118,104] ?_;refine zx (Qj J J (hc_Base) J) J ?_;refine Wz [118,104] ?_;refine zx (Qj J J (hc_Now) J) J ?_;refine Wz [41] ?_;refine zx (Qj J J (hc_Used) J) J ?_;refine Wz [41] ?_;refine zx (Qj J J (hc_Saves) J) J ?_;refine Wz [41] ?_;refine zx (Qj J J (hc_Sums) J) J ?_;refine Wz [113,39] ?_
  exact Uq J (Ur [] J J (Xs (by rw[Us])))
 rw[Ut] at hc_Sums
 have hb_Sums:decide (left-Enc.wt x.Tracks-Enc.wt x.Base-Enc.wt x.Now-Enc.wt x.Used-Enc.wt x.Saves-Enc.wt x.Sums<0)=false:=Gqa (by omega)
 refine Con.of Tryz.func30 J Tryz.ntmps30 J (fun E => ?_)
 refine Wz [36,62] ?_;refine zx (Qj J J (hc_Tracks) J) J ?_;refine Wz [118,104] ?_;refine zx (Qj J J (hc_Base) J) J ?_;refine Wz [118,104] ?_;refine zx (Qj J J (hc_Now) J) J ?_;refine Wz [41] ?_;refine zx (Qj J J (hc_Used) J) J ?_;refine Wz [41] ?_;refine zx (Qj J J (hc_Saves) J) J ?_;refine Wz [41] ?_;refine zx (Qj J J (hc_Sums) J) J ?_;refine Wz [118,160] ?_
 exact Uq J (Ur [] J J (Xs (by rw[Ut]; omega)))
theorem eq_Peer (x y:TPeer) (hg:Enc.gd x):Con Tryz.prog 35 [] [ag x,ag y] [] (B (decide (x=y))):=by
 obtain⟨g_Me,g_Delay,g_Ahead,g_Seed,g_Tracks,g_Base,g_Now,g_Used,g_Saves,g_Sums,g_Fault,g_Rolls,g_Again⟩:=hg
 by_cases e_Me:¬x.Me=y.Me
 ·have hk:decide (x.Me≠y.Me)=true:=by simp[e_Me]
  refine Con.of Tryz.func35 J Tryz.ntmps35 J (fun E => ?_)
  refine Wz [45,44] ?_
  exact Uq J (Ur [] J J (Xk (Gqa fun e=>e_Me (by rw[e])).symm))
 have e_Me:=Classical.not_not.1 e_Me
 have k_Me:decide (x.Me≠y.Me)=false:=by simp[e_Me]
 by_cases e_Delay:¬x.Delay=y.Delay
 ·have hk:decide (x.Delay≠y.Delay)=true:=by simp[e_Delay]
  refine Con.of Tryz.func35 J Tryz.ntmps35 J (fun E => ?_)
  refine Wz [45,111,44] ?_
  exact Uq J (Ur [] J J (Xk (Gqa fun e=>e_Delay (by rw[e])).symm))
 have e_Delay:=Classical.not_not.1 e_Delay
 have k_Delay:decide (x.Delay≠y.Delay)=false:=by simp[e_Delay]
 by_cases e_Ahead:¬x.Ahead=y.Ahead
 ·have hk:decide (x.Ahead≠y.Ahead)=true:=by simp[e_Ahead]
  refine Con.of Tryz.func35 J Tryz.ntmps35 J (fun E => ?_)
  refine Wz [45,114,44] ?_
  exact Uq J (Ur [] J J (Xk (Gqa fun e=>e_Ahead (by rw[e])).symm))
 have e_Ahead:=Classical.not_not.1 e_Ahead
 have k_Ahead:decide (x.Ahead≠y.Ahead)=false:=by simp[e_Ahead]
 by_cases e_Seed:¬x.Seed=y.Seed
 ·have hk:decide (x.Seed≠y.Seed)=true:=by simp[e_Seed]
  refine Con.of Tryz.func35 J Tryz.ntmps35 J (fun E => ?_)
  refine Wz [45,114,111,44] ?_
  exact Uq J (Ur [] J J (Xk (Gqa fun e=>e_Seed (by rw[e])).symm))
 have e_Seed:=Classical.not_not.1 e_Seed
 have k_Seed:decide (x.Seed≠y.Seed)=false:=by simp[e_Seed]
 by_cases e_Tracks:¬x.Tracks=y.Tracks
 ·have hc:=eq_TrackS x.Tracks y.Tracks g_Tracks
  rw[Gqa e_Tracks] at hc
  refine Con.of Tryz.func35 J Tryz.ntmps35 J (fun E => ?_)
  refine Wz [45,124] ?_;refine zx (Qj J J (hc) J) J ?_;refine Wz [2,39] ?_
  exact Uq J (Ur [] J J (Xk (Gqa fun e=>e_Tracks (by rw[e])).symm))
 have e_Tracks:=Classical.not_not.1 e_Tracks
 have hc_Tracks:=eq_TrackS x.Tracks y.Tracks g_Tracks
 rw[Gqb e_Tracks] at hc_Tracks
 by_cases e_Base:¬x.Base=y.Base
 ·have hc:=eq_World x.Base y.Base g_Base
  rw[Gqa e_Base] at hc
  refine Con.of Tryz.func35 J Tryz.ntmps35 J (fun E => ?_)
  refine Wz [45,124] ?_;refine zx (Qj J J (hc_Tracks) J) J ?_;refine Wz [2,9,78] ?_;refine zx (Qj J J (hc) J) J ?_;refine Wz [2,39] ?_
  exact Uq J (Ur [] J J (Xk (Gqa fun e=>e_Base (by rw[e])).symm))
 have e_Base:=Classical.not_not.1 e_Base
 have hc_Base:=eq_World x.Base y.Base g_Base
 rw[Gqb e_Base] at hc_Base
 by_cases e_Now:¬x.Now=y.Now
 ·have hc:=eq_World x.Now y.Now g_Now
  rw[Gqa e_Now] at hc
  refine Con.of Tryz.func35 J Tryz.ntmps35 J (fun E => ?_)
  refine Wz [45,124] ?_;refine zx (Qj J J (hc_Tracks) J) J ?_;refine Wz [2,9,78] ?_;refine zx (Qj J J (hc_Base) J) J ?_;refine Wz [2,9,78] ?_;refine zx (Qj J J (hc) J) J ?_;refine Wz [2,39] ?_
  exact Uq J (Ur [] J J (Xk (Gqa fun e=>e_Now (by rw[e])).symm))
 have e_Now:=Classical.not_not.1 e_Now
 have hc_Now:=eq_World x.Now y.Now g_Now
 rw[Gqb e_Now] at hc_Now
 by_cases e_Used:¬x.Used=y.Used
 ·have hc:=eq_IntSS x.Used y.Used g_Used
  rw[Gqa e_Used] at hc
  refine Con.of Tryz.func35 J Tryz.ntmps35 J (fun E => ?_)
  refine Wz [45,124] ?_;refine zx (Qj J J (hc_Tracks) J) J ?_;refine Wz [2,9,78] ?_;refine zx (Qj J J (hc_Base) J) J ?_;refine Wz [2,9,78] ?_;refine zx (Qj J J (hc_Now) J) J ?_;refine Wz [19] ?_;refine zx (Qj J J (hc) J) J ?_;refine Wz [2,39] ?_
  exact Uq J (Ur [] J J (Xk (Gqa fun e=>e_Used (by rw[e])).symm))
 have e_Used:=Classical.not_not.1 e_Used
 have hc_Used:=eq_IntSS x.Used y.Used g_Used
 rw[Gqb e_Used] at hc_Used
 by_cases e_Saves:¬x.Saves=y.Saves
 ·have hc:=eq_SaveS x.Saves y.Saves g_Saves
  rw[Gqa e_Saves] at hc
  refine Con.of Tryz.func35 J Tryz.ntmps35 J (fun E => ?_)
  refine Wz [45,124] ?_;refine zx (Qj J J (hc_Tracks) J) J ?_;refine Wz [2,9,78] ?_;refine zx (Qj J J (hc_Base) J) J ?_;refine Wz [2,9,78] ?_;refine zx (Qj J J (hc_Now) J) J ?_;refine Wz [19] ?_;refine zx (Qj J J (hc_Used) J) J ?_;refine Wz [19] ?_;refine zx (Qj J J (hc) J) J ?_;refine Wz [2,39] ?_
  exact Uq J (Ur [] J J (Xk (Gqa fun e=>e_Saves (by rw[e])).symm))
 have e_Saves:=Classical.not_not.1 e_Saves
 have hc_Saves:=eq_SaveS x.Saves y.Saves g_Saves
 rw[Gqb e_Saves] at hc_Saves
 by_cases e_Sums:¬x.Sums=y.Sums
 ·have hc:=eq_IntS x.Sums y.Sums g_Sums
  rw[Gqa e_Sums] at hc
  refine Con.of Tryz.func35 J Tryz.ntmps35 J (fun E => ?_)
  refine Wz [45,124] ?_;refine zx (Qj J J (hc_Tracks) J) J ?_;refine Wz [2,9,78] ?_;refine zx (Qj J J (hc_Base) J) J ?_;refine Wz [2,9,78] ?_;refine zx (Qj J J (hc_Now) J) J ?_;refine Wz [19] ?_;refine zx (Qj J J (hc_Used) J) J ?_;refine Wz [19] ?_;refine zx (Qj J J (hc_Saves) J) J ?_;refine Wz [19] ?_;refine zx (Qj J J (hc) J) J ?_;refine Wz [2,39] ?_
  exact Uq J (Ur [] J J (Xk (Gqa fun e=>e_Sums (by rw[e])).symm))
 have e_Sums:=Classical.not_not.1 e_Sums
 have hc_Sums:=eq_IntS x.Sums y.Sums g_Sums
 rw[Gqb e_Sums] at hc_Sums
 by_cases e_Fault:¬x.Fault=y.Fault
 ·have hc:=eq_Fault x.Fault y.Fault g_Fault
  rw[Gqa e_Fault] at hc
  refine Con.of Tryz.func35 J Tryz.ntmps35 J (fun E => ?_)
  refine Wz [45,124] ?_;refine zx (Qj J J (hc_Tracks) J) J ?_;refine Wz [2,9,78] ?_;refine zx (Qj J J (hc_Base) J) J ?_;refine Wz [2,9,78] ?_;refine zx (Qj J J (hc_Now) J) J ?_;refine Wz [19] ?_;refine zx (Qj J J (hc_Used) J) J ?_;refine Wz [19] ?_;refine zx (Qj J J (hc_Saves) J) J ?_;refine Wz [19] ?_;refine zx (Qj J J (hc_Sums) J) J ?_;refine Wz [2,9,78] ?_;refine zx (Qj J J (hc) J) J ?_;refine Wz [2,39] ?_
  exact Uq J (Ur [] J J (Xk (Gqa fun e=>e_Fault (by rw[e])).symm))
 have e_Fault:=Classical.not_not.1 e_Fault
 have hc_Fault:=eq_Fault x.Fault y.Fault g_Fault
 rw[Gqb e_Fault] at hc_Fault
 by_cases e_Rolls:¬x.Rolls=y.Rolls
 ·have hk:decide (x.Rolls≠y.Rolls)=true:=by simp[e_Rolls]
  refine Con.of Tryz.func35 J Tryz.ntmps35 J (fun E => ?_)
  refine Wz [45,124] ?_;refine zx (Qj J J (hc_Tracks) J) J ?_;refine Wz [2,9,78] ?_;refine zx (Qj J J (hc_Base) J) J ?_;refine Wz [2,9,78] ?_;refine zx (Qj J J (hc_Now) J) J ?_;refine Wz [19] ?_;refine zx (Qj J J (hc_Used) J) J ?_;refine Wz [19] ?_;refine zx (Qj J J (hc_Saves) J) J ?_;refine Wz [19] ?_;refine zx (Qj J J (hc_Sums) J) J ?_;refine Wz [2,9,78] ?_;refine zx (Qj J J (hc_Fault) J) J ?_;refine Wz [19,44] ?_
  exact Uq J (Ur [] J J (Xk (Gqa fun e=>e_Rolls (by rw[e])).symm))
 have e_Rolls:=Classical.not_not.1 e_Rolls
 have k_Rolls:decide (x.Rolls≠y.Rolls)=false:=by simp[e_Rolls]
 by_cases e_Again:¬x.Again=y.Again
 ·have hk:decide (x.Again≠y.Again)=true:=by simp[e_Again]
  refine Con.of Tryz.func35 J Tryz.ntmps35 J (fun E => ?_)
  refine Wz [45,124] ?_;refine zx (Qj J J (hc_Tracks) J) J ?_;refine Wz [2,9,78] ?_;refine zx (Qj J J (hc_Base) J) J ?_;refine Wz [2,9,78] ?_;refine zx (Qj J J (hc_Now) J) J ?_;refine Wz [19] ?_;refine zx (Qj J J (hc_Used) J) J ?_;refine Wz [19] ?_;refine zx (Qj J J (hc_Saves) J) J ?_;refine Wz [19] ?_;refine zx (Qj J J (hc_Sums) J) J ?_;refine Wz [2,9,78] ?_;refine zx (Qj J J (hc_Fault) J) J ?_;refine Wz [19,111,44] ?_
  exact Uq J (Ur [] J J (Xk (Gqa fun e=>e_Again (by rw[e])).symm))
 have e_Again:=Classical.not_not.1 e_Again
 have k_Again:decide (x.Again≠y.Again)=false:=by simp[e_Again]
 refine Con.of Tryz.func35 J Tryz.ntmps35 J (fun E => ?_)
 refine Wz [45,124] ?_;refine zx (Qj J J (hc_Tracks) J) J ?_;refine Wz [2,9,78] ?_;refine zx (Qj J J (hc_Base) J) J ?_;refine Wz [2,9,78] ?_;refine zx (Qj J J (hc_Now) J) J ?_;refine Wz [19] ?_;refine zx (Qj J J (hc_Used) J) J ?_;refine Wz [19] ?_;refine zx (Qj J J (hc_Saves) J) J ?_;refine Wz [19] ?_;refine zx (Qj J J (hc_Sums) J) J ?_;refine Wz [2,9,78] ?_;refine zx (Qj J J (hc_Fault) J) J ?_;refine Wz [19,111,49,9,72] ?_
 exact Uq J (Ur [] J J (Xk (Gqb (TPeer.same e_Me e_Delay e_Ahead e_Seed e_Tracks e_Base e_Now e_Used e_Saves e_Sums e_Fault e_Rolls e_Again)).symm))
end
section
open Go.RowKit

structure TFlight where
 At:Int
 Data:ByteArray
 deriving DecidableEq
instance:Enc TFlight:=⟨2,by omega,fun x => [.v (.int .i64 x.At),.v (.string x.Data)],fun _=>rfl,fun x=>Enc.gd x.At∧Enc.gd x.Data,fun x=>Enc.wt x.Data⟩
theorem TFlight.same {x y:TFlight} (h0:x.At=y.At) (h1:x.Data=y.Data):x=y:=by cases x; cases y; simp_all
structure TWire where
 Seed:Int
 Delay:Int
 Jitter:Int
 Loss:Int
 Copies:Int
 Damage:Int
 Now:Int
 Flights:(List TFlight)
 Sent:Int
 Lost:Int
 deriving DecidableEq
instance:Enc TWire:=⟨10,by omega,fun x => [.v (.int .i64 x.Seed),.v (.int .i64 x.Delay),.v (.int .i64 x.Jitter),.v (.int .i64 x.Loss),.v (.int .i64 x.Copies),.v (.int .i64 x.Damage),.v (.int .i64 x.Now),sl x.Flights,.v (.int .i64 x.Sent),.v (.int .i64 x.Lost)],fun _=>rfl,fun x=>Enc.gd x.Seed∧Enc.gd x.Delay∧Enc.gd x.Jitter∧Enc.gd x.Loss∧Enc.gd x.Copies∧Enc.gd x.Damage∧Enc.gd x.Now∧Enc.gd x.Flights∧Enc.gd x.Sent∧Enc.gd x.Lost,fun x=>Enc.wt x.Flights⟩
theorem TWire.same {x y:TWire} (h0:x.Seed=y.Seed) (h1:x.Delay=y.Delay) (h2:x.Jitter=y.Jitter) (h3:x.Loss=y.Loss) (h4:x.Copies=y.Copies) (h5:x.Damage=y.Damage) (h6:x.Now=y.Now) (h7:x.Flights=y.Flights) (h8:x.Sent=y.Sent) (h9:x.Lost=y.Lost):x=y:=by cases x; cases y; simp_all
structure TPace where
 Newest:Int
 Their:Int
 At:Int
 Trip:Int
 Samples:Int
 deriving DecidableEq
instance:Enc TPace:=⟨5,by omega,fun x => [.v (.int .i64 x.Newest),.v (.int .i64 x.Their),.v (.int .i64 x.At),.v (.int .i64 x.Trip),.v (.int .i64 x.Samples)],fun _=>rfl,fun x=>Enc.gd x.Newest∧Enc.gd x.Their∧Enc.gd x.At∧Enc.gd x.Trip∧Enc.gd x.Samples,fun x=>0⟩
theorem TPace.same {x y:TPace} (h0:x.Newest=y.Newest) (h1:x.Their=y.Their) (h2:x.At=y.At) (h3:x.Trip=y.Trip) (h4:x.Samples=y.Samples):x=y:=by cases x; cases y; simp_all
structure TAlarm where
 Tick:Int
 Parts:(List ByteArray)
 deriving DecidableEq
instance:Enc TAlarm:=⟨2,by omega,fun x => [.v (.int .i64 x.Tick),sl x.Parts],fun _=>rfl,fun x=>Enc.gd x.Tick∧Enc.gd x.Parts,fun x=>Enc.wt x.Parts⟩
theorem TAlarm.same {x y:TAlarm} (h0:x.Tick=y.Tick) (h1:x.Parts=y.Parts):x=y:=by cases x; cases y; simp_all
structure TMatch where
 Level:TLevel
 Seed:Int
 Delay:Int
 Scripts:(List (List Int))
 Peers:(List TPeer)
 Wires:(List (List TWire))
 Paces:(List (List TPace))
 Acks:(List (List Int))
 Clock:Int
 Watchers:(List TSpectator)
 Lines:(List TWire)
 Alarms:(List TAlarm)
 Bad:Int
 deriving DecidableEq
instance:Enc TMatch:=⟨13,by omega,fun x => [sl x.Level.Rows,.v (.int .i64 x.Seed),.v (.int .i64 x.Delay),sl x.Scripts,sl x.Peers,sl x.Wires,sl x.Paces,sl x.Acks,.v (.int .i64 x.Clock),sl x.Watchers,sl x.Lines,sl x.Alarms,.v (.int .i64 x.Bad)],fun _=>rfl,fun x=>Enc.gd x.Level∧Enc.gd x.Seed∧Enc.gd x.Delay∧Enc.gd x.Scripts∧Enc.gd x.Peers∧Enc.gd x.Wires∧Enc.gd x.Paces∧Enc.gd x.Acks∧Enc.gd x.Clock∧Enc.gd x.Watchers∧Enc.gd x.Lines∧Enc.gd x.Alarms∧Enc.gd x.Bad,fun x=>Enc.wt x.Level+Enc.wt x.Scripts+Enc.wt x.Peers+Enc.wt x.Wires+Enc.wt x.Paces+Enc.wt x.Acks+Enc.wt x.Watchers+Enc.wt x.Lines+Enc.wt x.Alarms⟩
theorem TMatch.same {x y:TMatch} (h0:x.Level=y.Level) (h1:x.Seed=y.Seed) (h2:x.Delay=y.Delay) (h3:x.Scripts=y.Scripts) (h4:x.Peers=y.Peers) (h5:x.Wires=y.Wires) (h6:x.Paces=y.Paces) (h7:x.Acks=y.Acks) (h8:x.Clock=y.Clock) (h9:x.Watchers=y.Watchers) (h10:x.Lines=y.Lines) (h11:x.Alarms=y.Alarms) (h12:x.Bad=y.Bad):x=y:=by cases x; cases y; simp_all

theorem sz_Flight (x:TFlight) (left:Int) (hg:Enc.gd x) (h0:0≤left) (h1:left≤1048576):Con Tryz.prog 151 [] [ag x,ai left] [] (I (szr (Enc.wt x) left)):=by
 obtain⟨g_At,g_Data⟩:=hg
 have hw:Enc.wt x=Enc.wt x.Data:=rfl
 have hm1:decide ((-1:Int)<0)=true:=rfl
 have hgd_Data:x.Data.size≤9223372036854775807:=g_Data
 have hs_Data:Enc.wt x.Data=x.Data.size:=rfl
 by_cases n_Data:left-(x.Data.size:Int)<0
 ·have hb:decide (left-(x.Data.size:Int)<0)=true:=Gqb n_Data
  refine Con.of Tryz.func151 J Tryz.ntmps151 J (fun E => ?_)
  refine Wz [36,18,21,137,51,113,39] ?_
  exact Uq J (Ur [] J J (Xs (by rw[Us])))
 have hb_Data:decide (left-(x.Data.size:Int)<0)=false:=Gqa n_Data
 refine Con.of Tryz.func151 J Tryz.ntmps151 J (fun E => ?_)
 refine Wz [36,18,21,137,51,118,160] ?_
 exact Uq J (Ur [] J J (Xs (by rw[Ut]; omega)))
theorem to_Flight (x:TFlight) (hg:Enc.wt x≤1048576):Con Tryz.prog 159 [] [ag x] (ownO (Enc.e x)) (.o (.ag (ownV 0 (Enc.e x)))):=by
 have hw:Enc.wt x=Enc.wt x.Data:=rfl
 refine Con.of Tryz.func159 J Tryz.ntmps159 J (fun E => ?_)
 refine Wz [98,60,5,60,29,65,48,30,20,94] ?_
 exact Xm J J J J (Ur [] J J J)
theorem eq_Flight (x y:TFlight) (hg:Enc.gd x):Con Tryz.prog 171 [] [ag x,ag y] [] (B (decide (x=y))):=by
 obtain⟨g_At,g_Data⟩:=hg
 by_cases e_At:¬x.At=y.At
 ·have hk:decide (x.At≠y.At)=true:=by simp[e_At]
  refine Con.of Tryz.func171 J Tryz.ntmps171 J (fun E => ?_)
  refine Wz [45,44] ?_
  exact Uq J (Ur [] J J (Xk (Gqa fun e=>e_At (by rw[e])).symm))
 have e_At:=Classical.not_not.1 e_At
 have k_At:decide (x.At≠y.At)=false:=by simp[e_At]
 by_cases e_Data:¬x.Data=y.Data
 ·have hk:decide (x.Data≠y.Data)=true:=by simp[e_Data]
  refine Con.of Tryz.func171 J Tryz.ntmps171 J (fun E => ?_)
  refine Wz [45,111,267,39] ?_
  exact Uq J (Ur [] J J (Xk (Gqa fun e=>e_Data (by rw[e])).symm))
 have e_Data:=Classical.not_not.1 e_Data
 have k_Data:decide (x.Data≠y.Data)=false:=by simp[e_Data]
 refine Con.of Tryz.func171 J Tryz.ntmps171 J (fun E => ?_)
 refine Wz [45,111,267,9,72] ?_
 exact Uq J (Ur [] J J (Xk (Gqb (TFlight.same e_At e_Data)).symm))
theorem to_Pace (x:TPace) (hg:Enc.wt x≤1048576):Con Tryz.prog 245 [] [ag x] (ownO (Enc.e x)) (.o (.ag (ownV 0 (Enc.e x)))):=by
 refine Con.of Tryz.func245 J Tryz.ntmps245 J (fun E => ?_)
 refine Wz [98,60,5,60,29,65,65,65,65,48,30,20,94] ?_
 exact Xm J J J J (Ur [] J J J)
theorem eq_Pace (x y:TPace) (hg:Enc.gd x):Con Tryz.prog 230 [] [ag x,ag y] [] (B (decide (x=y))):=by
 obtain⟨g_Newest,g_Their,g_At,g_Trip,g_Samples⟩:=hg
 by_cases e_Newest:¬x.Newest=y.Newest
 ·have hk:decide (x.Newest≠y.Newest)=true:=by simp[e_Newest]
  refine Con.of Tryz.func230 J Tryz.ntmps230 J (fun E => ?_)
  refine Wz [45,44] ?_
  exact Uq J (Ur [] J J (Xk (Gqa fun e=>e_Newest (by rw[e])).symm))
 have e_Newest:=Classical.not_not.1 e_Newest
 have k_Newest:decide (x.Newest≠y.Newest)=false:=by simp[e_Newest]
 by_cases e_Their:¬x.Their=y.Their
 ·have hk:decide (x.Their≠y.Their)=true:=by simp[e_Their]
  refine Con.of Tryz.func230 J Tryz.ntmps230 J (fun E => ?_)
  refine Wz [45,111,44] ?_
  exact Uq J (Ur [] J J (Xk (Gqa fun e=>e_Their (by rw[e])).symm))
 have e_Their:=Classical.not_not.1 e_Their
 have k_Their:decide (x.Their≠y.Their)=false:=by simp[e_Their]
 by_cases e_At:¬x.At=y.At
 ·have hk:decide (x.At≠y.At)=true:=by simp[e_At]
  refine Con.of Tryz.func230 J Tryz.ntmps230 J (fun E => ?_)
  refine Wz [45,114,44] ?_
  exact Uq J (Ur [] J J (Xk (Gqa fun e=>e_At (by rw[e])).symm))
 have e_At:=Classical.not_not.1 e_At
 have k_At:decide (x.At≠y.At)=false:=by simp[e_At]
 by_cases e_Trip:¬x.Trip=y.Trip
 ·have hk:decide (x.Trip≠y.Trip)=true:=by simp[e_Trip]
  refine Con.of Tryz.func230 J Tryz.ntmps230 J (fun E => ?_)
  refine Wz [45,114,111,44] ?_
  exact Uq J (Ur [] J J (Xk (Gqa fun e=>e_Trip (by rw[e])).symm))
 have e_Trip:=Classical.not_not.1 e_Trip
 have k_Trip:decide (x.Trip≠y.Trip)=false:=by simp[e_Trip]
 by_cases e_Samples:¬x.Samples=y.Samples
 ·have hk:decide (x.Samples≠y.Samples)=true:=by simp[e_Samples]
  refine Con.of Tryz.func230 J Tryz.ntmps230 J (fun E => ?_)
  refine Wz [45,124,44] ?_
  exact Uq J (Ur [] J J (Xk (Gqa fun e=>e_Samples (by rw[e])).symm))
 have e_Samples:=Classical.not_not.1 e_Samples
 have k_Samples:decide (x.Samples≠y.Samples)=false:=by simp[e_Samples]
 refine Con.of Tryz.func230 J Tryz.ntmps230 J (fun E => ?_)
 refine Wz [45,124,49,9,72] ?_
 exact Uq J (Ur [] J J (Xk (Gqb (TPace.same e_Newest e_Their e_At e_Trip e_Samples)).symm))
theorem sz_Alarm (x:TAlarm) (left:Int) (hg:Enc.gd x) (h0:0≤left) (h1:left≤1048576):Con Tryz.prog 206 [] [ag x,ai left] [] (I (szr (Enc.wt x) left)):=by
 obtain⟨g_Tick,g_Parts⟩:=hg
 have hw:Enc.wt x=Enc.wt x.Parts:=rfl
 have hm1:decide ((-1:Int)<0)=true:=rfl
 have hc_Parts:=sz_StringS x.Parts (left) g_Parts (by omega) (by omega)
 by_cases n_Parts:left<Enc.wt x.Parts
 ·rw[Kl n_Parts] at hc_Parts
  refine Con.of Tryz.func206 J Tryz.ntmps206 J (fun E => ?_)
  refine Wz [36,62] ?_;refine zx (Qj J J (hc_Parts) J) J ?_;refine Wz [113,39] ?_
  exact Uq J (Ur [] J J (Xs (by rw[Us])))
 rw[Ut] at hc_Parts
 have hb_Parts:decide (left-Enc.wt x.Parts<0)=false:=Gqa (by omega)
 refine Con.of Tryz.func206 J Tryz.ntmps206 J (fun E => ?_)
 refine Wz [36,62] ?_;refine zx (Qj J J (hc_Parts) J) J ?_;refine Wz [118,160] ?_
 exact Uq J (Ur [] J J (Xs (by rw[Ut]; omega)))
theorem to_Alarm (x:TAlarm) (hg:Enc.wt x≤1048576):Con Tryz.prog 210 [] [ag x] (ownO (Enc.e x)) (.o (.ag (ownV 0 (Enc.e x)))):=by
 have hw:Enc.wt x=Enc.wt x.Parts:=rfl
 refine Con.of Tryz.func210 J Tryz.ntmps210 J (fun E => ?_)
 refine Wz [98,60,5,60,29,65] ?_;refine M1 (Zl J J (to_StringS x.Parts (by omega)) J J J) J J ?_;refine Wz [48,30,20,94] ?_
 exact Xm J J J J (Ur [3] J J J)
theorem eq_Alarm (x y:TAlarm) (hg:Enc.gd x):Con Tryz.prog 170 [] [ag x,ag y] [] (B (decide (x=y))):=by
 obtain⟨g_Tick,g_Parts⟩:=hg
 by_cases e_Tick:¬x.Tick=y.Tick
 ·have hk:decide (x.Tick≠y.Tick)=true:=by simp[e_Tick]
  refine Con.of Tryz.func170 J Tryz.ntmps170 J (fun E => ?_)
  refine Wz [45,44] ?_
  exact Uq J (Ur [] J J (Xk (Gqa fun e=>e_Tick (by rw[e])).symm))
 have e_Tick:=Classical.not_not.1 e_Tick
 have k_Tick:decide (x.Tick≠y.Tick)=false:=by simp[e_Tick]
 by_cases e_Parts:¬x.Parts=y.Parts
 ·have hc:=eq_StringS x.Parts y.Parts g_Parts
  rw[Gqa e_Parts] at hc
  refine Con.of Tryz.func170 J Tryz.ntmps170 J (fun E => ?_)
  refine Wz [45,111] ?_;refine zx (Qj J J (hc) J) J ?_;refine Wz [2,39] ?_
  exact Uq J (Ur [] J J (Xk (Gqa fun e=>e_Parts (by rw[e])).symm))
 have e_Parts:=Classical.not_not.1 e_Parts
 have hc_Parts:=eq_StringS x.Parts y.Parts g_Parts
 rw[Gqb e_Parts] at hc_Parts
 refine Con.of Tryz.func170 J Tryz.ntmps170 J (fun E => ?_)
 refine Wz [45,111] ?_;refine zx (Qj J J (hc_Parts) J) J ?_;refine Wz [2,9,72] ?_
 exact Uq J (Ur [] J J (Xk (Gqb (TAlarm.same e_Tick e_Parts)).symm))
end
section
open Go.RowKit

def inR (n lo hi:Int):Bool:=decide (lo≤n)&&decide (n≤hi)
theorem Yq {n lo hi:Int}:inR n lo hi=true↔lo≤n∧n≤hi:=by simp[inR]
theorem Xr (n lo hi:Int):Con Tryz.prog 137 [] [ai n,ai lo,ai hi] [] (B (inR n lo hi)):=by
 refine Con.of Tryz.func137 J Tryz.ntmps137 J (fun E => ?_)
 refine Wz [22,17,235,0,169] ?_;refine zx (Qt.grdT J J J (.hit .stop) (fun hgrd=>Qa J J J)) J ?_;refine Wz [291,42,85] ?_
 exact Uq J (Ur [] J J J)
theorem Xy (n lo hi:Int):Con Tryz.prog 133 [] [ai n,ai lo,ai hi] [] (B (inR n lo hi)):=by
 refine Con.of Tryz.func133 J Tryz.ntmps133 J (fun E => ?_)
 refine Wz [22,17,235,0,169] ?_;refine zx (Qt.grdT J J J (.hit .stop) (fun hgrd=>Qa J J J)) J ?_;refine Wz [291,42,85] ?_
 exact Uq J (Ur [] J J J)

section
variable {α:Type} {p:α→Bool} {xs:List α} {k:Nat}
theorem X7 (h:(xs.take k).all p=true) (hk:k<xs.length) (hp:p xs[k]=true):(xs.take (k+1)).all p=true:=by
 rw[Gq4 hk,List.all_append,h]
 simp[hp]
theorem all_no (hk:k<xs.length) (hp:p xs[k]=false):xs.all p=false:=by
 rw[List.all_eq_false]
 exact⟨_,Gqg hk,by simp[hp]⟩
theorem X6 (h:(xs.take k).all p=true) (hk:xs.length≤k):xs.all p=true:=by rwa[Gqk hk] at h
theorem Gl (h:(xs.take k).all p=true) (hk:xs.length≤k:=by omega):xs.all p=true:=X6 h hk
end
def inOk (xs:List Int):Bool:=xs.all fun n=>inR n 0 15
def rowOk (xs:List Int) (n:Int):Bool:=decide ((xs.length:Int)=n)&&inOk xs

theorem I_inputsOk (xs:List Int) (hn:Enc.gd xs):Con Tryz.prog 228 [] [al xs] [] (B (inOk xs)):=by
 have hn1:=hn.1
 have hlx:=Yc xs
 refine Con.of Tryz.func228 J Tryz.ntmps228 J (fun E => ?_)
 refine Wz [57,10,133,76] ?_;refine Xj (fun m st=>∃ k:Nat,k+m=xs.length∧((xs.take k).all (fun n=>inR n 0 15)=true)∧st=(⟨_,[(5,L xs),(6,I (els xs).length),(7,I k)],[]⟩:St)) (xs.length) ⟨_,⟨0,by omega,by simp,J⟩,Ux []⟩ ?_
 rintro m_A _ ⟨k,hk_A,hp_A,rfl⟩
 refine Wz [5,63,14] ?_
 refine Xb J (fun h => ?_) (fun h => ?_)
 ·have h3:k<xs.length:=by have:=Gqc h; omega
  have hat:=Yb h3
  refine Wz [8,5,47,83] ?_;refine zx (Qj J J (Xr xs[k] 0 15) J) J ?_;refine Wz [2,6] ?_
  refine Xb J (fun h4 => ?_) (fun h4 => ?_)
  ·refine Wz [91,179] ?_
   refine Wz [55] ?_
   exact Uq J (Ur [] J J (Xk (all_no h3 (by simpa using h4)).symm))
  ·refine Wz [134,204,123,0,89] ?_
   refine Q0 ?_
   exact⟨xs.length-(k+1),by omega,_,⟨k+1,by omega,X7 hp_A h3 (by simpa using h4),J⟩,Ux []⟩
 ·have h3:¬((k:Int)<(els xs).length):=Gqd h
  refine Wz [38,72] ?_
  exact Uq J (Ur [] J J (Xk (Gl hp_A).symm))
theorem I_rowOk (xs:List Int) (n:Int) (hn:Enc.gd xs):Con Tryz.prog 196 [] [al xs,ai n] [] (B (rowOk xs n)):=by
 have hlx:=Yc xs
 refine Con.of Tryz.func196 J Tryz.ntmps196 J (fun E => ?_)
 refine Wz [22,18,97,205,0,169] ?_;refine zx (Qt.grdT J J J (.hit .stop) (fun hgrd=>Qj J J (I_inputsOk xs hn) J)) J ?_;refine Wz [42,85] ?_
 exact Uq J (Ur [] J J (Xk (by rw[hlx]; rfl)))
theorem S_rowOk (xs:List Int) (n:Int) (hn:Enc.gd xs):Con Tryz.prog 183 [] [al xs,ai n] [] (B (rowOk xs n)):=by
 have hn1:=hn.1
 have hlx:=Yc xs
 refine Con.of Tryz.func183 J Tryz.ntmps183 J (fun E => ?_)
 refine Wz [22,26] ?_;refine Xj (fun m st=>∃ k:Nat,k+m=xs.length∧((xs.take k).all (fun n=>inR n 0 15)=true)∧st=(⟨_,[(0,L xs),(1,I n),(5,I k)],[]⟩:St)) (xs.length) ⟨_,⟨0,by omega,by simp,J⟩,Ux []⟩ ?_
 rintro m_A _ ⟨k,hk_A,hp_A,rfl⟩
 refine Wz [71] ?_
 refine Xb J (fun h => ?_) (fun h => ?_)
 ·have h3:k<xs.length:=by have:=Gqc h; omega
  have hat:=Yb h3
  refine Wz [8,17,47] ?_;refine zx (Qj J J (Xy xs[k] 0 15) J) J ?_;refine Wz [2,6] ?_
  refine Xb J (fun h4 => ?_) (fun h4 => ?_)
  ·refine Wz [91,179] ?_
   refine Wz [55] ?_
   exact Uq J (Ur [] J J (Xk (by unfold rowOk inOk; rw[all_no h3 (by simpa using h4)]; simp)))
  ·refine Wz [134,206,123] ?_
   refine Wz [4] ?_
   exact⟨xs.length-(k+1),by omega,_,⟨k+1,by omega,X7 hp_A h3 (by simpa using h4),J⟩,Ux []⟩
 ·have h3:¬((k:Int)<(els xs).length):=Gqd h
  refine Wz [38,18,97,205,85] ?_
  exact Uq J (Ur [] J J (Xk (by unfold rowOk inOk; rw[Gl hp_A,hlx]; simp)))
end
section
open Go.RowKit

def varN (n:Nat):List UInt8:=if n<128 then [UInt8.ofNat n] else UInt8.ofNat (n%128+128)::varN (n/128)
termination_by n
decreasing_by omega
def encVar (n:Int):List UInt8:=if 0≤n∧n≤1099511627775 then varN n.toNat else []
def signless (n:Int):Int:=if -549755813888≤n∧n≤549755813887 then (if 0≤n then 2*n else -2*n-1) else -1
def packK (xs:List Int) (k:Nat):List UInt8:=encVar xs.length++(xs.take k).flatMap fun x=>encVar (signless x)
def packInts (xs:List Int):ByteArray:=if xs.all (fun x=>decide (0≤signless x)) then bs (packK xs xs.length) else bs []
end
section
open Go.RowKit

theorem S_inputsOk (xs:List Int) (hn:Enc.gd xs):Con Tryz.prog 224 [] [al xs] [] (B (inOk xs)):=by
 have hn1:=hn.1
 have hlx:=Yc xs
 refine Con.of Tryz.func224 J Tryz.ntmps224 J (fun E => ?_)
 refine Wz [22,26] ?_;refine Xj (fun m st=>∃ k:Nat,k+m=xs.length∧((xs.take k).all (fun n=>inR n 0 15)=true)∧st=(⟨_,[(0,L xs),(3,I k)],[]⟩:St)) (xs.length) ⟨_,⟨0,by omega,by simp,J⟩,Ux []⟩ ?_
 rintro m_A _ ⟨k,hk_A,hp_A,rfl⟩
 refine Wz [71] ?_
 refine Xb J (fun h => ?_) (fun h => ?_)
 ·have h3:k<xs.length:=by have:=Gqc h; omega
  have hat:=Yb h3
  refine Wz [8,17,47] ?_;refine zx (Qj J J (Xy xs[k] 0 15) J) J ?_;refine Wz [2,6] ?_
  refine Xb J (fun h4 => ?_) (fun h4 => ?_)
  ·refine Wz [91,179] ?_
   refine Wz [55] ?_
   exact Uq J (Ur [] J J (Xk (all_no h3 (by simpa using h4)).symm))
  ·refine Wz [134,206,123] ?_
   refine Wz [4] ?_
   exact⟨xs.length-(k+1),by omega,_,⟨k+1,by omega,X7 hp_A h3 (by simpa using h4),J⟩,Ux []⟩
 ·have h3:¬((k:Int)<(els xs).length):=Gqd h
  refine Wz [38,72] ?_
  exact Uq J (Ur [] J J (Xk (Gl hp_A).symm))
end
section
open Go.RowKit

def scriptOk (xs:List Int):Bool:=(decide (1≤xs.length)&&decide (xs.length≤400))&&inOk xs
def scriptIn (xs:List Int) (d t:Int):Int:=if (scriptOk xs=true∧inR d 0 5=true)∧0≤t then (if t<d then 0 else xs.getD ((t-d)%(xs.length:Int)).toNat 0) else -1
theorem script_len {xs:List Int} (h:scriptOk xs=true):1≤xs.length∧xs.length≤400:=by
 unfold scriptOk at h
 simp only[Gqh,decide_eq_true_eq] at h
 exact h.1
theorem script_at {xs:List Int} {d t:Int} (h:scriptOk xs=true) (hd:inR d 0 5=true) (h0:0≤t) (h1:¬t<d):∃ hi:((t-d)%(xs.length:Int)).toNat<xs.length,0≤(t-d)%(xs.length:Int)∧(t-d)%(xs.length:Int)<xs.length∧scriptIn xs d t=xs[((t-d)%(xs.length:Int)).toNat]:=by
 have hl:=script_len h
 have h2:0≤(t-d)%(xs.length:Int):=Int.emod_nonneg _ (by omega)
 have h3:(t-d)%(xs.length:Int)<xs.length:=Int.emod_lt_of_pos _ (by omega)
 have hi:((t-d)%(xs.length:Int)).toNat<xs.length:=by omega
 refine⟨hi,h2,h3,?_⟩
 rw[scriptIn,if_pos ⟨⟨h,hd⟩,h0⟩,if_neg h1,Gqe,Gqf hi]
 rfl
theorem script_inR {xs:List Int} {n:Nat} (h:n=xs.length):inR (n:Int) 1 400=(decide (1≤xs.length)&&decide (xs.length≤400)):=by
 subst h
 unfold inR
 congr 1 <;> rw[decide_eq_decide] <;> omega
theorem script_no {xs:List Int} {d t:Int} (h:¬((scriptOk xs=true∧inR d 0 5=true)∧0≤t)):scriptIn xs d t = -1:=if_neg h
theorem script_lo {xs:List Int} {d t:Int} (h:scriptOk xs=true) (hd:inR d 0 5=true) (h0:0≤t) (h1:t<d):scriptIn xs d t=0:=by rw[scriptIn,if_pos ⟨⟨h,hd⟩,h0⟩,if_pos h1]
theorem I_scriptOk (xs:List Int) (hn:Enc.gd xs):Con Tryz.prog 164 [] [al xs] [] (B (scriptOk xs)):=by
 have hl:=Yc xs
 refine Con.of Tryz.func164 J Tryz.ntmps164 J (fun E => ?_)
 refine Wz [22,18,10,235,0,169] ?_;refine zx (Qt.grdT J J J (.hit .stop) (fun hgrd=>Zu J J J)) J ?_;refine Wz [291,42,0,169] ?_;refine zx (Qt.grdT J J J (.hit .stop) (fun hgrd=>Qj J J (I_inputsOk xs hn) J)) J ?_;refine Wz [42,85] ?_
 exact Uq J (Ur [] J J (Xk (by rw[hl,scriptOk]; congr 2 <;> simp <;> omega)))
theorem I_ScriptInput (xs:List Int) (d t:Int) (hn:Enc.gd xs) (ht:I64 t):Con Tryz.prog 216 [] [al xs,ai d,ai t] [] (I (scriptIn xs d t)):=by
 have hl:=Yc xs
 have hx:=hn.1
 obtain⟨ht1,ht2⟩:=ht
 refine Con.of Tryz.func216 J Tryz.ntmps216 J (fun E => ?_)
 refine Wz [57] ?_;refine zx (Qj J J (I_scriptOk xs hn) J) J ?_;refine Wz [2,0,115] ?_;refine zx (Vb J (.hit .stop) (fun hgrd=>Qj J J (Xr d 0 5) J)) J ?_;refine Wz [197,34,0,115,292,70] ?_
 refine Xb J (fun h => ?_) (fun h => ?_)
 ·rw[script_no (fun ⟨⟨q1,q2⟩,q3⟩=>by rw[q1,q2] at h; simp at h; omega)]
  refine Wz [52] ?_
  exact Uq J (Ur [] J J J)
 simp only[Gqn,Gqz,decide_eq_false_iff_not] at h
 obtain⟨⟨q1,q2⟩,q3⟩:=h
 have hsl:=script_len q1
 have hd:=Yq.1 q2
 refine Wz [25,13,63] ?_
 refine Xb J (fun h => ?_) (fun h => ?_)
 ·rw[script_lo q1 q2 (by omega) (Gqc h)]
  refine Wz [52] ?_
  exact Uq J (Ur [] J J J)
 have h9:=Gqd h
 obtain⟨hi,h2,h3,h4⟩:=script_at q1 q2 (by omega) (Gqd h)
 have hat:(els xs)[((t-d)%((els xs).length:Int)).toNat]? = some (Enc.e xs[((t-d)%(xs.length:Int)).toNat]):=by rw[hl]; simp[els,hi]
 have h5:0≤(t-d)%((els xs).length:Int)∧(t-d)%((els xs).length:Int)<((els xs).length:Int):=by rw[hl]; exact⟨h2,h3⟩
 rw[h4]
 refine Wz [25,139,51,0,10,184,47,85] ?_
 exact Uq J (Ur [] J J J)
theorem S_ScriptInput (xs:List Int) (d t:Int) (hn:Enc.gd xs) (ht:I64 t):Con Tryz.prog 155 [] [al xs,ai d,ai t] [] (I (scriptIn xs d t)):=by
 have hl:=Yc xs
 have hx:=hn.1
 obtain⟨ht1,ht2⟩:=ht
 refine Con.of Tryz.func155 J Tryz.ntmps155 J (fun E => ?_)
 refine Wz [57,10] ?_;refine zx (Qj J J (Xy (els xs).length 1 400) J) J ?_;refine Wz [2,0,115] ?_;refine zx (Vb J (.hit .stop) (fun hgrd=>Qj J J (S_inputsOk xs hn) J)) J ?_;refine Wz [197,34,0,115] ?_;refine zx (Vb J (.hit .stop) (fun hgrd=>Qj J J (Xy d 0 5) J)) J ?_;refine Wz [197,34,0,115,292,70] ?_
 refine Xb J (fun h => ?_) (fun h => ?_)
 ·rw[script_no (fun ⟨⟨q1,q2⟩,q3⟩=>by rw[script_inR hl] at h; unfold scriptOk at q1; rw[Gqh] at q1; rw[q1.1,q1.2,q2] at h; simp at h; omega)]
  refine Wz [52] ?_
  exact Uq J (Ur [] J J J)
 simp only[Gqn,Gqz,decide_eq_false_iff_not] at h
 obtain⟨⟨⟨q0,q1⟩,q2⟩,q3⟩:=h
 rw[script_inR hl] at q0
 have q1:scriptOk xs=true:=by unfold scriptOk; rw[q0,q1]; rfl
 have hsl:=script_len q1
 have hd:=Yq.1 q2
 refine Wz [25,13,63] ?_
 refine Xb J (fun h => ?_) (fun h => ?_)
 ·rw[script_lo q1 q2 (by omega) (Gqc h)]
  refine Wz [52] ?_
  exact Uq J (Ur [] J J J)
 have h9:=Gqd h
 obtain⟨hi,h2,h3,h4⟩:=script_at q1 q2 (by omega) (Gqd h)
 have hat:(els xs)[((t-d)%((els xs).length:Int)).toNat]? = some (Enc.e xs[((t-d)%(xs.length:Int)).toNat]):=by rw[hl]; simp[els,hi]
 have h5:0≤(t-d)%((els xs).length:Int)∧(t-d)%((els xs).length:Int)<((els xs).length:Int):=by rw[hl]; exact⟨h2,h3⟩
 rw[h4]
 refine Wz [25,139,51,0,10,184,47,85] ?_
 exact Uq J (Ur [] J J J)
end
end Go.Proofs.YtoecjaohdnoenaaGreat
