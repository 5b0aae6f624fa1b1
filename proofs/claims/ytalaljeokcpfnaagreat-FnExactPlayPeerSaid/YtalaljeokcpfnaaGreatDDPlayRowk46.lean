/-
  The kit's readings of the laws' matches as Lean data. No statement of the program is proved here.
  Conditions: none.
-/
import Derived.Test.YtalaljeokcpfnaaGreatDDPlayRowk45
set_option linter.unusedVariables false
set_option linter.unusedSimpArgs false
namespace Go.Proofs.YtalaljeokcpfnaaGreat
section
open Go.ChangeShapes Go.WideShapes Go.ChangeAt Go.RowKit

instance:RdOf Tryz.prog 216 TFlight where
 size:=Aqb
 of {H enc w spare held fuel cs x} h:=by
  obtain⟨y0,g0,r0⟩:=Vw (α:=Int) (tt:=3) Tryz.underlying216 h 0 rfl rfl rfl
  obtain⟨y1,g1,r1⟩:=Vw (α:=ByteArray) (tt:=9) Tryz.underlying216 h 1 rfl rfl rfl
  refine⟨⟨y0,y1⟩,⟨g0,g1⟩,?_,?_⟩
  ·rw[Vx Tryz.underlying216 h]; kernel_rfl
  ·exact Bji
instance:RdOf Tryz.prog 104 (List TFlight):=Vs Tryz.underlying104 Aqb 
instance:RdOf Tryz.prog 106 TWire where
 size:=Aqb
 of {H enc w spare held fuel cs x} h:=by
  obtain⟨y0,g0,r0⟩:=Vw (α:=Int) (tt:=3) Tryz.underlying106 h 0 rfl rfl rfl
  obtain⟨y1,g1,r1⟩:=Vw (α:=Int) (tt:=3) Tryz.underlying106 h 1 rfl rfl rfl
  obtain⟨y2,g2,r2⟩:=Vw (α:=Int) (tt:=3) Tryz.underlying106 h 2 rfl rfl rfl
  obtain⟨y3,g3,r3⟩:=Vw (α:=Int) (tt:=3) Tryz.underlying106 h 3 rfl rfl rfl
  obtain⟨y4,g4,r4⟩:=Vw (α:=Int) (tt:=3) Tryz.underlying106 h 4 rfl rfl rfl
  obtain⟨y5,g5,r5⟩:=Vw (α:=Int) (tt:=3) Tryz.underlying106 h 5 rfl rfl rfl
  obtain⟨y6,g6,r6⟩:=Vw (α:=Int) (tt:=3) Tryz.underlying106 h 6 rfl rfl rfl
  obtain⟨y7,g7,r7⟩:=Vw (α:=(List TFlight)) (tt:=104) Tryz.underlying106 h 7 rfl rfl rfl
  obtain⟨y8,g8,r8⟩:=Vw (α:=Int) (tt:=3) Tryz.underlying106 h 8 rfl rfl rfl
  obtain⟨y9,g9,r9⟩:=Vw (α:=Int) (tt:=3) Tryz.underlying106 h 9 rfl rfl rfl
  refine⟨⟨y0,y1,y2,y3,y4,y5,y6,y7,y8,y9⟩,⟨g0,g1,g2,g3,g4,g5,g6,g7,g8,g9⟩,?_,?_⟩
  ·rw[Vx Tryz.underlying106 h]; kernel_rfl
  ·exact (RL.app (o:=0) (n:=1) r0 rfl (RL.app (o:=1) (n:=1) r1 rfl (RL.app (o:=2) (n:=1) r2 rfl (RL.app (o:=3) (n:=1) r3 rfl (RL.app (o:=4) (n:=1) r4 rfl (RL.app (o:=5) (n:=1) r5 rfl (RL.app (o:=6) (n:=1) r6 rfl (RL.app (o:=7) (n:=1) r7 rfl (RL.app (o:=8) (n:=1) r8 rfl (RL.app (o:=9) (n:=1) r9 rfl (RL.nil)))))))))):RL w _ (cs.drop 0))
instance:RdOf Tryz.prog 30 (List TWire):=Vs Tryz.underlying30 Aqb 
instance:RdOf Tryz.prog 27 (List (List TWire)):=Vs Tryz.underlying27 Aqb 
instance:RdOf Tryz.prog 198 TPace where
 size:=Aqb
 of {H enc w spare held fuel cs x} h:=by
  obtain⟨y0,g0,r0⟩:=Vw (α:=Int) (tt:=3) Tryz.underlying198 h 0 rfl rfl rfl
  obtain⟨y1,g1,r1⟩:=Vw (α:=Int) (tt:=3) Tryz.underlying198 h 1 rfl rfl rfl
  obtain⟨y2,g2,r2⟩:=Vw (α:=Int) (tt:=3) Tryz.underlying198 h 2 rfl rfl rfl
  obtain⟨y3,g3,r3⟩:=Vw (α:=Int) (tt:=3) Tryz.underlying198 h 3 rfl rfl rfl
  obtain⟨y4,g4,r4⟩:=Vw (α:=Int) (tt:=3) Tryz.underlying198 h 4 rfl rfl rfl
  refine⟨⟨y0,y1,y2,y3,y4⟩,⟨g0,g1,g2,g3,g4⟩,?_,?_⟩
  ·rw[Vx Tryz.underlying198 h]; kernel_rfl
  ·exact Bjx
instance:RdOf Tryz.prog 99 (List TPace):=Vs Tryz.underlying99 Aqb 
instance:RdOf Tryz.prog 28 (List (List TPace)):=Vs Tryz.underlying28 Aqb 
instance:RdOf Tryz.prog 109 TAlarm where
 size:=Aqb
 of {H enc w spare held fuel cs x} h:=by
  obtain⟨y0,g0,r0⟩:=Vw (α:=Int) (tt:=3) Tryz.underlying109 h 0 rfl rfl rfl
  obtain⟨y1,g1,r1⟩:=Vw (α:=(List ByteArray)) (tt:=22) Tryz.underlying109 h 1 rfl rfl rfl
  refine⟨⟨y0,y1⟩,⟨g0,g1⟩,?_,?_⟩
  ·rw[Vx Tryz.underlying109 h]; kernel_rfl
  ·exact Bji
instance:RdOf Tryz.prog 31 (List TAlarm):=Vs Tryz.underlying31 Aqb 
instance:RdOf Tryz.prog 102 TSpectator where
 size:=Aqb
 of {H enc w spare held fuel cs x} h:=by
  obtain⟨y0,g0,r0⟩:=Vw (α:=TWorld) (tt:=92) Tryz.underlying102 h 0 rfl rfl rfl
  obtain⟨y1,g1,r1⟩:=Vw (α:=Int) (tt:=3) Tryz.underlying102 h 1 rfl rfl rfl
  refine⟨⟨y0,y1⟩,⟨g0,g1⟩,?_,?_⟩
  ·rw[Vx Tryz.underlying102 h]; kernel_rfl
  ·exact (RL.app (o:=0) (n:=5) r0 rfl (RL.app (o:=5) (n:=1) r1 rfl (RL.nil)):RL w _ (cs.drop 0))
instance:RdOf Tryz.prog 29 (List TSpectator):=Vs Tryz.underlying29 Aqb 
instance:RdOf Tryz.prog 26 (List TPeer):=Vs Tryz.underlying26 Aqb 
instance:RdOf Tryz.prog 33 TMatch where
 size:=Aqb
 of {H enc w spare held fuel cs x} h:=by
  obtain⟨y0,g0,r0⟩:=Vw (α:=TLevel) (tt:=24) Tryz.underlying33 h 0 rfl rfl rfl
  obtain⟨y1,g1,r1⟩:=Vw (α:=Int) (tt:=3) Tryz.underlying33 h 1 rfl rfl rfl
  obtain⟨y2,g2,r2⟩:=Vw (α:=Int) (tt:=3) Tryz.underlying33 h 2 rfl rfl rfl
  obtain⟨y3,g3,r3⟩:=Vw (α:=(List (List Int))) (tt:=25) Tryz.underlying33 h 3 rfl rfl rfl
  obtain⟨y4,g4,r4⟩:=Vw (α:=(List TPeer)) (tt:=26) Tryz.underlying33 h 4 rfl rfl rfl
  obtain⟨y5,g5,r5⟩:=Vw (α:=(List (List TWire))) (tt:=27) Tryz.underlying33 h 5 rfl rfl rfl
  obtain⟨y6,g6,r6⟩:=Vw (α:=(List (List TPace))) (tt:=28) Tryz.underlying33 h 6 rfl rfl rfl
  obtain⟨y7,g7,r7⟩:=Vw (α:=(List (List Int))) (tt:=25) Tryz.underlying33 h 7 rfl rfl rfl
  obtain⟨y8,g8,r8⟩:=Vw (α:=Int) (tt:=3) Tryz.underlying33 h 8 rfl rfl rfl
  obtain⟨y9,g9,r9⟩:=Vw (α:=(List TSpectator)) (tt:=29) Tryz.underlying33 h 9 rfl rfl rfl
  obtain⟨y10,g10,r10⟩:=Vw (α:=(List TWire)) (tt:=30) Tryz.underlying33 h 10 rfl rfl rfl
  obtain⟨y11,g11,r11⟩:=Vw (α:=(List TAlarm)) (tt:=31) Tryz.underlying33 h 11 rfl rfl rfl
  obtain⟨y12,g12,r12⟩:=Vw (α:=Int) (tt:=3) Tryz.underlying33 h 12 rfl rfl rfl
  refine⟨⟨y0,y1,y2,y3,y4,y5,y6,y7,y8,y9,y10,y11,y12⟩,⟨g0,g1,g2,g3,g4,g5,g6,g7,g8,g9,g10,g11,g12⟩,?_,?_⟩
  ·rw[Vx Tryz.underlying33 h]; kernel_rfl
  ·exact (RL.app (o:=0) (n:=1) r0 rfl (RL.app (o:=1) (n:=1) r1 rfl (RL.app (o:=2) (n:=1) r2 rfl (RL.app (o:=3) (n:=1) r3 rfl (RL.app (o:=4) (n:=1) r4 rfl (RL.app (o:=5) (n:=1) r5 rfl (RL.app (o:=6) (n:=1) r6 rfl (RL.app (o:=7) (n:=1) r7 rfl (RL.app (o:=8) (n:=1) r8 rfl (RL.app (o:=9) (n:=1) r9 rfl (RL.app (o:=10) (n:=1) r10 rfl (RL.app (o:=11) (n:=1) r11 rfl (RL.app (o:=12) (n:=1) r12 rfl (RL.nil))))))))))))):RL w _ (cs.drop 0))
end
end Go.Proofs.YtalaljeokcpfnaaGreat
