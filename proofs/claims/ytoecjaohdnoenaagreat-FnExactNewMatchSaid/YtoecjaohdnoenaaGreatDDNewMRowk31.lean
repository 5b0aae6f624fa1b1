/-
  Rules, data and contracts of functions: part 32 of the proof.
  Conditions: those that each theorem names.
-/
import Derived.Test.YtoecjaohdnoenaaGreatDDNewMRowk30
set_option linter.unusedVariables false
set_option linter.unusedSimpArgs false
namespace Go.Proofs.YtoecjaohdnoenaaGreat
section
open Go.ChangeShapes Go.WideShapes Go.ChangeAt Go.RowKit

instance:RdOf Tryz.prog 208 TTrack where
 size:=by kernel_rfl
 of {H enc w spare held fuel cs x} h:=by
  obtain⟨y0,g0,r0⟩:=Zv (α:=(List Int)) (tt:=64) Tryz.underlying208 h 0 rfl rfl rfl
  refine⟨⟨y0⟩,g0,?_,?_⟩
  ·rw[Zw Tryz.underlying208 h]; kernel_rfl
  ·exact (RL.app (o:=0) (n:=1) r0 rfl (RL.nil):RL w _ (cs.drop 0))
instance:RdOf Tryz.prog 63 (List TTrack):=Zu Tryz.underlying63 (by kernel_rfl)
instance:RdOf Tryz.prog 212 TSave where
 size:=by kernel_rfl
 of {H enc w spare held fuel cs x} h:=by
  obtain⟨y0,g0,r0⟩:=Zv (α:=Int) (tt:=3) Tryz.underlying212 h 0 rfl rfl rfl
  obtain⟨y1,g1,r1⟩:=Zv (α:=ByteArray) (tt:=9) Tryz.underlying212 h 1 rfl rfl rfl
  refine⟨⟨y0,y1⟩,⟨g0,g1⟩,?_,?_⟩
  ·rw[Zw Tryz.underlying212 h]; kernel_rfl
  ·exact (RL.app (o:=0) (n:=1) r0 rfl (RL.app (o:=1) (n:=1) r1 rfl (RL.nil)):RL w _ (cs.drop 0))
instance:RdOf Tryz.prog 68 (List TSave):=Zu Tryz.underlying68 (by kernel_rfl)
instance:RdOf Tryz.prog 70 TFault where
 size:=by kernel_rfl
 of {H enc w spare held fuel cs x} h:=by
  obtain⟨y0,g0,r0⟩:=Zv (α:=Int) (tt:=3) Tryz.underlying70 h 0 rfl rfl rfl
  obtain⟨y1,g1,r1⟩:=Zv (α:=Int) (tt:=3) Tryz.underlying70 h 1 rfl rfl rfl
  obtain⟨y2,g2,r2⟩:=Zv (α:=Int) (tt:=3) Tryz.underlying70 h 2 rfl rfl rfl
  refine⟨⟨y0,y1,y2⟩,⟨g0,g1,g2⟩,?_,?_⟩
  ·rw[Zw Tryz.underlying70 h]; kernel_rfl
  ·exact (RL.app (o:=0) (n:=1) r0 rfl (RL.app (o:=1) (n:=1) r1 rfl (RL.app (o:=2) (n:=1) r2 rfl (RL.nil))):RL w _ (cs.drop 0))
instance:RdOf Tryz.prog 72 TPeer where
 size:=by kernel_rfl
 of {H enc w spare held fuel cs x} h:=by
  obtain⟨y0,g0,r0⟩:=Zv (α:=Int) (tt:=3) Tryz.underlying72 h 0 rfl rfl rfl
  obtain⟨y1,g1,r1⟩:=Zv (α:=Int) (tt:=3) Tryz.underlying72 h 1 rfl rfl rfl
  obtain⟨y2,g2,r2⟩:=Zv (α:=Int) (tt:=3) Tryz.underlying72 h 2 rfl rfl rfl
  obtain⟨y3,g3,r3⟩:=Zv (α:=Int) (tt:=3) Tryz.underlying72 h 3 rfl rfl rfl
  obtain⟨y4,g4,r4⟩:=Zv (α:=(List TTrack)) (tt:=63) Tryz.underlying72 h 4 rfl rfl rfl
  obtain⟨y5,g5,r5⟩:=Zv (α:=TWorld) (tt:=67) Tryz.underlying72 h 5 rfl rfl rfl
  obtain⟨y6,g6,r6⟩:=Zv (α:=TWorld) (tt:=67) Tryz.underlying72 h 6 rfl rfl rfl
  obtain⟨y7,g7,r7⟩:=Zv (α:=(List (List Int))) (tt:=25) Tryz.underlying72 h 7 rfl rfl rfl
  obtain⟨y8,g8,r8⟩:=Zv (α:=(List TSave)) (tt:=68) Tryz.underlying72 h 8 rfl rfl rfl
  obtain⟨y9,g9,r9⟩:=Zv (α:=(List Int)) (tt:=64) Tryz.underlying72 h 9 rfl rfl rfl
  obtain⟨y10,g10,r10⟩:=Zv (α:=TFault) (tt:=70) Tryz.underlying72 h 10 rfl rfl rfl
  obtain⟨y11,g11,r11⟩:=Zv (α:=Int) (tt:=3) Tryz.underlying72 h 11 rfl rfl rfl
  obtain⟨y12,g12,r12⟩:=Zv (α:=Int) (tt:=3) Tryz.underlying72 h 12 rfl rfl rfl
  refine⟨⟨y0,y1,y2,y3,y4,y5,y6,y7,y8,y9,y10,y11,y12⟩,⟨g0,g1,g2,g3,g4,g5,g6,g7,g8,g9,g10,g11,g12⟩,?_,?_⟩
  ·rw[Zw Tryz.underlying72 h]; kernel_rfl
  ·exact (RL.app (o:=0) (n:=1) r0 rfl (RL.app (o:=1) (n:=1) r1 rfl (RL.app (o:=2) (n:=1) r2 rfl (RL.app (o:=3) (n:=1) r3 rfl (RL.app (o:=4) (n:=1) r4 rfl (RL.app (o:=5) (n:=5) r5 rfl (RL.app (o:=10) (n:=5) r6 rfl (RL.app (o:=15) (n:=1) r7 rfl (RL.app (o:=16) (n:=1) r8 rfl (RL.app (o:=17) (n:=1) r9 rfl (RL.app (o:=18) (n:=3) r10 rfl (RL.app (o:=21) (n:=1) r11 rfl (RL.app (o:=22) (n:=1) r12 rfl (RL.nil))))))))))))):RL w _ (cs.drop 0))
end
section
open Go.ChangeShapes Go.WideShapes Go.ChangeAt Go.RowKit

instance:RdOf Tryz.prog 187 TFlight where
 size:=by kernel_rfl
 of {H enc w spare held fuel cs x} h:=by
  obtain⟨y0,g0,r0⟩:=Zv (α:=Int) (tt:=3) Tryz.underlying187 h 0 rfl rfl rfl
  obtain⟨y1,g1,r1⟩:=Zv (α:=ByteArray) (tt:=9) Tryz.underlying187 h 1 rfl rfl rfl
  refine⟨⟨y0,y1⟩,⟨g0,g1⟩,?_,?_⟩
  ·rw[Zw Tryz.underlying187 h]; kernel_rfl
  ·exact (RL.app (o:=0) (n:=1) r0 rfl (RL.app (o:=1) (n:=1) r1 rfl (RL.nil)):RL w _ (cs.drop 0))
instance:RdOf Tryz.prog 27 (List TFlight):=Zu Tryz.underlying27 (by kernel_rfl)
instance:RdOf Tryz.prog 29 TWire where
 size:=by kernel_rfl
 of {H enc w spare held fuel cs x} h:=by
  obtain⟨y0,g0,r0⟩:=Zv (α:=Int) (tt:=3) Tryz.underlying29 h 0 rfl rfl rfl
  obtain⟨y1,g1,r1⟩:=Zv (α:=Int) (tt:=3) Tryz.underlying29 h 1 rfl rfl rfl
  obtain⟨y2,g2,r2⟩:=Zv (α:=Int) (tt:=3) Tryz.underlying29 h 2 rfl rfl rfl
  obtain⟨y3,g3,r3⟩:=Zv (α:=Int) (tt:=3) Tryz.underlying29 h 3 rfl rfl rfl
  obtain⟨y4,g4,r4⟩:=Zv (α:=Int) (tt:=3) Tryz.underlying29 h 4 rfl rfl rfl
  obtain⟨y5,g5,r5⟩:=Zv (α:=Int) (tt:=3) Tryz.underlying29 h 5 rfl rfl rfl
  obtain⟨y6,g6,r6⟩:=Zv (α:=Int) (tt:=3) Tryz.underlying29 h 6 rfl rfl rfl
  obtain⟨y7,g7,r7⟩:=Zv (α:=(List TFlight)) (tt:=27) Tryz.underlying29 h 7 rfl rfl rfl
  obtain⟨y8,g8,r8⟩:=Zv (α:=Int) (tt:=3) Tryz.underlying29 h 8 rfl rfl rfl
  obtain⟨y9,g9,r9⟩:=Zv (α:=Int) (tt:=3) Tryz.underlying29 h 9 rfl rfl rfl
  refine⟨⟨y0,y1,y2,y3,y4,y5,y6,y7,y8,y9⟩,⟨g0,g1,g2,g3,g4,g5,g6,g7,g8,g9⟩,?_,?_⟩
  ·rw[Zw Tryz.underlying29 h]; kernel_rfl
  ·exact (RL.app (o:=0) (n:=1) r0 rfl (RL.app (o:=1) (n:=1) r1 rfl (RL.app (o:=2) (n:=1) r2 rfl (RL.app (o:=3) (n:=1) r3 rfl (RL.app (o:=4) (n:=1) r4 rfl (RL.app (o:=5) (n:=1) r5 rfl (RL.app (o:=6) (n:=1) r6 rfl (RL.app (o:=7) (n:=1) r7 rfl (RL.app (o:=8) (n:=1) r8 rfl (RL.app (o:=9) (n:=1) r9 rfl (RL.nil)))))))))):RL w _ (cs.drop 0))
instance:RdOf Tryz.prog 96 (List TWire):=Zu Tryz.underlying96 (by kernel_rfl)
instance:RdOf Tryz.prog 93 (List (List TWire)):=Zu Tryz.underlying93 (by kernel_rfl)
instance:RdOf Tryz.prog 264 TPace where
 size:=by kernel_rfl
 of {H enc w spare held fuel cs x} h:=by
  obtain⟨y0,g0,r0⟩:=Zv (α:=Int) (tt:=3) Tryz.underlying264 h 0 rfl rfl rfl
  obtain⟨y1,g1,r1⟩:=Zv (α:=Int) (tt:=3) Tryz.underlying264 h 1 rfl rfl rfl
  obtain⟨y2,g2,r2⟩:=Zv (α:=Int) (tt:=3) Tryz.underlying264 h 2 rfl rfl rfl
  obtain⟨y3,g3,r3⟩:=Zv (α:=Int) (tt:=3) Tryz.underlying264 h 3 rfl rfl rfl
  obtain⟨y4,g4,r4⟩:=Zv (α:=Int) (tt:=3) Tryz.underlying264 h 4 rfl rfl rfl
  refine⟨⟨y0,y1,y2,y3,y4⟩,⟨g0,g1,g2,g3,g4⟩,?_,?_⟩
  ·rw[Zw Tryz.underlying264 h]; kernel_rfl
  ·exact (RL.app (o:=0) (n:=1) r0 rfl (RL.app (o:=1) (n:=1) r1 rfl (RL.app (o:=2) (n:=1) r2 rfl (RL.app (o:=3) (n:=1) r3 rfl (RL.app (o:=4) (n:=1) r4 rfl (RL.nil))))):RL w _ (cs.drop 0))
instance:RdOf Tryz.prog 229 (List TPace):=Zu Tryz.underlying229 (by kernel_rfl)
instance:RdOf Tryz.prog 94 (List (List TPace)):=Zu Tryz.underlying94 (by kernel_rfl)
instance:RdOf Tryz.prog 234 TAlarm where
 size:=by kernel_rfl
 of {H enc w spare held fuel cs x} h:=by
  obtain⟨y0,g0,r0⟩:=Zv (α:=Int) (tt:=3) Tryz.underlying234 h 0 rfl rfl rfl
  obtain⟨y1,g1,r1⟩:=Zv (α:=(List ByteArray)) (tt:=22) Tryz.underlying234 h 1 rfl rfl rfl
  refine⟨⟨y0,y1⟩,⟨g0,g1⟩,?_,?_⟩
  ·rw[Zw Tryz.underlying234 h]; kernel_rfl
  ·exact (RL.app (o:=0) (n:=1) r0 rfl (RL.app (o:=1) (n:=1) r1 rfl (RL.nil)):RL w _ (cs.drop 0))
instance:RdOf Tryz.prog 97 (List TAlarm):=Zu Tryz.underlying97 (by kernel_rfl)
instance:RdOf Tryz.prog 232 TSpectator where
 size:=by kernel_rfl
 of {H enc w spare held fuel cs x} h:=by
  obtain⟨y0,g0,r0⟩:=Zv (α:=TWorld) (tt:=67) Tryz.underlying232 h 0 rfl rfl rfl
  obtain⟨y1,g1,r1⟩:=Zv (α:=Int) (tt:=3) Tryz.underlying232 h 1 rfl rfl rfl
  refine⟨⟨y0,y1⟩,⟨g0,g1⟩,?_,?_⟩
  ·rw[Zw Tryz.underlying232 h]; kernel_rfl
  ·exact (RL.app (o:=0) (n:=5) r0 rfl (RL.app (o:=5) (n:=1) r1 rfl (RL.nil)):RL w _ (cs.drop 0))
instance:RdOf Tryz.prog 95 (List TSpectator):=Zu Tryz.underlying95 (by kernel_rfl)
instance:RdOf Tryz.prog 92 (List TPeer):=Zu Tryz.underlying92 (by kernel_rfl)
instance:RdOf Tryz.prog 99 TMatch where
 size:=by kernel_rfl
 of {H enc w spare held fuel cs x} h:=by
  obtain⟨y0,g0,r0⟩:=Zv (α:=TLevel) (tt:=24) Tryz.underlying99 h 0 rfl rfl rfl
  obtain⟨y1,g1,r1⟩:=Zv (α:=Int) (tt:=3) Tryz.underlying99 h 1 rfl rfl rfl
  obtain⟨y2,g2,r2⟩:=Zv (α:=Int) (tt:=3) Tryz.underlying99 h 2 rfl rfl rfl
  obtain⟨y3,g3,r3⟩:=Zv (α:=(List (List Int))) (tt:=25) Tryz.underlying99 h 3 rfl rfl rfl
  obtain⟨y4,g4,r4⟩:=Zv (α:=(List TPeer)) (tt:=92) Tryz.underlying99 h 4 rfl rfl rfl
  obtain⟨y5,g5,r5⟩:=Zv (α:=(List (List TWire))) (tt:=93) Tryz.underlying99 h 5 rfl rfl rfl
  obtain⟨y6,g6,r6⟩:=Zv (α:=(List (List TPace))) (tt:=94) Tryz.underlying99 h 6 rfl rfl rfl
  obtain⟨y7,g7,r7⟩:=Zv (α:=(List (List Int))) (tt:=25) Tryz.underlying99 h 7 rfl rfl rfl
  obtain⟨y8,g8,r8⟩:=Zv (α:=Int) (tt:=3) Tryz.underlying99 h 8 rfl rfl rfl
  obtain⟨y9,g9,r9⟩:=Zv (α:=(List TSpectator)) (tt:=95) Tryz.underlying99 h 9 rfl rfl rfl
  obtain⟨y10,g10,r10⟩:=Zv (α:=(List TWire)) (tt:=96) Tryz.underlying99 h 10 rfl rfl rfl
  obtain⟨y11,g11,r11⟩:=Zv (α:=(List TAlarm)) (tt:=97) Tryz.underlying99 h 11 rfl rfl rfl
  obtain⟨y12,g12,r12⟩:=Zv (α:=Int) (tt:=3) Tryz.underlying99 h 12 rfl rfl rfl
  refine⟨⟨y0,y1,y2,y3,y4,y5,y6,y7,y8,y9,y10,y11,y12⟩,⟨g0,g1,g2,g3,g4,g5,g6,g7,g8,g9,g10,g11,g12⟩,?_,?_⟩
  ·rw[Zw Tryz.underlying99 h]; kernel_rfl
  ·exact (RL.app (o:=0) (n:=1) r0 rfl (RL.app (o:=1) (n:=1) r1 rfl (RL.app (o:=2) (n:=1) r2 rfl (RL.app (o:=3) (n:=1) r3 rfl (RL.app (o:=4) (n:=1) r4 rfl (RL.app (o:=5) (n:=1) r5 rfl (RL.app (o:=6) (n:=1) r6 rfl (RL.app (o:=7) (n:=1) r7 rfl (RL.app (o:=8) (n:=1) r8 rfl (RL.app (o:=9) (n:=1) r9 rfl (RL.app (o:=10) (n:=1) r10 rfl (RL.app (o:=11) (n:=1) r11 rfl (RL.app (o:=12) (n:=1) r12 rfl (RL.nil))))))))))))):RL w _ (cs.drop 0))
end
end Go.Proofs.YtoecjaohdnoenaaGreat
