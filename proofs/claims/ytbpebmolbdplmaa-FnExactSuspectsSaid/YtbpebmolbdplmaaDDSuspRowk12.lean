/-
  The kit's readings of the laws' bodies and worlds as Lean data. No statement of the program is proved here.
  Conditions: none.
  The kit's readings of the laws' peers as Lean data. No statement of the program is proved here.
  Conditions: none.
-/
import Derived.Test.YtbpebmolbdplmaaDDSuspRowk8
import Derived.Test.YtbpebmolbdplmaaDDSuspRowk11
section
set_option linter.unusedVariables false
namespace Go.Proofs.Ytbpebmolbdplmaa
open Go.ChangeShapes Go.WideShapes Go.ChangeAt Go.RowKit

instance : RdOf Try.prog 184 TBody where
  size := by kernel_rfl
  of {H enc w spare held fuel cs x} h := by
    obtain ⟨y0, g0, r0⟩ := reads_fld (α := Int) (tt := 3) Try.underlying184 h 0 rfl rfl rfl
    obtain ⟨y1, g1, r1⟩ := reads_fld (α := Int) (tt := 3) Try.underlying184 h 1 rfl rfl rfl
    obtain ⟨y2, g2, r2⟩ := reads_fld (α := Int) (tt := 3) Try.underlying184 h 2 rfl rfl rfl
    obtain ⟨y3, g3, r3⟩ := reads_fld (α := Int) (tt := 3) Try.underlying184 h 3 rfl rfl rfl
    obtain ⟨y4, g4, r4⟩ := reads_fld (α := Int) (tt := 3) Try.underlying184 h 4 rfl rfl rfl
    obtain ⟨y5, g5, r5⟩ := reads_fld (α := Int) (tt := 3) Try.underlying184 h 5 rfl rfl rfl
    obtain ⟨y6, g6, r6⟩ := reads_fld (α := Int) (tt := 3) Try.underlying184 h 6 rfl rfl rfl
    obtain ⟨y7, g7, r7⟩ := reads_fld (α := Int) (tt := 3) Try.underlying184 h 7 rfl rfl rfl
    obtain ⟨y8, g8, r8⟩ := reads_fld (α := Int) (tt := 3) Try.underlying184 h 8 rfl rfl rfl
    refine ⟨⟨y0, y1, y2, y3, y4, y5, y6, y7, y8⟩, ⟨g0, g1, g2, g3, g4, g5, g6, g7, g8⟩, ?_, ?_⟩
    · rw [reads_len Try.underlying184 h]; kernel_rfl
    · exact (RL.app (o := 0) (n := 1) r0 rfl (RL.app (o := 1) (n := 1) r1 rfl (RL.app (o := 2) (n := 1) r2 rfl (RL.app (o := 3) (n := 1) r3 rfl (RL.app (o := 4) (n := 1) r4 rfl (RL.app (o := 5) (n := 1) r5 rfl (RL.app (o := 6) (n := 1) r6 rfl (RL.app (o := 7) (n := 1) r7 rfl (RL.app (o := 8) (n := 1) r8 rfl (RL.nil))))))))) : RL w _ (cs.drop 0))
instance : RdOf Try.prog 27 (List TBody) := rdOf_slice Try.underlying27 (by kernel_rfl)
instance : RdOf Try.prog 29 TWorld where
  size := by kernel_rfl
  of {H enc w spare held fuel cs x} h := by
    obtain ⟨y0, g0, r0⟩ := reads_fld (α := TLevel) (tt := 25) Try.underlying29 h 0 rfl rfl rfl
    obtain ⟨y1, g1, r1⟩ := reads_fld (α := Int) (tt := 3) Try.underlying29 h 1 rfl rfl rfl
    obtain ⟨y2, g2, r2⟩ := reads_fld (α := Int) (tt := 3) Try.underlying29 h 2 rfl rfl rfl
    obtain ⟨y3, g3, r3⟩ := reads_fld (α := (List Int)) (tt := 26) Try.underlying29 h 3 rfl rfl rfl
    obtain ⟨y4, g4, r4⟩ := reads_fld (α := (List TBody)) (tt := 27) Try.underlying29 h 4 rfl rfl rfl
    refine ⟨⟨y0, y1, y2, y3, y4⟩, ⟨g0, g1, g2, g3, g4⟩, ?_, ?_⟩
    · rw [reads_len Try.underlying29 h]; kernel_rfl
    · exact (RL.app (o := 0) (n := 1) r0 rfl (RL.app (o := 1) (n := 1) r1 rfl (RL.app (o := 2) (n := 1) r2 rfl (RL.app (o := 3) (n := 1) r3 rfl (RL.app (o := 4) (n := 1) r4 rfl (RL.nil))))) : RL w _ (cs.drop 0))
end Go.Proofs.Ytbpebmolbdplmaa
end

section
set_option linter.unusedVariables false
namespace Go.Proofs.Ytbpebmolbdplmaa
open Go.ChangeShapes Go.WideShapes Go.ChangeAt Go.RowKit

instance : RdOf Try.prog 126 TTrack where
  size := by kernel_rfl
  of {H enc w spare held fuel cs x} h := by
    obtain ⟨y0, g0, r0⟩ := reads_fld (α := (List Int)) (tt := 26) Try.underlying126 h 0 rfl rfl rfl
    refine ⟨⟨y0⟩, g0, ?_, ?_⟩
    · rw [reads_len Try.underlying126 h]; kernel_rfl
    · exact (RL.app (o := 0) (n := 1) r0 rfl (RL.nil) : RL w _ (cs.drop 0))
instance : RdOf Try.prog 22 (List TTrack) := rdOf_slice Try.underlying22 (by kernel_rfl)
instance : RdOf Try.prog 130 TSave where
  size := by kernel_rfl
  of {H enc w spare held fuel cs x} h := by
    obtain ⟨y0, g0, r0⟩ := reads_fld (α := Int) (tt := 3) Try.underlying130 h 0 rfl rfl rfl
    obtain ⟨y1, g1, r1⟩ := reads_fld (α := ByteArray) (tt := 9) Try.underlying130 h 1 rfl rfl rfl
    refine ⟨⟨y0, y1⟩, ⟨g0, g1⟩, ?_, ?_⟩
    · rw [reads_len Try.underlying130 h]; kernel_rfl
    · exact (RL.app (o := 0) (n := 1) r0 rfl (RL.app (o := 1) (n := 1) r1 rfl (RL.nil)) : RL w _ (cs.drop 0))
instance : RdOf Try.prog 31 (List TSave) := rdOf_slice Try.underlying31 (by kernel_rfl)
instance : RdOf Try.prog 33 TFault where
  size := by kernel_rfl
  of {H enc w spare held fuel cs x} h := by
    obtain ⟨y0, g0, r0⟩ := reads_fld (α := Int) (tt := 3) Try.underlying33 h 0 rfl rfl rfl
    obtain ⟨y1, g1, r1⟩ := reads_fld (α := Int) (tt := 3) Try.underlying33 h 1 rfl rfl rfl
    obtain ⟨y2, g2, r2⟩ := reads_fld (α := Int) (tt := 3) Try.underlying33 h 2 rfl rfl rfl
    refine ⟨⟨y0, y1, y2⟩, ⟨g0, g1, g2⟩, ?_, ?_⟩
    · rw [reads_len Try.underlying33 h]; kernel_rfl
    · exact (RL.app (o := 0) (n := 1) r0 rfl (RL.app (o := 1) (n := 1) r1 rfl (RL.app (o := 2) (n := 1) r2 rfl (RL.nil))) : RL w _ (cs.drop 0))
instance : RdOf Try.prog 51 TPacket where
  size := by kernel_rfl
  of {H enc w spare held fuel cs x} h := by
    obtain ⟨y0, g0, r0⟩ := reads_fld (α := Int) (tt := 3) Try.underlying51 h 0 rfl rfl rfl
    obtain ⟨y1, g1, r1⟩ := reads_fld (α := Int) (tt := 3) Try.underlying51 h 1 rfl rfl rfl
    obtain ⟨y2, g2, r2⟩ := reads_fld (α := Int) (tt := 3) Try.underlying51 h 2 rfl rfl rfl
    obtain ⟨y3, g3, r3⟩ := reads_fld (α := (List Int)) (tt := 26) Try.underlying51 h 3 rfl rfl rfl
    obtain ⟨y4, g4, r4⟩ := reads_fld (α := (List Int)) (tt := 26) Try.underlying51 h 4 rfl rfl rfl
    obtain ⟨y5, g5, r5⟩ := reads_fld (α := Int) (tt := 3) Try.underlying51 h 5 rfl rfl rfl
    obtain ⟨y6, g6, r6⟩ := reads_fld (α := Int) (tt := 3) Try.underlying51 h 6 rfl rfl rfl
    obtain ⟨y7, g7, r7⟩ := reads_fld (α := Int) (tt := 3) Try.underlying51 h 7 rfl rfl rfl
    obtain ⟨y8, g8, r8⟩ := reads_fld (α := Int) (tt := 3) Try.underlying51 h 8 rfl rfl rfl
    refine ⟨⟨y0, y1, y2, y3, y4, y5, y6, y7, y8⟩, ⟨g0, g1, g2, g3, g4, g5, g6, g7, g8⟩, ?_, ?_⟩
    · rw [reads_len Try.underlying51 h]; kernel_rfl
    · exact (RL.app (o := 0) (n := 1) r0 rfl (RL.app (o := 1) (n := 1) r1 rfl (RL.app (o := 2) (n := 1) r2 rfl (RL.app (o := 3) (n := 1) r3 rfl (RL.app (o := 4) (n := 1) r4 rfl (RL.app (o := 5) (n := 1) r5 rfl (RL.app (o := 6) (n := 1) r6 rfl (RL.app (o := 7) (n := 1) r7 rfl (RL.app (o := 8) (n := 1) r8 rfl (RL.nil))))))))) : RL w _ (cs.drop 0))
instance : RdOf Try.prog 35 TPeer where
  size := by kernel_rfl
  of {H enc w spare held fuel cs x} h := by
    obtain ⟨y0, g0, r0⟩ := reads_fld (α := Int) (tt := 3) Try.underlying35 h 0 rfl rfl rfl
    obtain ⟨y1, g1, r1⟩ := reads_fld (α := Int) (tt := 3) Try.underlying35 h 1 rfl rfl rfl
    obtain ⟨y2, g2, r2⟩ := reads_fld (α := Int) (tt := 3) Try.underlying35 h 2 rfl rfl rfl
    obtain ⟨y3, g3, r3⟩ := reads_fld (α := Int) (tt := 3) Try.underlying35 h 3 rfl rfl rfl
    obtain ⟨y4, g4, r4⟩ := reads_fld (α := (List TTrack)) (tt := 22) Try.underlying35 h 4 rfl rfl rfl
    obtain ⟨y5, g5, r5⟩ := reads_fld (α := TWorld) (tt := 29) Try.underlying35 h 5 rfl rfl rfl
    obtain ⟨y6, g6, r6⟩ := reads_fld (α := TWorld) (tt := 29) Try.underlying35 h 6 rfl rfl rfl
    obtain ⟨y7, g7, r7⟩ := reads_fld (α := (List (List Int))) (tt := 30) Try.underlying35 h 7 rfl rfl rfl
    obtain ⟨y8, g8, r8⟩ := reads_fld (α := (List TSave)) (tt := 31) Try.underlying35 h 8 rfl rfl rfl
    obtain ⟨y9, g9, r9⟩ := reads_fld (α := (List Int)) (tt := 26) Try.underlying35 h 9 rfl rfl rfl
    obtain ⟨y10, g10, r10⟩ := reads_fld (α := TFault) (tt := 33) Try.underlying35 h 10 rfl rfl rfl
    obtain ⟨y11, g11, r11⟩ := reads_fld (α := Int) (tt := 3) Try.underlying35 h 11 rfl rfl rfl
    obtain ⟨y12, g12, r12⟩ := reads_fld (α := Int) (tt := 3) Try.underlying35 h 12 rfl rfl rfl
    refine ⟨⟨y0, y1, y2, y3, y4, y5, y6, y7, y8, y9, y10, y11, y12⟩, ⟨g0, g1, g2, g3, g4, g5, g6, g7, g8, g9, g10, g11, g12⟩, ?_, ?_⟩
    · rw [reads_len Try.underlying35 h]; kernel_rfl
    · exact (RL.app (o := 0) (n := 1) r0 rfl (RL.app (o := 1) (n := 1) r1 rfl (RL.app (o := 2) (n := 1) r2 rfl (RL.app (o := 3) (n := 1) r3 rfl (RL.app (o := 4) (n := 1) r4 rfl (RL.app (o := 5) (n := 5) r5 rfl (RL.app (o := 10) (n := 5) r6 rfl (RL.app (o := 15) (n := 1) r7 rfl (RL.app (o := 16) (n := 1) r8 rfl (RL.app (o := 17) (n := 1) r9 rfl (RL.app (o := 18) (n := 3) r10 rfl (RL.app (o := 21) (n := 1) r11 rfl (RL.app (o := 22) (n := 1) r12 rfl (RL.nil))))))))))))) : RL w _ (cs.drop 0))
end Go.Proofs.Ytbpebmolbdplmaa
end
