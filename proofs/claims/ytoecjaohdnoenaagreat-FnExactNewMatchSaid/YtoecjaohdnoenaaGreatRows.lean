/-
  No cell of these rows narrows 'for every input' (looked for: loops, veiled, ifaces, maps, wideKeys, modest, calm, conditions, laid).
  DERIVED. THE GIVEN ROWS OF THIS SEAT. 6 by the template 'for every input the law returns true; each argument reads behind the call as it read before'; 0 by the template 'total and deterministic' (their statements: YtoecjaohdnoenaaGreatTotals.lean).
  GIVEN WITH THE SEED: the statements are not yours to turn. If you find one false, say at which input.
  Laid BY PROGRAM, IN A SANDBOX (cutbox-rows.mjs): the forced cells as the released guide's own fill.sh prints them over the translation bf72fa1f1afbfab2… (all of the seat's roots in one cut). By AI agents, Wed Nov 11 2026. No macro, syntax, notation, axiom, sorry.
-/
import Derived.Test.YtoecjaohdnoenaaGreatChecked
import GoSem.Claim
import GoSem.ClaimJoined
import GoSem.ClaimMapViews
import Derived.JoinedTies
import Derived.KernelRfl
namespace Go.Proofs.YtoecjaohdnoenaaGreat
/- THE CELL 'sum', in the pinned program and in every row, IS THE sha256 OF THE DUMP (.gsa) THAT YtoecjaohdnoenaaGreatProg.lean LOADS. Nothing in Lean hashes anything: it is a label: what it is worth is what the hold of that sum in a sandbox is worth. -/
noncomputable def Tryz.pinned : Pinned := { name := "ytoecjaohdnoenaagreat", sum := "bf72fa1f1afbfab27fbe21a808f32197a7ee0e57ab9a3db2cac6512698f9dc84", checked := Tryz.checked }
namespace Rows
def none {H : Type} : Left H := { results := [], args := [] }

/-- 'laws.FnExactNewMatch': WHATEVER THE INPUT: true; the input reads as it did. -/
def fnExactNewMatchSpec : ChangeSpec := { name := "fnExactNewMatch", fn := fun _ => fun
  | [d1, d2, d3, d4, d5, d6, d7] => { results := [.lit (.bool true)], args := [d1, d2, d3, d4, d5, d6, d7] }
  | _ => none }
def fnExactNewMatchRow : OpenClaim := { program := "ytoecjaohdnoenaagreat", sum := "bf72fa1f1afbfab27fbe21a808f32197a7ee0e57ab9a3db2cac6512698f9dc84", func := "loop.example/g03315/laws.FnExactNewMatch", spec := "fnExactNewMatch", apart := false }
def FnExactNewMatchSaid : Prop := fnExactNewMatchRow.holds Tryz.pinned (OpenSpec.ofChange fnExactNewMatchSpec)

/-- ITS FALSE NEIGHBOUR: 'it returns false'. Refute it at one input. -/
def fnExactNewMatchWrong : ChangeSpec := { name := "fnExactNewMatch", fn := fun _ => fun
  | [d1, d2, d3, d4, d5, d6, d7] => { results := [.lit (.bool false)], args := [d1, d2, d3, d4, d5, d6, d7] }
  | _ => none }
def FnExactNewMatchWrongFalsely : Prop := fnExactNewMatchRow.holds Tryz.pinned (OpenSpec.ofChange fnExactNewMatchWrong)

/-- 'laws.FnExactRecordPeer': WHATEVER THE INPUT: true; the input reads as it did. -/
def fnExactRecordPeerSpec : ChangeSpec := { name := "fnExactRecordPeer", fn := fun _ => fun
  | [d1, d2] => { results := [.lit (.bool true)], args := [d1, d2] }
  | _ => none }
def fnExactRecordPeerRow : OpenClaim := { program := "ytoecjaohdnoenaagreat", sum := "bf72fa1f1afbfab27fbe21a808f32197a7ee0e57ab9a3db2cac6512698f9dc84", func := "loop.example/g03315/laws.FnExactRecordPeer", spec := "fnExactRecordPeer", apart := false }
def FnExactRecordPeerSaid : Prop := fnExactRecordPeerRow.holds Tryz.pinned (OpenSpec.ofChange fnExactRecordPeerSpec)

/-- ITS FALSE NEIGHBOUR: 'it returns false'. Refute it at one input. -/
def fnExactRecordPeerWrong : ChangeSpec := { name := "fnExactRecordPeer", fn := fun _ => fun
  | [d1, d2] => { results := [.lit (.bool false)], args := [d1, d2] }
  | _ => none }
def FnExactRecordPeerWrongFalsely : Prop := fnExactRecordPeerRow.holds Tryz.pinned (OpenSpec.ofChange fnExactRecordPeerWrong)

/-- 'laws.FnExactSetWire': WHATEVER THE INPUT: true; the input reads as it did. -/
def fnExactSetWireSpec : ChangeSpec := { name := "fnExactSetWire", fn := fun _ => fun
  | [d1, d2, d3, d4] => { results := [.lit (.bool true)], args := [d1, d2, d3, d4] }
  | _ => none }
def fnExactSetWireRow : OpenClaim := { program := "ytoecjaohdnoenaagreat", sum := "bf72fa1f1afbfab27fbe21a808f32197a7ee0e57ab9a3db2cac6512698f9dc84", func := "loop.example/g03315/laws.FnExactSetWire", spec := "fnExactSetWire", apart := false }
def FnExactSetWireSaid : Prop := fnExactSetWireRow.holds Tryz.pinned (OpenSpec.ofChange fnExactSetWireSpec)

/-- ITS FALSE NEIGHBOUR: 'it returns false'. Refute it at one input. -/
def fnExactSetWireWrong : ChangeSpec := { name := "fnExactSetWire", fn := fun _ => fun
  | [d1, d2, d3, d4] => { results := [.lit (.bool false)], args := [d1, d2, d3, d4] }
  | _ => none }
def FnExactSetWireWrongFalsely : Prop := fnExactSetWireRow.holds Tryz.pinned (OpenSpec.ofChange fnExactSetWireWrong)

/-- 'laws.FnExactMendWires': WHATEVER THE INPUT: true; the input reads as it did. -/
def fnExactMendWiresSpec : ChangeSpec := { name := "fnExactMendWires", fn := fun _ => fun
  | [d] => { results := [.lit (.bool true)], args := [d] }
  | _ => none }
def fnExactMendWiresRow : OpenClaim := { program := "ytoecjaohdnoenaagreat", sum := "bf72fa1f1afbfab27fbe21a808f32197a7ee0e57ab9a3db2cac6512698f9dc84", func := "loop.example/g03315/laws.FnExactMendWires", spec := "fnExactMendWires", apart := false }
def FnExactMendWiresSaid : Prop := fnExactMendWiresRow.holds Tryz.pinned (OpenSpec.ofChange fnExactMendWiresSpec)

/-- ITS FALSE NEIGHBOUR: 'it returns false'. Refute it at one input. -/
def fnExactMendWiresWrong : ChangeSpec := { name := "fnExactMendWires", fn := fun _ => fun
  | [d] => { results := [.lit (.bool false)], args := [d] }
  | _ => none }
def FnExactMendWiresWrongFalsely : Prop := fnExactMendWiresRow.holds Tryz.pinned (OpenSpec.ofChange fnExactMendWiresWrong)

/-- 'laws.FnExactLockstepAt': WHATEVER THE INPUT: true; the input reads as it did. -/
def fnExactLockstepAtSpec : ChangeSpec := { name := "fnExactLockstepAt", fn := fun _ => fun
  | [d1, d2, d3] => { results := [.lit (.bool true)], args := [d1, d2, d3] }
  | _ => none }
def fnExactLockstepAtRow : OpenClaim := { program := "ytoecjaohdnoenaagreat", sum := "bf72fa1f1afbfab27fbe21a808f32197a7ee0e57ab9a3db2cac6512698f9dc84", func := "loop.example/g03315/laws.FnExactLockstepAt", spec := "fnExactLockstepAt", apart := false }
def FnExactLockstepAtSaid : Prop := fnExactLockstepAtRow.holds Tryz.pinned (OpenSpec.ofChange fnExactLockstepAtSpec)

/-- ITS FALSE NEIGHBOUR: 'it returns false'. Refute it at one input. -/
def fnExactLockstepAtWrong : ChangeSpec := { name := "fnExactLockstepAt", fn := fun _ => fun
  | [d1, d2, d3] => { results := [.lit (.bool false)], args := [d1, d2, d3] }
  | _ => none }
def FnExactLockstepAtWrongFalsely : Prop := fnExactLockstepAtRow.holds Tryz.pinned (OpenSpec.ofChange fnExactLockstepAtWrong)

/-- 'laws.FnExactJoinWatcher': WHATEVER THE INPUT: true; the input reads as it did. -/
def fnExactJoinWatcherSpec : ChangeSpec := { name := "fnExactJoinWatcher", fn := fun _ => fun
  | [d] => { results := [.lit (.bool true)], args := [d] }
  | _ => none }
def fnExactJoinWatcherRow : OpenClaim := { program := "ytoecjaohdnoenaagreat", sum := "bf72fa1f1afbfab27fbe21a808f32197a7ee0e57ab9a3db2cac6512698f9dc84", func := "loop.example/g03315/laws.FnExactJoinWatcher", spec := "fnExactJoinWatcher", apart := false }
def FnExactJoinWatcherSaid : Prop := fnExactJoinWatcherRow.holds Tryz.pinned (OpenSpec.ofChange fnExactJoinWatcherSpec)

/-- ITS FALSE NEIGHBOUR: 'it returns false'. Refute it at one input. -/
def fnExactJoinWatcherWrong : ChangeSpec := { name := "fnExactJoinWatcher", fn := fun _ => fun
  | [d] => { results := [.lit (.bool false)], args := [d] }
  | _ => none }
def FnExactJoinWatcherWrongFalsely : Prop := fnExactJoinWatcherRow.holds Tryz.pinned (OpenSpec.ofChange fnExactJoinWatcherWrong)

/- THE SECOND FORM. 'bulk': how many values and letters a reading holds, each counted each time it is reached (what is shared counts as often as it is met; a slice's spare places count too). A statement '..UptoSaid' is the law's where the arguments, and the package variables that the reading takes, are together of bulk at most 1048576: NARROWER than '..Said'. Prove '..Said' where nothing that the law and all that it calls make is longer than what came in: it says more and counts as full. Else prove '..UptoSaid'. A law counts once. -/
mutual
def uptoBulk {H : Type} : DataW H → Nat
  | .lit (.string bytes) => bytes.length + 1
  | .lit _ => 1
  | .nil => 1
  | .ptr d => uptoBulk d + 1
  | .slice elems spare => uptoBulkAll elems + uptoBulkAll spare + 1
  | .agg parts => uptoBulkAll parts + 1
  | .iface _ d => uptoBulk d + 1
  | .map entries => uptoBulkEntries entries + 1
  | .held _ => 1
def uptoBulkAll {H : Type} : List (DataW H) → Nat
  | [] => 0
  | d :: r => uptoBulk d + uptoBulkAll r
def uptoBulkEntries {H : Type} : List (Lit × DataW H) → Nat
  | [] => 0
  | x :: r => uptoBulkEntry x + uptoBulkEntries r
def uptoBulkEntry {H : Type} : Lit × DataW H → Nat
  | (.string bytes, d) => bytes.length + uptoBulk d + 1
  | (_, d) => uptoBulk d + 1
 end
def uptoSmall : (H : Type) → List (DataW H) → Bool := fun _ ds => decide (uptoBulkAll ds ≤ 1048576)
def OpenSpec.upto (s : _root_.Go.ChangeSpec) : _root_.Go.OpenSpec := { _root_.Go.OpenSpec.ofChange s with cond := some uptoSmall }

/-- 'laws.FnExactNewMatch', WHERE WHAT IT READS IS OF BULK AT MOST 1048576: true; the input reads as it did. -/
def fnExactNewMatchUptoRow : OpenClaim := { program := "ytoecjaohdnoenaagreat", sum := "bf72fa1f1afbfab27fbe21a808f32197a7ee0e57ab9a3db2cac6512698f9dc84", func := "loop.example/g03315/laws.FnExactNewMatch", spec := "fnExactNewMatch", apart := false, narrowed := true }
def FnExactNewMatchUptoSaid : Prop := fnExactNewMatchUptoRow.holds Tryz.pinned (OpenSpec.upto fnExactNewMatchSpec)

/-- 'laws.FnExactRecordPeer', WHERE WHAT IT READS IS OF BULK AT MOST 1048576: true; the input reads as it did. -/
def fnExactRecordPeerUptoRow : OpenClaim := { program := "ytoecjaohdnoenaagreat", sum := "bf72fa1f1afbfab27fbe21a808f32197a7ee0e57ab9a3db2cac6512698f9dc84", func := "loop.example/g03315/laws.FnExactRecordPeer", spec := "fnExactRecordPeer", apart := false, narrowed := true }
def FnExactRecordPeerUptoSaid : Prop := fnExactRecordPeerUptoRow.holds Tryz.pinned (OpenSpec.upto fnExactRecordPeerSpec)

/-- 'laws.FnExactSetWire', WHERE WHAT IT READS IS OF BULK AT MOST 1048576: true; the input reads as it did. -/
def fnExactSetWireUptoRow : OpenClaim := { program := "ytoecjaohdnoenaagreat", sum := "bf72fa1f1afbfab27fbe21a808f32197a7ee0e57ab9a3db2cac6512698f9dc84", func := "loop.example/g03315/laws.FnExactSetWire", spec := "fnExactSetWire", apart := false, narrowed := true }
def FnExactSetWireUptoSaid : Prop := fnExactSetWireUptoRow.holds Tryz.pinned (OpenSpec.upto fnExactSetWireSpec)

/-- 'laws.FnExactMendWires', WHERE WHAT IT READS IS OF BULK AT MOST 1048576: true; the input reads as it did. -/
def fnExactMendWiresUptoRow : OpenClaim := { program := "ytoecjaohdnoenaagreat", sum := "bf72fa1f1afbfab27fbe21a808f32197a7ee0e57ab9a3db2cac6512698f9dc84", func := "loop.example/g03315/laws.FnExactMendWires", spec := "fnExactMendWires", apart := false, narrowed := true }
def FnExactMendWiresUptoSaid : Prop := fnExactMendWiresUptoRow.holds Tryz.pinned (OpenSpec.upto fnExactMendWiresSpec)

/-- 'laws.FnExactLockstepAt', WHERE WHAT IT READS IS OF BULK AT MOST 1048576: true; the input reads as it did. -/
def fnExactLockstepAtUptoRow : OpenClaim := { program := "ytoecjaohdnoenaagreat", sum := "bf72fa1f1afbfab27fbe21a808f32197a7ee0e57ab9a3db2cac6512698f9dc84", func := "loop.example/g03315/laws.FnExactLockstepAt", spec := "fnExactLockstepAt", apart := false, narrowed := true }
def FnExactLockstepAtUptoSaid : Prop := fnExactLockstepAtUptoRow.holds Tryz.pinned (OpenSpec.upto fnExactLockstepAtSpec)

/-- 'laws.FnExactJoinWatcher', WHERE WHAT IT READS IS OF BULK AT MOST 1048576: true; the input reads as it did. -/
def fnExactJoinWatcherUptoRow : OpenClaim := { program := "ytoecjaohdnoenaagreat", sum := "bf72fa1f1afbfab27fbe21a808f32197a7ee0e57ab9a3db2cac6512698f9dc84", func := "loop.example/g03315/laws.FnExactJoinWatcher", spec := "fnExactJoinWatcher", apart := false, narrowed := true }
def FnExactJoinWatcherUptoSaid : Prop := fnExactJoinWatcherUptoRow.holds Tryz.pinned (OpenSpec.upto fnExactJoinWatcherSpec)

end Rows
end Go.Proofs.YtoecjaohdnoenaaGreat
