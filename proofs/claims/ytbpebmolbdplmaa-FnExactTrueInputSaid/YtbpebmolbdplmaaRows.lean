/-
  No cell of these rows narrows 'for every input' (looked for: loops, veiled, ifaces, maps, wideKeys, modest, calm, conditions, laid).
  DERIVED. THE GIVEN ROWS OF THIS SEAT. 4 by the template 'for every input the law returns true; each argument reads behind the call as it read before'; 0 by the template 'total and deterministic' (their statements: YtbpebmolbdplmaaTotals.lean).
  GIVEN WITH THE SEED: the statements are not yours to turn. If you find one false, say at which input.
  Laid BY PROGRAM, IN A SANDBOX (cutbox-rows.mjs): the forced cells as the released guide's own fill.sh prints them over the translation 249e585d5174019a… (all of the seat's roots in one cut). By AI agents, Wed Nov 11 2026. No macro, syntax, notation, axiom, sorry.
-/
import Derived.Test.YtbpebmolbdplmaaChecked
import GoSem.Claim
import GoSem.ClaimJoined
import GoSem.ClaimMapViews
import Derived.JoinedTies
import Derived.KernelRfl
namespace Go.Proofs.Ytbpebmolbdplmaa
/- THE CELL 'sum', in the pinned program and in every row, IS THE sha256 OF THE DUMP (.gsa) THAT YtbpebmolbdplmaaProg.lean LOADS. Nothing in Lean hashes anything: it is a label: what it is worth is what the hold of that sum in a sandbox is worth. -/
noncomputable def Try.pinned : Pinned := { name := "ytbpebmolbdplmaa", sum := "249e585d5174019a92f0750839f8d2018a65ef8fbd8b286e13ef605a424adb99", checked := Try.checked }
namespace Rows
def none {H : Type} : Left H := { results := [], args := [] }

/-- 'laws.FnExactCleanUpTo': WHATEVER THE INPUT: true; the input reads as it did. -/
def fnExactCleanUpToSpec : ChangeSpec := { name := "fnExactCleanUpTo", fn := fun _ => fun
  | [d1, d2] => { results := [.lit (.bool true)], args := [d1, d2] }
  | _ => none }
def fnExactCleanUpToRow : OpenClaim := { program := "ytbpebmolbdplmaa", sum := "249e585d5174019a92f0750839f8d2018a65ef8fbd8b286e13ef605a424adb99", func := "loop.example/g03315/laws.FnExactCleanUpTo", spec := "fnExactCleanUpTo", apart := false }
def FnExactCleanUpToSaid : Prop := fnExactCleanUpToRow.holds Try.pinned (OpenSpec.ofChange fnExactCleanUpToSpec)

/-- ITS FALSE NEIGHBOUR: 'it returns false'. Refute it at one input. -/
def fnExactCleanUpToWrong : ChangeSpec := { name := "fnExactCleanUpTo", fn := fun _ => fun
  | [d1, d2] => { results := [.lit (.bool false)], args := [d1, d2] }
  | _ => none }
def FnExactCleanUpToWrongFalsely : Prop := fnExactCleanUpToRow.holds Try.pinned (OpenSpec.ofChange fnExactCleanUpToWrong)

/-- 'laws.FnExactSuspects': WHATEVER THE INPUT: true; the input reads as it did. -/
def fnExactSuspectsSpec : ChangeSpec := { name := "fnExactSuspects", fn := fun _ => fun
  | [d1, d2] => { results := [.lit (.bool true)], args := [d1, d2] }
  | _ => none }
def fnExactSuspectsRow : OpenClaim := { program := "ytbpebmolbdplmaa", sum := "249e585d5174019a92f0750839f8d2018a65ef8fbd8b286e13ef605a424adb99", func := "loop.example/g03315/laws.FnExactSuspects", spec := "fnExactSuspects", apart := false }
def FnExactSuspectsSaid : Prop := fnExactSuspectsRow.holds Try.pinned (OpenSpec.ofChange fnExactSuspectsSpec)

/-- ITS FALSE NEIGHBOUR: 'it returns false'. Refute it at one input. -/
def fnExactSuspectsWrong : ChangeSpec := { name := "fnExactSuspects", fn := fun _ => fun
  | [d1, d2] => { results := [.lit (.bool false)], args := [d1, d2] }
  | _ => none }
def FnExactSuspectsWrongFalsely : Prop := fnExactSuspectsRow.holds Try.pinned (OpenSpec.ofChange fnExactSuspectsWrong)

/-- 'laws.FnExactSnapshotOf': WHATEVER THE INPUT: true; the input reads as it did. -/
def fnExactSnapshotOfSpec : ChangeSpec := { name := "fnExactSnapshotOf", fn := fun _ => fun
  | [d] => { results := [.lit (.bool true)], args := [d] }
  | _ => none }
def fnExactSnapshotOfRow : OpenClaim := { program := "ytbpebmolbdplmaa", sum := "249e585d5174019a92f0750839f8d2018a65ef8fbd8b286e13ef605a424adb99", func := "loop.example/g03315/laws.FnExactSnapshotOf", spec := "fnExactSnapshotOf", apart := false }
def FnExactSnapshotOfSaid : Prop := fnExactSnapshotOfRow.holds Try.pinned (OpenSpec.ofChange fnExactSnapshotOfSpec)

/-- ITS FALSE NEIGHBOUR: 'it returns false'. Refute it at one input. -/
def fnExactSnapshotOfWrong : ChangeSpec := { name := "fnExactSnapshotOf", fn := fun _ => fun
  | [d] => { results := [.lit (.bool false)], args := [d] }
  | _ => none }
def FnExactSnapshotOfWrongFalsely : Prop := fnExactSnapshotOfRow.holds Try.pinned (OpenSpec.ofChange fnExactSnapshotOfWrong)

/-- 'laws.FnExactTrueInput': WHATEVER THE INPUT: true; the input reads as it did. -/
def fnExactTrueInputSpec : ChangeSpec := { name := "fnExactTrueInput", fn := fun _ => fun
  | [d1, d2, d3] => { results := [.lit (.bool true)], args := [d1, d2, d3] }
  | _ => none }
def fnExactTrueInputRow : OpenClaim := { program := "ytbpebmolbdplmaa", sum := "249e585d5174019a92f0750839f8d2018a65ef8fbd8b286e13ef605a424adb99", func := "loop.example/g03315/laws.FnExactTrueInput", spec := "fnExactTrueInput", apart := false }
def FnExactTrueInputSaid : Prop := fnExactTrueInputRow.holds Try.pinned (OpenSpec.ofChange fnExactTrueInputSpec)

/-- ITS FALSE NEIGHBOUR: 'it returns false'. Refute it at one input. -/
def fnExactTrueInputWrong : ChangeSpec := { name := "fnExactTrueInput", fn := fun _ => fun
  | [d1, d2, d3] => { results := [.lit (.bool false)], args := [d1, d2, d3] }
  | _ => none }
def FnExactTrueInputWrongFalsely : Prop := fnExactTrueInputRow.holds Try.pinned (OpenSpec.ofChange fnExactTrueInputWrong)

/- THE SECOND FORM. 'bulk': how many values and letters a reading holds, each counted each time it is reached (what is shared counts as often as it is met; a slice's spare places count too). A statement '..UptoSaid' is the law's where the arguments, and the package variables that the reading takes, are together of bulk at most 1048576: NARROWER than '..Said'. Prove '..Said' where nothing that the law and all that it calls make is longer than what came in: it says more and counts as full. Else prove '..UptoSaid'. A law counts once. -/
mutual
def uptoBulk {H : Type} : DataW H → Nat
  | .lit (.string bytes) => bytes.length + 1
  | .lit _ => 1
  | .nil => 1
  | .ptr d => uptoBulk d + 1
  | .slice elems spare => uptoBulkAll elems + uptoBulkAll spare + 1
  | .agg parts => uptoBulkAll parts + 1
  | .iface _ d => uptoBulk d + 1
  | .map entries => uptoBulkEntries entries + 1
  | .held _ => 1
def uptoBulkAll {H : Type} : List (DataW H) → Nat
  | [] => 0
  | d :: r => uptoBulk d + uptoBulkAll r
def uptoBulkEntries {H : Type} : List (Lit × DataW H) → Nat
  | [] => 0
  | x :: r => uptoBulkEntry x + uptoBulkEntries r
def uptoBulkEntry {H : Type} : Lit × DataW H → Nat
  | (.string bytes, d) => bytes.length + uptoBulk d + 1
  | (_, d) => uptoBulk d + 1
 end
def uptoSmall : (H : Type) → List (DataW H) → Bool := fun _ ds => decide (uptoBulkAll ds ≤ 1048576)
def OpenSpec.upto (s : _root_.Go.ChangeSpec) : _root_.Go.OpenSpec := { _root_.Go.OpenSpec.ofChange s with cond := some uptoSmall }

/-- 'laws.FnExactCleanUpTo', WHERE WHAT IT READS IS OF BULK AT MOST 1048576: true; the input reads as it did. -/
def fnExactCleanUpToUptoRow : OpenClaim := { program := "ytbpebmolbdplmaa", sum := "249e585d5174019a92f0750839f8d2018a65ef8fbd8b286e13ef605a424adb99", func := "loop.example/g03315/laws.FnExactCleanUpTo", spec := "fnExactCleanUpTo", apart := false, narrowed := true }
def FnExactCleanUpToUptoSaid : Prop := fnExactCleanUpToUptoRow.holds Try.pinned (OpenSpec.upto fnExactCleanUpToSpec)

/-- 'laws.FnExactSuspects', WHERE WHAT IT READS IS OF BULK AT MOST 1048576: true; the input reads as it did. -/
def fnExactSuspectsUptoRow : OpenClaim := { program := "ytbpebmolbdplmaa", sum := "249e585d5174019a92f0750839f8d2018a65ef8fbd8b286e13ef605a424adb99", func := "loop.example/g03315/laws.FnExactSuspects", spec := "fnExactSuspects", apart := false, narrowed := true }
def FnExactSuspectsUptoSaid : Prop := fnExactSuspectsUptoRow.holds Try.pinned (OpenSpec.upto fnExactSuspectsSpec)

/-- 'laws.FnExactSnapshotOf', WHERE WHAT IT READS IS OF BULK AT MOST 1048576: true; the input reads as it did. -/
def fnExactSnapshotOfUptoRow : OpenClaim := { program := "ytbpebmolbdplmaa", sum := "249e585d5174019a92f0750839f8d2018a65ef8fbd8b286e13ef605a424adb99", func := "loop.example/g03315/laws.FnExactSnapshotOf", spec := "fnExactSnapshotOf", apart := false, narrowed := true }
def FnExactSnapshotOfUptoSaid : Prop := fnExactSnapshotOfUptoRow.holds Try.pinned (OpenSpec.upto fnExactSnapshotOfSpec)

/-- 'laws.FnExactTrueInput', WHERE WHAT IT READS IS OF BULK AT MOST 1048576: true; the input reads as it did. -/
def fnExactTrueInputUptoRow : OpenClaim := { program := "ytbpebmolbdplmaa", sum := "249e585d5174019a92f0750839f8d2018a65ef8fbd8b286e13ef605a424adb99", func := "loop.example/g03315/laws.FnExactTrueInput", spec := "fnExactTrueInput", apart := false, narrowed := true }
def FnExactTrueInputUptoSaid : Prop := fnExactTrueInputUptoRow.holds Try.pinned (OpenSpec.upto fnExactTrueInputSpec)

end Rows
end Go.Proofs.Ytbpebmolbdplmaa
