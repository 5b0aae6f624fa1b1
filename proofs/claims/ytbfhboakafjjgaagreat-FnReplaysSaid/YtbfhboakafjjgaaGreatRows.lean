/-
  No cell of these rows narrows 'for every input' (looked for: loops, veiled, ifaces, maps, wideKeys, modest, calm, conditions, laid).
  DERIVED. THE GIVEN ROWS OF THIS SEAT. 4 by the template 'for every input the law returns true; each argument reads behind the call as it read before'; 0 by the template 'total and deterministic' (their statements: YtbfhboakafjjgaaGreatTotals.lean).
  GIVEN WITH THE SEED: the statements are not yours to turn. If you find one false, say at which input.
  Laid BY PROGRAM, IN A SANDBOX (cutbox-rows.mjs): the forced cells as the released guide's own fill.sh prints them over the translation 923fa5b69e47888e… (all of the seat's roots in one cut). By AI agents, Wed Nov 11 2026. No macro, syntax, notation, axiom, sorry.
-/
import Derived.Test.YtbfhboakafjjgaaGreatChecked
import GoSem.Claim
import GoSem.ClaimJoined
import GoSem.ClaimMapViews
import Derived.JoinedTies
import Derived.KernelRfl
namespace Go.Proofs.YtbfhboakafjjgaaGreat
/- THE CELL 'sum', in the pinned program and in every row, IS THE sha256 OF THE DUMP (.gsa) THAT YtbfhboakafjjgaaGreatProg.lean LOADS. Nothing in Lean hashes anything: it is a label: what it is worth is what the hold of that sum in a sandbox is worth. -/
noncomputable def Tryz.pinned : Pinned := { name := "ytbfhboakafjjgaagreat", sum := "923fa5b69e47888e04d06a239b81cfca0869fec2a61e35cd1ee9f819b50d5814", checked := Tryz.checked }
namespace Rows
def none {H : Type} : Left H := { results := [], args := [] }

/-- 'laws.FnReplays': WHATEVER THE INPUT: true; the input reads as it did. -/
def fnReplaysSpec : ChangeSpec := { name := "fnReplays", fn := fun _ => fun
  | [d] => { results := [.lit (.bool true)], args := [d] }
  | _ => none }
def fnReplaysRow : OpenClaim := { program := "ytbfhboakafjjgaagreat", sum := "923fa5b69e47888e04d06a239b81cfca0869fec2a61e35cd1ee9f819b50d5814", func := "loop.example/g03315/laws.FnReplays", spec := "fnReplays", apart := false }
def FnReplaysSaid : Prop := fnReplaysRow.holds Tryz.pinned (OpenSpec.ofChange fnReplaysSpec)

/-- ITS FALSE NEIGHBOUR: 'it returns false'. Refute it at one input. -/
def fnReplaysWrong : ChangeSpec := { name := "fnReplays", fn := fun _ => fun
  | [d] => { results := [.lit (.bool false)], args := [d] }
  | _ => none }
def FnReplaysWrongFalsely : Prop := fnReplaysRow.holds Tryz.pinned (OpenSpec.ofChange fnReplaysWrong)

/-- 'laws.FnTampered': WHATEVER THE INPUT: true; the input reads as it did. -/
def fnTamperedSpec : ChangeSpec := { name := "fnTampered", fn := fun _ => fun
  | [d] => { results := [.lit (.bool true)], args := [d] }
  | _ => none }
def fnTamperedRow : OpenClaim := { program := "ytbfhboakafjjgaagreat", sum := "923fa5b69e47888e04d06a239b81cfca0869fec2a61e35cd1ee9f819b50d5814", func := "loop.example/g03315/laws.FnTampered", spec := "fnTampered", apart := false }
def FnTamperedSaid : Prop := fnTamperedRow.holds Tryz.pinned (OpenSpec.ofChange fnTamperedSpec)

/-- ITS FALSE NEIGHBOUR: 'it returns false'. Refute it at one input. -/
def fnTamperedWrong : ChangeSpec := { name := "fnTampered", fn := fun _ => fun
  | [d] => { results := [.lit (.bool false)], args := [d] }
  | _ => none }
def FnTamperedWrongFalsely : Prop := fnTamperedRow.holds Tryz.pinned (OpenSpec.ofChange fnTamperedWrong)

/-- 'laws.FnExactAddRow': WHATEVER THE INPUT: true; the input reads as it did. -/
def fnExactAddRowSpec : ChangeSpec := { name := "fnExactAddRow", fn := fun _ => fun
  | [d1, d2] => { results := [.lit (.bool true)], args := [d1, d2] }
  | _ => none }
def fnExactAddRowRow : OpenClaim := { program := "ytbfhboakafjjgaagreat", sum := "923fa5b69e47888e04d06a239b81cfca0869fec2a61e35cd1ee9f819b50d5814", func := "loop.example/g03315/laws.FnExactAddRow", spec := "fnExactAddRow", apart := false }
def FnExactAddRowSaid : Prop := fnExactAddRowRow.holds Tryz.pinned (OpenSpec.ofChange fnExactAddRowSpec)

/-- ITS FALSE NEIGHBOUR: 'it returns false'. Refute it at one input. -/
def fnExactAddRowWrong : ChangeSpec := { name := "fnExactAddRow", fn := fun _ => fun
  | [d1, d2] => { results := [.lit (.bool false)], args := [d1, d2] }
  | _ => none }
def FnExactAddRowWrongFalsely : Prop := fnExactAddRowRow.holds Tryz.pinned (OpenSpec.ofChange fnExactAddRowWrong)

/-- 'laws.FnExactAddRows': WHATEVER THE INPUT: true; the input reads as it did. -/
def fnExactAddRowsSpec : ChangeSpec := { name := "fnExactAddRows", fn := fun _ => fun
  | [d1, d2] => { results := [.lit (.bool true)], args := [d1, d2] }
  | _ => none }
def fnExactAddRowsRow : OpenClaim := { program := "ytbfhboakafjjgaagreat", sum := "923fa5b69e47888e04d06a239b81cfca0869fec2a61e35cd1ee9f819b50d5814", func := "loop.example/g03315/laws.FnExactAddRows", spec := "fnExactAddRows", apart := false }
def FnExactAddRowsSaid : Prop := fnExactAddRowsRow.holds Tryz.pinned (OpenSpec.ofChange fnExactAddRowsSpec)

/-- ITS FALSE NEIGHBOUR: 'it returns false'. Refute it at one input. -/
def fnExactAddRowsWrong : ChangeSpec := { name := "fnExactAddRows", fn := fun _ => fun
  | [d1, d2] => { results := [.lit (.bool false)], args := [d1, d2] }
  | _ => none }
def FnExactAddRowsWrongFalsely : Prop := fnExactAddRowsRow.holds Tryz.pinned (OpenSpec.ofChange fnExactAddRowsWrong)

/- THE SECOND FORM. 'bulk': how many values and letters a reading holds, each counted each time it is reached (what is shared counts as often as it is met; a slice's spare places count too). A statement '..UptoSaid' is the law's where the arguments, and the package variables that the reading takes, are together of bulk at most 1048576: NARROWER than '..Said'. Prove '..Said' where nothing that the law and all that it calls make is longer than what came in: it says more and counts as full. Else prove '..UptoSaid'. A law counts once. -/
mutual
def uptoBulk {H : Type} : DataW H → Nat
  | .lit (.string bytes) => bytes.length + 1
  | .lit _ => 1
  | .nil => 1
  | .ptr d => uptoBulk d + 1
  | .slice elems spare => uptoBulkAll elems + uptoBulkAll spare + 1
  | .agg parts => uptoBulkAll parts + 1
  | .iface _ d => uptoBulk d + 1
  | .map entries => uptoBulkEntries entries + 1
  | .held _ => 1
def uptoBulkAll {H : Type} : List (DataW H) → Nat
  | [] => 0
  | d :: r => uptoBulk d + uptoBulkAll r
def uptoBulkEntries {H : Type} : List (Lit × DataW H) → Nat
  | [] => 0
  | x :: r => uptoBulkEntry x + uptoBulkEntries r
def uptoBulkEntry {H : Type} : Lit × DataW H → Nat
  | (.string bytes, d) => bytes.length + uptoBulk d + 1
  | (_, d) => uptoBulk d + 1
 end
def uptoSmall : (H : Type) → List (DataW H) → Bool := fun _ ds => decide (uptoBulkAll ds ≤ 1048576)
def OpenSpec.upto (s : _root_.Go.ChangeSpec) : _root_.Go.OpenSpec := { _root_.Go.OpenSpec.ofChange s with cond := some uptoSmall }

/-- 'laws.FnReplays', WHERE WHAT IT READS IS OF BULK AT MOST 1048576: true; the input reads as it did. -/
def fnReplaysUptoRow : OpenClaim := { program := "ytbfhboakafjjgaagreat", sum := "923fa5b69e47888e04d06a239b81cfca0869fec2a61e35cd1ee9f819b50d5814", func := "loop.example/g03315/laws.FnReplays", spec := "fnReplays", apart := false, narrowed := true }
def FnReplaysUptoSaid : Prop := fnReplaysUptoRow.holds Tryz.pinned (OpenSpec.upto fnReplaysSpec)

/-- 'laws.FnTampered', WHERE WHAT IT READS IS OF BULK AT MOST 1048576: true; the input reads as it did. -/
def fnTamperedUptoRow : OpenClaim := { program := "ytbfhboakafjjgaagreat", sum := "923fa5b69e47888e04d06a239b81cfca0869fec2a61e35cd1ee9f819b50d5814", func := "loop.example/g03315/laws.FnTampered", spec := "fnTampered", apart := false, narrowed := true }
def FnTamperedUptoSaid : Prop := fnTamperedUptoRow.holds Tryz.pinned (OpenSpec.upto fnTamperedSpec)

/-- 'laws.FnExactAddRow', WHERE WHAT IT READS IS OF BULK AT MOST 1048576: true; the input reads as it did. -/
def fnExactAddRowUptoRow : OpenClaim := { program := "ytbfhboakafjjgaagreat", sum := "923fa5b69e47888e04d06a239b81cfca0869fec2a61e35cd1ee9f819b50d5814", func := "loop.example/g03315/laws.FnExactAddRow", spec := "fnExactAddRow", apart := false, narrowed := true }
def FnExactAddRowUptoSaid : Prop := fnExactAddRowUptoRow.holds Tryz.pinned (OpenSpec.upto fnExactAddRowSpec)

/-- 'laws.FnExactAddRows', WHERE WHAT IT READS IS OF BULK AT MOST 1048576: true; the input reads as it did. -/
def fnExactAddRowsUptoRow : OpenClaim := { program := "ytbfhboakafjjgaagreat", sum := "923fa5b69e47888e04d06a239b81cfca0869fec2a61e35cd1ee9f819b50d5814", func := "loop.example/g03315/laws.FnExactAddRows", spec := "fnExactAddRows", apart := false, narrowed := true }
def FnExactAddRowsUptoSaid : Prop := fnExactAddRowsUptoRow.holds Tryz.pinned (OpenSpec.upto fnExactAddRowsSpec)

end Rows
end Go.Proofs.YtbfhboakafjjgaaGreat
