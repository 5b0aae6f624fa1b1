/-
  No cell of these rows narrows 'for every input' (looked for: loops, veiled, ifaces, maps, wideKeys, modest, calm, conditions, laid).
  DERIVED. THE GIVEN ROWS OF THIS SEAT. 3 by the template 'for every input the law returns true; each argument reads behind the call as it read before'; 0 by the template 'total and deterministic' (their statements: YtmljakmaffbnlaaTotals.lean).
  GIVEN WITH THE SEED: the statements are not yours to turn. If you find one false, say at which input.
  Laid BY PROGRAM, IN A SANDBOX (cutbox-rows.mjs): the forced cells as the released guide's own fill.sh prints them over the translation 2a0b42550b3fea6e… (all of the seat's roots in one cut). By AI agents, Wed Nov 11 2026. No macro, syntax, notation, axiom, sorry.
-/
import Derived.Test.YtmljakmaffbnlaaChecked
import GoSem.Claim
import GoSem.ClaimJoined
import GoSem.ClaimMapViews
import Derived.JoinedTies
import Derived.KernelRfl
namespace Go.Proofs.Ytmljakmaffbnlaa
/- THE CELL 'sum', in the pinned program and in every row, IS THE sha256 OF THE DUMP (.gsa) THAT YtmljakmaffbnlaaProg.lean LOADS. Nothing in Lean hashes anything: it is a label: what it is worth is what the hold of that sum in a sandbox is worth. -/
noncomputable def Try.pinned : Pinned := { name := "ytmljakmaffbnlaa", sum := "2a0b42550b3fea6eabe9a4d8a034b2750f1ec231a724ec78faeb43db8a4cdba9", checked := Try.checked }
namespace Rows
def none {H : Type} : Left H := { results := [], args := [] }

/-- 'laws.FnExactKeyAt': WHATEVER THE INPUT: true; the input reads as it did. -/
def fnExactKeyAtSpec : ChangeSpec := { name := "fnExactKeyAt", fn := fun _ => fun
  | [d1, d2] => { results := [.lit (.bool true)], args := [d1, d2] }
  | _ => none }
def fnExactKeyAtRow : OpenClaim := { program := "ytmljakmaffbnlaa", sum := "2a0b42550b3fea6eabe9a4d8a034b2750f1ec231a724ec78faeb43db8a4cdba9", func := "loop.example/g03315/laws.FnExactKeyAt", spec := "fnExactKeyAt", apart := false }
def FnExactKeyAtSaid : Prop := fnExactKeyAtRow.holds Try.pinned (OpenSpec.ofChange fnExactKeyAtSpec)

/-- ITS FALSE NEIGHBOUR: 'it returns false'. Refute it at one input. -/
def fnExactKeyAtWrong : ChangeSpec := { name := "fnExactKeyAt", fn := fun _ => fun
  | [d1, d2] => { results := [.lit (.bool false)], args := [d1, d2] }
  | _ => none }
def FnExactKeyAtWrongFalsely : Prop := fnExactKeyAtRow.holds Try.pinned (OpenSpec.ofChange fnExactKeyAtWrong)

/-- 'laws.FnExactPlayReplay': WHATEVER THE INPUT: true; the input reads as it did. -/
def fnExactPlayReplaySpec : ChangeSpec := { name := "fnExactPlayReplay", fn := fun _ => fun
  | [d1, d2] => { results := [.lit (.bool true)], args := [d1, d2] }
  | _ => none }
def fnExactPlayReplayRow : OpenClaim := { program := "ytmljakmaffbnlaa", sum := "2a0b42550b3fea6eabe9a4d8a034b2750f1ec231a724ec78faeb43db8a4cdba9", func := "loop.example/g03315/laws.FnExactPlayReplay", spec := "fnExactPlayReplay", apart := false }
def FnExactPlayReplaySaid : Prop := fnExactPlayReplayRow.holds Try.pinned (OpenSpec.ofChange fnExactPlayReplaySpec)

/-- ITS FALSE NEIGHBOUR: 'it returns false'. Refute it at one input. -/
def fnExactPlayReplayWrong : ChangeSpec := { name := "fnExactPlayReplay", fn := fun _ => fun
  | [d1, d2] => { results := [.lit (.bool false)], args := [d1, d2] }
  | _ => none }
def FnExactPlayReplayWrongFalsely : Prop := fnExactPlayReplayRow.holds Try.pinned (OpenSpec.ofChange fnExactPlayReplayWrong)

/-- 'laws.FnExactFeedRows': WHATEVER THE INPUT: true; the input reads as it did. -/
def fnExactFeedRowsSpec : ChangeSpec := { name := "fnExactFeedRows", fn := fun _ => fun
  | [d1, d2, d3] => { results := [.lit (.bool true)], args := [d1, d2, d3] }
  | _ => none }
def fnExactFeedRowsRow : OpenClaim := { program := "ytmljakmaffbnlaa", sum := "2a0b42550b3fea6eabe9a4d8a034b2750f1ec231a724ec78faeb43db8a4cdba9", func := "loop.example/g03315/laws.FnExactFeedRows", spec := "fnExactFeedRows", apart := false }
def FnExactFeedRowsSaid : Prop := fnExactFeedRowsRow.holds Try.pinned (OpenSpec.ofChange fnExactFeedRowsSpec)

/-- ITS FALSE NEIGHBOUR: 'it returns false'. Refute it at one input. -/
def fnExactFeedRowsWrong : ChangeSpec := { name := "fnExactFeedRows", fn := fun _ => fun
  | [d1, d2, d3] => { results := [.lit (.bool false)], args := [d1, d2, d3] }
  | _ => none }
def FnExactFeedRowsWrongFalsely : Prop := fnExactFeedRowsRow.holds Try.pinned (OpenSpec.ofChange fnExactFeedRowsWrong)

/- THE SECOND FORM. 'bulk': how many values and letters a reading holds, each counted each time it is reached (what is shared counts as often as it is met; a slice's spare places count too). A statement '..UptoSaid' is the law's where the arguments, and the package variables that the reading takes, are together of bulk at most 1048576: NARROWER than '..Said'. Prove '..Said' where nothing that the law and all that it calls make is longer than what came in: it says more and counts as full. Else prove '..UptoSaid'. A law counts once. -/
mutual
def uptoBulk {H : Type} : DataW H → Nat
  | .lit (.string bytes) => bytes.length + 1
  | .lit _ => 1
  | .nil => 1
  | .ptr d => uptoBulk d + 1
  | .slice elems spare => uptoBulkAll elems + uptoBulkAll spare + 1
  | .agg parts => uptoBulkAll parts + 1
  | .iface _ d => uptoBulk d + 1
  | .map entries => uptoBulkEntries entries + 1
  | .held _ => 1
def uptoBulkAll {H : Type} : List (DataW H) → Nat
  | [] => 0
  | d :: r => uptoBulk d + uptoBulkAll r
def uptoBulkEntries {H : Type} : List (Lit × DataW H) → Nat
  | [] => 0
  | x :: r => uptoBulkEntry x + uptoBulkEntries r
def uptoBulkEntry {H : Type} : Lit × DataW H → Nat
  | (.string bytes, d) => bytes.length + uptoBulk d + 1
  | (_, d) => uptoBulk d + 1
 end
def uptoSmall : (H : Type) → List (DataW H) → Bool := fun _ ds => decide (uptoBulkAll ds ≤ 1048576)
def OpenSpec.upto (s : _root_.Go.ChangeSpec) : _root_.Go.OpenSpec := { _root_.Go.OpenSpec.ofChange s with cond := some uptoSmall }

/-- 'laws.FnExactKeyAt', WHERE WHAT IT READS IS OF BULK AT MOST 1048576: true; the input reads as it did. -/
def fnExactKeyAtUptoRow : OpenClaim := { program := "ytmljakmaffbnlaa", sum := "2a0b42550b3fea6eabe9a4d8a034b2750f1ec231a724ec78faeb43db8a4cdba9", func := "loop.example/g03315/laws.FnExactKeyAt", spec := "fnExactKeyAt", apart := false, narrowed := true }
def FnExactKeyAtUptoSaid : Prop := fnExactKeyAtUptoRow.holds Try.pinned (OpenSpec.upto fnExactKeyAtSpec)

/-- 'laws.FnExactPlayReplay', WHERE WHAT IT READS IS OF BULK AT MOST 1048576: true; the input reads as it did. -/
def fnExactPlayReplayUptoRow : OpenClaim := { program := "ytmljakmaffbnlaa", sum := "2a0b42550b3fea6eabe9a4d8a034b2750f1ec231a724ec78faeb43db8a4cdba9", func := "loop.example/g03315/laws.FnExactPlayReplay", spec := "fnExactPlayReplay", apart := false, narrowed := true }
def FnExactPlayReplayUptoSaid : Prop := fnExactPlayReplayUptoRow.holds Try.pinned (OpenSpec.upto fnExactPlayReplaySpec)

/-- 'laws.FnExactFeedRows', WHERE WHAT IT READS IS OF BULK AT MOST 1048576: true; the input reads as it did. -/
def fnExactFeedRowsUptoRow : OpenClaim := { program := "ytmljakmaffbnlaa", sum := "2a0b42550b3fea6eabe9a4d8a034b2750f1ec231a724ec78faeb43db8a4cdba9", func := "loop.example/g03315/laws.FnExactFeedRows", spec := "fnExactFeedRows", apart := false, narrowed := true }
def FnExactFeedRowsUptoSaid : Prop := fnExactFeedRowsUptoRow.holds Try.pinned (OpenSpec.upto fnExactFeedRowsSpec)

end Rows
end Go.Proofs.Ytmljakmaffbnlaa
