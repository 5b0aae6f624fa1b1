/-
  No cell of these rows narrows 'for every input' (looked for: loops, veiled, ifaces, maps, wideKeys, modest, calm, conditions, laid).
  DERIVED. THE GIVEN ROWS OF THIS SEAT. 4 by the template 'for every input the law returns true; each argument reads behind the call as it read before'; 0 by the template 'total and deterministic' (their statements: YtmljakmaffbnlaaGreatTotals.lean).
  GIVEN WITH THE SEED: the statements are not yours to turn. If you find one false, say at which input.
  Laid BY PROGRAM, IN A SANDBOX (cutbox-rows.mjs): the forced cells as the released guide's own fill.sh prints them over the translation 9f658c8e7022ec63… (all of the seat's roots in one cut). By AI agents, Wed Nov 11 2026. No macro, syntax, notation, axiom, sorry.
-/
import Derived.Test.YtmljakmaffbnlaaGreatChecked
import GoSem.Claim
import GoSem.ClaimJoined
import GoSem.ClaimMapViews
import Derived.JoinedTies
import Derived.KernelRfl
namespace Go.Proofs.YtmljakmaffbnlaaGreat
/- THE CELL 'sum', in the pinned program and in every row, IS THE sha256 OF THE DUMP (.gsa) THAT YtmljakmaffbnlaaGreatProg.lean LOADS. Nothing in Lean hashes anything: it is a label: what it is worth is what the hold of that sum in a sandbox is worth. -/
noncomputable def Tryz.pinned : Pinned := { name := "ytmljakmaffbnlaagreat", sum := "9f658c8e7022ec63ed7e8702ed23809b8b3472a39025028595c7abc588bd10c6", checked := Tryz.checked }
namespace Rows
def none {H : Type} : Left H := { results := [], args := [] }

/-- 'laws.FnExactFindTamper': WHATEVER THE INPUT: true; the input reads as it did. -/
def fnExactFindTamperSpec : ChangeSpec := { name := "fnExactFindTamper", fn := fun _ => fun
  | [d] => { results := [.lit (.bool true)], args := [d] }
  | _ => none }
def fnExactFindTamperRow : OpenClaim := { program := "ytmljakmaffbnlaagreat", sum := "9f658c8e7022ec63ed7e8702ed23809b8b3472a39025028595c7abc588bd10c6", func := "loop.example/g03315/laws.FnExactFindTamper", spec := "fnExactFindTamper", apart := false }
def FnExactFindTamperSaid : Prop := fnExactFindTamperRow.holds Tryz.pinned (OpenSpec.ofChange fnExactFindTamperSpec)

/-- ITS FALSE NEIGHBOUR: 'it returns false'. Refute it at one input. -/
def fnExactFindTamperWrong : ChangeSpec := { name := "fnExactFindTamper", fn := fun _ => fun
  | [d] => { results := [.lit (.bool false)], args := [d] }
  | _ => none }
def FnExactFindTamperWrongFalsely : Prop := fnExactFindTamperRow.holds Tryz.pinned (OpenSpec.ofChange fnExactFindTamperWrong)

/-- 'laws.FnExactAddRow': WHATEVER THE INPUT: true; the input reads as it did. -/
def fnExactAddRowSpec : ChangeSpec := { name := "fnExactAddRow", fn := fun _ => fun
  | [d1, d2] => { results := [.lit (.bool true)], args := [d1, d2] }
  | _ => none }
def fnExactAddRowRow : OpenClaim := { program := "ytmljakmaffbnlaagreat", sum := "9f658c8e7022ec63ed7e8702ed23809b8b3472a39025028595c7abc588bd10c6", func := "loop.example/g03315/laws.FnExactAddRow", spec := "fnExactAddRow", apart := false }
def FnExactAddRowSaid : Prop := fnExactAddRowRow.holds Tryz.pinned (OpenSpec.ofChange fnExactAddRowSpec)

/-- ITS FALSE NEIGHBOUR: 'it returns false'. Refute it at one input. -/
def fnExactAddRowWrong : ChangeSpec := { name := "fnExactAddRow", fn := fun _ => fun
  | [d1, d2] => { results := [.lit (.bool false)], args := [d1, d2] }
  | _ => none }
def FnExactAddRowWrongFalsely : Prop := fnExactAddRowRow.holds Tryz.pinned (OpenSpec.ofChange fnExactAddRowWrong)

/-- 'laws.FnExactAddRows': WHATEVER THE INPUT: true; the input reads as it did. -/
def fnExactAddRowsSpec : ChangeSpec := { name := "fnExactAddRows", fn := fun _ => fun
  | [d1, d2] => { results := [.lit (.bool true)], args := [d1, d2] }
  | _ => none }
def fnExactAddRowsRow : OpenClaim := { program := "ytmljakmaffbnlaagreat", sum := "9f658c8e7022ec63ed7e8702ed23809b8b3472a39025028595c7abc588bd10c6", func := "loop.example/g03315/laws.FnExactAddRows", spec := "fnExactAddRows", apart := false }
def FnExactAddRowsSaid : Prop := fnExactAddRowsRow.holds Tryz.pinned (OpenSpec.ofChange fnExactAddRowsSpec)

/-- ITS FALSE NEIGHBOUR: 'it returns false'. Refute it at one input. -/
def fnExactAddRowsWrong : ChangeSpec := { name := "fnExactAddRows", fn := fun _ => fun
  | [d1, d2] => { results := [.lit (.bool false)], args := [d1, d2] }
  | _ => none }
def FnExactAddRowsWrongFalsely : Prop := fnExactAddRowsRow.holds Tryz.pinned (OpenSpec.ofChange fnExactAddRowsWrong)

/-- 'laws.FnExactSeekReplay': WHATEVER THE INPUT: true; the input reads as it did. -/
def fnExactSeekReplaySpec : ChangeSpec := { name := "fnExactSeekReplay", fn := fun _ => fun
  | [d1, d2] => { results := [.lit (.bool true)], args := [d1, d2] }
  | _ => none }
def fnExactSeekReplayRow : OpenClaim := { program := "ytmljakmaffbnlaagreat", sum := "9f658c8e7022ec63ed7e8702ed23809b8b3472a39025028595c7abc588bd10c6", func := "loop.example/g03315/laws.FnExactSeekReplay", spec := "fnExactSeekReplay", apart := false }
def FnExactSeekReplaySaid : Prop := fnExactSeekReplayRow.holds Tryz.pinned (OpenSpec.ofChange fnExactSeekReplaySpec)

/-- ITS FALSE NEIGHBOUR: 'it returns false'. Refute it at one input. -/
def fnExactSeekReplayWrong : ChangeSpec := { name := "fnExactSeekReplay", fn := fun _ => fun
  | [d1, d2] => { results := [.lit (.bool false)], args := [d1, d2] }
  | _ => none }
def FnExactSeekReplayWrongFalsely : Prop := fnExactSeekReplayRow.holds Tryz.pinned (OpenSpec.ofChange fnExactSeekReplayWrong)

/- THE SECOND FORM. 'bulk': how many values and letters a reading holds, each counted each time it is reached (what is shared counts as often as it is met; a slice's spare places count too). A statement '..UptoSaid' is the law's where the arguments, and the package variables that the reading takes, are together of bulk at most 1048576: NARROWER than '..Said'. Prove '..Said' where nothing that the law and all that it calls make is longer than what came in: it says more and counts as full. Else prove '..UptoSaid'. A law counts once. -/
mutual
def uptoBulk {H : Type} : DataW H → Nat
  | .lit (.string bytes) => bytes.length + 1
  | .lit _ => 1
  | .nil => 1
  | .ptr d => uptoBulk d + 1
  | .slice elems spare => uptoBulkAll elems + uptoBulkAll spare + 1
  | .agg parts => uptoBulkAll parts + 1
  | .iface _ d => uptoBulk d + 1
  | .map entries => uptoBulkEntries entries + 1
  | .held _ => 1
def uptoBulkAll {H : Type} : List (DataW H) → Nat
  | [] => 0
  | d :: r => uptoBulk d + uptoBulkAll r
def uptoBulkEntries {H : Type} : List (Lit × DataW H) → Nat
  | [] => 0
  | x :: r => uptoBulkEntry x + uptoBulkEntries r
def uptoBulkEntry {H : Type} : Lit × DataW H → Nat
  | (.string bytes, d) => bytes.length + uptoBulk d + 1
  | (_, d) => uptoBulk d + 1
 end
def uptoSmall : (H : Type) → List (DataW H) → Bool := fun _ ds => decide (uptoBulkAll ds ≤ 1048576)
def OpenSpec.upto (s : _root_.Go.ChangeSpec) : _root_.Go.OpenSpec := { _root_.Go.OpenSpec.ofChange s with cond := some uptoSmall }

/-- 'laws.FnExactFindTamper', WHERE WHAT IT READS IS OF BULK AT MOST 1048576: true; the input reads as it did. -/
def fnExactFindTamperUptoRow : OpenClaim := { program := "ytmljakmaffbnlaagreat", sum := "9f658c8e7022ec63ed7e8702ed23809b8b3472a39025028595c7abc588bd10c6", func := "loop.example/g03315/laws.FnExactFindTamper", spec := "fnExactFindTamper", apart := false, narrowed := true }
def FnExactFindTamperUptoSaid : Prop := fnExactFindTamperUptoRow.holds Tryz.pinned (OpenSpec.upto fnExactFindTamperSpec)

/-- 'laws.FnExactAddRow', WHERE WHAT IT READS IS OF BULK AT MOST 1048576: true; the input reads as it did. -/
def fnExactAddRowUptoRow : OpenClaim := { program := "ytmljakmaffbnlaagreat", sum := "9f658c8e7022ec63ed7e8702ed23809b8b3472a39025028595c7abc588bd10c6", func := "loop.example/g03315/laws.FnExactAddRow", spec := "fnExactAddRow", apart := false, narrowed := true }
def FnExactAddRowUptoSaid : Prop := fnExactAddRowUptoRow.holds Tryz.pinned (OpenSpec.upto fnExactAddRowSpec)

/-- 'laws.FnExactAddRows', WHERE WHAT IT READS IS OF BULK AT MOST 1048576: true; the input reads as it did. -/
def fnExactAddRowsUptoRow : OpenClaim := { program := "ytmljakmaffbnlaagreat", sum := "9f658c8e7022ec63ed7e8702ed23809b8b3472a39025028595c7abc588bd10c6", func := "loop.example/g03315/laws.FnExactAddRows", spec := "fnExactAddRows", apart := false, narrowed := true }
def FnExactAddRowsUptoSaid : Prop := fnExactAddRowsUptoRow.holds Tryz.pinned (OpenSpec.upto fnExactAddRowsSpec)

/-- 'laws.FnExactSeekReplay', WHERE WHAT IT READS IS OF BULK AT MOST 1048576: true; the input reads as it did. -/
def fnExactSeekReplayUptoRow : OpenClaim := { program := "ytmljakmaffbnlaagreat", sum := "9f658c8e7022ec63ed7e8702ed23809b8b3472a39025028595c7abc588bd10c6", func := "loop.example/g03315/laws.FnExactSeekReplay", spec := "fnExactSeekReplay", apart := false, narrowed := true }
def FnExactSeekReplayUptoSaid : Prop := fnExactSeekReplayUptoRow.holds Tryz.pinned (OpenSpec.upto fnExactSeekReplaySpec)

end Rows
end Go.Proofs.YtmljakmaffbnlaaGreat
