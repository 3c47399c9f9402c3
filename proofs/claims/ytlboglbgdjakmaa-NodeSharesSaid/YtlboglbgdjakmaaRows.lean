/-
  No cell of these rows narrows 'for every input' (looked for: loops, veiled, ifaces, maps, wideKeys, modest, calm, conditions, laid).
  DERIVED. THE GIVEN ROWS OF THIS SEAT. 5 by the template 'for every input the law returns true; each argument reads behind the call as it read before'; 0 by the template 'total and deterministic' (their statements: YtlboglbgdjakmaaTotals.lean).
  GIVEN WITH THE SEED: the statements are not yours to turn. If you find one false, say at which input.
  Laid BY PROGRAM, IN A SANDBOX (cutbox-rows.mjs): the forced cells as the released guide's own fill.sh prints them over the translation f6af255f0daf22af… (all of the seat's roots in one cut). By AI agents, Wed Nov 11 2026. No macro, syntax, notation, axiom, sorry.
-/
import Derived.Test.YtlboglbgdjakmaaChecked
import GoSem.Claim
import GoSem.ClaimJoined
import GoSem.ClaimMapViews
import Derived.JoinedTies
import Derived.KernelRfl
namespace Go.Proofs.Ytlboglbgdjakmaa
/- THE CELL 'sum', in the pinned program and in every row, IS THE sha256 OF THE DUMP (.gsa) THAT YtlboglbgdjakmaaProg.lean LOADS. Nothing in Lean hashes anything: it is a label: what it is worth is what the hold of that sum in a sandbox is worth. -/
noncomputable def Try.pinned : Pinned := { name := "ytlboglbgdjakmaa", sum := "f6af255f0daf22af7a62d9ded833ba8fa7d3167fe3e569eb193f34b2adcfe35e", checked := Try.checked }
namespace Rows
def none {H : Type} : Left H := { results := [], args := [] }

/-- 'dowserlaw09.NodeChecks': WHATEVER THE INPUT: true; the input reads as it did. -/
def nodeChecksSpec : ChangeSpec := { name := "nodeChecks", fn := fun _ => fun
  | [d] => { results := [.lit (.bool true)], args := [d] }
  | _ => none }
def nodeChecksRow : OpenClaim := { program := "ytlboglbgdjakmaa", sum := "f6af255f0daf22af7a62d9ded833ba8fa7d3167fe3e569eb193f34b2adcfe35e", func := "dowser/dowserlaw09.NodeChecks", spec := "nodeChecks", inPlace := ["internal/abi.NoEscape"], unfollowed := true, recurses := true, apart := false }
def NodeChecksSaid : Prop := nodeChecksRow.holds Try.pinned (OpenSpec.ofChange nodeChecksSpec)

/-- ITS FALSE NEIGHBOUR: 'it returns false'. Refute it at one input. -/
def nodeChecksWrong : ChangeSpec := { name := "nodeChecks", fn := fun _ => fun
  | [d] => { results := [.lit (.bool false)], args := [d] }
  | _ => none }
def NodeChecksWrongFalsely : Prop := nodeChecksRow.holds Try.pinned (OpenSpec.ofChange nodeChecksWrong)

/-- 'dowserlaw09.NodeParses': WHATEVER THE INPUT: true; the input reads as it did. -/
def nodeParsesSpec : ChangeSpec := { name := "nodeParses", fn := fun _ => fun
  | [d1, d2] => { results := [.lit (.bool true)], args := [d1, d2] }
  | _ => none }
def nodeParsesRow : OpenClaim := { program := "ytlboglbgdjakmaa", sum := "f6af255f0daf22af7a62d9ded833ba8fa7d3167fe3e569eb193f34b2adcfe35e", func := "dowser/dowserlaw09.NodeParses", spec := "nodeParses", inPlace := ["internal/abi.NoEscape"], unfollowed := true, recurses := true, apart := false }
def NodeParsesSaid : Prop := nodeParsesRow.holds Try.pinned (OpenSpec.ofChange nodeParsesSpec)

/-- ITS FALSE NEIGHBOUR: 'it returns false'. Refute it at one input. -/
def nodeParsesWrong : ChangeSpec := { name := "nodeParses", fn := fun _ => fun
  | [d1, d2] => { results := [.lit (.bool false)], args := [d1, d2] }
  | _ => none }
def NodeParsesWrongFalsely : Prop := nodeParsesRow.holds Try.pinned (OpenSpec.ofChange nodeParsesWrong)

/-- 'dowserlaw09.NodePacks': WHATEVER THE INPUT: true; the input reads as it did. -/
def nodePacksSpec : ChangeSpec := { name := "nodePacks", fn := fun _ => fun
  | [d1, d2] => { results := [.lit (.bool true)], args := [d1, d2] }
  | _ => none }
def nodePacksRow : OpenClaim := { program := "ytlboglbgdjakmaa", sum := "f6af255f0daf22af7a62d9ded833ba8fa7d3167fe3e569eb193f34b2adcfe35e", func := "dowser/dowserlaw09.NodePacks", spec := "nodePacks", inPlace := ["internal/abi.NoEscape"], unfollowed := true, recurses := true, apart := false }
def NodePacksSaid : Prop := nodePacksRow.holds Try.pinned (OpenSpec.ofChange nodePacksSpec)

/-- ITS FALSE NEIGHBOUR: 'it returns false'. Refute it at one input. -/
def nodePacksWrong : ChangeSpec := { name := "nodePacks", fn := fun _ => fun
  | [d1, d2] => { results := [.lit (.bool false)], args := [d1, d2] }
  | _ => none }
def NodePacksWrongFalsely : Prop := nodePacksRow.holds Try.pinned (OpenSpec.ofChange nodePacksWrong)

/-- 'dowserlaw09.NodeShares': WHATEVER THE INPUT: true; the input reads as it did. -/
def nodeSharesSpec : ChangeSpec := { name := "nodeShares", fn := fun _ => fun
  | [d] => { results := [.lit (.bool true)], args := [d] }
  | _ => none }
def nodeSharesRow : OpenClaim := { program := "ytlboglbgdjakmaa", sum := "f6af255f0daf22af7a62d9ded833ba8fa7d3167fe3e569eb193f34b2adcfe35e", func := "dowser/dowserlaw09.NodeShares", spec := "nodeShares", inPlace := ["internal/abi.NoEscape"], unfollowed := true, recurses := true, apart := false }
def NodeSharesSaid : Prop := nodeSharesRow.holds Try.pinned (OpenSpec.ofChange nodeSharesSpec)

/-- ITS FALSE NEIGHBOUR: 'it returns false'. Refute it at one input. -/
def nodeSharesWrong : ChangeSpec := { name := "nodeShares", fn := fun _ => fun
  | [d] => { results := [.lit (.bool false)], args := [d] }
  | _ => none }
def NodeSharesWrongFalsely : Prop := nodeSharesRow.holds Try.pinned (OpenSpec.ofChange nodeSharesWrong)

/-- 'dowserlaw09.NodeSplits': WHATEVER THE INPUT: true; the input reads as it did. -/
def nodeSplitsSpec : ChangeSpec := { name := "nodeSplits", fn := fun _ => fun
  | [d] => { results := [.lit (.bool true)], args := [d] }
  | _ => none }
def nodeSplitsRow : OpenClaim := { program := "ytlboglbgdjakmaa", sum := "f6af255f0daf22af7a62d9ded833ba8fa7d3167fe3e569eb193f34b2adcfe35e", func := "dowser/dowserlaw09.NodeSplits", spec := "nodeSplits", inPlace := ["internal/abi.NoEscape"], unfollowed := true, recurses := true, apart := false }
def NodeSplitsSaid : Prop := nodeSplitsRow.holds Try.pinned (OpenSpec.ofChange nodeSplitsSpec)

/-- ITS FALSE NEIGHBOUR: 'it returns false'. Refute it at one input. -/
def nodeSplitsWrong : ChangeSpec := { name := "nodeSplits", fn := fun _ => fun
  | [d] => { results := [.lit (.bool false)], args := [d] }
  | _ => none }
def NodeSplitsWrongFalsely : Prop := nodeSplitsRow.holds Try.pinned (OpenSpec.ofChange nodeSplitsWrong)

/- THE SECOND FORM. 'bulk': how many values and letters a reading holds, each counted each time it is reached (what is shared counts as often as it is met; a slice's spare places count too). A statement '..UptoSaid' is the law's where the arguments, and the package variables that the reading takes, are together of bulk at most 1048576: NARROWER than '..Said'. Prove '..Said' where nothing that the law and all that it calls make is longer than what came in: it says more and counts as full. Else prove '..UptoSaid'. A law counts once. -/
mutual
def uptoBulk {H : Type} : DataW H → Nat
  | .lit (.string bytes) => bytes.length + 1
  | .lit _ => 1
  | .nil => 1
  | .ptr d => uptoBulk d + 1
  | .slice elems spare => uptoBulkAll elems + uptoBulkAll spare + 1
  | .agg parts => uptoBulkAll parts + 1
  | .iface _ d => uptoBulk d + 1
  | .map entries => uptoBulkEntries entries + 1
  | .held _ => 1
def uptoBulkAll {H : Type} : List (DataW H) → Nat
  | [] => 0
  | d :: r => uptoBulk d + uptoBulkAll r
def uptoBulkEntries {H : Type} : List (Lit × DataW H) → Nat
  | [] => 0
  | x :: r => uptoBulkEntry x + uptoBulkEntries r
def uptoBulkEntry {H : Type} : Lit × DataW H → Nat
  | (.string bytes, d) => bytes.length + uptoBulk d + 1
  | (_, d) => uptoBulk d + 1
 end
def uptoSmall : (H : Type) → List (DataW H) → Bool := fun _ ds => decide (uptoBulkAll ds ≤ 1048576)
def OpenSpec.upto (s : _root_.Go.ChangeSpec) : _root_.Go.OpenSpec := { _root_.Go.OpenSpec.ofChange s with cond := some uptoSmall }

/-- 'dowserlaw09.NodeChecks', WHERE WHAT IT READS IS OF BULK AT MOST 1048576: true; the input reads as it did. -/
def nodeChecksUptoRow : OpenClaim := { program := "ytlboglbgdjakmaa", sum := "f6af255f0daf22af7a62d9ded833ba8fa7d3167fe3e569eb193f34b2adcfe35e", func := "dowser/dowserlaw09.NodeChecks", spec := "nodeChecks", inPlace := ["internal/abi.NoEscape"], unfollowed := true, recurses := true, apart := false, narrowed := true }
def NodeChecksUptoSaid : Prop := nodeChecksUptoRow.holds Try.pinned (OpenSpec.upto nodeChecksSpec)

/-- 'dowserlaw09.NodeParses', WHERE WHAT IT READS IS OF BULK AT MOST 1048576: true; the input reads as it did. -/
def nodeParsesUptoRow : OpenClaim := { program := "ytlboglbgdjakmaa", sum := "f6af255f0daf22af7a62d9ded833ba8fa7d3167fe3e569eb193f34b2adcfe35e", func := "dowser/dowserlaw09.NodeParses", spec := "nodeParses", inPlace := ["internal/abi.NoEscape"], unfollowed := true, recurses := true, apart := false, narrowed := true }
def NodeParsesUptoSaid : Prop := nodeParsesUptoRow.holds Try.pinned (OpenSpec.upto nodeParsesSpec)

/-- 'dowserlaw09.NodePacks', WHERE WHAT IT READS IS OF BULK AT MOST 1048576: true; the input reads as it did. -/
def nodePacksUptoRow : OpenClaim := { program := "ytlboglbgdjakmaa", sum := "f6af255f0daf22af7a62d9ded833ba8fa7d3167fe3e569eb193f34b2adcfe35e", func := "dowser/dowserlaw09.NodePacks", spec := "nodePacks", inPlace := ["internal/abi.NoEscape"], unfollowed := true, recurses := true, apart := false, narrowed := true }
def NodePacksUptoSaid : Prop := nodePacksUptoRow.holds Try.pinned (OpenSpec.upto nodePacksSpec)

/-- 'dowserlaw09.NodeShares', WHERE WHAT IT READS IS OF BULK AT MOST 1048576: true; the input reads as it did. -/
def nodeSharesUptoRow : OpenClaim := { program := "ytlboglbgdjakmaa", sum := "f6af255f0daf22af7a62d9ded833ba8fa7d3167fe3e569eb193f34b2adcfe35e", func := "dowser/dowserlaw09.NodeShares", spec := "nodeShares", inPlace := ["internal/abi.NoEscape"], unfollowed := true, recurses := true, apart := false, narrowed := true }
def NodeSharesUptoSaid : Prop := nodeSharesUptoRow.holds Try.pinned (OpenSpec.upto nodeSharesSpec)

/-- 'dowserlaw09.NodeSplits', WHERE WHAT IT READS IS OF BULK AT MOST 1048576: true; the input reads as it did. -/
def nodeSplitsUptoRow : OpenClaim := { program := "ytlboglbgdjakmaa", sum := "f6af255f0daf22af7a62d9ded833ba8fa7d3167fe3e569eb193f34b2adcfe35e", func := "dowser/dowserlaw09.NodeSplits", spec := "nodeSplits", inPlace := ["internal/abi.NoEscape"], unfollowed := true, recurses := true, apart := false, narrowed := true }
def NodeSplitsUptoSaid : Prop := nodeSplitsUptoRow.holds Try.pinned (OpenSpec.upto nodeSplitsSpec)

end Rows
end Go.Proofs.Ytlboglbgdjakmaa
