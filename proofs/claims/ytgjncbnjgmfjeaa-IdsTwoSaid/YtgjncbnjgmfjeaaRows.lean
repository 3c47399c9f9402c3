/-
  No cell of these rows narrows 'for every input' (looked for: loops, veiled, ifaces, maps, wideKeys, modest, calm, conditions, laid).
  DERIVED. THE GIVEN ROWS OF THIS SEAT. 4 by the template 'for every input the law returns true; each argument reads behind the call as it read before'; 0 by the template 'total and deterministic' (their statements: YtgjncbnjgmfjeaaTotals.lean).
  GIVEN WITH THE SEED: the statements are not yours to turn. If you find one false, say at which input.
  Laid BY PROGRAM, IN A SANDBOX (cutbox-rows.mjs): the forced cells as the released guide's own fill.sh prints them over the translation fe3cdcb524e7570d… (all of the seat's roots in one cut). By AI agents, Wed Nov 11 2026. No macro, syntax, notation, axiom, sorry.
-/
import Derived.Test.YtgjncbnjgmfjeaaChecked
import GoSem.Claim
import GoSem.ClaimJoined
import GoSem.ClaimMapViews
import Derived.JoinedTies
import Derived.KernelRfl
namespace Go.Proofs.Ytgjncbnjgmfjeaa
/- THE CELL 'sum', in the pinned program and in every row, IS THE sha256 OF THE DUMP (.gsa) THAT YtgjncbnjgmfjeaaProg.lean LOADS. Nothing in Lean hashes anything: it is a label: what it is worth is what the hold of that sum in a sandbox is worth. -/
noncomputable def Try.pinned : Pinned := { name := "ytgjncbnjgmfjeaa", sum := "fe3cdcb524e7570df2875ecea5e65a1a3a21de4b23d0ddaec29e79500b6eedee", checked := Try.checked }
namespace Rows
def none {H : Type} : Left H := { results := [], args := [] }

/-- 'dowserlaw04.IdsThree': WHATEVER THE INPUT: true; the input reads as it did. -/
def idsThreeSpec : ChangeSpec := { name := "idsThree", fn := fun _ => fun
  | [d1, d2, d3] => { results := [.lit (.bool true)], args := [d1, d2, d3] }
  | _ => none }
def idsThreeRow : OpenClaim := { program := "ytgjncbnjgmfjeaa", sum := "fe3cdcb524e7570df2875ecea5e65a1a3a21de4b23d0ddaec29e79500b6eedee", func := "dowser/dowserlaw04.IdsThree", spec := "idsThree", unfollowed := true, recurses := true, apart := false }
def IdsThreeSaid : Prop := idsThreeRow.holds Try.pinned (OpenSpec.ofChange idsThreeSpec)

/-- ITS FALSE NEIGHBOUR: 'it returns false'. Refute it at one input. -/
def idsThreeWrong : ChangeSpec := { name := "idsThree", fn := fun _ => fun
  | [d1, d2, d3] => { results := [.lit (.bool false)], args := [d1, d2, d3] }
  | _ => none }
def IdsThreeWrongFalsely : Prop := idsThreeRow.holds Try.pinned (OpenSpec.ofChange idsThreeWrong)

/-- 'dowserlaw04.IdsCounts': WHATEVER THE INPUT: true; the input reads as it did. -/
def idsCountsSpec : ChangeSpec := { name := "idsCounts", fn := fun _ => fun
  | [d1, d2] => { results := [.lit (.bool true)], args := [d1, d2] }
  | _ => none }
def idsCountsRow : OpenClaim := { program := "ytgjncbnjgmfjeaa", sum := "fe3cdcb524e7570df2875ecea5e65a1a3a21de4b23d0ddaec29e79500b6eedee", func := "dowser/dowserlaw04.IdsCounts", spec := "idsCounts", unfollowed := true, recurses := true, apart := false }
def IdsCountsSaid : Prop := idsCountsRow.holds Try.pinned (OpenSpec.ofChange idsCountsSpec)

/-- ITS FALSE NEIGHBOUR: 'it returns false'. Refute it at one input. -/
def idsCountsWrong : ChangeSpec := { name := "idsCounts", fn := fun _ => fun
  | [d1, d2] => { results := [.lit (.bool false)], args := [d1, d2] }
  | _ => none }
def IdsCountsWrongFalsely : Prop := idsCountsRow.holds Try.pinned (OpenSpec.ofChange idsCountsWrong)

/-- 'dowserlaw04.IdsSets': WHATEVER THE INPUT: true; the input reads as it did. -/
def idsSetsSpec : ChangeSpec := { name := "idsSets", fn := fun _ => fun
  | [d1, d2] => { results := [.lit (.bool true)], args := [d1, d2] }
  | _ => none }
def idsSetsRow : OpenClaim := { program := "ytgjncbnjgmfjeaa", sum := "fe3cdcb524e7570df2875ecea5e65a1a3a21de4b23d0ddaec29e79500b6eedee", func := "dowser/dowserlaw04.IdsSets", spec := "idsSets", unfollowed := true, recurses := true, apart := false }
def IdsSetsSaid : Prop := idsSetsRow.holds Try.pinned (OpenSpec.ofChange idsSetsSpec)

/-- ITS FALSE NEIGHBOUR: 'it returns false'. Refute it at one input. -/
def idsSetsWrong : ChangeSpec := { name := "idsSets", fn := fun _ => fun
  | [d1, d2] => { results := [.lit (.bool false)], args := [d1, d2] }
  | _ => none }
def IdsSetsWrongFalsely : Prop := idsSetsRow.holds Try.pinned (OpenSpec.ofChange idsSetsWrong)

/-- 'dowserlaw04.IdsTwo': WHATEVER THE INPUT: true; the input reads as it did. -/
def idsTwoSpec : ChangeSpec := { name := "idsTwo", fn := fun _ => fun
  | [d1, d2] => { results := [.lit (.bool true)], args := [d1, d2] }
  | _ => none }
def idsTwoRow : OpenClaim := { program := "ytgjncbnjgmfjeaa", sum := "fe3cdcb524e7570df2875ecea5e65a1a3a21de4b23d0ddaec29e79500b6eedee", func := "dowser/dowserlaw04.IdsTwo", spec := "idsTwo", unfollowed := true, recurses := true, apart := false }
def IdsTwoSaid : Prop := idsTwoRow.holds Try.pinned (OpenSpec.ofChange idsTwoSpec)

/-- ITS FALSE NEIGHBOUR: 'it returns false'. Refute it at one input. -/
def idsTwoWrong : ChangeSpec := { name := "idsTwo", fn := fun _ => fun
  | [d1, d2] => { results := [.lit (.bool false)], args := [d1, d2] }
  | _ => none }
def IdsTwoWrongFalsely : Prop := idsTwoRow.holds Try.pinned (OpenSpec.ofChange idsTwoWrong)

/- THE SECOND FORM. 'bulk': how many values and letters a reading holds, each counted each time it is reached (what is shared counts as often as it is met; a slice's spare places count too). A statement '..UptoSaid' is the law's where the arguments, and the package variables that the reading takes, are together of bulk at most 1048576: NARROWER than '..Said'. Prove '..Said' where nothing that the law and all that it calls make is longer than what came in: it says more and counts as full. Else prove '..UptoSaid'. A law counts once. -/
mutual
def uptoBulk {H : Type} : DataW H → Nat
  | .lit (.string bytes) => bytes.length + 1
  | .lit _ => 1
  | .nil => 1
  | .ptr d => uptoBulk d + 1
  | .slice elems spare => uptoBulkAll elems + uptoBulkAll spare + 1
  | .agg parts => uptoBulkAll parts + 1
  | .iface _ d => uptoBulk d + 1
  | .map entries => uptoBulkEntries entries + 1
  | .held _ => 1
def uptoBulkAll {H : Type} : List (DataW H) → Nat
  | [] => 0
  | d :: r => uptoBulk d + uptoBulkAll r
def uptoBulkEntries {H : Type} : List (Lit × DataW H) → Nat
  | [] => 0
  | x :: r => uptoBulkEntry x + uptoBulkEntries r
def uptoBulkEntry {H : Type} : Lit × DataW H → Nat
  | (.string bytes, d) => bytes.length + uptoBulk d + 1
  | (_, d) => uptoBulk d + 1
 end
def uptoSmall : (H : Type) → List (DataW H) → Bool := fun _ ds => decide (uptoBulkAll ds ≤ 1048576)
def OpenSpec.upto (s : _root_.Go.ChangeSpec) : _root_.Go.OpenSpec := { _root_.Go.OpenSpec.ofChange s with cond := some uptoSmall }

/-- 'dowserlaw04.IdsThree', WHERE WHAT IT READS IS OF BULK AT MOST 1048576: true; the input reads as it did. -/
def idsThreeUptoRow : OpenClaim := { program := "ytgjncbnjgmfjeaa", sum := "fe3cdcb524e7570df2875ecea5e65a1a3a21de4b23d0ddaec29e79500b6eedee", func := "dowser/dowserlaw04.IdsThree", spec := "idsThree", unfollowed := true, recurses := true, apart := false, narrowed := true }
def IdsThreeUptoSaid : Prop := idsThreeUptoRow.holds Try.pinned (OpenSpec.upto idsThreeSpec)

/-- 'dowserlaw04.IdsCounts', WHERE WHAT IT READS IS OF BULK AT MOST 1048576: true; the input reads as it did. -/
def idsCountsUptoRow : OpenClaim := { program := "ytgjncbnjgmfjeaa", sum := "fe3cdcb524e7570df2875ecea5e65a1a3a21de4b23d0ddaec29e79500b6eedee", func := "dowser/dowserlaw04.IdsCounts", spec := "idsCounts", unfollowed := true, recurses := true, apart := false, narrowed := true }
def IdsCountsUptoSaid : Prop := idsCountsUptoRow.holds Try.pinned (OpenSpec.upto idsCountsSpec)

/-- 'dowserlaw04.IdsSets', WHERE WHAT IT READS IS OF BULK AT MOST 1048576: true; the input reads as it did. -/
def idsSetsUptoRow : OpenClaim := { program := "ytgjncbnjgmfjeaa", sum := "fe3cdcb524e7570df2875ecea5e65a1a3a21de4b23d0ddaec29e79500b6eedee", func := "dowser/dowserlaw04.IdsSets", spec := "idsSets", unfollowed := true, recurses := true, apart := false, narrowed := true }
def IdsSetsUptoSaid : Prop := idsSetsUptoRow.holds Try.pinned (OpenSpec.upto idsSetsSpec)

/-- 'dowserlaw04.IdsTwo', WHERE WHAT IT READS IS OF BULK AT MOST 1048576: true; the input reads as it did. -/
def idsTwoUptoRow : OpenClaim := { program := "ytgjncbnjgmfjeaa", sum := "fe3cdcb524e7570df2875ecea5e65a1a3a21de4b23d0ddaec29e79500b6eedee", func := "dowser/dowserlaw04.IdsTwo", spec := "idsTwo", unfollowed := true, recurses := true, apart := false, narrowed := true }
def IdsTwoUptoSaid : Prop := idsTwoUptoRow.holds Try.pinned (OpenSpec.upto idsTwoSpec)

end Rows
end Go.Proofs.Ytgjncbnjgmfjeaa
