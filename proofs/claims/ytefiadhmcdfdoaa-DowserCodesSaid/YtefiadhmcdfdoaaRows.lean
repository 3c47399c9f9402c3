/-
  No cell of these rows narrows 'for every input' (looked for: loops, veiled, ifaces, maps, wideKeys, modest, calm, conditions, laid).
  DERIVED. THE GIVEN ROWS OF THIS SEAT. 5 by the template 'for every input the law returns true; each argument reads behind the call as it read before'; 0 by the template 'total and deterministic' (their statements: YtefiadhmcdfdoaaTotals.lean).
  GIVEN WITH THE SEED: the statements are not yours to turn. If you find one false, say at which input.
  Laid BY PROGRAM, IN A SANDBOX (cutbox-rows.mjs): the forced cells as the released guide's own fill.sh prints them over the translation e98017d4e4670ac8… (all of the seat's roots in one cut). By AI agents, Wed Nov 11 2026. No macro, syntax, notation, axiom, sorry.
-/
import Derived.Test.YtefiadhmcdfdoaaChecked
import GoSem.Claim
import GoSem.ClaimJoined
import GoSem.ClaimMapViews
import Derived.JoinedTies
import Derived.KernelRfl
namespace Go.Proofs.Ytefiadhmcdfdoaa
/- THE CELL 'sum', in the pinned program and in every row, IS THE sha256 OF THE DUMP (.gsa) THAT YtefiadhmcdfdoaaProg.lean LOADS. Nothing in Lean hashes anything: it is a label: what it is worth is what the hold of that sum in a sandbox is worth. -/
noncomputable def Try.pinned : Pinned := { name := "ytefiadhmcdfdoaa", sum := "e98017d4e4670ac8b99395986af466f7e1ad6c9b11d57dfe41b2aff1bbec327c", checked := Try.checked }
namespace Rows
def none {H : Type} : Left H := { results := [], args := [] }

/-- 'dowserlaw13.SetcodeSets': WHATEVER THE INPUT: true; the input reads as it did. -/
def setcodeSetsSpec : ChangeSpec := { name := "setcodeSets", fn := fun _ => fun
  | [d1, d2] => { results := [.lit (.bool true)], args := [d1, d2] }
  | _ => none }
def setcodeSetsRow : OpenClaim := { program := "ytefiadhmcdfdoaa", sum := "e98017d4e4670ac8b99395986af466f7e1ad6c9b11d57dfe41b2aff1bbec327c", func := "dowser/dowserlaw13.SetcodeSets", spec := "setcodeSets", inPlace := ["internal/abi.NoEscape"], apart := false }
def SetcodeSetsSaid : Prop := setcodeSetsRow.holds Try.pinned (OpenSpec.ofChange setcodeSetsSpec)

/-- ITS FALSE NEIGHBOUR: 'it returns false'. Refute it at one input. -/
def setcodeSetsWrong : ChangeSpec := { name := "setcodeSets", fn := fun _ => fun
  | [d1, d2] => { results := [.lit (.bool false)], args := [d1, d2] }
  | _ => none }
def SetcodeSetsWrongFalsely : Prop := setcodeSetsRow.holds Try.pinned (OpenSpec.ofChange setcodeSetsWrong)

/-- 'dowserlaw13.SetcodeSizes': WHATEVER THE INPUT: true; the input reads as it did. -/
def setcodeSizesSpec : ChangeSpec := { name := "setcodeSizes", fn := fun _ => fun
  | [d1, d2, d3] => { results := [.lit (.bool true)], args := [d1, d2, d3] }
  | _ => none }
def setcodeSizesRow : OpenClaim := { program := "ytefiadhmcdfdoaa", sum := "e98017d4e4670ac8b99395986af466f7e1ad6c9b11d57dfe41b2aff1bbec327c", func := "dowser/dowserlaw13.SetcodeSizes", spec := "setcodeSizes", inPlace := ["internal/abi.NoEscape"], apart := false }
def SetcodeSizesSaid : Prop := setcodeSizesRow.holds Try.pinned (OpenSpec.ofChange setcodeSizesSpec)

/-- ITS FALSE NEIGHBOUR: 'it returns false'. Refute it at one input. -/
def setcodeSizesWrong : ChangeSpec := { name := "setcodeSizes", fn := fun _ => fun
  | [d1, d2, d3] => { results := [.lit (.bool false)], args := [d1, d2, d3] }
  | _ => none }
def SetcodeSizesWrongFalsely : Prop := setcodeSizesRow.holds Try.pinned (OpenSpec.ofChange setcodeSizesWrong)

/-- 'dowsertop.DowserCodes': WHATEVER THE INPUT: true; the input reads as it did. -/
def dowserCodesSpec : ChangeSpec := { name := "dowserCodes", fn := fun _ => fun
  | [d] => { results := [.lit (.bool true)], args := [d] }
  | _ => none }
def dowserCodesRow : OpenClaim := { program := "ytefiadhmcdfdoaa", sum := "e98017d4e4670ac8b99395986af466f7e1ad6c9b11d57dfe41b2aff1bbec327c", func := "dowser/dowsertop.DowserCodes", spec := "dowserCodes", inPlace := ["internal/abi.NoEscape"], unfollowed := true, recurses := true, apart := false }
def DowserCodesSaid : Prop := dowserCodesRow.holds Try.pinned (OpenSpec.ofChange dowserCodesSpec)

/-- ITS FALSE NEIGHBOUR: 'it returns false'. Refute it at one input. -/
def dowserCodesWrong : ChangeSpec := { name := "dowserCodes", fn := fun _ => fun
  | [d] => { results := [.lit (.bool false)], args := [d] }
  | _ => none }
def DowserCodesWrongFalsely : Prop := dowserCodesRow.holds Try.pinned (OpenSpec.ofChange dowserCodesWrong)

/-- 'dowserlaw13.SetcodeReads': WHATEVER THE INPUT: true; the input reads as it did. -/
def setcodeReadsSpec : ChangeSpec := { name := "setcodeReads", fn := fun _ => fun
  | [d] => { results := [.lit (.bool true)], args := [d] }
  | _ => none }
def setcodeReadsRow : OpenClaim := { program := "ytefiadhmcdfdoaa", sum := "e98017d4e4670ac8b99395986af466f7e1ad6c9b11d57dfe41b2aff1bbec327c", func := "dowser/dowserlaw13.SetcodeReads", spec := "setcodeReads", inPlace := ["internal/abi.NoEscape"], apart := false }
def SetcodeReadsSaid : Prop := setcodeReadsRow.holds Try.pinned (OpenSpec.ofChange setcodeReadsSpec)

/-- ITS FALSE NEIGHBOUR: 'it returns false'. Refute it at one input. -/
def setcodeReadsWrong : ChangeSpec := { name := "setcodeReads", fn := fun _ => fun
  | [d] => { results := [.lit (.bool false)], args := [d] }
  | _ => none }
def SetcodeReadsWrongFalsely : Prop := setcodeReadsRow.holds Try.pinned (OpenSpec.ofChange setcodeReadsWrong)

/-- 'dowserlaw13.SetcodePairs': WHATEVER THE INPUT: true; the input reads as it did. -/
def setcodePairsSpec : ChangeSpec := { name := "setcodePairs", fn := fun _ => fun
  | [d] => { results := [.lit (.bool true)], args := [d] }
  | _ => none }
def setcodePairsRow : OpenClaim := { program := "ytefiadhmcdfdoaa", sum := "e98017d4e4670ac8b99395986af466f7e1ad6c9b11d57dfe41b2aff1bbec327c", func := "dowser/dowserlaw13.SetcodePairs", spec := "setcodePairs", inPlace := ["internal/abi.NoEscape"], apart := false }
def SetcodePairsSaid : Prop := setcodePairsRow.holds Try.pinned (OpenSpec.ofChange setcodePairsSpec)

/-- ITS FALSE NEIGHBOUR: 'it returns false'. Refute it at one input. -/
def setcodePairsWrong : ChangeSpec := { name := "setcodePairs", fn := fun _ => fun
  | [d] => { results := [.lit (.bool false)], args := [d] }
  | _ => none }
def SetcodePairsWrongFalsely : Prop := setcodePairsRow.holds Try.pinned (OpenSpec.ofChange setcodePairsWrong)

/- THE SECOND FORM. 'bulk': how many values and letters a reading holds, each counted each time it is reached (what is shared counts as often as it is met; a slice's spare places count too). A statement '..UptoSaid' is the law's where the arguments, and the package variables that the reading takes, are together of bulk at most 1048576: NARROWER than '..Said'. Prove '..Said' where nothing that the law and all that it calls make is longer than what came in: it says more and counts as full. Else prove '..UptoSaid'. A law counts once. -/
mutual
def uptoBulk {H : Type} : DataW H → Nat
  | .lit (.string bytes) => bytes.length + 1
  | .lit _ => 1
  | .nil => 1
  | .ptr d => uptoBulk d + 1
  | .slice elems spare => uptoBulkAll elems + uptoBulkAll spare + 1
  | .agg parts => uptoBulkAll parts + 1
  | .iface _ d => uptoBulk d + 1
  | .map entries => uptoBulkEntries entries + 1
  | .held _ => 1
def uptoBulkAll {H : Type} : List (DataW H) → Nat
  | [] => 0
  | d :: r => uptoBulk d + uptoBulkAll r
def uptoBulkEntries {H : Type} : List (Lit × DataW H) → Nat
  | [] => 0
  | x :: r => uptoBulkEntry x + uptoBulkEntries r
def uptoBulkEntry {H : Type} : Lit × DataW H → Nat
  | (.string bytes, d) => bytes.length + uptoBulk d + 1
  | (_, d) => uptoBulk d + 1
 end
def uptoSmall : (H : Type) → List (DataW H) → Bool := fun _ ds => decide (uptoBulkAll ds ≤ 1048576)
def OpenSpec.upto (s : _root_.Go.ChangeSpec) : _root_.Go.OpenSpec := { _root_.Go.OpenSpec.ofChange s with cond := some uptoSmall }

/-- 'dowserlaw13.SetcodeSets', WHERE WHAT IT READS IS OF BULK AT MOST 1048576: true; the input reads as it did. -/
def setcodeSetsUptoRow : OpenClaim := { program := "ytefiadhmcdfdoaa", sum := "e98017d4e4670ac8b99395986af466f7e1ad6c9b11d57dfe41b2aff1bbec327c", func := "dowser/dowserlaw13.SetcodeSets", spec := "setcodeSets", inPlace := ["internal/abi.NoEscape"], apart := false, narrowed := true }
def SetcodeSetsUptoSaid : Prop := setcodeSetsUptoRow.holds Try.pinned (OpenSpec.upto setcodeSetsSpec)

/-- 'dowserlaw13.SetcodeSizes', WHERE WHAT IT READS IS OF BULK AT MOST 1048576: true; the input reads as it did. -/
def setcodeSizesUptoRow : OpenClaim := { program := "ytefiadhmcdfdoaa", sum := "e98017d4e4670ac8b99395986af466f7e1ad6c9b11d57dfe41b2aff1bbec327c", func := "dowser/dowserlaw13.SetcodeSizes", spec := "setcodeSizes", inPlace := ["internal/abi.NoEscape"], apart := false, narrowed := true }
def SetcodeSizesUptoSaid : Prop := setcodeSizesUptoRow.holds Try.pinned (OpenSpec.upto setcodeSizesSpec)

/-- 'dowsertop.DowserCodes', WHERE WHAT IT READS IS OF BULK AT MOST 1048576: true; the input reads as it did. -/
def dowserCodesUptoRow : OpenClaim := { program := "ytefiadhmcdfdoaa", sum := "e98017d4e4670ac8b99395986af466f7e1ad6c9b11d57dfe41b2aff1bbec327c", func := "dowser/dowsertop.DowserCodes", spec := "dowserCodes", inPlace := ["internal/abi.NoEscape"], unfollowed := true, recurses := true, apart := false, narrowed := true }
def DowserCodesUptoSaid : Prop := dowserCodesUptoRow.holds Try.pinned (OpenSpec.upto dowserCodesSpec)

/-- 'dowserlaw13.SetcodeReads', WHERE WHAT IT READS IS OF BULK AT MOST 1048576: true; the input reads as it did. -/
def setcodeReadsUptoRow : OpenClaim := { program := "ytefiadhmcdfdoaa", sum := "e98017d4e4670ac8b99395986af466f7e1ad6c9b11d57dfe41b2aff1bbec327c", func := "dowser/dowserlaw13.SetcodeReads", spec := "setcodeReads", inPlace := ["internal/abi.NoEscape"], apart := false, narrowed := true }
def SetcodeReadsUptoSaid : Prop := setcodeReadsUptoRow.holds Try.pinned (OpenSpec.upto setcodeReadsSpec)

/-- 'dowserlaw13.SetcodePairs', WHERE WHAT IT READS IS OF BULK AT MOST 1048576: true; the input reads as it did. -/
def setcodePairsUptoRow : OpenClaim := { program := "ytefiadhmcdfdoaa", sum := "e98017d4e4670ac8b99395986af466f7e1ad6c9b11d57dfe41b2aff1bbec327c", func := "dowser/dowserlaw13.SetcodePairs", spec := "setcodePairs", inPlace := ["internal/abi.NoEscape"], apart := false, narrowed := true }
def SetcodePairsUptoSaid : Prop := setcodePairsUptoRow.holds Try.pinned (OpenSpec.upto setcodePairsSpec)

end Rows
end Go.Proofs.Ytefiadhmcdfdoaa
