/-
  No cell of these rows narrows 'for every input' (looked for: loops, veiled, ifaces, maps, wideKeys, modest, calm, conditions, laid).
  DERIVED. THE GIVEN ROWS OF THIS SEAT. 4 by the template 'for every input the law returns true; each argument reads behind the call as it read before'; 0 by the template 'total and deterministic' (their statements: YtgfjjhfkgfnpaaaTotals.lean).
  GIVEN WITH THE SEED: the statements are not yours to turn. If you find one false, say at which input.
  Laid BY PROGRAM, IN A SANDBOX (cutbox-rows.mjs): the forced cells as the released guide's own fill.sh prints them over the translation 2f68f976ce4ddc16… (all of the seat's roots in one cut). By AI agents, Wed Nov 11 2026. No macro, syntax, notation, axiom, sorry.
-/
import Derived.Test.YtgfjjhfkgfnpaaaChecked
import GoSem.Claim
import GoSem.ClaimJoined
import GoSem.ClaimMapViews
import Derived.JoinedTies
import Derived.KernelRfl
namespace Go.Proofs.Ytgfjjhfkgfnpaaa
/- THE CELL 'sum', in the pinned program and in every row, IS THE sha256 OF THE DUMP (.gsa) THAT YtgfjjhfkgfnpaaaProg.lean LOADS. Nothing in Lean hashes anything: it is a label: what it is worth is what the hold of that sum in a sandbox is worth. -/
noncomputable def Try.pinned : Pinned := { name := "ytgfjjhfkgfnpaaa", sum := "2f68f976ce4ddc16e556d019392e177593adda621719265f74b0450a07d92cc4", checked := Try.checked }
namespace Rows
def none {H : Type} : Left H := { results := [], args := [] }

/-- 'dowserlaw15.ProgramChecks': WHATEVER THE INPUT: true; the input reads as it did. -/
def programChecksSpec : ChangeSpec := { name := "programChecks", fn := fun _ => fun
  | [d] => { results := [.lit (.bool true)], args := [d] }
  | _ => none }
def programChecksRow : OpenClaim := { program := "ytgfjjhfkgfnpaaa", sum := "2f68f976ce4ddc16e556d019392e177593adda621719265f74b0450a07d92cc4", func := "dowser/dowserlaw15.ProgramChecks", spec := "programChecks", inPlace := ["math.Float64frombits", "math.Float64bits"], unfollowed := true, recurses := true, apart := false }
def ProgramChecksSaid : Prop := programChecksRow.holds Try.pinned (OpenSpec.ofChange programChecksSpec)

/-- ITS FALSE NEIGHBOUR: 'it returns false'. Refute it at one input. -/
def programChecksWrong : ChangeSpec := { name := "programChecks", fn := fun _ => fun
  | [d] => { results := [.lit (.bool false)], args := [d] }
  | _ => none }
def ProgramChecksWrongFalsely : Prop := programChecksRow.holds Try.pinned (OpenSpec.ofChange programChecksWrong)

/-- 'dowserlaw15.ProgramRight': WHATEVER THE INPUT: true; the input reads as it did. -/
def programRightSpec : ChangeSpec := { name := "programRight", fn := fun _ => fun
  | [d] => { results := [.lit (.bool true)], args := [d] }
  | _ => none }
def programRightRow : OpenClaim := { program := "ytgfjjhfkgfnpaaa", sum := "2f68f976ce4ddc16e556d019392e177593adda621719265f74b0450a07d92cc4", func := "dowser/dowserlaw15.ProgramRight", spec := "programRight", inPlace := ["math.Float64frombits", "math.Float64bits"], unfollowed := true, recurses := true, apart := false }
def ProgramRightSaid : Prop := programRightRow.holds Try.pinned (OpenSpec.ofChange programRightSpec)

/-- ITS FALSE NEIGHBOUR: 'it returns false'. Refute it at one input. -/
def programRightWrong : ChangeSpec := { name := "programRight", fn := fun _ => fun
  | [d] => { results := [.lit (.bool false)], args := [d] }
  | _ => none }
def ProgramRightWrongFalsely : Prop := programRightRow.holds Try.pinned (OpenSpec.ofChange programRightWrong)

/-- 'dowserlaw15.ProgramClones': WHATEVER THE INPUT: true; the input reads as it did. -/
def programClonesSpec : ChangeSpec := { name := "programClones", fn := fun _ => fun
  | [d] => { results := [.lit (.bool true)], args := [d] }
  | _ => none }
def programClonesRow : OpenClaim := { program := "ytgfjjhfkgfnpaaa", sum := "2f68f976ce4ddc16e556d019392e177593adda621719265f74b0450a07d92cc4", func := "dowser/dowserlaw15.ProgramClones", spec := "programClones", inPlace := ["math.Float64frombits", "math.Float64bits"], unfollowed := true, recurses := true, apart := false }
def ProgramClonesSaid : Prop := programClonesRow.holds Try.pinned (OpenSpec.ofChange programClonesSpec)

/-- ITS FALSE NEIGHBOUR: 'it returns false'. Refute it at one input. -/
def programClonesWrong : ChangeSpec := { name := "programClones", fn := fun _ => fun
  | [d] => { results := [.lit (.bool false)], args := [d] }
  | _ => none }
def ProgramClonesWrongFalsely : Prop := programClonesRow.holds Try.pinned (OpenSpec.ofChange programClonesWrong)

/-- 'dowserlaw15.ProgramThings': WHATEVER THE INPUT: true; the input reads as it did. -/
def programThingsSpec : ChangeSpec := { name := "programThings", fn := fun _ => fun
  | [d1, d2] => { results := [.lit (.bool true)], args := [d1, d2] }
  | _ => none }
def programThingsRow : OpenClaim := { program := "ytgfjjhfkgfnpaaa", sum := "2f68f976ce4ddc16e556d019392e177593adda621719265f74b0450a07d92cc4", func := "dowser/dowserlaw15.ProgramThings", spec := "programThings", inPlace := ["math.Float64frombits", "math.Float64bits"], unfollowed := true, recurses := true, apart := false }
def ProgramThingsSaid : Prop := programThingsRow.holds Try.pinned (OpenSpec.ofChange programThingsSpec)

/-- ITS FALSE NEIGHBOUR: 'it returns false'. Refute it at one input. -/
def programThingsWrong : ChangeSpec := { name := "programThings", fn := fun _ => fun
  | [d1, d2] => { results := [.lit (.bool false)], args := [d1, d2] }
  | _ => none }
def ProgramThingsWrongFalsely : Prop := programThingsRow.holds Try.pinned (OpenSpec.ofChange programThingsWrong)

/- THE SECOND FORM. 'bulk': how many values and letters a reading holds, each counted each time it is reached (what is shared counts as often as it is met; a slice's spare places count too). A statement '..UptoSaid' is the law's where the arguments, and the package variables that the reading takes, are together of bulk at most 1048576: NARROWER than '..Said'. Prove '..Said' where nothing that the law and all that it calls make is longer than what came in: it says more and counts as full. Else prove '..UptoSaid'. A law counts once. -/
mutual
def uptoBulk {H : Type} : DataW H → Nat
  | .lit (.string bytes) => bytes.length + 1
  | .lit _ => 1
  | .nil => 1
  | .ptr d => uptoBulk d + 1
  | .slice elems spare => uptoBulkAll elems + uptoBulkAll spare + 1
  | .agg parts => uptoBulkAll parts + 1
  | .iface _ d => uptoBulk d + 1
  | .map entries => uptoBulkEntries entries + 1
  | .held _ => 1
def uptoBulkAll {H : Type} : List (DataW H) → Nat
  | [] => 0
  | d :: r => uptoBulk d + uptoBulkAll r
def uptoBulkEntries {H : Type} : List (Lit × DataW H) → Nat
  | [] => 0
  | x :: r => uptoBulkEntry x + uptoBulkEntries r
def uptoBulkEntry {H : Type} : Lit × DataW H → Nat
  | (.string bytes, d) => bytes.length + uptoBulk d + 1
  | (_, d) => uptoBulk d + 1
 end
def uptoSmall : (H : Type) → List (DataW H) → Bool := fun _ ds => decide (uptoBulkAll ds ≤ 1048576)
def OpenSpec.upto (s : _root_.Go.ChangeSpec) : _root_.Go.OpenSpec := { _root_.Go.OpenSpec.ofChange s with cond := some uptoSmall }

/-- 'dowserlaw15.ProgramChecks', WHERE WHAT IT READS IS OF BULK AT MOST 1048576: true; the input reads as it did. -/
def programChecksUptoRow : OpenClaim := { program := "ytgfjjhfkgfnpaaa", sum := "2f68f976ce4ddc16e556d019392e177593adda621719265f74b0450a07d92cc4", func := "dowser/dowserlaw15.ProgramChecks", spec := "programChecks", inPlace := ["math.Float64frombits", "math.Float64bits"], unfollowed := true, recurses := true, apart := false, narrowed := true }
def ProgramChecksUptoSaid : Prop := programChecksUptoRow.holds Try.pinned (OpenSpec.upto programChecksSpec)

/-- 'dowserlaw15.ProgramRight', WHERE WHAT IT READS IS OF BULK AT MOST 1048576: true; the input reads as it did. -/
def programRightUptoRow : OpenClaim := { program := "ytgfjjhfkgfnpaaa", sum := "2f68f976ce4ddc16e556d019392e177593adda621719265f74b0450a07d92cc4", func := "dowser/dowserlaw15.ProgramRight", spec := "programRight", inPlace := ["math.Float64frombits", "math.Float64bits"], unfollowed := true, recurses := true, apart := false, narrowed := true }
def ProgramRightUptoSaid : Prop := programRightUptoRow.holds Try.pinned (OpenSpec.upto programRightSpec)

/-- 'dowserlaw15.ProgramClones', WHERE WHAT IT READS IS OF BULK AT MOST 1048576: true; the input reads as it did. -/
def programClonesUptoRow : OpenClaim := { program := "ytgfjjhfkgfnpaaa", sum := "2f68f976ce4ddc16e556d019392e177593adda621719265f74b0450a07d92cc4", func := "dowser/dowserlaw15.ProgramClones", spec := "programClones", inPlace := ["math.Float64frombits", "math.Float64bits"], unfollowed := true, recurses := true, apart := false, narrowed := true }
def ProgramClonesUptoSaid : Prop := programClonesUptoRow.holds Try.pinned (OpenSpec.upto programClonesSpec)

/-- 'dowserlaw15.ProgramThings', WHERE WHAT IT READS IS OF BULK AT MOST 1048576: true; the input reads as it did. -/
def programThingsUptoRow : OpenClaim := { program := "ytgfjjhfkgfnpaaa", sum := "2f68f976ce4ddc16e556d019392e177593adda621719265f74b0450a07d92cc4", func := "dowser/dowserlaw15.ProgramThings", spec := "programThings", inPlace := ["math.Float64frombits", "math.Float64bits"], unfollowed := true, recurses := true, apart := false, narrowed := true }
def ProgramThingsUptoSaid : Prop := programThingsUptoRow.holds Try.pinned (OpenSpec.upto programThingsSpec)

end Rows
end Go.Proofs.Ytgfjjhfkgfnpaaa
