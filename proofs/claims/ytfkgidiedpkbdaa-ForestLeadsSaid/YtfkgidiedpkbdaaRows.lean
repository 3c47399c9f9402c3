/-
  No cell of these rows narrows 'for every input' (looked for: loops, veiled, ifaces, maps, wideKeys, modest, calm, conditions, laid).
  DERIVED. THE GIVEN ROWS OF THIS SEAT. 10 by the template 'for every input the law returns true; each argument reads behind the call as it read before'; 0 by the template 'total and deterministic' (their statements: YtfkgidiedpkbdaaTotals.lean).
  GIVEN WITH THE SEED: the statements are not yours to turn. If you find one false, say at which input.
  Laid BY PROGRAM, IN A SANDBOX (cutbox-rows.mjs): the forced cells as the released guide's own fill.sh prints them over the translation 9e480312f6dfed29… (all of the seat's roots in one cut). By AI agents, Wed Nov 11 2026. No macro, syntax, notation, axiom, sorry.
-/
import Derived.Test.YtfkgidiedpkbdaaChecked
import GoSem.Claim
import GoSem.ClaimJoined
import GoSem.ClaimMapViews
import Derived.JoinedTies
import Derived.KernelRfl
namespace Go.Proofs.Ytfkgidiedpkbdaa
/- THE CELL 'sum', in the pinned program and in every row, IS THE sha256 OF THE DUMP (.gsa) THAT YtfkgidiedpkbdaaProg.lean LOADS. Nothing in Lean hashes anything: it is a label: what it is worth is what the hold of that sum in a sandbox is worth. -/
noncomputable def Try.pinned : Pinned := { name := "ytfkgidiedpkbdaa", sum := "9e480312f6dfed29f182a921eace65c506c05390bccd740c906f4e91a4dfe991", checked := Try.checked }
namespace Rows
def none {H : Type} : Left H := { results := [], args := [] }

/-- 'dowserlaw02.CrcIs': WHATEVER THE INPUT: true; the input reads as it did. -/
def crcIsSpec : ChangeSpec := { name := "crcIs", fn := fun _ => fun
  | [d1, d2] => { results := [.lit (.bool true)], args := [d1, d2] }
  | _ => none }
def crcIsRow : OpenClaim := { program := "ytfkgidiedpkbdaa", sum := "9e480312f6dfed29f182a921eace65c506c05390bccd740c906f4e91a4dfe991", func := "dowser/dowserlaw02.CrcIs", spec := "crcIs", apart := false }
def CrcIsSaid : Prop := crcIsRow.holds Try.pinned (OpenSpec.ofChange crcIsSpec)

/-- ITS FALSE NEIGHBOUR: 'it returns false'. Refute it at one input. -/
def crcIsWrong : ChangeSpec := { name := "crcIs", fn := fun _ => fun
  | [d1, d2] => { results := [.lit (.bool false)], args := [d1, d2] }
  | _ => none }
def CrcIsWrongFalsely : Prop := crcIsRow.holds Try.pinned (OpenSpec.ofChange crcIsWrong)

/-- 'dowserlaw02.CrcTells': WHATEVER THE INPUT: true; the input reads as it did. -/
def crcTellsSpec : ChangeSpec := { name := "crcTells", fn := fun _ => fun
  | [d1, d2, d3] => { results := [.lit (.bool true)], args := [d1, d2, d3] }
  | _ => none }
def crcTellsRow : OpenClaim := { program := "ytfkgidiedpkbdaa", sum := "9e480312f6dfed29f182a921eace65c506c05390bccd740c906f4e91a4dfe991", func := "dowser/dowserlaw02.CrcTells", spec := "crcTells", apart := false }
def CrcTellsSaid : Prop := crcTellsRow.holds Try.pinned (OpenSpec.ofChange crcTellsSpec)

/-- ITS FALSE NEIGHBOUR: 'it returns false'. Refute it at one input. -/
def crcTellsWrong : ChangeSpec := { name := "crcTells", fn := fun _ => fun
  | [d1, d2, d3] => { results := [.lit (.bool false)], args := [d1, d2, d3] }
  | _ => none }
def CrcTellsWrongFalsely : Prop := crcTellsRow.holds Try.pinned (OpenSpec.ofChange crcTellsWrong)

/-- 'dowserlaw02.CrcGoesOn': WHATEVER THE INPUT: true; the input reads as it did. -/
def crcGoesOnSpec : ChangeSpec := { name := "crcGoesOn", fn := fun _ => fun
  | [d1, d2, d3] => { results := [.lit (.bool true)], args := [d1, d2, d3] }
  | _ => none }
def crcGoesOnRow : OpenClaim := { program := "ytfkgidiedpkbdaa", sum := "9e480312f6dfed29f182a921eace65c506c05390bccd740c906f4e91a4dfe991", func := "dowser/dowserlaw02.CrcGoesOn", spec := "crcGoesOn", apart := false }
def CrcGoesOnSaid : Prop := crcGoesOnRow.holds Try.pinned (OpenSpec.ofChange crcGoesOnSpec)

/-- ITS FALSE NEIGHBOUR: 'it returns false'. Refute it at one input. -/
def crcGoesOnWrong : ChangeSpec := { name := "crcGoesOn", fn := fun _ => fun
  | [d1, d2, d3] => { results := [.lit (.bool false)], args := [d1, d2, d3] }
  | _ => none }
def CrcGoesOnWrongFalsely : Prop := crcGoesOnRow.holds Try.pinned (OpenSpec.ofChange crcGoesOnWrong)

/-- 'dowserlaw17.ForestOrder': WHATEVER THE INPUT: true; the input reads as it did. -/
def forestOrderSpec : ChangeSpec := { name := "forestOrder", fn := fun _ => fun
  | [d1, d2] => { results := [.lit (.bool true)], args := [d1, d2] }
  | _ => none }
def forestOrderRow : OpenClaim := { program := "ytfkgidiedpkbdaa", sum := "9e480312f6dfed29f182a921eace65c506c05390bccd740c906f4e91a4dfe991", func := "dowser/dowserlaw17.ForestOrder", spec := "forestOrder", apart := false }
def ForestOrderSaid : Prop := forestOrderRow.holds Try.pinned (OpenSpec.ofChange forestOrderSpec)

/-- ITS FALSE NEIGHBOUR: 'it returns false'. Refute it at one input. -/
def forestOrderWrong : ChangeSpec := { name := "forestOrder", fn := fun _ => fun
  | [d1, d2] => { results := [.lit (.bool false)], args := [d1, d2] }
  | _ => none }
def ForestOrderWrongFalsely : Prop := forestOrderRow.holds Try.pinned (OpenSpec.ofChange forestOrderWrong)

/-- 'dowserlaw01.VarintNums': WHATEVER THE INPUT: true; the input reads as it did. -/
def varintNumsSpec : ChangeSpec := { name := "varintNums", fn := fun _ => fun
  | [d1, d2] => { results := [.lit (.bool true)], args := [d1, d2] }
  | _ => none }
def varintNumsRow : OpenClaim := { program := "ytfkgidiedpkbdaa", sum := "9e480312f6dfed29f182a921eace65c506c05390bccd740c906f4e91a4dfe991", func := "dowser/dowserlaw01.VarintNums", spec := "varintNums", apart := false }
def VarintNumsSaid : Prop := varintNumsRow.holds Try.pinned (OpenSpec.ofChange varintNumsSpec)

/-- ITS FALSE NEIGHBOUR: 'it returns false'. Refute it at one input. -/
def varintNumsWrong : ChangeSpec := { name := "varintNums", fn := fun _ => fun
  | [d1, d2] => { results := [.lit (.bool false)], args := [d1, d2] }
  | _ => none }
def VarintNumsWrongFalsely : Prop := varintNumsRow.holds Try.pinned (OpenSpec.ofChange varintNumsWrong)

/-- 'dowserlaw17.ForestPlays': WHATEVER THE INPUT: true; the input reads as it did. -/
def forestPlaysSpec : ChangeSpec := { name := "forestPlays", fn := fun _ => fun
  | [d1, d2] => { results := [.lit (.bool true)], args := [d1, d2] }
  | _ => none }
def forestPlaysRow : OpenClaim := { program := "ytfkgidiedpkbdaa", sum := "9e480312f6dfed29f182a921eace65c506c05390bccd740c906f4e91a4dfe991", func := "dowser/dowserlaw17.ForestPlays", spec := "forestPlays", apart := false }
def ForestPlaysSaid : Prop := forestPlaysRow.holds Try.pinned (OpenSpec.ofChange forestPlaysSpec)

/-- ITS FALSE NEIGHBOUR: 'it returns false'. Refute it at one input. -/
def forestPlaysWrong : ChangeSpec := { name := "forestPlays", fn := fun _ => fun
  | [d1, d2] => { results := [.lit (.bool false)], args := [d1, d2] }
  | _ => none }
def ForestPlaysWrongFalsely : Prop := forestPlaysRow.holds Try.pinned (OpenSpec.ofChange forestPlaysWrong)

/-- 'dowserlaw17.ForestLeads': WHATEVER THE INPUT: true; the input reads as it did. -/
def forestLeadsSpec : ChangeSpec := { name := "forestLeads", fn := fun _ => fun
  | [d1, d2] => { results := [.lit (.bool true)], args := [d1, d2] }
  | _ => none }
def forestLeadsRow : OpenClaim := { program := "ytfkgidiedpkbdaa", sum := "9e480312f6dfed29f182a921eace65c506c05390bccd740c906f4e91a4dfe991", func := "dowser/dowserlaw17.ForestLeads", spec := "forestLeads", apart := false }
def ForestLeadsSaid : Prop := forestLeadsRow.holds Try.pinned (OpenSpec.ofChange forestLeadsSpec)

/-- ITS FALSE NEIGHBOUR: 'it returns false'. Refute it at one input. -/
def forestLeadsWrong : ChangeSpec := { name := "forestLeads", fn := fun _ => fun
  | [d1, d2] => { results := [.lit (.bool false)], args := [d1, d2] }
  | _ => none }
def ForestLeadsWrongFalsely : Prop := forestLeadsRow.holds Try.pinned (OpenSpec.ofChange forestLeadsWrong)

/-- 'dowserlaw17.ForestRing': WHATEVER THE INPUT: true; the input reads as it did. -/
def forestRingSpec : ChangeSpec := { name := "forestRing", fn := fun _ => fun
  | [d1, d2, d3] => { results := [.lit (.bool true)], args := [d1, d2, d3] }
  | _ => none }
def forestRingRow : OpenClaim := { program := "ytfkgidiedpkbdaa", sum := "9e480312f6dfed29f182a921eace65c506c05390bccd740c906f4e91a4dfe991", func := "dowser/dowserlaw17.ForestRing", spec := "forestRing", apart := false }
def ForestRingSaid : Prop := forestRingRow.holds Try.pinned (OpenSpec.ofChange forestRingSpec)

/-- ITS FALSE NEIGHBOUR: 'it returns false'. Refute it at one input. -/
def forestRingWrong : ChangeSpec := { name := "forestRing", fn := fun _ => fun
  | [d1, d2, d3] => { results := [.lit (.bool false)], args := [d1, d2, d3] }
  | _ => none }
def ForestRingWrongFalsely : Prop := forestRingRow.holds Try.pinned (OpenSpec.ofChange forestRingWrong)

/-- 'dowserlaw01.VarintTexts': WHATEVER THE INPUT: true; the input reads as it did. -/
def varintTextsSpec : ChangeSpec := { name := "varintTexts", fn := fun _ => fun
  | [d1, d2, d3] => { results := [.lit (.bool true)], args := [d1, d2, d3] }
  | _ => none }
def varintTextsRow : OpenClaim := { program := "ytfkgidiedpkbdaa", sum := "9e480312f6dfed29f182a921eace65c506c05390bccd740c906f4e91a4dfe991", func := "dowser/dowserlaw01.VarintTexts", spec := "varintTexts", apart := false }
def VarintTextsSaid : Prop := varintTextsRow.holds Try.pinned (OpenSpec.ofChange varintTextsSpec)

/-- ITS FALSE NEIGHBOUR: 'it returns false'. Refute it at one input. -/
def varintTextsWrong : ChangeSpec := { name := "varintTexts", fn := fun _ => fun
  | [d1, d2, d3] => { results := [.lit (.bool false)], args := [d1, d2, d3] }
  | _ => none }
def VarintTextsWrongFalsely : Prop := varintTextsRow.holds Try.pinned (OpenSpec.ofChange varintTextsWrong)

/-- 'dowserlaw01.VarintTakes': WHATEVER THE INPUT: true; the input reads as it did. -/
def varintTakesSpec : ChangeSpec := { name := "varintTakes", fn := fun _ => fun
  | [d1, d2] => { results := [.lit (.bool true)], args := [d1, d2] }
  | _ => none }
def varintTakesRow : OpenClaim := { program := "ytfkgidiedpkbdaa", sum := "9e480312f6dfed29f182a921eace65c506c05390bccd740c906f4e91a4dfe991", func := "dowser/dowserlaw01.VarintTakes", spec := "varintTakes", apart := false }
def VarintTakesSaid : Prop := varintTakesRow.holds Try.pinned (OpenSpec.ofChange varintTakesSpec)

/-- ITS FALSE NEIGHBOUR: 'it returns false'. Refute it at one input. -/
def varintTakesWrong : ChangeSpec := { name := "varintTakes", fn := fun _ => fun
  | [d1, d2] => { results := [.lit (.bool false)], args := [d1, d2] }
  | _ => none }
def VarintTakesWrongFalsely : Prop := varintTakesRow.holds Try.pinned (OpenSpec.ofChange varintTakesWrong)

/- THE SECOND FORM. 'bulk': how many values and letters a reading holds, each counted each time it is reached (what is shared counts as often as it is met; a slice's spare places count too). A statement '..UptoSaid' is the law's where the arguments, and the package variables that the reading takes, are together of bulk at most 1048576: NARROWER than '..Said'. Prove '..Said' where nothing that the law and all that it calls make is longer than what came in: it says more and counts as full. Else prove '..UptoSaid'. A law counts once. -/
mutual
def uptoBulk {H : Type} : DataW H → Nat
  | .lit (.string bytes) => bytes.length + 1
  | .lit _ => 1
  | .nil => 1
  | .ptr d => uptoBulk d + 1
  | .slice elems spare => uptoBulkAll elems + uptoBulkAll spare + 1
  | .agg parts => uptoBulkAll parts + 1
  | .iface _ d => uptoBulk d + 1
  | .map entries => uptoBulkEntries entries + 1
  | .held _ => 1
def uptoBulkAll {H : Type} : List (DataW H) → Nat
  | [] => 0
  | d :: r => uptoBulk d + uptoBulkAll r
def uptoBulkEntries {H : Type} : List (Lit × DataW H) → Nat
  | [] => 0
  | x :: r => uptoBulkEntry x + uptoBulkEntries r
def uptoBulkEntry {H : Type} : Lit × DataW H → Nat
  | (.string bytes, d) => bytes.length + uptoBulk d + 1
  | (_, d) => uptoBulk d + 1
 end
def uptoSmall : (H : Type) → List (DataW H) → Bool := fun _ ds => decide (uptoBulkAll ds ≤ 1048576)
def OpenSpec.upto (s : _root_.Go.ChangeSpec) : _root_.Go.OpenSpec := { _root_.Go.OpenSpec.ofChange s with cond := some uptoSmall }

/-- 'dowserlaw02.CrcIs', WHERE WHAT IT READS IS OF BULK AT MOST 1048576: true; the input reads as it did. -/
def crcIsUptoRow : OpenClaim := { program := "ytfkgidiedpkbdaa", sum := "9e480312f6dfed29f182a921eace65c506c05390bccd740c906f4e91a4dfe991", func := "dowser/dowserlaw02.CrcIs", spec := "crcIs", apart := false, narrowed := true }
def CrcIsUptoSaid : Prop := crcIsUptoRow.holds Try.pinned (OpenSpec.upto crcIsSpec)

/-- 'dowserlaw02.CrcTells', WHERE WHAT IT READS IS OF BULK AT MOST 1048576: true; the input reads as it did. -/
def crcTellsUptoRow : OpenClaim := { program := "ytfkgidiedpkbdaa", sum := "9e480312f6dfed29f182a921eace65c506c05390bccd740c906f4e91a4dfe991", func := "dowser/dowserlaw02.CrcTells", spec := "crcTells", apart := false, narrowed := true }
def CrcTellsUptoSaid : Prop := crcTellsUptoRow.holds Try.pinned (OpenSpec.upto crcTellsSpec)

/-- 'dowserlaw02.CrcGoesOn', WHERE WHAT IT READS IS OF BULK AT MOST 1048576: true; the input reads as it did. -/
def crcGoesOnUptoRow : OpenClaim := { program := "ytfkgidiedpkbdaa", sum := "9e480312f6dfed29f182a921eace65c506c05390bccd740c906f4e91a4dfe991", func := "dowser/dowserlaw02.CrcGoesOn", spec := "crcGoesOn", apart := false, narrowed := true }
def CrcGoesOnUptoSaid : Prop := crcGoesOnUptoRow.holds Try.pinned (OpenSpec.upto crcGoesOnSpec)

/-- 'dowserlaw17.ForestOrder', WHERE WHAT IT READS IS OF BULK AT MOST 1048576: true; the input reads as it did. -/
def forestOrderUptoRow : OpenClaim := { program := "ytfkgidiedpkbdaa", sum := "9e480312f6dfed29f182a921eace65c506c05390bccd740c906f4e91a4dfe991", func := "dowser/dowserlaw17.ForestOrder", spec := "forestOrder", apart := false, narrowed := true }
def ForestOrderUptoSaid : Prop := forestOrderUptoRow.holds Try.pinned (OpenSpec.upto forestOrderSpec)

/-- 'dowserlaw01.VarintNums', WHERE WHAT IT READS IS OF BULK AT MOST 1048576: true; the input reads as it did. -/
def varintNumsUptoRow : OpenClaim := { program := "ytfkgidiedpkbdaa", sum := "9e480312f6dfed29f182a921eace65c506c05390bccd740c906f4e91a4dfe991", func := "dowser/dowserlaw01.VarintNums", spec := "varintNums", apart := false, narrowed := true }
def VarintNumsUptoSaid : Prop := varintNumsUptoRow.holds Try.pinned (OpenSpec.upto varintNumsSpec)

/-- 'dowserlaw17.ForestPlays', WHERE WHAT IT READS IS OF BULK AT MOST 1048576: true; the input reads as it did. -/
def forestPlaysUptoRow : OpenClaim := { program := "ytfkgidiedpkbdaa", sum := "9e480312f6dfed29f182a921eace65c506c05390bccd740c906f4e91a4dfe991", func := "dowser/dowserlaw17.ForestPlays", spec := "forestPlays", apart := false, narrowed := true }
def ForestPlaysUptoSaid : Prop := forestPlaysUptoRow.holds Try.pinned (OpenSpec.upto forestPlaysSpec)

/-- 'dowserlaw17.ForestLeads', WHERE WHAT IT READS IS OF BULK AT MOST 1048576: true; the input reads as it did. -/
def forestLeadsUptoRow : OpenClaim := { program := "ytfkgidiedpkbdaa", sum := "9e480312f6dfed29f182a921eace65c506c05390bccd740c906f4e91a4dfe991", func := "dowser/dowserlaw17.ForestLeads", spec := "forestLeads", apart := false, narrowed := true }
def ForestLeadsUptoSaid : Prop := forestLeadsUptoRow.holds Try.pinned (OpenSpec.upto forestLeadsSpec)

/-- 'dowserlaw17.ForestRing', WHERE WHAT IT READS IS OF BULK AT MOST 1048576: true; the input reads as it did. -/
def forestRingUptoRow : OpenClaim := { program := "ytfkgidiedpkbdaa", sum := "9e480312f6dfed29f182a921eace65c506c05390bccd740c906f4e91a4dfe991", func := "dowser/dowserlaw17.ForestRing", spec := "forestRing", apart := false, narrowed := true }
def ForestRingUptoSaid : Prop := forestRingUptoRow.holds Try.pinned (OpenSpec.upto forestRingSpec)

/-- 'dowserlaw01.VarintTexts', WHERE WHAT IT READS IS OF BULK AT MOST 1048576: true; the input reads as it did. -/
def varintTextsUptoRow : OpenClaim := { program := "ytfkgidiedpkbdaa", sum := "9e480312f6dfed29f182a921eace65c506c05390bccd740c906f4e91a4dfe991", func := "dowser/dowserlaw01.VarintTexts", spec := "varintTexts", apart := false, narrowed := true }
def VarintTextsUptoSaid : Prop := varintTextsUptoRow.holds Try.pinned (OpenSpec.upto varintTextsSpec)

/-- 'dowserlaw01.VarintTakes', WHERE WHAT IT READS IS OF BULK AT MOST 1048576: true; the input reads as it did. -/
def varintTakesUptoRow : OpenClaim := { program := "ytfkgidiedpkbdaa", sum := "9e480312f6dfed29f182a921eace65c506c05390bccd740c906f4e91a4dfe991", func := "dowser/dowserlaw01.VarintTakes", spec := "varintTakes", apart := false, narrowed := true }
def VarintTakesUptoSaid : Prop := varintTakesUptoRow.holds Try.pinned (OpenSpec.upto varintTakesSpec)

end Rows
end Go.Proofs.Ytfkgidiedpkbdaa
