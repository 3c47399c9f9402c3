/-
  No cell of these rows narrows 'for every input' (looked for: loops, veiled, ifaces, maps, wideKeys, modest, calm, conditions, laid).
  DERIVED. THE GIVEN ROWS OF THIS SEAT. 6 by the template 'for every input the law returns true; each argument reads behind the call as it read before'; 0 by the template 'total and deterministic' (their statements: YtiikmomjggcdfaaTotals.lean).
  GIVEN WITH THE SEED: the statements are not yours to turn. If you find one false, say at which input.
  Laid BY PROGRAM, IN A SANDBOX (cutbox-rows.mjs): the forced cells as the released guide's own fill.sh prints them over the translation e4e0de68f521b2b4… (all of the seat's roots in one cut). By AI agents, Wed Nov 11 2026. No macro, syntax, notation, axiom, sorry.
-/
import Derived.Test.YtiikmomjggcdfaaChecked
import GoSem.Claim
import GoSem.ClaimJoined
import GoSem.ClaimMapViews
import Derived.JoinedTies
import Derived.KernelRfl
namespace Go.Proofs.Ytiikmomjggcdfaa
/- THE CELL 'sum', in the pinned program and in every row, IS THE sha256 OF THE DUMP (.gsa) THAT YtiikmomjggcdfaaProg.lean LOADS. Nothing in Lean hashes anything: it is a label: what it is worth is what the hold of that sum in a sandbox is worth. -/
noncomputable def Try.pinned : Pinned := { name := "ytiikmomjggcdfaa", sum := "e4e0de68f521b2b4c293d3783303ad294358ca625cc64b8881d6f7c360c1b704", checked := Try.checked }
namespace Rows
def none {H : Type} : Left H := { results := [], args := [] }

/-- 'dowserlaw03.HeatOrders': WHATEVER THE INPUT: true; the input reads as it did. -/
def heatOrdersSpec : ChangeSpec := { name := "heatOrders", fn := fun _ => fun
  | [d1, d2, d3] => { results := [.lit (.bool true)], args := [d1, d2, d3] }
  | _ => none }
def heatOrdersRow : OpenClaim := { program := "ytiikmomjggcdfaa", sum := "e4e0de68f521b2b4c293d3783303ad294358ca625cc64b8881d6f7c360c1b704", func := "dowser/dowserlaw03.HeatOrders", spec := "heatOrders", inPlace := ["math.Float64frombits", "math.Float64bits"], unfollowed := true, recurses := true, apart := false }
def HeatOrdersSaid : Prop := heatOrdersRow.holds Try.pinned (OpenSpec.ofChange heatOrdersSpec)

/-- ITS FALSE NEIGHBOUR: 'it returns false'. Refute it at one input. -/
def heatOrdersWrong : ChangeSpec := { name := "heatOrders", fn := fun _ => fun
  | [d1, d2, d3] => { results := [.lit (.bool false)], args := [d1, d2, d3] }
  | _ => none }
def HeatOrdersWrongFalsely : Prop := heatOrdersRow.holds Try.pinned (OpenSpec.ofChange heatOrdersWrong)

/-- 'dowserlaw03.HeatRanks': WHATEVER THE INPUT: true; the input reads as it did. -/
def heatRanksSpec : ChangeSpec := { name := "heatRanks", fn := fun _ => fun
  | [d] => { results := [.lit (.bool true)], args := [d] }
  | _ => none }
def heatRanksRow : OpenClaim := { program := "ytiikmomjggcdfaa", sum := "e4e0de68f521b2b4c293d3783303ad294358ca625cc64b8881d6f7c360c1b704", func := "dowser/dowserlaw03.HeatRanks", spec := "heatRanks", inPlace := ["math.Float64frombits", "math.Float64bits"], unfollowed := true, recurses := true, apart := false }
def HeatRanksSaid : Prop := heatRanksRow.holds Try.pinned (OpenSpec.ofChange heatRanksSpec)

/-- ITS FALSE NEIGHBOUR: 'it returns false'. Refute it at one input. -/
def heatRanksWrong : ChangeSpec := { name := "heatRanks", fn := fun _ => fun
  | [d] => { results := [.lit (.bool false)], args := [d] }
  | _ => none }
def HeatRanksWrongFalsely : Prop := heatRanksRow.holds Try.pinned (OpenSpec.ofChange heatRanksWrong)

/-- 'dowsertop.DowserHeats': WHATEVER THE INPUT: true; the input reads as it did. -/
def dowserHeatsSpec : ChangeSpec := { name := "dowserHeats", fn := fun _ => fun
  | [d] => { results := [.lit (.bool true)], args := [d] }
  | _ => none }
def dowserHeatsRow : OpenClaim := { program := "ytiikmomjggcdfaa", sum := "e4e0de68f521b2b4c293d3783303ad294358ca625cc64b8881d6f7c360c1b704", func := "dowser/dowsertop.DowserHeats", spec := "dowserHeats", inPlace := ["math.Float64frombits", "math.Float64bits"], unfollowed := true, recurses := true, apart := false }
def DowserHeatsSaid : Prop := dowserHeatsRow.holds Try.pinned (OpenSpec.ofChange dowserHeatsSpec)

/-- ITS FALSE NEIGHBOUR: 'it returns false'. Refute it at one input. -/
def dowserHeatsWrong : ChangeSpec := { name := "dowserHeats", fn := fun _ => fun
  | [d] => { results := [.lit (.bool false)], args := [d] }
  | _ => none }
def DowserHeatsWrongFalsely : Prop := dowserHeatsRow.holds Try.pinned (OpenSpec.ofChange dowserHeatsWrong)

/-- 'dowserlaw03.HeatSums': WHATEVER THE INPUT: true; the input reads as it did. -/
def heatSumsSpec : ChangeSpec := { name := "heatSums", fn := fun _ => fun
  | [d] => { results := [.lit (.bool true)], args := [d] }
  | _ => none }
def heatSumsRow : OpenClaim := { program := "ytiikmomjggcdfaa", sum := "e4e0de68f521b2b4c293d3783303ad294358ca625cc64b8881d6f7c360c1b704", func := "dowser/dowserlaw03.HeatSums", spec := "heatSums", inPlace := ["math.Float64frombits", "math.Float64bits"], unfollowed := true, recurses := true, apart := false }
def HeatSumsSaid : Prop := heatSumsRow.holds Try.pinned (OpenSpec.ofChange heatSumsSpec)

/-- ITS FALSE NEIGHBOUR: 'it returns false'. Refute it at one input. -/
def heatSumsWrong : ChangeSpec := { name := "heatSums", fn := fun _ => fun
  | [d] => { results := [.lit (.bool false)], args := [d] }
  | _ => none }
def HeatSumsWrongFalsely : Prop := heatSumsRow.holds Try.pinned (OpenSpec.ofChange heatSumsWrong)

/-- 'dowserlaw03.HeatKeys': WHATEVER THE INPUT: true; the input reads as it did. -/
def heatKeysSpec : ChangeSpec := { name := "heatKeys", fn := fun _ => fun
  | [d1, d2] => { results := [.lit (.bool true)], args := [d1, d2] }
  | _ => none }
def heatKeysRow : OpenClaim := { program := "ytiikmomjggcdfaa", sum := "e4e0de68f521b2b4c293d3783303ad294358ca625cc64b8881d6f7c360c1b704", func := "dowser/dowserlaw03.HeatKeys", spec := "heatKeys", inPlace := ["math.Float64frombits", "math.Float64bits"], unfollowed := true, recurses := true, apart := false }
def HeatKeysSaid : Prop := heatKeysRow.holds Try.pinned (OpenSpec.ofChange heatKeysSpec)

/-- ITS FALSE NEIGHBOUR: 'it returns false'. Refute it at one input. -/
def heatKeysWrong : ChangeSpec := { name := "heatKeys", fn := fun _ => fun
  | [d1, d2] => { results := [.lit (.bool false)], args := [d1, d2] }
  | _ => none }
def HeatKeysWrongFalsely : Prop := heatKeysRow.holds Try.pinned (OpenSpec.ofChange heatKeysWrong)

/-- 'dowserlaw03.HeatAdds': WHATEVER THE INPUT: true; the input reads as it did. -/
def heatAddsSpec : ChangeSpec := { name := "heatAdds", fn := fun _ => fun
  | [d1, d2] => { results := [.lit (.bool true)], args := [d1, d2] }
  | _ => none }
def heatAddsRow : OpenClaim := { program := "ytiikmomjggcdfaa", sum := "e4e0de68f521b2b4c293d3783303ad294358ca625cc64b8881d6f7c360c1b704", func := "dowser/dowserlaw03.HeatAdds", spec := "heatAdds", inPlace := ["math.Float64frombits", "math.Float64bits"], unfollowed := true, recurses := true, apart := false }
def HeatAddsSaid : Prop := heatAddsRow.holds Try.pinned (OpenSpec.ofChange heatAddsSpec)

/-- ITS FALSE NEIGHBOUR: 'it returns false'. Refute it at one input. -/
def heatAddsWrong : ChangeSpec := { name := "heatAdds", fn := fun _ => fun
  | [d1, d2] => { results := [.lit (.bool false)], args := [d1, d2] }
  | _ => none }
def HeatAddsWrongFalsely : Prop := heatAddsRow.holds Try.pinned (OpenSpec.ofChange heatAddsWrong)

/- THE SECOND FORM. 'bulk': how many values and letters a reading holds, each counted each time it is reached (what is shared counts as often as it is met; a slice's spare places count too). A statement '..UptoSaid' is the law's where the arguments, and the package variables that the reading takes, are together of bulk at most 1048576: NARROWER than '..Said'. Prove '..Said' where nothing that the law and all that it calls make is longer than what came in: it says more and counts as full. Else prove '..UptoSaid'. A law counts once. -/
mutual
def uptoBulk {H : Type} : DataW H → Nat
  | .lit (.string bytes) => bytes.length + 1
  | .lit _ => 1
  | .nil => 1
  | .ptr d => uptoBulk d + 1
  | .slice elems spare => uptoBulkAll elems + uptoBulkAll spare + 1
  | .agg parts => uptoBulkAll parts + 1
  | .iface _ d => uptoBulk d + 1
  | .map entries => uptoBulkEntries entries + 1
  | .held _ => 1
def uptoBulkAll {H : Type} : List (DataW H) → Nat
  | [] => 0
  | d :: r => uptoBulk d + uptoBulkAll r
def uptoBulkEntries {H : Type} : List (Lit × DataW H) → Nat
  | [] => 0
  | x :: r => uptoBulkEntry x + uptoBulkEntries r
def uptoBulkEntry {H : Type} : Lit × DataW H → Nat
  | (.string bytes, d) => bytes.length + uptoBulk d + 1
  | (_, d) => uptoBulk d + 1
 end
def uptoSmall : (H : Type) → List (DataW H) → Bool := fun _ ds => decide (uptoBulkAll ds ≤ 1048576)
def OpenSpec.upto (s : _root_.Go.ChangeSpec) : _root_.Go.OpenSpec := { _root_.Go.OpenSpec.ofChange s with cond := some uptoSmall }

/-- 'dowserlaw03.HeatOrders', WHERE WHAT IT READS IS OF BULK AT MOST 1048576: true; the input reads as it did. -/
def heatOrdersUptoRow : OpenClaim := { program := "ytiikmomjggcdfaa", sum := "e4e0de68f521b2b4c293d3783303ad294358ca625cc64b8881d6f7c360c1b704", func := "dowser/dowserlaw03.HeatOrders", spec := "heatOrders", inPlace := ["math.Float64frombits", "math.Float64bits"], unfollowed := true, recurses := true, apart := false, narrowed := true }
def HeatOrdersUptoSaid : Prop := heatOrdersUptoRow.holds Try.pinned (OpenSpec.upto heatOrdersSpec)

/-- 'dowserlaw03.HeatRanks', WHERE WHAT IT READS IS OF BULK AT MOST 1048576: true; the input reads as it did. -/
def heatRanksUptoRow : OpenClaim := { program := "ytiikmomjggcdfaa", sum := "e4e0de68f521b2b4c293d3783303ad294358ca625cc64b8881d6f7c360c1b704", func := "dowser/dowserlaw03.HeatRanks", spec := "heatRanks", inPlace := ["math.Float64frombits", "math.Float64bits"], unfollowed := true, recurses := true, apart := false, narrowed := true }
def HeatRanksUptoSaid : Prop := heatRanksUptoRow.holds Try.pinned (OpenSpec.upto heatRanksSpec)

/-- 'dowsertop.DowserHeats', WHERE WHAT IT READS IS OF BULK AT MOST 1048576: true; the input reads as it did. -/
def dowserHeatsUptoRow : OpenClaim := { program := "ytiikmomjggcdfaa", sum := "e4e0de68f521b2b4c293d3783303ad294358ca625cc64b8881d6f7c360c1b704", func := "dowser/dowsertop.DowserHeats", spec := "dowserHeats", inPlace := ["math.Float64frombits", "math.Float64bits"], unfollowed := true, recurses := true, apart := false, narrowed := true }
def DowserHeatsUptoSaid : Prop := dowserHeatsUptoRow.holds Try.pinned (OpenSpec.upto dowserHeatsSpec)

/-- 'dowserlaw03.HeatSums', WHERE WHAT IT READS IS OF BULK AT MOST 1048576: true; the input reads as it did. -/
def heatSumsUptoRow : OpenClaim := { program := "ytiikmomjggcdfaa", sum := "e4e0de68f521b2b4c293d3783303ad294358ca625cc64b8881d6f7c360c1b704", func := "dowser/dowserlaw03.HeatSums", spec := "heatSums", inPlace := ["math.Float64frombits", "math.Float64bits"], unfollowed := true, recurses := true, apart := false, narrowed := true }
def HeatSumsUptoSaid : Prop := heatSumsUptoRow.holds Try.pinned (OpenSpec.upto heatSumsSpec)

/-- 'dowserlaw03.HeatKeys', WHERE WHAT IT READS IS OF BULK AT MOST 1048576: true; the input reads as it did. -/
def heatKeysUptoRow : OpenClaim := { program := "ytiikmomjggcdfaa", sum := "e4e0de68f521b2b4c293d3783303ad294358ca625cc64b8881d6f7c360c1b704", func := "dowser/dowserlaw03.HeatKeys", spec := "heatKeys", inPlace := ["math.Float64frombits", "math.Float64bits"], unfollowed := true, recurses := true, apart := false, narrowed := true }
def HeatKeysUptoSaid : Prop := heatKeysUptoRow.holds Try.pinned (OpenSpec.upto heatKeysSpec)

/-- 'dowserlaw03.HeatAdds', WHERE WHAT IT READS IS OF BULK AT MOST 1048576: true; the input reads as it did. -/
def heatAddsUptoRow : OpenClaim := { program := "ytiikmomjggcdfaa", sum := "e4e0de68f521b2b4c293d3783303ad294358ca625cc64b8881d6f7c360c1b704", func := "dowser/dowserlaw03.HeatAdds", spec := "heatAdds", inPlace := ["math.Float64frombits", "math.Float64bits"], unfollowed := true, recurses := true, apart := false, narrowed := true }
def HeatAddsUptoSaid : Prop := heatAddsUptoRow.holds Try.pinned (OpenSpec.upto heatAddsSpec)

end Rows
end Go.Proofs.Ytiikmomjggcdfaa
