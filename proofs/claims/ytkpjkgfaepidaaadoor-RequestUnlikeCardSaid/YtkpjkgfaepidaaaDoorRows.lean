/-
  NARROWER THAN 'FOR EVERY INPUT', by the rows' own cells (each row's printed sentence says how): RequestUnlike: laid · RequestParses: laid · RequestAnswers: laid · RequestReads: laid.
  DERIVED. THE GIVEN ROWS OF THIS SEAT. 4 by the template 'for every input the law returns true; each argument reads behind the call as it read before'; 0 by the template 'total and deterministic' (their statements: YtkpjkgfaepidaaaDoorTotals.lean).
  GIVEN WITH THE SEED: the statements are not yours to turn. If you find one false, say at which input.
  Laid BY PROGRAM, IN A SANDBOX (cutbox-rows.mjs): the forced cells as the released guide's own fill.sh prints them over the translation a4ecd3a68f27eb10… (all of the seat's roots in one cut). By AI agents, Wed Nov 11 2026. No macro, syntax, notation, axiom, sorry.
-/
import Derived.Test.YtkpjkgfaepidaaaDoorChecked
import GoSem.Claim
import GoSem.ClaimJoined
import GoSem.ClaimMapViews
import Derived.JoinedTies
import Derived.KernelRfl
namespace Go.Proofs.YtkpjkgfaepidaaaDoor
/- THE CELL 'sum', in the pinned program and in every row, IS THE sha256 OF THE DUMP (.gsa) THAT YtkpjkgfaepidaaaDoorProg.lean LOADS. Nothing in Lean hashes anything: it is a label: what it is worth is what the hold of that sum in a sandbox is worth. -/
noncomputable def Tryd.pinned : Pinned := { name := "ytkpjkgfaepidaaadoor", sum := "a4ecd3a68f27eb10e54c9ebebdd71113735df4d979b4cbb71dbf17bd0915b60a", checked := Tryd.checked }
namespace Rows
def none {H : Type} : Left H := { results := [], args := [] }

/- WHAT THE LISTED PACKAGE-LEVEL VARIABLES READ AS WHEN THE CALL BEGINS. Each datum BY PROGRAM (the guide's laid-datum.mjs) off the statement by which the dump's own 'gosem.cut.vars' lays the variable. In a bare row this is a premise. The card (YtkpjkgfaepidaaaDoorCards.lean) ties it to the program's text. -/
def laid_dowser_request_counts {H : Type} : DataW H := .agg [.lit (.int .i64 0), .lit (.int .i64 0), .lit (.int .i64 1), .lit (.int .i64 0), .lit (.int .i64 0), .lit (.int .i64 2), .lit (.int .i64 3), .lit (.int .i64 3), .lit (.int .i64 2), .lit (.int .i64 2), .lit (.int .i64 2), .lit (.int .i64 2), .lit (.int .i64 2), .lit (.int .i64 1), .lit (.int .i64 1), .lit (.int .i64 2), .lit (.int .i64 1)]

/-- 'dowserlaw28.RequestUnlike': WHATEVER THE INPUT: true; the input reads as it did. -/
def requestUnlikeSpec : ChangeSpec := { name := "requestUnlike", fn := fun _ => fun
  | [d1, d2] => { results := [.lit (.bool true)], args := [d1, d2] }
  | _ => none }
def requestUnlikeRow : OpenClaim := { program := "ytkpjkgfaepidaaadoor", sum := "a4ecd3a68f27eb10e54c9ebebdd71113735df4d979b4cbb71dbf17bd0915b60a", func := "dowser/dowserlaw28.RequestUnlike", spec := "requestUnlike", inPlace := ["internal/abi.NoEscape"], unfollowed := true, recurses := true, named := ["dowser/request.counts"], apart := false, laid := [("dowser/request.counts", laid_dowser_request_counts)] }
def RequestUnlikeSaid : Prop := requestUnlikeRow.holds Tryd.pinned (OpenSpec.ofChange requestUnlikeSpec)

/-- ITS FALSE NEIGHBOUR: 'it returns false'. Refute it at one input. -/
def requestUnlikeWrong : ChangeSpec := { name := "requestUnlike", fn := fun _ => fun
  | [d1, d2] => { results := [.lit (.bool false)], args := [d1, d2] }
  | _ => none }
def RequestUnlikeWrongFalsely : Prop := requestUnlikeRow.holds Tryd.pinned (OpenSpec.ofChange requestUnlikeWrong)

/-- 'dowserlaw28.RequestParses': WHATEVER THE INPUT: true; the input reads as it did. -/
def requestParsesSpec : ChangeSpec := { name := "requestParses", fn := fun _ => fun
  | [d] => { results := [.lit (.bool true)], args := [d] }
  | _ => none }
def requestParsesRow : OpenClaim := { program := "ytkpjkgfaepidaaadoor", sum := "a4ecd3a68f27eb10e54c9ebebdd71113735df4d979b4cbb71dbf17bd0915b60a", func := "dowser/dowserlaw28.RequestParses", spec := "requestParses", inPlace := ["internal/abi.NoEscape"], unfollowed := true, recurses := true, named := ["dowser/request.counts"], apart := false, laid := [("dowser/request.counts", laid_dowser_request_counts)] }
def RequestParsesSaid : Prop := requestParsesRow.holds Tryd.pinned (OpenSpec.ofChange requestParsesSpec)

/-- ITS FALSE NEIGHBOUR: 'it returns false'. Refute it at one input. -/
def requestParsesWrong : ChangeSpec := { name := "requestParses", fn := fun _ => fun
  | [d] => { results := [.lit (.bool false)], args := [d] }
  | _ => none }
def RequestParsesWrongFalsely : Prop := requestParsesRow.holds Tryd.pinned (OpenSpec.ofChange requestParsesWrong)

/-- 'dowserlaw28.RequestAnswers': WHATEVER THE INPUT: true; the input reads as it did. -/
def requestAnswersSpec : ChangeSpec := { name := "requestAnswers", fn := fun _ => fun
  | [d] => { results := [.lit (.bool true)], args := [d] }
  | _ => none }
def requestAnswersRow : OpenClaim := { program := "ytkpjkgfaepidaaadoor", sum := "a4ecd3a68f27eb10e54c9ebebdd71113735df4d979b4cbb71dbf17bd0915b60a", func := "dowser/dowserlaw28.RequestAnswers", spec := "requestAnswers", inPlace := ["internal/abi.NoEscape"], unfollowed := true, recurses := true, named := ["dowser/request.counts"], apart := false, laid := [("dowser/request.counts", laid_dowser_request_counts)] }
def RequestAnswersSaid : Prop := requestAnswersRow.holds Tryd.pinned (OpenSpec.ofChange requestAnswersSpec)

/-- ITS FALSE NEIGHBOUR: 'it returns false'. Refute it at one input. -/
def requestAnswersWrong : ChangeSpec := { name := "requestAnswers", fn := fun _ => fun
  | [d] => { results := [.lit (.bool false)], args := [d] }
  | _ => none }
def RequestAnswersWrongFalsely : Prop := requestAnswersRow.holds Tryd.pinned (OpenSpec.ofChange requestAnswersWrong)

/-- 'dowserlaw28.RequestReads': WHATEVER THE INPUT: true; the input reads as it did. -/
def requestReadsSpec : ChangeSpec := { name := "requestReads", fn := fun _ => fun
  | [d] => { results := [.lit (.bool true)], args := [d] }
  | _ => none }
def requestReadsRow : OpenClaim := { program := "ytkpjkgfaepidaaadoor", sum := "a4ecd3a68f27eb10e54c9ebebdd71113735df4d979b4cbb71dbf17bd0915b60a", func := "dowser/dowserlaw28.RequestReads", spec := "requestReads", inPlace := ["internal/abi.NoEscape"], unfollowed := true, recurses := true, named := ["dowser/request.counts"], apart := false, laid := [("dowser/request.counts", laid_dowser_request_counts)] }
def RequestReadsSaid : Prop := requestReadsRow.holds Tryd.pinned (OpenSpec.ofChange requestReadsSpec)

/-- ITS FALSE NEIGHBOUR: 'it returns false'. Refute it at one input. -/
def requestReadsWrong : ChangeSpec := { name := "requestReads", fn := fun _ => fun
  | [d] => { results := [.lit (.bool false)], args := [d] }
  | _ => none }
def RequestReadsWrongFalsely : Prop := requestReadsRow.holds Tryd.pinned (OpenSpec.ofChange requestReadsWrong)

/- THE SECOND FORM. 'bulk': how many values and letters a reading holds, each counted each time it is reached (what is shared counts as often as it is met; a slice's spare places count too). A statement '..UptoSaid' is the law's where the arguments, and the package variables that the reading takes, are together of bulk at most 1048576: NARROWER than '..Said'. Prove '..Said' where nothing that the law and all that it calls make is longer than what came in: it says more and counts as full. Else prove '..UptoSaid'. A law counts once. -/
mutual
def uptoBulk {H : Type} : DataW H → Nat
  | .lit (.string bytes) => bytes.length + 1
  | .lit _ => 1
  | .nil => 1
  | .ptr d => uptoBulk d + 1
  | .slice elems spare => uptoBulkAll elems + uptoBulkAll spare + 1
  | .agg parts => uptoBulkAll parts + 1
  | .iface _ d => uptoBulk d + 1
  | .map entries => uptoBulkEntries entries + 1
  | .held _ => 1
def uptoBulkAll {H : Type} : List (DataW H) → Nat
  | [] => 0
  | d :: r => uptoBulk d + uptoBulkAll r
def uptoBulkEntries {H : Type} : List (Lit × DataW H) → Nat
  | [] => 0
  | x :: r => uptoBulkEntry x + uptoBulkEntries r
def uptoBulkEntry {H : Type} : Lit × DataW H → Nat
  | (.string bytes, d) => bytes.length + uptoBulk d + 1
  | (_, d) => uptoBulk d + 1
 end
def uptoSmall : (H : Type) → List (DataW H) → Bool := fun _ ds => decide (uptoBulkAll ds ≤ 1048576)
def OpenSpec.upto (s : _root_.Go.ChangeSpec) : _root_.Go.OpenSpec := { _root_.Go.OpenSpec.ofChange s with cond := some uptoSmall }

/-- 'dowserlaw28.RequestUnlike', WHERE WHAT IT READS IS OF BULK AT MOST 1048576: true; the input reads as it did. -/
def requestUnlikeUptoRow : OpenClaim := { program := "ytkpjkgfaepidaaadoor", sum := "a4ecd3a68f27eb10e54c9ebebdd71113735df4d979b4cbb71dbf17bd0915b60a", func := "dowser/dowserlaw28.RequestUnlike", spec := "requestUnlike", inPlace := ["internal/abi.NoEscape"], unfollowed := true, recurses := true, named := ["dowser/request.counts"], apart := false, laid := [("dowser/request.counts", laid_dowser_request_counts)], narrowed := true }
def RequestUnlikeUptoSaid : Prop := requestUnlikeUptoRow.holds Tryd.pinned (OpenSpec.upto requestUnlikeSpec)

/-- 'dowserlaw28.RequestParses', WHERE WHAT IT READS IS OF BULK AT MOST 1048576: true; the input reads as it did. -/
def requestParsesUptoRow : OpenClaim := { program := "ytkpjkgfaepidaaadoor", sum := "a4ecd3a68f27eb10e54c9ebebdd71113735df4d979b4cbb71dbf17bd0915b60a", func := "dowser/dowserlaw28.RequestParses", spec := "requestParses", inPlace := ["internal/abi.NoEscape"], unfollowed := true, recurses := true, named := ["dowser/request.counts"], apart := false, laid := [("dowser/request.counts", laid_dowser_request_counts)], narrowed := true }
def RequestParsesUptoSaid : Prop := requestParsesUptoRow.holds Tryd.pinned (OpenSpec.upto requestParsesSpec)

/-- 'dowserlaw28.RequestAnswers', WHERE WHAT IT READS IS OF BULK AT MOST 1048576: true; the input reads as it did. -/
def requestAnswersUptoRow : OpenClaim := { program := "ytkpjkgfaepidaaadoor", sum := "a4ecd3a68f27eb10e54c9ebebdd71113735df4d979b4cbb71dbf17bd0915b60a", func := "dowser/dowserlaw28.RequestAnswers", spec := "requestAnswers", inPlace := ["internal/abi.NoEscape"], unfollowed := true, recurses := true, named := ["dowser/request.counts"], apart := false, laid := [("dowser/request.counts", laid_dowser_request_counts)], narrowed := true }
def RequestAnswersUptoSaid : Prop := requestAnswersUptoRow.holds Tryd.pinned (OpenSpec.upto requestAnswersSpec)

/-- 'dowserlaw28.RequestReads', WHERE WHAT IT READS IS OF BULK AT MOST 1048576: true; the input reads as it did. -/
def requestReadsUptoRow : OpenClaim := { program := "ytkpjkgfaepidaaadoor", sum := "a4ecd3a68f27eb10e54c9ebebdd71113735df4d979b4cbb71dbf17bd0915b60a", func := "dowser/dowserlaw28.RequestReads", spec := "requestReads", inPlace := ["internal/abi.NoEscape"], unfollowed := true, recurses := true, named := ["dowser/request.counts"], apart := false, laid := [("dowser/request.counts", laid_dowser_request_counts)], narrowed := true }
def RequestReadsUptoSaid : Prop := requestReadsUptoRow.holds Tryd.pinned (OpenSpec.upto requestReadsSpec)

end Rows
end Go.Proofs.YtkpjkgfaepidaaaDoor
