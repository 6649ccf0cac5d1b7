/-
  No cell of these rows narrows 'for every input' (looked for: loops, veiled, ifaces, maps, wideKeys, modest, calm, conditions, laid).
  DERIVED. THE GIVEN ROWS OF THIS SEAT. 10 by the template 'for every input the law returns true; each argument reads behind the call as it read before'; 0 by the template 'total and deterministic' (their statements: YtddjkclabfmakaaTotals.lean).
  GIVEN WITH THE SEED: the statements are not yours to turn. If you find one false, say at which input.
  Laid BY PROGRAM, IN A SANDBOX (cutbox-rows.mjs): the forced cells as the released guide's own fill.sh prints them over the translation 9821faa8854fea3e… (all of the seat's roots in one cut). By AI agents, Wed Nov 11 2026. No macro, syntax, notation, axiom, sorry.
-/
import Derived.Test.YtddjkclabfmakaaChecked
import GoSem.Claim
import GoSem.ClaimJoined
import GoSem.ClaimMapViews
import Derived.JoinedTies
import Derived.KernelRfl
namespace Go.Proofs.Ytddjkclabfmakaa
/- THE CELL 'sum', in the pinned program and in every row, IS THE sha256 OF THE DUMP (.gsa) THAT YtddjkclabfmakaaProg.lean LOADS. Nothing in Lean hashes anything: it is a label: what it is worth is what the hold of that sum in a sandbox is worth. -/
noncomputable def Try.pinned : Pinned := { name := "ytddjkclabfmakaa", sum := "9821faa8854fea3eded96306c45f13a2d09e2749daa1130d032a14fa586c739e", checked := Try.checked }
namespace Rows
def none {H : Type} : Left H := { results := [], args := [] }

/-- 'laws.FnExactRunOfWord': WHATEVER THE INPUT: true; the input reads as it did. -/
def fnExactRunOfWordSpec : ChangeSpec := { name := "fnExactRunOfWord", fn := fun _ => fun
  | [d1, d2] => { results := [.lit (.bool true)], args := [d1, d2] }
  | _ => none }
def fnExactRunOfWordRow : OpenClaim := { program := "ytddjkclabfmakaa", sum := "9821faa8854fea3eded96306c45f13a2d09e2749daa1130d032a14fa586c739e", func := "loop.example/g01145/laws.FnExactRunOfWord", spec := "fnExactRunOfWord", inPlace := ["internal/bytealg.IndexByteString"], unfollowed := true, recurses := true, plainKeys := false, apart := false }
def FnExactRunOfWordSaid : Prop := fnExactRunOfWordRow.holds Try.pinned (OpenSpec.ofChange fnExactRunOfWordSpec)

/-- ITS FALSE NEIGHBOUR: 'it returns false'. Refute it at one input. -/
def fnExactRunOfWordWrong : ChangeSpec := { name := "fnExactRunOfWord", fn := fun _ => fun
  | [d1, d2] => { results := [.lit (.bool false)], args := [d1, d2] }
  | _ => none }
def FnExactRunOfWordWrongFalsely : Prop := fnExactRunOfWordRow.holds Try.pinned (OpenSpec.ofChange fnExactRunOfWordWrong)

/-- 'laws.FnExactFirstOfModule': WHATEVER THE INPUT: true; the input reads as it did. -/
def fnExactFirstOfModuleSpec : ChangeSpec := { name := "fnExactFirstOfModule", fn := fun _ => fun
  | [d1, d2] => { results := [.lit (.bool true)], args := [d1, d2] }
  | _ => none }
def fnExactFirstOfModuleRow : OpenClaim := { program := "ytddjkclabfmakaa", sum := "9821faa8854fea3eded96306c45f13a2d09e2749daa1130d032a14fa586c739e", func := "loop.example/g01145/laws.FnExactFirstOfModule", spec := "fnExactFirstOfModule", inPlace := ["internal/bytealg.IndexByteString"], unfollowed := true, recurses := true, plainKeys := false, apart := false }
def FnExactFirstOfModuleSaid : Prop := fnExactFirstOfModuleRow.holds Try.pinned (OpenSpec.ofChange fnExactFirstOfModuleSpec)

/-- ITS FALSE NEIGHBOUR: 'it returns false'. Refute it at one input. -/
def fnExactFirstOfModuleWrong : ChangeSpec := { name := "fnExactFirstOfModule", fn := fun _ => fun
  | [d1, d2] => { results := [.lit (.bool false)], args := [d1, d2] }
  | _ => none }
def FnExactFirstOfModuleWrongFalsely : Prop := fnExactFirstOfModuleRow.holds Try.pinned (OpenSpec.ofChange fnExactFirstOfModuleWrong)

/-- 'laws.FnExactSummaryOf': WHATEVER THE INPUT: true; the input reads as it did. -/
def fnExactSummaryOfSpec : ChangeSpec := { name := "fnExactSummaryOf", fn := fun _ => fun
  | [d1, d2] => { results := [.lit (.bool true)], args := [d1, d2] }
  | _ => none }
def fnExactSummaryOfRow : OpenClaim := { program := "ytddjkclabfmakaa", sum := "9821faa8854fea3eded96306c45f13a2d09e2749daa1130d032a14fa586c739e", func := "loop.example/g01145/laws.FnExactSummaryOf", spec := "fnExactSummaryOf", inPlace := ["internal/bytealg.IndexByteString"], unfollowed := true, recurses := true, plainKeys := false, apart := false }
def FnExactSummaryOfSaid : Prop := fnExactSummaryOfRow.holds Try.pinned (OpenSpec.ofChange fnExactSummaryOfSpec)

/-- ITS FALSE NEIGHBOUR: 'it returns false'. Refute it at one input. -/
def fnExactSummaryOfWrong : ChangeSpec := { name := "fnExactSummaryOf", fn := fun _ => fun
  | [d1, d2] => { results := [.lit (.bool false)], args := [d1, d2] }
  | _ => none }
def FnExactSummaryOfWrongFalsely : Prop := fnExactSummaryOfRow.holds Try.pinned (OpenSpec.ofChange fnExactSummaryOfWrong)

/-- 'laws.FnWatched': WHATEVER THE INPUT: true; the input reads as it did. -/
def fnWatchedSpec : ChangeSpec := { name := "fnWatched", fn := fun _ => fun
  | [d1, d2] => { results := [.lit (.bool true)], args := [d1, d2] }
  | _ => none }
def fnWatchedRow : OpenClaim := { program := "ytddjkclabfmakaa", sum := "9821faa8854fea3eded96306c45f13a2d09e2749daa1130d032a14fa586c739e", func := "loop.example/g01145/laws.FnWatched", spec := "fnWatched", inPlace := ["internal/bytealg.IndexByteString", "internal/bytealg.IndexString"], unfollowed := true, recurses := true, named := ["internal/bytealg.MaxLen"], plainKeys := false, apart := false }
def FnWatchedSaid : Prop := fnWatchedRow.holds Try.pinned (OpenSpec.ofChange fnWatchedSpec)

/-- ITS FALSE NEIGHBOUR: 'it returns false'. Refute it at one input. -/
def fnWatchedWrong : ChangeSpec := { name := "fnWatched", fn := fun _ => fun
  | [d1, d2] => { results := [.lit (.bool false)], args := [d1, d2] }
  | _ => none }
def FnWatchedWrongFalsely : Prop := fnWatchedRow.holds Try.pinned (OpenSpec.ofChange fnWatchedWrong)

/-- 'laws.FnExactIsEmpty': WHATEVER THE INPUT: true; the input reads as it did. -/
def fnExactIsEmptySpec : ChangeSpec := { name := "fnExactIsEmpty", fn := fun _ => fun
  | [d] => { results := [.lit (.bool true)], args := [d] }
  | _ => none }
def fnExactIsEmptyRow : OpenClaim := { program := "ytddjkclabfmakaa", sum := "9821faa8854fea3eded96306c45f13a2d09e2749daa1130d032a14fa586c739e", func := "loop.example/g01145/laws.FnExactIsEmpty", spec := "fnExactIsEmpty", unfollowed := true, recurses := true, plainKeys := false, apart := false }
def FnExactIsEmptySaid : Prop := fnExactIsEmptyRow.holds Try.pinned (OpenSpec.ofChange fnExactIsEmptySpec)

/-- ITS FALSE NEIGHBOUR: 'it returns false'. Refute it at one input. -/
def fnExactIsEmptyWrong : ChangeSpec := { name := "fnExactIsEmpty", fn := fun _ => fun
  | [d] => { results := [.lit (.bool false)], args := [d] }
  | _ => none }
def FnExactIsEmptyWrongFalsely : Prop := fnExactIsEmptyRow.holds Try.pinned (OpenSpec.ofChange fnExactIsEmptyWrong)

/-- 'laws.FnExactReachedBy': WHATEVER THE INPUT: true; the input reads as it did. -/
def fnExactReachedBySpec : ChangeSpec := { name := "fnExactReachedBy", fn := fun _ => fun
  | [d] => { results := [.lit (.bool true)], args := [d] }
  | _ => none }
def fnExactReachedByRow : OpenClaim := { program := "ytddjkclabfmakaa", sum := "9821faa8854fea3eded96306c45f13a2d09e2749daa1130d032a14fa586c739e", func := "loop.example/g01145/laws.FnExactReachedBy", spec := "fnExactReachedBy", unfollowed := true, recurses := true, plainKeys := false, apart := false }
def FnExactReachedBySaid : Prop := fnExactReachedByRow.holds Try.pinned (OpenSpec.ofChange fnExactReachedBySpec)

/-- ITS FALSE NEIGHBOUR: 'it returns false'. Refute it at one input. -/
def fnExactReachedByWrong : ChangeSpec := { name := "fnExactReachedBy", fn := fun _ => fun
  | [d] => { results := [.lit (.bool false)], args := [d] }
  | _ => none }
def FnExactReachedByWrongFalsely : Prop := fnExactReachedByRow.holds Try.pinned (OpenSpec.ofChange fnExactReachedByWrong)

/-- 'laws.FnExactMatchedBetween': WHATEVER THE INPUT: true; the input reads as it did. -/
def fnExactMatchedBetweenSpec : ChangeSpec := { name := "fnExactMatchedBetween", fn := fun _ => fun
  | [d1, d2, d3] => { results := [.lit (.bool true)], args := [d1, d2, d3] }
  | _ => none }
def fnExactMatchedBetweenRow : OpenClaim := { program := "ytddjkclabfmakaa", sum := "9821faa8854fea3eded96306c45f13a2d09e2749daa1130d032a14fa586c739e", func := "loop.example/g01145/laws.FnExactMatchedBetween", spec := "fnExactMatchedBetween", inPlace := ["internal/bytealg.IndexByteString"], unfollowed := true, recurses := true, plainKeys := false, apart := false }
def FnExactMatchedBetweenSaid : Prop := fnExactMatchedBetweenRow.holds Try.pinned (OpenSpec.ofChange fnExactMatchedBetweenSpec)

/-- ITS FALSE NEIGHBOUR: 'it returns false'. Refute it at one input. -/
def fnExactMatchedBetweenWrong : ChangeSpec := { name := "fnExactMatchedBetween", fn := fun _ => fun
  | [d1, d2, d3] => { results := [.lit (.bool false)], args := [d1, d2, d3] }
  | _ => none }
def FnExactMatchedBetweenWrongFalsely : Prop := fnExactMatchedBetweenRow.holds Try.pinned (OpenSpec.ofChange fnExactMatchedBetweenWrong)

/-- 'laws.FnExactFirstTo': WHATEVER THE INPUT: true; the input reads as it did. -/
def fnExactFirstToSpec : ChangeSpec := { name := "fnExactFirstTo", fn := fun _ => fun
  | [d1, d2, d3] => { results := [.lit (.bool true)], args := [d1, d2, d3] }
  | _ => none }
def fnExactFirstToRow : OpenClaim := { program := "ytddjkclabfmakaa", sum := "9821faa8854fea3eded96306c45f13a2d09e2749daa1130d032a14fa586c739e", func := "loop.example/g01145/laws.FnExactFirstTo", spec := "fnExactFirstTo", inPlace := ["internal/bytealg.IndexByteString"], unfollowed := true, recurses := true, plainKeys := false, apart := false }
def FnExactFirstToSaid : Prop := fnExactFirstToRow.holds Try.pinned (OpenSpec.ofChange fnExactFirstToSpec)

/-- ITS FALSE NEIGHBOUR: 'it returns false'. Refute it at one input. -/
def fnExactFirstToWrong : ChangeSpec := { name := "fnExactFirstTo", fn := fun _ => fun
  | [d1, d2, d3] => { results := [.lit (.bool false)], args := [d1, d2, d3] }
  | _ => none }
def FnExactFirstToWrongFalsely : Prop := fnExactFirstToRow.holds Try.pinned (OpenSpec.ofChange fnExactFirstToWrong)

/-- 'laws.FnExactAreEqual': WHATEVER THE INPUT: true; the input reads as it did. -/
def fnExactAreEqualSpec : ChangeSpec := { name := "fnExactAreEqual", fn := fun _ => fun
  | [d1, d2] => { results := [.lit (.bool true)], args := [d1, d2] }
  | _ => none }
def fnExactAreEqualRow : OpenClaim := { program := "ytddjkclabfmakaa", sum := "9821faa8854fea3eded96306c45f13a2d09e2749daa1130d032a14fa586c739e", func := "loop.example/g01145/laws.FnExactAreEqual", spec := "fnExactAreEqual", unfollowed := true, recurses := true, plainKeys := false, apart := false }
def FnExactAreEqualSaid : Prop := fnExactAreEqualRow.holds Try.pinned (OpenSpec.ofChange fnExactAreEqualSpec)

/-- ITS FALSE NEIGHBOUR: 'it returns false'. Refute it at one input. -/
def fnExactAreEqualWrong : ChangeSpec := { name := "fnExactAreEqual", fn := fun _ => fun
  | [d1, d2] => { results := [.lit (.bool false)], args := [d1, d2] }
  | _ => none }
def FnExactAreEqualWrongFalsely : Prop := fnExactAreEqualRow.holds Try.pinned (OpenSpec.ofChange fnExactAreEqualWrong)

/-- 'laws.FnExactIsSafe': WHATEVER THE INPUT: true; the input reads as it did. -/
def fnExactIsSafeSpec : ChangeSpec := { name := "fnExactIsSafe", fn := fun _ => fun
  | [d1, d2] => { results := [.lit (.bool true)], args := [d1, d2] }
  | _ => none }
def fnExactIsSafeRow : OpenClaim := { program := "ytddjkclabfmakaa", sum := "9821faa8854fea3eded96306c45f13a2d09e2749daa1130d032a14fa586c739e", func := "loop.example/g01145/laws.FnExactIsSafe", spec := "fnExactIsSafe", inPlace := ["internal/bytealg.IndexByteString"], unfollowed := true, recurses := true, plainKeys := false, apart := false }
def FnExactIsSafeSaid : Prop := fnExactIsSafeRow.holds Try.pinned (OpenSpec.ofChange fnExactIsSafeSpec)

/-- ITS FALSE NEIGHBOUR: 'it returns false'. Refute it at one input. -/
def fnExactIsSafeWrong : ChangeSpec := { name := "fnExactIsSafe", fn := fun _ => fun
  | [d1, d2] => { results := [.lit (.bool false)], args := [d1, d2] }
  | _ => none }
def FnExactIsSafeWrongFalsely : Prop := fnExactIsSafeRow.holds Try.pinned (OpenSpec.ofChange fnExactIsSafeWrong)

/- THE SECOND FORM. 'bulk': how many values and letters a reading holds, each counted each time it is reached (what is shared counts as often as it is met; a slice's spare places count too). A statement '..UptoSaid' is the law's where the arguments, and the package variables that the reading takes, are together of bulk at most 1048576: NARROWER than '..Said'. Prove '..Said' where nothing that the law and all that it calls make is longer than what came in: it says more and counts as full. Else prove '..UptoSaid'. A law counts once. -/
mutual
def uptoBulk {H : Type} : DataW H → Nat
  | .lit (.string bytes) => bytes.length + 1
  | .lit _ => 1
  | .nil => 1
  | .ptr d => uptoBulk d + 1
  | .slice elems spare => uptoBulkAll elems + uptoBulkAll spare + 1
  | .agg parts => uptoBulkAll parts + 1
  | .iface _ d => uptoBulk d + 1
  | .map entries => uptoBulkEntries entries + 1
  | .held _ => 1
def uptoBulkAll {H : Type} : List (DataW H) → Nat
  | [] => 0
  | d :: r => uptoBulk d + uptoBulkAll r
def uptoBulkEntries {H : Type} : List (Lit × DataW H) → Nat
  | [] => 0
  | x :: r => uptoBulkEntry x + uptoBulkEntries r
def uptoBulkEntry {H : Type} : Lit × DataW H → Nat
  | (.string bytes, d) => bytes.length + uptoBulk d + 1
  | (_, d) => uptoBulk d + 1
 end
def uptoSmall : (H : Type) → List (DataW H) → Bool := fun _ ds => decide (uptoBulkAll ds ≤ 1048576)
def OpenSpec.upto (s : _root_.Go.ChangeSpec) : _root_.Go.OpenSpec := { _root_.Go.OpenSpec.ofChange s with cond := some uptoSmall }

/-- 'laws.FnExactRunOfWord', WHERE WHAT IT READS IS OF BULK AT MOST 1048576: true; the input reads as it did. -/
def fnExactRunOfWordUptoRow : OpenClaim := { program := "ytddjkclabfmakaa", sum := "9821faa8854fea3eded96306c45f13a2d09e2749daa1130d032a14fa586c739e", func := "loop.example/g01145/laws.FnExactRunOfWord", spec := "fnExactRunOfWord", inPlace := ["internal/bytealg.IndexByteString"], unfollowed := true, recurses := true, plainKeys := false, apart := false, narrowed := true }
def FnExactRunOfWordUptoSaid : Prop := fnExactRunOfWordUptoRow.holds Try.pinned (OpenSpec.upto fnExactRunOfWordSpec)

/-- 'laws.FnExactFirstOfModule', WHERE WHAT IT READS IS OF BULK AT MOST 1048576: true; the input reads as it did. -/
def fnExactFirstOfModuleUptoRow : OpenClaim := { program := "ytddjkclabfmakaa", sum := "9821faa8854fea3eded96306c45f13a2d09e2749daa1130d032a14fa586c739e", func := "loop.example/g01145/laws.FnExactFirstOfModule", spec := "fnExactFirstOfModule", inPlace := ["internal/bytealg.IndexByteString"], unfollowed := true, recurses := true, plainKeys := false, apart := false, narrowed := true }
def FnExactFirstOfModuleUptoSaid : Prop := fnExactFirstOfModuleUptoRow.holds Try.pinned (OpenSpec.upto fnExactFirstOfModuleSpec)

/-- 'laws.FnExactSummaryOf', WHERE WHAT IT READS IS OF BULK AT MOST 1048576: true; the input reads as it did. -/
def fnExactSummaryOfUptoRow : OpenClaim := { program := "ytddjkclabfmakaa", sum := "9821faa8854fea3eded96306c45f13a2d09e2749daa1130d032a14fa586c739e", func := "loop.example/g01145/laws.FnExactSummaryOf", spec := "fnExactSummaryOf", inPlace := ["internal/bytealg.IndexByteString"], unfollowed := true, recurses := true, plainKeys := false, apart := false, narrowed := true }
def FnExactSummaryOfUptoSaid : Prop := fnExactSummaryOfUptoRow.holds Try.pinned (OpenSpec.upto fnExactSummaryOfSpec)

/-- 'laws.FnWatched', WHERE WHAT IT READS IS OF BULK AT MOST 1048576: true; the input reads as it did. -/
def fnWatchedUptoRow : OpenClaim := { program := "ytddjkclabfmakaa", sum := "9821faa8854fea3eded96306c45f13a2d09e2749daa1130d032a14fa586c739e", func := "loop.example/g01145/laws.FnWatched", spec := "fnWatched", inPlace := ["internal/bytealg.IndexByteString", "internal/bytealg.IndexString"], unfollowed := true, recurses := true, named := ["internal/bytealg.MaxLen"], plainKeys := false, apart := false, narrowed := true }
def FnWatchedUptoSaid : Prop := fnWatchedUptoRow.holds Try.pinned (OpenSpec.upto fnWatchedSpec)

/-- 'laws.FnExactIsEmpty', WHERE WHAT IT READS IS OF BULK AT MOST 1048576: true; the input reads as it did. -/
def fnExactIsEmptyUptoRow : OpenClaim := { program := "ytddjkclabfmakaa", sum := "9821faa8854fea3eded96306c45f13a2d09e2749daa1130d032a14fa586c739e", func := "loop.example/g01145/laws.FnExactIsEmpty", spec := "fnExactIsEmpty", unfollowed := true, recurses := true, plainKeys := false, apart := false, narrowed := true }
def FnExactIsEmptyUptoSaid : Prop := fnExactIsEmptyUptoRow.holds Try.pinned (OpenSpec.upto fnExactIsEmptySpec)

/-- 'laws.FnExactReachedBy', WHERE WHAT IT READS IS OF BULK AT MOST 1048576: true; the input reads as it did. -/
def fnExactReachedByUptoRow : OpenClaim := { program := "ytddjkclabfmakaa", sum := "9821faa8854fea3eded96306c45f13a2d09e2749daa1130d032a14fa586c739e", func := "loop.example/g01145/laws.FnExactReachedBy", spec := "fnExactReachedBy", unfollowed := true, recurses := true, plainKeys := false, apart := false, narrowed := true }
def FnExactReachedByUptoSaid : Prop := fnExactReachedByUptoRow.holds Try.pinned (OpenSpec.upto fnExactReachedBySpec)

/-- 'laws.FnExactMatchedBetween', WHERE WHAT IT READS IS OF BULK AT MOST 1048576: true; the input reads as it did. -/
def fnExactMatchedBetweenUptoRow : OpenClaim := { program := "ytddjkclabfmakaa", sum := "9821faa8854fea3eded96306c45f13a2d09e2749daa1130d032a14fa586c739e", func := "loop.example/g01145/laws.FnExactMatchedBetween", spec := "fnExactMatchedBetween", inPlace := ["internal/bytealg.IndexByteString"], unfollowed := true, recurses := true, plainKeys := false, apart := false, narrowed := true }
def FnExactMatchedBetweenUptoSaid : Prop := fnExactMatchedBetweenUptoRow.holds Try.pinned (OpenSpec.upto fnExactMatchedBetweenSpec)

/-- 'laws.FnExactFirstTo', WHERE WHAT IT READS IS OF BULK AT MOST 1048576: true; the input reads as it did. -/
def fnExactFirstToUptoRow : OpenClaim := { program := "ytddjkclabfmakaa", sum := "9821faa8854fea3eded96306c45f13a2d09e2749daa1130d032a14fa586c739e", func := "loop.example/g01145/laws.FnExactFirstTo", spec := "fnExactFirstTo", inPlace := ["internal/bytealg.IndexByteString"], unfollowed := true, recurses := true, plainKeys := false, apart := false, narrowed := true }
def FnExactFirstToUptoSaid : Prop := fnExactFirstToUptoRow.holds Try.pinned (OpenSpec.upto fnExactFirstToSpec)

/-- 'laws.FnExactAreEqual', WHERE WHAT IT READS IS OF BULK AT MOST 1048576: true; the input reads as it did. -/
def fnExactAreEqualUptoRow : OpenClaim := { program := "ytddjkclabfmakaa", sum := "9821faa8854fea3eded96306c45f13a2d09e2749daa1130d032a14fa586c739e", func := "loop.example/g01145/laws.FnExactAreEqual", spec := "fnExactAreEqual", unfollowed := true, recurses := true, plainKeys := false, apart := false, narrowed := true }
def FnExactAreEqualUptoSaid : Prop := fnExactAreEqualUptoRow.holds Try.pinned (OpenSpec.upto fnExactAreEqualSpec)

/-- 'laws.FnExactIsSafe', WHERE WHAT IT READS IS OF BULK AT MOST 1048576: true; the input reads as it did. -/
def fnExactIsSafeUptoRow : OpenClaim := { program := "ytddjkclabfmakaa", sum := "9821faa8854fea3eded96306c45f13a2d09e2749daa1130d032a14fa586c739e", func := "loop.example/g01145/laws.FnExactIsSafe", spec := "fnExactIsSafe", inPlace := ["internal/bytealg.IndexByteString"], unfollowed := true, recurses := true, plainKeys := false, apart := false, narrowed := true }
def FnExactIsSafeUptoSaid : Prop := fnExactIsSafeUptoRow.holds Try.pinned (OpenSpec.upto fnExactIsSafeSpec)

end Rows
end Go.Proofs.Ytddjkclabfmakaa
