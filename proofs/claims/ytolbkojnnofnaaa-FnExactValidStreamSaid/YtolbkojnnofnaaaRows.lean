/-
  No cell of these rows narrows 'for every input' (looked for: loops, veiled, ifaces, maps, wideKeys, modest, calm, conditions, laid).
  DERIVED. THE GIVEN ROWS OF THIS SEAT. 5 by the template 'for every input the law returns true; each argument reads behind the call as it read before'; 0 by the template 'total and deterministic' (their statements: YtolbkojnnofnaaaTotals.lean).
  GIVEN WITH THE SEED: the statements are not yours to turn. If you find one false, say at which input.
  Laid BY PROGRAM, IN A SANDBOX (cutbox-rows.mjs): the forced cells as the released guide's own fill.sh prints them over the translation 2281e28832de703a… (all of the seat's roots in one cut). By AI agents, Wed Nov 11 2026. No macro, syntax, notation, axiom, sorry.
-/
import Derived.Test.YtolbkojnnofnaaaChecked
import GoSem.Claim
import GoSem.ClaimJoined
import GoSem.ClaimMapViews
import Derived.JoinedTies
import Derived.KernelRfl
namespace Go.Proofs.Ytolbkojnnofnaaa
/- THE CELL 'sum', in the pinned program and in every row, IS THE sha256 OF THE DUMP (.gsa) THAT YtolbkojnnofnaaaProg.lean LOADS. Nothing in Lean hashes anything: it is a label: what it is worth is what the hold of that sum in a sandbox is worth. -/
noncomputable def Try.pinned : Pinned := { name := "ytolbkojnnofnaaa", sum := "2281e28832de703a193736cda8dec4792ac456841fd0f668f124bbe7dab52e77", checked := Try.checked }
namespace Rows
def none {H : Type} : Left H := { results := [], args := [] }

/-- 'laws.FnExactValidDeed': WHATEVER THE INPUT: true; the input reads as it did. -/
def fnExactValidDeedSpec : ChangeSpec := { name := "fnExactValidDeed", fn := fun _ => fun
  | [d] => { results := [.lit (.bool true)], args := [d] }
  | _ => none }
def fnExactValidDeedRow : OpenClaim := { program := "ytolbkojnnofnaaa", sum := "2281e28832de703a193736cda8dec4792ac456841fd0f668f124bbe7dab52e77", func := "loop.example/g01145/laws.FnExactValidDeed", spec := "fnExactValidDeed", apart := false }
def FnExactValidDeedSaid : Prop := fnExactValidDeedRow.holds Try.pinned (OpenSpec.ofChange fnExactValidDeedSpec)

/-- ITS FALSE NEIGHBOUR: 'it returns false'. Refute it at one input. -/
def fnExactValidDeedWrong : ChangeSpec := { name := "fnExactValidDeed", fn := fun _ => fun
  | [d] => { results := [.lit (.bool false)], args := [d] }
  | _ => none }
def FnExactValidDeedWrongFalsely : Prop := fnExactValidDeedRow.holds Try.pinned (OpenSpec.ofChange fnExactValidDeedWrong)

/-- 'laws.FnExactProgramTakes': WHATEVER THE INPUT: true; the input reads as it did. -/
def fnExactProgramTakesSpec : ChangeSpec := { name := "fnExactProgramTakes", fn := fun _ => fun
  | [d1, d2] => { results := [.lit (.bool true)], args := [d1, d2] }
  | _ => none }
def fnExactProgramTakesRow : OpenClaim := { program := "ytolbkojnnofnaaa", sum := "2281e28832de703a193736cda8dec4792ac456841fd0f668f124bbe7dab52e77", func := "loop.example/g01145/laws.FnExactProgramTakes", spec := "fnExactProgramTakes", inPlace := ["internal/bytealg.IndexByteString"], unfollowed := true, recurses := true, apart := false }
def FnExactProgramTakesSaid : Prop := fnExactProgramTakesRow.holds Try.pinned (OpenSpec.ofChange fnExactProgramTakesSpec)

/-- ITS FALSE NEIGHBOUR: 'it returns false'. Refute it at one input. -/
def fnExactProgramTakesWrong : ChangeSpec := { name := "fnExactProgramTakes", fn := fun _ => fun
  | [d1, d2] => { results := [.lit (.bool false)], args := [d1, d2] }
  | _ => none }
def FnExactProgramTakesWrongFalsely : Prop := fnExactProgramTakesRow.holds Try.pinned (OpenSpec.ofChange fnExactProgramTakesWrong)

/-- 'laws.FnExactValidStream': WHATEVER THE INPUT: true; the input reads as it did. -/
def fnExactValidStreamSpec : ChangeSpec := { name := "fnExactValidStream", fn := fun _ => fun
  | [d] => { results := [.lit (.bool true)], args := [d] }
  | _ => none }
def fnExactValidStreamRow : OpenClaim := { program := "ytolbkojnnofnaaa", sum := "2281e28832de703a193736cda8dec4792ac456841fd0f668f124bbe7dab52e77", func := "loop.example/g01145/laws.FnExactValidStream", spec := "fnExactValidStream", inPlace := ["internal/bytealg.IndexByteString", "internal/abi.NoEscape", "internal/bytealg.MakeNoZero"], unfollowed := true, recurses := true, apart := false }
def FnExactValidStreamSaid : Prop := fnExactValidStreamRow.holds Try.pinned (OpenSpec.ofChange fnExactValidStreamSpec)

/-- ITS FALSE NEIGHBOUR: 'it returns false'. Refute it at one input. -/
def fnExactValidStreamWrong : ChangeSpec := { name := "fnExactValidStream", fn := fun _ => fun
  | [d] => { results := [.lit (.bool false)], args := [d] }
  | _ => none }
def FnExactValidStreamWrongFalsely : Prop := fnExactValidStreamRow.holds Try.pinned (OpenSpec.ofChange fnExactValidStreamWrong)

/-- 'laws.FnExactWholeOf': WHATEVER THE INPUT: true; the input reads as it did. -/
def fnExactWholeOfSpec : ChangeSpec := { name := "fnExactWholeOf", fn := fun _ => fun
  | [d] => { results := [.lit (.bool true)], args := [d] }
  | _ => none }
def fnExactWholeOfRow : OpenClaim := { program := "ytolbkojnnofnaaa", sum := "2281e28832de703a193736cda8dec4792ac456841fd0f668f124bbe7dab52e77", func := "loop.example/g01145/laws.FnExactWholeOf", spec := "fnExactWholeOf", inPlace := ["internal/bytealg.IndexByteString", "internal/abi.NoEscape", "internal/bytealg.MakeNoZero"], unfollowed := true, recurses := true, apart := false }
def FnExactWholeOfSaid : Prop := fnExactWholeOfRow.holds Try.pinned (OpenSpec.ofChange fnExactWholeOfSpec)

/-- ITS FALSE NEIGHBOUR: 'it returns false'. Refute it at one input. -/
def fnExactWholeOfWrong : ChangeSpec := { name := "fnExactWholeOf", fn := fun _ => fun
  | [d] => { results := [.lit (.bool false)], args := [d] }
  | _ => none }
def FnExactWholeOfWrongFalsely : Prop := fnExactWholeOfRow.holds Try.pinned (OpenSpec.ofChange fnExactWholeOfWrong)

/-- 'laws.FnExactCountProgramWords': WHATEVER THE INPUT: true; the input reads as it did. -/
def fnExactCountProgramWordsSpec : ChangeSpec := { name := "fnExactCountProgramWords", fn := fun _ => fun
  | [d1, d2] => { results := [.lit (.bool true)], args := [d1, d2] }
  | _ => none }
def fnExactCountProgramWordsRow : OpenClaim := { program := "ytolbkojnnofnaaa", sum := "2281e28832de703a193736cda8dec4792ac456841fd0f668f124bbe7dab52e77", func := "loop.example/g01145/laws.FnExactCountProgramWords", spec := "fnExactCountProgramWords", unfollowed := true, recurses := true, apart := false }
def FnExactCountProgramWordsSaid : Prop := fnExactCountProgramWordsRow.holds Try.pinned (OpenSpec.ofChange fnExactCountProgramWordsSpec)

/-- ITS FALSE NEIGHBOUR: 'it returns false'. Refute it at one input. -/
def fnExactCountProgramWordsWrong : ChangeSpec := { name := "fnExactCountProgramWords", fn := fun _ => fun
  | [d1, d2] => { results := [.lit (.bool false)], args := [d1, d2] }
  | _ => none }
def FnExactCountProgramWordsWrongFalsely : Prop := fnExactCountProgramWordsRow.holds Try.pinned (OpenSpec.ofChange fnExactCountProgramWordsWrong)

/- THE SECOND FORM. 'bulk': how many values and letters a reading holds, each counted each time it is reached (what is shared counts as often as it is met; a slice's spare places count too). A statement '..UptoSaid' is the law's where the arguments, and the package variables that the reading takes, are together of bulk at most 1048576: NARROWER than '..Said'. Prove '..Said' where nothing that the law and all that it calls make is longer than what came in: it says more and counts as full. Else prove '..UptoSaid'. A law counts once. -/
mutual
def uptoBulk {H : Type} : DataW H → Nat
  | .lit (.string bytes) => bytes.length + 1
  | .lit _ => 1
  | .nil => 1
  | .ptr d => uptoBulk d + 1
  | .slice elems spare => uptoBulkAll elems + uptoBulkAll spare + 1
  | .agg parts => uptoBulkAll parts + 1
  | .iface _ d => uptoBulk d + 1
  | .map entries => uptoBulkEntries entries + 1
  | .held _ => 1
def uptoBulkAll {H : Type} : List (DataW H) → Nat
  | [] => 0
  | d :: r => uptoBulk d + uptoBulkAll r
def uptoBulkEntries {H : Type} : List (Lit × DataW H) → Nat
  | [] => 0
  | x :: r => uptoBulkEntry x + uptoBulkEntries r
def uptoBulkEntry {H : Type} : Lit × DataW H → Nat
  | (.string bytes, d) => bytes.length + uptoBulk d + 1
  | (_, d) => uptoBulk d + 1
 end
def uptoSmall : (H : Type) → List (DataW H) → Bool := fun _ ds => decide (uptoBulkAll ds ≤ 1048576)
def OpenSpec.upto (s : _root_.Go.ChangeSpec) : _root_.Go.OpenSpec := { _root_.Go.OpenSpec.ofChange s with cond := some uptoSmall }

/-- 'laws.FnExactValidDeed', WHERE WHAT IT READS IS OF BULK AT MOST 1048576: true; the input reads as it did. -/
def fnExactValidDeedUptoRow : OpenClaim := { program := "ytolbkojnnofnaaa", sum := "2281e28832de703a193736cda8dec4792ac456841fd0f668f124bbe7dab52e77", func := "loop.example/g01145/laws.FnExactValidDeed", spec := "fnExactValidDeed", apart := false, narrowed := true }
def FnExactValidDeedUptoSaid : Prop := fnExactValidDeedUptoRow.holds Try.pinned (OpenSpec.upto fnExactValidDeedSpec)

/-- 'laws.FnExactProgramTakes', WHERE WHAT IT READS IS OF BULK AT MOST 1048576: true; the input reads as it did. -/
def fnExactProgramTakesUptoRow : OpenClaim := { program := "ytolbkojnnofnaaa", sum := "2281e28832de703a193736cda8dec4792ac456841fd0f668f124bbe7dab52e77", func := "loop.example/g01145/laws.FnExactProgramTakes", spec := "fnExactProgramTakes", inPlace := ["internal/bytealg.IndexByteString"], unfollowed := true, recurses := true, apart := false, narrowed := true }
def FnExactProgramTakesUptoSaid : Prop := fnExactProgramTakesUptoRow.holds Try.pinned (OpenSpec.upto fnExactProgramTakesSpec)

/-- 'laws.FnExactValidStream', WHERE WHAT IT READS IS OF BULK AT MOST 1048576: true; the input reads as it did. -/
def fnExactValidStreamUptoRow : OpenClaim := { program := "ytolbkojnnofnaaa", sum := "2281e28832de703a193736cda8dec4792ac456841fd0f668f124bbe7dab52e77", func := "loop.example/g01145/laws.FnExactValidStream", spec := "fnExactValidStream", inPlace := ["internal/bytealg.IndexByteString", "internal/abi.NoEscape", "internal/bytealg.MakeNoZero"], unfollowed := true, recurses := true, apart := false, narrowed := true }
def FnExactValidStreamUptoSaid : Prop := fnExactValidStreamUptoRow.holds Try.pinned (OpenSpec.upto fnExactValidStreamSpec)

/-- 'laws.FnExactWholeOf', WHERE WHAT IT READS IS OF BULK AT MOST 1048576: true; the input reads as it did. -/
def fnExactWholeOfUptoRow : OpenClaim := { program := "ytolbkojnnofnaaa", sum := "2281e28832de703a193736cda8dec4792ac456841fd0f668f124bbe7dab52e77", func := "loop.example/g01145/laws.FnExactWholeOf", spec := "fnExactWholeOf", inPlace := ["internal/bytealg.IndexByteString", "internal/abi.NoEscape", "internal/bytealg.MakeNoZero"], unfollowed := true, recurses := true, apart := false, narrowed := true }
def FnExactWholeOfUptoSaid : Prop := fnExactWholeOfUptoRow.holds Try.pinned (OpenSpec.upto fnExactWholeOfSpec)

/-- 'laws.FnExactCountProgramWords', WHERE WHAT IT READS IS OF BULK AT MOST 1048576: true; the input reads as it did. -/
def fnExactCountProgramWordsUptoRow : OpenClaim := { program := "ytolbkojnnofnaaa", sum := "2281e28832de703a193736cda8dec4792ac456841fd0f668f124bbe7dab52e77", func := "loop.example/g01145/laws.FnExactCountProgramWords", spec := "fnExactCountProgramWords", unfollowed := true, recurses := true, apart := false, narrowed := true }
def FnExactCountProgramWordsUptoSaid : Prop := fnExactCountProgramWordsUptoRow.holds Try.pinned (OpenSpec.upto fnExactCountProgramWordsSpec)

end Rows
end Go.Proofs.Ytolbkojnnofnaaa
