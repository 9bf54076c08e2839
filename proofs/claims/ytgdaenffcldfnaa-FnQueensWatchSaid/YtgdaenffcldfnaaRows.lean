/-
  No cell of these rows narrows 'for every input' (looked for: loops, veiled, ifaces, maps, wideKeys, modest, calm, conditions, laid).
  DERIVED. THE GIVEN ROWS OF THIS SEAT. 11 by the template 'for every input the law returns true; each argument reads behind the call as it read before'; 0 by the template 'total and deterministic' (their statements: YtgdaenffcldfnaaTotals.lean).
  GIVEN WITH THE SEED: the statements are not yours to turn. If you find one false, say at which input.
  Laid BY PROGRAM, IN A SANDBOX (cutbox-rows.mjs): the forced cells as the released guide's own fill.sh prints them over the translation fd245b8f4e9a1d79… (all of the seat's roots in one cut). By AI agents, Wed Nov 11 2026. No macro, syntax, notation, axiom, sorry.
-/
import Derived.Test.YtgdaenffcldfnaaChecked
import GoSem.Claim
import GoSem.ClaimJoined
import GoSem.ClaimMapViews
import Derived.JoinedTies
import Derived.KernelRfl
namespace Go.Proofs.Ytgdaenffcldfnaa
/- THE CELL 'sum', in the pinned program and in every row, IS THE sha256 OF THE DUMP (.gsa) THAT YtgdaenffcldfnaaProg.lean LOADS. Nothing in Lean hashes anything: it is a label: what it is worth is what the hold of that sum in a sandbox is worth. -/
noncomputable def Try.pinned : Pinned := { name := "ytgdaenffcldfnaa", sum := "fd245b8f4e9a1d79d82cfc3d92cab4e784bde2c3816d695fb2d3c06fed62fdc1", checked := Try.checked }
namespace Rows
def none {H : Type} : Left H := { results := [], args := [] }

/-- 'laws.FnExactMostKings': WHATEVER THE INPUT: true; the input reads as it did. -/
def fnExactMostKingsSpec : ChangeSpec := { name := "fnExactMostKings", fn := fun _ => fun
  | [d] => { results := [.lit (.bool true)], args := [d] }
  | _ => none }
def fnExactMostKingsRow : OpenClaim := { program := "ytgdaenffcldfnaa", sum := "fd245b8f4e9a1d79d82cfc3d92cab4e784bde2c3816d695fb2d3c06fed62fdc1", func := "loop.example/g01125/laws.FnExactMostKings", spec := "fnExactMostKings", unfollowed := true, recurses := true, apart := false }
def FnExactMostKingsSaid : Prop := fnExactMostKingsRow.holds Try.pinned (OpenSpec.ofChange fnExactMostKingsSpec)

/-- ITS FALSE NEIGHBOUR: 'it returns false'. Refute it at one input. -/
def fnExactMostKingsWrong : ChangeSpec := { name := "fnExactMostKings", fn := fun _ => fun
  | [d] => { results := [.lit (.bool false)], args := [d] }
  | _ => none }
def FnExactMostKingsWrongFalsely : Prop := fnExactMostKingsRow.holds Try.pinned (OpenSpec.ofChange fnExactMostKingsWrong)

/-- 'laws.FnExactKingNumbers': WHATEVER THE INPUT: true; the input reads as it did. -/
def fnExactKingNumbersSpec : ChangeSpec := { name := "fnExactKingNumbers", fn := fun _ => fun
  | [d] => { results := [.lit (.bool true)], args := [d] }
  | _ => none }
def fnExactKingNumbersRow : OpenClaim := { program := "ytgdaenffcldfnaa", sum := "fd245b8f4e9a1d79d82cfc3d92cab4e784bde2c3816d695fb2d3c06fed62fdc1", func := "loop.example/g01125/laws.FnExactKingNumbers", spec := "fnExactKingNumbers", unfollowed := true, recurses := true, apart := false }
def FnExactKingNumbersSaid : Prop := fnExactKingNumbersRow.holds Try.pinned (OpenSpec.ofChange fnExactKingNumbersSpec)

/-- ITS FALSE NEIGHBOUR: 'it returns false'. Refute it at one input. -/
def fnExactKingNumbersWrong : ChangeSpec := { name := "fnExactKingNumbers", fn := fun _ => fun
  | [d] => { results := [.lit (.bool false)], args := [d] }
  | _ => none }
def FnExactKingNumbersWrongFalsely : Prop := fnExactKingNumbersRow.holds Try.pinned (OpenSpec.ofChange fnExactKingNumbersWrong)

/-- 'laws.FnQueensWatch': WHATEVER THE INPUT: true; the input reads as it did. -/
def fnQueensWatchSpec : ChangeSpec := { name := "fnQueensWatch", fn := fun _ => fun
  | [d1, d2] => { results := [.lit (.bool true)], args := [d1, d2] }
  | _ => none }
def fnQueensWatchRow : OpenClaim := { program := "ytgdaenffcldfnaa", sum := "fd245b8f4e9a1d79d82cfc3d92cab4e784bde2c3816d695fb2d3c06fed62fdc1", func := "loop.example/g01125/laws.FnQueensWatch", spec := "fnQueensWatch", unfollowed := true, recurses := true, apart := false }
def FnQueensWatchSaid : Prop := fnQueensWatchRow.holds Try.pinned (OpenSpec.ofChange fnQueensWatchSpec)

/-- ITS FALSE NEIGHBOUR: 'it returns false'. Refute it at one input. -/
def fnQueensWatchWrong : ChangeSpec := { name := "fnQueensWatch", fn := fun _ => fun
  | [d1, d2] => { results := [.lit (.bool false)], args := [d1, d2] }
  | _ => none }
def FnQueensWatchWrongFalsely : Prop := fnQueensWatchRow.holds Try.pinned (OpenSpec.ofChange fnQueensWatchWrong)

/-- 'laws.FnExactCyclesOfFiles': WHATEVER THE INPUT: true; the input reads as it did. -/
def fnExactCyclesOfFilesSpec : ChangeSpec := { name := "fnExactCyclesOfFiles", fn := fun _ => fun
  | [d] => { results := [.lit (.bool true)], args := [d] }
  | _ => none }
def fnExactCyclesOfFilesRow : OpenClaim := { program := "ytgdaenffcldfnaa", sum := "fd245b8f4e9a1d79d82cfc3d92cab4e784bde2c3816d695fb2d3c06fed62fdc1", func := "loop.example/g01125/laws.FnExactCyclesOfFiles", spec := "fnExactCyclesOfFiles", inPlace := ["slices.overlaps[int]"], unfollowed := true, recurses := true, apart := false }
def FnExactCyclesOfFilesSaid : Prop := fnExactCyclesOfFilesRow.holds Try.pinned (OpenSpec.ofChange fnExactCyclesOfFilesSpec)

/-- ITS FALSE NEIGHBOUR: 'it returns false'. Refute it at one input. -/
def fnExactCyclesOfFilesWrong : ChangeSpec := { name := "fnExactCyclesOfFiles", fn := fun _ => fun
  | [d] => { results := [.lit (.bool false)], args := [d] }
  | _ => none }
def FnExactCyclesOfFilesWrongFalsely : Prop := fnExactCyclesOfFilesRow.holds Try.pinned (OpenSpec.ofChange fnExactCyclesOfFilesWrong)

/-- 'laws.FnKindsOfNumbers': WHATEVER THE INPUT: true; the input reads as it did. -/
def fnKindsOfNumbersSpec : ChangeSpec := { name := "fnKindsOfNumbers", fn := fun _ => fun
  | [d1, d2] => { results := [.lit (.bool true)], args := [d1, d2] }
  | _ => none }
def fnKindsOfNumbersRow : OpenClaim := { program := "ytgdaenffcldfnaa", sum := "fd245b8f4e9a1d79d82cfc3d92cab4e784bde2c3816d695fb2d3c06fed62fdc1", func := "loop.example/g01125/laws.FnKindsOfNumbers", spec := "fnKindsOfNumbers", unfollowed := true, recurses := true, apart := false }
def FnKindsOfNumbersSaid : Prop := fnKindsOfNumbersRow.holds Try.pinned (OpenSpec.ofChange fnKindsOfNumbersSpec)

/-- ITS FALSE NEIGHBOUR: 'it returns false'. Refute it at one input. -/
def fnKindsOfNumbersWrong : ChangeSpec := { name := "fnKindsOfNumbers", fn := fun _ => fun
  | [d1, d2] => { results := [.lit (.bool false)], args := [d1, d2] }
  | _ => none }
def FnKindsOfNumbersWrongFalsely : Prop := fnKindsOfNumbersRow.holds Try.pinned (OpenSpec.ofChange fnKindsOfNumbersWrong)

/-- 'laws.FnExactFirstKings': WHATEVER THE INPUT: true; the input reads as it did. -/
def fnExactFirstKingsSpec : ChangeSpec := { name := "fnExactFirstKings", fn := fun _ => fun
  | [d1, d2] => { results := [.lit (.bool true)], args := [d1, d2] }
  | _ => none }
def fnExactFirstKingsRow : OpenClaim := { program := "ytgdaenffcldfnaa", sum := "fd245b8f4e9a1d79d82cfc3d92cab4e784bde2c3816d695fb2d3c06fed62fdc1", func := "loop.example/g01125/laws.FnExactFirstKings", spec := "fnExactFirstKings", unfollowed := true, recurses := true, apart := false }
def FnExactFirstKingsSaid : Prop := fnExactFirstKingsRow.holds Try.pinned (OpenSpec.ofChange fnExactFirstKingsSpec)

/-- ITS FALSE NEIGHBOUR: 'it returns false'. Refute it at one input. -/
def fnExactFirstKingsWrong : ChangeSpec := { name := "fnExactFirstKings", fn := fun _ => fun
  | [d1, d2] => { results := [.lit (.bool false)], args := [d1, d2] }
  | _ => none }
def FnExactFirstKingsWrongFalsely : Prop := fnExactFirstKingsRow.holds Try.pinned (OpenSpec.ofChange fnExactFirstKingsWrong)

/-- 'laws.FnRookNumbersAddUp': WHATEVER THE INPUT: true; the input reads as it did. -/
def fnRookNumbersAddUpSpec : ChangeSpec := { name := "fnRookNumbersAddUp", fn := fun _ => fun
  | [d1, d2] => { results := [.lit (.bool true)], args := [d1, d2] }
  | _ => none }
def fnRookNumbersAddUpRow : OpenClaim := { program := "ytgdaenffcldfnaa", sum := "fd245b8f4e9a1d79d82cfc3d92cab4e784bde2c3816d695fb2d3c06fed62fdc1", func := "loop.example/g01125/laws.FnRookNumbersAddUp", spec := "fnRookNumbersAddUp", unfollowed := true, recurses := true, apart := false }
def FnRookNumbersAddUpSaid : Prop := fnRookNumbersAddUpRow.holds Try.pinned (OpenSpec.ofChange fnRookNumbersAddUpSpec)

/-- ITS FALSE NEIGHBOUR: 'it returns false'. Refute it at one input. -/
def fnRookNumbersAddUpWrong : ChangeSpec := { name := "fnRookNumbersAddUp", fn := fun _ => fun
  | [d1, d2] => { results := [.lit (.bool false)], args := [d1, d2] }
  | _ => none }
def FnRookNumbersAddUpWrongFalsely : Prop := fnRookNumbersAddUpRow.holds Try.pinned (OpenSpec.ofChange fnRookNumbersAddUpWrong)

/-- 'laws.FnFilesAreCycles': WHATEVER THE INPUT: true; the input reads as it did. -/
def fnFilesAreCyclesSpec : ChangeSpec := { name := "fnFilesAreCycles", fn := fun _ => fun
  | [d1, d2] => { results := [.lit (.bool true)], args := [d1, d2] }
  | _ => none }
def fnFilesAreCyclesRow : OpenClaim := { program := "ytgdaenffcldfnaa", sum := "fd245b8f4e9a1d79d82cfc3d92cab4e784bde2c3816d695fb2d3c06fed62fdc1", func := "loop.example/g01125/laws.FnFilesAreCycles", spec := "fnFilesAreCycles", inPlace := ["slices.overlaps[int]"], unfollowed := true, recurses := true, apart := false }
def FnFilesAreCyclesSaid : Prop := fnFilesAreCyclesRow.holds Try.pinned (OpenSpec.ofChange fnFilesAreCyclesSpec)

/-- ITS FALSE NEIGHBOUR: 'it returns false'. Refute it at one input. -/
def fnFilesAreCyclesWrong : ChangeSpec := { name := "fnFilesAreCycles", fn := fun _ => fun
  | [d1, d2] => { results := [.lit (.bool false)], args := [d1, d2] }
  | _ => none }
def FnFilesAreCyclesWrongFalsely : Prop := fnFilesAreCyclesRow.holds Try.pinned (OpenSpec.ofChange fnFilesAreCyclesWrong)

/-- 'laws.FnNeededAndUseless': WHATEVER THE INPUT: true; the input reads as it did. -/
def fnNeededAndUselessSpec : ChangeSpec := { name := "fnNeededAndUseless", fn := fun _ => fun
  | [d1, d2] => { results := [.lit (.bool true)], args := [d1, d2] }
  | _ => none }
def fnNeededAndUselessRow : OpenClaim := { program := "ytgdaenffcldfnaa", sum := "fd245b8f4e9a1d79d82cfc3d92cab4e784bde2c3816d695fb2d3c06fed62fdc1", func := "loop.example/g01125/laws.FnNeededAndUseless", spec := "fnNeededAndUseless", unfollowed := true, recurses := true, apart := false }
def FnNeededAndUselessSaid : Prop := fnNeededAndUselessRow.holds Try.pinned (OpenSpec.ofChange fnNeededAndUselessSpec)

/-- ITS FALSE NEIGHBOUR: 'it returns false'. Refute it at one input. -/
def fnNeededAndUselessWrong : ChangeSpec := { name := "fnNeededAndUseless", fn := fun _ => fun
  | [d1, d2] => { results := [.lit (.bool false)], args := [d1, d2] }
  | _ => none }
def FnNeededAndUselessWrongFalsely : Prop := fnNeededAndUselessRow.holds Try.pinned (OpenSpec.ofChange fnNeededAndUselessWrong)

/-- 'laws.FnPiecesQuiet': WHATEVER THE INPUT: true; the input reads as it did. -/
def fnPiecesQuietSpec : ChangeSpec := { name := "fnPiecesQuiet", fn := fun _ => fun
  | [d1, d2] => { results := [.lit (.bool true)], args := [d1, d2] }
  | _ => none }
def fnPiecesQuietRow : OpenClaim := { program := "ytgdaenffcldfnaa", sum := "fd245b8f4e9a1d79d82cfc3d92cab4e784bde2c3816d695fb2d3c06fed62fdc1", func := "loop.example/g01125/laws.FnPiecesQuiet", spec := "fnPiecesQuiet", unfollowed := true, recurses := true, apart := false }
def FnPiecesQuietSaid : Prop := fnPiecesQuietRow.holds Try.pinned (OpenSpec.ofChange fnPiecesQuietSpec)

/-- ITS FALSE NEIGHBOUR: 'it returns false'. Refute it at one input. -/
def fnPiecesQuietWrong : ChangeSpec := { name := "fnPiecesQuiet", fn := fun _ => fun
  | [d1, d2] => { results := [.lit (.bool false)], args := [d1, d2] }
  | _ => none }
def FnPiecesQuietWrongFalsely : Prop := fnPiecesQuietRow.holds Try.pinned (OpenSpec.ofChange fnPiecesQuietWrong)

/-- 'laws.FnExactBishopsOf': WHATEVER THE INPUT: true; the input reads as it did. -/
def fnExactBishopsOfSpec : ChangeSpec := { name := "fnExactBishopsOf", fn := fun _ => fun
  | [d1, d2, d3] => { results := [.lit (.bool true)], args := [d1, d2, d3] }
  | _ => none }
def fnExactBishopsOfRow : OpenClaim := { program := "ytgdaenffcldfnaa", sum := "fd245b8f4e9a1d79d82cfc3d92cab4e784bde2c3816d695fb2d3c06fed62fdc1", func := "loop.example/g01125/laws.FnExactBishopsOf", spec := "fnExactBishopsOf", unfollowed := true, recurses := true, apart := false }
def FnExactBishopsOfSaid : Prop := fnExactBishopsOfRow.holds Try.pinned (OpenSpec.ofChange fnExactBishopsOfSpec)

/-- ITS FALSE NEIGHBOUR: 'it returns false'. Refute it at one input. -/
def fnExactBishopsOfWrong : ChangeSpec := { name := "fnExactBishopsOf", fn := fun _ => fun
  | [d1, d2, d3] => { results := [.lit (.bool false)], args := [d1, d2, d3] }
  | _ => none }
def FnExactBishopsOfWrongFalsely : Prop := fnExactBishopsOfRow.holds Try.pinned (OpenSpec.ofChange fnExactBishopsOfWrong)

/- THE SECOND FORM. 'bulk': how many values and letters a reading holds, each counted each time it is reached (what is shared counts as often as it is met; a slice's spare places count too). A statement '..UptoSaid' is the law's where the arguments, and the package variables that the reading takes, are together of bulk at most 1048576: NARROWER than '..Said'. Prove '..Said' where nothing that the law and all that it calls make is longer than what came in: it says more and counts as full. Else prove '..UptoSaid'. A law counts once. -/
mutual
def uptoBulk {H : Type} : DataW H → Nat
  | .lit (.string bytes) => bytes.length + 1
  | .lit _ => 1
  | .nil => 1
  | .ptr d => uptoBulk d + 1
  | .slice elems spare => uptoBulkAll elems + uptoBulkAll spare + 1
  | .agg parts => uptoBulkAll parts + 1
  | .iface _ d => uptoBulk d + 1
  | .map entries => uptoBulkEntries entries + 1
  | .held _ => 1
def uptoBulkAll {H : Type} : List (DataW H) → Nat
  | [] => 0
  | d :: r => uptoBulk d + uptoBulkAll r
def uptoBulkEntries {H : Type} : List (Lit × DataW H) → Nat
  | [] => 0
  | x :: r => uptoBulkEntry x + uptoBulkEntries r
def uptoBulkEntry {H : Type} : Lit × DataW H → Nat
  | (.string bytes, d) => bytes.length + uptoBulk d + 1
  | (_, d) => uptoBulk d + 1
 end
def uptoSmall : (H : Type) → List (DataW H) → Bool := fun _ ds => decide (uptoBulkAll ds ≤ 1048576)
def OpenSpec.upto (s : _root_.Go.ChangeSpec) : _root_.Go.OpenSpec := { _root_.Go.OpenSpec.ofChange s with cond := some uptoSmall }

/-- 'laws.FnExactMostKings', WHERE WHAT IT READS IS OF BULK AT MOST 1048576: true; the input reads as it did. -/
def fnExactMostKingsUptoRow : OpenClaim := { program := "ytgdaenffcldfnaa", sum := "fd245b8f4e9a1d79d82cfc3d92cab4e784bde2c3816d695fb2d3c06fed62fdc1", func := "loop.example/g01125/laws.FnExactMostKings", spec := "fnExactMostKings", unfollowed := true, recurses := true, apart := false, narrowed := true }
def FnExactMostKingsUptoSaid : Prop := fnExactMostKingsUptoRow.holds Try.pinned (OpenSpec.upto fnExactMostKingsSpec)

/-- 'laws.FnExactKingNumbers', WHERE WHAT IT READS IS OF BULK AT MOST 1048576: true; the input reads as it did. -/
def fnExactKingNumbersUptoRow : OpenClaim := { program := "ytgdaenffcldfnaa", sum := "fd245b8f4e9a1d79d82cfc3d92cab4e784bde2c3816d695fb2d3c06fed62fdc1", func := "loop.example/g01125/laws.FnExactKingNumbers", spec := "fnExactKingNumbers", unfollowed := true, recurses := true, apart := false, narrowed := true }
def FnExactKingNumbersUptoSaid : Prop := fnExactKingNumbersUptoRow.holds Try.pinned (OpenSpec.upto fnExactKingNumbersSpec)

/-- 'laws.FnQueensWatch', WHERE WHAT IT READS IS OF BULK AT MOST 1048576: true; the input reads as it did. -/
def fnQueensWatchUptoRow : OpenClaim := { program := "ytgdaenffcldfnaa", sum := "fd245b8f4e9a1d79d82cfc3d92cab4e784bde2c3816d695fb2d3c06fed62fdc1", func := "loop.example/g01125/laws.FnQueensWatch", spec := "fnQueensWatch", unfollowed := true, recurses := true, apart := false, narrowed := true }
def FnQueensWatchUptoSaid : Prop := fnQueensWatchUptoRow.holds Try.pinned (OpenSpec.upto fnQueensWatchSpec)

/-- 'laws.FnExactCyclesOfFiles', WHERE WHAT IT READS IS OF BULK AT MOST 1048576: true; the input reads as it did. -/
def fnExactCyclesOfFilesUptoRow : OpenClaim := { program := "ytgdaenffcldfnaa", sum := "fd245b8f4e9a1d79d82cfc3d92cab4e784bde2c3816d695fb2d3c06fed62fdc1", func := "loop.example/g01125/laws.FnExactCyclesOfFiles", spec := "fnExactCyclesOfFiles", inPlace := ["slices.overlaps[int]"], unfollowed := true, recurses := true, apart := false, narrowed := true }
def FnExactCyclesOfFilesUptoSaid : Prop := fnExactCyclesOfFilesUptoRow.holds Try.pinned (OpenSpec.upto fnExactCyclesOfFilesSpec)

/-- 'laws.FnKindsOfNumbers', WHERE WHAT IT READS IS OF BULK AT MOST 1048576: true; the input reads as it did. -/
def fnKindsOfNumbersUptoRow : OpenClaim := { program := "ytgdaenffcldfnaa", sum := "fd245b8f4e9a1d79d82cfc3d92cab4e784bde2c3816d695fb2d3c06fed62fdc1", func := "loop.example/g01125/laws.FnKindsOfNumbers", spec := "fnKindsOfNumbers", unfollowed := true, recurses := true, apart := false, narrowed := true }
def FnKindsOfNumbersUptoSaid : Prop := fnKindsOfNumbersUptoRow.holds Try.pinned (OpenSpec.upto fnKindsOfNumbersSpec)

/-- 'laws.FnExactFirstKings', WHERE WHAT IT READS IS OF BULK AT MOST 1048576: true; the input reads as it did. -/
def fnExactFirstKingsUptoRow : OpenClaim := { program := "ytgdaenffcldfnaa", sum := "fd245b8f4e9a1d79d82cfc3d92cab4e784bde2c3816d695fb2d3c06fed62fdc1", func := "loop.example/g01125/laws.FnExactFirstKings", spec := "fnExactFirstKings", unfollowed := true, recurses := true, apart := false, narrowed := true }
def FnExactFirstKingsUptoSaid : Prop := fnExactFirstKingsUptoRow.holds Try.pinned (OpenSpec.upto fnExactFirstKingsSpec)

/-- 'laws.FnRookNumbersAddUp', WHERE WHAT IT READS IS OF BULK AT MOST 1048576: true; the input reads as it did. -/
def fnRookNumbersAddUpUptoRow : OpenClaim := { program := "ytgdaenffcldfnaa", sum := "fd245b8f4e9a1d79d82cfc3d92cab4e784bde2c3816d695fb2d3c06fed62fdc1", func := "loop.example/g01125/laws.FnRookNumbersAddUp", spec := "fnRookNumbersAddUp", unfollowed := true, recurses := true, apart := false, narrowed := true }
def FnRookNumbersAddUpUptoSaid : Prop := fnRookNumbersAddUpUptoRow.holds Try.pinned (OpenSpec.upto fnRookNumbersAddUpSpec)

/-- 'laws.FnFilesAreCycles', WHERE WHAT IT READS IS OF BULK AT MOST 1048576: true; the input reads as it did. -/
def fnFilesAreCyclesUptoRow : OpenClaim := { program := "ytgdaenffcldfnaa", sum := "fd245b8f4e9a1d79d82cfc3d92cab4e784bde2c3816d695fb2d3c06fed62fdc1", func := "loop.example/g01125/laws.FnFilesAreCycles", spec := "fnFilesAreCycles", inPlace := ["slices.overlaps[int]"], unfollowed := true, recurses := true, apart := false, narrowed := true }
def FnFilesAreCyclesUptoSaid : Prop := fnFilesAreCyclesUptoRow.holds Try.pinned (OpenSpec.upto fnFilesAreCyclesSpec)

/-- 'laws.FnNeededAndUseless', WHERE WHAT IT READS IS OF BULK AT MOST 1048576: true; the input reads as it did. -/
def fnNeededAndUselessUptoRow : OpenClaim := { program := "ytgdaenffcldfnaa", sum := "fd245b8f4e9a1d79d82cfc3d92cab4e784bde2c3816d695fb2d3c06fed62fdc1", func := "loop.example/g01125/laws.FnNeededAndUseless", spec := "fnNeededAndUseless", unfollowed := true, recurses := true, apart := false, narrowed := true }
def FnNeededAndUselessUptoSaid : Prop := fnNeededAndUselessUptoRow.holds Try.pinned (OpenSpec.upto fnNeededAndUselessSpec)

/-- 'laws.FnPiecesQuiet', WHERE WHAT IT READS IS OF BULK AT MOST 1048576: true; the input reads as it did. -/
def fnPiecesQuietUptoRow : OpenClaim := { program := "ytgdaenffcldfnaa", sum := "fd245b8f4e9a1d79d82cfc3d92cab4e784bde2c3816d695fb2d3c06fed62fdc1", func := "loop.example/g01125/laws.FnPiecesQuiet", spec := "fnPiecesQuiet", unfollowed := true, recurses := true, apart := false, narrowed := true }
def FnPiecesQuietUptoSaid : Prop := fnPiecesQuietUptoRow.holds Try.pinned (OpenSpec.upto fnPiecesQuietSpec)

/-- 'laws.FnExactBishopsOf', WHERE WHAT IT READS IS OF BULK AT MOST 1048576: true; the input reads as it did. -/
def fnExactBishopsOfUptoRow : OpenClaim := { program := "ytgdaenffcldfnaa", sum := "fd245b8f4e9a1d79d82cfc3d92cab4e784bde2c3816d695fb2d3c06fed62fdc1", func := "loop.example/g01125/laws.FnExactBishopsOf", spec := "fnExactBishopsOf", unfollowed := true, recurses := true, apart := false, narrowed := true }
def FnExactBishopsOfUptoSaid : Prop := fnExactBishopsOfUptoRow.holds Try.pinned (OpenSpec.upto fnExactBishopsOfSpec)

end Rows
end Go.Proofs.Ytgdaenffcldfnaa
