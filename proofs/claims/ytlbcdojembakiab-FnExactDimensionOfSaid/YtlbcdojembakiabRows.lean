/-
  No cell of these rows narrows 'for every input' (looked for: loops, veiled, ifaces, maps, wideKeys, modest, calm, conditions, laid).
  DERIVED. THE GIVEN ROWS OF THIS SEAT. 6 by the template 'for every input the law returns true; each argument reads behind the call as it read before'; 0 by the template 'total and deterministic' (their statements: YtlbcdojembakiabTotals.lean).
  GIVEN WITH THE SEED: the statements are not yours to turn. If you find one false, say at which input.
  Laid BY PROGRAM, IN A SANDBOX (cutbox-rows.mjs): the forced cells as the released guide's own fill.sh prints them over the translation 88b92db1b327ddf1… (all of the seat's roots in one cut). By AI agents, Wed Nov 11 2026. No macro, syntax, notation, axiom, sorry.
-/
import Derived.Test.YtlbcdojembakiabChecked
import GoSem.Claim
import GoSem.ClaimJoined
import GoSem.ClaimMapViews
import Derived.JoinedTies
import Derived.KernelRfl
namespace Go.Proofs.Ytlbcdojembakiab
/- THE CELL 'sum', in the pinned program and in every row, IS THE sha256 OF THE DUMP (.gsa) THAT YtlbcdojembakiabProg.lean LOADS. Nothing in Lean hashes anything: it is a label: what it is worth is what the hold of that sum in a sandbox is worth. -/
noncomputable def Try.pinned : Pinned := { name := "ytlbcdojembakiab", sum := "88b92db1b327ddf1ff4e7aa7d0a6517c4c252bbf5db083c9f30a3a21effb06c4", checked := Try.checked }
namespace Rows
def none {H : Type} : Left H := { results := [], args := [] }

/-- 'laws.FnExactDimensionOf': WHATEVER THE INPUT: true; the input reads as it did. -/
def fnExactDimensionOfSpec : ChangeSpec := { name := "fnExactDimensionOf", fn := fun _ => fun
  | [d1, d2] => { results := [.lit (.bool true)], args := [d1, d2] }
  | _ => none }
def fnExactDimensionOfRow : OpenClaim := { program := "ytlbcdojembakiab", sum := "88b92db1b327ddf1ff4e7aa7d0a6517c4c252bbf5db083c9f30a3a21effb06c4", func := "loop.example/g01411/laws.FnExactDimensionOf", spec := "fnExactDimensionOf", unfollowed := true, recurses := true, apart := false }
def FnExactDimensionOfSaid : Prop := fnExactDimensionOfRow.holds Try.pinned (OpenSpec.ofChange fnExactDimensionOfSpec)

/-- ITS FALSE NEIGHBOUR: 'it returns false'. Refute it at one input. -/
def fnExactDimensionOfWrong : ChangeSpec := { name := "fnExactDimensionOf", fn := fun _ => fun
  | [d1, d2] => { results := [.lit (.bool false)], args := [d1, d2] }
  | _ => none }
def FnExactDimensionOfWrongFalsely : Prop := fnExactDimensionOfRow.holds Try.pinned (OpenSpec.ofChange fnExactDimensionOfWrong)

/-- 'laws.FnExactFirstCover': WHATEVER THE INPUT: true; the input reads as it did. -/
def fnExactFirstCoverSpec : ChangeSpec := { name := "fnExactFirstCover", fn := fun _ => fun
  | [d1, d2] => { results := [.lit (.bool true)], args := [d1, d2] }
  | _ => none }
def fnExactFirstCoverRow : OpenClaim := { program := "ytlbcdojembakiab", sum := "88b92db1b327ddf1ff4e7aa7d0a6517c4c252bbf5db083c9f30a3a21effb06c4", func := "loop.example/g01411/laws.FnExactFirstCover", spec := "fnExactFirstCover", unfollowed := true, recurses := true, apart := false }
def FnExactFirstCoverSaid : Prop := fnExactFirstCoverRow.holds Try.pinned (OpenSpec.ofChange fnExactFirstCoverSpec)

/-- ITS FALSE NEIGHBOUR: 'it returns false'. Refute it at one input. -/
def fnExactFirstCoverWrong : ChangeSpec := { name := "fnExactFirstCover", fn := fun _ => fun
  | [d1, d2] => { results := [.lit (.bool false)], args := [d1, d2] }
  | _ => none }
def FnExactFirstCoverWrongFalsely : Prop := fnExactFirstCoverRow.holds Try.pinned (OpenSpec.ofChange fnExactFirstCoverWrong)

/-- 'laws.FnExactWorstResult': WHATEVER THE INPUT: true; the input reads as it did. -/
def fnExactWorstResultSpec : ChangeSpec := { name := "fnExactWorstResult", fn := fun _ => fun
  | [d1, d2, d3] => { results := [.lit (.bool true)], args := [d1, d2, d3] }
  | _ => none }
def fnExactWorstResultRow : OpenClaim := { program := "ytlbcdojembakiab", sum := "88b92db1b327ddf1ff4e7aa7d0a6517c4c252bbf5db083c9f30a3a21effb06c4", func := "loop.example/g01411/laws.FnExactWorstResult", spec := "fnExactWorstResult", unfollowed := true, recurses := true, apart := false }
def FnExactWorstResultSaid : Prop := fnExactWorstResultRow.holds Try.pinned (OpenSpec.ofChange fnExactWorstResultSpec)

/-- ITS FALSE NEIGHBOUR: 'it returns false'. Refute it at one input. -/
def fnExactWorstResultWrong : ChangeSpec := { name := "fnExactWorstResult", fn := fun _ => fun
  | [d1, d2, d3] => { results := [.lit (.bool false)], args := [d1, d2, d3] }
  | _ => none }
def FnExactWorstResultWrongFalsely : Prop := fnExactWorstResultRow.holds Try.pinned (OpenSpec.ofChange fnExactWorstResultWrong)

/-- 'laws.FnExactLeastBasis': WHATEVER THE INPUT: true; the input reads as it did. -/
def fnExactLeastBasisSpec : ChangeSpec := { name := "fnExactLeastBasis", fn := fun _ => fun
  | [d1, d2] => { results := [.lit (.bool true)], args := [d1, d2] }
  | _ => none }
def fnExactLeastBasisRow : OpenClaim := { program := "ytlbcdojembakiab", sum := "88b92db1b327ddf1ff4e7aa7d0a6517c4c252bbf5db083c9f30a3a21effb06c4", func := "loop.example/g01411/laws.FnExactLeastBasis", spec := "fnExactLeastBasis", unfollowed := true, recurses := true, apart := false }
def FnExactLeastBasisSaid : Prop := fnExactLeastBasisRow.holds Try.pinned (OpenSpec.ofChange fnExactLeastBasisSpec)

/-- ITS FALSE NEIGHBOUR: 'it returns false'. Refute it at one input. -/
def fnExactLeastBasisWrong : ChangeSpec := { name := "fnExactLeastBasis", fn := fun _ => fun
  | [d1, d2] => { results := [.lit (.bool false)], args := [d1, d2] }
  | _ => none }
def FnExactLeastBasisWrongFalsely : Prop := fnExactLeastBasisRow.holds Try.pinned (OpenSpec.ofChange fnExactLeastBasisWrong)

/-- 'laws.FnExactGuaranteeOf': WHATEVER THE INPUT: true; the input reads as it did. -/
def fnExactGuaranteeOfSpec : ChangeSpec := { name := "fnExactGuaranteeOf", fn := fun _ => fun
  | [d1, d2, d3] => { results := [.lit (.bool true)], args := [d1, d2, d3] }
  | _ => none }
def fnExactGuaranteeOfRow : OpenClaim := { program := "ytlbcdojembakiab", sum := "88b92db1b327ddf1ff4e7aa7d0a6517c4c252bbf5db083c9f30a3a21effb06c4", func := "loop.example/g01411/laws.FnExactGuaranteeOf", spec := "fnExactGuaranteeOf", unfollowed := true, recurses := true, apart := false }
def FnExactGuaranteeOfSaid : Prop := fnExactGuaranteeOfRow.holds Try.pinned (OpenSpec.ofChange fnExactGuaranteeOfSpec)

/-- ITS FALSE NEIGHBOUR: 'it returns false'. Refute it at one input. -/
def fnExactGuaranteeOfWrong : ChangeSpec := { name := "fnExactGuaranteeOf", fn := fun _ => fun
  | [d1, d2, d3] => { results := [.lit (.bool false)], args := [d1, d2, d3] }
  | _ => none }
def FnExactGuaranteeOfWrongFalsely : Prop := fnExactGuaranteeOfRow.holds Try.pinned (OpenSpec.ofChange fnExactGuaranteeOfWrong)

/-- 'laws.FnExactDualCode': WHATEVER THE INPUT: true; the input reads as it did. -/
def fnExactDualCodeSpec : ChangeSpec := { name := "fnExactDualCode", fn := fun _ => fun
  | [d1, d2] => { results := [.lit (.bool true)], args := [d1, d2] }
  | _ => none }
def fnExactDualCodeRow : OpenClaim := { program := "ytlbcdojembakiab", sum := "88b92db1b327ddf1ff4e7aa7d0a6517c4c252bbf5db083c9f30a3a21effb06c4", func := "loop.example/g01411/laws.FnExactDualCode", spec := "fnExactDualCode", unfollowed := true, recurses := true, apart := false }
def FnExactDualCodeSaid : Prop := fnExactDualCodeRow.holds Try.pinned (OpenSpec.ofChange fnExactDualCodeSpec)

/-- ITS FALSE NEIGHBOUR: 'it returns false'. Refute it at one input. -/
def fnExactDualCodeWrong : ChangeSpec := { name := "fnExactDualCode", fn := fun _ => fun
  | [d1, d2] => { results := [.lit (.bool false)], args := [d1, d2] }
  | _ => none }
def FnExactDualCodeWrongFalsely : Prop := fnExactDualCodeRow.holds Try.pinned (OpenSpec.ofChange fnExactDualCodeWrong)

/- THE SECOND FORM. 'bulk': how many values and letters a reading holds, each counted each time it is reached (what is shared counts as often as it is met; a slice's spare places count too). A statement '..UptoSaid' is the law's where the arguments, and the package variables that the reading takes, are together of bulk at most 1048576: NARROWER than '..Said'. Prove '..Said' where nothing that the law and all that it calls make is longer than what came in: it says more and counts as full. Else prove '..UptoSaid'. A law counts once. -/
mutual
def uptoBulk {H : Type} : DataW H → Nat
  | .lit (.string bytes) => bytes.length + 1
  | .lit _ => 1
  | .nil => 1
  | .ptr d => uptoBulk d + 1
  | .slice elems spare => uptoBulkAll elems + uptoBulkAll spare + 1
  | .agg parts => uptoBulkAll parts + 1
  | .iface _ d => uptoBulk d + 1
  | .map entries => uptoBulkEntries entries + 1
  | .held _ => 1
def uptoBulkAll {H : Type} : List (DataW H) → Nat
  | [] => 0
  | d :: r => uptoBulk d + uptoBulkAll r
def uptoBulkEntries {H : Type} : List (Lit × DataW H) → Nat
  | [] => 0
  | x :: r => uptoBulkEntry x + uptoBulkEntries r
def uptoBulkEntry {H : Type} : Lit × DataW H → Nat
  | (.string bytes, d) => bytes.length + uptoBulk d + 1
  | (_, d) => uptoBulk d + 1
 end
def uptoSmall : (H : Type) → List (DataW H) → Bool := fun _ ds => decide (uptoBulkAll ds ≤ 1048576)
def OpenSpec.upto (s : _root_.Go.ChangeSpec) : _root_.Go.OpenSpec := { _root_.Go.OpenSpec.ofChange s with cond := some uptoSmall }

/-- 'laws.FnExactDimensionOf', WHERE WHAT IT READS IS OF BULK AT MOST 1048576: true; the input reads as it did. -/
def fnExactDimensionOfUptoRow : OpenClaim := { program := "ytlbcdojembakiab", sum := "88b92db1b327ddf1ff4e7aa7d0a6517c4c252bbf5db083c9f30a3a21effb06c4", func := "loop.example/g01411/laws.FnExactDimensionOf", spec := "fnExactDimensionOf", unfollowed := true, recurses := true, apart := false, narrowed := true }
def FnExactDimensionOfUptoSaid : Prop := fnExactDimensionOfUptoRow.holds Try.pinned (OpenSpec.upto fnExactDimensionOfSpec)

/-- 'laws.FnExactFirstCover', WHERE WHAT IT READS IS OF BULK AT MOST 1048576: true; the input reads as it did. -/
def fnExactFirstCoverUptoRow : OpenClaim := { program := "ytlbcdojembakiab", sum := "88b92db1b327ddf1ff4e7aa7d0a6517c4c252bbf5db083c9f30a3a21effb06c4", func := "loop.example/g01411/laws.FnExactFirstCover", spec := "fnExactFirstCover", unfollowed := true, recurses := true, apart := false, narrowed := true }
def FnExactFirstCoverUptoSaid : Prop := fnExactFirstCoverUptoRow.holds Try.pinned (OpenSpec.upto fnExactFirstCoverSpec)

/-- 'laws.FnExactWorstResult', WHERE WHAT IT READS IS OF BULK AT MOST 1048576: true; the input reads as it did. -/
def fnExactWorstResultUptoRow : OpenClaim := { program := "ytlbcdojembakiab", sum := "88b92db1b327ddf1ff4e7aa7d0a6517c4c252bbf5db083c9f30a3a21effb06c4", func := "loop.example/g01411/laws.FnExactWorstResult", spec := "fnExactWorstResult", unfollowed := true, recurses := true, apart := false, narrowed := true }
def FnExactWorstResultUptoSaid : Prop := fnExactWorstResultUptoRow.holds Try.pinned (OpenSpec.upto fnExactWorstResultSpec)

/-- 'laws.FnExactLeastBasis', WHERE WHAT IT READS IS OF BULK AT MOST 1048576: true; the input reads as it did. -/
def fnExactLeastBasisUptoRow : OpenClaim := { program := "ytlbcdojembakiab", sum := "88b92db1b327ddf1ff4e7aa7d0a6517c4c252bbf5db083c9f30a3a21effb06c4", func := "loop.example/g01411/laws.FnExactLeastBasis", spec := "fnExactLeastBasis", unfollowed := true, recurses := true, apart := false, narrowed := true }
def FnExactLeastBasisUptoSaid : Prop := fnExactLeastBasisUptoRow.holds Try.pinned (OpenSpec.upto fnExactLeastBasisSpec)

/-- 'laws.FnExactGuaranteeOf', WHERE WHAT IT READS IS OF BULK AT MOST 1048576: true; the input reads as it did. -/
def fnExactGuaranteeOfUptoRow : OpenClaim := { program := "ytlbcdojembakiab", sum := "88b92db1b327ddf1ff4e7aa7d0a6517c4c252bbf5db083c9f30a3a21effb06c4", func := "loop.example/g01411/laws.FnExactGuaranteeOf", spec := "fnExactGuaranteeOf", unfollowed := true, recurses := true, apart := false, narrowed := true }
def FnExactGuaranteeOfUptoSaid : Prop := fnExactGuaranteeOfUptoRow.holds Try.pinned (OpenSpec.upto fnExactGuaranteeOfSpec)

/-- 'laws.FnExactDualCode', WHERE WHAT IT READS IS OF BULK AT MOST 1048576: true; the input reads as it did. -/
def fnExactDualCodeUptoRow : OpenClaim := { program := "ytlbcdojembakiab", sum := "88b92db1b327ddf1ff4e7aa7d0a6517c4c252bbf5db083c9f30a3a21effb06c4", func := "loop.example/g01411/laws.FnExactDualCode", spec := "fnExactDualCode", unfollowed := true, recurses := true, apart := false, narrowed := true }
def FnExactDualCodeUptoSaid : Prop := fnExactDualCodeUptoRow.holds Try.pinned (OpenSpec.upto fnExactDualCodeSpec)

end Rows
end Go.Proofs.Ytlbcdojembakiab
