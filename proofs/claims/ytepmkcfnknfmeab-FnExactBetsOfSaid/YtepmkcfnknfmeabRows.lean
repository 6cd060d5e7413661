/-
  No cell of these rows narrows 'for every input' (looked for: loops, veiled, ifaces, maps, wideKeys, modest, calm, conditions, laid).
  DERIVED. THE GIVEN ROWS OF THIS SEAT. 6 by the template 'for every input the law returns true; each argument reads behind the call as it read before'; 0 by the template 'total and deterministic' (their statements: YtepmkcfnknfmeabTotals.lean).
  GIVEN WITH THE SEED: the statements are not yours to turn. If you find one false, say at which input.
  Laid BY PROGRAM, IN A SANDBOX (cutbox-rows.mjs): the forced cells as the released guide's own fill.sh prints them over the translation 81d324354715f3f3… (all of the seat's roots in one cut). By AI agents, Wed Nov 11 2026. No macro, syntax, notation, axiom, sorry.
-/
import Derived.Test.YtepmkcfnknfmeabChecked
import GoSem.Claim
import GoSem.ClaimJoined
import GoSem.ClaimMapViews
import Derived.JoinedTies
import Derived.KernelRfl
namespace Go.Proofs.Ytepmkcfnknfmeab
/- THE CELL 'sum', in the pinned program and in every row, IS THE sha256 OF THE DUMP (.gsa) THAT YtepmkcfnknfmeabProg.lean LOADS. Nothing in Lean hashes anything: it is a label: what it is worth is what the hold of that sum in a sandbox is worth. -/
noncomputable def Try.pinned : Pinned := { name := "ytepmkcfnknfmeab", sum := "81d324354715f3f387ffe5894581336b0efd1e4a777c403c6be55d5f84147cc6", checked := Try.checked }
namespace Rows
def none {H : Type} : Left H := { results := [], args := [] }

/-- 'laws.FnExactLeastSlip': WHATEVER THE INPUT: true; the input reads as it did. -/
def fnExactLeastSlipSpec : ChangeSpec := { name := "fnExactLeastSlip", fn := fun _ => fun
  | [d1, d2] => { results := [.lit (.bool true)], args := [d1, d2] }
  | _ => none }
def fnExactLeastSlipRow : OpenClaim := { program := "ytepmkcfnknfmeab", sum := "81d324354715f3f387ffe5894581336b0efd1e4a777c403c6be55d5f84147cc6", func := "loop.example/g01411/laws.FnExactLeastSlip", spec := "fnExactLeastSlip", apart := false }
def FnExactLeastSlipSaid : Prop := fnExactLeastSlipRow.holds Try.pinned (OpenSpec.ofChange fnExactLeastSlipSpec)

/-- ITS FALSE NEIGHBOUR: 'it returns false'. Refute it at one input. -/
def fnExactLeastSlipWrong : ChangeSpec := { name := "fnExactLeastSlip", fn := fun _ => fun
  | [d1, d2] => { results := [.lit (.bool false)], args := [d1, d2] }
  | _ => none }
def FnExactLeastSlipWrongFalsely : Prop := fnExactLeastSlipRow.holds Try.pinned (OpenSpec.ofChange fnExactLeastSlipWrong)

/-- 'laws.FnExactBetsOf': WHATEVER THE INPUT: true; the input reads as it did. -/
def fnExactBetsOfSpec : ChangeSpec := { name := "fnExactBetsOf", fn := fun _ => fun
  | [d1, d2] => { results := [.lit (.bool true)], args := [d1, d2] }
  | _ => none }
def fnExactBetsOfRow : OpenClaim := { program := "ytepmkcfnknfmeab", sum := "81d324354715f3f387ffe5894581336b0efd1e4a777c403c6be55d5f84147cc6", func := "loop.example/g01411/laws.FnExactBetsOf", spec := "fnExactBetsOf", unfollowed := true, recurses := true, apart := false }
def FnExactBetsOfSaid : Prop := fnExactBetsOfRow.holds Try.pinned (OpenSpec.ofChange fnExactBetsOfSpec)

/-- ITS FALSE NEIGHBOUR: 'it returns false'. Refute it at one input. -/
def fnExactBetsOfWrong : ChangeSpec := { name := "fnExactBetsOf", fn := fun _ => fun
  | [d1, d2] => { results := [.lit (.bool false)], args := [d1, d2] }
  | _ => none }
def FnExactBetsOfWrongFalsely : Prop := fnExactBetsOfRow.holds Try.pinned (OpenSpec.ofChange fnExactBetsOfWrong)

/-- 'laws.FnExactSplitSlip': WHATEVER THE INPUT: true; the input reads as it did. -/
def fnExactSplitSlipSpec : ChangeSpec := { name := "fnExactSplitSlip", fn := fun _ => fun
  | [d1, d2, d3] => { results := [.lit (.bool true)], args := [d1, d2, d3] }
  | _ => none }
def fnExactSplitSlipRow : OpenClaim := { program := "ytepmkcfnknfmeab", sum := "81d324354715f3f387ffe5894581336b0efd1e4a777c403c6be55d5f84147cc6", func := "loop.example/g01411/laws.FnExactSplitSlip", spec := "fnExactSplitSlip", apart := false }
def FnExactSplitSlipSaid : Prop := fnExactSplitSlipRow.holds Try.pinned (OpenSpec.ofChange fnExactSplitSlipSpec)

/-- ITS FALSE NEIGHBOUR: 'it returns false'. Refute it at one input. -/
def fnExactSplitSlipWrong : ChangeSpec := { name := "fnExactSplitSlip", fn := fun _ => fun
  | [d1, d2, d3] => { results := [.lit (.bool false)], args := [d1, d2, d3] }
  | _ => none }
def FnExactSplitSlipWrongFalsely : Prop := fnExactSplitSlipRow.holds Try.pinned (OpenSpec.ofChange fnExactSplitSlipWrong)

/-- 'laws.FnExactBestHits': WHATEVER THE INPUT: true; the input reads as it did. -/
def fnExactBestHitsSpec : ChangeSpec := { name := "fnExactBestHits", fn := fun _ => fun
  | [d1, d2, d3] => { results := [.lit (.bool true)], args := [d1, d2, d3] }
  | _ => none }
def fnExactBestHitsRow : OpenClaim := { program := "ytepmkcfnknfmeab", sum := "81d324354715f3f387ffe5894581336b0efd1e4a777c403c6be55d5f84147cc6", func := "loop.example/g01411/laws.FnExactBestHits", spec := "fnExactBestHits", apart := false }
def FnExactBestHitsSaid : Prop := fnExactBestHitsRow.holds Try.pinned (OpenSpec.ofChange fnExactBestHitsSpec)

/-- ITS FALSE NEIGHBOUR: 'it returns false'. Refute it at one input. -/
def fnExactBestHitsWrong : ChangeSpec := { name := "fnExactBestHits", fn := fun _ => fun
  | [d1, d2, d3] => { results := [.lit (.bool false)], args := [d1, d2, d3] }
  | _ => none }
def FnExactBestHitsWrongFalsely : Prop := fnExactBestHitsRow.holds Try.pinned (OpenSpec.ofChange fnExactBestHitsWrong)

/-- 'laws.FnExactPerfectRadius': WHATEVER THE INPUT: true; the input reads as it did. -/
def fnExactPerfectRadiusSpec : ChangeSpec := { name := "fnExactPerfectRadius", fn := fun _ => fun
  | [d1, d2] => { results := [.lit (.bool true)], args := [d1, d2] }
  | _ => none }
def fnExactPerfectRadiusRow : OpenClaim := { program := "ytepmkcfnknfmeab", sum := "81d324354715f3f387ffe5894581336b0efd1e4a777c403c6be55d5f84147cc6", func := "loop.example/g01411/laws.FnExactPerfectRadius", spec := "fnExactPerfectRadius", unfollowed := true, recurses := true, apart := false }
def FnExactPerfectRadiusSaid : Prop := fnExactPerfectRadiusRow.holds Try.pinned (OpenSpec.ofChange fnExactPerfectRadiusSpec)

/-- ITS FALSE NEIGHBOUR: 'it returns false'. Refute it at one input. -/
def fnExactPerfectRadiusWrong : ChangeSpec := { name := "fnExactPerfectRadius", fn := fun _ => fun
  | [d1, d2] => { results := [.lit (.bool false)], args := [d1, d2] }
  | _ => none }
def FnExactPerfectRadiusWrongFalsely : Prop := fnExactPerfectRadiusRow.holds Try.pinned (OpenSpec.ofChange fnExactPerfectRadiusWrong)

/-- 'laws.FnExactIsPerfect': WHATEVER THE INPUT: true; the input reads as it did. -/
def fnExactIsPerfectSpec : ChangeSpec := { name := "fnExactIsPerfect", fn := fun _ => fun
  | [d1, d2, d3] => { results := [.lit (.bool true)], args := [d1, d2, d3] }
  | _ => none }
def fnExactIsPerfectRow : OpenClaim := { program := "ytepmkcfnknfmeab", sum := "81d324354715f3f387ffe5894581336b0efd1e4a777c403c6be55d5f84147cc6", func := "loop.example/g01411/laws.FnExactIsPerfect", spec := "fnExactIsPerfect", unfollowed := true, recurses := true, apart := false }
def FnExactIsPerfectSaid : Prop := fnExactIsPerfectRow.holds Try.pinned (OpenSpec.ofChange fnExactIsPerfectSpec)

/-- ITS FALSE NEIGHBOUR: 'it returns false'. Refute it at one input. -/
def fnExactIsPerfectWrong : ChangeSpec := { name := "fnExactIsPerfect", fn := fun _ => fun
  | [d1, d2, d3] => { results := [.lit (.bool false)], args := [d1, d2, d3] }
  | _ => none }
def FnExactIsPerfectWrongFalsely : Prop := fnExactIsPerfectRow.holds Try.pinned (OpenSpec.ofChange fnExactIsPerfectWrong)

/- THE SECOND FORM. 'bulk': how many values and letters a reading holds, each counted each time it is reached (what is shared counts as often as it is met; a slice's spare places count too). A statement '..UptoSaid' is the law's where the arguments, and the package variables that the reading takes, are together of bulk at most 1048576: NARROWER than '..Said'. Prove '..Said' where nothing that the law and all that it calls make is longer than what came in: it says more and counts as full. Else prove '..UptoSaid'. A law counts once. -/
mutual
def uptoBulk {H : Type} : DataW H → Nat
  | .lit (.string bytes) => bytes.length + 1
  | .lit _ => 1
  | .nil => 1
  | .ptr d => uptoBulk d + 1
  | .slice elems spare => uptoBulkAll elems + uptoBulkAll spare + 1
  | .agg parts => uptoBulkAll parts + 1
  | .iface _ d => uptoBulk d + 1
  | .map entries => uptoBulkEntries entries + 1
  | .held _ => 1
def uptoBulkAll {H : Type} : List (DataW H) → Nat
  | [] => 0
  | d :: r => uptoBulk d + uptoBulkAll r
def uptoBulkEntries {H : Type} : List (Lit × DataW H) → Nat
  | [] => 0
  | x :: r => uptoBulkEntry x + uptoBulkEntries r
def uptoBulkEntry {H : Type} : Lit × DataW H → Nat
  | (.string bytes, d) => bytes.length + uptoBulk d + 1
  | (_, d) => uptoBulk d + 1
 end
def uptoSmall : (H : Type) → List (DataW H) → Bool := fun _ ds => decide (uptoBulkAll ds ≤ 1048576)
def OpenSpec.upto (s : _root_.Go.ChangeSpec) : _root_.Go.OpenSpec := { _root_.Go.OpenSpec.ofChange s with cond := some uptoSmall }

/-- 'laws.FnExactLeastSlip', WHERE WHAT IT READS IS OF BULK AT MOST 1048576: true; the input reads as it did. -/
def fnExactLeastSlipUptoRow : OpenClaim := { program := "ytepmkcfnknfmeab", sum := "81d324354715f3f387ffe5894581336b0efd1e4a777c403c6be55d5f84147cc6", func := "loop.example/g01411/laws.FnExactLeastSlip", spec := "fnExactLeastSlip", apart := false, narrowed := true }
def FnExactLeastSlipUptoSaid : Prop := fnExactLeastSlipUptoRow.holds Try.pinned (OpenSpec.upto fnExactLeastSlipSpec)

/-- 'laws.FnExactBetsOf', WHERE WHAT IT READS IS OF BULK AT MOST 1048576: true; the input reads as it did. -/
def fnExactBetsOfUptoRow : OpenClaim := { program := "ytepmkcfnknfmeab", sum := "81d324354715f3f387ffe5894581336b0efd1e4a777c403c6be55d5f84147cc6", func := "loop.example/g01411/laws.FnExactBetsOf", spec := "fnExactBetsOf", unfollowed := true, recurses := true, apart := false, narrowed := true }
def FnExactBetsOfUptoSaid : Prop := fnExactBetsOfUptoRow.holds Try.pinned (OpenSpec.upto fnExactBetsOfSpec)

/-- 'laws.FnExactSplitSlip', WHERE WHAT IT READS IS OF BULK AT MOST 1048576: true; the input reads as it did. -/
def fnExactSplitSlipUptoRow : OpenClaim := { program := "ytepmkcfnknfmeab", sum := "81d324354715f3f387ffe5894581336b0efd1e4a777c403c6be55d5f84147cc6", func := "loop.example/g01411/laws.FnExactSplitSlip", spec := "fnExactSplitSlip", apart := false, narrowed := true }
def FnExactSplitSlipUptoSaid : Prop := fnExactSplitSlipUptoRow.holds Try.pinned (OpenSpec.upto fnExactSplitSlipSpec)

/-- 'laws.FnExactBestHits', WHERE WHAT IT READS IS OF BULK AT MOST 1048576: true; the input reads as it did. -/
def fnExactBestHitsUptoRow : OpenClaim := { program := "ytepmkcfnknfmeab", sum := "81d324354715f3f387ffe5894581336b0efd1e4a777c403c6be55d5f84147cc6", func := "loop.example/g01411/laws.FnExactBestHits", spec := "fnExactBestHits", apart := false, narrowed := true }
def FnExactBestHitsUptoSaid : Prop := fnExactBestHitsUptoRow.holds Try.pinned (OpenSpec.upto fnExactBestHitsSpec)

/-- 'laws.FnExactPerfectRadius', WHERE WHAT IT READS IS OF BULK AT MOST 1048576: true; the input reads as it did. -/
def fnExactPerfectRadiusUptoRow : OpenClaim := { program := "ytepmkcfnknfmeab", sum := "81d324354715f3f387ffe5894581336b0efd1e4a777c403c6be55d5f84147cc6", func := "loop.example/g01411/laws.FnExactPerfectRadius", spec := "fnExactPerfectRadius", unfollowed := true, recurses := true, apart := false, narrowed := true }
def FnExactPerfectRadiusUptoSaid : Prop := fnExactPerfectRadiusUptoRow.holds Try.pinned (OpenSpec.upto fnExactPerfectRadiusSpec)

/-- 'laws.FnExactIsPerfect', WHERE WHAT IT READS IS OF BULK AT MOST 1048576: true; the input reads as it did. -/
def fnExactIsPerfectUptoRow : OpenClaim := { program := "ytepmkcfnknfmeab", sum := "81d324354715f3f387ffe5894581336b0efd1e4a777c403c6be55d5f84147cc6", func := "loop.example/g01411/laws.FnExactIsPerfect", spec := "fnExactIsPerfect", unfollowed := true, recurses := true, apart := false, narrowed := true }
def FnExactIsPerfectUptoSaid : Prop := fnExactIsPerfectUptoRow.holds Try.pinned (OpenSpec.upto fnExactIsPerfectSpec)

end Rows
end Go.Proofs.Ytepmkcfnknfmeab
