/-
  No cell of these rows narrows 'for every input' (looked for: loops, veiled, ifaces, maps, wideKeys, modest, calm, conditions, laid).
  DERIVED. THE GIVEN ROWS OF THIS SEAT. 6 by the template 'for every input the law returns true; each argument reads behind the call as it read before'; 0 by the template 'total and deterministic' (their statements: YtalokfkgggfpkaaTotals.lean).
  GIVEN WITH THE SEED: the statements are not yours to turn. If you find one false, say at which input.
  Laid BY PROGRAM, IN A SANDBOX (cutbox-rows.mjs): the forced cells as the released guide's own fill.sh prints them over the translation d5ed0bb2b7615bbe… (all of the seat's roots in one cut). By AI agents, Wed Nov 11 2026. No macro, syntax, notation, axiom, sorry.
-/
import Derived.Test.YtalokfkgggfpkaaChecked
import GoSem.Claim
import GoSem.ClaimJoined
import GoSem.ClaimMapViews
import Derived.JoinedTies
import Derived.KernelRfl
namespace Go.Proofs.Ytalokfkgggfpkaa
/- THE CELL 'sum', in the pinned program and in every row, IS THE sha256 OF THE DUMP (.gsa) THAT YtalokfkgggfpkaaProg.lean LOADS. Nothing in Lean hashes anything: it is a label: what it is worth is what the hold of that sum in a sandbox is worth. -/
noncomputable def Try.pinned : Pinned := { name := "ytalokfkgggfpkaa", sum := "d5ed0bb2b7615bbe5bc69425ad600b51393bc2d488e3c1e4da52d323b5d47ef9", checked := Try.checked }
namespace Rows
def none {H : Type} : Left H := { results := [], args := [] }

/-- 'laws.FnExactIsPlain': WHATEVER THE INPUT: true; the input reads as it did. -/
def fnExactIsPlainSpec : ChangeSpec := { name := "fnExactIsPlain", fn := fun _ => fun
  | [d] => { results := [.lit (.bool true)], args := [d] }
  | _ => none }
def fnExactIsPlainRow : OpenClaim := { program := "ytalokfkgggfpkaa", sum := "d5ed0bb2b7615bbe5bc69425ad600b51393bc2d488e3c1e4da52d323b5d47ef9", func := "loop.example/g01411/laws.FnExactIsPlain", spec := "fnExactIsPlain", unfollowed := true, recurses := true, apart := false }
def FnExactIsPlainSaid : Prop := fnExactIsPlainRow.holds Try.pinned (OpenSpec.ofChange fnExactIsPlainSpec)

/-- ITS FALSE NEIGHBOUR: 'it returns false'. Refute it at one input. -/
def fnExactIsPlainWrong : ChangeSpec := { name := "fnExactIsPlain", fn := fun _ => fun
  | [d] => { results := [.lit (.bool false)], args := [d] }
  | _ => none }
def FnExactIsPlainWrongFalsely : Prop := fnExactIsPlainRow.holds Try.pinned (OpenSpec.ofChange fnExactIsPlainWrong)

/-- 'laws.FnExactIsSlip': WHATEVER THE INPUT: true; the input reads as it did. -/
def fnExactIsSlipSpec : ChangeSpec := { name := "fnExactIsSlip", fn := fun _ => fun
  | [d1, d2] => { results := [.lit (.bool true)], args := [d1, d2] }
  | _ => none }
def fnExactIsSlipRow : OpenClaim := { program := "ytalokfkgggfpkaa", sum := "d5ed0bb2b7615bbe5bc69425ad600b51393bc2d488e3c1e4da52d323b5d47ef9", func := "loop.example/g01411/laws.FnExactIsSlip", spec := "fnExactIsSlip", apart := false }
def FnExactIsSlipSaid : Prop := fnExactIsSlipRow.holds Try.pinned (OpenSpec.ofChange fnExactIsSlipSpec)

/-- ITS FALSE NEIGHBOUR: 'it returns false'. Refute it at one input. -/
def fnExactIsSlipWrong : ChangeSpec := { name := "fnExactIsSlip", fn := fun _ => fun
  | [d1, d2] => { results := [.lit (.bool false)], args := [d1, d2] }
  | _ => none }
def FnExactIsSlipWrongFalsely : Prop := fnExactIsSlipRow.holds Try.pinned (OpenSpec.ofChange fnExactIsSlipWrong)

/-- 'laws.FnExactFullSlip': WHATEVER THE INPUT: true; the input reads as it did. -/
def fnExactFullSlipSpec : ChangeSpec := { name := "fnExactFullSlip", fn := fun _ => fun
  | [d] => { results := [.lit (.bool true)], args := [d] }
  | _ => none }
def fnExactFullSlipRow : OpenClaim := { program := "ytalokfkgggfpkaa", sum := "d5ed0bb2b7615bbe5bc69425ad600b51393bc2d488e3c1e4da52d323b5d47ef9", func := "loop.example/g01411/laws.FnExactFullSlip", spec := "fnExactFullSlip", apart := false }
def FnExactFullSlipSaid : Prop := fnExactFullSlipRow.holds Try.pinned (OpenSpec.ofChange fnExactFullSlipSpec)

/-- ITS FALSE NEIGHBOUR: 'it returns false'. Refute it at one input. -/
def fnExactFullSlipWrong : ChangeSpec := { name := "fnExactFullSlip", fn := fun _ => fun
  | [d] => { results := [.lit (.bool false)], args := [d] }
  | _ => none }
def FnExactFullSlipWrongFalsely : Prop := fnExactFullSlipRow.holds Try.pinned (OpenSpec.ofChange fnExactFullSlipWrong)

/-- 'laws.FnExactColumnsFor': WHATEVER THE INPUT: true; the input reads as it did. -/
def fnExactColumnsForSpec : ChangeSpec := { name := "fnExactColumnsFor", fn := fun _ => fun
  | [d1, d2] => { results := [.lit (.bool true)], args := [d1, d2] }
  | _ => none }
def fnExactColumnsForRow : OpenClaim := { program := "ytalokfkgggfpkaa", sum := "d5ed0bb2b7615bbe5bc69425ad600b51393bc2d488e3c1e4da52d323b5d47ef9", func := "loop.example/g01411/laws.FnExactColumnsFor", spec := "fnExactColumnsFor", unfollowed := true, recurses := true, apart := false }
def FnExactColumnsForSaid : Prop := fnExactColumnsForRow.holds Try.pinned (OpenSpec.ofChange fnExactColumnsForSpec)

/-- ITS FALSE NEIGHBOUR: 'it returns false'. Refute it at one input. -/
def fnExactColumnsForWrong : ChangeSpec := { name := "fnExactColumnsFor", fn := fun _ => fun
  | [d1, d2] => { results := [.lit (.bool false)], args := [d1, d2] }
  | _ => none }
def FnExactColumnsForWrongFalsely : Prop := fnExactColumnsForRow.holds Try.pinned (OpenSpec.ofChange fnExactColumnsForWrong)

/-- 'laws.FnExactHitsOf': WHATEVER THE INPUT: true; the input reads as it did. -/
def fnExactHitsOfSpec : ChangeSpec := { name := "fnExactHitsOf", fn := fun _ => fun
  | [d1, d2, d3] => { results := [.lit (.bool true)], args := [d1, d2, d3] }
  | _ => none }
def fnExactHitsOfRow : OpenClaim := { program := "ytalokfkgggfpkaa", sum := "d5ed0bb2b7615bbe5bc69425ad600b51393bc2d488e3c1e4da52d323b5d47ef9", func := "loop.example/g01411/laws.FnExactHitsOf", spec := "fnExactHitsOf", apart := false }
def FnExactHitsOfSaid : Prop := fnExactHitsOfRow.holds Try.pinned (OpenSpec.ofChange fnExactHitsOfSpec)

/-- ITS FALSE NEIGHBOUR: 'it returns false'. Refute it at one input. -/
def fnExactHitsOfWrong : ChangeSpec := { name := "fnExactHitsOf", fn := fun _ => fun
  | [d1, d2, d3] => { results := [.lit (.bool false)], args := [d1, d2, d3] }
  | _ => none }
def FnExactHitsOfWrongFalsely : Prop := fnExactHitsOfRow.holds Try.pinned (OpenSpec.ofChange fnExactHitsOfWrong)

/-- 'laws.FnExactCountBets': WHATEVER THE INPUT: true; the input reads as it did. -/
def fnExactCountBetsSpec : ChangeSpec := { name := "fnExactCountBets", fn := fun _ => fun
  | [d1, d2] => { results := [.lit (.bool true)], args := [d1, d2] }
  | _ => none }
def fnExactCountBetsRow : OpenClaim := { program := "ytalokfkgggfpkaa", sum := "d5ed0bb2b7615bbe5bc69425ad600b51393bc2d488e3c1e4da52d323b5d47ef9", func := "loop.example/g01411/laws.FnExactCountBets", spec := "fnExactCountBets", apart := false }
def FnExactCountBetsSaid : Prop := fnExactCountBetsRow.holds Try.pinned (OpenSpec.ofChange fnExactCountBetsSpec)

/-- ITS FALSE NEIGHBOUR: 'it returns false'. Refute it at one input. -/
def fnExactCountBetsWrong : ChangeSpec := { name := "fnExactCountBets", fn := fun _ => fun
  | [d1, d2] => { results := [.lit (.bool false)], args := [d1, d2] }
  | _ => none }
def FnExactCountBetsWrongFalsely : Prop := fnExactCountBetsRow.holds Try.pinned (OpenSpec.ofChange fnExactCountBetsWrong)

/- THE SECOND FORM. 'bulk': how many values and letters a reading holds, each counted each time it is reached (what is shared counts as often as it is met; a slice's spare places count too). A statement '..UptoSaid' is the law's where the arguments, and the package variables that the reading takes, are together of bulk at most 1048576: NARROWER than '..Said'. Prove '..Said' where nothing that the law and all that it calls make is longer than what came in: it says more and counts as full. Else prove '..UptoSaid'. A law counts once. -/
mutual
def uptoBulk {H : Type} : DataW H → Nat
  | .lit (.string bytes) => bytes.length + 1
  | .lit _ => 1
  | .nil => 1
  | .ptr d => uptoBulk d + 1
  | .slice elems spare => uptoBulkAll elems + uptoBulkAll spare + 1
  | .agg parts => uptoBulkAll parts + 1
  | .iface _ d => uptoBulk d + 1
  | .map entries => uptoBulkEntries entries + 1
  | .held _ => 1
def uptoBulkAll {H : Type} : List (DataW H) → Nat
  | [] => 0
  | d :: r => uptoBulk d + uptoBulkAll r
def uptoBulkEntries {H : Type} : List (Lit × DataW H) → Nat
  | [] => 0
  | x :: r => uptoBulkEntry x + uptoBulkEntries r
def uptoBulkEntry {H : Type} : Lit × DataW H → Nat
  | (.string bytes, d) => bytes.length + uptoBulk d + 1
  | (_, d) => uptoBulk d + 1
 end
def uptoSmall : (H : Type) → List (DataW H) → Bool := fun _ ds => decide (uptoBulkAll ds ≤ 1048576)
def OpenSpec.upto (s : _root_.Go.ChangeSpec) : _root_.Go.OpenSpec := { _root_.Go.OpenSpec.ofChange s with cond := some uptoSmall }

/-- 'laws.FnExactIsPlain', WHERE WHAT IT READS IS OF BULK AT MOST 1048576: true; the input reads as it did. -/
def fnExactIsPlainUptoRow : OpenClaim := { program := "ytalokfkgggfpkaa", sum := "d5ed0bb2b7615bbe5bc69425ad600b51393bc2d488e3c1e4da52d323b5d47ef9", func := "loop.example/g01411/laws.FnExactIsPlain", spec := "fnExactIsPlain", unfollowed := true, recurses := true, apart := false, narrowed := true }
def FnExactIsPlainUptoSaid : Prop := fnExactIsPlainUptoRow.holds Try.pinned (OpenSpec.upto fnExactIsPlainSpec)

/-- 'laws.FnExactIsSlip', WHERE WHAT IT READS IS OF BULK AT MOST 1048576: true; the input reads as it did. -/
def fnExactIsSlipUptoRow : OpenClaim := { program := "ytalokfkgggfpkaa", sum := "d5ed0bb2b7615bbe5bc69425ad600b51393bc2d488e3c1e4da52d323b5d47ef9", func := "loop.example/g01411/laws.FnExactIsSlip", spec := "fnExactIsSlip", apart := false, narrowed := true }
def FnExactIsSlipUptoSaid : Prop := fnExactIsSlipUptoRow.holds Try.pinned (OpenSpec.upto fnExactIsSlipSpec)

/-- 'laws.FnExactFullSlip', WHERE WHAT IT READS IS OF BULK AT MOST 1048576: true; the input reads as it did. -/
def fnExactFullSlipUptoRow : OpenClaim := { program := "ytalokfkgggfpkaa", sum := "d5ed0bb2b7615bbe5bc69425ad600b51393bc2d488e3c1e4da52d323b5d47ef9", func := "loop.example/g01411/laws.FnExactFullSlip", spec := "fnExactFullSlip", apart := false, narrowed := true }
def FnExactFullSlipUptoSaid : Prop := fnExactFullSlipUptoRow.holds Try.pinned (OpenSpec.upto fnExactFullSlipSpec)

/-- 'laws.FnExactColumnsFor', WHERE WHAT IT READS IS OF BULK AT MOST 1048576: true; the input reads as it did. -/
def fnExactColumnsForUptoRow : OpenClaim := { program := "ytalokfkgggfpkaa", sum := "d5ed0bb2b7615bbe5bc69425ad600b51393bc2d488e3c1e4da52d323b5d47ef9", func := "loop.example/g01411/laws.FnExactColumnsFor", spec := "fnExactColumnsFor", unfollowed := true, recurses := true, apart := false, narrowed := true }
def FnExactColumnsForUptoSaid : Prop := fnExactColumnsForUptoRow.holds Try.pinned (OpenSpec.upto fnExactColumnsForSpec)

/-- 'laws.FnExactHitsOf', WHERE WHAT IT READS IS OF BULK AT MOST 1048576: true; the input reads as it did. -/
def fnExactHitsOfUptoRow : OpenClaim := { program := "ytalokfkgggfpkaa", sum := "d5ed0bb2b7615bbe5bc69425ad600b51393bc2d488e3c1e4da52d323b5d47ef9", func := "loop.example/g01411/laws.FnExactHitsOf", spec := "fnExactHitsOf", apart := false, narrowed := true }
def FnExactHitsOfUptoSaid : Prop := fnExactHitsOfUptoRow.holds Try.pinned (OpenSpec.upto fnExactHitsOfSpec)

/-- 'laws.FnExactCountBets', WHERE WHAT IT READS IS OF BULK AT MOST 1048576: true; the input reads as it did. -/
def fnExactCountBetsUptoRow : OpenClaim := { program := "ytalokfkgggfpkaa", sum := "d5ed0bb2b7615bbe5bc69425ad600b51393bc2d488e3c1e4da52d323b5d47ef9", func := "loop.example/g01411/laws.FnExactCountBets", spec := "fnExactCountBets", apart := false, narrowed := true }
def FnExactCountBetsUptoSaid : Prop := fnExactCountBetsUptoRow.holds Try.pinned (OpenSpec.upto fnExactCountBetsSpec)

end Rows
end Go.Proofs.Ytalokfkgggfpkaa
