/-
  No cell of these rows narrows 'for every input' (looked for: loops, veiled, ifaces, maps, wideKeys, modest, calm, conditions, laid).
  DERIVED. THE GIVEN ROWS OF THIS SEAT. 3 by the template 'for every input the law returns true; each argument reads behind the call as it read before'; 0 by the template 'total and deterministic' (their statements: YtccfejnckmokkaaTotals.lean).
  GIVEN WITH THE SEED: the statements are not yours to turn. If you find one false, say at which input.
  Laid BY PROGRAM, IN A SANDBOX (cutbox-rows.mjs): the forced cells as the released guide's own fill.sh prints them over the translation e6f98eabb1b5e18c… (all of the seat's roots in one cut). By AI agents, Wed Nov 11 2026. No macro, syntax, notation, axiom, sorry.
-/
import Derived.Test.YtccfejnckmokkaaChecked
import GoSem.Claim
import GoSem.ClaimJoined
import GoSem.ClaimMapViews
import Derived.JoinedTies
import Derived.KernelRfl
namespace Go.Proofs.Ytccfejnckmokkaa
/- THE CELL 'sum', in the pinned program and in every row, IS THE sha256 OF THE DUMP (.gsa) THAT YtccfejnckmokkaaProg.lean LOADS. Nothing in Lean hashes anything: it is a label: what it is worth is what the hold of that sum in a sandbox is worth. -/
noncomputable def Try.pinned : Pinned := { name := "ytccfejnckmokkaa", sum := "e6f98eabb1b5e18cc290312610ddb6b6621d0c3d58e0c5280222c91afb30c9ad", checked := Try.checked }
namespace Rows
def none {H : Type} : Left H := { results := [], args := [] }

/-- 'laws.FnExactColumnsFor': WHATEVER THE INPUT: true; the input reads as it did. -/
def fnExactColumnsForSpec : ChangeSpec := { name := "fnExactColumnsFor", fn := fun _ => fun
  | [d1, d2] => { results := [.lit (.bool true)], args := [d1, d2] }
  | _ => none }
def fnExactColumnsForRow : OpenClaim := { program := "ytccfejnckmokkaa", sum := "e6f98eabb1b5e18cc290312610ddb6b6621d0c3d58e0c5280222c91afb30c9ad", func := "loop.example/g01411/laws.FnExactColumnsFor", spec := "fnExactColumnsFor", unfollowed := true, recurses := true, apart := false }
def FnExactColumnsForSaid : Prop := fnExactColumnsForRow.holds Try.pinned (OpenSpec.ofChange fnExactColumnsForSpec)

/-- ITS FALSE NEIGHBOUR: 'it returns false'. Refute it at one input. -/
def fnExactColumnsForWrong : ChangeSpec := { name := "fnExactColumnsFor", fn := fun _ => fun
  | [d1, d2] => { results := [.lit (.bool false)], args := [d1, d2] }
  | _ => none }
def FnExactColumnsForWrongFalsely : Prop := fnExactColumnsForRow.holds Try.pinned (OpenSpec.ofChange fnExactColumnsForWrong)

/-- 'laws.FnExactSplitSlip': WHATEVER THE INPUT: true; the input reads as it did. -/
def fnExactSplitSlipSpec : ChangeSpec := { name := "fnExactSplitSlip", fn := fun _ => fun
  | [d1, d2, d3] => { results := [.lit (.bool true)], args := [d1, d2, d3] }
  | _ => none }
def fnExactSplitSlipRow : OpenClaim := { program := "ytccfejnckmokkaa", sum := "e6f98eabb1b5e18cc290312610ddb6b6621d0c3d58e0c5280222c91afb30c9ad", func := "loop.example/g01411/laws.FnExactSplitSlip", spec := "fnExactSplitSlip", apart := false }
def FnExactSplitSlipSaid : Prop := fnExactSplitSlipRow.holds Try.pinned (OpenSpec.ofChange fnExactSplitSlipSpec)

/-- ITS FALSE NEIGHBOUR: 'it returns false'. Refute it at one input. -/
def fnExactSplitSlipWrong : ChangeSpec := { name := "fnExactSplitSlip", fn := fun _ => fun
  | [d1, d2, d3] => { results := [.lit (.bool false)], args := [d1, d2, d3] }
  | _ => none }
def FnExactSplitSlipWrongFalsely : Prop := fnExactSplitSlipRow.holds Try.pinned (OpenSpec.ofChange fnExactSplitSlipWrong)

/-- 'laws.FnExactHammingCode': WHATEVER THE INPUT: true; the input reads as it did. -/
def fnExactHammingCodeSpec : ChangeSpec := { name := "fnExactHammingCode", fn := fun _ => fun
  | [d1, d2] => { results := [.lit (.bool true)], args := [d1, d2] }
  | _ => none }
def fnExactHammingCodeRow : OpenClaim := { program := "ytccfejnckmokkaa", sum := "e6f98eabb1b5e18cc290312610ddb6b6621d0c3d58e0c5280222c91afb30c9ad", func := "loop.example/g01411/laws.FnExactHammingCode", spec := "fnExactHammingCode", unfollowed := true, recurses := true, apart := false }
def FnExactHammingCodeSaid : Prop := fnExactHammingCodeRow.holds Try.pinned (OpenSpec.ofChange fnExactHammingCodeSpec)

/-- ITS FALSE NEIGHBOUR: 'it returns false'. Refute it at one input. -/
def fnExactHammingCodeWrong : ChangeSpec := { name := "fnExactHammingCode", fn := fun _ => fun
  | [d1, d2] => { results := [.lit (.bool false)], args := [d1, d2] }
  | _ => none }
def FnExactHammingCodeWrongFalsely : Prop := fnExactHammingCodeRow.holds Try.pinned (OpenSpec.ofChange fnExactHammingCodeWrong)

/- THE SECOND FORM. 'bulk': how many values and letters a reading holds, each counted each time it is reached (what is shared counts as often as it is met; a slice's spare places count too). A statement '..UptoSaid' is the law's where the arguments, and the package variables that the reading takes, are together of bulk at most 1048576: NARROWER than '..Said'. Prove '..Said' where nothing that the law and all that it calls make is longer than what came in: it says more and counts as full. Else prove '..UptoSaid'. A law counts once. -/
mutual
def uptoBulk {H : Type} : DataW H → Nat
  | .lit (.string bytes) => bytes.length + 1
  | .lit _ => 1
  | .nil => 1
  | .ptr d => uptoBulk d + 1
  | .slice elems spare => uptoBulkAll elems + uptoBulkAll spare + 1
  | .agg parts => uptoBulkAll parts + 1
  | .iface _ d => uptoBulk d + 1
  | .map entries => uptoBulkEntries entries + 1
  | .held _ => 1
def uptoBulkAll {H : Type} : List (DataW H) → Nat
  | [] => 0
  | d :: r => uptoBulk d + uptoBulkAll r
def uptoBulkEntries {H : Type} : List (Lit × DataW H) → Nat
  | [] => 0
  | x :: r => uptoBulkEntry x + uptoBulkEntries r
def uptoBulkEntry {H : Type} : Lit × DataW H → Nat
  | (.string bytes, d) => bytes.length + uptoBulk d + 1
  | (_, d) => uptoBulk d + 1
 end
def uptoSmall : (H : Type) → List (DataW H) → Bool := fun _ ds => decide (uptoBulkAll ds ≤ 1048576)
def OpenSpec.upto (s : _root_.Go.ChangeSpec) : _root_.Go.OpenSpec := { _root_.Go.OpenSpec.ofChange s with cond := some uptoSmall }

/-- 'laws.FnExactColumnsFor', WHERE WHAT IT READS IS OF BULK AT MOST 1048576: true; the input reads as it did. -/
def fnExactColumnsForUptoRow : OpenClaim := { program := "ytccfejnckmokkaa", sum := "e6f98eabb1b5e18cc290312610ddb6b6621d0c3d58e0c5280222c91afb30c9ad", func := "loop.example/g01411/laws.FnExactColumnsFor", spec := "fnExactColumnsFor", unfollowed := true, recurses := true, apart := false, narrowed := true }
def FnExactColumnsForUptoSaid : Prop := fnExactColumnsForUptoRow.holds Try.pinned (OpenSpec.upto fnExactColumnsForSpec)

/-- 'laws.FnExactSplitSlip', WHERE WHAT IT READS IS OF BULK AT MOST 1048576: true; the input reads as it did. -/
def fnExactSplitSlipUptoRow : OpenClaim := { program := "ytccfejnckmokkaa", sum := "e6f98eabb1b5e18cc290312610ddb6b6621d0c3d58e0c5280222c91afb30c9ad", func := "loop.example/g01411/laws.FnExactSplitSlip", spec := "fnExactSplitSlip", apart := false, narrowed := true }
def FnExactSplitSlipUptoSaid : Prop := fnExactSplitSlipUptoRow.holds Try.pinned (OpenSpec.upto fnExactSplitSlipSpec)

/-- 'laws.FnExactHammingCode', WHERE WHAT IT READS IS OF BULK AT MOST 1048576: true; the input reads as it did. -/
def fnExactHammingCodeUptoRow : OpenClaim := { program := "ytccfejnckmokkaa", sum := "e6f98eabb1b5e18cc290312610ddb6b6621d0c3d58e0c5280222c91afb30c9ad", func := "loop.example/g01411/laws.FnExactHammingCode", spec := "fnExactHammingCode", unfollowed := true, recurses := true, apart := false, narrowed := true }
def FnExactHammingCodeUptoSaid : Prop := fnExactHammingCodeUptoRow.holds Try.pinned (OpenSpec.upto fnExactHammingCodeSpec)

end Rows
end Go.Proofs.Ytccfejnckmokkaa
