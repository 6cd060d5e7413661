/-
  No cell of these rows narrows 'for every input' (looked for: loops, veiled, ifaces, maps, wideKeys, modest, calm, conditions, laid).
  DERIVED. THE GIVEN ROWS OF THIS SEAT. 4 by the template 'for every input the law returns true; each argument reads behind the call as it read before'; 0 by the template 'total and deterministic' (their statements: YtkhkcekfcjgjlaaTotals.lean).
  GIVEN WITH THE SEED: the statements are not yours to turn. If you find one false, say at which input.
  Laid BY PROGRAM, IN A SANDBOX (cutbox-rows.mjs): the forced cells as the released guide's own fill.sh prints them over the translation eaa5c0cc08fe2595… (all of the seat's roots in one cut). By AI agents, Wed Nov 11 2026. No macro, syntax, notation, axiom, sorry.
-/
import Derived.Test.YtkhkcekfcjgjlaaChecked
import GoSem.Claim
import GoSem.ClaimJoined
import GoSem.ClaimMapViews
import Derived.JoinedTies
import Derived.KernelRfl
namespace Go.Proofs.Ytkhkcekfcjgjlaa
/- THE CELL 'sum', in the pinned program and in every row, IS THE sha256 OF THE DUMP (.gsa) THAT YtkhkcekfcjgjlaaProg.lean LOADS. Nothing in Lean hashes anything: it is a label: what it is worth is what the hold of that sum in a sandbox is worth. -/
noncomputable def Try.pinned : Pinned := { name := "ytkhkcekfcjgjlaa", sum := "eaa5c0cc08fe259551b763db4e4e69c2e873a47157debf4d0d540e459c4935f9", checked := Try.checked }
namespace Rows
def none {H : Type} : Left H := { results := [], args := [] }

/-- 'laws.FnExactNotNeeded': WHATEVER THE INPUT: true; the input reads as it did. -/
def fnExactNotNeededSpec : ChangeSpec := { name := "fnExactNotNeeded", fn := fun _ => fun
  | [d1, d2, d3] => { results := [.lit (.bool true)], args := [d1, d2, d3] }
  | _ => none }
def fnExactNotNeededRow : OpenClaim := { program := "ytkhkcekfcjgjlaa", sum := "eaa5c0cc08fe259551b763db4e4e69c2e873a47157debf4d0d540e459c4935f9", func := "loop.example/g01411/laws.FnExactNotNeeded", spec := "fnExactNotNeeded", unfollowed := true, recurses := true, apart := false }
def FnExactNotNeededSaid : Prop := fnExactNotNeededRow.holds Try.pinned (OpenSpec.ofChange fnExactNotNeededSpec)

/-- ITS FALSE NEIGHBOUR: 'it returns false'. Refute it at one input. -/
def fnExactNotNeededWrong : ChangeSpec := { name := "fnExactNotNeeded", fn := fun _ => fun
  | [d1, d2, d3] => { results := [.lit (.bool false)], args := [d1, d2, d3] }
  | _ => none }
def FnExactNotNeededWrongFalsely : Prop := fnExactNotNeededRow.holds Try.pinned (OpenSpec.ofChange fnExactNotNeededWrong)

/-- 'laws.FnExactDualCounts': WHATEVER THE INPUT: true; the input reads as it did. -/
def fnExactDualCountsSpec : ChangeSpec := { name := "fnExactDualCounts", fn := fun _ => fun
  | [d1, d2] => { results := [.lit (.bool true)], args := [d1, d2] }
  | _ => none }
def fnExactDualCountsRow : OpenClaim := { program := "ytkhkcekfcjgjlaa", sum := "eaa5c0cc08fe259551b763db4e4e69c2e873a47157debf4d0d540e459c4935f9", func := "loop.example/g01411/laws.FnExactDualCounts", spec := "fnExactDualCounts", unfollowed := true, recurses := true, apart := false }
def FnExactDualCountsSaid : Prop := fnExactDualCountsRow.holds Try.pinned (OpenSpec.ofChange fnExactDualCountsSpec)

/-- ITS FALSE NEIGHBOUR: 'it returns false'. Refute it at one input. -/
def fnExactDualCountsWrong : ChangeSpec := { name := "fnExactDualCounts", fn := fun _ => fun
  | [d1, d2] => { results := [.lit (.bool false)], args := [d1, d2] }
  | _ => none }
def FnExactDualCountsWrongFalsely : Prop := fnExactDualCountsRow.holds Try.pinned (OpenSpec.ofChange fnExactDualCountsWrong)

/-- 'laws.FnExactPlaceBound': WHATEVER THE INPUT: true; the input reads as it did. -/
def fnExactPlaceBoundSpec : ChangeSpec := { name := "fnExactPlaceBound", fn := fun _ => fun
  | [d1, d2] => { results := [.lit (.bool true)], args := [d1, d2] }
  | _ => none }
def fnExactPlaceBoundRow : OpenClaim := { program := "ytkhkcekfcjgjlaa", sum := "eaa5c0cc08fe259551b763db4e4e69c2e873a47157debf4d0d540e459c4935f9", func := "loop.example/g01411/laws.FnExactPlaceBound", spec := "fnExactPlaceBound", recurses := true, apart := false }
def FnExactPlaceBoundSaid : Prop := fnExactPlaceBoundRow.holds Try.pinned (OpenSpec.ofChange fnExactPlaceBoundSpec)

/-- ITS FALSE NEIGHBOUR: 'it returns false'. Refute it at one input. -/
def fnExactPlaceBoundWrong : ChangeSpec := { name := "fnExactPlaceBound", fn := fun _ => fun
  | [d1, d2] => { results := [.lit (.bool false)], args := [d1, d2] }
  | _ => none }
def FnExactPlaceBoundWrongFalsely : Prop := fnExactPlaceBoundRow.holds Try.pinned (OpenSpec.ofChange fnExactPlaceBoundWrong)

/-- 'laws.FnExactFreeBound': WHATEVER THE INPUT: true; the input reads as it did. -/
def fnExactFreeBoundSpec : ChangeSpec := { name := "fnExactFreeBound", fn := fun _ => fun
  | [d1, d2] => { results := [.lit (.bool true)], args := [d1, d2] }
  | _ => none }
def fnExactFreeBoundRow : OpenClaim := { program := "ytkhkcekfcjgjlaa", sum := "eaa5c0cc08fe259551b763db4e4e69c2e873a47157debf4d0d540e459c4935f9", func := "loop.example/g01411/laws.FnExactFreeBound", spec := "fnExactFreeBound", recurses := true, apart := false }
def FnExactFreeBoundSaid : Prop := fnExactFreeBoundRow.holds Try.pinned (OpenSpec.ofChange fnExactFreeBoundSpec)

/-- ITS FALSE NEIGHBOUR: 'it returns false'. Refute it at one input. -/
def fnExactFreeBoundWrong : ChangeSpec := { name := "fnExactFreeBound", fn := fun _ => fun
  | [d1, d2] => { results := [.lit (.bool false)], args := [d1, d2] }
  | _ => none }
def FnExactFreeBoundWrongFalsely : Prop := fnExactFreeBoundRow.holds Try.pinned (OpenSpec.ofChange fnExactFreeBoundWrong)

/- THE SECOND FORM. 'bulk': how many values and letters a reading holds, each counted each time it is reached (what is shared counts as often as it is met; a slice's spare places count too). A statement '..UptoSaid' is the law's where the arguments, and the package variables that the reading takes, are together of bulk at most 1048576: NARROWER than '..Said'. Prove '..Said' where nothing that the law and all that it calls make is longer than what came in: it says more and counts as full. Else prove '..UptoSaid'. A law counts once. -/
mutual
def uptoBulk {H : Type} : DataW H → Nat
  | .lit (.string bytes) => bytes.length + 1
  | .lit _ => 1
  | .nil => 1
  | .ptr d => uptoBulk d + 1
  | .slice elems spare => uptoBulkAll elems + uptoBulkAll spare + 1
  | .agg parts => uptoBulkAll parts + 1
  | .iface _ d => uptoBulk d + 1
  | .map entries => uptoBulkEntries entries + 1
  | .held _ => 1
def uptoBulkAll {H : Type} : List (DataW H) → Nat
  | [] => 0
  | d :: r => uptoBulk d + uptoBulkAll r
def uptoBulkEntries {H : Type} : List (Lit × DataW H) → Nat
  | [] => 0
  | x :: r => uptoBulkEntry x + uptoBulkEntries r
def uptoBulkEntry {H : Type} : Lit × DataW H → Nat
  | (.string bytes, d) => bytes.length + uptoBulk d + 1
  | (_, d) => uptoBulk d + 1
 end
def uptoSmall : (H : Type) → List (DataW H) → Bool := fun _ ds => decide (uptoBulkAll ds ≤ 1048576)
def OpenSpec.upto (s : _root_.Go.ChangeSpec) : _root_.Go.OpenSpec := { _root_.Go.OpenSpec.ofChange s with cond := some uptoSmall }

/-- 'laws.FnExactNotNeeded', WHERE WHAT IT READS IS OF BULK AT MOST 1048576: true; the input reads as it did. -/
def fnExactNotNeededUptoRow : OpenClaim := { program := "ytkhkcekfcjgjlaa", sum := "eaa5c0cc08fe259551b763db4e4e69c2e873a47157debf4d0d540e459c4935f9", func := "loop.example/g01411/laws.FnExactNotNeeded", spec := "fnExactNotNeeded", unfollowed := true, recurses := true, apart := false, narrowed := true }
def FnExactNotNeededUptoSaid : Prop := fnExactNotNeededUptoRow.holds Try.pinned (OpenSpec.upto fnExactNotNeededSpec)

/-- 'laws.FnExactDualCounts', WHERE WHAT IT READS IS OF BULK AT MOST 1048576: true; the input reads as it did. -/
def fnExactDualCountsUptoRow : OpenClaim := { program := "ytkhkcekfcjgjlaa", sum := "eaa5c0cc08fe259551b763db4e4e69c2e873a47157debf4d0d540e459c4935f9", func := "loop.example/g01411/laws.FnExactDualCounts", spec := "fnExactDualCounts", unfollowed := true, recurses := true, apart := false, narrowed := true }
def FnExactDualCountsUptoSaid : Prop := fnExactDualCountsUptoRow.holds Try.pinned (OpenSpec.upto fnExactDualCountsSpec)

/-- 'laws.FnExactPlaceBound', WHERE WHAT IT READS IS OF BULK AT MOST 1048576: true; the input reads as it did. -/
def fnExactPlaceBoundUptoRow : OpenClaim := { program := "ytkhkcekfcjgjlaa", sum := "eaa5c0cc08fe259551b763db4e4e69c2e873a47157debf4d0d540e459c4935f9", func := "loop.example/g01411/laws.FnExactPlaceBound", spec := "fnExactPlaceBound", recurses := true, apart := false, narrowed := true }
def FnExactPlaceBoundUptoSaid : Prop := fnExactPlaceBoundUptoRow.holds Try.pinned (OpenSpec.upto fnExactPlaceBoundSpec)

/-- 'laws.FnExactFreeBound', WHERE WHAT IT READS IS OF BULK AT MOST 1048576: true; the input reads as it did. -/
def fnExactFreeBoundUptoRow : OpenClaim := { program := "ytkhkcekfcjgjlaa", sum := "eaa5c0cc08fe259551b763db4e4e69c2e873a47157debf4d0d540e459c4935f9", func := "loop.example/g01411/laws.FnExactFreeBound", spec := "fnExactFreeBound", recurses := true, apart := false, narrowed := true }
def FnExactFreeBoundUptoSaid : Prop := fnExactFreeBoundUptoRow.holds Try.pinned (OpenSpec.upto fnExactFreeBoundSpec)

end Rows
end Go.Proofs.Ytkhkcekfcjgjlaa
