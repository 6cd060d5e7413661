/-
  No cell of these rows narrows 'for every input' (looked for: loops, veiled, ifaces, maps, wideKeys, modest, calm, conditions, laid).
  DERIVED. THE GIVEN ROWS OF THIS SEAT. 5 by the template 'for every input the law returns true; each argument reads behind the call as it read before'; 0 by the template 'total and deterministic' (their statements: YtmaipkohkfikeaaTotals.lean).
  GIVEN WITH THE SEED: the statements are not yours to turn. If you find one false, say at which input.
  Laid BY PROGRAM, IN A SANDBOX (cutbox-rows.mjs): the forced cells as the released guide's own fill.sh prints them over the translation f95d9647776b9c90… (all of the seat's roots in one cut). By AI agents, Wed Nov 11 2026. No macro, syntax, notation, axiom, sorry.
-/
import Derived.Test.YtmaipkohkfikeaaChecked
import GoSem.Claim
import GoSem.ClaimJoined
import GoSem.ClaimMapViews
import Derived.JoinedTies
import Derived.KernelRfl
namespace Go.Proofs.Ytmaipkohkfikeaa
/- THE CELL 'sum', in the pinned program and in every row, IS THE sha256 OF THE DUMP (.gsa) THAT YtmaipkohkfikeaaProg.lean LOADS. Nothing in Lean hashes anything: it is a label: what it is worth is what the hold of that sum in a sandbox is worth. -/
noncomputable def Try.pinned : Pinned := { name := "ytmaipkohkfikeaa", sum := "f95d9647776b9c90f6fd15810de98137dd2b8f6f1f5d65f8233439fd338e2e85", checked := Try.checked }
namespace Rows
def none {H : Type} : Left H := { results := [], args := [] }

/-- 'laws.FnExactBundleOf': WHATEVER THE INPUT: true; the input reads as it did. -/
def fnExactBundleOfSpec : ChangeSpec := { name := "fnExactBundleOf", fn := fun _ => fun
  | [d1, d2, d3, d4] => { results := [.lit (.bool true)], args := [d1, d2, d3, d4] }
  | _ => none }
def fnExactBundleOfRow : OpenClaim := { program := "ytmaipkohkfikeaa", sum := "f95d9647776b9c90f6fd15810de98137dd2b8f6f1f5d65f8233439fd338e2e85", func := "loop.example/g01411/laws.FnExactBundleOf", spec := "fnExactBundleOf", unfollowed := true, recurses := true, apart := false }
def FnExactBundleOfSaid : Prop := fnExactBundleOfRow.holds Try.pinned (OpenSpec.ofChange fnExactBundleOfSpec)

/-- ITS FALSE NEIGHBOUR: 'it returns false'. Refute it at one input. -/
def fnExactBundleOfWrong : ChangeSpec := { name := "fnExactBundleOf", fn := fun _ => fun
  | [d1, d2, d3, d4] => { results := [.lit (.bool false)], args := [d1, d2, d3, d4] }
  | _ => none }
def FnExactBundleOfWrongFalsely : Prop := fnExactBundleOfRow.holds Try.pinned (OpenSpec.ofChange fnExactBundleOfWrong)

/-- 'laws.FnExactSwitchBundle': WHATEVER THE INPUT: true; the input reads as it did. -/
def fnExactSwitchBundleSpec : ChangeSpec := { name := "fnExactSwitchBundle", fn := fun _ => fun
  | [d1, d2, d3, d4] => { results := [.lit (.bool true)], args := [d1, d2, d3, d4] }
  | _ => none }
def fnExactSwitchBundleRow : OpenClaim := { program := "ytmaipkohkfikeaa", sum := "f95d9647776b9c90f6fd15810de98137dd2b8f6f1f5d65f8233439fd338e2e85", func := "loop.example/g01411/laws.FnExactSwitchBundle", spec := "fnExactSwitchBundle", unfollowed := true, recurses := true, apart := false }
def FnExactSwitchBundleSaid : Prop := fnExactSwitchBundleRow.holds Try.pinned (OpenSpec.ofChange fnExactSwitchBundleSpec)

/-- ITS FALSE NEIGHBOUR: 'it returns false'. Refute it at one input. -/
def fnExactSwitchBundleWrong : ChangeSpec := { name := "fnExactSwitchBundle", fn := fun _ => fun
  | [d1, d2, d3, d4] => { results := [.lit (.bool false)], args := [d1, d2, d3, d4] }
  | _ => none }
def FnExactSwitchBundleWrongFalsely : Prop := fnExactSwitchBundleRow.holds Try.pinned (OpenSpec.ofChange fnExactSwitchBundleWrong)

/-- 'laws.FnExactRadiusByLeaders': WHATEVER THE INPUT: true; the input reads as it did. -/
def fnExactRadiusByLeadersSpec : ChangeSpec := { name := "fnExactRadiusByLeaders", fn := fun _ => fun
  | [d1, d2] => { results := [.lit (.bool true)], args := [d1, d2] }
  | _ => none }
def fnExactRadiusByLeadersRow : OpenClaim := { program := "ytmaipkohkfikeaa", sum := "f95d9647776b9c90f6fd15810de98137dd2b8f6f1f5d65f8233439fd338e2e85", func := "loop.example/g01411/laws.FnExactRadiusByLeaders", spec := "fnExactRadiusByLeaders", unfollowed := true, recurses := true, apart := false }
def FnExactRadiusByLeadersSaid : Prop := fnExactRadiusByLeadersRow.holds Try.pinned (OpenSpec.ofChange fnExactRadiusByLeadersSpec)

/-- ITS FALSE NEIGHBOUR: 'it returns false'. Refute it at one input. -/
def fnExactRadiusByLeadersWrong : ChangeSpec := { name := "fnExactRadiusByLeaders", fn := fun _ => fun
  | [d1, d2] => { results := [.lit (.bool false)], args := [d1, d2] }
  | _ => none }
def FnExactRadiusByLeadersWrongFalsely : Prop := fnExactRadiusByLeadersRow.holds Try.pinned (OpenSpec.ofChange fnExactRadiusByLeadersWrong)

/-- 'laws.FnExactNearestWord': WHATEVER THE INPUT: true; the input reads as it did. -/
def fnExactNearestWordSpec : ChangeSpec := { name := "fnExactNearestWord", fn := fun _ => fun
  | [d1, d2, d3] => { results := [.lit (.bool true)], args := [d1, d2, d3] }
  | _ => none }
def fnExactNearestWordRow : OpenClaim := { program := "ytmaipkohkfikeaa", sum := "f95d9647776b9c90f6fd15810de98137dd2b8f6f1f5d65f8233439fd338e2e85", func := "loop.example/g01411/laws.FnExactNearestWord", spec := "fnExactNearestWord", unfollowed := true, recurses := true, apart := false }
def FnExactNearestWordSaid : Prop := fnExactNearestWordRow.holds Try.pinned (OpenSpec.ofChange fnExactNearestWordSpec)

/-- ITS FALSE NEIGHBOUR: 'it returns false'. Refute it at one input. -/
def fnExactNearestWordWrong : ChangeSpec := { name := "fnExactNearestWord", fn := fun _ => fun
  | [d1, d2, d3] => { results := [.lit (.bool false)], args := [d1, d2, d3] }
  | _ => none }
def FnExactNearestWordWrongFalsely : Prop := fnExactNearestWordRow.holds Try.pinned (OpenSpec.ofChange fnExactNearestWordWrong)

/-- 'laws.FnExactLeadersOf': WHATEVER THE INPUT: true; the input reads as it did. -/
def fnExactLeadersOfSpec : ChangeSpec := { name := "fnExactLeadersOf", fn := fun _ => fun
  | [d1, d2] => { results := [.lit (.bool true)], args := [d1, d2] }
  | _ => none }
def fnExactLeadersOfRow : OpenClaim := { program := "ytmaipkohkfikeaa", sum := "f95d9647776b9c90f6fd15810de98137dd2b8f6f1f5d65f8233439fd338e2e85", func := "loop.example/g01411/laws.FnExactLeadersOf", spec := "fnExactLeadersOf", unfollowed := true, recurses := true, apart := false }
def FnExactLeadersOfSaid : Prop := fnExactLeadersOfRow.holds Try.pinned (OpenSpec.ofChange fnExactLeadersOfSpec)

/-- ITS FALSE NEIGHBOUR: 'it returns false'. Refute it at one input. -/
def fnExactLeadersOfWrong : ChangeSpec := { name := "fnExactLeadersOf", fn := fun _ => fun
  | [d1, d2] => { results := [.lit (.bool false)], args := [d1, d2] }
  | _ => none }
def FnExactLeadersOfWrongFalsely : Prop := fnExactLeadersOfRow.holds Try.pinned (OpenSpec.ofChange fnExactLeadersOfWrong)

/- THE SECOND FORM. 'bulk': how many values and letters a reading holds, each counted each time it is reached (what is shared counts as often as it is met; a slice's spare places count too). A statement '..UptoSaid' is the law's where the arguments, and the package variables that the reading takes, are together of bulk at most 1048576: NARROWER than '..Said'. Prove '..Said' where nothing that the law and all that it calls make is longer than what came in: it says more and counts as full. Else prove '..UptoSaid'. A law counts once. -/
mutual
def uptoBulk {H : Type} : DataW H → Nat
  | .lit (.string bytes) => bytes.length + 1
  | .lit _ => 1
  | .nil => 1
  | .ptr d => uptoBulk d + 1
  | .slice elems spare => uptoBulkAll elems + uptoBulkAll spare + 1
  | .agg parts => uptoBulkAll parts + 1
  | .iface _ d => uptoBulk d + 1
  | .map entries => uptoBulkEntries entries + 1
  | .held _ => 1
def uptoBulkAll {H : Type} : List (DataW H) → Nat
  | [] => 0
  | d :: r => uptoBulk d + uptoBulkAll r
def uptoBulkEntries {H : Type} : List (Lit × DataW H) → Nat
  | [] => 0
  | x :: r => uptoBulkEntry x + uptoBulkEntries r
def uptoBulkEntry {H : Type} : Lit × DataW H → Nat
  | (.string bytes, d) => bytes.length + uptoBulk d + 1
  | (_, d) => uptoBulk d + 1
 end
def uptoSmall : (H : Type) → List (DataW H) → Bool := fun _ ds => decide (uptoBulkAll ds ≤ 1048576)
def OpenSpec.upto (s : _root_.Go.ChangeSpec) : _root_.Go.OpenSpec := { _root_.Go.OpenSpec.ofChange s with cond := some uptoSmall }

/-- 'laws.FnExactBundleOf', WHERE WHAT IT READS IS OF BULK AT MOST 1048576: true; the input reads as it did. -/
def fnExactBundleOfUptoRow : OpenClaim := { program := "ytmaipkohkfikeaa", sum := "f95d9647776b9c90f6fd15810de98137dd2b8f6f1f5d65f8233439fd338e2e85", func := "loop.example/g01411/laws.FnExactBundleOf", spec := "fnExactBundleOf", unfollowed := true, recurses := true, apart := false, narrowed := true }
def FnExactBundleOfUptoSaid : Prop := fnExactBundleOfUptoRow.holds Try.pinned (OpenSpec.upto fnExactBundleOfSpec)

/-- 'laws.FnExactSwitchBundle', WHERE WHAT IT READS IS OF BULK AT MOST 1048576: true; the input reads as it did. -/
def fnExactSwitchBundleUptoRow : OpenClaim := { program := "ytmaipkohkfikeaa", sum := "f95d9647776b9c90f6fd15810de98137dd2b8f6f1f5d65f8233439fd338e2e85", func := "loop.example/g01411/laws.FnExactSwitchBundle", spec := "fnExactSwitchBundle", unfollowed := true, recurses := true, apart := false, narrowed := true }
def FnExactSwitchBundleUptoSaid : Prop := fnExactSwitchBundleUptoRow.holds Try.pinned (OpenSpec.upto fnExactSwitchBundleSpec)

/-- 'laws.FnExactRadiusByLeaders', WHERE WHAT IT READS IS OF BULK AT MOST 1048576: true; the input reads as it did. -/
def fnExactRadiusByLeadersUptoRow : OpenClaim := { program := "ytmaipkohkfikeaa", sum := "f95d9647776b9c90f6fd15810de98137dd2b8f6f1f5d65f8233439fd338e2e85", func := "loop.example/g01411/laws.FnExactRadiusByLeaders", spec := "fnExactRadiusByLeaders", unfollowed := true, recurses := true, apart := false, narrowed := true }
def FnExactRadiusByLeadersUptoSaid : Prop := fnExactRadiusByLeadersUptoRow.holds Try.pinned (OpenSpec.upto fnExactRadiusByLeadersSpec)

/-- 'laws.FnExactNearestWord', WHERE WHAT IT READS IS OF BULK AT MOST 1048576: true; the input reads as it did. -/
def fnExactNearestWordUptoRow : OpenClaim := { program := "ytmaipkohkfikeaa", sum := "f95d9647776b9c90f6fd15810de98137dd2b8f6f1f5d65f8233439fd338e2e85", func := "loop.example/g01411/laws.FnExactNearestWord", spec := "fnExactNearestWord", unfollowed := true, recurses := true, apart := false, narrowed := true }
def FnExactNearestWordUptoSaid : Prop := fnExactNearestWordUptoRow.holds Try.pinned (OpenSpec.upto fnExactNearestWordSpec)

/-- 'laws.FnExactLeadersOf', WHERE WHAT IT READS IS OF BULK AT MOST 1048576: true; the input reads as it did. -/
def fnExactLeadersOfUptoRow : OpenClaim := { program := "ytmaipkohkfikeaa", sum := "f95d9647776b9c90f6fd15810de98137dd2b8f6f1f5d65f8233439fd338e2e85", func := "loop.example/g01411/laws.FnExactLeadersOf", spec := "fnExactLeadersOf", unfollowed := true, recurses := true, apart := false, narrowed := true }
def FnExactLeadersOfUptoSaid : Prop := fnExactLeadersOfUptoRow.holds Try.pinned (OpenSpec.upto fnExactLeadersOfSpec)

end Rows
end Go.Proofs.Ytmaipkohkfikeaa
