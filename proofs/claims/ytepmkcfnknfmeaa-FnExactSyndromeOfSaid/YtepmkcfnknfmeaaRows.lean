/-
  No cell of these rows narrows 'for every input' (looked for: loops, veiled, ifaces, maps, wideKeys, modest, calm, conditions, laid).
  DERIVED. THE GIVEN ROWS OF THIS SEAT. 6 by the template 'for every input the law returns true; each argument reads behind the call as it read before'; 0 by the template 'total and deterministic' (their statements: YtepmkcfnknfmeaaTotals.lean).
  GIVEN WITH THE SEED: the statements are not yours to turn. If you find one false, say at which input.
  Laid BY PROGRAM, IN A SANDBOX (cutbox-rows.mjs): the forced cells as the released guide's own fill.sh prints them over the translation 6099ef441fc0fc81… (all of the seat's roots in one cut). By AI agents, Wed Nov 11 2026. No macro, syntax, notation, axiom, sorry.
-/
import Derived.Test.YtepmkcfnknfmeaaChecked
import GoSem.Claim
import GoSem.ClaimJoined
import GoSem.ClaimMapViews
import Derived.JoinedTies
import Derived.KernelRfl
namespace Go.Proofs.Ytepmkcfnknfmeaa
/- THE CELL 'sum', in the pinned program and in every row, IS THE sha256 OF THE DUMP (.gsa) THAT YtepmkcfnknfmeaaProg.lean LOADS. Nothing in Lean hashes anything: it is a label: what it is worth is what the hold of that sum in a sandbox is worth. -/
noncomputable def Try.pinned : Pinned := { name := "ytepmkcfnknfmeaa", sum := "6099ef441fc0fc81c4bd433a05147ab4a8d2255d77d7406d54d1cfb9257b00f3", checked := Try.checked }
namespace Rows
def none {H : Type} : Left H := { results := [], args := [] }

/-- 'laws.FnExactGreedyApart': WHATEVER THE INPUT: true; the input reads as it did. -/
def fnExactGreedyApartSpec : ChangeSpec := { name := "fnExactGreedyApart", fn := fun _ => fun
  | [d1, d2] => { results := [.lit (.bool true)], args := [d1, d2] }
  | _ => none }
def fnExactGreedyApartRow : OpenClaim := { program := "ytepmkcfnknfmeaa", sum := "6099ef441fc0fc81c4bd433a05147ab4a8d2255d77d7406d54d1cfb9257b00f3", func := "loop.example/g01411/laws.FnExactGreedyApart", spec := "fnExactGreedyApart", unfollowed := true, recurses := true, apart := false }
def FnExactGreedyApartSaid : Prop := fnExactGreedyApartRow.holds Try.pinned (OpenSpec.ofChange fnExactGreedyApartSpec)

/-- ITS FALSE NEIGHBOUR: 'it returns false'. Refute it at one input. -/
def fnExactGreedyApartWrong : ChangeSpec := { name := "fnExactGreedyApart", fn := fun _ => fun
  | [d1, d2] => { results := [.lit (.bool false)], args := [d1, d2] }
  | _ => none }
def FnExactGreedyApartWrongFalsely : Prop := fnExactGreedyApartRow.holds Try.pinned (OpenSpec.ofChange fnExactGreedyApartWrong)

/-- 'laws.FnExactSlipsInCommon': WHATEVER THE INPUT: true; the input reads as it did. -/
def fnExactSlipsInCommonSpec : ChangeSpec := { name := "fnExactSlipsInCommon", fn := fun _ => fun
  | [d1, d2, d3] => { results := [.lit (.bool true)], args := [d1, d2, d3] }
  | _ => none }
def fnExactSlipsInCommonRow : OpenClaim := { program := "ytepmkcfnknfmeaa", sum := "6099ef441fc0fc81c4bd433a05147ab4a8d2255d77d7406d54d1cfb9257b00f3", func := "loop.example/g01411/laws.FnExactSlipsInCommon", spec := "fnExactSlipsInCommon", apart := false }
def FnExactSlipsInCommonSaid : Prop := fnExactSlipsInCommonRow.holds Try.pinned (OpenSpec.ofChange fnExactSlipsInCommonSpec)

/-- ITS FALSE NEIGHBOUR: 'it returns false'. Refute it at one input. -/
def fnExactSlipsInCommonWrong : ChangeSpec := { name := "fnExactSlipsInCommon", fn := fun _ => fun
  | [d1, d2, d3] => { results := [.lit (.bool false)], args := [d1, d2, d3] }
  | _ => none }
def FnExactSlipsInCommonWrongFalsely : Prop := fnExactSlipsInCommonRow.holds Try.pinned (OpenSpec.ofChange fnExactSlipsInCommonWrong)

/-- 'laws.FnExactWeightCounts': WHATEVER THE INPUT: true; the input reads as it did. -/
def fnExactWeightCountsSpec : ChangeSpec := { name := "fnExactWeightCounts", fn := fun _ => fun
  | [d1, d2] => { results := [.lit (.bool true)], args := [d1, d2] }
  | _ => none }
def fnExactWeightCountsRow : OpenClaim := { program := "ytepmkcfnknfmeaa", sum := "6099ef441fc0fc81c4bd433a05147ab4a8d2255d77d7406d54d1cfb9257b00f3", func := "loop.example/g01411/laws.FnExactWeightCounts", spec := "fnExactWeightCounts", apart := false }
def FnExactWeightCountsSaid : Prop := fnExactWeightCountsRow.holds Try.pinned (OpenSpec.ofChange fnExactWeightCountsSpec)

/-- ITS FALSE NEIGHBOUR: 'it returns false'. Refute it at one input. -/
def fnExactWeightCountsWrong : ChangeSpec := { name := "fnExactWeightCounts", fn := fun _ => fun
  | [d1, d2] => { results := [.lit (.bool false)], args := [d1, d2] }
  | _ => none }
def FnExactWeightCountsWrongFalsely : Prop := fnExactWeightCountsRow.holds Try.pinned (OpenSpec.ofChange fnExactWeightCountsWrong)

/-- 'laws.FnExactPrizeList': WHATEVER THE INPUT: true; the input reads as it did. -/
def fnExactPrizeListSpec : ChangeSpec := { name := "fnExactPrizeList", fn := fun _ => fun
  | [d1, d2, d3] => { results := [.lit (.bool true)], args := [d1, d2, d3] }
  | _ => none }
def fnExactPrizeListRow : OpenClaim := { program := "ytepmkcfnknfmeaa", sum := "6099ef441fc0fc81c4bd433a05147ab4a8d2255d77d7406d54d1cfb9257b00f3", func := "loop.example/g01411/laws.FnExactPrizeList", spec := "fnExactPrizeList", apart := false }
def FnExactPrizeListSaid : Prop := fnExactPrizeListRow.holds Try.pinned (OpenSpec.ofChange fnExactPrizeListSpec)

/-- ITS FALSE NEIGHBOUR: 'it returns false'. Refute it at one input. -/
def fnExactPrizeListWrong : ChangeSpec := { name := "fnExactPrizeList", fn := fun _ => fun
  | [d1, d2, d3] => { results := [.lit (.bool false)], args := [d1, d2, d3] }
  | _ => none }
def FnExactPrizeListWrongFalsely : Prop := fnExactPrizeListRow.holds Try.pinned (OpenSpec.ofChange fnExactPrizeListWrong)

/-- 'laws.FnExactAreApart': WHATEVER THE INPUT: true; the input reads as it did. -/
def fnExactAreApartSpec : ChangeSpec := { name := "fnExactAreApart", fn := fun _ => fun
  | [d1, d2, d3] => { results := [.lit (.bool true)], args := [d1, d2, d3] }
  | _ => none }
def fnExactAreApartRow : OpenClaim := { program := "ytepmkcfnknfmeaa", sum := "6099ef441fc0fc81c4bd433a05147ab4a8d2255d77d7406d54d1cfb9257b00f3", func := "loop.example/g01411/laws.FnExactAreApart", spec := "fnExactAreApart", apart := false }
def FnExactAreApartSaid : Prop := fnExactAreApartRow.holds Try.pinned (OpenSpec.ofChange fnExactAreApartSpec)

/-- ITS FALSE NEIGHBOUR: 'it returns false'. Refute it at one input. -/
def fnExactAreApartWrong : ChangeSpec := { name := "fnExactAreApart", fn := fun _ => fun
  | [d1, d2, d3] => { results := [.lit (.bool false)], args := [d1, d2, d3] }
  | _ => none }
def FnExactAreApartWrongFalsely : Prop := fnExactAreApartRow.holds Try.pinned (OpenSpec.ofChange fnExactAreApartWrong)

/-- 'laws.FnExactSyndromeOf': WHATEVER THE INPUT: true; the input reads as it did. -/
def fnExactSyndromeOfSpec : ChangeSpec := { name := "fnExactSyndromeOf", fn := fun _ => fun
  | [d1, d2, d3] => { results := [.lit (.bool true)], args := [d1, d2, d3] }
  | _ => none }
def fnExactSyndromeOfRow : OpenClaim := { program := "ytepmkcfnknfmeaa", sum := "6099ef441fc0fc81c4bd433a05147ab4a8d2255d77d7406d54d1cfb9257b00f3", func := "loop.example/g01411/laws.FnExactSyndromeOf", spec := "fnExactSyndromeOf", unfollowed := true, recurses := true, apart := false }
def FnExactSyndromeOfSaid : Prop := fnExactSyndromeOfRow.holds Try.pinned (OpenSpec.ofChange fnExactSyndromeOfSpec)

/-- ITS FALSE NEIGHBOUR: 'it returns false'. Refute it at one input. -/
def fnExactSyndromeOfWrong : ChangeSpec := { name := "fnExactSyndromeOf", fn := fun _ => fun
  | [d1, d2, d3] => { results := [.lit (.bool false)], args := [d1, d2, d3] }
  | _ => none }
def FnExactSyndromeOfWrongFalsely : Prop := fnExactSyndromeOfRow.holds Try.pinned (OpenSpec.ofChange fnExactSyndromeOfWrong)

/- THE SECOND FORM. 'bulk': how many values and letters a reading holds, each counted each time it is reached (what is shared counts as often as it is met; a slice's spare places count too). A statement '..UptoSaid' is the law's where the arguments, and the package variables that the reading takes, are together of bulk at most 1048576: NARROWER than '..Said'. Prove '..Said' where nothing that the law and all that it calls make is longer than what came in: it says more and counts as full. Else prove '..UptoSaid'. A law counts once. -/
mutual
def uptoBulk {H : Type} : DataW H → Nat
  | .lit (.string bytes) => bytes.length + 1
  | .lit _ => 1
  | .nil => 1
  | .ptr d => uptoBulk d + 1
  | .slice elems spare => uptoBulkAll elems + uptoBulkAll spare + 1
  | .agg parts => uptoBulkAll parts + 1
  | .iface _ d => uptoBulk d + 1
  | .map entries => uptoBulkEntries entries + 1
  | .held _ => 1
def uptoBulkAll {H : Type} : List (DataW H) → Nat
  | [] => 0
  | d :: r => uptoBulk d + uptoBulkAll r
def uptoBulkEntries {H : Type} : List (Lit × DataW H) → Nat
  | [] => 0
  | x :: r => uptoBulkEntry x + uptoBulkEntries r
def uptoBulkEntry {H : Type} : Lit × DataW H → Nat
  | (.string bytes, d) => bytes.length + uptoBulk d + 1
  | (_, d) => uptoBulk d + 1
 end
def uptoSmall : (H : Type) → List (DataW H) → Bool := fun _ ds => decide (uptoBulkAll ds ≤ 1048576)
def OpenSpec.upto (s : _root_.Go.ChangeSpec) : _root_.Go.OpenSpec := { _root_.Go.OpenSpec.ofChange s with cond := some uptoSmall }

/-- 'laws.FnExactGreedyApart', WHERE WHAT IT READS IS OF BULK AT MOST 1048576: true; the input reads as it did. -/
def fnExactGreedyApartUptoRow : OpenClaim := { program := "ytepmkcfnknfmeaa", sum := "6099ef441fc0fc81c4bd433a05147ab4a8d2255d77d7406d54d1cfb9257b00f3", func := "loop.example/g01411/laws.FnExactGreedyApart", spec := "fnExactGreedyApart", unfollowed := true, recurses := true, apart := false, narrowed := true }
def FnExactGreedyApartUptoSaid : Prop := fnExactGreedyApartUptoRow.holds Try.pinned (OpenSpec.upto fnExactGreedyApartSpec)

/-- 'laws.FnExactSlipsInCommon', WHERE WHAT IT READS IS OF BULK AT MOST 1048576: true; the input reads as it did. -/
def fnExactSlipsInCommonUptoRow : OpenClaim := { program := "ytepmkcfnknfmeaa", sum := "6099ef441fc0fc81c4bd433a05147ab4a8d2255d77d7406d54d1cfb9257b00f3", func := "loop.example/g01411/laws.FnExactSlipsInCommon", spec := "fnExactSlipsInCommon", apart := false, narrowed := true }
def FnExactSlipsInCommonUptoSaid : Prop := fnExactSlipsInCommonUptoRow.holds Try.pinned (OpenSpec.upto fnExactSlipsInCommonSpec)

/-- 'laws.FnExactWeightCounts', WHERE WHAT IT READS IS OF BULK AT MOST 1048576: true; the input reads as it did. -/
def fnExactWeightCountsUptoRow : OpenClaim := { program := "ytepmkcfnknfmeaa", sum := "6099ef441fc0fc81c4bd433a05147ab4a8d2255d77d7406d54d1cfb9257b00f3", func := "loop.example/g01411/laws.FnExactWeightCounts", spec := "fnExactWeightCounts", apart := false, narrowed := true }
def FnExactWeightCountsUptoSaid : Prop := fnExactWeightCountsUptoRow.holds Try.pinned (OpenSpec.upto fnExactWeightCountsSpec)

/-- 'laws.FnExactPrizeList', WHERE WHAT IT READS IS OF BULK AT MOST 1048576: true; the input reads as it did. -/
def fnExactPrizeListUptoRow : OpenClaim := { program := "ytepmkcfnknfmeaa", sum := "6099ef441fc0fc81c4bd433a05147ab4a8d2255d77d7406d54d1cfb9257b00f3", func := "loop.example/g01411/laws.FnExactPrizeList", spec := "fnExactPrizeList", apart := false, narrowed := true }
def FnExactPrizeListUptoSaid : Prop := fnExactPrizeListUptoRow.holds Try.pinned (OpenSpec.upto fnExactPrizeListSpec)

/-- 'laws.FnExactAreApart', WHERE WHAT IT READS IS OF BULK AT MOST 1048576: true; the input reads as it did. -/
def fnExactAreApartUptoRow : OpenClaim := { program := "ytepmkcfnknfmeaa", sum := "6099ef441fc0fc81c4bd433a05147ab4a8d2255d77d7406d54d1cfb9257b00f3", func := "loop.example/g01411/laws.FnExactAreApart", spec := "fnExactAreApart", apart := false, narrowed := true }
def FnExactAreApartUptoSaid : Prop := fnExactAreApartUptoRow.holds Try.pinned (OpenSpec.upto fnExactAreApartSpec)

/-- 'laws.FnExactSyndromeOf', WHERE WHAT IT READS IS OF BULK AT MOST 1048576: true; the input reads as it did. -/
def fnExactSyndromeOfUptoRow : OpenClaim := { program := "ytepmkcfnknfmeaa", sum := "6099ef441fc0fc81c4bd433a05147ab4a8d2255d77d7406d54d1cfb9257b00f3", func := "loop.example/g01411/laws.FnExactSyndromeOf", spec := "fnExactSyndromeOf", unfollowed := true, recurses := true, apart := false, narrowed := true }
def FnExactSyndromeOfUptoSaid : Prop := fnExactSyndromeOfUptoRow.holds Try.pinned (OpenSpec.upto fnExactSyndromeOfSpec)

end Rows
end Go.Proofs.Ytepmkcfnknfmeaa
