/-
  No cell of these rows narrows 'for every input' (looked for: loops, veiled, ifaces, maps, wideKeys, modest, calm, conditions, laid).
  DERIVED. THE GIVEN ROWS OF THIS SEAT. 6 by the template 'for every input the law returns true; each argument reads behind the call as it read before'; 0 by the template 'total and deterministic' (their statements: YtlbcdojembakiaaTotals.lean).
  GIVEN WITH THE SEED: the statements are not yours to turn. If you find one false, say at which input.
  Laid BY PROGRAM, IN A SANDBOX (cutbox-rows.mjs): the forced cells as the released guide's own fill.sh prints them over the translation 34a8c55eb11e4815… (all of the seat's roots in one cut). By AI agents, Wed Nov 11 2026. No macro, syntax, notation, axiom, sorry.
-/
import Derived.Test.YtlbcdojembakiaaChecked
import GoSem.Claim
import GoSem.ClaimJoined
import GoSem.ClaimMapViews
import Derived.JoinedTies
import Derived.KernelRfl
namespace Go.Proofs.Ytlbcdojembakiaa
/- THE CELL 'sum', in the pinned program and in every row, IS THE sha256 OF THE DUMP (.gsa) THAT YtlbcdojembakiaaProg.lean LOADS. Nothing in Lean hashes anything: it is a label: what it is worth is what the hold of that sum in a sandbox is worth. -/
noncomputable def Try.pinned : Pinned := { name := "ytlbcdojembakiaa", sum := "34a8c55eb11e4815317bf4a0b2a03afe415804741d9c7480358f7bb18afcf41f", checked := Try.checked }
namespace Rows
def none {H : Type} : Left H := { results := [], args := [] }

/-- 'laws.FnExactSlipText': WHATEVER THE INPUT: true; the input reads as it did. -/
def fnExactSlipTextSpec : ChangeSpec := { name := "fnExactSlipText", fn := fun _ => fun
  | [d1, d2] => { results := [.lit (.bool true)], args := [d1, d2] }
  | _ => none }
def fnExactSlipTextRow : OpenClaim := { program := "ytlbcdojembakiaa", sum := "34a8c55eb11e4815317bf4a0b2a03afe415804741d9c7480358f7bb18afcf41f", func := "loop.example/g01411/laws.FnExactSlipText", spec := "fnExactSlipText", inPlace := ["internal/abi.NoEscape", "internal/bytealg.MakeNoZero"], recurses := true, apart := false }
def FnExactSlipTextSaid : Prop := fnExactSlipTextRow.holds Try.pinned (OpenSpec.ofChange fnExactSlipTextSpec)

/-- ITS FALSE NEIGHBOUR: 'it returns false'. Refute it at one input. -/
def fnExactSlipTextWrong : ChangeSpec := { name := "fnExactSlipText", fn := fun _ => fun
  | [d1, d2] => { results := [.lit (.bool false)], args := [d1, d2] }
  | _ => none }
def FnExactSlipTextWrongFalsely : Prop := fnExactSlipTextRow.holds Try.pinned (OpenSpec.ofChange fnExactSlipTextWrong)

/-- 'laws.FnExactHammingCode': WHATEVER THE INPUT: true; the input reads as it did. -/
def fnExactHammingCodeSpec : ChangeSpec := { name := "fnExactHammingCode", fn := fun _ => fun
  | [d1, d2] => { results := [.lit (.bool true)], args := [d1, d2] }
  | _ => none }
def fnExactHammingCodeRow : OpenClaim := { program := "ytlbcdojembakiaa", sum := "34a8c55eb11e4815317bf4a0b2a03afe415804741d9c7480358f7bb18afcf41f", func := "loop.example/g01411/laws.FnExactHammingCode", spec := "fnExactHammingCode", unfollowed := true, recurses := true, apart := false }
def FnExactHammingCodeSaid : Prop := fnExactHammingCodeRow.holds Try.pinned (OpenSpec.ofChange fnExactHammingCodeSpec)

/-- ITS FALSE NEIGHBOUR: 'it returns false'. Refute it at one input. -/
def fnExactHammingCodeWrong : ChangeSpec := { name := "fnExactHammingCode", fn := fun _ => fun
  | [d1, d2] => { results := [.lit (.bool false)], args := [d1, d2] }
  | _ => none }
def FnExactHammingCodeWrongFalsely : Prop := fnExactHammingCodeRow.holds Try.pinned (OpenSpec.ofChange fnExactHammingCodeWrong)

/-- 'laws.FnExactDecodeWord': WHATEVER THE INPUT: true; the input reads as it did. -/
def fnExactDecodeWordSpec : ChangeSpec := { name := "fnExactDecodeWord", fn := fun _ => fun
  | [d1, d2, d3, d4] => { results := [.lit (.bool true)], args := [d1, d2, d3, d4] }
  | _ => none }
def fnExactDecodeWordRow : OpenClaim := { program := "ytlbcdojembakiaa", sum := "34a8c55eb11e4815317bf4a0b2a03afe415804741d9c7480358f7bb18afcf41f", func := "loop.example/g01411/laws.FnExactDecodeWord", spec := "fnExactDecodeWord", unfollowed := true, recurses := true, apart := false }
def FnExactDecodeWordSaid : Prop := fnExactDecodeWordRow.holds Try.pinned (OpenSpec.ofChange fnExactDecodeWordSpec)

/-- ITS FALSE NEIGHBOUR: 'it returns false'. Refute it at one input. -/
def fnExactDecodeWordWrong : ChangeSpec := { name := "fnExactDecodeWord", fn := fun _ => fun
  | [d1, d2, d3, d4] => { results := [.lit (.bool false)], args := [d1, d2, d3, d4] }
  | _ => none }
def FnExactDecodeWordWrongFalsely : Prop := fnExactDecodeWordRow.holds Try.pinned (OpenSpec.ofChange fnExactDecodeWordWrong)

/-- 'laws.FnExactIsLinear': WHATEVER THE INPUT: true; the input reads as it did. -/
def fnExactIsLinearSpec : ChangeSpec := { name := "fnExactIsLinear", fn := fun _ => fun
  | [d1, d2] => { results := [.lit (.bool true)], args := [d1, d2] }
  | _ => none }
def fnExactIsLinearRow : OpenClaim := { program := "ytlbcdojembakiaa", sum := "34a8c55eb11e4815317bf4a0b2a03afe415804741d9c7480358f7bb18afcf41f", func := "loop.example/g01411/laws.FnExactIsLinear", spec := "fnExactIsLinear", unfollowed := true, recurses := true, apart := false }
def FnExactIsLinearSaid : Prop := fnExactIsLinearRow.holds Try.pinned (OpenSpec.ofChange fnExactIsLinearSpec)

/-- ITS FALSE NEIGHBOUR: 'it returns false'. Refute it at one input. -/
def fnExactIsLinearWrong : ChangeSpec := { name := "fnExactIsLinear", fn := fun _ => fun
  | [d1, d2] => { results := [.lit (.bool false)], args := [d1, d2] }
  | _ => none }
def FnExactIsLinearWrongFalsely : Prop := fnExactIsLinearRow.holds Try.pinned (OpenSpec.ofChange fnExactIsLinearWrong)

/-- 'laws.FnExactLeastNumber': WHATEVER THE INPUT: true; the input reads as it did. -/
def fnExactLeastNumberSpec : ChangeSpec := { name := "fnExactLeastNumber", fn := fun _ => fun
  | [d1, d2] => { results := [.lit (.bool true)], args := [d1, d2] }
  | _ => none }
def fnExactLeastNumberRow : OpenClaim := { program := "ytlbcdojembakiaa", sum := "34a8c55eb11e4815317bf4a0b2a03afe415804741d9c7480358f7bb18afcf41f", func := "loop.example/g01411/laws.FnExactLeastNumber", spec := "fnExactLeastNumber", unfollowed := true, recurses := true, apart := false }
def FnExactLeastNumberSaid : Prop := fnExactLeastNumberRow.holds Try.pinned (OpenSpec.ofChange fnExactLeastNumberSpec)

/-- ITS FALSE NEIGHBOUR: 'it returns false'. Refute it at one input. -/
def fnExactLeastNumberWrong : ChangeSpec := { name := "fnExactLeastNumber", fn := fun _ => fun
  | [d1, d2] => { results := [.lit (.bool false)], args := [d1, d2] }
  | _ => none }
def FnExactLeastNumberWrongFalsely : Prop := fnExactLeastNumberRow.holds Try.pinned (OpenSpec.ofChange fnExactLeastNumberWrong)

/-- 'laws.FnExactCanGrow': WHATEVER THE INPUT: true; the input reads as it did. -/
def fnExactCanGrowSpec : ChangeSpec := { name := "fnExactCanGrow", fn := fun _ => fun
  | [d1, d2, d3] => { results := [.lit (.bool true)], args := [d1, d2, d3] }
  | _ => none }
def fnExactCanGrowRow : OpenClaim := { program := "ytlbcdojembakiaa", sum := "34a8c55eb11e4815317bf4a0b2a03afe415804741d9c7480358f7bb18afcf41f", func := "loop.example/g01411/laws.FnExactCanGrow", spec := "fnExactCanGrow", apart := false }
def FnExactCanGrowSaid : Prop := fnExactCanGrowRow.holds Try.pinned (OpenSpec.ofChange fnExactCanGrowSpec)

/-- ITS FALSE NEIGHBOUR: 'it returns false'. Refute it at one input. -/
def fnExactCanGrowWrong : ChangeSpec := { name := "fnExactCanGrow", fn := fun _ => fun
  | [d1, d2, d3] => { results := [.lit (.bool false)], args := [d1, d2, d3] }
  | _ => none }
def FnExactCanGrowWrongFalsely : Prop := fnExactCanGrowRow.holds Try.pinned (OpenSpec.ofChange fnExactCanGrowWrong)

/- THE SECOND FORM. 'bulk': how many values and letters a reading holds, each counted each time it is reached (what is shared counts as often as it is met; a slice's spare places count too). A statement '..UptoSaid' is the law's where the arguments, and the package variables that the reading takes, are together of bulk at most 1048576: NARROWER than '..Said'. Prove '..Said' where nothing that the law and all that it calls make is longer than what came in: it says more and counts as full. Else prove '..UptoSaid'. A law counts once. -/
mutual
def uptoBulk {H : Type} : DataW H → Nat
  | .lit (.string bytes) => bytes.length + 1
  | .lit _ => 1
  | .nil => 1
  | .ptr d => uptoBulk d + 1
  | .slice elems spare => uptoBulkAll elems + uptoBulkAll spare + 1
  | .agg parts => uptoBulkAll parts + 1
  | .iface _ d => uptoBulk d + 1
  | .map entries => uptoBulkEntries entries + 1
  | .held _ => 1
def uptoBulkAll {H : Type} : List (DataW H) → Nat
  | [] => 0
  | d :: r => uptoBulk d + uptoBulkAll r
def uptoBulkEntries {H : Type} : List (Lit × DataW H) → Nat
  | [] => 0
  | x :: r => uptoBulkEntry x + uptoBulkEntries r
def uptoBulkEntry {H : Type} : Lit × DataW H → Nat
  | (.string bytes, d) => bytes.length + uptoBulk d + 1
  | (_, d) => uptoBulk d + 1
 end
def uptoSmall : (H : Type) → List (DataW H) → Bool := fun _ ds => decide (uptoBulkAll ds ≤ 1048576)
def OpenSpec.upto (s : _root_.Go.ChangeSpec) : _root_.Go.OpenSpec := { _root_.Go.OpenSpec.ofChange s with cond := some uptoSmall }

/-- 'laws.FnExactSlipText', WHERE WHAT IT READS IS OF BULK AT MOST 1048576: true; the input reads as it did. -/
def fnExactSlipTextUptoRow : OpenClaim := { program := "ytlbcdojembakiaa", sum := "34a8c55eb11e4815317bf4a0b2a03afe415804741d9c7480358f7bb18afcf41f", func := "loop.example/g01411/laws.FnExactSlipText", spec := "fnExactSlipText", inPlace := ["internal/abi.NoEscape", "internal/bytealg.MakeNoZero"], recurses := true, apart := false, narrowed := true }
def FnExactSlipTextUptoSaid : Prop := fnExactSlipTextUptoRow.holds Try.pinned (OpenSpec.upto fnExactSlipTextSpec)

/-- 'laws.FnExactHammingCode', WHERE WHAT IT READS IS OF BULK AT MOST 1048576: true; the input reads as it did. -/
def fnExactHammingCodeUptoRow : OpenClaim := { program := "ytlbcdojembakiaa", sum := "34a8c55eb11e4815317bf4a0b2a03afe415804741d9c7480358f7bb18afcf41f", func := "loop.example/g01411/laws.FnExactHammingCode", spec := "fnExactHammingCode", unfollowed := true, recurses := true, apart := false, narrowed := true }
def FnExactHammingCodeUptoSaid : Prop := fnExactHammingCodeUptoRow.holds Try.pinned (OpenSpec.upto fnExactHammingCodeSpec)

/-- 'laws.FnExactDecodeWord', WHERE WHAT IT READS IS OF BULK AT MOST 1048576: true; the input reads as it did. -/
def fnExactDecodeWordUptoRow : OpenClaim := { program := "ytlbcdojembakiaa", sum := "34a8c55eb11e4815317bf4a0b2a03afe415804741d9c7480358f7bb18afcf41f", func := "loop.example/g01411/laws.FnExactDecodeWord", spec := "fnExactDecodeWord", unfollowed := true, recurses := true, apart := false, narrowed := true }
def FnExactDecodeWordUptoSaid : Prop := fnExactDecodeWordUptoRow.holds Try.pinned (OpenSpec.upto fnExactDecodeWordSpec)

/-- 'laws.FnExactIsLinear', WHERE WHAT IT READS IS OF BULK AT MOST 1048576: true; the input reads as it did. -/
def fnExactIsLinearUptoRow : OpenClaim := { program := "ytlbcdojembakiaa", sum := "34a8c55eb11e4815317bf4a0b2a03afe415804741d9c7480358f7bb18afcf41f", func := "loop.example/g01411/laws.FnExactIsLinear", spec := "fnExactIsLinear", unfollowed := true, recurses := true, apart := false, narrowed := true }
def FnExactIsLinearUptoSaid : Prop := fnExactIsLinearUptoRow.holds Try.pinned (OpenSpec.upto fnExactIsLinearSpec)

/-- 'laws.FnExactLeastNumber', WHERE WHAT IT READS IS OF BULK AT MOST 1048576: true; the input reads as it did. -/
def fnExactLeastNumberUptoRow : OpenClaim := { program := "ytlbcdojembakiaa", sum := "34a8c55eb11e4815317bf4a0b2a03afe415804741d9c7480358f7bb18afcf41f", func := "loop.example/g01411/laws.FnExactLeastNumber", spec := "fnExactLeastNumber", unfollowed := true, recurses := true, apart := false, narrowed := true }
def FnExactLeastNumberUptoSaid : Prop := fnExactLeastNumberUptoRow.holds Try.pinned (OpenSpec.upto fnExactLeastNumberSpec)

/-- 'laws.FnExactCanGrow', WHERE WHAT IT READS IS OF BULK AT MOST 1048576: true; the input reads as it did. -/
def fnExactCanGrowUptoRow : OpenClaim := { program := "ytlbcdojembakiaa", sum := "34a8c55eb11e4815317bf4a0b2a03afe415804741d9c7480358f7bb18afcf41f", func := "loop.example/g01411/laws.FnExactCanGrow", spec := "fnExactCanGrow", apart := false, narrowed := true }
def FnExactCanGrowUptoSaid : Prop := fnExactCanGrowUptoRow.holds Try.pinned (OpenSpec.upto fnExactCanGrowSpec)

end Rows
end Go.Proofs.Ytlbcdojembakiaa
