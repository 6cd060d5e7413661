/-
  No cell of these rows narrows 'for every input' (looked for: loops, veiled, ifaces, maps, wideKeys, modest, calm, conditions, laid).
  DERIVED. THE GIVEN ROWS OF THIS SEAT. 3 by the template 'for every input the law returns true; each argument reads behind the call as it read before'; 0 by the template 'total and deterministic' (their statements: YthnklfdoicdiaaaTotals.lean).
  GIVEN WITH THE SEED: the statements are not yours to turn. If you find one false, say at which input.
  Laid BY PROGRAM, IN A SANDBOX (cutbox-rows.mjs): the forced cells as the released guide's own fill.sh prints them over the translation 599e426f06fd7021… (all of the seat's roots in one cut). By AI agents, Wed Nov 11 2026. No macro, syntax, notation, axiom, sorry.
-/
import Derived.Test.YthnklfdoicdiaaaChecked
import GoSem.Claim
import GoSem.ClaimJoined
import GoSem.ClaimMapViews
import Derived.JoinedTies
import Derived.KernelRfl
namespace Go.Proofs.Ythnklfdoicdiaaa
/- THE CELL 'sum', in the pinned program and in every row, IS THE sha256 OF THE DUMP (.gsa) THAT YthnklfdoicdiaaaProg.lean LOADS. Nothing in Lean hashes anything: it is a label: what it is worth is what the hold of that sum in a sandbox is worth. -/
noncomputable def Try.pinned : Pinned := { name := "ythnklfdoicdiaaa", sum := "599e426f06fd70213f7d911c2bbbe4f967aad84ed70e64916181e4147d3d29c1", checked := Try.checked }
namespace Rows
def none {H : Type} : Left H := { results := [], args := [] }

/-- 'laws.FnExactDoPart': WHATEVER THE INPUT: true; the input reads as it did. -/
def fnExactDoPartSpec : ChangeSpec := { name := "fnExactDoPart", fn := fun _ => fun
  | [d1, d2, d3] => { results := [.lit (.bool true)], args := [d1, d2, d3] }
  | _ => none }
def fnExactDoPartRow : OpenClaim := { program := "ythnklfdoicdiaaa", sum := "599e426f06fd70213f7d911c2bbbe4f967aad84ed70e64916181e4147d3d29c1", func := "loop.example/g01411/laws.FnExactDoPart", spec := "fnExactDoPart", unfollowed := true, recurses := true, apart := false }
def FnExactDoPartSaid : Prop := fnExactDoPartRow.holds Try.pinned (OpenSpec.ofChange fnExactDoPartSpec)

/-- ITS FALSE NEIGHBOUR: 'it returns false'. Refute it at one input. -/
def fnExactDoPartWrong : ChangeSpec := { name := "fnExactDoPart", fn := fun _ => fun
  | [d1, d2, d3] => { results := [.lit (.bool false)], args := [d1, d2, d3] }
  | _ => none }
def FnExactDoPartWrongFalsely : Prop := fnExactDoPartRow.holds Try.pinned (OpenSpec.ofChange fnExactDoPartWrong)

/-- 'laws.FnExactFirstShifts': WHATEVER THE INPUT: true; the input reads as it did. -/
def fnExactFirstShiftsSpec : ChangeSpec := { name := "fnExactFirstShifts", fn := fun _ => fun
  | [d1, d2] => { results := [.lit (.bool true)], args := [d1, d2] }
  | _ => none }
def fnExactFirstShiftsRow : OpenClaim := { program := "ythnklfdoicdiaaa", sum := "599e426f06fd70213f7d911c2bbbe4f967aad84ed70e64916181e4147d3d29c1", func := "loop.example/g01411/laws.FnExactFirstShifts", spec := "fnExactFirstShifts", unfollowed := true, recurses := true, apart := false }
def FnExactFirstShiftsSaid : Prop := fnExactFirstShiftsRow.holds Try.pinned (OpenSpec.ofChange fnExactFirstShiftsSpec)

/-- ITS FALSE NEIGHBOUR: 'it returns false'. Refute it at one input. -/
def fnExactFirstShiftsWrong : ChangeSpec := { name := "fnExactFirstShifts", fn := fun _ => fun
  | [d1, d2] => { results := [.lit (.bool false)], args := [d1, d2] }
  | _ => none }
def FnExactFirstShiftsWrongFalsely : Prop := fnExactFirstShiftsRow.holds Try.pinned (OpenSpec.ofChange fnExactFirstShiftsWrong)

/-- 'laws.FnExactSpanOf': WHATEVER THE INPUT: true; the input reads as it did. -/
def fnExactSpanOfSpec : ChangeSpec := { name := "fnExactSpanOf", fn := fun _ => fun
  | [d1, d2] => { results := [.lit (.bool true)], args := [d1, d2] }
  | _ => none }
def fnExactSpanOfRow : OpenClaim := { program := "ythnklfdoicdiaaa", sum := "599e426f06fd70213f7d911c2bbbe4f967aad84ed70e64916181e4147d3d29c1", func := "loop.example/g01411/laws.FnExactSpanOf", spec := "fnExactSpanOf", unfollowed := true, recurses := true, apart := false }
def FnExactSpanOfSaid : Prop := fnExactSpanOfRow.holds Try.pinned (OpenSpec.ofChange fnExactSpanOfSpec)

/-- ITS FALSE NEIGHBOUR: 'it returns false'. Refute it at one input. -/
def fnExactSpanOfWrong : ChangeSpec := { name := "fnExactSpanOf", fn := fun _ => fun
  | [d1, d2] => { results := [.lit (.bool false)], args := [d1, d2] }
  | _ => none }
def FnExactSpanOfWrongFalsely : Prop := fnExactSpanOfRow.holds Try.pinned (OpenSpec.ofChange fnExactSpanOfWrong)

/- THE SECOND FORM. 'bulk': how many values and letters a reading holds, each counted each time it is reached (what is shared counts as often as it is met; a slice's spare places count too). A statement '..UptoSaid' is the law's where the arguments, and the package variables that the reading takes, are together of bulk at most 1048576: NARROWER than '..Said'. Prove '..Said' where nothing that the law and all that it calls make is longer than what came in: it says more and counts as full. Else prove '..UptoSaid'. A law counts once. -/
mutual
def uptoBulk {H : Type} : DataW H → Nat
  | .lit (.string bytes) => bytes.length + 1
  | .lit _ => 1
  | .nil => 1
  | .ptr d => uptoBulk d + 1
  | .slice elems spare => uptoBulkAll elems + uptoBulkAll spare + 1
  | .agg parts => uptoBulkAll parts + 1
  | .iface _ d => uptoBulk d + 1
  | .map entries => uptoBulkEntries entries + 1
  | .held _ => 1
def uptoBulkAll {H : Type} : List (DataW H) → Nat
  | [] => 0
  | d :: r => uptoBulk d + uptoBulkAll r
def uptoBulkEntries {H : Type} : List (Lit × DataW H) → Nat
  | [] => 0
  | x :: r => uptoBulkEntry x + uptoBulkEntries r
def uptoBulkEntry {H : Type} : Lit × DataW H → Nat
  | (.string bytes, d) => bytes.length + uptoBulk d + 1
  | (_, d) => uptoBulk d + 1
 end
def uptoSmall : (H : Type) → List (DataW H) → Bool := fun _ ds => decide (uptoBulkAll ds ≤ 1048576)
def OpenSpec.upto (s : _root_.Go.ChangeSpec) : _root_.Go.OpenSpec := { _root_.Go.OpenSpec.ofChange s with cond := some uptoSmall }

/-- 'laws.FnExactDoPart', WHERE WHAT IT READS IS OF BULK AT MOST 1048576: true; the input reads as it did. -/
def fnExactDoPartUptoRow : OpenClaim := { program := "ythnklfdoicdiaaa", sum := "599e426f06fd70213f7d911c2bbbe4f967aad84ed70e64916181e4147d3d29c1", func := "loop.example/g01411/laws.FnExactDoPart", spec := "fnExactDoPart", unfollowed := true, recurses := true, apart := false, narrowed := true }
def FnExactDoPartUptoSaid : Prop := fnExactDoPartUptoRow.holds Try.pinned (OpenSpec.upto fnExactDoPartSpec)

/-- 'laws.FnExactFirstShifts', WHERE WHAT IT READS IS OF BULK AT MOST 1048576: true; the input reads as it did. -/
def fnExactFirstShiftsUptoRow : OpenClaim := { program := "ythnklfdoicdiaaa", sum := "599e426f06fd70213f7d911c2bbbe4f967aad84ed70e64916181e4147d3d29c1", func := "loop.example/g01411/laws.FnExactFirstShifts", spec := "fnExactFirstShifts", unfollowed := true, recurses := true, apart := false, narrowed := true }
def FnExactFirstShiftsUptoSaid : Prop := fnExactFirstShiftsUptoRow.holds Try.pinned (OpenSpec.upto fnExactFirstShiftsSpec)

/-- 'laws.FnExactSpanOf', WHERE WHAT IT READS IS OF BULK AT MOST 1048576: true; the input reads as it did. -/
def fnExactSpanOfUptoRow : OpenClaim := { program := "ythnklfdoicdiaaa", sum := "599e426f06fd70213f7d911c2bbbe4f967aad84ed70e64916181e4147d3d29c1", func := "loop.example/g01411/laws.FnExactSpanOf", spec := "fnExactSpanOf", unfollowed := true, recurses := true, apart := false, narrowed := true }
def FnExactSpanOfUptoSaid : Prop := fnExactSpanOfUptoRow.holds Try.pinned (OpenSpec.upto fnExactSpanOfSpec)

end Rows
end Go.Proofs.Ythnklfdoicdiaaa
