/-
  No cell of these rows narrows 'for every input' (looked for: loops, veiled, ifaces, maps, wideKeys, modest, calm, conditions, laid).
  DERIVED. THE GIVEN ROWS OF THIS SEAT. 4 by the template 'for every input the law returns true; each argument reads behind the call as it read before'; 0 by the template 'total and deterministic' (their statements: YtaigdomjaglifaaTotals.lean).
  GIVEN WITH THE SEED: the statements are not yours to turn. If you find one false, say at which input.
  Laid BY PROGRAM, IN A SANDBOX (cutbox-rows.mjs): the forced cells as the released guide's own fill.sh prints them over the translation c04018db2cf47e59… (all of the seat's roots in one cut). By AI agents, Wed Nov 11 2026. No macro, syntax, notation, axiom, sorry.
-/
import Derived.Test.YtaigdomjaglifaaChecked
import GoSem.Claim
import GoSem.ClaimJoined
import GoSem.ClaimMapViews
import Derived.JoinedTies
import Derived.KernelRfl
namespace Go.Proofs.Ytaigdomjaglifaa
/- THE CELL 'sum', in the pinned program and in every row, IS THE sha256 OF THE DUMP (.gsa) THAT YtaigdomjaglifaaProg.lean LOADS. Nothing in Lean hashes anything: it is a label: what it is worth is what the hold of that sum in a sandbox is worth. -/
noncomputable def Try.pinned : Pinned := { name := "ytaigdomjaglifaa", sum := "c04018db2cf47e595cc834a12f99c528b97a3a2b43c78e6f7e9bc41c14787f82", checked := Try.checked }
namespace Rows
def none {H : Type} : Left H := { results := [], args := [] }

/-- 'laws.FnExactCountPerfect': WHATEVER THE INPUT: true; the input reads as it did. -/
def fnExactCountPerfectSpec : ChangeSpec := { name := "fnExactCountPerfect", fn := fun _ => fun
  | [d1, d2] => { results := [.lit (.bool true)], args := [d1, d2] }
  | _ => none }
def fnExactCountPerfectRow : OpenClaim := { program := "ytaigdomjaglifaa", sum := "c04018db2cf47e595cc834a12f99c528b97a3a2b43c78e6f7e9bc41c14787f82", func := "loop.example/g01411/laws.FnExactCountPerfect", spec := "fnExactCountPerfect", unfollowed := true, recurses := true, apart := false }
def FnExactCountPerfectSaid : Prop := fnExactCountPerfectRow.holds Try.pinned (OpenSpec.ofChange fnExactCountPerfectSpec)

/-- ITS FALSE NEIGHBOUR: 'it returns false'. Refute it at one input. -/
def fnExactCountPerfectWrong : ChangeSpec := { name := "fnExactCountPerfect", fn := fun _ => fun
  | [d1, d2] => { results := [.lit (.bool false)], args := [d1, d2] }
  | _ => none }
def FnExactCountPerfectWrongFalsely : Prop := fnExactCountPerfectRow.holds Try.pinned (OpenSpec.ofChange fnExactCountPerfectWrong)

/-- 'laws.FnExactFirstPerfect': WHATEVER THE INPUT: true; the input reads as it did. -/
def fnExactFirstPerfectSpec : ChangeSpec := { name := "fnExactFirstPerfect", fn := fun _ => fun
  | [d1, d2] => { results := [.lit (.bool true)], args := [d1, d2] }
  | _ => none }
def fnExactFirstPerfectRow : OpenClaim := { program := "ytaigdomjaglifaa", sum := "c04018db2cf47e595cc834a12f99c528b97a3a2b43c78e6f7e9bc41c14787f82", func := "loop.example/g01411/laws.FnExactFirstPerfect", spec := "fnExactFirstPerfect", unfollowed := true, recurses := true, apart := false }
def FnExactFirstPerfectSaid : Prop := fnExactFirstPerfectRow.holds Try.pinned (OpenSpec.ofChange fnExactFirstPerfectSpec)

/-- ITS FALSE NEIGHBOUR: 'it returns false'. Refute it at one input. -/
def fnExactFirstPerfectWrong : ChangeSpec := { name := "fnExactFirstPerfect", fn := fun _ => fun
  | [d1, d2] => { results := [.lit (.bool false)], args := [d1, d2] }
  | _ => none }
def FnExactFirstPerfectWrongFalsely : Prop := fnExactFirstPerfectRow.holds Try.pinned (OpenSpec.ofChange fnExactFirstPerfectWrong)

/-- 'laws.FnExactLeastNumber': WHATEVER THE INPUT: true; the input reads as it did. -/
def fnExactLeastNumberSpec : ChangeSpec := { name := "fnExactLeastNumber", fn := fun _ => fun
  | [d1, d2] => { results := [.lit (.bool true)], args := [d1, d2] }
  | _ => none }
def fnExactLeastNumberRow : OpenClaim := { program := "ytaigdomjaglifaa", sum := "c04018db2cf47e595cc834a12f99c528b97a3a2b43c78e6f7e9bc41c14787f82", func := "loop.example/g01411/laws.FnExactLeastNumber", spec := "fnExactLeastNumber", unfollowed := true, recurses := true, apart := false }
def FnExactLeastNumberSaid : Prop := fnExactLeastNumberRow.holds Try.pinned (OpenSpec.ofChange fnExactLeastNumberSpec)

/-- ITS FALSE NEIGHBOUR: 'it returns false'. Refute it at one input. -/
def fnExactLeastNumberWrong : ChangeSpec := { name := "fnExactLeastNumber", fn := fun _ => fun
  | [d1, d2] => { results := [.lit (.bool false)], args := [d1, d2] }
  | _ => none }
def FnExactLeastNumberWrongFalsely : Prop := fnExactLeastNumberRow.holds Try.pinned (OpenSpec.ofChange fnExactLeastNumberWrong)

/-- 'laws.FnExactFirstCover': WHATEVER THE INPUT: true; the input reads as it did. -/
def fnExactFirstCoverSpec : ChangeSpec := { name := "fnExactFirstCover", fn := fun _ => fun
  | [d1, d2] => { results := [.lit (.bool true)], args := [d1, d2] }
  | _ => none }
def fnExactFirstCoverRow : OpenClaim := { program := "ytaigdomjaglifaa", sum := "c04018db2cf47e595cc834a12f99c528b97a3a2b43c78e6f7e9bc41c14787f82", func := "loop.example/g01411/laws.FnExactFirstCover", spec := "fnExactFirstCover", unfollowed := true, recurses := true, apart := false }
def FnExactFirstCoverSaid : Prop := fnExactFirstCoverRow.holds Try.pinned (OpenSpec.ofChange fnExactFirstCoverSpec)

/-- ITS FALSE NEIGHBOUR: 'it returns false'. Refute it at one input. -/
def fnExactFirstCoverWrong : ChangeSpec := { name := "fnExactFirstCover", fn := fun _ => fun
  | [d1, d2] => { results := [.lit (.bool false)], args := [d1, d2] }
  | _ => none }
def FnExactFirstCoverWrongFalsely : Prop := fnExactFirstCoverRow.holds Try.pinned (OpenSpec.ofChange fnExactFirstCoverWrong)

/- THE SECOND FORM. 'bulk': how many values and letters a reading holds, each counted each time it is reached (what is shared counts as often as it is met; a slice's spare places count too). A statement '..UptoSaid' is the law's where the arguments, and the package variables that the reading takes, are together of bulk at most 1048576: NARROWER than '..Said'. Prove '..Said' where nothing that the law and all that it calls make is longer than what came in: it says more and counts as full. Else prove '..UptoSaid'. A law counts once. -/
mutual
def uptoBulk {H : Type} : DataW H → Nat
  | .lit (.string bytes) => bytes.length + 1
  | .lit _ => 1
  | .nil => 1
  | .ptr d => uptoBulk d + 1
  | .slice elems spare => uptoBulkAll elems + uptoBulkAll spare + 1
  | .agg parts => uptoBulkAll parts + 1
  | .iface _ d => uptoBulk d + 1
  | .map entries => uptoBulkEntries entries + 1
  | .held _ => 1
def uptoBulkAll {H : Type} : List (DataW H) → Nat
  | [] => 0
  | d :: r => uptoBulk d + uptoBulkAll r
def uptoBulkEntries {H : Type} : List (Lit × DataW H) → Nat
  | [] => 0
  | x :: r => uptoBulkEntry x + uptoBulkEntries r
def uptoBulkEntry {H : Type} : Lit × DataW H → Nat
  | (.string bytes, d) => bytes.length + uptoBulk d + 1
  | (_, d) => uptoBulk d + 1
 end
def uptoSmall : (H : Type) → List (DataW H) → Bool := fun _ ds => decide (uptoBulkAll ds ≤ 1048576)
def OpenSpec.upto (s : _root_.Go.ChangeSpec) : _root_.Go.OpenSpec := { _root_.Go.OpenSpec.ofChange s with cond := some uptoSmall }

/-- 'laws.FnExactCountPerfect', WHERE WHAT IT READS IS OF BULK AT MOST 1048576: true; the input reads as it did. -/
def fnExactCountPerfectUptoRow : OpenClaim := { program := "ytaigdomjaglifaa", sum := "c04018db2cf47e595cc834a12f99c528b97a3a2b43c78e6f7e9bc41c14787f82", func := "loop.example/g01411/laws.FnExactCountPerfect", spec := "fnExactCountPerfect", unfollowed := true, recurses := true, apart := false, narrowed := true }
def FnExactCountPerfectUptoSaid : Prop := fnExactCountPerfectUptoRow.holds Try.pinned (OpenSpec.upto fnExactCountPerfectSpec)

/-- 'laws.FnExactFirstPerfect', WHERE WHAT IT READS IS OF BULK AT MOST 1048576: true; the input reads as it did. -/
def fnExactFirstPerfectUptoRow : OpenClaim := { program := "ytaigdomjaglifaa", sum := "c04018db2cf47e595cc834a12f99c528b97a3a2b43c78e6f7e9bc41c14787f82", func := "loop.example/g01411/laws.FnExactFirstPerfect", spec := "fnExactFirstPerfect", unfollowed := true, recurses := true, apart := false, narrowed := true }
def FnExactFirstPerfectUptoSaid : Prop := fnExactFirstPerfectUptoRow.holds Try.pinned (OpenSpec.upto fnExactFirstPerfectSpec)

/-- 'laws.FnExactLeastNumber', WHERE WHAT IT READS IS OF BULK AT MOST 1048576: true; the input reads as it did. -/
def fnExactLeastNumberUptoRow : OpenClaim := { program := "ytaigdomjaglifaa", sum := "c04018db2cf47e595cc834a12f99c528b97a3a2b43c78e6f7e9bc41c14787f82", func := "loop.example/g01411/laws.FnExactLeastNumber", spec := "fnExactLeastNumber", unfollowed := true, recurses := true, apart := false, narrowed := true }
def FnExactLeastNumberUptoSaid : Prop := fnExactLeastNumberUptoRow.holds Try.pinned (OpenSpec.upto fnExactLeastNumberSpec)

/-- 'laws.FnExactFirstCover', WHERE WHAT IT READS IS OF BULK AT MOST 1048576: true; the input reads as it did. -/
def fnExactFirstCoverUptoRow : OpenClaim := { program := "ytaigdomjaglifaa", sum := "c04018db2cf47e595cc834a12f99c528b97a3a2b43c78e6f7e9bc41c14787f82", func := "loop.example/g01411/laws.FnExactFirstCover", spec := "fnExactFirstCover", unfollowed := true, recurses := true, apart := false, narrowed := true }
def FnExactFirstCoverUptoSaid : Prop := fnExactFirstCoverUptoRow.holds Try.pinned (OpenSpec.upto fnExactFirstCoverSpec)

end Rows
end Go.Proofs.Ytaigdomjaglifaa
