/-
  DERIVED. GIVEN WITH THE SEED: THE CARDS: each row of YtgailliklpkjjaaDoorRows.lean that lists a variable, with what it lists TIED to the program's text (the seventh form; the later family's looks); each row that meets fmt, with fmt's text TOLD by the authors' own Lean function (tested against real Go, not proved from fmt's source: count such statements apart). THE CARD IS WHAT COUNTS. Prove the row's statement (the work); the ties are given (YtgailliklpkjjaaDoorTie.lean); close each card by the builder's one call (the guide's Derived/Test/ToyasCard.lean, 'card_holds'). Laid BY PROGRAM, IN A SANDBOX (cutbox-door.mjs). By AI agents, Wed Nov 11 2026. No macro, syntax, notation, axiom, sorry.
-/
import Derived.Test.YtgailliklpkjjaaDoorRows
import GoSem.ClaimSeven
namespace Go.Proofs.YtgailliklpkjjaaDoor
namespace Rows

/-- THE TIED CARD OF 'laws.FnExactParseSlip'. -/
def fnExactParseSlipCard : Claim7 := { stood := { row := fnExactParseSlipRow, standIns := [], harness := (true, "5cd56f8f09f93cb2bd54866979702d738e457c7d1e628dbab900fa241e7b565e"), looks := false }, kinds := [], alts := [], laidByText := true, laidKinds := [.data, .pinned], laidTests := true, laidLooks := .later }
def FnExactParseSlipCardSaid : Prop := Claim7.holds Tryd.pinned (.plain (OpenSpec.ofChange fnExactParseSlipSpec)) fnExactParseSlipCard

/-- THE SECOND FORM's CARD OF 'laws.FnExactParseSlip'. -/
def fnExactParseSlipUptoCard : Claim7 := { stood := { row := fnExactParseSlipUptoRow, standIns := [], harness := (true, "5cd56f8f09f93cb2bd54866979702d738e457c7d1e628dbab900fa241e7b565e"), looks := false }, kinds := [], alts := [], laidByText := true, laidKinds := [.data, .pinned], laidTests := true, laidLooks := .later }
def FnExactParseSlipUptoCardSaid : Prop := Claim7.holds Tryd.pinned (.plain (OpenSpec.upto fnExactParseSlipSpec)) fnExactParseSlipUptoCard
end Rows
end Go.Proofs.YtgailliklpkjjaaDoor
