/-
  DERIVED. GIVEN WITH THE SEED: THE CARDS: each row of YtaigdomjaglifaaDoorRows.lean that lists a variable, with what it lists TIED to the program's text (the seventh form; the later family's looks); each row that meets fmt, with fmt's text TOLD by the authors' own Lean function (tested against real Go, not proved from fmt's source: count such statements apart). THE CARD IS WHAT COUNTS. Prove the row's statement (the work); the ties are given (YtaigdomjaglifaaDoorTie.lean); close each card by the builder's one call (the guide's Derived/Test/ToyasCard.lean, 'card_holds'). Laid BY PROGRAM, IN A SANDBOX (cutbox-door.mjs). By AI agents, Wed Nov 11 2026. No macro, syntax, notation, axiom, sorry.
-/
import Derived.Test.YtaigdomjaglifaaDoorRows
import GoSem.ClaimSeven
namespace Go.Proofs.YtaigdomjaglifaaDoor
namespace Rows

/-- THE TIED CARD OF 'laws.FnExactGreatestNumber'. -/
def fnExactGreatestNumberCard : Claim7 := { stood := { row := fnExactGreatestNumberRow, standIns := [], harness := (true, "38ad82e80d2f92c978b75f8c6dbe8d38f11cc80ba7ebf1551492298ad6f8bf70"), looks := false }, kinds := [], alts := [], laidByText := true, laidKinds := [.data], laidTests := true, laidLooks := .later }
def FnExactGreatestNumberCardSaid : Prop := Claim7.holds Tryd.pinned (.plain (OpenSpec.ofChange fnExactGreatestNumberSpec)) fnExactGreatestNumberCard

/-- THE TIED CARD OF 'laws.FnExactFirstApart'. -/
def fnExactFirstApartCard : Claim7 := { stood := { row := fnExactFirstApartRow, standIns := [], harness := (true, "38ad82e80d2f92c978b75f8c6dbe8d38f11cc80ba7ebf1551492298ad6f8bf70"), looks := false }, kinds := [], alts := [], laidByText := true, laidKinds := [.data], laidTests := true, laidLooks := .later }
def FnExactFirstApartCardSaid : Prop := Claim7.holds Tryd.pinned (.plain (OpenSpec.ofChange fnExactFirstApartSpec)) fnExactFirstApartCard

/-- THE SECOND FORM's CARD OF 'laws.FnExactGreatestNumber'. -/
def fnExactGreatestNumberUptoCard : Claim7 := { stood := { row := fnExactGreatestNumberUptoRow, standIns := [], harness := (true, "38ad82e80d2f92c978b75f8c6dbe8d38f11cc80ba7ebf1551492298ad6f8bf70"), looks := false }, kinds := [], alts := [], laidByText := true, laidKinds := [.data], laidTests := true, laidLooks := .later }
def FnExactGreatestNumberUptoCardSaid : Prop := Claim7.holds Tryd.pinned (.plain (OpenSpec.upto fnExactGreatestNumberSpec)) fnExactGreatestNumberUptoCard

/-- THE SECOND FORM's CARD OF 'laws.FnExactFirstApart'. -/
def fnExactFirstApartUptoCard : Claim7 := { stood := { row := fnExactFirstApartUptoRow, standIns := [], harness := (true, "38ad82e80d2f92c978b75f8c6dbe8d38f11cc80ba7ebf1551492298ad6f8bf70"), looks := false }, kinds := [], alts := [], laidByText := true, laidKinds := [.data], laidTests := true, laidLooks := .later }
def FnExactFirstApartUptoCardSaid : Prop := Claim7.holds Tryd.pinned (.plain (OpenSpec.upto fnExactFirstApartSpec)) fnExactFirstApartUptoCard
end Rows
end Go.Proofs.YtaigdomjaglifaaDoor
