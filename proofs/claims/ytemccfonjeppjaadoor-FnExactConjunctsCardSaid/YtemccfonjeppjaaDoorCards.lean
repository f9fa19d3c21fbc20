/-
  DERIVED. GIVEN WITH THE SEED: THE CARDS: each row of YtemccfonjeppjaaDoorRows.lean that lists a variable, with what it lists TIED to the program's text (the seventh form; the later family's looks); each row that meets fmt, with fmt's text TOLD by the authors' own Lean function (tested against real Go, not proved from fmt's source: count such statements apart). THE CARD IS WHAT COUNTS. Prove the row's statement (the work); the ties are given (YtemccfonjeppjaaDoorTie.lean); close each card by the builder's one call (the guide's Derived/Test/ToyasCard.lean, 'card_holds'). Laid BY PROGRAM, IN A SANDBOX (cutbox-door.mjs). By AI agents, Wed Nov 11 2026. No macro, syntax, notation, axiom, sorry.
-/
import Derived.Test.YtemccfonjeppjaaDoorRows
import GoSem.ClaimSeven
namespace Go.Proofs.YtemccfonjeppjaaDoor
namespace Rows

/-- THE TIED CARD OF 'laws.FnExactConjuncts'. -/
def fnExactConjunctsCard : Claim7 := { stood := { row := fnExactConjunctsRow, standIns := [], harness := (true, "17085c844637e1c21cf9467608513f8ccd28b91e968f3162bc5c62a239716f9a"), looks := false }, kinds := [], alts := [], laidByText := true, laidKinds := [.data, .pinned], laidTests := true, laidLooks := .later }
def FnExactConjunctsCardSaid : Prop := Claim7.holds Tryd.pinned (.plain (OpenSpec.ofChange fnExactConjunctsSpec)) fnExactConjunctsCard

/-- THE SECOND FORM's CARD OF 'laws.FnExactConjuncts'. -/
def fnExactConjunctsUptoCard : Claim7 := { stood := { row := fnExactConjunctsUptoRow, standIns := [], harness := (true, "17085c844637e1c21cf9467608513f8ccd28b91e968f3162bc5c62a239716f9a"), looks := false }, kinds := [], alts := [], laidByText := true, laidKinds := [.data, .pinned], laidTests := true, laidLooks := .later }
def FnExactConjunctsUptoCardSaid : Prop := Claim7.holds Tryd.pinned (.plain (OpenSpec.upto fnExactConjunctsSpec)) fnExactConjunctsUptoCard
end Rows
end Go.Proofs.YtemccfonjeppjaaDoor
