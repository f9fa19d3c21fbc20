/-
  DERIVED. GIVEN WITH THE SEED: THE CARDS: each row of YtfihkpknhkbciaaDoorRows.lean that lists a variable, with what it lists TIED to the program's text (the seventh form; the later family's looks); each row that meets fmt, with fmt's text TOLD by the authors' own Lean function (tested against real Go, not proved from fmt's source: count such statements apart). THE CARD IS WHAT COUNTS. Prove the row's statement (the work); the ties are given (YtfihkpknhkbciaaDoorTie.lean); close each card by the builder's one call (the guide's Derived/Test/ToyasCard.lean, 'card_holds'). Laid BY PROGRAM, IN A SANDBOX (cutbox-door.mjs). By AI agents, Wed Nov 11 2026. No macro, syntax, notation, axiom, sorry.
-/
import Derived.Test.YtfihkpknhkbciaaDoorRows
import GoSem.ClaimSeven
namespace Go.Proofs.YtfihkpknhkbciaaDoor
namespace Rows

/-- THE TIED CARD OF 'laws.FnExactTablesRead'. -/
def fnExactTablesReadCard : Claim7 := { stood := { row := fnExactTablesReadRow, standIns := [], harness := (true, "71d1f196f02febfa71b691400190c14b81c4445b806ef109e413ab39473cc247"), looks := false }, kinds := [], alts := [], laidByText := true, laidKinds := [.data, .pinned], laidTests := true, laidLooks := .later }
def FnExactTablesReadCardSaid : Prop := Claim7.holds Tryd.pinned (.plain (OpenSpec.ofChange fnExactTablesReadSpec)) fnExactTablesReadCard

/-- THE SECOND FORM's CARD OF 'laws.FnExactTablesRead'. -/
def fnExactTablesReadUptoCard : Claim7 := { stood := { row := fnExactTablesReadUptoRow, standIns := [], harness := (true, "71d1f196f02febfa71b691400190c14b81c4445b806ef109e413ab39473cc247"), looks := false }, kinds := [], alts := [], laidByText := true, laidKinds := [.data, .pinned], laidTests := true, laidLooks := .later }
def FnExactTablesReadUptoCardSaid : Prop := Claim7.holds Tryd.pinned (.plain (OpenSpec.upto fnExactTablesReadSpec)) fnExactTablesReadUptoCard
end Rows
end Go.Proofs.YtfihkpknhkbciaaDoor
