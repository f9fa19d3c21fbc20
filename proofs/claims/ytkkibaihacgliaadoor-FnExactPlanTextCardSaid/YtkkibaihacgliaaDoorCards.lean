/-
  DERIVED. GIVEN WITH THE SEED: THE CARDS: each row of YtkkibaihacgliaaDoorRows.lean that lists a variable, with what it lists TIED to the program's text (the seventh form; the later family's looks); each row that meets fmt, with fmt's text TOLD by the authors' own Lean function (tested against real Go, not proved from fmt's source: count such statements apart). THE CARD IS WHAT COUNTS. Prove the row's statement (the work); the ties are given (YtkkibaihacgliaaDoorTie.lean); close each card by the builder's one call (the guide's Derived/Test/ToyasCard.lean, 'card_holds'). Laid BY PROGRAM, IN A SANDBOX (cutbox-door.mjs). By AI agents, Wed Nov 11 2026. No macro, syntax, notation, axiom, sorry.
-/
import Derived.Test.YtkkibaihacgliaaDoorRows
import GoSem.ClaimSeven
namespace Go.Proofs.YtkkibaihacgliaaDoor
namespace Rows

/-- THE TIED CARD OF 'laws.FnExactPlanText'. -/
def fnExactPlanTextCard : Claim7 := { stood := { row := fnExactPlanTextRow, standIns := [], harness := (true, "ee0b1a2010571ee3dd4441964caf6e8b45fbd72ec4e4d190ab1440efe3626027"), looks := true }, kinds := [], alts := [], laidByText := true, laidKinds := [.data, .pinned], laidTests := true, laidLooks := .later }
def FnExactPlanTextCardSaid : Prop := Claim7.holds Tryd.pinned (.plain (OpenSpec.ofChange fnExactPlanTextSpec)) fnExactPlanTextCard

/-- THE TIED CARD OF 'laws.FnExactGuardOK'. -/
def fnExactGuardOKCard : Claim7 := { stood := { row := fnExactGuardOKRow, standIns := [], harness := (true, "ee0b1a2010571ee3dd4441964caf6e8b45fbd72ec4e4d190ab1440efe3626027"), looks := true }, kinds := [], alts := [], laidByText := true, laidKinds := [.data, .pinned], laidTests := true, laidLooks := .later }
def FnExactGuardOKCardSaid : Prop := Claim7.holds Tryd.pinned (.plain (OpenSpec.ofChange fnExactGuardOKSpec)) fnExactGuardOKCard

/-- THE TIED CARD OF 'laws.FnExactTablesRead'. -/
def fnExactTablesReadCard : Claim7 := { stood := { row := fnExactTablesReadRow, standIns := [], harness := (true, "ee0b1a2010571ee3dd4441964caf6e8b45fbd72ec4e4d190ab1440efe3626027"), looks := true }, kinds := [], alts := [], laidByText := true, laidKinds := [.data, .pinned], laidTests := true, laidLooks := .later }
def FnExactTablesReadCardSaid : Prop := Claim7.holds Tryd.pinned (.plain (OpenSpec.ofChange fnExactTablesReadSpec)) fnExactTablesReadCard

/-- THE TIED CARD OF 'laws.FnExactReplyText'. -/
def fnExactReplyTextCard : Claim7 := { stood := { row := fnExactReplyTextRow, standIns := [], harness := (true, "ee0b1a2010571ee3dd4441964caf6e8b45fbd72ec4e4d190ab1440efe3626027"), looks := true }, kinds := [], alts := [], laidByText := true, laidKinds := [.data, .data, .data, .data, .pinned], laidTests := true, laidLooks := .later }
def FnExactReplyTextCardSaid : Prop := Claim7.holds Tryd.pinned (.plain (OpenSpec.ofChange fnExactReplyTextSpec)) fnExactReplyTextCard

/-- THE TIED CARD OF 'laws.FnExactSqlTokens'. -/
def fnExactSqlTokensCard : Claim7 := { stood := { row := fnExactSqlTokensRow, standIns := [], harness := (true, "ee0b1a2010571ee3dd4441964caf6e8b45fbd72ec4e4d190ab1440efe3626027"), looks := true }, kinds := [], alts := [], laidByText := true, laidKinds := [.data, .data, .data, .data, .sentinel, .sentinel, .pinned], laidTests := true, laidLooks := .later }
def FnExactSqlTokensCardSaid : Prop := Claim7.holds Tryd.pinned (.plain (OpenSpec.ofChange fnExactSqlTokensSpec)) fnExactSqlTokensCard

/-- THE SECOND FORM's CARD OF 'laws.FnExactPlanText'. -/
def fnExactPlanTextUptoCard : Claim7 := { stood := { row := fnExactPlanTextUptoRow, standIns := [], harness := (true, "ee0b1a2010571ee3dd4441964caf6e8b45fbd72ec4e4d190ab1440efe3626027"), looks := true }, kinds := [], alts := [], laidByText := true, laidKinds := [.data, .pinned], laidTests := true, laidLooks := .later }
def FnExactPlanTextUptoCardSaid : Prop := Claim7.holds Tryd.pinned (.plain (OpenSpec.upto fnExactPlanTextSpec)) fnExactPlanTextUptoCard

/-- THE SECOND FORM's CARD OF 'laws.FnExactGuardOK'. -/
def fnExactGuardOKUptoCard : Claim7 := { stood := { row := fnExactGuardOKUptoRow, standIns := [], harness := (true, "ee0b1a2010571ee3dd4441964caf6e8b45fbd72ec4e4d190ab1440efe3626027"), looks := true }, kinds := [], alts := [], laidByText := true, laidKinds := [.data, .pinned], laidTests := true, laidLooks := .later }
def FnExactGuardOKUptoCardSaid : Prop := Claim7.holds Tryd.pinned (.plain (OpenSpec.upto fnExactGuardOKSpec)) fnExactGuardOKUptoCard

/-- THE SECOND FORM's CARD OF 'laws.FnExactTablesRead'. -/
def fnExactTablesReadUptoCard : Claim7 := { stood := { row := fnExactTablesReadUptoRow, standIns := [], harness := (true, "ee0b1a2010571ee3dd4441964caf6e8b45fbd72ec4e4d190ab1440efe3626027"), looks := true }, kinds := [], alts := [], laidByText := true, laidKinds := [.data, .pinned], laidTests := true, laidLooks := .later }
def FnExactTablesReadUptoCardSaid : Prop := Claim7.holds Tryd.pinned (.plain (OpenSpec.upto fnExactTablesReadSpec)) fnExactTablesReadUptoCard

/-- THE SECOND FORM's CARD OF 'laws.FnExactReplyText'. -/
def fnExactReplyTextUptoCard : Claim7 := { stood := { row := fnExactReplyTextUptoRow, standIns := [], harness := (true, "ee0b1a2010571ee3dd4441964caf6e8b45fbd72ec4e4d190ab1440efe3626027"), looks := true }, kinds := [], alts := [], laidByText := true, laidKinds := [.data, .data, .data, .data, .pinned], laidTests := true, laidLooks := .later }
def FnExactReplyTextUptoCardSaid : Prop := Claim7.holds Tryd.pinned (.plain (OpenSpec.upto fnExactReplyTextSpec)) fnExactReplyTextUptoCard

/-- THE SECOND FORM's CARD OF 'laws.FnExactSqlTokens'. -/
def fnExactSqlTokensUptoCard : Claim7 := { stood := { row := fnExactSqlTokensUptoRow, standIns := [], harness := (true, "ee0b1a2010571ee3dd4441964caf6e8b45fbd72ec4e4d190ab1440efe3626027"), looks := true }, kinds := [], alts := [], laidByText := true, laidKinds := [.data, .data, .data, .data, .sentinel, .sentinel, .pinned], laidTests := true, laidLooks := .later }
def FnExactSqlTokensUptoCardSaid : Prop := Claim7.holds Tryd.pinned (.plain (OpenSpec.upto fnExactSqlTokensSpec)) fnExactSqlTokensUptoCard
end Rows
end Go.Proofs.YtkkibaihacgliaaDoor
