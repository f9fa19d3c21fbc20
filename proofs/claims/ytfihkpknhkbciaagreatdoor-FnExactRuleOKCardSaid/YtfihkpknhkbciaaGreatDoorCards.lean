/-
  DERIVED. GIVEN WITH THE SEED: THE CARDS: each row of YtfihkpknhkbciaaGreatDoorRows.lean that lists a variable, with what it lists TIED to the program's text (the seventh form; the later family's looks); each row that meets fmt, with fmt's text TOLD by the authors' own Lean function (tested against real Go, not proved from fmt's source: count such statements apart). THE CARD IS WHAT COUNTS. Prove the row's statement (the work); the ties are given (YtfihkpknhkbciaaGreatDoorTie.lean); close each card by the builder's one call (the guide's Derived/Test/ToyasCard.lean, 'card_holds'). Laid BY PROGRAM, IN A SANDBOX (cutbox-door.mjs). By AI agents, Wed Nov 11 2026. No macro, syntax, notation, axiom, sorry.
-/
import Derived.Test.YtfihkpknhkbciaaGreatDoorRows
import GoSem.ClaimSeven
namespace Go.Proofs.YtfihkpknhkbciaaGreatDoor
namespace Rows

/-- THE TIED CARD OF 'laws.FnExactPlanRows'. -/
def fnExactPlanRowsCard : Claim7 := { stood := { row := fnExactPlanRowsRow, standIns := [], harness := (true, "99d064c79eb5192f790aab6ce14c23e59d61ad9800ade286770ed6e9d9bed371"), looks := false }, kinds := [], alts := [], laidByText := true, laidKinds := [.data, .pinned], laidTests := true, laidLooks := .later }
def FnExactPlanRowsCardSaid : Prop := Claim7.holds Tryz.pinned (.plain (OpenSpec.ofChange fnExactPlanRowsSpec)) fnExactPlanRowsCard

/-- THE TIED CARD OF 'laws.FnExactRuleOK'. -/
def fnExactRuleOKCard : Claim7 := { stood := { row := fnExactRuleOKRow, standIns := [], harness := (true, "99d064c79eb5192f790aab6ce14c23e59d61ad9800ade286770ed6e9d9bed371"), looks := false }, kinds := [], alts := [], laidByText := true, laidKinds := [.data, .pinned], laidTests := true, laidLooks := .later }
def FnExactRuleOKCardSaid : Prop := Claim7.holds Tryz.pinned (.plain (OpenSpec.ofChange fnExactRuleOKSpec)) fnExactRuleOKCard

/-- THE TIED CARD OF 'laws.FnExactMatchRules'. -/
def fnExactMatchRulesCard : Claim7 := { stood := { row := fnExactMatchRulesRow, standIns := [], harness := (true, "99d064c79eb5192f790aab6ce14c23e59d61ad9800ade286770ed6e9d9bed371"), looks := false }, kinds := [], alts := [], laidByText := true, laidKinds := [.data, .pinned], laidTests := true, laidLooks := .later }
def FnExactMatchRulesCardSaid : Prop := Claim7.holds Tryz.pinned (.plain (OpenSpec.ofChange fnExactMatchRulesSpec)) fnExactMatchRulesCard

/-- THE TIED CARD OF 'laws.FnExactPlanSql'. -/
def fnExactPlanSqlCard : Claim7 := { stood := { row := fnExactPlanSqlRow, standIns := [], harness := (true, "99d064c79eb5192f790aab6ce14c23e59d61ad9800ade286770ed6e9d9bed371"), looks := false }, kinds := [], alts := [], laidByText := true, laidKinds := [.data, .pinned], laidTests := true, laidLooks := .later }
def FnExactPlanSqlCardSaid : Prop := Claim7.holds Tryz.pinned (.plain (OpenSpec.ofChange fnExactPlanSqlSpec)) fnExactPlanSqlCard

/-- THE SECOND FORM's CARD OF 'laws.FnExactPlanRows'. -/
def fnExactPlanRowsUptoCard : Claim7 := { stood := { row := fnExactPlanRowsUptoRow, standIns := [], harness := (true, "99d064c79eb5192f790aab6ce14c23e59d61ad9800ade286770ed6e9d9bed371"), looks := false }, kinds := [], alts := [], laidByText := true, laidKinds := [.data, .pinned], laidTests := true, laidLooks := .later }
def FnExactPlanRowsUptoCardSaid : Prop := Claim7.holds Tryz.pinned (.plain (OpenSpec.upto fnExactPlanRowsSpec)) fnExactPlanRowsUptoCard

/-- THE SECOND FORM's CARD OF 'laws.FnExactRuleOK'. -/
def fnExactRuleOKUptoCard : Claim7 := { stood := { row := fnExactRuleOKUptoRow, standIns := [], harness := (true, "99d064c79eb5192f790aab6ce14c23e59d61ad9800ade286770ed6e9d9bed371"), looks := false }, kinds := [], alts := [], laidByText := true, laidKinds := [.data, .pinned], laidTests := true, laidLooks := .later }
def FnExactRuleOKUptoCardSaid : Prop := Claim7.holds Tryz.pinned (.plain (OpenSpec.upto fnExactRuleOKSpec)) fnExactRuleOKUptoCard

/-- THE SECOND FORM's CARD OF 'laws.FnExactMatchRules'. -/
def fnExactMatchRulesUptoCard : Claim7 := { stood := { row := fnExactMatchRulesUptoRow, standIns := [], harness := (true, "99d064c79eb5192f790aab6ce14c23e59d61ad9800ade286770ed6e9d9bed371"), looks := false }, kinds := [], alts := [], laidByText := true, laidKinds := [.data, .pinned], laidTests := true, laidLooks := .later }
def FnExactMatchRulesUptoCardSaid : Prop := Claim7.holds Tryz.pinned (.plain (OpenSpec.upto fnExactMatchRulesSpec)) fnExactMatchRulesUptoCard

/-- THE SECOND FORM's CARD OF 'laws.FnExactPlanSql'. -/
def fnExactPlanSqlUptoCard : Claim7 := { stood := { row := fnExactPlanSqlUptoRow, standIns := [], harness := (true, "99d064c79eb5192f790aab6ce14c23e59d61ad9800ade286770ed6e9d9bed371"), looks := false }, kinds := [], alts := [], laidByText := true, laidKinds := [.data, .pinned], laidTests := true, laidLooks := .later }
def FnExactPlanSqlUptoCardSaid : Prop := Claim7.holds Tryz.pinned (.plain (OpenSpec.upto fnExactPlanSqlSpec)) fnExactPlanSqlUptoCard
end Rows
end Go.Proofs.YtfihkpknhkbciaaGreatDoor
