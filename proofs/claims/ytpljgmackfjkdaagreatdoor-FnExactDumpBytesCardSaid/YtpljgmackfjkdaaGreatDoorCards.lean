/-
  DERIVED. GIVEN WITH THE SEED: THE CARDS: each row of YtpljgmackfjkdaaGreatDoorRows.lean that lists a variable, with what it lists TIED to the program's text (the seventh form; the later family's looks); each row that meets fmt, with fmt's text TOLD by the authors' own Lean function (tested against real Go, not proved from fmt's source: count such statements apart). THE CARD IS WHAT COUNTS. Prove the row's statement (the work); the ties are given (YtpljgmackfjkdaaGreatDoorTie.lean); close each card by the builder's one call (the guide's Derived/Test/ToyasCard.lean, 'card_holds'). Laid BY PROGRAM, IN A SANDBOX (cutbox-door.mjs). By AI agents, Wed Nov 11 2026. No macro, syntax, notation, axiom, sorry.
-/
import Derived.Test.YtpljgmackfjkdaaGreatDoorRows
import GoSem.ClaimSeven
namespace Go.Proofs.YtpljgmackfjkdaaGreatDoor
namespace Rows

/-- THE TIED CARD OF 'laws.FnExactPlanRows'. -/
def fnExactPlanRowsCard : Claim7 := { stood := { row := fnExactPlanRowsRow, standIns := [], harness := (true, "104ea5ba7e0cfba8df77bfe3cde30a998c9e7ad3841a18e9bf08d1494af59fb1"), looks := false }, kinds := [], alts := [], laidByText := true, laidKinds := [.data, .pinned], laidTests := true, laidLooks := .later }
def FnExactPlanRowsCardSaid : Prop := Claim7.holds Tryz.pinned (.plain (OpenSpec.ofChange fnExactPlanRowsSpec)) fnExactPlanRowsCard

/-- THE TIED CARD OF 'laws.FnExactDumpBytes'. -/
def fnExactDumpBytesCard : Claim7 := { stood := { row := fnExactDumpBytesRow, standIns := [], harness := (true, "104ea5ba7e0cfba8df77bfe3cde30a998c9e7ad3841a18e9bf08d1494af59fb1"), looks := false }, kinds := [], alts := [], laidByText := true, laidKinds := [.data, .data, .data, .data, .pinned], laidTests := true, laidLooks := .later }
def FnExactDumpBytesCardSaid : Prop := Claim7.holds Tryz.pinned (.plain (OpenSpec.ofChange fnExactDumpBytesSpec)) fnExactDumpBytesCard

/-- THE TIED CARD OF 'laws.FnExactApplyChange'. -/
def fnExactApplyChangeCard : Claim7 := { stood := { row := fnExactApplyChangeRow, standIns := [], harness := (true, "104ea5ba7e0cfba8df77bfe3cde30a998c9e7ad3841a18e9bf08d1494af59fb1"), looks := false }, kinds := [], alts := [], laidByText := true, laidKinds := [.data, .pinned], laidTests := true, laidLooks := .later }
def FnExactApplyChangeCardSaid : Prop := Claim7.holds Tryz.pinned (.plain (OpenSpec.ofChange fnExactApplyChangeSpec)) fnExactApplyChangeCard

/-- THE SECOND FORM's CARD OF 'laws.FnExactPlanRows'. -/
def fnExactPlanRowsUptoCard : Claim7 := { stood := { row := fnExactPlanRowsUptoRow, standIns := [], harness := (true, "104ea5ba7e0cfba8df77bfe3cde30a998c9e7ad3841a18e9bf08d1494af59fb1"), looks := false }, kinds := [], alts := [], laidByText := true, laidKinds := [.data, .pinned], laidTests := true, laidLooks := .later }
def FnExactPlanRowsUptoCardSaid : Prop := Claim7.holds Tryz.pinned (.plain (OpenSpec.upto fnExactPlanRowsSpec)) fnExactPlanRowsUptoCard

/-- THE SECOND FORM's CARD OF 'laws.FnExactDumpBytes'. -/
def fnExactDumpBytesUptoCard : Claim7 := { stood := { row := fnExactDumpBytesUptoRow, standIns := [], harness := (true, "104ea5ba7e0cfba8df77bfe3cde30a998c9e7ad3841a18e9bf08d1494af59fb1"), looks := false }, kinds := [], alts := [], laidByText := true, laidKinds := [.data, .data, .data, .data, .pinned], laidTests := true, laidLooks := .later }
def FnExactDumpBytesUptoCardSaid : Prop := Claim7.holds Tryz.pinned (.plain (OpenSpec.upto fnExactDumpBytesSpec)) fnExactDumpBytesUptoCard

/-- THE SECOND FORM's CARD OF 'laws.FnExactApplyChange'. -/
def fnExactApplyChangeUptoCard : Claim7 := { stood := { row := fnExactApplyChangeUptoRow, standIns := [], harness := (true, "104ea5ba7e0cfba8df77bfe3cde30a998c9e7ad3841a18e9bf08d1494af59fb1"), looks := false }, kinds := [], alts := [], laidByText := true, laidKinds := [.data, .pinned], laidTests := true, laidLooks := .later }
def FnExactApplyChangeUptoCardSaid : Prop := Claim7.holds Tryz.pinned (.plain (OpenSpec.upto fnExactApplyChangeSpec)) fnExactApplyChangeUptoCard
end Rows
end Go.Proofs.YtpljgmackfjkdaaGreatDoor
