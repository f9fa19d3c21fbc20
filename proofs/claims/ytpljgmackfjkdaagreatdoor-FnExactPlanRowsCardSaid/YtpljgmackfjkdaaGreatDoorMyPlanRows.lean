/-
  The law FnExactPlanRows holds: for every plan, every list of tables and of their rows the program's PlanRows answers as the reference's.
  No condition: every argument that can be read; the row's listed tables are as the card ties them.
-/
import Derived.Test.YtpljgmackfjkdaaGreatDoorRows
import Derived.Test.YtpljgmackfjkdaaGreatDoorChecked
import Derived.Test.YtpljgmackfjkdaaGreatDoorCards
import Derived.Test.YtpljgmackfjkdaaGreatDoorTie
import Derived.ProofKit
import Derived.OpenShut
import Derived.ChangeOld
import Derived.SizedLaws
import Derived.LaidMore
import Derived.Lay
import Derived.MakeChecks
import Derived.SevenTiedAt
import Derived.Shelf.Vars
import Derived.Lib.SmallJoins
import Derived.Test.YtpljgmackfjkdaaGreatDoorUPlanRowsc
namespace Go.Proofs.YtpljgmackfjkdaaGreatDoor.planRows
open Go.ChangeShapes Go.WideShapes Go.ChangeAt Go.RowKit Go.Proofs.GR
theorem card : Rows.FnExactPlanRowsCardSaid :=
  Claim7.holds_tied_plain_at .later [] [.data, .pinned] true (true, "104ea5ba7e0cfba8df77bfe3cde30a998c9e7ad3841a18e9bf08d1494af59fb1") false
    proved (fun _ h => by cases h) (by kernel_rfl) (fun _ h => by cases h) fnExactPlanRows_row_tie rfl ⟨rfl, rfl⟩ (by kernel_rfl) rfl
    (fun f fn hf hfn => by
      obtain rfl : f = 3 := Option.some.inj ((show Tryz.prog.funcNamed "loop.example/g00208/laws.FnExactPlanRows" = some 3 by kernel_rfl).symm.trans hf) |>.symm
      obtain rfl : fn = Tryz.f3 := (Option.some.inj (Tryz.func3.symm.trans hfn)).symm
      exact ⟨by kernel_rfl, fun j t ht => by
        rw [Tryz.params3] at ht
        have h3 : t = 23 ∨ t = 24 ∨ t = 25 := by
          rcases j with _ | _ | _ | j
          · exact (.inl (by simpa using ht.symm))
          · exact (.inr (.inl (by simpa using ht.symm)))
          · exact (.inr (.inr (by simpa using ht.symm)))
          · simp at ht
        rcases h3 with rfl | rfl | rfl
        · exact (show Tryz.prog.wantsStandIn 23 = false by kernel_rfl)
        · exact (show Tryz.prog.wantsStandIn 24 = false by kernel_rfl)
        · exact (show Tryz.prog.wantsStandIn 25 = false by kernel_rfl)⟩)
    (by kernel_rfl)
end Go.Proofs.YtpljgmackfjkdaaGreatDoor.planRows
namespace Go.Proofs.YtpljgmackfjkdaaGreatDoor
/-- The card, under a short name, for the claim. -/
theorem planRows_holds : Rows.FnExactPlanRowsCardSaid := planRows.card
end Go.Proofs.YtpljgmackfjkdaaGreatDoor
