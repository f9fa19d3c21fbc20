/-
  The law FnExactDumpBytes holds: for every list of tables and of their rows the program's DumpBytes answers as the reference's.
  No condition: every argument that can be read; the row's listed tables are as the card ties them.
-/
import Derived.Test.YtpljgmackfjkdaaGreatDoorRows
import Derived.Test.YtpljgmackfjkdaaGreatDoorChecked
import Derived.Test.YtpljgmackfjkdaaGreatDoorCards
import Derived.Test.YtpljgmackfjkdaaGreatDoorTie
import Derived.ProofKit
import Derived.OpenShut
import Derived.ChangeOld
import Derived.SizedLaws
import Derived.LaidMore
import Derived.Lay
import Derived.MakeChecks
import Derived.SevenTiedAt
import Derived.Shelf.Vars
import Derived.Lib.SmallJoins
import Derived.Test.YtpljgmackfjkdaaGreatDoorUDumpBytesc
namespace Go.Proofs.YtpljgmackfjkdaaGreatDoor.dumpBytes
open Go.ChangeShapes Go.WideShapes Go.ChangeAt Go.RowKit Go.Proofs.GR
theorem card : Rows.FnExactDumpBytesCardSaid :=
  Claim7.holds_tied_plain_at .later [] [.data, .data, .data, .data, .pinned] true (true, "104ea5ba7e0cfba8df77bfe3cde30a998c9e7ad3841a18e9bf08d1494af59fb1") false
    proved (fun _ h => by cases h) (by kernel_rfl) (fun _ h => by cases h) fnExactDumpBytes_row_tie rfl ⟨rfl, rfl⟩ (by kernel_rfl) rfl
    (fun f fn hf hfn => by
      obtain rfl : f = 4 := Option.some.inj ((show Tryz.prog.funcNamed "loop.example/g00208/laws.FnExactDumpBytes" = some 4 by kernel_rfl).symm.trans hf) |>.symm
      obtain rfl : fn = Tryz.f4 := (Option.some.inj (Tryz.func4.symm.trans hfn)).symm
      exact ⟨by kernel_rfl, fun j t ht => by
        rw [Tryz.params4] at ht
        have h3 : t = 24 ∨ t = 25 := by
          rcases j with _ | _ | j
          · exact (.inl (by simpa using ht.symm))
          · exact (.inr (by simpa using ht.symm))
          · simp at ht
        rcases h3 with rfl | rfl
        · exact (show Tryz.prog.wantsStandIn 24 = false by kernel_rfl)
        · exact (show Tryz.prog.wantsStandIn 25 = false by kernel_rfl)⟩)
    (by kernel_rfl)
end Go.Proofs.YtpljgmackfjkdaaGreatDoor.dumpBytes
namespace Go.Proofs.YtpljgmackfjkdaaGreatDoor
/-- The card, under a short name, for the claim. -/
theorem dumpBytes_holds : Rows.FnExactDumpBytesCardSaid := dumpBytes.card
end Go.Proofs.YtpljgmackfjkdaaGreatDoor
