/-
  No statement is proved here: a part of the law's row.
  No condition.
-/
import Derived.Test.YtpljgmackfjkdaaGreatDoorRows
import Derived.Test.YtpljgmackfjkdaaGreatDoorChecked
import Derived.Test.YtpljgmackfjkdaaGreatDoorCards
import Derived.Test.YtpljgmackfjkdaaGreatDoorTie
import Derived.ProofKit
import Derived.OpenShut
import Derived.ChangeOld
import Derived.SizedLaws
import Derived.LaidMore
import Derived.Lay
import Derived.MakeChecks
import Derived.SevenTiedAt
import Derived.Shelf.Vars
import Derived.Lib.SmallJoins
import Derived.Test.YtpljgmackfjkdaaGreatDoorUDumpBytesb
namespace Go.Proofs.YtpljgmackfjkdaaGreatDoor.dumpBytes
open Go.ChangeShapes Go.WideShapes Go.ChangeAt Go.RowKit Go.Proofs.GR
theorem over : Rows.fnExactDumpBytesRow.holds Tryz.pinned (OpenSpec.ofChange Rows.fnExactDumpBytesSpec) :=
  OpenClaim.holds_of_wide 4 Tryz.f4 rfl rfl rfl rfl rfl rfl rfl ⟨rfl, rfl, rfl, rfl, rfl⟩ rfl rfl rfl rfl rfl (by kernel_rfl) Tryz.func4 (by kernel_rfl)
    (of_decide_eq_true (by kernel_rfl)) (by unfold Func.isWrapper; first | (rw [if_pos (by decide +kernel)]; kernel_rfl) | (rw [if_neg (by decide +kernel)]; exact ⟨rfl, rfl⟩))
    (fun os started H enc _ => lifted os started H enc)
theorem proved : Rows.FnExactDumpBytesSaid := over
end Go.Proofs.YtpljgmackfjkdaaGreatDoor.dumpBytes
