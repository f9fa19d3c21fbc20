/-
  The law FnBurst holds: a backup that is cut off, or in which bits within some 32 that follow one another are turned, is not opened.
  No condition: every argument that can be read.
-/
import Derived.Test.YtpljgmackfjkdaaRows
import Derived.Test.YtpljgmackfjkdaaChecked
import Derived.ProofKit
import Derived.OpenShut
import Derived.ChangeOld
import Derived.SizedLaws
import Derived.Lib.SmallJoins
import Derived.Test.YtpljgmackfjkdaaUBurstb
namespace Go.Proofs.Ytpljgmackfjkdaa.burst
open Go.ChangeShapes Go.WideShapes Go.ChangeAt Go.RowKit Go.Proofs.GR
theorem over : Rows.fnBurstRow.holds Try.pinned (OpenSpec.ofChange Rows.fnBurstSpec) :=
  OpenClaim.holds_of_wide 4 Try.f4 rfl rfl rfl rfl rfl rfl rfl ⟨rfl, rfl, rfl, rfl, rfl⟩ rfl rfl rfl rfl rfl (by kernel_rfl) Try.func4 (by kernel_rfl)
    (of_decide_eq_true (by kernel_rfl)) (by unfold Func.isWrapper; first | (rw [if_pos (by decide +kernel)]; kernel_rfl) | (rw [if_neg (by decide +kernel)]; exact ⟨rfl, rfl⟩))
    (fun os started H enc _ => lifted os started H enc)
theorem proved : Rows.FnBurstSaid := over
end Go.Proofs.Ytpljgmackfjkdaa.burst
namespace Go.Proofs.Ytpljgmackfjkdaa
/-- The row, under a short name, for the claim. -/
theorem burst_holds : Rows.FnBurstSaid := burst.proved
end Go.Proofs.Ytpljgmackfjkdaa
