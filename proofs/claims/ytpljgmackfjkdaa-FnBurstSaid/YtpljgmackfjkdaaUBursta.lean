/-
  No statement is proved here: a part of the law's row.
  No condition.
-/
import Derived.Test.YtpljgmackfjkdaaRows
import Derived.Test.YtpljgmackfjkdaaChecked
import Derived.Test.YtpljgmackfjkdaaTBurstl
import Derived.ProofKit
import Derived.OpenShut
import Derived.ChangeOld
import Derived.SizedLaws
import Derived.Lib.SmallJoins
namespace Go.Proofs.Ytpljgmackfjkdaa.burst
open Go.ChangeShapes Go.WideShapes Go.ChangeAt Go.RowKit Go.Proofs.GR

theorem own : ownKnob Try.prog.godebug = none := by kernel_rfl
theorem laidOut : laidOutB Try.prog = true := by kernel_rfl

def ps : List (Bool × Ty) := [(false, .slice (.int .u8)), (false, .slice (.int .u8))]
theorem byte_of {n : Int} (h : (Lit.int .u8 n).wf = true) : 0 ≤ n ∧ n < 256 := by
  simp [Lit.wf, IntKind.min, IntKind.max, IntKind.signed, IntKind.bits] at h
  omega
theorem contract (x : denA ps) (h : WfA ps x) : Contract Try.prog T.Γ 4 (argXs ps x) yesRes := by
  obtain ⟨⟨_, h1⟩, ⟨_, h2⟩, _⟩ := h
  have b1 : T.Sp.isBytes x.1 = true := T.isBytes_of fun n hn => byte_of (h1 n hn)
  have b2 : T.Sp.isBytes x.2.1 = true := T.isBytes_of fun n hn => byte_of (h2 n hn)
  exact law_of T.e12_ok x (x.1, x.2.1) (T.yes2Q b1 b2) rfl rfl

end Go.Proofs.Ytpljgmackfjkdaa.burst
