/-
  The law FnExactReadKey holds: for all bytes the program's ReadKey answers as the reference's.
  No condition: every argument that can be read.
-/
import Derived.Test.YtemccfonjeppjaaRows
import Derived.Test.YtemccfonjeppjaaChecked
import Derived.Test.YtemccfonjeppjaaTReadKeyb
import Derived.ProofKit
import Derived.OpenShut
import Derived.ChangeOld
import Derived.SizedLaws
import Derived.Lib.SmallJoins
namespace Go.Proofs.Ytemccfonjeppjaa.readKey
open Go.ChangeShapes Go.WideShapes Go.ChangeAt Go.RowKit Go.Proofs.GR

theorem own : ownKnob Try.prog.godebug = none := by kernel_rfl
theorem laidOut : laidOutB Try.prog = true := by kernel_rfl

def ps : List (Bool × Ty) := [(false, .slice (.int .u8))]
theorem bytes (x : denA ps) (h : WfA ps x) : T.Sp.isBytes x.1 = true := T.isBytes_of fun n hn => by
  have := h.1.2 n hn
  have h2 : (Lit.int .u8 n).wf = true := this
  simp [Lit.wf, IntKind.min, IntKind.max, IntKind.signed, IntKind.bits] at h2
  omega
theorem contract (x : denA ps) (h : WfA ps x) : Contract Try.prog T.Γ 11 (argXs ps x) yesRes :=
  law_of T.e11_ok x x.1 (T.law11_pre _ (bytes x h)) rfl (congrArg (fun b : Bool => (⟨[⟨false, [.c (.dat .bool b)]⟩], []⟩ : Res)) (T.law11 x.1 (bytes x h)))

set_option maxRecDepth 100000 in
theorem lifted (os : Os) (started : os.Started) (H : Type) (enc : TypeId × Value → H) :
    ReturnsInHanded {} Try.checked os 11 .any (Rows.fnExactReadKeySpec.pre6 enc Try.prog Try.f11 Rows.fnExactReadKeyRow.domain false) (Rows.fnExactReadKeySpec.post enc Try.prog Try.f11 false true false false) := by
  refine returnsInHanded_of_change_sized (C := Try.checked) own started (by kernel_rfl) Try.func11
    (ChangeSpec.witness6 (enc := enc) (C := Try.checked) false ⟨#[], #[.slice none 0 0], []⟩ 8 (by kernel_rfl) (by kernel_rfl) (by kernel_rfl) (by kernel_rfl)) ?_
  intro W base args ds gs before hval hW hcnd hsz0 _
  have hW' := hW
  obtain ⟨p, q, hA0, hV, rfl, hfz, hnd⟩ := hW
  have hA : DataW.TrodAll enc Try.prog W 0 (fun _ => true) true Try.f11.params.toList args.toList ds p := hA0
  obtain ⟨rfl, rfl⟩ := trodVars_none hV
  refine (law_calls (Γ := T.Γ) (f := 11) (ps := ps) (by kernel_rfl) (by kernel_rfl) (fun x h => contract x h) hA (fun j t v h1 h2 => ⟨.any, base, hval j t v (by simpa using h1) h2⟩)).mono fun e W' ⟨he, bel⟩ => ?_
  subst he
  have hargs := trodAll_stays laidOut bel _ _ _ _ (by kernel_rfl) hA
  have hlen : ds.length = 1 := by
    obtain ⟨_, _, d0, ds0, _, _, _, rfl, _, _, r0⟩ := trodAll_cons hA
    obtain ⟨_, rfl, _⟩ := trodAll_nil r0
    rfl
  obtain ⟨d0, rfl⟩ : ∃ d0, ds = [d0] := by
    match ds, hlen with
    | [d0], _ => exact ⟨d0, rfl⟩
  exact ⟨_, rfl, [d0], [], _, [], _, [], hW', trodAll_mk1 (shut_bool Try.underlying4 _), hargs, rfl, bel.frame _, fun h => by cases h⟩

theorem over : Rows.fnExactReadKeyRow.holds Try.pinned (OpenSpec.ofChange Rows.fnExactReadKeySpec) :=
  OpenClaim.holds_of_wide 11 Try.f11 rfl rfl rfl rfl rfl rfl rfl ⟨rfl, rfl, rfl, rfl, rfl⟩ rfl rfl rfl rfl rfl (by kernel_rfl) Try.func11 (by kernel_rfl)
    (of_decide_eq_true (by kernel_rfl)) (by unfold Func.isWrapper; first | (rw [if_pos (by decide +kernel)]; kernel_rfl) | (rw [if_neg (by decide +kernel)]; exact ⟨rfl, rfl⟩))
    (fun os started H enc _ => lifted os started H enc)
theorem proved : Rows.FnExactReadKeySaid := over
#print axioms proved
end Go.Proofs.Ytemccfonjeppjaa.readKey
namespace Go.Proofs.Ytemccfonjeppjaa
/-- The row, under a short name, for the claim. -/
theorem readKey_holds : Rows.FnExactReadKeySaid := readKey.proved
end Go.Proofs.Ytemccfonjeppjaa
