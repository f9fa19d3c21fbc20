/-
  The law FnExactGuardStep holds: for every guard and change the program's GuardStep answers as the reference's.
  No condition: every argument that can be read.
-/
import Derived.Test.YtemccfonjeppjaaRows
import Derived.Test.YtemccfonjeppjaaChecked
import Derived.Test.YtemccfonjeppjaaTGuardStepc
import Derived.ProofKit
import Derived.OpenShut
import Derived.ChangeOld
import Derived.SizedLaws
import Derived.Lib.SmallJoins
namespace Go.Proofs.Ytemccfonjeppjaa.guardStep
open Go.ChangeShapes Go.WideShapes Go.ChangeAt Go.RowKit Go.Proofs.GR

theorem own : ownKnob Try.prog.godebug = none := by kernel_rfl
theorem laidOut : laidOutB Try.prog = true := by kernel_rfl

abbrev tE : Ty := .pair .str .str
abbrev tV : Ty := .pair (.int .i64) (.pair (.int .i64) .str)
def ps : List (Bool × Ty) := [(true, .pair .str (.pair (.int .i64) (.slice tE))), (true, .pair (.int .i64) (.pair .str (.pair (.slice tV) (.slice tV))))]
theorem contract (x : denA ps) (h : WfA ps x) : Contract Try.prog T.Γ 8 (argXs ps x) yesRes := by
  obtain ⟨⟨g1, _, g2⟩, ⟨_, c1, c2, c3⟩, _⟩ := h
  have b1 : x.1.1.size ≤ 9223372036854775807 := g1
  have b2 : T.Sp.okE x.1.2.2 := ⟨g2.1, fun y hy => ⟨(g2.2 y hy).1, (g2.2 y hy).2⟩⟩
  have b3 : x.2.1.2.1.size ≤ 9223372036854775807 := c1
  have b4 : T.Sp.okV x.2.1.2.2.1 := ⟨c2.1, fun y hy => (c2.2 y hy).2.2⟩
  have b5 : T.Sp.okV x.2.1.2.2.2 := ⟨c3.1, fun y hy => (c3.2 y hy).2.2⟩
  exact law_of T.e8_ok x ((x.1.1, x.1.2.1, x.1.2.2), (x.2.1.1, x.2.1.2.1, x.2.1.2.2.1, x.2.1.2.2.2)) (T.law8_pre _ _ _ _ _ _ _ b1 b2 b3 b4 b5) rfl (congrArg (fun b : Bool => (⟨[⟨false, [.c (.dat .bool b)]⟩], []⟩ : Res)) (T.law8 _ _ _ _ _ _ _))

set_option maxRecDepth 100000 in
theorem lifted (os : Os) (started : os.Started) (H : Type) (enc : TypeId × Value → H) :
    ReturnsInHanded {} Try.checked os 8 .any (Rows.fnExactGuardStepSpec.pre6 enc Try.prog Try.f8 Rows.fnExactGuardStepRow.domain false) (Rows.fnExactGuardStepSpec.post enc Try.prog Try.f8 false true false false) := by
  refine returnsInHanded_of_change_sized (C := Try.checked) own started (by kernel_rfl) Try.func8
    (ChangeSpec.witness6 (enc := enc) (C := Try.checked) false ⟨#[], #[.agg #[.string ByteArray.empty, .int .i64 0, .slice none 0 0], .agg #[.int .i64 0, .string ByteArray.empty, .slice none 0 0, .slice none 0 0]], []⟩ 8 (by kernel_rfl) (by kernel_rfl) (by kernel_rfl) (by kernel_rfl)) ?_
  intro W base args ds gs before hval hW hcnd hsz0 _
  have hW' := hW
  obtain ⟨p, q, hA0, hV, rfl, hfz, hnd⟩ := hW
  have hA : DataW.TrodAll enc Try.prog W 0 (fun _ => true) true Try.f8.params.toList args.toList ds p := hA0
  obtain ⟨rfl, rfl⟩ := trodVars_none hV
  refine (law_calls (Γ := T.Γ) (f := 8) (ps := ps) (by kernel_rfl) (by kernel_rfl) (fun x h => contract x h) hA (fun j t v h1 h2 => ⟨.any, base, hval j t v (by simpa using h1) h2⟩)).mono fun e W' ⟨he, bel⟩ => ?_
  subst he
  have hargs := trodAll_stays laidOut bel _ _ _ _ (by kernel_rfl) hA
  have hlen : ds.length = 2 := by
    obtain ⟨_, _, d0, ds0, _, _, _, rfl, _, _, r0⟩ := trodAll_cons hA
    obtain ⟨_, _, d1, ds1, _, _, _, rfl, _, _, r1⟩ := trodAll_cons r0
    obtain ⟨_, rfl, _⟩ := trodAll_nil r1
    rfl
  obtain ⟨d0, d1, rfl⟩ : ∃ d0 d1, ds = [d0, d1] := by
    match ds, hlen with
    | [d0, d1], _ => exact ⟨d0, d1, rfl⟩
  exact ⟨_, rfl, [d0, d1], [], _, [], _, [], hW', trodAll_mk1 (shut_bool Try.underlying4 _), hargs, rfl, bel.frame _, fun h => by cases h⟩

theorem over : Rows.fnExactGuardStepRow.holds Try.pinned (OpenSpec.ofChange Rows.fnExactGuardStepSpec) :=
  OpenClaim.holds_of_wide 8 Try.f8 rfl rfl rfl rfl rfl rfl rfl ⟨rfl, rfl, rfl, rfl, rfl⟩ rfl rfl rfl rfl rfl (by kernel_rfl) Try.func8 (by kernel_rfl)
    (of_decide_eq_true (by kernel_rfl)) (by unfold Func.isWrapper; first | (rw [if_pos (by decide +kernel)]; kernel_rfl) | (rw [if_neg (by decide +kernel)]; exact ⟨rfl, rfl⟩))
    (fun os started H enc _ => lifted os started H enc)
theorem proved : Rows.FnExactGuardStepSaid := over
#print axioms proved
end Go.Proofs.Ytemccfonjeppjaa.guardStep
namespace Go.Proofs.Ytemccfonjeppjaa
/-- The row, under a short name, for the claim. -/
theorem guardStep_holds : Rows.FnExactGuardStepSaid := guardStep.proved
end Go.Proofs.Ytemccfonjeppjaa
