/-
  The law FnExactRestoreChunk holds: for every Restore and chunk the program's RestoreChunk answers as the reference's.
  No condition: every argument that can be read.
-/
import Derived.Test.YtemccfonjeppjaaRows
import Derived.Test.YtemccfonjeppjaaChecked
import Derived.Test.YtemccfonjeppjaaTRestoreChunk
import Derived.ProofKit
import Derived.OpenShut
import Derived.ChangeOld
import Derived.SizedLaws
import Derived.Lib.SmallJoins
namespace Go.Proofs.Ytemccfonjeppjaa.restoreChunk
open Go.ChangeShapes Go.WideShapes Go.ChangeAt Go.RowKit Go.Proofs.GR

theorem own : ownKnob Try.prog.godebug = none := by kernel_rfl
theorem laidOut : laidOutB Try.prog = true := by kernel_rfl

def ps : List (Bool × Ty) := [(true, .pair (.int .i64) (.pair .str .bool)), (false, .str)]
theorem contract (x : denA ps) : Contract Try.prog T.Γ 4 (argXs ps x) yesRes :=
  law_of T.e4_ok x ((x.1.1, x.1.2.1, x.1.2.2), x.2.1) (T.law4_pre _ _ _ _) rfl (congrArg (fun b : Bool => (⟨[⟨false, [.c (.dat .bool b)]⟩], []⟩ : Res)) (T.law4 x.1.1 x.1.2.1 x.1.2.2 x.2.1))

set_option maxRecDepth 100000 in
theorem lifted (os : Os) (started : os.Started) (H : Type) (enc : TypeId × Value → H) :
    ReturnsInHanded {} Try.checked os 4 .any (Rows.fnExactRestoreChunkSpec.pre6 enc Try.prog Try.f4 Rows.fnExactRestoreChunkRow.domain false) (Rows.fnExactRestoreChunkSpec.post enc Try.prog Try.f4 false true false false) := by
  refine returnsInHanded_of_change_sized (C := Try.checked) own started (by kernel_rfl) Try.func4
    (ChangeSpec.witness6 (enc := enc) (C := Try.checked) false ⟨#[], #[.agg #[.int .i64 0, .string ByteArray.empty, .bool false], .string ByteArray.empty], []⟩ 8 (by kernel_rfl) (by kernel_rfl) (by kernel_rfl) (by kernel_rfl)) ?_
  intro W base args ds gs before hval hW hcnd hsz0 _
  have hW' := hW
  obtain ⟨p, q, hA0, hV, rfl, hfz, hnd⟩ := hW
  have hA : DataW.TrodAll enc Try.prog W 0 (fun _ => true) true Try.f4.params.toList args.toList ds p := hA0
  obtain ⟨rfl, rfl⟩ := trodVars_none hV
  refine (law_calls (Γ := T.Γ) (f := 4) (ps := ps) (by kernel_rfl) (by kernel_rfl) (fun x _ => contract x) hA (fun j t v h1 h2 => ⟨.any, base, hval j t v (by simpa using h1) h2⟩)).mono fun e W' ⟨he, bel⟩ => ?_
  subst he
  have hargs := trodAll_stays laidOut bel _ _ _ _ (by kernel_rfl) hA
  have hlen : ds.length = 2 := by
    obtain ⟨_, _, d0, ds0, _, _, _, rfl, _, _, r0⟩ := trodAll_cons hA
    obtain ⟨_, _, d1, ds1, _, _, _, rfl, _, _, r1⟩ := trodAll_cons r0
    obtain ⟨_, rfl, _⟩ := trodAll_nil r1
    rfl
  obtain ⟨d0, d1, rfl⟩ : ∃ d0 d1, ds = [d0, d1] := by
    match ds, hlen with
    | [d0, d1], _ => exact ⟨d0, d1, rfl⟩
  exact ⟨_, rfl, [d0, d1], [], _, [], _, [], hW', trodAll_mk1 (shut_bool Try.underlying4 _), hargs, rfl, bel.frame _, fun h => by cases h⟩

theorem over : Rows.fnExactRestoreChunkRow.holds Try.pinned (OpenSpec.ofChange Rows.fnExactRestoreChunkSpec) :=
  OpenClaim.holds_of_wide 4 Try.f4 rfl rfl rfl rfl rfl rfl rfl ⟨rfl, rfl, rfl, rfl, rfl⟩ rfl rfl rfl rfl rfl (by kernel_rfl) Try.func4 (by kernel_rfl)
    (of_decide_eq_true (by kernel_rfl)) (by unfold Func.isWrapper; first | (rw [if_pos (by decide +kernel)]; kernel_rfl) | (rw [if_neg (by decide +kernel)]; exact ⟨rfl, rfl⟩))
    (fun os started H enc _ => lifted os started H enc)
theorem proved : Rows.FnExactRestoreChunkSaid := over
#print axioms proved
end Go.Proofs.Ytemccfonjeppjaa.restoreChunk
namespace Go.Proofs.Ytemccfonjeppjaa
/-- The row, under a short name, for the claim. -/
theorem restoreChunk_holds : Rows.FnExactRestoreChunkSaid := restoreChunk.proved
end Go.Proofs.Ytemccfonjeppjaa
