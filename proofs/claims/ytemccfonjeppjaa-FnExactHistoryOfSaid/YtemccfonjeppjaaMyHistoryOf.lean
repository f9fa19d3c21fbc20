/-
  The law FnExactHistoryOf holds: for all changes, tables, columns and keys the program's HistoryOf answers as the reference's.
  No condition: every argument that can be read.
-/
import Derived.Test.YtemccfonjeppjaaRows
import Derived.Test.YtemccfonjeppjaaChecked
import Derived.Test.YtemccfonjeppjaaTHistoryOf
import Derived.ProofKit
import Derived.OpenShut
import Derived.ChangeOld
import Derived.SizedLaws
import Derived.Lib.SmallJoins
namespace Go.Proofs.Ytemccfonjeppjaa.historyOf
open Go.ChangeShapes Go.WideShapes Go.ChangeAt Go.RowKit Go.Proofs.GR

theorem own : ownKnob Try.prog.godebug = none := by kernel_rfl
theorem laidOut : laidOutB Try.prog = true := by kernel_rfl

abbrev tV : Ty := .pair (.int .i64) (.pair (.int .i64) .str)
abbrev tC : Ty := .pair (.int .i64) (.pair .str (.pair (.slice tV) (.slice tV)))
def ps : List (Bool × Ty) := [(false, .slice tC), (false, .str), (false, .int .i64), (false, .slice tV)]
theorem contract (x : denA ps) (h : WfA ps x) : Contract Try.prog T.Γ 10 (argXs ps x) yesRes := by
  obtain ⟨⟨g1, g2⟩, _, _, ⟨k1, k2⟩, _⟩ := h
  have b1 : T.Sp.okL x.1 := ⟨g1, fun y hy => ⟨(g2 y hy).2.1, ⟨(g2 y hy).2.2.1.1, fun z hz => ((g2 y hy).2.2.1.2 z hz).2.2⟩, ⟨(g2 y hy).2.2.2.1, fun z hz => ((g2 y hy).2.2.2.2 z hz).2.2⟩⟩⟩
  have b2 : T.Sp.okV x.2.2.2.1 := ⟨k1, fun y hy => (k2 y hy).2.2⟩
  exact law_of T.e10_ok x (x.1, x.2.1, x.2.2.1, x.2.2.2.1) (T.law10_pre _ _ _ _ b1 b2) rfl (congrArg (fun b : Bool => (⟨[⟨false, [.c (.dat .bool b)]⟩], []⟩ : Res)) (T.law10 _ _ _ _))

set_option maxRecDepth 100000 in
theorem lifted (os : Os) (started : os.Started) (H : Type) (enc : TypeId × Value → H) :
    ReturnsInHanded {} Try.checked os 10 .any (Rows.fnExactHistoryOfSpec.pre6 enc Try.prog Try.f10 Rows.fnExactHistoryOfRow.domain false) (Rows.fnExactHistoryOfSpec.post enc Try.prog Try.f10 false true false false) := by
  refine returnsInHanded_of_change_sized (C := Try.checked) own started (by kernel_rfl) Try.func10
    (ChangeSpec.witness6 (enc := enc) (C := Try.checked) false ⟨#[], #[.slice none 0 0, .string ByteArray.empty, .int .i64 0, .slice none 0 0], []⟩ 8 (by kernel_rfl) (by kernel_rfl) (by kernel_rfl) (by kernel_rfl)) ?_
  intro W base args ds gs before hval hW hcnd hsz0 _
  have hW' := hW
  obtain ⟨p, q, hA0, hV, rfl, hfz, hnd⟩ := hW
  have hA : DataW.TrodAll enc Try.prog W 0 (fun _ => true) true Try.f10.params.toList args.toList ds p := hA0
  obtain ⟨rfl, rfl⟩ := trodVars_none hV
  refine (law_calls (Γ := T.Γ) (f := 10) (ps := ps) (by kernel_rfl) (by kernel_rfl) (fun x h => contract x h) hA (fun j t v h1 h2 => ⟨.any, base, hval j t v (by simpa using h1) h2⟩)).mono fun e W' ⟨he, bel⟩ => ?_
  subst he
  have hargs := trodAll_stays laidOut bel _ _ _ _ (by kernel_rfl) hA
  have hlen : ds.length = 4 := by
    obtain ⟨_, _, d0, ds0, _, _, _, rfl, _, _, r0⟩ := trodAll_cons hA
    obtain ⟨_, _, d1, ds1, _, _, _, rfl, _, _, r1⟩ := trodAll_cons r0
    obtain ⟨_, _, d2, ds2, _, _, _, rfl, _, _, r2⟩ := trodAll_cons r1
    obtain ⟨_, _, d3, ds3, _, _, _, rfl, _, _, r3⟩ := trodAll_cons r2
    obtain ⟨_, rfl, _⟩ := trodAll_nil r3
    rfl
  obtain ⟨d0, d1, d2, d3, rfl⟩ : ∃ d0 d1 d2 d3, ds = [d0, d1, d2, d3] := by
    match ds, hlen with
    | [d0, d1, d2, d3], _ => exact ⟨d0, d1, d2, d3, rfl⟩
  exact ⟨_, rfl, [d0, d1, d2, d3], [], _, [], _, [], hW', trodAll_mk1 (shut_bool Try.underlying4 _), hargs, rfl, bel.frame _, fun h => by cases h⟩

theorem over : Rows.fnExactHistoryOfRow.holds Try.pinned (OpenSpec.ofChange Rows.fnExactHistoryOfSpec) :=
  OpenClaim.holds_of_wide 10 Try.f10 rfl rfl rfl rfl rfl rfl rfl ⟨rfl, rfl, rfl, rfl, rfl⟩ rfl rfl rfl rfl rfl (by kernel_rfl) Try.func10 (by kernel_rfl)
    (of_decide_eq_true (by kernel_rfl)) (by unfold Func.isWrapper; first | (rw [if_pos (by decide +kernel)]; kernel_rfl) | (rw [if_neg (by decide +kernel)]; exact ⟨rfl, rfl⟩))
    (fun os started H enc _ => lifted os started H enc)
theorem proved : Rows.FnExactHistoryOfSaid := over
end Go.Proofs.Ytemccfonjeppjaa.historyOf
namespace Go.Proofs.Ytemccfonjeppjaa
/-- The row, under a short name, for the claim. -/
theorem historyOf_holds : Rows.FnExactHistoryOfSaid := historyOf.proved
end Go.Proofs.Ytemccfonjeppjaa
