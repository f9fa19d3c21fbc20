/-
  The law FnExactRestoreOK holds: for every Restore the program's RestoreOK answers as the reference's.
  No condition: every argument that can be read.
-/
import Derived.Test.YtemccfonjeppjaaRows
import Derived.Test.YtemccfonjeppjaaPFnExactRestoreOKx1
import Derived.WalkKit
import Derived.ProofKit
import Derived.OpenShut
import Derived.ShutString
import Derived.ChangeOld
import Derived.Below
import Derived.SizedLaws
import Derived.Lib.SmallJoins
namespace Go.Proofs.Ytemccfonjeppjaa.restoreOK
open Go.ChangeShapes Go.WideShapes Go.ChangeAt Go.RowKit
open Go.Proofs.Ytemccfonjeppjaa.PFnExactRestoreOK

/-- THE PLAIN LAW. -/
theorem plain (a : Int) (s : ByteArray) (b : Bool) : laws_FnExactRestoreOK.f a s b = some true := by
  have hs : ∀ c : Int, spec_RestoreOK.f a s b = impl_RestoreOK.f a s b := by
    intro _
    unfold spec_RestoreOK.f impl_RestoreOK.f
    by_cases h1 : a = (s.size : Int)
    · simp only [if_pos h1]
      by_cases h2 : (s.size : Int) ≤ 65536
      · simp only [if_pos h2]
        have h3 : a ≤ 65536 := by omega
        simp only [if_pos h3]
      · simp only [if_neg h2]
        have h3 : ¬ a ≤ 65536 := by omega
        simp only [if_neg h3]
    · simp only [if_neg h1]
      split <;> rfl
  have hi : ∃ r, impl_RestoreOK.f a s b = some r := by
    unfold impl_RestoreOK.f
    (repeat' split) <;> exact ⟨_, rfl⟩
  obtain ⟨r, hr⟩ := hi
  have hr' : spec_RestoreOK.f a s b = some r := (hs 0).trans hr
  have hz : ∃ z, laws_szRestore.f a s b 1048576 = some z := by
    unfold laws_szRestore.f
    split <;> exact ⟨_, rfl⟩
  obtain ⟨z, hz⟩ := hz
  unfold laws_FnExactRestoreOK.f
  rw [hz]
  simp only [Option.bind_some, laws_toRestore.f, hr, hr']
  split
  · rfl
  · simp

theorem own : ownKnob Try.prog.godebug = none := by kernel_rfl
theorem laidOut : laidOutB Try.prog = true := by kernel_rfl

set_option maxRecDepth 100000 in
theorem lifted (os : Os) (started : os.Started) (H : Type) (enc : TypeId × Value → H) :
    ReturnsInHanded {} Try.checked os 3 .any (Rows.fnExactRestoreOKSpec.pre6 enc Try.prog Try.f3 Rows.fnExactRestoreOKRow.domain false) (Rows.fnExactRestoreOKSpec.post enc Try.prog Try.f3 false true false false) := by
  refine returnsInHanded_of_change_sized (C := Try.checked) own started (by kernel_rfl) Try.func3
    (ChangeSpec.witness6 (enc := enc) (C := Try.checked) false ⟨#[], #[.agg #[.int .i64 0, .string ByteArray.empty, .bool false]], []⟩ 8 (by kernel_rfl) (by kernel_rfl) (by kernel_rfl) (by kernel_rfl)) ?_
  intro W base args ds gs before hval0 hW hcnd hsz0 _
  have hval : ∀ (j : Nat) t v, Try.f3.params[j]? = some t → args[j]? = some v → Value.okWide Try.prog W .any base t v := hval0
  have hW' := hW
  obtain ⟨p, q, hA0, hV, rfl, hfz, hnd⟩ := hW
  have hA : DataW.TrodAll enc Try.prog W 0 (fun _ => true) true Try.f3.params.toList args.toList ds p := hA0
  rw [Try.params3] at hA hval
  obtain ⟨v0, vs0, d0, ds0, p0, q0, hargs, rfl, rfl, h0, r0⟩ := trodAll_cons hA
  obtain ⟨rfl, rfl, rfl⟩ := trodAll_nil r0
  obtain rfl : args = #[v0] := by cases args; simp_all
  obtain ⟨rfl, rfl⟩ := trodVars_none hV
  have k0 := h0
  have lt0 : ∀ x ∈ p0, x.block < W.heap.size := by obtain ⟨m, hm⟩ := k0; exact DataW.trod_lt m _ _ _ hm
  obtain ⟨x0, x1, x2, y0, y1, y2, n, rfl, rfl, rfl, e0, e1, e2⟩ := Joins.open_agg3 (Try.underlying23) (by kernel_rfl) (by kernel_rfl) (hval 0 23 v0 rfl rfl) h0
  obtain ⟨a, ha, -, -⟩ := DataW.trod_int Try.underlying3 e0
  obtain ⟨s, hs, -, -⟩ := DataW.trod_string Try.underlying9 e1
  obtain ⟨b, hb, -⟩ := DataW.trod_bool Try.underlying4 e2
  obtain rfl := (List.cons.inj ha).1
  obtain rfl := (List.cons.inj hs).1
  obtain rfl := (List.cons.inj hb).1
  clear hA0 hval0 hsz0
  refine (laws_FnExactRestoreOK.calls a s b true W (plain a s b)).mono fun e W' ⟨he, bel⟩ => ?_
  subst he
  exact ⟨_, rfl, _, _, _, [], _, [], hW', trodAll_mk1 (shut_bool Try.underlying4 _),
    (trodAll_cons_mk (Below.trod laidOut (by kernel_rfl) (of_decide_eq_true (by kernel_rfl)) k0 bel lt0) trodAll_mk0), rfl, bel.frame _, fun h => by cases h⟩

theorem over : Rows.fnExactRestoreOKRow.holds Try.pinned (OpenSpec.ofChange Rows.fnExactRestoreOKSpec) :=
  OpenClaim.holds_of_wide 3 Try.f3 rfl rfl rfl rfl rfl rfl rfl ⟨rfl, rfl, rfl, rfl, rfl⟩ rfl rfl rfl rfl rfl (by kernel_rfl) Try.func3 (by kernel_rfl)
    (of_decide_eq_true (by kernel_rfl)) (by unfold Func.isWrapper; first | (rw [if_pos (by decide +kernel)]; kernel_rfl) | (rw [if_neg (by decide +kernel)]; exact ⟨rfl, rfl⟩))
    (fun os started H enc _ => lifted os started H enc)
theorem proved : Rows.FnExactRestoreOKSaid := over
#print axioms proved

end Go.Proofs.Ytemccfonjeppjaa.restoreOK
namespace Go.Proofs.Ytemccfonjeppjaa
/-- The row, under a short name, for the claim. -/
theorem restoreOK_holds : Rows.FnExactRestoreOKSaid := restoreOK.proved
end Go.Proofs.Ytemccfonjeppjaa
