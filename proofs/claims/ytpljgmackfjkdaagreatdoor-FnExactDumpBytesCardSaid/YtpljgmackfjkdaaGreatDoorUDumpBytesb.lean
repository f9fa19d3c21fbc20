/-
  No statement is proved here: a part of the law's row.
  No condition.
-/
import Derived.Test.YtpljgmackfjkdaaGreatDoorRows
import Derived.Test.YtpljgmackfjkdaaGreatDoorChecked
import Derived.Test.YtpljgmackfjkdaaGreatDoorCards
import Derived.Test.YtpljgmackfjkdaaGreatDoorTie
import Derived.ProofKit
import Derived.OpenShut
import Derived.ChangeOld
import Derived.SizedLaws
import Derived.LaidMore
import Derived.Lay
import Derived.MakeChecks
import Derived.SevenTiedAt
import Derived.Shelf.Vars
import Derived.Lib.SmallJoins
import Derived.Test.YtpljgmackfjkdaaGreatDoorUDumpBytesa
namespace Go.Proofs.YtpljgmackfjkdaaGreatDoor.dumpBytes
open Go.ChangeShapes Go.WideShapes Go.ChangeAt Go.RowKit Go.Proofs.GR
set_option maxRecDepth 100000 in
theorem lifted (os : Os) (started : os.Started) (H : Type) (enc : TypeId × Value → H) :
    ReturnsInHanded {} Tryz.checked os 4 .any (fun w args => (Rows.fnExactDumpBytesSpec.pre enc Tryz.prog Tryz.f4 Rows.fnExactDumpBytesRow.domain false w args ∧ laidMetH Tryz.prog Rows.fnExactDumpBytesRow.laid w) ∧ sizedMet enc Tryz.prog Tryz.f4 (OpenSpec.ofChange Rows.fnExactDumpBytesSpec) false w args)
      (Rows.fnExactDumpBytesSpec.post enc Tryz.prog Tryz.f4 false true false false) := by
  refine returnsAndShaped (C := Tryz.checked) (X := fun w _ => laidMetH Tryz.prog Rows.fnExactDumpBytesRow.laid w) own started (by kernel_rfl) Tryz.func4
    (ChangeSpec.witness_shaped (enc := enc) (C := Tryz.checked) (os := os) (X := fun w _ => laidMetH Tryz.prog Rows.fnExactDumpBytesRow.laid w) false (World.laidAll Tryz.prog os Rows.fnExactDumpBytesRow.laid) #[.slice none 0 0, .slice none 0 0] 8 (World.laidAll_os _ _ _)
      (World.shaped_of_ZipB (by kernel_rfl) (by kernel_rfl)) (by kernel_rfl) (by kernel_rfl) (by kernel_rfl)
      (by rw [MakeChecks.laidMetH_plain _ _ _ (by kernel_rfl)]; exact laidMet_laidAll _ (by kernel_rfl) (by kernel_rfl))) ?_
  intro W base args ds gs before hval0 hW hsh
  have hval : ∀ (j : Nat) t v, Tryz.f4.params[j]? = some t → args[j]? = some v → Value.okWide Tryz.prog W .any base t v := hval0
  have hW' := hW
  obtain ⟨p, q, hA0, hV, rfl, hfz, hnd⟩ := hW
  have hA : DataW.TrodAll enc Tryz.prog W 0 (fun _ => true) true Tryz.f4.params.toList args.toList ds p := hA0
  obtain ⟨rfl, rfl⟩ := trodVars_none hV
  refine (law_calls (Γ := T.Γ) (f := 4) (ps := ps) (by kernel_rfl) (by kernel_rfl) (fun x h => contract x h) hA (fun j t v h1 h2 => ⟨.any, base, hval j t v (by simpa using h1) h2⟩) (gls_of hsh)).mono fun e W' ⟨he, bel⟩ => ?_
  subst he
  have hargs := trodAll_stays laidOut bel _ _ _ _ (by kernel_rfl) hA
  have hlen : ds.length = 2 := by
    obtain ⟨_, _, d0, ds0, _, _, _, rfl, _, _, r0⟩ := trodAll_cons hA
    obtain ⟨_, _, d1, ds1, _, _, _, rfl, _, _, r1⟩ := trodAll_cons r0
    obtain ⟨_, rfl, _⟩ := trodAll_nil r1
    rfl
  obtain ⟨d0, d1, rfl⟩ : ∃ d0 d1, ds = [d0, d1] := by
    match ds, hlen with
    | [d0, d1], _ => exact ⟨d0, d1, rfl⟩
  exact ⟨_, rfl, [d0, d1], [], _, [], _, [], hW', trodAll_mk1 (shut_bool Tryz.underlying4 _), hargs, rfl, bel.frame _, fun h => by cases h⟩

end Go.Proofs.YtpljgmackfjkdaaGreatDoor.dumpBytes
