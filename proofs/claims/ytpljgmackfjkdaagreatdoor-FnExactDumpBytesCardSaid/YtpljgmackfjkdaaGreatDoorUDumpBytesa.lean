/-
  No statement is proved here: a part of the law's row.
  No condition.
-/
import Derived.Test.YtpljgmackfjkdaaGreatDoorRows
import Derived.Test.YtpljgmackfjkdaaGreatDoorChecked
import Derived.Test.YtpljgmackfjkdaaGreatDoorTDumpBytesk
import Derived.Test.YtpljgmackfjkdaaGreatDoorCards
import Derived.Test.YtpljgmackfjkdaaGreatDoorTie
import Derived.ProofKit
import Derived.OpenShut
import Derived.ChangeOld
import Derived.SizedLaws
import Derived.LaidMore
import Derived.Lay
import Derived.MakeChecks
import Derived.SevenTiedAt
import Derived.Shelf.Vars
import Derived.Lib.SmallJoins
namespace Go.Proofs.YtpljgmackfjkdaaGreatDoor.dumpBytes
open Go.ChangeShapes Go.WideShapes Go.ChangeAt Go.RowKit Go.Proofs.GR

theorem own : ownKnob Tryz.prog.godebug = none := by kernel_rfl
theorem laidOut : laidOutB Tryz.prog = true := by kernel_rfl

/-- The wrap, with the listed tables and the world's shape kept. -/
theorem returnsAndShaped {H : Type} {enc : TypeId × Value → H} {a : Assume} {C : Checked} {os : Os} {f : FuncId} {fn : Func} {s : ChangeSpec} {conds : List PathCond} {apart fresh handsOn again : Bool} {X : World → Array Value → Prop}
    (own : ownKnob C.prog.godebug = none) (started : os.Started) (noInit : C.prog.inits.idxOf? f = none) (hfn : C.prog.funcs[f]? = some fn)
    (witness : ∃ (w : World) (tape : Tape) (i : Input), w.os = os ∧ (w.forCall tape i).Shaped C.prog ∧ i.vars = [] ∧ Input.okWide C.prog (w.forCall tape i) .any w.heap.size f i ∧
      ((s.pre enc C.prog fn conds apart (w.forCall tape i).memory i.args ∧ X (w.forCall tape i).memory i.args) ∧ sizedMet enc C.prog fn (OpenSpec.ofChange s) apart (w.forCall tape i).memory i.args) ∧ a.holds C.prog (lone (Frame.enter C.prog f i.args .normal) [] (w.forCall tape i)))
    (contract : ∀ (W : World) (base : Nat) (args : Array Value) (ds gs : List (DataW H)) (before : List MemPlace),
      (∀ (j : Nat) t v, fn.params[j]? = some t → args[j]? = some v → Value.okWide C.prog W .any base t v) →
      DataW.Whole enc C.prog fn.params.toList s.vars apart W args.toList ds gs before →
      W.ShapedOpen C.prog →
      Calls C.prog f args W fun e W' => ∃ v, e = .returned v ∧ s.post enc C.prog fn apart fresh handsOn again W args v W') :
    ReturnsInHanded a C os f .any (fun w args => (s.pre enc C.prog fn conds apart w args ∧ X w args) ∧ sizedMet enc C.prog fn (OpenSpec.ofChange s) apart w args) (s.post enc C.prog fn apart fresh handsOn again) := by
  refine returnsInHanded_of_calls own started noInit witness ?_
  intro w tape i _ hsh _ hok hpre hholds
  obtain ⟨_, _, _, fn', hfn', _, _, _, _, hval⟩ := hok
  have e : fn' = fn := Option.some.inj (hfn'.symm.trans hfn)
  subst e
  obtain ⟨⟨⟨ds, gs, before, hw, hc⟩, hx⟩, hz⟩ := hpre
  have hw' := DataW.Whole.of_heap (w' := w.forCall tape i) (by rfl) hw
  refine (contract (w.forCall tape i) w.heap.size i.args ds gs before hval hw' hsh).mono fun e W' ⟨v, he, hp⟩ => ?_
  subst he
  exact ChangeSpec.post_blind hp

def ps : List (Bool × Ty) := [(false, .slice T.tTb), (false, .slice T.tDt)]
theorem nN_of {v : T.V3} (h : (Lit.int .i64 v.2.1).wf = true) : T.Sp.nN v = true := by
  simp [Lit.wf, IntKind.min, IntKind.max, IntKind.signed, IntKind.bits] at h
  exact T.yes2Q (decide_eq_true (by omega)) (decide_eq_true (by omega))
theorem contract (x : denA ps) (h : WfA ps x) : Contract Tryz.prog T.Γ 4 (argXs ps x) yesRes := by
  obtain ⟨⟨t1, t2⟩, ⟨d1, d2⟩, _⟩ := h
  have b4 : T.Sp.okTbs x.1 := ⟨t1, fun y hy => ⟨(t2 y hy).1, ⟨(t2 y hy).2.1.1, fun c hc => ((t2 y hy).2.1.2 c hc).1⟩, ⟨(t2 y hy).2.2.2.1, fun c hc => ⟨((t2 y hy).2.2.2.2 c hc).1, ((t2 y hy).2.2.2.2 c hc).2.1⟩⟩⟩⟩
  have b5 : T.Sp.okDts x.2.1 := ⟨d1, fun y hy => ⟨(d2 y hy).1, (d2 y hy).2.1, fun r hr => ⟨((d2 y hy).2.2 r hr).1, fun v hv => ⟨nN_of (((d2 y hy).2.2 r hr).2 v hv).2.1, (((d2 y hy).2.2 r hr).2 v hv).2.2⟩⟩⟩⟩
  exact law_of T.e1360_ok x (x.1, x.2.1) (T.law1360_pre _ _ b4 b5) rfl (congrArg (fun b : Bool => (⟨[⟨false, [.c (.dat .bool b)]⟩], []⟩ : Res)) (T.law1360 _ _))
theorem gls_of {W : World} (h : W.ShapedOpen Tryz.prog) : ∀ p ∈ T.Γ.gls, p.1 < W.heap.size ∧ p.2 W.heap[p.1]? := fun p hp => by
  have e : T.Γ.gls = [(0, intAt0)] := rfl
  rw [e, List.mem_singleton] at hp
  subst hp
  exact intAt0_of_shaped (t := 3) (zero := #[.int .i64 0]) h (of_decide_eq_true (by kernel_rfl)) (by kernel_rfl) rfl (by kernel_rfl) (by kernel_rfl) (by kernel_rfl)

end Go.Proofs.YtpljgmackfjkdaaGreatDoor.dumpBytes
