/-
  The law FnExactTablesRead holds: for every statement's tree the program's TablesRead answers as the reference's.
  No condition: every argument that can be read; the row's listed tables are as the card ties them.
-/
import Derived.Test.YtfihkpknhkbciaaDoorRows
import Derived.Test.YtfihkpknhkbciaaDoorChecked
import Derived.Test.YtfihkpknhkbciaaDoorTTablesReadh
import Derived.Test.YtfihkpknhkbciaaDoorCards
import Derived.Test.YtfihkpknhkbciaaDoorTie
import Derived.ProofKit
import Derived.OpenShut
import Derived.ChangeOld
import Derived.SizedLaws
import Derived.LaidMore
import Derived.Lay
import Derived.MakeChecks
import Derived.SevenTiedAt
import Derived.Shelf.Vars
import Derived.Lib.SmallJoins
namespace Go.Proofs.YtfihkpknhkbciaaDoor.tablesRead
open Go.ChangeShapes Go.WideShapes Go.ChangeAt Go.RowKit Go.Proofs.GR

theorem own : ownKnob Tryd.prog.godebug = none := by kernel_rfl
theorem laidOut : laidOutB Tryd.prog = true := by kernel_rfl

/-- The wrap, with the listed tables and the world's shape kept. -/
theorem returnsAndShaped {H : Type} {enc : TypeId × Value → H} {a : Assume} {C : Checked} {os : Os} {f : FuncId} {fn : Func} {s : ChangeSpec} {conds : List PathCond} {apart fresh handsOn again : Bool} {X : World → Array Value → Prop}
    (own : ownKnob C.prog.godebug = none) (started : os.Started) (noInit : C.prog.inits.idxOf? f = none) (hfn : C.prog.funcs[f]? = some fn)
    (witness : ∃ (w : World) (tape : Tape) (i : Input), w.os = os ∧ (w.forCall tape i).Shaped C.prog ∧ i.vars = [] ∧ Input.okWide C.prog (w.forCall tape i) .any w.heap.size f i ∧
      ((s.pre enc C.prog fn conds apart (w.forCall tape i).memory i.args ∧ X (w.forCall tape i).memory i.args) ∧ sizedMet enc C.prog fn (OpenSpec.ofChange s) apart (w.forCall tape i).memory i.args) ∧ a.holds C.prog (lone (Frame.enter C.prog f i.args .normal) [] (w.forCall tape i)))
    (contract : ∀ (W : World) (base : Nat) (args : Array Value) (ds gs : List (DataW H)) (before : List MemPlace),
      (∀ (j : Nat) t v, fn.params[j]? = some t → args[j]? = some v → Value.okWide C.prog W .any base t v) →
      DataW.Whole enc C.prog fn.params.toList s.vars apart W args.toList ds gs before →
      W.ShapedOpen C.prog →
      Calls C.prog f args W fun e W' => ∃ v, e = .returned v ∧ s.post enc C.prog fn apart fresh handsOn again W args v W') :
    ReturnsInHanded a C os f .any (fun w args => (s.pre enc C.prog fn conds apart w args ∧ X w args) ∧ sizedMet enc C.prog fn (OpenSpec.ofChange s) apart w args) (s.post enc C.prog fn apart fresh handsOn again) := by
  refine returnsInHanded_of_calls own started noInit witness ?_
  intro w tape i _ hsh _ hok hpre hholds
  obtain ⟨_, _, _, fn', hfn', _, _, _, _, hval⟩ := hok
  have e : fn' = fn := Option.some.inj (hfn'.symm.trans hfn)
  subst e
  obtain ⟨⟨⟨ds, gs, before, hw, hc⟩, hx⟩, hz⟩ := hpre
  have hw' := DataW.Whole.of_heap (w' := w.forCall tape i) (by rfl) hw
  refine (contract (w.forCall tape i) w.heap.size i.args ds gs before hval hw' hsh).mono fun e W' ⟨v, he, hp⟩ => ?_
  subst he
  exact ChangeSpec.post_blind hp

def ps : List (Bool × Ty) := [(true, T.tT)]
theorem wf_un (r : T.RT) (h : Wf T.tT r) : Wf T.tT (T.Sp.mkT (T.Sp.unT r)) := by rw [T.mkT_un]; exact h
theorem contract (x : denA ps) (h : WfA ps x) : Contract Tryd.prog T.Γ 3 (argXs ps x) yesRes := by
  have hw := wf_un x.1 h.1
  exact law_of T.e1061_ok x (T.Sp.unT x.1) (T.law1061_pre _ _ _ _ _ _ _ _ hw) rfl (congrArg (fun b : Bool => (⟨[⟨false, [.c (.dat .bool b)]⟩], []⟩ : Res)) (T.law1061 _ _ _ _ _ _ _ _))
theorem gls_of {W : World} (h : W.ShapedOpen Tryd.prog) : ∀ p ∈ T.Γ.gls, p.1 < W.heap.size ∧ p.2 W.heap[p.1]? := fun p hp => by
  have e : T.Γ.gls = [(0, intAt0)] := rfl
  rw [e, List.mem_singleton] at hp
  subst hp
  exact intAt0_of_shaped (t := 3) (zero := #[.int .i64 0]) h (of_decide_eq_true (by kernel_rfl)) (by kernel_rfl) rfl (by kernel_rfl) (by kernel_rfl) (by kernel_rfl)

set_option maxRecDepth 100000 in
theorem lifted (os : Os) (started : os.Started) (H : Type) (enc : TypeId × Value → H) :
    ReturnsInHanded {} Tryd.checked os 3 .any (fun w args => (Rows.fnExactTablesReadSpec.pre enc Tryd.prog Tryd.f3 Rows.fnExactTablesReadRow.domain false w args ∧ laidMetH Tryd.prog Rows.fnExactTablesReadRow.laid w) ∧ sizedMet enc Tryd.prog Tryd.f3 (OpenSpec.ofChange Rows.fnExactTablesReadSpec) false w args)
      (Rows.fnExactTablesReadSpec.post enc Tryd.prog Tryd.f3 false true false false) := by
  refine returnsAndShaped (C := Tryd.checked) (X := fun w _ => laidMetH Tryd.prog Rows.fnExactTablesReadRow.laid w) own started (by kernel_rfl) Tryd.func3
    (ChangeSpec.witness_shaped (enc := enc) (C := Tryd.checked) (os := os) (X := fun w _ => laidMetH Tryd.prog Rows.fnExactTablesReadRow.laid w) false (World.laidAll Tryd.prog os Rows.fnExactTablesReadRow.laid) #[.agg #[.int .i64 0, .int .i64 0, .string ByteArray.empty, .string ByteArray.empty, .int .i64 0, .int .i64 0, .string ByteArray.empty, .slice none 0 0]] 8 (World.laidAll_os _ _ _)
      (World.shaped_of_ZipB (by kernel_rfl) (by kernel_rfl)) (by kernel_rfl) (by kernel_rfl) (by kernel_rfl)
      (by rw [MakeChecks.laidMetH_plain _ _ _ (by kernel_rfl)]; exact laidMet_laidAll _ (by kernel_rfl) (by kernel_rfl))) ?_
  intro W base args ds gs before hval0 hW hsh
  have hval : ∀ (j : Nat) t v, Tryd.f3.params[j]? = some t → args[j]? = some v → Value.okWide Tryd.prog W .any base t v := hval0
  have hW' := hW
  obtain ⟨p, q, hA0, hV, rfl, hfz, hnd⟩ := hW
  have hA : DataW.TrodAll enc Tryd.prog W 0 (fun _ => true) true Tryd.f3.params.toList args.toList ds p := hA0
  obtain ⟨rfl, rfl⟩ := trodVars_none hV
  refine (law_calls (Γ := T.Γ) (f := 3) (ps := ps) (by kernel_rfl) (by kernel_rfl) (fun x h => contract x h) hA (fun j t v h1 h2 => ⟨.any, base, hval j t v (by simpa using h1) h2⟩) (gls_of hsh)).mono fun e W' ⟨he, bel⟩ => ?_
  subst he
  have hargs := trodAll_stays laidOut bel _ _ _ _ (by kernel_rfl) hA
  have hlen : ds.length = 1 := by
    obtain ⟨_, _, d0, ds0, _, _, _, rfl, _, _, r0⟩ := trodAll_cons hA
    obtain ⟨_, rfl, _⟩ := trodAll_nil r0
    rfl
  obtain ⟨d0, rfl⟩ : ∃ d0, ds = [d0] := by
    match ds, hlen with
    | [d0], _ => exact ⟨d0, rfl⟩
  exact ⟨_, rfl, [d0], [], _, [], _, [], hW', trodAll_mk1 (shut_bool Tryd.underlying4 _), hargs, rfl, bel.frame _, fun h => by cases h⟩

theorem over : Rows.fnExactTablesReadRow.holds Tryd.pinned (OpenSpec.ofChange Rows.fnExactTablesReadSpec) :=
  OpenClaim.holds_of_wide 3 Tryd.f3 rfl rfl rfl rfl rfl rfl rfl ⟨rfl, rfl, rfl, rfl, rfl⟩ rfl rfl rfl rfl rfl (by kernel_rfl) Tryd.func3 (by kernel_rfl)
    (of_decide_eq_true (by kernel_rfl)) (by unfold Func.isWrapper; first | (rw [if_pos (by decide +kernel)]; kernel_rfl) | (rw [if_neg (by decide +kernel)]; exact ⟨rfl, rfl⟩))
    (fun os started H enc _ => lifted os started H enc)
theorem proved : Rows.FnExactTablesReadSaid := over
theorem card : Rows.FnExactTablesReadCardSaid :=
  Claim7.holds_tied_plain_at .later [] [.data, .pinned] true (true, "71d1f196f02febfa71b691400190c14b81c4445b806ef109e413ab39473cc247") false
    proved (fun _ h => by cases h) (by kernel_rfl) (fun _ h => by cases h) fnExactTablesRead_row_tie rfl ⟨rfl, rfl⟩ (by kernel_rfl) rfl
    (fun f fn hf hfn => by
      obtain rfl : f = 3 := Option.some.inj ((show Tryd.prog.funcNamed "loop.example/g00208/laws.FnExactTablesRead" = some 3 by kernel_rfl).symm.trans hf) |>.symm
      obtain rfl : fn = Tryd.f3 := (Option.some.inj (Tryd.func3.symm.trans hfn)).symm
      exact ⟨by kernel_rfl, fun j t ht => by
        rw [Tryd.params3] at ht
        have h3 : t = 26 := by
          rcases j with _ | j
          · simpa using ht.symm
          · simp at ht
        subst h3
        exact (show Tryd.prog.wantsStandIn 26 = false by kernel_rfl)⟩)
    (by kernel_rfl)
end Go.Proofs.YtfihkpknhkbciaaDoor.tablesRead
namespace Go.Proofs.YtfihkpknhkbciaaDoor
/-- The card, under a short name, for the claim. -/
theorem tablesRead_holds : Rows.FnExactTablesReadCardSaid := tablesRead.card
end Go.Proofs.YtfihkpknhkbciaaDoor
