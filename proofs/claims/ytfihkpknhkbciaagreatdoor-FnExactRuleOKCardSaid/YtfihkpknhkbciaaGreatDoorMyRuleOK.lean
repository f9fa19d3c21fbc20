/-
  The law FnExactRuleOK holds: for every rule and every list of tables the program's RuleOK answers as the reference's.
  No condition: every argument that can be read; the row's listed tables are as the card ties them.
-/
import Derived.Test.YtfihkpknhkbciaaGreatDoorRows
import Derived.Test.YtfihkpknhkbciaaGreatDoorChecked
import Derived.Test.YtfihkpknhkbciaaGreatDoorTRuleOKt
import Derived.Test.YtfihkpknhkbciaaGreatDoorCards
import Derived.Test.YtfihkpknhkbciaaGreatDoorTie
import Derived.ProofKit
import Derived.OpenShut
import Derived.ChangeOld
import Derived.SizedLaws
import Derived.LaidMore
import Derived.Lay
import Derived.MakeChecks
import Derived.SevenTiedAt
import Derived.Shelf.Vars
import Derived.Lib.SmallJoins
namespace Go.Proofs.YtfihkpknhkbciaaGreatDoor.ruleOK
open Go.ChangeShapes Go.WideShapes Go.ChangeAt Go.RowKit Go.Proofs.GR

theorem own : ownKnob Tryz.prog.godebug = none := by kernel_rfl
theorem laidOut : laidOutB Tryz.prog = true := by kernel_rfl

/-- The wrap, with the listed tables and the world's shape kept. -/
theorem returnsAndShaped {H : Type} {enc : TypeId × Value → H} {a : Assume} {C : Checked} {os : Os} {f : FuncId} {fn : Func} {s : ChangeSpec} {conds : List PathCond} {apart fresh handsOn again : Bool} {X : World → Array Value → Prop}
    (own : ownKnob C.prog.godebug = none) (started : os.Started) (noInit : C.prog.inits.idxOf? f = none) (hfn : C.prog.funcs[f]? = some fn)
    (witness : ∃ (w : World) (tape : Tape) (i : Input), w.os = os ∧ (w.forCall tape i).Shaped C.prog ∧ i.vars = [] ∧ Input.okWide C.prog (w.forCall tape i) .any w.heap.size f i ∧
      ((s.pre enc C.prog fn conds apart (w.forCall tape i).memory i.args ∧ X (w.forCall tape i).memory i.args) ∧ sizedMet enc C.prog fn (OpenSpec.ofChange s) apart (w.forCall tape i).memory i.args) ∧ a.holds C.prog (lone (Frame.enter C.prog f i.args .normal) [] (w.forCall tape i)))
    (contract : ∀ (W : World) (base : Nat) (args : Array Value) (ds gs : List (DataW H)) (before : List MemPlace),
      (∀ (j : Nat) t v, fn.params[j]? = some t → args[j]? = some v → Value.okWide C.prog W .any base t v) →
      DataW.Whole enc C.prog fn.params.toList s.vars apart W args.toList ds gs before →
      W.ShapedOpen C.prog →
      Calls C.prog f args W fun e W' => ∃ v, e = .returned v ∧ s.post enc C.prog fn apart fresh handsOn again W args v W') :
    ReturnsInHanded a C os f .any (fun w args => (s.pre enc C.prog fn conds apart w args ∧ X w args) ∧ sizedMet enc C.prog fn (OpenSpec.ofChange s) apart w args) (s.post enc C.prog fn apart fresh handsOn again) := by
  refine returnsInHanded_of_calls own started noInit witness ?_
  intro w tape i _ hsh _ hok hpre hholds
  obtain ⟨_, _, _, fn', hfn', _, _, _, _, hval⟩ := hok
  have e : fn' = fn := Option.some.inj (hfn'.symm.trans hfn)
  subst e
  obtain ⟨⟨⟨ds, gs, before, hw, hc⟩, hx⟩, hz⟩ := hpre
  have hw' := DataW.Whole.of_heap (w' := w.forCall tape i) (by rfl) hw
  refine (contract (w.forCall tape i) w.heap.size i.args ds gs before hval hw' hsh).mono fun e W' ⟨v, he, hp⟩ => ?_
  subst he
  exact ChangeSpec.post_blind hp

def ps : List (Bool × Ty) := [(true, .pair .str (.pair .str (.pair (.int .i64) (.pair (.int .i64) (.pair T.tT (.pair (.slice T.tSg) (.pair .str (.slice T.tT)))))))), (false, .slice T.tTb)]
theorem wf_un (r : T.RT) (h : Wf T.tT r) : Wf T.tT (T.Sp.mkT (T.Sp.unT r)) := by rw [T.mkT_un]; exact h
theorem contract (x : denA ps) (h : WfA ps x) : Contract Tryz.prog T.Γ 4 (argXs ps x) yesRes := by
  obtain ⟨⟨g0, g1, _, _, gw, gs, gi, ge⟩, ⟨t1, t2⟩, _⟩ := h
  have b3 : T.Sp.okTbs x.2.1 := ⟨t1, fun y hy => ⟨(t2 y hy).1, ⟨(t2 y hy).2.1.1, fun c hc => ((t2 y hy).2.1.2 c hc).1⟩, ⟨(t2 y hy).2.2.2.1, fun c hc => ⟨((t2 y hy).2.2.2.2 c hc).1, ((t2 y hy).2.2.2.2 c hc).2.1⟩⟩⟩⟩
  have hw := wf_un _ gw
  have hr : T.FnRl x.1.1 x.1.2.1 (T.Sp.mkT (T.Sp.unT x.1.2.2.2.2.1)) x.1.2.2.2.2.2.1 x.1.2.2.2.2.2.2.1 x.1.2.2.2.2.2.2.2 :=
    ⟨g0, g1, hw, gs.1, fun y hy => (gs.2 y hy).2, gi, ge.1, fun r hr => ge.2 r hr⟩
  exact law_of T.e1407_ok x ((x.1.1, x.1.2.1, x.1.2.2.1, x.1.2.2.2.1, x.1.2.2.2.2.1.a.1, x.1.2.2.2.2.1.a.2.1, x.1.2.2.2.2.1.a.2.2.1, x.1.2.2.2.2.1.a.2.2.2.1, x.1.2.2.2.2.1.a.2.2.2.2.1, x.1.2.2.2.2.1.a.2.2.2.2.2.1, x.1.2.2.2.2.1.a.2.2.2.2.2.2, x.1.2.2.2.2.1.kids, x.1.2.2.2.2.2.1, x.1.2.2.2.2.2.2.1, x.1.2.2.2.2.2.2.2), x.2.1)
    (T.law1407_pre _ _ _ _ _ _ _ _ _ _ _ _ _ _ _ _ hr b3) rfl (congrArg (fun b : Bool => (⟨[⟨false, [.c (.dat .bool b)]⟩], []⟩ : Res)) (T.law1407 _ _ _ _ _ _ _ _ _ _ _ _ _ _ _ _))
theorem gls_of {W : World} (h : W.ShapedOpen Tryz.prog) : ∀ p ∈ T.Γ.gls, p.1 < W.heap.size ∧ p.2 W.heap[p.1]? := fun p hp => by
  have e : T.Γ.gls = [(0, intAt0)] := rfl
  rw [e, List.mem_singleton] at hp
  subst hp
  exact intAt0_of_shaped (t := 3) (zero := #[.int .i64 0]) h (of_decide_eq_true (by kernel_rfl)) (by kernel_rfl) rfl (by kernel_rfl) (by kernel_rfl) (by kernel_rfl)

set_option maxRecDepth 100000 in
theorem lifted (os : Os) (started : os.Started) (H : Type) (enc : TypeId × Value → H) :
    ReturnsInHanded {} Tryz.checked os 4 .any (fun w args => (Rows.fnExactRuleOKSpec.pre enc Tryz.prog Tryz.f4 Rows.fnExactRuleOKRow.domain false w args ∧ laidMetH Tryz.prog Rows.fnExactRuleOKRow.laid w) ∧ sizedMet enc Tryz.prog Tryz.f4 (OpenSpec.ofChange Rows.fnExactRuleOKSpec) false w args)
      (Rows.fnExactRuleOKSpec.post enc Tryz.prog Tryz.f4 false true false false) := by
  refine returnsAndShaped (C := Tryz.checked) (X := fun w _ => laidMetH Tryz.prog Rows.fnExactRuleOKRow.laid w) own started (by kernel_rfl) Tryz.func4
    (ChangeSpec.witness_shaped (enc := enc) (C := Tryz.checked) (os := os) (X := fun w _ => laidMetH Tryz.prog Rows.fnExactRuleOKRow.laid w) false (World.laidAll Tryz.prog os Rows.fnExactRuleOKRow.laid) #[.agg #[.string ByteArray.empty, .string ByteArray.empty, .int .i64 0, .int .i64 0, .int .i64 0, .int .i64 0, .string ByteArray.empty, .string ByteArray.empty, .int .i64 0, .int .i64 0, .string ByteArray.empty, .slice none 0 0, .slice none 0 0, .string ByteArray.empty, .slice none 0 0], .slice none 0 0] 8 (World.laidAll_os _ _ _)
      (World.shaped_of_ZipB (by kernel_rfl) (by kernel_rfl)) (by kernel_rfl) (by kernel_rfl) (by kernel_rfl)
      (by rw [MakeChecks.laidMetH_plain _ _ _ (by kernel_rfl)]; exact laidMet_laidAll _ (by kernel_rfl) (by kernel_rfl))) ?_
  intro W base args ds gs before hval0 hW hsh
  have hval : ∀ (j : Nat) t v, Tryz.f4.params[j]? = some t → args[j]? = some v → Value.okWide Tryz.prog W .any base t v := hval0
  have hW' := hW
  obtain ⟨p, q, hA0, hV, rfl, hfz, hnd⟩ := hW
  have hA : DataW.TrodAll enc Tryz.prog W 0 (fun _ => true) true Tryz.f4.params.toList args.toList ds p := hA0
  obtain ⟨rfl, rfl⟩ := trodVars_none hV
  refine (law_calls (Γ := T.Γ) (f := 4) (ps := ps) (by kernel_rfl) (by kernel_rfl) (fun x h => contract x h) hA (fun j t v h1 h2 => ⟨.any, base, hval j t v (by simpa using h1) h2⟩) (gls_of hsh)).mono fun e W' ⟨he, bel⟩ => ?_
  subst he
  have hargs := trodAll_stays laidOut bel _ _ _ _ (by kernel_rfl) hA
  have hlen : ds.length = 2 := by
    obtain ⟨_, _, d0, ds0, _, _, _, rfl, _, _, r0⟩ := trodAll_cons hA
    obtain ⟨_, _, d1, ds1, _, _, _, rfl, _, _, r1⟩ := trodAll_cons r0
    obtain ⟨_, rfl, _⟩ := trodAll_nil r1
    rfl
  obtain ⟨d0, d1, rfl⟩ : ∃ d0 d1, ds = [d0, d1] := by
    match ds, hlen with
    | [d0, d1], _ => exact ⟨d0, d1, rfl⟩
  exact ⟨_, rfl, [d0, d1], [], _, [], _, [], hW', trodAll_mk1 (shut_bool Tryz.underlying4 _), hargs, rfl, bel.frame _, fun h => by cases h⟩

theorem over : Rows.fnExactRuleOKRow.holds Tryz.pinned (OpenSpec.ofChange Rows.fnExactRuleOKSpec) :=
  OpenClaim.holds_of_wide 4 Tryz.f4 rfl rfl rfl rfl rfl rfl rfl ⟨rfl, rfl, rfl, rfl, rfl⟩ rfl rfl rfl rfl rfl (by kernel_rfl) Tryz.func4 (by kernel_rfl)
    (of_decide_eq_true (by kernel_rfl)) (by unfold Func.isWrapper; first | (rw [if_pos (by decide +kernel)]; kernel_rfl) | (rw [if_neg (by decide +kernel)]; exact ⟨rfl, rfl⟩))
    (fun os started H enc _ => lifted os started H enc)
theorem proved : Rows.FnExactRuleOKSaid := over
theorem card : Rows.FnExactRuleOKCardSaid :=
  Claim7.holds_tied_plain_at .later [] [.data, .pinned] true (true, "99d064c79eb5192f790aab6ce14c23e59d61ad9800ade286770ed6e9d9bed371") false
    proved (fun _ h => by cases h) (by kernel_rfl) (fun _ h => by cases h) fnExactRuleOK_row_tie rfl ⟨rfl, rfl⟩ (by kernel_rfl) rfl
    (fun f fn hf hfn => by
      obtain rfl : f = 4 := Option.some.inj ((show Tryz.prog.funcNamed "loop.example/g00208/laws.FnExactRuleOK" = some 4 by kernel_rfl).symm.trans hf) |>.symm
      obtain rfl : fn = Tryz.f4 := (Option.some.inj (Tryz.func4.symm.trans hfn)).symm
      exact ⟨by kernel_rfl, fun j t ht => by
        rw [Tryz.params4] at ht
        have h3 : t = 52 ∨ t = 24 := by
          rcases j with _ | _ | j
          · exact (.inl (by simpa using ht.symm))
          · exact (.inr (by simpa using ht.symm))
          · simp at ht
        rcases h3 with rfl | rfl
        · exact (show Tryz.prog.wantsStandIn 52 = false by kernel_rfl)
        · exact (show Tryz.prog.wantsStandIn 24 = false by kernel_rfl)⟩)
    (by kernel_rfl)
end Go.Proofs.YtfihkpknhkbciaaGreatDoor.ruleOK
namespace Go.Proofs.YtfihkpknhkbciaaGreatDoor
/-- The card, under a short name, for the claim. -/
theorem ruleOK_holds : Rows.FnExactRuleOKCardSaid := ruleOK.card
end Go.Proofs.YtfihkpknhkbciaaGreatDoor
