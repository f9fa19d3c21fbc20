/-
  No statement is proved here: an abstract run of the program's code over plain data, and that it tells what the code does (part 2 of 4).
  No condition.
-/
import Derived.Test.YtpljgmackfjkdaaQBursta
import Derived.Lib.ConvBytes
import Derived.Deep.AppendSrc
import Derived.Great.BuildSlice
namespace Go.Proofs.GR

section
variable {K : Start} {P : Program} {Γ : Tab} {o : Oper} {S : St} {a : Act} {w : World} {L : Nat → Value} {Bs : Nat → List Nat} {ρ : Type} {k : St → Option ρ} {r : ρ}

theorem run_indexAt (T : TabOK Γ P) {t : TypeId} {sz : Nat} (he : elemSize Γ t = some sz) {x y : Operand} (ho : o.op = .indexAddr t x y) {ad : Addr} {len c : Nat} (hv : a.eval x = .slice (some ad) len c) {q : IntKind} {n : Int} (hy : a.eval y = .int q n) (h0 : 0 ≤ n) (h1 : n < (len : Int)) :
    (execOp a.eval o).run P w = .ok (.value (.pointer (some (ad.add (n.toNat * sz))))) w := by
  obtain ⟨e, hu, hs⟩ := elemSize_slice he; unfold Tab.size at hs; split at hs
  · rename_i z n' b hi
    cases hs; obtain ⟨i, hi, _, hs, _, _⟩ := T.info _ _ _ _ hi; have h2 : 0 ≤ n ∧ n < (len : Int) := ⟨h0, h1⟩
    simp [execOp, ho, Instr.indexAt, asIntOf, hv, hy, run_underlying (T.und _ _ hu), h2, sizeOf, typeInfo, hi, hs]
  · cases hs

theorem chk2 {g1 g2 : Bool} (h : (g1 && g2) = true) : g1 = true ∧ g2 = true := by simpa using h

theorem sound_indexDat (h : RelX K S a w L Bs) (T : TabOK Γ P) {t : TypeId} {x y : Operand} (ho : o.op = .indexAddr t x y) {τ : Ty} {xs : List τ.den} (he : elemSize Γ t = some τ.sz) (hx : S.cell x = .dat (.slice τ) xs) {n : Int} (hy : cellI (S.cell y) = some n)
    (hk : chk (decide (0 ≤ n) && decide (n < (xs.length : Nat))) (k (S.put o.dst (.val (.one (.rptr τ (xs.getD n.toNat τ.dflt)))))) = some r) : Sound K P o a w k r := by
  obtain ⟨hg, hk⟩ := chk_some hk; obtain ⟨h0, h1⟩ := chk2 hg; have h0 := of_decide_eq_true h0; have h1 := of_decide_eq_true h1; obtain ⟨_, F, ⟨A, c, hv, hrow⟩, hF⟩ := h.cell hx (by simp); have hv : a.eval x = .slice A xs.length c := (List.cons.inj hv).1; obtain ⟨q, hc⟩ := cellI_inv hy; have e2 := int_inv (h.cell hc (by simp)).2
  have hi : n.toNat < xs.length := by omega
  have hget : xs[n.toNat]? = some (xs.getD n.toNat τ.dflt) := by simp [List.getD, List.getElem?_eq_getElem hi]
  cases A with
  | none => have := (hrow.nil rfl).1; rw [this] at hi; simp at hi
  | some ad =>
    obtain ⟨css, Fs, hFe, hall⟩ := hrow.some_ ad rfl; obtain ⟨c1, c2, c3⟩ := hall _ _ hget
    have hxe : xs.isEmpty = false := by cases xs with | nil => simp at hi | cons _ _ => rfl
    rw [show List.isEmpty (α := τ.den) (show List τ.den from xs) = false from hxe] at hFe
    refine sound_pure h (s := .val (.one (.rptr τ (xs.getD n.toNat τ.dflt)))) ⟨rfl, _, css n.toNat, Fs n.toNat, rfl, c1, c3, fun _ => ?_, fun b hb => hF b ?_⟩ (run_indexAt T he ho hv e2 h0 h1) hk
    · rw [add_block]
      apply hF; rw [hFe]
      simp
    · rw [hFe]
      exact List.mem_append_right _ (mem_flatN.2 ⟨_, hi, hb⟩)

theorem own_some {w : World} {sz n : Nat} {v : Value} {xs : List Value} (h : OwnRow w sz v n xs) (hn : 0 < n) : ∃ g cap, v = .slice (some ⟨g, 0, none⟩) n cap ∧ n ≤ cap ∧ cap ≤ maxLen := by
  rcases h.2 with ⟨_, h2⟩ | ⟨g, cap, cur, e, fz, hv, _, _, hle, hcm, _⟩
  · omega
  · exact ⟨g, cap, hv, hle, hcm⟩

theorem sound_indexOwn (h : RelX K S a w L Bs) (T : TabOK Γ P) {t : TypeId} {x y : Operand} (ho : o.op = .indexAddr t x y) {τ : Ty} {xs : List τ.den} {d : Bool} {q : Nat} (he : elemSize Γ t = some τ.sz) (hx : S.cell x = .own q) (hq : S.obj q = .row τ xs d) {n : Int} (hy : cellI (S.cell y) = some n)
    (hk : chk (decide (0 ≤ n) && decide (n < (xs.length : Nat))) (k (S.put o.dst (.val (.one (.eptr q n.toNat 0))))) = some r) : Sound K P o a w k r := by
  obtain ⟨hg, hk⟩ := chk_some hk; obtain ⟨h0, h1⟩ := chk2 hg; have h0 := of_decide_eq_true h0; have h1 := of_decide_eq_true h1; obtain ⟨_, h2, h3⟩ := h.cell hx (by simp); have hob := lget_obj hq (by simp); have hv := h3 τ xs d (.inl hob); obtain ⟨p, hc⟩ := cellI_inv hy; have e2 := int_inv (h.cell hc (by simp)).2; obtain ⟨css, Fs, hown, _, _⟩ := h.objs.obj q _ hob; obtain ⟨g, cap, hL, _, _⟩ := own_some hown (by omega); rw [hL] at hv
  refine sound_pure h (s := .val (.one (.eptr q n.toNat 0))) ⟨rfl, h2, fun t' xs' d' hq' => ?_⟩ (run_indexAt T he ho hv e2 h0 h1) hk
  replace hq' := hq'.of_row hob
  rw [hob] at hq'; cases hq'; exact ⟨by omega, g, cap, hL, rfl⟩

theorem sound_indexWin (h : RelX K S a w L Bs) (T : TabOK Γ P) {t : TypeId} {x y : Operand} (ho : o.op = .indexAddr t x y) {τ : Ty} {xs : List τ.den} {d : Bool} {q lo m : Nat} (he : elemSize Γ t = some τ.sz) (hx : S.cell x = .win q lo m) (hq : S.obj q = .row τ xs d) {n : Int} (hy : cellI (S.cell y) = some n)
    (hk : chk (decide (0 ≤ n) && decide (n < (m : Nat))) (k (S.put o.dst (.val (.one (.eptr q (lo + n.toNat) 0))))) = some r) : Sound K P o a w k r := by
  obtain ⟨hg, hk⟩ := chk_some hk; obtain ⟨h0, h1⟩ := chk2 hg; have h0 := of_decide_eq_true h0; have h1 := of_decide_eq_true h1; obtain ⟨_, h2, h3⟩ := h.cell hx (by simp); have hob := lget_obj hq (by simp); obtain ⟨hle, A, c, hv, hnc, hcm, hnil, hpos⟩ := h3 τ xs d (.inl hob); obtain ⟨g, cap, hL, hA, hcc⟩ := hpos (by omega); subst hA; obtain ⟨p, hc⟩ := cellI_inv hy; have e2 := int_inv (h.cell hc (by simp)).2
  refine sound_pure h (s := .val (.one (.eptr q (lo + n.toNat) 0))) ⟨rfl, h2, fun t' xs' d' hq' => ?_⟩ (run_indexAt T he ho hv e2 h0 h1) hk
  replace hq' := hq'.of_row hob
  rw [hob] at hq'; cases hq'; refine ⟨by omega, g, cap, hL, ?_⟩; rw [add_add, ← Nat.add_mul, Nat.add_zero]

theorem part_run (T : TabOK Γ P) {t : TypeId} {n off : Nat} (hn : Γ.size t = some n) {cs : List Cell} {v : Val} (hle : off + n ≤ cs.length) (hv : Γ.ofCells t ((cs.drop off).take n) = some v) {vs : Array Value} (hs : vs.size = cs.length)
    {objs : List AObj} {own : Nat → Prop} (hr : ∀ (i : Nat) c u, cs[i]? = some c → vs[i]? = some u → u.oneCell' = true ∧ CellRep w objs L own c u) :
    ∃ u, (part t vs off).run P w = .ok u w ∧ ValRep w objs L own v u := by
  unfold Tab.size at hn; split at hn
  · rename_i z n' b hi
    cases hn; obtain ⟨i, hi, _, hsz, _, _⟩ := T.info _ _ _ _ hi; unfold Tab.ofCells at hv; split at hv
    · rename_i ha
      cases hv; refine ⟨.agg (vs.extract off (off + n)), ?_, vs.extract off (off + n), rfl, by simp; omega, fun j c u h1 h2 => ?_⟩
      · have hag : (isAgg t).run P w = .ok true w := by
          unfold Tab.agg at ha; unfold isAgg; split at ha
          · rename_i fs hu; simp [run_underlying (T.und _ _ hu)]
          · rename_i l e hu; simp [run_underlying (T.und _ _ hu)]
          · cases ha
          · cases ha
        simp [part, hag, sizeOf, typeInfo, hi, hsz]
      · rw [List.getElem?_take] at h1
        split at h1
        · rename_i hj
          rw [List.getElem?_drop] at h1; rw [Array.getElem?_extract] at h2; split at h2
          · exact hr (off + j) c u h1 h2
          · cases h2
        · cases h1
    · rename_i c ha hcs
      cases hv
      have hn1 : n = 1 := by
        have : ((cs.drop off).take n).length = 1 := by rw [hcs]; rfl
        simp at this
        omega
      subst hn1
      have hc : cs[off]? = some c := by
        have : ((cs.drop off).take 1)[0]? = some c := by rw [hcs]; rfl
        simpa using this
      have hu : vs[off]? = some (vs[off]'(by omega)) := Array.getElem?_eq_getElem _; obtain ⟨h1, h2⟩ := hr off c _ hc hu; refine ⟨_, ?_, h1, h2⟩
      have hag : (isAgg t).run P w = .ok false w := by
        unfold Tab.agg at ha; unfold isAgg; split at ha
        · cases ha
        · cases ha
        · rename_i d h3 h4 hu
          simp only [Sem.run_bind, run_underlying (T.und _ _ hu), Result.andThen_ok]; rfl
        · cases ha
      simp [part, hag, hu]
    · cases hv
  · cases hn

theorem sound_field (h : RelX K S a w L Bs) (T : TabOK Γ P) (t : TypeId) (x : Operand) (f : Nat) (ho : o.op = .field t x f) {fl : Field} (hf : fieldOf Γ t f = some fl) {cs : List Cell} (hx : S.val? x = some (.agg cs)) {n : Nat} (hn : Γ.size fl.type = some n) (hle : fl.offset + n ≤ cs.length)
    {v : Val} (hv : Γ.ofCells fl.type ((cs.drop fl.offset).take n) = some v) (hk : k (S.put o.dst (.val v)) = some r) : Sound K P o a w k r := by
  obtain ⟨vs, e, hs, hr⟩ := h.val hx; obtain ⟨u, hu, hrep⟩ := part_run (P := P) T hn hle hv hs hr
  refine sound_pure h (s := .val v) hrep ?_ hk
  unfold fieldOf at hf; split at hf
  · rename_i fs hut
    rw [lat?_eq] at hf
    have hf' : fs[f]? = some fl := by simpa using hf
    simp [execOp, ho, e, Instr.field, run_underlying (T.und _ _ hut), hf', asAgg, hu]
  · cases hf

theorem capsOf_spec (h : RelX K S a w L Bs) : ∀ (l : List Operand) (caps : List (Nat × Nat)), capsOf S l = some caps → caps.length = l.length ∧
    ∀ (i : Nat) p u, caps[i]? = some p → (l.map a.eval)[i]? = some u → u.oneCell' = true ∧ Live S.objs p.1 ∧ ∀ t cs, S.objs[p.1]? = some (.box t cs) → PtrOf (L p.1) p.2 u
  | [], caps, hc => by cases hc; exact ⟨rfl, fun i p u h1 => by simp at h1⟩
  | x :: l, caps, hc => by
    unfold capsOf at hc; split at hc
    · rename_i b off l' hx hl
      cases hc; obtain ⟨h1, h2⟩ := capsOf_spec h l _ hl; refine ⟨by simp [h1], fun i p u hp hu => ?_⟩
      cases i with
      | zero =>
        simp at hp hu
        subst hp; subst hu; exact h.cell hx (by simp)
      | succ i => exact h2 i p u (by simpa using hp) (by simpa using hu)
    · cases hc

theorem sound_makeFunc (h : RelX K S a w L Bs) (f : FuncId) (first captured : Array Operand) (ho : o.op = .makeFunc (.func f) first captured) (hf : first.toList = []) {caps : List (Nat × Nat)} (hc : capsOf S captured.toList = some caps)
    (hk : k (S.put o.dst (.val (.one (.fnL f caps)))) = some r) : Sound K P o a w k r := by
  obtain ⟨h1, h2⟩ := capsOf_spec h _ _ hc
  have hf' : first = #[] := by cases first; simp_all
  refine sound_pure h (s := .val (.one (.fnL f caps))) (v := .func (.func f) #[] (captured.map a.eval)) ⟨rfl, _, rfl, by simp [h1], fun i p u hp hu => h2 i p u hp ?_⟩ ?_ hk
  · simpa using hu
  · simp [execOp, ho, Instr.makeFunc, hf']

end
end Go.Proofs.GR

namespace Go.Proofs.GR

def DRep (e : Bool) (w : World) : Cell → Value → List Nat → Prop
  | .dat t x, v, F => ERep e w t x [v] F
  | .nilS, v, F => v = .slice none 0 0 ∧ F = []
  | _, _, _ => False

inductive DReps (e : Bool) (w : World) : List Cell → List Value → List Nat → Prop where
  | nil : DReps e w [] [] []
  | cons {c : Cell} {u : Value} {F : List Nat} {cs : List Cell} {vs : List Value} {G : List Nat} : DRep e w c u F → DReps e w cs vs G → DReps e w (c :: cs) (u :: vs) (F ++ G)

inductive CReps (w : World) (objs : List AObj) (L : Nat → Value) (own : Nat → Prop) : List Cell → List Value → Prop where
  | nil : CReps w objs L own [] []
  | cons {c : Cell} {u : Value} {cs : List Cell} {vs : List Value} : u.oneCell' = true → CellRep w objs L own c u → CReps w objs L own cs vs → CReps w objs L own (c :: cs) (u :: vs)

theorem CReps.of {w : World} {objs : List AObj} {L : Nat → Value} {own : Nat → Prop} : ∀ (cs : List Cell) (vs : List Value), vs.length = cs.length →
    (∀ (i : Nat) c u, cs[i]? = some c → vs[i]? = some u → u.oneCell' = true ∧ CellRep w objs L own c u) → CReps w objs L own cs vs
  | [], [], _, _ => .nil
  | [], _ :: _, hl, _ => by simp at hl
  | _ :: _, [], hl, _ => by simp at hl
  | c :: cs, u :: vs, hl, h => .cons (h 0 c u rfl rfl).1 (h 0 c u rfl rfl).2 (CReps.of cs vs (by simpa using hl) (fun i c' u' h1 h2 => h (i + 1) c' u' (by simpa using h1) (by simpa using h2)))

theorem CReps.get {w : World} {objs : List AObj} {L : Nat → Value} {own : Nat → Prop} {cs : List Cell} {vs : List Value} (h : CReps w objs L own cs vs) : vs.length = cs.length ∧
    ∀ (i : Nat) c u, cs[i]? = some c → vs[i]? = some u → u.oneCell' = true ∧ CellRep w objs L own c u := by
  induction h with
  | nil => exact ⟨rfl, fun i c u h1 => by simp at h1⟩
  | cons h1 h2 _ ih =>
    refine ⟨by simp [ih.1], fun i c u hc hu => ?_⟩
    cases i with
    | zero => cases hc; cases hu; exact ⟨h1, h2⟩
    | succ i => exact ih.2 i c u (by simpa using hc) (by simpa using hu)

theorem ERep.nil (e : Bool) (w : World) (t : Ty) : ERep e w (.slice t) ([] : List t.den) [.slice none 0 0] [] := by
  cases e with
  | true => exact ⟨.slice none 0 0, rfl, fun _ => [], fun _ => [], ⟨by simp [flatN], .inl ⟨rfl, rfl⟩⟩, fun i x hi => by simp at hi, by simp [ownBlk, flatN, Value.ownBlock]⟩
  | false => exact ⟨none, 0, rfl, ⟨Nat.le_refl _, by simp [maxLen], (fun _ => ⟨rfl, rfl, rfl⟩), (fun ad had => by cases had), (fun ad had => by cases had)⟩⟩
theorem ERep.pair {e : Bool} {w : World} {a b : Ty} {x : a.den} {y : b.den} {c1 c2 : List Value} {F1 F2 : List Nat} (h1 : ERep e w a x c1 F1) (h2 : ERep e w b y c2 F2) : ERep e w (.pair a b) (x, y) (c1 ++ c2) (F1 ++ F2) := by
  cases e <;> exact ⟨c1, c2, F1, F2, h1, h2, rfl, rfl⟩

theorem packL_spec {e : Bool} {w : World} (t : Ty) (cs : List Cell) (vs : List Value) (F : List Nat) (x : List t.den) (rest : List Cell) (h : DReps e w cs vs F) (hp : packL t cs = some (x, rest)) :
    ∃ vs1 vs2 F1 F2, vs = vs1 ++ vs2 ∧ F = F1 ++ F2 ∧ ERep e w (.slice t) x vs1 F1 ∧ DReps e w rest vs2 F2 := by
  unfold packL at hp; split at hp
  · rename_i t' xs r
    split at hp
    · rename_i ht
      subst ht; cases hp
      cases h with
      | cons h1 h2 => exact ⟨[_], _, _, _, rfl, rfl, h1, h2⟩
    · cases hp
  · cases hp
    cases h with
    | cons h1 h2 =>
      obtain ⟨h1, h3⟩ := h1; subst h3; subst h1; exact ⟨[_], _, [], _, rfl, rfl, ERep.nil e w t, h2⟩
  · cases hp
theorem ERep.rose {e : Bool} {w : World} {t : Ty} {x : t.den} {y : List (Ty.rose t).den} {c1 c2 : List Value} {F1 F2 : List Nat} (h1 : ERep e w t x c1 F1) (h2 : ERep e w (.slice (.rose t)) y c2 F2) : ERep e w (.rose t) (Rose.mk x y) (c1 ++ c2) (F1 ++ F2) := by
  cases e
  · exact Rep.rose_iff.2 ⟨c1, c2, F1, F2, h1, h2, rfl, rfl⟩
  · exact ORep.rose_iff.2 ⟨c1, c2, F1, F2, h1, h2, rfl, rfl⟩

theorem pack_spec {e : Bool} {w : World} : ∀ (t : Ty) (cs : List Cell) (vs : List Value) (F : List Nat) (x : t.den) (rest : List Cell), DReps e w cs vs F → t.pack cs = some (x, rest) →
    ∃ vs1 vs2 F1 F2, vs = vs1 ++ vs2 ∧ F = F1 ++ F2 ∧ ERep e w t x vs1 F1 ∧ DReps e w rest vs2 F2
  | .int k, cs, vs, F, x, rest, h, hp => by
    have hp : packI k cs = some (x, rest) := hp; unfold packI at hp; split at hp
    · rename_i k' n r
      split at hp
      · rename_i hk
        subst hk; cases hp
        cases h with
        | cons h1 h2 => exact ⟨[_], _, _, _, rfl, rfl, h1, h2⟩
      · cases hp
    · cases hp
  | .bool, cs, vs, F, x, rest, h, hp => by
    have hp : packB cs = some (x, rest) := hp; unfold packB at hp; split at hp
    · cases hp
      cases h with
      | cons h1 h2 => exact ⟨[_], _, _, _, rfl, rfl, h1, h2⟩
    · cases hp
  | .str, cs, vs, F, x, rest, h, hp => by
    have hp : packS cs = some (x, rest) := hp; unfold packS at hp; split at hp
    · cases hp
      cases h with
      | cons h1 h2 => exact ⟨[_], _, _, _, rfl, rfl, h1, h2⟩
    · cases hp
  | .unit, cs, vs, F, x, rest, h, hp => by
    have hp : some ((), cs) = some (x, rest) := hp; cases hp; exact ⟨[], vs, [], F, rfl, rfl, by cases e <;> exact ⟨rfl, rfl⟩, h⟩
  | .slice t, cs, vs, F, x, rest, h, hp => packL_spec t cs vs F x rest h hp
  | .pair a b, cs, vs, F, x, rest, h, hp => by
    simp only [Ty.pack] at hp; split at hp
    · rename_i y r' ha
      split at hp
      · rename_i z r'' hb
        cases hp; obtain ⟨vs1, vs2, F1, F2, rfl, rfl, h1, h2⟩ := pack_spec a _ _ _ _ _ h ha; obtain ⟨vs3, vs4, F3, F4, rfl, rfl, h3, h4⟩ := pack_spec b _ _ _ _ _ h2 hb; exact ⟨vs1 ++ vs3, vs4, F1 ++ F3, F4, by simp, by simp, ERep.pair h1 h3, h4⟩
      · cases hp
    · cases hp
  | .rose t, cs, vs, F, x, rest, h, hp => by
    simp only [Ty.pack] at hp; split at hp
    · rename_i y r' ha
      split at hp
      · rename_i z r'' hb
        cases hp; obtain ⟨vs1, vs2, F1, F2, rfl, rfl, h1, h2⟩ := pack_spec t _ _ _ _ _ h ha; obtain ⟨vs3, vs4, F3, F4, rfl, rfl, h3, h4⟩ := packL_spec (.rose t) _ _ _ _ _ h2 hb; exact ⟨vs1 ++ vs3, vs4, F1 ++ F3, F4, by simp, by simp, ERep.rose h1 h3, h4⟩
      · cases hp
    · cases hp

section
variable {K : Start} {S : St} {a : Act} {w : World} {L : Nat → Value} {Bs : Nat → List Nat}

def ownBlk' (v : Value) {α : Type} (xs : List α) : List Nat := if xs.isEmpty then [] else ownBlk v

theorem row_dat {own : Nat → Prop} {objs : List AObj} {o : Nat} {t : Ty} {xs : List t.den} {d : Bool} {B : List Nat} (h : ObjRep w objs L own o (.row t xs d) B) :
    ∃ G, Rep w (.slice t) xs [L o] (ownBlk' (L o) xs ++ G) ∧ (if d then (ownBlk (L o) ++ G).Sublist B else B = ownBlk (L o) ∧ ∀ b ∈ G, ¬ own b) := by
  obtain ⟨css, Gs, hown, h2', h3⟩ := h; obtain ⟨Fs, h2, hs1, _, hs2⟩ := elems_rep h2'
  have hl : ∀ i, i < xs.length → (css i).length = t.sz := fun i hi => (h2 i _ (List.getElem?_eq_getElem hi)).1
  refine ⟨flatN Fs xs.length, ?_, ?_⟩
  · rcases hown.2 with ⟨hL, hn⟩ | ⟨g, cap, cur, e, fz, hL, hg, hfz, hle, hcm, hcs, htk⟩
    · have hx : xs = [] := List.eq_nil_of_length_eq_zero hn
      subst hx; rw [hL]; exact ⟨none, 0, rfl, ⟨Nat.le_refl _, by simp [maxLen], (fun _ => ⟨rfl, rfl, by simp [ownBlk', flatN]⟩), (fun ad had => by cases had), (fun ad had => by cases had)⟩⟩
    · refine ⟨some ⟨g, 0, none⟩, cap, by rw [hL], ⟨hle, hcm, (fun hn => by cases hn), (fun ad had hne => ?_), (fun ad had => ?_)⟩⟩
      · cases had
        exact (Array.getElem?_eq_some_iff.1 hg).1
      · cases had
        refine ⟨css, Fs, ?_, fun i x hx => ?_⟩
        · rw [hL]
          rfl
        · have hi : i < xs.length := (List.getElem?_eq_some_iff.1 hx).1
          refine ⟨fun j v hj => ?_, hl i hi, (h2 i x hx).2⟩
          have hjl : j < t.sz := by rw [← hl i hi]; exact (List.getElem?_eq_some_iff.1 hj).1
          rw [add_add]; refine OwnRow.cells hown (by rw [hL]; rfl) _ _ ?_; rw [flatN_at _ hl i j hi hjl]; exact hj
  · cases d <;> simp only [Bool.false_eq_true, if_false, if_true] at h3 ⊢
    · exact ⟨h3.1, fun b hb => h3.2 b (hs1.subset hb)⟩
    · rw [h3]
      exact List.Sublist.append (List.Sublist.refl _) hs1
theorem row_own {own : Nat → Prop} {objs : List AObj} {o : Nat} {t : Ty} {xs : List t.den} {B : List Nat} (h : ObjRep w objs L own o (.row t xs true) B) : ERep true w (.slice t) xs [L o] B := by
  obtain ⟨css, Gs, hown, h2, h3⟩ := h; exact ⟨L o, rfl, css, Gs, hown, h2, h3⟩

theorem dat_flat {objs : List AObj} {own : Nat → Prop} {t : Ty} {x : t.den} {u : Value} (h : CellRep w objs L own (.dat t x) u) {e : Bool} (hf : t.flat = true) : DRep e w (.dat t x) u [] := by
  obtain ⟨F, hr, _⟩ := h; have := Rep.flat _ _ _ _ hf hr; subst this; exact ERep.flat hf hr

theorem DReps.nil_app {e : Bool} {w : World} {c : Cell} {u : Value} {cs : List Cell} {vs : List Value} {G : List Nat} (h1 : DRep e w c u []) (h2 : DReps e w cs vs G) : DReps e w (c :: cs) (u :: vs) G := by
  have := DReps.cons h1 h2
  rwa [List.nil_append] at this
theorem hand_spec (h : RelX K S a w L Bs) : ∀ (cs : List Cell) (vs : List Value), CReps w S.objs L (Forb K S.objs.length Bs) cs vs → ∀ cs' os b, S.hand cs = some (cs', os, b) →
    ∃ F, DReps false w cs' vs F ∧ (∀ o ∈ os, ∃ t xs d, S.objs[o]? = some (.row t xs d)) ∧ (∀ k ∈ F, ¬ Forb K S.objs.length Bs k ∨ ∃ o ∈ os, k ∈ Bs o) ∧ (b = true → ∃ G, DReps true w cs' vs G ∧ (∀ k, k ∈ G → ∃ o ∈ os, k ∈ Bs o) ∧ (os.Nodup → G.Nodup))
  | [], vs, hc, cs', os, b, hh => by
    cases hc; simp only [St.hand] at hh; cases hh; exact ⟨[], .nil, by simp, by simp, fun _ => ⟨[], .nil, by simp, by simp⟩⟩
  | c :: cs, vs, hc, cs', os, b, hh => by
    cases hc with
    | cons h1 h2 h3 =>
      rename_i u vs
      simp only [St.hand] at hh; split at hh
      · cases hh
      · rename_i r' os' b' hr
        obtain ⟨F, g1, g2, g3, g4⟩ := hand_spec h cs vs h3 _ _ _ hr
        have nosl : ∀ (t : Ty) (x : t.den), c = .dat t x → ∃ F0, Rep w t x [u] F0 ∧ ∀ k ∈ F0, ¬ Forb K S.objs.length Bs k := by
          intro t x hc; subst hc; exact h2
        split at hh
        · rename_i o
          split at hh
          · rename_i t xs d ho
            cases hh; have hob := lget_obj ho (by simp); have hu : u = L o := h2.2 t xs d (.inl hob); obtain ⟨G, hrep, hB⟩ := row_dat (h.objs.obj o _ hob); have hol : o < S.objs.length := h2.1.lt; refine ⟨ownBlk' (L o) xs ++ G ++ F, ?_, ?_, ?_, fun hb => ?_⟩
            · rw [hu]
              exact .cons hrep g1
            · intro o' ho'
              rcases List.mem_cons.1 ho' with rfl | ho'
              · exact ⟨t, xs, d, hob⟩
              · exact g2 o' ho'
            · intro k hk
              rcases List.mem_append.1 hk with hk | hk
              · have hkB : k ∈ Bs o ∨ ¬ Forb K S.objs.length Bs k := by
                  rcases List.mem_append.1 hk with hk | hk
                  · refine .inl ?_
                    have hk' : k ∈ ownBlk (L o) := by unfold ownBlk' at hk; split at hk <;> simp_all
                    cases d <;> simp only [Bool.false_eq_true, if_false, if_true] at hB
                    · rw [hB.1]; exact hk'
                    · exact hB.subset (List.mem_append_left _ hk')
                  · cases d <;> simp only [Bool.false_eq_true, if_false, if_true] at hB
                    · exact .inr (hB.2 k hk)
                    · exact .inl (hB.subset (List.mem_append_right _ hk))
                rcases hkB with hkB | hkB
                · exact .inr ⟨o, by simp, hkB⟩
                · exact .inl hkB
              · rcases g3 k hk with h4 | ⟨o', h4, h5⟩
                · exact .inl h4
                · exact .inr ⟨o', by simp [h4], h5⟩
            · obtain ⟨hd, hb'⟩ := yes2_true hb
              subst hd; obtain ⟨G2, g5, g6, g7⟩ := g4 hb'; have hor := row_own (h.objs.obj o _ hob); refine ⟨Bs o ++ G2, ?_, ?_, ?_⟩
              · rw [hu]
                exact .cons hor g5
              · intro k hk
                rcases List.mem_append.1 hk with hk | hk
                · exact ⟨o, by simp, hk⟩
                · obtain ⟨o', h4, h5⟩ := g6 k hk
                  exact ⟨o', by simp [h4], h5⟩
              · intro hnd
                have hnd' := List.nodup_cons.1 hnd; refine List.nodup_append.2 ⟨flatN_nodup_at h.objs.nodup hol, g7 hnd'.2, fun k hk k' hk' e => ?_⟩; subst e; obtain ⟨o', h4, h5⟩ := g6 k hk'; obtain ⟨t', xs', d', hob'⟩ := g2 o' h4
                have hne : o ≠ o' := by rintro rfl; exact hnd'.1 h4
                exact flatN_disj h.objs.nodup hol (List.getElem?_eq_some_iff.1 hob').1 hne k hk h5
          · cases hh
        · rename_i t xs
          cases hh; obtain ⟨F0, hr0, hF0⟩ := nosl _ _ rfl; refine ⟨F0 ++ F, .cons hr0 g1, g2, fun k hk => ?_, fun hb => by cases hb⟩
          rcases List.mem_append.1 hk with hk | hk
          · exact .inl (hF0 k hk)
          · exact g3 k hk
        · cases hh
          refine ⟨F, .nil_app (dat_flat h2 rfl) g1, g2, g3, fun hb => ?_⟩; obtain ⟨G, g5, g6, g7⟩ := g4 hb; exact ⟨G, .nil_app (dat_flat h2 rfl) g5, g6, g7⟩
        · cases hh
          refine ⟨F, .nil_app (dat_flat h2 rfl) g1, g2, g3, fun hb => ?_⟩; obtain ⟨G, g5, g6, g7⟩ := g4 hb; exact ⟨G, .nil_app (dat_flat h2 rfl) g5, g6, g7⟩
        · cases hh
          refine ⟨F, .nil_app (dat_flat h2 rfl) g1, g2, g3, fun hb => ?_⟩; obtain ⟨G, g5, g6, g7⟩ := g4 hb; exact ⟨G, .nil_app (dat_flat h2 rfl) g5, g6, g7⟩
        · cases hh
          refine ⟨F, .nil_app ⟨h2, rfl⟩ g1, g2, g3, fun hb => ?_⟩; obtain ⟨G, g5, g6, g7⟩ := g4 hb; exact ⟨G, .nil_app ⟨h2, rfl⟩ g5, g6, g7⟩
        · cases hh

end
end Go.Proofs.GR

namespace Go.Proofs.GR
section
theorem run_storeCells_row (P : Program) (g o : Nat) (t : TypeId) (fz : Nat × Nat) : ∀ (vs : List Value) (i : Nat) (cur : Array Value) (w : World), w.heap[g]? = some (.cells cur t fz) → (fz = (0, 0) ∨ cur.size ≤ fz.1) → o + i + vs.length ≤ cur.size → (∀ v ∈ vs, v.oneCell' = true) →
    (storeCells ⟨g, o, none⟩ vs i).run P w = .ok () (w.setRow g (cur.toList.take (o + i) ++ vs ++ cur.toList.drop (o + i + vs.length)).toArray)
  | [], i, cur, w, hg, _, _, _ => by
    simp only [storeCells, List.append_nil, List.length_nil, Nat.add_zero, List.take_append_drop, Array.toArray_toList]; rw [setRow_self w g cur t fz hg]; rfl
  | v :: rest, i, cur, w, hg, hfz, hl, h1 => by
    have hi : o + i < cur.size := by simp at hl; omega
    have hadd : (⟨g, o, none⟩ : Addr).add i = ⟨g, o + i, none⟩ := by unfold Addr.add; split <;> simp_all
    have hcell : w.cell? ⟨g, o + i, none⟩ = some cur[o + i] := by simp [World.cell?, hg, hi]
    have hfro : w.frozen? ⟨g, o + i, none⟩ = false := by
      obtain ⟨lo, hh⟩ := fz; simp only [World.frozen?, hg, Bool.and_eq_false_iff, decide_eq_false_iff_not]
      rcases hfz with hfz | hfz
      · cases hfz; right; omega
      · left; simp only at hfz; omega
    have hst : (store ((⟨g, o, none⟩ : Addr).add i) v).run P w = .ok () (w.setRow g (cur.setIfInBounds (o + i) v)) := by
      rw [hadd, run_store P w _ v _ (h1 v (by simp)), hcell]
      simp [hfro, setCell_eq_setRow w g (o + i) cur t fz v hg]
    have ih := run_storeCells_row P g o t fz rest (i + 1) (cur.setIfInBounds (o + i) v) (w.setRow g (cur.setIfInBounds (o + i) v)) (setRow_heap w g cur _ t _ hg) (by simpa using hfz) (by simp at hl ⊢; omega) (fun x hx => h1 x (by simp [hx])); simp only [storeCells, Sem.run_bind, hst, Result.andThen_ok, ih, setRow_setRow]
    congr 3
    have e := list_seg_step cur.toList (o + i) v rest (by simp at hl ⊢; omega)
    simpa [Array.toList_setIfInBounds, Nat.add_assoc] using e
end
end Go.Proofs.GR

namespace Go.Proofs.GR

theorem DReps.len {e : Bool} {w : World} {cs : List Cell} {vs : List Value} {F : List Nat} (h : DReps e w cs vs F) : vs.length = cs.length := by
  induction h with
  | nil => rfl
  | cons _ _ ih => simp [ih]

theorem ERep.len {e : Bool} {w : World} {t : Ty} {x : t.den} {cs : List Value} {F : List Nat} (h : ERep e w t x cs F) : cs.length = t.sz := by
  obtain ⟨F', h', _⟩ := h.rep; exact Rep.len _ _ _ _ h'
theorem ERep.unpair {e : Bool} {w : World} {a b : Ty} {x : (Ty.pair a b).den} {cs : List Value} {F : List Nat} (h : ERep e w (.pair a b) x cs F) : ∃ c1 c2 F1 F2, ERep e w a x.1 c1 F1 ∧ ERep e w b x.2 c2 F2 ∧ cs = c1 ++ c2 ∧ F = F1 ++ F2 := by
  cases e <;> exact h
theorem ERep.pair' {e : Bool} {w : World} {a b : Ty} {x : (Ty.pair a b).den} {cs c1 c2 : List Value} {F F1 F2 : List Nat} (h1 : ERep e w a x.1 c1 F1) (h2 : ERep e w b x.2 c2 F2) (hc : cs = c1 ++ c2) (hF : F = F1 ++ F2) : ERep e w (.pair a b) x cs F := by
  cases e <;> exact ⟨c1, c2, F1, F2, h1, h2, hc, hF⟩

theorem ERep.unrose {e : Bool} {w : World} {t : Ty} {x : (Ty.rose t).den} {cs : List Value} {F : List Nat} (h : ERep e w (.rose t) x cs F) : ∃ c1 c2 F1 F2, ERep e w t (Rose.a x) c1 F1 ∧ ERep e w (.slice (.rose t)) (Rose.kids x) c2 F2 ∧ cs = c1 ++ c2 ∧ F = F1 ++ F2 := by
  cases e
  · exact Rep.rose_iff.1 h
  · exact ORep.rose_iff.1 h

theorem put_leaf {e : Bool} {w : World} (t : Ty) (x : t.den) (vs : List Value) (F : List Nat) (off : Nat) (cs : List Cell) (us : List Value) (G : List Nat) (y : t.den)
    (hp : (bif yes2 (Nat.beq off 0) (Nat.beq (llen cs) t.sz) then (t.pack cs).map (·.1) else none) = some y) (h : ERep e w t x vs F) (hd : DReps e w cs us G) :
    off + us.length ≤ vs.length ∧ ∃ F1 F2 F3, F = F1 ++ F2 ++ F3 ∧ ERep e w t y (vs.take off ++ us ++ vs.drop (off + us.length)) (F1 ++ G ++ F3) := by
  cases hc : yes2 (Nat.beq off 0) (Nat.beq (llen cs) t.sz) <;> rw [hc] at hp <;> simp at hp; obtain ⟨h0, h1⟩ := yes2_true hc; have e0 : off = 0 := Nat.eq_of_beq_eq_true h0; have e1 : llen cs = t.sz := Nat.eq_of_beq_eq_true h1; rw [llen_eq] at e1; have hl := ERep.len h; have hu := hd.len; obtain ⟨rest, hp⟩ := hp; obtain ⟨vs1, vs2, F1, F2, rfl, rfl, g1, g2⟩ := pack_spec t _ _ _ _ _ hd hp; have hl1 := ERep.len g1; have hv2 : vs2 = [] := List.eq_nil_of_length_eq_zero (by simp at hu; omega); subst hv2; cases g2; subst e0; refine ⟨by simp; omega, [], F, [], by simp, ?_⟩; have : vs.drop (0 + (vs1 ++ []).length) = [] := List.drop_eq_nil_of_le (by simp; omega); rw [this]
  simpa using g1

theorem putAt_spec {e : Bool} {w : World} : ∀ (t : Ty) (x : t.den) (vs : List Value) (F : List Nat) (off : Nat) (cs : List Cell) (us : List Value) (G : List Nat) (y : t.den), t.putAt x off cs = some y → ERep e w t x vs F → DReps e w cs us G →
    off + us.length ≤ vs.length ∧ ∃ F1 F2 F3, F = F1 ++ F2 ++ F3 ∧ ERep e w t y (vs.take off ++ us ++ vs.drop (off + us.length)) (F1 ++ G ++ F3)
  | .pair a b, x, vs, F, off, cs, us, G, y, hp, h, hd => by
    simp only [Ty.putAt] at hp; cases hc : yes2 (Nat.beq off 0) (Nat.beq (llen cs) (Nat.add a.sz b.sz)) <;> rw [hc] at hp <;> simp only [cond_true, cond_false] at hp
    · have hul := hd.len
      have hn : llen cs = us.length := by rw [llen_eq, hul]
      obtain ⟨c1, c2, F1, F2, h1, h2, hcs, hF⟩ := h.unpair; have l1 := ERep.len h1; subst hF; subst hcs; cases hdd : Nat.ble (Nat.add off (llen cs)) a.sz <;> rw [hdd] at hp <;> simp only [cond_true, cond_false] at hp
      · cases he : Nat.ble a.sz off <;> rw [he] at hp <;> simp only [cond_true, cond_false] at hp
        · cases hp
        · have e : a.sz ≤ off := Nat.le_of_ble_eq_true he
          obtain ⟨z, hz, rfl⟩ : ∃ z, b.putAt x.2 (Nat.sub off a.sz) cs = some z ∧ (x.1, z) = y := Option.map_eq_some_iff.1 hp; obtain ⟨g1, G1, G2, G3, g2, g3⟩ := putAt_spec b x.2 c2 F2 (Nat.sub off a.sz) cs us G z hz h2 hd; have es : Nat.sub off a.sz = off - a.sz := rfl; rw [es] at g1 g3; refine ⟨by simp; omega, F1 ++ G1, G2, G3, by rw [g2]; simp, ?_⟩
          refine ERep.pair' (x := (x.1, z)) h1 g3 ?_ (by simp)
          rw [List.take_append, List.drop_append, show List.take off c1 = c1 from List.take_of_length_le (by omega), show List.drop (off + us.length) c1 = [] from List.drop_eq_nil_of_le (by omega), l1]; simp only [List.append_assoc, List.nil_append]
          congr 3
          congr 1
          omega
      · have e : off + llen cs ≤ a.sz := Nat.le_of_ble_eq_true hdd
        rw [hn] at e; obtain ⟨z, hz, rfl⟩ : ∃ z, a.putAt x.1 off cs = some z ∧ (z, x.2) = y := Option.map_eq_some_iff.1 hp; obtain ⟨g1, G1, G2, G3, g2, g3⟩ := putAt_spec a x.1 c1 F1 off cs us G z hz h1 hd; refine ⟨by simp; omega, G1, G2, G3 ++ F2, by rw [g2]; simp, ?_⟩
        refine ERep.pair' (x := (z, x.2)) g3 h2 ?_ (by simp)
        rw [List.take_append_of_le_length (by omega), List.drop_append_of_le_length (by omega)]
        simp
    · exact put_leaf (.pair a b) x vs F off cs us G y (by simp only [Ty.sz]; rw [hc]; exact hp) h hd
  | .int k, x, vs, F, off, cs, us, G, y, hp, h, hd => put_leaf (.int k) x vs F off cs us G y hp h hd
  | .bool, x, vs, F, off, cs, us, G, y, hp, h, hd => put_leaf .bool x vs F off cs us G y hp h hd
  | .str, x, vs, F, off, cs, us, G, y, hp, h, hd => put_leaf .str x vs F off cs us G y hp h hd
  | .unit, x, vs, F, off, cs, us, G, y, hp, h, hd => put_leaf .unit x vs F off cs us G y hp h hd
  | .slice t, x, vs, F, off, cs, us, G, y, hp, h, hd => put_leaf (.slice t) x vs F off cs us G y hp h hd
  | .rose t, x, vs, F, off, cs, us, G, y, hp, h, hd => by
    simp only [Ty.putAt] at hp; cases hc : yes2 (Nat.beq off 0) (Nat.beq (llen cs) (Nat.add t.sz 1)) <;> rw [hc] at hp <;> simp only [cond_true, cond_false] at hp
    · have hul := hd.len
      have hn : llen cs = us.length := by rw [llen_eq, hul]
      obtain ⟨c1, c2, F1, F2, h1, h2, hcs, hF⟩ := h.unrose; have l1 := ERep.len h1; have l2 := ERep.len h2; have l2 : c2.length = 1 := l2; subst hF; subst hcs; cases hdd : Nat.ble (Nat.add off (llen cs)) t.sz <;> rw [hdd] at hp <;> simp only [cond_true, cond_false] at hp
      · cases he : yes2 (Nat.beq off t.sz) (Nat.beq (llen cs) 1) <;> rw [he] at hp <;> simp only [cond_true, cond_false] at hp
        · cases hp
        · have e0 : off = t.sz := Nat.eq_of_beq_eq_true (yes2_true he).1
          have e1 : llen cs = 1 := Nat.eq_of_beq_eq_true (yes2_true he).2; obtain ⟨z, hz, rfl⟩ := Option.map_eq_some_iff.1 hp; obtain ⟨k, rest⟩ := z; obtain ⟨vs1, vs2, G1, G2, rfl, rfl, g1, g2⟩ := packL_spec (.rose t) cs us G k rest hd hz; have hl1 : vs1.length = 1 := ERep.len g1; have hv2 : vs2 = [] := List.eq_nil_of_length_eq_zero (by rw [hn, List.length_append] at e1; omega); subst hv2; cases g2; refine ⟨by simp; omega, F1, F2, [], by simp, ?_⟩; rw [List.append_nil, List.append_nil, List.append_nil, List.take_append, List.drop_append, show List.take off c1 = c1 from List.take_of_length_le (by omega), show List.drop (off + vs1.length) c1 = [] from List.drop_eq_nil_of_le (by omega), show List.take (off - c1.length) c2 = [] by rw [show off - c1.length = 0 by omega]; rfl, show List.drop (off + vs1.length - c1.length) c2 = [] from List.drop_eq_nil_of_le (by omega)]
          simpa using ERep.rose h1 g1
      · have e : off + llen cs ≤ t.sz := Nat.le_of_ble_eq_true hdd
        rw [hn] at e; obtain ⟨z, hz, rfl⟩ : ∃ z, t.putAt (Rose.a x) off cs = some z ∧ Rose.mk z (Rose.kids x) = y := Option.map_eq_some_iff.1 hp; obtain ⟨g1, G1, G2, G3, g2, g3⟩ := putAt_spec t (Rose.a x) c1 F1 off cs us G z hz h1 hd; refine ⟨by simp; omega, G1, G2, G3 ++ F2, by rw [g2]; simp, ?_⟩; have := ERep.rose g3 h2; rw [List.take_append_of_le_length (by omega), List.drop_append_of_le_length (by omega)]
        simpa using this
    · exact put_leaf (.rose t) x vs F off cs us G y (by simp only [Ty.sz]; rw [hc]; exact hp) h hd

theorem flatN_upd {α : Type} {f : Nat → List α} {sz n i off : Nat} {us : List α} (hl : ∀ j, j < n → (f j).length = sz) (hi : i < n) (ho : off + us.length ≤ sz) (cur : List α) (hc : cur.take (n * sz) = flatN f n) (hcl : n * sz ≤ cur.length) :
    (cur.take (i * sz + off) ++ us ++ cur.drop (i * sz + off + us.length)).take (n * sz) = flatN (upd f i ((f i).take off ++ us ++ (f i).drop (off + us.length))) n := by
  have hi' : i * sz + sz ≤ n * sz := by rw [← Nat.succ_mul]; exact Nat.mul_le_mul_right _ hi
  have hli : (f i).length = sz := hl i hi
  have hl' : ∀ j, j < n → (upd f i ((f i).take off ++ us ++ (f i).drop (off + us.length)) j).length = sz := by
    intro j hj; unfold upd; split
    · simp; omega
    · exact hl j hj
  apply List.ext_getElem?; intro m
  by_cases hm : m < n * sz
  · have hsz : 0 < sz := by
      rcases Nat.eq_zero_or_pos sz with h | h
      · subst h; simp at hm
      · exact h
    have hdm : m = m / sz * sz + m % sz := by rw [Nat.mul_comm]; exact (Nat.div_add_mod m sz).symm
    have hj : m % sz < sz := Nat.mod_lt _ hsz; have hq : m / sz < n := Nat.div_lt_of_lt_mul (by rwa [Nat.mul_comm]); generalize m / sz = q at hdm hq; generalize m % sz = j at hdm hj; subst hdm; rw [flatN_at n hl' q j hq hj, List.getElem?_take, if_pos hm]
    have hcur : ∀ p, p < n * sz → cur[p]? = (flatN f n)[p]? := by
      intro p hp; rw [← hc, List.getElem?_take, if_pos hp]
    by_cases hqi : q = i
    · subst hqi
      rw [upd_same]
      have htl : (cur.take (q * sz + off)).length = q * sz + off := by simp; omega
      by_cases h1 : j < off
      · rw [List.append_assoc, List.getElem?_append_left (by omega), List.getElem?_take, if_pos (by omega), hcur _ hm, flatN_at n hl q j hq hj]
        rw [List.append_assoc, List.getElem?_append_left (by simp; omega), List.getElem?_take, if_pos h1]
      · by_cases h2 : j < off + us.length
        · rw [List.append_assoc, List.getElem?_append_right (by omega), List.getElem?_append_left (by omega), htl]
          rw [List.append_assoc, List.getElem?_append_right (by simp; omega), List.getElem?_append_left (by simp; omega)]
          congr 1
          simp
          omega
        · rw [List.getElem?_append_right (by simp; omega), List.getElem?_drop]
          rw [List.getElem?_append_right (by simp; omega), List.getElem?_drop]
          have e1 : q * sz + off + us.length + (q * sz + j - (List.take (q * sz + off) cur ++ us).length) = q * sz + j := by simp; omega
          have e2 : off + us.length + (j - (List.take off (f q) ++ us).length) = j := by simp; omega
          rw [e1, e2, hcur _ hm, flatN_at n hl q j hq hj]
    · rw [upd_ne _ _ _ hqi]
      rcases Nat.lt_or_ge q i with h | h
      · have h1 : q * sz + j < i * sz := by
          have : (q + 1) * sz ≤ i * sz := Nat.mul_le_mul_right _ h; rw [Nat.succ_mul] at this; omega
        rw [List.append_assoc, List.getElem?_append_left (by simp; omega), List.getElem?_take, if_pos (by omega), hcur _ hm, flatN_at n hl q j hq hj]
      · have h1 : i * sz + sz ≤ q * sz + j := by
          have : (i + 1) * sz ≤ q * sz := Nat.mul_le_mul_right _ (by omega); rw [Nat.succ_mul] at this; omega
        rw [List.getElem?_append_right (by simp; omega), List.getElem?_drop]
        have e1 : i * sz + off + us.length + (q * sz + j - (List.take (i * sz + off) cur ++ us).length) = q * sz + j := by simp; omega
        rw [e1, hcur _ hm, flatN_at n hl q j hq hj]
  · rw [List.getElem?_take, if_neg hm, List.getElem?_eq_none]
    rw [flatN_len n hl']; omega

section
variable {K : Start} {P : Program} {Γ : Tab} {o : Oper} {S : St} {a : Act} {w : World} {L : Nat → Value} {Bs : Nat → List Nat} {ρ : Type} {k : St → Option ρ} {r : ρ}

theorem val_cells {objs : List AObj} {own : Nat → Prop} {v : Val} {u : Value} (rv : ValRep w objs L own v u) : CReps w objs L own v.cells u.cells.toList := by
  cases v with
  | one c =>
    obtain ⟨h1, h2⟩ := rv
    have hce : u.cells = #[u] := by cases u <;> first | rfl | simp [Value.oneCell'] at h1
    rw [hce]; exact .cons h1 h2 .nil
  | agg cs =>
    obtain ⟨vs, h1, h2, h3⟩ := rv; rw [h1]; exact CReps.of _ _ (by simp [Value.cells, Val.cells, h2]) (fun i c u hc hu => h3 i c u hc (by simpa [Value.cells] using hu))

theorem CReps.one {objs : List AObj} {own : Nat → Prop} {cs : List Cell} {vs : List Value} (h : CReps w objs L own cs vs) : ∀ u ∈ vs, u.oneCell' = true := by
  induction h with
  | nil => simp
  | cons h1 _ _ ih =>
    intro u hu
    rcases List.mem_cons.1 hu with rfl | hu
    · exact h1
    · exact ih u hu

theorem sizeIs_inv {n : Nat} {t : TypeId} (T : TabOK Γ P) (h : sizeIs n (Γ.size t) = true) : (sizeOf t).run P w = .ok n w := by
  unfold sizeIs at h; split at h
  · rename_i m hm
    have e : n = m := Nat.eq_of_beq_eq_true h; subst e; unfold Tab.size at hm; split at hm
    · rename_i z n' b hi
      cases hm; obtain ⟨i, hi, _, hs, _, _⟩ := T.info _ _ _ _ hi
      simp [sizeOf, typeInfo, hi, hs]
    · cases hm
  · cases h

theorem run_storeAt (T : TabOK Γ P) {t : TypeId} {x y : Operand} (ho : o.op = .store t y x) {g p : Nat} (hy : a.eval y = .pointer (some ((⟨g, 0, none⟩ : Addr).add p))) (hsz : sizeIs (a.eval x).cells.toList.length (Γ.size t) = true)
    {cur : Array Value} {e : TypeId} {fz : Nat × Nat} (hg : w.heap[g]? = some (.cells cur e fz)) (hfz : fz = (0, 0) ∨ cur.size ≤ fz.1) (hfit : p + (a.eval x).cells.toList.length ≤ cur.size) (h1 : ∀ u ∈ (a.eval x).cells.toList, u.oneCell' = true) :
    (execOp a.eval o).run P w = .ok .skip (w.setRow g (cur.toList.take p ++ (a.eval x).cells.toList ++ cur.toList.drop (p + (a.eval x).cells.toList.length)).toArray) := by
  have hadd : (⟨g, 0, none⟩ : Addr).add p = ⟨g, p, none⟩ := by unfold Addr.add; split <;> simp_all
  have hst := run_storeCells_row P g p e fz (a.eval x).cells.toList 0 cur w hg hfz (by simpa using hfit) h1; have hs := sizeIs_inv (P := P) (w := w) T hsz; simp only [Nat.add_zero] at hst
  have hs' : (sizeOf t).run P w = .ok (a.eval x).cells.size w := by rw [hs]; simp
  simp only [execOp, ho, Instr.storeAt, Instr.sureAddr, hy, Sem.run_bind, Sem.run_pure, Result.andThen_ok, storeVar, hs', hadd]
  simp [hst]

theorem sound_storeBox (h : RelX K S a w L Bs) (T : TabOK Γ P) {t : TypeId} {x y : Operand} (ho : o.op = .store t y x) {v : Val} (hv : S.val? x = some v) (hsz : sizeIs (llen v.cells) (Γ.size t) = true) {q off : Nat} (hy : S.cell y = .ptr q off) {bt : TypeId} {cs : List Cell} (hq : S.obj q = .box bt cs)
    (hb : Nat.ble (Nat.add off (llen v.cells)) (llen cs) = true) (hk : k ((S.setObj q (.box bt (lapp (ltake off cs) (lapp v.cells (ldrop (Nat.add off (llen v.cells)) cs))))).put o.dst .nix) = some r) : Sound K P o a w k r := by
  have hob := lget_obj hq (by simp); obtain ⟨_, hlt, hp⟩ := h.cell hy (by simp); obtain ⟨b, hL, hpv⟩ := hp bt cs hob; obtain ⟨b', cells, g1, g2, g3, g4, g5⟩ := h.objs.obj q _ hob; rw [hL] at g1; cases g1; have hc := val_cells (h.val hv); obtain ⟨cl, cget⟩ := hc.get
  have hle : off + v.cells.length ≤ cs.length := by have := Nat.le_of_ble_eq_true hb; simp only [llen_eq] at this; exact this
  have hrun := run_storeAt (o := o) (a := a) (w := w) T ho hpv (by rw [cl, ← llen_eq]; exact hsz) g2 (.inl rfl) (by rw [cl, g3]; exact hle) hc.one; generalize (a.eval x).cells.toList = us at hrun hc cl cget
  have hcl : cells.toList.length = cs.length := by simpa using g3
  simp only [lapp_eq, ltake_eq, ldrop_eq, llen_eq] at hk
  have R := h.write (o := q) hlt (w' := w.setRow b (cells.toList.take off ++ us ++ cells.toList.drop (off + us.length)).toArray) (B := [b]) rfl rfl rfl (by simp)
    (fun k hk hn => setRow_other w b k _ (by rw [g4] at hn; simpa using hn)) [] (by simp) (.box bt (cs.take off ++ (v.cells ++ cs.drop (off + v.cells.length))))
    (fun k hk => .inl (by rw [g4]; exact hk)) (by simp) ⟨cs, hob⟩
    (fun objs' own' hc' _ => ⟨b, _, hL, setRow_heap w b cells _ bt (0, 0) g2, by simp; omega, rfl, fun i c u hi hu => by
      rw [List.getElem?_toArray] at hu
      by_cases h1 : i < off
      · rw [List.append_assoc, List.getElem?_append_left (by simp; omega), List.getElem?_take, if_pos h1] at hu
        rw [List.getElem?_append_left (by simp; omega), List.getElem?_take, if_pos h1] at hi; obtain ⟨k1, k2⟩ := g5 i c u hi (by simpa using hu); exact ⟨k1, hc' _ _ k2⟩
      · by_cases h2 : i < off + v.cells.length
        · rw [List.append_assoc, List.getElem?_append_right (by simp; omega), List.getElem?_append_left (by simp; omega)] at hu
          rw [List.getElem?_append_right (by simp; omega), List.getElem?_append_left (by simp; omega)] at hi
          have e1 : i - (cells.toList.take off).length = i - (cs.take off).length := by simp; omega
          rw [e1] at hu; obtain ⟨k1, k2⟩ := cget _ c u hi hu; exact ⟨k1, hc' _ _ k2⟩
        · rw [List.getElem?_append_right (by simp; omega), List.getElem?_drop] at hu
          rw [List.getElem?_append_right (by simp; omega), List.getElem?_append_right (by simp; omega), List.getElem?_drop] at hi
          have e1 : off + us.length + (i - (List.take off cells.toList ++ us).length) = i := by simp at *; omega
          have e2 : off + v.cells.length + (i - (List.take off cs).length - v.cells.length) = i := by simp; omega
          rw [e1] at hu; rw [e2] at hi; obtain ⟨k1, k2⟩ := g5 i c u hi (by simpa using hu)
          exact ⟨k1, hc' _ _ k2⟩⟩)
  refine ⟨_, hk, fun _ _ hn => upon_skip hrun (hn _ _ (RelX.put R o.dst (s := .nix) (v := undef) trivial).rel)⟩

theorem sound_storeRow (h : RelX K S a w L Bs) (T : TabOK Γ P) {t : TypeId} {x y : Operand} (ho : o.op = .store t y x) {v : Val} (hv : S.val? x = some v) (hsz : sizeIs (llen v.cells) (Γ.size t) = true) {q i off : Nat} (hy : S.cell y = .eptr q i off)
    {τ : Ty} {xs : List τ.den} {d : Bool} (hq : S.obj q = .row τ xs d) {vs' : List Cell} {os : List Nat} {b : Bool} (hh : S.hand v.cells = some (vs', os, b)) {z : τ.den} (hz : τ.putAt (xs.getD i τ.dflt) off vs' = some z)
    (hos : yes2 (lnodup os) (bif lhas os q then false else true) = true) (hkk : k (((os.foldl St.kill S).setObj q (.row τ (xs.set i z) (yes2 d b))).put o.dst .nix) = some r) : Sound K P o a w k r := by
  have hob := lget_obj hq (by simp); obtain ⟨_, hlive, hp⟩ := h.cell hy (by simp); have hlt := hlive.lt; obtain ⟨hi, g, cap, hL, hpv⟩ := hp τ xs d (.inl hob); obtain ⟨hn1, hn2⟩ := yes2_true hos; have hnd : os.Nodup := (lnodup_iff os).1 hn1
  have hno : q ∉ os := by intro hm; rw [(lhas_iff os q).2 hm] at hn2; cases hn2
  obtain ⟨css, Fs0, hown, g20, g3⟩ := h.objs.obj q _ hob; have hc := val_cells (h.val hv); obtain ⟨cl, _⟩ := hc.get; obtain ⟨G0, hd0, ho1, ho20, ho30⟩ := hand_spec h _ _ hc _ _ _ hh
  have uni : ∃ (Fs : Nat → List Nat) (G : List Nat), (∀ j x, xs[j]? = some x → (css j).length = τ.sz ∧ ERep (yes2 d b) w τ x (css j) (Fs j)) ∧ DReps (yes2 d b) w vs' (a.eval x).cells.toList G ∧
      (∀ k, k ∈ flatN Fs xs.length → k ∈ flatN Fs0 xs.length) ∧ (∀ k ∈ G, ¬ Forb K S.objs.length Bs k ∨ ∃ o ∈ os, k ∈ Bs o) ∧
      (yes2 d b = true → Bs q = ownBlk (L q) ++ flatN Fs xs.length ∧ (∀ k, k ∈ G → ∃ o ∈ os, k ∈ Bs o) ∧ (os.Nodup → G.Nodup)) := by
    cases hdb : yes2 d b with
    | true =>
      obtain ⟨hd1, hb1⟩ := yes2_true hdb; subst hd1; obtain ⟨G, h5, h6, h7⟩ := ho30 hb1; simp only [if_true] at g3; exact ⟨Fs0, G, g20, h5, fun _ h => h, fun k hk => .inr (h6 k hk), fun _ => ⟨g3, h6, h7⟩⟩
    | false =>
      obtain ⟨Fs, h5, h6, _⟩ := elems_rep g20; exact ⟨Fs, G0, h5, hd0, fun k hk => h6.subset hk, ho20, fun h => by cases h⟩
  obtain ⟨Fs, G, g2, hd, hFF, ho2, ho3⟩ := uni
  have hx : xs[i]? = some (xs.getD i τ.dflt) := by simp [List.getD, List.getElem?_eq_getElem hi]
  obtain ⟨p1, F1, F2, F3, p2, p3⟩ := putAt_spec τ _ _ _ off vs' _ G z hz (g2 i _ hx).2 hd
  have hli : ∀ j, j < xs.length → (css j).length = τ.sz := fun j hj => (g2 j _ (List.getElem?_eq_getElem hj)).1
  rw [hli i hi] at p1
  rcases hown.2 with ⟨hn, _⟩ | ⟨g', cap', cur, e, fz, hv', hg, hfz, hle, hcm, hcs, htk⟩
  · rw [hL] at hn; cases hn
  rw [hL] at hv'; cases hv'
  have hblkL : ownBlk (L q) = [g] := by rw [hL]; rfl
  have hgB : g ∈ Bs q := by
    cases d <;> simp only [Bool.false_eq_true, if_false, if_true] at g3
    · rw [g3.1, hblkL]; simp
    · rw [g3, hblkL]; simp
  have hfull : i * τ.sz + τ.sz ≤ cur.size := by
    rw [hcs, ← Nat.succ_mul]; exact Nat.mul_le_mul_right _ (by omega)
  have hrun := run_storeAt (o := o) (a := a) (w := w) T ho hpv (by rw [cl, ← llen_eq]; exact hsz) hg hfz (by omega) hc.one; have h1 := hc.one; generalize (a.eval x).cells.toList = us at hrun hc cl hd p1 p3 h1; have hBn : (Bs q).Nodup := flatN_nodup_at h.objs.nodup hlt
  have hdis : ∀ j, j < S.objs.length → q ≠ j → ∀ k, k ∈ Bs q → k ∉ Bs j := fun j hj hne k => flatN_disj h.objs.nodup hlt hj hne k
  have hFg : ∀ j, j < xs.length → ∀ k ∈ Fs j, k ≠ g := by
    intro j hj k hk e; subst e; have hkf : k ∈ flatN Fs0 xs.length := hFF k (mem_flatN.2 ⟨j, hj, hk⟩); cases d <;> simp only [Bool.false_eq_true, if_false, if_true] at g3
    · exact g3.2 k hkf (.inl (mem_flatN.2 ⟨q, hlt, hgB⟩))
    · rw [g3, hblkL] at hBn
      exact (List.nodup_append.1 hBn).2.2 k (by simp) k hkf rfl
  have hGg : ∀ k ∈ G, k ≠ g := by
    intro k hk e; subst e
    rcases ho2 k hk with h4 | ⟨q', h4, h5⟩
    · exact h4 (.inl (mem_flatN.2 ⟨q, hlt, hgB⟩))
    · obtain ⟨_, _, _, h6⟩ := ho1 q' h4
      exact hdis q' (List.getElem?_eq_some_iff.1 h6).1 (by rintro rfl; exact hno h4) k hgB h5
  let Fs' := upd Fs i (F1 ++ G ++ F3)
  let css' := upd css i ((css i).take off ++ us ++ (css i).drop (off + us.length))
  have hFs' : ∀ k, k ∈ flatN Fs' xs.length → (k ∈ flatN Fs xs.length) ∨ k ∈ G := by
    intro k hk; obtain ⟨j, hj, hk⟩ := mem_flatN.1 hk
    by_cases hji : j = i
    · subst hji
      rw [show Fs' j = F1 ++ G ++ F3 from upd_same _ _ _] at hk
      rcases List.mem_append.1 hk with hk | hk
      · rcases List.mem_append.1 hk with hk | hk
        · exact .inl (mem_flatN.2 ⟨j, hj, by rw [p2]; simp [hk]⟩)
        · exact .inr hk
      · exact .inl (mem_flatN.2 ⟨j, hj, by rw [p2]; simp [hk]⟩)
    · rw [show Fs' j = Fs j from upd_ne _ _ _ hji] at hk
      exact .inl (mem_flatN.2 ⟨j, hj, hk⟩)
  have hlen' : (xs.set i z).length = xs.length := by simp
  have R := h.write (o := q) hlive (w' := w.setRow g (cur.toList.take (i * τ.sz + off) ++ us ++ cur.toList.drop (i * τ.sz + off + us.length)).toArray) (B := if yes2 d b then [g] ++ flatN Fs' xs.length else [g]) rfl rfl rfl (by simp)
    (fun k hk hn => setRow_other w g k _ (by rintro rfl; exact hn hgB)) os hno (.row τ (xs.set i z) (yes2 d b))
    (by
      intro k hk; cases hdb : yes2 d b <;> rw [hdb] at hk <;> simp only [Bool.false_eq_true, if_false, if_true] at hk
      · exact .inl (by simp at hk; subst hk; exact hgB)
      · obtain ⟨g3e, h5, _⟩ := ho3 hdb
        rcases List.mem_append.1 hk with hk | hk
        · exact .inl (by simp at hk; subst hk; exact hgB)
        · rcases hFs' k hk with h4 | h4
          · exact .inl (by rw [g3e]; exact List.mem_append_right _ h4)
          · obtain ⟨q', h6, h7⟩ := h5 k h4
            obtain ⟨_, _, _, h8⟩ := ho1 q' h6
            exact .inr (.inl ⟨q', h6, (List.getElem?_eq_some_iff.1 h8).1, h7⟩))
    (by
      cases hdb : yes2 d b <;> simp only [Bool.false_eq_true, if_false, if_true]
      · simp
      · obtain ⟨g3e, h5, h6⟩ := ho3 hdb
        have hFn : (flatN Fs xs.length).Nodup := by rw [g3e] at hBn; exact (List.nodup_append.1 hBn).2.1
        have hFG : ∀ k, k ∈ flatN Fs xs.length → k ∉ G := by
          intro k hk hkG; obtain ⟨q', h7, h8⟩ := h5 k hkG; obtain ⟨_, _, _, h9⟩ := ho1 q' h7; exact hdis q' (List.getElem?_eq_some_iff.1 h9).1 (by rintro rfl; exact hno h7) k (by rw [g3e]; exact List.mem_append_right _ hk) h8
        refine List.nodup_append.2 ⟨by simp, ?_, fun k hk k' hk' e => ?_⟩
        · refine flatN_nodup (fun j hj => ?_) (fun j l hj hl hjl k hk hk' => ?_)
          · by_cases hji : j = i
            · subst hji
              rw [show Fs' j = F1 ++ G ++ F3 from upd_same _ _ _]; have hfj := flatN_nodup_at hFn hj
              have hm : ∀ k, k ∈ Fs j → k ∉ G := fun k hk => hFG k (mem_flatN.2 ⟨j, hj, hk⟩)
              rw [p2] at hfj hm; obtain ⟨n1, n2, n3⟩ := List.nodup_append.1 hfj; obtain ⟨n4, n5, n6⟩ := List.nodup_append.1 n1; refine List.nodup_append.2 ⟨List.nodup_append.2 ⟨n4, h6 hnd, fun k hk k' hk' e => ?_⟩, n2, fun k hk k' hk' e => ?_⟩
              · subst e; exact hm k (by simp [hk]) hk'
              · subst e
                rcases List.mem_append.1 hk with hk | hk
                · exact n3 k (by simp [hk]) k hk' rfl
                · exact hm k (by simp [hk']) hk
            · rw [show Fs' j = Fs j from upd_ne _ _ _ hji]
              exact flatN_nodup_at hFn hj
          · have key : ∀ j, j < xs.length → j ≠ i → ∀ k, k ∈ Fs j → k ∉ F1 ++ G ++ F3 := by
              intro j hj hji k hk hk'
              rcases List.mem_append.1 hk' with hk' | hk'
              · rcases List.mem_append.1 hk' with hk' | hk'
                · exact flatN_disj hFn hj hi hji k hk (by rw [p2]; simp [hk'])
                · exact hFG k (mem_flatN.2 ⟨j, hj, hk⟩) hk'
              · exact flatN_disj hFn hj hi hji k hk (by rw [p2]; simp [hk'])
            by_cases hji : j = i
            · subst hji
              rw [show Fs' j = F1 ++ G ++ F3 from upd_same _ _ _] at hk; rw [show Fs' l = Fs l from upd_ne _ _ _ (Ne.symm hjl)] at hk'; exact key l hl (Ne.symm hjl) k hk' hk
            · rw [show Fs' j = Fs j from upd_ne _ _ _ hji] at hk
              by_cases hli : l = i
              · subst hli
                rw [show Fs' l = F1 ++ G ++ F3 from upd_same _ _ _] at hk'; exact key j hj hji k hk hk'
              · rw [show Fs' l = Fs l from upd_ne _ _ _ hli] at hk'
                exact flatN_disj hFn hj hl hjl k hk hk'
        · subst e
          simp at hk
          subst hk
          rcases hFs' k hk' with h7 | h7
          · obtain ⟨j, hj, hk⟩ := mem_flatN.1 h7
            exact hFg j hj k hk rfl
          · exact hGg k h7 rfl)
    ⟨xs, d, hob, by simp⟩
    (fun objs' own' hc' ho' => by
      have hmono : ∀ b, b ≠ g → (w.setRow g (cur.toList.take (i * τ.sz + off) ++ us ++ cur.toList.drop (i * τ.sz + off + us.length)).toArray).heap[b]? = w.heap[b]? := fun b hb => setRow_other w g b _ hb
      refine ⟨css', Fs', ⟨?_, .inr ⟨g, cap, _, e, fz, ?_, setRow_heap w g cur _ e fz hg, ?_, ?_, hcm, ?_, ?_⟩⟩, fun j u hu => ?_, ?_⟩
      · rw [hlen', flatN_len (sz := τ.sz)]
        intro j hj
        show (upd css i _ j).length = τ.sz
        unfold upd; split
        · have := hli i hi
          simp; omega
        · exact hli j hj
      · rw [hlen']; exact hL
      · refine hfz.imp id (fun hf => ?_)
        simp
        omega
      · rw [hlen']; exact hle
      · simp; omega
      · rw [hlen']
        show _ = flatN (upd css i _) xs.length
        rw [← flatN_upd hli hi p1 cur.toList htk (by simp; rw [hcs]; exact Nat.mul_le_mul_right _ hle)]
      · by_cases hji : j = i
        · subst hji
          rw [List.getElem?_set_self hi] at hu; cases hu; rw [show Fs' j = F1 ++ G ++ F3 from upd_same _ _ _, show css' j = _ from upd_same _ _ _]
          refine ⟨by have := hli j hi; simp; omega, ERep.mono p3 (fun k hk => hmono k ?_)⟩
          rcases List.mem_append.1 hk with hk | hk
          · rcases List.mem_append.1 hk with hk | hk
            · exact hFg j hi k (by rw [p2]; simp [hk])
            · exact hGg k hk
          · exact hFg j hi k (by rw [p2]; simp [hk])
        · rw [List.getElem?_set_ne (Ne.symm hji)] at hu
          have hj : j < xs.length := (List.getElem?_eq_some_iff.1 hu).1; rw [show Fs' j = Fs j from upd_ne _ _ _ hji, show css' j = css j from upd_ne _ _ _ hji]; exact ⟨(g2 j u hu).1, ERep.mono (g2 j u hu).2 (fun k hk => hmono k (hFg j hj k hk))⟩
      · rw [hlen', hblkL]
        cases hdb : yes2 d b <;> simp only [Bool.false_eq_true, if_false, if_true]
        · refine ⟨trivial, fun k hk hown' => ?_⟩
          have hown2 := ho' _ hown'; rw [hdb] at hown2; simp only [Bool.false_eq_true, if_false] at hown2
          have hkq : k ∈ flatN Fs xs.length → (k ∈ Bs q ∨ ¬ Forb K S.objs.length Bs k) := by
            intro h4; cases d <;> simp only [Bool.false_eq_true, if_false, if_true] at g3
            · exact .inr (g3.2 k (hFF k h4))
            · exact .inl (by rw [g3]; exact List.mem_append_right _ (hFF k h4))
          rcases hFs' k hk with h4 | h4
          · rcases hown2 with h5 | ⟨q', h5, h6, _, h7⟩ | hU
            · simp at h5
              obtain ⟨j, hj, hk'⟩ := mem_flatN.1 h4; exact hFg j hj k hk' h5
            · rcases hkq h4 with h8 | h8
              · exact hdis q' h5 (Ne.symm h6) k h8 h7
              · exact h8 (.inl (mem_flatN.2 ⟨q', h5, h7⟩))
            · rcases hkq h4 with h8 | h8
              · exact h.seen (mem_flatN.2 ⟨q, hlt, h8⟩) hU
              · exact h8 (.inr hU)
          · rcases hown2 with h5 | ⟨q', h5, h6, h8, h7⟩ | hU
            · simp at h5
              exact hGg k h4 h5
            · rcases ho2 k h4 with h9 | ⟨q2, h9, h10⟩
              · exact h9 (.inl (mem_flatN.2 ⟨q', h5, h7⟩))
              · obtain ⟨_, _, _, h11⟩ := ho1 q2 h9
                exact flatN_disj h.objs.nodup (List.getElem?_eq_some_iff.1 h11).1 h5 (by rintro rfl; exact h8 h9) k h10 h7
            · rcases ho2 k h4 with h9 | ⟨q2, h9, h10⟩
              · exact h9 (.inr hU)
              · obtain ⟨_, _, _, h11⟩ := ho1 q2 h9
                exact h.seen (mem_flatN.2 ⟨q2, (List.getElem?_eq_some_iff.1 h11).1, h10⟩) hU
        )
  refine ⟨_, hkk, fun _ _ hn => upon_skip hrun (hn _ _ (RelX.put R o.dst (s := .nix) (v := undef) trivial).rel)⟩
end
end Go.Proofs.GR

namespace Go.Proofs.GR

section
variable {K : Start} {P : Program} {Γ : Tab} {o : Oper} {S : St} {a : Act} {w : World} {L : Nat → Value} {Bs : Nat → List Nat} {ρ : Type} {k : St → Option ρ} {r : ρ}

theorem flatN_nil {α : Type} (n : Nat) : flatN (fun _ => ([] : List α)) n = [] := by simp [flatN]

structure Row (w : World) (t : Ty) (xs : List t.den) (v : Value) (css : Nat → List Value) (Fs : Nat → List Nat) : Prop where
  ex : ∃ A cap, v = .slice A xs.length cap ∧ xs.length ≤ cap ∧ cap ≤ maxLen ∧ (A = none → xs = []) ∧ ∀ ad, A = some ad → ∀ j u, (flatN css xs.length)[j]? = some u → w.cell? (ad.add j) = some u
  elem : ∀ i x, xs[i]? = some x → (css i).length = t.sz ∧ Rep w t x (css i) (Fs i)

theorem cellsAt_flat {t : Ty} {n : Nat} {css : Nat → List Value} {ad : Addr} (hl : ∀ i, i < n → (css i).length = t.sz) (h : ∀ i, i < n → CellsAt w (ad.add (i * t.sz)) (css i)) : ∀ j u, (flatN css n)[j]? = some u → w.cell? (ad.add j) = some u := by
  intro m u hm
  have hlt : m < n * t.sz := by rw [← flatN_len n hl]; exact (List.getElem?_eq_some_iff.1 hm).1
  have hsz : 0 < t.sz := by
    rcases Nat.eq_zero_or_pos t.sz with h | h
    · rw [h] at hlt; simp at hlt
    · exact h
  have hdm : m = m / t.sz * t.sz + m % t.sz := by rw [Nat.mul_comm]; exact (Nat.div_add_mod m t.sz).symm
  have hj : m % t.sz < t.sz := Nat.mod_lt _ hsz; have hq : m / t.sz < n := Nat.div_lt_of_lt_mul (by rwa [Nat.mul_comm]); generalize m / t.sz = q at hdm hq; generalize m % t.sz = j at hdm hj; subst hdm; rw [flatN_at n hl q j hq hj] at hm; rw [← add_add]; exact h q hq j u hm

theorem row_src' (h : RelX K S a w L Bs) {c : Cell} {v : Value} (hc : CellRep w S.objs L (Forb K S.objs.length Bs) c v) {t : Ty} {xs : List t.den} (hr : S.rowOf c = some ⟨t, xs⟩) : ∃ css Fs, Row w t xs v css Fs ∧
    (∀ q, c = .own q → ∃ d Gs, S.objs[q]? = some (.row t xs d) ∧ (∀ i x, xs[i]? = some x → (css i).length = t.sz ∧ ERep d w t x (css i) (Gs i)) ∧ if d then Bs q = ownBlk (L q) ++ flatN Gs xs.length else Bs q = ownBlk (L q) ∧ ∀ k ∈ flatN Gs xs.length, ¬ Forb K S.objs.length Bs k) ∧ ((∃ t' x, c = .dat t' x) → ∀ k ∈ flatN Fs xs.length, ¬ Forb K S.objs.length Bs k) := by
  unfold St.rowOf at hr; split at hr
  · rename_i t' xs'
    cases hr; obtain ⟨F, hrep, hFo⟩ := hc; obtain ⟨A, cap, hv, row⟩ := hrep; have hv' := (List.cons.inj hv).1
    cases A with
    | none =>
      obtain ⟨h1, h2, _⟩ := row.nil rfl; refine ⟨fun _ => [], fun _ => [], ⟨⟨none, cap, hv', row.le, row.cap, fun _ => h1, fun ad had => by cases had⟩, fun i x hi => by rw [h1] at hi; simp at hi⟩, (fun q hq => by cases hq), fun _ k hk => by rw [flatN_nil] at hk; simp at hk⟩
    | some ad =>
      obtain ⟨css, Fs, hFe, hall⟩ := row.some_ ad rfl; refine ⟨css, Fs, ⟨⟨some ad, cap, hv', row.le, row.cap, (fun hn => by cases hn), fun ad' had => ?_⟩, fun i x hi => ⟨(hall i x hi).2.1, (hall i x hi).2.2⟩⟩, (fun q hq => by cases hq), fun _ k hk => hFo k (by rw [hFe]; exact List.mem_append_right _ hk)⟩; cases had; exact cellsAt_flat (fun i hi => (hall i _ (List.getElem?_eq_getElem hi)).2.1) (fun i hi => (hall i _ (List.getElem?_eq_getElem hi)).1)
  · rename_i q
    split at hr
    · rename_i t' xs' d hq
      cases hr; have hob := lget_obj hq (by simp); have hv := hc.2 _ _ _ (.inl hob); obtain ⟨css, Gs, hown, g20, g3⟩ := h.objs.obj q _ hob; obtain ⟨Fs, g2, _, _, _⟩ := elems_rep g20
      refine ⟨css, Fs, ⟨?_, g2⟩, (fun q' hq' => by cases hq'; exact ⟨d, Gs, hob, g20, g3⟩), fun hd => by obtain ⟨_, _, hd⟩ := hd; cases hd⟩
      rw [hv]
      rcases hown.2 with ⟨hn, hx⟩ | ⟨g, cap, cur, e, fz, hv', hg, hfz, hle, hcm, hcs, htk⟩
      · rw [hn, hx]
        exact ⟨none, 0, rfl, Nat.le_refl _, by simp [maxLen], fun _ => List.eq_nil_of_length_eq_zero hx, fun ad had => by cases had⟩
      · rw [hv']
        refine ⟨some ⟨g, 0, none⟩, cap, rfl, hle, hcm, (fun hn => by cases hn), fun ad had => ?_⟩; cases had; exact hown.cells (by rw [hv']; rfl)
    · cases hr
  · rename_i q lo n
    split at hr
    · rename_i t' xs' d hq
      cases hr; have hob := lget_obj hq (by simp); obtain ⟨h1, A, cap, hv, h2, h3, h4, h5⟩ := hc.2 _ _ _ (.inl hob)
      have hlen : ((xs'.drop lo).take n).length = n := by simp; omega
      obtain ⟨css, Gs, hown, g20, _⟩ := h.objs.obj q _ hob; obtain ⟨Fs, g2, _, _, _⟩ := elems_rep g20
      refine ⟨fun i => css (lo + i), fun i => Fs (lo + i), ⟨?_, fun i x hi => ?_⟩, (fun q' hq' => by cases hq'), fun hd => by obtain ⟨_, _, hd⟩ := hd; cases hd⟩
      · rw [hv, hlen]
        refine ⟨A, cap, rfl, h2, h3, fun hn => ?_, fun ad had => ?_⟩
        · have : n = 0 := by
            rcases Nat.eq_zero_or_pos n with h | h
            · exact h
            · obtain ⟨g, c', _, hA, _⟩ := h5 h
              rw [hn] at hA; cases hA
          exact List.eq_nil_of_length_eq_zero (by omega)
        · have hl : ∀ i, i < xs'.length → (css i).length = t.sz := fun i hi => (g2 i _ (List.getElem?_eq_getElem hi)).1
          refine cellsAt_flat (t := t) (fun i hi => hl _ (by omega)) (fun i hi => ?_)
          obtain ⟨g, c', hL, hA, _⟩ := h5 (by omega); rw [had] at hA; cases hA; rw [add_add, ← Nat.add_mul]; intro j u hj
          have hjl : j < t.sz := by rw [← hl (lo + i) (by omega)]; exact (List.getElem?_eq_some_iff.1 hj).1
          rw [add_add]; refine OwnRow.cells hown (by rw [hL]; rfl) _ _ ?_; rw [flatN_at _ hl (lo + i) j (by omega) hjl]; exact hj
      · rw [List.getElem?_take] at hi
        split at hi
        · rw [List.getElem?_drop] at hi
          exact g2 _ x hi
        · cases hi
    · cases hr
  · cases hr

theorem row_src (h : RelX K S a w L Bs) {c : Cell} {v : Value} (hc : CellRep w S.objs L (Forb K S.objs.length Bs) c v) {t : Ty} {xs : List t.den} (hr : S.rowOf c = some ⟨t, xs⟩) : ∃ css Fs, Row w t xs v css Fs := by
  obtain ⟨css, Fs, h1, _⟩ := row_src' h hc hr; exact ⟨css, Fs, h1⟩

theorem foldl_push_ints : ∀ (xs : List Int) (r : ByteArray), xs.foldl (fun r n => r.push (UInt8.ofNat n.toNat)) r = ⟨r.data ++ (xs.map fun n => UInt8.ofNat n.toNat).toArray⟩
  | [], r => by simp
  | b :: l, r => by
    simp only [List.foldl_cons, List.map_cons]; rw [foldl_push_ints l]
    simp [ByteArray.push]

theorem row_bytes {xs : List Int} {k : IntKind} {css : Nat → List Value} {Fs : Nat → List Nat} (h : ∀ i x, xs[i]? = some x → (css i).length = (Ty.int k).sz ∧ Rep w (.int k) x (css i) (Fs i)) : flatN css xs.length = xs.map (.int k) := by
  have hl : ∀ i, i < xs.length → (css i).length = 1 := fun i hi => (h i _ (List.getElem?_eq_getElem hi)).1
  apply List.ext_getElem?; intro m
  by_cases hm : m < xs.length
  · have := flatN_at (sz := 1) xs.length hl m 0 hm (by omega)
    simp only [Nat.mul_one, Nat.add_zero] at this; rw [this, (h m _ (List.getElem?_eq_getElem hm)).2.1]
    simp [hm]
  · rw [List.getElem?_eq_none, List.getElem?_eq_none]
    · simpa using hm
    · rw [flatN_len (sz := 1) _ hl]; omega

theorem sound_toStr (h : RelX K S a w L Bs) (T : TabOK Γ P) {s t e : TypeId} {x : Operand} (ho : o.op = .convert s t x) (hs : Γ.und s = some (.slice e)) (he : Γ.und e = some (.int .u8)) (ht : Γ.und t = some .string) {c : Cell} (hx : S.cell x = c) {xs : List Int} (hr : S.rowOf c = some ⟨.int .u8, xs⟩)
    (hk : k (S.put o.dst (.val (.one (.dat .str (bytesStr xs))))) = some r) : Sound K P o a w k r := by
  have hne : c ≠ .nix := by rintro rfl; cases hr
  obtain ⟨css, Fs, ⟨A, cap, hv, hle, hcm, hn, hc⟩, helem⟩ := row_src h (h.cell hx hne).2 hr
  refine sound_pure h (s := .val (.one (.dat .str (bytesStr xs)))) (v := .string (bytesStr xs)) (strCell _) ?_ hk
  have hcv := run_convert_bytes_string (P := P) w s t e A xs.length cap (T.und _ _ hs) (T.und _ _ he) (T.und _ _ ht); have hb := row_bytes helem
  have hconv : (Conv.bytesToString (.slice A xs.length cap)).run P w = .ok (.string (bytesStr xs)) w := by
    cases A with
    | none =>
      have : xs = [] := hn rfl; subst this; rfl
    | some ad =>
      have hl := run_loadCells_list (P := P) (w := w) ad (xs.map (Value.int .u8)) (by rw [← hb]; exact hc ad rfl); simp only [List.length_map] at hl; rw [run_bytesToString w ad xs.length cap xs hl, foldl_push_ints]; have he0 : ByteArray.empty.data = #[] := rfl; rw [he0]
      simp [bytesStr]
  have hv' : a.eval x = .slice A xs.length cap := hv; simp only [execOp, ho, hv', Sem.run_bind, hcv, hconv, Result.andThen_ok, Sem.run_pure]

theorem strBytes_len (s : ByteArray) : (strBytes s).length = s.size := by
  simp only [strBytes, List.length_map, Array.length_toList]; rfl

theorem RelX.newRow (h : RelX K S a w L Bs) {w' : World} (hg : w.grownBy w' none) (os : List Nat) (t : Ty) (xs : List t.den) (d : Bool) (cap : Nat) (cur : Array Value) (e : TypeId) (fz : Nat × Nat) (css : Nat → List Value) (Fs : Nat → List Nat)
    (hb : w'.heap[w.heap.size]? = some (.cells cur e fz)) (hfz : fz = (0, 0) ∨ cur.size ≤ fz.1) (hle : xs.length ≤ cap) (hcm : cap ≤ maxLen) (hcs : cur.size = cap * t.sz) (htk : cur.toList.take (xs.length * t.sz) = flatN css xs.length)
    (helem : ∀ i x, xs[i]? = some x → (css i).length = t.sz ∧ ERep d w t x (css i) (Fs i))
    (hF : ∀ k ∈ flatN Fs xs.length, ¬ Forb K S.objs.length Bs k ∨ ∃ q ∈ os, q < S.objs.length ∧ k ∈ Bs q)
    (hd : d = true → (∀ k ∈ flatN Fs xs.length, ∃ q ∈ os, q < S.objs.length ∧ k ∈ Bs q) ∧ (flatN Fs xs.length).Nodup) {m : Nat} (hm : isFree S.objs m = true) (dst : Option Tmp) :
    ∃ L' Bs', RelX K (((os.foldl St.kill S).place m (.row t xs d)).put dst (.val (.one (.own m)))) (a.put dst (.slice (some ⟨w.heap.size, 0, none⟩) xs.length cap)) w' L' Bs' := by
  have hsz : w.heap.size < w'.heap.size := (Array.getElem?_eq_some_iff.1 hb).1
  have hFl : ∀ k ∈ flatN Fs xs.length, k < w.heap.size := by
    intro k hk; obtain ⟨i, hi, hk⟩ := mem_flatN.1 hk; exact ERep.lt (helem i _ (List.getElem?_eq_getElem hi)).2 k hk
  obtain ⟨L', Bs', R, hL, hlive⟩ := h.take (w' := w') (B := if d then w.heap.size :: flatN Fs xs.length else [w.heap.size]) hg.os hg.tape hg.output hg.size os (fun b hb' _ => hg.block b hb' (by simp)) m hm (.row t xs d) rfl (.slice (some ⟨w.heap.size, 0, none⟩) xs.length cap)
    (by
      intro k hk; cases d <;> simp only [Bool.false_eq_true, if_false, if_true] at hk
      · simp at hk; subst hk; exact .inr ⟨Nat.le_refl _, hsz⟩
      · rcases List.mem_cons.1 hk with rfl | hk
        · exact .inr ⟨Nat.le_refl _, hsz⟩
        · exact .inl ((hd rfl).1 k hk))
    (by
      cases d <;> simp only [Bool.false_eq_true, if_false, if_true]
      · simp
      · refine List.nodup_cons.2 ⟨fun hm => ?_, (hd rfl).2⟩
        have := hFl _ hm
        omega)
    (fun objs' L' own' hc' hL' ho' => by
      have hmono : ∀ b, b < w.heap.size → w'.heap[b]? = w.heap[b]? := fun b hb => hg.block b hb (by simp)
      refine ⟨css, Fs, ⟨?_, .inr ⟨w.heap.size, cap, cur, e, fz, hL', hb, hfz, hle, hcm, hcs, htk⟩⟩, fun i x hi => ⟨(helem i x hi).1, ERep.mono (helem i x hi).2 (fun k hk => hmono k (ERep.lt (helem i x hi).2 k hk))⟩, ?_⟩
      · exact flatN_len _ (fun i hi => (helem i _ (List.getElem?_eq_getElem hi)).1)
      · rw [hL']
        cases d <;> simp only [Bool.false_eq_true, if_false, if_true]
        · refine ⟨rfl, fun k hk hown => ?_⟩
          have hkl := hFl k hk
          rcases ho' _ hown with h1 | ⟨q, h1, h2, h3⟩ | hU
          · simp at h1; omega
          · rcases hF k hk with h4 | ⟨q', h4, h5, h6⟩
            · exact h4 (.inl (mem_flatN.2 ⟨q, h1, h3⟩))
            · exact flatN_disj h.objs.nodup h1 h5 (by rintro rfl; exact h2 h4) k h3 h6
          · rcases hF k hk with h4 | ⟨q', h4, h5, h6⟩
            · exact h4 (.inr hU)
            · exact h.seen (mem_flatN.2 ⟨q', h5, h6⟩) hU
        · rfl)
  exact ⟨L', Bs', RelX.put R dst (s := .val (.one (.own m))) ⟨rfl, hlive, fun t xs d hx => hL.symm⟩⟩

theorem sound_toBytes (h : RelX K S a w L Bs) (T : TabOK Γ P) {s t e : TypeId} {x : Operand} (ho : o.op = .convert s t x) {ds : TypeDesc} (hs : Γ.und s = some ds) (ht : Γ.und t = some (.slice e)) (he : Γ.und e = some (.int .u8)) {b : ByteArray} (hx : S.cell x = .dat .str b)
    (hb : b.size ≤ 9223372036854775807) {m : Nat} (hm : isFree S.objs m = true) (hk : k ((S.place m (.row (.int .u8) (strBytes b) true)).put o.dst (.val (.one (.own m)))) = some r) : Sound K P o a w k r := by
  have e2 := str_inv (h.cell hx (by simp)).2; have hrun := Lib.run_convert_string_bytes (P := P) w s t e b (T.und _ _ hs) (T.und _ _ ht) (T.und _ _ he); have hlen := strBytes_len b; have hge := grownCap_ge w b.size 0 e; have hcm : grownCap w b.size 0 e ≤ maxLen := grownCap_le_maxLen w b.size 0 e (by simp only [maxLen]; omega)
  have hcells : (Lib.bytesCells w e b).toList.take b.size = (strBytes b).map (.int .u8) := by
    unfold Lib.bytesCells strBytes; have hbs : b.data.size = b.size := rfl; rw [Array.toList_append, List.take_append_of_le_length (by simp [hbs])]; rw [List.take_of_length_le (by simp [hbs])]
    simp [List.map_map]
  have hcs : (Lib.bytesCells w e b).size = grownCap w b.size 0 e := by
    have : b.data.size = b.size := rfl
    simp [Lib.bytesCells]
    omega
  generalize strBytes b = xs at hk hlen hcells
  have hfl : flatN (fun i => [Value.int .u8 (xs.getD i 0)]) xs.length = xs.map (.int .u8) := by
    refine row_bytes (w := w) (Fs := fun _ => []) (fun i x hi => ⟨rfl, ?_, rfl⟩)
    show [Value.int .u8 (xs[i]?.getD 0)] = _
    rw [show xs[i]? = some x from hi]; rfl
  obtain ⟨L', Bs', R⟩ := h.newRow (w' := Lib.bytesWorld w e b) ⟨rfl, rfl, rfl, by rw [Lib.bytesWorld_size]; omega, fun k hk _ => Lib.bytesWorld_at_old w e b k hk⟩ [] (.int .u8) xs true (grownCap w b.size 0 e) (Lib.bytesCells w e b) e _ (fun i => [.int .u8 (xs.getD i 0)]) (fun _ => [])
    (Lib.bytesWorld_at_new w e b) (.inr (Nat.le_refl _)) (by show List.length (α := Int) xs ≤ _; omega) hcm (by rw [hcs]; simp [Ty.sz]) (by show List.take (List.length (α := Int) xs * 1) _ = flatN _ (List.length (α := Int) xs); rw [hfl, hlen, Nat.mul_one, hcells])
    (fun i x hi => ⟨rfl, by
      show [Value.int .u8 (xs[i]?.getD 0)] = _
      rw [show xs[i]? = some x from hi]
      rfl, rfl⟩) (by simp [flatN_nil]) (fun _ => by simp [flatN_nil]) hm o.dst
  refine ⟨_, hk, fun _ _ hn => upon_value (w' := Lib.bytesWorld w e b) (v := .slice (some ⟨w.heap.size, 0, none⟩) (List.length (α := Int) xs) (grownCap w b.size 0 e)) ?_ (hn _ _ R.rel)⟩
  rw [hlen]; simp only [execOp, ho, e2, Sem.run_bind, hrun, Result.andThen_ok, Sem.run_pure]

theorem sound_convMark (h : RelX K S a w L Bs) (T : TabOK Γ P) {t e : TypeId} {x : Operand} (ho : o.op = .convert t t x) (ht : Γ.und t = some (.slice e)) (he : Γ.und e = some (.int .u8)) {q : Nat} (hx : S.cell x = .own q) {y : (Ty.int .u8).den} {ys : List (Ty.int .u8).den} {d : Bool}
    (hq : S.obj q = .row (.int .u8) (y :: ys) d) (hk : k (S.put o.dst (.val (.one (.own q)))) = some r) : Sound K P o a w k r := by
  have hob := lget_obj hq (by simp); obtain ⟨_, hlive, hval⟩ := h.cell hx (by simp); have hv : a.eval x = L q := hval _ _ _ (.inl hob); obtain ⟨css, Fs, ⟨hl1, hown⟩, h2, h3⟩ := h.objs.obj q _ hob
  rcases hown with ⟨_, hz⟩ | ⟨g, cap, cur, eo, fz, hL, hg, hfz, hle, hcm, hcs, htk⟩
  · simp at hz
  have hgl : g < w.heap.size := (Array.getElem?_eq_some_iff.1 hg).1
  let w' := w.freeze ⟨g, cur.size, none⟩ 1
  have hw' : w'.heap = w.heap.modify g fun
      | .cells c elem (lo, hi) => .cells c elem (if lo == hi then (cur.size, cur.size + 1) else (min lo cur.size, max hi (cur.size + 1)))
      | o => o := by
    simp only [w', World.freeze]; rw [if_neg (by decide)]; rfl
  obtain ⟨lo, hi⟩ := fz
  have hg' : ∃ fz', w'.heap[g]? = some (.cells cur eo fz') ∧ cur.size ≤ fz'.1 := by
    refine ⟨if lo == hi then (cur.size, cur.size + 1) else (min lo cur.size, max hi (cur.size + 1)), ?_, ?_⟩
    · rw [hw', Array.getElem?_modify, if_pos rfl, hg]
      rfl
    · split
      · exact Nat.le_refl _
      · rename_i hne
        rcases hfz with hfz | hfz
        · simp only [Prod.mk.injEq] at hfz
          rw [hfz.1, hfz.2] at hne; exact absurd rfl hne
        · simp only at hfz ⊢
          omega
  have hother : ∀ b, b ≠ g → w'.heap[b]? = w.heap[b]? := by
    intro b hb; rw [hw', Array.getElem?_modify, if_neg (Ne.symm hb)]
  have hF : flatN Fs (y :: ys).length = [] := by
    apply List.eq_nil_iff_forall_not_mem.2; intro b hb; obtain ⟨i, hi, hbi⟩ := mem_flatN.1 hb; have := (ERep.unflat rfl (h2 i _ (List.getElem?_eq_getElem hi)).2).2; rw [this] at hbi
    simp at hbi
  have hBq : Bs q = [g] := by
    cases d <;> simp only [Bool.false_eq_true, if_false, if_true] at h3
    · rw [h3.1, hL]; rfl
    · rw [h3, hF, hL]; rfl
  obtain ⟨fz', hg1, hg2⟩ := hg'
  have R := h.write (o := q) hlive (w' := w') (B := Bs q) (by simp only [w', World.freeze]; rw [if_neg (by decide)]) (by simp only [w', World.freeze]; rw [if_neg (by decide)]) (by simp only [w', World.freeze]; rw [if_neg (by decide)]) (by rw [hw']; simp)
    (fun b _ hb => hother b (fun e => hb (by rw [hBq, e]; simp))) [] (by simp) (.row (.int .u8) (y :: ys) d) (fun b hb => .inl hb) (flatN_nodup_at h.objs.nodup hlive.lt) ⟨_, _, hob, rfl⟩
    (fun objs' own' _ _ => by
      refine ⟨css, Fs, ⟨hl1, .inr ⟨g, cap, cur, eo, fz', hL, hg1, .inr hg2, hle, hcm, hcs, htk⟩⟩, fun i x hi => ⟨(h2 i x hi).1, ERep.flat rfl (show Rep w' (.int .u8) x (css i) (Fs i) from ERep.unflat (w := w) rfl (h2 i x hi).2)⟩, ?_⟩
      cases d <;> simp only [Bool.false_eq_true, if_false, if_true] at h3 ⊢
      · refine ⟨h3.1, fun b hb _ => ?_⟩
        rw [hF] at hb
        simp at hb
      · exact h3)
  have hS : ([].foldl St.kill S).setObj q (.row (.int .u8) (y :: ys) d) = S := by
    simp only [List.foldl_nil, St.setObj, lset_eq]
    have : S.objs.set q (.row (.int .u8) (y :: ys) d) = S.objs := by
      apply List.ext_getElem?; intro i
      by_cases hi : q = i
      · subst hi
        rw [List.getElem?_set_self hlive.lt, hob]
      · rw [List.getElem?_set_ne hi]
    rw [this]
  rw [hS] at R
  have hsh : w.shape? g = some (eo, cur.size) := by
    unfold World.shape?; rw [hg]
  refine ⟨_, hk, fun _ _ hn => upon_value (w' := w') (v := L q) ?_ (hn _ _ (R.put o.dst (s := .val (.one (.own q))) (v := L q) ⟨by rw [hL]; rfl, hlive, fun _ _ _ _ => rfl⟩).rel)⟩
  simp [execOp, ho, hv, hL, convert, run_underlying (T.und _ _ ht), run_underlying (T.und _ _ he), markStringish, hsh]
  rfl

theorem zero_rep {t : TypeId} (T : TabOK Γ P) {τ : Ty} {x : τ.den} (hz : zeroOf Γ t = some ⟨τ, x⟩) : ∃ z n b i, Γ.info t = some (z, n, b) ∧ P.info? t = some i ∧ i.zero = some z ∧ i.size = τ.sz ∧ i.bytes = b ∧ z.cells.size = τ.sz ∧ 0 < τ.sz ∧ ∀ (w : World) (d : Bool), ERep d w τ x z.cells.toList [] := by
  unfold zeroOf at hz; split at hz
  · rename_i τ' ht
    split at hz
    · rename_i cs hcs
      split at hz
      · rename_i y hp
        cases hz; unfold Tab.zero at hcs; split at hcs
        · rename_i z n b hi
          cases hcs; obtain ⟨i, hi1, hi2, hi3, hi4, hi5⟩ := T.info _ _ _ _ hi; obtain ⟨i', hi', hs, hpos⟩ := T.ty _ _ ht; rw [hi1] at hi'; cases hi'; refine ⟨z, n, b, i, hi, hi1, hi2, hs, hi4, by omega, hpos, fun w d => ?_⟩
          have hd : ∀ (vs : List Value) (cs : List Cell) (τ : Ty) (x : τ.den) (rest : List Cell), cs = vs.map ofConst → τ.pack cs = some (x, rest) → ∃ vs1 vs2, vs = vs1 ++ vs2 ∧ ERep d w τ x vs1 [] ∧ rest = vs2.map ofConst := by
            intro vs cs τ
            induction τ generalizing vs cs with
            | int k =>
              intro x rest hcs hp; have hp : packI k cs = some (x, rest) := hp; unfold packI at hp; split at hp
              · split at hp
                · rename_i hk
                  subst hk; cases hp
                  cases vs with
                  | nil => cases hcs
                  | cons v vs =>
                    obtain ⟨h1, h2⟩ := List.cons.inj hcs; refine ⟨[v], vs, rfl, ?_, h2⟩; unfold ofConst at h1; split at h1 <;> cases h1; cases d <;> exact ⟨rfl, rfl⟩
                · cases hp
              · cases hp
            | bool =>
              intro x rest hcs hp; have hp : packB cs = some (x, rest) := hp; unfold packB at hp; split at hp
              · cases hp
                cases vs with
                | nil => cases hcs
                | cons v vs =>
                  obtain ⟨h1, h2⟩ := List.cons.inj hcs; refine ⟨[v], vs, rfl, ?_, h2⟩; unfold ofConst at h1; split at h1 <;> cases h1; cases d <;> exact ⟨rfl, rfl⟩
              · cases hp
            | str =>
              intro x rest hcs hp; have hp : packS cs = some (x, rest) := hp; unfold packS at hp; split at hp
              · cases hp
                cases vs with
                | nil => cases hcs
                | cons v vs =>
                  obtain ⟨h1, h2⟩ := List.cons.inj hcs; refine ⟨[v], vs, rfl, ?_, h2⟩; unfold ofConst at h1; split at h1 <;> cases h1; cases d <;> exact ⟨rfl, rfl⟩
              · cases hp
            | unit =>
              intro x rest hcs hp; have hp : some ((), cs) = some (x, rest) := hp; cases hp; exact ⟨[], vs, rfl, by cases d <;> exact ⟨rfl, rfl⟩, hcs⟩
            | slice t _ =>
              intro x rest hcs hp; have hp : packL t cs = some (x, rest) := hp; unfold packL at hp; split at hp
              · cases vs with
                | nil => cases hcs
                | cons v vs =>
                  obtain ⟨h1, h2⟩ := List.cons.inj hcs; unfold ofConst at h1; split at h1 <;> cases h1
              · cases hp
                cases vs with
                | nil => cases hcs
                | cons v vs =>
                  obtain ⟨h1, h2⟩ := List.cons.inj hcs; refine ⟨[v], vs, rfl, ?_, h2⟩; unfold ofConst at h1; split at h1 <;> cases h1; exact ERep.nil d w t
              · cases hp
            | pair a b iha ihb =>
              intro x rest hcs hp; simp only [Ty.pack] at hp; split at hp
              · rename_i y r' ha
                split at hp
                · rename_i z' r'' hb
                  cases hp; obtain ⟨v1, v2, rfl, r1, e1⟩ := iha _ _ _ _ hcs ha; obtain ⟨v3, v4, rfl, r2, e2⟩ := ihb _ _ _ _ e1 hb; exact ⟨v1 ++ v3, v4, by simp, ERep.pair r1 r2, e2⟩
                · cases hp
              · cases hp
            | rose t iha =>
              intro x rest hcs hp; simp only [Ty.pack] at hp; split at hp
              · rename_i y r' ha
                split at hp
                · rename_i z' r'' hb
                  cases hp; obtain ⟨v1, v2, rfl, r1, e1⟩ := iha _ _ _ _ hcs ha; unfold packL at hb; split at hb
                  · cases v2 with
                    | nil => cases e1
                    | cons v vs =>
                      obtain ⟨h1, h2⟩ := List.cons.inj e1; unfold ofConst at h1; split at h1 <;> cases h1
                  · cases hb
                    cases v2 with
                    | nil => cases e1
                    | cons v vs =>
                      obtain ⟨h1, h2⟩ := List.cons.inj e1; refine ⟨v1 ++ [v], vs, by simp, ?_, h2⟩; unfold ofConst at h1; split at h1 <;> cases h1; exact ERep.rose r1 (ERep.nil d w (.rose t))
                  · cases hb
                · cases hp
              · cases hp
          obtain ⟨v1, v2, e1, r1, e2⟩ := hd _ _ _ _ _ rfl hp
          have : v2 = [] := by
            cases v2 with
            | nil => rfl
            | cons _ _ => simp at e2
          subst this
          simp at e1
          rw [e1]; exact r1
        · cases hcs
      · cases hz
    · cases hz
  · cases hz
end
end Go.Proofs.GR

namespace Go.Proofs.GR

theorem flatN_append {α : Type} {f g : Nat → List α} {n m : Nat} : flatN (fun i => if i < n then f i else g (i - n)) (n + m) = flatN f n ++ flatN g m := by
  induction m with
  | zero => rw [Nat.add_zero, show flatN g 0 = [] from rfl, List.append_nil]; exact flatN_congr (fun i hi => by simp [hi])
  | succ m ih => rw [← Nat.add_assoc, flatN_succ, ih, flatN_succ, if_neg (by omega), Nat.add_sub_cancel_left, List.append_assoc]

section
variable {K : Start} {P : Program} {Γ : Tab} {o : Oper} {S : St} {a : Act} {w : World} {L : Nat → Value} {Bs : Nat → List Nat} {ρ : Type} {k : St → Option ρ} {r : ρ}

theorem madeCells_flat {z : Array Value} {sz : Nat} (hz : z.size = sz) (hsz : 0 < sz) (n c : Nat) (hnc : n ≤ c) : (madeCells z (c * sz)).toList.take (n * sz) = flatN (fun _ => z.toList) n := by
  have hl : ∀ i, i < n → ((fun _ => z.toList) i : List Value).length = sz := fun i _ => by simpa using hz
  have hle : n * sz ≤ c * sz := Nat.mul_le_mul_right _ hnc; apply List.ext_getElem?; intro m
  by_cases hm : m < n * sz
  · have hdm : m = m / sz * sz + m % sz := by rw [Nat.mul_comm]; exact (Nat.div_add_mod m sz).symm
    have hj : m % sz < sz := Nat.mod_lt _ hsz; have hq : m / sz < n := Nat.div_lt_of_lt_mul (by rwa [Nat.mul_comm])
    have e : (flatN (fun _ => z.toList) n)[m]? = z.toList[m % sz]? := by
      have := flatN_at n hl (m / sz) (m % sz) hq hj; rw [← hdm] at this; exact this
    rw [e, List.getElem?_take, if_pos hm]
    have hmc : m < c * sz := by omega
    have hjz : m % sz < z.size := by omega
    simp only [madeCells, Array.toList_map, Array.toList_range, List.getElem?_map, List.getElem?_range hmc, Option.map_some, hz]; rw [getElem!_pos z (m % sz) hjz]
    simp [hjz]
  · rw [List.getElem?_take, if_neg hm, List.getElem?_eq_none]
    rw [flatN_len n hl]; omega

theorem sound_makeSlice (h : RelX K S a w L Bs) (T : TabOK Γ P) {t e : TypeId} {x y : Operand} (ho : o.op = .makeSlice t x y) (ht : Γ.und t = some (.slice e)) {l c : Int} (hx : cellI (S.cell x) = some l) (hy : cellI (S.cell y) = some c)
    {τ : Ty} {z : τ.den} (hz : zeroOf Γ e = some ⟨τ, z⟩) {nb : Nat} (hnb : Γ.bytes e = some nb) (h0 : 0 ≤ l) (h1 : l ≤ c) (h2 : c ≤ 140737488355328) (h3 : (nb : Int) * c ≤ 140737488355328)
    {m : Nat} (hm : isFree S.objs m = true) (hk : k ((S.place m (.row τ (List.replicate l.toNat z) true)).put o.dst (.val (.one (.own m)))) = some r) : Sound K P o a w k r := by
  obtain ⟨q, hc⟩ := cellI_inv hx; obtain ⟨q', hc'⟩ := cellI_inv hy; have e1 := int_inv (h.cell hc (by simp)).2; have e2 := int_inv (h.cell hc' (by simp)).2; obtain ⟨zv, n, b, i, hi, hi1, hi2, hi3, hi4, hi5, hpos, hrep⟩ := zero_rep T hz
  have hnb' : b = nb := by unfold Tab.bytes at hnb; rw [hi] at hnb; simpa using hnb
  have hrun := run_make (P := P) w t e i zv (T.und _ _ ht) hi1 hi2 q q' l c h0 h1 (by rw [hi4, hnb']; omega) (by omega)
  obtain ⟨L', Bs', R⟩ := h.newRow (w' := w.alloc (.cells (madeCells zv.cells (c.toNat * i.size)) e)) (World.grownBy_alloc w _ none) [] τ (List.replicate l.toNat z) true c.toNat (madeCells zv.cells (c.toNat * i.size)) e (0, 0) (fun _ => zv.cells.toList) (fun _ => [])
    (heap_alloc_new w _) (.inl rfl) (by simp; omega) (by simp only [maxLen]; omega) (by rw [size_madeCells, hi3]) (by rw [List.length_replicate, hi3]; exact madeCells_flat hi5 hpos _ _ (by omega))
    (fun j x hj => ⟨by simpa using hi5, by
      have : x = z := by
        rw [List.getElem?_replicate] at hj; split at hj
        · exact (Option.some.inj hj).symm
        · cases hj
      rw [this]
      exact hrep w true⟩) (by simp [flatN_nil]) (fun _ => by simp [flatN_nil]) hm o.dst
  refine ⟨_, hk, fun _ _ hn => upon_value (w' := w.alloc (.cells (madeCells zv.cells (c.toNat * i.size)) e)) (v := .slice (some ⟨w.heap.size, 0, none⟩) l.toNat c.toNat) ?_ (hn _ _ ?_)⟩
  · simp only [execOp, ho, e1, e2, Sem.run_bind, hrun, Result.andThen_ok, Sem.run_pure]
  · have := R.rel
    rw [List.length_replicate] at this; exact this

theorem run_append_row (t tx ty e : TypeId) (i : TypeInfo) (z : Value) (ht : P.underlying t = some (.slice e)) (hi : P.info? e = some i) (hz : i.zero = some z) (hzs : z.cells.size = i.size)
    {v : Value} {n : Nat} {xs : List Value} (hown : OwnRow w i.size v n xs) {x : Value} {m : Nat} {news : List Value} (hs : Src P i.size tx x m news w) (hb1 : 1 ≤ i.bytes) (hbytes : (n + m) * i.bytes ≤ 140737488355328) :
    ∃ v' w', (Builtin.append_ #[t, tx] ty #[v, x]).run P w = .ok v' w' ∧ OwnRow w' i.size v' (n + m) (xs ++ news) ∧ w.grownBy w' v.ownBlock ∧ (v'.ownBlock = v.ownBlock ∨ v'.ownBlock = some w.heap.size) ∧ v'.oneCell' = true := by
  have hnm : n + m ≤ 140737488355328 := Nat.le_trans (Nat.le_mul_of_pos_right _ hb1) hbytes
  have h63 : n + m ≤ maxLen := by simp only [maxLen]; omega
  have hlen : (xs ++ news).length = (n + m) * i.size := by rw [List.length_append, hown.1, hs.newsLen, Nat.add_mul]
  have grown : ∀ (base : Option Addr) (old : Nat), old < n + m → ∀ (row : Option Nat), v = .slice base n old → (Builtin.firstCells i.size n (.slice base n old)).run P w.drew = .ok xs.toArray w.drew →
      ∃ v' w', (Builtin.append_ #[t, tx] ty #[v, x]).run P w = .ok v' w' ∧ OwnRow w' i.size v' (n + m) (xs ++ news) ∧ w.grownBy w' row ∧ v'.ownBlock = some w.heap.size ∧ v'.oneCell' = true := by
    intro base old hlt row hv hf; have hr := run_append_grow_src (P := P) w t tx ty e i z ht hi hz base n old xs hf x m news hs hlt (by omega) (growslice_fits hlt hbytes); have hge := grownCap_ge w (n + m) old e; have hcm : grownCap w (n + m) old e ≤ maxLen := grownCap_le_maxLen w (n + m) old e h63; rw [hv]; refine ⟨_, _, hr, ⟨hlen, .inr ⟨w.heap.size, _, _, e, (0, 0), rfl, heap_alloc_new w.drew _, .inl rfl, hge, hcm, ?_, ?_⟩⟩, ⟨rfl, rfl, rfl, by simp, fun k hk _ => heap_alloc_old w.drew _ hk⟩, rfl, rfl⟩
    · simp only [Array.size_append, List.size_toArray, size_zeroCells, hzs, hlen, ← Nat.add_mul]
      congr 1
      omega
    · simp only [Array.toList_append]
      rw [← hlen]; exact List.take_left
  rcases hown.2 with ⟨rfl, rfl⟩ | ⟨g, cap, cur, e', fz, rfl, hg, hfz, hle, hcm, hcs, htk⟩
  · have hx : xs = [] := List.eq_nil_of_length_eq_zero (by simpa using hown.1)
    subst hx
    by_cases hm : m = 0
    · subst hm
      have hn : news = [] := List.eq_nil_of_length_eq_zero (by simpa using hs.newsLen); subst hn; refine ⟨.slice none 0 0, w, ?_, ⟨by simp, .inl ⟨rfl, rfl⟩⟩, ⟨rfl, rfl, rfl, Nat.le_refl _, fun _ _ _ => rfl⟩, .inl rfl, rfl⟩
      rcases hs.kind with ⟨e'', hk⟩ | hk <;> simp [Builtin.append_, run_underlying ht, run_underlying hk, sizeOf, typeInfo, hi, hs.len, hs.cells]
    · obtain ⟨v', w', h1, h2, h3, h4, h5⟩ := grown none 0 (by omega) (Value.ownBlock (.slice none 0 0)) rfl (by simp [Builtin.firstCells])
      exact ⟨v', w', h1, h2, h3, .inr h4, h5⟩
  · by_cases hroom : n + m ≤ cap
    · have hfit : 0 + (n * i.size) + news.length ≤ cur.size := by rw [hs.newsLen, hcs, Nat.zero_add, ← Nat.add_mul]; exact Nat.mul_le_mul_right _ hroom
      have hst := run_storeCells_row P g (n * i.size) e' fz news 0 cur w hg hfz (by omega) hs.one; simp only [Nat.add_zero] at hst
      have hadd : (⟨g, 0, none⟩ : Addr).add (n * i.size) = ⟨g, n * i.size, none⟩ := by unfold Addr.add; split <;> simp_all
      refine ⟨.slice (some ⟨g, 0, none⟩) (n + m) cap, w.setRow g (cur.toList.take (n * i.size) ++ news ++ cur.toList.drop (n * i.size + news.length)).toArray, ?_, ⟨hlen, .inr ⟨g, cap, _, e', fz, rfl, setRow_heap w g cur _ e' fz hg, ?_, hroom, hcm, ?_, ?_⟩⟩,
        ⟨rfl, rfl, rfl, by simp, fun k _ hk => setRow_other w g k _ (fun e => hk (by simp [Value.ownBlock, e]))⟩, .inl rfl, rfl⟩
      · rcases hs.kind with ⟨e'', hk⟩ | hk <;> simp [Builtin.append_, run_underlying ht, run_underlying hk, sizeOf, typeInfo, hi, hs.len, hroom, hs.cells, hadd, hst]
      · refine hfz.imp id (fun hf => ?_)
        simp
        omega
      · simp
        omega
      · rw [htk, ← hlen]
        exact List.take_left
    · have holds : ∀ j u, xs[j]? = some u → w.drew.cell? ((⟨g, 0, none⟩ : Addr).add j) = some u := by
        intro j u hj; have := hown.cells (g := g) rfl j u hj
        simpa using this
      obtain ⟨v', w', h1, h2, h3, h4, h5⟩ := grown (some ⟨g, 0, none⟩) cap (by omega) (Value.ownBlock (.slice (some ⟨g, 0, none⟩) n cap)) rfl (run_firstCells_some w.drew i.size n ⟨g, 0, none⟩ n cap xs hown.1 holds); exact ⟨v', w', h1, h2, h3, .inr h4, h5⟩
end
end Go.Proofs.GR

namespace Go.Proofs.GR

theorem flatN_all_nil {α : Type} {f : Nat → List α} {n : Nat} (h : ∀ i, i < n → f i = []) : flatN f n = [] := by
  rw [flatN_congr h, flatN_nil]

section
variable {K : Start} {P : Program} {Γ : Tab} {o : Oper} {S : St} {a : Act} {w : World} {L : Nat → Value} {Bs : Nat → List Nat} {ρ : Type} {k : St → Option ρ} {r : ρ}

structure Taken (K : Start) (w : World) (S : St) (Bs : Nat → List Nat) (τ : Ty) (xs : List τ.den) (b : Bool) (os : List Nat) (css : Nat → List Value) (Fs : Nat → List Nat) : Prop where
  elem : ∀ i x, xs[i]? = some x → (css i).length = τ.sz ∧ ERep b w τ x (css i) (Fs i)
  foot : ∀ k ∈ flatN Fs xs.length, ¬ Forb K S.objs.length Bs k ∨ ∃ q ∈ os, q < S.objs.length ∧ k ∈ Bs q
  deep : b = true → (∀ k ∈ flatN Fs xs.length, ∃ q ∈ os, q < S.objs.length ∧ k ∈ Bs q) ∧ (flatN Fs xs.length).Nodup

theorem Taken.len {τ : Ty} {xs : List τ.den} {b : Bool} {os : List Nat} {css : Nat → List Value} {Fs : Nat → List Nat} (h : Taken K w S Bs τ xs b os css Fs) : ∀ i, i < xs.length → (css i).length = τ.sz := fun i hi => (h.elem i _ (List.getElem?_eq_getElem hi)).1

theorem Taken.nil (τ : Ty) (b : Bool) (os : List Nat) : Taken K w S Bs τ [] b os (fun _ => []) (fun _ => []) :=
  ⟨fun i x hi => by simp at hi, fun k hk => by simp [flatN] at hk, fun _ => ⟨fun k hk => by simp [flatN] at hk, by simp [flatN]⟩⟩

theorem Taken.to {τ : Ty} {xs : List τ.den} {b e : Bool} {os : List Nat} {css : Nat → List Value} {Gs : Nat → List Nat} (h : Taken K w S Bs τ xs b os css Gs) (he : e = true → b = true) :
    ∃ Fs, Taken K w S Bs τ xs e os css Fs ∧ (∀ k, k ∈ flatN Fs xs.length → k ∈ flatN Gs xs.length) := by
  cases e with
  | true =>
    have hb := he rfl; subst hb; exact ⟨Gs, h, fun _ hk => hk⟩
  | false =>
    obtain ⟨Fs, h1, h2, _⟩ := elems_rep h.elem; exact ⟨Fs, ⟨h1, fun k hk => h.foot k (h2.subset hk), fun hb => by cases hb⟩, fun k hk => h2.subset hk⟩

structure Yields (K : Start) (P : Program) (w : World) (S : St) (Bs : Nat → List Nat) (τ : Ty) (u : Value) (ys : List τ.den) (b : Bool) (os : List Nat) (css : Nat → List Value) (Fs : Nat → List Nat) : Prop where
  taken : Taken K w S Bs τ ys b os css Fs
  src : ∀ tx, ((∃ e', P.underlying tx = some (.slice e')) ∨ P.underlying tx = some .string) → Src P τ.sz tx u ys.length (flatN css ys.length) w

theorem rows_one {τ : Ty} {xs : List τ.den} {css : Nat → List Value} {Fs : Nat → List Nat} (h : ∀ i x, xs[i]? = some x → (css i).length = τ.sz ∧ Rep w τ x (css i) (Fs i)) : ∀ u ∈ flatN css xs.length, u.oneCell' = true := by
  intro u hu; obtain ⟨i, hi, hu⟩ := mem_flatN.1 hu; exact Rep.one _ _ _ _ (h i _ (List.getElem?_eq_getElem hi)).2 u hu

theorem row_yields {τ : Ty} {ys : List τ.den} {u : Value} {css : Nat → List Value} {Fs : Nat → List Nat} (hr : Row w τ ys u css Fs) {tx : TypeId} (hk : (∃ e', P.underlying tx = some (.slice e')) ∨ P.underlying tx = some .string) : Src P τ.sz tx u ys.length (flatN css ys.length) w := by
  obtain ⟨A, cap, hv, hle, hcm, hn, hc⟩ := hr.ex; have hl := flatN_len ys.length (fun i hi => (hr.elem i _ (List.getElem?_eq_getElem hi)).1); rw [hv]
  cases A with
  | none =>
    have : ys = [] := hn rfl; subst this; exact ⟨hk, fun _ => rfl, run_firstCells_none w τ.sz 0 _ _, run_firstCells_none w.drew τ.sz 0 _ _, by simp [flatN], fun _ h => by simp [flatN] at h⟩
  | some ad =>
    exact ⟨hk, fun _ => rfl, run_firstCells_some w _ _ ad _ _ _ hl (hc ad rfl), run_firstCells_some w.drew _ _ ad _ _ _ hl (by simpa using hc ad rfl), hl, rows_one hr.elem⟩

theorem byteCells_flat {b : ByteArray} : flatN (fun i => [Value.int .u8 ((strBytes b).getD i 0)]) (strBytes b).length = byteCells b := by
  rw [row_bytes (w := { (default : World) with }) (xs := strBytes b) (k := .u8) (Fs := fun _ => [])]
  · simp [strBytes, byteCells, List.map_map]
  · intro i x hi
    refine ⟨rfl, ?_, rfl⟩
    show [Value.int .u8 ((strBytes b)[i]?.getD 0)] = _
    rw [show (strBytes b)[i]? = some x from hi]; rfl

theorem str_src (s : ByteArray) {tx : TypeId} (hk : (∃ e', P.underlying tx = some (.slice e')) ∨ P.underlying tx = some .string) : Src P 1 tx (.string s) (strBytes s).length (flatN (fun i => [Value.int .u8 ((strBytes s).getD i 0)]) (strBytes s).length) w := by
  rw [byteCells_flat, strBytes_len]
  exact ⟨hk, fun _ => rfl, firstCells_string s w, firstCells_string s w.drew, by rw [byteCells_length, Nat.mul_one], fun u hu => by
    obtain ⟨_, _, rfl⟩ := List.mem_map.1 hu
    rfl⟩

theorem asrc_spec (h : RelX K S a w L Bs) {τ : Ty} {v : Val} {u : Value} (hv : ValRep w S.objs L (Forb K S.objs.length Bs) v u) {ys : List τ.den} {b : Bool} {os : List Nat} (hs : asrc S τ v = some (ys, b, os)) :
    (∀ q ∈ os, q < S.objs.length) ∧ ∃ css Fs, Yields K P w S Bs τ u ys b os css Fs := by
  unfold asrc at hs; split at hs
  · cases hs
    have e : u = .slice none 0 0 := hv.2; subst e; refine ⟨by simp, fun _ => [], fun _ => [], Taken.nil τ true [], fun tx hk => ⟨hk, fun _ => rfl, run_firstCells_none w τ.sz 0 _ _, run_firstCells_none w.drew τ.sz 0 _ _, by simp [flatN], fun _ h => by simp [flatN] at h⟩⟩
  · rename_i s
    split at hs
    · rename_i hτ
      subst hτ; cases hs; have e := str_inv hv.2; subst e; refine ⟨by simp, fun i => [Value.int .u8 ((strBytes s).getD i 0)], fun _ => [], ⟨fun i x hi => ⟨rfl, ERep.flat rfl ⟨?_, rfl⟩⟩, by simp [flatN_nil], by simp [flatN_nil]⟩, fun tx hk => ?_⟩
      · show [Value.int .u8 ((strBytes s)[i]?.getD 0)] = _
        rw [show (strBytes s)[i]? = some x from hi]; rfl
      · exact str_src s hk
    · cases hs
  · rename_i c hn1 hn2
    split at hs
    · rename_i τ' ys' hr
      split at hs
      · rename_i hτ
        subst hτ; obtain ⟨css, Fs, hrow, hown, hdat⟩ := row_src' h hv.2 hr; cases hf : τ'.flat <;> rw [hf] at hs <;> simp only [cond_true, cond_false] at hs
        · split at hs
          · rename_i q
            split at hs
            · rename_i t0 x0 dp hq
              cases hs; have hob := lget_obj hq (by simp); obtain ⟨d, Gs, hd1, hge, hd2⟩ := hown q rfl; rw [hob] at hd1; cases hd1; have hql : q < S.objs.length := (List.getElem?_eq_some_iff.1 hob).1; refine ⟨by simpa using hql, css, Gs, ⟨hge, fun k hk => ?_, fun hb => ?_⟩, fun tx hk => row_yields hrow hk⟩
              · cases b <;> simp only [Bool.false_eq_true, if_false, if_true] at hd2
                · exact .inl (hd2.2 k hk)
                · exact .inr ⟨q, by simp, hql, by rw [hd2]; exact List.mem_append_right _ hk⟩
              · subst hb
                simp only [if_true] at hd2; have hBn := flatN_nodup_at h.objs.nodup hql; rw [hd2] at hBn; exact ⟨fun k hk => ⟨q, by simp, hql, by rw [hd2]; exact List.mem_append_right _ hk⟩, (List.nodup_append.1 hBn).2.1⟩
            · cases hs
          · cases hs
            exact ⟨by simp, css, Fs, ⟨hrow.elem, fun k hk => .inl (hdat ⟨_, _, rfl⟩ k hk), fun hb => by cases hb⟩, fun tx hk => row_yields hrow hk⟩
          · cases hs
        · cases hs
          have hnil : flatN Fs ys'.length = [] := flatN_all_nil (fun i hi => Rep.flat _ _ _ _ hf (hrow.elem i _ (List.getElem?_eq_getElem hi)).2); exact ⟨by simp, css, Fs, ⟨fun i x hi => ⟨(hrow.elem i x hi).1, ERep.flat hf (hrow.elem i x hi).2⟩, by simp [hnil], by simp [hnil]⟩, fun tx hk => row_yields hrow hk⟩
      · cases hs
    · cases hs
  · cases hs

theorem abase_spec (h : RelX K S a w L Bs) {τ : Ty} {v : Val} {u : Value} (hv : ValRep w S.objs L (Forb K S.objs.length Bs) v u) {xs : List τ.den} {b : Bool} {os : List Nat} (hs : abase S τ v = some (xs, b, os)) :
    (∀ q ∈ os, q < S.objs.length) ∧ ∃ css Fs, Taken K w S Bs τ xs b os css Fs ∧ OwnRow w τ.sz u xs.length (flatN css xs.length) ∧ (∀ g, u.ownBlock = some g → (∃ q ∈ os, q < S.objs.length ∧ g ∈ Bs q) ∧ g ∉ flatN Fs xs.length) := by
  unfold abase at hs; split at hs
  · cases hs
    have e : u = .slice none 0 0 := hv.2; subst e; exact ⟨by simp, fun _ => [], fun _ => [], Taken.nil τ true [], ⟨by simp [flatN], .inl ⟨rfl, rfl⟩⟩, fun g hg => by cases hg⟩
  · rename_i q
    split at hs
    · rename_i τ' xs' dp hq
      split at hs
      · rename_i hτ
        subst hτ; cases hs; have hob := lget_obj hq (by simp); have hql : q < S.objs.length := (List.getElem?_eq_some_iff.1 hob).1; have e : u = L q := hv.2.2 _ _ _ (.inl hob); subst e; obtain ⟨css, Fs, hown, g2, g3⟩ := h.objs.obj q _ hob; have hBn := flatN_nodup_at h.objs.nodup hql; refine ⟨by simpa using hql, css, Fs, ⟨g2, fun k hk => ?_, fun hb => ?_⟩, hown, fun g hg => ?_⟩
        · cases b <;> simp only [Bool.false_eq_true, if_false, if_true] at g3
          · exact .inl (g3.2 k hk)
          · exact .inr ⟨q, by simp, hql, by rw [g3]; exact List.mem_append_right _ hk⟩
        · subst hb
          simp only [if_true] at g3; rw [g3] at hBn; exact ⟨fun k hk => ⟨q, by simp, hql, by rw [g3]; exact List.mem_append_right _ hk⟩, (List.nodup_append.1 hBn).2.1⟩
        · have hin : g ∈ ownBlk (L q) := by simp [ownBlk, hg]
          have hgB : g ∈ Bs q := by
            cases b <;> simp only [Bool.false_eq_true, if_false, if_true] at g3
            · rw [g3.1]; exact hin
            · rw [g3]; exact List.mem_append_left _ hin
          refine ⟨⟨q, by simp, hql, hgB⟩, fun hm => ?_⟩; cases b <;> simp only [Bool.false_eq_true, if_false, if_true] at g3
          · exact g3.2 g hm (.inl (mem_flatN.2 ⟨q, hql, hgB⟩))
          · rw [g3] at hBn
            exact (List.nodup_append.1 hBn).2.2 g hin g hm rfl
      · cases hs
    · cases hs
  · cases hs

theorem flatN_two {α : Type} {f g : Nat → List α} {n m : Nat} {b : α} : b ∈ flatN (fun i => if i < n then f i else g (i - n)) (n + m) ↔ b ∈ flatN f n ∨ b ∈ flatN g m := by
  rw [flatN_append, List.mem_append]

theorem newAt_some {m : Nat} {k : Option ρ} (h : newAt S m k = some r) : isFree S.objs m = true ∧ k = some r := by
  unfold newAt at h; split at h
  · exact ⟨by assumption, h⟩
  · cases h

theorem sound_append (h : RelX K S a w L Bs) (T : TabOK Γ P) {c : Call} (ho : o.op = .call c) (hcb : c.callee = .builtin .append) {x y : Operand} (hargs : c.args = #[x, y]) {t0 t1 : TypeId} (hts : c.argTypes = #[t0, t1]) {v1 v2 : Val} (hx : S.val? x = some v1) (hy : S.val? y = some v2)
    {m : Nat} (hk : aappend Γ [t0, t1] v1 v2 m S (fun e => k (S.apply o.dst e)) = some r) : Sound K P o a w k r := by
  unfold aappend at hk; simp only at hk; split at hk
  · rename_i e ht0 ht1
    split at hk
    · rename_i τ z nb hz hnb
      split at hk
      · rename_i xs dp os ys dp2 os' hb hs
        cases hg : yes2 (Nat.ble 1 nb) (lnodup (lapp os os')) <;> rw [hg] at hk <;> simp only [cond_true, cond_false] at hk
        · cases hk
        obtain ⟨hg1, hg2⟩ := yes2_true hg; obtain ⟨hc1, hk⟩ := chk_some hk; obtain ⟨hm, hk⟩ := newAt_some hk; have hc1 := of_decide_eq_true hc1; have hnb1 : 1 ≤ nb := Nat.le_of_ble_eq_true hg1
        have hnd : (os ++ os').Nodup := by rw [lapp_eq] at hg2; exact (lnodup_iff _).1 hg2
        rw [lapp_eq] at hk; obtain ⟨zv, nn, bb, i, hi, hi1, hi2, hi3, hi4, hi5, hpos, _⟩ := zero_rep T hz
        have hnb' : bb = nb := by unfold Tab.bytes at hnb; rw [hi] at hnb; simpa using hnb
        obtain ⟨hos, css, Fs0, tk0, hown, hgf0⟩ := abase_spec h (h.val hx) hb; obtain ⟨hos', css', Fs0', yl⟩ := asrc_spec (P := P) h (h.val hy) hs; obtain ⟨Fs, tk, hsub⟩ := tk0.to (e := yes2 dp dp2) (fun he => (yes2_true he).1); obtain ⟨Fs', htk, _⟩ := yl.taken.to (e := yes2 dp dp2) (fun he => (yes2_true he).2)
        have hgf : ∀ g, (a.eval x).ownBlock = some g → (∃ q ∈ os, q < S.objs.length ∧ g ∈ Bs q) ∧ g ∉ flatN Fs xs.length := fun g hg => ⟨(hgf0 g hg).1, fun hm => (hgf0 g hg).2 (hsub g hm)⟩
        have hkind : (∃ e', P.underlying t1 = some (.slice e')) ∨ P.underlying t1 = some .string := by
          split at ht1
          · rename_i e' hu; exact .inl ⟨e', T.und _ _ hu⟩
          · rename_i hu; exact .inr (T.und _ _ hu)
          · cases ht1
        have hsrc := yl.src t1 hkind; rw [← hi3] at hsrc hown; obtain ⟨v', w', hrun, hrow, hgr, hblk, hone⟩ := run_append_row (P := P) t0 t1 o.type e i zv (T.und _ _ ht0) hi1 hi2 (by omega) hown hsrc (by omega) (by rw [hi4, hnb']; exact hc1); rw [← flatN_append] at hrow; rw [hi3] at hrow
        let C := fun i => if i < xs.length then css i else css' (i - xs.length)
        let G := fun i => if i < xs.length then Fs i else Fs' (i - xs.length)
        have hlen : (xs ++ ys).length = xs.length + ys.length := by simp
        have hGm : ∀ b, b ∈ flatN G (xs.length + ys.length) ↔ b ∈ flatN Fs xs.length ∨ b ∈ flatN Fs' ys.length := fun b => flatN_two
        have helem : ∀ i x, (xs ++ ys)[i]? = some x → (C i).length = τ.sz ∧ ERep (yes2 dp dp2) w τ x (C i) (G i) := by
          intro i x hi
          by_cases hil : i < xs.length
          · rw [List.getElem?_append_left hil] at hi
            simp only [C, G, hil, if_true]; exact tk.elem i x hi
          · rw [List.getElem?_append_right (by omega)] at hi
            simp only [C, G, hil, if_false]; exact htk.elem _ x hi
        have hlt : ∀ i, i < S.objs.length → ∀ b ∈ Bs i, b < w.heap.size := fun i hi b hb => h.objs.lt b (mem_flatN.2 ⟨i, hi, hb⟩)
        have hGl : ∀ b ∈ flatN G (xs.length + ys.length), b < w.heap.size := by
          intro b hb; obtain ⟨i, hi, hb⟩ := mem_flatN.1 hb; exact ERep.lt (helem i _ (List.getElem?_eq_getElem (by omega))).2 b hb
        have hdis : ∀ i j, i < S.objs.length → j < S.objs.length → i ≠ j → ∀ b, b ∈ Bs i → b ∉ Bs j := fun i j hi hj hij b => flatN_disj h.objs.nodup hi hj hij b
        have hnd' := List.nodup_append.1 hnd
        -- the row's own block is used by no element
        have hgG : ∀ g, (Option.some g = (a.eval x).ownBlock) → g ∉ flatN G (xs.length + ys.length) := by
          intro g hg hm; obtain ⟨⟨q, hq1, hq2, hq3⟩, hq4⟩ := hgf g hg.symm
          rcases (hGm g).1 hm with h1 | h1
          · exact hq4 h1
          · rcases htk.foot g h1 with h2 | ⟨q', h2, h3, h4⟩
            · exact h2 (.inl (mem_flatN.2 ⟨q, hq2, hq3⟩))
            · exact hdis q q' hq2 h3 (hnd'.2.2 q hq1 q' h2) g hq3 h4
        have hmono : ∀ b ∈ flatN G (xs.length + ys.length), w'.heap[b]? = w.heap[b]? := by
          intro b hb; exact hgr.block b (hGl b hb) (fun he => hgG b he hb)
        have hGfoot : ∀ b ∈ flatN G (xs.length + ys.length), ¬ Forb K S.objs.length Bs b ∨ ∃ q ∈ os ++ os', q < S.objs.length ∧ b ∈ Bs q := by
          intro b hb
          rcases (hGm b).1 hb with h1 | h1
          · rcases tk.foot b h1 with h2 | ⟨q, h2, h3, h4⟩
            · exact .inl h2
            · exact .inr ⟨q, by simp [h2], h3, h4⟩
          · rcases htk.foot b h1 with h2 | ⟨q, h2, h3, h4⟩
            · exact .inl h2
            · exact .inr ⟨q, by simp [h2], h3, h4⟩
        have hv'g : ∀ g, v'.ownBlock = some g → (∃ q ∈ os ++ os', q < S.objs.length ∧ g ∈ Bs q) ∨ (w.heap.size ≤ g ∧ g < w'.heap.size) := by
          intro g hg
          rcases hblk with h1 | h1
          · rw [hg] at h1
            obtain ⟨⟨q, hq1, hq2, hq3⟩, _⟩ := hgf g h1.symm; exact .inl ⟨q, by simp [hq1], hq2, hq3⟩
          · rw [hg] at h1
            cases h1; refine .inr ⟨Nat.le_refl _, ?_⟩
            rcases hrow.2 with ⟨hn, _⟩ | ⟨g', cap, cur, e', fz, hv, hg', _⟩
            · rw [hn] at hg; cases hg
            · rw [hv] at hg
              cases hg; exact (Array.getElem?_eq_some_iff.1 hg').1
        obtain ⟨L', Bs', R, hLm, hlive⟩ := h.take (w' := w') (B := if yes2 dp dp2 then ownBlk v' ++ flatN G (xs.length + ys.length) else ownBlk v') hgr.os hgr.tape hgr.output hgr.size (os ++ os')
          (by
            intro b hb hn; refine hgr.block b hb (fun he => ?_); obtain ⟨⟨q, hq1, hq2, hq3⟩, _⟩ := hgf b he.symm
            exact hn q (by simp [hq1]) hq2 hq3)
          m hm (.row τ (xs ++ ys) (yes2 dp dp2)) rfl v'
          (by
            intro b hb
            have hb' : b ∈ ownBlk v' ∨ (yes2 dp dp2 = true ∧ b ∈ flatN G (xs.length + ys.length)) := by
              cases hd : yes2 dp dp2 <;> rw [hd] at hb <;> simp only [Bool.false_eq_true, if_false, if_true] at hb
              · exact .inl hb
              · rcases List.mem_append.1 hb with hb | hb
                · exact .inl hb
                · exact .inr ⟨rfl, hb⟩
            rcases hb' with h1 | ⟨h1, h2⟩
            · exact hv'g b (by simpa [ownBlk] using h1)
            · rcases (hGm b).1 h2 with h5 | h5
              · obtain ⟨q, h6, h7⟩ := (tk.deep h1).1 b h5
                exact .inl ⟨q, by simp [h6], h7⟩
              · obtain ⟨q, h6, h7⟩ := (htk.deep h1).1 b h5
                exact .inl ⟨q, by simp [h6], h7⟩)
          (by
            have hn1 : (ownBlk v').Nodup := by
              unfold ownBlk; cases v'.ownBlock <;> simp
            cases hd : yes2 dp dp2 <;> simp only [Bool.false_eq_true, if_false, if_true]
            · exact hn1
            · refine List.nodup_append.2 ⟨hn1, ?_, fun b hb b' hb' e => ?_⟩
              · show (flatN (fun i => if i < xs.length then Fs i else Fs' (i - xs.length)) (xs.length + ys.length)).Nodup
                rw [flatN_append]; refine List.nodup_append.2 ⟨(tk.deep hd).2, (htk.deep hd).2, fun b hb b' hb' e => ?_⟩; subst e; obtain ⟨q, h5, h6, h7⟩ := (tk.deep hd).1 b hb; obtain ⟨q', h8, h9, h10⟩ := (htk.deep hd).1 b hb'; exact hdis q q' h6 h9 (hnd'.2.2 q h5 q' h8) b h7 h10
              · subst e
                have hb1 : v'.ownBlock = some b := by simpa [ownBlk] using hb
                rcases hblk with h5 | h5
                · rw [hb1] at h5
                  exact hgG b h5 hb'
                · rw [hb1] at h5
                  cases h5; have := hGl _ hb'
                  omega)
          (fun objs' L' own' hc' hL' ho' => by
            refine ⟨C, G, ?_, fun i x hi => ⟨(helem i x hi).1, ERep.mono (helem i x hi).2 (fun b hb => hmono b (mem_flatN.2 ⟨i, by have := (List.getElem?_eq_some_iff.1 hi).1; omega, hb⟩))⟩, ?_⟩
            · rw [hL', hlen]; exact hrow
            · rw [hL', hlen]
              cases hd : yes2 dp dp2 <;> simp only [Bool.false_eq_true, if_false, if_true]
              · refine ⟨trivial, fun b hb hown' => ?_⟩
                have hown2 := ho' _ hown'; rw [hd] at hown2; simp only [Bool.false_eq_true, if_false] at hown2
                rcases hown2 with h1 | ⟨q, h1, h2, h3⟩ | hU
                · have hb1 : v'.ownBlock = some b := by simpa [ownBlk] using h1
                  rcases hblk with h5 | h5
                  · rw [hb1] at h5
                    exact hgG b h5 hb
                  · rw [hb1] at h5
                    cases h5; have := hGl _ hb; omega
                · rcases hGfoot b hb with h4 | ⟨q', h4, h5, h6⟩
                  · exact h4 (.inl (mem_flatN.2 ⟨q, h1, h3⟩))
                  · exact hdis q q' h1 h5 (by rintro rfl; exact h2 h4) b h3 h6
                · rcases hGfoot b hb with h4 | ⟨q', h4, h5, h6⟩
                  · exact h4 (.inr hU)
                  · exact h.seen (mem_flatN.2 ⟨q', h5, h6⟩) hU)
        refine ⟨_, hk, fun _ _ hn => upon_value (w' := w') (v := v') ?_ (hn _ _ (RelX.put R o.dst (s := .val (.one (.own m))) ⟨hone, hlive, fun t xs d hx => hLm.symm⟩).rel)⟩
        simp only [execOp, ho, hcb, hargs, hts, resolve, invoke, builtin, Sem.run_bind, Sem.run_pure, Result.andThen_ok, List.map_toArray, List.map_cons, List.map_nil, hrun]
      · cases hk
    · cases hk
  · cases hk
end
end Go.Proofs.GR

namespace Go.Proofs.GR

theorem CReps.append {w : World} {objs : List AObj} {L : Nat → Value} {own : Nat → Prop} {cs cs' : List Cell} {vs vs' : List Value} (h : CReps w objs L own cs vs) (h' : CReps w objs L own cs' vs') : CReps w objs L own (cs ++ cs') (vs ++ vs') := by
  induction h with
  | nil => exact h'
  | cons h1 h2 _ ih => exact .cons h1 h2 ih
theorem CReps.take {w : World} {objs : List AObj} {L : Nat → Value} {own : Nat → Prop} {cs : List Cell} {vs : List Value} (h : CReps w objs L own cs vs) : ∀ n, CReps w objs L own (cs.take n) (vs.take n) := by
  induction h with
  | nil => intro n; simp; exact .nil
  | cons h1 h2 _ ih =>
    intro n
    cases n with
    | zero => exact .nil
    | succ n => exact .cons h1 h2 (ih n)
theorem CReps.drop {w : World} {objs : List AObj} {L : Nat → Value} {own : Nat → Prop} {cs : List Cell} {vs : List Value} (h : CReps w objs L own cs vs) : ∀ n, CReps w objs L own (cs.drop n) (vs.drop n) := by
  induction h with
  | nil => intro n; simp; exact .nil
  | cons h1 h2 h3 ih =>
    intro n
    cases n with
    | zero => exact .cons h1 h2 h3
    | succ n => exact ih n

section
variable {K : Start} {P : Program} {Γ : Tab} {o : Oper} {S : St} {a : Act} {w : World} {L : Nat → Value} {Bs : Nat → List Nat} {ρ : Type} {k : St → Option ρ} {r : ρ}

theorem const_cells (vs : List Value) (h1 : ∀ v ∈ vs, v.oneCell' = true) (objs : List AObj) (own : Nat → Prop) : CReps w objs L own (vs.map ofConst) vs := by
  induction vs with
  | nil => exact .nil
  | cons v vs ih =>
    refine .cons (h1 v (by simp)) ?_ (ih (fun u hu => h1 u (by simp [hu])))
    by_cases hne : ofConst v = .nix
    · rw [hne]; trivial
    · exact (const_rep objs own v hne).2

theorem places_spec (T : TabOK Γ P) : ∀ (fs : List Field) (pl : List (Nat × Nat)), placesOf Γ fs = some pl → fs.mapM (fun f => (P.info? f.type).map fun i => (f.offset, i.size)) = some pl
  | [], pl, h => by cases h; rfl
  | f :: r, pl, h => by
    simp only [placesOf] at h; split at h
    · rename_i n l hn hl
      cases h; unfold Tab.size at hn; split at hn
      · rename_i z n' b hi
        cases hn; obtain ⟨i, hi1, _, hs, _, _⟩ := T.info _ _ _ _ hi
        simp [List.mapM_cons, hi1, hs, places_spec T r l hl]
      · cases hn
    · cases h

theorem parts_spec (h : RelX K S a w L Bs) : ∀ (parts : List (Nat × Operand)) (ps : List (Nat × List Cell)), partsOf S parts = some ps →
    ps.length = parts.length ∧ ∀ (j : Nat) i p, ps[j]? = some (i, p) → ∃ x, parts[j]? = some (i, x) ∧ CReps w S.objs L (Forb K S.objs.length Bs) p (a.eval x).cells.toList
  | [], ps, hp => by cases hp; exact ⟨rfl, fun j i p hj => by simp at hj⟩
  | (i, x) :: r, ps, hp => by
    simp only [partsOf] at hp; split at hp
    · rename_i v l hv hl
      cases hp; obtain ⟨h1, h2⟩ := parts_spec h r l hl; refine ⟨by simp [h1], fun j i' p hj => ?_⟩
      cases j with
      | zero => cases hj; exact ⟨x, rfl, val_cells (h.val hv)⟩
      | succ j => exact h2 j i' p (by simpa using hj)
    · cases hp

theorem fill_spec {objs : List AObj} {own : Nat → Prop} {pl : List (Nat × Nat)} : ∀ (ps : List (Nat × List Cell)) (us : List (Nat × Value)) (cs cs' : List Cell) (cells : Array Value), ps.length = us.length →
    (∀ (j : Nat) i p, ps[j]? = some (i, p) → ∃ u, us[j]? = some (i, u) ∧ CReps w objs L own p u.cells.toList) → CReps w objs L own cs cells.toList → afill pl cs ps = some cs' →
    ∃ cells', Instr.fill (pl.toArray[·]?) cells us = some cells' ∧ CReps w objs L own cs' cells'.toList
  | [], [], cs, cs', cells, _, _, hc, hf => by cases hf; exact ⟨cells, rfl, hc⟩
  | [], _ :: _, _, _, _, hl, _, _, _ => by simp at hl
  | _ :: _, [], _, _, _, hl, _, _, _ => by simp at hl
  | (i, p) :: ps, (i', u) :: us, cs, cs', cells, hl, hp, hc, hf => by
    obtain ⟨u', hu, hpu⟩ := hp 0 i p rfl; cases hu; simp only [afill] at hf; split at hf
    · rename_i off n hpl
      cases hb : yes2 (Nat.beq (llen p) n) (Nat.ble (Nat.add off (llen p)) (llen cs)) <;> rw [hb] at hf <;> simp only [cond_true, cond_false] at hf
      · cases hf
      obtain ⟨h1, h2⟩ := yes2_true hb; have e1 : llen p = n := Nat.eq_of_beq_eq_true h1; have e2 : off + llen p ≤ llen cs := Nat.le_of_ble_eq_true h2; simp only [llen_eq] at e1 e2; simp only [lapp_eq, ltake_eq, ldrop_eq, llen_eq] at hf; have l1 := hpu.get.1; have l2 := hc.get.1
      have hus : u.cells.size = n := by rw [← e1, ← l1]; simp
      have hcs : off + u.cells.size ≤ cells.size := by
        have : cells.size = cs.length := by simpa using l2
        omega
      have hset : (u.cells.zipIdx.foldl (fun cs (x : Value × Nat) => cs.setIfInBounds (off + x.2) x.1) cells).toList = cells.toList.take off ++ (u.cells.toList ++ cells.toList.drop (off + p.length)) := by
        have e : u.cells.zipIdx.foldl (fun cs (x : Value × Nat) => cs.setIfInBounds (off + x.2) x.1) cells = (u.cells.toList.zipIdx 0).foldl (fun cs (x : Value × Nat) => cs.setIfInBounds (off + x.2) x.1) cells := by
          rw [← Array.foldl_toList]
          simp
        rw [e]; obtain ⟨g1, g2⟩ := Great.foldl_set off u.cells.toList 0 cells; apply List.ext_getElem?; intro m; rw [Array.getElem?_toList, g2 m]; simp only [Nat.add_zero, Array.length_toList]
        by_cases c1 : m < off
        · rw [if_neg (by omega), List.getElem?_append_left (by simp; omega), List.getElem?_take, if_pos c1, Array.getElem?_toList]
        · by_cases c2 : m < off + u.cells.size
          · rw [if_pos (by omega), List.getElem?_append_right (by simp; omega), List.getElem?_append_left (by simp; omega)]
            congr 1
            simp
            omega
          · rw [if_neg (by omega), List.getElem?_append_right (by simp; omega), List.getElem?_append_right (by simp; omega), List.getElem?_drop, Array.getElem?_toList]
            congr 1
            simp
            omega
      have hnew : CReps w objs L own (cs.take off ++ (p ++ cs.drop (off + p.length))) (u.cells.zipIdx.foldl (fun cs (x : Value × Nat) => cs.setIfInBounds (off + x.2) x.1) cells).toList := by
        rw [hset]; exact (hc.take off).append (hpu.append (hc.drop _))
      obtain ⟨cells', k1, k2⟩ := fill_spec ps us _ cs' _ (by simpa using hl) (fun j i p hj => hp (j + 1) i p (by simpa using hj)) hnew hf; refine ⟨cells', ?_, k2⟩; rw [lat?_eq] at hpl; simp only [Instr.fill, List.getElem?_toArray, hpl, hus]; rw [if_neg (by simp; omega)]
      simpa using k1
    · cases hf

theorem sound_build (h : RelX K S a w L Bs) (T : TabOK Γ P) {t : TypeId} {parts : Array (Nat × Operand)} (ho : o.op = .build t parts) {ps : List (Nat × List Cell)} (hps : partsOf S parts.toList = some ps) {cs : List Cell} (hb : abuild Γ t ps = some cs)
    (hk : k (S.put o.dst (.val (.agg cs))) = some r) : Sound K P o a w k r := by
  unfold abuild at hb; split at hb
  · rename_i fs hu
    split at hb
    · rename_i pl z hpl hz
      unfold Tab.zero at hz; split at hz
      · rename_i zv n b hi
        cases hz; obtain ⟨i, hi1, hi2, hi3, hi4, hi5⟩ := T.info _ _ _ _ hi; obtain ⟨p1, p2⟩ := parts_spec h _ _ hps
        obtain ⟨cells', f1, f2⟩ := fill_spec (w := w) (L := L) (objs := S.objs) (own := Forb K S.objs.length Bs) ps ((parts.map fun (i, x) => (i, a.eval x)).toList) _ cs zv.cells (by simp [p1]) (fun j i p hj => by
          obtain ⟨x, hx1, hx2⟩ := p2 j i p hj; refine ⟨a.eval x, ?_, hx2⟩
          have hx3 : parts[j]? = some (i, x) := by simpa using hx1
          simp [hx3]) (const_cells zv.cells.toList (T.zero1 _ _ _ _ hi) _ _) hb
        obtain ⟨g1, g2⟩ := f2.get
        refine sound_pure h (s := .val (.agg cs)) (v := .agg cells') ⟨cells', rfl, by simpa using g1, fun i c u hc hu => g2 i c u hc (by simpa using hu)⟩ ?_ hk
        have hbuilt : P.built t ((parts.map fun (i, x) => (i, a.eval x)).toList) = some cells' := by
          unfold Program.built; rw [hi1, T.und _ _ hu]; simp only [hi2, places_spec T _ _ hpl]; exact f1
        simp only [execOp, ho, Sem.run_bind, run_build w t _ cells' hbuilt, Result.andThen_ok, Sem.run_pure]
      · cases hz
    · cases hb
  · cases hb

theorem flatN_cons {α : Type} (f : Nat → List α) (n : Nat) : flatN f (n + 1) = f 0 ++ flatN (fun i => f (i + 1)) n := by
  induction n with
  | zero => simp [flatN]
  | succ n ih => rw [flatN_succ, ih, flatN_succ, List.append_assoc]

theorem packMany_spec {e : Bool} {τ : Ty} : ∀ (n : Nat) (cs : List Cell) (us : List Value) (F : List Nat) (xs : List τ.den) (rest : List Cell), DReps e w cs us F → packMany τ n cs = some (xs, rest) →
    xs.length = n ∧ ∃ css Fs us2 F2, us = flatN css n ++ us2 ∧ F = flatN Fs n ++ F2 ∧ (∀ i x, xs[i]? = some x → (css i).length = τ.sz ∧ ERep e w τ x (css i) (Fs i)) ∧ DReps e w rest us2 F2
  | 0, cs, us, F, xs, rest, hd, hp => by
    cases hp; exact ⟨rfl, fun _ => [], fun _ => [], us, F, rfl, rfl, fun i x hi => by simp at hi, hd⟩
  | n + 1, cs, us, F, xs, rest, hd, hp => by
    simp only [packMany] at hp; split at hp
    · rename_i x r1 hx
      split at hp
      · rename_i xs' r2 hm
        cases hp; obtain ⟨vs1, vs2, F1, F2, rfl, rfl, g1, g2⟩ := pack_spec τ _ _ _ _ _ hd hx; obtain ⟨h1, css, Fs, us2, F3, rfl, rfl, h4, h5⟩ := packMany_spec n _ _ _ _ _ g2 hm; refine ⟨by simp [h1], fun i => match i with | 0 => vs1 | i + 1 => css i, fun i => match i with | 0 => F1 | i + 1 => Fs i, us2, F3, by rw [flatN_cons, List.append_assoc], by rw [flatN_cons, List.append_assoc], fun i y hi => ?_, h5⟩
        cases i with
        | zero => cases hi; exact ⟨ERep.len g1, g1⟩
        | succ i => exact h4 i y (by simpa using hi)
      · cases hp
    · cases hp

theorem dense_spec {objs : List AObj} {own : Nat → Prop} {sz : Nat} : ∀ (ps : List (Nat × List Cell)) (us : List (Nat × Value)) (i0 : Nat) (cs : List Cell), ps.length = us.length →
    (∀ (j : Nat) i p, ps[j]? = some (i, p) → ∃ u, us[j]? = some (i, u) ∧ CReps w objs L own p u.cells.toList) → dense sz i0 ps = some cs →
    us = ((us.map (·.2)).zipIdx i0).map (fun x => (x.2, x.1)) ∧ (∀ u ∈ us.map (·.2), u.cells.size = sz) ∧ CReps w objs L own cs ((us.map (·.2)).flatMap fun v => v.cells.toList)
  | [], [], i0, cs, _, _, hd => by cases hd; exact ⟨rfl, by simp, .nil⟩
  | [], _ :: _, _, _, hl, _, _ => by simp at hl
  | _ :: _, [], _, _, hl, _, _ => by simp at hl
  | (j, p) :: ps, (j', u) :: us, i0, cs, hl, hp, hd => by
    obtain ⟨u', hu, hpu⟩ := hp 0 j p rfl; cases hu; simp only [dense] at hd; cases hb : yes2 (Nat.beq i0 j) (Nat.beq (llen p) sz) <;> rw [hb] at hd <;> simp only [cond_true, cond_false] at hd
    · cases hd
    obtain ⟨h1, h2⟩ := yes2_true hb; have e1 : i0 = j := Nat.eq_of_beq_eq_true h1; have e2 : llen p = sz := Nat.eq_of_beq_eq_true h2; rw [llen_eq] at e2; subst e1; split at hd
    · rename_i cs' hd'
      cases hd; obtain ⟨g1, g2, g3⟩ := dense_spec ps us (i0 + 1) cs' (by simpa using hl) (fun j i p hj => hp (j + 1) i p (by simpa using hj)) hd'; refine ⟨?_, ?_, ?_⟩
      · simp only [List.map_cons, List.zipIdx_cons]
        rw [← g1]
      · intro v hv
        simp only [List.map_cons, List.mem_cons] at hv
        rcases hv with rfl | hv
        · have := hpu.get.1
          simp at this
          omega
        · exact g2 v hv
      · rw [lapp_eq]
        simp only [List.map_cons, List.flatMap_cons]; exact hpu.append g3
    · cases hd

theorem sound_buildSlice (h : RelX K S a w L Bs) (T : TabOK Γ P) {t e : TypeId} {len : Nat} {parts : Array (Nat × Operand)} (ho : o.op = .buildSlice t len parts) (ht : Γ.und t = some (.slice e)) {ps : List (Nat × List Cell)} (hps : partsOf S parts.toList = some ps)
    {τ : Ty} {z : τ.den} (hz : zeroOf Γ e = some ⟨τ, z⟩) {cs : List Cell} (hd : dense τ.sz 0 ps = some cs) {cs' : List Cell} {os : List Nat} {b : Bool} (hh : S.hand cs = some (cs', os, b)) {xs : List τ.den} (hm : packMany τ len cs' = some (xs, []))
    (hg : yes2 (Nat.beq (llen ps) len) (yes2 (lnodup os) (Nat.ble (Nat.mul len τ.sz) 16777216)) = true) {m : Nat} (hm2 : isFree S.objs m = true) (hk : k (((os.foldl St.kill S).place m (.row τ xs b)).put o.dst (.val (.one (.own m)))) = some r) : Sound K P o a w k r := by
  obtain ⟨hg1, hg2⟩ := yes2_true hg; obtain ⟨hg3, hg4⟩ := yes2_true hg2
  have e1 : ps.length = len := by rw [← llen_eq]; exact Nat.eq_of_beq_eq_true hg1
  have hnd : os.Nodup := (lnodup_iff _).1 hg3; have hsm : len * τ.sz ≤ 16777216 := Nat.le_of_ble_eq_true hg4; obtain ⟨zv, n, bb, i, hi, hi1, hi2, hi3, hi4, hi5, hpos, _⟩ := zero_rep T hz; obtain ⟨p1, p2⟩ := parts_spec h _ _ hps
  obtain ⟨d1, d2, d3⟩ := dense_spec (w := w) (L := L) (objs := S.objs) (own := Forb K S.objs.length Bs) ps ((parts.map fun (i, x) => (i, a.eval x)).toList) 0 cs (by simp [p1]) (fun j i p hj => by
    obtain ⟨x, hx1, hx2⟩ := p2 j i p hj; refine ⟨a.eval x, ?_, hx2⟩
    have hx3 : parts[j]? = some (i, x) := by simpa using hx1
    simp [hx3]) hd
  have hlen : ((parts.map fun (i, x) => (i, a.eval x)).toList.map (·.2)).length = len := by rw [← e1, p1]; simp
  obtain ⟨F0, q10, q2, q30, q40⟩ := hand_spec h _ _ d3 _ _ _ hh
  have uni : ∃ F, DReps b w cs' (((parts.map fun (i, x) => (i, a.eval x)).toList.map (·.2)).flatMap fun v => v.cells.toList) F ∧ (∀ k ∈ F, ¬ Forb K S.objs.length Bs k ∨ ∃ o ∈ os, k ∈ Bs o) ∧ (b = true → (∀ k, k ∈ F → ∃ o ∈ os, k ∈ Bs o) ∧ (os.Nodup → F.Nodup)) := by
    cases b with
    | true =>
      obtain ⟨G, g1, g2, g3⟩ := q40 rfl; exact ⟨G, g1, fun k hk => .inr (g2 k hk), fun _ => ⟨g2, g3⟩⟩
    | false => exact ⟨F0, q10, q30, fun h => by cases h⟩
  obtain ⟨F, q1, q3, q4⟩ := uni; obtain ⟨m1, css, Fs, us2, F2, m2, m3, m4, m5⟩ := packMany_spec len _ _ _ _ _ q1 hm; cases m5; rw [List.append_nil] at m2 m3
  have hsz : ((parts.map fun (i, x) => (i, a.eval x)).toList.map (·.2)).length * τ.sz = len * τ.sz := by rw [hlen]
  generalize hvals : (parts.map fun (i, x) => (i, a.eval x)).toList.map (·.2) = vals at d1 d2 d3 hlen hsz m2
  have hcl : (vals.flatMap fun v => v.cells.toList).length = len * τ.sz := by rw [m2, flatN_len len (fun i hi => (m4 i _ (List.getElem?_eq_getElem (by omega))).1)]
  have hrun : (Instr.buildSlice t len (parts.map fun (i, x) => (i, a.eval x))).run P w = .ok (.slice (some ⟨w.heap.size, 0, none⟩) len len) (w.alloc (.cells (vals.flatMap fun v => v.cells.toList).toArray e)) := by
    by_cases h0 : len = 0
    · subst h0
      have hv : vals = [] := List.eq_nil_of_length_eq_zero hlen; subst hv
      have hp0 : (parts.map fun (i, x) => (i, a.eval x)).toList = [] := by rw [d1]; rfl
      simp only [Instr.buildSlice, Sem.run_bind, run_underlying (T.und _ _ ht), sizeOf, typeInfo, Result.andThen_ok, hp0]
      simp [Instr.fill, newRow, hi1, Array.range_zero']
    · refine run_buildSlice w t e len _ _ i zv (T.und _ _ ht) hi1 hi2 (by rw [hi3]; omega) (by rw [hi3]; exact Nat.ne_of_gt (Nat.mul_pos (by omega) hpos)) ?_
      rw [hi3]; have := Great.fill_whole hpos vals ((Array.range (len * τ.sz)).map (zv.cells[· % zv.cells.size]!)) d2 (by simp [hlen]); rw [← d1] at this; exact this
  obtain ⟨L', Bs', R⟩ := h.newRow (w' := w.alloc (.cells (vals.flatMap fun v => v.cells.toList).toArray e)) (World.grownBy_alloc w _ none) os τ xs b len (vals.flatMap fun v => v.cells.toList).toArray e (0, 0) css Fs
    (heap_alloc_new w _) (.inl rfl) (by omega) (by
      simp only [maxLen]; have : len ≤ len * τ.sz := Nat.le_mul_of_pos_right _ hpos
      omega) (by simpa using hcl) (by
      rw [m1, List.take_of_length_le (by simpa using Nat.le_of_eq hcl)]
      exact m2) m4
    (fun k hk => by
      rw [m1] at hk
      rcases q3 k (by rw [m3]; exact hk) with h1 | ⟨q, h1, h2⟩
      · exact .inl h1
      · obtain ⟨_, _, _, h3⟩ := q2 q h1
        exact .inr ⟨q, h1, (List.getElem?_eq_some_iff.1 h3).1, h2⟩)
    (fun hb => by
      rw [m1]; obtain ⟨h2, h3⟩ := q4 hb; rw [m3] at h2 h3; refine ⟨fun k hk => ?_, h3 hnd⟩; obtain ⟨q, h4, h5⟩ := h2 k hk; obtain ⟨_, _, _, h6⟩ := q2 q h4
      exact ⟨q, h4, (List.getElem?_eq_some_iff.1 h6).1, h5⟩) hm2 o.dst
  rw [m1] at R; refine ⟨_, hk, fun _ _ hn => upon_value ?_ (hn _ _ R.rel)⟩; simp only [execOp, ho, Sem.run_bind, hrun, Result.andThen_ok, Sem.run_pure]

theorem sound_lenStr (h : RelX K S a w L Bs) (T : TabOK Γ P) {c : Call} (ho : o.op = .call c) (hcb : c.callee = .builtin .len) {x : Operand} (hargs : c.args = #[x]) {t : TypeId} (hts : c.argTypes = #[t]) (ht : Γ.und t = some .string) {b : ByteArray} (hx : S.val? x = some (.one (.dat .str b)))
    (hk : k (S.put o.dst (.val (.one (.dat (.int .i64) ((b.size : Nat) : Int))))) = some r) : Sound K P o a w k r := by
  have e := str_inv (h.val hx).2
  refine sound_pure h (s := .val (.one (.dat (.int .i64) ((b.size : Nat) : Int)))) (v := .int .i64 ((b.size : Nat) : Int)) (intCell _ _) ?_ hk
  simp [execOp, ho, hcb, hargs, hts, resolve, invoke, builtin, Builtin.len_, run_underlying (T.und _ _ ht), e, goInt]

theorem sound_lenRow (h : RelX K S a w L Bs) (T : TabOK Γ P) {c : Call} (ho : o.op = .call c) (hcb : c.callee = .builtin .len) {x : Operand} (hargs : c.args = #[x]) {t e : TypeId} (hts : c.argTypes = #[t]) (ht : Γ.und t = some (.slice e)) {v : Cell} (hx : S.val? x = some (.one v)) {τ : Ty} {xs : List τ.den} (hr : S.rowOf v = some ⟨τ, xs⟩)
    (hk : k (S.put o.dst (.val (.one (.dat (.int .i64) ((xs.length : Nat) : Int))))) = some r) : Sound K P o a w k r := by
  obtain ⟨css, Fs, ⟨A, cap, hv, _⟩, _⟩ := row_src h (h.val hx).2 hr
  refine sound_pure h (s := .val (.one (.dat (.int .i64) ((xs.length : Nat) : Int)))) (v := .int .i64 ((xs.length : Nat) : Int)) (intCell _ _) ?_ hk
  simp [execOp, ho, hcb, hargs, hts, resolve, invoke, builtin, Builtin.len_, run_underlying (T.und _ _ ht), hv, goInt]

theorem sound_lenNil (h : RelX K S a w L Bs) (T : TabOK Γ P) {c : Call} (ho : o.op = .call c) (hcb : c.callee = .builtin .len) {x : Operand} (hargs : c.args = #[x]) {t e : TypeId} (hts : c.argTypes = #[t]) (ht : Γ.und t = some (.slice e)) (hx : S.val? x = some (.one .nilS))
    (hk : k (S.put o.dst (.val (.one (.dat (.int .i64) (0 : Int))))) = some r) : Sound K P o a w k r := by
  have hv : a.eval x = .slice none 0 0 := (h.val hx).2
  refine sound_pure h (s := .val (.one (.dat (.int .i64) (0 : Int)))) (v := .int .i64 0) (intCell _ _) ?_ hk
  simp [execOp, ho, hcb, hargs, hts, resolve, invoke, builtin, Builtin.len_, run_underlying (T.und _ _ ht), hv, goInt]

theorem sound_min (h : RelX K S a w L Bs) {c : Call} (ho : o.op = .call c) (hcb : c.callee = .builtin .min) {x y : Operand} (hargs : c.args = #[x, y]) {q q' : IntKind} {m n : Int} (hx : S.val? x = some (.one (.dat (.int q) m))) (hy : S.val? y = some (.one (.dat (.int q') n)))
    (hk : k (S.put o.dst (.val (.one (.dat (.int q) (if n < m then n else m))))) = some r) : Sound K P o a w k r := by
  have e1 := int_inv (h.val hx).2; have e2 := int_inv (h.val hy).2
  refine sound_pure h (s := .val (.one (.dat (.int q) (if n < m then n else m)))) (v := .int q (if n < m then n else m)) (intCell _ _) ?_ hk
  simp [execOp, ho, hcb, hargs, resolve, invoke, builtin, Builtin.min_, Builtin.min2, e1, e2]

theorem sound_max (h : RelX K S a w L Bs) {c : Call} (ho : o.op = .call c) (hcb : c.callee = .builtin .max) {x y : Operand} (hargs : c.args = #[x, y]) {q q' : IntKind} {m n : Int} (hx : S.val? x = some (.one (.dat (.int q) m))) (hy : S.val? y = some (.one (.dat (.int q') n)))
    (hk : k (S.put o.dst (.val (.one (.dat (.int q) (if m < n then n else m))))) = some r) : Sound K P o a w k r := by
  have e1 := int_inv (h.val hx).2; have e2 := int_inv (h.val hy).2
  refine sound_pure h (s := .val (.one (.dat (.int q) (if m < n then n else m)))) (v := .int q (if m < n then n else m)) (intCell _ _) ?_ hk
  simp [execOp, ho, hcb, hargs, resolve, invoke, builtin, Builtin.max_, Builtin.max2, e1, e2]
end
end Go.Proofs.GR

namespace Go.Proofs.GR

section
variable {K : Start} {P : Program} {Γ : Tab} {o : Oper} {S : St} {a : Act} {w : World} {L : Nat → Value} {Bs : Nat → List Nat} {ρ : Type} {k : St → Option ρ} {r : ρ} {C : Orc} {m : Nat}

theorem place_set {S : St} {q : Nat} (h : q < S.objs.length) (x : AObj) : S.place q x = S.setObj q x := by
  simp only [St.place, St.setObj, lsetp]
  congr 2
  rw [lpad_eq, show Nat.succ q - S.objs.length = 0 by omega]
  simp

theorem bif_some {b : Bool} {x : Option ρ} (h : (bif b then x else none) = some r) : b = true ∧ x = some r := by
  cases b with
  | true => exact ⟨rfl, h⟩
  | false => cases h

theorem eff_pick (h : RelX K S a w L Bs) {c x y : Operand} (ho : o.op = .pick c x y) (hk : aeff Γ C o m S (fun e => k (S.apply o.dst e)) = some r) : Sound K P o a w k r := by
  simp only [aeff, ho] at hk; split at hk
  · rename_i v hc
    change Bool at v
    have e := bool_inv (h.cell hc (by simp)).2
    have hrun : (execOp a.eval o).run P w = .ok (.value (if v then a.eval x else a.eval y)) w := by
      simp [execOp, ho, e, asBool]
    split at hk
    · rename_i b1 b2 h1 h2
      have e1 := bool_inv (h.cell h1 (by simp)).2; have e2 := bool_inv (h.cell h2 (by simp)).2
      refine sound_pure h (s := .val (.one (.dat .bool (bif v then b1 else b2)))) (v := if v then a.eval x else a.eval y) ?_ hrun hk
      rw [e1, e2]; cases v <;> exact boolCell_rep _
    · cases v with
      | true => exact sound_pure h (h.get x) (by simpa using hrun) hk
      | false => exact sound_pure h (h.get y) (by simpa using hrun) hk
  · cases hk

theorem eff_nilCheck (h : RelX K S a w L Bs) {x : Operand} (ho : o.op = .nilCheck x) (hk : aeff Γ C o m S (fun e => k (S.apply o.dst e)) = some r) : Sound K P o a w k r := by
  simp only [aeff, ho] at hk; split at hk
  · rename_i hc
    split at hk
    · rename_i hb
      exact sound_nilCheck h x ho hc (by simp [hb]) hk
    · cases hk
  · rename_i hc
    split at hk
    · rename_i hb
      exact sound_nilCheck h x ho hc (by simp [hb]) hk
    · cases hk
  · rename_i hc
    exact sound_nilCheck h x ho hc (by simp) hk
  · rename_i hc
    exact sound_nilCheck h x ho hc (by simp) hk
  · rename_i hc
    exact sound_nilCheck h x ho hc (by simp) hk
  · cases hk

theorem eff_convert (h : RelX K S a w L Bs) (T : TabOK Γ P) {s t : TypeId} {x : Operand} (ho : o.op = .convert s t x) (hk : aeff Γ C o m S (fun e => k (S.apply o.dst e)) = some r) : Sound K P o a w k r := by
  simp only [aeff, ho] at hk; split at hk
  · rename_i ds q q' n hs ht hx
    exact sound_convInt h T s t x ho ⟨_, hs⟩ ht hx hk
  · rename_i ds b hs ht hx
    exact sound_convStr h T s t x ho ⟨_, hs⟩ ht hx hk
  · rename_i e hs ht hne
    split at hk
    · rename_i b he hr
      unfold rowStr at hr; split at hr
      · rename_i xs hrow
        cases hr; exact sound_toStr h T ho hs he ht rfl hrow hk
      · cases hr
    · cases hk
  · rename_i ds e b hs ht hx
    split at hk
    · rename_i he
      obtain ⟨hc, hk⟩ := chk_some hk; obtain ⟨hm, hk⟩ := newAt_some hk; exact sound_toBytes h T ho hs ht he hx (of_decide_eq_true hc) hm hk
    · cases hk
  · rename_i e0 e q hs ht hx
    split at hk
    · rename_i y ys d he hq
      obtain ⟨hb, hk2⟩ := bif_some hk; have hst : s = t := Nat.eq_of_beq_eq_true hb; subst hst; exact sound_convMark h T ho ht he hx hq hk2
    · cases hk
  · cases hk

theorem eff_slice (h : RelX K S a w L Bs) (T : TabOK Γ P) {t : TypeId} {x : Operand} {lo hi : Option Operand} (ho : o.op = .slice t x lo hi none) (hk : aeff Γ C o m S (fun e => k (S.apply o.dst e)) = some r) : Sound K P o a w k r := by
  simp only [aeff, ho] at hk
  have hns : ∀ n, elemSize Γ t = some n → Γ.und t ≠ some .string := by
    intro n he hu; unfold elemSize at he; rw [hu] at he; cases he
  split at hk
  · rename_i s hu hx
    split at hk
    · rename_i g l n hb
      exact sound_sliceStr h T ho hu hx hb hk
    · cases hk
  · rename_i sz τ xs he hx
    have hkb := bif_some hk; clear hk; obtain ⟨hb1, hk⟩ := hkb; have e1 : sz = τ.sz := Nat.eq_of_beq_eq_true hb1; subst e1; split at hk
    · rename_i g l n hb
      exact sound_sliceDat h T ho (hns _ he) he hx hb hk
    · cases hk
  · rename_i sz q he hx
    split at hk
    · rename_i τ xs d hq
      have hkb := bif_some hk; clear hk; obtain ⟨hb1, hk⟩ := hkb; have e1 : sz = τ.sz := Nat.eq_of_beq_eq_true hb1; subst e1; split at hk
      · rename_i g l n hb
        exact sound_sliceOwn h T ho (hns _ he) he hx hq hb hk
      · cases hk
    · cases hk
  · rename_i sz q l0 n0 he hx
    split at hk
    · rename_i τ xs d hq
      have hkb := bif_some hk; clear hk; obtain ⟨hb1, hk⟩ := hkb; have e1 : sz = τ.sz := Nat.eq_of_beq_eq_true hb1; subst e1; split at hk
      · rename_i g l n hb
        exact sound_sliceWin h T ho (hns _ he) he hx hq hb hk
      · cases hk
    · cases hk
  · cases hk

theorem eff_fieldAddr (h : RelX K S a w L Bs) (T : TabOK Γ P) {s : TypeId} {x : Operand} {f : Nat} (ho : o.op = .fieldAddr s x f) (hk : aeff Γ C o m S (fun e => k (S.apply o.dst e)) = some r) : Sound K P o a w k r := by
  simp only [aeff, ho] at hk; split at hk
  · rename_i fl hf
    split at hk
    · cases hk
    · rename_i n hn
      cases hz : Nat.beq n 0 <;> rw [hz] at hk <;> simp only [cond_true, cond_false] at hk
      · have hpos := beq0_false hz
        split at hk
        · rename_i q off hx
          split at hk
          · rename_i t cs hq
            exact sound_fieldAddr h T s x f ho hf hn hpos hx (fun v hv => field_ptr (lget_obj hq (by simp)) v hv) (by simp) hk
          · cases hk
        · rename_i q i off hx
          split at hk
          · rename_i t xs d hq
            exact sound_fieldAddr h T s x f ho hf hn hpos hx (fun v hv => field_eptr (lget_obj hq (by simp)) v hv) (by simp) hk
          · cases hk
        · rename_i τ y hx
          split at hk
          · rename_i τ' z hp
            exact sound_fieldAddr h T s x f ho hf hn hpos hx (fun v hv => field_rptr hp hpos v hv) (by simp) hk
          · cases hk
        · cases hk
      · cases hk
  · cases hk

theorem eff_indexAddr (h : RelX K S a w L Bs) (T : TabOK Γ P) {t : TypeId} {x y : Operand} (ho : o.op = .indexAddr t x y) (hk : aeff Γ C o m S (fun e => k (S.apply o.dst e)) = some r) : Sound K P o a w k r := by
  simp only [aeff, ho] at hk; split at hk
  · rename_i sz j he hy
    split at hk
    · rename_i τ xs hx
      have hkb := bif_some hk; clear hk; obtain ⟨hb1, hk⟩ := hkb; have e1 : sz = τ.sz := Nat.eq_of_beq_eq_true hb1; subst e1; exact sound_indexDat h T ho he hx hy hk
    · rename_i q hx
      split at hk
      · rename_i τ xs d hq
        have hkb := bif_some hk; clear hk; obtain ⟨hb1, hk⟩ := hkb; have e1 : sz = τ.sz := Nat.eq_of_beq_eq_true hb1; subst e1; exact sound_indexOwn h T ho he hx hq hy hk
      · cases hk
    · rename_i q l0 n0 hx
      split at hk
      · rename_i τ xs d hq
        have hkb := bif_some hk; clear hk; obtain ⟨hb1, hk⟩ := hkb; have e1 : sz = τ.sz := Nat.eq_of_beq_eq_true hb1; subst e1; exact sound_indexWin h T ho he hx hq hy hk
      · cases hk
    · cases hk
  · cases hk

theorem eff_store (h : RelX K S a w L Bs) (T : TabOK Γ P) {t : TypeId} {x y : Operand} (ho : o.op = .store t y x) (hk : aeff Γ C o m S (fun e => k (S.apply o.dst e)) = some r) : Sound K P o a w k r := by
  simp only [aeff, ho] at hk; split at hk
  · rename_i v hv
    obtain ⟨hsz, hk⟩ := bif_some hk; unfold St.storeEff at hk; split at hk
    · rename_i q off hy
      split at hk
      · rename_i bt cs hq
        obtain ⟨hb, hk⟩ := bif_some hk; have hlt := (List.getElem?_eq_some_iff.1 (lget_obj hq (by simp))).1; refine sound_storeBox h T ho hv hsz hy hq hb ?_; rw [← place_set hlt]; exact hk
      · cases hk
    · rename_i q i off hy
      split at hk
      · cases hk
      · rename_i vs' os b hh
        split at hk
        · rename_i τ xs d hq
          split at hk
          · rename_i z0 hz0
            obtain ⟨z, hz⟩ := putAt_any τ _ (xs.getD i τ.dflt) _ _ _ hz0; rw [rowPut_eq hz] at hk; obtain ⟨hos, hk⟩ := bif_some hk; have hlt := (List.getElem?_eq_some_iff.1 (lget_obj hq (by simp))).1; refine sound_storeRow h T ho hv hsz hy hq hh hz hos ?_; rw [← place_set (by rw [kills_len]; exact hlt)]; exact hk
          · cases hk
        · cases hk
    · cases hk
  · cases hk

theorem toVals_one {x : Operand} {vs : List Val} (h : toVals S [x] = some vs) : ∃ v, S.val? x = some v ∧ vs = [v] := by
  simp only [toVals] at h; split at h
  · rename_i v vs' h1 h2
    cases h2; cases h; exact ⟨v, h1, rfl⟩
  · cases h
theorem toVals_len : ∀ (l : List Operand) (vs : List Val), toVals S l = some vs → vs.length = l.length
  | [], vs, h => by cases h; rfl
  | x :: r, vs, h => by
    simp only [toVals] at h; split at h
    · rename_i v vs' h1 h2
      cases h
      simp [toVals_len r _ h2]
    · cases h

theorem args_one {l : Array Operand} {v : Val} (h : toVals S l.toList = some [v]) : ∃ x, l = #[x] ∧ S.val? x = some v := by
  obtain ⟨l⟩ := l; have hl := toVals_len _ _ h
  cases l with
  | nil => simp at hl
  | cons x r =>
    cases r with
    | nil =>
      obtain ⟨v', h1, h2⟩ := toVals_one h; cases h2; exact ⟨x, rfl, h1⟩
    | cons _ _ => simp at hl
theorem args_two {l : Array Operand} {v u : Val} (h : toVals S l.toList = some [v, u]) : ∃ x y, l = #[x, y] ∧ S.val? x = some v ∧ S.val? y = some u := by
  obtain ⟨l⟩ := l; have hl := toVals_len _ _ h
  cases l with
  | nil => simp at hl
  | cons x r =>
    cases r with
    | nil => simp at hl
    | cons y r =>
      cases r with
      | cons _ _ => simp at hl
      | nil =>
        simp only [toVals] at h; split at h
        · rename_i v1 vs1 h1 h2
          split at h2
          · rename_i v2 vs2 h3 h4
            cases h4; cases h2; cases h; exact ⟨x, y, rfl, h1, h3⟩
          · cases h2
        · cases h
theorem arr_one {α : Type} {l : Array α} {x : α} (h : l.toList = [x]) : l = #[x] := by cases l; simp_all

theorem eff_builtin (h : RelX K S a w L Bs) (T : TabOK Γ P) {c : Call} (ho : o.op = .call c) {b : Builtin} (hcb : c.callee = .builtin b) {vs : List Val} (hvs : toVals S c.args.toList = some vs) (hk : abuiltin Γ b c.argTypes.toList vs m S (fun e => k (S.apply o.dst e)) = some r) : Sound K P o a w k r := by
  unfold abuiltin at hk; split at hk
  · rename_i t s hts
    obtain ⟨x, ha, hx⟩ := args_one hvs; split at hk
    · rename_i hu
      exact sound_lenStr h T ho hcb ha (arr_one hts) hu hx hk
    · cases hk
  · rename_i t hts
    obtain ⟨x, ha, hx⟩ := args_one hvs; split at hk
    · rename_i e hu
      exact sound_lenNil h T ho hcb ha (arr_one hts) hu hx hk
    · cases hk
  · rename_i t v hn1 hn2 hts
    obtain ⟨x, ha, hx⟩ := args_one hvs; split at hk
    · rename_i e τ xs hu hr
      exact sound_lenRow h T ho hcb ha (arr_one hts) hu hx hr hk
    · cases hk
  · obtain ⟨x, y, ha, hx, hy⟩ := args_two hvs
    exact sound_min h ho hcb ha hx hy hk
  · obtain ⟨x, y, ha, hx, hy⟩ := args_two hvs
    exact sound_max h ho hcb ha hx hy hk
  · obtain ⟨x, y, ha, hx, hy⟩ := args_two hvs
    have hts : ∃ t0 t1, c.argTypes = #[t0, t1] := by
      unfold aappend at hk; split at hk
      · rename_i t0 t1 hts
        refine ⟨t0, t1, ?_⟩
        cases hh : c.argTypes with
        | mk l => rw [hh] at hts; simp at hts; rw [hts]
      · cases hk
    obtain ⟨t0, t1, hts⟩ := hts
    refine sound_append h T ho hcb ha hts hx hy (m := m) ?_
    rw [hts] at hk; exact hk
  · cases hk

theorem aeff_sound (h : RelX K S a w L Bs) (T : TabOK Γ P)
    (HC : ∀ c f vs, o.op = .call c → c.callee = .value f → toVals S c.args.toList = some vs → aeff Γ C o m S (fun e => k (S.apply o.dst e)) = some r → Sound K P o a w k r)
    (hk : aeff Γ C o m S (fun e => k (S.apply o.dst e)) = some r) : Sound K P o a w k r := by
  have hk0 := hk
  cases ho : o.op with
  | move x =>
    simp only [aeff, ho] at hk; exact sound_move h x (.inl ho) hk
  | assign x =>
    simp only [aeff, ho] at hk; exact sound_move h x (.inr ho) hk
  | pick c x y => exact eff_pick h ho hk
  | alloc t =>
    simp only [aeff, ho] at hk; split at hk
    · rename_i z hz
      obtain ⟨hm, hk⟩ := newAt_some hk; exact sound_alloc h T t ho hz hm hk
    · cases hk
  | box t x =>
    simp only [aeff, ho] at hk; split at hk
    · rename_i v hv
      obtain ⟨_, hk⟩ := bif_some hk; obtain ⟨hm, hk⟩ := newAt_some hk; exact sound_box h t x ho hv hm hk
    · cases hk
  | load t x =>
    simp only [aeff, ho] at hk; split at hk
    · cases hk
    · rename_i n hn
      split at hk
      · rename_i cs hl
        split at hk
        · rename_i v hv
          exact sound_load h T t x ho hn hl hv hk
        · cases hk
      · cases hk
  | store t y x => exact eff_store h T ho hk
  | nilCheck x => exact eff_nilCheck h ho hk
  | binOp op t x y u =>
    simp only [aeff, ho] at hk; split at hk
    · rename_i va vb hx hy
      split at hk
      · rename_i g c hb
        exact sound_bin h T op t u x y ho hx hy hb hk
      · cases hk
    · cases hk
  | unOp op t x =>
    simp only [aeff, ho] at hk; split at hk
    · rename_i c hc
      exact sound_un h op t x ho hc hk
    · cases hk
  | convert s t x => exact eff_convert h T ho hk
  | makeFunc fn first captured =>
    simp only [aeff, ho] at hk; split at hk
    · rename_i f caps hf hc
      exact sound_makeFunc h f first captured ho hf hc hk
    · cases hk
  | makeSlice t l c =>
    simp only [aeff, ho] at hk; split at hk
    · rename_i e x y ht hl hc
      split at hk
      · rename_i τ z nb hz hnb
        obtain ⟨hg, hk⟩ := chk_some hk; obtain ⟨hm, hk⟩ := newAt_some hk; simp only [Bool.and_eq_true, decide_eq_true_eq] at hg; exact sound_makeSlice h T ho ht hl hc hz hnb hg.1.1.1 hg.1.1.2 hg.1.2 hg.2 hm hk
      · cases hk
    · cases hk
  | slice t x lo hi mx =>
    cases mx with
    | none => exact eff_slice h T ho hk
    | some _ => simp only [aeff, ho] at hk; cases hk
  | fieldAddr s x f => exact eff_fieldAddr h T ho hk
  | field t x f =>
    simp only [aeff, ho] at hk; split at hk
    · rename_i fl cs hf hx
      split at hk
      · cases hk
      · rename_i n hn
        obtain ⟨hb, hk⟩ := bif_some hk; split at hk
        · rename_i v hv
          have hle : fl.offset + n ≤ cs.length := by have := Nat.le_of_ble_eq_true hb; rw [llen_eq] at this; exact this
          rw [ltake_eq, ldrop_eq] at hv; exact sound_field h T t x f ho hf hx hn hle hv hk
        · cases hk
    · cases hk
  | indexAddr t x i => exact eff_indexAddr h T ho hk
  | index t x i =>
    simp only [aeff, ho] at hk; split at hk
    · rename_i s n ht hx hy
      obtain ⟨hg, hk⟩ := chk_some hk; simp only [Bool.and_eq_true, decide_eq_true_eq] at hg; exact sound_index h T t x i ho ht hx hy hg.1 hg.2 hk
    · cases hk
  | extract x i =>
    simp only [aeff, ho] at hk; split at hk
    · rename_i vs hx
      split at hk
      · rename_i v hv
        rw [lat?_eq] at hv; exact sound_extract h x i ho hx hv hk
      · cases hk
    · cases hk
  | build t parts =>
    simp only [aeff, ho] at hk; split at hk
    · rename_i ps hps
      split at hk
      · rename_i cs hb
        exact sound_build h T ho hps hb hk
      · cases hk
    · cases hk
  | buildSlice t len parts =>
    simp only [aeff, ho] at hk; split at hk
    · rename_i e ps ht hps
      split at hk
      · rename_i τ z hz
        split at hk
        · rename_i cs hd
          split at hk
          · rename_i cs' os b hh
            split at hk
            · rename_i xs hm
              obtain ⟨hg, hk⟩ := bif_some hk; obtain ⟨hm2, hk⟩ := newAt_some hk; exact sound_buildSlice h T ho ht hps hz hd hh hm hg hm2 hk
            · cases hk
          · cases hk
        · cases hk
      · cases hk
    · cases hk
  | call c =>
    simp only [aeff, ho] at hk; split at hk
    · cases hk
    · rename_i vs hvs
      split at hk
      · rename_i b hcb
        exact eff_builtin h T ho hcb hvs hk
      · rename_i f hf
        exact HC c f vs ho hf hvs hk0
      · cases hk
  | _ => simp only [aeff, ho] at hk; cases hk
end
end Go.Proofs.GR

namespace Go.Proofs.GR

def AObj.solid : AObj → Bool
  | .row _ _ _ => true
  | .box _ _ => true
  | .lent _ _ _ _ _ => true
  | _ => false

def selB (objs' : List AObj) (src : Nat → Nat) (Bs : Nat → List Nat) (i : Nat) : List Nat :=
  match objs'[i]? with
  | some x => if x.solid then Bs (src i) else []
  | none => []

theorem Turn.same (own : Nat → Prop) (w : World) : Turn own w w := Turn.refl own w

theorem RPtr.less {w : World} {own own' : Nat → Prop} {t : Ty} {x : t.den} {v : Value} (h : RPtr w own t x v) (ho : ∀ b, own' b → own b) : RPtr w own' t x v :=
  h.mono (Turn.refl own w) (fun b hb => .inl (ho b hb))

theorem RelW.sel {K K' : Start} {objs objs' : List AObj} {L L' : Nat → Value} {Bs : Nat → List Nat} {w : World} (h : RelW K objs L Bs w) (src : Nat → Nat)
    (hin : ∀ i x, objs'[i]? = some x → x.solid = true → src i < objs.length)
    (hinj : ∀ i j x y, objs'[i]? = some x → objs'[j]? = some y → x.solid = true → y.solid = true → src i = src j → i = j)
    (hL : ∀ i x, objs'[i]? = some x → x.solid = true → L' i = L (src i))
    (hforb : ∀ b, Forb K' objs'.length (selB objs' src Bs) b → Forb K objs.length Bs b)
    (hkind : ∀ (i : Nat) (x : AObj), objs'[i]? = some x → match x with
      | .row t xs d => objs[src i]? = some (.row t xs d)
      | .lent _ _ _ _ _ => False
      | .box t cs' => ∃ cs, objs[src i]? = some (.box t cs) ∧ cs'.length = cs.length ∧ ∀ (j : Nat) c' c u, cs'[j]? = some c' → cs[j]? = some c → CellRep w objs L (Forb K objs.length Bs) c u → CellRep w objs' L' (Forb K' objs'.length (selB objs' src Bs)) c' u
      | _ => True) : RelW K' objs' L' (selB objs' src Bs) w := by
  have hb : ∀ i x, objs'[i]? = some x → x.solid = true → selB objs' src Bs i = Bs (src i) := by
    intro i x hi hs
    simp [selB, hi, hs]
  have hb0 : ∀ i b, b ∈ selB objs' src Bs i → ∃ x, objs'[i]? = some x ∧ x.solid = true ∧ b ∈ Bs (src i) := by
    intro i b hbi; unfold selB at hbi; split at hbi
    · rename_i x hx
      split at hbi
      · exact ⟨x, hx, by assumption, hbi⟩
      · simp at hbi
    · simp at hbi
  refine ⟨fun i x hx => ?_, flatN_nodup (fun i hi => ?_) (fun i j hi hj hij b hbi hbj => ?_), fun b hbo => ?_⟩
  · have hk := hkind i x hx
    cases x with
    | dead => show selB objs' src Bs i = []; simp [selB, hx, AObj.solid]
    | hole => show selB objs' src Bs i = []; simp [selB, hx, AObj.solid]
    | lent _ _ _ _ _ => exact hk.elim
    | row t xs d =>
      rw [hb i _ hx rfl]; obtain ⟨css, Fs, h1, h2, h3⟩ := h.obj _ _ hk; refine ⟨css, Fs, by rw [hL i _ hx rfl]; exact h1, h2, ?_⟩; rw [hL i _ hx rfl]; cases d <;> simp only [Bool.false_eq_true, if_false, if_true] at h3 ⊢
      · exact ⟨h3.1, fun b hb hf => h3.2 b hb (hforb b hf)⟩
      · exact h3
    | box t cs' =>
      obtain ⟨cs, hc1, hc2, hc3⟩ := hk; rw [hb i _ hx rfl]; obtain ⟨b, cells, h1, h2, h3, h4, h5⟩ := h.obj _ _ hc1; refine ⟨b, cells, by rw [hL i _ hx rfl]; exact h1, h2, by omega, h4, fun j c' v hj hv => ?_⟩
      have hjl : j < cs.length := by rw [← hc2]; exact (List.getElem?_eq_some_iff.1 hj).1
      obtain ⟨h6, h7⟩ := h5 j _ v (List.getElem?_eq_getElem hjl) hv; exact ⟨h6, hc3 j c' _ v hj (List.getElem?_eq_getElem hjl) h7⟩
  · unfold selB
    split
    · rename_i x hx
      split
      · exact flatN_nodup_at h.nodup (hin i x hx (by assumption))
      · exact List.nodup_nil
    · exact List.nodup_nil
  · obtain ⟨x, hx, hxs, hbx⟩ := hb0 i b hbi
    obtain ⟨y, hy, hys, hby⟩ := hb0 j b hbj; exact flatN_disj h.nodup (hin i x hx hxs) (hin j y hy hys) (fun e => hij (hinj i j x y hx hy hxs hys e)) b hbx hby
  · obtain ⟨i, hi, hbi⟩ := mem_flatN.1 hbo
    obtain ⟨x, hx, hxs, hbx⟩ := hb0 i b hbi; exact h.lt b (mem_flatN.2 ⟨src i, hin i x hx hxs, hbx⟩)

theorem selB_own {objs' : List AObj} {src : Nat → Nat} {Bs : Nat → List Nat} {n : Nat} (hin : ∀ i x, objs'[i]? = some x → x.solid = true → src i < n) : ∀ b, Own objs'.length (selB objs' src Bs) b → Own n Bs b := by
  intro b hb; obtain ⟨i, hi, hbi⟩ := mem_flatN.1 hb; unfold selB at hbi; split at hbi
  · rename_i x hx
    split at hbi
    · exact mem_flatN.2 ⟨src i, hin i x hx (by assumption), hbi⟩
    · simp at hbi
  · simp at hbi

theorem forceL_eq {α β : Type} {f : α → (α → β) → β} (hf : ∀ a k, f a k = k a) : ∀ (l : List α) (k : List α → β), forceL f l k = k l
  | [], k => rfl
  | a :: l, k => by simp only [forceL, hf]; rw [forceL_eq hf l]
theorem forceN_eq {β : Type} : ∀ (n : Nat) (k : Nat → β), forceN n k = k n
  | 0, k => rfl
  | n + 1, k => by simp only [forceN]; rw [forceN_eq n]
theorem forceCell_eq {β : Type} (c : Cell) (k : Cell → β) : forceCell c k = k c := by
  cases c <;> simp only [forceCell, forceN_eq]; rw [forceL_eq (fun a k => by simp only)]
theorem forceVal_eq {β : Type} (v : Val) (k : Val → β) : forceVal v k = k v := by
  cases v with
  | one c => simp only [forceVal, forceCell_eq]
  | agg cs => simp only [forceVal]; rw [forceL_eq forceCell_eq]
theorem forceSlot_eq {β : Type} (s : Slot) (k : Slot → β) : forceSlot s k = k s := by
  cases s with
  | nix => rfl
  | val v => simp only [forceSlot, forceVal_eq]
  | tup vs => simp only [forceSlot]; rw [forceL_eq forceVal_eq]
theorem forceObj_eq {β : Type} (x : AObj) (k : AObj → β) : forceObj x k = k x := by
  cases x with
  | box t cs => simp only [forceObj]; rw [forceL_eq forceCell_eq]
  | lent t xs i off m => simp only [forceObj, forceN_eq]
  | _ => rfl
theorem force_eq {β : Type} (S : St) (k : St → β) : S.force k = k S := by
  simp only [St.force]; rw [forceL_eq forceSlot_eq, forceL_eq forceObj_eq]

theorem forceNs_eq {β : Type} (l : List Nat) (k : List Nat → β) : forceL forceN l k = k l := forceL_eq forceN_eq l k
theorem addIdsK_eq {β : Type} : ∀ (l acc : List Nat) (k : List Nat → β), addIdsK acc l k = k (addIds acc l)
  | [], acc, k => rfl
  | i :: r, acc, k => by
    simp only [addIdsK, addIds, forceN_eq, forceNs_eq]; cases lhas acc i
    · exact addIdsK_eq r _ k
    · exact addIdsK_eq r _ k
theorem foldIdsK_eq {α β : Type} (f : α → List Nat) : ∀ (l : List α) (acc : List Nat) (k : List Nat → β), foldIdsK f l acc k = k (l.foldl (fun acc s => addIds acc (f s)) acc)
  | [], acc, k => rfl
  | a :: l, acc, k => by
    simp only [foldIdsK, List.foldl_cons, addIdsK_eq]; exact foldIdsK_eq f l _ k
theorem canonF_eq {β : Type} (S : St) (keep : Nat) (live : List Tmp) (k : St → β) : S.canonF keep live k = k (S.canon keep live) := by
  unfold St.canonF St.canon St.idsOn St.idsOf; simp only [forceNs_eq, forceL_eq forceSlot_eq, foldIdsK_eq, force_eq]

theorem lidx_get : ∀ (ids : List Nat) (o : Nat), o ∈ ids → ids[lidx ids o]? = some o
  | [], o, h => by simp at h
  | a :: l, o, h => by
    simp only [lidx]
    cases hb : Nat.beq a o with
    | true => simp [Nat.eq_of_beq_eq_true hb]
    | false =>
      have hne : a ≠ o := by rintro rfl; simp at hb
      have ho : o ∈ l := by
        rcases List.mem_cons.1 h with h | h
        · exact absurd h.symm hne
        · exact h
      simpa using lidx_get l o ho

theorem addIds_spec : ∀ (l acc : List Nat), acc.Nodup → (addIds acc l).Nodup ∧ ∃ r, addIds acc l = acc ++ r
  | [], acc, h => ⟨h, [], by simp [addIds]⟩
  | i :: r, acc, h => by
    simp only [addIds]
    cases hb : lhas acc i with
    | true => exact addIds_spec r acc h
    | false =>
      have hni : i ∉ acc := by intro hm; rw [(lhas_iff acc i).2 hm] at hb; cases hb
      simp only [cond_false, lapp_eq]; obtain ⟨h1, r', h2⟩ := addIds_spec r (acc ++ [i]) (List.nodup_append.2 ⟨h, by simp, fun a ha b hb' e => by simp at hb'; subst hb'; subst e; exact hni ha⟩); exact ⟨h1, i :: r', by rw [h2]; simp⟩

theorem foldIds_spec {α : Type} (f : α → List Nat) : ∀ (l : List α) (acc : List Nat), acc.Nodup → (l.foldl (fun acc s => addIds acc (f s)) acc).Nodup ∧ ∃ r, l.foldl (fun acc s => addIds acc (f s)) acc = acc ++ r
  | [], acc, h => ⟨h, [], by simp⟩
  | a :: l, acc, h => by
    obtain ⟨h1, r1, h2⟩ := addIds_spec (f a) acc h; obtain ⟨h3, r2, h4⟩ := foldIds_spec f l (addIds acc (f a)) h1; exact ⟨h3, r1 ++ r2, by simp only [List.foldl_cons]; rw [h4, h2]; simp⟩

theorem rangeFrom_eq : ∀ (k n : Nat), rangeFrom n k = List.range' n k
  | 0, _ => rfl
  | k + 1, n => by simp [rangeFrom, rangeFrom_eq k, List.range'_succ]

section
variable {K : Start} {S : St} {a : Act} {w : World} {L : Nat → Value} {Bs : Nat → List Nat}

theorem obj_get (S : St) (o : Nat) : S.obj o = (S.objs[o]?).getD .dead := by
  unfold St.obj; rw [lget_eq]; rfl

theorem mapC_solid (x : AObj) (g : Cell → Cell) : (x.mapC g).solid = x.solid := by cases x <;> rfl

theorem liveGo_get (live : List Tmp) : ∀ (l : List Slot) (i j : Nat), (liveGo live i l)[j]? = (l[j]?).map fun s => bif lhas live (i + j) then s else .nix
  | [], i, j => by simp [liveGo]
  | s :: l, i, 0 => by simp [liveGo]
  | s :: l, i, j + 1 => by
    simp only [liveGo, List.getElem?_cons_succ]; rw [liveGo_get live l _ j, show Nat.succ i + j = i + (j + 1) by omega]
theorem liveGo_len (live : List Tmp) : ∀ (l : List Slot) (i : Nat), (liveGo live i l).length = l.length
  | [], i => rfl
  | s :: l, i => by simp [liveGo, liveGo_len live l]

theorem RelX.canon (h : RelX K S a w L Bs) {keep : Nat} (hkeep : K.base.length ≤ keep) (live : List Tmp) : ∃ L' Bs', RelX K (S.canon keep live) a w L' Bs' := by
  unfold St.canon; have hsl : (S.liveSlots live).length = S.slots.length := liveGo_len live _ 0
  have hsg : ∀ (i : Nat) s, (S.liveSlots live)[i]? = some s → s = .nix ∨ S.slots[i]? = some s := by
    intro i s hi; unfold St.liveSlots at hi; rw [liveGo_get] at hi; obtain ⟨q, hq1, hp2⟩ := Option.map_eq_some_iff.1 hi; cases hb : lhas live (0 + i) <;> rw [hb] at hp2 <;> simp at hp2
    · exact .inl hp2.symm
    · exact .inr (by rw [hq1, hp2])
  generalize S.liveSlots live = slots at hsl hsg; obtain ⟨hn0, r0, hr0⟩ := foldIds_spec Slot.ids slots (rangeFrom 0 keep) (by rw [rangeFrom_eq]; exact List.nodup_range'); have hr0 : S.idsOf keep slots = rangeFrom 0 keep ++ r0 := hr0; have hn0 : (S.idsOf keep slots).Nodup := hn0; generalize S.idsOf keep slots = ids0 at hn0 hr0; obtain ⟨hn, r1, hr1⟩ := foldIds_spec (fun i => (S.obj i).ids) ids0 ids0 hn0; have hr1 : S.idsOn ids0 = ids0 ++ r1 := hr1; have hn : (S.idsOn ids0).Nodup := hn; generalize S.idsOn ids0 = ids at hn hr1; unfold St.choose
  have hpre : ∀ i, i < keep → ids[i]? = some i := by
    intro i hi; rw [hr1, hr0, List.append_assoc, List.getElem?_append_left (by rw [rangeFrom_eq]; simpa using hi), rangeFrom_eq]
    simp [hi]
  let src := fun i => ids.getD i 0
  let L' := fun i => L (src i)
  let objs' := ids.map fun i => (S.obj i).fix.mapC (Cell.rename ids)
  have hog : ∀ i x, objs'[i]? = some x → ∃ o, ids[i]? = some o ∧ src i = o ∧ x = (S.obj o).fix.mapC (Cell.rename ids) := by
    intro i x hi; rw [List.getElem?_map] at hi; obtain ⟨o, ho1, ho2⟩ := Option.map_eq_some_iff.1 hi; exact ⟨o, ho1, by simp [src, List.getD, ho1], ho2.symm⟩
  have hsolid : ∀ i x, objs'[i]? = some x → x.solid = true → S.objs[src i]? = some (S.obj (src i)) := by
    intro i x hi hs; obtain ⟨o, ho1, ho2, ho3⟩ := hog i x hi; rw [ho3, mapC_solid] at hs; rw [ho2]; exact lget_obj rfl (by intro e; rw [e] at hs; cases hs)
  have hin : ∀ i x, objs'[i]? = some x → x.solid = true → src i < S.objs.length := fun i x hi hs => (List.getElem?_eq_some_iff.1 (hsolid i x hi hs)).1
  have hforb : ∀ b, Forb K objs'.length (selB objs' src Bs) b → Forb K S.objs.length Bs b := by
    intro b hb; exact hb.imp (selB_own hin b) id
  -- cells
  have hlive : ∀ o, o ∈ ids → Live S.objs o → Live objs' (lidx ids o) ∧ src (lidx ids o) = o ∧ objs'[lidx ids o]? = some ((S.obj o).fix.mapC (Cell.rename ids)) := by
    intro o ho hl; have hi := lidx_get ids o ho
    have hx : objs'[lidx ids o]? = some ((S.obj o).fix.mapC (Cell.rename ids)) := by
      show (ids.map _)[lidx ids o]? = _
      rw [List.getElem?_map, hi]; rfl
    refine ⟨⟨_, hx, ?_⟩, by simp [src, List.getD, hi], hx⟩; obtain ⟨y, hy, hy2⟩ := hl; rw [obj_get, hy]; cases y <;> first | rfl | exact hy2
  have hrow : ∀ o t xs d, o ∈ ids → Live S.objs o → IsRow objs' (lidx ids o) t xs d → IsRow S.objs o t xs d := by
    intro o t xs d ho hl hx; obtain ⟨_, _, h3⟩ := hlive o ho hl; obtain ⟨y, hy, hy2⟩ := hl
    rcases hx with hx | ⟨_, _, _, _, hx⟩
    · rw [h3] at hx
      rw [obj_get, hy] at hx; cases y <;> simp [AObj.mapC, AObj.fix] at hx; obtain ⟨rfl, h1, rfl⟩ := hx; cases h1; exact .inl hy
    · rw [h3] at hx
      rw [obj_get, hy] at hx; cases y <;> simp [AObj.mapC, AObj.fix] at hx
  have hbox : ∀ o t cs, o ∈ ids → Live S.objs o → objs'[lidx ids o]? = some (.box t cs) → ∃ cs0, S.objs[o]? = some (.box t cs0) := by
    intro o t cs ho hl hx; obtain ⟨_, _, h3⟩ := hlive o ho hl; rw [h3] at hx; obtain ⟨y, hy, hy2⟩ := hl; rw [obj_get, hy] at hx; cases y <;> simp [AObj.mapC, AObj.fix] at hx; obtain ⟨rfl, h1⟩ := hx; exact ⟨_, hy⟩
  have hcell : ∀ c u, CellRep w S.objs L (Forb K S.objs.length Bs) c u → CellRep w objs' L' (Forb K objs'.length (selB objs' src Bs)) (c.rename ids) u := by
    intro c u hc
    cases c with
    | own o =>
      simp only [Cell.rename]
      cases hb : lhas ids o with
      | false => trivial
      | true =>
        have ho := (lhas_iff ids o).1 hb; obtain ⟨h1, h2, h3⟩ := hlive o ho hc.1; refine ⟨h1, fun t xs d hx => ?_⟩
        show u = L (src (lidx ids o))
        rw [h2]; exact hc.2 t xs d (hrow o t xs d ho hc.1 hx)
    | win o lo n =>
      simp only [Cell.rename]
      cases hb : lhas ids o with
      | false => trivial
      | true =>
        have ho := (lhas_iff ids o).1 hb; obtain ⟨h1, h2, h3⟩ := hlive o ho hc.1; refine ⟨h1, fun t xs d hx => ?_⟩
        show WinOf (L (src (lidx ids o))) t.sz xs.length lo n u
        rw [h2]; exact hc.2 t xs d (hrow o t xs d ho hc.1 hx)
    | ptr o off =>
      simp only [Cell.rename]
      cases hb : lhas ids o with
      | false => trivial
      | true =>
        have ho := (lhas_iff ids o).1 hb; obtain ⟨h1, h2, h3⟩ := hlive o ho hc.1; refine ⟨h1, fun t cs hx => ?_⟩
        show PtrOf (L (src (lidx ids o))) off u
        rw [h2]; obtain ⟨cs0, h4⟩ := hbox o t cs ho hc.1 hx; exact hc.2 t cs0 h4
    | eptr o i off =>
      simp only [Cell.rename]
      cases hb : lhas ids o with
      | false => trivial
      | true =>
        have ho := (lhas_iff ids o).1 hb; obtain ⟨h1, h2, h3⟩ := hlive o ho hc.1; refine ⟨h1, fun t xs d hx => ?_⟩
        show i < xs.length ∧ ∃ g c, L (src (lidx ids o)) = _ ∧ _
        rw [h2]; exact hc.2 t xs d (hrow o t xs d ho hc.1 hx)
    | fnL f caps =>
      simp only [Cell.rename]
      cases hb : lany (fun p => bif lhas ids p.1 then false else true) caps with
      | true => trivial
      | false =>
        have hall : ∀ p ∈ caps, p.1 ∈ ids := by
          clear hc
          induction caps with
          | nil => simp
          | cons q l ih =>
            simp only [lany] at hb
            cases hq : lhas ids q.1 with
            | false => rw [hq] at hb; simp at hb
            | true =>
              rw [hq] at hb; intro p hp
              rcases List.mem_cons.1 hp with rfl | hp
              · exact (lhas_iff ids _).1 hq
              · exact ih (by simpa using hb) p hp
        obtain ⟨vs, h1, h2, h3⟩ := hc; refine ⟨vs, h1, by simpa using h2, fun i p u hp hu => ?_⟩; rw [List.getElem?_map] at hp; obtain ⟨p0, hp1, hp2⟩ := Option.map_eq_some_iff.1 hp; subst hp2; obtain ⟨h1c, h4, h5⟩ := h3 i p0 u hp1 hu; have ho := hall p0 (List.mem_of_getElem? hp1); obtain ⟨g1, g2, g3⟩ := hlive _ ho h4; refine ⟨h1c, g1, fun t cs hx => ?_⟩
        show PtrOf (L (src (lidx ids p0.1))) p0.2 u
        rw [g2]; obtain ⟨cs0, h6⟩ := hbox _ t cs ho h4 hx; exact h5 t cs0 h6
    | dat t x => exact hc.mono (objs := objs') (L := L') (c := .dat t x) (Turn.refl _ w) (fun b hb => .inl (hforb b hb))
    | rptr t x => exact RPtr.less hc hforb
    | fn f caps =>
      obtain ⟨vs, h1, h2, h3⟩ := hc; exact ⟨vs, h1, h2, fun i p u hp hu => (h3 i p u hp hu).less hforb⟩
    | nix => trivial
    | nilS => exact hc
    | nilP => exact hc
  have hval : ∀ x u, ValRep w S.objs L (Forb K S.objs.length Bs) x u → ValRep w objs' L' (Forb K objs'.length (selB objs' src Bs)) (x.mapC (Cell.rename ids)) u := by
    intro x u hx
    cases x with
    | one c => exact ⟨hx.1, hcell _ _ hx.2⟩
    | agg cs =>
      obtain ⟨vs, h1, h2, h3⟩ := hx; refine ⟨vs, h1, by simpa using h2, fun i c u hc hu => ?_⟩; rw [List.getElem?_map] at hc; obtain ⟨c0, hc1, hc2⟩ := Option.map_eq_some_iff.1 hc; subst hc2; exact ⟨(h3 i c0 u hc1 hu).1, hcell _ _ (h3 i c0 u hc1 hu).2⟩
  refine ⟨L', selB objs' src Bs, ?_, fun i s v hi hv => ?_, fun i u hi => ?_, ?_, by simpa [hsl] using h.size, h.defers⟩
  · refine h.objs.sel src hin (fun i j x y hi hj _ _ e => ?_) (fun _ _ _ _ => rfl) hforb (fun i x hi => ?_)
    · obtain ⟨o, ho1, ho2, _⟩ := hog i x hi
      obtain ⟨o', ho1', ho2', _⟩ := hog j y hj; rw [ho2, ho2'] at e; subst e; exact (List.getElem?_inj (List.getElem?_eq_some_iff.1 ho1).1 hn).1 (ho1.trans ho1'.symm)
    · cases x with
      | row t xs d =>
        have h1 := hsolid i _ hi rfl; obtain ⟨o, ho1, ho2, ho3⟩ := hog i _ hi; rw [ho2] at h1
        show S.objs[src i]? = _
        rw [ho2, h1]; cases hx : S.obj o <;> rw [hx] at ho3 <;> simp [AObj.mapC, AObj.fix] at ho3; obtain ⟨rfl, h3, rfl⟩ := ho3; cases h3; rfl
      | box t cs' =>
        have h1 := hsolid i _ hi rfl; obtain ⟨o, ho1, ho2, ho3⟩ := hog i _ hi; rw [ho2] at h1; cases hx : S.obj o <;> rw [hx] at ho3 <;> simp [AObj.mapC, AObj.fix] at ho3
        rename_i t0 cs0
        obtain ⟨rfl, h3⟩ := ho3; refine ⟨cs0, by rw [ho2, h1, hx], by rw [h3]; simp, fun j c' c u hc' hc hr => ?_⟩; rw [h3, List.getElem?_map, hc] at hc'; cases hc'; exact hcell _ _ hr
      | dead => trivial
      | hole => trivial
      | lent t xs i1 i2 i3 =>
        obtain ⟨o, ho1, ho2, ho3⟩ := hog i _ hi; cases hx : S.obj o <;> rw [hx] at ho3 <;> simp [AObj.mapC, AObj.fix] at ho3
  · rw [List.getElem?_map] at hi
    obtain ⟨s0, hs1, hs2⟩ := Option.map_eq_some_iff.1 hi; subst hs2
    rcases hsg i s0 hs1 with h1 | h1
    · subst h1; trivial
    · have := h.slots i s0 v h1 hv
      cases s0 with
      | nix => trivial
      | val x => exact hval _ _ this
      | tup xs =>
        obtain ⟨vs, g1, g2, g3⟩ := this; refine ⟨vs, g1, by simpa using g2, fun j x u hx hu => ?_⟩; rw [List.getElem?_map] at hx; obtain ⟨x0, hx1, hx2⟩ := Option.map_eq_some_iff.1 hx; subst hx2; exact hval _ _ (g3 j x0 u hx1 hu)
  · obtain ⟨h1, h2⟩ := h.base i u hi
    have hik : i < keep := Nat.lt_of_lt_of_le (List.getElem?_eq_some_iff.1 hi).1 hkeep; have hidx := hpre i hik; have hmem : i ∈ ids := List.mem_of_getElem? hidx; have hli : lidx ids i = i := (List.getElem?_inj (List.getElem?_eq_some_iff.1 (lidx_get ids i hmem)).1 hn).1 ((lidx_get ids i hmem).trans hidx.symm); obtain ⟨g1, g2, _⟩ := hlive i hmem h1; rw [hli] at g1 g2; refine ⟨g1, ?_⟩
    show L (src i) = u
    rw [g2]; exact h2
  · exact h.within.turn (Turn.refl _ w) (fun b hb => .inl (selB_own hin b hb))
end
end Go.Proofs.GR

namespace Go.Proofs.GR

theorem ORep.len {w : World} {t : Ty} {x : t.den} {cs : List Value} {G : List Nat} (h : ORep w t x cs G) : cs.length = t.sz := by
  obtain ⟨F, hF, _⟩ := ORep.rep _ _ _ _ h; exact Rep.len _ _ _ _ hF
theorem ORep.split {w : World} : ∀ (t : Ty) (x : t.den) (cs : List Value) (G : List Nat) (off : Nat) (τ : Ty) (ys : List τ.den), t.part x off 1 = some ⟨.slice τ, ys⟩ → ORep w t x cs G →
    ∃ v G1 G2 G3, G = G1 ++ G2 ++ G3 ∧ cs[off]? = some v ∧ off < t.sz ∧ ORep w (.slice τ) ys [v] G2 ∧ HRep w t x cs (G1 ++ G3) off v
  | .slice t, x, cs, G, off, τ, ys, hp, h => by
    simp only [Ty.part] at hp; cases hc : yes2 (Nat.beq off 0) (Nat.beq 1 (Ty.slice t).sz) <;> rw [hc] at hp <;> simp only [cond_true, cond_false] at hp
    · cases hp
    · cases hp
      obtain ⟨h0, _⟩ := yes2_true hc; have e0 : off = 0 := Nat.eq_of_beq_eq_true h0; subst e0; obtain ⟨v, hv, hr⟩ := h; subst hv; exact ⟨v, [], G, [], by simp, rfl, Nat.lt_succ_self 0, ⟨v, rfl, hr⟩, rfl, rfl, rfl⟩
  | .pair a b, x, cs, G, off, τ, ys, hp, h => by
    simp only [Ty.part] at hp; cases hc : yes2 (Nat.beq off 0) (Nat.beq 1 (Nat.add a.sz b.sz)) <;> rw [hc] at hp <;> simp only [cond_true, cond_false] at hp
    · have hno : ¬ (off = 0 ∧ a.sz + b.sz = 1) := by
        rintro ⟨rfl, h1⟩
        have : Nat.add a.sz b.sz = 1 := h1; rw [this] at hc; cases hc
      obtain ⟨c1, c2, G1, G2, h1, h2, rfl, rfl⟩ := h; have l1 := ORep.len h1; cases hd : Nat.ble (Nat.add off 1) a.sz <;> rw [hd] at hp <;> simp only [cond_true, cond_false] at hp
      · cases he : Nat.ble a.sz off <;> rw [he] at hp <;> simp only [cond_true, cond_false] at hp
        · cases hp
        · have e : a.sz ≤ off := Nat.le_of_ble_eq_true he
          obtain ⟨v, g1, g2, g3, e1, e2, e3, e4, e5⟩ := ORep.split b x.2 c2 G2 (Nat.sub off a.sz) τ ys hp h2; have es : Nat.sub off a.sz = off - a.sz := rfl; rw [es] at e2 e3 e5; refine ⟨v, G1 ++ g1, g2, g3, by rw [e1]; simp, ?_, by show off < a.sz + b.sz; omega, e4, hno, c1, c2, G1, g1 ++ g3, rfl, by simp, .inr ⟨e, h1, e5⟩⟩; rw [List.getElem?_append_right (by omega), l1]; exact e2
      · have e : off + 1 ≤ a.sz := Nat.le_of_ble_eq_true hd
        obtain ⟨v, g1, g2, g3, e1, e2, e3, e4, e5⟩ := ORep.split a x.1 c1 G1 off τ ys hp h1; refine ⟨v, g1, g2, g3 ++ G2, by rw [e1]; simp, ?_, by show off < a.sz + b.sz; omega, e4, hno, c1, c2, g1 ++ g3, G2, rfl, by simp, .inl ⟨by omega, e5, h2⟩⟩; rw [List.getElem?_append_left (by omega)]; exact e2
    · cases hp
  | .int k, x, cs, G, off, τ, ys, hp, h => by
    simp only [Ty.part] at hp; cases hc : yes2 (Nat.beq off 0) (Nat.beq 1 (Ty.int k).sz) <;> rw [hc] at hp <;> simp only [cond_true, cond_false] at hp <;> cases hp
  | .bool, x, cs, G, off, τ, ys, hp, h => by
    simp only [Ty.part] at hp; cases hc : yes2 (Nat.beq off 0) (Nat.beq 1 Ty.bool.sz) <;> rw [hc] at hp <;> simp only [cond_true, cond_false] at hp <;> cases hp
  | .str, x, cs, G, off, τ, ys, hp, h => by
    simp only [Ty.part] at hp; cases hc : yes2 (Nat.beq off 0) (Nat.beq 1 Ty.str.sz) <;> rw [hc] at hp <;> simp only [cond_true, cond_false] at hp <;> cases hp
  | .unit, x, cs, G, off, τ, ys, hp, h => by
    simp only [Ty.part] at hp; cases hc : yes2 (Nat.beq off 0) (Nat.beq 1 Ty.unit.sz) <;> rw [hc] at hp <;> simp only [cond_true, cond_false] at hp <;> cases hp
  | .rose t, x, cs, G, off, τ, ys, hp, h => by
    simp only [Ty.part] at hp; cases hc : yes2 (Nat.beq off 0) (Nat.beq 1 (Nat.add t.sz 1)) <;> rw [hc] at hp <;> simp only [cond_true, cond_false] at hp
    · have hno : ¬ (off = 0 ∧ t.sz = 0) := by
        rintro ⟨rfl, h1⟩
        rw [h1] at hc; cases hc
      obtain ⟨c1, c2, G1, G2, h1, h2, rfl, rfl⟩ := ORep.rose_iff.1 h; have l1 := ORep.len h1; cases hd : Nat.ble (Nat.add off 1) t.sz <;> rw [hd] at hp <;> simp only [cond_true, cond_false] at hp
      · cases he : yes2 (Nat.beq off t.sz) (Nat.beq 1 1) <;> rw [he] at hp <;> simp only [cond_true, cond_false] at hp
        · cases hp
        · cases hp
          have e0 : off = t.sz := Nat.eq_of_beq_eq_true (yes2_true he).1; obtain ⟨v, hv, hr⟩ := h2; subst hv; refine ⟨v, G1, G2, [], by simp, ?_, by show off < t.sz + 1; omega, ⟨v, rfl, hr⟩, hno, c1, [v], G1, [], rfl, by simp, .inr ⟨e0, h1, rfl, rfl⟩⟩; rw [List.getElem?_append_right (by omega), l1, e0, Nat.sub_self]; rfl
      · have e : off + 1 ≤ t.sz := Nat.le_of_ble_eq_true hd
        obtain ⟨v, g1, g2, g3, e1, e2, e3, e4, e5⟩ := ORep.split t (Rose.a x) c1 G1 off τ ys hp h1; refine ⟨v, g1, g2, g3 ++ G2, by rw [e1]; simp, ?_, by show off < t.sz + 1; omega, e4, hno, c1, c2, g1 ++ g3, G2, rfl, by simp, .inl ⟨by omega, e5, h2⟩⟩; rw [List.getElem?_append_left (by omega)]; exact e2
    · cases hp
theorem HRep.merge {w : World} : ∀ (t : Ty) (x : t.den) (cs : List Value) (G : List Nat) (off : Nat) (v : Value) (τ : Ty) (ys : List τ.den) (z : t.den) (G' : List Nat), t.putAt x off [.dat (.slice τ) ys] = some z → HRep w t x cs G off v → ORep w (.slice τ) ys [v] G' →
    ∃ G2, ORep w t z cs G2 ∧ G2.Perm (G ++ G')
  | .slice t, x, cs, G, off, v, τ, ys, z, G', hp, ⟨h0, h1, h2⟩, h => by
    subst h0 h1 h2; simp only [Ty.putAt, llen] at hp; cases hc : yes2 (Nat.beq 0 0) (Nat.beq (Nat.succ 0) (Ty.slice t).sz) <;> rw [hc] at hp <;> simp only [cond_true, cond_false] at hp
    · cases hp
    · simp only [Ty.pack, packL] at hp
      split at hp
      · rename_i ht
        subst ht; cases hp; exact ⟨G', h, by simp⟩
      · cases hp
  | .pair a b, x, cs, G, off, v, τ, ys, z, G', hp, ⟨hno, c1, c2, G1, G2, hc, hG, hr⟩, h => by
    subst hc hG; simp only [Ty.putAt, llen] at hp; cases hc : yes2 (Nat.beq off 0) (Nat.beq (Nat.succ 0) (Nat.add a.sz b.sz)) <;> rw [hc] at hp <;> simp only [cond_true, cond_false] at hp
    · rcases hr with ⟨h1, h2, h3⟩ | ⟨h1, h2, h3⟩
      · rw [show Nat.ble (Nat.add off (Nat.succ 0)) a.sz = true from Nat.ble_eq_true_of_le h1, cond_true] at hp
        obtain ⟨z1, hz, rfl⟩ := Option.map_eq_some_iff.1 hp; obtain ⟨g, e1, e2⟩ := HRep.merge a x.1 c1 G1 off v τ ys z1 G' hz h2 h; refine ⟨g ++ G2, ⟨c1, c2, g, G2, e1, h3, rfl, rfl⟩, ?_⟩; refine (e2.append_right G2).trans ?_; rw [List.append_assoc, List.append_assoc]; exact List.Perm.append_left G1 List.perm_append_comm
      · rw [show Nat.ble (Nat.add off (Nat.succ 0)) a.sz = false from Bool.eq_false_iff.2 fun e => by have := Nat.le_of_ble_eq_true e; have : off + 1 ≤ a.sz := this; omega, cond_false, show Nat.ble a.sz off = true from Nat.ble_eq_true_of_le h1, cond_true] at hp
        obtain ⟨z1, hz, rfl⟩ := Option.map_eq_some_iff.1 hp; obtain ⟨g, e1, e2⟩ := HRep.merge b x.2 c2 G2 (off - a.sz) v τ ys z1 G' hz h3 h; refine ⟨G1 ++ g, ⟨c1, c2, G1, g, h2, e1, rfl, rfl⟩, ?_⟩; rw [List.append_assoc]; exact List.Perm.append_left G1 e2
    · obtain ⟨h1, h2⟩ := yes2_true hc
      exact absurd ⟨Nat.eq_of_beq_eq_true h1, (Nat.eq_of_beq_eq_true h2).symm⟩ hno
  | .int _, _, _, _, _, _, _, _, _, _, _, h, _ => h.elim
  | .bool, _, _, _, _, _, _, _, _, _, _, h, _ => h.elim
  | .str, _, _, _, _, _, _, _, _, _, _, h, _ => h.elim
  | .unit, _, _, _, _, _, _, _, _, _, _, h, _ => h.elim
  | .rose t, x, cs, G, off, v, τ, ys, z, G', hp, ⟨hno, c1, c2, G1, G2, hc, hG, hr⟩, h => by
    subst hc hG; simp only [Ty.putAt, llen] at hp; cases hc : yes2 (Nat.beq off 0) (Nat.beq (Nat.succ 0) (Nat.add t.sz 1)) <;> rw [hc] at hp <;> simp only [cond_true, cond_false] at hp
    · rcases hr with ⟨h1, h2, h3⟩ | ⟨h1, h2, h3, h4⟩
      · rw [show Nat.ble (Nat.add off (Nat.succ 0)) t.sz = true from Nat.ble_eq_true_of_le h1, cond_true] at hp
        obtain ⟨z1, hz, rfl⟩ := Option.map_eq_some_iff.1 hp; obtain ⟨g, e1, e2⟩ := HRep.merge t (Rose.a x) c1 G1 off v τ ys z1 G' hz h2 h; refine ⟨g ++ G2, ORep.rose_iff.2 ⟨c1, c2, g, G2, e1, h3, rfl, rfl⟩, ?_⟩; refine (e2.append_right G2).trans ?_; rw [List.append_assoc, List.append_assoc]; exact List.Perm.append_left G1 List.perm_append_comm
      · subst h3 h4
        rw [show Nat.ble (Nat.add off (Nat.succ 0)) t.sz = false from Bool.eq_false_iff.2 fun e => by have := Nat.le_of_ble_eq_true e; have : off + 1 ≤ t.sz := this; omega, cond_false, show yes2 (Nat.beq off t.sz) (Nat.beq (Nat.succ 0) 1) = true by rw [h1, Nat.beq_refl]; rfl, cond_true] at hp; obtain ⟨y, hy, rfl⟩ := Option.map_eq_some_iff.1 hp; simp only [packL] at hy; split at hy
        · rename_i ht
          subst ht; cases hy; exact ⟨G1 ++ G', ORep.rose_iff.2 ⟨c1, [v], G1, G', h2, h, rfl, rfl⟩, by simp⟩
        · cases hy
    · obtain ⟨h1, h2⟩ := yes2_true hc
      have h3 : 1 = t.sz + 1 := Nat.eq_of_beq_eq_true h2; exact absurd ⟨Nat.eq_of_beq_eq_true h1, by omega⟩ hno

theorem flatN_take {Gs : Nat → List Nat} {H T : List Nat} {i : Nat} (h : (Gs i).Perm (H ++ T)) : ∀ n, i < n → (flatN Gs n).Perm (flatN (upd Gs i H) n ++ T) := by
  intro n
  induction n with
  | zero => intro h; omega
  | succ n ih =>
    intro hi; rw [flatN_succ, flatN_succ]
    by_cases hin : i = n
    · subst hin
      rw [upd_same, flatN_congr (f := Gs) (g := upd Gs i H) (fun j hj => (upd_ne _ _ _ (by omega)).symm), List.append_assoc]; exact List.Perm.append_left _ h
    · rw [upd_ne _ _ _ (by omega : n ≠ i)]
      refine ((ih (by omega)).append_right (Gs n)).trans ?_; rw [List.append_assoc, List.append_assoc]; exact List.Perm.append_left _ List.perm_append_comm
theorem hole_nil {K : Start} {S : St} {a : Act} {w : World} {L : Nat → Value} {Bs : Nat → List Nat} (h : RelX K S a w L Bs) {o : Nat} (ho : S.objs[o]? = some .hole) : Bs o = [] := h.objs.obj o _ ho

section
variable {K : Start} {P : Program} {Γ : Tab} {o : Oper} {S : St} {a : Act} {w : World} {L : Nat → Value} {Bs : Nat → List Nat} {ρ : Type} {k : St → Option ρ} {r : ρ}

theorem sound_loadSub (h : RelX K S a w L Bs) (T : TabOK Γ P) {S' : St} (hs : loadSub Γ o S = some S') (hk : k S' = some r) : Sound K P o a w k r := by
  unfold loadSub at hs; split at hs
  · rename_i t x ho
    split at hs
    · rename_i q i off hx
      split at hs
      · rename_i τ0 xs hq
        split at hs
        · rename_i e τ ys hu hp
          cases hs; have hob := lget_obj hq (by simp); obtain ⟨_, hlive, hval⟩ := h.cell hx (by simp); obtain ⟨hi, g, c, hL, hpv⟩ := hval τ0 xs true (.inl hob); obtain ⟨css, Gs, hown, g2, g3⟩ := h.objs.obj q _ hob; simp only [if_true] at g3
          have hxi : xs[i]? = some (xs.getD i τ0.dflt) := by simp [List.getD, List.getElem?_eq_getElem hi]
          obtain ⟨v, G1, G2, G3, e1, e2, e3, e4, e5⟩ := ORep.split τ0 _ _ _ off τ ys hp (g2 i _ hxi).2
          have hl : ∀ j, j < xs.length → (css j).length = τ0.sz := fun j hj => (g2 j _ (List.getElem?_eq_getElem hj)).1
          have hcell : w.cell? ((⟨g, 0, none⟩ : Addr).add (i * τ0.sz + off)) = some v := hown.cells (by rw [hL]; rfl) _ _ (by rw [flatN_at _ hl i off hi e3]; exact e2); obtain ⟨v', hv', ho2⟩ := e4; cases hv'
          have hone : v.oneCell' = true := by
            obtain ⟨_, _, hor, _⟩ := ho2
            rcases hor.2 with ⟨rfl, _⟩ | ⟨_, _, _, _, _, rfl, _⟩ <;> rfl
          have hql := hlive.lt
          have hnq : S.objs.length ≠ q := by omega
          rw [llen_eq] at hk
          have hperm : (Bs q).Perm ((ownBlk (L q) ++ flatN (upd Gs i (G1 ++ G3)) xs.length) ++ G2) := by
            rw [g3, List.append_assoc]; refine List.Perm.append_left _ (flatN_take ?_ xs.length hi); rw [e1, List.append_assoc, List.append_assoc]; exact List.Perm.append_left _ List.perm_append_comm
          have hBn : (Bs q).Nodup := flatN_nodup_at h.objs.nodup hql; have hsplit := List.nodup_append.1 (hperm.nodup_iff.1 hBn)
          let objs' := S.objs.set q (.lent τ0 xs i off S.objs.length) ++ [AObj.row τ ys true]
          let Bs' : Nat → List Nat := fun j => if j = q then ownBlk (L q) ++ flatN (upd Gs i (G1 ++ G3)) xs.length else if j = S.objs.length then G2 else Bs j
          have hlen : objs'.length = S.objs.length + 1 := by simp [objs']
          have hget : ∀ j, j < S.objs.length → objs'[j]? = if j = q then some (.lent τ0 xs i off S.objs.length) else S.objs[j]? := by
            intro j hj
            show (S.objs.set q _ ++ _)[j]? = _
            rw [List.getElem?_append_left (by simpa using hj)]
            by_cases hjq : j = q
            · subst hjq
              rw [if_pos rfl, List.getElem?_set_self hj]
            · rw [if_neg hjq, List.getElem?_set_ne (Ne.symm hjq)]
          have hgetn : objs'[S.objs.length]? = some (.row τ ys true) := by
            show (S.objs.set q _ ++ _)[S.objs.length]? = _
            rw [List.getElem?_append_right (by simp)]
            simp
          have hBq : ∀ b, b ∈ Bs' q → b ∈ Bs q := fun b hb => hperm.mem_iff.2 (List.mem_append_left _ (by simpa [Bs'] using hb))
          have hBm : ∀ b, b ∈ Bs' S.objs.length → b ∈ Bs q := fun b hb => hperm.mem_iff.2 (List.mem_append_right _ (by simpa [Bs', hnq] using hb))
          have hBj : ∀ j, j ≠ q → j ≠ S.objs.length → Bs' j = Bs j := fun j h1 h2 => by simp [Bs', h1, h2]
          have hin : ∀ j b, j < objs'.length → b ∈ Bs' j → ∃ j', j' < S.objs.length ∧ b ∈ Bs j' ∧ (j' = q ∨ j' = j) := by
            intro j b hj hb
            by_cases h1 : j = q
            · subst h1; exact ⟨j, hql, hBq b hb, .inl rfl⟩
            · by_cases h2 : j = S.objs.length
              · subst h2; exact ⟨q, hql, hBm b hb, .inl rfl⟩
              · rw [hBj j h1 h2] at hb
                exact ⟨j, by omega, hb, .inr rfl⟩
          have hkeep : Keeps S.objs objs' L (upd L S.objs.length v) := by
            refine ⟨fun j hj => ?_, fun j hj => upd_ne _ _ _ (Nat.ne_of_lt hj.lt), fun j t1 xs1 d1 hj hr => ?_, fun j t1 cs1 hj hr => ?_⟩
            · have hjl := hj.lt
              obtain ⟨y, hy, hy2⟩ := hj
              by_cases hjq : j = q
              · exact ⟨.lent τ0 xs i off S.objs.length, by rw [hget j hjl, if_pos hjq], rfl⟩
              · exact ⟨y, by rw [hget j hjl, if_neg hjq]; exact hy, hy2⟩
            · unfold IsRow at hr
              rw [hget j hj.lt] at hr
              by_cases hjq : j = q
              · subst hjq
                rw [if_pos rfl] at hr
                rcases hr with hr | ⟨hd, _, _, _, hr⟩
                · cases hr
                · cases hr
                  exact ⟨xs, true, .inl hob, rfl⟩
              · rw [if_neg hjq] at hr
                exact ⟨xs1, d1, hr, rfl⟩
            · rw [hget j hj.lt] at hr
              by_cases hjq : j = q
              · rw [if_pos hjq] at hr; cases hr
              · rw [if_neg hjq] at hr; exact ⟨cs1, hr⟩
          have R := h.gen (objs' := objs') (L' := upd L S.objs.length v) (Bs' := Bs') (w' := w) hkeep (Turn.refl _ w)
            (fun b hb => by
              obtain ⟨j, hj, hb⟩ := mem_flatN.1 hb; obtain ⟨j', h1, h2, _⟩ := hin j b hj hb
              exact .inl (mem_flatN.2 ⟨j', h1, h2⟩))
            (by
              refine flatN_nodup (fun j hj => ?_) (fun j j' hj hj' hjj b hb hb' => ?_)
              · by_cases h1 : j = q
                · subst h1; simpa [Bs'] using hsplit.1
                · by_cases h2 : j = S.objs.length
                  · subst h2; simpa [Bs', hnq] using hsplit.2.1
                  · rw [hBj j h1 h2]; exact flatN_nodup_at h.objs.nodup (by omega)
              · have key : ∀ j, j ≠ q → j ≠ S.objs.length → j < objs'.length → ∀ b, b ∈ Bs' j → b ∉ Bs q := by
                  intro j h1 h2 hj b hb; rw [hBj j h1 h2] at hb; exact flatN_disj h.objs.nodup (by omega) hql h1 b hb
                have two : ∀ b, b ∈ Bs' q → b ∉ Bs' S.objs.length := by
                  intro b hb hb'; exact hsplit.2.2 b (by simpa [Bs'] using hb) b (by simpa [Bs', hnq] using hb') rfl
                by_cases h1 : j = q
                · subst h1
                  by_cases h2 : j' = S.objs.length
                  · subst h2; exact two b hb hb'
                  · exact key j' (Ne.symm hjj) h2 hj' b hb' (hBq b hb)
                · by_cases h2 : j = S.objs.length
                  · subst h2
                    by_cases h3 : j' = q
                    · subst h3; exact two b hb' hb
                    · exact key j' h3 (Ne.symm hjj) hj' b hb' (hBm b hb)
                  · by_cases h3 : j' = q
                    · subst h3; exact key j h1 h2 hj b hb (hBq b hb')
                    · by_cases h4 : j' = S.objs.length
                      · subst h4; exact key j h1 h2 hj b hb (hBm b hb')
                      · rw [hBj j h1 h2] at hb
                        rw [hBj j' h3 h4] at hb'
                        exact flatN_disj h.objs.nodup (by omega) (by omega) hjj b hb hb')
            (fun b hb => by
              obtain ⟨j, hj, hb⟩ := mem_flatN.1 hb; obtain ⟨j', h1, h2, _⟩ := hin j b hj hb
              exact h.objs.lt b (mem_flatN.2 ⟨j', h1, h2⟩))
            (fun j y hy => by
              have hjl : j < objs'.length := (List.getElem?_eq_some_iff.1 hy).1
              by_cases h2 : j = S.objs.length
              · subst h2
                rw [hgetn] at hy; cases hy; refine .inr ?_
                show ObjRep _ _ _ _ _ _ (Bs' S.objs.length)
                have : Bs' S.objs.length = G2 := by simp [Bs', hnq]
                rw [this]; obtain ⟨c2, Gs2, o1, o2, o3⟩ := ho2; refine ⟨c2, Gs2, by rw [upd_same]; exact o1, o2, ?_⟩; rw [upd_same]; exact o3
              · rw [hget j (by omega)] at hy
                by_cases h1 : j = q
                · subst h1
                  rw [if_pos rfl] at hy; cases hy; refine .inr ⟨⟨_, hgetn, rfl⟩, css, upd Gs i (G1 ++ G3), by rw [upd_ne _ _ _ (Ne.symm hnq)]; exact hown, fun j x hx => (g2 j x hx).1, hi, fun j' x hj' hx => by rw [upd_ne _ _ _ hj']; exact (g2 j' x hx).2, by rw [upd_same, upd_same]; exact e5, ?_⟩; rw [upd_ne _ _ _ (Ne.symm hnq)]
                  simp [Bs']
                · rw [if_neg h1] at hy
                  cases hyh : y.isHole with
                  | false => exact .inl ⟨⟨y, hy, hyh⟩, hy, hBj j h1 h2, fun _ _ => rfl⟩
                  | true =>
                    cases y with
                    | hole => exact .inr (by rw [hBj j h1 h2]; exact hole_nil h hy)
                    | _ => cases hyh)
          have e : a.eval x = .pointer (some ((⟨g, 0, none⟩ : Addr).add (i * τ0.sz + off))) := hpv
          have hag : (isAgg t).run P w = .ok false w := by
            unfold isAgg; simp only [Sem.run_bind, run_underlying (T.und _ _ hu), Result.andThen_ok]; rfl
          have hld : (loadVar t ((⟨g, 0, none⟩ : Addr).add (i * τ0.sz + off))).run P w = .ok v w := by simp [loadVar, hag, hcell]
          refine ⟨_, hk, fun _ _ hn => upon_value (w' := w) (v := v) ?_ (hn _ _ ?_)⟩
          · simp [execOp, ho, Instr.loadAt, Instr.sureAddr, e, hld]
          · have := (RelX.put R o.dst (s := .val (.one (.own S.objs.length))) (v := v) ⟨hone, ⟨_, hgetn, rfl⟩, fun t1 xs1 d1 _ => (upd_same _ _ _).symm⟩).rel
            rw [lapp_eq, lset_eq]; exact this
        · cases hs
      · cases hs
    · cases hs
  · cases hs

theorem heal_step (h : RelX K S a w L Bs) {q m i off : Nat} {t τ : Ty} {xs : List t.den} {ys : List τ.den} (hq : S.obj q = .lent t xs i off m) (hm : S.obj m = .row τ ys true) {z : t.den} (hz : t.putAt (xs.getD i t.dflt) off [.dat (.slice τ) ys] = some z) :
    ∃ Bs', RelX K { S with objs := lset (lset S.objs q (.row t (xs.set i z) true)) m .dead } a w L Bs' := by
  have hob := lget_obj hq (by simp); have hom := lget_obj hm (by simp); have hql : q < S.objs.length := (List.getElem?_eq_some_iff.1 hob).1; have hml : m < S.objs.length := (List.getElem?_eq_some_iff.1 hom).1
  have hqm : q ≠ m := by rintro rfl; rw [hob] at hom; cases hom
  obtain ⟨hlm, css, Gs, hown, g2, hi, g4, g5, g3⟩ := h.objs.obj q _ hob; obtain ⟨G2, e1, e2⟩ := HRep.merge t _ _ _ off (L m) τ ys z (Bs m) hz g5 (row_own (h.objs.obj m _ hom))
  have hBqm : ((ownBlk (L q) ++ flatN (upd Gs i G2) xs.length)).Perm (Bs q ++ Bs m) := by
    rw [g3, List.append_assoc]; refine List.Perm.append_left _ ?_
    -- the other way round: the parts of the new one
    have h1 : (upd Gs i G2 i).Perm (Gs i ++ Bs m) := by rw [upd_same]; exact e2
    have h2 := flatN_take (Gs := upd Gs i G2) (H := Gs i) (T := Bs m) (i := i) h1 xs.length hi
    have h3 : upd (upd Gs i G2) i (Gs i) = Gs := by
      funext j
      by_cases hj : j = i
      · subst hj; rw [upd_same]
      · rw [upd_ne _ _ _ hj, upd_ne _ _ _ hj]
    rw [h3] at h2; exact h2
  have hdisj : (Bs q ++ Bs m).Nodup := List.nodup_append.2 ⟨flatN_nodup_at h.objs.nodup hql, flatN_nodup_at h.objs.nodup hml, fun b hb b' hb' e => by
    subst e
    exact flatN_disj h.objs.nodup hql hml hqm b hb hb'⟩
  let objs' := (S.objs.set q (.row t (xs.set i z) true)).set m .dead
  let Bs' : Nat → List Nat := fun j => if j = q then ownBlk (L q) ++ flatN (upd Gs i G2) xs.length else if j = m then [] else Bs j
  have hlen : objs'.length = S.objs.length := by simp [objs']
  have hget : ∀ j, objs'[j]? = if j = m then some .dead else if j = q then some (.row t (xs.set i z) true) else S.objs[j]? := by
    intro j
    show ((S.objs.set q _).set m _)[j]? = _
    by_cases h1 : j = m
    · subst h1
      rw [if_pos rfl, List.getElem?_set_self (by simpa using hml)]
    · rw [if_neg h1, List.getElem?_set_ne (Ne.symm h1)]
      by_cases h2 : j = q
      · subst h2
        rw [if_pos rfl, List.getElem?_set_self hql]
      · rw [if_neg h2, List.getElem?_set_ne (Ne.symm h2)]
  have hBq : ∀ b, b ∈ Bs' q → b ∈ Bs q ∨ b ∈ Bs m := fun b hb => List.mem_append.1 (hBqm.mem_iff.1 (by simpa [Bs'] using hb))
  have hBj : ∀ j, j ≠ q → j ≠ m → Bs' j = Bs j := fun j h1 h2 => by simp [Bs', h1, h2]
  have hBm : Bs' m = [] := by simp [Bs', Ne.symm hqm]
  have hin : ∀ j b, j < objs'.length → b ∈ Bs' j → ∃ j', j' < S.objs.length ∧ b ∈ Bs j' := by
    intro j b hj hb
    by_cases h1 : j = q
    · subst h1
      rcases hBq b hb with h2 | h2
      · exact ⟨j, hql, h2⟩
      · exact ⟨m, hml, h2⟩
    · by_cases h2 : j = m
      · subst h2; rw [hBm] at hb; cases hb
      · rw [hBj j h1 h2] at hb
        exact ⟨j, by omega, hb⟩
  have hkeep : Keeps S.objs objs' L L := by
    refine ⟨fun j hj => ?_, fun _ _ => rfl, fun j t1 xs1 d1 hj hr => ?_, fun j t1 cs1 hj hr => ?_⟩
    · obtain ⟨y, hy, hy2⟩ := hj
      by_cases h1 : j = m
      · exact ⟨.dead, by rw [hget, if_pos h1], rfl⟩
      · by_cases h2 : j = q
        · exact ⟨.row t (xs.set i z) true, by rw [hget, if_neg h1, if_pos h2], rfl⟩
        · exact ⟨y, by rw [hget, if_neg h1, if_neg h2]; exact hy, hy2⟩
    · unfold IsRow at hr
      rw [hget] at hr
      by_cases h1 : j = m
      · rw [if_pos h1] at hr
        rcases hr with hr | ⟨_, _, _, _, hr⟩ <;> cases hr
      · rw [if_neg h1] at hr
        by_cases h2 : j = q
        · subst h2
          rw [if_pos rfl] at hr
          rcases hr with hr | ⟨_, _, _, _, hr⟩
          · cases hr
            exact ⟨xs, true, .inr ⟨rfl, i, off, m, hob⟩, by simp⟩
          · cases hr
        · rw [if_neg h2] at hr
          exact ⟨xs1, d1, hr, rfl⟩
    · rw [hget] at hr
      by_cases h1 : j = m
      · rw [if_pos h1] at hr; cases hr
      · rw [if_neg h1] at hr
        by_cases h2 : j = q
        · rw [if_pos h2] at hr; cases hr
        · rw [if_neg h2] at hr; exact ⟨cs1, hr⟩
  have R := h.gen (objs' := objs') (L' := L) (Bs' := Bs') (w' := w) hkeep (Turn.refl _ w)
    (fun b hb => by
      obtain ⟨j, hj, hb⟩ := mem_flatN.1 hb; obtain ⟨j', h1, h2⟩ := hin j b hj hb
      exact .inl (mem_flatN.2 ⟨j', h1, h2⟩))
    (by
      refine flatN_nodup (fun j hj => ?_) (fun j j' hj hj' hjj b hb hb' => ?_)
      · by_cases h1 : j = q
        · subst h1
          have : (Bs' j).Perm (Bs j ++ Bs m) := by simpa [Bs'] using hBqm
          exact this.nodup_iff.2 hdisj
        · by_cases h2 : j = m
          · subst h2; rw [hBm]; exact List.nodup_nil
          · rw [hBj j h1 h2]; exact flatN_nodup_at h.objs.nodup (by omega)
      · have key : ∀ j, j ≠ q → j < objs'.length → ∀ b, b ∈ Bs' j → b ∉ Bs' q := by
          intro j h1 hj b hb hbq
          by_cases h2 : j = m
          · subst h2; rw [hBm] at hb; cases hb
          · rw [hBj j h1 h2] at hb
            rcases hBq b hbq with h3 | h3
            · exact flatN_disj h.objs.nodup (by omega) hql h1 b hb h3
            · exact flatN_disj h.objs.nodup (by omega) hml h2 b hb h3
        by_cases h1 : j = q
        · subst h1; exact key j' (Ne.symm hjj) hj' b hb' hb
        · by_cases h3 : j' = q
          · subst h3; exact key j h1 hj b hb hb'
          · by_cases h2 : j = m
            · subst h2; rw [hBm] at hb; cases hb
            · by_cases h4 : j' = m
              · subst h4; rw [hBm] at hb'; cases hb'
              · rw [hBj j h1 h2] at hb
                rw [hBj j' h3 h4] at hb'
                exact flatN_disj h.objs.nodup (by omega) (by omega) hjj b hb hb')
    (fun b hb => by
      obtain ⟨j, hj, hb⟩ := mem_flatN.1 hb; obtain ⟨j', h1, h2⟩ := hin j b hj hb
      exact h.objs.lt b (mem_flatN.2 ⟨j', h1, h2⟩))
    (fun j y hy => by
      rw [hget] at hy
      by_cases h2 : j = m
      · rw [if_pos h2] at hy
        cases hy; refine .inr ?_
        show Bs' j = []
        rw [h2, hBm]
      · rw [if_neg h2] at hy
        by_cases h1 : j = q
        · subst h1
          rw [if_pos rfl] at hy; cases hy; refine .inr ⟨css, upd Gs i G2, by rw [List.length_set]; exact hown, fun j' x hx => ?_, ?_⟩
          · by_cases hj' : j' = i
            · subst hj'
              rw [List.getElem?_set_self hi] at hx; cases hx; rw [upd_same]; exact ⟨g2 j' _ (List.getElem?_eq_getElem hi), e1⟩
            · rw [List.getElem?_set_ne (Ne.symm hj')] at hx
              rw [upd_ne _ _ _ hj']; exact ⟨g2 j' x hx, g4 j' x hj' hx⟩
          · rw [List.length_set]
            simp [Bs']
        · rw [if_neg h1] at hy
          cases hyh : y.isHole with
          | false => exact .inl ⟨⟨y, hy, hyh⟩, hy, hBj j h1 h2, fun _ _ => rfl⟩
          | true =>
            cases y with
            | hole => exact .inr (by rw [hBj j h1 h2]; exact hole_nil h hy)
            | _ => cases hyh)
  refine ⟨Bs', ?_⟩; rw [lset_eq, lset_eq]; exact R

theorem healGo_sound : ∀ (l : List AObj) (q : Nat) {S S' : St} {Bs : Nat → List Nat}, RelX K S a w L Bs → healGo l q S = some S' → ∃ Bs', RelX K S' a w L Bs'
  | [], q, S, S', Bs, h, hs => by cases hs; exact ⟨Bs, h⟩
  | y :: l, q, S, S', Bs, h, hs => by
    simp only [healGo] at hs; split at hs
    · rename_i t xs i off m hq
      split at hs
      · rename_i τ ys hm
        split at hs
        · rename_i z0 hz0
          obtain ⟨z, hz⟩ := putAt_any t _ (xs.getD i t.dflt) _ _ _ hz0; rw [rowPut_eq hz] at hs; obtain ⟨Bs1, h1⟩ := heal_step h hq hm hz; exact healGo_sound l _ h1 hs
        · cases hs
      · cases hs
    · exact healGo_sound l _ h hs
theorem heal_sound {S S' : St} (h : Rel K S a w) (hs : S.heal = some S') : Rel K S' a w := by
  obtain ⟨L, Bs, hx⟩ := h.relX; obtain ⟨Bs', h'⟩ := healGo_sound _ _ hx hs; exact h'.rel
end
end Go.Proofs.GR

