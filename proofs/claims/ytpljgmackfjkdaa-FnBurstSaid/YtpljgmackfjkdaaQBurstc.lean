/-
  No statement is proved here: an abstract run of the program's code over plain data, and that it tells what the code does (part 3 of 4).
  No condition.
-/
import Derived.Test.YtpljgmackfjkdaaQBurstb
import Derived.LoopN
namespace Go.Proofs.GR

section
variable {K : Start} {P : Program} {Γ : Tab} {ρ : Type} {C : Orc}

def CallsOK (K : Start) (P : Program) (Γ : Tab) (C : Orc) (ρ : Type) : Prop :=
  ∀ (o : Oper) (S : St) (a : Act) (w : World) (L : Nat → Value) (Bs : Nat → List Nat) (m : Nat) (k : St → Option ρ) (r : ρ) (c : Call) (f : Operand) (vs : List Val), RelX K S a w L Bs → o.op = .call c → c.callee = .value f → toVals S c.args.toList = some vs →
    aeff Γ C o m S (fun e => k (S.apply o.dst e)) = some r → Sound K P o a w k r

theorem put_self {S : St} {g : Nat} {s : Slot} (h : lget S.slots g .nix = s) (hs : s ≠ .nix) : S.put (some g) s = S := by
  have hg : S.slots[g]? = some s := by
    rw [lget_eq, List.getD] at h
    cases he : S.slots[g]? with
    | none => rw [he] at h; exact absurd h.symm hs
    | some y => rw [he] at h; simpa using h
  have : S.slots.set g s = S.slots := by
    apply List.ext_getElem?; intro i
    by_cases hi : g = i
    · subst hi
      rw [List.getElem?_set_self (List.getElem?_eq_some_iff.1 hg).1, hg]
    · rw [List.getElem?_set_ne hi]
  cases S with
  | mk sl ob =>
    simp only [St.put, lset_eq]; simp only at this; rw [this]

theorem yielded_of {S : St} {a : Act} {w : World} {L : Nat → Value} {Bs : Nat → List Nat} (h : RelX K S a w L Bs) {ops : Array Oper} {j g : Nat} (hd : dstAt ops.toList j = some g) {b : Bool} (hg : lget S.slots g .nix = .val (.one (.dat .bool b))) : yielded ops a.tmps j = some b := by
  unfold dstAt at hd; rw [lat?_eq] at hd; split at hd
  · rename_i oj hj
    have hj' : ops[j]? = some oj := by simpa using hj
    have hs : S.slots[g]? = some (.val (.one (.dat .bool b))) := by
      rw [lget_eq, List.getD] at hg
      cases he : S.slots[g]? with
      | none => rw [he] at hg; cases hg
      | some y => rw [he] at hg; simpa using hg
    have hlt : g < a.tmps.size := by rw [h.size]; exact (List.getElem?_eq_some_iff.1 hs).1
    have hv := h.slots g _ a.tmps[g] hs (Array.getElem?_eq_getElem hlt); have e := bool_inv hv.2; unfold yielded; rw [hj']; simp only [Option.bind_some, hd, Array.getElem?_eq_getElem hlt, e]
  · cases hd

theorem undef_rep {w : World} {objs : List AObj} {L : Nat → Value} {own : Nat → Prop} : SlotRep w objs L own (.tup []) undef := ⟨#[], rfl, rfl, fun i x u hx => by simp at hx⟩
theorem yielded_undef {S : St} {a : Act} {w : World} {L : Nat → Value} {Bs : Nat → List Nat} (h : RelX K S a w L Bs) {ops : Array Oper} {j g : Nat} (hd : dstAt ops.toList j = some g) (hg : lget S.slots g .nix = .tup []) : yielded ops a.tmps j = none := by
  unfold dstAt at hd; rw [lat?_eq] at hd; split at hd
  · rename_i oj hj
    have hj' : ops[j]? = some oj := by simpa using hj
    have hs : S.slots[g]? = some (.tup []) := by
      rw [lget_eq, List.getD] at hg
      cases he : S.slots[g]? with
      | none => rw [he] at hg; cases hg
      | some y => rw [he] at hg; simpa using hg
    have hlt : g < a.tmps.size := by rw [h.size]; exact (List.getElem?_eq_some_iff.1 hs).1
    obtain ⟨vs, hv, _⟩ := h.slots g _ a.tmps[g] hs (Array.getElem?_eq_getElem hlt); unfold yielded; rw [hj']; simp only [Option.bind_some, hd, Array.getElem?_eq_getElem hlt, hv]
  · cases hd

theorem aop_sound (T : TabOK Γ P) (HC : CallsOK K P Γ C ρ) {o : Oper} {S : St} {a : Act} {w : World} {L : Nat → Value} {Bs : Nat → List Nat} (h : RelX K S a w L Bs) {k : St → Option ρ} {r : ρ} (hk : aop Γ C o S k = some r) : Sound K P o a w k r :=
  by
  unfold aop at hk; split at hk
  · rename_i S' hs
    exact sound_loadSub h T hs hk
  · exact aeff_sound h T (fun c f vs ho hf hv hk => HC o S a w L Bs _ k r c f vs h ho hf hv hk) hk

theorem aops_sound (T : TabOK Γ P) (HC : CallsOK K P Γ C ρ) {ops : Array Oper} {Q : Exit → Act → World → Prop} {k : St → Option ρ} {r : ρ} (hQ : ∀ S a w, Rel K S a w → k S = some r → Q .normal a w) :
    ∀ (rest : List Oper) (S : St) (a : Act) (w : World), Rel K S a w → aops Γ C ops.toList rest S k = some r → wpList P ops Q rest a w
  | [], S, a, w, h, hk => by
    simp only [aops] at hk; split at hk
    · rename_i S' hs
      exact hQ S' a w (heal_sound h hs) hk
    · cases hk
  | o :: rest, S, a, w, h, hk => by
    obtain ⟨L, Bs, hx⟩ := h.relX; simp only [aops] at hk
    have go : ∀ {S0 : St}, S0 = S → aop Γ C o S0 (fun S' => S'.force fun S'' => aops Γ C ops.toList rest S'' k) = some r → o.wp P a w (wpList P ops Q rest) Q := by
      intro S0 hS0 hk0; rw [hS0] at hk0; obtain ⟨S', hk', hnext⟩ := aop_sound T HC hx hk0; simp only [force_eq] at hk'; exact hnext _ Q (fun a' w' hr => aops_sound T HC hQ rest S' a' w' hr hk')
    split at hk
    · rename_i hg
      refine wpList_plain hg (fun K' hK' => ?_); exact Oper.wp_mono hK' (go rfl hk)
    · rename_i j want hg
      split at hk
      · rename_i g hd
        split at hk
        · rename_i b hs
          change Bool at b
          have hself := put_self hs (by simp); have hy := yielded_of hx hd hs
          have hw : Region.wanted o (yielded ops a.tmps) = (b == want) := by
            simp only [Region.wanted, hg, hy]; cases b <;> cases want <;> rfl
          unfold wpList; split at hk
          · rw [if_pos (by rw [hw]; rfl)]
            exact .inl (go hself hk)
          · rw [if_pos (by rw [hw]; rfl)]
            exact .inl (go hself hk)
          · rw [if_neg (by rw [hw]; simp)]
            rw [hself, force_eq] at hk
            exact aops_sound T HC hQ rest _ _ _ (RelX.put hx o.dst (s := .tup []) (v := undef) undef_rep).rel hk
          · rw [if_neg (by rw [hw]; simp)]
            rw [hself, force_eq] at hk
            exact aops_sound T HC hQ rest _ _ _ (RelX.put hx o.dst (s := .tup []) (v := undef) undef_rep).rel hk
        · rename_i hs
          have hw : Region.wanted o (yielded ops a.tmps) = false := by
            simp only [Region.wanted, hg, yielded_undef hx hd hs]; rfl
          unfold wpList; rw [if_neg (by rw [hw]; simp)]; rw [force_eq] at hk
          exact aops_sound T HC hQ rest _ _ _ (RelX.put hx o.dst (s := .tup []) (v := undef) undef_rep).rel hk
        · cases hk
      · cases hk

def PostK (K : Start) (k : Ex → St → Option ρ) (r : ρ) : Exit → Act → World → Prop
  | .normal, a, w => ∃ S, Rel K S a w ∧ k .normal S = some r
  | .exit id, a, w => ∃ S, Rel K S a w ∧ k (.exit id) S = some r
  | .ret, a, w => ∃ S, Rel K S a w ∧ k .ret S = some r
  | _, _, _ => False

def DrawsOK (K : Start) (P : Program) (Γ : Tab) (C : Orc) (ρ : Type) : Prop :=
  ∀ (id : Nat) (ops : Array Oper) (S : St) (a : Act) (w : World) (k : Ex → St → Option ρ) (r : ρ), Rel K S a w → adraw Γ C ops S (k .normal) = some r → (Code.region id ops true).wp P (PostK K k r) a w

theorem acode_sound (T : TabOK Γ P) (HC : CallsOK K P Γ C ρ) (HD : DrawsOK K P Γ C ρ) {keep : Nat} (hkeep : K.base.length ≤ keep) (live : Nat → List Tmp) (n : Nat) :
    ∀ (c : Code) (blk : Nat) (S : St) (a : Act) (w : World) (k : Ex → St → Option ρ) (r : ρ), Rel K S a w → acode Γ C keep live n c blk S k = some r → c.wp P (PostK K k r) a w
  | .skip, blk, S, a, w, k, r, h, hk => wp_skip ⟨S, h, by simpa only [acode] using hk⟩
  | .region id ops false, blk, S, a, w, k, r, h, hk => by
    simp only [acode] at hk; exact wp_region_list (aops_sound T HC (fun S' a' w' h' hk' => ⟨S', h', hk'⟩) ops.toList S a w h hk)
  | .region id ops true, blk, S, a, w, k, r, h, hk => by
    simp only [acode] at hk; exact HD id ops S a w k r h hk
  | .seq x y, blk, S, a, w, k, r, h, hk => by
    simp only [acode] at hk; refine wp_seq (Code.wp_mono (fun e a' w' q => ?_) (acode_sound T HC HD hkeep live n x blk S a w _ r h hk))
    cases e with
    | normal =>
      obtain ⟨S', h', hk'⟩ := q; exact acode_sound T HC HD hkeep live n y blk S' a' w' k r h' hk'
    | exit id => exact q
    | ret => exact q
    | goto l => exact q.elim
    | panic ch => exact q.elim
    | outgrown => exact q.elim
  | .cond c x y, blk, S, a, w, k, r, h, hk => by
    simp only [acode] at hk; obtain ⟨L, Bs, hx⟩ := h.relX; split at hk
    · rename_i v hv
      change Bool at v
      have e := bool_inv (hx.cell hv (by simp)).2; refine wp_cond e ?_
      cases v with
      | true => exact acode_sound T HC HD hkeep live n x blk S a w k r h hk
      | false => exact acode_sound T HC HD hkeep live n y blk S a w k r h hk
    · cases hk
  | .block id c, blk, S, a, w, k, r, h, hk => by
    simp only [acode] at hk; refine wp_block (Code.wp_mono (fun e a' w' q => ?_) (acode_sound T HC HD hkeep live n c id S a w _ r h hk))
    cases e with
    | normal => exact q
    | exit j =>
      obtain ⟨S', h', hk'⟩ := q; simp only at hk'
      show if j = id then _ else _
      cases hb : Nat.beq j id with
      | true =>
        rw [hb] at hk'; rw [if_pos (Nat.eq_of_beq_eq_true hb)]; exact ⟨S', h', hk'⟩
      | false =>
        rw [hb] at hk'
        have hne : j ≠ id := by rintro rfl; simp at hb
        rw [if_neg hne]; exact ⟨S', h', hk'⟩
    | ret => exact q
    | goto l => exact q.elim
    | panic ch => exact q.elim
    | outgrown => exact q.elim
  | .loop b, blk, S, a, w, k, r, h, hk => by
    simp only [acode] at hk; rw [canonF_eq] at hk; obtain ⟨L, Bs, hx⟩ := h.relX; obtain ⟨L', Bs', hx'⟩ := hx.canon hkeep (live blk)
    have key : ∀ (m : Nat) (S : St) (a : Act) (w : World), Rel K S a w → aloop (fun S' k' => acode Γ C keep live n b blk S' k') keep (live blk) m S k = some r → Code.rounds P b (PostK K k r) m a w := by
      intro m
      induction m with
      | zero => intro S a w _ hk; simp only [aloop] at hk; cases hk
      | succ m ih =>
        intro S a w h hk; simp only [aloop] at hk; refine Code.wp_mono (fun e a' w' q => ?_) (acode_sound T HC HD hkeep live n b blk S a w _ r h hk)
        cases e with
        | normal =>
          obtain ⟨S', h', hk'⟩ := q; simp only at hk'; rw [canonF_eq] at hk'; obtain ⟨L, Bs, hx⟩ := h'.relX; obtain ⟨L', Bs', hx'⟩ := hx.canon hkeep (live blk); exact ih _ a' w' hx'.rel hk'
        | exit id => exact q
        | ret => exact q
        | goto l => exact q.elim
        | panic ch => exact q.elim
        | outgrown => exact q.elim
    exact wp_loop_rounds n (key n _ a w hx'.rel hk)
  | .exit id, blk, S, a, w, k, r, h, hk => wp_exit ⟨S, h, by simpa only [acode] using hk⟩
  | .ret, blk, S, a, w, k, r, h, hk => wp_ret ⟨S, h, by simpa only [acode] using hk⟩
  | .rangeFunc _ _ _ _, _, _, _, _, _, _, _, hk => by simp only [acode] at hk; cases hk
  | .scope _, _, _, _, _, _, _, _, hk => by simp only [acode] at hk; cases hk
  | .label _, _, _, _, _, _, _, _, hk => by simp only [acode] at hk; cases hk
  | .goto _, _, _, _, _, _, _, _, hk => by simp only [acode] at hk; cases hk
  | .refuse _, _, _, _, _, _, _, _, hk => by simp only [acode] at hk; cases hk
end
end Go.Proofs.GR

namespace Go.Proofs.GR

structure Tgt (objs' : List AObj) (L L' : Nat → Value) (m : Nat) (p : List AObj) (os : List Nat) : Prop where
  obj : ∀ i y, p[i]? = some y → objs'[m + i]? = some y
  loc : ∀ (i : Nat) o, os[i]? = some o → L' (m + i) = L o

theorem Tgt.left {objs' : List AObj} {L L' : Nat → Value} {m : Nat} {p q : List AObj} {os os' : List Nat} (h : Tgt objs' L L' m (p ++ q) (os ++ os')) : Tgt objs' L L' m p os :=
  ⟨fun i y hy => h.obj i y (by rw [List.getElem?_append_left (List.getElem?_eq_some_iff.1 hy).1]; exact hy), fun i o ho => h.loc i o (by rw [List.getElem?_append_left (List.getElem?_eq_some_iff.1 ho).1]; exact ho)⟩
theorem Tgt.right {objs' : List AObj} {L L' : Nat → Value} {m : Nat} {p q : List AObj} {os os' : List Nat} (h : Tgt objs' L L' m (p ++ q) (os ++ os')) (hl : p.length = os.length) : Tgt objs' L L' (m + p.length) q os' :=
  ⟨fun i y hy => by
    have := h.obj (p.length + i) y (by rw [List.getElem?_append_right (by omega)]; simpa using hy)
    rwa [← Nat.add_assoc] at this, fun i o ho => by
    have := h.loc (os.length + i) o (by rw [List.getElem?_append_right (by omega)]; simpa using ho)
    rwa [← Nat.add_assoc, ← hl] at this⟩

section
variable {K : Start} {S : St} {w : World} {L : Nat → Value} {Bs : Nat → List Nat} {F : Nat → Prop}

def Turns (w : World) (S : St) (L : Nat → Value) (F : Nat → Prop) (objs' : List AObj) (L' : Nat → Value) (F' : Nat → Prop) (c c' : Cell) : Prop := ∀ u, CellRep w S.objs L F c u → CellRep w objs' L' F' c' u

theorem turns_dat {objs' : List AObj} {L' : Nat → Value} {F' : Nat → Prop} (hF : ∀ b, F' b → F b) (t : Ty) (x : t.den) : Turns w S L F objs' L' F' (.dat t x) (.dat t x) := by
  intro u hc; obtain ⟨G, h1, h2⟩ := hc; exact ⟨G, h1, fun b hb hf => h2 b hb (hF b hf)⟩
theorem turns_rptr {objs' : List AObj} {L' : Nat → Value} {F' : Nat → Prop} (hF : ∀ b, F' b → F b) (t : Ty) (x : t.den) : Turns w S L F objs' L' F' (.rptr t x) (.rptr t x) := fun _ hc => RPtr.less hc hF
theorem turns_fn {objs' : List AObj} {L' : Nat → Value} {F' : Nat → Prop} (hF : ∀ b, F' b → F b) (f : FuncId) (caps : List (Sigma Ty.den)) : Turns w S L F objs' L' F' (.fn f caps) (.fn f caps) := by
  intro u hc; obtain ⟨vs, h1, h2, h3⟩ := hc; exact ⟨vs, h1, h2, fun i p u hp hu => (h3 i p u hp hu).less hF⟩
theorem turns_own {objs' : List AObj} {L' : Nat → Value} {F' : Nat → Prop} {o m : Nat} {t : Ty} {xs : List t.den} {d : Bool} (ho : S.objs[o]? = some (.row t xs d)) (h1 : objs'[m]? = some (.row t xs d)) (h2 : L' m = L o) : Turns w S L F objs' L' F' (.own o) (.own m) := by
  intro u hc; refine ⟨.of h1 rfl, fun t' xs' d' hx => ?_⟩; rw [h2]; exact hc.2 t xs d (.inl ho)

theorem give_spec {c : Cell} {x : X0} {os : List Nat} (hg : S.give c = some (x, os)) {m : Nat} {c' : Cell} {p : List AObj} (ht : take0 m x = (c', p)) :
    p.length = os.length ∧ (∀ (i : Nat) (y : AObj), p[i]? = some y → ∃ (t : Ty) (xs : List t.den) (d : Bool) (o : Nat), y = .row t xs d ∧ os[i]? = some o ∧ S.objs[o]? = some y) ∧
    ∀ objs' L' F', (∀ b, F' b → F b) → Tgt objs' L L' m p os → Turns w S L F objs' L' F' c c' := by
  cases c with
  | dat t y =>
    simp only [St.give] at hg; cases hg; cases ht; exact ⟨rfl, fun i y hy => by simp at hy, fun objs' L' F' hF _ => turns_dat hF _ _⟩
  | own o =>
    simp only [St.give] at hg; split at hg
    · rename_i t xs d ho
      cases hg; cases ht; have hob := lget_obj ho (by simp); refine ⟨rfl, fun i y hy => ?_, fun objs' L' F' hF tg => ?_⟩
      · cases i with
        | zero => cases hy; exact ⟨t, xs, d, o, rfl, rfl, hob⟩
        | succ i => simp at hy
      · exact turns_own hob (by simpa using tg.obj 0 _ rfl) (by simpa using tg.loc 0 _ rfl)
    · cases hg
  | rptr t y =>
    simp only [St.give] at hg; cases hg; cases ht; exact ⟨rfl, fun i y hy => by simp at hy, fun objs' L' F' hF _ => turns_rptr hF _ _⟩
  | fn f caps =>
    simp only [St.give] at hg; cases hg; cases ht; exact ⟨rfl, fun i y hy => by simp at hy, fun objs' L' F' hF _ => turns_fn hF _ _⟩
  | nilP =>
    simp only [St.give] at hg; cases hg; cases ht; exact ⟨rfl, fun i y hy => by simp at hy, fun objs' L' F' hF _ u hc => hc⟩
  | nilS =>
    simp only [St.give] at hg; cases hg; cases ht; exact ⟨rfl, fun i y hy => by simp at hy, fun objs' L' F' hF _ u hc => hc⟩
  | _ => simp only [St.give] at hg; cases hg

theorem gives_spec : ∀ (cs : List Cell) (xs : List X0) (os : List Nat) (m : Nat) (cs' : List Cell) (p : List AObj), lendAll S.give cs = some (xs, os) → takeAll m xs = (cs', p) →
    p.length = os.length ∧ (∀ (i : Nat) (y : AObj), p[i]? = some y → ∃ (t : Ty) (xs : List t.den) (d : Bool) (o : Nat), y = .row t xs d ∧ os[i]? = some o ∧ S.objs[o]? = some y) ∧ cs'.length = cs.length ∧
    ∀ objs' L' F', (∀ b, F' b → F b) → Tgt objs' L L' m p os → ∀ (j : Nat) c' c, cs'[j]? = some c' → cs[j]? = some c → Turns w S L F objs' L' F' c c'
  | [], xs, os, m, cs', p, hg, ht => by
    cases hg; cases ht; exact ⟨rfl, fun i y hy => by simp at hy, rfl, fun _ _ _ _ _ j c' c hc => by simp at hc⟩
  | c :: cs, xs, os, m, cs', p, hg, ht => by
    simp only [lendAll] at hg; split at hg
    · rename_i x os1 xs1 os2 h1 h2
      cases hg; simp only [takeAll] at ht
      cases he1 : take0 m x with
      | mk c1 p1 =>
        cases he2 : takeAll (Nat.add m (llen p1)) xs1 with
        | mk cs1 p2 =>
          rw [he1] at ht; simp only [he2] at ht; cases ht; obtain ⟨a1, a2, a3⟩ := give_spec (w := w) (L := L) (F := F) h1 he1; obtain ⟨b1, b2, b3, b4⟩ := gives_spec cs xs1 os2 _ cs1 p2 h2 he2; rw [lapp_eq, lapp_eq]; refine ⟨by simp [a1, b1], fun i y hy => ?_, by simp [b3], fun objs' L' F' hF tg j c' c0 hc' hc0 => ?_⟩
          · by_cases hi : i < p1.length
            · rw [List.getElem?_append_left hi] at hy
              obtain ⟨t, ys, d, o, g1, g2, g3⟩ := a2 i y hy; exact ⟨t, ys, d, o, g1, by rw [List.getElem?_append_left (by omega)]; exact g2, g3⟩
            · rw [List.getElem?_append_right (by omega)] at hy
              obtain ⟨t, ys, d, o, g1, g2, g3⟩ := b2 _ y hy; exact ⟨t, ys, d, o, g1, by rw [List.getElem?_append_right (by omega), ← a1]; exact g2, g3⟩
          · cases j with
            | zero => cases hc'; cases hc0; exact a3 objs' L' F' hF tg.left
            | succ j =>
              refine b4 objs' L' F' hF ?_ j c' c0 (by simpa using hc') (by simpa using hc0); have := tg.right a1; rw [llen_eq]; exact this
    · cases hg

def From (w : World) (S : St) (L : Nat → Value) (F : Nat → Prop) (objs' : List AObj) (L' : Nat → Value) (F' : Nat → Prop) (y : AObj) (o : Nat) : Prop :=
  match y with
  | .row t xs d => S.objs[o]? = some (.row t xs d)
  | .box t cs' => ∃ cs, S.objs[o]? = some (.box t cs) ∧ cs'.length = cs.length ∧ ∀ (j : Nat) c' c, cs'[j]? = some c' → cs[j]? = some c → Turns w S L F objs' L' F' c c'
  | _ => False

theorem from_row {objs' : List AObj} {L' : Nat → Value} {F' : Nat → Prop} {p : List AObj} {os : List Nat} (h : ∀ (i : Nat) (y : AObj), p[i]? = some y → ∃ (t : Ty) (xs : List t.den) (d : Bool) (o : Nat), y = .row t xs d ∧ os[i]? = some o ∧ S.objs[o]? = some y) :
    ∀ (i : Nat) y, p[i]? = some y → ∃ o, os[i]? = some o ∧ From w S L F objs' L' F' y o := by
  intro i y hy; obtain ⟨t, xs, d, o, rfl, h2, h3⟩ := h i y hy; exact ⟨o, h2, h3⟩

theorem giveX_spec {c : Cell} {x : X} {os : List Nat} (hg : giveX S c = some (x, os)) {m : Nat} {c' : Cell} {p : List AObj} (ht : takeX m x = (c', p)) :
    p.length = os.length ∧ ∀ objs' L' F', (∀ b, F' b → F b) → Tgt objs' L L' m p os → (∀ (i : Nat) y, p[i]? = some y → ∃ o, os[i]? = some o ∧ From w S L F objs' L' F' y o) ∧ Turns w S L F objs' L' F' c c' := by
  unfold giveX at hg; split at hg
  · rename_i o
    split at hg
    · rename_i t cs ho
      split at hg
      · rename_i xs os1 hl
        cases hg; simp only [takeX] at ht
        cases he : takeAll m xs with
        | mk cs1 p1 =>
          rw [he] at ht; simp only [Prod.mk.injEq] at ht; obtain ⟨rfl, rfl⟩ := ht; obtain ⟨a1, a2, a3, a4⟩ := gives_spec (w := w) (L := L) (F := F) cs xs os1 m cs1 p1 hl he; rw [lapp_eq, lapp_eq, llen_eq]; have hob := lget_obj ho (by simp); refine ⟨by simp [a1], fun objs' L' F' hF tg => ⟨fun i y hy => ?_, fun u hc => ?_⟩⟩
          · by_cases hi : i < p1.length
            · rw [List.getElem?_append_left hi] at hy
              obtain ⟨o', g1, g2⟩ := from_row (w := w) (L := L) (F := F) (objs' := objs') (L' := L') (F' := F') a2 i y hy; exact ⟨o', by rw [List.getElem?_append_left (by omega)]; exact g1, g2⟩
            · rw [List.getElem?_append_right (by omega)] at hy
              have hi0 : i - p1.length = 0 := by
                have := (List.getElem?_eq_some_iff.1 hy).1
                simp at this
                omega
              rw [hi0] at hy; cases hy; refine ⟨o, by rw [List.getElem?_append_right (by omega), ← a1, hi0]; rfl, cs, hob, a3, a4 objs' L' F' hF tg.left⟩
          · have t2 := tg.right a1
            have h1 := t2.obj 0 _ rfl; have h2 := t2.loc 0 _ rfl; simp only [Nat.add_zero] at h1 h2; refine ⟨.of h1 rfl, fun t' cs' hx => ?_⟩; have e : Nat.add m p1.length = m + p1.length := rfl; rw [e] at hx ⊢; rw [h1] at hx; cases hx
            show PtrOf (L' (m + p1.length)) 0 u
            rw [h2]; exact hc.2 t cs hob
      · cases hg
    · cases hg
  · split at hg
    · rename_i x0 os0 hx
      cases hg; obtain ⟨a1, a2, a3⟩ := give_spec (w := w) (L := L) (F := F) hx (m := m) (c' := c') (p := p) ht; exact ⟨a1, fun objs' L' F' hF tg => ⟨from_row a2, a3 objs' L' F' hF tg⟩⟩
    · cases hg

theorem giveAll_spec : ∀ (cs : List Cell) (xs : List X) (os : List Nat) (m : Nat) (cs' : List Cell) (p : List AObj), giveAll S cs = some (xs, os) → takeXs m xs = (cs', p) →
    p.length = os.length ∧ cs'.length = cs.length ∧ ∀ objs' L' F', (∀ b, F' b → F b) → Tgt objs' L L' m p os →
      (∀ (i : Nat) y, p[i]? = some y → ∃ o, os[i]? = some o ∧ From w S L F objs' L' F' y o) ∧ ∀ (j : Nat) c' c, cs'[j]? = some c' → cs[j]? = some c → Turns w S L F objs' L' F' c c'
  | [], xs, os, m, cs', p, hg, ht => by
    cases hg; cases ht; exact ⟨rfl, rfl, fun _ _ _ _ _ => ⟨fun i y hy => by simp at hy, fun j c' c hc => by simp at hc⟩⟩
  | c :: cs, xs, os, m, cs', p, hg, ht => by
    simp only [giveAll] at hg; split at hg
    · rename_i x os1 xs1 os2 h1 h2
      cases hg; simp only [takeXs] at ht
      cases he1 : takeX m x with
      | mk c1 p1 =>
        cases he2 : takeXs (Nat.add m (llen p1)) xs1 with
        | mk cs1 p2 =>
          rw [he1] at ht; simp only [he2] at ht; cases ht; obtain ⟨a1, a2⟩ := giveX_spec (w := w) (L := L) (F := F) h1 he1; obtain ⟨b1, b2, b3⟩ := giveAll_spec cs xs1 os2 _ cs1 p2 h2 he2; rw [lapp_eq, lapp_eq]; refine ⟨by simp [a1, b1], by simp [b2], fun objs' L' F' hF tg => ?_⟩; obtain ⟨a3, a4⟩ := a2 objs' L' F' hF tg.left; obtain ⟨b4, b5⟩ := b3 objs' L' F' hF (by rw [llen_eq]; exact tg.right a1); refine ⟨fun i y hy => ?_, fun j c' c0 hc' hc0 => ?_⟩
          · by_cases hi : i < p1.length
            · rw [List.getElem?_append_left hi] at hy
              obtain ⟨o', g1, g2⟩ := a3 i y hy; exact ⟨o', by rw [List.getElem?_append_left (by omega)]; exact g1, g2⟩
            · rw [List.getElem?_append_right (by omega)] at hy
              obtain ⟨o', g1, g2⟩ := b4 _ y hy; exact ⟨o', by rw [List.getElem?_append_right (by omega), ← a1]; exact g1, g2⟩
          · cases j with
            | zero => cases hc'; cases hc0; exact a4
            | succ j => exact b5 j c' c0 (by simpa using hc') (by simpa using hc0)
    · cases hg

def VTurns (w : World) (S : St) (L : Nat → Value) (F : Nat → Prop) (objs' : List AObj) (L' : Nat → Value) (F' : Nat → Prop) (v v' : Val) : Prop := ∀ u, ValRep w S.objs L F v u → ValRep w objs' L' F' v' u

theorem giveVals_spec : ∀ (vs : List Val) (xs : List XV) (os : List Nat) (m : Nat) (vs' : List Val) (p : List AObj), giveVals S vs = some (xs, os) → takeVs m xs = some (vs', p) →
    p.length = os.length ∧ vs'.length = vs.length ∧ ∀ objs' L' F', (∀ b, F' b → F b) → Tgt objs' L L' m p os →
      (∀ (i : Nat) y, p[i]? = some y → ∃ o, os[i]? = some o ∧ From w S L F objs' L' F' y o) ∧ ∀ (j : Nat) v' v, vs'[j]? = some v' → vs[j]? = some v → VTurns w S L F objs' L' F' v v'
  | [], xs, os, m, vs', p, hg, ht => by
    cases hg; cases ht; exact ⟨rfl, rfl, fun _ _ _ _ _ => ⟨fun i y hy => by simp at hy, fun j c' c hc => by simp at hc⟩⟩
  | v :: vs, xs, os, m, vs', p, hg, ht => by
    simp only [giveVals] at hg; split at hg
    · rename_i x os1 xs1 os2 h1 h2
      cases hg; simp only [takeVs] at ht; split at ht
      · rename_i v1 p1 he1
        split at ht
        · rename_i vs1 p2 he2
          cases ht
          have key : p1.length = os1.length ∧ ∀ objs' L' F', (∀ b, F' b → F b) → Tgt objs' L L' m p1 os1 → (∀ (i : Nat) y, p1[i]? = some y → ∃ o, os1[i]? = some o ∧ From w S L F objs' L' F' y o) ∧ VTurns w S L F objs' L' F' v v1 := by
            unfold takeV at he1
            cases hx : takeXs m x with
            | mk cs1 q1 =>
              obtain ⟨a1, a2, a3⟩ := giveAll_spec (w := w) (L := L) (F := F) v.cells x os1 m cs1 q1 h1 hx
              cases v with
              | agg cs =>
                simp only [hx] at he1; cases he1; refine ⟨a1, fun objs' L' F' hF tg => ⟨(a3 objs' L' F' hF tg).1, fun u hu => ?_⟩⟩; obtain ⟨us, g1, g2, g3⟩ := hu; refine ⟨us, g1, by rw [a2]; exact g2, fun i c' u hc' hu => ?_⟩
                have hi : i < cs.length := by rw [← show cs1.length = cs.length from a2]; exact (List.getElem?_eq_some_iff.1 hc').1
                obtain ⟨g4, g5⟩ := g3 i _ u (List.getElem?_eq_getElem hi) hu; exact ⟨g4, (a3 objs' L' F' hF tg).2 i c' _ hc' (List.getElem?_eq_getElem hi) u g5⟩
              | one c =>
                simp only [hx] at he1
                cases cs1 with
                | nil => simp at he1
                | cons c1 r1 =>
                  cases r1 with
                  | cons _ _ => simp at he1
                  | nil =>
                    simp at he1
                    obtain ⟨rfl, rfl⟩ := he1; exact ⟨a1, fun objs' L' F' hF tg => ⟨(a3 objs' L' F' hF tg).1, fun u hu => ⟨hu.1, (a3 objs' L' F' hF tg).2 0 c1 c rfl rfl u hu.2⟩⟩⟩
          obtain ⟨a1, a2⟩ := key; obtain ⟨b1, b2, b3⟩ := giveVals_spec vs xs1 os2 _ vs1 p2 h2 he2; rw [lapp_eq, lapp_eq]; refine ⟨by simp [a1, b1], by simp [b2], fun objs' L' F' hF tg => ?_⟩; obtain ⟨a3, a4⟩ := a2 objs' L' F' hF tg.left; obtain ⟨b4, b5⟩ := b3 objs' L' F' hF (by rw [llen_eq]; exact tg.right a1); refine ⟨fun i y hy => ?_, fun j c' c0 hc' hc0 => ?_⟩
          · by_cases hi : i < p1.length
            · rw [List.getElem?_append_left hi] at hy
              obtain ⟨o', g1, g2⟩ := a3 i y hy; exact ⟨o', by rw [List.getElem?_append_left (by omega)]; exact g1, g2⟩
            · rw [List.getElem?_append_right (by omega)] at hy
              obtain ⟨o', g1, g2⟩ := b4 _ y hy; exact ⟨o', by rw [List.getElem?_append_right (by omega), ← a1]; exact g1, g2⟩
          · cases j with
            | zero => cases hc'; cases hc0; exact a4
            | succ j => exact b5 j c' c0 (by simpa using hc') (by simpa using hc0)
        · cases ht
      · cases ht
    · cases hg

theorem giveMuts_spec : ∀ (muts : List Nat) (us : List X) (os : List Nat) (m : Nat) (ids : List Nat) (u : List (Nat × AObj)) (p : List AObj), giveMuts S muts = some (us, os) → updX m ids us = some (u, p) →
    ids.length = muts.length ∧ u.map (·.1) = ids ∧ p.length = os.length ∧ ∀ objs' L' F', (∀ b, F' b → F b) → Tgt objs' L L' m p os →
      (∀ (i : Nat) y, p[i]? = some y → ∃ o, os[i]? = some o ∧ From w S L F objs' L' F' y o) ∧ ∀ (j : Nat) q, u[j]? = some q → ∃ o, muts[j]? = some o ∧ From w S L F objs' L' F' q.2 o
  | [], us, os, m, ids, u, p, hg, hu => by
    cases hg
    cases ids with
    | nil => cases hu; exact ⟨rfl, rfl, rfl, fun _ _ _ _ _ => ⟨fun i y hy => by simp at hy, fun j q hq => by simp at hq⟩⟩
    | cons _ _ => simp only [updX] at hu; cases hu
  | o :: muts, us, os, m, ids, u, p, hg, hu => by
    simp only [giveMuts] at hg; split at hg
    · cases hg
    · rename_i xs1 os1 h1
      split at hg
      · rename_i t ys d ho
        cases hg; have hob := lget_obj ho (by simp)
        cases ids with
        | nil => simp only [updX] at hu; cases hu
        | cons id ids =>
          simp only [updX] at hu; split at hu
          · rename_i u1 p1 he
            cases hu; obtain ⟨b1, b2, b3, b4⟩ := giveMuts_spec muts xs1 os m ids u1 p h1 he; refine ⟨by simp [b1], by simp [b2], b3, fun objs' L' F' hF tg => ⟨(b4 objs' L' F' hF tg).1, fun j q hq => ?_⟩⟩
            cases j with
            | zero => cases hq; exact ⟨o, rfl, hob⟩
            | succ j => exact (b4 objs' L' F' hF tg).2 j q (by simpa using hq)
          · cases hu
      · rename_i t cs ho
        split at hg
        · rename_i ys os2 hl
          cases hg; have hob := lget_obj ho (by simp)
          cases ids with
          | nil => simp only [updX] at hu; cases hu
          | cons id ids =>
            simp only [updX] at hu
            cases he : takeAll m ys with
            | mk cs1 p1 =>
              rw [he] at hu; simp only at hu; split at hu
              · rename_i u1 p2 he2
                cases hu; obtain ⟨a1, a2, a3, a4⟩ := gives_spec (w := w) (L := L) (F := F) cs ys os2 m cs1 p1 hl he; obtain ⟨b1, b2, b3, b4⟩ := giveMuts_spec muts xs1 os1 _ ids u1 p2 h1 he2; rw [lapp_eq, lapp_eq]; refine ⟨by simp [b1], by simp [b2], by simp [a1, b3], fun objs' L' F' hF tg => ?_⟩
                have tr : Tgt objs' L L' (Nat.add m (llen p1)) p2 os1 := by rw [llen_eq]; exact tg.right a1
                refine ⟨fun i y hy => ?_, fun j q hq => ?_⟩
                · by_cases hi : i < p1.length
                  · rw [List.getElem?_append_left hi] at hy
                    obtain ⟨o', g1, g2⟩ := from_row (w := w) (L := L) (F := F) (objs' := objs') (L' := L') (F' := F') a2 i y hy; exact ⟨o', by rw [List.getElem?_append_left (by omega)]; exact g1, g2⟩
                  · rw [List.getElem?_append_right (by omega)] at hy
                    obtain ⟨o', g1, g2⟩ := (b4 objs' L' F' hF tr).1 _ y hy; exact ⟨o', by rw [List.getElem?_append_right (by omega), ← a1]; exact g1, g2⟩
                · cases j with
                  | zero => cases hq; exact ⟨o, rfl, cs, hob, a3, a4 objs' L' F' hF tg.left⟩
                  | succ j => exact (b4 objs' L' F' hF tr).2 j q (by simpa using hq)
              · cases hu
        · cases hg
      · cases hg
end
end Go.Proofs.GR

namespace Go.Proofs.GR

def placeAll : List AObj → List (Nat × AObj) → List AObj
  | l, [] => l
  | l, (i, x) :: r => placeAll (lsetp l i x) r

def endObjs (n : Nat) (u : List (Nat × AObj)) (p q : List AObj) : List AObj := placeAll (List.replicate n .hole) u ++ (p ++ q)

theorem placeAll_len : ∀ (u : List (Nat × AObj)) (l : List AObj), (∀ q ∈ u, q.1 < l.length) → (placeAll l u).length = l.length
  | [], l, _ => rfl
  | (i, x) :: r, l, h => by
    have hi := h (i, x) (by simp)
    have e : (lsetp l i x).length = l.length := by
      simp only [lsetp, lset_eq, lpad_eq, List.length_set, List.length_append, List.length_replicate]; simp only at hi; omega
    simp only [placeAll]; rw [placeAll_len r _ (fun q hq => by rw [e]; exact h q (by simp [hq])), e]

theorem placeAll_get : ∀ (u : List (Nat × AObj)) (l : List AObj), (∀ q ∈ u, q.1 < l.length) → (u.map (·.1)).Nodup → ∀ (i : Nat) y, (placeAll l u)[i]? = some y → (∃ j : Nat, u[j]? = some (i, y)) ∨ (i ∉ u.map (·.1) ∧ l[i]? = some y)
  | [], l, _, _, i, y, hy => .inr ⟨by simp, hy⟩
  | (k, x) :: r, l, h, hn, i, y, hy => by
    have hk := h (k, x) (by simp)
    have e : (lsetp l k x).length = l.length := by
      simp only [lsetp, lset_eq, lpad_eq, List.length_set, List.length_append, List.length_replicate]; simp only at hk; omega
    simp only [List.map_cons, List.nodup_cons] at hn; simp only [placeAll] at hy
    rcases placeAll_get r _ (fun q hq => by rw [e]; exact h q (by simp [hq])) hn.2 i y hy with ⟨j, hj⟩ | ⟨h1, h2⟩
    · exact .inl ⟨j + 1, by simpa using hj⟩
    · rw [lsetp_get] at h2
      split at h2
      · rename_i hik
        cases h2; exact .inl ⟨0, by rw [hik]; rfl⟩
      · rename_i hik
        split at h2
        · exact .inr ⟨by simp [hik]; simpa using h1, h2⟩
        · simp only at hk
          split at h2
          · omega
          · cases h2

structure Post (K : Start) (ms : List Value) (r : Res) (v : Value) (w' : World) : Prop where
  ex : ∀ (n : Nat) (ids : List Nat) (u : List (Nat × AObj)) (p : List AObj) (ws : List Val) (q : List AObj), ids.length = ms.length → ids.Nodup → (∀ i ∈ ids, i < n) → updX n ids r.upd = some (u, p) → takeVs (n + p.length) r.vals = some (ws, q) →
    ∃ L' Bs', RelW K (endObjs n u p q) L' Bs' w' ∧ Within K (Own (endObjs n u p q).length Bs') w' ∧ SlotRep w' (endObjs n u p q) L' (Forb K (endObjs n u p q).length Bs') (slotOf ws) v ∧ ∀ (i : Nat) id x, ids[i]? = some id → ms[i]? = some x → L' id = x

section
variable {K : Start} {P : Program} {Γ : Tab} {S : St} {a : Act} {w : World} {L : Nat → Value} {Bs : Nat → List Nat}

theorem fixCells_rep {objs : List AObj} {F : Nat → Prop} : ∀ (ts : List Ty) (cs : List Cell) (j : Nat) (c : Cell) (u : Value), (fixCells ts cs)[j]? = some c → ∃ c0, cs[j]? = some c0 ∧ (CellRep w objs L F c0 u → CellRep w objs L F c u)
  | [], cs, j, c, u, h => ⟨c, by simpa [fixCells] using h, id⟩
  | _ :: _, [], j, c, u, h => by simp [fixCells] at h
  | t :: ts, c0 :: cs, j, c, u, h => by
    simp only [fixCells] at h
    cases j with
    | succ j =>
      obtain ⟨c1, h1, h2⟩ := fixCells_rep ts cs j c u (by simpa using h); exact ⟨c1, by simpa using h1, h2⟩
    | zero =>
      refine ⟨c0, rfl, fun hr => ?_⟩; simp only [List.getElem?_cons_zero, Option.some.injEq] at h; split at h
      · rename_i τ
        subst h; have e : u = .slice none 0 0 := hr; subst e; exact ⟨[], ⟨none, 0, rfl, ⟨Nat.le_refl _, by simp [maxLen], (fun _ => ⟨rfl, rfl, rfl⟩), (fun ad had => by cases had), (fun ad had => by cases had)⟩⟩, by simp⟩
      · subst h; exact hr

theorem fixCells_len : ∀ (ts : List Ty) (cs : List Cell), (fixCells ts cs).length = cs.length
  | [], cs => by simp [fixCells]
  | _ :: _, [] => by simp [fixCells]
  | t :: ts, c :: cs => by simp [fixCells, fixCells_len ts cs]

theorem fixVal_rep {objs : List AObj} {F : Nat → Prop} (t : TypeId) {v : Val} {u : Value} (h : ValRep w objs L F v u) : ValRep w objs L F (fixVal Γ t v) u := by
  unfold fixVal; split
  · rename_i τ c _
    split
    · rename_i c' hc
      refine ⟨h.1, ?_⟩; obtain ⟨c0, h1, h2⟩ := fixCells_rep (w := w) (L := L) (objs := objs) (F := F) τ.leaves [c] 0 c' u (by rw [hc]; rfl); cases h1; exact h2 h.2
    · exact h
  · rename_i τ cs _
    obtain ⟨vs, h1, h2, h3⟩ := h; refine ⟨vs, h1, by rw [fixCells_len]; exact h2, fun i c u hc hu => ?_⟩; obtain ⟨c0, g1, g2⟩ := fixCells_rep (w := w) (L := L) (objs := objs) (F := F) τ.leaves cs i c u hc; obtain ⟨g3, g4⟩ := h3 i c0 u g1 hu; exact ⟨g3, g2 g4⟩
  · exact h

theorem fixVals_len : ∀ (ts : List TypeId) (vs : List Val), (fixVals Γ ts vs).length = vs.length
  | [], vs => by simp [fixVals]
  | _ :: _, [] => by simp [fixVals]
  | t :: ts, v :: vs => by simp [fixVals, fixVals_len ts vs]
theorem fixVals_rep {objs : List AObj} {F : Nat → Prop} : ∀ (ts : List TypeId) (vs : List Val) (us : List Value), (∀ (i : Nat) v u, vs[i]? = some v → us[i]? = some u → ValRep w objs L F v u) → ∀ (i : Nat) v u, (fixVals Γ ts vs)[i]? = some v → us[i]? = some u → ValRep w objs L F v u
  | [], vs, us, h, i, v, u, hv, hu => h i v u (by simpa [fixVals] using hv) hu
  | _ :: _, [], us, h, i, v, u, hv, hu => by simp [fixVals] at hv
  | t :: ts, v0 :: vs, [], h, i, v, u, hv, hu => by simp at hu
  | t :: ts, v0 :: vs, u0 :: us, h, i, v, u, hv, hu => by
    simp only [fixVals] at hv
    (
      cases i with
      | zero => cases hv; cases hu; exact fixVal_rep t (h 0 v0 _ rfl rfl)
      | succ i => exact fixVals_rep ts vs us (fun i v u h1 h2 => h (i + 1) v u (by simpa using h1) (by simpa using h2)) i v u (by simpa using hv) (by simpa using hu))

theorem fixArg_rep {objs : List AObj} {F : Nat → Prop} (m : Mode) (t : TypeId) {v : Val} {u : Value} (h : ValRep w objs L F v u) : ValRep w objs L F (fixArg Γ m t v) u := by
  unfold fixArg
  cases keepNil m v with
  | true => exact h
  | false => exact fixVal_rep t h
theorem fixArgs_len : ∀ (ms : List Mode) (ts : List TypeId) (vs : List Val), (fixArgs Γ ms ts vs).length = vs.length
  | _, [], vs => by simp [fixArgs]
  | _, _ :: _, [] => by simp [fixArgs]
  | ms, t :: ts, v :: vs => by simp [fixArgs, fixArgs_len ms.tail ts vs]
theorem fixArgs_rep {objs : List AObj} {F : Nat → Prop} : ∀ (ms : List Mode) (ts : List TypeId) (vs : List Val) (us : List Value), (∀ (i : Nat) v u, vs[i]? = some v → us[i]? = some u → ValRep w objs L F v u) → ∀ (i : Nat) v u, (fixArgs Γ ms ts vs)[i]? = some v → us[i]? = some u → ValRep w objs L F v u
  | _, [], vs, us, h, i, v, u, hv, hu => h i v u (by simpa [fixArgs] using hv) hu
  | _, _ :: _, [], us, h, i, v, u, hv, hu => by simp [fixArgs] at hv
  | _, t :: ts, v0 :: vs, [], h, i, v, u, hv, hu => by simp at hu
  | ms, t :: ts, v0 :: vs, u0 :: us, h, i, v, u, hv, hu => by
    simp only [fixArgs] at hv
    (
      cases i with
      | zero => cases hv; cases hu; exact fixArg_rep _ t (h 0 v0 _ rfl rfl)
      | succ i => exact fixArgs_rep ms.tail ts vs us (fun i v u h1 h2 => h (i + 1) v u (by simpa using h1) (by simpa using h2)) i v u (by simpa using hv) (by simpa using hu))

def resF (tmps : Array Value) : ResultVar → Sem Value
  | .tmp t => pure (tmps.getD t undef)
  | .cell b t => do loadVar t (← asAddr (tmps.getD b undef))

theorem resVals_spec (h : RelX K S a w L Bs) (T : TabOK Γ P) : ∀ (l : List ResultVar) (vs : List Val), resVals Γ S l = some vs →
    ∃ us : List Value, (l.mapM (resF a.tmps)).run P w = .ok us w ∧ us.length = vs.length ∧
      ∀ (i : Nat) v u, vs[i]? = some v → us[i]? = some u → ValRep w S.objs L (Forb K S.objs.length Bs) v u
  | [], vs, hr => by cases hr; exact ⟨[], by simp, rfl, fun i v u hv => by simp at hv⟩
  | .tmp t :: l, vs, hr => by
    simp only [resVals] at hr; split at hr
    · rename_i v vs' hv hl
      cases hr; obtain ⟨us, h1, h2, h3⟩ := resVals_spec h T l vs' hl; have hg := h.get (.tmp t); simp only [St.get, Act.eval] at hg; rw [hv] at hg; refine ⟨a.tmps.getD t undef :: us, by simp only [List.mapM_cons, Sem.run_bind, resF, Sem.run_pure, Result.andThen_ok, h1], by simp [h2], fun i v' u hv' hu => ?_⟩
      cases i with
      | zero => cases hv'; cases hu; exact hg
      | succ i => exact h3 i v' u (by simpa using hv') (by simpa using hu)
    · cases hr
  | .cell b t :: l, vs, hr => by
    simp only [resVals] at hr; split at hr
    · rename_i n vs' hn hl
      split at hr
      · rename_i cs hcs
        split at hr
        · rename_i v hv
          cases hr; obtain ⟨us, h1, h2, h3⟩ := resVals_spec h T l vs' hl
          have hne : S.cell (.tmp b) ≠ .nix := by intro e; rw [e] at hcs; simp [St.loadCells] at hcs
          obtain ⟨ad, vs0, e, hc, hl1, hl2, hrr⟩ := load_cells h (h.cell rfl hne).2 hcs; obtain ⟨u, hu, hrep⟩ := run_loadAt (S := S) (L := L) T hn hv hc hl1 hl2 hrr; have e' : a.tmps.getD b undef = .pointer (some ad) := e; refine ⟨u :: us, by simp only [List.mapM_cons, Sem.run_bind, resF, e', asAddr, Sem.run_pure, Result.andThen_ok, hu, h1], by simp [h2], fun i v' u' hv' hu' => ?_⟩
          cases i with
          | zero => cases hv'; cases hu'; exact hrep
          | succ i => exact h3 i v' u' (by simpa using hv') (by simpa using hu')
        · cases hr
      · cases hr
    · cases hr

theorem leave_sound (h : RelX K S a w L Bs) (T : TabOK Γ P) {fn : Func} {muts : List Nat} {r : Res} (hl : leave Γ fn muts S = some r) : ∃ v, (results fn a.tmps).run P w = .ok v w ∧ Post K (muts.map L) r v w := by
  unfold leave at hl; split at hl
  · cases hl
  · rename_i vs hvs
    split at hl
    · rename_i xs os us os' hgv hgm
      obtain ⟨hnd, hl⟩ := bif_some hl; cases hl; rw [lapp_eq, lapp_eq] at hnd; have hnd := (lnodup_iff _).1 hnd; obtain ⟨vals, hrun, hlen, hrep⟩ := resVals_spec h T _ _ hvs; refine ⟨if h : vals.toArray.size = 1 then vals.toArray[0] else .tuple vals.toArray, ?_, ⟨fun n ids u p ws q hil hin hib hu hq => ?_⟩⟩
      · have e : results fn a.tmps = (do let vs ← fn.results.mapM (resF a.tmps); pure (if h : vs.size = 1 then vs[0] else .tuple vs)) := rfl
        rw [e, Sem.run_bind, Array.mapM_eq_mapM_toList]; simp only [Sem.run_map, hrun]; rfl
      · obtain ⟨m1, m2, m3, m4⟩ := giveMuts_spec (w := w) (L := L) (F := Forb K S.objs.length Bs) muts us os' n ids u p hgm hu
        obtain ⟨v1, v2, v3⟩ := giveVals_spec (w := w) (L := L) (F := Forb K S.objs.length Bs) _ xs os (n + p.length) ws q hgv hq
        have hul : ∀ q ∈ u, q.1 < (List.replicate n AObj.hole).length := by
          intro q hq; rw [List.length_replicate]; exact hib _ (by rw [← m2]; exact List.mem_map_of_mem hq)
        have hplen : (placeAll (List.replicate n AObj.hole) u).length = n := by rw [placeAll_len _ _ hul, List.length_replicate]
        let src := fun i => if i < n then muts.getD (lidx ids i) 0 else (os' ++ os).getD (i - n) 0
        let L' := fun i => L (src i)
        let Bs' := selB (endObjs n u p q) src Bs
        have tg1 : Tgt (endObjs n u p q) L L' n p os' := by
          refine ⟨fun i y hy => ?_, fun i o ho => ?_⟩
          · unfold endObjs
            rw [List.getElem?_append_right (by omega), hplen, Nat.add_sub_cancel_left, List.getElem?_append_left (List.getElem?_eq_some_iff.1 hy).1]; exact hy
          · show L (src (n + i)) = L o
            have : src (n + i) = o := by
              simp only [src]; rw [if_neg (by omega), Nat.add_sub_cancel_left, List.getD, List.getElem?_append_left (List.getElem?_eq_some_iff.1 ho).1, ho]; rfl
            rw [this]
        have tg2 : Tgt (endObjs n u p q) L L' (n + p.length) q os := by
          refine ⟨fun i y hy => ?_, fun i o ho => ?_⟩
          · unfold endObjs
            rw [List.getElem?_append_right (by omega), hplen, List.getElem?_append_right (by omega)]; rw [show n + p.length + i - n - p.length = i by omega]; exact hy
          · show L (src (n + p.length + i)) = L o
            have : src (n + p.length + i) = o := by
              simp only [src]; rw [if_neg (by omega), List.getD, List.getElem?_append_right (by omega), show n + p.length + i - n - os'.length = i by omega, ho]; rfl
            rw [this]
        -- the sources
        have hsrc : ∀ (i : Nat) (y : AObj), (endObjs n u p q)[i]? = some y → y.solid = true → ∃ F' : Nat → Prop, ∃ hF : (∀ b, F' b → Forb K S.objs.length Bs b), From w S L (Forb K S.objs.length Bs) (endObjs n u p q) L' F' y (src i) ∧
            ((i < n ∧ ∃ j : Nat, ids[j]? = some i ∧ muts[j]? = some (src i)) ∨ (n ≤ i ∧ (os' ++ os)[i - n]? = some (src i))) := by
          intro i y hy hs; refine ⟨Forb K S.objs.length Bs, fun _ hb => hb, ?_⟩; unfold endObjs at hy
          by_cases hi : i < n
          · rw [List.getElem?_append_left (by omega)] at hy
            rcases placeAll_get u _ hul (by rw [m2]; exact hin) i y hy with ⟨j, hj⟩ | ⟨_, hj⟩
            · obtain ⟨o, ho1, ho2⟩ := (m4 (endObjs n u p q) L' _ (fun _ hb => hb) tg1).2 j (i, y) hj
              have hij : ids[j]? = some i := by rw [← m2, List.getElem?_map, hj]; rfl
              have hmem : i ∈ ids := List.mem_of_getElem? hij; have hidx : lidx ids i = j := (List.getElem?_inj (List.getElem?_eq_some_iff.1 (lidx_get ids i hmem)).1 hin).1 ((lidx_get ids i hmem).trans hij.symm)
              have hso : src i = o := by simp only [src]; rw [if_pos hi, hidx, List.getD, ho1]; rfl
              rw [hso]; exact ⟨ho2, .inl ⟨hi, j, hij, ho1⟩⟩
            · rw [List.getElem?_replicate] at hj
              split at hj <;> cases hj <;> cases hs
          · rw [List.getElem?_append_right (by omega), hplen] at hy
            have key : ∃ o, (os' ++ os)[i - n]? = some o ∧ From w S L (Forb K S.objs.length Bs) (endObjs n u p q) L' (Forb K S.objs.length Bs) y o := by
              by_cases hp : i - n < p.length
              · rw [List.getElem?_append_left hp] at hy
                obtain ⟨o, ho1, ho2⟩ := (m4 (endObjs n u p q) L' _ (fun _ hb => hb) tg1).1 _ y hy; exact ⟨o, by rw [List.getElem?_append_left (by omega)]; exact ho1, ho2⟩
              · rw [List.getElem?_append_right (by omega)] at hy
                obtain ⟨o, ho1, ho2⟩ := (v3 (endObjs n u p q) L' _ (fun _ hb => hb) tg2).1 _ y hy; exact ⟨o, by rw [List.getElem?_append_right (by omega), ← m3]; exact ho1, ho2⟩
            obtain ⟨o, ho1, ho2⟩ := key
            have hso : src i = o := by simp only [src]; rw [if_neg hi, List.getD, ho1]; rfl
            rw [hso]; exact ⟨ho2, .inr ⟨by omega, ho1⟩⟩
        have hinS : ∀ i y, (endObjs n u p q)[i]? = some y → y.solid = true → src i < S.objs.length := by
          intro i y hy hs; obtain ⟨F', hF, hfrom, _⟩ := hsrc i y hy hs
          cases y with
          | lent _ _ _ _ _ => exact hfrom.elim
          | row t xs d => exact (List.getElem?_eq_some_iff.1 hfrom).1
          | box t cs' => obtain ⟨cs, hc, _⟩ := hfrom; exact (List.getElem?_eq_some_iff.1 hc).1
          | dead => cases hs
          | hole => cases hs
        have hforb : ∀ b, Forb K (endObjs n u p q).length Bs' b → Forb K S.objs.length Bs b := fun b hb => hb.imp (selB_own hinS b) id
        have R : RelW K (endObjs n u p q) L' Bs' w := by
          refine h.objs.sel src hinS (fun i j x y hi hj hx hy e => ?_) (fun _ _ _ _ => rfl) hforb (fun i x hi => ?_)
          · obtain ⟨_, _, _, hi'⟩ := hsrc i x hi hx
            obtain ⟨_, _, _, hj'⟩ := hsrc j y hj hy; have hd1 := List.nodup_append.1 hnd
            rcases hi' with ⟨_, k, g1, g2⟩ | ⟨g1, g2⟩
            · rcases hj' with ⟨_, k', g3, g4⟩ | ⟨g3, g4⟩
              · rw [e] at g2
                have : k = k' := (List.getElem?_inj (List.getElem?_eq_some_iff.1 g2).1 hd1.1).1 (g2.trans g4.symm); subst this; rw [g1] at g3; exact Option.some.inj g3
              · rw [e] at g2
                exact absurd rfl (hd1.2.2 _ (List.mem_of_getElem? g2) _ (List.mem_of_getElem? g4))
            · rcases hj' with ⟨_, k', g3, g4⟩ | ⟨g3, g4⟩
              · rw [e] at g2
                exact absurd rfl (hd1.2.2 _ (List.mem_of_getElem? g4) _ (List.mem_of_getElem? g2))
              · rw [e] at g2
                have : i - n = j - n := (List.getElem?_inj (List.getElem?_eq_some_iff.1 g2).1 hd1.2.1).1 (g2.trans g4.symm); omega
          · cases x with
            | lent t xs i0 off m0 => obtain ⟨F0, hF0, hfrom, _⟩ := hsrc i _ hi rfl; exact hfrom.elim
            | dead => trivial
            | hole => trivial
            | row t xs d =>
              obtain ⟨_, _, hfrom, _⟩ := hsrc i _ hi rfl; exact hfrom
            | box t cs' =>
              have hs := hinS i _ hi rfl
              -- the cells turn for what is forbidden behind the call
              have hb : ∀ (y : AObj) (o : Nat), (∃ j : Nat, u[j]? = some (i, y) ∧ muts[j]? = some o) ∨ (∃ j : Nat, p[j]? = some y ∧ os'[j]? = some o) ∨ (∃ j : Nat, q[j]? = some y ∧ os[j]? = some o) → From w S L (Forb K S.objs.length Bs) (endObjs n u p q) L' (Forb K (endObjs n u p q).length Bs') y o := by
                rintro y o (⟨j, h1, h2⟩ | ⟨j, h1, h2⟩ | ⟨j, h1, h2⟩)
                · obtain ⟨o', h3, h4⟩ := (m4 (endObjs n u p q) L' _ hforb tg1).2 j (i, y) h1
                  rw [h2] at h3; cases h3; exact h4
                · obtain ⟨o', h3, h4⟩ := (m4 (endObjs n u p q) L' _ hforb tg1).1 j y h1
                  rw [h2] at h3; cases h3; exact h4
                · obtain ⟨o', h3, h4⟩ := (v3 (endObjs n u p q) L' _ hforb tg2).1 j y h1
                  rw [h2] at h3; cases h3; exact h4
              have hfin : From w S L (Forb K S.objs.length Bs) (endObjs n u p q) L' (Forb K (endObjs n u p q).length Bs') (.box t cs') (src i) := by
                obtain ⟨_, _, _, hc⟩ := hsrc i _ hi rfl; unfold endObjs at hi
                rcases hc with ⟨hlt, j, g1, g2⟩ | ⟨hge, g2⟩
                · rw [List.getElem?_append_left (by omega)] at hi
                  rcases placeAll_get u _ hul (by rw [m2]; exact hin) i _ hi with ⟨j', hj⟩ | ⟨_, hj⟩
                  · have hij : ids[j']? = some i := by rw [← m2, List.getElem?_map, hj]; rfl
                    have : j = j' := (List.getElem?_inj (List.getElem?_eq_some_iff.1 g1).1 hin).1 (g1.trans hij.symm); subst this; exact hb _ _ (.inl ⟨j, hj, g2⟩)
                  · rw [List.getElem?_replicate] at hj
                    split at hj <;> cases hj
                · rw [List.getElem?_append_right (by omega), hplen] at hi
                  by_cases hp : i - n < p.length
                  · rw [List.getElem?_append_left hp] at hi
                    rw [List.getElem?_append_left (by omega)] at g2; exact hb _ _ (.inr (.inl ⟨_, hi, g2⟩))
                  · rw [List.getElem?_append_right (by omega)] at hi
                    rw [List.getElem?_append_right (by omega), ← m3] at g2; exact hb _ _ (.inr (.inr ⟨_, hi, g2⟩))
              obtain ⟨cs, hc1, hc2, hc3⟩ := hfin; exact ⟨cs, hc1, hc2, fun j c' c u h1 h2 h3 => hc3 j c' c h1 h2 u h3⟩
        refine ⟨L', Bs', R, h.within.turn (Turn.refl _ w) (fun b hb => .inl (selB_own hinS b hb)), ?_, fun i id x hid hx => ?_⟩
        · have hvt := (v3 (endObjs n u p q) L' _ hforb tg2).2
          have hrep' := fixVals_rep (Γ := Γ) fn.resultTypes.toList vs vals hrep
          have hwl : ws.length = vals.length := by rw [v2, fixVals_len, hlen]
          have hpt : ∀ (i : Nat) v u0, ws[i]? = some v → vals[i]? = some u0 → ValRep w (endObjs n u p q) L' (Forb K (endObjs n u p q).length Bs') v u0 := by
            intro i v u0 hv hu
            have hi : i < (fixVals Γ fn.resultTypes.toList vs).length := by rw [← v2]; exact (List.getElem?_eq_some_iff.1 hv).1
            exact hvt i v _ hv (List.getElem?_eq_getElem hi) u0 (hrep' i _ u0 (List.getElem?_eq_getElem hi) hu)
          cases ws with
          | nil =>
            have hv0 : vals = [] := List.eq_nil_of_length_eq_zero (by simpa using hwl.symm); subst hv0; exact ⟨#[], rfl, rfl, fun i x u hx => by simp at hx⟩
          | cons w1 wr =>
            cases wr with
            | nil =>
              cases vals with
              | nil => simp at hwl
              | cons u1 ur =>
                cases ur with
                | cons _ _ => simp at hwl
                | nil => exact hpt 0 w1 u1 rfl rfl
            | cons w2 wr =>
              have hne : ¬ vals.toArray.size = 1 := by simp at hwl ⊢; omega
              rw [dif_neg hne]; exact ⟨vals.toArray, rfl, by simp at hwl ⊢; omega, fun i x u hx hu => hpt i x u hx (by simpa using hu)⟩
        · have hx' : ∃ o, muts[i]? = some o ∧ L o = x := by
            rw [List.getElem?_map] at hx; obtain ⟨o, h1, h2⟩ := Option.map_eq_some_iff.1 hx; exact ⟨o, h1, h2⟩
          obtain ⟨o, ho, hox⟩ := hx'; have hmem : id ∈ ids := List.mem_of_getElem? hid; have hidx : lidx ids id = i := (List.getElem?_inj (List.getElem?_eq_some_iff.1 (lidx_get ids id hmem)).1 hin).1 ((lidx_get ids id hmem).trans hid.symm)
          show L (src id) = x
          have : src id = o := by simp only [src]; rw [if_pos (hib id hmem), hidx, List.getD, ho]; rfl
          rw [this]; exact hox
    · cases hl
end
end Go.Proofs.GR

namespace Go.Proofs.GR

section
variable {K : Start} {S : St} {a : Act} {w : World} {L : Nat → Value} {Bs : Nat → List Nat}

theorem win_dat {own : Nat → Prop} {objs : List AObj} {o : Nat} {t : Ty} {xs : List t.den} {d : Bool} {B : List Nat} (h : ObjRep w objs L own o (.row t xs d) B) {lo n : Nat} {v : Value} (hw : WinOf (L o) t.sz xs.length lo n v) :
    ∃ F, Rep w (.slice t) ((xs.drop lo).take n) [v] F ∧ ∀ b ∈ F, b ∈ B ∨ ¬ own b := by
  obtain ⟨css, Gs, hown, h20, h3⟩ := h; obtain ⟨Fs, h2, hsub, _, _⟩ := elems_rep h20; obtain ⟨g1, A, c, hv, g2, g3, g4, g5⟩ := hw
  have hlen : ((xs.drop lo).take n).length = n := by simp; omega
  have hl : ∀ i, i < xs.length → (css i).length = t.sz := fun i hi => (h2 i _ (List.getElem?_eq_getElem hi)).1
  rcases Nat.eq_zero_or_pos n with hn | hn
  · subst hn
    refine ⟨[], ⟨A, c, by rw [hv]; simp, ⟨by simp, g3, fun hA => ⟨by simp, g4 hA, rfl⟩, fun ad had hne => by simp at hne, fun ad had => ⟨fun _ => [], fun _ => [], by simp [flatN], fun i x hi => by simp at hi⟩⟩⟩, by simp⟩
  · obtain ⟨g, cap, hL, hA, hcap⟩ := g5 hn
    have hgB : g ∈ B := by
      have : g ∈ ownBlk (L o) := by rw [hL]; simp [ownBlk, Value.ownBlock]
      cases d <;> simp only [Bool.false_eq_true, if_false, if_true] at h3
      · rw [h3.1]; exact this
      · rw [h3]; exact List.mem_append_left _ this
    have hgl : g < w.heap.size := by
      rcases hown.2 with ⟨hx, _⟩ | ⟨g', cap', cur, e, fz, hv', hg', _⟩
      · rw [hL] at hx; cases hx
      · rw [hL] at hv'; cases hv'
        exact (Array.getElem?_eq_some_iff.1 hg').1
    refine ⟨[g] ++ flatN (fun i => Fs (lo + i)) n, ⟨A, c, by rw [hv]; simp; omega, ⟨by show ((xs.drop lo).take n).length ≤ c; omega, g3, (fun hn => by rw [hA] at hn; cases hn), fun ad had hne => ?_, fun ad had => ?_⟩⟩, fun b hb => ?_⟩
    · rw [hA] at had
      cases had; rw [add_block]; exact hgl
    · rw [hA] at had
      cases had; refine ⟨fun i => css (lo + i), fun i => Fs (lo + i), ?_, fun i x hi => ?_⟩
      · have hne : ((xs.drop lo).take n).isEmpty = false := by
          cases hx : (xs.drop lo).take n with
          | nil => rw [hx] at hlen; simp at hlen; omega
          | cons _ _ => rfl
        show _ = (if ((xs.drop lo).take n).isEmpty then [] else _) ++ flatN _ ((xs.drop lo).take n).length
        rw [hne, hlen, add_block]
        simp
      · have hi : ((xs.drop lo).take n)[i]? = some x := hi
        have hin : i < n := by rw [← hlen]; exact (List.getElem?_eq_some_iff.1 hi).1
        rw [List.getElem?_take, if_pos hin, List.getElem?_drop] at hi; refine ⟨fun j u hj => ?_, hl _ (by omega), (h2 _ x hi).2⟩
        have hjl : j < t.sz := by rw [← hl (lo + i) (by omega)]; exact (List.getElem?_eq_some_iff.1 hj).1
        rw [add_add, add_add, show lo * t.sz + (i * t.sz + j) = (lo + i) * t.sz + j by rw [Nat.add_mul]; omega]; refine OwnRow.cells hown (by rw [hL]; rfl) _ _ ?_; rw [flatN_at _ hl (lo + i) j (by omega) hjl]; exact hj
    · rcases List.mem_append.1 hb with hb | hb
      · simp at hb; subst hb; exact .inl hgB
      · obtain ⟨i, hi, hbi⟩ := mem_flatN.1 hb
        have hin : b ∈ flatN Fs xs.length := mem_flatN.2 ⟨lo + i, by omega, hbi⟩; cases d <;> simp only [Bool.false_eq_true, if_false, if_true] at h3
        · exact .inr (h3.2 b (hsub.subset hin))
        · exact .inl (by rw [h3]; exact List.mem_append_right _ (hsub.subset hin))

theorem own_dat {own : Nat → Prop} {objs : List AObj} {o : Nat} {t : Ty} {xs : List t.den} {d : Bool} {B : List Nat} (h : ObjRep w objs L own o (.row t xs d) B) : ∃ F, Rep w (.slice t) xs [L o] F ∧ ∀ b ∈ F, b ∈ B ∨ ¬ own b := by
  obtain ⟨G, h1, h2⟩ := row_dat h; refine ⟨_, h1, fun b hb => ?_⟩
  have hsub : ∀ b, b ∈ ownBlk' (L o) xs → b ∈ ownBlk (L o) := by
    intro b hb; unfold ownBlk' at hb; split at hb
    · simp at hb
    · exact hb
  rcases List.mem_append.1 hb with hb | hb
  · cases d <;> simp only [Bool.false_eq_true, if_false, if_true] at h2
    · exact .inl (by rw [h2.1]; exact hsub b hb)
    · exact .inl (h2.subset (List.mem_append_left _ (hsub b hb)))
  · cases d <;> simp only [Bool.false_eq_true, if_false, if_true] at h2
    · exact .inr (h2.2 b hb)
    · exact .inl (h2.subset (List.mem_append_right _ hb))

theorem RelX.freeze (h : RelX K S a w L Bs) {o : Nat} {t : Ty} {xs : List t.den} {d : Bool} (ho : S.obj o = .row t xs d) : RelX K (S.freeze o) a w L (fun i => if i = o then [] else Bs i) := by
  have hob := lget_obj ho (by simp); have hol := (List.getElem?_eq_some_iff.1 hob).1; have hobj := h.objs.obj o _ hob; unfold St.freeze; rw [ho]; simp only [St.kill, St.setObj, lset_eq]
  let objs' := (S.objs.map (·.mapC (Cell.thaw o t xs))).set o .dead
  let Bs' : Nat → List Nat := fun i => if i = o then [] else Bs i
  have hlen : objs'.length = S.objs.length := by simp [objs']
  have hget : ∀ i, objs'[i]? = if i = o then some .dead else (S.objs[i]?).map (·.mapC (Cell.thaw o t xs)) := by
    intro i
    by_cases hi : i = o
    · subst hi
      rw [if_pos rfl, List.getElem?_set_self (by simpa using hol)]
    · rw [if_neg hi, List.getElem?_set_ne (Ne.symm hi), List.getElem?_map]
  have hown : ∀ b, Own objs'.length Bs' b → Own S.objs.length Bs b ∧ b ∉ Bs o := by
    intro b hb; obtain ⟨i, hi, hbi⟩ := mem_flatN.1 hb; rw [hlen] at hi
    by_cases hio : i = o
    · simp [Bs', hio] at hbi
    · simp only [Bs', hio, if_false] at hbi
      exact ⟨mem_flatN.2 ⟨i, hi, hbi⟩, flatN_disj h.objs.nodup hi hol hio b hbi⟩
  have hforb : ∀ b, Forb K objs'.length Bs' b → Forb K S.objs.length Bs b ∧ b ∉ Bs o := by
    intro b hb
    rcases hb with hb | hb
    · exact ⟨.inl (hown b hb).1, (hown b hb).2⟩
    · exact ⟨.inr hb, fun hbo => h.seen (mem_flatN.2 ⟨o, hol, hbo⟩) hb⟩
  have hk : Keeps S.objs objs' L L := by
    refine ⟨fun i hi => ?_, fun _ _ => rfl, fun i t' xs' d' hi hx => ?_, fun i t' cs hi hx => ?_⟩
    · obtain ⟨y, hy, hy2⟩ := hi
      by_cases hio : i = o
      · exact ⟨.dead, by rw [hget, if_pos hio], rfl⟩
      · refine ⟨y.mapC (Cell.thaw o t xs), by rw [hget, if_neg hio, hy]; rfl, ?_⟩
        cases y <;> first | rfl | exact hy2
    · rcases hx with hx | ⟨hd', i1, off1, m1, hx⟩
      · rw [hget] at hx
        split at hx
        · cases hx
        · obtain ⟨y, hy, hy2⟩ := Option.map_eq_some_iff.1 hx
          cases y <;> simp [AObj.mapC] at hy2; obtain ⟨rfl, h1, rfl⟩ := hy2; cases h1; exact ⟨_, _, .inl hy, rfl⟩
      · rw [hget] at hx
        split at hx
        · cases hx
        · obtain ⟨y, hy, hy2⟩ := Option.map_eq_some_iff.1 hx
          cases y <;> simp [AObj.mapC] at hy2; obtain ⟨rfl, h1, rfl, rfl, rfl⟩ := hy2; cases h1; exact ⟨_, _, .inr ⟨hd', _, _, _, hy⟩, rfl⟩
    · rw [hget] at hx
      split at hx
      · cases hx
      · obtain ⟨y, hy, hy2⟩ := Option.map_eq_some_iff.1 hx
        cases y <;> simp [AObj.mapC] at hy2; obtain ⟨rfl, _⟩ := hy2; exact ⟨_, hy⟩
  have hcell : ∀ c u, CellRep w S.objs L (Forb K S.objs.length Bs) c u → CellRep w objs' L (Forb K objs'.length Bs') (c.thaw o t xs) u := by
    intro c u hc
    have gen : c.thaw o t xs = c → CellRep w objs' L (Forb K objs'.length Bs') (c.thaw o t xs) u := by
      intro e; rw [e]; exact (hc.mono (Turn.refl _ w) (fun b hb => .inl (hforb b hb).1)).keeps hk
    cases c with
    | own q =>
      cases hb : Nat.beq o q with
      | false => exact gen (by simp [Cell.thaw, hb])
      | true =>
        have e : o = q := Nat.eq_of_beq_eq_true hb; subst e; obtain ⟨F, h1, h2⟩ := own_dat hobj; have hu := hc.2 t xs d (.inl hob); simp only [Cell.thaw, hb, cond_true]; refine ⟨F, by rw [hu]; exact h1, fun b hb hf => ?_⟩
        rcases h2 b hb with h3 | h3
        · exact (hforb b hf).2 h3
        · exact h3 (hforb b hf).1
    | win q lo n =>
      cases hb : Nat.beq o q with
      | false => exact gen (by simp [Cell.thaw, hb])
      | true =>
        have e : o = q := Nat.eq_of_beq_eq_true hb; subst e; obtain ⟨F, h1, h2⟩ := win_dat hobj (hc.2 t xs d (.inl hob)); simp only [Cell.thaw, hb, cond_true]; refine ⟨F, h1, fun b hb hf => ?_⟩
        rcases h2 b hb with h3 | h3
        · exact (hforb b hf).2 h3
        · exact h3 (hforb b hf).1
    | _ => exact gen rfl
  have hval : ∀ x u, ValRep w S.objs L (Forb K S.objs.length Bs) x u → ValRep w objs' L (Forb K objs'.length Bs') (x.mapC (Cell.thaw o t xs)) u := by
    intro x u hx
    cases x with
    | one c => exact ⟨hx.1, hcell _ _ hx.2⟩
    | agg cs =>
      obtain ⟨vs, h1, h2, h3⟩ := hx; refine ⟨vs, h1, by simpa using h2, fun i c u hc hu => ?_⟩; rw [List.getElem?_map] at hc; obtain ⟨c0, hc1, hc2⟩ := Option.map_eq_some_iff.1 hc; subst hc2; exact ⟨(h3 i c0 u hc1 hu).1, hcell _ _ (h3 i c0 u hc1 hu).2⟩
  refine ⟨⟨fun i x hx => ?_, flatN_nodup (fun i hi => ?_) (fun i j hi hj hij b hbi hbj => ?_), fun b hb => h.objs.lt b (hown b hb).1⟩, fun i s v hs hv => ?_, fun i u hi => ⟨hk.live i (h.base i u hi).1, (h.base i u hi).2⟩, h.within.turn (Turn.refl _ w) (fun b hb => .inl (hown b hb).1), by simpa using h.size, h.defers⟩
  · have hx : objs'[i]? = some x := hx
    rw [hget] at hx; split at hx
    · rename_i hio
      cases hx
      simp [ObjRep, hio]
    · rename_i hio
      obtain ⟨y, hy, hy2⟩ := Option.map_eq_some_iff.1 hx; simp only [hio, if_false]; have hoy := h.objs.obj i y hy
      cases y with
      | dead => cases hy2; exact hoy
      | hole => cases hy2; exact hoy
      | row t' xs' d' =>
        cases hy2; obtain ⟨css, Fs, g1, g2, g3⟩ := hoy; refine ⟨css, Fs, g1, g2, ?_⟩; cases d' <;> simp only [Bool.false_eq_true, if_false, if_true] at g3 ⊢
        · exact ⟨g3.1, fun b hb hf => g3.2 b hb (hforb b hf).1⟩
        · exact g3
      | lent t' xs' i' off' m' =>
        cases hy2; obtain ⟨g0, css, Gs, g1⟩ := hoy; exact ⟨hk.live _ g0, css, Gs, g1⟩
      | box t' cs =>
        cases hy2; obtain ⟨b, cells, g1, g2, g3, g4, g5⟩ := hoy; refine ⟨b, cells, g1, g2, by simpa using g3, g4, fun j c v hc hv => ?_⟩; rw [List.getElem?_map] at hc; obtain ⟨c0, hc1, hc2⟩ := Option.map_eq_some_iff.1 hc; subst hc2; exact ⟨(g5 j c0 v hc1 hv).1, hcell _ _ (g5 j c0 v hc1 hv).2⟩
  · have hi : i < S.objs.length := by rw [← hlen]; exact hi
    split
    · exact List.nodup_nil
    · exact flatN_nodup_at h.objs.nodup hi
  · have hi : i < S.objs.length := by rw [← hlen]; exact hi
    have hj : j < S.objs.length := by rw [← hlen]; exact hj
    split at hbi
    · simp at hbi
    · split at hbj
      · simp at hbj
      · exact flatN_disj h.objs.nodup hi hj hij b hbi hbj
  · have hs : (S.slots.map (·.mapC (Cell.thaw o t xs)))[i]? = some s := hs
    rw [List.getElem?_map] at hs; obtain ⟨s0, hs1, hs2⟩ := Option.map_eq_some_iff.1 hs; subst hs2; have hr := h.slots i s0 v hs1 hv
    cases s0 with
    | nix => trivial
    | val x => exact hval _ _ hr
    | tup ys =>
      obtain ⟨vs, g1, g2, g3⟩ := hr; refine ⟨vs, g1, by simpa using g2, fun j x u hx hu => ?_⟩; rw [List.getElem?_map] at hx; obtain ⟨x0, hx1, hx2⟩ := Option.map_eq_some_iff.1 hx; subst hx2; exact hval _ _ (g3 j x0 u hx1 hu)
end
end Go.Proofs.GR

namespace Go.Proofs.GR

section
variable {K : Start} {Γ : Tab} {S : St} {a : Act} {w : World} {L : Nat → Value} {Bs : Nat → List Nat}

structure Shown (K : Start) (S : St) (Bs : Nat → List Nat) (l : List Nat) (F' : Nat → Prop) : Prop where
  less : ∀ b, F' b → Forb K S.objs.length Bs b
  lent : ∀ o ∈ l, o < S.objs.length → ∀ b ∈ Bs o, ¬ F' b

theorem Shown.left {l l' : List Nat} {F' : Nat → Prop} (h : Shown K S Bs (l ++ l') F') : Shown K S Bs l F' := ⟨h.less, fun o ho => h.lent o (by simp [ho])⟩
theorem Shown.right {l l' : List Nat} {F' : Nat → Prop} (h : Shown K S Bs (l ++ l') F') : Shown K S Bs l' F' := ⟨h.less, fun o ho => h.lent o (by simp [ho])⟩

theorem lend_spec (h : RelX K S a w L Bs) {c : Cell} {x : X0} {os : List Nat} (hl : S.lend c = some (x, os)) : ∃ c', (∀ m, take0 m x = (c', [])) ∧ ∀ objs' L' F', Shown K S Bs os F' → Turns w S L (Forb K S.objs.length Bs) objs' L' F' c c' := by
  cases c with
  | dat t y =>
    simp only [St.lend] at hl; cases hl; exact ⟨.dat t y, fun _ => rfl, fun _ _ _ hs => turns_dat hs.less _ _⟩
  | own o =>
    simp only [St.lend] at hl; split at hl
    · rename_i t xs d ho
      cases hl; have hob := lget_obj ho (by simp); refine ⟨.dat (.slice t) xs, fun _ => rfl, fun objs' L' F' hs u hc => ?_⟩; obtain ⟨F, h1, h2⟩ := own_dat (h.objs.obj o _ hob); have hu := hc.2 t xs d (.inl hob); refine ⟨F, by rw [hu]; exact h1, fun b hb hf => ?_⟩
      rcases h2 b hb with h3 | h3
      · exact hs.lent o (by simp) (List.getElem?_eq_some_iff.1 hob).1 b h3 hf
      · exact h3 (hs.less b hf)
    · cases hl
  | win o lo n =>
    simp only [St.lend] at hl; split at hl
    · rename_i t xs d ho
      cases hl; have hob := lget_obj ho (by simp); refine ⟨.dat (.slice t) ((xs.drop lo).take n), fun _ => rfl, fun objs' L' F' hs u hc => ?_⟩; obtain ⟨F, h1, h2⟩ := win_dat (h.objs.obj o _ hob) (hc.2 t xs d (.inl hob)); refine ⟨F, h1, fun b hb hf => ?_⟩
      rcases h2 b hb with h3 | h3
      · exact hs.lent o (by simp) (List.getElem?_eq_some_iff.1 hob).1 b h3 hf
      · exact h3 (hs.less b hf)
    · cases hl
  | rptr t y =>
    simp only [St.lend] at hl; cases hl; exact ⟨.rptr t y, fun _ => rfl, fun _ _ _ hs => turns_rptr hs.less _ _⟩
  | fn f caps =>
    simp only [St.lend] at hl; cases hl; exact ⟨.fn f caps, fun _ => rfl, fun _ _ _ hs => turns_fn hs.less _ _⟩
  | nilP =>
    simp only [St.lend] at hl; cases hl; exact ⟨.nilP, fun _ => rfl, fun _ _ _ _ u hc => hc⟩
  | nilS =>
    simp only [St.lend] at hl; cases hl; exact ⟨.nilS, fun _ => rfl, fun _ _ _ _ u hc => hc⟩
  | _ => simp only [St.lend] at hl; cases hl

theorem lends_spec (h : RelX K S a w L Bs) : ∀ (cs : List Cell) (xs : List X0) (os : List Nat), lendAll S.lend cs = some (xs, os) → ∃ cs', (∀ m, takeAll m xs = (cs', [])) ∧ cs'.length = cs.length ∧
    ∀ objs' L' F', Shown K S Bs os F' → ∀ (j : Nat) c' c, cs'[j]? = some c' → cs[j]? = some c → Turns w S L (Forb K S.objs.length Bs) objs' L' F' c c'
  | [], xs, os, hl => by
    cases hl; exact ⟨[], fun _ => rfl, rfl, fun _ _ _ _ j c' c hc => by simp at hc⟩
  | c :: cs, xs, os, hl => by
    simp only [lendAll] at hl; split at hl
    · rename_i x os1 xs1 os2 h1 h2
      cases hl; obtain ⟨c1, a1, a2⟩ := lend_spec h h1; obtain ⟨cs1, b1, b2, b3⟩ := lends_spec h cs xs1 os2 h2; refine ⟨c1 :: cs1, fun m => ?_, by simp [b2], fun objs' L' F' hs j c' c0 hc' hc0 => ?_⟩
      · simp only [takeAll, a1, b1, lapp_eq, List.append_nil]
      · rw [lapp_eq] at hs
        cases j with
        | zero => cases hc'; cases hc0; exact a2 objs' L' F' hs.left
        | succ j => exact b3 objs' L' F' hs.right j c' c0 (by simpa using hc') (by simpa using hc0)
    · cases hl

theorem takeXs_c (m : Nat) : ∀ (xs : List X0), takeXs m (xs.map .c) = takeAll m xs := by
  intro xs
  induction xs generalizing m with
  | nil => rfl
  | cons x xs ih =>
    simp only [List.map_cons, takeXs, takeAll, takeX, ih]

theorem boxData_spec (h : RelX K S a w L Bs) {o : Nat} {τ : Ty} {x : τ.den} {os : List Nat} (hb : S.boxData Γ o = some (⟨τ, x⟩, os)) {F' : Nat → Prop} (hs : Shown K S Bs (o :: os) F') : ∃ t cs, S.objs[o]? = some (.box t cs) ∧ ∀ v, PtrOf (L o) 0 v → RPtr w F' τ x v := by
  unfold St.boxData at hb; split at hb
  · rename_i t cs ho
    split at hb
    · rename_i τ' cs' os' bb ht hh
      split at hb
      · rename_i y hp
        cases hb; have hob := lget_obj ho (by simp); have hol := (List.getElem?_eq_some_iff.1 hob).1; obtain ⟨b, cells, g1, g2, g3, g4, g5⟩ := h.objs.obj o _ hob; have hc : CReps w S.objs L (Forb K S.objs.length Bs) cs cells.toList := CReps.of _ _ (by simpa using g3) (fun i c u hc hu => g5 i c u hc (by simpa using hu)); obtain ⟨F, q1, q2, q3, _⟩ := hand_spec h _ _ hc _ _ _ hh; obtain ⟨vs1, vs2, F1, F2, e1, e2, r1, r2⟩ := pack_spec _ _ _ _ _ _ q1 hp; cases r2; rw [List.append_nil] at e1 e2; subst e1; subst e2; refine ⟨t, cs, hob, fun v hv => ?_⟩; obtain ⟨b', hL, hv⟩ := hv; rw [g1] at hL; cases hL; refine ⟨⟨b, 0, none⟩, cells.toList, F, by rw [hv]; simp [Addr.add], fun j u hj => ?_, r1, fun _ hf => ?_, fun k hk hf => ?_⟩
        · have hadd : (⟨b, 0, none⟩ : Addr).add j = ⟨b, j, none⟩ := by unfold Addr.add; split <;> simp_all
          rw [hadd, cell_of_row w b j cells t (0, 0) g2]
          simpa using hj
        · exact hs.lent o (by simp) hol b (by rw [g4]; simp) hf
        · rcases q3 k hk with h1 | ⟨q, h1, h2⟩
          · exact h1 (hs.less k hf)
          · obtain ⟨_, _, _, h3⟩ := q2 q h1
            exact hs.lent q (by simp [h1]) (List.getElem?_eq_some_iff.1 h3).1 k h2 hf
      · cases hb
    · cases hb
  · cases hb

theorem capsData_spec (h : RelX K S a w L Bs) : ∀ (caps : List (Nat × Nat)) (xs : List (Sigma Ty.den)) (os : List Nat), capsData S Γ caps = some (xs, os) → xs.length = caps.length ∧
    ∀ F', Shown K S Bs os F' → ∀ (i : Nat) p q u, caps[i]? = some p → xs[i]? = some q → (∀ t cs, S.objs[p.1]? = some (.box t cs) → PtrOf (L p.1) p.2 u) → RPtr w F' q.1 q.2 u
  | [], xs, os, hc => by
    cases hc; exact ⟨rfl, fun _ _ i p q u hp => by simp at hp⟩
  | (o, 0) :: r, xs, os, hc => by
    simp only [capsData] at hc; split at hc
    · rename_i x os1 xs1 os2 h1 h2
      cases hc; obtain ⟨b1, b2⟩ := capsData_spec h r xs1 os2 h2; refine ⟨by simp [b1], fun F' hs i p q u hp hq hu => ?_⟩; rw [lapp_eq] at hs
      cases i with
      | zero =>
        cases hp; cases hq; obtain ⟨t, cs, hob, h3⟩ := boxData_spec h h1 hs.left; exact h3 u (hu t cs hob)
      | succ i => exact b2 F' hs.right i p q u (by simpa using hp) (by simpa using hq) hu
    · cases hc
  | (o, n + 1) :: r, xs, os, hc => by
    simp only [capsData] at hc; cases hc

def mutOf1 (m : Mode) (v : Val) : List Nat := match m, v with
  | .wr, .one (.own o) => [o]
  | .wr, .one (.ptr o _) => [o]
  | .wr, .agg cs => ownsOf cs
  | _, _ => []
theorem rangeMap_succ (m n : Nat) : (List.range (n + 1)).map (m + ·) = m :: (List.range n).map (m + 1 + ·) := by
  rw [List.range_succ_eq_map, List.map_cons, List.map_map]
  congr 1
  apply List.map_congr_left; intro i _
  show m + (i + 1) = m + 1 + i
  omega
theorem gives_owns {S : St} : ∀ (cs : List Cell) (xs : List X0) (os : List Nat) (m : Nat) (cs2 : List Cell) (p2 : List AObj), lendAll S.give cs = some (xs, os) → takeAll m xs = (cs2, p2) → ownsOf cs2 = (List.range os.length).map (m + ·)
  | [], xs, os, m, cs2, p2, hl, ht => by
    cases hl; cases ht; rfl
  | c :: cs, xs, os, m, cs2, p2, hl, ht => by
    simp only [lendAll] at hl; split at hl
    · rename_i x os1 xs1 os2 h1 h2
      cases hl
      have flat : ∀ x0 : X0, x = x0 → os1 = [] → (∀ m, (take0 m x0).2 = [] ∧ ∀ r, ownsOf ((take0 m x0).1 :: r) = ownsOf r) → ownsOf cs2 = (List.range (lapp os1 os2).length).map (m + ·) := by
        intro x0 hx ho hf; subst hx; subst ho; simp only [takeAll] at ht
        cases he1 : take0 m x with
        | mk c1 p1 =>
          have h5 := hf m; rw [he1] at h5; obtain ⟨h5, h6⟩ := h5; simp only at h5; subst h5
          cases he2 : takeAll m xs1 with
          | mk c2 q2 =>
            rw [he1] at ht; have he2' : takeAll (Nat.add m (llen ([] : List AObj))) xs1 = (c2, q2) := he2; simp only [he2', Prod.mk.injEq] at ht; obtain ⟨rfl, _⟩ := ht; rw [h6]; exact gives_owns cs xs1 os2 m c2 q2 h2 he2
      cases c with
      | own o =>
        simp only [St.give] at h1; split at h1
        · rename_i t ys d ho
          cases h1; simp only [takeAll, take0] at ht
          cases he2 : takeAll (m + 1) xs1 with
          | mk c2 q2 =>
            have he2' : takeAll (Nat.add m (llen [AObj.row t ys d])) xs1 = (c2, q2) := he2; simp only [he2', Prod.mk.injEq] at ht; obtain ⟨rfl, _⟩ := ht; have := gives_owns cs xs1 os2 (m + 1) c2 q2 h2 he2; simp only [ownsOf, this]
            show m :: _ = (List.range (os2.length + 1)).map (m + ·)
            rw [rangeMap_succ]
        · cases h1
      | dat t y => simp only [St.give] at h1; cases h1; exact flat _ rfl rfl (fun _ => ⟨rfl, fun _ => rfl⟩)
      | rptr t y => simp only [St.give] at h1; cases h1; exact flat _ rfl rfl (fun _ => ⟨rfl, fun _ => rfl⟩)
      | fn f caps => simp only [St.give] at h1; cases h1; exact flat _ rfl rfl (fun _ => ⟨rfl, fun _ => rfl⟩)
      | nilP => simp only [St.give] at h1; cases h1; exact flat _ rfl rfl (fun _ => ⟨rfl, fun _ => rfl⟩)
      | nilS => simp only [St.give] at h1; cases h1; exact flat _ rfl rfl (fun _ => ⟨rfl, fun _ => rfl⟩)
      | _ => simp only [St.give] at h1; cases h1
    · cases hl

def ArgOK (K : Start) (S : St) (w : World) (L : Nat → Value) (Bs : Nat → List Nat) (m : Nat) (md : Mode) (v : Val) (x : XV) (l mu g : List Nat) : Prop :=
  ∃ v' p, takeV m x = some (v', p) ∧ p.length = g.length ∧ (∀ o ∈ mu, o ∈ g) ∧ mu.length = (mutOf1 md v').length ∧
    ∀ objs' L' F', Shown K S Bs l F' → Tgt objs' L L' m p g → (∀ (i : Nat) y, p[i]? = some y → ∃ o, g[i]? = some o ∧ From w S L (Forb K S.objs.length Bs) objs' L' F' y o) ∧
      VTurns w S L (Forb K S.objs.length Bs) objs' L' F' v v' ∧ (mutOf1 md v').map L' = mu.map L

theorem argOne (m : Nat) {c : Cell} {x0 : X0} {os : List Nat} {c' : Cell} (h1 : ∀ m, take0 m x0 = (c', [])) (h2 : ∀ objs' L' F', Shown K S Bs os F' → Turns w S L (Forb K S.objs.length Bs) objs' L' F' c c') : ArgOK K S w L Bs m .ro (.one c) ⟨false, [.c x0]⟩ os [] [] := by
  refine ⟨.one c', [], ?_, rfl, by simp, rfl, fun objs' L' F' hs _ => ⟨fun i y hy => by simp at hy, fun u hu => ⟨hu.1, h2 objs' L' F' hs u hu.2⟩, rfl⟩⟩
  simp [takeV, takeXs, takeX, h1, lapp_eq]

theorem argOne' (m : Nat) {md : Mode} {c : Cell} {x0 : X0} {os : List Nat} {c' : Cell} (hm : md ≠ .wr) (h1 : ∀ m, take0 m x0 = (c', [])) (h2 : ∀ objs' L' F', Shown K S Bs os F' → Turns w S L (Forb K S.objs.length Bs) objs' L' F' c c') : ArgOK K S w L Bs m md (.one c) ⟨false, [.c x0]⟩ os [] [] := by
  have hmu : ∀ v, mutOf1 md v = [] := by
    intro v
    cases md with
    | wr => exact absurd rfl hm
    | ro => unfold mutOf1; split <;> rename_i h <;> first | rfl | cases h
    | tk => rfl
    | em => rfl
  refine ⟨.one c', [], ?_, rfl, by simp, by rw [hmu], fun objs' L' F' hs _ => ⟨fun i y hy => by simp at hy, fun u hu => ⟨hu.1, h2 objs' L' F' hs u hu.2⟩, by rw [hmu]; rfl⟩⟩
  simp [takeV, takeXs, takeX, h1, lapp_eq]
theorem arg_spec (h : RelX K S a w L Bs) {md : Mode} {v : Val} {x : XV} {l mu g : List Nat} (harg : S.arg Γ md v = some (x, l, mu, g)) (m : Nat) : ArgOK K S w L Bs m md v x l mu g := by
  have plain : ∀ {c : Cell}, (match S.lend c with | some (x, os) => some ((⟨false, [.c x]⟩ : XV), os, ([] : List Nat), ([] : List Nat)) | none => none) = some (x, l, mu, g) → ArgOK K S w L Bs m .ro (.one c) x l mu g := by
    intro c harg; split at harg
    · rename_i x0 os hl
      cases harg; obtain ⟨c', b1, b2⟩ := lend_spec h hl; exact argOne m b1 b2
    · cases harg
  cases md with
  | ro =>
    cases v with
    | agg cs =>
      simp only [St.arg] at harg; split at harg
      · rename_i xs os hl
        cases harg; obtain ⟨cs', b1, b2, b3⟩ := lends_spec h _ _ _ hl; refine ⟨.agg cs', [], ?_, rfl, by simp, rfl, fun objs' L' F' hs _ => ⟨fun i y hy => by simp at hy, fun u hu => ?_, rfl⟩⟩
        · simp [takeV, takeXs_c, b1]
        · obtain ⟨us, g1, g2, g3⟩ := hu
          refine ⟨us, g1, by omega, fun i c' u hc' hu => ?_⟩
          have hi : i < cs.length := by rw [← b2]; exact (List.getElem?_eq_some_iff.1 hc').1
          obtain ⟨g4, g5⟩ := g3 i _ u (List.getElem?_eq_getElem hi) hu; exact ⟨g4, b3 objs' L' F' hs i c' _ hc' (List.getElem?_eq_getElem hi) u g5⟩
      · cases harg
    | one c =>
      cases c with
      | ptr o off =>
        cases off with
        | succ n => simp only [St.arg] at harg; exact plain harg
        | zero =>
          simp only [St.arg] at harg; split at harg
          · rename_i τ y os hb
            cases harg
            refine argOne m (c' := .rptr τ y) (fun _ => rfl) (fun objs' L' F' hs u hc => ?_)
            obtain ⟨t, cs, hob, h3⟩ := boxData_spec h hb hs; exact h3 u (hc.2 t cs hob)
          · cases harg
      | fnL f caps =>
        simp only [St.arg] at harg; split at harg
        · rename_i xs os hc
          cases harg; obtain ⟨b1, b2⟩ := capsData_spec h _ _ _ hc
          refine argOne m (c' := .fn f xs) (fun _ => rfl) (fun objs' L' F' hs u hc => ?_)
          obtain ⟨vs, g1, g2, g3⟩ := hc; refine ⟨vs, g1, by omega, fun i q u hq hu => ?_⟩
          have hi : i < caps.length := by rw [← b1]; exact (List.getElem?_eq_some_iff.1 hq).1
          obtain ⟨_, _, g5⟩ := g3 i _ u (List.getElem?_eq_getElem hi) hu; exact b2 F' hs i _ q u (List.getElem?_eq_getElem hi) hq g5
        · cases harg
      | _ => simp only [St.arg] at harg; exact plain harg
  | tk =>
    cases v with
    | agg cs =>
      simp only [St.arg] at harg; split at harg
      · rename_i xs os hl
        cases harg; obtain ⟨cs', b1, b2, b3⟩ := lends_spec h _ _ _ hl; refine ⟨.agg cs', [], ?_, rfl, by simp, rfl, fun objs' L' F' hs _ => ⟨fun i y hy => by simp at hy, fun u hu => ?_, rfl⟩⟩
        · simp [takeV, takeXs_c, b1]
        · obtain ⟨us, g1, g2, g3⟩ := hu
          refine ⟨us, g1, by omega, fun i c' u hc' hu => ?_⟩
          have hi : i < cs.length := by rw [← b2]; exact (List.getElem?_eq_some_iff.1 hc').1
          obtain ⟨g4, g5⟩ := g3 i _ u (List.getElem?_eq_getElem hi) hu; exact ⟨g4, b3 objs' L' F' hs i c' _ hc' (List.getElem?_eq_getElem hi) u g5⟩
      · cases harg
    | one c =>
      have plain : (match S.lend c with | some (x, os) => some ((⟨false, [.c x]⟩ : XV), os, ([] : List Nat), ([] : List Nat)) | none => none) = some (x, l, mu, g) → ArgOK K S w L Bs m .tk (.one c) x l mu g := by
        intro harg; split at harg
        · rename_i x0 os hl
          cases harg; obtain ⟨c', b1, b2⟩ := lend_spec h hl; exact argOne' m (by simp) b1 b2
        · cases harg
      cases c with
      | own o =>
        simp only [St.arg] at harg; split at harg
        · rename_i t xs d ho
          cases harg; have hob := lget_obj ho (by simp); refine ⟨.one (.own m), [.row t xs d], by simp [takeV, takeXs, takeX, take0, lapp_eq], rfl, by simp, rfl, fun objs' L' F' hs tg => ⟨fun i y hy => ?_, fun u hu => ⟨hu.1, ?_⟩, rfl⟩⟩
          · cases i with
            | zero => cases hy; exact ⟨o, rfl, hob⟩
            | succ i => simp at hy
          · exact turns_own hob (by simpa using tg.obj 0 _ rfl) (by simpa using tg.loc 0 _ rfl) u hu.2
        · cases harg
      | _ => simp only [St.arg] at harg; exact plain harg
  | em =>
    cases v with
    | agg cs => simp only [St.arg] at harg; cases harg
    | one c =>
      have plain : (match S.lend c with | some (x, os) => some ((⟨false, [.c x]⟩ : XV), os, ([] : List Nat), ([] : List Nat)) | none => none) = some (x, l, mu, g) → ArgOK K S w L Bs m .em (.one c) x l mu g := by
        intro harg; split at harg
        · rename_i x0 os hl
          cases harg; obtain ⟨c', b1, b2⟩ := lend_spec h hl; exact argOne' m (by simp) b1 b2
        · cases harg
      cases c with
      | own o =>
        simp only [St.arg] at harg; split at harg
        · rename_i t d ho
          cases harg; have hob := lget_obj ho (by simp)
          refine argOne' m (c' := .dat (.slice t) []) (os := []) (by simp) (fun _ => rfl) (fun objs' L' F' hs u hc => ?_)
          obtain ⟨F, h1, h2⟩ := own_dat (h.objs.obj o _ hob); have hu := hc.2 t [] d (.inl hob)
          have hF : F = [] := by
            obtain ⟨A, cap, hv, row⟩ := h1
            cases A with
            | none => exact (row.nil rfl).2.2
            | some ad =>
              obtain ⟨css, Fs, hFe, _⟩ := row.some_ ad rfl; rw [hFe]; rfl
          exact ⟨F, by rw [hu]; exact h1, fun b hb => by rw [hF] at hb; cases hb⟩
        · cases harg
      | _ => simp only [St.arg] at harg; exact plain harg
  | wr =>
    cases v with
    | agg cs =>
      simp only [St.arg] at harg; split at harg
      · rename_i xs os hl
        simp only [Option.some.injEq, Prod.mk.injEq] at harg; obtain ⟨rfl, rfl, rfl, rfl⟩ := harg
        cases he : takeAll m xs with
        | mk cs2 p2 =>
          obtain ⟨b1, b0, b2, b3⟩ := gives_spec (w := w) (L := L) (F := Forb K S.objs.length Bs) cs xs os m cs2 p2 hl he; have hw := gives_owns cs xs os m cs2 p2 hl he; refine ⟨.agg cs2, p2, by simp [takeV, takeXs_c, he], b1, fun o ho => ho, by simp [mutOf1, hw], fun objs' L' F' hs tg => ?_⟩; have a4 := b3 objs' L' F' hs.less tg
          refine ⟨fun i y hy => by obtain ⟨t, ys, d, o, rfl, h1, h2⟩ := b0 i y hy; exact ⟨o, h1, h2⟩, fun u hu => ?_, ?_⟩
          · obtain ⟨us, g1, g2, g3⟩ := hu
            refine ⟨us, g1, by omega, fun i c' u hc' hu => ?_⟩
            have hi : i < cs.length := by rw [← b2]; exact (List.getElem?_eq_some_iff.1 hc').1
            obtain ⟨g4, g5⟩ := g3 i _ u (List.getElem?_eq_getElem hi) hu; exact ⟨g4, a4 i c' _ hc' (List.getElem?_eq_getElem hi) u g5⟩
          · simp only [mutOf1, hw, List.map_map]
            apply List.ext_getElem?; intro i; rw [List.getElem?_map, List.getElem?_map]
            by_cases hi : i < os.length
            · rw [List.getElem?_range hi, List.getElem?_eq_getElem hi]
              have := tg.loc i os[i] (List.getElem?_eq_getElem hi)
              simpa using this
            · rw [List.getElem?_eq_none (by simpa using hi), List.getElem?_eq_none (by omega)]
              rfl
      · cases harg
    | one c =>
      cases c with
      | own o =>
        simp only [St.arg] at harg; split at harg
        · rename_i t xs d ho
          cases harg; have hob := lget_obj ho (by simp); refine ⟨.one (.own m), [.row t xs d], by simp [takeV, takeXs, takeX, take0, lapp_eq], rfl, by simp, rfl, fun objs' L' F' hs tg => ⟨fun i y hy => ?_, fun u hu => ⟨hu.1, ?_⟩, ?_⟩⟩
          · cases i with
            | zero => cases hy; exact ⟨o, rfl, hob⟩
            | succ i => simp at hy
          · exact turns_own hob (by simpa using tg.obj 0 _ rfl) (by simpa using tg.loc 0 _ rfl) u hu.2
          · have := tg.loc 0 o rfl
            simp only [Nat.add_zero] at this
            simp [mutOf1, this]
        · cases harg
      | ptr o off =>
        cases off with
        | succ n => simp only [St.arg] at harg; cases harg
        | zero =>
          simp only [St.arg] at harg; split at harg
          · rename_i t cs ho
            split at harg
            · rename_i xs os hl
              cases harg
              have hX : giveX S (.ptr o 0) = some (.box t xs, lapp os [o]) := by simp only [giveX, ho, hl]
              cases he : takeX m (.box t xs) with
              | mk c1 p1 =>
                obtain ⟨a1, a2⟩ := giveX_spec (w := w) (L := L) (F := Forb K S.objs.length Bs) hX he
                have hc1 : ∃ n, c1 = .ptr n 0 ∧ n = m + os.length := by
                  simp only [takeX] at he
                  cases he2 : takeAll m xs with
                  | mk cs2 p2 =>
                    rw [he2] at he; simp only [Prod.mk.injEq] at he; obtain ⟨b1, _⟩ := gives_spec (w := w) (L := L) (F := Forb K S.objs.length Bs) cs xs os m cs2 p2 hl he2; refine ⟨_, he.1.symm, ?_⟩; rw [llen_eq, b1]; rfl
                obtain ⟨n, hn1, hn2⟩ := hc1; subst hn1; refine ⟨.one (.ptr n 0), p1, by simp [takeV, takeXs, he, lapp_eq], a1, by simp [lapp_eq], rfl, fun objs' L' F' hs tg => ?_⟩; obtain ⟨a3, a4⟩ := a2 objs' L' F' hs.less tg; refine ⟨a3, fun u hu => ⟨hu.1, a4 u hu.2⟩, ?_⟩; have := tg.loc os.length o (by rw [lapp_eq]; simp); rw [← hn2] at this
                simp [mutOf1, this]
            · cases harg
          · cases harg
      | _ => simp only [St.arg] at harg; cases harg
end
end Go.Proofs.GR

namespace Go.Proofs.GR

def Cell.indep : Cell → Bool
  | .dat t _ => t.flat
  | .rptr _ _ => false
  | .fn _ _ => false
  | _ => true
def AObj.indep : AObj → Bool
  | .row t _ d => d || t.flat
  | .box _ cs => cs.all Cell.indep
  | _ => true
def Val.indep (v : Val) : Bool := v.cells.all Cell.indep

section
variable {w : World} {objs objs' : List AObj} {L L' : Nat → Value} {F F' : Nat → Prop}

theorem CellRep.conv {c : Cell} {u : Value} (hc : CellRep w objs L F c u) (hF : (∀ b, F' b → F b) ∨ c.indep = true) (hk : Keeps objs objs' L L') : CellRep w objs' L' F' c u := by
  refine CellRep.keeps (L := L) (objs := objs) ?_ hk
  rcases hF with hF | hF
  · exact hc.mono (Turn.refl F w) (fun b hb => .inl (hF b hb))
  · cases c with
    | dat t x =>
      obtain ⟨G, h1, h2⟩ := hc; have := Rep.flat t _ _ _ hF h1; subst this; exact ⟨[], h1, by simp⟩
    | rptr t x => cases hF
    | fn f caps => cases hF
    | _ => exact hc

theorem ObjRep.conv {o : Nat} {x : AObj} {B : List Nat} (h : ObjRep w objs L F o x B) (hF : (∀ b, F' b → F b) ∨ x.indep = true) (hk : Keeps objs objs' L L') (hL : L' o = L o) : ObjRep w objs' L' F' o x B := by
  cases x with
  | dead => exact h
  | hole => exact h
  | row t xs d =>
    obtain ⟨css, Fs, h1, h2, h3⟩ := h; refine ⟨css, Fs, by rw [hL]; exact h1, h2, ?_⟩; rw [hL]; cases d <;> simp only [Bool.false_eq_true, if_false, if_true] at h3 ⊢
    · refine ⟨h3.1, fun b hb hf => ?_⟩
      rcases hF with hF | hF
      · exact h3.2 b hb (hF b hf)
      · have hfl : t.flat = true := by simpa [AObj.indep] using hF
        rw [flatN_all_nil (fun i hi => Rep.flat _ _ _ _ hfl (h2 i _ (List.getElem?_eq_getElem hi)).2)] at hb
        simp at hb
    · exact h3
  | lent t xs i off m =>
    obtain ⟨g0, css, Gs, g1, g2, g3, g4, g5, g6⟩ := h; refine ⟨hk.live _ g0, css, Gs, by rw [hL]; exact g1, g2, g3, g4, ?_, by rw [hL]; exact g6⟩; rw [hk.loc _ g0]; exact g5
  | box t cs =>
    obtain ⟨b, cells, h1, h2, h3, h4, h5⟩ := h; refine ⟨b, cells, by rw [hL]; exact h1, h2, h3, h4, fun i c v hi hv => ⟨(h5 i c v hi hv).1, (h5 i c v hi hv).2.conv (hF.imp id (fun hF => ?_)) hk⟩⟩; exact List.all_eq_true.1 hF c (List.mem_of_getElem? hi)

theorem ValRep.conv {v : Val} {u : Value} (h : ValRep w objs L F v u) (hF : (∀ b, F' b → F b) ∨ v.indep = true) (hk : Keeps objs objs' L L') : ValRep w objs' L' F' v u := by
  cases v with
  | one c => exact ⟨h.1, h.2.conv (hF.imp id (fun hF => by simpa [Val.indep, Val.cells] using hF)) hk⟩
  | agg cs =>
    obtain ⟨vs, h1, h2, h3⟩ := h; refine ⟨vs, h1, h2, fun i c u hc hu => ⟨(h3 i c u hc hu).1, (h3 i c u hc hu).2.conv (hF.imp id (fun hF => ?_)) hk⟩⟩; exact List.all_eq_true.1 hF c (List.mem_of_getElem? hc)
end

theorem take0_indep {n : Nat} {x : X0} {c : Cell} {p : List AObj} (h : take0 n x = (c, p)) (hx : x.shares = false) : c.indep = true ∧ ∀ y ∈ p, y.indep = true := by
  cases x with
  | dat t x =>
    cases h; simp only [X0.shares] at hx; refine ⟨?_, by simp⟩
    show t.flat = true
    cases hf : t.flat <;> rw [hf] at hx <;> simp_all
  | row t xs d =>
    cases h; simp only [X0.shares] at hx; refine ⟨rfl, fun y hy => ?_⟩
    simp at hy
    subst hy
    show (d || t.flat) = true
    cases d <;> cases hf : t.flat <;> rw [hf] at hx <;> simp_all
  | rptr t x => cases hx
  | fn f caps => cases hx
  | nilP => cases h; exact ⟨rfl, by simp⟩
  | nilS => cases h; exact ⟨rfl, by simp⟩
theorem takeAll_indep : ∀ (xs : List X0) (n : Nat) (cs : List Cell) (p : List AObj), takeAll n xs = (cs, p) → lany X0.shares xs = false → (∀ c ∈ cs, c.indep = true) ∧ ∀ y ∈ p, y.indep = true
  | [], n, cs, p, h, _ => by cases h; simp
  | x :: xs, n, cs, p, h, hx => by
    simp only [lany] at hx; cases hxs : x.shares <;> rw [hxs] at hx <;> simp only [cond_true, cond_false] at hx
    · simp only [takeAll] at h
      cases he1 : take0 n x with
      | mk c1 p1 =>
        cases he2 : takeAll (Nat.add n (llen p1)) xs with
        | mk cs1 p2 =>
          rw [he1] at h; simp only [he2, Prod.mk.injEq, lapp_eq] at h; obtain ⟨rfl, rfl⟩ := h; obtain ⟨a1, a2⟩ := take0_indep he1 hxs; obtain ⟨b1, b2⟩ := takeAll_indep xs _ cs1 p2 he2 hx; refine ⟨fun c hc => ?_, fun y hy => ?_⟩
          · rcases List.mem_cons.1 hc with rfl | hc
            · exact a1
            · exact b1 c hc
          · rcases List.mem_append.1 hy with hy | hy
            · exact a2 y hy
            · exact b2 y hy
    · cases hx
theorem takeX_indep {n : Nat} {x : X} {c : Cell} {p : List AObj} (h : takeX n x = (c, p)) (hx : x.shares = false) : c.indep = true ∧ ∀ y ∈ p, y.indep = true := by
  cases x with
  | c x => exact take0_indep h hx
  | box t xs =>
    simp only [takeX] at h
    cases he : takeAll n xs with
    | mk cs p1 =>
      rw [he] at h; simp only [Prod.mk.injEq, lapp_eq] at h; obtain ⟨rfl, rfl⟩ := h; obtain ⟨a1, a2⟩ := takeAll_indep xs n cs p1 he hx; refine ⟨rfl, fun y hy => ?_⟩
      rcases List.mem_append.1 hy with hy | hy
      · exact a2 y hy
      · simp at hy
        subst hy; exact List.all_eq_true.2 a1
theorem takeXs_indep : ∀ (xs : List X) (n : Nat) (cs : List Cell) (p : List AObj), takeXs n xs = (cs, p) → lany X.shares xs = false → (∀ c ∈ cs, c.indep = true) ∧ ∀ y ∈ p, y.indep = true
  | [], n, cs, p, h, _ => by cases h; simp
  | x :: xs, n, cs, p, h, hx => by
    simp only [lany] at hx; cases hxs : x.shares <;> rw [hxs] at hx <;> simp only [cond_true, cond_false] at hx
    · simp only [takeXs] at h
      cases he1 : takeX n x with
      | mk c1 p1 =>
        cases he2 : takeXs (Nat.add n (llen p1)) xs with
        | mk cs1 p2 =>
          rw [he1] at h; simp only [he2, Prod.mk.injEq, lapp_eq] at h; obtain ⟨rfl, rfl⟩ := h; obtain ⟨a1, a2⟩ := takeX_indep he1 hxs; obtain ⟨b1, b2⟩ := takeXs_indep xs _ cs1 p2 he2 hx; refine ⟨fun c hc => ?_, fun y hy => ?_⟩
          · rcases List.mem_cons.1 hc with rfl | hc
            · exact a1
            · exact b1 c hc
          · rcases List.mem_append.1 hy with hy | hy
            · exact a2 y hy
            · exact b2 y hy
    · cases hx
theorem takeV_indep {n : Nat} {x : XV} {v : Val} {p : List AObj} (h : takeV n x = some (v, p)) (hx : lany X.shares x.xs = false) : v.indep = true ∧ ∀ y ∈ p, y.indep = true := by
  unfold takeV at h
  cases he : takeXs n x.xs with
  | mk cs p1 =>
    obtain ⟨a1, a2⟩ := takeXs_indep _ _ _ _ he hx; rw [he] at h; split at h
    · rename_i heq; cases heq; cases h; exact ⟨List.all_eq_true.2 a1, a2⟩
    · rename_i heq; cases heq; cases h; exact ⟨List.all_eq_true.2 a1, a2⟩
    · cases h
theorem takeVs_indep : ∀ (xs : List XV) (n : Nat) (vs : List Val) (p : List AObj), takeVs n xs = some (vs, p) → lany (fun v => lany X.shares v.xs) xs = false → (∀ v ∈ vs, v.indep = true) ∧ ∀ y ∈ p, y.indep = true
  | [], n, vs, p, h, _ => by cases h; simp
  | x :: xs, n, vs, p, h, hx => by
    simp only [lany] at hx; cases hxs : lany X.shares x.xs <;> rw [hxs] at hx <;> simp only [cond_true, cond_false] at hx
    · simp only [takeVs] at h
      split at h
      · rename_i v1 p1 he1
        split at h
        · rename_i vs1 p2 he2
          cases h; rw [lapp_eq]; obtain ⟨a1, a2⟩ := takeV_indep he1 hxs; obtain ⟨b1, b2⟩ := takeVs_indep xs _ vs1 p2 he2 hx; refine ⟨fun c hc => ?_, fun y hy => ?_⟩
          · rcases List.mem_cons.1 hc with rfl | hc
            · exact a1
            · exact b1 c hc
          · rcases List.mem_append.1 hy with hy | hy
            · exact a2 y hy
            · exact b2 y hy
        · cases h
      · cases h
    · cases hx
theorem updX_indep : ∀ (us : List X) (n : Nat) (ids : List Nat) (u : List (Nat × AObj)) (p : List AObj), updX n ids us = some (u, p) → lany X.shares us = false → (∀ q ∈ u, q.2.indep = true) ∧ ∀ y ∈ p, y.indep = true
  | [], n, ids, u, p, h, _ => by
    cases ids with
    | nil => cases h; simp
    | cons _ _ => simp only [updX] at h; cases h
  | x :: us, n, [], u, p, h, _ => by simp only [updX] at h; cases h
  | x :: us, n, id :: ids, u, p, h, hx => by
    simp only [lany] at hx; cases hxs : x.shares <;> rw [hxs] at hx <;> simp only [cond_true, cond_false] at hx
    · simp only [updX] at h
      split at h
      · rename_i t xs d
        split at h
        · rename_i u1 p1 he
          cases h; obtain ⟨b1, b2⟩ := updX_indep us n ids u1 p he hx; refine ⟨fun q hq => ?_, b2⟩
          rcases List.mem_cons.1 hq with rfl | hq
          · exact (take0_indep (n := 0) (x := .row t xs d) rfl hxs).2 _ (by simp)
          · exact b1 q hq
        · cases h
      · rename_i t xs
        cases he : takeAll n xs with
        | mk cs p1 =>
          rw [he] at h; simp only at h; split at h
          · rename_i u1 p2 he2
            cases h; obtain ⟨a1, a2⟩ := takeAll_indep xs n cs p1 he hxs; obtain ⟨b1, b2⟩ := updX_indep us _ ids u1 p2 he2 hx; refine ⟨fun q hq => ?_, fun y hy => ?_⟩
            · rcases List.mem_cons.1 hq with rfl | hq
              · exact List.all_eq_true.2 a1
              · exact b1 q hq
            · rw [lapp_eq] at hy
              rcases List.mem_append.1 hy with hy | hy
              · exact a2 y hy
              · exact b2 y hy
          · cases h
      · cases h
    · cases hx

theorem placeAll_set {u : List (Nat × AObj)} {l : List AObj} (hl : ∀ q ∈ u, q.1 < l.length) (hn : (u.map (·.1)).Nodup) {j i : Nat} {y : AObj} (hj : u[j]? = some (i, y)) : (placeAll l u)[i]? = some y := by
  have hi : i < l.length := hl (i, y) (List.mem_of_getElem? hj)
  have hlt : i < (placeAll l u).length := by rw [placeAll_len u l hl]; exact hi
  rcases placeAll_get u l hl hn i _ (List.getElem?_eq_getElem hlt) with ⟨j', hj'⟩ | ⟨h1, _⟩
  · have e1 : (u.map (·.1))[j]? = some i := by rw [List.getElem?_map, hj]; rfl
    have e2 : (u.map (·.1))[j']? = some i := by rw [List.getElem?_map, hj']; rfl
    have : j = j' := (List.getElem?_inj (List.getElem?_eq_some_iff.1 e1).1 hn).1 (e1.trans e2.symm); subst this; rw [hj] at hj'; have := (Prod.mk.inj (Option.some.inj hj')).2; rw [List.getElem?_eq_getElem hlt, ← this]
  · exact absurd (List.mem_map_of_mem (List.mem_of_getElem? hj)) h1
theorem placeAll_old {u : List (Nat × AObj)} {l : List AObj} (hl : ∀ q ∈ u, q.1 < l.length) (hn : (u.map (·.1)).Nodup) {i : Nat} (hi : i ∉ u.map (·.1)) (hlt : i < l.length) : (placeAll l u)[i]? = l[i]? := by
  have hlt' : i < (placeAll l u).length := by rw [placeAll_len u l hl]; exact hlt
  rcases placeAll_get u l hl hn i _ (List.getElem?_eq_getElem hlt') with ⟨j', hj'⟩ | ⟨_, h2⟩
  · exact absurd (List.mem_map_of_mem (List.mem_of_getElem? hj')) hi
  · rw [List.getElem?_eq_getElem hlt', h2]

theorem OwnRow.len {w w' : World} {sz sz' : Nat} {v : Value} {n n' : Nat} {xs xs' : List Value} (h : OwnRow w sz v n xs) (h' : OwnRow w' sz' v n' xs') : n = n' := by
  rcases h.2 with ⟨h1, h2⟩ | ⟨g, cap, cur, e, fz, h1, _⟩
  · rcases h'.2 with ⟨h3, h4⟩ | ⟨g, cap, cur, e, fz, h3, _⟩
    · omega
    · rw [h1] at h3; cases h3
  · rcases h'.2 with ⟨h3, h4⟩ | ⟨g', cap', cur', e', fz', h3, _⟩
    · rw [h1] at h3; cases h3
    · rw [h1] at h3; cases h3; rfl

theorem sameKinds_at {S : St} : ∀ {u : List (Nat × AObj)}, sameKinds S u = true → ∀ {j i : Nat} {y : AObj}, u[j]? = some (i, y) → match y with
    | .row t _ _ => ∃ xs0 d0, S.objs[i]? = some (.row t xs0 d0)
    | .box t _ => ∃ cs0, S.objs[i]? = some (.box t cs0)
    | _ => False
  | [], _, j, i, y, hj => by simp at hj
  | (o, x) :: r, h, j, i, y, hj => by
    simp only [sameKinds] at h
    obtain ⟨h1, h2⟩ : sameKind (S.obj o) x = true ∧ sameKinds S r = true := by
      cases hb : sameKind (S.obj o) x <;> rw [hb] at h
      · cases h
      · exact ⟨rfl, h⟩
    cases j with
    | succ j => exact sameKinds_at h2 (by simpa using hj)
    | zero =>
      cases hj; unfold sameKind at h1; split at h1
      · rename_i t xs d t' xs' d' ho
        have ht : t = t' := by rw [tyEq_eq] at h1; exact of_decide_eq_true h1
        subst ht; exact ⟨xs, d, lget_obj ho (by simp)⟩
      · rename_i t cs t' cs' ho
        have ht : t = t' := Nat.eq_of_beq_eq_true h1; subst ht; exact ⟨cs, lget_obj ho (by simp)⟩
      · cases h1

section
variable {K : Start} {S : St} {a : Act} {w : World} {L : Nat → Value} {B : Nat → List Nat}

theorem RelX.merge (h : RelX K S a w L B) {Kc : Start} (hw0 : Kc.w0 = w) {g mu : List Nat} (hg : ∀ o ∈ g, o < S.objs.length) (hmu : ∀ o ∈ mu, o ∈ g) (hmun : mu.Nodup) (hmay : ∀ b, Kc.may b → ∃ o ∈ g, b ∈ B o)
    {u : List (Nat × AObj)} {p q : List AObj} (hu : u.map (·.1) = mu) (hkind : sameKinds S u = true) {L' : Nat → Value} {B' : Nat → List Nat} {w' : World} (hR : RelW Kc (endObjs S.objs.length u p q) L' B' w') (hW : Within Kc (Own (endObjs S.objs.length u p q).length B') w')
    (hL : ∀ i ∈ mu, L' i = L i) (hF : (∀ b, b < w.heap.size → Kc.see b → ¬ Forb K S.objs.length B b ∨ ∃ o ∈ g, b ∈ B o) ∨ ((∀ x ∈ u, x.2.indep = true) ∧ (∀ y ∈ p, y.indep = true) ∧ ∀ y ∈ q, y.indep = true))
    {objs2 : List AObj} (h2 : objs2 = placeAll ((minusIds g mu).foldl St.kill S).objs u ++ (p ++ q)) (hmin : ∀ i, i ∈ minusIds g mu ↔ i ∈ g ∧ i ∉ mu) :
    ∃ L2 B2, RelX K { S with objs := objs2 } a w' L2 B2 ∧ ∀ v x, ValRep w' (endObjs S.objs.length u p q) L' (Forb Kc (endObjs S.objs.length u p q).length B') v x → (v.indep = true ∨ (∀ b, b < w.heap.size → Kc.see b → ¬ Forb K S.objs.length B b ∨ ∃ o ∈ g, b ∈ B o)) → ValRep w' objs2 L2 (Forb K objs2.length B2) v x := by
  have hkl : ((minusIds g mu).foldl St.kill S).objs.length = S.objs.length := kills_len _ S
  have hul : ∀ x ∈ u, x.1 < S.objs.length := fun x hx => hg _ (hmu _ (by rw [← hu]; exact List.mem_map_of_mem hx))
  have hun : (u.map (·.1)).Nodup := by rw [hu]; exact hmun
  have hul1 : ∀ x ∈ u, x.1 < ((minusIds g mu).foldl St.kill S).objs.length := fun x hx => by rw [hkl]; exact hul x hx
  have hul2 : ∀ x ∈ u, x.1 < (List.replicate S.objs.length AObj.hole).length := fun x hx => by rw [List.length_replicate]; exact hul x hx
  have hl1 : (placeAll ((minusIds g mu).foldl St.kill S).objs u).length = S.objs.length := by rw [placeAll_len _ _ hul1, hkl]
  have hl2 : (placeAll (List.replicate S.objs.length AObj.hole) u).length = S.objs.length := by rw [placeAll_len _ _ hul2, List.length_replicate]
  have hlen : objs2.length = (endObjs S.objs.length u p q).length := by rw [h2]; simp [endObjs, hl1, hl2]
  have hle : S.objs.length ≤ objs2.length := by rw [h2]; simp [hl1]
  -- what lies where
  have hnew : ∀ i, (i ∈ mu ∨ S.objs.length ≤ i) → objs2[i]? = (endObjs S.objs.length u p q)[i]? := by
    intro i hi; rw [h2]; unfold endObjs
    by_cases hlt : i < S.objs.length
    · rw [List.getElem?_append_left (by omega), List.getElem?_append_left (by omega)]
      have him : i ∈ mu := by rcases hi with hi | hi; exact hi; omega
      rw [← hu] at him; obtain ⟨x, hx1, hx2⟩ := List.mem_map.1 him; obtain ⟨j, hj⟩ := List.getElem?_of_mem hx1
      have hj' : u[j]? = some (i, x.2) := by rw [hj, ← hx2]
      rw [placeAll_set hul1 hun hj', placeAll_set hul2 hun hj']
    · have e1 : (placeAll ((minusIds g mu).foldl St.kill S).objs u ++ (p ++ q))[i]? = (p ++ q)[i - S.objs.length]? := by rw [List.getElem?_append_right (by omega), hl1]
      have e2 : (placeAll (List.replicate S.objs.length AObj.hole) u ++ (p ++ q))[i]? = (p ++ q)[i - S.objs.length]? := by rw [List.getElem?_append_right (by omega), hl2]
      rw [e1, e2]
  have hold : ∀ i, i < S.objs.length → i ∉ mu → objs2[i]? = if i ∈ g then some .dead else S.objs[i]? := by
    intro i hi hm; rw [h2, List.getElem?_append_left (by omega), placeAll_old hul1 hun (by rw [hu]; exact hm) (by omega), kills_obj]
    by_cases hig : i ∈ g
    · rw [if_pos ⟨(hmin i).2 ⟨hig, hm⟩, hi⟩, if_pos hig]
    · rw [if_neg (fun hc => hig ((hmin i).1 hc.1).1), if_neg hig]
  have hend : ∀ i, i < S.objs.length → i ∉ mu → (endObjs S.objs.length u p q)[i]? = some .hole := by
    intro i hi hm; unfold endObjs; rw [List.getElem?_append_left (by omega), placeAll_old hul2 hun (by rw [hu]; exact hm) (by simpa using hi)]
    simp [hi]
  let L2 := fun i => if i < S.objs.length then L i else L' i
  let B2 : Nat → List Nat := fun i => if i < S.objs.length ∧ i ∉ mu then (if i ∈ g then [] else B i) else B' i
  have hB2 : ∀ i b, i < objs2.length → b ∈ B2 i → (b ∈ B' i ∧ (i ∈ mu ∨ S.objs.length ≤ i)) ∨ (i < S.objs.length ∧ i ∉ g ∧ b ∈ B i) := by
    intro i b hi hb; simp only [B2] at hb; split at hb
    · rename_i hc
      split at hb
      · simp at hb
      · exact .inr ⟨hc.1, by assumption, hb⟩
    · rename_i hc
      refine .inl ⟨hb, ?_⟩
      by_cases hm : i ∈ mu
      · exact .inl hm
      · exact .inr (Nat.le_of_not_lt (fun hl => hc ⟨hl, hm⟩))
  have hown : ∀ b, Own objs2.length B2 b → Own (endObjs S.objs.length u p q).length B' b ∨ ∃ i, i < S.objs.length ∧ i ∉ g ∧ b ∈ B i := by
    intro b hb; obtain ⟨i, hi, hbi⟩ := mem_flatN.1 hb
    rcases hB2 i b hi hbi with ⟨h1, _⟩ | ⟨h1, h3, h4⟩
    · exact .inl (mem_flatN.2 ⟨i, by omega, h1⟩)
    · exact .inr ⟨i, h1, h3, h4⟩
  have hmayOwn : ∀ b, Kc.may b → Own S.objs.length B b := by
    intro b hb; obtain ⟨o, ho, hbo⟩ := hmay b hb; exact mem_flatN.2 ⟨o, hg o ho, hbo⟩
  have ht : Turn (Own S.objs.length B) w w' := by
    refine ⟨by rw [hW.os, hw0], by rw [hW.tape, hw0], by rw [hW.output, hw0], by rw [← hw0]; exact hW.size, fun b hb hn => ?_⟩; rw [← hw0]; exact hW.block b (by rw [hw0]; exact hb) (fun hm => hn (hmayOwn b hm))
  have hownc : ∀ b, Own (endObjs S.objs.length u p q).length B' b → (∃ o ∈ g, b ∈ B o) ∨ w.heap.size ≤ b := by
    intro b hb
    rcases hW.own b hb with h1 | h1
    · exact .inl (hmay b h1)
    · exact .inr (by rw [← hw0]; exact h1)
  have hoo : ∀ b, Own objs2.length B2 b → Own S.objs.length B b ∨ w.heap.size ≤ b := by
    intro b hb
    rcases hown b hb with hb | ⟨i, h1, _, h3⟩
    · rcases hownc b hb with ⟨o, ho, hbo⟩ | h1
      · exact .inl (mem_flatN.2 ⟨o, hg o ho, hbo⟩)
      · exact .inr h1
    · exact .inl (mem_flatN.2 ⟨i, h1, h3⟩)
  have hdis : ∀ i j, i < S.objs.length → j < S.objs.length → i ≠ j → ∀ b, b ∈ B i → b ∉ B j := fun i j hi hj hij b => flatN_disj h.objs.nodup hi hj hij b
  have hlt : ∀ i, i < S.objs.length → ∀ b ∈ B i, b < w.heap.size := fun i hi b hb => h.objs.lt b (mem_flatN.2 ⟨i, hi, hb⟩)
  have hnc : ∀ i b, i < S.objs.length → i ∉ g → b ∈ B i → ¬ Own (endObjs S.objs.length u p q).length B' b := by
    intro i b hi hig hb hc
    rcases hownc b hc with ⟨o, ho, hbo⟩ | h1
    · exact hdis i o hi (hg o ho) (by rintro rfl; exact hig ho) b hb hbo
    · have := hlt i hi b hb; omega
  have hforb : (∀ b, b < w.heap.size → Kc.see b → ¬ Forb K S.objs.length B b ∨ ∃ o ∈ g, b ∈ B o) → ∀ b, Forb K objs2.length B2 b → Forb Kc (endObjs S.objs.length u p q).length B' b := by
    intro hsee b hb
    have uns : b < w.heap.size → Forb K S.objs.length B b → (∀ o ∈ g, b ∉ B o) → Forb Kc (endObjs S.objs.length u p q).length B' b := by
      intro h1 h2 h3; refine .inr ⟨by rw [hw0]; exact h1, fun hs => ?_⟩
      rcases hsee b h1 hs with h4 | ⟨o, h4, h5⟩
      · exact h4 h2
      · exact h3 o h4 h5
    rcases hb with hb | hb
    · rcases hown b hb with hb | ⟨i, h1, h3, h4⟩
      · exact .inl hb
      · exact uns (hlt i h1 b h4) (.inl (mem_flatN.2 ⟨i, h1, h4⟩)) (fun o ho hbo => hdis i o h1 (hg o ho) (by rintro rfl; exact h3 ho) b h4 hbo)
    · exact uns (Nat.lt_of_lt_of_le hb.1 h.within.size) (.inr hb) (fun o ho hbo => h.seen (mem_flatN.2 ⟨o, hg o ho, hbo⟩) hb)
  have hkE : Keeps (endObjs S.objs.length u p q) objs2 L' L2 := by
    have hl : ∀ i, Live (endObjs S.objs.length u p q) i → i ∈ mu ∨ S.objs.length ≤ i := by
      rintro i ⟨x, hx1, hx2⟩
      by_cases hi : i < S.objs.length
      · by_cases hm : i ∈ mu
        · exact .inl hm
        · rw [hend i hi hm] at hx1
          cases hx1; cases hx2
      · exact .inr (by omega)
    refine ⟨fun i hi => ?_, fun i hi => ?_, fun i t xs d hi hx => ?_, fun i t cs hi hx => ?_⟩
    · have := hl i hi
      obtain ⟨x, hx1, hx2⟩ := hi; exact ⟨x, by rw [hnew i this]; exact hx1, hx2⟩
    · simp only [L2]
      split
      · rename_i hlt
        rcases hl i hi with h1 | h1
        · exact (hL i h1).symm
        · omega
      · rfl
    · unfold IsRow at hx
      rw [hnew i (hl i hi)] at hx; exact ⟨xs, d, hx, rfl⟩
    · rw [hnew i (hl i hi)] at hx
      exact ⟨cs, hx⟩
  have hkS : Keeps S.objs objs2 L L2 := by
    have hset : ∀ i y, i < S.objs.length → i ∈ mu → objs2[i]? = some y → ∃ j : Nat, u[j]? = some (i, y) := by
      intro i y hi hm hy; rw [h2, List.getElem?_append_left (by omega)] at hy
      rcases placeAll_get u _ hul1 hun i y hy with hj | ⟨h1, _⟩
      · exact hj
      · rw [hu] at h1; exact absurd hm h1
    refine ⟨fun i hi => ?_, fun i hi => ?_, fun i t xs d hi hx => ?_, fun i t cs hi hx => ?_⟩
    · have hil := hi.lt
      by_cases hm : i ∈ mu
      · have hlt2 : i < objs2.length := by omega
        obtain ⟨j, hj⟩ := hset i _ hil hm (List.getElem?_eq_getElem hlt2); have hk := sameKinds_at hkind hj; refine ⟨objs2[i], List.getElem?_eq_getElem hlt2, ?_⟩; cases hx : objs2[i] <;> rw [hx] at hk <;> first | rfl | exact hk.elim
      · obtain ⟨y, hy, hy2⟩ := hi
        by_cases hig : i ∈ g
        · exact ⟨.dead, by rw [hold i hil hm, if_pos hig], rfl⟩
        · exact ⟨y, by rw [hold i hil hm, if_neg hig]; exact hy, hy2⟩
    · simp only [L2]
      rw [if_pos hi.lt]
    · have hil := hi.lt
      by_cases hm : i ∈ mu
      · rcases hx with hx | ⟨_, i1, off1, m1, hx⟩
        case inr =>
          obtain ⟨j, hj⟩ := hset i _ hil hm hx; exact (sameKinds_at hkind hj).elim
        obtain ⟨j, hj⟩ := hset i _ hil hm hx; obtain ⟨xs0, d0, h0⟩ := sameKinds_at hkind hj; refine ⟨xs0, d0, .inl h0, ?_⟩; have h1 := hnew i (.inl hm); rw [hx] at h1; obtain ⟨css, Fs, o1, _⟩ := hR.obj i _ h1.symm; obtain ⟨css0, Fs0, o2, _⟩ := h.objs.obj i _ h0; rw [hL i hm] at o1; exact o2.len o1
      · unfold IsRow at hx
        rw [hold i hil hm] at hx; split at hx
        · rcases hx with hx | ⟨_, _, _, _, hx⟩ <;> cases hx
        · exact ⟨xs, d, hx, rfl⟩
    · have hil := hi.lt
      by_cases hm : i ∈ mu
      · obtain ⟨j, hj⟩ := hset i _ hil hm hx
        exact sameKinds_at hkind hj
      · rw [hold i hil hm] at hx
        split at hx
        · cases hx
        · exact ⟨cs, hx⟩
  refine ⟨L2, B2, h.gen hkS ht hoo (flatN_nodup (fun i hi => ?_) (fun i j hi hj hij b hbi hbj => ?_)) (fun b hb => ?_) (fun i x hx => ?_), fun v x hv hc => ?_⟩
  · simp only [B2]
    split
    · split
      · exact List.nodup_nil
      · rename_i hc _
        exact flatN_nodup_at h.objs.nodup hc.1
    · exact flatN_nodup_at hR.nodup (by omega)
  · rcases hB2 i b hi hbi with ⟨h1, _⟩ | ⟨h1, h3, h4⟩
    · rcases hB2 j b hj hbj with ⟨h5, _⟩ | ⟨h5, h6, h7⟩
      · exact flatN_disj hR.nodup (by omega) (by omega) hij b h1 h5
      · exact hnc j b h5 h6 h7 (mem_flatN.2 ⟨i, by omega, h1⟩)
    · rcases hB2 j b hj hbj with ⟨h5, _⟩ | ⟨h5, h6, h7⟩
      · exact hnc i b h1 h3 h4 (mem_flatN.2 ⟨j, by omega, h5⟩)
      · exact hdis i j h1 h5 hij b h4 h7
  · rcases hown b hb with hb | ⟨i, h1, _, h3⟩
    · exact hR.lt b hb
    · exact Nat.lt_of_lt_of_le (hlt i h1 b h3) (by rw [← hw0]; exact hW.size)
  · by_cases hi : i < S.objs.length ∧ i ∉ mu
    · have hB : B2 i = if i ∈ g then [] else B i := by simp only [B2]; rw [if_pos hi]
      have hx' := hold i hi.1 hi.2; rw [hx] at hx'
      by_cases hig : i ∈ g
      · rw [if_pos hig] at hx' hB
        cases hx'; exact .inr hB
      · rw [if_neg hig] at hx' hB
        cases hxh : x.isHole with
        | false => exact .inl ⟨⟨x, hx'.symm, hxh⟩, hx'.symm, hB, fun b hb => by
            rw [← hw0]; refine hW.block b (by rw [hw0]; exact hlt i hi.1 b hb) (fun hm => ?_); obtain ⟨o, ho, hbo⟩ := hmay b hm
            exact hdis i o hi.1 (hg o ho) (by rintro rfl; exact hig ho) b hb hbo⟩
        | true =>
          have hye : x = .hole := by cases x <;> simp [AObj.isHole] at hxh; rfl
          subst hye; refine .inr ?_
          show B2 i = []
          rw [hB]; exact h.objs.obj i _ hx'.symm
    · have him : i ∈ mu ∨ S.objs.length ≤ i := by
        by_cases hm : i ∈ mu
        · exact .inl hm
        · exact .inr (Nat.le_of_not_lt (fun hl => hi ⟨hl, hm⟩))
      have hB : B2 i = B' i := by simp only [B2]; rw [if_neg hi]
      have hx2 := hnew i him; rw [hx] at hx2; have ho := hR.obj i x hx2.symm; rw [hB]; refine .inr (ho.conv ?_ hkE ?_)
      · rcases hF with hF | ⟨f1, f2, f3⟩
        · exact .inl (hforb hF)
        · refine .inr ?_
          rcases him with hm | hge
          · have hil : i < S.objs.length := hg i (hmu i hm)
            rw [h2, List.getElem?_append_left (by omega)] at hx
            rcases placeAll_get u _ hul1 hun i x hx with ⟨j, hj⟩ | ⟨h1, _⟩
            · exact f1 _ (List.mem_of_getElem? hj)
            · rw [hu] at h1; exact absurd hm h1
          · rw [h2, List.getElem?_append_right (by omega)] at hx
            rcases List.mem_append.1 (List.mem_of_getElem? hx) with hm | hm
            · exact f2 x hm
            · exact f3 x hm
      · simp only [L2]
        split
        · rename_i hil
          rcases him with hm | hge
          · exact (hL i hm).symm
          · omega
        · rfl
  · refine hv.conv ?_ hkE
    rcases hc with hc | hc
    · exact .inr hc
    · exact .inl (hforb hc)
end
end Go.Proofs.GR

namespace Go.Proofs.GR

theorem lmeet_false {l m : List Nat} (h : lmeet l m = false) : ∀ a ∈ l, a ∉ m := by
  induction l with
  | nil => simp
  | cons x l ih =>
    simp only [lmeet] at h; cases hx : lhas m x <;> rw [hx] at h <;> simp only [cond_true, cond_false] at h
    · intro a ha hm
      rcases List.mem_cons.1 ha with rfl | ha
      · rw [(lhas_iff m a).2 hm] at hx; cases hx
      · exact ih h a ha hm
    · cases h

theorem minusIds_iff (m : List Nat) : ∀ (l : List Nat) (i : Nat), i ∈ minusIds l m ↔ i ∈ l ∧ i ∉ m
  | [], i => by simp [minusIds]
  | a :: l, i => by
    simp only [minusIds]
    cases ha : lhas m a with
    | true =>
      have := (lhas_iff m a).1 ha; simp only [cond_true, minusIds_iff m l i, List.mem_cons]; constructor
      · rintro ⟨h1, h2⟩; exact ⟨.inr h1, h2⟩
      · rintro ⟨rfl | h1, h2⟩
        · exact absurd this h2
        · exact ⟨h1, h2⟩
    | false =>
      have hna : a ∉ m := fun h => by rw [(lhas_iff m a).2 h] at ha; cases ha
      simp only [cond_false, List.mem_cons, minusIds_iff m l i]; constructor
      · rintro (rfl | ⟨h1, h2⟩)
        · exact ⟨.inl rfl, hna⟩
        · exact ⟨.inr h1, h2⟩
      · rintro ⟨rfl | h1, h2⟩
        · exact .inl rfl
        · exact .inr ⟨h1, h2⟩

theorem mutOf1_ro (v : Val) : mutOf1 .ro v = [] := by unfold mutOf1; split <;> rename_i h <;> first | rfl | cases h
theorem mutsOf_nil (ms : List Mode) : mutsOf ms [] = [] := by
  cases ms with
  | nil => rfl
  | cons m ms => cases m <;> simp [mutsOf]
theorem mutsOf_cons (ms : List Mode) (v : Val) (vs : List Val) : mutsOf ms (v :: vs) = mutOf1 (ms.headD .ro) v ++ mutsOf ms.tail vs := by
  cases ms with
  | nil => simp [mutsOf, mutOf1_ro]
  | cons m ms =>
    simp only [List.headD_cons, List.tail_cons]
    cases m with
    | ro => rw [mutOf1_ro]; simp [mutsOf]
    | tk => simp [mutsOf, mutOf1]
    | em => simp [mutsOf, mutOf1]
    | wr =>
      cases v with
      | agg cs => simp [mutsOf, mutOf1, lapp_eq]
      | one c => cases c <;> simp [mutsOf, mutOf1]

section
variable {K : Start} {P : Program} {Γ : Tab} {S : St} {a : Act} {w : World} {L : Nat → Value} {Bs : Nat → List Nat}

theorem args_spec (h : RelX K S a w L Bs) : ∀ (vs : List Val) (ms : List Mode) (xs : List XV) (l mu g : List Nat), S.args Γ ms vs = some (xs, l, mu, g) → ∀ m, ∃ vs' p, takeVs m xs = some (vs', p) ∧ p.length = g.length ∧ vs'.length = vs.length ∧ (∀ o ∈ mu, o ∈ g) ∧
    mu.length = (mutsOf ms vs').length ∧ ∀ objs' L' F', Shown K S Bs l F' → Tgt objs' L L' m p g → (∀ (i : Nat) y, p[i]? = some y → ∃ o, g[i]? = some o ∧ From w S L (Forb K S.objs.length Bs) objs' L' F' y o) ∧
      (∀ (j : Nat) v' v, vs'[j]? = some v' → vs[j]? = some v → VTurns w S L (Forb K S.objs.length Bs) objs' L' F' v v') ∧ (mutsOf ms vs').map L' = mu.map L
  | [], ms, xs, l, mu, g, ha, m => by
    simp only [St.args] at ha; cases ha; refine ⟨[], [], rfl, rfl, rfl, by simp, by simp [mutsOf_nil], fun objs' L' F' _ _ => ⟨fun i y hy => by simp at hy, fun j v' v hv => by simp at hv, by simp [mutsOf_nil]⟩⟩
  | v :: vs, ms, xs, l, mu, g, ha, m => by
    simp only [St.args] at ha; split at ha
    · rename_i x l1 m1 g1 xs1 l2 m2 g2 h1 h2
      cases ha; obtain ⟨v', p1, a1, a2, a3, a4, a5⟩ := arg_spec h h1 m; obtain ⟨vs', p2, b1, b2, b3, b4, b5, b6⟩ := args_spec h vs ms.tail xs1 l2 m2 g2 h2 (Nat.add m (llen p1)); simp only [lapp_eq]; refine ⟨v' :: vs', p1 ++ p2, by simp only [takeVs, a1, b1, lapp_eq], by simp [a2, b2], by simp [b3], fun o ho => ?_, ?_, fun objs' L' F' hs tg => ?_⟩
      · rcases List.mem_append.1 ho with ho | ho
        · exact List.mem_append_left _ (a3 o ho)
        · exact List.mem_append_right _ (b4 o ho)
      · rw [mutsOf_cons]; simp [a4, b5]
      · obtain ⟨c1, c2, c3⟩ := a5 objs' L' F' hs.left tg.left
        obtain ⟨d1, d2, d3⟩ := b6 objs' L' F' hs.right (by rw [llen_eq]; exact tg.right a2); refine ⟨fun i y hy => ?_, fun j w' w0 hw' hw0 => ?_, ?_⟩
        · by_cases hi : i < p1.length
          · rw [List.getElem?_append_left hi] at hy
            obtain ⟨o', g1, g2⟩ := c1 i y hy; exact ⟨o', by rw [List.getElem?_append_left (by omega)]; exact g1, g2⟩
          · rw [List.getElem?_append_right (by omega)] at hy
            obtain ⟨o', g1, g2⟩ := d1 _ y hy; exact ⟨o', by rw [List.getElem?_append_right (by omega), ← a2]; exact g1, g2⟩
        · cases j with
          | zero => cases hw'; cases hw0; exact c2
          | succ j => exact d2 j w' w0 (by simpa using hw') (by simpa using hw0)
        · rw [mutsOf_cons, List.map_append, List.map_append, c3, d3]
    · cases ha

theorem freezes (h : RelX K S a w L Bs) : ∀ (l : List Nat) (S1 : St) (B1 : Nat → List Nat), RelX K S1 a w L B1 → S1.objs.length = S.objs.length → (∀ o ∈ l, (∃ t xs d, S1.obj o = .row t xs d) ∨ S1.objs[o]? = some .dead) →
    ∃ B2, RelX K (l.foldl St.freeze S1) a w L B2 ∧ (l.foldl St.freeze S1).objs.length = S.objs.length ∧ (∀ o ∈ l, o < S.objs.length → B2 o = []) ∧ (∀ o, B2 o = [] ∨ B2 o = B1 o) ∧ (∀ o, o ∉ l → B2 o = B1 o) ∧
      (∀ o, o ∉ l → ∀ t xs d, S1.objs[o]? = some (.row t xs d) → (l.foldl St.freeze S1).objs[o]? = some (.row t xs d)) ∧ (∀ o, o ∉ l → ∀ t cs, S1.objs[o]? = some (.box t cs) → ∃ cs', (l.foldl St.freeze S1).objs[o]? = some (.box t cs'))
  | [], S1, B1, h1, hl, _ => ⟨B1, h1, hl, by simp, fun o => .inr rfl, fun _ _ => rfl, fun o _ t xs d hx => hx, fun o _ t cs hx => ⟨cs, hx⟩⟩
  | q :: l, S1, B1, h1, hl, hr => by
    simp only [List.foldl_cons]
    have hlen : (S1.freeze q).objs.length = S1.objs.length := by
      unfold St.freeze; split
      · simp [St.kill, St.setObj, lset_eq]
      · rfl
    have hobj : ∀ (i : Nat), (S1.freeze q).objs[i]? = S1.objs[i]? ∨ (∃ t xs d, S1.obj q = .row t xs d ∧ (S1.freeze q).objs[i]? = if i = q then some .dead else (S1.objs[i]?).map (·.mapC (Cell.thaw q t xs))) := by
      intro i; unfold St.freeze; split
      · rename_i t xs d hq
        refine .inr ⟨t, xs, d, hq, ?_⟩; simp only [St.kill, St.setObj, lset_eq]; have hql := (List.getElem?_eq_some_iff.1 (lget_obj hq (by simp))).1
        by_cases hi : i = q
        · subst hi
          rw [if_pos rfl, List.getElem?_set_self (by simpa using hql)]
        · rw [if_neg hi, List.getElem?_set_ne (Ne.symm hi), List.getElem?_map]
      · exact .inl rfl
    have hB : ∃ B0, RelX K (S1.freeze q) a w L B0 ∧ (q < S.objs.length → B0 q = []) ∧ (∀ o, B0 o = [] ∨ B0 o = B1 o) ∧ (∀ o, o ≠ q → B0 o = B1 o) := by
      rcases hr q (by simp) with ⟨t, xs, d, hq⟩ | hq
      · exact ⟨_, h1.freeze hq, fun _ => by simp, fun o => by by_cases ho : o = q <;> simp [ho], fun o ho => by simp [ho]⟩
      · have hS : S1.freeze q = S1 := by
          unfold St.freeze
          have : S1.obj q = .dead := by rw [obj_get, hq]; rfl
          rw [this]
        rw [hS]; exact ⟨B1, h1, fun _ => h1.objs.obj q _ hq, fun o => .inr rfl, fun _ _ => rfl⟩
    obtain ⟨B0, h2, hb1, hb2, hb3⟩ := hB
    have hrow : ∀ (o : Nat) (t : Ty) (xs : List t.den) (d : Bool), o ≠ q → S1.objs[o]? = some (.row t xs d) → (S1.freeze q).objs[o]? = some (.row t xs d) := by
      intro o t xs d ho hx
      rcases hobj o with h3 | ⟨t', xs', d', _, h3⟩
      · rw [h3]; exact hx
      · rw [h3, if_neg ho, hx]; rfl
    have hbox : ∀ (o : Nat) (t : TypeId) (cs : List Cell), o ≠ q → S1.objs[o]? = some (.box t cs) → ∃ cs', (S1.freeze q).objs[o]? = some (.box t cs') := by
      intro o t cs ho hx
      rcases hobj o with h3 | ⟨t', xs', d', _, h3⟩
      · exact ⟨cs, by rw [h3]; exact hx⟩
      · exact ⟨_, by rw [h3, if_neg ho, hx]; rfl⟩
    have hdead : ∀ (o : Nat), S1.objs[o]? = some AObj.dead → (S1.freeze q).objs[o]? = some AObj.dead := by
      intro o hx
      rcases hobj o with h3 | ⟨t', xs', d', _, h3⟩
      · rw [h3]; exact hx
      · rw [h3]
        by_cases ho : o = q
        · rw [if_pos ho]
        · rw [if_neg ho, hx]; rfl
    have hr' : ∀ o ∈ l, (∃ t xs d, (S1.freeze q).obj o = .row t xs d) ∨ (S1.freeze q).objs[o]? = some .dead := by
      intro o ho
      by_cases hoq : o = q
      · subst hoq
        rcases hr o (by simp) with ⟨t, xs, d, hq⟩ | hq
        · rcases hobj o with h3 | ⟨t', xs', d', _, h3⟩
          · exact .inl ⟨t, xs, d, by rw [obj_get, h3, ← obj_get]; exact hq⟩
          · exact .inr (by rw [h3, if_pos rfl])
        · exact .inr (hdead o hq)
      · rcases hr o (by simp [ho]) with ⟨t, xs, d, hq⟩ | hq
        · exact .inl ⟨t, xs, d, by rw [obj_get, hrow o t xs d hoq (lget_obj hq (by simp))]; rfl⟩
        · exact .inr (hdead o hq)
    obtain ⟨B2, g1, g2, g3, g4, g5, g6, g7⟩ := freezes h l (S1.freeze q) B0 h2 (by omega) hr'; refine ⟨B2, g1, g2, fun o ho hol => ?_, fun o => ?_, fun o ho => ?_, fun o ho t xs d hx => ?_, fun o ho t cs hx => ?_⟩
    · rcases List.mem_cons.1 ho with rfl | ho
      · rcases g4 o with h3 | h3
        · exact h3
        · rw [h3]; exact hb1 hol
      · exact g3 o ho hol
    · rcases g4 o with h3 | h3
      · exact .inl h3
      · rw [h3]; exact hb2 o
    · simp only [List.mem_cons, not_or] at ho
      rw [g5 o ho.2, hb3 o ho.1]
    · simp only [List.mem_cons, not_or] at ho
      exact g6 o ho.2 t xs d (hrow o t xs d ho.1 hx)
    · simp only [List.mem_cons, not_or] at ho
      obtain ⟨cs', hx'⟩ := hbox o t cs ho.1 hx; exact g7 o ho.2 t cs' hx'
end
end Go.Proofs.GR

namespace Go.Proofs.GR
section
variable {K : Start} {P : Program} {Γ : Tab} {S : St} {a : Act} {w : World} {L : Nat → Value} {Bs : Nat → List Nat}

theorem ownCells_spec (L' : Nat → Value) (objs' : List AObj) (F : Nat → Prop) : ∀ (ts : List Ty) (cs : List Cell) (n : Nat) (cs' : List Cell) (p : List AObj), ownCells n ts cs = (cs', p) →
    cs'.length = cs.length ∧ (∀ y ∈ p, ∃ τ, y = .row τ [] true) ∧
    ((∀ (j : Nat) y, p[j]? = some y → objs'[n + j]? = some y ∧ L' (n + j) = .slice none 0 0) → ∀ (i : Nat) c', cs'[i]? = some c' → ∃ c, cs[i]? = some c ∧ ∀ u, CellRep w objs' L' F c u → CellRep w objs' L' F c' u)
  | [], cs, n, cs', p, h => by
    cases cs <;> (simp only [ownCells, Prod.mk.injEq] at h; obtain ⟨rfl, rfl⟩ := h; exact ⟨rfl, by simp, fun _ i c' hc => ⟨c', hc, fun _ h => h⟩⟩)
  | t :: ts, [], n, cs', p, h => by
    simp only [ownCells, Prod.mk.injEq] at h; obtain ⟨rfl, rfl⟩ := h; exact ⟨rfl, by simp, fun _ i c' hc => ⟨c', hc, fun _ h => h⟩⟩
  | t :: ts, c :: cs, n, cs', p, h => by
    simp only [ownCells] at h; split at h
    · rename_i τ
      cases he : ownCells (Nat.succ n) ts cs with
      | mk r q =>
        rw [he] at h; simp only [Prod.mk.injEq] at h; obtain ⟨rfl, rfl⟩ := h; obtain ⟨h1, h2, h3⟩ := ownCells_spec L' objs' F ts cs _ r q he; refine ⟨by simp [h1], fun y hy => ?_, fun hp i c' hc => ?_⟩
        · rcases List.mem_cons.1 hy with rfl | hy
          · exact ⟨τ, rfl⟩
          · exact h2 y hy
        · cases i with
          | zero =>
            cases hc; refine ⟨.nilS, rfl, fun u hu => ?_⟩; obtain ⟨a1, a2⟩ := hp 0 _ rfl; have hu' : u = .slice none 0 0 := hu; refine ⟨.of a1 rfl, fun t' xs' d' _ => ?_⟩; rw [hu', ← a2]; rfl
          | succ i =>
            exact h3 (fun j y hy => by have := hp (j + 1) y (by simpa using hy); rw [show Nat.succ n + j = n + (j + 1) by omega]; exact this) i c' (by simpa using hc)
    · cases he : ownCells n ts cs with
      | mk r q =>
        rw [he] at h; simp only [Prod.mk.injEq] at h; obtain ⟨rfl, rfl⟩ := h; obtain ⟨h1, h2, h3⟩ := ownCells_spec L' objs' F ts cs _ r q he; refine ⟨by simp [h1], h2, fun hp i c' hc => ?_⟩
        cases i with
        | zero => cases hc; exact ⟨_, rfl, fun _ h => h⟩
        | succ i => exact h3 hp i c' (by simpa using hc)

theorem RelX.empties (h : RelX K S a w L Bs) {p : List AObj} (hp : ∀ y ∈ p, ∃ τ, y = .row τ [] true) : ∃ L' Bs', RelX K { S with objs := S.objs ++ p } a w L' Bs' ∧ (∀ (j : Nat) y, p[j]? = some y → L' (S.objs.length + j) = .slice none 0 0) ∧
    ∀ c u, CellRep w S.objs L (Forb K S.objs.length Bs) c u → CellRep w (S.objs ++ p) L' (Forb K (S.objs ++ p).length Bs') c u := by
  let L' : Nat → Value := fun i => if i < S.objs.length then L i else .slice none 0 0
  let Bs' : Nat → List Nat := fun o => if o < S.objs.length then Bs o else []
  have hfl : flatN Bs' (S.objs ++ p).length = flatN Bs S.objs.length := by
    rw [List.length_append]; generalize p.length = k
    induction k with
    | zero => exact flatN_congr (fun i hi => by simp only [Bs']; rw [if_pos (by omega)])
    | succ k ih =>
      rw [show S.objs.length + (k + 1) = (S.objs.length + k) + 1 by omega, flatN_succ, ih]
      have : Bs' (S.objs.length + k) = [] := by simp only [Bs']; rw [if_neg (by omega)]
      rw [this, List.append_nil]
  have hlive : ∀ o, Live S.objs o → Live (S.objs ++ p) o := by
    rintro o ⟨x, hx, hh⟩
    exact ⟨x, by rw [List.getElem?_append_left (List.getElem?_eq_some_iff.1 hx).1]; exact hx, hh⟩
  have hold : ∀ o, Live S.objs o → (S.objs ++ p)[o]? = S.objs[o]? := fun o ho => List.getElem?_append_left ho.lt
  have hk : Keeps S.objs (S.objs ++ p) L L' := ⟨hlive, fun o ho => if_pos ho.lt, fun o t xs d ho hx => ⟨xs, d, by unfold IsRow at hx ⊢; rw [← hold o ho]; exact hx, rfl⟩, fun o t cs ho hx => ⟨cs, by rw [← hold o ho]; exact hx⟩⟩
  have ho : ∀ b, Own (S.objs ++ p).length Bs' b → Own S.objs.length Bs b ∨ w.heap.size ≤ b := fun b hb => .inl (by unfold Own at hb ⊢; rw [hfl] at hb; exact hb)
  refine ⟨L', Bs', h.gen hk (Turn.refl _ w) ho ?_ (fun b hb => h.objs.lt b ?_) (fun o x hx => ?_), fun j y hy => if_neg (by omega), fun c u hc => ?_⟩
  · rw [hfl]; exact h.objs.nodup
  · unfold Own at hb ⊢; rw [hfl] at hb; exact hb
  · by_cases hol : o < S.objs.length
    · rw [List.getElem?_append_left hol] at hx
      have hB : Bs' o = Bs o := by simp only [Bs']; rw [if_pos hol]
      cases x with
      | hole =>
        right
        rw [hB]; exact h.objs.obj o _ hx
      | _ => exact .inl ⟨⟨_, hx, rfl⟩, hx, hB, fun _ _ => rfl⟩
    · rw [List.getElem?_append_right (by omega)] at hx
      obtain ⟨τ, rfl⟩ := hp x (List.mem_of_getElem? hx)
      right
      have hL : L' o = .slice none 0 0 := if_neg hol; have hB : Bs' o = [] := if_neg hol; rw [hB]; refine ⟨fun _ => [], fun _ => [], ⟨by simp [flatN], .inl ⟨hL, rfl⟩⟩, fun i y hy => by simp at hy, ?_⟩; rw [if_pos rfl, hL]; rfl
  · exact (hc.mono (Turn.refl _ w) (Forb.up ho)).keeps hk

theorem slot_at (h : RelX K S a w L Bs) {x : Nat} {v : Val} (hs : lget S.slots x .nix = .val v) : ∃ u, a.tmps[x]? = some u ∧ ValRep w S.objs L (Forb K S.objs.length Bs) v u := by
  have hx : S.slots[x]? = some (.val v) := by
    rw [lget_eq, List.getD] at hs
    cases he : S.slots[x]? with
    | none => rw [he] at hs; cases hs
    | some y => rw [he] at hs; simpa using hs
  have hlt : x < a.tmps.size := by rw [h.size]; exact (List.getElem?_eq_some_iff.1 hx).1
  exact ⟨_, Array.getElem?_eq_getElem hlt, h.slots x _ _ hx (Array.getElem?_eq_getElem hlt)⟩

theorem RelX.retell (h : RelX K S a w L Bs) {x : Nat} {s : Slot} (hs : ∀ u, a.tmps[x]? = some u → SlotRep w S.objs L (Forb K S.objs.length Bs) s u) : RelX K { S with slots := lset S.slots x s } a w L Bs := by
  refine ⟨h.objs, fun i s' v h1 h2 => ?_, h.base, h.within, by simp [lset_eq, h.size], h.defers⟩; simp only [lset_eq] at h1
  by_cases hi : x = i
  · subst hi
    rw [List.getElem?_set] at h1; simp only [if_true] at h1; split at h1
    · cases h1; exact hs v h2
    · cases h1
  · rw [List.getElem?_set_ne hi] at h1
    exact h.slots i s' v h1 h2

theorem RelX.rebox (h : RelX K S a w L Bs) {o : Nat} {bt : TypeId} {cs cs' : List Cell} (ho : S.objs[o]? = some (.box bt cs)) (hlen : cs'.length = cs.length)
    (hc : ∀ (i : Nat) c', cs'[i]? = some c' → ∃ c, cs[i]? = some c ∧ ∀ u, CellRep w S.objs L (Forb K S.objs.length Bs) c u → CellRep w S.objs L (Forb K S.objs.length Bs) c' u) : RelX K { S with objs := S.objs.set o (.box bt cs') } a w L Bs := by
  have hol := (List.getElem?_eq_some_iff.1 ho).1
  have hat : ∀ j, (S.objs.set o (.box bt cs'))[j]? = if j = o then some (.box bt cs') else S.objs[j]? := by
    intro j
    by_cases hj : j = o
    · subst hj; rw [if_pos rfl, List.getElem?_set_self hol]
    · rw [if_neg hj, List.getElem?_set_ne (Ne.symm hj)]
  have hk : Keeps S.objs (S.objs.set o (.box bt cs')) L L := by
    refine ⟨fun j ⟨x, hx, hh⟩ => ?_, fun _ _ => rfl, fun j t xs d _ hr => ⟨xs, d, ?_, rfl⟩, fun j t cs0 _ hb => ?_⟩
    · by_cases hj : j = o
      · exact ⟨.box bt cs', by rw [hat, if_pos hj], rfl⟩
      · exact ⟨x, by rw [hat, if_neg hj]; exact hx, hh⟩
    · unfold IsRow at hr ⊢
      rw [hat] at hr
      by_cases hj : j = o
      · rw [if_pos hj] at hr
        rcases hr with hr | ⟨_, _, _, _, hr⟩ <;> cases hr
      · rw [if_neg hj] at hr
        exact hr
    · rw [hat] at hb
      by_cases hj : j = o
      · rw [if_pos hj] at hb
        cases hb; exact ⟨cs, by rw [hj]; exact ho⟩
      · rw [if_neg hj] at hb
        exact ⟨cs0, hb⟩
  have hown : ∀ b, Own (S.objs.set o (.box bt cs')).length Bs b → Own S.objs.length Bs b ∨ w.heap.size ≤ b := fun b hb => .inl (by rwa [List.length_set] at hb)
  refine h.gen hk (Turn.refl _ w) hown (by rw [List.length_set]; exact h.objs.nodup) (fun b hb => h.objs.lt b (by rwa [List.length_set] at hb)) (fun j x hx => ?_); rw [hat] at hx
  by_cases hj : j = o
  · rw [if_pos hj] at hx
    cases hx; subst hj
    right
    obtain ⟨b, cells, g1, g2, g3, g4, g5⟩ := h.objs.obj j _ ho; refine ⟨b, cells, g1, g2, by omega, g4, fun i c' v hc' hv => ?_⟩; obtain ⟨c, e1, e2⟩ := hc i c' hc'; obtain ⟨k1, k2⟩ := g5 i c v e1 hv; have := (e2 v k2).keeps hk; rw [List.length_set]; exact ⟨k1, this⟩
  · rw [if_neg hj] at hx
    cases x with
    | hole => right; exact h.objs.obj j _ hx
    | _ => exact .inl ⟨⟨_, hx, rfl⟩, hx, rfl, fun _ _ => rfl⟩

theorem ownRes_sound (h : RelX K S a w L Bs) (r : ResultVar) (t : TypeId) : ∃ L' Bs', RelX K (S.ownRes Γ r t) a w L' Bs' := by
  unfold St.ownRes; split
  · rename_i x
    split
    · rename_i c hs
      split
      · rename_i c' p he
        obtain ⟨u, hu, hv⟩ := slot_at h hs; obtain ⟨L', Bs', hX, hL, hc⟩ := h.empties (p := p) (ownCells_spec (w := w) L S.objs (fun _ => False) _ _ _ _ _ he).2.1; obtain ⟨_, _, h3⟩ := ownCells_spec (w := w) L' (S.objs ++ p) (Forb K (S.objs ++ p).length Bs') _ _ _ _ _ he; have h3 := h3 (fun j y hy => ⟨by rw [llen_eq, List.getElem?_append_right (by omega), Nat.add_sub_cancel_left]; exact hy, by rw [llen_eq]; exact hL j y hy⟩); refine ⟨L', Bs', ?_⟩; rw [lapp_eq]
        refine hX.retell (s := .val (.one c')) (fun u' hu' => ?_)
        rw [hu] at hu'; cases hu'; obtain ⟨c0, g1, g2⟩ := h3 0 c' rfl; cases g1; exact ⟨hv.1, g2 u (hc _ _ hv.2)⟩
      · exact ⟨L, Bs, h⟩
    · rename_i cs hs
      cases he : ownCells (llen S.objs) (tyLeaves Γ t) cs with
      | mk cs' p =>
        simp only; obtain ⟨u, hu, hv⟩ := slot_at h hs; obtain ⟨L', Bs', hX, hL, hc⟩ := h.empties (p := p) (ownCells_spec (w := w) L S.objs (fun _ => False) _ _ _ _ _ he).2.1; obtain ⟨hlen, _, h3⟩ := ownCells_spec (w := w) L' (S.objs ++ p) (Forb K (S.objs ++ p).length Bs') _ _ _ _ _ he; have h3 := h3 (fun j y hy => ⟨by rw [llen_eq, List.getElem?_append_right (by omega), Nat.add_sub_cancel_left]; exact hy, by rw [llen_eq]; exact hL j y hy⟩); refine ⟨L', Bs', ?_⟩; rw [lapp_eq]
        refine hX.retell (s := .val (.agg cs')) (fun u' hu' => ?_)
        rw [hu] at hu'; cases hu'; obtain ⟨vs, k1, k2, k3⟩ := hv; refine ⟨vs, k1, by omega, fun i c' u' hc' hu' => ?_⟩; obtain ⟨c0, g1, g2⟩ := h3 i c' hc'; obtain ⟨g3, g4⟩ := k3 i c0 u' g1 hu'; exact ⟨g3, g2 u' (hc _ _ g4)⟩
    · exact ⟨L, Bs, h⟩
  · split
    · rename_i q off hp
      split
      · rename_i bt cs hq
        cases he : ownCells (llen S.objs) (tyLeaves Γ t) cs with
        | mk cs' p =>
          simp only; have hob := lget_obj hq (by simp); have hol := (List.getElem?_eq_some_iff.1 hob).1; obtain ⟨L', Bs', hX, hL, hc⟩ := h.empties (p := p) (ownCells_spec (w := w) L S.objs (fun _ => False) _ _ _ _ _ he).2.1; obtain ⟨hlen, _, h3⟩ := ownCells_spec (w := w) L' (S.objs ++ p) (Forb K (S.objs ++ p).length Bs') _ _ _ _ _ he; have h3 := h3 (fun j y hy => ⟨by rw [llen_eq, List.getElem?_append_right (by omega), Nat.add_sub_cancel_left]; exact hy, by rw [llen_eq]; exact hL j y hy⟩); refine ⟨L', Bs', ?_⟩; rw [lapp_eq, lset_eq]
          exact hX.rebox (o := q) (bt := bt) (cs := cs) (by show (S.objs ++ p)[q]? = _; rw [List.getElem?_append_left hol]; exact hob) hlen h3
      · exact ⟨L, Bs, h⟩
    · exact ⟨L, Bs, h⟩

theorem freezeAll_sound : ∀ (l : List Nat) {S : St} {Bs : Nat → List Nat}, RelX K S a w L Bs → ∃ Bs', RelX K (l.foldl St.freeze S) a w L Bs'
  | [], S, Bs, h => ⟨Bs, h⟩
  | o :: l, S, Bs, h => by
    simp only [List.foldl_cons]
    have : ∃ B, RelX K (S.freeze o) a w L B := by
      cases ho : S.obj o with
      | row t xs d => exact ⟨_, h.freeze ho⟩
      | _ =>
        refine ⟨Bs, ?_⟩
        have : S.freeze o = S := by unfold St.freeze; rw [ho]
        rw [this]; exact h
    obtain ⟨B, hB⟩ := this; exact freezeAll_sound l hB

theorem datRes_sound (h : RelX K S a w L Bs) (r : ResultVar) : ∃ L' Bs', RelX K (S.datRes r) a w L' Bs' := by
  unfold St.datRes
  repeat' split
  all_goals first
    | exact ⟨L, Bs, h⟩
    | (obtain ⟨B, hB⟩ := freezeAll_sound _ h; exact ⟨L, B, hB⟩)

theorem prep_sound : ∀ (rs : List ResultVar) (ts : List TypeId) (outs : List Bool) (i : Nat) {S : St} {L : Nat → Value} {Bs : Nat → List Nat}, RelX K S a w L Bs → ∃ L' Bs', RelX K (S.prep Γ outs i rs ts) a w L' Bs'
  | [], ts, outs, i, S, L, Bs, h => by cases ts <;> exact ⟨L, Bs, h⟩
  | r :: rs, [], outs, i, S, L, Bs, h => ⟨L, Bs, h⟩
  | r :: rs, t :: ts, outs, i, S, L, Bs, h => by
    simp only [St.prep]
    cases lget outs i false with
    | true =>
      obtain ⟨L', Bs', h'⟩ := ownRes_sound (Γ := Γ) h r t; exact prep_sound rs ts outs _ h'
    | false =>
      obtain ⟨L', Bs', h'⟩ := datRes_sound h r; exact prep_sound rs ts outs _ h'
end
end Go.Proofs.GR

namespace Go.Proofs.GR

def Contract (P : Program) (Γ : Tab) (f : FuncId) (xs : List XV) (r : Res) : Prop :=
  ∀ (K : Start) (args : Array Value) (vs : List Val) (objs : List AObj) (L : Nat → Value) (Bs : Nat → List Nat), (∀ p ∈ Γ.gls, p ∈ K.G) → takeVs 0 xs = some (vs, objs) → RelW K objs L Bs K.w0 → (∀ b, Own objs.length Bs b → K.may b) → args.size = vs.length →
    (∀ (i : Nat) v u, vs[i]? = some v → args[i]? = some u → ValRep K.w0 objs L (Forb K objs.length Bs) v u) →
    Calls P f args K.w0 fun
      | .returned v, w' => Post K ((mutsOf (Γ.mode f) vs).map L) r v w'
      | _, _ => False

structure OrcOK (P : Program) (Γ : Tab) (C : Orc) : Prop where
  sound : ∀ (f : FuncId) (xs : List XV) (ρ : Type) (k : Res → Option ρ) (r : ρ), C f xs ρ k = some r → ∃ res, Contract P Γ f xs res ∧ k res = some r
  nat : ∀ (f : FuncId) (xs : List XV) (ρ : Type) (k : Res → Option ρ), C f xs ρ k = (C f xs Res some).bind k

theorem take0_solid {n : Nat} {x : X0} {c : Cell} {p : List AObj} (h : take0 n x = (c, p)) : ∀ y ∈ p, y.solid = true := by
  cases x <;> cases h <;> simp [AObj.solid]
theorem takeAll_solid : ∀ (xs : List X0) (n : Nat) (cs : List Cell) (p : List AObj), takeAll n xs = (cs, p) → ∀ y ∈ p, y.solid = true
  | [], n, cs, p, h => by cases h; simp
  | x :: xs, n, cs, p, h => by
    simp only [takeAll] at h
    cases he1 : take0 n x with
    | mk c1 p1 =>
      cases he2 : takeAll (Nat.add n (llen p1)) xs with
      | mk cs1 p2 =>
        rw [he1] at h; simp only [he2, Prod.mk.injEq, lapp_eq] at h; obtain ⟨_, rfl⟩ := h; intro y hy
        rcases List.mem_append.1 hy with hy | hy
        · exact take0_solid he1 y hy
        · exact takeAll_solid xs _ cs1 p2 he2 y hy
theorem takeX_solid {n : Nat} {x : X} {c : Cell} {p : List AObj} (h : takeX n x = (c, p)) : ∀ y ∈ p, y.solid = true := by
  cases x with
  | c x => exact take0_solid h
  | box t xs =>
    simp only [takeX] at h
    cases he : takeAll n xs with
    | mk cs p1 =>
      rw [he] at h; simp only [Prod.mk.injEq, lapp_eq] at h; obtain ⟨_, rfl⟩ := h; intro y hy
      rcases List.mem_append.1 hy with hy | hy
      · exact takeAll_solid xs n cs p1 he y hy
      · simp at hy; subst hy; rfl
theorem takeXs_solid : ∀ (xs : List X) (n : Nat) (cs : List Cell) (p : List AObj), takeXs n xs = (cs, p) → ∀ y ∈ p, y.solid = true
  | [], n, cs, p, h => by cases h; simp
  | x :: xs, n, cs, p, h => by
    simp only [takeXs] at h
    cases he1 : takeX n x with
    | mk c1 p1 =>
      cases he2 : takeXs (Nat.add n (llen p1)) xs with
      | mk cs1 p2 =>
        rw [he1] at h; simp only [he2, Prod.mk.injEq, lapp_eq] at h; obtain ⟨_, rfl⟩ := h; intro y hy
        rcases List.mem_append.1 hy with hy | hy
        · exact takeX_solid he1 y hy
        · exact takeXs_solid xs _ cs1 p2 he2 y hy
theorem takeV_solid {n : Nat} {x : XV} {v : Val} {p : List AObj} (h : takeV n x = some (v, p)) : ∀ y ∈ p, y.solid = true := by
  unfold takeV at h
  cases he : takeXs n x.xs with
  | mk cs p1 =>
    rw [he] at h
    have : p1 = p := by
      split at h
      · rename_i heq; cases heq; cases h; rfl
      · rename_i heq; cases heq; cases h; rfl
      · cases h
    subst this; exact takeXs_solid _ _ _ _ he
theorem takeVs_solid : ∀ (xs : List XV) (n : Nat) (vs : List Val) (p : List AObj), takeVs n xs = some (vs, p) → ∀ y ∈ p, y.solid = true
  | [], n, vs, p, h => by cases h; simp
  | x :: xs, n, vs, p, h => by
    simp only [takeVs] at h; split at h
    · rename_i v1 p1 he1
      split at h
      · rename_i vs1 p2 he2
        cases h; rw [lapp_eq]; intro y hy
        rcases List.mem_append.1 hy with hy | hy
        · exact takeV_solid he1 y hy
        · exact takeVs_solid xs _ vs1 p2 he2 y hy
      · cases h
    · cases h

theorem ownsOf_mem : ∀ (cs : List Cell) (o : Nat), o ∈ ownsOf cs → .own o ∈ cs
  | [], o, h => by cases h
  | c :: r, o, h => by
    cases c with
    | own q =>
      simp only [ownsOf] at h
      rcases List.mem_cons.1 h with rfl | h
      · simp
      · exact List.mem_cons_of_mem _ (ownsOf_mem r o h)
    | _ => exact List.mem_cons_of_mem _ (ownsOf_mem r o h)
theorem mutsOf_mem : ∀ (ms : List Mode) (vs : List Val) (o : Nat), o ∈ mutsOf ms vs → ∃ i : Nat, vs[i]? = some (.one (.own o)) ∨ (∃ off, vs[i]? = some (.one (.ptr o off))) ∨ ∃ cs, vs[i]? = some (.agg cs) ∧ .own o ∈ cs
  | [], vs, o, h => by simp [mutsOf] at h
  | m :: ms, [], o, h => by cases m <;> simp [mutsOf] at h
  | m :: ms, v :: vs, o, h => by
    have step : o ∈ mutsOf ms vs → ∃ i : Nat, (v :: vs)[i]? = some (.one (.own o)) ∨ (∃ off, (v :: vs)[i]? = some (.one (.ptr o off))) ∨ ∃ cs, (v :: vs)[i]? = some (.agg cs) ∧ .own o ∈ cs := by
      intro h; obtain ⟨i, hi⟩ := mutsOf_mem ms vs o h; exact ⟨i + 1, by simpa using hi⟩
    unfold mutsOf at h; split at h
    · rename_i heq1 heq2
      cases heq1; cases heq2
      rcases List.mem_cons.1 h with rfl | h
      · exact ⟨0, .inl rfl⟩
      · exact step h
    · rename_i heq1 heq2
      cases heq1; cases heq2; rw [lapp_eq] at h
      rcases List.mem_append.1 h with h | h
      · exact ⟨0, .inr (.inr ⟨_, rfl, ownsOf_mem _ _ h⟩)⟩
      · exact step h
    · rename_i heq1 heq2
      cases heq1; cases heq2
      rcases List.mem_cons.1 h with rfl | h
      · exact ⟨0, .inr (.inl ⟨_, rfl⟩)⟩
      · exact step h
    · rename_i heq1 heq2
      cases heq1; cases heq2; exact step h
    · simp at h

theorem body_sound {P : Program} {Γ : Tab} (T : TabOK Γ P) {C : Orc} (HC : ∀ K : Start, (∀ p ∈ Γ.gls, p ∈ K.G) → CallsOK K P Γ C Res) (HD : ∀ K : Start, (∀ p ∈ Γ.gls, p ∈ K.G) → DrawsOK K P Γ C Res) {n : Nat} {f : FuncId} {fn : Func} (hfn : Γ.fn f = some fn) {c : Code} (hb : fn.body = some c) {xs : List XV} {vs : List Val} {os : List AObj} (ht : takeVs 0 xs = some (vs, os)) {r : Res}
    (hk : acode Γ C (llen os) (Γ.live f) n c 0 ⟨lpad fn.ntmps .nix (vs.map .val), os⟩ (fin Γ f fn (mutsOf (Γ.mode f) vs)) = some r) : Contract P Γ f xs r := by
  intro K args vs' objs L Bs hG htk hR hmay hsz hvals; rw [ht] at htk; cases htk
  let K2 : Start := { K with base := (List.range os.length).map L }
  have hrel : RelX K2 ⟨lpad fn.ntmps .nix (vs.map .val), os⟩ { tmps := args ++ Array.replicate (fn.ntmps - args.size) undef, defers := [] } K.w0 L Bs := by
    refine ⟨⟨hR.obj, hR.nodup, hR.lt⟩, fun i s v hs hv => ?_, fun i u hi => ?_, ⟨rfl, rfl, rfl, Nat.le_refl _, fun _ _ _ => rfl, fun b hb => .inl (hmay b hb)⟩, ?_, rfl⟩
    · rw [lpad_eq] at hs
      by_cases hi : i < vs.length
      · rw [List.getElem?_append_left (by simpa using hi), List.getElem?_map] at hs
        obtain ⟨v0, h1, h2⟩ := Option.map_eq_some_iff.1 hs; subst h2; rw [Array.getElem?_append_left (by omega)] at hv; exact hvals i v0 v h1 hv
      · rw [List.getElem?_append_right (by simpa using hi), List.getElem?_replicate] at hs
        split at hs <;> cases hs
        trivial
    · rw [List.getElem?_map] at hi
      obtain ⟨j, h1, h2⟩ := Option.map_eq_some_iff.1 hi
      have hlt : i < os.length := by simpa using (List.getElem?_eq_some_iff.1 h1).1
      have hj : j = i := by
        rw [List.getElem?_range hlt] at h1; exact (Option.some.inj h1).symm
      subst hj; refine ⟨⟨os[j], List.getElem?_eq_getElem hlt, ?_⟩, h2⟩; have := takeVs_solid xs 0 vs os ht os[j] (List.getElem_mem hlt); cases hx : os[j] <;> rw [hx] at this <;> first | rfl | cases this
    · simp [lpad_eq, hsz]
  obtain ⟨hf1, hf2⟩ := T.fn _ _ hfn
  refine calls_of_wp hf1 hb (Code.wp_mono (fun e a w q => ?_) (acode_sound T (HC K2 hG) (HD K2 hG) (keep := llen os) (by simp [K2, llen_eq]) (Γ.live f) n c 0 _ _ K.w0 _ r hrel.rel hk))
  have fin' : ∀ S, Rel K2 S a w → leave Γ fn (mutsOf (Γ.mode f) vs) (S.prep Γ (Γ.outs f) 0 fn.results.toList fn.resultTypes.toList) = some r → a.defers = [] ∧ ∃ v, (results fn a.tmps).run P w = .ok v w ∧ Post K ((mutsOf (Γ.mode f) vs).map L) r v w := by
    intro S hS hl; obtain ⟨L0', Bs0', hX0⟩ := hS.relX; obtain ⟨L', Bs', hX⟩ := prep_sound fn.results.toList fn.resultTypes.toList (Γ.outs f) 0 hX0; obtain ⟨v, h1, h2⟩ := leave_sound hX T hl; refine ⟨hX.defers, v, h1, ?_⟩
    have hms : (mutsOf (Γ.mode f) vs).map L' = (mutsOf (Γ.mode f) vs).map L := by
      apply List.map_congr_left; intro o ho; obtain ⟨i, hi⟩ := mutsOf_mem _ _ _ ho
      have hlive : Live os o := by
        have hlt : ∀ {x : Val}, vs[i]? = some x → i < args.size := fun h => by rw [hsz]; exact (List.getElem?_eq_some_iff.1 h).1
        rcases hi with hi | ⟨off, hi⟩ | ⟨cs, hi, hc⟩
        · exact (hvals i _ _ hi (Array.getElem?_eq_getElem (hlt hi))).2.1
        · exact (hvals i _ _ hi (Array.getElem?_eq_getElem (hlt hi))).2.1
        · obtain ⟨us, _, g2, g3⟩ := hvals i _ _ hi (Array.getElem?_eq_getElem (hlt hi))
          obtain ⟨j, hj⟩ := List.mem_iff_getElem?.1 hc
          have hjl : j < us.size := by rw [g2]; exact (List.getElem?_eq_some_iff.1 hj).1
          exact (g3 j _ _ hj (Array.getElem?_eq_getElem hjl)).2.1
      refine (hX.base o (L o) ?_).2
      show ((List.range os.length).map L)[o]? = _
      rw [List.getElem?_map, List.getElem?_range hlive.lt]; rfl
    rw [hms] at h2; refine ⟨fun n ids u p ws q a1 a2 a3 a4 a5 => ?_⟩; obtain ⟨L2, B2, g1, g2, g3, g4⟩ := h2.ex n ids u p ws q a1 a2 a3 a4 a5; exact ⟨L2, B2, ⟨g1.obj, g1.nodup, g1.lt⟩, ⟨g2.os, g2.tape, g2.output, g2.size, g2.block, g2.own⟩, g3, g4⟩
  cases e with
  | normal =>
    obtain ⟨S, hS, hl⟩ := q; obtain ⟨hd, v, h1, h2⟩ := fin' S hS hl; exact ⟨hd, v, h1, h2⟩
  | ret =>
    obtain ⟨S, hS, hl⟩ := q; obtain ⟨hd, v, h1, h2⟩ := fin' S hS hl; exact ⟨hd, v, h1, h2⟩
  | exit id =>
    obtain ⟨S, hS, hl⟩ := q; cases hl
  | goto l => exact q.elim
  | panic ch => exact q.elim
  | outgrown => exact q.elim

end Go.Proofs.GR

namespace Go.Proofs.GR

section
variable {K : Start} {P : Program} {Γ : Tab} {S : St} {a : Act} {w : World} {L : Nat → Value} {Bs : Nat → List Nat} {ρ : Type} {k : St → Option ρ} {r : ρ} {C : Orc} {o : Oper}

theorem places_objs : ∀ (u : List (Nat × AObj)) (S : St), (u.foldl (fun S p => S.place p.1 p.2) S).objs = placeAll S.objs u ∧ (u.foldl (fun S p => S.place p.1 p.2) S).slots = S.slots
  | [], S => ⟨rfl, rfl⟩
  | (i, x) :: r, S => by
    simp only [List.foldl_cons, placeAll]; exact places_objs r (S.place i x)

theorem pushAll_eq (S : St) (ps : List AObj) : S.pushAll ps = { S with objs := S.objs ++ ps } := by
  unfold St.pushAll; split
  · simp
  · rw [lapp_eq]

theorem allRows_at : ∀ (l : List Nat), allRows S l = true → ∀ o ∈ l, ∃ t xs d, S.obj o = .row t xs d
  | [], _, o, ho => by simp at ho
  | q :: l, h, o, ho => by
    simp only [allRows] at h; split at h
    · rename_i t xs d hq
      rcases List.mem_cons.1 ho with rfl | ho
      · exact ⟨t, xs, d, hq⟩
      · exact allRows_at l h o ho
    · cases h

theorem sameKinds_of {S S1 : St} : ∀ (u : List (Nat × AObj)), sameKinds S u = true → (∀ q ∈ u, (∀ t xs d, S.objs[q.1]? = some (.row t xs d) → S1.objs[q.1]? = some (.row t xs d)) ∧ ∀ t cs, S.objs[q.1]? = some (.box t cs) → ∃ cs', S1.objs[q.1]? = some (.box t cs')) → sameKinds S1 u = true
  | [], _, _ => rfl
  | (i, x) :: r, h, hh => by
    simp only [sameKinds] at h ⊢
    obtain ⟨h1, h2⟩ : sameKind (S.obj i) x = true ∧ sameKinds S r = true := by
      cases hb : sameKind (S.obj i) x <;> rw [hb] at h
      · cases h
      · exact ⟨rfl, h⟩
    have h3 := sameKinds_of r h2 (fun q hq => hh q (by simp [hq]))
    have h4 : sameKind (S1.obj i) x = true := by
      unfold sameKind at h1; split at h1
      · rename_i t xs d t' xs' d' ho
        have := (hh (i, AObj.row t' xs' d') List.mem_cons_self).1 t xs d (lget_obj ho (by simp)); rw [obj_get, this]; exact h1
      · rename_i t cs t' cs' ho
        obtain ⟨cs2, this⟩ := (hh (i, AObj.box t' cs') List.mem_cons_self).2 t cs (lget_obj ho (by simp)); rw [obj_get, this]; exact h1
      · cases h1
    rw [h4]; exact h3

theorem updX_keys : ∀ (us : List X) (n : Nat) (ids : List Nat) (u : List (Nat × AObj)) (p : List AObj), updX n ids us = some (u, p) → u.map (·.1) = ids
  | [], n, ids, u, p, h => by
    cases ids with
    | nil => cases h; rfl
    | cons _ _ => simp only [updX] at h; cases h
  | x :: us, n, [], u, p, h => by simp only [updX] at h; cases h
  | x :: us, n, id :: ids, u, p, h => by
    simp only [updX] at h; split at h
    · split at h
      · rename_i u1 p1 he
        cases h
        simp [updX_keys us _ _ _ _ he]
      · cases h
    · rename_i t xs
      cases hh : takeAll n xs with
      | mk cs p1 =>
        rw [hh] at h; simp only at h; split at h
        · rename_i u1 p2 he
          cases h
          simp [updX_keys us _ _ _ _ he]
        · cases h
    · cases h

theorem slot_of {w : World} {objs : List AObj} {L : Nat → Value} {F : Nat → Prop} {objs' : List AObj} {L' : Nat → Value} {F' : Nat → Prop} {ws : List Val} {v : Value} (h : SlotRep w objs L F (slotOf ws) v) (hc : ∀ x ∈ ws, ∀ u, ValRep w objs L F x u → ValRep w objs' L' F' x u) : SlotRep w objs' L' F' (slotOf ws) v := by
  unfold slotOf at h ⊢; split at h
  · exact hc _ (by simp) _ h
  · obtain ⟨vs, h1, h2, h3⟩ := h
    exact ⟨vs, h1, h2, fun i x u hx hu => hc x (List.mem_of_getElem? hx) u (h3 i x u hx hu)⟩

theorem call_core {C : Orc} (h : RelX K S a w L Bs) (hG : ∀ p ∈ Γ.gls, p ∈ K.G) (hC : OrcOK P Γ C) {g : FuncId} {ts : List TypeId} {vs : List Val} {us : Array Value} (hsz : us.size = vs.length)
    (hus : ∀ (i : Nat) v u, vs[i]? = some v → us[i]? = some u → ValRep w S.objs L (Forb K S.objs.length Bs) v u) (hrun : hasBody Γ g = true → (execOp a.eval o).run P w = .ok (.enter g us) w)
    (hk : acallOp Γ C g ts vs S (fun e => k (S.apply o.dst e)) = some r) : Sound K P o a w k r := by
  unfold acallOp at hk; split at hk
  · cases hk
  · rename_i xs lent muts gone hargs
    obtain ⟨hb, hk⟩ := bif_some hk; obtain ⟨hb1, hb2⟩ := yes2_true hb; obtain ⟨hb3, hb4⟩ := yes2_true hb2; obtain ⟨hb31, hb32⟩ := yes2_true hb3; have hgn := (lnodup_iff _).1 hb31; have hmun := (lnodup_iff _).1 hb32
    have hlg : lmeet lent gone = false := by cases hl : lmeet lent gone <;> rw [hl] at hb4 <;> simp_all
    have hlg := lmeet_false hlg; obtain ⟨res, hres, hk⟩ := hC.sound _ _ _ _ _ hk
    · simp only at hk
      split at hk
      · cases hk
      · rename_i u p hu
        split at hk
        · cases hk
        · rename_i ws q hq
          obtain ⟨hb5, hk⟩ := bif_some hk; obtain ⟨hb6, hb7⟩ := yes2_true hb5; obtain ⟨vs0, os0, t1, t2, t3, t4, t5, t6⟩ := args_spec h _ _ _ _ _ _ hargs 0; rw [llen_eq] at hu hq; rw [llen_eq] at hq
          -- the callee's view
          let src := fun i => gone.getD i 0
          let L0 := fun i => L (src i)
          let B0 := selB os0 src Bs
          have hgok : ∀ p ∈ K.G, ¬ (∃ o ∈ gone, o < S.objs.length ∧ p.1 ∈ Bs o) ∧ p.1 < w.heap.size ∧ p.2 w.heap[p.1]? := by
            intro p hp; obtain ⟨a1, a2, a3⟩ := K.gok p hp; refine ⟨fun ⟨o, _, h2, h3⟩ => ?_, Nat.lt_of_lt_of_le a2 h.within.size, ?_⟩
            · rcases h.within.own p.1 (mem_flatN.2 ⟨o, h2, h3⟩) with h4 | h4
              · exact a1 h4
              · omega
            · rw [h.within.block p.1 a2 a1]
              exact a3
          let Kc : Start := { w0 := w, may := fun b => ∃ o ∈ gone, o < S.objs.length ∧ b ∈ Bs o, see := fun b => ¬ Forb K S.objs.length Bs b ∨ (∃ o ∈ gone, o < S.objs.length ∧ b ∈ Bs o) ∨ ∃ o ∈ lent, o < S.objs.length ∧ b ∈ Bs o, sees := fun b hb => .inr (.inl hb), base := [], G := K.G, gok := hgok }
          have tg : Tgt os0 L L0 0 os0 gone := ⟨fun i y hy => by simpa using hy, fun i q hq => by
            show L (src (0 + i)) = L q
            simp only [src, Nat.zero_add, List.getD, hq, Option.getD_some]⟩
          have hsrc : ∀ (i : Nat) y, os0[i]? = some y → gone[i]? = some (src i) := by
            intro i y hy
            have hi : i < gone.length := by rw [← t2]; exact (List.getElem?_eq_some_iff.1 hy).1
            simp only [src, List.getD, List.getElem?_eq_getElem hi, Option.getD_some]
          have hinj : ∀ i j x y, os0[i]? = some x → os0[j]? = some y → x.solid = true → y.solid = true → src i = src j → i = j := by
            intro i j x y hx hy _ _ e; have h1 := hsrc i x hx; have h2 := hsrc j y hy; rw [e] at h1; exact (List.getElem?_inj (List.getElem?_eq_some_iff.1 h1).1 hgn).1 (h1.trans h2.symm)
          -- a first look, to know where the objects come from
          have hfrom0 := (t6 os0 L0 (fun _ => False) ⟨fun b hb => hb.elim, fun _ _ _ _ _ hb => hb⟩ tg).1
          have hin : ∀ i x, os0[i]? = some x → x.solid = true → src i < S.objs.length := by
            intro i x hx hs; obtain ⟨o', h1, h2⟩ := hfrom0 i x hx; rw [hsrc i x hx] at h1; cases h1
            cases x with
            | row t ys d => exact (List.getElem?_eq_some_iff.1 h2).1
            | box t cs => obtain ⟨cs0, h3, _⟩ := h2; exact (List.getElem?_eq_some_iff.1 h3).1
            | lent _ _ _ _ _ => exact h2.elim
            | dead => cases hs
            | hole => cases hs
          have hgone : ∀ q ∈ gone, q < S.objs.length ∧ ((∃ t ys d, S.objs[q]? = some (.row t ys d)) ∨ ∃ t cs, S.objs[q]? = some (.box t cs)) := by
            intro q hq; obtain ⟨i, hi⟩ := List.getElem?_of_mem hq
            have hil : i < os0.length := by rw [t2]; exact (List.getElem?_eq_some_iff.1 hi).1
            obtain ⟨o', h1, h2⟩ := hfrom0 i _ (List.getElem?_eq_getElem hil); rw [hi] at h1; cases h1
            cases hx : os0[i] with
            | row t ys d => rw [hx] at h2; exact ⟨(List.getElem?_eq_some_iff.1 h2).1, .inl ⟨t, ys, d, h2⟩⟩
            | box t cs => rw [hx] at h2; obtain ⟨cs0, h3, _⟩ := h2; exact ⟨(List.getElem?_eq_some_iff.1 h3).1, .inr ⟨t, cs0, h3⟩⟩
            | lent _ _ _ _ _ => rw [hx] at h2; exact h2.elim
            | dead => rw [hx] at h2; exact h2.elim
            | hole => rw [hx] at h2; exact h2.elim
          have hown0 : ∀ b, Own os0.length B0 b → ∃ q ∈ gone, q < S.objs.length ∧ b ∈ Bs q := by
            intro b hb; obtain ⟨i, hi, hbi⟩ := mem_flatN.1 hb; simp only [B0, selB] at hbi; split at hbi
            · rename_i x hx
              split at hbi
              · exact ⟨src i, List.mem_of_getElem? (hsrc i x hx), hin i x hx (by assumption), hbi⟩
              · simp at hbi
            · simp at hbi
          have hforb : ∀ b, Forb Kc os0.length B0 b → Forb K S.objs.length Bs b := by
            rintro b (hb | ⟨_, hb⟩)
            · obtain ⟨q, _, h2, h3⟩ := hown0 b hb
              exact .inl (mem_flatN.2 ⟨q, h2, h3⟩)
            · exact Classical.byContradiction fun hn => hb (.inl hn)
          have hshown : Shown K S Bs lent (Forb Kc os0.length B0) := by
            refine ⟨hforb, fun q hq hql b hb hf => ?_⟩
            rcases hf with hf | ⟨_, hf⟩
            · obtain ⟨q', h1, h2, h3⟩ := hown0 b hf
              exact flatN_disj h.objs.nodup hql h2 (by rintro rfl; exact hlg q hq h1) b hb h3
            · exact hf (.inr (.inr ⟨q, hq, hql, hb⟩))
          obtain ⟨f1, f2, f3⟩ := t6 os0 L0 (Forb Kc os0.length B0) hshown tg
          have hR0 : RelW Kc os0 L0 B0 w := by
            refine h.objs.sel src hin hinj (fun _ _ _ _ => rfl) hforb (fun i x hx => ?_); obtain ⟨o', h1, h2⟩ := f1 i x hx; rw [hsrc i x hx] at h1; cases h1
            cases x with
            | row t ys d => exact h2
            | box t cs => obtain ⟨cs0, h3, h4, h5⟩ := h2; exact ⟨cs0, h3, h4, fun j c' c u h6 h7 h8 => h5 j c' c h6 h7 u h8⟩
            | lent _ _ _ _ _ => exact h2.elim
            | dead => trivial
            | hole => trivial
          have hvals := fixArgs_rep (Γ := Γ) (w := w) (L := L) (objs := S.objs) (F := Forb K S.objs.length Bs) (Γ.mode g) ts vs us.toList (fun i v x hv hx => hus i v x hv (by simpa using hx))
          have hlen0 : vs0.length = vs.length := by rw [t3, fixArgs_len]
          have hcall := hres Kc us vs0 os0 L0 B0 hG t1 hR0 hown0 (by rw [hsz, hlen0]) (fun i v x hv hx => by
            have hi : i < (fixArgs Γ (Γ.mode g) ts vs).length := by rw [← t3]; exact (List.getElem?_eq_some_iff.1 hv).1
            exact f2 i v _ hv (List.getElem?_eq_getElem hi) x (hvals i _ x (List.getElem?_eq_getElem hi) (by simpa using hx)))
          refine ⟨_, hk, fun next Q hnext => ?_⟩; unfold Oper.wp; rw [hrun hb1]; refine Calls.mono hcall (fun e w' he => ?_)
          cases e with
          | panicked ch => exact he.elim
          | outgrown => exact he.elim
          | returned v =>
            have he : Post Kc ((mutsOf (Γ.mode g) vs0).map L0) res v w' := he; rw [f3] at he; refine hnext _ _ ?_
            have hmug : ∀ q ∈ muts, q < S.objs.length := fun q hq => (hgone q (t4 q hq)).1
            obtain ⟨L', B', g1, g2, g3, g4⟩ := he.ex S.objs.length muts u p ws q (by simp) hmun hmug hu hq; have hul : u.map (·.1) = muts := updX_keys _ _ _ _ _ hu
            -- the caller's state, frozen where the result may share
            have hfr : ∃ B1, RelX K ((bif res.shares then lent else []).foldl St.freeze S) a w L B1 ∧ ((bif res.shares then lent else []).foldl St.freeze S).objs.length = S.objs.length ∧
                (∀ o ∈ gone, B1 o = Bs o) ∧ sameKinds ((bif res.shares then lent else []).foldl St.freeze S) u = true ∧
                ((∀ b, b < w.heap.size → Kc.see b → ¬ Forb K S.objs.length B1 b ∨ ∃ o ∈ gone, b ∈ B1 o) ∨ res.shares = false) := by
              cases hsh : res.shares with
              | false =>
                exact ⟨Bs, h, rfl, fun _ _ => rfl, hb6, .inr rfl⟩
              | true =>
                rw [hsh] at hb7; have hrows := allRows_at lent hb7; obtain ⟨B1, k1, k2, k3, k4, k5, k6, k7⟩ := freezes h lent S Bs h rfl (fun q hq => .inl (hrows q hq))
                have hgB : ∀ o ∈ gone, B1 o = Bs o := fun o ho => k5 o (fun hl => hlg o hl ho)
                refine ⟨B1, k1, k2, hgB, sameKinds_of u hb6 (fun x hx => ?_), .inl (fun b hb hs => ?_)⟩
                · have hxm : x.1 ∈ gone := t4 _ (by rw [← hul]; exact List.mem_map_of_mem hx)
                  have hxl : x.1 ∉ lent := fun hl => hlg _ hl hxm
                  exact ⟨fun t xs d hh => k6 _ hxl t xs d hh, fun t cs hh => k7 _ hxl t cs hh⟩
                · have hsub : ∀ b, Forb K S.objs.length B1 b → Forb K S.objs.length Bs b := by
                    rintro b (hf | hf)
                    · obtain ⟨i, hi, hbi⟩ := mem_flatN.1 hf
                      rcases k4 i with h1 | h1
                      · rw [h1] at hbi; simp at hbi
                      · rw [h1] at hbi; exact .inl (mem_flatN.2 ⟨i, hi, hbi⟩)
                    · exact .inr hf
                  rcases hs with hs | ⟨o', h1, h2, h3⟩ | ⟨o', h1, h2, h3⟩
                  · exact .inl (fun hf => hs (hsub b hf))
                  · exact .inr ⟨o', h1, by rw [hgB o' h1]; exact h3⟩
                  · refine .inl (fun hf => ?_)
                    rcases hf with hf | hf
                    · obtain ⟨i, hi, hbi⟩ := mem_flatN.1 hf
                      rcases k4 i with h4 | h4
                      · rw [h4] at hbi; simp at hbi
                      · rw [h4] at hbi
                        by_cases hio : i = o'
                        · subst hio
                          rw [k3 i h1 h2] at h4; rw [← h4] at hbi
                          simp at hbi
                        · exact flatN_disj h.objs.nodup hi h2 hio b hbi h3
                    · exact h.seen (mem_flatN.2 ⟨o', h2, h3⟩) hf
            obtain ⟨B1, k1, k2, k3, k4, k5⟩ := hfr
            have hst : S.apply o.dst ⟨slotOf ws, minusIds gone muts, u, lapp p q, bif res.shares then lent else []⟩ =
                ({ (bif res.shares then lent else []).foldl St.freeze S with objs := placeAll ((minusIds gone muts).foldl St.kill ((bif res.shares then lent else []).foldl St.freeze S)).objs u ++ (p ++ q) } : St).put o.dst (slotOf ws) := by
              simp only [St.apply]; rw [pushAll_eq, lapp_eq]; obtain ⟨e1, e2⟩ := places_objs u ((minusIds gone muts).foldl St.kill ((bif res.shares then lent else []).foldl St.freeze S)); rw [e1, e2, kills_slots]
            generalize (bif res.shares then lent else []).foldl St.freeze S = S1 at k1 k2 k4 hst; rw [← k2] at g1 g2 g3
            have hmay : ∀ b, Kc.may b → ∃ o ∈ gone, b ∈ B1 o := by
              rintro b ⟨o', h1, _, h3⟩
              exact ⟨o', h1, by rw [k3 o' h1]; exact h3⟩
            have hgl : ∀ o ∈ gone, o < S1.objs.length := fun q hq => by rw [k2]; exact (hgone q hq).1
            have hLmu : ∀ i ∈ muts, L' i = L i := by
              intro i hi; obtain ⟨j, hj⟩ := List.getElem?_of_mem hi; exact g4 j i (L i) hj (by rw [List.getElem?_map, hj]; rfl)
            have hF : (∀ b, b < w.heap.size → Kc.see b → ¬ Forb K S1.objs.length B1 b ∨ ∃ o ∈ gone, b ∈ B1 o) ∨ ((∀ x ∈ u, x.2.indep = true) ∧ (∀ y ∈ p, y.indep = true) ∧ ∀ y ∈ q, y.indep = true) ∧ ∀ x ∈ ws, x.indep = true := by
              rcases k5 with k5 | k5
              · exact .inl (by rw [k2]; exact k5)
              · refine .inr ?_
                unfold Res.shares at k5
                have h1 : lany (fun v => lany X.shares v.xs) res.vals = false := by
                  cases hh : lany (fun v => lany X.shares v.xs) res.vals with
                  | false => rfl
                  | true => rw [hh] at k5; cases k5
                rw [h1] at k5; obtain ⟨i1, i2⟩ := updX_indep _ _ _ _ _ hu k5; obtain ⟨i3, i4⟩ := takeVs_indep _ _ _ _ hq h1; exact ⟨⟨i1, i2, i4⟩, i3⟩
            obtain ⟨L2, B2, hX, hconv⟩ := k1.merge (Kc := Kc) rfl hgl t4 hmun hmay hul k4 g1 g2 hLmu (hF.imp id (fun x => x.1)) rfl (minusIds_iff muts gone); rw [hst]; refine (hX.put o.dst (slot_of g3 (fun x hx y hy => hconv x y hy ?_))).rel
            rcases hF with hF | hF
            · exact .inr hF
            · exact .inl (hF.2 x hx)

theorem toVals_rep (h : RelX K S a w L Bs) : ∀ (l : List Operand) (vs : List Val), toVals S l = some vs → ∀ (i : Nat) v u, vs[i]? = some v → (l.map a.eval)[i]? = some u → ValRep w S.objs L (Forb K S.objs.length Bs) v u
  | [], vs, hv, i, v, u, h1, h2 => by simp at h2
  | x :: l, vs, hv, i, v, u, h1, h2 => by
    simp only [toVals] at hv; split at hv
    · rename_i v0 vs0 e1 e2
      cases hv
      cases i with
      | zero => cases h1; cases h2; exact h.val e1
      | succ i => exact toVals_rep h l vs0 e2 i v u (by simpa using h1) (by simpa using h2)
    · cases hv

theorem run_call (T : TabOK Γ P) {c : Call} (ho : o.op = .call c) {f : Operand} (hcf : c.callee = .value f) {g : FuncId} {caps : Array Value} (hf : a.eval f = .func (.func g) #[] caps) (hb : hasBody Γ g = true) :
    (execOp a.eval o).run P w = .ok (.enter g (c.args.map a.eval ++ caps)) w := by
  unfold hasBody at hb; split at hb
  · rename_i fn hfn
    obtain ⟨h1, h2⟩ := T.fn _ _ hfn; split at hb
    · rename_i body hbody
      have h2' : fn.name ≠ "runtime.NumGoroutine" := by simpa using h2
      simp [execOp, ho, hcf, resolve, Deferred.ofValue, hf, invoke, callFunc, h1, h2', hbody]
    · cases hb
  · obtain ⟨fn, body, h1, h2, hbody⟩ := T.ext _ hb
    have h2' : fn.name ≠ "runtime.NumGoroutine" := by simpa using h2
    simp [execOp, ho, hcf, resolve, Deferred.ofValue, hf, invoke, callFunc, h1, h2', hbody]

theorem calls_ok {C : Orc} (T : TabOK Γ P) (hC : OrcOK P Γ C) (K : Start) (hG : ∀ p ∈ Γ.gls, p ∈ K.G) (ρ : Type) : CallsOK K P Γ C ρ := by
  intro o S a w L Bs m k r c f vs h ho hcf hvs hk; simp only [aeff, ho, hvs, hcf] at hk; have hlen := toVals_len _ _ hvs; have hrep := toVals_rep h _ _ hvs
  have full : ∀ (caps : Array Value) (cv : List Val), caps.size = cv.length → (∀ (i : Nat) v u, cv[i]? = some v → caps[i]? = some u → ValRep w S.objs L (Forb K S.objs.length Bs) v u) →
      (c.args.map a.eval ++ caps).size = (lapp vs cv).length ∧ ∀ (i : Nat) v u, (lapp vs cv)[i]? = some v → (c.args.map a.eval ++ caps)[i]? = some u → ValRep w S.objs L (Forb K S.objs.length Bs) v u := by
    intro caps cv hcs hcr; rw [lapp_eq]
    have hl : vs.length = c.args.size := by rw [hlen]; simp
    refine ⟨by simp [hcs, hl], fun i v u hv hu => ?_⟩
    by_cases hi : i < vs.length
    · rw [List.getElem?_append_left hi] at hv
      rw [Array.getElem?_append_left (by simp; omega)] at hu; exact hrep i v u hv (by simpa using hu)
    · rw [List.getElem?_append_right (by omega)] at hv
      rw [Array.getElem?_append_right (by simp; omega)] at hu; refine hcr _ v u hv ?_
      simpa [hl] using hu
  split at hk
  · rename_i g caps hf
    obtain ⟨cv, e1, e2, e3⟩ := (h.cell hf (by simp)).2
    obtain ⟨f1, f2⟩ := full cv (caps.map fun p => .one (.ptr p.1 p.2)) (by simpa using e2) (fun i v u hv hu => by
      rw [List.getElem?_map] at hv; obtain ⟨p, h1, h2⟩ := Option.map_eq_some_iff.1 hv; subst h2
      exact e3 i p u h1 hu)
    exact call_core h hG hC f1 f2 (fun hb => run_call T ho hcf e1 hb) hk
  · rename_i g caps hf
    obtain ⟨cv, e1, e2, e3⟩ := (h.cell hf (by simp)).2
    obtain ⟨f1, f2⟩ := full cv (caps.map fun (p : Sigma Ty.den) => .one (.rptr p.1 p.2)) (by simpa using e2) (fun i v u hv hu => by
      rw [List.getElem?_map] at hv; obtain ⟨p, h1, h2⟩ := Option.map_eq_some_iff.1 hv; subst h2; obtain ⟨ad, cs, F, hu', rest⟩ := e3 i p u h1 hu
      exact ⟨by rw [hu']; rfl, ad, cs, F, hu', rest⟩)
    exact call_core h hG hC f1 f2 (fun hb => run_call T ho hcf e1 hb) hk
  · cases hk
end
end Go.Proofs.GR

