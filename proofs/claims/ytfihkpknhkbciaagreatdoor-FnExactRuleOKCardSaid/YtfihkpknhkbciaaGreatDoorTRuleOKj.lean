/-
  No statement is proved here: what the functions of the law answer, told as plain functions, and that the law's answer is always true.
  No condition.
-/
import Derived.Test.YtfihkpknhkbciaaGreatDoorTRuleOKi
set_option maxRecDepth 3000000
set_option maxHeartbeats 100000000
namespace Go.Proofs.GR.T
open Go Go.Proofs Go.Proofs.GR
theorem less_le (x y : ByteArray) : (Op.bytesLess y.toList x.toList || y.toList == x.toList) = !Sp.lessS x y := by
  show (Sp.lessS y x || y.toList == x.toList) = !Sp.lessS x y
  cases h : Sp.lessS x y with
  | true =>
    rw [lessS_asymm h, Bool.false_or]
    cases he : y.toList == x.toList with
    | false => rfl
    | true => rw [lessS_congr' (c := x) (eq_of_beq he), lessS_irrefl] at h; cases h
  | false =>
    cases h2 : Sp.lessS y x with
    | true => rfl
    | false => rw [lessS_tri h2 h, beq_self_eq_true]; rfl
def Sp.fineTb (x : VTb) : Bool := Sp.fineT x.1 x.2.1 x.2.2.2
def Sp.fineTs (xs : List VTb) : Bool := Sp.allW Sp.fineTb xs
noncomputable def e1090 : Ent := { f := n1090, ins := [Sh.one (cL tTb)], outs := [Sh.one cB], upd := [], pre := fun a => Sp.fineTs a, spec := fun a => Sp.catOK a, wrt := fun _ => () }
theorem e1090_core (xs : List VTb) (ha : Sp.fineTs xs = true) (hl : xs.length ≤ maxLen) : ∃ n, abody Γ (orc [e1115]) n n1090 [ZX (Ty.slice tTb) xs] = some (rBo (Sp.catOK xs)) := by
  have hl : xs.length ≤ 9223372036854775807 := hl
  have ha := allW_mem.1 ha
  refine ⟨xs.length + 1, (f1090_raw _ xs).trans ?_⟩
  have L0 := allP_end (p := Sp.catP) (z := some (rBo (decide ((xs.length : Int) ≤ (6 : Int))))) (F := some (rBo false)) xs (fun m k => f1090_L0 (xs.length + 1) m xs xs xs.length k) (fun m k hk => by
    show f1090_L0 _ _ _ _ _ _ = _
    rw [f1090_L0_step, nat_ge hk, cond_false]) (fun m k h _ => by
    show f1090_L0 _ _ _ _ _ _ = _
    have hk : (xs.take k).length = k := by rw [List.length_take]; omega
    have hp : Sp.fineT xs[k].1 xs[k].2.1 xs[k].2.2.2 = true := ha _ (List.getElem_mem h)
    rw [f1090_L0_step, nat_lt h, cond_true, guard0, chkT, getD_nat xs k _ h, hp, chkT, next64 h hl]
    unfold Sp.catP
    rw [hk]
    show (bif !Sp.okT xs[k] then _ else _) = _
    cases Sp.okT xs[k] with
    | false => rfl
    | true =>
      rw [Bool.not_true, cond_false, cond_false]
      by_cases h0 : 0 < k
      · rw [decide_eq_true (show (k : Int) > 0 by omega), decide_eq_true h0, cond_true, cond_true, prevT_take h h0]
        have e : IntKind.i64.wrap ((k : Int) - 1) = ((k - 1 : Nat) : Int) := (wrap64 (by omega) (by omega)).trans (by omega)
        rw [e, guard2 (show k - 1 < xs.length by omega), chkT, Int.toNat_natCast, less_le]
      · rw [decide_eq_false (show ¬ (k : Int) > 0 by omega), decide_eq_false h0]
        rfl) _ (Nat.lt_succ_self _)
  refine L0.trans ?_
  unfold Sp.catOK
  by_cases h6 : (xs.length : Int) ≤ (6 : Int)
  · rw [decide_eq_true h6, decide_eq_false (show ¬ (xs.length : Int) > 4096 by omega), decide_eq_false (show ¬ (xs.length : Int) > 6 by omega), cond_false, cond_false]
    cases Sp.allP Sp.catP [] xs <;> rfl
  · rw [decide_eq_false h6, decide_eq_true (show (xs.length : Int) > 6 by omega)]
    cases Sp.allP Sp.catP [] xs <;> cases decide ((xs.length : Int) > (4096 : Int)) <;> rfl
theorem e1090_ok : Valid PP Γ e1090 := valid_len ok (vcons e1115_ok vnil) fun a ha hl => e1090_core a ha (hl _ (List.mem_cons_self) _ (List.mem_cons_self)).1
end Go.Proofs.GR.T

namespace Go.Proofs.GR.T
open Go Go.Proofs Go.Proofs.GR
theorem eqCo_self (x : VCo) : Sp.eqCo x x = true := by
  unfold Sp.eqCo Sp.f1155
  have h : eqB x.2.2 x.2.2 = true := by cases x.2.2 <;> rfl
  rw [beq_self_eq_true, h, show (x.2.1 != x.2.1) = false by simp]; rfl
theorem eqN_self (x : Int) : Sp.eqN x x = true := beq_self_eq_true x
theorem eqIx_self (x : VIx) : Sp.eqIx x x = true := by
  unfold Sp.eqIx Sp.f1156
  rw [beq_self_eq_true, eqW_self eqN_self]; rfl
theorem eqTb_self (x : VTb) : Sp.eqTb x x = true := by
  unfold Sp.eqTb Sp.f1094
  rw [beq_self_eq_true, eqW_self eqCo_self, eqW_self eqIx_self, show (x.2.2.1 != x.2.2.1) = false by simp]; rfl
def Sp.okTb1 (x : VTb) : Prop := x.1.size ≤ 9223372036854775807 ∧ (x.2.1.length ≤ 9223372036854775807 ∧ ∀ c ∈ x.2.1, c.1.size ≤ 9223372036854775807) ∧ (x.2.2.2.length ≤ 9223372036854775807 ∧ ∀ i ∈ x.2.2.2, i.1.size ≤ 9223372036854775807 ∧ i.2.length ≤ 9223372036854775807)
def Sp.okTbs (xs : List VTb) : Prop := xs.length ≤ 9223372036854775807 ∧ ∀ x ∈ xs, Sp.okTb1 x
def Sp.ctCo (x : VCo) : Nat := x.1.size
def Sp.ctIx (x : VIx) : Nat := x.1.size + x.2.length
def Sp.ctTb (x : VTb) : Nat := x.1.size + x.2.1.length + Sp.wtW Sp.ctCo x.2.1 + x.2.2.2.length + Sp.wtW Sp.ctIx x.2.2.2
theorem neg1 : ¬ (0 : Int) ≤ -1 := by decide
theorem szCo_wt {x : VCo} (h1 : x.1.size ≤ 9223372036854775807) (l : Int) (h0 : 0 ≤ l) (hl : l ≤ 1048576) (h : 0 ≤ Sp.szCo x l) : Sp.szCo x l + (Sp.ctCo x : Int) ≤ l := by
  unfold Sp.szCo Sp.f1147 at h ⊢
  rw [wrap64 (n := l - (x.1.size : Int)) (by omega) (by omega)] at h ⊢
  by_cases c1 : l - (x.1.size : Int) < 0
  · rw [decide_eq_true c1] at h; exact absurd h neg1
  · rw [decide_eq_false c1, cond_false]
    unfold Sp.ctCo
    show l - (x.1.size : Int) + _ ≤ l
    omega
theorem szIx_wt {x : VIx} (h1 : x.1.size ≤ 9223372036854775807) (h2 : x.2.length ≤ 9223372036854775807) (l : Int) (h0 : 0 ≤ l) (hl : l ≤ 1048576) (h : 0 ≤ Sp.szIx x l) : Sp.szIx x l + (Sp.ctIx x : Int) ≤ l := by
  unfold Sp.szIx Sp.f1148 at h ⊢
  rw [wrap64 (n := l - (x.1.size : Int)) (by omega) (by omega)] at h ⊢
  by_cases c1 : l - (x.1.size : Int) < 0
  · rw [decide_eq_true c1] at h; exact absurd h neg1
  · rw [decide_eq_false c1, cond_false] at h ⊢
    unfold Sp.f179 at h ⊢
    rw [wrap64 (n := l - (x.1.size : Int) - (x.2.length : Int)) (by omega) (by omega)] at h ⊢
    by_cases c2 : l - (x.1.size : Int) - (x.2.length : Int) < 0
    · rw [decide_eq_true c2] at h; exact absurd h neg1
    · rw [decide_eq_false c2]
      have c3 : decide (l - (x.1.size : Int) - (x.2.length : Int) < 0) = false := decide_eq_false c2
      unfold Sp.ctIx
      show (bif decide (l - (x.1.size : Int) - (x.2.length : Int) < 0) then ((-1 : Int), ()) else (l - (x.1.size : Int) - (x.2.length : Int), ())).1 + _ ≤ l
      rw [c3, cond_false, Int.natCast_add]
      show l - (x.1.size : Int) - (x.2.length : Int) + _ ≤ l
      omega
theorem szTb_wt {x : VTb} (hx : Sp.okTb1 x) (l : Int) (h0 : 0 ≤ l) (hl : l ≤ 1048576) (h : 0 ≤ Sp.szTb x l) : Sp.szTb x l + (Sp.ctTb x : Int) ≤ l := by
  obtain ⟨h1, ⟨h2, h2'⟩, h3, h3'⟩ := hx
  unfold Sp.szTb Sp.f1085 at h ⊢
  rw [wrap64 (n := l - (x.1.size : Int)) (by omega) (by omega)] at h ⊢
  by_cases c1 : l - (x.1.size : Int) < 0
  · rw [decide_eq_true c1] at h; exact absurd h neg1
  · rw [decide_eq_false c1, cond_false] at h ⊢
    by_cases c2 : Sp.szE Sp.szCo x.2.1 (l - (x.1.size : Int)) < 0
    · rw [decide_eq_true c2] at h; exact absurd h neg1
    · have w1 := szE_wt (f := Sp.szCo) (c := Sp.ctCo) (xs := x.2.1) (l := l - (x.1.size : Int)) h2 (fun y hy l a b d => szCo_wt (h2' y hy) l a b d) (by omega) (by omega) (by omega)
      rw [decide_eq_false c2, cond_false] at h ⊢
      by_cases c3 : Sp.szE Sp.szIx x.2.2.2 (Sp.szE Sp.szCo x.2.1 (l - (x.1.size : Int))) < 0
      · rw [decide_eq_true c3] at h; exact absurd h neg1
      · have w2 := szE_wt (f := Sp.szIx) (c := Sp.ctIx) (xs := x.2.2.2) (l := Sp.szE Sp.szCo x.2.1 (l - (x.1.size : Int))) h3 (fun y hy l a b d => szIx_wt (h3' y hy).1 (h3' y hy).2 l a b d) (by omega) (by omega) (by omega)
        rw [decide_eq_false c3, cond_false]
        show Sp.szE Sp.szIx x.2.2.2 (Sp.szE Sp.szCo x.2.1 (l - (x.1.size : Int))) + ((x.1.size + x.2.1.length + Sp.wtW Sp.ctCo x.2.1 + x.2.2.2.length + Sp.wtW Sp.ctIx x.2.2.2 : Nat) : Int) ≤ l
        omega
theorem wtW_one {α : Type} {w : α → Nat} : ∀ {xs : List α} {x : α}, x ∈ xs → w x ≤ Sp.wtW w xs
  | y :: r, x, h => by
    rw [Sp.wtW]
    rcases List.mem_cons.1 h with rfl | h
    · omega
    · have := wtW_one (w := w) h; omega
def Sp.smallTbs (xs : List VTb) : Prop := xs.length ≤ 1048576 ∧ ∀ x ∈ xs, Sp.ctTb x ≤ 1048576
theorem smallTb_of {xs : List VTb} (h : Sp.okTbs xs) {l : Int} (h0 : 0 ≤ l) (hl : l ≤ 1048576) (hs : ¬ Sp.szE Sp.szTb xs l < 0) : Sp.smallTbs xs := by
  have w := szE_wt (f := Sp.szTb) (c := Sp.ctTb) (xs := xs) (l := l) h.1 (fun x hx l a b c => szTb_wt (h.2 x hx) l a b c) h0 hl (by omega)
  refine ⟨by omega, fun x hx => ?_⟩
  have := wtW_one (w := Sp.ctTb) hx
  omega
theorem yes2_both {a b : Bool} (ha : a = true) (hb : b = true) : yes2 a b = true := by rw [ha, hb]; rfl
theorem fits_of {xs : List VTb} (h : Sp.smallTbs xs) : Sp.fits1068 xs = true := by
  refine yes2_both (fits32_mk (by have := h.1; omega)) (allW_mem.2 fun x hx => ?_)
  have h2 := h.2 x hx
  unfold Sp.ctTb at h2
  show (Sp.fits32 x.2.1 && Sp.fits1114 x.2.2.2) = true
  have a : Sp.fits32 x.2.1 = true := fits32_mk (by omega)
  have b : Sp.fits1114 x.2.2.2 = true := by
    refine yes2_both (fits32_mk (by omega)) (allW_mem.2 fun y hy => ?_)
    have h3 := wtW_one (w := Sp.ctIx) hy
    unfold Sp.ctIx at h3 h2
    exact fits32_mk (by omega)
  rw [a, b]; rfl
theorem fine_of {xs : List VTb} (h : Sp.okTbs xs) : Sp.fineTs xs = true := by
  refine allW_mem.2 fun x hx => ?_
  obtain ⟨h1, ⟨_, h2⟩, _, h3⟩ := h.2 x hx
  exact yes2_both (Nat.ble_eq_true_of_le h1) (yes2_both (allW_mem.2 fun c hc => Nat.ble_eq_true_of_le (h2 c hc)) (allW_mem.2 fun c hc => Nat.ble_eq_true_of_le (h3 c hc).1))
theorem cat_rises : ∀ (xs pre : List VTb), Sp.allP Sp.catP pre xs = true → Sp.risesW Sp.nameT xs = true
  | [], _, _ => rfl
  | [_], _, _ => rfl
  | x :: y :: r, pre, h => by
    rw [Sp.allP] at h
    cases hx : Sp.catP pre x with
    | false => rw [hx] at h; cases h
    | true =>
      rw [hx, Bool.not_true, cond_false] at h
      rw [Sp.risesW, cat_rises (y :: r) (pre ++ [x]) h]
      rw [Sp.allP] at h
      cases hy : Sp.catP (pre ++ [x]) y with
      | false => rw [hy] at h; cases h
      | true =>
        unfold Sp.catP at hy
        cases ho : Sp.okT y with
        | false => rw [ho] at hy; cases hy
        | true =>
          rw [ho, Bool.not_true, cond_false, decide_eq_true (show 0 < (pre ++ [x]).length by simp), cond_true] at hy
          have e : Sp.prevT (pre ++ [x]) = x.1 := by
            unfold Sp.prevT
            rw [List.length_append, List.length_singleton, Nat.add_sub_cancel, List.getD, List.getElem?_append_right (Nat.le_refl _), Nat.sub_self]
            rfl
          rw [e] at hy
          show (bif Sp.lessS x.1 y.1 then true else false) = true
          rw [hy]; rfl
theorem cat_of {xs : List VTb} (h : Sp.catOK xs = true) : xs.length ≤ 6 ∧ Sp.risesW Sp.nameT xs = true := by
  unfold Sp.catOK at h
  by_cases h4 : (xs.length : Int) > 4096
  · rw [decide_eq_true h4] at h; cases h
  by_cases h6 : (xs.length : Int) > 6
  · rw [decide_eq_false h4, decide_eq_true h6] at h; cases h
  rw [decide_eq_false h4, decide_eq_false h6, cond_false, cond_false] at h
  exact ⟨by omega, cat_rises xs [] h⟩
theorem rist_of {xs : List VTb} (h : Sp.catOK xs = true) : Sp.risT xs = true := by
  have := cat_of h
  exact yes2_both (fits32_mk (by omega)) this.2
theorem seek_idx {xs : List VTb} (t : ByteArray) (h : Sp.catOK xs = true) : Sp.idx (Sp.nmTb t) xs 0 = bif Sp.hitT xs t then ((Sp.lowT xs t : Nat) : Int) else -1 := by
  have := idx_low (key := Sp.nameT) (t := t) (xs := xs) 0 (cat_of h).2
  refine this.trans ?_
  have e0 : Sp.lowW (fun x => Sp.lessS (Sp.nameT x) t) xs = Sp.lowT xs t := rfl
  rw [e0, Int.zero_add]
  unfold Sp.hitT
  by_cases hl : Sp.lowT xs t < xs.length
  · rw [decide_eq_true hl, cond_true, List.getElem?_eq_getElem hl]
    have e : Sp.tAt xs (Sp.lowT xs t : Nat) = xs[Sp.lowT xs t] := getD_nat xs _ _ hl
    rw [e]
    rfl
  · rw [decide_eq_false hl, cond_false, List.getElem?_eq_none (by omega)]
theorem hit_lt {xs : List VTb} {t : ByteArray} (h : Sp.hitT xs t = true) : Sp.lowT xs t < xs.length := by
  unfold Sp.hitT at h
  by_cases hl : Sp.lowT xs t < xs.length
  · exact hl
  · rw [decide_eq_false hl] at h; cases h
theorem guardI {i : Nat} {n : Nat} (h : i < n) : (decide ((0 : Int) ≤ (i : Int)) && decide ((i : Int) < (n : Int))) = true := guard2 h
end Go.Proofs.GR.T

