/-
  No statement is proved here: what the functions of the law answer, told as plain functions, and that the law's answer is always true.
  No condition.
-/
import Derived.Test.YtpljgmackfjkdaaTBurste
set_option maxRecDepth 3000000
set_option maxHeartbeats 100000000
namespace Go.Proofs.GR.T
open Go Go.Proofs Go.Proofs.GR
abbrev rII74 (p : Int × Int) : Res := Res.mk [ZX Zi p.1, ZX Zi p.2] []
def Sp.fitC (c : VCo) (v : V3) : Int := (Sp.f174 c.1 c.2.1 c.2.2 v.1 v.2.1 v.2.2).1
def Sp.rowC : List VCo → List V3 → Int → Int × Int
  | c :: cs, v :: vs, i => bif Sp.fitC c v != 0 then (Sp.fitC c v, i) else Sp.rowC cs vs (i + 1)
  | [], _, _ => (0, 0)
  | _ :: _, [], _ => (0, 0)
def Sp.rowT (cs : List VCo) (vs : List V3) : Int × Int := bif (vs.length : Int) != (cs.length : Int) then (12, 0) else Sp.rowC cs vs 0
theorem rowC_loop (cs : List VCo) (vs : List V3) (L : Nat → Int → Option Res) (he : vs.length = cs.length)
    (h0 : ∀ m (k : Nat), cs.length ≤ k → L (m + 1) k = some (rII74 (0, 0)))
    (h1 : ∀ m (k : Nat) (h : k < cs.length) (h2 : k < vs.length), L (m + 1) k = bif Sp.fitC cs[k] vs[k] != 0 then some (rII74 (Sp.fitC cs[k] vs[k], (k : Int))) else L m ((k + 1 : Nat) : Int)) :
    ∀ (d k m : Nat), k + d = cs.length → d < m → L m k = some (rII74 (Sp.rowC (cs.drop k) (vs.drop k) k)) := by
  intro d
  induction d with
  | zero =>
    intro k m hk hm
    obtain ⟨m, rfl⟩ := succ_of hm
    rw [h0 m k (by omega), List.drop_of_length_le (show cs.length ≤ k by omega), Sp.rowC]
  | succ d ih =>
    intro k m hk hm
    obtain ⟨m, rfl⟩ := succ_of hm
    have a : k < cs.length := by omega
    have b : k < vs.length := by omega
    rw [h1 m k a b, ih (k + 1) m (by omega) (by omega), List.drop_eq_getElem_cons a, List.drop_eq_getElem_cons b, Sp.rowC, Int.natCast_add]
    cases Sp.fitC cs[k] vs[k] != 0 <;> rfl
noncomputable def e141 : Ent := { f := n141, ins := [shTb, Sh.one (cL tV)], outs := [Sh.one cI, Sh.one cI], upd := [], pre := fun _ => true, spec := fun a => Sp.rowT a.1.2.1 a.2, wrt := fun _ => () }
theorem e141_core (x0 : ByteArray) (x1 : List VCo) (x2 : Int) (x3 : List VIx) (x4 : List V3) (h1 : x1.length ≤ maxLen) : ∃ n, abody Γ (orc [e174]) n n141 (e141.args ((x0, x1, x2, x3), x4)) = some (rII74 (Sp.rowT x1 x4)) := by
  have h1 : x1.length ≤ 9223372036854775807 := h1
  refine ⟨x1.length + 1, (f141_raw _ x0 x1 x2 x3 x4).trans ?_⟩
  unfold Sp.rowT
  by_cases he : x4.length = x1.length
  · rw [show ((x4.length : Int) != (x1.length : Int)) = false by simp [he], cond_false, cond_false]
    refine rowC_loop x1 x4 (fun m k => f141_L0 (x1.length + 1) m x4 k x0 x1 x2 x3) he (fun m k hk => ?_) (fun m k h h2 => ?_) x1.length 0 _ (Nat.zero_add _) (Nat.lt_succ_self _)
    · show f141_L0 _ _ _ _ _ _ _ _ = _
      rw [f141_L0_step, nat_ge (show x4.length ≤ k by omega), cond_false]
    · show f141_L0 _ _ _ _ _ _ _ _ = _
      rw [f141_L0_step, nat_lt h2, cond_true, guard2 h, chkT, guard0, chkT, getD_nat x1 k _ h, getD_nat x4 k _ h2, next64 h h1]
      rfl
  · rw [show ((x4.length : Int) != (x1.length : Int)) = true by simp; omega]
    rfl
theorem e141_ok : Valid PP Γ e141 := valid_len ok (vcons e174_ok vnil) fun a _ hl => e141_core a.1.1 a.1.2.1 a.1.2.2.1 a.1.2.2.2 a.2 (hl _ (List.mem_cons_self) _ (List.mem_cons_of_mem _ List.mem_cons_self)).1
abbrev zV3 : V3 := ((0 : Int), (0 : Int), ByteArray.mk #[])
def Sp.pick (row : List V3) : List Int → List V3
  | [] => []
  | c :: cs => row.getD c.toNat zV3 :: Sp.pick row cs
def Sp.inR (n : Nat) (c : Int) : Bool := (decide ((0 : Int) ≤ c) && decide (c < (n : Int)))
def Sp.inK (n : Nat) (c : Int) : Bool := (decide ((0 : Int) ≤ c) && decide (c ≤ (n : Int)))
theorem take0 (row : List V3) (k : Nat) : List.take (k - 0) (List.drop 0 row) = row.take k := rfl
end Go.Proofs.GR.T

