/-
  No statement is proved here: what the functions of the law answer, told as plain functions, and that the law's answer is always true.
  No condition.
-/
import Derived.Test.YtpljgmackfjkdaaTBurstc
import Derived.Shelf.Small.Strs
import Derived.Shelf.Strings.Replace
set_option maxRecDepth 3000000
set_option maxHeartbeats 100000000
namespace Go.Proofs.GR.T
open Go Go.Proofs Go.Proofs.GR
abbrev tRw : Ty := .slice tV
abbrev VRw := List V3
abbrev tDt : Ty := .pair .str (.slice tRw)
abbrev VDt := ByteArray × List VRw
def Sp.f174 (x0 : ByteArray) (x1 : Int) (x2 : Bool) (x3 x4 : Int) (x5 : ByteArray) := (bif x3 == (0 : Int) then (bif !x2 then ((14 : Int), ()) else (bif x3 != (0 : Int) then (bif x3 != x1 then ((10 : Int), ()) else ((0 : Int), ())) else ((0 : Int), ()))) else (bif x3 != (0 : Int) then (bif x3 != x1 then ((10 : Int), ()) else ((0 : Int), ())) else ((0 : Int), ())))
noncomputable def e174 : Ent := { f := 117, ins := [Sh.agg [C0.dat Ty.str, C0.dat Zi, C0.dat Ty.bool], Sh.agg [C0.dat Zi, C0.dat Zi, C0.dat Ty.str]], outs := [Sh.one ZI], upd := [], pre := fun a => true, spec := fun a => (Sp.f174 a.1.1 a.1.2.1 a.1.2.2 a.2.1 a.2.2.1 a.2.2.2).1, wrt := fun a => (Sp.f174 a.1.1 a.1.2.1 a.1.2.2 a.2.1 a.2.2.1 a.2.2.2).2 }
def f174_g (v : denS [Sh.one ZI] × denS []) : Res := ⟨mkS [Sh.one ZI] v.1, mkU [] v.2⟩
theorem f174_form (x0 : ByteArray) (x1 : Int) (x2 : Bool) (x3 x4 : Int) (x5 : ByteArray) : abody Γ (orc []) 0 117 [XV.mk true [ZC Ty.str x0, ZC Zi x1, ZC Ty.bool x2], XV.mk true [ZC Zi x3, ZC Zi x4, ZC Ty.str x5]] = some (f174_g (Sp.f174 x0 x1 x2 x3 x4 x5)) := by
  refine Eq.trans (b := bif x3 == (0 : Int) then bif !x2 then ZJ (14 : Int) else bif x3 != (0 : Int) then bif x3 != x1 then ZJ (10 : Int) else ZJ (0 : Int) else ZJ (0 : Int) else bif x3 != (0 : Int) then bif x3 != x1 then ZJ (10 : Int) else ZJ (0 : Int) else ZJ (0 : Int)) (by kernel_rfl) ?_
  unfold Sp.f174
  exact (cond_plain f174_g ((cond_plain f174_g (rfl) ((cond_plain f174_g ((cond_plain f174_g (rfl) (rfl))) (rfl))))) ((cond_plain f174_g ((cond_plain f174_g (rfl) (rfl))) (rfl))))
theorem e174_ok : Valid PP Γ e174 := valid_auto ok vnil fun a => f174_form a.1.1 a.1.2.1 a.1.2.2 a.2.1 a.2.2.1 a.2.2.2

noncomputable def f141_L0 (n m0 : Nat) (y0 : List (Int × Int × ByteArray)) (y1 : Int) (y2 : ByteArray) (y3 : List (ByteArray × Int × Bool)) (y4 : Int) (y5 : List (ByteArray × List Int)) : Option Res := loopAt Γ (orc [e174]) n (82 : Nat) (0 : Nat) [] [Pth.r, Pth.r, Pth.l, Pth.r, Pth.b] m0 (St.mk (Zn :: ZS (Zi.pair (Zi.pair Ty.str)).slice y0 :: Slot.val (Val.one (Cell.ptr (0 : Nat) (0 : Nat))) :: ZN 3 (ZS Zi y1 :: ZN 27 [])) [AObj.box (82 : Nat) [Cell.dat Ty.str y2, Cell.dat (Ty.str.pair (Zi.pair Ty.bool)).slice y3, Cell.dat Zi y4, Cell.dat (Ty.str.pair Zi.slice).slice y5]])
theorem f141_L0_step (n m0 : Nat) (y0 : List (Int × Int × ByteArray)) (y1 : Int) (y2 : ByteArray) (y3 : List (ByteArray × Int × Bool)) (y4 : Int) (y5 : List (ByteArray × List Int)) : f141_L0 n (m0 + 1) y0 y1 y2 y3 y4 y5 = bif decide (y1 < (↑y0.length : Int)) then chk (decide ((0 : Int) ≤ y1) && decide (y1 < (↑y3.length : Int))) (chk (decide ((0 : Int) ≤ y1) && decide (y1 < (↑y0.length : Int))) (bif (Sp.f174 (y3.getD y1.toNat (ByteArray.mk #[], (0 : Int), false)).1 (y3.getD y1.toNat (ByteArray.mk #[], (0 : Int), false)).2.1 (y3.getD y1.toNat (ByteArray.mk #[], (0 : Int), false)).2.2 (y0.getD y1.toNat ((0 : Int), (0 : Int), ByteArray.mk #[])).1 (y0.getD y1.toNat ((0 : Int), (0 : Int), ByteArray.mk #[])).2.1 (y0.getD y1.toNat ((0 : Int), (0 : Int), ByteArray.mk #[])).2.2).1 != (0 : Int) then some (Res.mk [ZX Zi (Sp.f174 (y3.getD y1.toNat (ByteArray.mk #[], (0 : Int), false)).1 (y3.getD y1.toNat (ByteArray.mk #[], (0 : Int), false)).2.1 (y3.getD y1.toNat (ByteArray.mk #[], (0 : Int), false)).2.2 (y0.getD y1.toNat ((0 : Int), (0 : Int), ByteArray.mk #[])).1 (y0.getD y1.toNat ((0 : Int), (0 : Int), ByteArray.mk #[])).2.1 (y0.getD y1.toNat ((0 : Int), (0 : Int), ByteArray.mk #[])).2.2).1, ZX Zi y1] []) else f141_L0 n m0 y0 (IntKind.i64.wrap (y1 + (1 : Int))) y2 y3 y4 y5)) else some (Res.mk [ZX Zi (0 : Int), ZX Zi (0 : Int)] []) := by kernel_rfl
theorem f141_raw (n : Nat) (x0 : ByteArray) (x1 : List (ByteArray × Int × Bool)) (x2 : Int) (x3 : List (ByteArray × List Int)) (x4 : List (Int × Int × ByteArray)) : abody Γ (orc [e174]) n 82 [XV.mk true [ZC Ty.str x0, ZC (Ty.str.pair (Zi.pair Ty.bool)).slice x1, ZC Zi x2, ZC (Ty.str.pair Zi.slice).slice x3], ZX (Zi.pair (Zi.pair Ty.str)).slice x4] = bif (↑x4.length : Int) != (↑x1.length : Int) then some (Res.mk [ZX Zi (12 : Int), ZX Zi (0 : Int)] []) else f141_L0 n n x4 (0 : Int) x0 x1 x2 x3 := by kernel_rfl

end Go.Proofs.GR.T

set_option maxRecDepth 1000000
set_option maxHeartbeats 100000000
namespace Go.Proofs.GR.T
open Go Go.Proofs Go.Proofs.GR
def Dec (A B : List Int) (c : Int) : Prop := ∃ p x y s t, A = p ++ x :: s ∧ B = p ++ y :: t ∧ ((x < y ∧ c = -1) ∨ (y < x ∧ c = 1))
theorem Dec.behind {A B : List Int} {c : Int} (h : Dec A B c) (R S : List Int) : Dec (A ++ R) (B ++ S) c := by
  obtain ⟨p, x, y, s, t, rfl, rfl, h⟩ := h
  exact ⟨p, x, y, s ++ R, t ++ S, by rw [List.append_assoc]; rfl, by rw [List.append_assoc]; rfl, h⟩
theorem Dec.ahead {A B : List Int} {c : Int} (h : Dec A B c) (q : List Int) : Dec (q ++ A) (q ++ B) c := by
  obtain ⟨p, x, y, s, t, rfl, rfl, h⟩ := h
  exact ⟨q ++ p, x, y, s, t, by rw [List.append_assoc], by rw [List.append_assoc], h⟩
theorem Dec.below {x y : Int} (h : x < y) (s t : List Int) : Dec (x :: s) (y :: t) (-1) := ⟨[], x, y, s, t, rfl, rfl, .inl ⟨h, rfl⟩⟩
theorem Dec.above {x y : Int} (h : y < x) (s t : List Int) : Dec (x :: s) (y :: t) 1 := ⟨[], x, y, s, t, rfl, rfl, .inr ⟨h, rfl⟩⟩
theorem Dec.one {b c : Int} {B C : List Int} (h : b < c ∨ (b = c ∧ Dec B C (-1))) : Dec (b :: B) (c :: C) (-1) := by
  rcases h with h | ⟨rfl, h⟩
  · exact Dec.below h B C
  · exact h.ahead [b]
theorem bytesW_eq {a b : ByteArray} (h : a.toList = b.toList) : a = b := by
  rw [toList_eq, toList_eq] at h
  cases a
  cases b
  exact congrArg ByteArray.mk (Array.toList_inj.1 h)
def okN (v : V3) : Prop := -9223372036854775808 ≤ v.2.1 ∧ v.2.1 < 9223372036854775808
theorem vOK_is {v : V3} (h : Sp.vOK v = true) : (v.1 = 0 ∧ v.2.1 = 0 ∧ v.2.2 = ByteArray.mk #[]) ∨ (v.1 = 1 ∧ (v.2.1 = 0 ∨ v.2.1 = 1) ∧ v.2.2 = ByteArray.mk #[]) ∨ (v.1 = 2 ∧ v.2.2 = ByteArray.mk #[]) ∨ ((v.1 = 3 ∨ v.1 = 4) ∧ v.2.1 = 0) := by
  unfold Sp.vOK Sp.f136 at h
  by_cases h0 : v.1 = 0
  · rw [h0] at h
    by_cases hn : v.2.1 = 0
    · rw [hn] at h
      exact .inl ⟨h0, hn, bytesW_eq (eq_of_beq h)⟩
    · rw [beq_false_of_ne hn] at h; cases h
  · rw [beq_false_of_ne h0, cond_false] at h
    by_cases h1 : v.1 = 1
    · rw [h1] at h
      cases hf : (Sp.f79 v.2.1 0 1).1 with
      | false => rw [hf] at h; cases h
      | true =>
        rw [hf] at h
        have hb : v.2.1 = 0 ∨ v.2.1 = 1 := by
          unfold Sp.f79 at hf
          by_cases q : v.2.1 ≥ 0
          · rw [decide_eq_true q] at hf
            have := of_decide_eq_true hf
            omega
          · rw [decide_eq_false q] at hf; cases hf
        exact .inr (.inl ⟨h1, hb, bytesW_eq (eq_of_beq h)⟩)
    · rw [beq_false_of_ne h1, cond_false] at h
      by_cases h2 : v.1 = 2
      · rw [h2] at h
        exact .inr (.inr (.inl ⟨h2, bytesW_eq (eq_of_beq h)⟩))
      · rw [beq_false_of_ne h2, cond_false] at h
        have hn : v.2.1 = 0 := by
          by_cases hn : v.2.1 = 0
          · exact hn
          · rw [beq_false_of_ne hn] at h
            cases h3 : v.1 == 3 <;> cases h4 : v.1 == 4 <;> rw [h3] at h <;> (try rw [h4] at h) <;> cases h
        by_cases h3 : v.1 = 3
        · exact .inr (.inr (.inr ⟨.inl h3, hn⟩))
        · rw [beq_false_of_ne h3] at h
          by_cases h4 : v.1 = 4
          · exact .inr (.inr (.inr ⟨.inr h4, hn⟩))
          · rw [beq_false_of_ne h4] at h; cases h
end Go.Proofs.GR.T



set_option maxRecDepth 1000000
set_option maxHeartbeats 100000000
namespace Go.Proofs.GR.T
open Go Go.Proofs Go.Proofs.GR
end Go.Proofs.GR.T

