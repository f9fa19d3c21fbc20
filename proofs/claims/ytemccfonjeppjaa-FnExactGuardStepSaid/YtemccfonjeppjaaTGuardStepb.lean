/-
  No statement is proved here: what the functions of the law answer, told as plain functions, and that the law's answer is always true.
  No condition.
-/
import Derived.Test.YtemccfonjeppjaaTGuardStepa
set_option maxRecDepth 100000
namespace Go.Proofs.GR.T
open Go Go.Proofs Go.Proofs.GR
/-! The text at the beginning of key bytes. -/
def Sp.kt : List Int → List Int → Int → ByteArray × Int
  | [], _, _ => (ByteArray.mk #[], 0)
  | [x], acc, i => (ByteArray.mk #[], 0)
  | x :: y :: r, acc, i => bif x != 0 then Sp.kt (y :: r) (acc ++ [x]) (i + 1) else bif y == 1 then (bytesStr acc, i + 2) else bif y != 255 then (ByteArray.mk #[], 0) else Sp.kt r (acc ++ [0]) (i + 2)
noncomputable def f168_L0 (n m0 : Nat) (y0 : List Int) (y1 : Int) (y2 : List Int) : Option Res := loopAt Γ (orc []) n (168 : Nat) (0 : Nat) [] [Pth.r, Pth.r, Pth.l, Pth.r, Pth.b] m0 (St.mk [Slot.val (Val.one (Cell.dat (Ty.int IntKind.u8).slice y0)), Slot.nix, Slot.nix, Slot.nix, Slot.val (Val.one (Cell.own (0 : Nat))), Slot.val (Val.one (Cell.dat (Ty.int IntKind.i64) y1)), Slot.nix, Slot.nix, Slot.nix, Slot.nix, Slot.nix, Slot.nix, Slot.nix, Slot.nix, Slot.nix, Slot.nix, Slot.nix, Slot.nix, Slot.nix, Slot.nix, Slot.nix, Slot.nix, Slot.nix, Slot.nix, Slot.nix, Slot.nix, Slot.nix, Slot.nix, Slot.nix, Slot.nix, Slot.nix, Slot.nix, Slot.nix, Slot.nix, Slot.nix, Slot.nix, Slot.nix, Slot.nix, Slot.nix, Slot.nix, Slot.nix, Slot.nix, Slot.nix, Slot.nix, Slot.nix, Slot.nix, Slot.nix, Slot.nix, Slot.nix, Slot.nix, Slot.nix] [AObj.row (Ty.int IntKind.u8) y2 true])
theorem f168_L0_step (n m0 : Nat) (y0 : List Int) (y1 : Int) (y2 : List Int) : f168_L0 n (m0 + 1) y0 y1 y2 = bif decide (y1 < (↑y0.length : Int)) then chk (decide ((0 : Int) ≤ y1) && decide (y1 < (↑y0.length : Int))) (bif y0.getD y1.toNat (0 : Int) != (0 : Int) then chk (decide ((0 : Int) ≤ y1) && decide (y1 < (↑y0.length : Int))) (chk (decide ((y2.length + [y0.getD y1.toNat (0 : Int)].length) * (1 : Nat) ≤ (140737488355328 : Nat))) (f168_L0 n m0 y0 (IntKind.i64.wrap (y1 + (1 : Int))) (y2 ++ [y0.getD y1.toNat (0 : Int)]))) else bif IntKind.i64.wrap (y1 + (1 : Int)) == (↑y0.length : Int) then some (Res.mk [XV.mk false [X.c (X0.dat Ty.str (ByteArray.mk #[]))], XV.mk false [X.c (X0.dat (Ty.int IntKind.i64) (0 : Int))]] []) else chk (decide ((0 : Int) ≤ IntKind.i64.wrap (y1 + (1 : Int))) && decide (IntKind.i64.wrap (y1 + (1 : Int)) < (↑y0.length : Int))) (bif y0.getD (IntKind.i64.wrap (y1 + (1 : Int))).toNat (0 : Int) == (1 : Int) then some (Res.mk [XV.mk false [X.c (X0.dat Ty.str (bytesStr y2))], XV.mk false [X.c (X0.dat (Ty.int IntKind.i64) (IntKind.i64.wrap (IntKind.i64.wrap (y1 + (1 : Int)) + (1 : Int))))]] []) else chk (decide ((0 : Int) ≤ IntKind.i64.wrap (y1 + (1 : Int))) && decide (IntKind.i64.wrap (y1 + (1 : Int)) < (↑y0.length : Int))) (bif y0.getD (IntKind.i64.wrap (y1 + (1 : Int))).toNat (0 : Int) != (255 : Int) then some (Res.mk [XV.mk false [X.c (X0.dat Ty.str (ByteArray.mk #[]))], XV.mk false [X.c (X0.dat (Ty.int IntKind.i64) (0 : Int))]] []) else chk (decide ((y2.length + (1 : Nat)) * (1 : Nat) ≤ (140737488355328 : Nat))) (f168_L0 n m0 y0 (IntKind.i64.wrap (IntKind.i64.wrap (y1 + (1 : Int)) + (1 : Int))) (y2 ++ [(0 : Int)]))))) else some (Res.mk [XV.mk false [X.c (X0.dat Ty.str (ByteArray.mk #[]))], XV.mk false [X.c (X0.dat (Ty.int IntKind.i64) (0 : Int))]] []) := by kernel_rfl
theorem f168_raw (n : Nat) (x0 : List Int) : abody Γ (orc []) n 168 [XV.mk false [X.c (X0.dat (Ty.int IntKind.u8).slice x0)]] = f168_L0 n n x0 (0 : Int) [] := by kernel_rfl

noncomputable def e168 : Ent := { f := 168, ins := [Sh.one (cL tB)], outs := [Sh.one cS, Sh.one cI], upd := [], pre := fun a => Sp.mid a, spec := fun a => Sp.kt a [] 0, wrt := fun _ => () }
abbrev rSI (p : ByteArray × Int) : Res := Res.mk [XV.mk false [X.c (X0.dat Ty.str p.1)], XV.mk false [X.c (X0.dat (Ty.int IntKind.i64) p.2)]] []
theorem f168_loop (n : Nat) (xs : List Int) (hl : xs.length ≤ 1048576) : ∀ (d k m : Nat) (acc : List Int), k + d = xs.length → acc.length ≤ k → d < m →
    f168_L0 n m xs (↑k : Int) acc = some (rSI (Sp.kt (xs.drop k) acc k)) := by
  intro d
  induction d using Nat.strongRecOn with
  | _ d ih =>
    intro k m acc hk ha hm
    obtain ⟨m, rfl⟩ := succ_of hm
    rw [f168_L0_step]
    by_cases h0 : k < xs.length
    case neg =>
      rw [decide_eq_false (show ¬ (k : Int) < xs.length by omega), cond_false, List.drop_of_length_le (by omega), Sp.kt]
    have e0 : xs.getD (k : Int).toNat 0 = xs[k] := by rw [Int.toNat_natCast, List.getD, List.getElem?_eq_getElem h0, Option.getD_some]
    rw [decide_eq_true (show (k : Int) < xs.length by omega), cond_true, decide_eq_true (show (0 : Int) ≤ k by omega), e0, Bool.and_self, chkT, wrap64 (n := (k : Int) + 1) (by omega) (by omega), List.drop_eq_getElem_cons h0, chkT]
    rw [decide_eq_true (show (acc.length + [xs[k]].length) * 1 ≤ 140737488355328 by rw [List.length_singleton]; omega), chkT]
    by_cases h1 : k + 1 < xs.length
    · have e1 : xs.getD ((k : Int) + 1).toNat 0 = xs[k + 1] := by rw [show ((k : Int) + 1).toNat = k + 1 by omega, List.getD, List.getElem?_eq_getElem h1, Option.getD_some]
      have hne : (((k : Int) + 1) == (xs.length : Int)) = false := beq_false_of_ne (by omega)
      have d1 := List.drop_eq_getElem_cons h1
      have i1 := ih (d - 1) (by omega) (k + 1) m (acc ++ [xs[k]]) (by omega) (by rw [List.length_append, List.length_singleton]; omega) (by omega)
      have i2 := ih (d - 2) (by omega) (k + 2) m (acc ++ [0]) (by omega) (by rw [List.length_append, List.length_singleton]; omega) (by omega)
      rw [d1] at i1
      rw [d1, Sp.kt, hne, cond_false, decide_eq_true (show (0 : Int) ≤ (k : Int) + 1 by omega), decide_eq_true (show (k : Int) + 1 < xs.length by omega), Bool.and_self, chkT, e1, chkT, wrap64 (n := (k : Int) + 1 + 1) (by omega) (by omega)]
      rw [decide_eq_true (show (acc.length + 1) * 1 ≤ 140737488355328 by omega), chkT]
      rw [show ((k + 1 : Nat) : Int) = (k : Int) + 1 by omega] at i1
      rw [show ((k + 2 : Nat) : Int) = (k : Int) + 1 + 1 by omega] at i2
      rw [i1, i2, show (k : Int) + 2 = (k : Int) + 1 + 1 by omega]
      generalize (xs[k] != (0 : Int)) = b1
      generalize (xs[k + 1] == (1 : Int)) = b2
      generalize (xs[k + 1] != (255 : Int)) = b3
      cases b1 <;> cases b2 <;> cases b3 <;> rfl
    · have hx : xs.drop (k + 1) = [] := List.drop_of_length_le (by omega)
      have he : (((k : Int) + 1) == (xs.length : Int)) = true := beq_iff_eq.2 (by omega)
      have i1 := ih (d - 1) (by omega) (k + 1) m (acc ++ [xs[k]]) (by omega) (by rw [List.length_append, List.length_singleton]; omega) (by omega)
      rw [hx, show ((k + 1 : Nat) : Int) = (k : Int) + 1 by omega, Sp.kt] at i1
      rw [hx, Sp.kt, he, cond_true, i1]
      cases xs[k] != (0 : Int) <;> rfl
theorem e168_core (xs : List Int) (h : Sp.mid xs = true) : ∃ n, abody Γ (orc []) n 168 [XV.mk false [X.c (X0.dat (Ty.int IntKind.u8).slice xs)]] = some (rSI (Sp.kt xs [] 0)) := by
  have := f168_loop (xs.length + 1) xs (mid_of h) xs.length 0 (xs.length + 1) [] (Nat.zero_add _) (Nat.le_refl _) (Nat.lt_succ_self _)
  rw [Int.natCast_zero, List.drop_zero] at this
  exact ⟨xs.length + 1, (f168_raw _ xs).trans this⟩
theorem e168_ok : Valid Try.prog Γ e168 := valid_of ok vnil fun a ha => e168_core a ha
def Sp.f131x_pre (x0 : List Int) (x1 : Bool) : Bool := (decide ((0 : Int) < (↑x0.length : Int)) && (decide ((1 : Int) ≤ (↑x0.length : Int)) && (bif IntKind.i64.wrap (x0.getD (0 : Nat) (0 : Int)) == (0 : Int) then true else (bif IntKind.i64.wrap (x0.getD (0 : Nat) (0 : Int)) == (1 : Int) then (bif decide ((↑(List.take (x0.length - (1 : Nat)) (List.drop (1 : Nat) x0)).length : Int) ≥ (1 : Int)) then decide ((0 : Int) < (↑(List.take (x0.length - (1 : Nat)) (List.drop (1 : Nat) x0)).length : Int)) else (bif IntKind.i64.wrap (x0.getD (0 : Nat) (0 : Int)) == (2 : Int) then (bif decide ((↑(List.take (x0.length - (1 : Nat)) (List.drop (1 : Nat) x0)).length : Int) ≥ (8 : Int)) then (decide ((8 : Int) ≤ (↑(List.take (x0.length - (1 : Nat)) (List.drop (1 : Nat) x0)).length : Int)) && Sp.eight (List.take (8 : Nat) (List.drop (0 : Nat) (List.take (x0.length - (1 : Nat)) (List.drop (1 : Nat) x0))))) else (bif (Sp.f167 (IntKind.i64.wrap (x0.getD (0 : Nat) (0 : Int)))).1 then (bif !x1 then Sp.mid (List.take (x0.length - (1 : Nat)) (List.drop (1 : Nat) x0)) else (bif (Sp.f167 (IntKind.i64.wrap (x0.getD (0 : Nat) (0 : Int)))).1 then (bif decide ((↑(List.take (x0.length - (1 : Nat)) (List.drop (1 : Nat) x0)).length : Int) ≥ (1 : Int)) then (decide ((0 : Int) < (↑(List.take (x0.length - (1 : Nat)) (List.drop (1 : Nat) x0)).length : Int)) && (bif decide ((↑(List.take (x0.length - (1 : Nat)) (List.drop (1 : Nat) x0)).length : Int) > IntKind.i64.wrap ((List.take (x0.length - (1 : Nat)) (List.drop (1 : Nat) x0)).getD (0 : Nat) (0 : Int))) then (decide ((0 : Int) < (↑(List.take (x0.length - (1 : Nat)) (List.drop (1 : Nat) x0)).length : Int)) && (decide ((1 : Int) ≤ IntKind.i64.wrap ((1 : Int) + IntKind.i64.wrap ((List.take (x0.length - (1 : Nat)) (List.drop (1 : Nat) x0)).getD (0 : Nat) (0 : Int)))) && decide (IntKind.i64.wrap ((1 : Int) + IntKind.i64.wrap ((List.take (x0.length - (1 : Nat)) (List.drop (1 : Nat) x0)).getD (0 : Nat) (0 : Int))) ≤ (↑(List.take (x0.length - (1 : Nat)) (List.drop (1 : Nat) x0)).length : Int)) && decide ((0 : Int) < (↑(List.take (x0.length - (1 : Nat)) (List.drop (1 : Nat) x0)).length : Int)))) else true)) else true) else true)) else (bif (Sp.f167 (IntKind.i64.wrap (x0.getD (0 : Nat) (0 : Int)))).1 then (bif decide ((↑(List.take (x0.length - (1 : Nat)) (List.drop (1 : Nat) x0)).length : Int) ≥ (1 : Int)) then (decide ((0 : Int) < (↑(List.take (x0.length - (1 : Nat)) (List.drop (1 : Nat) x0)).length : Int)) && (bif decide ((↑(List.take (x0.length - (1 : Nat)) (List.drop (1 : Nat) x0)).length : Int) > IntKind.i64.wrap ((List.take (x0.length - (1 : Nat)) (List.drop (1 : Nat) x0)).getD (0 : Nat) (0 : Int))) then (decide ((0 : Int) < (↑(List.take (x0.length - (1 : Nat)) (List.drop (1 : Nat) x0)).length : Int)) && (decide ((1 : Int) ≤ IntKind.i64.wrap ((1 : Int) + IntKind.i64.wrap ((List.take (x0.length - (1 : Nat)) (List.drop (1 : Nat) x0)).getD (0 : Nat) (0 : Int)))) && decide (IntKind.i64.wrap ((1 : Int) + IntKind.i64.wrap ((List.take (x0.length - (1 : Nat)) (List.drop (1 : Nat) x0)).getD (0 : Nat) (0 : Int))) ≤ (↑(List.take (x0.length - (1 : Nat)) (List.drop (1 : Nat) x0)).length : Int)) && decide ((0 : Int) < (↑(List.take (x0.length - (1 : Nat)) (List.drop (1 : Nat) x0)).length : Int)))) else true)) else true) else true))) else (bif (Sp.f167 (IntKind.i64.wrap (x0.getD (0 : Nat) (0 : Int)))).1 then (bif !x1 then Sp.mid (List.take (x0.length - (1 : Nat)) (List.drop (1 : Nat) x0)) else (bif (Sp.f167 (IntKind.i64.wrap (x0.getD (0 : Nat) (0 : Int)))).1 then (bif decide ((↑(List.take (x0.length - (1 : Nat)) (List.drop (1 : Nat) x0)).length : Int) ≥ (1 : Int)) then (decide ((0 : Int) < (↑(List.take (x0.length - (1 : Nat)) (List.drop (1 : Nat) x0)).length : Int)) && (bif decide ((↑(List.take (x0.length - (1 : Nat)) (List.drop (1 : Nat) x0)).length : Int) > IntKind.i64.wrap ((List.take (x0.length - (1 : Nat)) (List.drop (1 : Nat) x0)).getD (0 : Nat) (0 : Int))) then (decide ((0 : Int) < (↑(List.take (x0.length - (1 : Nat)) (List.drop (1 : Nat) x0)).length : Int)) && (decide ((1 : Int) ≤ IntKind.i64.wrap ((1 : Int) + IntKind.i64.wrap ((List.take (x0.length - (1 : Nat)) (List.drop (1 : Nat) x0)).getD (0 : Nat) (0 : Int)))) && decide (IntKind.i64.wrap ((1 : Int) + IntKind.i64.wrap ((List.take (x0.length - (1 : Nat)) (List.drop (1 : Nat) x0)).getD (0 : Nat) (0 : Int))) ≤ (↑(List.take (x0.length - (1 : Nat)) (List.drop (1 : Nat) x0)).length : Int)) && decide ((0 : Int) < (↑(List.take (x0.length - (1 : Nat)) (List.drop (1 : Nat) x0)).length : Int)))) else true)) else true) else true)) else (bif (Sp.f167 (IntKind.i64.wrap (x0.getD (0 : Nat) (0 : Int)))).1 then (bif decide ((↑(List.take (x0.length - (1 : Nat)) (List.drop (1 : Nat) x0)).length : Int) ≥ (1 : Int)) then (decide ((0 : Int) < (↑(List.take (x0.length - (1 : Nat)) (List.drop (1 : Nat) x0)).length : Int)) && (bif decide ((↑(List.take (x0.length - (1 : Nat)) (List.drop (1 : Nat) x0)).length : Int) > IntKind.i64.wrap ((List.take (x0.length - (1 : Nat)) (List.drop (1 : Nat) x0)).getD (0 : Nat) (0 : Int))) then (decide ((0 : Int) < (↑(List.take (x0.length - (1 : Nat)) (List.drop (1 : Nat) x0)).length : Int)) && (decide ((1 : Int) ≤ IntKind.i64.wrap ((1 : Int) + IntKind.i64.wrap ((List.take (x0.length - (1 : Nat)) (List.drop (1 : Nat) x0)).getD (0 : Nat) (0 : Int)))) && decide (IntKind.i64.wrap ((1 : Int) + IntKind.i64.wrap ((List.take (x0.length - (1 : Nat)) (List.drop (1 : Nat) x0)).getD (0 : Nat) (0 : Int))) ≤ (↑(List.take (x0.length - (1 : Nat)) (List.drop (1 : Nat) x0)).length : Int)) && decide ((0 : Int) < (↑(List.take (x0.length - (1 : Nat)) (List.drop (1 : Nat) x0)).length : Int)))) else true)) else true) else true)))) else (bif IntKind.i64.wrap (x0.getD (0 : Nat) (0 : Int)) == (2 : Int) then (bif decide ((↑(List.take (x0.length - (1 : Nat)) (List.drop (1 : Nat) x0)).length : Int) ≥ (8 : Int)) then (decide ((8 : Int) ≤ (↑(List.take (x0.length - (1 : Nat)) (List.drop (1 : Nat) x0)).length : Int)) && Sp.eight (List.take (8 : Nat) (List.drop (0 : Nat) (List.take (x0.length - (1 : Nat)) (List.drop (1 : Nat) x0))))) else (bif (Sp.f167 (IntKind.i64.wrap (x0.getD (0 : Nat) (0 : Int)))).1 then (bif !x1 then Sp.mid (List.take (x0.length - (1 : Nat)) (List.drop (1 : Nat) x0)) else (bif (Sp.f167 (IntKind.i64.wrap (x0.getD (0 : Nat) (0 : Int)))).1 then (bif decide ((↑(List.take (x0.length - (1 : Nat)) (List.drop (1 : Nat) x0)).length : Int) ≥ (1 : Int)) then (decide ((0 : Int) < (↑(List.take (x0.length - (1 : Nat)) (List.drop (1 : Nat) x0)).length : Int)) && (bif decide ((↑(List.take (x0.length - (1 : Nat)) (List.drop (1 : Nat) x0)).length : Int) > IntKind.i64.wrap ((List.take (x0.length - (1 : Nat)) (List.drop (1 : Nat) x0)).getD (0 : Nat) (0 : Int))) then (decide ((0 : Int) < (↑(List.take (x0.length - (1 : Nat)) (List.drop (1 : Nat) x0)).length : Int)) && (decide ((1 : Int) ≤ IntKind.i64.wrap ((1 : Int) + IntKind.i64.wrap ((List.take (x0.length - (1 : Nat)) (List.drop (1 : Nat) x0)).getD (0 : Nat) (0 : Int)))) && decide (IntKind.i64.wrap ((1 : Int) + IntKind.i64.wrap ((List.take (x0.length - (1 : Nat)) (List.drop (1 : Nat) x0)).getD (0 : Nat) (0 : Int))) ≤ (↑(List.take (x0.length - (1 : Nat)) (List.drop (1 : Nat) x0)).length : Int)) && decide ((0 : Int) < (↑(List.take (x0.length - (1 : Nat)) (List.drop (1 : Nat) x0)).length : Int)))) else true)) else true) else true)) else (bif (Sp.f167 (IntKind.i64.wrap (x0.getD (0 : Nat) (0 : Int)))).1 then (bif decide ((↑(List.take (x0.length - (1 : Nat)) (List.drop (1 : Nat) x0)).length : Int) ≥ (1 : Int)) then (decide ((0 : Int) < (↑(List.take (x0.length - (1 : Nat)) (List.drop (1 : Nat) x0)).length : Int)) && (bif decide ((↑(List.take (x0.length - (1 : Nat)) (List.drop (1 : Nat) x0)).length : Int) > IntKind.i64.wrap ((List.take (x0.length - (1 : Nat)) (List.drop (1 : Nat) x0)).getD (0 : Nat) (0 : Int))) then (decide ((0 : Int) < (↑(List.take (x0.length - (1 : Nat)) (List.drop (1 : Nat) x0)).length : Int)) && (decide ((1 : Int) ≤ IntKind.i64.wrap ((1 : Int) + IntKind.i64.wrap ((List.take (x0.length - (1 : Nat)) (List.drop (1 : Nat) x0)).getD (0 : Nat) (0 : Int)))) && decide (IntKind.i64.wrap ((1 : Int) + IntKind.i64.wrap ((List.take (x0.length - (1 : Nat)) (List.drop (1 : Nat) x0)).getD (0 : Nat) (0 : Int))) ≤ (↑(List.take (x0.length - (1 : Nat)) (List.drop (1 : Nat) x0)).length : Int)) && decide ((0 : Int) < (↑(List.take (x0.length - (1 : Nat)) (List.drop (1 : Nat) x0)).length : Int)))) else true)) else true) else true))) else (bif (Sp.f167 (IntKind.i64.wrap (x0.getD (0 : Nat) (0 : Int)))).1 then (bif !x1 then Sp.mid (List.take (x0.length - (1 : Nat)) (List.drop (1 : Nat) x0)) else (bif (Sp.f167 (IntKind.i64.wrap (x0.getD (0 : Nat) (0 : Int)))).1 then (bif decide ((↑(List.take (x0.length - (1 : Nat)) (List.drop (1 : Nat) x0)).length : Int) ≥ (1 : Int)) then (decide ((0 : Int) < (↑(List.take (x0.length - (1 : Nat)) (List.drop (1 : Nat) x0)).length : Int)) && (bif decide ((↑(List.take (x0.length - (1 : Nat)) (List.drop (1 : Nat) x0)).length : Int) > IntKind.i64.wrap ((List.take (x0.length - (1 : Nat)) (List.drop (1 : Nat) x0)).getD (0 : Nat) (0 : Int))) then (decide ((0 : Int) < (↑(List.take (x0.length - (1 : Nat)) (List.drop (1 : Nat) x0)).length : Int)) && (decide ((1 : Int) ≤ IntKind.i64.wrap ((1 : Int) + IntKind.i64.wrap ((List.take (x0.length - (1 : Nat)) (List.drop (1 : Nat) x0)).getD (0 : Nat) (0 : Int)))) && decide (IntKind.i64.wrap ((1 : Int) + IntKind.i64.wrap ((List.take (x0.length - (1 : Nat)) (List.drop (1 : Nat) x0)).getD (0 : Nat) (0 : Int))) ≤ (↑(List.take (x0.length - (1 : Nat)) (List.drop (1 : Nat) x0)).length : Int)) && decide ((0 : Int) < (↑(List.take (x0.length - (1 : Nat)) (List.drop (1 : Nat) x0)).length : Int)))) else true)) else true) else true)) else (bif (Sp.f167 (IntKind.i64.wrap (x0.getD (0 : Nat) (0 : Int)))).1 then (bif decide ((↑(List.take (x0.length - (1 : Nat)) (List.drop (1 : Nat) x0)).length : Int) ≥ (1 : Int)) then (decide ((0 : Int) < (↑(List.take (x0.length - (1 : Nat)) (List.drop (1 : Nat) x0)).length : Int)) && (bif decide ((↑(List.take (x0.length - (1 : Nat)) (List.drop (1 : Nat) x0)).length : Int) > IntKind.i64.wrap ((List.take (x0.length - (1 : Nat)) (List.drop (1 : Nat) x0)).getD (0 : Nat) (0 : Int))) then (decide ((0 : Int) < (↑(List.take (x0.length - (1 : Nat)) (List.drop (1 : Nat) x0)).length : Int)) && (decide ((1 : Int) ≤ IntKind.i64.wrap ((1 : Int) + IntKind.i64.wrap ((List.take (x0.length - (1 : Nat)) (List.drop (1 : Nat) x0)).getD (0 : Nat) (0 : Int)))) && decide (IntKind.i64.wrap ((1 : Int) + IntKind.i64.wrap ((List.take (x0.length - (1 : Nat)) (List.drop (1 : Nat) x0)).getD (0 : Nat) (0 : Int))) ≤ (↑(List.take (x0.length - (1 : Nat)) (List.drop (1 : Nat) x0)).length : Int)) && decide ((0 : Int) < (↑(List.take (x0.length - (1 : Nat)) (List.drop (1 : Nat) x0)).length : Int)))) else true)) else true) else true)))))))
def Sp.f131x (x0 : List Int) (x1 : Bool) := (bif IntKind.i64.wrap (x0.getD (0 : Nat) (0 : Int)) == (0 : Int) then (((IntKind.i64.wrap (x0.getD (0 : Nat) (0 : Int)), (0 : Int), ByteArray.empty), (1 : Int)), ()) else (bif IntKind.i64.wrap (x0.getD (0 : Nat) (0 : Int)) == (1 : Int) then (bif decide ((↑(List.take (x0.length - (1 : Nat)) (List.drop (1 : Nat) x0)).length : Int) ≥ (1 : Int)) then (((IntKind.i64.wrap (x0.getD (0 : Nat) (0 : Int)), IntKind.i64.wrap ((List.take (x0.length - (1 : Nat)) (List.drop (1 : Nat) x0)).getD (0 : Nat) (0 : Int)), ByteArray.empty), (2 : Int)), ()) else (bif IntKind.i64.wrap (x0.getD (0 : Nat) (0 : Int)) == (2 : Int) then (bif decide ((↑(List.take (x0.length - (1 : Nat)) (List.drop (1 : Nat) x0)).length : Int) ≥ (8 : Int)) then (((IntKind.i64.wrap (x0.getD (0 : Nat) (0 : Int)), IntKind.i64.wrap (IntKind.u64.wrap (↑(BitVec.ofInt (64 : Nat) (↑(Sp.num (0 : Nat) (List.take (8 : Nat) (List.drop (0 : Nat) (List.take (x0.length - (1 : Nat)) (List.drop (1 : Nat) x0))))) : Int) ^^^ BitVec.ofInt (64 : Nat) (9223372036854775808 : Int)).toNat : Int)), ByteArray.empty), (9 : Int)), ()) else (bif (Sp.f167 (IntKind.i64.wrap (x0.getD (0 : Nat) (0 : Int)))).1 then (bif !x1 then (bif decide ((Sp.kt (List.take (x0.length - (1 : Nat)) (List.drop (1 : Nat) x0)) [] (0 : Int)).2 > (0 : Int)) then (((IntKind.i64.wrap (x0.getD (0 : Nat) (0 : Int)), (0 : Int), (Sp.kt (List.take (x0.length - (1 : Nat)) (List.drop (1 : Nat) x0)) [] (0 : Int)).1), IntKind.i64.wrap ((Sp.kt (List.take (x0.length - (1 : Nat)) (List.drop (1 : Nat) x0)) [] (0 : Int)).2 + (1 : Int))), ()) else ((((0 : Int), (0 : Int), ByteArray.empty), (0 : Int)), ())) else (bif (Sp.f167 (IntKind.i64.wrap (x0.getD (0 : Nat) (0 : Int)))).1 then (bif decide ((↑(List.take (x0.length - (1 : Nat)) (List.drop (1 : Nat) x0)).length : Int) ≥ (1 : Int)) then (bif decide ((↑(List.take (x0.length - (1 : Nat)) (List.drop (1 : Nat) x0)).length : Int) > IntKind.i64.wrap ((List.take (x0.length - (1 : Nat)) (List.drop (1 : Nat) x0)).getD (0 : Nat) (0 : Int))) then (((IntKind.i64.wrap (x0.getD (0 : Nat) (0 : Int)), (0 : Int), bytesStr (List.take ((IntKind.i64.wrap ((1 : Int) + IntKind.i64.wrap ((List.take (x0.length - (1 : Nat)) (List.drop (1 : Nat) x0)).getD (0 : Nat) (0 : Int)))).toNat - (1 : Nat)) (List.drop (1 : Nat) (List.take (x0.length - (1 : Nat)) (List.drop (1 : Nat) x0))))), IntKind.i64.wrap ((2 : Int) + IntKind.i64.wrap ((List.take (x0.length - (1 : Nat)) (List.drop (1 : Nat) x0)).getD (0 : Nat) (0 : Int)))), ()) else ((((0 : Int), (0 : Int), ByteArray.empty), (0 : Int)), ())) else ((((0 : Int), (0 : Int), ByteArray.empty), (0 : Int)), ())) else ((((0 : Int), (0 : Int), ByteArray.empty), (0 : Int)), ()))) else (bif (Sp.f167 (IntKind.i64.wrap (x0.getD (0 : Nat) (0 : Int)))).1 then (bif decide ((↑(List.take (x0.length - (1 : Nat)) (List.drop (1 : Nat) x0)).length : Int) ≥ (1 : Int)) then (bif decide ((↑(List.take (x0.length - (1 : Nat)) (List.drop (1 : Nat) x0)).length : Int) > IntKind.i64.wrap ((List.take (x0.length - (1 : Nat)) (List.drop (1 : Nat) x0)).getD (0 : Nat) (0 : Int))) then (((IntKind.i64.wrap (x0.getD (0 : Nat) (0 : Int)), (0 : Int), bytesStr (List.take ((IntKind.i64.wrap ((1 : Int) + IntKind.i64.wrap ((List.take (x0.length - (1 : Nat)) (List.drop (1 : Nat) x0)).getD (0 : Nat) (0 : Int)))).toNat - (1 : Nat)) (List.drop (1 : Nat) (List.take (x0.length - (1 : Nat)) (List.drop (1 : Nat) x0))))), IntKind.i64.wrap ((2 : Int) + IntKind.i64.wrap ((List.take (x0.length - (1 : Nat)) (List.drop (1 : Nat) x0)).getD (0 : Nat) (0 : Int)))), ()) else ((((0 : Int), (0 : Int), ByteArray.empty), (0 : Int)), ())) else ((((0 : Int), (0 : Int), ByteArray.empty), (0 : Int)), ())) else ((((0 : Int), (0 : Int), ByteArray.empty), (0 : Int)), ())))) else (bif (Sp.f167 (IntKind.i64.wrap (x0.getD (0 : Nat) (0 : Int)))).1 then (bif !x1 then (bif decide ((Sp.kt (List.take (x0.length - (1 : Nat)) (List.drop (1 : Nat) x0)) [] (0 : Int)).2 > (0 : Int)) then (((IntKind.i64.wrap (x0.getD (0 : Nat) (0 : Int)), (0 : Int), (Sp.kt (List.take (x0.length - (1 : Nat)) (List.drop (1 : Nat) x0)) [] (0 : Int)).1), IntKind.i64.wrap ((Sp.kt (List.take (x0.length - (1 : Nat)) (List.drop (1 : Nat) x0)) [] (0 : Int)).2 + (1 : Int))), ()) else ((((0 : Int), (0 : Int), ByteArray.empty), (0 : Int)), ())) else (bif (Sp.f167 (IntKind.i64.wrap (x0.getD (0 : Nat) (0 : Int)))).1 then (bif decide ((↑(List.take (x0.length - (1 : Nat)) (List.drop (1 : Nat) x0)).length : Int) ≥ (1 : Int)) then (bif decide ((↑(List.take (x0.length - (1 : Nat)) (List.drop (1 : Nat) x0)).length : Int) > IntKind.i64.wrap ((List.take (x0.length - (1 : Nat)) (List.drop (1 : Nat) x0)).getD (0 : Nat) (0 : Int))) then (((IntKind.i64.wrap (x0.getD (0 : Nat) (0 : Int)), (0 : Int), bytesStr (List.take ((IntKind.i64.wrap ((1 : Int) + IntKind.i64.wrap ((List.take (x0.length - (1 : Nat)) (List.drop (1 : Nat) x0)).getD (0 : Nat) (0 : Int)))).toNat - (1 : Nat)) (List.drop (1 : Nat) (List.take (x0.length - (1 : Nat)) (List.drop (1 : Nat) x0))))), IntKind.i64.wrap ((2 : Int) + IntKind.i64.wrap ((List.take (x0.length - (1 : Nat)) (List.drop (1 : Nat) x0)).getD (0 : Nat) (0 : Int)))), ()) else ((((0 : Int), (0 : Int), ByteArray.empty), (0 : Int)), ())) else ((((0 : Int), (0 : Int), ByteArray.empty), (0 : Int)), ())) else ((((0 : Int), (0 : Int), ByteArray.empty), (0 : Int)), ()))) else (bif (Sp.f167 (IntKind.i64.wrap (x0.getD (0 : Nat) (0 : Int)))).1 then (bif decide ((↑(List.take (x0.length - (1 : Nat)) (List.drop (1 : Nat) x0)).length : Int) ≥ (1 : Int)) then (bif decide ((↑(List.take (x0.length - (1 : Nat)) (List.drop (1 : Nat) x0)).length : Int) > IntKind.i64.wrap ((List.take (x0.length - (1 : Nat)) (List.drop (1 : Nat) x0)).getD (0 : Nat) (0 : Int))) then (((IntKind.i64.wrap (x0.getD (0 : Nat) (0 : Int)), (0 : Int), bytesStr (List.take ((IntKind.i64.wrap ((1 : Int) + IntKind.i64.wrap ((List.take (x0.length - (1 : Nat)) (List.drop (1 : Nat) x0)).getD (0 : Nat) (0 : Int)))).toNat - (1 : Nat)) (List.drop (1 : Nat) (List.take (x0.length - (1 : Nat)) (List.drop (1 : Nat) x0))))), IntKind.i64.wrap ((2 : Int) + IntKind.i64.wrap ((List.take (x0.length - (1 : Nat)) (List.drop (1 : Nat) x0)).getD (0 : Nat) (0 : Int)))), ()) else ((((0 : Int), (0 : Int), ByteArray.empty), (0 : Int)), ())) else ((((0 : Int), (0 : Int), ByteArray.empty), (0 : Int)), ())) else ((((0 : Int), (0 : Int), ByteArray.empty), (0 : Int)), ()))))) else (bif IntKind.i64.wrap (x0.getD (0 : Nat) (0 : Int)) == (2 : Int) then (bif decide ((↑(List.take (x0.length - (1 : Nat)) (List.drop (1 : Nat) x0)).length : Int) ≥ (8 : Int)) then (((IntKind.i64.wrap (x0.getD (0 : Nat) (0 : Int)), IntKind.i64.wrap (IntKind.u64.wrap (↑(BitVec.ofInt (64 : Nat) (↑(Sp.num (0 : Nat) (List.take (8 : Nat) (List.drop (0 : Nat) (List.take (x0.length - (1 : Nat)) (List.drop (1 : Nat) x0))))) : Int) ^^^ BitVec.ofInt (64 : Nat) (9223372036854775808 : Int)).toNat : Int)), ByteArray.empty), (9 : Int)), ()) else (bif (Sp.f167 (IntKind.i64.wrap (x0.getD (0 : Nat) (0 : Int)))).1 then (bif !x1 then (bif decide ((Sp.kt (List.take (x0.length - (1 : Nat)) (List.drop (1 : Nat) x0)) [] (0 : Int)).2 > (0 : Int)) then (((IntKind.i64.wrap (x0.getD (0 : Nat) (0 : Int)), (0 : Int), (Sp.kt (List.take (x0.length - (1 : Nat)) (List.drop (1 : Nat) x0)) [] (0 : Int)).1), IntKind.i64.wrap ((Sp.kt (List.take (x0.length - (1 : Nat)) (List.drop (1 : Nat) x0)) [] (0 : Int)).2 + (1 : Int))), ()) else ((((0 : Int), (0 : Int), ByteArray.empty), (0 : Int)), ())) else (bif (Sp.f167 (IntKind.i64.wrap (x0.getD (0 : Nat) (0 : Int)))).1 then (bif decide ((↑(List.take (x0.length - (1 : Nat)) (List.drop (1 : Nat) x0)).length : Int) ≥ (1 : Int)) then (bif decide ((↑(List.take (x0.length - (1 : Nat)) (List.drop (1 : Nat) x0)).length : Int) > IntKind.i64.wrap ((List.take (x0.length - (1 : Nat)) (List.drop (1 : Nat) x0)).getD (0 : Nat) (0 : Int))) then (((IntKind.i64.wrap (x0.getD (0 : Nat) (0 : Int)), (0 : Int), bytesStr (List.take ((IntKind.i64.wrap ((1 : Int) + IntKind.i64.wrap ((List.take (x0.length - (1 : Nat)) (List.drop (1 : Nat) x0)).getD (0 : Nat) (0 : Int)))).toNat - (1 : Nat)) (List.drop (1 : Nat) (List.take (x0.length - (1 : Nat)) (List.drop (1 : Nat) x0))))), IntKind.i64.wrap ((2 : Int) + IntKind.i64.wrap ((List.take (x0.length - (1 : Nat)) (List.drop (1 : Nat) x0)).getD (0 : Nat) (0 : Int)))), ()) else ((((0 : Int), (0 : Int), ByteArray.empty), (0 : Int)), ())) else ((((0 : Int), (0 : Int), ByteArray.empty), (0 : Int)), ())) else ((((0 : Int), (0 : Int), ByteArray.empty), (0 : Int)), ()))) else (bif (Sp.f167 (IntKind.i64.wrap (x0.getD (0 : Nat) (0 : Int)))).1 then (bif decide ((↑(List.take (x0.length - (1 : Nat)) (List.drop (1 : Nat) x0)).length : Int) ≥ (1 : Int)) then (bif decide ((↑(List.take (x0.length - (1 : Nat)) (List.drop (1 : Nat) x0)).length : Int) > IntKind.i64.wrap ((List.take (x0.length - (1 : Nat)) (List.drop (1 : Nat) x0)).getD (0 : Nat) (0 : Int))) then (((IntKind.i64.wrap (x0.getD (0 : Nat) (0 : Int)), (0 : Int), bytesStr (List.take ((IntKind.i64.wrap ((1 : Int) + IntKind.i64.wrap ((List.take (x0.length - (1 : Nat)) (List.drop (1 : Nat) x0)).getD (0 : Nat) (0 : Int)))).toNat - (1 : Nat)) (List.drop (1 : Nat) (List.take (x0.length - (1 : Nat)) (List.drop (1 : Nat) x0))))), IntKind.i64.wrap ((2 : Int) + IntKind.i64.wrap ((List.take (x0.length - (1 : Nat)) (List.drop (1 : Nat) x0)).getD (0 : Nat) (0 : Int)))), ()) else ((((0 : Int), (0 : Int), ByteArray.empty), (0 : Int)), ())) else ((((0 : Int), (0 : Int), ByteArray.empty), (0 : Int)), ())) else ((((0 : Int), (0 : Int), ByteArray.empty), (0 : Int)), ())))) else (bif (Sp.f167 (IntKind.i64.wrap (x0.getD (0 : Nat) (0 : Int)))).1 then (bif !x1 then (bif decide ((Sp.kt (List.take (x0.length - (1 : Nat)) (List.drop (1 : Nat) x0)) [] (0 : Int)).2 > (0 : Int)) then (((IntKind.i64.wrap (x0.getD (0 : Nat) (0 : Int)), (0 : Int), (Sp.kt (List.take (x0.length - (1 : Nat)) (List.drop (1 : Nat) x0)) [] (0 : Int)).1), IntKind.i64.wrap ((Sp.kt (List.take (x0.length - (1 : Nat)) (List.drop (1 : Nat) x0)) [] (0 : Int)).2 + (1 : Int))), ()) else ((((0 : Int), (0 : Int), ByteArray.empty), (0 : Int)), ())) else (bif (Sp.f167 (IntKind.i64.wrap (x0.getD (0 : Nat) (0 : Int)))).1 then (bif decide ((↑(List.take (x0.length - (1 : Nat)) (List.drop (1 : Nat) x0)).length : Int) ≥ (1 : Int)) then (bif decide ((↑(List.take (x0.length - (1 : Nat)) (List.drop (1 : Nat) x0)).length : Int) > IntKind.i64.wrap ((List.take (x0.length - (1 : Nat)) (List.drop (1 : Nat) x0)).getD (0 : Nat) (0 : Int))) then (((IntKind.i64.wrap (x0.getD (0 : Nat) (0 : Int)), (0 : Int), bytesStr (List.take ((IntKind.i64.wrap ((1 : Int) + IntKind.i64.wrap ((List.take (x0.length - (1 : Nat)) (List.drop (1 : Nat) x0)).getD (0 : Nat) (0 : Int)))).toNat - (1 : Nat)) (List.drop (1 : Nat) (List.take (x0.length - (1 : Nat)) (List.drop (1 : Nat) x0))))), IntKind.i64.wrap ((2 : Int) + IntKind.i64.wrap ((List.take (x0.length - (1 : Nat)) (List.drop (1 : Nat) x0)).getD (0 : Nat) (0 : Int)))), ()) else ((((0 : Int), (0 : Int), ByteArray.empty), (0 : Int)), ())) else ((((0 : Int), (0 : Int), ByteArray.empty), (0 : Int)), ())) else ((((0 : Int), (0 : Int), ByteArray.empty), (0 : Int)), ()))) else (bif (Sp.f167 (IntKind.i64.wrap (x0.getD (0 : Nat) (0 : Int)))).1 then (bif decide ((↑(List.take (x0.length - (1 : Nat)) (List.drop (1 : Nat) x0)).length : Int) ≥ (1 : Int)) then (bif decide ((↑(List.take (x0.length - (1 : Nat)) (List.drop (1 : Nat) x0)).length : Int) > IntKind.i64.wrap ((List.take (x0.length - (1 : Nat)) (List.drop (1 : Nat) x0)).getD (0 : Nat) (0 : Int))) then (((IntKind.i64.wrap (x0.getD (0 : Nat) (0 : Int)), (0 : Int), bytesStr (List.take ((IntKind.i64.wrap ((1 : Int) + IntKind.i64.wrap ((List.take (x0.length - (1 : Nat)) (List.drop (1 : Nat) x0)).getD (0 : Nat) (0 : Int)))).toNat - (1 : Nat)) (List.drop (1 : Nat) (List.take (x0.length - (1 : Nat)) (List.drop (1 : Nat) x0))))), IntKind.i64.wrap ((2 : Int) + IntKind.i64.wrap ((List.take (x0.length - (1 : Nat)) (List.drop (1 : Nat) x0)).getD (0 : Nat) (0 : Int)))), ()) else ((((0 : Int), (0 : Int), ByteArray.empty), (0 : Int)), ())) else ((((0 : Int), (0 : Int), ByteArray.empty), (0 : Int)), ())) else ((((0 : Int), (0 : Int), ByteArray.empty), (0 : Int)), ()))))))
noncomputable def e131x : Ent := { f := 131, ins := [Sh.one (C0.dat (Ty.int IntKind.u8).slice), Sh.one (C0.dat Ty.bool)], outs := [Sh.agg [C0.dat (Ty.int IntKind.i64), C0.dat (Ty.int IntKind.i64), C0.dat Ty.str], Sh.one (C0.dat (Ty.int IntKind.i64))], upd := [], pre := fun a => Sp.f131x_pre a.1 a.2, spec := fun a => (Sp.f131x a.1 a.2).1, wrt := fun a => (Sp.f131x a.1 a.2).2 }
def f131x_g (v : denS [Sh.agg [C0.dat (Ty.int IntKind.i64), C0.dat (Ty.int IntKind.i64), C0.dat Ty.str], Sh.one (C0.dat (Ty.int IntKind.i64))] × denS []) : Res := ⟨mkS [Sh.agg [C0.dat (Ty.int IntKind.i64), C0.dat (Ty.int IntKind.i64), C0.dat Ty.str], Sh.one (C0.dat (Ty.int IntKind.i64))] v.1, mkU [] v.2⟩
theorem f131x_raw (x0 : List Int) (x1 : Bool) : abody Γ (orc [e77, e167, e168]) 0 131 [XV.mk false [X.c (X0.dat (Ty.int IntKind.u8).slice x0)], XV.mk false [X.c (X0.dat Ty.bool x1)]] = chk (decide ((0 : Int) < (↑x0.length : Int))) (chk (decide ((1 : Int) ≤ (↑x0.length : Int))) (bif IntKind.i64.wrap (x0.getD (0 : Nat) (0 : Int)) == (0 : Int) then some (Res.mk [XV.mk true [X.c (X0.dat (Ty.int IntKind.i64) (IntKind.i64.wrap (x0.getD (0 : Nat) (0 : Int)))), X.c (X0.dat (Ty.int IntKind.i64) (0 : Int)), X.c (X0.dat Ty.str ByteArray.empty)], XV.mk false [X.c (X0.dat (Ty.int IntKind.i64) (1 : Int))]] []) else bif IntKind.i64.wrap (x0.getD (0 : Nat) (0 : Int)) == (1 : Int) then bif decide ((↑(List.take (x0.length - (1 : Nat)) (List.drop (1 : Nat) x0)).length : Int) ≥ (1 : Int)) then chk (decide ((0 : Int) < (↑(List.take (x0.length - (1 : Nat)) (List.drop (1 : Nat) x0)).length : Int))) (some (Res.mk [XV.mk true [X.c (X0.dat (Ty.int IntKind.i64) (IntKind.i64.wrap (x0.getD (0 : Nat) (0 : Int)))), X.c (X0.dat (Ty.int IntKind.i64) (IntKind.i64.wrap ((List.take (x0.length - (1 : Nat)) (List.drop (1 : Nat) x0)).getD (0 : Nat) (0 : Int)))), X.c (X0.dat Ty.str ByteArray.empty)], XV.mk false [X.c (X0.dat (Ty.int IntKind.i64) (2 : Int))]] [])) else bif IntKind.i64.wrap (x0.getD (0 : Nat) (0 : Int)) == (2 : Int) then bif decide ((↑(List.take (x0.length - (1 : Nat)) (List.drop (1 : Nat) x0)).length : Int) ≥ (8 : Int)) then chk (decide ((8 : Int) ≤ (↑(List.take (x0.length - (1 : Nat)) (List.drop (1 : Nat) x0)).length : Int))) (chk (Sp.eight (List.take (8 : Nat) (List.drop (0 : Nat) (List.take (x0.length - (1 : Nat)) (List.drop (1 : Nat) x0))))) (some (Res.mk [XV.mk true [X.c (X0.dat (Ty.int IntKind.i64) (IntKind.i64.wrap (x0.getD (0 : Nat) (0 : Int)))), X.c (X0.dat (Ty.int IntKind.i64) (IntKind.i64.wrap (IntKind.u64.wrap (↑(BitVec.ofInt (64 : Nat) (↑(Sp.num (0 : Nat) (List.take (8 : Nat) (List.drop (0 : Nat) (List.take (x0.length - (1 : Nat)) (List.drop (1 : Nat) x0))))) : Int) ^^^ BitVec.ofInt (64 : Nat) (9223372036854775808 : Int)).toNat : Int)))), X.c (X0.dat Ty.str ByteArray.empty)], XV.mk false [X.c (X0.dat (Ty.int IntKind.i64) (9 : Int))]] []))) else bif (Sp.f167 (IntKind.i64.wrap (x0.getD (0 : Nat) (0 : Int)))).1 then bif !x1 then chk (Sp.mid (List.take (x0.length - (1 : Nat)) (List.drop (1 : Nat) x0))) (bif decide ((Sp.kt (List.take (x0.length - (1 : Nat)) (List.drop (1 : Nat) x0)) [] (0 : Int)).2 > (0 : Int)) then some (Res.mk [XV.mk true [X.c (X0.dat (Ty.int IntKind.i64) (IntKind.i64.wrap (x0.getD (0 : Nat) (0 : Int)))), X.c (X0.dat (Ty.int IntKind.i64) (0 : Int)), X.c (X0.dat Ty.str (Sp.kt (List.take (x0.length - (1 : Nat)) (List.drop (1 : Nat) x0)) [] (0 : Int)).1)], XV.mk false [X.c (X0.dat (Ty.int IntKind.i64) (IntKind.i64.wrap ((Sp.kt (List.take (x0.length - (1 : Nat)) (List.drop (1 : Nat) x0)) [] (0 : Int)).2 + (1 : Int))))]] []) else some (Res.mk [XV.mk true [X.c (X0.dat (Ty.int IntKind.i64) (0 : Int)), X.c (X0.dat (Ty.int IntKind.i64) (0 : Int)), X.c (X0.dat Ty.str ByteArray.empty)], XV.mk false [X.c (X0.dat (Ty.int IntKind.i64) (0 : Int))]] [])) else bif (Sp.f167 (IntKind.i64.wrap (x0.getD (0 : Nat) (0 : Int)))).1 then bif decide ((↑(List.take (x0.length - (1 : Nat)) (List.drop (1 : Nat) x0)).length : Int) ≥ (1 : Int)) then chk (decide ((0 : Int) < (↑(List.take (x0.length - (1 : Nat)) (List.drop (1 : Nat) x0)).length : Int))) (bif decide ((↑(List.take (x0.length - (1 : Nat)) (List.drop (1 : Nat) x0)).length : Int) > IntKind.i64.wrap ((List.take (x0.length - (1 : Nat)) (List.drop (1 : Nat) x0)).getD (0 : Nat) (0 : Int))) then chk (decide ((0 : Int) < (↑(List.take (x0.length - (1 : Nat)) (List.drop (1 : Nat) x0)).length : Int))) (chk (decide ((1 : Int) ≤ IntKind.i64.wrap ((1 : Int) + IntKind.i64.wrap ((List.take (x0.length - (1 : Nat)) (List.drop (1 : Nat) x0)).getD (0 : Nat) (0 : Int)))) && decide (IntKind.i64.wrap ((1 : Int) + IntKind.i64.wrap ((List.take (x0.length - (1 : Nat)) (List.drop (1 : Nat) x0)).getD (0 : Nat) (0 : Int))) ≤ (↑(List.take (x0.length - (1 : Nat)) (List.drop (1 : Nat) x0)).length : Int))) (chk (decide ((0 : Int) < (↑(List.take (x0.length - (1 : Nat)) (List.drop (1 : Nat) x0)).length : Int))) (some (Res.mk [XV.mk true [X.c (X0.dat (Ty.int IntKind.i64) (IntKind.i64.wrap (x0.getD (0 : Nat) (0 : Int)))), X.c (X0.dat (Ty.int IntKind.i64) (0 : Int)), X.c (X0.dat Ty.str (bytesStr (List.take ((IntKind.i64.wrap ((1 : Int) + IntKind.i64.wrap ((List.take (x0.length - (1 : Nat)) (List.drop (1 : Nat) x0)).getD (0 : Nat) (0 : Int)))).toNat - (1 : Nat)) (List.drop (1 : Nat) (List.take (x0.length - (1 : Nat)) (List.drop (1 : Nat) x0))))))], XV.mk false [X.c (X0.dat (Ty.int IntKind.i64) (IntKind.i64.wrap ((2 : Int) + IntKind.i64.wrap ((List.take (x0.length - (1 : Nat)) (List.drop (1 : Nat) x0)).getD (0 : Nat) (0 : Int)))))]] [])))) else some (Res.mk [XV.mk true [X.c (X0.dat (Ty.int IntKind.i64) (0 : Int)), X.c (X0.dat (Ty.int IntKind.i64) (0 : Int)), X.c (X0.dat Ty.str ByteArray.empty)], XV.mk false [X.c (X0.dat (Ty.int IntKind.i64) (0 : Int))]] [])) else some (Res.mk [XV.mk true [X.c (X0.dat (Ty.int IntKind.i64) (0 : Int)), X.c (X0.dat (Ty.int IntKind.i64) (0 : Int)), X.c (X0.dat Ty.str ByteArray.empty)], XV.mk false [X.c (X0.dat (Ty.int IntKind.i64) (0 : Int))]] []) else some (Res.mk [XV.mk true [X.c (X0.dat (Ty.int IntKind.i64) (0 : Int)), X.c (X0.dat (Ty.int IntKind.i64) (0 : Int)), X.c (X0.dat Ty.str ByteArray.empty)], XV.mk false [X.c (X0.dat (Ty.int IntKind.i64) (0 : Int))]] []) else bif (Sp.f167 (IntKind.i64.wrap (x0.getD (0 : Nat) (0 : Int)))).1 then bif decide ((↑(List.take (x0.length - (1 : Nat)) (List.drop (1 : Nat) x0)).length : Int) ≥ (1 : Int)) then chk (decide ((0 : Int) < (↑(List.take (x0.length - (1 : Nat)) (List.drop (1 : Nat) x0)).length : Int))) (bif decide ((↑(List.take (x0.length - (1 : Nat)) (List.drop (1 : Nat) x0)).length : Int) > IntKind.i64.wrap ((List.take (x0.length - (1 : Nat)) (List.drop (1 : Nat) x0)).getD (0 : Nat) (0 : Int))) then chk (decide ((0 : Int) < (↑(List.take (x0.length - (1 : Nat)) (List.drop (1 : Nat) x0)).length : Int))) (chk (decide ((1 : Int) ≤ IntKind.i64.wrap ((1 : Int) + IntKind.i64.wrap ((List.take (x0.length - (1 : Nat)) (List.drop (1 : Nat) x0)).getD (0 : Nat) (0 : Int)))) && decide (IntKind.i64.wrap ((1 : Int) + IntKind.i64.wrap ((List.take (x0.length - (1 : Nat)) (List.drop (1 : Nat) x0)).getD (0 : Nat) (0 : Int))) ≤ (↑(List.take (x0.length - (1 : Nat)) (List.drop (1 : Nat) x0)).length : Int))) (chk (decide ((0 : Int) < (↑(List.take (x0.length - (1 : Nat)) (List.drop (1 : Nat) x0)).length : Int))) (some (Res.mk [XV.mk true [X.c (X0.dat (Ty.int IntKind.i64) (IntKind.i64.wrap (x0.getD (0 : Nat) (0 : Int)))), X.c (X0.dat (Ty.int IntKind.i64) (0 : Int)), X.c (X0.dat Ty.str (bytesStr (List.take ((IntKind.i64.wrap ((1 : Int) + IntKind.i64.wrap ((List.take (x0.length - (1 : Nat)) (List.drop (1 : Nat) x0)).getD (0 : Nat) (0 : Int)))).toNat - (1 : Nat)) (List.drop (1 : Nat) (List.take (x0.length - (1 : Nat)) (List.drop (1 : Nat) x0))))))], XV.mk false [X.c (X0.dat (Ty.int IntKind.i64) (IntKind.i64.wrap ((2 : Int) + IntKind.i64.wrap ((List.take (x0.length - (1 : Nat)) (List.drop (1 : Nat) x0)).getD (0 : Nat) (0 : Int)))))]] [])))) else some (Res.mk [XV.mk true [X.c (X0.dat (Ty.int IntKind.i64) (0 : Int)), X.c (X0.dat (Ty.int IntKind.i64) (0 : Int)), X.c (X0.dat Ty.str ByteArray.empty)], XV.mk false [X.c (X0.dat (Ty.int IntKind.i64) (0 : Int))]] [])) else some (Res.mk [XV.mk true [X.c (X0.dat (Ty.int IntKind.i64) (0 : Int)), X.c (X0.dat (Ty.int IntKind.i64) (0 : Int)), X.c (X0.dat Ty.str ByteArray.empty)], XV.mk false [X.c (X0.dat (Ty.int IntKind.i64) (0 : Int))]] []) else some (Res.mk [XV.mk true [X.c (X0.dat (Ty.int IntKind.i64) (0 : Int)), X.c (X0.dat (Ty.int IntKind.i64) (0 : Int)), X.c (X0.dat Ty.str ByteArray.empty)], XV.mk false [X.c (X0.dat (Ty.int IntKind.i64) (0 : Int))]] []) else bif (Sp.f167 (IntKind.i64.wrap (x0.getD (0 : Nat) (0 : Int)))).1 then bif !x1 then chk (Sp.mid (List.take (x0.length - (1 : Nat)) (List.drop (1 : Nat) x0))) (bif decide ((Sp.kt (List.take (x0.length - (1 : Nat)) (List.drop (1 : Nat) x0)) [] (0 : Int)).2 > (0 : Int)) then some (Res.mk [XV.mk true [X.c (X0.dat (Ty.int IntKind.i64) (IntKind.i64.wrap (x0.getD (0 : Nat) (0 : Int)))), X.c (X0.dat (Ty.int IntKind.i64) (0 : Int)), X.c (X0.dat Ty.str (Sp.kt (List.take (x0.length - (1 : Nat)) (List.drop (1 : Nat) x0)) [] (0 : Int)).1)], XV.mk false [X.c (X0.dat (Ty.int IntKind.i64) (IntKind.i64.wrap ((Sp.kt (List.take (x0.length - (1 : Nat)) (List.drop (1 : Nat) x0)) [] (0 : Int)).2 + (1 : Int))))]] []) else some (Res.mk [XV.mk true [X.c (X0.dat (Ty.int IntKind.i64) (0 : Int)), X.c (X0.dat (Ty.int IntKind.i64) (0 : Int)), X.c (X0.dat Ty.str ByteArray.empty)], XV.mk false [X.c (X0.dat (Ty.int IntKind.i64) (0 : Int))]] [])) else bif (Sp.f167 (IntKind.i64.wrap (x0.getD (0 : Nat) (0 : Int)))).1 then bif decide ((↑(List.take (x0.length - (1 : Nat)) (List.drop (1 : Nat) x0)).length : Int) ≥ (1 : Int)) then chk (decide ((0 : Int) < (↑(List.take (x0.length - (1 : Nat)) (List.drop (1 : Nat) x0)).length : Int))) (bif decide ((↑(List.take (x0.length - (1 : Nat)) (List.drop (1 : Nat) x0)).length : Int) > IntKind.i64.wrap ((List.take (x0.length - (1 : Nat)) (List.drop (1 : Nat) x0)).getD (0 : Nat) (0 : Int))) then chk (decide ((0 : Int) < (↑(List.take (x0.length - (1 : Nat)) (List.drop (1 : Nat) x0)).length : Int))) (chk (decide ((1 : Int) ≤ IntKind.i64.wrap ((1 : Int) + IntKind.i64.wrap ((List.take (x0.length - (1 : Nat)) (List.drop (1 : Nat) x0)).getD (0 : Nat) (0 : Int)))) && decide (IntKind.i64.wrap ((1 : Int) + IntKind.i64.wrap ((List.take (x0.length - (1 : Nat)) (List.drop (1 : Nat) x0)).getD (0 : Nat) (0 : Int))) ≤ (↑(List.take (x0.length - (1 : Nat)) (List.drop (1 : Nat) x0)).length : Int))) (chk (decide ((0 : Int) < (↑(List.take (x0.length - (1 : Nat)) (List.drop (1 : Nat) x0)).length : Int))) (some (Res.mk [XV.mk true [X.c (X0.dat (Ty.int IntKind.i64) (IntKind.i64.wrap (x0.getD (0 : Nat) (0 : Int)))), X.c (X0.dat (Ty.int IntKind.i64) (0 : Int)), X.c (X0.dat Ty.str (bytesStr (List.take ((IntKind.i64.wrap ((1 : Int) + IntKind.i64.wrap ((List.take (x0.length - (1 : Nat)) (List.drop (1 : Nat) x0)).getD (0 : Nat) (0 : Int)))).toNat - (1 : Nat)) (List.drop (1 : Nat) (List.take (x0.length - (1 : Nat)) (List.drop (1 : Nat) x0))))))], XV.mk false [X.c (X0.dat (Ty.int IntKind.i64) (IntKind.i64.wrap ((2 : Int) + IntKind.i64.wrap ((List.take (x0.length - (1 : Nat)) (List.drop (1 : Nat) x0)).getD (0 : Nat) (0 : Int)))))]] [])))) else some (Res.mk [XV.mk true [X.c (X0.dat (Ty.int IntKind.i64) (0 : Int)), X.c (X0.dat (Ty.int IntKind.i64) (0 : Int)), X.c (X0.dat Ty.str ByteArray.empty)], XV.mk false [X.c (X0.dat (Ty.int IntKind.i64) (0 : Int))]] [])) else some (Res.mk [XV.mk true [X.c (X0.dat (Ty.int IntKind.i64) (0 : Int)), X.c (X0.dat (Ty.int IntKind.i64) (0 : Int)), X.c (X0.dat Ty.str ByteArray.empty)], XV.mk false [X.c (X0.dat (Ty.int IntKind.i64) (0 : Int))]] []) else some (Res.mk [XV.mk true [X.c (X0.dat (Ty.int IntKind.i64) (0 : Int)), X.c (X0.dat (Ty.int IntKind.i64) (0 : Int)), X.c (X0.dat Ty.str ByteArray.empty)], XV.mk false [X.c (X0.dat (Ty.int IntKind.i64) (0 : Int))]] []) else bif (Sp.f167 (IntKind.i64.wrap (x0.getD (0 : Nat) (0 : Int)))).1 then bif decide ((↑(List.take (x0.length - (1 : Nat)) (List.drop (1 : Nat) x0)).length : Int) ≥ (1 : Int)) then chk (decide ((0 : Int) < (↑(List.take (x0.length - (1 : Nat)) (List.drop (1 : Nat) x0)).length : Int))) (bif decide ((↑(List.take (x0.length - (1 : Nat)) (List.drop (1 : Nat) x0)).length : Int) > IntKind.i64.wrap ((List.take (x0.length - (1 : Nat)) (List.drop (1 : Nat) x0)).getD (0 : Nat) (0 : Int))) then chk (decide ((0 : Int) < (↑(List.take (x0.length - (1 : Nat)) (List.drop (1 : Nat) x0)).length : Int))) (chk (decide ((1 : Int) ≤ IntKind.i64.wrap ((1 : Int) + IntKind.i64.wrap ((List.take (x0.length - (1 : Nat)) (List.drop (1 : Nat) x0)).getD (0 : Nat) (0 : Int)))) && decide (IntKind.i64.wrap ((1 : Int) + IntKind.i64.wrap ((List.take (x0.length - (1 : Nat)) (List.drop (1 : Nat) x0)).getD (0 : Nat) (0 : Int))) ≤ (↑(List.take (x0.length - (1 : Nat)) (List.drop (1 : Nat) x0)).length : Int))) (chk (decide ((0 : Int) < (↑(List.take (x0.length - (1 : Nat)) (List.drop (1 : Nat) x0)).length : Int))) (some (Res.mk [XV.mk true [X.c (X0.dat (Ty.int IntKind.i64) (IntKind.i64.wrap (x0.getD (0 : Nat) (0 : Int)))), X.c (X0.dat (Ty.int IntKind.i64) (0 : Int)), X.c (X0.dat Ty.str (bytesStr (List.take ((IntKind.i64.wrap ((1 : Int) + IntKind.i64.wrap ((List.take (x0.length - (1 : Nat)) (List.drop (1 : Nat) x0)).getD (0 : Nat) (0 : Int)))).toNat - (1 : Nat)) (List.drop (1 : Nat) (List.take (x0.length - (1 : Nat)) (List.drop (1 : Nat) x0))))))], XV.mk false [X.c (X0.dat (Ty.int IntKind.i64) (IntKind.i64.wrap ((2 : Int) + IntKind.i64.wrap ((List.take (x0.length - (1 : Nat)) (List.drop (1 : Nat) x0)).getD (0 : Nat) (0 : Int)))))]] [])))) else some (Res.mk [XV.mk true [X.c (X0.dat (Ty.int IntKind.i64) (0 : Int)), X.c (X0.dat (Ty.int IntKind.i64) (0 : Int)), X.c (X0.dat Ty.str ByteArray.empty)], XV.mk false [X.c (X0.dat (Ty.int IntKind.i64) (0 : Int))]] [])) else some (Res.mk [XV.mk true [X.c (X0.dat (Ty.int IntKind.i64) (0 : Int)), X.c (X0.dat (Ty.int IntKind.i64) (0 : Int)), X.c (X0.dat Ty.str ByteArray.empty)], XV.mk false [X.c (X0.dat (Ty.int IntKind.i64) (0 : Int))]] []) else some (Res.mk [XV.mk true [X.c (X0.dat (Ty.int IntKind.i64) (0 : Int)), X.c (X0.dat (Ty.int IntKind.i64) (0 : Int)), X.c (X0.dat Ty.str ByteArray.empty)], XV.mk false [X.c (X0.dat (Ty.int IntKind.i64) (0 : Int))]] []) else bif IntKind.i64.wrap (x0.getD (0 : Nat) (0 : Int)) == (2 : Int) then bif decide ((↑(List.take (x0.length - (1 : Nat)) (List.drop (1 : Nat) x0)).length : Int) ≥ (8 : Int)) then chk (decide ((8 : Int) ≤ (↑(List.take (x0.length - (1 : Nat)) (List.drop (1 : Nat) x0)).length : Int))) (chk (Sp.eight (List.take (8 : Nat) (List.drop (0 : Nat) (List.take (x0.length - (1 : Nat)) (List.drop (1 : Nat) x0))))) (some (Res.mk [XV.mk true [X.c (X0.dat (Ty.int IntKind.i64) (IntKind.i64.wrap (x0.getD (0 : Nat) (0 : Int)))), X.c (X0.dat (Ty.int IntKind.i64) (IntKind.i64.wrap (IntKind.u64.wrap (↑(BitVec.ofInt (64 : Nat) (↑(Sp.num (0 : Nat) (List.take (8 : Nat) (List.drop (0 : Nat) (List.take (x0.length - (1 : Nat)) (List.drop (1 : Nat) x0))))) : Int) ^^^ BitVec.ofInt (64 : Nat) (9223372036854775808 : Int)).toNat : Int)))), X.c (X0.dat Ty.str ByteArray.empty)], XV.mk false [X.c (X0.dat (Ty.int IntKind.i64) (9 : Int))]] []))) else bif (Sp.f167 (IntKind.i64.wrap (x0.getD (0 : Nat) (0 : Int)))).1 then bif !x1 then chk (Sp.mid (List.take (x0.length - (1 : Nat)) (List.drop (1 : Nat) x0))) (bif decide ((Sp.kt (List.take (x0.length - (1 : Nat)) (List.drop (1 : Nat) x0)) [] (0 : Int)).2 > (0 : Int)) then some (Res.mk [XV.mk true [X.c (X0.dat (Ty.int IntKind.i64) (IntKind.i64.wrap (x0.getD (0 : Nat) (0 : Int)))), X.c (X0.dat (Ty.int IntKind.i64) (0 : Int)), X.c (X0.dat Ty.str (Sp.kt (List.take (x0.length - (1 : Nat)) (List.drop (1 : Nat) x0)) [] (0 : Int)).1)], XV.mk false [X.c (X0.dat (Ty.int IntKind.i64) (IntKind.i64.wrap ((Sp.kt (List.take (x0.length - (1 : Nat)) (List.drop (1 : Nat) x0)) [] (0 : Int)).2 + (1 : Int))))]] []) else some (Res.mk [XV.mk true [X.c (X0.dat (Ty.int IntKind.i64) (0 : Int)), X.c (X0.dat (Ty.int IntKind.i64) (0 : Int)), X.c (X0.dat Ty.str ByteArray.empty)], XV.mk false [X.c (X0.dat (Ty.int IntKind.i64) (0 : Int))]] [])) else bif (Sp.f167 (IntKind.i64.wrap (x0.getD (0 : Nat) (0 : Int)))).1 then bif decide ((↑(List.take (x0.length - (1 : Nat)) (List.drop (1 : Nat) x0)).length : Int) ≥ (1 : Int)) then chk (decide ((0 : Int) < (↑(List.take (x0.length - (1 : Nat)) (List.drop (1 : Nat) x0)).length : Int))) (bif decide ((↑(List.take (x0.length - (1 : Nat)) (List.drop (1 : Nat) x0)).length : Int) > IntKind.i64.wrap ((List.take (x0.length - (1 : Nat)) (List.drop (1 : Nat) x0)).getD (0 : Nat) (0 : Int))) then chk (decide ((0 : Int) < (↑(List.take (x0.length - (1 : Nat)) (List.drop (1 : Nat) x0)).length : Int))) (chk (decide ((1 : Int) ≤ IntKind.i64.wrap ((1 : Int) + IntKind.i64.wrap ((List.take (x0.length - (1 : Nat)) (List.drop (1 : Nat) x0)).getD (0 : Nat) (0 : Int)))) && decide (IntKind.i64.wrap ((1 : Int) + IntKind.i64.wrap ((List.take (x0.length - (1 : Nat)) (List.drop (1 : Nat) x0)).getD (0 : Nat) (0 : Int))) ≤ (↑(List.take (x0.length - (1 : Nat)) (List.drop (1 : Nat) x0)).length : Int))) (chk (decide ((0 : Int) < (↑(List.take (x0.length - (1 : Nat)) (List.drop (1 : Nat) x0)).length : Int))) (some (Res.mk [XV.mk true [X.c (X0.dat (Ty.int IntKind.i64) (IntKind.i64.wrap (x0.getD (0 : Nat) (0 : Int)))), X.c (X0.dat (Ty.int IntKind.i64) (0 : Int)), X.c (X0.dat Ty.str (bytesStr (List.take ((IntKind.i64.wrap ((1 : Int) + IntKind.i64.wrap ((List.take (x0.length - (1 : Nat)) (List.drop (1 : Nat) x0)).getD (0 : Nat) (0 : Int)))).toNat - (1 : Nat)) (List.drop (1 : Nat) (List.take (x0.length - (1 : Nat)) (List.drop (1 : Nat) x0))))))], XV.mk false [X.c (X0.dat (Ty.int IntKind.i64) (IntKind.i64.wrap ((2 : Int) + IntKind.i64.wrap ((List.take (x0.length - (1 : Nat)) (List.drop (1 : Nat) x0)).getD (0 : Nat) (0 : Int)))))]] [])))) else some (Res.mk [XV.mk true [X.c (X0.dat (Ty.int IntKind.i64) (0 : Int)), X.c (X0.dat (Ty.int IntKind.i64) (0 : Int)), X.c (X0.dat Ty.str ByteArray.empty)], XV.mk false [X.c (X0.dat (Ty.int IntKind.i64) (0 : Int))]] [])) else some (Res.mk [XV.mk true [X.c (X0.dat (Ty.int IntKind.i64) (0 : Int)), X.c (X0.dat (Ty.int IntKind.i64) (0 : Int)), X.c (X0.dat Ty.str ByteArray.empty)], XV.mk false [X.c (X0.dat (Ty.int IntKind.i64) (0 : Int))]] []) else some (Res.mk [XV.mk true [X.c (X0.dat (Ty.int IntKind.i64) (0 : Int)), X.c (X0.dat (Ty.int IntKind.i64) (0 : Int)), X.c (X0.dat Ty.str ByteArray.empty)], XV.mk false [X.c (X0.dat (Ty.int IntKind.i64) (0 : Int))]] []) else bif (Sp.f167 (IntKind.i64.wrap (x0.getD (0 : Nat) (0 : Int)))).1 then bif decide ((↑(List.take (x0.length - (1 : Nat)) (List.drop (1 : Nat) x0)).length : Int) ≥ (1 : Int)) then chk (decide ((0 : Int) < (↑(List.take (x0.length - (1 : Nat)) (List.drop (1 : Nat) x0)).length : Int))) (bif decide ((↑(List.take (x0.length - (1 : Nat)) (List.drop (1 : Nat) x0)).length : Int) > IntKind.i64.wrap ((List.take (x0.length - (1 : Nat)) (List.drop (1 : Nat) x0)).getD (0 : Nat) (0 : Int))) then chk (decide ((0 : Int) < (↑(List.take (x0.length - (1 : Nat)) (List.drop (1 : Nat) x0)).length : Int))) (chk (decide ((1 : Int) ≤ IntKind.i64.wrap ((1 : Int) + IntKind.i64.wrap ((List.take (x0.length - (1 : Nat)) (List.drop (1 : Nat) x0)).getD (0 : Nat) (0 : Int)))) && decide (IntKind.i64.wrap ((1 : Int) + IntKind.i64.wrap ((List.take (x0.length - (1 : Nat)) (List.drop (1 : Nat) x0)).getD (0 : Nat) (0 : Int))) ≤ (↑(List.take (x0.length - (1 : Nat)) (List.drop (1 : Nat) x0)).length : Int))) (chk (decide ((0 : Int) < (↑(List.take (x0.length - (1 : Nat)) (List.drop (1 : Nat) x0)).length : Int))) (some (Res.mk [XV.mk true [X.c (X0.dat (Ty.int IntKind.i64) (IntKind.i64.wrap (x0.getD (0 : Nat) (0 : Int)))), X.c (X0.dat (Ty.int IntKind.i64) (0 : Int)), X.c (X0.dat Ty.str (bytesStr (List.take ((IntKind.i64.wrap ((1 : Int) + IntKind.i64.wrap ((List.take (x0.length - (1 : Nat)) (List.drop (1 : Nat) x0)).getD (0 : Nat) (0 : Int)))).toNat - (1 : Nat)) (List.drop (1 : Nat) (List.take (x0.length - (1 : Nat)) (List.drop (1 : Nat) x0))))))], XV.mk false [X.c (X0.dat (Ty.int IntKind.i64) (IntKind.i64.wrap ((2 : Int) + IntKind.i64.wrap ((List.take (x0.length - (1 : Nat)) (List.drop (1 : Nat) x0)).getD (0 : Nat) (0 : Int)))))]] [])))) else some (Res.mk [XV.mk true [X.c (X0.dat (Ty.int IntKind.i64) (0 : Int)), X.c (X0.dat (Ty.int IntKind.i64) (0 : Int)), X.c (X0.dat Ty.str ByteArray.empty)], XV.mk false [X.c (X0.dat (Ty.int IntKind.i64) (0 : Int))]] [])) else some (Res.mk [XV.mk true [X.c (X0.dat (Ty.int IntKind.i64) (0 : Int)), X.c (X0.dat (Ty.int IntKind.i64) (0 : Int)), X.c (X0.dat Ty.str ByteArray.empty)], XV.mk false [X.c (X0.dat (Ty.int IntKind.i64) (0 : Int))]] []) else some (Res.mk [XV.mk true [X.c (X0.dat (Ty.int IntKind.i64) (0 : Int)), X.c (X0.dat (Ty.int IntKind.i64) (0 : Int)), X.c (X0.dat Ty.str ByteArray.empty)], XV.mk false [X.c (X0.dat (Ty.int IntKind.i64) (0 : Int))]] []) else bif (Sp.f167 (IntKind.i64.wrap (x0.getD (0 : Nat) (0 : Int)))).1 then bif !x1 then chk (Sp.mid (List.take (x0.length - (1 : Nat)) (List.drop (1 : Nat) x0))) (bif decide ((Sp.kt (List.take (x0.length - (1 : Nat)) (List.drop (1 : Nat) x0)) [] (0 : Int)).2 > (0 : Int)) then some (Res.mk [XV.mk true [X.c (X0.dat (Ty.int IntKind.i64) (IntKind.i64.wrap (x0.getD (0 : Nat) (0 : Int)))), X.c (X0.dat (Ty.int IntKind.i64) (0 : Int)), X.c (X0.dat Ty.str (Sp.kt (List.take (x0.length - (1 : Nat)) (List.drop (1 : Nat) x0)) [] (0 : Int)).1)], XV.mk false [X.c (X0.dat (Ty.int IntKind.i64) (IntKind.i64.wrap ((Sp.kt (List.take (x0.length - (1 : Nat)) (List.drop (1 : Nat) x0)) [] (0 : Int)).2 + (1 : Int))))]] []) else some (Res.mk [XV.mk true [X.c (X0.dat (Ty.int IntKind.i64) (0 : Int)), X.c (X0.dat (Ty.int IntKind.i64) (0 : Int)), X.c (X0.dat Ty.str ByteArray.empty)], XV.mk false [X.c (X0.dat (Ty.int IntKind.i64) (0 : Int))]] [])) else bif (Sp.f167 (IntKind.i64.wrap (x0.getD (0 : Nat) (0 : Int)))).1 then bif decide ((↑(List.take (x0.length - (1 : Nat)) (List.drop (1 : Nat) x0)).length : Int) ≥ (1 : Int)) then chk (decide ((0 : Int) < (↑(List.take (x0.length - (1 : Nat)) (List.drop (1 : Nat) x0)).length : Int))) (bif decide ((↑(List.take (x0.length - (1 : Nat)) (List.drop (1 : Nat) x0)).length : Int) > IntKind.i64.wrap ((List.take (x0.length - (1 : Nat)) (List.drop (1 : Nat) x0)).getD (0 : Nat) (0 : Int))) then chk (decide ((0 : Int) < (↑(List.take (x0.length - (1 : Nat)) (List.drop (1 : Nat) x0)).length : Int))) (chk (decide ((1 : Int) ≤ IntKind.i64.wrap ((1 : Int) + IntKind.i64.wrap ((List.take (x0.length - (1 : Nat)) (List.drop (1 : Nat) x0)).getD (0 : Nat) (0 : Int)))) && decide (IntKind.i64.wrap ((1 : Int) + IntKind.i64.wrap ((List.take (x0.length - (1 : Nat)) (List.drop (1 : Nat) x0)).getD (0 : Nat) (0 : Int))) ≤ (↑(List.take (x0.length - (1 : Nat)) (List.drop (1 : Nat) x0)).length : Int))) (chk (decide ((0 : Int) < (↑(List.take (x0.length - (1 : Nat)) (List.drop (1 : Nat) x0)).length : Int))) (some (Res.mk [XV.mk true [X.c (X0.dat (Ty.int IntKind.i64) (IntKind.i64.wrap (x0.getD (0 : Nat) (0 : Int)))), X.c (X0.dat (Ty.int IntKind.i64) (0 : Int)), X.c (X0.dat Ty.str (bytesStr (List.take ((IntKind.i64.wrap ((1 : Int) + IntKind.i64.wrap ((List.take (x0.length - (1 : Nat)) (List.drop (1 : Nat) x0)).getD (0 : Nat) (0 : Int)))).toNat - (1 : Nat)) (List.drop (1 : Nat) (List.take (x0.length - (1 : Nat)) (List.drop (1 : Nat) x0))))))], XV.mk false [X.c (X0.dat (Ty.int IntKind.i64) (IntKind.i64.wrap ((2 : Int) + IntKind.i64.wrap ((List.take (x0.length - (1 : Nat)) (List.drop (1 : Nat) x0)).getD (0 : Nat) (0 : Int)))))]] [])))) else some (Res.mk [XV.mk true [X.c (X0.dat (Ty.int IntKind.i64) (0 : Int)), X.c (X0.dat (Ty.int IntKind.i64) (0 : Int)), X.c (X0.dat Ty.str ByteArray.empty)], XV.mk false [X.c (X0.dat (Ty.int IntKind.i64) (0 : Int))]] [])) else some (Res.mk [XV.mk true [X.c (X0.dat (Ty.int IntKind.i64) (0 : Int)), X.c (X0.dat (Ty.int IntKind.i64) (0 : Int)), X.c (X0.dat Ty.str ByteArray.empty)], XV.mk false [X.c (X0.dat (Ty.int IntKind.i64) (0 : Int))]] []) else some (Res.mk [XV.mk true [X.c (X0.dat (Ty.int IntKind.i64) (0 : Int)), X.c (X0.dat (Ty.int IntKind.i64) (0 : Int)), X.c (X0.dat Ty.str ByteArray.empty)], XV.mk false [X.c (X0.dat (Ty.int IntKind.i64) (0 : Int))]] []) else bif (Sp.f167 (IntKind.i64.wrap (x0.getD (0 : Nat) (0 : Int)))).1 then bif decide ((↑(List.take (x0.length - (1 : Nat)) (List.drop (1 : Nat) x0)).length : Int) ≥ (1 : Int)) then chk (decide ((0 : Int) < (↑(List.take (x0.length - (1 : Nat)) (List.drop (1 : Nat) x0)).length : Int))) (bif decide ((↑(List.take (x0.length - (1 : Nat)) (List.drop (1 : Nat) x0)).length : Int) > IntKind.i64.wrap ((List.take (x0.length - (1 : Nat)) (List.drop (1 : Nat) x0)).getD (0 : Nat) (0 : Int))) then chk (decide ((0 : Int) < (↑(List.take (x0.length - (1 : Nat)) (List.drop (1 : Nat) x0)).length : Int))) (chk (decide ((1 : Int) ≤ IntKind.i64.wrap ((1 : Int) + IntKind.i64.wrap ((List.take (x0.length - (1 : Nat)) (List.drop (1 : Nat) x0)).getD (0 : Nat) (0 : Int)))) && decide (IntKind.i64.wrap ((1 : Int) + IntKind.i64.wrap ((List.take (x0.length - (1 : Nat)) (List.drop (1 : Nat) x0)).getD (0 : Nat) (0 : Int))) ≤ (↑(List.take (x0.length - (1 : Nat)) (List.drop (1 : Nat) x0)).length : Int))) (chk (decide ((0 : Int) < (↑(List.take (x0.length - (1 : Nat)) (List.drop (1 : Nat) x0)).length : Int))) (some (Res.mk [XV.mk true [X.c (X0.dat (Ty.int IntKind.i64) (IntKind.i64.wrap (x0.getD (0 : Nat) (0 : Int)))), X.c (X0.dat (Ty.int IntKind.i64) (0 : Int)), X.c (X0.dat Ty.str (bytesStr (List.take ((IntKind.i64.wrap ((1 : Int) + IntKind.i64.wrap ((List.take (x0.length - (1 : Nat)) (List.drop (1 : Nat) x0)).getD (0 : Nat) (0 : Int)))).toNat - (1 : Nat)) (List.drop (1 : Nat) (List.take (x0.length - (1 : Nat)) (List.drop (1 : Nat) x0))))))], XV.mk false [X.c (X0.dat (Ty.int IntKind.i64) (IntKind.i64.wrap ((2 : Int) + IntKind.i64.wrap ((List.take (x0.length - (1 : Nat)) (List.drop (1 : Nat) x0)).getD (0 : Nat) (0 : Int)))))]] [])))) else some (Res.mk [XV.mk true [X.c (X0.dat (Ty.int IntKind.i64) (0 : Int)), X.c (X0.dat (Ty.int IntKind.i64) (0 : Int)), X.c (X0.dat Ty.str ByteArray.empty)], XV.mk false [X.c (X0.dat (Ty.int IntKind.i64) (0 : Int))]] [])) else some (Res.mk [XV.mk true [X.c (X0.dat (Ty.int IntKind.i64) (0 : Int)), X.c (X0.dat (Ty.int IntKind.i64) (0 : Int)), X.c (X0.dat Ty.str ByteArray.empty)], XV.mk false [X.c (X0.dat (Ty.int IntKind.i64) (0 : Int))]] []) else some (Res.mk [XV.mk true [X.c (X0.dat (Ty.int IntKind.i64) (0 : Int)), X.c (X0.dat (Ty.int IntKind.i64) (0 : Int)), X.c (X0.dat Ty.str ByteArray.empty)], XV.mk false [X.c (X0.dat (Ty.int IntKind.i64) (0 : Int))]] []))) := by kernel_rfl
theorem f131x_form (x0 : List Int) (x1 : Bool) : (chk (decide ((0 : Int) < (↑x0.length : Int))) (chk (decide ((1 : Int) ≤ (↑x0.length : Int))) (bif IntKind.i64.wrap (x0.getD (0 : Nat) (0 : Int)) == (0 : Int) then some (Res.mk [XV.mk true [X.c (X0.dat (Ty.int IntKind.i64) (IntKind.i64.wrap (x0.getD (0 : Nat) (0 : Int)))), X.c (X0.dat (Ty.int IntKind.i64) (0 : Int)), X.c (X0.dat Ty.str ByteArray.empty)], XV.mk false [X.c (X0.dat (Ty.int IntKind.i64) (1 : Int))]] []) else bif IntKind.i64.wrap (x0.getD (0 : Nat) (0 : Int)) == (1 : Int) then bif decide ((↑(List.take (x0.length - (1 : Nat)) (List.drop (1 : Nat) x0)).length : Int) ≥ (1 : Int)) then chk (decide ((0 : Int) < (↑(List.take (x0.length - (1 : Nat)) (List.drop (1 : Nat) x0)).length : Int))) (some (Res.mk [XV.mk true [X.c (X0.dat (Ty.int IntKind.i64) (IntKind.i64.wrap (x0.getD (0 : Nat) (0 : Int)))), X.c (X0.dat (Ty.int IntKind.i64) (IntKind.i64.wrap ((List.take (x0.length - (1 : Nat)) (List.drop (1 : Nat) x0)).getD (0 : Nat) (0 : Int)))), X.c (X0.dat Ty.str ByteArray.empty)], XV.mk false [X.c (X0.dat (Ty.int IntKind.i64) (2 : Int))]] [])) else bif IntKind.i64.wrap (x0.getD (0 : Nat) (0 : Int)) == (2 : Int) then bif decide ((↑(List.take (x0.length - (1 : Nat)) (List.drop (1 : Nat) x0)).length : Int) ≥ (8 : Int)) then chk (decide ((8 : Int) ≤ (↑(List.take (x0.length - (1 : Nat)) (List.drop (1 : Nat) x0)).length : Int))) (chk (Sp.eight (List.take (8 : Nat) (List.drop (0 : Nat) (List.take (x0.length - (1 : Nat)) (List.drop (1 : Nat) x0))))) (some (Res.mk [XV.mk true [X.c (X0.dat (Ty.int IntKind.i64) (IntKind.i64.wrap (x0.getD (0 : Nat) (0 : Int)))), X.c (X0.dat (Ty.int IntKind.i64) (IntKind.i64.wrap (IntKind.u64.wrap (↑(BitVec.ofInt (64 : Nat) (↑(Sp.num (0 : Nat) (List.take (8 : Nat) (List.drop (0 : Nat) (List.take (x0.length - (1 : Nat)) (List.drop (1 : Nat) x0))))) : Int) ^^^ BitVec.ofInt (64 : Nat) (9223372036854775808 : Int)).toNat : Int)))), X.c (X0.dat Ty.str ByteArray.empty)], XV.mk false [X.c (X0.dat (Ty.int IntKind.i64) (9 : Int))]] []))) else bif (Sp.f167 (IntKind.i64.wrap (x0.getD (0 : Nat) (0 : Int)))).1 then bif !x1 then chk (Sp.mid (List.take (x0.length - (1 : Nat)) (List.drop (1 : Nat) x0))) (bif decide ((Sp.kt (List.take (x0.length - (1 : Nat)) (List.drop (1 : Nat) x0)) [] (0 : Int)).2 > (0 : Int)) then some (Res.mk [XV.mk true [X.c (X0.dat (Ty.int IntKind.i64) (IntKind.i64.wrap (x0.getD (0 : Nat) (0 : Int)))), X.c (X0.dat (Ty.int IntKind.i64) (0 : Int)), X.c (X0.dat Ty.str (Sp.kt (List.take (x0.length - (1 : Nat)) (List.drop (1 : Nat) x0)) [] (0 : Int)).1)], XV.mk false [X.c (X0.dat (Ty.int IntKind.i64) (IntKind.i64.wrap ((Sp.kt (List.take (x0.length - (1 : Nat)) (List.drop (1 : Nat) x0)) [] (0 : Int)).2 + (1 : Int))))]] []) else some (Res.mk [XV.mk true [X.c (X0.dat (Ty.int IntKind.i64) (0 : Int)), X.c (X0.dat (Ty.int IntKind.i64) (0 : Int)), X.c (X0.dat Ty.str ByteArray.empty)], XV.mk false [X.c (X0.dat (Ty.int IntKind.i64) (0 : Int))]] [])) else bif (Sp.f167 (IntKind.i64.wrap (x0.getD (0 : Nat) (0 : Int)))).1 then bif decide ((↑(List.take (x0.length - (1 : Nat)) (List.drop (1 : Nat) x0)).length : Int) ≥ (1 : Int)) then chk (decide ((0 : Int) < (↑(List.take (x0.length - (1 : Nat)) (List.drop (1 : Nat) x0)).length : Int))) (bif decide ((↑(List.take (x0.length - (1 : Nat)) (List.drop (1 : Nat) x0)).length : Int) > IntKind.i64.wrap ((List.take (x0.length - (1 : Nat)) (List.drop (1 : Nat) x0)).getD (0 : Nat) (0 : Int))) then chk (decide ((0 : Int) < (↑(List.take (x0.length - (1 : Nat)) (List.drop (1 : Nat) x0)).length : Int))) (chk (decide ((1 : Int) ≤ IntKind.i64.wrap ((1 : Int) + IntKind.i64.wrap ((List.take (x0.length - (1 : Nat)) (List.drop (1 : Nat) x0)).getD (0 : Nat) (0 : Int)))) && decide (IntKind.i64.wrap ((1 : Int) + IntKind.i64.wrap ((List.take (x0.length - (1 : Nat)) (List.drop (1 : Nat) x0)).getD (0 : Nat) (0 : Int))) ≤ (↑(List.take (x0.length - (1 : Nat)) (List.drop (1 : Nat) x0)).length : Int))) (chk (decide ((0 : Int) < (↑(List.take (x0.length - (1 : Nat)) (List.drop (1 : Nat) x0)).length : Int))) (some (Res.mk [XV.mk true [X.c (X0.dat (Ty.int IntKind.i64) (IntKind.i64.wrap (x0.getD (0 : Nat) (0 : Int)))), X.c (X0.dat (Ty.int IntKind.i64) (0 : Int)), X.c (X0.dat Ty.str (bytesStr (List.take ((IntKind.i64.wrap ((1 : Int) + IntKind.i64.wrap ((List.take (x0.length - (1 : Nat)) (List.drop (1 : Nat) x0)).getD (0 : Nat) (0 : Int)))).toNat - (1 : Nat)) (List.drop (1 : Nat) (List.take (x0.length - (1 : Nat)) (List.drop (1 : Nat) x0))))))], XV.mk false [X.c (X0.dat (Ty.int IntKind.i64) (IntKind.i64.wrap ((2 : Int) + IntKind.i64.wrap ((List.take (x0.length - (1 : Nat)) (List.drop (1 : Nat) x0)).getD (0 : Nat) (0 : Int)))))]] [])))) else some (Res.mk [XV.mk true [X.c (X0.dat (Ty.int IntKind.i64) (0 : Int)), X.c (X0.dat (Ty.int IntKind.i64) (0 : Int)), X.c (X0.dat Ty.str ByteArray.empty)], XV.mk false [X.c (X0.dat (Ty.int IntKind.i64) (0 : Int))]] [])) else some (Res.mk [XV.mk true [X.c (X0.dat (Ty.int IntKind.i64) (0 : Int)), X.c (X0.dat (Ty.int IntKind.i64) (0 : Int)), X.c (X0.dat Ty.str ByteArray.empty)], XV.mk false [X.c (X0.dat (Ty.int IntKind.i64) (0 : Int))]] []) else some (Res.mk [XV.mk true [X.c (X0.dat (Ty.int IntKind.i64) (0 : Int)), X.c (X0.dat (Ty.int IntKind.i64) (0 : Int)), X.c (X0.dat Ty.str ByteArray.empty)], XV.mk false [X.c (X0.dat (Ty.int IntKind.i64) (0 : Int))]] []) else bif (Sp.f167 (IntKind.i64.wrap (x0.getD (0 : Nat) (0 : Int)))).1 then bif decide ((↑(List.take (x0.length - (1 : Nat)) (List.drop (1 : Nat) x0)).length : Int) ≥ (1 : Int)) then chk (decide ((0 : Int) < (↑(List.take (x0.length - (1 : Nat)) (List.drop (1 : Nat) x0)).length : Int))) (bif decide ((↑(List.take (x0.length - (1 : Nat)) (List.drop (1 : Nat) x0)).length : Int) > IntKind.i64.wrap ((List.take (x0.length - (1 : Nat)) (List.drop (1 : Nat) x0)).getD (0 : Nat) (0 : Int))) then chk (decide ((0 : Int) < (↑(List.take (x0.length - (1 : Nat)) (List.drop (1 : Nat) x0)).length : Int))) (chk (decide ((1 : Int) ≤ IntKind.i64.wrap ((1 : Int) + IntKind.i64.wrap ((List.take (x0.length - (1 : Nat)) (List.drop (1 : Nat) x0)).getD (0 : Nat) (0 : Int)))) && decide (IntKind.i64.wrap ((1 : Int) + IntKind.i64.wrap ((List.take (x0.length - (1 : Nat)) (List.drop (1 : Nat) x0)).getD (0 : Nat) (0 : Int))) ≤ (↑(List.take (x0.length - (1 : Nat)) (List.drop (1 : Nat) x0)).length : Int))) (chk (decide ((0 : Int) < (↑(List.take (x0.length - (1 : Nat)) (List.drop (1 : Nat) x0)).length : Int))) (some (Res.mk [XV.mk true [X.c (X0.dat (Ty.int IntKind.i64) (IntKind.i64.wrap (x0.getD (0 : Nat) (0 : Int)))), X.c (X0.dat (Ty.int IntKind.i64) (0 : Int)), X.c (X0.dat Ty.str (bytesStr (List.take ((IntKind.i64.wrap ((1 : Int) + IntKind.i64.wrap ((List.take (x0.length - (1 : Nat)) (List.drop (1 : Nat) x0)).getD (0 : Nat) (0 : Int)))).toNat - (1 : Nat)) (List.drop (1 : Nat) (List.take (x0.length - (1 : Nat)) (List.drop (1 : Nat) x0))))))], XV.mk false [X.c (X0.dat (Ty.int IntKind.i64) (IntKind.i64.wrap ((2 : Int) + IntKind.i64.wrap ((List.take (x0.length - (1 : Nat)) (List.drop (1 : Nat) x0)).getD (0 : Nat) (0 : Int)))))]] [])))) else some (Res.mk [XV.mk true [X.c (X0.dat (Ty.int IntKind.i64) (0 : Int)), X.c (X0.dat (Ty.int IntKind.i64) (0 : Int)), X.c (X0.dat Ty.str ByteArray.empty)], XV.mk false [X.c (X0.dat (Ty.int IntKind.i64) (0 : Int))]] [])) else some (Res.mk [XV.mk true [X.c (X0.dat (Ty.int IntKind.i64) (0 : Int)), X.c (X0.dat (Ty.int IntKind.i64) (0 : Int)), X.c (X0.dat Ty.str ByteArray.empty)], XV.mk false [X.c (X0.dat (Ty.int IntKind.i64) (0 : Int))]] []) else some (Res.mk [XV.mk true [X.c (X0.dat (Ty.int IntKind.i64) (0 : Int)), X.c (X0.dat (Ty.int IntKind.i64) (0 : Int)), X.c (X0.dat Ty.str ByteArray.empty)], XV.mk false [X.c (X0.dat (Ty.int IntKind.i64) (0 : Int))]] []) else bif (Sp.f167 (IntKind.i64.wrap (x0.getD (0 : Nat) (0 : Int)))).1 then bif !x1 then chk (Sp.mid (List.take (x0.length - (1 : Nat)) (List.drop (1 : Nat) x0))) (bif decide ((Sp.kt (List.take (x0.length - (1 : Nat)) (List.drop (1 : Nat) x0)) [] (0 : Int)).2 > (0 : Int)) then some (Res.mk [XV.mk true [X.c (X0.dat (Ty.int IntKind.i64) (IntKind.i64.wrap (x0.getD (0 : Nat) (0 : Int)))), X.c (X0.dat (Ty.int IntKind.i64) (0 : Int)), X.c (X0.dat Ty.str (Sp.kt (List.take (x0.length - (1 : Nat)) (List.drop (1 : Nat) x0)) [] (0 : Int)).1)], XV.mk false [X.c (X0.dat (Ty.int IntKind.i64) (IntKind.i64.wrap ((Sp.kt (List.take (x0.length - (1 : Nat)) (List.drop (1 : Nat) x0)) [] (0 : Int)).2 + (1 : Int))))]] []) else some (Res.mk [XV.mk true [X.c (X0.dat (Ty.int IntKind.i64) (0 : Int)), X.c (X0.dat (Ty.int IntKind.i64) (0 : Int)), X.c (X0.dat Ty.str ByteArray.empty)], XV.mk false [X.c (X0.dat (Ty.int IntKind.i64) (0 : Int))]] [])) else bif (Sp.f167 (IntKind.i64.wrap (x0.getD (0 : Nat) (0 : Int)))).1 then bif decide ((↑(List.take (x0.length - (1 : Nat)) (List.drop (1 : Nat) x0)).length : Int) ≥ (1 : Int)) then chk (decide ((0 : Int) < (↑(List.take (x0.length - (1 : Nat)) (List.drop (1 : Nat) x0)).length : Int))) (bif decide ((↑(List.take (x0.length - (1 : Nat)) (List.drop (1 : Nat) x0)).length : Int) > IntKind.i64.wrap ((List.take (x0.length - (1 : Nat)) (List.drop (1 : Nat) x0)).getD (0 : Nat) (0 : Int))) then chk (decide ((0 : Int) < (↑(List.take (x0.length - (1 : Nat)) (List.drop (1 : Nat) x0)).length : Int))) (chk (decide ((1 : Int) ≤ IntKind.i64.wrap ((1 : Int) + IntKind.i64.wrap ((List.take (x0.length - (1 : Nat)) (List.drop (1 : Nat) x0)).getD (0 : Nat) (0 : Int)))) && decide (IntKind.i64.wrap ((1 : Int) + IntKind.i64.wrap ((List.take (x0.length - (1 : Nat)) (List.drop (1 : Nat) x0)).getD (0 : Nat) (0 : Int))) ≤ (↑(List.take (x0.length - (1 : Nat)) (List.drop (1 : Nat) x0)).length : Int))) (chk (decide ((0 : Int) < (↑(List.take (x0.length - (1 : Nat)) (List.drop (1 : Nat) x0)).length : Int))) (some (Res.mk [XV.mk true [X.c (X0.dat (Ty.int IntKind.i64) (IntKind.i64.wrap (x0.getD (0 : Nat) (0 : Int)))), X.c (X0.dat (Ty.int IntKind.i64) (0 : Int)), X.c (X0.dat Ty.str (bytesStr (List.take ((IntKind.i64.wrap ((1 : Int) + IntKind.i64.wrap ((List.take (x0.length - (1 : Nat)) (List.drop (1 : Nat) x0)).getD (0 : Nat) (0 : Int)))).toNat - (1 : Nat)) (List.drop (1 : Nat) (List.take (x0.length - (1 : Nat)) (List.drop (1 : Nat) x0))))))], XV.mk false [X.c (X0.dat (Ty.int IntKind.i64) (IntKind.i64.wrap ((2 : Int) + IntKind.i64.wrap ((List.take (x0.length - (1 : Nat)) (List.drop (1 : Nat) x0)).getD (0 : Nat) (0 : Int)))))]] [])))) else some (Res.mk [XV.mk true [X.c (X0.dat (Ty.int IntKind.i64) (0 : Int)), X.c (X0.dat (Ty.int IntKind.i64) (0 : Int)), X.c (X0.dat Ty.str ByteArray.empty)], XV.mk false [X.c (X0.dat (Ty.int IntKind.i64) (0 : Int))]] [])) else some (Res.mk [XV.mk true [X.c (X0.dat (Ty.int IntKind.i64) (0 : Int)), X.c (X0.dat (Ty.int IntKind.i64) (0 : Int)), X.c (X0.dat Ty.str ByteArray.empty)], XV.mk false [X.c (X0.dat (Ty.int IntKind.i64) (0 : Int))]] []) else some (Res.mk [XV.mk true [X.c (X0.dat (Ty.int IntKind.i64) (0 : Int)), X.c (X0.dat (Ty.int IntKind.i64) (0 : Int)), X.c (X0.dat Ty.str ByteArray.empty)], XV.mk false [X.c (X0.dat (Ty.int IntKind.i64) (0 : Int))]] []) else bif (Sp.f167 (IntKind.i64.wrap (x0.getD (0 : Nat) (0 : Int)))).1 then bif decide ((↑(List.take (x0.length - (1 : Nat)) (List.drop (1 : Nat) x0)).length : Int) ≥ (1 : Int)) then chk (decide ((0 : Int) < (↑(List.take (x0.length - (1 : Nat)) (List.drop (1 : Nat) x0)).length : Int))) (bif decide ((↑(List.take (x0.length - (1 : Nat)) (List.drop (1 : Nat) x0)).length : Int) > IntKind.i64.wrap ((List.take (x0.length - (1 : Nat)) (List.drop (1 : Nat) x0)).getD (0 : Nat) (0 : Int))) then chk (decide ((0 : Int) < (↑(List.take (x0.length - (1 : Nat)) (List.drop (1 : Nat) x0)).length : Int))) (chk (decide ((1 : Int) ≤ IntKind.i64.wrap ((1 : Int) + IntKind.i64.wrap ((List.take (x0.length - (1 : Nat)) (List.drop (1 : Nat) x0)).getD (0 : Nat) (0 : Int)))) && decide (IntKind.i64.wrap ((1 : Int) + IntKind.i64.wrap ((List.take (x0.length - (1 : Nat)) (List.drop (1 : Nat) x0)).getD (0 : Nat) (0 : Int))) ≤ (↑(List.take (x0.length - (1 : Nat)) (List.drop (1 : Nat) x0)).length : Int))) (chk (decide ((0 : Int) < (↑(List.take (x0.length - (1 : Nat)) (List.drop (1 : Nat) x0)).length : Int))) (some (Res.mk [XV.mk true [X.c (X0.dat (Ty.int IntKind.i64) (IntKind.i64.wrap (x0.getD (0 : Nat) (0 : Int)))), X.c (X0.dat (Ty.int IntKind.i64) (0 : Int)), X.c (X0.dat Ty.str (bytesStr (List.take ((IntKind.i64.wrap ((1 : Int) + IntKind.i64.wrap ((List.take (x0.length - (1 : Nat)) (List.drop (1 : Nat) x0)).getD (0 : Nat) (0 : Int)))).toNat - (1 : Nat)) (List.drop (1 : Nat) (List.take (x0.length - (1 : Nat)) (List.drop (1 : Nat) x0))))))], XV.mk false [X.c (X0.dat (Ty.int IntKind.i64) (IntKind.i64.wrap ((2 : Int) + IntKind.i64.wrap ((List.take (x0.length - (1 : Nat)) (List.drop (1 : Nat) x0)).getD (0 : Nat) (0 : Int)))))]] [])))) else some (Res.mk [XV.mk true [X.c (X0.dat (Ty.int IntKind.i64) (0 : Int)), X.c (X0.dat (Ty.int IntKind.i64) (0 : Int)), X.c (X0.dat Ty.str ByteArray.empty)], XV.mk false [X.c (X0.dat (Ty.int IntKind.i64) (0 : Int))]] [])) else some (Res.mk [XV.mk true [X.c (X0.dat (Ty.int IntKind.i64) (0 : Int)), X.c (X0.dat (Ty.int IntKind.i64) (0 : Int)), X.c (X0.dat Ty.str ByteArray.empty)], XV.mk false [X.c (X0.dat (Ty.int IntKind.i64) (0 : Int))]] []) else some (Res.mk [XV.mk true [X.c (X0.dat (Ty.int IntKind.i64) (0 : Int)), X.c (X0.dat (Ty.int IntKind.i64) (0 : Int)), X.c (X0.dat Ty.str ByteArray.empty)], XV.mk false [X.c (X0.dat (Ty.int IntKind.i64) (0 : Int))]] []) else bif IntKind.i64.wrap (x0.getD (0 : Nat) (0 : Int)) == (2 : Int) then bif decide ((↑(List.take (x0.length - (1 : Nat)) (List.drop (1 : Nat) x0)).length : Int) ≥ (8 : Int)) then chk (decide ((8 : Int) ≤ (↑(List.take (x0.length - (1 : Nat)) (List.drop (1 : Nat) x0)).length : Int))) (chk (Sp.eight (List.take (8 : Nat) (List.drop (0 : Nat) (List.take (x0.length - (1 : Nat)) (List.drop (1 : Nat) x0))))) (some (Res.mk [XV.mk true [X.c (X0.dat (Ty.int IntKind.i64) (IntKind.i64.wrap (x0.getD (0 : Nat) (0 : Int)))), X.c (X0.dat (Ty.int IntKind.i64) (IntKind.i64.wrap (IntKind.u64.wrap (↑(BitVec.ofInt (64 : Nat) (↑(Sp.num (0 : Nat) (List.take (8 : Nat) (List.drop (0 : Nat) (List.take (x0.length - (1 : Nat)) (List.drop (1 : Nat) x0))))) : Int) ^^^ BitVec.ofInt (64 : Nat) (9223372036854775808 : Int)).toNat : Int)))), X.c (X0.dat Ty.str ByteArray.empty)], XV.mk false [X.c (X0.dat (Ty.int IntKind.i64) (9 : Int))]] []))) else bif (Sp.f167 (IntKind.i64.wrap (x0.getD (0 : Nat) (0 : Int)))).1 then bif !x1 then chk (Sp.mid (List.take (x0.length - (1 : Nat)) (List.drop (1 : Nat) x0))) (bif decide ((Sp.kt (List.take (x0.length - (1 : Nat)) (List.drop (1 : Nat) x0)) [] (0 : Int)).2 > (0 : Int)) then some (Res.mk [XV.mk true [X.c (X0.dat (Ty.int IntKind.i64) (IntKind.i64.wrap (x0.getD (0 : Nat) (0 : Int)))), X.c (X0.dat (Ty.int IntKind.i64) (0 : Int)), X.c (X0.dat Ty.str (Sp.kt (List.take (x0.length - (1 : Nat)) (List.drop (1 : Nat) x0)) [] (0 : Int)).1)], XV.mk false [X.c (X0.dat (Ty.int IntKind.i64) (IntKind.i64.wrap ((Sp.kt (List.take (x0.length - (1 : Nat)) (List.drop (1 : Nat) x0)) [] (0 : Int)).2 + (1 : Int))))]] []) else some (Res.mk [XV.mk true [X.c (X0.dat (Ty.int IntKind.i64) (0 : Int)), X.c (X0.dat (Ty.int IntKind.i64) (0 : Int)), X.c (X0.dat Ty.str ByteArray.empty)], XV.mk false [X.c (X0.dat (Ty.int IntKind.i64) (0 : Int))]] [])) else bif (Sp.f167 (IntKind.i64.wrap (x0.getD (0 : Nat) (0 : Int)))).1 then bif decide ((↑(List.take (x0.length - (1 : Nat)) (List.drop (1 : Nat) x0)).length : Int) ≥ (1 : Int)) then chk (decide ((0 : Int) < (↑(List.take (x0.length - (1 : Nat)) (List.drop (1 : Nat) x0)).length : Int))) (bif decide ((↑(List.take (x0.length - (1 : Nat)) (List.drop (1 : Nat) x0)).length : Int) > IntKind.i64.wrap ((List.take (x0.length - (1 : Nat)) (List.drop (1 : Nat) x0)).getD (0 : Nat) (0 : Int))) then chk (decide ((0 : Int) < (↑(List.take (x0.length - (1 : Nat)) (List.drop (1 : Nat) x0)).length : Int))) (chk (decide ((1 : Int) ≤ IntKind.i64.wrap ((1 : Int) + IntKind.i64.wrap ((List.take (x0.length - (1 : Nat)) (List.drop (1 : Nat) x0)).getD (0 : Nat) (0 : Int)))) && decide (IntKind.i64.wrap ((1 : Int) + IntKind.i64.wrap ((List.take (x0.length - (1 : Nat)) (List.drop (1 : Nat) x0)).getD (0 : Nat) (0 : Int))) ≤ (↑(List.take (x0.length - (1 : Nat)) (List.drop (1 : Nat) x0)).length : Int))) (chk (decide ((0 : Int) < (↑(List.take (x0.length - (1 : Nat)) (List.drop (1 : Nat) x0)).length : Int))) (some (Res.mk [XV.mk true [X.c (X0.dat (Ty.int IntKind.i64) (IntKind.i64.wrap (x0.getD (0 : Nat) (0 : Int)))), X.c (X0.dat (Ty.int IntKind.i64) (0 : Int)), X.c (X0.dat Ty.str (bytesStr (List.take ((IntKind.i64.wrap ((1 : Int) + IntKind.i64.wrap ((List.take (x0.length - (1 : Nat)) (List.drop (1 : Nat) x0)).getD (0 : Nat) (0 : Int)))).toNat - (1 : Nat)) (List.drop (1 : Nat) (List.take (x0.length - (1 : Nat)) (List.drop (1 : Nat) x0))))))], XV.mk false [X.c (X0.dat (Ty.int IntKind.i64) (IntKind.i64.wrap ((2 : Int) + IntKind.i64.wrap ((List.take (x0.length - (1 : Nat)) (List.drop (1 : Nat) x0)).getD (0 : Nat) (0 : Int)))))]] [])))) else some (Res.mk [XV.mk true [X.c (X0.dat (Ty.int IntKind.i64) (0 : Int)), X.c (X0.dat (Ty.int IntKind.i64) (0 : Int)), X.c (X0.dat Ty.str ByteArray.empty)], XV.mk false [X.c (X0.dat (Ty.int IntKind.i64) (0 : Int))]] [])) else some (Res.mk [XV.mk true [X.c (X0.dat (Ty.int IntKind.i64) (0 : Int)), X.c (X0.dat (Ty.int IntKind.i64) (0 : Int)), X.c (X0.dat Ty.str ByteArray.empty)], XV.mk false [X.c (X0.dat (Ty.int IntKind.i64) (0 : Int))]] []) else some (Res.mk [XV.mk true [X.c (X0.dat (Ty.int IntKind.i64) (0 : Int)), X.c (X0.dat (Ty.int IntKind.i64) (0 : Int)), X.c (X0.dat Ty.str ByteArray.empty)], XV.mk false [X.c (X0.dat (Ty.int IntKind.i64) (0 : Int))]] []) else bif (Sp.f167 (IntKind.i64.wrap (x0.getD (0 : Nat) (0 : Int)))).1 then bif decide ((↑(List.take (x0.length - (1 : Nat)) (List.drop (1 : Nat) x0)).length : Int) ≥ (1 : Int)) then chk (decide ((0 : Int) < (↑(List.take (x0.length - (1 : Nat)) (List.drop (1 : Nat) x0)).length : Int))) (bif decide ((↑(List.take (x0.length - (1 : Nat)) (List.drop (1 : Nat) x0)).length : Int) > IntKind.i64.wrap ((List.take (x0.length - (1 : Nat)) (List.drop (1 : Nat) x0)).getD (0 : Nat) (0 : Int))) then chk (decide ((0 : Int) < (↑(List.take (x0.length - (1 : Nat)) (List.drop (1 : Nat) x0)).length : Int))) (chk (decide ((1 : Int) ≤ IntKind.i64.wrap ((1 : Int) + IntKind.i64.wrap ((List.take (x0.length - (1 : Nat)) (List.drop (1 : Nat) x0)).getD (0 : Nat) (0 : Int)))) && decide (IntKind.i64.wrap ((1 : Int) + IntKind.i64.wrap ((List.take (x0.length - (1 : Nat)) (List.drop (1 : Nat) x0)).getD (0 : Nat) (0 : Int))) ≤ (↑(List.take (x0.length - (1 : Nat)) (List.drop (1 : Nat) x0)).length : Int))) (chk (decide ((0 : Int) < (↑(List.take (x0.length - (1 : Nat)) (List.drop (1 : Nat) x0)).length : Int))) (some (Res.mk [XV.mk true [X.c (X0.dat (Ty.int IntKind.i64) (IntKind.i64.wrap (x0.getD (0 : Nat) (0 : Int)))), X.c (X0.dat (Ty.int IntKind.i64) (0 : Int)), X.c (X0.dat Ty.str (bytesStr (List.take ((IntKind.i64.wrap ((1 : Int) + IntKind.i64.wrap ((List.take (x0.length - (1 : Nat)) (List.drop (1 : Nat) x0)).getD (0 : Nat) (0 : Int)))).toNat - (1 : Nat)) (List.drop (1 : Nat) (List.take (x0.length - (1 : Nat)) (List.drop (1 : Nat) x0))))))], XV.mk false [X.c (X0.dat (Ty.int IntKind.i64) (IntKind.i64.wrap ((2 : Int) + IntKind.i64.wrap ((List.take (x0.length - (1 : Nat)) (List.drop (1 : Nat) x0)).getD (0 : Nat) (0 : Int)))))]] [])))) else some (Res.mk [XV.mk true [X.c (X0.dat (Ty.int IntKind.i64) (0 : Int)), X.c (X0.dat (Ty.int IntKind.i64) (0 : Int)), X.c (X0.dat Ty.str ByteArray.empty)], XV.mk false [X.c (X0.dat (Ty.int IntKind.i64) (0 : Int))]] [])) else some (Res.mk [XV.mk true [X.c (X0.dat (Ty.int IntKind.i64) (0 : Int)), X.c (X0.dat (Ty.int IntKind.i64) (0 : Int)), X.c (X0.dat Ty.str ByteArray.empty)], XV.mk false [X.c (X0.dat (Ty.int IntKind.i64) (0 : Int))]] []) else some (Res.mk [XV.mk true [X.c (X0.dat (Ty.int IntKind.i64) (0 : Int)), X.c (X0.dat (Ty.int IntKind.i64) (0 : Int)), X.c (X0.dat Ty.str ByteArray.empty)], XV.mk false [X.c (X0.dat (Ty.int IntKind.i64) (0 : Int))]] []) else bif (Sp.f167 (IntKind.i64.wrap (x0.getD (0 : Nat) (0 : Int)))).1 then bif !x1 then chk (Sp.mid (List.take (x0.length - (1 : Nat)) (List.drop (1 : Nat) x0))) (bif decide ((Sp.kt (List.take (x0.length - (1 : Nat)) (List.drop (1 : Nat) x0)) [] (0 : Int)).2 > (0 : Int)) then some (Res.mk [XV.mk true [X.c (X0.dat (Ty.int IntKind.i64) (IntKind.i64.wrap (x0.getD (0 : Nat) (0 : Int)))), X.c (X0.dat (Ty.int IntKind.i64) (0 : Int)), X.c (X0.dat Ty.str (Sp.kt (List.take (x0.length - (1 : Nat)) (List.drop (1 : Nat) x0)) [] (0 : Int)).1)], XV.mk false [X.c (X0.dat (Ty.int IntKind.i64) (IntKind.i64.wrap ((Sp.kt (List.take (x0.length - (1 : Nat)) (List.drop (1 : Nat) x0)) [] (0 : Int)).2 + (1 : Int))))]] []) else some (Res.mk [XV.mk true [X.c (X0.dat (Ty.int IntKind.i64) (0 : Int)), X.c (X0.dat (Ty.int IntKind.i64) (0 : Int)), X.c (X0.dat Ty.str ByteArray.empty)], XV.mk false [X.c (X0.dat (Ty.int IntKind.i64) (0 : Int))]] [])) else bif (Sp.f167 (IntKind.i64.wrap (x0.getD (0 : Nat) (0 : Int)))).1 then bif decide ((↑(List.take (x0.length - (1 : Nat)) (List.drop (1 : Nat) x0)).length : Int) ≥ (1 : Int)) then chk (decide ((0 : Int) < (↑(List.take (x0.length - (1 : Nat)) (List.drop (1 : Nat) x0)).length : Int))) (bif decide ((↑(List.take (x0.length - (1 : Nat)) (List.drop (1 : Nat) x0)).length : Int) > IntKind.i64.wrap ((List.take (x0.length - (1 : Nat)) (List.drop (1 : Nat) x0)).getD (0 : Nat) (0 : Int))) then chk (decide ((0 : Int) < (↑(List.take (x0.length - (1 : Nat)) (List.drop (1 : Nat) x0)).length : Int))) (chk (decide ((1 : Int) ≤ IntKind.i64.wrap ((1 : Int) + IntKind.i64.wrap ((List.take (x0.length - (1 : Nat)) (List.drop (1 : Nat) x0)).getD (0 : Nat) (0 : Int)))) && decide (IntKind.i64.wrap ((1 : Int) + IntKind.i64.wrap ((List.take (x0.length - (1 : Nat)) (List.drop (1 : Nat) x0)).getD (0 : Nat) (0 : Int))) ≤ (↑(List.take (x0.length - (1 : Nat)) (List.drop (1 : Nat) x0)).length : Int))) (chk (decide ((0 : Int) < (↑(List.take (x0.length - (1 : Nat)) (List.drop (1 : Nat) x0)).length : Int))) (some (Res.mk [XV.mk true [X.c (X0.dat (Ty.int IntKind.i64) (IntKind.i64.wrap (x0.getD (0 : Nat) (0 : Int)))), X.c (X0.dat (Ty.int IntKind.i64) (0 : Int)), X.c (X0.dat Ty.str (bytesStr (List.take ((IntKind.i64.wrap ((1 : Int) + IntKind.i64.wrap ((List.take (x0.length - (1 : Nat)) (List.drop (1 : Nat) x0)).getD (0 : Nat) (0 : Int)))).toNat - (1 : Nat)) (List.drop (1 : Nat) (List.take (x0.length - (1 : Nat)) (List.drop (1 : Nat) x0))))))], XV.mk false [X.c (X0.dat (Ty.int IntKind.i64) (IntKind.i64.wrap ((2 : Int) + IntKind.i64.wrap ((List.take (x0.length - (1 : Nat)) (List.drop (1 : Nat) x0)).getD (0 : Nat) (0 : Int)))))]] [])))) else some (Res.mk [XV.mk true [X.c (X0.dat (Ty.int IntKind.i64) (0 : Int)), X.c (X0.dat (Ty.int IntKind.i64) (0 : Int)), X.c (X0.dat Ty.str ByteArray.empty)], XV.mk false [X.c (X0.dat (Ty.int IntKind.i64) (0 : Int))]] [])) else some (Res.mk [XV.mk true [X.c (X0.dat (Ty.int IntKind.i64) (0 : Int)), X.c (X0.dat (Ty.int IntKind.i64) (0 : Int)), X.c (X0.dat Ty.str ByteArray.empty)], XV.mk false [X.c (X0.dat (Ty.int IntKind.i64) (0 : Int))]] []) else some (Res.mk [XV.mk true [X.c (X0.dat (Ty.int IntKind.i64) (0 : Int)), X.c (X0.dat (Ty.int IntKind.i64) (0 : Int)), X.c (X0.dat Ty.str ByteArray.empty)], XV.mk false [X.c (X0.dat (Ty.int IntKind.i64) (0 : Int))]] []) else bif (Sp.f167 (IntKind.i64.wrap (x0.getD (0 : Nat) (0 : Int)))).1 then bif decide ((↑(List.take (x0.length - (1 : Nat)) (List.drop (1 : Nat) x0)).length : Int) ≥ (1 : Int)) then chk (decide ((0 : Int) < (↑(List.take (x0.length - (1 : Nat)) (List.drop (1 : Nat) x0)).length : Int))) (bif decide ((↑(List.take (x0.length - (1 : Nat)) (List.drop (1 : Nat) x0)).length : Int) > IntKind.i64.wrap ((List.take (x0.length - (1 : Nat)) (List.drop (1 : Nat) x0)).getD (0 : Nat) (0 : Int))) then chk (decide ((0 : Int) < (↑(List.take (x0.length - (1 : Nat)) (List.drop (1 : Nat) x0)).length : Int))) (chk (decide ((1 : Int) ≤ IntKind.i64.wrap ((1 : Int) + IntKind.i64.wrap ((List.take (x0.length - (1 : Nat)) (List.drop (1 : Nat) x0)).getD (0 : Nat) (0 : Int)))) && decide (IntKind.i64.wrap ((1 : Int) + IntKind.i64.wrap ((List.take (x0.length - (1 : Nat)) (List.drop (1 : Nat) x0)).getD (0 : Nat) (0 : Int))) ≤ (↑(List.take (x0.length - (1 : Nat)) (List.drop (1 : Nat) x0)).length : Int))) (chk (decide ((0 : Int) < (↑(List.take (x0.length - (1 : Nat)) (List.drop (1 : Nat) x0)).length : Int))) (some (Res.mk [XV.mk true [X.c (X0.dat (Ty.int IntKind.i64) (IntKind.i64.wrap (x0.getD (0 : Nat) (0 : Int)))), X.c (X0.dat (Ty.int IntKind.i64) (0 : Int)), X.c (X0.dat Ty.str (bytesStr (List.take ((IntKind.i64.wrap ((1 : Int) + IntKind.i64.wrap ((List.take (x0.length - (1 : Nat)) (List.drop (1 : Nat) x0)).getD (0 : Nat) (0 : Int)))).toNat - (1 : Nat)) (List.drop (1 : Nat) (List.take (x0.length - (1 : Nat)) (List.drop (1 : Nat) x0))))))], XV.mk false [X.c (X0.dat (Ty.int IntKind.i64) (IntKind.i64.wrap ((2 : Int) + IntKind.i64.wrap ((List.take (x0.length - (1 : Nat)) (List.drop (1 : Nat) x0)).getD (0 : Nat) (0 : Int)))))]] [])))) else some (Res.mk [XV.mk true [X.c (X0.dat (Ty.int IntKind.i64) (0 : Int)), X.c (X0.dat (Ty.int IntKind.i64) (0 : Int)), X.c (X0.dat Ty.str ByteArray.empty)], XV.mk false [X.c (X0.dat (Ty.int IntKind.i64) (0 : Int))]] [])) else some (Res.mk [XV.mk true [X.c (X0.dat (Ty.int IntKind.i64) (0 : Int)), X.c (X0.dat (Ty.int IntKind.i64) (0 : Int)), X.c (X0.dat Ty.str ByteArray.empty)], XV.mk false [X.c (X0.dat (Ty.int IntKind.i64) (0 : Int))]] []) else some (Res.mk [XV.mk true [X.c (X0.dat (Ty.int IntKind.i64) (0 : Int)), X.c (X0.dat (Ty.int IntKind.i64) (0 : Int)), X.c (X0.dat Ty.str ByteArray.empty)], XV.mk false [X.c (X0.dat (Ty.int IntKind.i64) (0 : Int))]] [])))) = chk (Sp.f131x_pre x0 x1) (some (f131x_g (Sp.f131x x0 x1))) := by
  unfold Sp.f131x_pre Sp.f131x
  exact (chk_step ((chk_step ((cond_step f131x_g ((lift_plain (rfl))) ((cond_step f131x_g ((cond_step f131x_g ((chk_last (rfl))) ((cond_step f131x_g ((cond_step f131x_g ((chk_step ((chk_last (rfl))))) ((cond_step f131x_g ((cond_step f131x_g ((chk_last ((cond_plain f131x_g (rfl) (rfl))))) ((cond_step f131x_g ((cond_step f131x_g ((chk_step ((cond_step f131x_g ((chk_step ((chk_step ((chk_last (rfl))))))) ((lift_plain (rfl))))))) ((lift_plain (rfl))))) ((lift_plain (rfl))))))) ((cond_step f131x_g ((cond_step f131x_g ((chk_step ((cond_step f131x_g ((chk_step ((chk_step ((chk_last (rfl))))))) ((lift_plain (rfl))))))) ((lift_plain (rfl))))) ((lift_plain (rfl))))))))) ((cond_step f131x_g ((cond_step f131x_g ((chk_last ((cond_plain f131x_g (rfl) (rfl))))) ((cond_step f131x_g ((cond_step f131x_g ((chk_step ((cond_step f131x_g ((chk_step ((chk_step ((chk_last (rfl))))))) ((lift_plain (rfl))))))) ((lift_plain (rfl))))) ((lift_plain (rfl))))))) ((cond_step f131x_g ((cond_step f131x_g ((chk_step ((cond_step f131x_g ((chk_step ((chk_step ((chk_last (rfl))))))) ((lift_plain (rfl))))))) ((lift_plain (rfl))))) ((lift_plain (rfl))))))))))) ((cond_step f131x_g ((cond_step f131x_g ((chk_step ((chk_last (rfl))))) ((cond_step f131x_g ((cond_step f131x_g ((chk_last ((cond_plain f131x_g (rfl) (rfl))))) ((cond_step f131x_g ((cond_step f131x_g ((chk_step ((cond_step f131x_g ((chk_step ((chk_step ((chk_last (rfl))))))) ((lift_plain (rfl))))))) ((lift_plain (rfl))))) ((lift_plain (rfl))))))) ((cond_step f131x_g ((cond_step f131x_g ((chk_step ((cond_step f131x_g ((chk_step ((chk_step ((chk_last (rfl))))))) ((lift_plain (rfl))))))) ((lift_plain (rfl))))) ((lift_plain (rfl))))))))) ((cond_step f131x_g ((cond_step f131x_g ((chk_last ((cond_plain f131x_g (rfl) (rfl))))) ((cond_step f131x_g ((cond_step f131x_g ((chk_step ((cond_step f131x_g ((chk_step ((chk_step ((chk_last (rfl))))))) ((lift_plain (rfl))))))) ((lift_plain (rfl))))) ((lift_plain (rfl))))))) ((cond_step f131x_g ((cond_step f131x_g ((chk_step ((cond_step f131x_g ((chk_step ((chk_step ((chk_last (rfl))))))) ((lift_plain (rfl))))))) ((lift_plain (rfl))))) ((lift_plain (rfl))))))))))))))))
theorem e131x_ok : Valid Try.prog Γ e131x := valid_auto ok (vcons e77_ok (vcons e167_ok (vcons e168_ok vnil))) fun a => (f131x_raw a.1 a.2).trans (f131x_form a.1 a.2)

abbrev V3 := Int × Int × ByteArray
def Sp.zv : V3 := (0, 0, ByteArray.empty)
/-! The value at the beginning of bytes, and how many bytes it takes; 0 if there is none. -/
def Sp.cellC (x : Int) (r : List Int) (row : Bool) : V3 × Int :=
    bif x == 0 then ((0, 0, ByteArray.empty), 1)
    else bif x == 1 then (match r with | [] => (Sp.zv, 0) | y :: _ => ((1, y, ByteArray.empty), 2))
    else bif x == 2 then (bif Nat.ble 8 r.length then ((2, Sp.of8 r, ByteArray.empty), 9) else (Sp.zv, 0))
    else bif (Sp.f167 x).1 then
      bif !row then (bif decide ((Sp.kt r [] 0).2 > 0) then ((x, 0, (Sp.kt r [] 0).1), IntKind.i64.wrap ((Sp.kt r [] 0).2 + 1)) else (Sp.zv, 0))
      else (match r with | [] => (Sp.zv, 0) | y :: r' => bif Nat.ble y.toNat r'.length then ((x, 0, bytesStr (r'.take y.toNat)), 2 + y) else (Sp.zv, 0))
    else (Sp.zv, 0)
def Sp.cell : List Int → Bool → V3 × Int
  | [], _ => (Sp.zv, 0)
  | x :: r, row => Sp.cellC x r row
def Sp.cellOK (b : List Int) : Bool := yes2 (Nat.ble 1 b.length) (yes2 (Sp.mid b) (Sp.isBytes b))
theorem cellOK_of {xs : List Int} (h : Sp.cellOK xs = true) : 1 ≤ xs.length ∧ xs.length ≤ 1048576 ∧ Sp.isBytes xs = true := by
  obtain ⟨h1, h2⟩ := yes2_true h
  obtain ⟨h2, h3⟩ := yes2_true h2
  exact ⟨Nat.le_of_ble_eq_true h1, mid_of h2, h3⟩
theorem cellOK_mk {xs : List Int} (h1 : 1 ≤ xs.length) (h2 : xs.length ≤ 1048576) (h3 : Sp.isBytes xs = true) : Sp.cellOK xs = true := by
  unfold Sp.cellOK
  rw [Nat.ble_eq_true_of_le h1, mid_mk h2, h3]; rfl
theorem xor63 {n : Nat} (h : n < 2 ^ 64) : n ^^^ 9223372036854775808 = if n < 9223372036854775808 then n + 9223372036854775808 else n - 9223372036854775808 := by
  have h1 : (n ^^^ 9223372036854775808) / 2 ^ 63 = (n / 2 ^ 63) ^^^ 1 := by
    rw [Nat.xor_div_two_pow]
  have h2 : (n ^^^ 9223372036854775808) % 2 ^ 63 = n % 2 ^ 63 := by
    rw [Nat.xor_mod_two_pow, show 9223372036854775808 % 2 ^ 63 = 0 from rfl, Nat.xor_zero]
  have h3 := Nat.div_add_mod (n ^^^ 9223372036854775808) (2 ^ 63)
  rw [h1, h2] at h3
  split
  · have e : n / 2 ^ 63 = 0 := by omega
    rw [e] at h3
    have : (0 : Nat) ^^^ 1 = 1 := rfl
    omega
  · have e : n / 2 ^ 63 = 1 := by omega
    rw [e] at h3
    have : (1 : Nat) ^^^ 1 = 0 := rfl
    omega
theorem sign_eq {n : Nat} (h : n < 2 ^ 64) : IntKind.i64.wrap (IntKind.u64.wrap (((BitVec.ofInt 64 (n : Int) ^^^ BitVec.ofInt 64 (9223372036854775808 : Int)).toNat : Nat) : Int)) = (n : Int) - 9223372036854775808 := by
  rw [BitVec.toNat_xor, ofInt_toNat, show (BitVec.ofInt 64 (9223372036854775808 : Int)).toNat = 9223372036854775808 from rfl, Nat.mod_eq_of_lt h, xor63 h]
  by_cases hc : n < 9223372036854775808
  · rw [if_pos hc, wrapu64 (by omega) (by omega), i64_cases _ (by omega) (by omega), if_neg (by omega)]
    omega
  · rw [if_neg hc, wrapu64 (by omega) (by omega), i64_cases _ (by omega) (by omega), if_pos (by omega)]
    omega
theorem num8_lt {r : List Int} (hb : Sp.isBytes r = true) : Sp.num 0 (r.take 8) < 2 ^ 64 := by
  have := num_lt (r.take 8) 0 (isBytes_take hb 8)
  have h2 : 256 ^ (r.take 8).length ≤ 256 ^ 8 := Nat.pow_le_pow_right (by omega) (by rw [List.length_take]; omega)
  have h3 : 256 ^ 8 = 2 ^ 64 := by decide +kernel
  omega
theorem f131_eq {b : List Int} (row : Bool) (h : Sp.cellOK b = true) : Sp.f131x b row = (Sp.cell b row, ()) := by
  obtain ⟨h1, h2, hb⟩ := cellOK_of h
  match b, h1 with
  | x :: r, _ =>
    have hl : (x :: r).length = r.length + 1 := rfl
    have hr : List.take ((x :: r).length - 1) (List.drop 1 (x :: r)) = r := by simp
    obtain ⟨⟨x0, x1⟩, hb'⟩ := isBytes_cons.1 hb
    have hx : IntKind.i64.wrap ((x :: r).getD 0 0) = x := wrap64 (by simpa using by omega) (by simpa using by omega)
    rw [show Sp.cell (x :: r) row = Sp.cellC x r row from rfl]
    unfold Sp.f131x Sp.cellC
    rw [hr, hx]
    by_cases c0 : x = 0
    · subst c0; rfl
    rw [beq_false_of_ne c0, cond_false, cond_false]
    by_cases c1 : x = 1
    · subst c1
      cases r with
      | nil => rfl
      | cons y r' =>
        obtain ⟨⟨y0, y1⟩, _⟩ := isBytes_cons.1 hb'
        have hy : IntKind.i64.wrap ((y :: r').getD 0 0) = y := wrap64 (by simpa using by omega) (by simpa using by omega)
        rw [hy, decide_eq_true (show ((y :: r').length : Int) ≥ 1 by rw [List.length_cons]; omega)]
        rfl
    rw [beq_false_of_ne c1, cond_false, cond_false]
    by_cases c2 : x = 2
    · subst c2
      rw [List.drop_zero, sign_eq (num8_lt hb')]
      by_cases h8 : 8 ≤ r.length
      · rw [decide_eq_true (show (r.length : Int) ≥ 8 by omega), Nat.ble_eq_true_of_le h8]
        rfl
      · rw [decide_eq_false (show ¬ (r.length : Int) ≥ 8 by omega), show Nat.ble 8 r.length = false from Bool.eq_false_iff.2 fun e => h8 (Nat.le_of_ble_eq_true e)]
        rfl
    rw [beq_false_of_ne c2, cond_false, cond_false]
    cases (Sp.f167 x).1 with
    | false => rfl
    | true =>
      cases row with
      | false =>
        rw [cond_true, cond_true]
        show (bif true then _ else _) = _
        cases decide ((Sp.kt r [] 0).2 > 0) <;> rfl
      | true =>
        cases r with
        | nil => rfl
        | cons y r' =>
          obtain ⟨⟨y0, y1⟩, _⟩ := isBytes_cons.1 hb'
          have hy : IntKind.i64.wrap ((y :: r').getD 0 0) = y := wrap64 (by simpa using by omega) (by simpa using by omega)
          have hl2 : (y :: r').length = r'.length + 1 := rfl
          rw [hy, hl2, decide_eq_true (show ((r'.length + 1 : Nat) : Int) ≥ 1 by omega), wrap64 (n := 1 + y) (by omega) (by omega), wrap64 (n := 2 + y) (by omega) (by omega)]
          rw [show (1 + y).toNat - 1 = y.toNat by omega]
          show _ = ((bif Nat.ble y.toNat r'.length then ((x, 0, bytesStr (r'.take y.toNat)), 2 + y) else (Sp.zv, 0)), ())
          by_cases hc : y.toNat ≤ r'.length
          · rw [decide_eq_true (show ((r'.length + 1 : Nat) : Int) > y by omega), Nat.ble_eq_true_of_le hc]
            rfl
          · rw [decide_eq_false (show ¬ ((r'.length + 1 : Nat) : Int) > y by omega), show Nat.ble y.toNat r'.length = false from Bool.eq_false_iff.2 fun e => hc (Nat.le_of_ble_eq_true e)]
            rfl
theorem f131_pre {b : List Int} (row : Bool) (h : Sp.cellOK b = true) : Sp.f131x_pre b row = true := by
  obtain ⟨h1, h2, hb⟩ := cellOK_of h
  match b, h1 with
  | x :: r, _ =>
    have hl : (x :: r).length = r.length + 1 := rfl
    have hr : List.take ((x :: r).length - 1) (List.drop 1 (x :: r)) = r := by simp
    obtain ⟨⟨x0, x1⟩, hb'⟩ := isBytes_cons.1 hb
    have hm : Sp.mid r = true := mid_mk (by omega)
    have he : Sp.eight (List.take 8 (List.drop 0 r)) = true := by
      unfold Sp.eight
      rw [List.drop_zero, isBytes_take hb' 8, decide_eq_true (by rw [List.length_take]; omega)]; rfl
    unfold Sp.f131x_pre
    rw [hr, hm, he, decide_eq_true (show (0 : Int) < (x :: r).length by omega), decide_eq_true (show (1 : Int) ≤ (x :: r).length by omega)]
    generalize (IntKind.i64.wrap ((x :: r).getD 0 0) == 0) = b0
    generalize (IntKind.i64.wrap ((x :: r).getD 0 0) == 1) = b1
    generalize (IntKind.i64.wrap ((x :: r).getD 0 0) == 2) = b2
    generalize (Sp.f167 (IntKind.i64.wrap ((x :: r).getD 0 0))).1 = b3
    cases r with
    | nil => cases b0 <;> cases b1 <;> cases b2 <;> cases b3 <;> cases row <;> rfl
    | cons y r' =>
      obtain ⟨⟨y0, y1⟩, _⟩ := isBytes_cons.1 hb'
      have hy : IntKind.i64.wrap ((y :: r').getD 0 0) = y := wrap64 (by simpa using by omega) (by simpa using by omega)
      have hl2 : (y :: r').length = r'.length + 1 := rfl
      rw [hy, hl2, decide_eq_true (show ((r'.length + 1 : Nat) : Int) ≥ 1 by omega), decide_eq_true (show (0 : Int) < ((r'.length + 1 : Nat) : Int) by omega), wrap64 (n := 1 + y) (by omega) (by omega), decide_eq_true (show (1 : Int) ≤ 1 + y by omega)]
      by_cases h8 : ((r'.length + 1 : Nat) : Int) ≥ 8
      · rw [decide_eq_true h8]
        by_cases hc : ((r'.length + 1 : Nat) : Int) > y
        · rw [decide_eq_true hc, decide_eq_true (show 1 + y ≤ ((r'.length + 1 : Nat) : Int) by omega)]
          cases b0 <;> cases b1 <;> cases b2 <;> cases b3 <;> cases row <;> rfl
        · rw [decide_eq_false hc]
          cases b0 <;> cases b1 <;> cases b2 <;> cases b3 <;> cases row <;> rfl
      · rw [decide_eq_false h8]
        by_cases hc : ((r'.length + 1 : Nat) : Int) > y
        · rw [decide_eq_true hc, decide_eq_true (show 1 + y ≤ ((r'.length + 1 : Nat) : Int) by omega)]
          cases b0 <;> cases b1 <;> cases b2 <;> cases b3 <;> cases row <;> rfl
        · rw [decide_eq_false hc]
          cases b0 <;> cases b1 <;> cases b2 <;> cases b3 <;> cases row <;> rfl
noncomputable def e131 : Ent := { e131x with pre := fun a => Sp.cellOK (show List Int from a.1), spec := fun a => Sp.cell a.1 a.2, wrt := fun _ => () }
theorem e131_ok : Valid Try.prog Γ e131 := fun a ha => by
  have h := e131x_ok a (f131_pre a.2 ha)
  have e : e131x.res a = e131.res a := by
    have e2 : Sp.f131x a.1 a.2 = (Sp.cell a.1 a.2, ()) := f131_eq a.2 ha
    show (⟨mkS e131x.outs (Sp.f131x a.1 a.2).1, mkU e131x.upd (Sp.f131x a.1 a.2).2⟩ : Res) = _
    rw [e2]
    rfl
  rw [e] at h
  exact h
end Go.Proofs.GR.T
namespace Go.Proofs.GR.T
open Go Go.Proofs Go.Proofs.GR
namespace Sp
def eqW {α β : Type} (q : α → β → Bool) : List α → List β → Bool
  | [], [] => true
  | x :: r, y :: s => bif !q x y then false else eqW q r s
  | _, _ => false
def markW {α : Type} (g : α → Int → α) (c : Int) : List α → Int → List α
  | [], _ => []
  | x :: r, k => g x k :: markW g c r (k + c)
def heldW {α : Type} (p : α → Int → Bool) (c : Int) : List α → Int → Int
  | [], k => k
  | x :: r, k => bif p x k then heldW p c r (k + c) else -1
def smallW {α : Type} (c : Nat) (xs : List α) (k : Int) : Bool := match k with
  | .ofNat n => decide (n + c * xs.length ≤ 4611686018427387904)
  | .negSucc _ => false
def addW {α : Type} (c : Int) (xs : List α) (k : Int) : Int := k + c * (xs.length : Int)
def allW {α : Type} (p : α → Bool) : List α → Bool
  | [] => true
  | x :: r => bif !p x then false else allW p r
end Sp
theorem smallW_of {α : Type} {c : Nat} {xs : List α} {k : Int} (h : Sp.smallW c xs k = true) : 0 ≤ k ∧ k + c * (xs.length : Int) ≤ 4611686018427387904 := by
  cases k with
  | ofNat n =>
    have h1 : n + c * xs.length ≤ 4611686018427387904 := of_decide_eq_true h
    refine ⟨Int.natCast_nonneg n, ?_⟩
    show (n : Int) + c * (xs.length : Int) ≤ 4611686018427387904
    rw [← Int.natCast_mul]
    omega
  | negSucc n => cases h
theorem smallW_mk {α : Type} {c : Nat} {xs : List α} {k : Int} (h1 : 0 ≤ k) (h2 : k.toNat + c * xs.length ≤ 4611686018427387904) : Sp.smallW c xs k = true := by
  cases k with
  | ofNat n => exact decide_eq_true h2
  | negSucc n => exact absurd h1 (by omega)
theorem eqW_len {α β : Type} {q : α → β → Bool} : ∀ {xs : List α} {ys : List β}, xs.length ≠ ys.length → Sp.eqW q xs ys = false
  | [], [], h => absurd rfl h
  | [], _ :: _, _ => rfl
  | _ :: _, [], _ => rfl
  | x :: r, y :: s, h => by
    unfold Sp.eqW
    rw [eqW_len (xs := r) (ys := s) (fun e => h (by simp [e]))]
    cases !q x y <;> rfl
theorem eqW_self {α : Type} {q : α → α → Bool} (h : ∀ x, q x x = true) : ∀ xs : List α, Sp.eqW q xs xs = true
  | [] => rfl
  | x :: r => by unfold Sp.eqW; rw [h, eqW_self h r]; rfl
theorem markW_len {α : Type} (g : α → Int → α) (c : Int) : ∀ (xs : List α) (k : Int), (Sp.markW g c xs k).length = xs.length
  | [], _ => rfl
  | x :: r, k => by rw [Sp.markW, List.length_cons, List.length_cons, markW_len g c r]
theorem heldW_mark {α : Type} {g : α → Int → α} {p : α → Int → Bool} {c : Int} (h : ∀ x k, p (g x k) k = true) : ∀ (xs : List α) (k : Int), Sp.heldW p c (Sp.markW g c xs k) k = Sp.addW c xs k
  | [], k => by simp [Sp.heldW, Sp.markW, Sp.addW]
  | x :: r, k => by
    rw [Sp.markW, Sp.heldW, h, cond_true, heldW_mark h r]
    unfold Sp.addW
    rw [List.length_cons, Int.natCast_add, Int.natCast_one, Int.mul_add, Int.mul_one]
    omega
theorem allW_mem {α : Type} {p : α → Bool} : ∀ {xs : List α}, Sp.allW p xs = true ↔ ∀ x ∈ xs, p x = true
  | [] => by simp [Sp.allW]
  | x :: r => by
    unfold Sp.allW
    cases h : p x with
    | true => simp [h, allW_mem (xs := r)]
    | false => simp [h]
/-! How such loops end. -/
theorem eq_loop {α : Type} {ρ : Type} {q : α → α → Bool} {R : Bool → ρ} (xs ys : List α) (L : Nat → Int → Option ρ) (hy : xs.length = ys.length)
    (hend : ∀ m (k : Nat), xs.length ≤ k → L (m + 1) k = some (R true))
    (hstep : ∀ m (k : Nat) (h : k < xs.length) (h2 : k < ys.length), L (m + 1) k = bif !q xs[k] ys[k] then some (R false) else L m ((k + 1 : Nat) : Int)) :
    ∀ (d k m : Nat), k + d = xs.length → d < m → L m k = some (R (Sp.eqW q (xs.drop k) (ys.drop k))) := by
  intro d
  induction d with
  | zero =>
    intro k m hk hm
    obtain ⟨m, rfl⟩ := succ_of hm
    rw [hend m k (by omega), List.drop_of_length_le (by omega), List.drop_of_length_le (by omega)]
    rfl
  | succ d ih =>
    intro k m hk hm
    obtain ⟨m, rfl⟩ := succ_of hm
    rw [hstep m k (by omega) (by omega), ih (k + 1) m (by omega) (by omega), List.drop_eq_getElem_cons (show k < xs.length by omega), List.drop_eq_getElem_cons (show k < ys.length by omega)]
    rw [Sp.eqW]
    cases !q xs[k] ys[k] <;> rfl
theorem all_loop {α : Type} {ρ : Type} {p : α → Bool} {R : Bool → ρ} (xs : List α) (L : Nat → Int → Option ρ)
    (hend : ∀ m (k : Nat), xs.length ≤ k → L (m + 1) k = some (R true))
    (hstep : ∀ m (k : Nat) (h : k < xs.length), L (m + 1) k = bif !p xs[k] then some (R false) else L m ((k + 1 : Nat) : Int)) :
    ∀ (d k m : Nat), k + d = xs.length → d < m → L m k = some (R (Sp.allW p (xs.drop k))) := by
  intro d
  induction d with
  | zero =>
    intro k m hk hm
    obtain ⟨m, rfl⟩ := succ_of hm
    rw [hend m k (by omega), List.drop_of_length_le (by omega)]
    rfl
  | succ d ih =>
    intro k m hk hm
    obtain ⟨m, rfl⟩ := succ_of hm
    rw [hstep m k (by omega), ih (k + 1) m (by omega) (by omega), List.drop_eq_getElem_cons (show k < xs.length by omega)]
    rw [Sp.allW]
    cases !p xs[k] <;> rfl
theorem idx_loop {α : Type} {ρ : Type} {p : α → Bool} {R : Int → ρ} (xs : List α) (L : Nat → Int → Option ρ)
    (hend : ∀ m (k : Nat), xs.length ≤ k → L (m + 1) k = some (R (-1)))
    (hstep : ∀ m (k : Nat) (h : k < xs.length), L (m + 1) k = bif p xs[k] then some (R k) else L m ((k + 1 : Nat) : Int)) :
    ∀ (d k m : Nat), k + d = xs.length → d < m → L m k = some (R (Sp.idx p (xs.drop k) k)) := by
  intro d
  induction d with
  | zero =>
    intro k m hk hm
    obtain ⟨m, rfl⟩ := succ_of hm
    rw [hend m k (by omega), List.drop_of_length_le (by omega)]
    rfl
  | succ d ih =>
    intro k m hk hm
    obtain ⟨m, rfl⟩ := succ_of hm
    rw [hstep m k (by omega), ih (k + 1) m (by omega) (by omega), List.drop_eq_getElem_cons (show k < xs.length by omega)]
    rw [Sp.idx]
    rw [show ((k + 1 : Nat) : Int) = (k : Int) + 1 by omega]
    cases p xs[k] <;> rfl
theorem held_loop {α : Type} {ρ : Type} {p : α → Int → Bool} {c : Nat} {R : Int → ρ} (xs : List α) (L : Nat → Int → Int → Option ρ)
    (hend : ∀ m (v : Int) (k : Nat), xs.length ≤ k → L (m + 1) v k = some (R v))
    (hstep : ∀ m (v : Int) (k : Nat) (h : k < xs.length), 0 ≤ v → v + c ≤ 4611686018427387904 → L (m + 1) v k = bif p xs[k] v then L m (v + c) ((k + 1 : Nat) : Int) else some (R (-1))) :
    ∀ (d k m : Nat) (v : Int), k + d = xs.length → d < m → 0 ≤ v → v + c * (d : Int) ≤ 4611686018427387904 → L m v k = some (R (Sp.heldW p c (xs.drop k) v)) := by
  intro d
  induction d with
  | zero =>
    intro k m v hk hm h0 h1
    obtain ⟨m, rfl⟩ := succ_of hm
    rw [hend m v k (by omega), List.drop_of_length_le (by omega)]
    rfl
  | succ d ih =>
    intro k m v hk hm h0 h1
    obtain ⟨m, rfl⟩ := succ_of hm
    rw [Int.natCast_add, Int.natCast_one, Int.mul_add, Int.mul_one] at h1
    have hp : (0 : Int) ≤ c * (d : Int) := Int.mul_nonneg (Int.natCast_nonneg _) (Int.natCast_nonneg _)
    have hc : (0 : Int) ≤ c := Int.natCast_nonneg _
    rw [hstep m v k (by omega) h0 (by omega), ih (k + 1) m (v + c) (by omega) (by omega) (by omega) (by omega), List.drop_eq_getElem_cons (show k < xs.length by omega)]
    rw [Sp.heldW]
    cases p xs[k] v <;> rfl
theorem mark_loop {α : Type} {ρ : Type} {g : α → Int → α} {c : Nat} {R : Int → List α → ρ} (L : Nat → Int → Int → List α → Option ρ)
    (hend : ∀ m (v : Int) (k : Nat) acc, acc.length ≤ k → L (m + 1) v k acc = some (R v acc))
    (hstep : ∀ m (v : Int) (k : Nat) acc (h : k < acc.length), acc.length ≤ 9223372036854775807 → 0 ≤ v → v + c ≤ 4611686018427387904 → L (m + 1) v k acc = L m (v + c) ((k + 1 : Nat) : Int) (acc.set k (g acc[k] v))) :
    ∀ (d k m : Nat) (v : Int) (acc : List α), k + d = acc.length → d < m → acc.length ≤ 9223372036854775807 → 0 ≤ v → v + c * (d : Int) ≤ 4611686018427387904 →
      L m v k acc = some (R (v + c * (d : Int)) (acc.take k ++ Sp.markW g c (acc.drop k) v)) := by
  intro d
  induction d with
  | zero =>
    intro k m v acc hk hm hlen h0 h1
    obtain ⟨m, rfl⟩ := succ_of hm
    rw [hend m v k acc (by omega), List.drop_of_length_le (by omega), List.take_of_length_le (by omega)]
    simp [Sp.markW]
  | succ d ih =>
    intro k m v acc hk hm hlen h0 h1
    obtain ⟨m, rfl⟩ := succ_of hm
    rw [Int.natCast_add, Int.natCast_one, Int.mul_add, Int.mul_one] at h1
    have hp : (0 : Int) ≤ c * (d : Int) := Int.mul_nonneg (Int.natCast_nonneg _) (Int.natCast_nonneg _)
    have hc : (0 : Int) ≤ c := Int.natCast_nonneg _
    have hlt : k < acc.length := by omega
    rw [hstep m v k acc hlt hlen h0 (by omega), ih (k + 1) m (v + c) _ (by rw [List.length_set]; omega) (by omega) (by rw [List.length_set]; exact hlen) (by omega) (by omega)]
    have e : (acc.set k (g acc[k] v)).take (k + 1) = acc.take k ++ [g acc[k] v] := by
      rw [List.take_set, List.take_succ_eq_append_getElem (by omega)]
      rw [List.set_append_right _ _ (by simp; omega)]
      simp [Nat.min_eq_left (show k ≤ acc.length by omega)]
    have e2 : (acc.set k (g acc[k] v)).drop (k + 1) = acc.drop (k + 1) := by rw [List.drop_set_of_lt (by omega)]
    rw [e, e2, List.append_assoc, List.drop_eq_getElem_cons hlt]
    simp only [Sp.markW, List.singleton_append]
    rw [Int.natCast_add, Int.natCast_one, Int.mul_add, Int.mul_one, show v + c + c * (d : Int) = v + (c * (d : Int) + c) by omega]
theorem getD_nat {α : Type} (xs : List α) (k : Nat) (d : α) (h : k < xs.length) : xs.getD (k : Int).toNat d = xs[k] := by
  rw [Int.toNat_natCast, List.getD, List.getElem?_eq_getElem h, Option.getD_some]
theorem guard2 {k n : Nat} (h : k < n) : (decide ((0 : Int) ≤ (k : Int)) && decide ((k : Int) < (n : Int))) = true := by
  rw [decide_eq_true (show (0 : Int) ≤ k by omega), decide_eq_true (show (k : Int) < n by omega)]; rfl
theorem guard0 {k : Nat} : (decide ((0 : Int) ≤ (k : Int)) && true) = true := by
  rw [decide_eq_true (show (0 : Int) ≤ k by omega)]; rfl
theorem getD_set {α : Type} {l : List α} {k : Nat} {y d : α} (h : k < l.length) : (l.set k y).getD k d = y := by
  rw [List.getD, List.getElem?_set_self h, Option.getD_some]
theorem next64 {k n : Nat} (h : k < n) (h2 : n ≤ 9223372036854775807) : IntKind.i64.wrap ((k : Int) + 1) = ((k + 1 : Nat) : Int) := by
  rw [wrap64 (by omega) (by omega)]; omega
theorem nat_lt {k n : Nat} (h : k < n) : decide ((k : Int) < (n : Int)) = true := decide_eq_true (by omega)
theorem nat_ge {k n : Nat} (h : n ≤ k) : decide ((k : Int) < (n : Int)) = false := decide_eq_false (by omega)
end Go.Proofs.GR.T
set_option maxRecDepth 100000
namespace Go.Proofs.GR.T
open Go Go.Proofs Go.Proofs.GR
abbrev tV : Ty := .pair (.int .i64) (.pair (.int .i64) .str)
def Sp.eqV (x y : V3) : Bool := (Sp.f86 x.1 x.2.1 x.2.2 y.1 y.2.1 y.2.2).1
def Sp.markV (_ : V3) (k : Int) : V3 := (k, k + 1, Sp.mText (k + 2))
def Sp.heldV (x : V3) (k : Int) : Bool := bif x.1 != k then false else bif x.2.1 != k + 1 then false else x.2.2.toList == (Sp.mText (k + 2)).toList
noncomputable def f44_L0 (n m0 : Nat) (y0 : List (Int × Int × ByteArray)) (y1 : List (Int × Int × ByteArray)) (y2 : Int) : Option Res := loopAt Γ (orc [e86]) n (44 : Nat) (0 : Nat) [] [Pth.r, Pth.r, Pth.l, Pth.r, Pth.b] m0 (St.mk [Slot.val (Val.one (Cell.dat ((Ty.int IntKind.i64).pair ((Ty.int IntKind.i64).pair Ty.str)).slice y0)), Slot.val (Val.one (Cell.dat ((Ty.int IntKind.i64).pair ((Ty.int IntKind.i64).pair Ty.str)).slice y1)), Slot.nix, Slot.nix, Slot.nix, Slot.val (Val.one (Cell.dat (Ty.int IntKind.i64) y2)), Slot.nix, Slot.nix, Slot.nix, Slot.nix, Slot.nix, Slot.nix, Slot.nix, Slot.nix, Slot.nix, Slot.nix, Slot.nix, Slot.nix, Slot.nix, Slot.nix, Slot.nix, Slot.nix, Slot.nix, Slot.nix, Slot.nix, Slot.nix, Slot.nix] [])
theorem f44_L0_step (n m0 : Nat) (y0 : List (Int × Int × ByteArray)) (y1 : List (Int × Int × ByteArray)) (y2 : Int) : f44_L0 n (m0 + 1) y0 y1 y2 = bif decide (y2 < (↑y0.length : Int)) then chk (decide ((0 : Int) ≤ y2) && decide (y2 < (↑y0.length : Int))) (chk (decide ((0 : Int) ≤ y2) && decide (y2 < (↑y1.length : Int))) (bif !(Sp.f86 (y0.getD y2.toNat ((0 : Int), (0 : Int), ByteArray.mk #[])).1 (y0.getD y2.toNat ((0 : Int), (0 : Int), ByteArray.mk #[])).2.1 (y0.getD y2.toNat ((0 : Int), (0 : Int), ByteArray.mk #[])).2.2 (y1.getD y2.toNat ((0 : Int), (0 : Int), ByteArray.mk #[])).1 (y1.getD y2.toNat ((0 : Int), (0 : Int), ByteArray.mk #[])).2.1 (y1.getD y2.toNat ((0 : Int), (0 : Int), ByteArray.mk #[])).2.2).1 then some (Res.mk [XV.mk false [X.c (X0.dat Ty.bool false)]] []) else f44_L0 n m0 y0 y1 (IntKind.i64.wrap (y2 + (1 : Int))))) else some (Res.mk [XV.mk false [X.c (X0.dat Ty.bool true)]] []) := by kernel_rfl
theorem f44_raw (n : Nat) (x0 : List (Int × Int × ByteArray)) (x1 : List (Int × Int × ByteArray)) : abody Γ (orc [e86]) n 44 [XV.mk false [X.c (X0.dat ((Ty.int IntKind.i64).pair ((Ty.int IntKind.i64).pair Ty.str)).slice x0)], XV.mk false [X.c (X0.dat ((Ty.int IntKind.i64).pair ((Ty.int IntKind.i64).pair Ty.str)).slice x1)]] = bif (↑x0.length : Int) != (↑x1.length : Int) then some (Res.mk [XV.mk false [X.c (X0.dat Ty.bool false)]] []) else f44_L0 n n x0 x1 (0 : Int) := by kernel_rfl

noncomputable def e44 : Ent := { f := 44, ins := [Sh.one (C0.dat (.slice tV)), Sh.one (C0.dat (.slice tV))], outs := [Sh.one cB], upd := [], pre := fun a => true, spec := fun a => Sp.eqW Sp.eqV a.1 a.2, wrt := fun _ => () }
theorem e44_core (xs ys : List V3) (h1 : xs.length ≤ maxLen) : ∃ n, abody Γ (orc [e86]) n 44 [XV.mk false [X.c (X0.dat (Ty.slice tV) xs)], XV.mk false [X.c (X0.dat (Ty.slice tV) ys)]] = some (rBo (Sp.eqW Sp.eqV xs ys)) := by
  have h1 : xs.length ≤ 9223372036854775807 := h1
  refine ⟨xs.length + 1, (f44_raw _ xs ys).trans ?_⟩
  by_cases he : xs.length = ys.length
  · rw [show ((xs.length : Int) != (ys.length : Int)) = false by simp [he], cond_false]
    refine eq_loop xs ys (fun m k => f44_L0 _ m xs ys k) he (fun m k hk => ?_) (fun m k h h2 => ?_) xs.length 0 _ (Nat.zero_add _) (Nat.lt_succ_self _)
    · show f44_L0 _ _ _ _ _ = _
      rw [f44_L0_step, nat_ge hk, cond_false]
    · show f44_L0 _ _ _ _ _ = _
      rw [f44_L0_step, nat_lt h, cond_true, guard0, chkT, guard2 h2, chkT, getD_nat xs k _ h, getD_nat ys k _ h2, next64 h2 (by omega)]
      rfl
  · rw [show ((xs.length : Int) != (ys.length : Int)) = true by simp; omega, eqW_len he]
    rfl
theorem e44_ok : Valid Try.prog Γ e44 := valid_len ok (vcons e86_ok vnil) fun a _ hl => e44_core a.1 a.2 (hl _ (List.mem_cons_self) _ (List.mem_cons_self)).1
noncomputable def f45_L0 (n m0 : Nat) (y0 : Int) (y1 : Int) (y2 : List (Int × Int × ByteArray)) : Option Res := loopAt Γ (orc [e75]) n (45 : Nat) (1 : Nat) [(0 : Nat)] [Pth.r, Pth.l, Pth.r, Pth.b] m0 (St.mk [Slot.val (Val.one (Cell.own (0 : Nat))), Slot.val (Val.one (Cell.dat (Ty.int IntKind.i64) y0)), Slot.nix, Slot.nix, Slot.nix, Slot.val (Val.one (Cell.dat (Ty.int IntKind.i64) y1)), Slot.nix, Slot.nix, Slot.nix, Slot.nix, Slot.nix, Slot.nix, Slot.nix, Slot.nix, Slot.nix, Slot.nix, Slot.nix, Slot.nix, Slot.nix, Slot.nix, Slot.nix, Slot.nix, Slot.nix, Slot.nix, Slot.nix, Slot.nix, Slot.nix, Slot.nix, Slot.nix, Slot.nix, Slot.nix, Slot.nix, Slot.nix, Slot.nix, Slot.nix] [AObj.row ((Ty.int IntKind.i64).pair ((Ty.int IntKind.i64).pair Ty.str)) y2 true])
theorem f45_L0_step (n m0 : Nat) (y0 : Int) (y1 : Int) (y2 : List (Int × Int × ByteArray)) : f45_L0 n (m0 + 1) y0 y1 y2 = bif decide (y1 < (↑y2.length : Int)) then chk (decide ((0 : Int) ≤ y1) && decide (y1 < (↑y2.length : Int))) (chk (decide ((0 : Int) ≤ y1) && decide (y1 < (↑(y2.set y1.toNat (y0, (y2.getD y1.toNat ((0 : Int), (0 : Int), ByteArray.mk #[])).2)).length : Int))) (chk (Sp.mOK (IntKind.i64.wrap (IntKind.i64.wrap (y0 + (1 : Int)) + (1 : Int)))) (chk (decide ((0 : Int) ≤ y1) && decide (y1 < (↑((y2.set y1.toNat (y0, (y2.getD y1.toNat ((0 : Int), (0 : Int), ByteArray.mk #[])).2)).set y1.toNat (((y2.set y1.toNat (y0, (y2.getD y1.toNat ((0 : Int), (0 : Int), ByteArray.mk #[])).2)).getD y1.toNat ((0 : Int), (0 : Int), ByteArray.mk #[])).1, IntKind.i64.wrap (y0 + (1 : Int)), ((y2.set y1.toNat (y0, (y2.getD y1.toNat ((0 : Int), (0 : Int), ByteArray.mk #[])).2)).getD y1.toNat ((0 : Int), (0 : Int), ByteArray.mk #[])).2.2)).length : Int))) (f45_L0 n m0 (IntKind.i64.wrap (IntKind.i64.wrap (IntKind.i64.wrap (y0 + (1 : Int)) + (1 : Int)) + (1 : Int))) (IntKind.i64.wrap (y1 + (1 : Int))) (((y2.set y1.toNat (y0, (y2.getD y1.toNat ((0 : Int), (0 : Int), ByteArray.mk #[])).2)).set y1.toNat (((y2.set y1.toNat (y0, (y2.getD y1.toNat ((0 : Int), (0 : Int), ByteArray.mk #[])).2)).getD y1.toNat ((0 : Int), (0 : Int), ByteArray.mk #[])).1, IntKind.i64.wrap (y0 + (1 : Int)), ((y2.set y1.toNat (y0, (y2.getD y1.toNat ((0 : Int), (0 : Int), ByteArray.mk #[])).2)).getD y1.toNat ((0 : Int), (0 : Int), ByteArray.mk #[])).2.2)).set y1.toNat ((((y2.set y1.toNat (y0, (y2.getD y1.toNat ((0 : Int), (0 : Int), ByteArray.mk #[])).2)).set y1.toNat (((y2.set y1.toNat (y0, (y2.getD y1.toNat ((0 : Int), (0 : Int), ByteArray.mk #[])).2)).getD y1.toNat ((0 : Int), (0 : Int), ByteArray.mk #[])).1, IntKind.i64.wrap (y0 + (1 : Int)), ((y2.set y1.toNat (y0, (y2.getD y1.toNat ((0 : Int), (0 : Int), ByteArray.mk #[])).2)).getD y1.toNat ((0 : Int), (0 : Int), ByteArray.mk #[])).2.2)).getD y1.toNat ((0 : Int), (0 : Int), ByteArray.mk #[])).1, (((y2.set y1.toNat (y0, (y2.getD y1.toNat ((0 : Int), (0 : Int), ByteArray.mk #[])).2)).set y1.toNat (((y2.set y1.toNat (y0, (y2.getD y1.toNat ((0 : Int), (0 : Int), ByteArray.mk #[])).2)).getD y1.toNat ((0 : Int), (0 : Int), ByteArray.mk #[])).1, IntKind.i64.wrap (y0 + (1 : Int)), ((y2.set y1.toNat (y0, (y2.getD y1.toNat ((0 : Int), (0 : Int), ByteArray.mk #[])).2)).getD y1.toNat ((0 : Int), (0 : Int), ByteArray.mk #[])).2.2)).getD y1.toNat ((0 : Int), (0 : Int), ByteArray.mk #[])).2.1, Sp.mText (IntKind.i64.wrap (IntKind.i64.wrap (y0 + (1 : Int)) + (1 : Int))))))))) else some (Res.mk [XV.mk false [X.c (X0.dat (Ty.int IntKind.i64) y0)]] [X.c (X0.row ((Ty.int IntKind.i64).pair ((Ty.int IntKind.i64).pair Ty.str)) y2 true)]) := by kernel_rfl
theorem f45_raw (n : Nat) (x0 : List (Int × Int × ByteArray)) (x1 : Int) : abody Γ (orc [e75]) n 45 [XV.mk false [X.c (X0.row ((Ty.int IntKind.i64).pair ((Ty.int IntKind.i64).pair Ty.str)) x0 true)], XV.mk false [X.c (X0.dat (Ty.int IntKind.i64) x1)]] = f45_L0 n n x1 (0 : Int) x0 := by kernel_rfl

noncomputable def e45 : Ent := { f := 45, ins := [Sh.one (C0.row tV), Sh.one cI], outs := [Sh.one cI], upd := [Sh.one (C0.row tV)], pre := fun a => Sp.smallW (α := V3) 3 a.1 a.2, spec := fun a => Sp.addW (α := V3) 3 a.1 a.2, wrt := fun a => Sp.markW Sp.markV 3 a.1 a.2 }
abbrev rMk (τ : Ty) (v : Int) (xs : List τ.den) : Res := Res.mk [XV.mk false [X.c (X0.dat (Ty.int IntKind.i64) v)]] [X.c (X0.row τ xs true)]
theorem mOK_of {k : Int} (h : k ≤ 4611686018427387904) : Sp.mOK k = true := decide_eq_true (by omega)
theorem e45_core (xs : List V3) (v : Int) (ha : Sp.smallW 3 xs v = true) (hl : xs.length ≤ maxLen) : ∃ n, abody Γ (orc [e75]) n 45 [XV.mk false [X.c (X0.row tV xs true)], XV.mk false [X.c (X0.dat (Ty.int IntKind.i64) v)]] = some (rMk tV (Sp.addW 3 xs v) (Sp.markW Sp.markV 3 xs v)) := by
  obtain ⟨h1, h2⟩ := smallW_of ha
  have hl : xs.length ≤ 9223372036854775807 := hl
  refine ⟨xs.length + 1, (f45_raw _ xs v).trans ?_⟩
  refine mark_loop (c := 3) (g := Sp.markV) (R := rMk tV) (fun m v k acc => f45_L0 (xs.length + 1) m v k acc) (fun m v k acc hk => ?_) (fun m v k acc h hlen h0 h1 => ?_) xs.length 0 _ v xs (Nat.zero_add _) (Nat.lt_succ_self _) hl h1 h2
  · show f45_L0 _ _ _ _ _ = _
    rw [f45_L0_step, nat_ge hk, cond_false]
  · show f45_L0 _ _ _ _ _ = _
    have e1 : IntKind.i64.wrap (v + 1) = v + 1 := wrap64 (by omega) (by omega)
    have e2 : IntKind.i64.wrap (v + 1 + 1) = v + 2 := (wrap64 (by omega) (by omega)).trans (by omega)
    have e3 : IntKind.i64.wrap (v + 2 + 1) = v + (3 : Nat) := (wrap64 (by omega) (by omega)).trans (by omega)
    rw [f45_L0_step, List.length_set, List.length_set, List.length_set, nat_lt h, cond_true, guard0, chkT, chkT, e1, e2, e3, mOK_of (by omega), chkT, chkT, next64 h hlen]
    rw [Int.toNat_natCast]
    simp only [List.set_set]
    rw [getD_set h, getD_set h]
    rfl
theorem e45_ok : Valid Try.prog Γ e45 := valid_len ok (vcons e75_ok vnil) fun a ha hl => e45_core a.1 a.2 ha (hl _ (List.mem_cons_self) _ (List.mem_cons_self)).1
noncomputable def f46_L0 (n m0 : Nat) (y0 : List (Int × Int × ByteArray)) (y1 : Int) (y2 : Int) : Option Res := loopAt Γ (orc [e75]) n (46 : Nat) (0 : Nat) [] [Pth.r, Pth.l, Pth.r, Pth.b] m0 (St.mk [Slot.val (Val.one (Cell.dat ((Ty.int IntKind.i64).pair ((Ty.int IntKind.i64).pair Ty.str)).slice y0)), Slot.val (Val.one (Cell.dat (Ty.int IntKind.i64) y1)), Slot.nix, Slot.nix, Slot.nix, Slot.val (Val.one (Cell.dat (Ty.int IntKind.i64) y2)), Slot.nix, Slot.nix, Slot.nix, Slot.nix, Slot.nix, Slot.nix, Slot.nix, Slot.nix, Slot.nix, Slot.nix, Slot.nix, Slot.nix, Slot.nix, Slot.nix, Slot.nix, Slot.nix, Slot.nix, Slot.nix, Slot.nix, Slot.nix, Slot.nix, Slot.nix, Slot.nix, Slot.nix, Slot.nix, Slot.nix, Slot.nix, Slot.nix, Slot.nix, Slot.nix, Slot.nix, Slot.nix, Slot.nix, Slot.nix, Slot.nix] [])
theorem f46_L0_step (n m0 : Nat) (y0 : List (Int × Int × ByteArray)) (y1 : Int) (y2 : Int) : f46_L0 n (m0 + 1) y0 y1 y2 = bif decide (y2 < (↑y0.length : Int)) then chk (decide ((0 : Int) ≤ y2) && decide (y2 < (↑y0.length : Int))) (bif (y0.getD y2.toNat ((0 : Int), (0 : Int), ByteArray.mk #[])).1 != y1 then some (Res.mk [XV.mk false [X.c (X0.dat (Ty.int IntKind.i64) (-1 : Int))]] []) else chk (decide ((0 : Int) ≤ y2) && decide (y2 < (↑y0.length : Int))) (bif (y0.getD y2.toNat ((0 : Int), (0 : Int), ByteArray.mk #[])).2.1 != IntKind.i64.wrap (y1 + (1 : Int)) then some (Res.mk [XV.mk false [X.c (X0.dat (Ty.int IntKind.i64) (-1 : Int))]] []) else chk (decide ((0 : Int) ≤ y2) && decide (y2 < (↑y0.length : Int))) (chk (Sp.mOK (IntKind.i64.wrap (IntKind.i64.wrap (y1 + (1 : Int)) + (1 : Int)))) (bif !(y0.getD y2.toNat ((0 : Int), (0 : Int), ByteArray.mk #[])).2.2.toList == (Sp.mText (IntKind.i64.wrap (IntKind.i64.wrap (y1 + (1 : Int)) + (1 : Int)))).toList then some (Res.mk [XV.mk false [X.c (X0.dat (Ty.int IntKind.i64) (-1 : Int))]] []) else f46_L0 n m0 y0 (IntKind.i64.wrap (IntKind.i64.wrap (IntKind.i64.wrap (y1 + (1 : Int)) + (1 : Int)) + (1 : Int))) (IntKind.i64.wrap (y2 + (1 : Int))))))) else some (Res.mk [XV.mk false [X.c (X0.dat (Ty.int IntKind.i64) y1)]] []) := by kernel_rfl
theorem f46_raw (n : Nat) (x0 : List (Int × Int × ByteArray)) (x1 : Int) : abody Γ (orc [e75]) n 46 [XV.mk false [X.c (X0.dat ((Ty.int IntKind.i64).pair ((Ty.int IntKind.i64).pair Ty.str)).slice x0)], XV.mk false [X.c (X0.dat (Ty.int IntKind.i64) x1)]] = f46_L0 n n x0 x1 (0 : Int) := by kernel_rfl

noncomputable def e46 : Ent := { f := 46, ins := [Sh.one (C0.dat (.slice tV)), Sh.one cI], outs := [Sh.one cI], upd := [], pre := fun a => Sp.smallW (α := V3) 3 a.1 a.2, spec := fun a => Sp.heldW Sp.heldV 3 a.1 a.2, wrt := fun _ => () }
theorem e46_core (xs : List V3) (v : Int) (ha : Sp.smallW 3 xs v = true) (hl : xs.length ≤ maxLen) : ∃ n, abody Γ (orc [e75]) n 46 [XV.mk false [X.c (X0.dat (Ty.slice tV) xs)], XV.mk false [X.c (X0.dat (Ty.int IntKind.i64) v)]] = some (rI (Sp.heldW Sp.heldV 3 xs v)) := by
  obtain ⟨h1, h2⟩ := smallW_of ha
  have hl : xs.length ≤ 9223372036854775807 := hl
  refine ⟨xs.length + 1, (f46_raw _ xs v).trans ?_⟩
  refine held_loop (c := 3) (p := Sp.heldV) (R := rI) xs (fun m v k => f46_L0 (xs.length + 1) m xs v k) (fun m v k hk => ?_) (fun m v k h h0 h1 => ?_) xs.length 0 _ v (Nat.zero_add _) (Nat.lt_succ_self _) h1 h2
  · show f46_L0 _ _ _ _ _ = _
    rw [f46_L0_step, nat_ge hk, cond_false]
  · show f46_L0 _ _ _ _ _ = _
    have e1 : IntKind.i64.wrap (v + 1) = v + 1 := wrap64 (by omega) (by omega)
    have e2 : IntKind.i64.wrap (v + 1 + 1) = v + 2 := (wrap64 (by omega) (by omega)).trans (by omega)
    have e3 : IntKind.i64.wrap (v + 2 + 1) = v + (3 : Nat) := (wrap64 (by omega) (by omega)).trans (by omega)
    rw [f46_L0_step, nat_lt h, cond_true, guard0, chkT, chkT, chkT, e1, e2, e3, mOK_of (by omega), chkT, next64 h hl, getD_nat xs k _ h]
    unfold Sp.heldV
    cases xs[k].1 != v <;> cases xs[k].2.1 != v + 1 <;> cases xs[k].2.2.toList == (Sp.mText (v + 2)).toList <;> rfl
theorem e46_ok : Valid Try.prog Γ e46 := valid_len ok (vcons e75_ok vnil) fun a ha hl => e46_core a.1 a.2 ha (hl _ (List.mem_cons_self) _ (List.mem_cons_self)).1
def Sp.vOK (x : V3) : Bool := (Sp.f136 x.1 x.2.1 x.2.2).1
def Sp.rowOK (xs : List V3) : Bool := bif decide ((xs.length : Int) > 8) then false else Sp.allW Sp.vOK xs
noncomputable def f92_L0 (n m0 : Nat) (y0 : List (Int × Int × ByteArray)) (y1 : Int) : Option Res := loopAt Γ (orc [e136]) n (92 : Nat) (0 : Nat) [] [Pth.r, Pth.r, Pth.l, Pth.r, Pth.b] m0 (St.mk [Slot.val (Val.one (Cell.dat ((Ty.int IntKind.i64).pair ((Ty.int IntKind.i64).pair Ty.str)).slice y0)), Slot.nix, Slot.nix, Slot.val (Val.one (Cell.dat (Ty.int IntKind.i64) y1)), Slot.nix, Slot.nix, Slot.nix, Slot.nix, Slot.nix, Slot.nix, Slot.nix, Slot.nix, Slot.nix, Slot.nix, Slot.nix, Slot.nix, Slot.nix, Slot.nix, Slot.nix] [])
theorem f92_L0_step (n m0 : Nat) (y0 : List (Int × Int × ByteArray)) (y1 : Int) : f92_L0 n (m0 + 1) y0 y1 = bif decide (y1 < (↑y0.length : Int)) then chk (decide ((0 : Int) ≤ y1) && decide (y1 < (↑y0.length : Int))) (bif !(Sp.f136 (y0.getD y1.toNat ((0 : Int), (0 : Int), ByteArray.mk #[])).1 (y0.getD y1.toNat ((0 : Int), (0 : Int), ByteArray.mk #[])).2.1 (y0.getD y1.toNat ((0 : Int), (0 : Int), ByteArray.mk #[])).2.2).1 then some (Res.mk [XV.mk false [X.c (X0.dat Ty.bool false)]] []) else f92_L0 n m0 y0 (IntKind.i64.wrap (y1 + (1 : Int)))) else some (Res.mk [XV.mk false [X.c (X0.dat Ty.bool true)]] []) := by kernel_rfl
theorem f92_raw (n : Nat) (x0 : List (Int × Int × ByteArray)) : abody Γ (orc [e136]) n 92 [XV.mk false [X.c (X0.dat ((Ty.int IntKind.i64).pair ((Ty.int IntKind.i64).pair Ty.str)).slice x0)]] = bif decide ((↑x0.length : Int) > (8 : Int)) then some (Res.mk [XV.mk false [X.c (X0.dat Ty.bool false)]] []) else f92_L0 n n x0 (0 : Int) := by kernel_rfl

noncomputable def e92 : Ent := { f := 92, ins := [Sh.one (C0.dat (.slice tV))], outs := [Sh.one cB], upd := [], pre := fun a => true, spec := fun a => Sp.rowOK a, wrt := fun _ => () }
theorem e92_core (xs : List V3) (hl : xs.length ≤ maxLen) : ∃ n, abody Γ (orc [e136]) n 92 [XV.mk false [X.c (X0.dat (Ty.slice tV) xs)]] = some (rBo (Sp.rowOK xs)) := by
  have hl : xs.length ≤ 9223372036854775807 := hl
  refine ⟨xs.length + 1, (f92_raw _ xs).trans ?_⟩
  unfold Sp.rowOK
  cases decide ((xs.length : Int) > 8) with
  | true => rfl
  | false =>
    rw [cond_false, cond_false]
    refine all_loop (p := Sp.vOK) (R := rBo) xs (fun m k => f92_L0 (xs.length + 1) m xs k) (fun m k hk => ?_) (fun m k h => ?_) xs.length 0 _ (Nat.zero_add _) (Nat.lt_succ_self _)
    · show f92_L0 _ _ _ _ = _
      rw [f92_L0_step, nat_ge hk, cond_false]
    · show f92_L0 _ _ _ _ = _
      rw [f92_L0_step, nat_lt h, cond_true, guard0, chkT, getD_nat xs k _ h, next64 h hl]
      rfl
theorem e92_ok : Valid Try.prog Γ e92 := valid_len ok (vcons e136_ok vnil) fun a _ hl => e92_core a (hl _ (List.mem_cons_self) _ (List.mem_cons_self)).1
def Sp.badV (x : V3) : Bool := (Sp.f170 x.1 x.2.1 x.2.2).1
noncomputable def f193_L0 (n m0 : Nat) (y0 : List (Int × Int × ByteArray)) (y1 : Int) (y2 : Int) : Option Res := loopAt Γ (orc [e170]) n (193 : Nat) (0 : Nat) [] [Pth.r, Pth.l, Pth.r, Pth.b] m0 (St.mk [Slot.val (Val.one (Cell.dat ((Ty.int IntKind.i64).pair ((Ty.int IntKind.i64).pair Ty.str)).slice y0)), Slot.val (Val.one (Cell.fn (170 : Nat) [])), Slot.nix, Slot.nix, Slot.nix, Slot.nix, Slot.nix, Slot.val (Val.one (Cell.dat (Ty.int IntKind.i64) y1)), Slot.val (Val.one (Cell.dat (Ty.int IntKind.i64) y2)), Slot.nix, Slot.nix, Slot.nix, Slot.nix, Slot.nix, Slot.nix, Slot.nix, Slot.nix, Slot.nix, Slot.nix] [])
theorem f193_L0_step (n m0 : Nat) (y0 : List (Int × Int × ByteArray)) (y1 : Int) (y2 : Int) : f193_L0 n (m0 + 1) y0 y1 y2 = bif decide (y2 < y1) then chk (decide ((0 : Int) ≤ y2) && decide (y2 < (↑y0.length : Int))) (bif (Sp.f170 (y0.getD y2.toNat ((0 : Int), (0 : Int), ByteArray.mk #[])).1 (y0.getD y2.toNat ((0 : Int), (0 : Int), ByteArray.mk #[])).2.1 (y0.getD y2.toNat ((0 : Int), (0 : Int), ByteArray.mk #[])).2.2).1 then some (Res.mk [XV.mk false [X.c (X0.dat (Ty.int IntKind.i64) y2)]] []) else f193_L0 n m0 y0 y1 (IntKind.i64.wrap (y2 + (1 : Int)))) else some (Res.mk [XV.mk false [X.c (X0.dat (Ty.int IntKind.i64) (-1 : Int))]] []) := by kernel_rfl
theorem f193_raw (n : Nat) (x0 : List (Int × Int × ByteArray)) : abody Γ (orc [e170]) n 193 [XV.mk false [X.c (X0.dat ((Ty.int IntKind.i64).pair ((Ty.int IntKind.i64).pair Ty.str)).slice x0)], XV.mk false [X.c (X0.fn (170 : Nat) [])]] = f193_L0 n n x0 (↑x0.length : Int) (0 : Int) := by kernel_rfl

noncomputable def e193 : Ent := { f := 193, ins := [Sh.one (C0.dat (.slice tV)), Sh.one (C0.fn 170 [])], outs := [Sh.one cI], upd := [], pre := fun _ => true, spec := fun a => Sp.idx Sp.badV a.1 0, wrt := fun _ => () }
theorem e193_core (xs : List V3) (hl : xs.length ≤ maxLen) : ∃ n, abody Γ (orc [e170]) n 193 [XV.mk false [X.c (X0.dat (Ty.slice tV) xs)], XV.mk false [X.c (X0.fn 170 [])]] = some (rI (Sp.idx Sp.badV xs 0)) := by
  have hl : xs.length ≤ 9223372036854775807 := hl
  refine ⟨xs.length + 1, (f193_raw _ xs).trans ?_⟩
  refine idx_loop (p := Sp.badV) (R := rI) xs (fun m k => f193_L0 (xs.length + 1) m xs xs.length k) (fun m k hk => ?_) (fun m k h => ?_) xs.length 0 _ (Nat.zero_add _) (Nat.lt_succ_self _)
  · show f193_L0 _ _ _ _ _ = _
    rw [f193_L0_step, nat_ge hk, cond_false]
  · show f193_L0 _ _ _ _ _ = _
    rw [f193_L0_step, nat_lt h, cond_true, guard0, chkT, getD_nat xs k _ h, next64 h hl]
    rfl
theorem e193_ok : Valid Try.prog Γ e193 := valid_len ok (es := [e170]) (vcons e170_ok vnil) fun a _ hl => e193_core a.1 (hl _ (List.mem_cons_self) _ (List.mem_cons_self)).1
def Sp.f169_pre (x0 : List (Int × Int × ByteArray)) : Bool := true
def Sp.f169 (x0 : List (Int × Int × ByteArray)) := (decide (Sp.idx Sp.badV x0 (0 : Int) ≥ (0 : Int)), ())
noncomputable def e169 : Ent := { f := 169, ins := [Sh.one (C0.dat ((Ty.int IntKind.i64).pair ((Ty.int IntKind.i64).pair Ty.str)).slice), Sh.one (C0.fn (170 : Nat) [])], outs := [Sh.one (C0.dat Ty.bool)], upd := [], pre := fun a => true, spec := fun a => (Sp.f169 a.1).1, wrt := fun a => (Sp.f169 a.1).2 }
def f169_g (v : denS [Sh.one (C0.dat Ty.bool)] × denS []) : Res := ⟨mkS [Sh.one (C0.dat Ty.bool)] v.1, mkU [] v.2⟩
theorem f169_raw (x0 : List (Int × Int × ByteArray)) : abody Γ (orc [e193, e170]) 0 169 [XV.mk false [X.c (X0.dat ((Ty.int IntKind.i64).pair ((Ty.int IntKind.i64).pair Ty.str)).slice x0)], XV.mk false [X.c (X0.fn (170 : Nat) [])]] = some (Res.mk [XV.mk false [X.c (X0.dat Ty.bool (decide (Sp.idx Sp.badV x0 (0 : Int) ≥ (0 : Int))))]] []) := by kernel_rfl
theorem f169_form (x0 : List (Int × Int × ByteArray)) : (some (Res.mk [XV.mk false [X.c (X0.dat Ty.bool (decide (Sp.idx Sp.badV x0 (0 : Int) ≥ (0 : Int))))]] [])) = some (f169_g (Sp.f169 x0)) := by
  unfold Sp.f169
  exact rfl
theorem e169_ok : Valid Try.prog Γ e169 := valid_auto ok (vcons e193_ok (vcons e170_ok vnil)) fun a => (f169_raw a.1).trans (f169_form a.1)

def Sp.f132_pre (x0 : List (Int × Int × ByteArray)) : Bool := true
def Sp.f132 (x0 : List (Int × Int × ByteArray)) := (bif decide ((↑x0.length : Int) ≤ (8 : Int)) then (!(Sp.f169 x0).1, ()) else (false, ()))
noncomputable def e132 : Ent := { f := 132, ins := [Sh.one (C0.dat ((Ty.int IntKind.i64).pair ((Ty.int IntKind.i64).pair Ty.str)).slice)], outs := [Sh.one (C0.dat Ty.bool)], upd := [], pre := fun a => true, spec := fun a => (Sp.f132 a).1, wrt := fun a => (Sp.f132 a).2 }
def f132_g (v : denS [Sh.one (C0.dat Ty.bool)] × denS []) : Res := ⟨mkS [Sh.one (C0.dat Ty.bool)] v.1, mkU [] v.2⟩
theorem f132_raw (x0 : List (Int × Int × ByteArray)) : abody Γ (orc [e169, e170]) 0 132 [XV.mk false [X.c (X0.dat ((Ty.int IntKind.i64).pair ((Ty.int IntKind.i64).pair Ty.str)).slice x0)]] = bif decide ((↑x0.length : Int) ≤ (8 : Int)) then some (Res.mk [XV.mk false [X.c (X0.dat Ty.bool !(Sp.f169 x0).1)]] []) else some (Res.mk [XV.mk false [X.c (X0.dat Ty.bool false)]] []) := by kernel_rfl
theorem f132_form (x0 : List (Int × Int × ByteArray)) : (bif decide ((↑x0.length : Int) ≤ (8 : Int)) then some (Res.mk [XV.mk false [X.c (X0.dat Ty.bool !(Sp.f169 x0).1)]] []) else some (Res.mk [XV.mk false [X.c (X0.dat Ty.bool false)]] [])) = some (f132_g (Sp.f132 x0)) := by
  unfold Sp.f132
  exact (cond_plain f132_g (rfl) (rfl))
theorem e132_ok : Valid Try.prog Γ e132 := valid_auto ok (vcons e169_ok (vcons e170_ok vnil)) fun a => (f132_raw a).trans (f132_form a)

end Go.Proofs.GR.T
set_option maxRecDepth 100000
namespace Go.Proofs.GR.T
open Go Go.Proofs Go.Proofs.GR
theorem oneV_byte {b : List Int} {a : Int} {bad : Bool} (h : Sp.rdOK b a = true) : 0 ≤ Sp.oneV b a bad ∧ Sp.oneV b a bad < 256 := by
  obtain ⟨a0, a1, h2, h3⟩ := rdOK_of h
  unfold Sp.oneV
  cases bad with
  | true => exact ⟨Int.le_refl _, show (0 : Int) < 256 by decide⟩
  | false =>
    rw [cond_false]
    by_cases hc : a ≥ (b.length : Int)
    · rw [decide_eq_true hc]; exact ⟨Int.le_refl _, show (0 : Int) < 256 by decide⟩
    · have hlt : a.toNat < b.length := by omega
      rw [decide_eq_false hc, cond_false, List.getD, List.getElem?_eq_getElem hlt, Option.getD_some]
      exact isBytes_mem h3 (List.getElem_mem hlt)
theorem oneA_ok {b : List Int} {a : Int} {bad : Bool} (h : Sp.rdOK b a = true) : Sp.rdOK b (Sp.oneA b a bad) = true := by
  obtain ⟨a0, a1, h2, h3⟩ := rdOK_of h
  unfold Sp.oneA
  cases bad with
  | true => exact h
  | false =>
    rw [cond_false]
    by_cases hc : a ≥ (b.length : Int)
    · rw [decide_eq_true hc]; exact h
    · rw [decide_eq_false hc]; exact rdOK_mk (by rw [cond_false]; omega) (by rw [cond_false]; omega) h2 h3
theorem takeA_ok {b : List Int} {a n : Int} {bad : Bool} (h : Sp.rdOK b a = true) : Sp.rdOK b (Sp.takeA b a bad n) = true := by
  obtain ⟨a0, a1, h2, h3⟩ := rdOK_of h
  unfold Sp.takeA Sp.takeB
  cases bad with
  | true => exact h
  | false =>
    rw [cond_false]
    by_cases hc : n < 0
    · rw [decide_eq_true hc]; exact h
    · rw [decide_eq_false hc, cond_false]
      by_cases hd : a + n > (b.length : Int)
      · rw [decide_eq_true hd]; exact h
      · rw [decide_eq_false hd]; exact rdOK_mk (by rw [cond_false]; omega) (by rw [cond_false]; omega) h2 h3
theorem take8_ok {b : List Int} {a : Int} {bad : Bool} (h : Sp.rdOK b a = true) : Sp.has8 (Sp.takeV b a bad 8) = true := by
  obtain ⟨a0, a1, h2, h3⟩ := rdOK_of h
  have hz : Sp.has8 (List.replicate (maxI 0 (minI 8 8)).toNat 0) = true := by decide
  unfold Sp.takeV Sp.takeB
  cases bad with
  | true => exact hz
  | false =>
    rw [cond_false, decide_eq_false (show ¬ (8 : Int) < 0 by decide), cond_false]
    by_cases hd : a + 8 > (b.length : Int)
    · rw [decide_eq_true hd]; exact hz
    · rw [decide_eq_false hd, cond_false]
      unfold Sp.has8
      rw [isBytes_take (isBytes_drop h3 _) _, Nat.ble_eq_true_of_le (by rw [List.length_take, List.length_drop]; show 8 ≤ min 8 _; omega)]
      rfl
/-! A value of a row. -/
def Sp.rvV (b : List Int) (a : Int) (bad : Bool) : V3 :=
  bif Sp.oneV b a bad == 1 then (Sp.oneV b a bad, Sp.oneV b (Sp.oneA b a bad) (Sp.oneB b a bad), ByteArray.empty)
  else bif Sp.oneV b a bad == 2 then (Sp.oneV b a bad, Sp.of8 (Sp.takeV b (Sp.oneA b a bad) (Sp.oneB b a bad) 8), ByteArray.empty)
  else bif (bif Sp.oneV b a bad == 3 then true else Sp.oneV b a bad == 4) then (Sp.oneV b a bad, 0, bytesStr (Sp.takeV b (Sp.oneA b (Sp.oneA b a bad) (Sp.oneB b a bad)) (Sp.oneB b (Sp.oneA b a bad) (Sp.oneB b a bad)) (Sp.oneV b (Sp.oneA b a bad) (Sp.oneB b a bad))))
  else (Sp.oneV b a bad, 0, ByteArray.empty)
def Sp.rvA (b : List Int) (a : Int) (bad : Bool) : Int :=
  bif Sp.oneV b a bad == 1 then Sp.oneA b (Sp.oneA b a bad) (Sp.oneB b a bad)
  else bif Sp.oneV b a bad == 2 then Sp.takeA b (Sp.oneA b a bad) (Sp.oneB b a bad) 8
  else bif (bif Sp.oneV b a bad == 3 then true else Sp.oneV b a bad == 4) then Sp.takeA b (Sp.oneA b (Sp.oneA b a bad) (Sp.oneB b a bad)) (Sp.oneB b (Sp.oneA b a bad) (Sp.oneB b a bad)) (Sp.oneV b (Sp.oneA b a bad) (Sp.oneB b a bad))
  else Sp.oneA b a bad
def Sp.rvB (b : List Int) (a : Int) (bad : Bool) : Bool :=
  bif Sp.oneV b a bad == 1 then Sp.oneB b (Sp.oneA b a bad) (Sp.oneB b a bad)
  else bif Sp.oneV b a bad == 2 then Sp.takeB b (Sp.oneA b a bad) (Sp.oneB b a bad) 8
  else bif (bif Sp.oneV b a bad == 3 then true else Sp.oneV b a bad == 4) then Sp.takeB b (Sp.oneA b (Sp.oneA b a bad) (Sp.oneB b a bad)) (Sp.oneB b (Sp.oneA b a bad) (Sp.oneB b a bad)) (Sp.oneV b (Sp.oneA b a bad) (Sp.oneB b a bad))
  else Sp.oneB b a bad
theorem cond_all {α : Type} {P : α → Prop} {c : Bool} {x y : α} (h1 : P x) (h2 : P y) : P (bif c then x else y) := by cases c; exact h2; exact h1
theorem rvA_ok {b : List Int} {a : Int} {bad : Bool} (h : Sp.rdOK b a = true) : Sp.rdOK b (Sp.rvA b a bad) = true := by
  unfold Sp.rvA
  exact cond_all (P := fun z => Sp.rdOK b z = true) (oneA_ok (oneA_ok h)) (cond_all (P := fun z => Sp.rdOK b z = true) (takeA_ok (oneA_ok h)) (cond_all (P := fun z => Sp.rdOK b z = true) (takeA_ok (oneA_ok (oneA_ok h))) (oneA_ok h)))
def Sp.srow : Nat → List Int → Int → Bool → List V3 → List V3 × Int × Bool
  | 0, _, a, bad, out => (out, a, bad)
  | k + 1, b, a, bad, out => bif bad then (out, a, bad) else Sp.srow k b (Sp.rvA b a bad) (Sp.rvB b a bad) (out ++ [Sp.rvV b a bad])
abbrev rRow (b : List Int) (p : List V3 × Int × Bool) : Res := Res.mk [XV.mk false [X.c (X0.row tV p.1 true)]] [X.box (115 : Nat) [X0.dat (Ty.int IntKind.u8).slice b, X0.dat (Ty.int IntKind.i64) p.2.1, X0.dat Ty.bool (bif !Sp.rowOK p.1 then true else p.2.2)]]
noncomputable def f84_L0 (n m0 : Nat) (y0 : Int) (y1 : List Int) (y2 : Int) (y3 : Bool) (y4 : List (Int × Int × ByteArray)) : Option Res := loopAt Γ (orc [e128, e130, e129, e92]) n (84 : Nat) (1 : Nat) [(0 : Nat)] [Pth.r, Pth.r, Pth.l, Pth.r, Pth.b] m0 (St.mk [Slot.val (Val.one (Cell.ptr (0 : Nat) (0 : Nat))), Slot.nix, Slot.nix, Slot.val (Val.one (Cell.own (1 : Nat))), Slot.val (Val.one (Cell.dat (Ty.int IntKind.i64) y0)), Slot.nix, Slot.nix, Slot.nix, Slot.nix, Slot.nix, Slot.nix, Slot.nix, Slot.nix, Slot.nix, Slot.nix, Slot.nix, Slot.nix, Slot.nix, Slot.nix, Slot.nix, Slot.nix, Slot.nix, Slot.nix, Slot.nix, Slot.nix, Slot.nix, Slot.nix, Slot.nix, Slot.nix, Slot.nix, Slot.nix, Slot.nix, Slot.nix, Slot.nix, Slot.nix, Slot.nix, Slot.nix, Slot.nix, Slot.nix, Slot.nix, Slot.nix, Slot.nix, Slot.nix, Slot.nix, Slot.nix, Slot.nix, Slot.nix, Slot.nix, Slot.nix, Slot.nix, Slot.nix, Slot.nix, Slot.nix, Slot.nix, Slot.nix, Slot.nix] [AObj.box (115 : Nat) [Cell.dat (Ty.int IntKind.u8).slice y1, Cell.dat (Ty.int IntKind.i64) y2, Cell.dat Ty.bool y3], AObj.row ((Ty.int IntKind.i64).pair ((Ty.int IntKind.i64).pair Ty.str)) y4 true])
theorem f84_L0_step (n m0 : Nat) (y0 : Int) (y1 : List Int) (y2 : Int) (y3 : Bool) (y4 : List (Int × Int × ByteArray)) : f84_L0 n (m0 + 1) y0 y1 y2 y3 y4 = bif decide (y0 > (0 : Int)) then bif !y3 then chk (Sp.rdOK y1 y2) (bif Sp.oneV y1 y2 y3 == (1 : Int) then chk (Sp.rdOK y1 (Sp.oneA y1 y2 y3)) (chk (decide ((y4.length + [(Sp.oneV y1 y2 y3, Sp.oneV y1 (Sp.oneA y1 y2 y3) (Sp.oneB y1 y2 y3), ByteArray.empty)].length) * (32 : Nat) ≤ (140737488355328 : Nat))) (f84_L0 n m0 (IntKind.i64.wrap (y0 - (1 : Int))) y1 (Sp.oneA y1 (Sp.oneA y1 y2 y3) (Sp.oneB y1 y2 y3)) (Sp.oneB y1 (Sp.oneA y1 y2 y3) (Sp.oneB y1 y2 y3)) (y4 ++ [(Sp.oneV y1 y2 y3, Sp.oneV y1 (Sp.oneA y1 y2 y3) (Sp.oneB y1 y2 y3), ByteArray.empty)]))) else bif Sp.oneV y1 y2 y3 == (2 : Int) then chk (Sp.tkOK y1 (Sp.oneA y1 y2 y3) (8 : Int)) (chk (Sp.has8 (Sp.takeV y1 (Sp.oneA y1 y2 y3) (Sp.oneB y1 y2 y3) (8 : Int))) (chk (decide ((y4.length + [(Sp.oneV y1 y2 y3, Sp.of8 (Sp.takeV y1 (Sp.oneA y1 y2 y3) (Sp.oneB y1 y2 y3) (8 : Int)), ByteArray.empty)].length) * (32 : Nat) ≤ (140737488355328 : Nat))) (f84_L0 n m0 (IntKind.i64.wrap (y0 - (1 : Int))) y1 (Sp.takeA y1 (Sp.oneA y1 y2 y3) (Sp.oneB y1 y2 y3) (8 : Int)) (Sp.takeB y1 (Sp.oneA y1 y2 y3) (Sp.oneB y1 y2 y3) (8 : Int)) (y4 ++ [(Sp.oneV y1 y2 y3, Sp.of8 (Sp.takeV y1 (Sp.oneA y1 y2 y3) (Sp.oneB y1 y2 y3) (8 : Int)), ByteArray.empty)])))) else bif Sp.oneV y1 y2 y3 == (3 : Int) then bif Sp.oneV y1 y2 y3 == (3 : Int) then chk (Sp.rdOK y1 (Sp.oneA y1 y2 y3)) (chk (Sp.tkOK y1 (Sp.oneA y1 (Sp.oneA y1 y2 y3) (Sp.oneB y1 y2 y3)) (Sp.oneV y1 (Sp.oneA y1 y2 y3) (Sp.oneB y1 y2 y3))) (chk (decide ((y4.length + [(Sp.oneV y1 y2 y3, (0 : Int), bytesStr (Sp.takeV y1 (Sp.oneA y1 (Sp.oneA y1 y2 y3) (Sp.oneB y1 y2 y3)) (Sp.oneB y1 (Sp.oneA y1 y2 y3) (Sp.oneB y1 y2 y3)) (Sp.oneV y1 (Sp.oneA y1 y2 y3) (Sp.oneB y1 y2 y3))))].length) * (32 : Nat) ≤ (140737488355328 : Nat))) (f84_L0 n m0 (IntKind.i64.wrap (y0 - (1 : Int))) y1 (Sp.takeA y1 (Sp.oneA y1 (Sp.oneA y1 y2 y3) (Sp.oneB y1 y2 y3)) (Sp.oneB y1 (Sp.oneA y1 y2 y3) (Sp.oneB y1 y2 y3)) (Sp.oneV y1 (Sp.oneA y1 y2 y3) (Sp.oneB y1 y2 y3))) (Sp.takeB y1 (Sp.oneA y1 (Sp.oneA y1 y2 y3) (Sp.oneB y1 y2 y3)) (Sp.oneB y1 (Sp.oneA y1 y2 y3) (Sp.oneB y1 y2 y3)) (Sp.oneV y1 (Sp.oneA y1 y2 y3) (Sp.oneB y1 y2 y3))) (y4 ++ [(Sp.oneV y1 y2 y3, (0 : Int), bytesStr (Sp.takeV y1 (Sp.oneA y1 (Sp.oneA y1 y2 y3) (Sp.oneB y1 y2 y3)) (Sp.oneB y1 (Sp.oneA y1 y2 y3) (Sp.oneB y1 y2 y3)) (Sp.oneV y1 (Sp.oneA y1 y2 y3) (Sp.oneB y1 y2 y3))))])))) else chk (decide ((y4.length + [(Sp.oneV y1 y2 y3, (0 : Int), ByteArray.empty)].length) * (32 : Nat) ≤ (140737488355328 : Nat))) (f84_L0 n m0 (IntKind.i64.wrap (y0 - (1 : Int))) y1 (Sp.oneA y1 y2 y3) (Sp.oneB y1 y2 y3) (y4 ++ [(Sp.oneV y1 y2 y3, (0 : Int), ByteArray.empty)])) else bif Sp.oneV y1 y2 y3 == (4 : Int) then chk (Sp.rdOK y1 (Sp.oneA y1 y2 y3)) (chk (Sp.tkOK y1 (Sp.oneA y1 (Sp.oneA y1 y2 y3) (Sp.oneB y1 y2 y3)) (Sp.oneV y1 (Sp.oneA y1 y2 y3) (Sp.oneB y1 y2 y3))) (chk (decide ((y4.length + [(Sp.oneV y1 y2 y3, (0 : Int), bytesStr (Sp.takeV y1 (Sp.oneA y1 (Sp.oneA y1 y2 y3) (Sp.oneB y1 y2 y3)) (Sp.oneB y1 (Sp.oneA y1 y2 y3) (Sp.oneB y1 y2 y3)) (Sp.oneV y1 (Sp.oneA y1 y2 y3) (Sp.oneB y1 y2 y3))))].length) * (32 : Nat) ≤ (140737488355328 : Nat))) (f84_L0 n m0 (IntKind.i64.wrap (y0 - (1 : Int))) y1 (Sp.takeA y1 (Sp.oneA y1 (Sp.oneA y1 y2 y3) (Sp.oneB y1 y2 y3)) (Sp.oneB y1 (Sp.oneA y1 y2 y3) (Sp.oneB y1 y2 y3)) (Sp.oneV y1 (Sp.oneA y1 y2 y3) (Sp.oneB y1 y2 y3))) (Sp.takeB y1 (Sp.oneA y1 (Sp.oneA y1 y2 y3) (Sp.oneB y1 y2 y3)) (Sp.oneB y1 (Sp.oneA y1 y2 y3) (Sp.oneB y1 y2 y3)) (Sp.oneV y1 (Sp.oneA y1 y2 y3) (Sp.oneB y1 y2 y3))) (y4 ++ [(Sp.oneV y1 y2 y3, (0 : Int), bytesStr (Sp.takeV y1 (Sp.oneA y1 (Sp.oneA y1 y2 y3) (Sp.oneB y1 y2 y3)) (Sp.oneB y1 (Sp.oneA y1 y2 y3) (Sp.oneB y1 y2 y3)) (Sp.oneV y1 (Sp.oneA y1 y2 y3) (Sp.oneB y1 y2 y3))))])))) else chk (decide ((y4.length + [(Sp.oneV y1 y2 y3, (0 : Int), ByteArray.empty)].length) * (32 : Nat) ≤ (140737488355328 : Nat))) (f84_L0 n m0 (IntKind.i64.wrap (y0 - (1 : Int))) y1 (Sp.oneA y1 y2 y3) (Sp.oneB y1 y2 y3) (y4 ++ [(Sp.oneV y1 y2 y3, (0 : Int), ByteArray.empty)]))) else bif !Sp.rowOK y4 then some (Res.mk [XV.mk false [X.c (X0.row ((Ty.int IntKind.i64).pair ((Ty.int IntKind.i64).pair Ty.str)) y4 true)]] [X.box (115 : Nat) [X0.dat (Ty.int IntKind.u8).slice y1, X0.dat (Ty.int IntKind.i64) y2, X0.dat Ty.bool true]]) else some (Res.mk [XV.mk false [X.c (X0.row ((Ty.int IntKind.i64).pair ((Ty.int IntKind.i64).pair Ty.str)) y4 true)]] [X.box (115 : Nat) [X0.dat (Ty.int IntKind.u8).slice y1, X0.dat (Ty.int IntKind.i64) y2, X0.dat Ty.bool y3]]) else bif !Sp.rowOK y4 then some (Res.mk [XV.mk false [X.c (X0.row ((Ty.int IntKind.i64).pair ((Ty.int IntKind.i64).pair Ty.str)) y4 true)]] [X.box (115 : Nat) [X0.dat (Ty.int IntKind.u8).slice y1, X0.dat (Ty.int IntKind.i64) y2, X0.dat Ty.bool true]]) else some (Res.mk [XV.mk false [X.c (X0.row ((Ty.int IntKind.i64).pair ((Ty.int IntKind.i64).pair Ty.str)) y4 true)]] [X.box (115 : Nat) [X0.dat (Ty.int IntKind.u8).slice y1, X0.dat (Ty.int IntKind.i64) y2, X0.dat Ty.bool y3]]) := by kernel_rfl
theorem f84_raw (n : Nat) (x0 : List Int) (x1 : Int) (x2 : Bool) : abody Γ (orc [e128, e130, e129, e92]) n 84 [XV.mk false [X.box (115 : Nat) [X0.dat (Ty.int IntKind.u8).slice x0, X0.dat (Ty.int IntKind.i64) x1, X0.dat Ty.bool x2]]] = chk (Sp.rdOK x0 x1) (f84_L0 n n (Sp.oneV x0 x1 x2) x0 (Sp.oneA x0 x1 x2) (Sp.oneB x0 x1 x2) []) := by kernel_rfl

theorem f84_next (n m k : Nat) (b : List Int) (a : Int) (out : List V3) (h : Sp.rdOK b a = true) (hk : k ≤ 1000) (ho : out.length ≤ 1000) :
    f84_L0 n (m + 1) ((k + 1 : Nat) : Int) b a false out = f84_L0 n m (k : Int) b (Sp.rvA b a false) (Sp.rvB b a false) (out ++ [Sp.rvV b a false]) := by
  have hL := (oneV_byte (bad := Sp.oneB b a false) (oneA_ok (bad := false) h))
  have ek : IntKind.i64.wrap (((k + 1 : Nat) : Int) - 1) = (k : Int) := (wrap64 (by omega) (by omega)).trans (by omega)
  rw [f84_L0_step, decide_eq_true (show ((k + 1 : Nat) : Int) > 0 by omega), ek, h, oneA_ok h, tkOK_mk (oneA_ok h) (by decide), take8_ok (oneA_ok h), tkOK_mk (oneA_ok (oneA_ok h)) (by omega)]
  simp only [List.length_singleton]
  rw [decide_eq_true (show (out.length + 1) * 32 ≤ 140737488355328 by omega), cond_true, Bool.not_false, cond_true, chkT, chkT, chkT, chkT, chkT]
  have c1 := Bool.eq_false_or_eq_true (Sp.oneV b a false == 1)
  rcases c1 with c1 | c1
  · have eV : Sp.rvV b a false = (Sp.oneV b a false, Sp.oneV b (Sp.oneA b a false) (Sp.oneB b a false), ByteArray.empty) := by unfold Sp.rvV; rw [c1, cond_true]
    have eA : Sp.rvA b a false = Sp.oneA b (Sp.oneA b a false) (Sp.oneB b a false) := by unfold Sp.rvA; rw [c1, cond_true]
    have eB : Sp.rvB b a false = Sp.oneB b (Sp.oneA b a false) (Sp.oneB b a false) := by unfold Sp.rvB; rw [c1, cond_true]
    rw [c1, cond_true, eV, eA, eB]
  rcases Bool.eq_false_or_eq_true (Sp.oneV b a false == 2) with c2 | c2
  · have eV : Sp.rvV b a false = (Sp.oneV b a false, Sp.of8 (Sp.takeV b (Sp.oneA b a false) (Sp.oneB b a false) 8), ByteArray.empty) := by unfold Sp.rvV; rw [c1, cond_false, c2, cond_true]
    have eA : Sp.rvA b a false = Sp.takeA b (Sp.oneA b a false) (Sp.oneB b a false) 8 := by unfold Sp.rvA; rw [c1, cond_false, c2, cond_true]
    have eB : Sp.rvB b a false = Sp.takeB b (Sp.oneA b a false) (Sp.oneB b a false) 8 := by unfold Sp.rvB; rw [c1, cond_false, c2, cond_true]
    rw [c1, cond_false, c2, cond_true, eV, eA, eB, chkT]
  have hT : (bif Sp.oneV b a false == 3 then true else Sp.oneV b a false == 4) = true → Sp.rvV b a false = (Sp.oneV b a false, 0, bytesStr (Sp.takeV b (Sp.oneA b (Sp.oneA b a false) (Sp.oneB b a false)) (Sp.oneB b (Sp.oneA b a false) (Sp.oneB b a false)) (Sp.oneV b (Sp.oneA b a false) (Sp.oneB b a false)))) ∧ Sp.rvA b a false = Sp.takeA b (Sp.oneA b (Sp.oneA b a false) (Sp.oneB b a false)) (Sp.oneB b (Sp.oneA b a false) (Sp.oneB b a false)) (Sp.oneV b (Sp.oneA b a false) (Sp.oneB b a false)) ∧ Sp.rvB b a false = Sp.takeB b (Sp.oneA b (Sp.oneA b a false) (Sp.oneB b a false)) (Sp.oneB b (Sp.oneA b a false) (Sp.oneB b a false)) (Sp.oneV b (Sp.oneA b a false) (Sp.oneB b a false)) := by
    intro c
    unfold Sp.rvV Sp.rvA Sp.rvB
    rw [c1, cond_false, cond_false, cond_false, c2, cond_false, cond_false, cond_false, c, cond_true, cond_true, cond_true]
    exact ⟨rfl, rfl, rfl⟩
  rcases Bool.eq_false_or_eq_true (Sp.oneV b a false == 3) with c3 | c3
  · obtain ⟨eV, eA, eB⟩ := hT (by rw [c3]; rfl)
    rw [c1, cond_false, c2, cond_false, c3, cond_true, cond_true, eV, eA, eB, chkT, chkT, chkT]
  rcases Bool.eq_false_or_eq_true (Sp.oneV b a false == 4) with c4 | c4
  · obtain ⟨eV, eA, eB⟩ := hT (by rw [c3, c4]; rfl)
    rw [c1, cond_false, c2, cond_false, c3, cond_false, c4, cond_true, eV, eA, eB, chkT, chkT, chkT]
  · have eV : Sp.rvV b a false = (Sp.oneV b a false, 0, ByteArray.empty) := by unfold Sp.rvV; rw [c1, cond_false, c2, cond_false, c3, c4]; rfl
    have eA : Sp.rvA b a false = Sp.oneA b a false := by unfold Sp.rvA; rw [c1, cond_false, c2, cond_false, c3, c4]; rfl
    have eB : Sp.rvB b a false = Sp.oneB b a false := by unfold Sp.rvB; rw [c1, cond_false, c2, cond_false, c3, c4]; rfl
    rw [c1, cond_false, c2, cond_false, c3, cond_false, c4, cond_false, eV, eA, eB, chkT]
theorem f84_loop (n : Nat) (b : List Int) : ∀ (k m : Nat) (a : Int) (bad : Bool) (out : List V3), Sp.rdOK b a = true → out.length + k ≤ 1000 → k < m →
    f84_L0 n m (k : Int) b a bad out = some (rRow b (Sp.srow k b a bad out)) := by
  intro k
  induction k with
  | zero =>
    intro m a bad out h ho hm
    obtain ⟨m, rfl⟩ := succ_of hm
    rw [f84_L0_step, decide_eq_false (by omega), cond_false]
    show _ = some (rRow b (out, a, bad))
    unfold rRow
    cases Sp.rowOK out <;> rfl
  | succ k ih =>
    intro m a bad out h ho hm
    obtain ⟨m, rfl⟩ := succ_of hm
    cases bad with
    | false =>
      rw [f84_next n m k b a out h (by omega) (by omega), ih m _ _ _ (rvA_ok h) (by rw [List.length_append, List.length_singleton]; omega) (by omega)]
      rfl
    | true =>
      rw [f84_L0_step, decide_eq_true (show ((k + 1 : Nat) : Int) > 0 by omega), cond_true, Bool.not_true, cond_false]
      show _ = some (rRow b (out, a, true))
      unfold rRow
      cases Sp.rowOK out <;> rfl
def Sp.rowR (b : List Int) (a : Int) (bad : Bool) : List V3 × Int × Bool := Sp.srow (Sp.oneV b a bad).toNat b (Sp.oneA b a bad) (Sp.oneB b a bad) []
def Sp.rowB (b : List Int) (a : Int) (bad : Bool) : Bool := bif !Sp.rowOK (Sp.rowR b a bad).1 then true else (Sp.rowR b a bad).2.2
noncomputable def e84 : Ent := { f := 84, ins := [Sh.box 115 [C0.dat (.slice (.int .u8)), C0.dat (.int .i64), C0.dat .bool]], outs := [Sh.one (C0.row tV)], upd := [Sh.box 115 [C0.dat (.slice (.int .u8)), C0.dat (.int .i64), C0.dat .bool]], pre := fun a => Sp.rdOK a.1 a.2.1, spec := fun a => (Sp.rowR a.1 a.2.1 a.2.2).1, wrt := fun a => (a.1, (Sp.rowR a.1 a.2.1 a.2.2).2.1, Sp.rowB a.1 a.2.1 a.2.2) }
theorem e84_core (b : List Int) (a : Int) (bad : Bool) (h : Sp.rdOK b a = true) : ∃ n, abody Γ (orc [e128, e130, e129, e92]) n 84 [XV.mk false [X.box (115 : Nat) [X0.dat (Ty.int IntKind.u8).slice b, X0.dat (Ty.int IntKind.i64) a, X0.dat Ty.bool bad]]] = some (rRow b (Sp.rowR b a bad)) := by
  obtain ⟨v0, v1⟩ := oneV_byte (bad := bad) h
  have hv : Sp.oneV b a bad = (((Sp.oneV b a bad).toNat : Nat) : Int) := by omega
  refine ⟨300, (f84_raw 300 b a bad).trans ?_⟩
  rw [h, chkT]
  have := f84_loop 300 b (Sp.oneV b a bad).toNat 300 (Sp.oneA b a bad) (Sp.oneB b a bad) [] (oneA_ok h) (by rw [List.length_nil]; omega) (by omega)
  rw [← hv] at this
  exact this
theorem e84_ok : Valid Try.prog Γ e84 := valid_of ok (vcons e128_ok (vcons e130_ok (vcons e129_ok (vcons e92_ok vnil)))) fun a ha => e84_core a.1 a.2.1 a.2.2 ha
def Sp.f42_pre (x0 : List Int) : Bool := (bif decide ((↑x0.length : Int) > (65536 : Int)) then true else Sp.rdOK x0 (0 : Int))
def Sp.f42 (x0 : List Int) := (bif decide ((↑x0.length : Int) > (65536 : Int)) then (([], (2 : Int)), ()) else (bif Sp.rowB x0 (0 : Int) false then (([], (3 : Int)), ()) else (bif (Sp.rowR x0 (0 : Int) false).2.1 != (↑x0.length : Int) then (([], (3 : Int)), ()) else (((Sp.rowR x0 (0 : Int) false).1, (0 : Int)), ()))))
noncomputable def e42 : Ent := { f := 42, ins := [Sh.one (C0.dat (Ty.int IntKind.u8).slice)], outs := [Sh.one (C0.row ((Ty.int IntKind.i64).pair ((Ty.int IntKind.i64).pair Ty.str))), Sh.one (C0.dat (Ty.int IntKind.i64))], upd := [], pre := fun a => Sp.f42_pre a, spec := fun a => (Sp.f42 a).1, wrt := fun a => (Sp.f42 a).2 }
def f42_g (v : denS [Sh.one (C0.row ((Ty.int IntKind.i64).pair ((Ty.int IntKind.i64).pair Ty.str))), Sh.one (C0.dat (Ty.int IntKind.i64))] × denS []) : Res := ⟨mkS [Sh.one (C0.row ((Ty.int IntKind.i64).pair ((Ty.int IntKind.i64).pair Ty.str))), Sh.one (C0.dat (Ty.int IntKind.i64))] v.1, mkU [] v.2⟩
theorem f42_raw (x0 : List Int) : abody Γ (orc [e84]) 0 42 [XV.mk false [X.c (X0.dat (Ty.int IntKind.u8).slice x0)]] = bif decide ((↑x0.length : Int) > (65536 : Int)) then some (Res.mk [XV.mk false [X.c (X0.row ((Ty.int IntKind.i64).pair ((Ty.int IntKind.i64).pair Ty.str)) [] true)], XV.mk false [X.c (X0.dat (Ty.int IntKind.i64) (2 : Int))]] []) else chk (Sp.rdOK x0 (0 : Int)) (bif Sp.rowB x0 (0 : Int) false then some (Res.mk [XV.mk false [X.c (X0.row ((Ty.int IntKind.i64).pair ((Ty.int IntKind.i64).pair Ty.str)) [] true)], XV.mk false [X.c (X0.dat (Ty.int IntKind.i64) (3 : Int))]] []) else bif (Sp.rowR x0 (0 : Int) false).2.1 != (↑x0.length : Int) then some (Res.mk [XV.mk false [X.c (X0.row ((Ty.int IntKind.i64).pair ((Ty.int IntKind.i64).pair Ty.str)) [] true)], XV.mk false [X.c (X0.dat (Ty.int IntKind.i64) (3 : Int))]] []) else some (Res.mk [XV.mk false [X.c (X0.row ((Ty.int IntKind.i64).pair ((Ty.int IntKind.i64).pair Ty.str)) (Sp.rowR x0 (0 : Int) false).1 true)], XV.mk false [X.c (X0.dat (Ty.int IntKind.i64) (0 : Int))]] [])) := by kernel_rfl
theorem f42_form (x0 : List Int) : (bif decide ((↑x0.length : Int) > (65536 : Int)) then some (Res.mk [XV.mk false [X.c (X0.row ((Ty.int IntKind.i64).pair ((Ty.int IntKind.i64).pair Ty.str)) [] true)], XV.mk false [X.c (X0.dat (Ty.int IntKind.i64) (2 : Int))]] []) else chk (Sp.rdOK x0 (0 : Int)) (bif Sp.rowB x0 (0 : Int) false then some (Res.mk [XV.mk false [X.c (X0.row ((Ty.int IntKind.i64).pair ((Ty.int IntKind.i64).pair Ty.str)) [] true)], XV.mk false [X.c (X0.dat (Ty.int IntKind.i64) (3 : Int))]] []) else bif (Sp.rowR x0 (0 : Int) false).2.1 != (↑x0.length : Int) then some (Res.mk [XV.mk false [X.c (X0.row ((Ty.int IntKind.i64).pair ((Ty.int IntKind.i64).pair Ty.str)) [] true)], XV.mk false [X.c (X0.dat (Ty.int IntKind.i64) (3 : Int))]] []) else some (Res.mk [XV.mk false [X.c (X0.row ((Ty.int IntKind.i64).pair ((Ty.int IntKind.i64).pair Ty.str)) (Sp.rowR x0 (0 : Int) false).1 true)], XV.mk false [X.c (X0.dat (Ty.int IntKind.i64) (0 : Int))]] []))) = chk (Sp.f42_pre x0) (some (f42_g (Sp.f42 x0))) := by
  unfold Sp.f42_pre Sp.f42
  exact (cond_step f42_g ((lift_plain (rfl))) ((chk_last ((cond_plain f42_g (rfl) ((cond_plain f42_g (rfl) (rfl))))))))
theorem e42_ok : Valid Try.prog Γ e42 := valid_auto ok (vcons e84_ok vnil) fun a => (f42_raw a).trans (f42_form a)

/-! The values of bytes. -/
def Sp.cells : Nat → List Int → Bool → List V3 → List V3 × Bool
  | 0, _, _, _ => ([], false)
  | d + 1, b, row, out => bif decide (b.length = 0) then (out, (Sp.f132 out).1)
    else bif (Sp.cell b row).2 == 0 then ([], false) else bif decide (out.length = 8) then ([], false)
    else Sp.cells d (b.drop (Sp.cell b row).2.toNat) row (out ++ [(Sp.cell b row).1])
theorem kt_len : ∀ (d : Nat) (r : List Int) (acc : List Int) (i : Int), r.length ≤ d → (Sp.kt r acc i).2 = 0 ∨ (i + 2 ≤ (Sp.kt r acc i).2 ∧ (Sp.kt r acc i).2 ≤ i + r.length) := by
  intro d
  induction d using Nat.strongRecOn with
  | _ d ih =>
    intro r acc i hd
    match r with
    | [] => exact .inl rfl
    | [x] => exact .inl rfl
    | x :: y :: r =>
      have hl : (x :: y :: r).length = r.length + 2 := rfl
      rw [Sp.kt]
      cases x != 0 with
      | true =>
        rw [cond_true]
        have h := ih (d - 1) (by omega) (y :: r) (acc ++ [x]) (i + 1) (by rw [List.length_cons]; omega)
        rw [List.length_cons] at h
        rw [hl]
        omega
      | false =>
        rw [cond_false]
        cases y == 1 with
        | true => rw [cond_true, hl]; exact .inr ⟨Int.le_refl _, by show i + 2 ≤ _; omega⟩
        | false =>
          rw [cond_false]
          cases y != 255 with
          | true => exact .inl rfl
          | false =>
            rw [cond_false]
            have h := ih (d - 2) (by omega) r (acc ++ [0]) (i + 2) (by omega)
            rw [hl]
            omega
/-- A value takes no more bytes than there are. -/
theorem cell_len {b : List Int} {row : Bool} (h : Sp.cellOK b = true) : 0 ≤ (Sp.cell b row).2 ∧ (Sp.cell b row).2 ≤ b.length := by
  obtain ⟨h1, h2, hb⟩ := cellOK_of h
  match b, h1 with
  | x :: r, _ =>
    have hl : (x :: r).length = r.length + 1 := rfl
    obtain ⟨⟨x0, x1⟩, hb'⟩ := isBytes_cons.1 hb
    rw [show Sp.cell (x :: r) row = Sp.cellC x r row from rfl, hl]
    unfold Sp.cellC
    cases x == 0 with
    | true => rw [cond_true]; show (0 : Int) ≤ 1 ∧ (1 : Int) ≤ _; omega
    | false =>
      rw [cond_false]
      cases x == 1 with
      | true =>
        rw [cond_true]
        cases r with
        | nil => show (0 : Int) ≤ 0 ∧ (0 : Int) ≤ _; omega
        | cons y r' => show (0 : Int) ≤ 2 ∧ (2 : Int) ≤ _; rw [List.length_cons]; omega
      | false =>
        rw [cond_false]
        cases x == 2 with
        | true =>
          rw [cond_true]
          cases h8 : Nat.ble 8 r.length with
          | true =>
            have := Nat.le_of_ble_eq_true h8
            show (0 : Int) ≤ 9 ∧ (9 : Int) ≤ _; omega
          | false => show (0 : Int) ≤ 0 ∧ (0 : Int) ≤ _; omega
        | false =>
          rw [cond_false]
          cases (Sp.f167 x).1 with
          | false => show (0 : Int) ≤ 0 ∧ (0 : Int) ≤ _; omega
          | true =>
            rw [cond_true]
            cases row with
            | false =>
              rw [Bool.not_false, cond_true]
              have hk := kt_len r.length r [] 0 (Nat.le_refl _)
              by_cases hp : (Sp.kt r [] 0).2 > 0
              · rw [decide_eq_true hp, cond_true]
                show 0 ≤ IntKind.i64.wrap _ ∧ IntKind.i64.wrap _ ≤ _
                rw [wrap64 (by omega) (by omega)]
                omega
              · rw [decide_eq_false hp, cond_false]
                show (0 : Int) ≤ 0 ∧ (0 : Int) ≤ _; omega
            | true =>
              rw [Bool.not_true, cond_false]
              cases r with
              | nil => show (0 : Int) ≤ 0 ∧ (0 : Int) ≤ _; omega
              | cons y r' =>
                obtain ⟨⟨y0, y1⟩, _⟩ := isBytes_cons.1 hb'
                show 0 ≤ (bif Nat.ble y.toNat r'.length then ((x, 0, bytesStr (r'.take y.toNat)), 2 + y) else (Sp.zv, 0)).2 ∧ (bif Nat.ble y.toNat r'.length then ((x, 0, bytesStr (r'.take y.toNat)), 2 + y) else (Sp.zv, 0)).2 ≤ _
                cases hy : Nat.ble y.toNat r'.length with
                | true =>
                  have := Nat.le_of_ble_eq_true hy
                  show 0 ≤ 2 + y ∧ 2 + y ≤ _
                  rw [List.length_cons]
                  omega
                | false => show (0 : Int) ≤ 0 ∧ (0 : Int) ≤ _; omega
noncomputable def f85_L0 (n m0 : Nat) (y0 : List Int) (y1 : Bool) (y2 : List (Int × Int × ByteArray)) : Option Res := loopAt Γ (orc [e131, e132]) n (85 : Nat) (0 : Nat) [] [Pth.r, Pth.r, Pth.l, Pth.b] m0 (St.mk [Slot.val (Val.one (Cell.dat (Ty.int IntKind.u8).slice y0)), Slot.val (Val.one (Cell.dat Ty.bool y1)), Slot.nix, Slot.nix, Slot.nix, Slot.nix, Slot.val (Val.one (Cell.own (0 : Nat))), Slot.nix, Slot.nix, Slot.nix, Slot.nix, Slot.nix, Slot.nix, Slot.nix, Slot.nix, Slot.nix, Slot.nix, Slot.nix, Slot.nix, Slot.nix, Slot.nix, Slot.nix, Slot.nix, Slot.nix, Slot.nix, Slot.nix, Slot.nix, Slot.nix, Slot.nix, Slot.nix, Slot.nix, Slot.nix, Slot.nix, Slot.nix, Slot.nix, Slot.nix] [AObj.row ((Ty.int IntKind.i64).pair ((Ty.int IntKind.i64).pair Ty.str)) y2 true])
theorem f85_L0_step (n m0 : Nat) (y0 : List Int) (y1 : Bool) (y2 : List (Int × Int × ByteArray)) : f85_L0 n (m0 + 1) y0 y1 y2 = bif decide ((↑y0.length : Int) > (0 : Int)) then chk (Sp.cellOK y0) (bif (Sp.cell y0 y1).2 == (0 : Int) then some (Res.mk [XV.mk false [X.c (X0.row ((Ty.int IntKind.i64).pair ((Ty.int IntKind.i64).pair Ty.str)) [] true)], XV.mk false [X.c (X0.dat Ty.bool false)]] []) else bif (↑y2.length : Int) == (8 : Int) then some (Res.mk [XV.mk false [X.c (X0.row ((Ty.int IntKind.i64).pair ((Ty.int IntKind.i64).pair Ty.str)) [] true)], XV.mk false [X.c (X0.dat Ty.bool false)]] []) else chk (decide ((y2.length + [((Sp.cell y0 y1).1.1, (Sp.cell y0 y1).1.2.1, (Sp.cell y0 y1).1.2.2)].length) * (32 : Nat) ≤ (140737488355328 : Nat))) (chk (decide ((0 : Int) ≤ (Sp.cell y0 y1).2) && decide ((Sp.cell y0 y1).2 ≤ (↑y0.length : Int))) (f85_L0 n m0 (List.take (y0.length - (Sp.cell y0 y1).2.toNat) (List.drop (Sp.cell y0 y1).2.toNat y0)) y1 (y2 ++ [((Sp.cell y0 y1).1.1, (Sp.cell y0 y1).1.2.1, (Sp.cell y0 y1).1.2.2)])))) else some (Res.mk [XV.mk false [X.c (X0.row ((Ty.int IntKind.i64).pair ((Ty.int IntKind.i64).pair Ty.str)) y2 true)], XV.mk false [X.c (X0.dat Ty.bool (Sp.f132 y2).1)]] []) := by kernel_rfl
theorem f85_raw (n : Nat) (x0 : List Int) (x1 : Bool) : abody Γ (orc [e131, e132]) n 85 [XV.mk false [X.c (X0.dat (Ty.int IntKind.u8).slice x0)], XV.mk false [X.c (X0.dat Ty.bool x1)]] = f85_L0 n n x0 x1 [] := by kernel_rfl

abbrev rCells (p : List V3 × Bool) : Res := Res.mk [XV.mk false [X.c (X0.row tV p.1 true)], XV.mk false [X.c (X0.dat Ty.bool p.2)]] []
def Sp.bmid (b : List Int) : Bool := yes2 (Sp.mid b) (Sp.isBytes b)
theorem f85_loop (n : Nat) (row : Bool) : ∀ (d m : Nat) (b : List Int) (out : List V3), b.length < d → b.length ≤ 1048576 → Sp.isBytes b = true → out.length ≤ 8 → d ≤ m →
    f85_L0 n m b row out = some (rCells (Sp.cells d b row out)) := by
  intro d
  induction d with
  | zero => intro m b out h; omega
  | succ d ih =>
    intro m b out hd hl hb ho hm
    obtain ⟨m, rfl⟩ := succ_of (show d < m by omega)
    rw [f85_L0_step, Sp.cells]
    by_cases h0 : b.length = 0
    · rw [decide_eq_true h0, decide_eq_false (by omega), cond_false, cond_true]
    · have hc := cellOK_mk (xs := b) (by omega) hl hb
      obtain ⟨c0, c1⟩ := cell_len (row := row) hc
      rw [decide_eq_false h0, decide_eq_true (show (b.length : Int) > 0 by omega), cond_true, cond_false, hc, chkT]
      by_cases hz : (Sp.cell b row).2 = 0
      · rw [show ((Sp.cell b row).2 == 0) = true from beq_iff_eq.2 hz, cond_true, cond_true]; rfl
      · rw [beq_false_of_ne hz, cond_false, cond_false]
        by_cases h8 : out.length = 8
        · rw [show ((out.length : Int) == 8) = true from beq_iff_eq.2 (by omega), decide_eq_true h8, cond_true, cond_true]; rfl
        · have hdl : (b.drop (Sp.cell b row).2.toNat).length = b.length - (Sp.cell b row).2.toNat := List.length_drop
          have ht : (b.drop (Sp.cell b row).2.toNat).take (b.length - (Sp.cell b row).2.toNat) = b.drop (Sp.cell b row).2.toNat := List.take_of_length_le (by omega)
          rw [show ((out.length : Int) == 8) = false from beq_false_of_ne (by omega), decide_eq_false h8, cond_false, cond_false, ht]
          simp only [List.length_singleton]
          rw [decide_eq_true (show (out.length + 1) * 32 ≤ 140737488355328 by omega), chkT, decide_eq_true c0, decide_eq_true c1, Bool.and_self, chkT]
          exact ih m _ _ (by omega) (by omega) (isBytes_drop hb _) (by rw [List.length_append, List.length_singleton]; omega) (by omega)
noncomputable def e85 : Ent := { f := 85, ins := [Sh.one (cL tB), Sh.one cB], outs := [Sh.one (C0.row tV), Sh.one cB], upd := [], pre := fun a => Sp.bmid a.1, spec := fun a => Sp.cells (List.length (α := Int) a.1 + 1) a.1 a.2 [], wrt := fun _ => () }
theorem e85_core (b : List Int) (row : Bool) (h : Sp.bmid b = true) : ∃ n, abody Γ (orc [e131, e132]) n 85 [XV.mk false [X.c (X0.dat (Ty.int IntKind.u8).slice b)], XV.mk false [X.c (X0.dat Ty.bool row)]] = some (rCells (Sp.cells (b.length + 1) b row [])) := by
  obtain ⟨h1, h2⟩ := yes2_true h
  exact ⟨b.length + 1, (f85_raw _ b row).trans (f85_loop _ row _ _ b [] (Nat.lt_succ_self _) (mid_of h1) h2 (Nat.zero_le _) (Nat.le_refl _))⟩
theorem e85_ok : Valid Try.prog Γ e85 := valid_of ok (vcons e131_ok (vcons e132_ok vnil)) fun a ha => e85_core a.1 a.2 ha
def Sp.f43_pre (x0 : List Int) : Bool := (bif decide ((↑x0.length : Int) > (65536 : Int)) then true else (bif (↑x0.length : Int) == (0 : Int) then true else (decide ((1 : Int) ≤ (↑x0.length : Int)) && (Sp.bmid (List.take (x0.length - (1 : Nat)) (List.drop (1 : Nat) x0)) && (bif !(Sp.cells ((List.take (x0.length - (1 : Nat)) (List.drop (1 : Nat) x0)).length + (1 : Nat)) (List.take (x0.length - (1 : Nat)) (List.drop (1 : Nat) x0)) true []).2 then true else decide ((0 : Int) < (↑x0.length : Int)))))))
def Sp.f43 (x0 : List Int) := (bif decide ((↑x0.length : Int) > (65536 : Int)) then (([], (2 : Int)), ()) else (bif (↑x0.length : Int) == (0 : Int) then (([], (3 : Int)), ()) else (bif !(Sp.cells ((List.take (x0.length - (1 : Nat)) (List.drop (1 : Nat) x0)).length + (1 : Nat)) (List.take (x0.length - (1 : Nat)) (List.drop (1 : Nat) x0)) true []).2 then (([], (3 : Int)), ()) else (bif (↑(Sp.cells ((List.take (x0.length - (1 : Nat)) (List.drop (1 : Nat) x0)).length + (1 : Nat)) (List.take (x0.length - (1 : Nat)) (List.drop (1 : Nat) x0)) true []).1.length : Int) != IntKind.i64.wrap (x0.getD (0 : Nat) (0 : Int)) then (([], (3 : Int)), ()) else (((Sp.cells ((List.take (x0.length - (1 : Nat)) (List.drop (1 : Nat) x0)).length + (1 : Nat)) (List.take (x0.length - (1 : Nat)) (List.drop (1 : Nat) x0)) true []).1, (0 : Int)), ())))))
noncomputable def e43 : Ent := { f := 43, ins := [Sh.one (C0.dat (Ty.int IntKind.u8).slice)], outs := [Sh.one (C0.row ((Ty.int IntKind.i64).pair ((Ty.int IntKind.i64).pair Ty.str))), Sh.one (C0.dat (Ty.int IntKind.i64))], upd := [], pre := fun a => Sp.f43_pre a, spec := fun a => (Sp.f43 a).1, wrt := fun a => (Sp.f43 a).2 }
def f43_g (v : denS [Sh.one (C0.row ((Ty.int IntKind.i64).pair ((Ty.int IntKind.i64).pair Ty.str))), Sh.one (C0.dat (Ty.int IntKind.i64))] × denS []) : Res := ⟨mkS [Sh.one (C0.row ((Ty.int IntKind.i64).pair ((Ty.int IntKind.i64).pair Ty.str))), Sh.one (C0.dat (Ty.int IntKind.i64))] v.1, mkU [] v.2⟩
theorem f43_raw (x0 : List Int) : abody Γ (orc [e85]) 0 43 [XV.mk false [X.c (X0.dat (Ty.int IntKind.u8).slice x0)]] = bif decide ((↑x0.length : Int) > (65536 : Int)) then some (Res.mk [XV.mk false [X.c (X0.row ((Ty.int IntKind.i64).pair ((Ty.int IntKind.i64).pair Ty.str)) [] true)], XV.mk false [X.c (X0.dat (Ty.int IntKind.i64) (2 : Int))]] []) else bif (↑x0.length : Int) == (0 : Int) then some (Res.mk [XV.mk false [X.c (X0.row ((Ty.int IntKind.i64).pair ((Ty.int IntKind.i64).pair Ty.str)) [] true)], XV.mk false [X.c (X0.dat (Ty.int IntKind.i64) (3 : Int))]] []) else chk (decide ((1 : Int) ≤ (↑x0.length : Int))) (chk (Sp.bmid (List.take (x0.length - (1 : Nat)) (List.drop (1 : Nat) x0))) (bif !(Sp.cells ((List.take (x0.length - (1 : Nat)) (List.drop (1 : Nat) x0)).length + (1 : Nat)) (List.take (x0.length - (1 : Nat)) (List.drop (1 : Nat) x0)) true []).2 then some (Res.mk [XV.mk false [X.c (X0.row ((Ty.int IntKind.i64).pair ((Ty.int IntKind.i64).pair Ty.str)) [] true)], XV.mk false [X.c (X0.dat (Ty.int IntKind.i64) (3 : Int))]] []) else chk (decide ((0 : Int) < (↑x0.length : Int))) (bif (↑(Sp.cells ((List.take (x0.length - (1 : Nat)) (List.drop (1 : Nat) x0)).length + (1 : Nat)) (List.take (x0.length - (1 : Nat)) (List.drop (1 : Nat) x0)) true []).1.length : Int) != IntKind.i64.wrap (x0.getD (0 : Nat) (0 : Int)) then some (Res.mk [XV.mk false [X.c (X0.row ((Ty.int IntKind.i64).pair ((Ty.int IntKind.i64).pair Ty.str)) [] true)], XV.mk false [X.c (X0.dat (Ty.int IntKind.i64) (3 : Int))]] []) else some (Res.mk [XV.mk false [X.c (X0.row ((Ty.int IntKind.i64).pair ((Ty.int IntKind.i64).pair Ty.str)) (Sp.cells ((List.take (x0.length - (1 : Nat)) (List.drop (1 : Nat) x0)).length + (1 : Nat)) (List.take (x0.length - (1 : Nat)) (List.drop (1 : Nat) x0)) true []).1 true)], XV.mk false [X.c (X0.dat (Ty.int IntKind.i64) (0 : Int))]] [])))) := by kernel_rfl
theorem f43_form (x0 : List Int) : (bif decide ((↑x0.length : Int) > (65536 : Int)) then some (Res.mk [XV.mk false [X.c (X0.row ((Ty.int IntKind.i64).pair ((Ty.int IntKind.i64).pair Ty.str)) [] true)], XV.mk false [X.c (X0.dat (Ty.int IntKind.i64) (2 : Int))]] []) else bif (↑x0.length : Int) == (0 : Int) then some (Res.mk [XV.mk false [X.c (X0.row ((Ty.int IntKind.i64).pair ((Ty.int IntKind.i64).pair Ty.str)) [] true)], XV.mk false [X.c (X0.dat (Ty.int IntKind.i64) (3 : Int))]] []) else chk (decide ((1 : Int) ≤ (↑x0.length : Int))) (chk (Sp.bmid (List.take (x0.length - (1 : Nat)) (List.drop (1 : Nat) x0))) (bif !(Sp.cells ((List.take (x0.length - (1 : Nat)) (List.drop (1 : Nat) x0)).length + (1 : Nat)) (List.take (x0.length - (1 : Nat)) (List.drop (1 : Nat) x0)) true []).2 then some (Res.mk [XV.mk false [X.c (X0.row ((Ty.int IntKind.i64).pair ((Ty.int IntKind.i64).pair Ty.str)) [] true)], XV.mk false [X.c (X0.dat (Ty.int IntKind.i64) (3 : Int))]] []) else chk (decide ((0 : Int) < (↑x0.length : Int))) (bif (↑(Sp.cells ((List.take (x0.length - (1 : Nat)) (List.drop (1 : Nat) x0)).length + (1 : Nat)) (List.take (x0.length - (1 : Nat)) (List.drop (1 : Nat) x0)) true []).1.length : Int) != IntKind.i64.wrap (x0.getD (0 : Nat) (0 : Int)) then some (Res.mk [XV.mk false [X.c (X0.row ((Ty.int IntKind.i64).pair ((Ty.int IntKind.i64).pair Ty.str)) [] true)], XV.mk false [X.c (X0.dat (Ty.int IntKind.i64) (3 : Int))]] []) else some (Res.mk [XV.mk false [X.c (X0.row ((Ty.int IntKind.i64).pair ((Ty.int IntKind.i64).pair Ty.str)) (Sp.cells ((List.take (x0.length - (1 : Nat)) (List.drop (1 : Nat) x0)).length + (1 : Nat)) (List.take (x0.length - (1 : Nat)) (List.drop (1 : Nat) x0)) true []).1 true)], XV.mk false [X.c (X0.dat (Ty.int IntKind.i64) (0 : Int))]] []))))) = chk (Sp.f43_pre x0) (some (f43_g (Sp.f43 x0))) := by
  unfold Sp.f43_pre Sp.f43
  exact (cond_step f43_g ((lift_plain (rfl))) ((cond_step f43_g ((lift_plain (rfl))) ((chk_step ((chk_step ((cond_step f43_g ((lift_plain (rfl))) ((chk_last ((cond_plain f43_g (rfl) (rfl))))))))))))))
theorem e43_ok : Valid Try.prog Γ e43 := valid_auto ok (vcons e85_ok vnil) fun a => (f43_raw a).trans (f43_form a)

def Sp.f9_pre (x0 : List Int) : Bool := (bif decide ((↑x0.length : Int) > (1048576 : Int)) then true else (Sp.fits x0 && (Sp.f42_pre x0 && (Sp.fits x0 && (Sp.f43_pre x0 && (bif !Sp.eqW Sp.eqV (Sp.f43 x0).1.1 (Sp.f42 x0).1.1 then true else (bif (Sp.f43 x0).1.2 != (Sp.f42 x0).1.2 then true else (Sp.fits x0 && (bif !Sp.eqL x0 x0 then true else (Sp.small x0 (1 : Int) && (bif decide (Sp.addLen x0 (1 : Int) < (0 : Int)) then true else (bif !Sp.eqW Sp.eqV (Sp.f43 x0).1.1 (Sp.f42 x0).1.1 then true else (bif (Sp.f43 x0).1.2 != (Sp.f42 x0).1.2 then true else (Sp.smallW (3 : Nat) (Sp.f43 x0).1.1 (1 : Int) && (Sp.smallW (3 : Nat) (Sp.markW Sp.markV (3 : Int) (Sp.f43 x0).1.1 (1 : Int)) (1 : Int) && (bif decide (Sp.heldW Sp.heldV (3 : Int) (Sp.markW Sp.markV (3 : Int) (Sp.f43 x0).1.1 (1 : Int)) (1 : Int) < (0 : Int)) then true else (bif Sp.heldW Sp.heldV (3 : Int) (Sp.markW Sp.markV (3 : Int) (Sp.f43 x0).1.1 (1 : Int)) (1 : Int) != Sp.addW (3 : Int) (Sp.f43 x0).1.1 (1 : Int) then true else (Sp.fits x0 && (Sp.f43_pre x0 && (bif !Sp.eqW Sp.eqV (Sp.f43 x0).1.1 (Sp.f42 x0).1.1 then true else (bif (Sp.f43 x0).1.2 != (Sp.f42 x0).1.2 then true else Sp.smallW (3 : Nat) (Sp.markW Sp.markV (3 : Int) (Sp.f43 x0).1.1 (1 : Int)) (1 : Int))))))))))))))))))))))
def Sp.f9 (x0 : List Int) := (bif decide ((↑x0.length : Int) > (1048576 : Int)) then (true, ()) else (bif !Sp.eqW Sp.eqV (Sp.f43 x0).1.1 (Sp.f42 x0).1.1 then (false, ()) else (bif (Sp.f43 x0).1.2 != (Sp.f42 x0).1.2 then (false, ()) else (bif !Sp.eqL x0 x0 then (false, ()) else (bif decide (Sp.addLen x0 (1 : Int) < (0 : Int)) then (false, ()) else (bif !Sp.eqW Sp.eqV (Sp.f43 x0).1.1 (Sp.f42 x0).1.1 then (false, ()) else (bif (Sp.f43 x0).1.2 != (Sp.f42 x0).1.2 then (false, ()) else (bif decide (Sp.heldW Sp.heldV (3 : Int) (Sp.markW Sp.markV (3 : Int) (Sp.f43 x0).1.1 (1 : Int)) (1 : Int) < (0 : Int)) then (false, ()) else (bif Sp.heldW Sp.heldV (3 : Int) (Sp.markW Sp.markV (3 : Int) (Sp.f43 x0).1.1 (1 : Int)) (1 : Int) != Sp.addW (3 : Int) (Sp.f43 x0).1.1 (1 : Int) then (false, ()) else (bif !Sp.eqW Sp.eqV (Sp.f43 x0).1.1 (Sp.f42 x0).1.1 then (false, ()) else (bif (Sp.f43 x0).1.2 != (Sp.f42 x0).1.2 then (false, ()) else (bif decide (Sp.heldW Sp.heldV (3 : Int) (Sp.markW Sp.markV (3 : Int) (Sp.f43 x0).1.1 (1 : Int)) (1 : Int) < (0 : Int)) then (false, ()) else (bif Sp.heldW Sp.heldV (3 : Int) (Sp.markW Sp.markV (3 : Int) (Sp.f43 x0).1.1 (1 : Int)) (1 : Int) != Sp.addW (3 : Int) (Sp.f43 x0).1.1 (1 : Int) then (false, ()) else (true, ()))))))))))))))
noncomputable def e9 : Ent := { f := 9, ins := [Sh.one (C0.dat (Ty.int IntKind.u8).slice)], outs := [Sh.one (C0.dat Ty.bool)], upd := [], pre := fun a => Sp.f9_pre a, spec := fun a => (Sp.f9 a).1, wrt := fun a => (Sp.f9 a).2 }
def f9_g (v : denS [Sh.one (C0.dat Ty.bool)] × denS []) : Res := ⟨mkS [Sh.one (C0.dat Ty.bool)] v.1, mkU [] v.2⟩
theorem f9_raw (x0 : List Int) : abody Γ (orc [e22, e42, e43, e44, e24, e25, e45, e46]) 0 9 [XV.mk false [X.c (X0.dat (Ty.int IntKind.u8).slice x0)]] = bif decide ((↑x0.length : Int) > (1048576 : Int)) then some (Res.mk [XV.mk false [X.c (X0.dat Ty.bool true)]] []) else chk (Sp.fits x0) (chk (Sp.f42_pre x0) (chk (Sp.fits x0) (chk (Sp.f43_pre x0) (bif !Sp.eqW Sp.eqV (Sp.f43 x0).1.1 (Sp.f42 x0).1.1 then some (Res.mk [XV.mk false [X.c (X0.dat Ty.bool false)]] []) else bif (Sp.f43 x0).1.2 != (Sp.f42 x0).1.2 then some (Res.mk [XV.mk false [X.c (X0.dat Ty.bool false)]] []) else chk (Sp.fits x0) (bif !Sp.eqL x0 x0 then some (Res.mk [XV.mk false [X.c (X0.dat Ty.bool false)]] []) else chk (Sp.small x0 (1 : Int)) (bif decide (Sp.addLen x0 (1 : Int) < (0 : Int)) then some (Res.mk [XV.mk false [X.c (X0.dat Ty.bool false)]] []) else bif !Sp.eqW Sp.eqV (Sp.f43 x0).1.1 (Sp.f42 x0).1.1 then some (Res.mk [XV.mk false [X.c (X0.dat Ty.bool false)]] []) else bif (Sp.f43 x0).1.2 != (Sp.f42 x0).1.2 then some (Res.mk [XV.mk false [X.c (X0.dat Ty.bool false)]] []) else chk (Sp.smallW (3 : Nat) (Sp.f43 x0).1.1 (1 : Int)) (chk (Sp.smallW (3 : Nat) (Sp.markW Sp.markV (3 : Int) (Sp.f43 x0).1.1 (1 : Int)) (1 : Int)) (bif decide (Sp.heldW Sp.heldV (3 : Int) (Sp.markW Sp.markV (3 : Int) (Sp.f43 x0).1.1 (1 : Int)) (1 : Int) < (0 : Int)) then some (Res.mk [XV.mk false [X.c (X0.dat Ty.bool false)]] []) else bif Sp.heldW Sp.heldV (3 : Int) (Sp.markW Sp.markV (3 : Int) (Sp.f43 x0).1.1 (1 : Int)) (1 : Int) != Sp.addW (3 : Int) (Sp.f43 x0).1.1 (1 : Int) then some (Res.mk [XV.mk false [X.c (X0.dat Ty.bool false)]] []) else chk (Sp.fits x0) (chk (Sp.f43_pre x0) (bif !Sp.eqW Sp.eqV (Sp.f43 x0).1.1 (Sp.f42 x0).1.1 then some (Res.mk [XV.mk false [X.c (X0.dat Ty.bool false)]] []) else bif (Sp.f43 x0).1.2 != (Sp.f42 x0).1.2 then some (Res.mk [XV.mk false [X.c (X0.dat Ty.bool false)]] []) else chk (Sp.smallW (3 : Nat) (Sp.markW Sp.markV (3 : Int) (Sp.f43 x0).1.1 (1 : Int)) (1 : Int)) (bif decide (Sp.heldW Sp.heldV (3 : Int) (Sp.markW Sp.markV (3 : Int) (Sp.f43 x0).1.1 (1 : Int)) (1 : Int) < (0 : Int)) then some (Res.mk [XV.mk false [X.c (X0.dat Ty.bool false)]] []) else bif Sp.heldW Sp.heldV (3 : Int) (Sp.markW Sp.markV (3 : Int) (Sp.f43 x0).1.1 (1 : Int)) (1 : Int) != Sp.addW (3 : Int) (Sp.f43 x0).1.1 (1 : Int) then some (Res.mk [XV.mk false [X.c (X0.dat Ty.bool false)]] []) else some (Res.mk [XV.mk false [X.c (X0.dat Ty.bool true)]] [])))))))))))) := by kernel_rfl
theorem f9_form (x0 : List Int) : (bif decide ((↑x0.length : Int) > (1048576 : Int)) then some (Res.mk [XV.mk false [X.c (X0.dat Ty.bool true)]] []) else chk (Sp.fits x0) (chk (Sp.f42_pre x0) (chk (Sp.fits x0) (chk (Sp.f43_pre x0) (bif !Sp.eqW Sp.eqV (Sp.f43 x0).1.1 (Sp.f42 x0).1.1 then some (Res.mk [XV.mk false [X.c (X0.dat Ty.bool false)]] []) else bif (Sp.f43 x0).1.2 != (Sp.f42 x0).1.2 then some (Res.mk [XV.mk false [X.c (X0.dat Ty.bool false)]] []) else chk (Sp.fits x0) (bif !Sp.eqL x0 x0 then some (Res.mk [XV.mk false [X.c (X0.dat Ty.bool false)]] []) else chk (Sp.small x0 (1 : Int)) (bif decide (Sp.addLen x0 (1 : Int) < (0 : Int)) then some (Res.mk [XV.mk false [X.c (X0.dat Ty.bool false)]] []) else bif !Sp.eqW Sp.eqV (Sp.f43 x0).1.1 (Sp.f42 x0).1.1 then some (Res.mk [XV.mk false [X.c (X0.dat Ty.bool false)]] []) else bif (Sp.f43 x0).1.2 != (Sp.f42 x0).1.2 then some (Res.mk [XV.mk false [X.c (X0.dat Ty.bool false)]] []) else chk (Sp.smallW (3 : Nat) (Sp.f43 x0).1.1 (1 : Int)) (chk (Sp.smallW (3 : Nat) (Sp.markW Sp.markV (3 : Int) (Sp.f43 x0).1.1 (1 : Int)) (1 : Int)) (bif decide (Sp.heldW Sp.heldV (3 : Int) (Sp.markW Sp.markV (3 : Int) (Sp.f43 x0).1.1 (1 : Int)) (1 : Int) < (0 : Int)) then some (Res.mk [XV.mk false [X.c (X0.dat Ty.bool false)]] []) else bif Sp.heldW Sp.heldV (3 : Int) (Sp.markW Sp.markV (3 : Int) (Sp.f43 x0).1.1 (1 : Int)) (1 : Int) != Sp.addW (3 : Int) (Sp.f43 x0).1.1 (1 : Int) then some (Res.mk [XV.mk false [X.c (X0.dat Ty.bool false)]] []) else chk (Sp.fits x0) (chk (Sp.f43_pre x0) (bif !Sp.eqW Sp.eqV (Sp.f43 x0).1.1 (Sp.f42 x0).1.1 then some (Res.mk [XV.mk false [X.c (X0.dat Ty.bool false)]] []) else bif (Sp.f43 x0).1.2 != (Sp.f42 x0).1.2 then some (Res.mk [XV.mk false [X.c (X0.dat Ty.bool false)]] []) else chk (Sp.smallW (3 : Nat) (Sp.markW Sp.markV (3 : Int) (Sp.f43 x0).1.1 (1 : Int)) (1 : Int)) (bif decide (Sp.heldW Sp.heldV (3 : Int) (Sp.markW Sp.markV (3 : Int) (Sp.f43 x0).1.1 (1 : Int)) (1 : Int) < (0 : Int)) then some (Res.mk [XV.mk false [X.c (X0.dat Ty.bool false)]] []) else bif Sp.heldW Sp.heldV (3 : Int) (Sp.markW Sp.markV (3 : Int) (Sp.f43 x0).1.1 (1 : Int)) (1 : Int) != Sp.addW (3 : Int) (Sp.f43 x0).1.1 (1 : Int) then some (Res.mk [XV.mk false [X.c (X0.dat Ty.bool false)]] []) else some (Res.mk [XV.mk false [X.c (X0.dat Ty.bool true)]] []))))))))))))) = chk (Sp.f9_pre x0) (some (f9_g (Sp.f9 x0))) := by
  unfold Sp.f9_pre Sp.f9
  exact (cond_step f9_g ((lift_plain (rfl))) ((chk_step ((chk_step ((chk_step ((chk_step ((cond_step f9_g ((lift_plain (rfl))) ((cond_step f9_g ((lift_plain (rfl))) ((chk_step ((cond_step f9_g ((lift_plain (rfl))) ((chk_step ((cond_step f9_g ((lift_plain (rfl))) ((cond_step f9_g ((lift_plain (rfl))) ((cond_step f9_g ((lift_plain (rfl))) ((chk_step ((chk_step ((cond_step f9_g ((lift_plain (rfl))) ((cond_step f9_g ((lift_plain (rfl))) ((chk_step ((chk_step ((cond_step f9_g ((lift_plain (rfl))) ((cond_step f9_g ((lift_plain (rfl))) ((chk_last ((cond_plain f9_g (rfl) ((cond_plain f9_g (rfl) (rfl))))))))))))))))))))))))))))))))))))))))))))))))
theorem e9_ok : Valid Try.prog Γ e9 := valid_auto ok (vcons e22_ok (vcons e42_ok (vcons e43_ok (vcons e44_ok (vcons e24_ok (vcons e25_ok (vcons e45_ok (vcons e46_ok vnil)))))))) fun a => (f9_raw a).trans (f9_form a)

end Go.Proofs.GR.T
namespace Go.Proofs.GR.T
open Go Go.Proofs Go.Proofs.GR
theorem badV_eq (x : V3) : Sp.badV x = !Sp.vOK x := by
  unfold Sp.badV Sp.vOK Sp.f170 Sp.f171 Sp.f136 Sp.f167 Sp.f70 Sp.f79
  cases x.1 == 0 <;> cases x.1 == 1 <;> cases x.1 == 2 <;> cases x.1 == 3 <;> cases x.1 == 4 <;> rfl
theorem idx_ge {α : Type} {p : α → Bool} : ∀ (xs : List α) (i : Int), 0 ≤ i → decide (Sp.idx p xs i ≥ 0) = !Sp.allW (fun x => !p x) xs
  | [], i, _ => by rw [Sp.idx, Sp.allW]; rfl
  | x :: r, i, h => by
    rw [Sp.idx, Sp.allW]
    cases p x with
    | true => exact decide_eq_true h
    | false => exact idx_ge r (i + 1) (by omega)
theorem allW_congr {α : Type} {p q : α → Bool} (h : ∀ x, p x = q x) (xs : List α) : Sp.allW p xs = Sp.allW q xs := by
  rw [show p = q from funext h]
theorem f132_eq (xs : List V3) : (Sp.f132 xs).1 = Sp.rowOK xs := by
  unfold Sp.f132 Sp.rowOK Sp.f169
  rw [idx_ge xs 0 (Int.le_refl _), allW_congr (q := Sp.vOK) (fun x => by rw [badV_eq, Bool.not_not]), Bool.not_not]
  by_cases h : (xs.length : Int) ≤ 8
  · rw [decide_eq_true h, decide_eq_false (show ¬ (xs.length : Int) > 8 by omega)]; rfl
  · rw [decide_eq_false h, decide_eq_true (show (xs.length : Int) > 8 by omega)]; rfl
theorem rowOK_iff {xs : List V3} : Sp.rowOK xs = true ↔ xs.length ≤ 8 ∧ ∀ x ∈ xs, Sp.vOK x = true := by
  unfold Sp.rowOK
  by_cases h : (xs.length : Int) > 8
  · rw [decide_eq_true h, cond_true]
    constructor
    · intro h; cases h
    · rintro ⟨h1, _⟩; omega
  · rw [decide_eq_false h, cond_false, allW_mem]
    exact ⟨fun h2 => ⟨by omega, h2⟩, fun h2 => h2.2⟩
theorem cells_grow (row : Bool) : ∀ (d : Nat) (b : List Int) (out : List V3), (Sp.cells d b row out).2 = true → out.length ≤ (Sp.cells d b row out).1.length ∧ (b.length ≠ 0 → out.length < (Sp.cells d b row out).1.length)
  | 0, _, _, h => by cases h
  | d + 1, b, out, h => by
    rw [Sp.cells] at h ⊢
    by_cases h0 : b.length = 0
    · rw [decide_eq_true h0, cond_true]
      exact ⟨Nat.le_refl _, fun hn => absurd h0 hn⟩
    · rw [decide_eq_false h0, cond_false] at h ⊢
      cases hz : (Sp.cell b row).2 == 0 with
      | true => rw [hz, cond_true] at h; cases h
      | false =>
        rw [hz, cond_false] at h
        rw [cond_false]
        cases h8 : decide (out.length = 8) with
        | true => rw [h8, cond_true] at h; cases h
        | false =>
          rw [h8, cond_false] at h
          rw [cond_false]
          have := (cells_grow row d _ _ h).1
          rw [List.length_append, List.length_singleton] at this
          exact ⟨by omega, fun _ => by omega⟩
theorem of8_take (r : List Int) : Sp.of8 (r.take 8) = Sp.of8 r := by
  unfold Sp.of8
  rw [List.take_take]
  rfl
theorem oneV_at {b : List Int} {a : Nat} {x : Int} {r : List Int} (h : b.drop a = x :: r) : Sp.oneV b a false = x ∧ Sp.oneA b a false = ((a + 1 : Nat) : Int) ∧ Sp.oneB b a false = false ∧ b.drop (a + 1) = r ∧ a < b.length := by
  have hlt : a < b.length := by
    apply Nat.lt_of_not_le
    intro hge
    rw [List.drop_of_length_le hge] at h
    cases h
  have h2 := List.drop_eq_getElem_cons hlt
  rw [h] at h2
  obtain ⟨e1, e2⟩ := List.cons.inj h2
  have hc : ¬ (a : Int) ≥ (b.length : Int) := by omega
  unfold Sp.oneV Sp.oneA Sp.oneB
  rw [decide_eq_false hc, getD_nat b a 0 hlt]
  refine ⟨e1.symm, ?_, rfl, e2.symm, hlt⟩
  show (a : Int) + 1 = _
  omega
theorem one_end {b : List Int} {a : Nat} (bad : Bool) (h : b.drop a = []) : Sp.oneV b a bad = 0 ∧ Sp.oneA b a bad = (a : Int) ∧ Sp.oneB b a bad = true := by
  have hge : b.length ≤ a := by
    apply Nat.le_of_not_lt
    intro hlt
    rw [List.drop_eq_getElem_cons hlt] at h
    cases h
  have hc : (a : Int) ≥ (b.length : Int) := by omega
  unfold Sp.oneV Sp.oneA Sp.oneB
  rw [decide_eq_true hc]
  cases bad <;> exact ⟨rfl, rfl, rfl⟩
/-- A value of a row is what the program's cell is. -/
theorem rv_step {b : List Int} {a : Nat} {x : Int} {r : List Int} (hb : Sp.isBytes b = true) (h : b.drop a = x :: r) :
    ((Sp.cell (x :: r) true).2 = 0 → Sp.rvB b a false = true ∨ Sp.vOK (Sp.rvV b a false) = false) ∧
    ((Sp.cell (x :: r) true).2 ≠ 0 → Sp.rvV b a false = (Sp.cell (x :: r) true).1 ∧ Sp.rvA b a false = a + (Sp.cell (x :: r) true).2 ∧ Sp.rvB b a false = false) := by
  obtain ⟨o1, o2, o3, o4, o5⟩ := oneV_at h
  have hbx : Sp.isBytes (x :: r) = true := h ▸ isBytes_drop hb a
  obtain ⟨⟨x0, x1⟩, hbr⟩ := isBytes_cons.1 hbx
  have hlen : r.length = b.length - (a + 1) := by rw [← o4, List.length_drop]
  rw [show Sp.cell (x :: r) true = Sp.cellC x r true from rfl]
  unfold Sp.rvV Sp.rvA Sp.rvB
  rw [o1, o2, o3]
  by_cases c0 : x = 0
  · subst c0
    exact ⟨fun h => absurd h (show ¬ (1 : Int) = 0 by decide), fun _ => ⟨rfl, by show ((a + 1 : Nat) : Int) = a + 1; omega, rfl⟩⟩
  by_cases c1 : x = 1
  · subst c1
    cases r with
    | nil =>
      obtain ⟨p1, p2, p3⟩ := one_end (b := b) (a := a + 1) false o4
      refine ⟨fun _ => .inl p3, fun h => absurd rfl h⟩
    | cons y r' =>
      obtain ⟨p1, p2, p3, p4, p5⟩ := oneV_at o4
      refine ⟨fun h => absurd h (show ¬ (2 : Int) = 0 by decide), fun _ => ⟨?_, ?_, p3⟩⟩
      · show ((1 : Int), Sp.oneV b ((a + 1 : Nat) : Int) false, ByteArray.empty) = (1, y, ByteArray.empty)
        rw [p1]
      · show Sp.oneA b ((a + 1 : Nat) : Int) false = a + 2
        rw [p2]; omega
  by_cases c2 : x = 2
  · subst c2
    have ht : Sp.takeB b ((a + 1 : Nat) : Int) false 8 = decide (((a + 1 : Nat) : Int) + 8 > (b.length : Int)) := rfl
    by_cases h8 : 8 ≤ r.length
    · have ht2 : Sp.takeB b ((a + 1 : Nat) : Int) false 8 = false := by rw [ht]; exact decide_eq_false (by omega)
      have e9 : Sp.cellC 2 r true = ((2, Sp.of8 r, ByteArray.empty), 9) := by
        show (bif Nat.ble 8 r.length then (((2, Sp.of8 r, ByteArray.empty), 9) : V3 × Int) else (Sp.zv, 0)) = _
        rw [Nat.ble_eq_true_of_le h8]; rfl
      rw [e9]
      refine ⟨fun h => absurd h (show ¬ (9 : Int) = 0 by decide), fun _ => ⟨?_, ?_, ht2⟩⟩
      · show ((2 : Int), Sp.of8 (Sp.takeV b ((a + 1 : Nat) : Int) false 8), ByteArray.empty) = (2, Sp.of8 r, ByteArray.empty)
        unfold Sp.takeV
        rw [ht2, cond_false, Int.toNat_natCast, o4, show (8 : Int).toNat = 8 from rfl, of8_take]
      · show Sp.takeA b ((a + 1 : Nat) : Int) false 8 = a + 9
        unfold Sp.takeA
        rw [ht2, cond_false]; omega
    · have ht2 : Sp.takeB b ((a + 1 : Nat) : Int) false 8 = true := by rw [ht]; exact decide_eq_true (by omega)
      have hb8 : Nat.ble 8 r.length = false := Bool.eq_false_iff.2 fun e => h8 (Nat.le_of_ble_eq_true e)
      refine ⟨fun _ => .inl ht2, fun hn => absurd ?_ hn⟩
      show (bif Nat.ble 8 r.length then (((2, Sp.of8 r, ByteArray.empty), 9) : V3 × Int) else (Sp.zv, 0)).2 = 0
      rw [hb8]; rfl
  unfold Sp.cellC
  rw [beq_false_of_ne c0, beq_false_of_ne c1, beq_false_of_ne c2]
  simp only [cond_false, Bool.not_true]
  have e167 : (Sp.f167 x).1 = (bif x == 3 then true else x == 4) := by
    unfold Sp.f167
    cases x == 3 <;> rfl
  rw [e167]
  cases ct : (bif x == 3 then true else x == 4) with
  | true =>
    simp only [cond_true]
    cases r with
    | nil =>
      obtain ⟨p1, p2, p3⟩ := one_end (b := b) (a := a + 1) false o4
      rw [p3]
      exact ⟨fun _ => .inl rfl, fun h => absurd rfl h⟩
    | cons y r' =>
      obtain ⟨p1, p2, p3, p4, p5⟩ := oneV_at o4
      obtain ⟨⟨y0, y1⟩, _⟩ := isBytes_cons.1 hbr
      have hl2 : r'.length = b.length - (a + 1 + 1) := by rw [← p4, List.length_drop]
      rw [p1, p2, p3]
      show ((bif Nat.ble y.toNat r'.length then (((x, 0, bytesStr (r'.take y.toNat)), 2 + y) : V3 × Int) else (Sp.zv, 0)).2 = 0 → _) ∧ ((bif Nat.ble y.toNat r'.length then (((x, 0, bytesStr (r'.take y.toNat)), 2 + y) : V3 × Int) else (Sp.zv, 0)).2 ≠ 0 → _ = (bif Nat.ble y.toNat r'.length then (((x, 0, bytesStr (r'.take y.toNat)), 2 + y) : V3 × Int) else (Sp.zv, 0)).1 ∧ _ = _ + (bif Nat.ble y.toNat r'.length then (((x, 0, bytesStr (r'.take y.toNat)), 2 + y) : V3 × Int) else (Sp.zv, 0)).2 ∧ _)
      have ht : Sp.takeB b ((a + 1 + 1 : Nat) : Int) false y = decide (((a + 1 + 1 : Nat) : Int) + y > (b.length : Int)) := by
        unfold Sp.takeB
        rw [decide_eq_false (show ¬ y < 0 by omega)]; rfl
      by_cases hy : y.toNat ≤ r'.length
      · have ht2 : Sp.takeB b ((a + 1 + 1 : Nat) : Int) false y = false := by rw [ht]; exact decide_eq_false (by omega)
        rw [Nat.ble_eq_true_of_le hy, cond_true]
        refine ⟨fun h => absurd h (show ¬ 2 + y = 0 by omega), fun _ => ⟨?_, ?_, ht2⟩⟩
        · show _ = (x, (0 : Int), bytesStr (r'.take y.toNat))
          unfold Sp.takeV
          rw [ht2, cond_false, Int.toNat_natCast, p4]
        · unfold Sp.takeA
          rw [ht2, cond_false]
          show _ = (a : Int) + (2 + y)
          omega
      · have ht2 : Sp.takeB b ((a + 1 + 1 : Nat) : Int) false y = true := by rw [ht]; exact decide_eq_true (by omega)
        rw [show Nat.ble y.toNat r'.length = false from Bool.eq_false_iff.2 fun e => hy (Nat.le_of_ble_eq_true e), cond_false]
        exact ⟨fun _ => .inl ht2, fun h => absurd rfl h⟩
  | false =>
    simp only [cond_false]
    refine ⟨fun _ => .inr ?_, fun h => absurd rfl h⟩
    have c34 : (x == 3) = false ∧ (x == 4) = false := by
      cases h3 : x == 3 with
      | true => rw [h3] at ct; cases ct
      | false => rw [h3] at ct; exact ⟨rfl, ct⟩
    unfold Sp.vOK Sp.f136
    simp only [beq_false_of_ne c0, beq_false_of_ne c1, beq_false_of_ne c2, c34.1, c34.2, cond_false]
theorem srow_bad (b : List Int) (a : Int) (out : List V3) : ∀ k, Sp.srow k b a true out = (out, a, true)
  | 0 => rfl
  | _ + 1 => rfl
theorem srow_next (k : Nat) (b : List Int) (a : Int) (out : List V3) : Sp.srow (k + 1) b a false out = Sp.srow k b (Sp.rvA b a false) (Sp.rvB b a false) (out ++ [Sp.rvV b a false]) := rfl
theorem srow_pre (b : List Int) : ∀ (k : Nat) (a : Int) (bad : Bool) (out : List V3), ∃ t, (Sp.srow k b a bad out).1 = out ++ t ∧ t.length ≤ k
  | 0, _, _, out => ⟨[], by rw [List.append_nil]; rfl, Nat.le_refl _⟩
  | k + 1, a, true, out => ⟨[], by rw [srow_bad, List.append_nil], Nat.zero_le _⟩
  | k + 1, a, false, out => by
    obtain ⟨t, h1, h2⟩ := srow_pre b k (Sp.rvA b a false) (Sp.rvB b a false) (out ++ [Sp.rvV b a false])
    refine ⟨Sp.rvV b a false :: t, ?_, by rw [List.length_cons]; omega⟩
    rw [srow_next, h1, List.append_assoc]
    rfl
theorem row_core {b : List Int} (hb : Sp.isBytes b = true) (hl : b.length ≤ 1048576) : ∀ (k a d : Nat) (out : List V3), a ≤ b.length → (b.drop a).length < d → out.length ≤ 8 →
    ((Sp.cells d (b.drop a) true out).2 = true → (Sp.cells d (b.drop a) true out).1.length = out.length + k → Sp.srow k b a false out = ((Sp.cells d (b.drop a) true out).1, (b.length : Int), false) ∧ Sp.rowOK (Sp.cells d (b.drop a) true out).1 = true) ∧
    (∀ o, Sp.srow k b a false out = (o, (b.length : Int), false) → Sp.rowOK o = true → Sp.cells d (b.drop a) true out = (o, true) ∧ o.length = out.length + k) := by
  intro k
  induction k with
  | zero =>
    intro a d out ha hd ho
    obtain ⟨d, rfl⟩ := succ_of hd
    have e0 : Sp.srow 0 b a false out = (out, (a : Int), false) := rfl
    by_cases h0 : (b.drop a).length = 0
    · have hab : a = b.length := by rw [List.length_drop] at h0; omega
      have ec : Sp.cells (d + 1) (b.drop a) true out = (out, Sp.rowOK out) := by rw [Sp.cells, decide_eq_true h0, cond_true, f132_eq]
      rw [ec, e0, hab]
      refine ⟨fun h _ => ⟨rfl, h⟩, fun o h hr => ?_⟩
      obtain ⟨rfl, _⟩ := Prod.mk.inj h
      exact ⟨by rw [hr], rfl⟩
    · refine ⟨fun h hlen => ?_, fun o h hr => ?_⟩
      · have := (cells_grow true (d + 1) _ _ h).2 h0
        omega
      · rw [e0] at h
        obtain ⟨_, h2⟩ := Prod.mk.inj h
        obtain ⟨h2, _⟩ := Prod.mk.inj h2
        rw [List.length_drop] at h0
        omega
  | succ k ih =>
    intro a d out ha hd ho
    obtain ⟨d, rfl⟩ := succ_of hd
    rw [srow_next]
    cases hc : b.drop a with
    | nil =>
      obtain ⟨p1, p2, p3⟩ := one_end (b := b) (a := a) false hc
      have eB : Sp.rvB b a false = true := by unfold Sp.rvB; rw [p1, p2, p3]; rfl
      rw [eB, srow_bad]
      refine ⟨fun h hlen => ?_, fun o h hr => ?_⟩
      · have e : Sp.cells (d + 1) [] true out = (out, (Sp.f132 out).1) := rfl
        rw [e] at hlen
        have : out.length = out.length + (k + 1) := hlen
        omega
      · obtain ⟨_, h2⟩ := Prod.mk.inj h
        obtain ⟨_, h2⟩ := Prod.mk.inj h2
        cases h2
    | cons x r =>
      obtain ⟨s1, s2⟩ := rv_step hb hc
      have hlr : (b.drop a).length = r.length + 1 := by rw [hc]; rfl
      have hbx : Sp.isBytes (x :: r) = true := hc ▸ isBytes_drop hb a
      have hdl : r.length + 1 = b.length - a := by rw [← hlr, List.length_drop]
      have hcell := cell_len (b := x :: r) (row := true) (cellOK_mk (by rw [List.length_cons]; omega) (by rw [List.length_cons]; omega) hbx)
      have ec : Sp.cells (d + 1) (x :: r) true out = bif (Sp.cell (x :: r) true).2 == 0 then ([], false) else bif decide (out.length = 8) then ([], false) else Sp.cells d ((x :: r).drop (Sp.cell (x :: r) true).2.toNat) true (out ++ [(Sp.cell (x :: r) true).1]) := by
        rw [Sp.cells, decide_eq_false (show ¬ (x :: r).length = 0 by rw [List.length_cons]; omega), cond_false]
      rw [ec]
      by_cases hz : (Sp.cell (x :: r) true).2 = 0
      · rw [show ((Sp.cell (x :: r) true).2 == 0) = true from beq_iff_eq.2 hz, cond_true]
        refine ⟨fun h => (by cases h), fun o h hr => ?_⟩
        exfalso
        cases hB : Sp.rvB b a false with
        | true =>
          rw [hB, srow_bad] at h
          obtain ⟨_, h2⟩ := Prod.mk.inj h
          obtain ⟨_, h2⟩ := Prod.mk.inj h2
          cases h2
        | false =>
          rcases s1 hz with h3 | h3
          · rw [hB] at h3; cases h3
          · obtain ⟨t, h4, _⟩ := srow_pre b k (Sp.rvA b a false) (Sp.rvB b a false) (out ++ [Sp.rvV b a false])
            rw [h] at h4
            have h5 : o = out ++ [Sp.rvV b a false] ++ t := h4
            have := (rowOK_iff.1 hr).2 (Sp.rvV b a false) (by rw [h5]; simp)
            rw [h3] at this
            cases this
      · obtain ⟨v1, v2, v3⟩ := s2 hz
        rw [beq_false_of_ne hz, cond_false]
        by_cases h8 : out.length = 8
        · rw [decide_eq_true h8, cond_true]
          refine ⟨fun h => (by cases h), fun o h hr => ?_⟩
          exfalso
          obtain ⟨t, h4, _⟩ := srow_pre b k (Sp.rvA b a false) (Sp.rvB b a false) (out ++ [Sp.rvV b a false])
          rw [h] at h4
          have h5 : o = out ++ [Sp.rvV b a false] ++ t := h4
          have h6 := (rowOK_iff.1 hr).1
          rw [h5, List.length_append, List.length_append, List.length_singleton] at h6
          omega
        · have hcl : (x :: r).length = r.length + 1 := rfl
          rw [hcl] at hcell
          have ea : (a : Int) + (Sp.cell (x :: r) true).2 = ((a + (Sp.cell (x :: r) true).2.toNat : Nat) : Int) := by omega
          have ed : (x :: r).drop (Sp.cell (x :: r) true).2.toNat = b.drop (a + (Sp.cell (x :: r) true).2.toNat) := by rw [← hc, List.drop_drop]
          rw [decide_eq_false h8, cond_false, v1, v2, v3, ea, ed]
          have hh := ih (a + (Sp.cell (x :: r) true).2.toNat) d (out ++ [(Sp.cell (x :: r) true).1]) (by omega) (by rw [List.length_drop]; omega) (by rw [List.length_append, List.length_singleton]; omega)
          rw [List.length_append, List.length_singleton, show out.length + 1 + k = out.length + (k + 1) by omega] at hh
          exact hh
theorem f43_eq {xs : List Int} (hb : Sp.isBytes xs = true) : Sp.f43 xs = Sp.f42 xs := by
  unfold Sp.f43 Sp.f42
  by_cases c0 : (xs.length : Int) > 65536
  · rw [decide_eq_true c0]; rfl
  rw [decide_eq_false c0, cond_false, cond_false]
  match xs, hb, c0 with
  | [], _, _ => rfl
  | c :: r, hb, c0 =>
    have hl : (c :: r).length = r.length + 1 := rfl
    obtain ⟨⟨x0, x1⟩, hbr⟩ := isBytes_cons.1 hb
    have hr : List.take ((c :: r).length - 1) (List.drop 1 (c :: r)) = r := by simp
    obtain ⟨o1, o2, o3, o4, o5⟩ := oneV_at (b := c :: r) (a := 0) rfl
    have hx : IntKind.i64.wrap ((c :: r).getD 0 0) = c := wrap64 (by simpa using by omega) (by simpa using by omega)
    rw [Int.natCast_zero] at o1 o2 o3
    have eR : Sp.rowR (c :: r) 0 false = Sp.srow c.toNat (c :: r) (1 : Nat) false [] := by
      unfold Sp.rowR
      rw [o1, o2, o3]
    obtain ⟨A, B⟩ := row_core hb (by omega) c.toNat 1 (r.length + 1) [] (by omega) (by show r.length < _; omega) (Nat.zero_le _)
    rw [show (c :: r).drop 1 = r from rfl] at A B
    rw [List.length_nil, Nat.zero_add] at A
    have hne : (((c :: r).length : Int) == 0) = false := beq_false_of_ne (by omega)
    unfold Sp.rowB
    rw [hr, hx, hne, cond_false, eR]
    cases hq : (Sp.cells (r.length + 1) r true []).2 with
    | true =>
      by_cases hn : ((Sp.cells (r.length + 1) r true []).1.length : Int) = c
      · obtain ⟨h1, h2⟩ := A hq (by omega)
        rw [h1, h2, show (((Sp.cells (r.length + 1) r true []).1.length : Int) != c) = false by simp [hn]]
        simp
      · have hn2 : (((Sp.cells (r.length + 1) r true []).1.length : Int) != c) = true := bne_iff_ne.2 hn
        rw [hn2]
        rcases hs : Sp.srow c.toNat (c :: r) (1 : Nat) false [] with ⟨o, a', bad'⟩
        cases bad' with
        | true => cases Sp.rowOK o <;> rfl
        | false =>
          cases hro : Sp.rowOK o with
          | false => rfl
          | true =>
            by_cases ha : a' = ((c :: r).length : Int)
            · subst ha
              obtain ⟨h1, h2⟩ := B o hs hro
              rw [h1] at hn
              rw [List.length_nil, Nat.zero_add] at h2
              exact absurd (show (o.length : Int) = c by omega) hn
            · rw [show (a' != ((c :: r).length : Int)) = true from bne_iff_ne.2 ha]; rfl
    | false =>
      rcases hs : Sp.srow c.toNat (c :: r) (1 : Nat) false [] with ⟨o, a', bad'⟩
      cases bad' with
      | true => cases Sp.rowOK o <;> rfl
      | false =>
        cases hro : Sp.rowOK o with
        | false => rfl
        | true =>
          by_cases ha : a' = ((c :: r).length : Int)
          · subst ha
            obtain ⟨h1, h2⟩ := B o hs hro
            rw [h1] at hq
            cases hq
          · rw [show (a' != ((c :: r).length : Int)) = true from bne_iff_ne.2 ha]; rfl
theorem f42_pre {xs : List Int} (hb : Sp.isBytes xs = true) : Sp.f42_pre xs = true := by
  unfold Sp.f42_pre
  by_cases c0 : (xs.length : Int) > 65536
  · rw [decide_eq_true c0]; rfl
  · rw [decide_eq_false c0]
    exact rdOK_mk (Int.le_refl _) (Int.natCast_nonneg _) (by omega) hb
theorem f43_pre {xs : List Int} (hb : Sp.isBytes xs = true) : Sp.f43_pre xs = true := by
  unfold Sp.f43_pre
  by_cases c0 : (xs.length : Int) > 65536
  · rw [decide_eq_true c0]; rfl
  rw [decide_eq_false c0, cond_false]
  match xs, hb, c0 with
  | [], _, _ => rfl
  | c :: r, hb, c0 =>
    have hl : (c :: r).length = r.length + 1 := rfl
    obtain ⟨_, hbr⟩ := isBytes_cons.1 hb
    have hr : List.take ((c :: r).length - 1) (List.drop 1 (c :: r)) = r := by simp
    have hm : Sp.bmid r = true := by unfold Sp.bmid; rw [mid_mk (by omega), hbr]; rfl
    rw [hr, hm, decide_eq_true (show (1 : Int) ≤ (c :: r).length by omega), decide_eq_true (show (0 : Int) < (c :: r).length by omega), show (((c :: r).length : Int) == 0) = false from beq_false_of_ne (by omega)]
    cases (Sp.cells (r.length + 1) r true []).2 <;> rfl
theorem cells_len (row : Bool) : ∀ (d : Nat) (b : List Int) (out : List V3), (Sp.cells d b row out).1.length ≤ out.length + d
  | 0, _, _ => Nat.zero_le _
  | d + 1, b, out => by
    rw [Sp.cells]
    cases decide (b.length = 0) with
    | true => exact Nat.le_add_right _ _
    | false =>
      cases (Sp.cell b row).2 == 0 with
      | true => exact Nat.zero_le _
      | false =>
        cases decide (out.length = 8) with
        | true => exact Nat.zero_le _
        | false =>
          have := cells_len row d (b.drop (Sp.cell b row).2.toNat) (out ++ [(Sp.cell b row).1])
          rw [List.length_append, List.length_singleton] at this
          show (Sp.cells d (b.drop (Sp.cell b row).2.toNat) row (out ++ [(Sp.cell b row).1])).1.length ≤ _
          omega
theorem f43_len (xs : List Int) : (Sp.f43 xs).1.1.length ≤ xs.length + 1 := by
  unfold Sp.f43
  have h := cells_len true ((xs.drop 1).take (xs.length - 1)).length.succ ((xs.drop 1).take (xs.length - 1)) []
  rw [List.length_nil, Nat.zero_add] at h
  have hl : ((xs.drop 1).take (xs.length - 1)).length ≤ xs.length := by rw [List.length_take, List.length_drop]; omega
  cases decide ((xs.length : Int) > 65536) with
  | true => exact Nat.zero_le _
  | false =>
    rw [cond_false]
    cases (xs.length : Int) == 0 with
    | true => exact Nat.zero_le _
    | false =>
      rw [cond_false]
      cases hb : (Sp.cells (((xs.drop 1).take (xs.length - 1)).length + 1) ((xs.drop 1).take (xs.length - 1)) true []).2 with
      | false => exact Nat.zero_le _
      | true =>
        rw [Bool.not_true, cond_false]
        cases ((Sp.cells (((xs.drop 1).take (xs.length - 1)).length + 1) ((xs.drop 1).take (xs.length - 1)) true []).1.length : Int) != IntKind.i64.wrap (xs.getD 0 0) with
        | true => exact Nat.zero_le _
        | false => exact Nat.le_trans h (by omega)
theorem eqV_self (x : V3) : Sp.eqV x x = true := by
  unfold Sp.eqV Sp.f86
  rw [show (x.1 != x.1) = false by simp, show (x.2.1 != x.2.1) = false by simp, beq_self_eq_true]
  rfl
theorem heldV_mark (x : V3) (k : Int) : Sp.heldV (Sp.markV x k) k = true := by
  unfold Sp.heldV Sp.markV
  simp
theorem law9_pre (xs : List Int) (hb : Sp.isBytes xs = true) : Sp.f9_pre xs = true := by
  unfold Sp.f9_pre
  by_cases h : (xs.length : Int) > 1048576
  · rw [decide_eq_true h]; rfl
  · have hf : Sp.fits xs = true := decide_eq_true (by omega)
    have hs : Sp.small xs 1 = true := small_mk (by omega) (by omega)
    have hlen := f43_len xs
    rw [f43_eq hb] at hlen
    have hs2 : Sp.smallW 3 (Sp.f42 xs).1.1 1 = true := smallW_mk (by omega) (by show 1 + _ ≤ _; omega)
    have hs3 : Sp.smallW 3 (Sp.markW Sp.markV 3 (Sp.f42 xs).1.1 1) 1 = true := smallW_mk (by omega) (by rw [markW_len]; show 1 + _ ≤ _; omega)
    rw [f43_eq hb, decide_eq_false h, f42_pre hb, f43_pre hb, hf, hs, hs2, hs3]
    simp
theorem law9 (xs : List Int) (hb : Sp.isBytes xs = true) : (Sp.f9 xs).1 = true := by
  unfold Sp.f9
  rw [f43_eq hb, heldW_mark heldV_mark, eqW_self eqV_self]
  have h1 : decide (Sp.addLen xs (1 : Int) < 0) = false := decide_eq_false (by unfold Sp.addLen; omega)
  have h2 : decide (Sp.addW 3 (Sp.f42 xs).1.1 (1 : Int) < 0) = false := decide_eq_false (by unfold Sp.addW; omega)
  rw [h1, h2, eqL_self]
  cases decide ((xs.length : Int) > 1048576) <;> simp
end Go.Proofs.GR.T
namespace Go.Proofs.GR.T
open Go Go.Proofs Go.Proofs.GR
namespace Sp
def szW {α : Type} (f : α → Int → Int) : List α → Int → Int
  | [], l => l
  | x :: r, l => bif decide (f x l < 0) then -1 else szW f r (f x l)
def szE {α : Type} (f : α → Int → Int) (xs : List α) (l : Int) : Int := bif decide (IntKind.i64.wrap (l - (xs.length : Int)) < 0) then -1 else szW f xs (IntKind.i64.wrap (l - (xs.length : Int)))
def fits32 {α : Type} (xs : List α) : Bool := Nat.ble xs.length 1000000000000
end Sp
theorem fits32_of {α : Type} {xs : List α} (h : Sp.fits32 xs = true) : xs.length ≤ 1000000000000 := Nat.le_of_ble_eq_true h
theorem fits32_mk {α : Type} {xs : List α} (h : xs.length ≤ 1000000000000) : Sp.fits32 xs = true := Nat.ble_eq_true_of_le h
theorem szW_le {α : Type} {f : α → Int → Int} : ∀ (xs : List α) (l : Int), (∀ x ∈ xs, ∀ l, 0 ≤ l → l ≤ 1048576 → f x l ≤ l) → 0 ≤ l → l ≤ 1048576 → Sp.szW f xs l ≤ l
  | [], l, _, _, _ => Int.le_refl _
  | x :: r, l, h, h0, h1 => by
    rw [Sp.szW]
    have h2 := h x (List.mem_cons_self) l h0 h1
    by_cases hc : f x l < 0
    · rw [decide_eq_true hc, cond_true]; omega
    · rw [decide_eq_false hc, cond_false]
      have := szW_le r (f x l) (fun y hy => h y (List.mem_cons_of_mem _ hy)) (by omega) (by omega)
      omega
theorem szE_of {α : Type} {f : α → Int → Int} {xs : List α} {l : Int} (hl : xs.length ≤ 9223372036854775807) (h : ∀ x ∈ xs, ∀ l, 0 ≤ l → l ≤ 1048576 → f x l ≤ l) (h0 : 0 ≤ l) (h1 : l ≤ 1048576) : Sp.szE f xs l ≤ l ∧ (0 ≤ Sp.szE f xs l → xs.length ≤ 1048576) := by
  unfold Sp.szE
  rw [wrap64 (by omega) (by omega)]
  by_cases hc : l - (xs.length : Int) < 0
  · rw [decide_eq_true hc, cond_true]
    exact ⟨by omega, fun h => absurd h (by decide)⟩
  · rw [decide_eq_false hc, cond_false]
    have := szW_le xs (l - xs.length) h (by omega) (by omega)
    exact ⟨by omega, fun _ => by omega⟩
theorem sz_loop {α : Type} {ρ : Type} {f : α → Int → Int} {R : Int → ρ} (xs : List α) (L : Nat → Int → Int → Option ρ)
    (hend : ∀ m (v : Int) (k : Nat), xs.length ≤ k → L (m + 1) v k = some (R v))
    (hstep : ∀ m (v : Int) (k : Nat) (h : k < xs.length), L (m + 1) v k = bif decide (f xs[k] v < 0) then some (R (-1)) else L m (f xs[k] v) ((k + 1 : Nat) : Int)) :
    ∀ (d k m : Nat) (v : Int), k + d = xs.length → d < m → L m v k = some (R (Sp.szW f (xs.drop k) v)) := by
  intro d
  induction d with
  | zero =>
    intro k m v hk hm
    obtain ⟨m, rfl⟩ := succ_of hm
    rw [hend m v k (by omega), List.drop_of_length_le (by omega)]
    rfl
  | succ d ih =>
    intro k m v hk hm
    obtain ⟨m, rfl⟩ := succ_of hm
    rw [hstep m v k (by omega), ih (k + 1) m _ (by omega) (by omega), List.drop_eq_getElem_cons (show k < xs.length by omega), Sp.szW]
    cases decide (f xs[k] v < 0) <;> rfl
theorem to_loop {α : Type} {ρ : Type} {R : List α → ρ} (xs : List α) (L : Nat → Int → List α → Option ρ)
    (hend : ∀ m (k : Nat) acc, xs.length ≤ k → L (m + 1) k acc = some (R acc))
    (hstep : ∀ m (k : Nat) acc (h : k < xs.length), acc.length = xs.length → L (m + 1) k acc = L m ((k + 1 : Nat) : Int) (acc.set k xs[k])) :
    ∀ (d k m : Nat) (acc : List α), k + d = xs.length → acc.length = xs.length → d < m → L m k acc = some (R (acc.take k ++ xs.drop k)) := by
  intro d
  induction d with
  | zero =>
    intro k m acc hk ha hm
    obtain ⟨m, rfl⟩ := succ_of hm
    rw [hend m k acc (by omega), List.drop_of_length_le (by omega), List.take_of_length_le (by omega), List.append_nil]
  | succ d ih =>
    intro k m acc hk ha hm
    obtain ⟨m, rfl⟩ := succ_of hm
    have hlt : k < xs.length := by omega
    rw [hstep m k acc hlt ha, ih (k + 1) m _ (by omega) (by rw [List.length_set]; exact ha) (by omega)]
    have e : (acc.set k xs[k]).take (k + 1) = acc.take k ++ [xs[k]] := by
      rw [List.take_set, List.take_succ_eq_append_getElem (by omega)]
      rw [List.set_append_right _ _ (by simp; omega)]
      simp [Nat.min_eq_left (show k ≤ acc.length by omega)]
    rw [e, List.append_assoc, List.drop_eq_getElem_cons hlt]
    rfl
theorem to_end {α : Type} {ρ : Type} {R : List α → ρ} (xs : List α) (L : Nat → Int → List α → Option ρ)
    (hend : ∀ m (k : Nat) acc, xs.length ≤ k → L (m + 1) k acc = some (R acc))
    (hstep : ∀ m (k : Nat) acc (h : k < xs.length), acc.length = xs.length → L (m + 1) k acc = L m ((k + 1 : Nat) : Int) (acc.set k xs[k])) (z : α) :
    L (xs.length + 1) 0 (List.replicate (xs.length : Int).toNat z) = some (R xs) := by
  have := to_loop xs L hend hstep xs.length 0 (xs.length + 1) (List.replicate (xs.length : Int).toNat z) (Nat.zero_add _) (by rw [List.length_replicate, Int.toNat_natCast]) (Nat.lt_succ_self _)
  rw [List.take_zero, List.drop_zero, List.nil_append, Int.natCast_zero] at this
  exact this
theorem make32 {n : Nat} (h : n ≤ 1000000000000) : (decide ((0 : Int) ≤ (n : Int)) && decide ((n : Int) ≤ (n : Int)) && decide ((n : Int) ≤ (140737488355328 : Int)) && decide ((32 : Int) * (n : Int) ≤ (140737488355328 : Int))) = true := by
  rw [decide_eq_true (show (0 : Int) ≤ n by omega), decide_eq_true (Int.le_refl (n : Int)), decide_eq_true (show (n : Int) ≤ 140737488355328 by omega), decide_eq_true (show 32 * (n : Int) ≤ 140737488355328 by omega)]
  rfl
end Go.Proofs.GR.T
