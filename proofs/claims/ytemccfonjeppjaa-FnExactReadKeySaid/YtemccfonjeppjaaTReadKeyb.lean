/-
  No statement is proved here: what the functions of the law answer, told as plain functions, and that the law's answer is always true.
  No condition.
-/
import Derived.Test.YtemccfonjeppjaaTReadKeya
set_option maxRecDepth 100000
namespace Go.Proofs.GR.T
open Go Go.Proofs Go.Proofs.GR
/-! The text at the beginning of key bytes. -/
def Sp.kt : List Int → List Int → Int → ByteArray × Int
  | [], _, _ => (ByteArray.mk #[], 0)
  | [x], acc, i => (ByteArray.mk #[], 0)
  | x :: y :: r, acc, i => bif x != 0 then Sp.kt (y :: r) (acc ++ [x]) (i + 1) else bif y == 1 then (bytesStr acc, i + 2) else bif y != 255 then (ByteArray.mk #[], 0) else Sp.kt r (acc ++ [0]) (i + 2)
noncomputable def f168_L0 (n m0 : Nat) (y0 : List Int) (y1 : Int) (y2 : List Int) : Option Res := loopAt Γ (orc []) n (168 : Nat) (0 : Nat) [] [Pth.r, Pth.r, Pth.l, Pth.r, Pth.b] m0 (St.mk [Slot.val (Val.one (Cell.dat (Ty.int IntKind.u8).slice y0)), Slot.nix, Slot.nix, Slot.nix, Slot.val (Val.one (Cell.own (0 : Nat))), Slot.val (Val.one (Cell.dat (Ty.int IntKind.i64) y1)), Slot.nix, Slot.nix, Slot.nix, Slot.nix, Slot.nix, Slot.nix, Slot.nix, Slot.nix, Slot.nix, Slot.nix, Slot.nix, Slot.nix, Slot.nix, Slot.nix, Slot.nix, Slot.nix, Slot.nix, Slot.nix, Slot.nix, Slot.nix, Slot.nix, Slot.nix, Slot.nix, Slot.nix, Slot.nix, Slot.nix, Slot.nix, Slot.nix, Slot.nix, Slot.nix, Slot.nix, Slot.nix, Slot.nix, Slot.nix, Slot.nix, Slot.nix, Slot.nix, Slot.nix, Slot.nix, Slot.nix, Slot.nix, Slot.nix, Slot.nix, Slot.nix, Slot.nix] [AObj.row (Ty.int IntKind.u8) y2 true])
theorem f168_L0_step (n m0 : Nat) (y0 : List Int) (y1 : Int) (y2 : List Int) : f168_L0 n (m0 + 1) y0 y1 y2 = bif decide (y1 < (↑y0.length : Int)) then chk (decide ((0 : Int) ≤ y1) && decide (y1 < (↑y0.length : Int))) (bif y0.getD y1.toNat (0 : Int) != (0 : Int) then chk (decide ((0 : Int) ≤ y1) && decide (y1 < (↑y0.length : Int))) (chk (decide ((y2.length + [y0.getD y1.toNat (0 : Int)].length) * (1 : Nat) ≤ (140737488355328 : Nat))) (f168_L0 n m0 y0 (IntKind.i64.wrap (y1 + (1 : Int))) (y2 ++ [y0.getD y1.toNat (0 : Int)]))) else bif IntKind.i64.wrap (y1 + (1 : Int)) == (↑y0.length : Int) then some (Res.mk [XV.mk false [X.c (X0.dat Ty.str (ByteArray.mk #[]))], XV.mk false [X.c (X0.dat (Ty.int IntKind.i64) (0 : Int))]] []) else chk (decide ((0 : Int) ≤ IntKind.i64.wrap (y1 + (1 : Int))) && decide (IntKind.i64.wrap (y1 + (1 : Int)) < (↑y0.length : Int))) (bif y0.getD (IntKind.i64.wrap (y1 + (1 : Int))).toNat (0 : Int) == (1 : Int) then some (Res.mk [XV.mk false [X.c (X0.dat Ty.str (bytesStr y2))], XV.mk false [X.c (X0.dat (Ty.int IntKind.i64) (IntKind.i64.wrap (IntKind.i64.wrap (y1 + (1 : Int)) + (1 : Int))))]] []) else chk (decide ((0 : Int) ≤ IntKind.i64.wrap (y1 + (1 : Int))) && decide (IntKind.i64.wrap (y1 + (1 : Int)) < (↑y0.length : Int))) (bif y0.getD (IntKind.i64.wrap (y1 + (1 : Int))).toNat (0 : Int) != (255 : Int) then some (Res.mk [XV.mk false [X.c (X0.dat Ty.str (ByteArray.mk #[]))], XV.mk false [X.c (X0.dat (Ty.int IntKind.i64) (0 : Int))]] []) else chk (decide ((y2.length + (1 : Nat)) * (1 : Nat) ≤ (140737488355328 : Nat))) (f168_L0 n m0 y0 (IntKind.i64.wrap (IntKind.i64.wrap (y1 + (1 : Int)) + (1 : Int))) (y2 ++ [(0 : Int)]))))) else some (Res.mk [XV.mk false [X.c (X0.dat Ty.str (ByteArray.mk #[]))], XV.mk false [X.c (X0.dat (Ty.int IntKind.i64) (0 : Int))]] []) := by kernel_rfl
theorem f168_raw (n : Nat) (x0 : List Int) : abody Γ (orc []) n 168 [XV.mk false [X.c (X0.dat (Ty.int IntKind.u8).slice x0)]] = f168_L0 n n x0 (0 : Int) [] := by kernel_rfl

noncomputable def e168 : Ent := { f := 168, ins := [Sh.one (cL tB)], outs := [Sh.one cS, Sh.one cI], upd := [], pre := fun a => Sp.mid a, spec := fun a => Sp.kt a [] 0, wrt := fun _ => () }
abbrev rSI (p : ByteArray × Int) : Res := Res.mk [XV.mk false [X.c (X0.dat Ty.str p.1)], XV.mk false [X.c (X0.dat (Ty.int IntKind.i64) p.2)]] []
theorem f168_loop (n : Nat) (xs : List Int) (hl : xs.length ≤ 1048576) : ∀ (d k m : Nat) (acc : List Int), k + d = xs.length → acc.length ≤ k → d < m →
    f168_L0 n m xs (↑k : Int) acc = some (rSI (Sp.kt (xs.drop k) acc k)) := by
  intro d
  induction d using Nat.strongRecOn with
  | _ d ih =>
    intro k m acc hk ha hm
    obtain ⟨m, rfl⟩ := succ_of hm
    rw [f168_L0_step]
    by_cases h0 : k < xs.length
    case neg =>
      rw [decide_eq_false (show ¬ (k : Int) < xs.length by omega), cond_false, List.drop_of_length_le (by omega), Sp.kt]
    have e0 : xs.getD (k : Int).toNat 0 = xs[k] := by rw [Int.toNat_natCast, List.getD, List.getElem?_eq_getElem h0, Option.getD_some]
    rw [decide_eq_true (show (k : Int) < xs.length by omega), cond_true, decide_eq_true (show (0 : Int) ≤ k by omega), e0, Bool.and_self, chkT, wrap64 (n := (k : Int) + 1) (by omega) (by omega), List.drop_eq_getElem_cons h0, chkT]
    rw [decide_eq_true (show (acc.length + [xs[k]].length) * 1 ≤ 140737488355328 by rw [List.length_singleton]; omega), chkT]
    by_cases h1 : k + 1 < xs.length
    · have e1 : xs.getD ((k : Int) + 1).toNat 0 = xs[k + 1] := by rw [show ((k : Int) + 1).toNat = k + 1 by omega, List.getD, List.getElem?_eq_getElem h1, Option.getD_some]
      have hne : (((k : Int) + 1) == (xs.length : Int)) = false := beq_false_of_ne (by omega)
      have d1 := List.drop_eq_getElem_cons h1
      have i1 := ih (d - 1) (by omega) (k + 1) m (acc ++ [xs[k]]) (by omega) (by rw [List.length_append, List.length_singleton]; omega) (by omega)
      have i2 := ih (d - 2) (by omega) (k + 2) m (acc ++ [0]) (by omega) (by rw [List.length_append, List.length_singleton]; omega) (by omega)
      rw [d1] at i1
      rw [d1, Sp.kt, hne, cond_false, decide_eq_true (show (0 : Int) ≤ (k : Int) + 1 by omega), decide_eq_true (show (k : Int) + 1 < xs.length by omega), Bool.and_self, chkT, e1, chkT, wrap64 (n := (k : Int) + 1 + 1) (by omega) (by omega)]
      rw [decide_eq_true (show (acc.length + 1) * 1 ≤ 140737488355328 by omega), chkT]
      rw [show ((k + 1 : Nat) : Int) = (k : Int) + 1 by omega] at i1
      rw [show ((k + 2 : Nat) : Int) = (k : Int) + 1 + 1 by omega] at i2
      rw [i1, i2, show (k : Int) + 2 = (k : Int) + 1 + 1 by omega]
      generalize (xs[k] != (0 : Int)) = b1
      generalize (xs[k + 1] == (1 : Int)) = b2
      generalize (xs[k + 1] != (255 : Int)) = b3
      cases b1 <;> cases b2 <;> cases b3 <;> rfl
    · have hx : xs.drop (k + 1) = [] := List.drop_of_length_le (by omega)
      have he : (((k : Int) + 1) == (xs.length : Int)) = true := beq_iff_eq.2 (by omega)
      have i1 := ih (d - 1) (by omega) (k + 1) m (acc ++ [xs[k]]) (by omega) (by rw [List.length_append, List.length_singleton]; omega) (by omega)
      rw [hx, show ((k + 1 : Nat) : Int) = (k : Int) + 1 by omega, Sp.kt] at i1
      rw [hx, Sp.kt, he, cond_true, i1]
      cases xs[k] != (0 : Int) <;> rfl
theorem e168_core (xs : List Int) (h : Sp.mid xs = true) : ∃ n, abody Γ (orc []) n 168 [XV.mk false [X.c (X0.dat (Ty.int IntKind.u8).slice xs)]] = some (rSI (Sp.kt xs [] 0)) := by
  have := f168_loop (xs.length + 1) xs (mid_of h) xs.length 0 (xs.length + 1) [] (Nat.zero_add _) (Nat.le_refl _) (Nat.lt_succ_self _)
  rw [Int.natCast_zero, List.drop_zero] at this
  exact ⟨xs.length + 1, (f168_raw _ xs).trans this⟩
theorem e168_ok : Valid Try.prog Γ e168 := valid_of ok vnil fun a ha => e168_core a ha
def Sp.f131x_pre (x0 : List Int) (x1 : Bool) : Bool := (decide ((0 : Int) < (↑x0.length : Int)) && (decide ((1 : Int) ≤ (↑x0.length : Int)) && (bif IntKind.i64.wrap (x0.getD (0 : Nat) (0 : Int)) == (0 : Int) then true else (bif IntKind.i64.wrap (x0.getD (0 : Nat) (0 : Int)) == (1 : Int) then (bif decide ((↑(List.take (x0.length - (1 : Nat)) (List.drop (1 : Nat) x0)).length : Int) ≥ (1 : Int)) then decide ((0 : Int) < (↑(List.take (x0.length - (1 : Nat)) (List.drop (1 : Nat) x0)).length : Int)) else (bif IntKind.i64.wrap (x0.getD (0 : Nat) (0 : Int)) == (2 : Int) then (bif decide ((↑(List.take (x0.length - (1 : Nat)) (List.drop (1 : Nat) x0)).length : Int) ≥ (8 : Int)) then (decide ((8 : Int) ≤ (↑(List.take (x0.length - (1 : Nat)) (List.drop (1 : Nat) x0)).length : Int)) && Sp.eight (List.take (8 : Nat) (List.drop (0 : Nat) (List.take (x0.length - (1 : Nat)) (List.drop (1 : Nat) x0))))) else (bif (Sp.f167 (IntKind.i64.wrap (x0.getD (0 : Nat) (0 : Int)))).1 then (bif !x1 then Sp.mid (List.take (x0.length - (1 : Nat)) (List.drop (1 : Nat) x0)) else (bif (Sp.f167 (IntKind.i64.wrap (x0.getD (0 : Nat) (0 : Int)))).1 then (bif decide ((↑(List.take (x0.length - (1 : Nat)) (List.drop (1 : Nat) x0)).length : Int) ≥ (1 : Int)) then (decide ((0 : Int) < (↑(List.take (x0.length - (1 : Nat)) (List.drop (1 : Nat) x0)).length : Int)) && (bif decide ((↑(List.take (x0.length - (1 : Nat)) (List.drop (1 : Nat) x0)).length : Int) > IntKind.i64.wrap ((List.take (x0.length - (1 : Nat)) (List.drop (1 : Nat) x0)).getD (0 : Nat) (0 : Int))) then (decide ((0 : Int) < (↑(List.take (x0.length - (1 : Nat)) (List.drop (1 : Nat) x0)).length : Int)) && (decide ((1 : Int) ≤ IntKind.i64.wrap ((1 : Int) + IntKind.i64.wrap ((List.take (x0.length - (1 : Nat)) (List.drop (1 : Nat) x0)).getD (0 : Nat) (0 : Int)))) && decide (IntKind.i64.wrap ((1 : Int) + IntKind.i64.wrap ((List.take (x0.length - (1 : Nat)) (List.drop (1 : Nat) x0)).getD (0 : Nat) (0 : Int))) ≤ (↑(List.take (x0.length - (1 : Nat)) (List.drop (1 : Nat) x0)).length : Int)) && decide ((0 : Int) < (↑(List.take (x0.length - (1 : Nat)) (List.drop (1 : Nat) x0)).length : Int)))) else true)) else true) else true)) else (bif (Sp.f167 (IntKind.i64.wrap (x0.getD (0 : Nat) (0 : Int)))).1 then (bif decide ((↑(List.take (x0.length - (1 : Nat)) (List.drop (1 : Nat) x0)).length : Int) ≥ (1 : Int)) then (decide ((0 : Int) < (↑(List.take (x0.length - (1 : Nat)) (List.drop (1 : Nat) x0)).length : Int)) && (bif decide ((↑(List.take (x0.length - (1 : Nat)) (List.drop (1 : Nat) x0)).length : Int) > IntKind.i64.wrap ((List.take (x0.length - (1 : Nat)) (List.drop (1 : Nat) x0)).getD (0 : Nat) (0 : Int))) then (decide ((0 : Int) < (↑(List.take (x0.length - (1 : Nat)) (List.drop (1 : Nat) x0)).length : Int)) && (decide ((1 : Int) ≤ IntKind.i64.wrap ((1 : Int) + IntKind.i64.wrap ((List.take (x0.length - (1 : Nat)) (List.drop (1 : Nat) x0)).getD (0 : Nat) (0 : Int)))) && decide (IntKind.i64.wrap ((1 : Int) + IntKind.i64.wrap ((List.take (x0.length - (1 : Nat)) (List.drop (1 : Nat) x0)).getD (0 : Nat) (0 : Int))) ≤ (↑(List.take (x0.length - (1 : Nat)) (List.drop (1 : Nat) x0)).length : Int)) && decide ((0 : Int) < (↑(List.take (x0.length - (1 : Nat)) (List.drop (1 : Nat) x0)).length : Int)))) else true)) else true) else true))) else (bif (Sp.f167 (IntKind.i64.wrap (x0.getD (0 : Nat) (0 : Int)))).1 then (bif !x1 then Sp.mid (List.take (x0.length - (1 : Nat)) (List.drop (1 : Nat) x0)) else (bif (Sp.f167 (IntKind.i64.wrap (x0.getD (0 : Nat) (0 : Int)))).1 then (bif decide ((↑(List.take (x0.length - (1 : Nat)) (List.drop (1 : Nat) x0)).length : Int) ≥ (1 : Int)) then (decide ((0 : Int) < (↑(List.take (x0.length - (1 : Nat)) (List.drop (1 : Nat) x0)).length : Int)) && (bif decide ((↑(List.take (x0.length - (1 : Nat)) (List.drop (1 : Nat) x0)).length : Int) > IntKind.i64.wrap ((List.take (x0.length - (1 : Nat)) (List.drop (1 : Nat) x0)).getD (0 : Nat) (0 : Int))) then (decide ((0 : Int) < (↑(List.take (x0.length - (1 : Nat)) (List.drop (1 : Nat) x0)).length : Int)) && (decide ((1 : Int) ≤ IntKind.i64.wrap ((1 : Int) + IntKind.i64.wrap ((List.take (x0.length - (1 : Nat)) (List.drop (1 : Nat) x0)).getD (0 : Nat) (0 : Int)))) && decide (IntKind.i64.wrap ((1 : Int) + IntKind.i64.wrap ((List.take (x0.length - (1 : Nat)) (List.drop (1 : Nat) x0)).getD (0 : Nat) (0 : Int))) ≤ (↑(List.take (x0.length - (1 : Nat)) (List.drop (1 : Nat) x0)).length : Int)) && decide ((0 : Int) < (↑(List.take (x0.length - (1 : Nat)) (List.drop (1 : Nat) x0)).length : Int)))) else true)) else true) else true)) else (bif (Sp.f167 (IntKind.i64.wrap (x0.getD (0 : Nat) (0 : Int)))).1 then (bif decide ((↑(List.take (x0.length - (1 : Nat)) (List.drop (1 : Nat) x0)).length : Int) ≥ (1 : Int)) then (decide ((0 : Int) < (↑(List.take (x0.length - (1 : Nat)) (List.drop (1 : Nat) x0)).length : Int)) && (bif decide ((↑(List.take (x0.length - (1 : Nat)) (List.drop (1 : Nat) x0)).length : Int) > IntKind.i64.wrap ((List.take (x0.length - (1 : Nat)) (List.drop (1 : Nat) x0)).getD (0 : Nat) (0 : Int))) then (decide ((0 : Int) < (↑(List.take (x0.length - (1 : Nat)) (List.drop (1 : Nat) x0)).length : Int)) && (decide ((1 : Int) ≤ IntKind.i64.wrap ((1 : Int) + IntKind.i64.wrap ((List.take (x0.length - (1 : Nat)) (List.drop (1 : Nat) x0)).getD (0 : Nat) (0 : Int)))) && decide (IntKind.i64.wrap ((1 : Int) + IntKind.i64.wrap ((List.take (x0.length - (1 : Nat)) (List.drop (1 : Nat) x0)).getD (0 : Nat) (0 : Int))) ≤ (↑(List.take (x0.length - (1 : Nat)) (List.drop (1 : Nat) x0)).length : Int)) && decide ((0 : Int) < (↑(List.take (x0.length - (1 : Nat)) (List.drop (1 : Nat) x0)).length : Int)))) else true)) else true) else true)))) else (bif IntKind.i64.wrap (x0.getD (0 : Nat) (0 : Int)) == (2 : Int) then (bif decide ((↑(List.take (x0.length - (1 : Nat)) (List.drop (1 : Nat) x0)).length : Int) ≥ (8 : Int)) then (decide ((8 : Int) ≤ (↑(List.take (x0.length - (1 : Nat)) (List.drop (1 : Nat) x0)).length : Int)) && Sp.eight (List.take (8 : Nat) (List.drop (0 : Nat) (List.take (x0.length - (1 : Nat)) (List.drop (1 : Nat) x0))))) else (bif (Sp.f167 (IntKind.i64.wrap (x0.getD (0 : Nat) (0 : Int)))).1 then (bif !x1 then Sp.mid (List.take (x0.length - (1 : Nat)) (List.drop (1 : Nat) x0)) else (bif (Sp.f167 (IntKind.i64.wrap (x0.getD (0 : Nat) (0 : Int)))).1 then (bif decide ((↑(List.take (x0.length - (1 : Nat)) (List.drop (1 : Nat) x0)).length : Int) ≥ (1 : Int)) then (decide ((0 : Int) < (↑(List.take (x0.length - (1 : Nat)) (List.drop (1 : Nat) x0)).length : Int)) && (bif decide ((↑(List.take (x0.length - (1 : Nat)) (List.drop (1 : Nat) x0)).length : Int) > IntKind.i64.wrap ((List.take (x0.length - (1 : Nat)) (List.drop (1 : Nat) x0)).getD (0 : Nat) (0 : Int))) then (decide ((0 : Int) < (↑(List.take (x0.length - (1 : Nat)) (List.drop (1 : Nat) x0)).length : Int)) && (decide ((1 : Int) ≤ IntKind.i64.wrap ((1 : Int) + IntKind.i64.wrap ((List.take (x0.length - (1 : Nat)) (List.drop (1 : Nat) x0)).getD (0 : Nat) (0 : Int)))) && decide (IntKind.i64.wrap ((1 : Int) + IntKind.i64.wrap ((List.take (x0.length - (1 : Nat)) (List.drop (1 : Nat) x0)).getD (0 : Nat) (0 : Int))) ≤ (↑(List.take (x0.length - (1 : Nat)) (List.drop (1 : Nat) x0)).length : Int)) && decide ((0 : Int) < (↑(List.take (x0.length - (1 : Nat)) (List.drop (1 : Nat) x0)).length : Int)))) else true)) else true) else true)) else (bif (Sp.f167 (IntKind.i64.wrap (x0.getD (0 : Nat) (0 : Int)))).1 then (bif decide ((↑(List.take (x0.length - (1 : Nat)) (List.drop (1 : Nat) x0)).length : Int) ≥ (1 : Int)) then (decide ((0 : Int) < (↑(List.take (x0.length - (1 : Nat)) (List.drop (1 : Nat) x0)).length : Int)) && (bif decide ((↑(List.take (x0.length - (1 : Nat)) (List.drop (1 : Nat) x0)).length : Int) > IntKind.i64.wrap ((List.take (x0.length - (1 : Nat)) (List.drop (1 : Nat) x0)).getD (0 : Nat) (0 : Int))) then (decide ((0 : Int) < (↑(List.take (x0.length - (1 : Nat)) (List.drop (1 : Nat) x0)).length : Int)) && (decide ((1 : Int) ≤ IntKind.i64.wrap ((1 : Int) + IntKind.i64.wrap ((List.take (x0.length - (1 : Nat)) (List.drop (1 : Nat) x0)).getD (0 : Nat) (0 : Int)))) && decide (IntKind.i64.wrap ((1 : Int) + IntKind.i64.wrap ((List.take (x0.length - (1 : Nat)) (List.drop (1 : Nat) x0)).getD (0 : Nat) (0 : Int))) ≤ (↑(List.take (x0.length - (1 : Nat)) (List.drop (1 : Nat) x0)).length : Int)) && decide ((0 : Int) < (↑(List.take (x0.length - (1 : Nat)) (List.drop (1 : Nat) x0)).length : Int)))) else true)) else true) else true))) else (bif (Sp.f167 (IntKind.i64.wrap (x0.getD (0 : Nat) (0 : Int)))).1 then (bif !x1 then Sp.mid (List.take (x0.length - (1 : Nat)) (List.drop (1 : Nat) x0)) else (bif (Sp.f167 (IntKind.i64.wrap (x0.getD (0 : Nat) (0 : Int)))).1 then (bif decide ((↑(List.take (x0.length - (1 : Nat)) (List.drop (1 : Nat) x0)).length : Int) ≥ (1 : Int)) then (decide ((0 : Int) < (↑(List.take (x0.length - (1 : Nat)) (List.drop (1 : Nat) x0)).length : Int)) && (bif decide ((↑(List.take (x0.length - (1 : Nat)) (List.drop (1 : Nat) x0)).length : Int) > IntKind.i64.wrap ((List.take (x0.length - (1 : Nat)) (List.drop (1 : Nat) x0)).getD (0 : Nat) (0 : Int))) then (decide ((0 : Int) < (↑(List.take (x0.length - (1 : Nat)) (List.drop (1 : Nat) x0)).length : Int)) && (decide ((1 : Int) ≤ IntKind.i64.wrap ((1 : Int) + IntKind.i64.wrap ((List.take (x0.length - (1 : Nat)) (List.drop (1 : Nat) x0)).getD (0 : Nat) (0 : Int)))) && decide (IntKind.i64.wrap ((1 : Int) + IntKind.i64.wrap ((List.take (x0.length - (1 : Nat)) (List.drop (1 : Nat) x0)).getD (0 : Nat) (0 : Int))) ≤ (↑(List.take (x0.length - (1 : Nat)) (List.drop (1 : Nat) x0)).length : Int)) && decide ((0 : Int) < (↑(List.take (x0.length - (1 : Nat)) (List.drop (1 : Nat) x0)).length : Int)))) else true)) else true) else true)) else (bif (Sp.f167 (IntKind.i64.wrap (x0.getD (0 : Nat) (0 : Int)))).1 then (bif decide ((↑(List.take (x0.length - (1 : Nat)) (List.drop (1 : Nat) x0)).length : Int) ≥ (1 : Int)) then (decide ((0 : Int) < (↑(List.take (x0.length - (1 : Nat)) (List.drop (1 : Nat) x0)).length : Int)) && (bif decide ((↑(List.take (x0.length - (1 : Nat)) (List.drop (1 : Nat) x0)).length : Int) > IntKind.i64.wrap ((List.take (x0.length - (1 : Nat)) (List.drop (1 : Nat) x0)).getD (0 : Nat) (0 : Int))) then (decide ((0 : Int) < (↑(List.take (x0.length - (1 : Nat)) (List.drop (1 : Nat) x0)).length : Int)) && (decide ((1 : Int) ≤ IntKind.i64.wrap ((1 : Int) + IntKind.i64.wrap ((List.take (x0.length - (1 : Nat)) (List.drop (1 : Nat) x0)).getD (0 : Nat) (0 : Int)))) && decide (IntKind.i64.wrap ((1 : Int) + IntKind.i64.wrap ((List.take (x0.length - (1 : Nat)) (List.drop (1 : Nat) x0)).getD (0 : Nat) (0 : Int))) ≤ (↑(List.take (x0.length - (1 : Nat)) (List.drop (1 : Nat) x0)).length : Int)) && decide ((0 : Int) < (↑(List.take (x0.length - (1 : Nat)) (List.drop (1 : Nat) x0)).length : Int)))) else true)) else true) else true)))))))
def Sp.f131x (x0 : List Int) (x1 : Bool) := (bif IntKind.i64.wrap (x0.getD (0 : Nat) (0 : Int)) == (0 : Int) then (((IntKind.i64.wrap (x0.getD (0 : Nat) (0 : Int)), (0 : Int), ByteArray.empty), (1 : Int)), ()) else (bif IntKind.i64.wrap (x0.getD (0 : Nat) (0 : Int)) == (1 : Int) then (bif decide ((↑(List.take (x0.length - (1 : Nat)) (List.drop (1 : Nat) x0)).length : Int) ≥ (1 : Int)) then (((IntKind.i64.wrap (x0.getD (0 : Nat) (0 : Int)), IntKind.i64.wrap ((List.take (x0.length - (1 : Nat)) (List.drop (1 : Nat) x0)).getD (0 : Nat) (0 : Int)), ByteArray.empty), (2 : Int)), ()) else (bif IntKind.i64.wrap (x0.getD (0 : Nat) (0 : Int)) == (2 : Int) then (bif decide ((↑(List.take (x0.length - (1 : Nat)) (List.drop (1 : Nat) x0)).length : Int) ≥ (8 : Int)) then (((IntKind.i64.wrap (x0.getD (0 : Nat) (0 : Int)), IntKind.i64.wrap (IntKind.u64.wrap (↑(BitVec.ofInt (64 : Nat) (↑(Sp.num (0 : Nat) (List.take (8 : Nat) (List.drop (0 : Nat) (List.take (x0.length - (1 : Nat)) (List.drop (1 : Nat) x0))))) : Int) ^^^ BitVec.ofInt (64 : Nat) (9223372036854775808 : Int)).toNat : Int)), ByteArray.empty), (9 : Int)), ()) else (bif (Sp.f167 (IntKind.i64.wrap (x0.getD (0 : Nat) (0 : Int)))).1 then (bif !x1 then (bif decide ((Sp.kt (List.take (x0.length - (1 : Nat)) (List.drop (1 : Nat) x0)) [] (0 : Int)).2 > (0 : Int)) then (((IntKind.i64.wrap (x0.getD (0 : Nat) (0 : Int)), (0 : Int), (Sp.kt (List.take (x0.length - (1 : Nat)) (List.drop (1 : Nat) x0)) [] (0 : Int)).1), IntKind.i64.wrap ((Sp.kt (List.take (x0.length - (1 : Nat)) (List.drop (1 : Nat) x0)) [] (0 : Int)).2 + (1 : Int))), ()) else ((((0 : Int), (0 : Int), ByteArray.empty), (0 : Int)), ())) else (bif (Sp.f167 (IntKind.i64.wrap (x0.getD (0 : Nat) (0 : Int)))).1 then (bif decide ((↑(List.take (x0.length - (1 : Nat)) (List.drop (1 : Nat) x0)).length : Int) ≥ (1 : Int)) then (bif decide ((↑(List.take (x0.length - (1 : Nat)) (List.drop (1 : Nat) x0)).length : Int) > IntKind.i64.wrap ((List.take (x0.length - (1 : Nat)) (List.drop (1 : Nat) x0)).getD (0 : Nat) (0 : Int))) then (((IntKind.i64.wrap (x0.getD (0 : Nat) (0 : Int)), (0 : Int), bytesStr (List.take ((IntKind.i64.wrap ((1 : Int) + IntKind.i64.wrap ((List.take (x0.length - (1 : Nat)) (List.drop (1 : Nat) x0)).getD (0 : Nat) (0 : Int)))).toNat - (1 : Nat)) (List.drop (1 : Nat) (List.take (x0.length - (1 : Nat)) (List.drop (1 : Nat) x0))))), IntKind.i64.wrap ((2 : Int) + IntKind.i64.wrap ((List.take (x0.length - (1 : Nat)) (List.drop (1 : Nat) x0)).getD (0 : Nat) (0 : Int)))), ()) else ((((0 : Int), (0 : Int), ByteArray.empty), (0 : Int)), ())) else ((((0 : Int), (0 : Int), ByteArray.empty), (0 : Int)), ())) else ((((0 : Int), (0 : Int), ByteArray.empty), (0 : Int)), ()))) else (bif (Sp.f167 (IntKind.i64.wrap (x0.getD (0 : Nat) (0 : Int)))).1 then (bif decide ((↑(List.take (x0.length - (1 : Nat)) (List.drop (1 : Nat) x0)).length : Int) ≥ (1 : Int)) then (bif decide ((↑(List.take (x0.length - (1 : Nat)) (List.drop (1 : Nat) x0)).length : Int) > IntKind.i64.wrap ((List.take (x0.length - (1 : Nat)) (List.drop (1 : Nat) x0)).getD (0 : Nat) (0 : Int))) then (((IntKind.i64.wrap (x0.getD (0 : Nat) (0 : Int)), (0 : Int), bytesStr (List.take ((IntKind.i64.wrap ((1 : Int) + IntKind.i64.wrap ((List.take (x0.length - (1 : Nat)) (List.drop (1 : Nat) x0)).getD (0 : Nat) (0 : Int)))).toNat - (1 : Nat)) (List.drop (1 : Nat) (List.take (x0.length - (1 : Nat)) (List.drop (1 : Nat) x0))))), IntKind.i64.wrap ((2 : Int) + IntKind.i64.wrap ((List.take (x0.length - (1 : Nat)) (List.drop (1 : Nat) x0)).getD (0 : Nat) (0 : Int)))), ()) else ((((0 : Int), (0 : Int), ByteArray.empty), (0 : Int)), ())) else ((((0 : Int), (0 : Int), ByteArray.empty), (0 : Int)), ())) else ((((0 : Int), (0 : Int), ByteArray.empty), (0 : Int)), ())))) else (bif (Sp.f167 (IntKind.i64.wrap (x0.getD (0 : Nat) (0 : Int)))).1 then (bif !x1 then (bif decide ((Sp.kt (List.take (x0.length - (1 : Nat)) (List.drop (1 : Nat) x0)) [] (0 : Int)).2 > (0 : Int)) then (((IntKind.i64.wrap (x0.getD (0 : Nat) (0 : Int)), (0 : Int), (Sp.kt (List.take (x0.length - (1 : Nat)) (List.drop (1 : Nat) x0)) [] (0 : Int)).1), IntKind.i64.wrap ((Sp.kt (List.take (x0.length - (1 : Nat)) (List.drop (1 : Nat) x0)) [] (0 : Int)).2 + (1 : Int))), ()) else ((((0 : Int), (0 : Int), ByteArray.empty), (0 : Int)), ())) else (bif (Sp.f167 (IntKind.i64.wrap (x0.getD (0 : Nat) (0 : Int)))).1 then (bif decide ((↑(List.take (x0.length - (1 : Nat)) (List.drop (1 : Nat) x0)).length : Int) ≥ (1 : Int)) then (bif decide ((↑(List.take (x0.length - (1 : Nat)) (List.drop (1 : Nat) x0)).length : Int) > IntKind.i64.wrap ((List.take (x0.length - (1 : Nat)) (List.drop (1 : Nat) x0)).getD (0 : Nat) (0 : Int))) then (((IntKind.i64.wrap (x0.getD (0 : Nat) (0 : Int)), (0 : Int), bytesStr (List.take ((IntKind.i64.wrap ((1 : Int) + IntKind.i64.wrap ((List.take (x0.length - (1 : Nat)) (List.drop (1 : Nat) x0)).getD (0 : Nat) (0 : Int)))).toNat - (1 : Nat)) (List.drop (1 : Nat) (List.take (x0.length - (1 : Nat)) (List.drop (1 : Nat) x0))))), IntKind.i64.wrap ((2 : Int) + IntKind.i64.wrap ((List.take (x0.length - (1 : Nat)) (List.drop (1 : Nat) x0)).getD (0 : Nat) (0 : Int)))), ()) else ((((0 : Int), (0 : Int), ByteArray.empty), (0 : Int)), ())) else ((((0 : Int), (0 : Int), ByteArray.empty), (0 : Int)), ())) else ((((0 : Int), (0 : Int), ByteArray.empty), (0 : Int)), ()))) else (bif (Sp.f167 (IntKind.i64.wrap (x0.getD (0 : Nat) (0 : Int)))).1 then (bif decide ((↑(List.take (x0.length - (1 : Nat)) (List.drop (1 : Nat) x0)).length : Int) ≥ (1 : Int)) then (bif decide ((↑(List.take (x0.length - (1 : Nat)) (List.drop (1 : Nat) x0)).length : Int) > IntKind.i64.wrap ((List.take (x0.length - (1 : Nat)) (List.drop (1 : Nat) x0)).getD (0 : Nat) (0 : Int))) then (((IntKind.i64.wrap (x0.getD (0 : Nat) (0 : Int)), (0 : Int), bytesStr (List.take ((IntKind.i64.wrap ((1 : Int) + IntKind.i64.wrap ((List.take (x0.length - (1 : Nat)) (List.drop (1 : Nat) x0)).getD (0 : Nat) (0 : Int)))).toNat - (1 : Nat)) (List.drop (1 : Nat) (List.take (x0.length - (1 : Nat)) (List.drop (1 : Nat) x0))))), IntKind.i64.wrap ((2 : Int) + IntKind.i64.wrap ((List.take (x0.length - (1 : Nat)) (List.drop (1 : Nat) x0)).getD (0 : Nat) (0 : Int)))), ()) else ((((0 : Int), (0 : Int), ByteArray.empty), (0 : Int)), ())) else ((((0 : Int), (0 : Int), ByteArray.empty), (0 : Int)), ())) else ((((0 : Int), (0 : Int), ByteArray.empty), (0 : Int)), ()))))) else (bif IntKind.i64.wrap (x0.getD (0 : Nat) (0 : Int)) == (2 : Int) then (bif decide ((↑(List.take (x0.length - (1 : Nat)) (List.drop (1 : Nat) x0)).length : Int) ≥ (8 : Int)) then (((IntKind.i64.wrap (x0.getD (0 : Nat) (0 : Int)), IntKind.i64.wrap (IntKind.u64.wrap (↑(BitVec.ofInt (64 : Nat) (↑(Sp.num (0 : Nat) (List.take (8 : Nat) (List.drop (0 : Nat) (List.take (x0.length - (1 : Nat)) (List.drop (1 : Nat) x0))))) : Int) ^^^ BitVec.ofInt (64 : Nat) (9223372036854775808 : Int)).toNat : Int)), ByteArray.empty), (9 : Int)), ()) else (bif (Sp.f167 (IntKind.i64.wrap (x0.getD (0 : Nat) (0 : Int)))).1 then (bif !x1 then (bif decide ((Sp.kt (List.take (x0.length - (1 : Nat)) (List.drop (1 : Nat) x0)) [] (0 : Int)).2 > (0 : Int)) then (((IntKind.i64.wrap (x0.getD (0 : Nat) (0 : Int)), (0 : Int), (Sp.kt (List.take (x0.length - (1 : Nat)) (List.drop (1 : Nat) x0)) [] (0 : Int)).1), IntKind.i64.wrap ((Sp.kt (List.take (x0.length - (1 : Nat)) (List.drop (1 : Nat) x0)) [] (0 : Int)).2 + (1 : Int))), ()) else ((((0 : Int), (0 : Int), ByteArray.empty), (0 : Int)), ())) else (bif (Sp.f167 (IntKind.i64.wrap (x0.getD (0 : Nat) (0 : Int)))).1 then (bif decide ((↑(List.take (x0.length - (1 : Nat)) (List.drop (1 : Nat) x0)).length : Int) ≥ (1 : Int)) then (bif decide ((↑(List.take (x0.length - (1 : Nat)) (List.drop (1 : Nat) x0)).length : Int) > IntKind.i64.wrap ((List.take (x0.length - (1 : Nat)) (List.drop (1 : Nat) x0)).getD (0 : Nat) (0 : Int))) then (((IntKind.i64.wrap (x0.getD (0 : Nat) (0 : Int)), (0 : Int), bytesStr (List.take ((IntKind.i64.wrap ((1 : Int) + IntKind.i64.wrap ((List.take (x0.length - (1 : Nat)) (List.drop (1 : Nat) x0)).getD (0 : Nat) (0 : Int)))).toNat - (1 : Nat)) (List.drop (1 : Nat) (List.take (x0.length - (1 : Nat)) (List.drop (1 : Nat) x0))))), IntKind.i64.wrap ((2 : Int) + IntKind.i64.wrap ((List.take (x0.length - (1 : Nat)) (List.drop (1 : Nat) x0)).getD (0 : Nat) (0 : Int)))), ()) else ((((0 : Int), (0 : Int), ByteArray.empty), (0 : Int)), ())) else ((((0 : Int), (0 : Int), ByteArray.empty), (0 : Int)), ())) else ((((0 : Int), (0 : Int), ByteArray.empty), (0 : Int)), ()))) else (bif (Sp.f167 (IntKind.i64.wrap (x0.getD (0 : Nat) (0 : Int)))).1 then (bif decide ((↑(List.take (x0.length - (1 : Nat)) (List.drop (1 : Nat) x0)).length : Int) ≥ (1 : Int)) then (bif decide ((↑(List.take (x0.length - (1 : Nat)) (List.drop (1 : Nat) x0)).length : Int) > IntKind.i64.wrap ((List.take (x0.length - (1 : Nat)) (List.drop (1 : Nat) x0)).getD (0 : Nat) (0 : Int))) then (((IntKind.i64.wrap (x0.getD (0 : Nat) (0 : Int)), (0 : Int), bytesStr (List.take ((IntKind.i64.wrap ((1 : Int) + IntKind.i64.wrap ((List.take (x0.length - (1 : Nat)) (List.drop (1 : Nat) x0)).getD (0 : Nat) (0 : Int)))).toNat - (1 : Nat)) (List.drop (1 : Nat) (List.take (x0.length - (1 : Nat)) (List.drop (1 : Nat) x0))))), IntKind.i64.wrap ((2 : Int) + IntKind.i64.wrap ((List.take (x0.length - (1 : Nat)) (List.drop (1 : Nat) x0)).getD (0 : Nat) (0 : Int)))), ()) else ((((0 : Int), (0 : Int), ByteArray.empty), (0 : Int)), ())) else ((((0 : Int), (0 : Int), ByteArray.empty), (0 : Int)), ())) else ((((0 : Int), (0 : Int), ByteArray.empty), (0 : Int)), ())))) else (bif (Sp.f167 (IntKind.i64.wrap (x0.getD (0 : Nat) (0 : Int)))).1 then (bif !x1 then (bif decide ((Sp.kt (List.take (x0.length - (1 : Nat)) (List.drop (1 : Nat) x0)) [] (0 : Int)).2 > (0 : Int)) then (((IntKind.i64.wrap (x0.getD (0 : Nat) (0 : Int)), (0 : Int), (Sp.kt (List.take (x0.length - (1 : Nat)) (List.drop (1 : Nat) x0)) [] (0 : Int)).1), IntKind.i64.wrap ((Sp.kt (List.take (x0.length - (1 : Nat)) (List.drop (1 : Nat) x0)) [] (0 : Int)).2 + (1 : Int))), ()) else ((((0 : Int), (0 : Int), ByteArray.empty), (0 : Int)), ())) else (bif (Sp.f167 (IntKind.i64.wrap (x0.getD (0 : Nat) (0 : Int)))).1 then (bif decide ((↑(List.take (x0.length - (1 : Nat)) (List.drop (1 : Nat) x0)).length : Int) ≥ (1 : Int)) then (bif decide ((↑(List.take (x0.length - (1 : Nat)) (List.drop (1 : Nat) x0)).length : Int) > IntKind.i64.wrap ((List.take (x0.length - (1 : Nat)) (List.drop (1 : Nat) x0)).getD (0 : Nat) (0 : Int))) then (((IntKind.i64.wrap (x0.getD (0 : Nat) (0 : Int)), (0 : Int), bytesStr (List.take ((IntKind.i64.wrap ((1 : Int) + IntKind.i64.wrap ((List.take (x0.length - (1 : Nat)) (List.drop (1 : Nat) x0)).getD (0 : Nat) (0 : Int)))).toNat - (1 : Nat)) (List.drop (1 : Nat) (List.take (x0.length - (1 : Nat)) (List.drop (1 : Nat) x0))))), IntKind.i64.wrap ((2 : Int) + IntKind.i64.wrap ((List.take (x0.length - (1 : Nat)) (List.drop (1 : Nat) x0)).getD (0 : Nat) (0 : Int)))), ()) else ((((0 : Int), (0 : Int), ByteArray.empty), (0 : Int)), ())) else ((((0 : Int), (0 : Int), ByteArray.empty), (0 : Int)), ())) else ((((0 : Int), (0 : Int), ByteArray.empty), (0 : Int)), ()))) else (bif (Sp.f167 (IntKind.i64.wrap (x0.getD (0 : Nat) (0 : Int)))).1 then (bif decide ((↑(List.take (x0.length - (1 : Nat)) (List.drop (1 : Nat) x0)).length : Int) ≥ (1 : Int)) then (bif decide ((↑(List.take (x0.length - (1 : Nat)) (List.drop (1 : Nat) x0)).length : Int) > IntKind.i64.wrap ((List.take (x0.length - (1 : Nat)) (List.drop (1 : Nat) x0)).getD (0 : Nat) (0 : Int))) then (((IntKind.i64.wrap (x0.getD (0 : Nat) (0 : Int)), (0 : Int), bytesStr (List.take ((IntKind.i64.wrap ((1 : Int) + IntKind.i64.wrap ((List.take (x0.length - (1 : Nat)) (List.drop (1 : Nat) x0)).getD (0 : Nat) (0 : Int)))).toNat - (1 : Nat)) (List.drop (1 : Nat) (List.take (x0.length - (1 : Nat)) (List.drop (1 : Nat) x0))))), IntKind.i64.wrap ((2 : Int) + IntKind.i64.wrap ((List.take (x0.length - (1 : Nat)) (List.drop (1 : Nat) x0)).getD (0 : Nat) (0 : Int)))), ()) else ((((0 : Int), (0 : Int), ByteArray.empty), (0 : Int)), ())) else ((((0 : Int), (0 : Int), ByteArray.empty), (0 : Int)), ())) else ((((0 : Int), (0 : Int), ByteArray.empty), (0 : Int)), ()))))))
noncomputable def e131x : Ent := { f := 131, ins := [Sh.one (C0.dat (Ty.int IntKind.u8).slice), Sh.one (C0.dat Ty.bool)], outs := [Sh.agg [C0.dat (Ty.int IntKind.i64), C0.dat (Ty.int IntKind.i64), C0.dat Ty.str], Sh.one (C0.dat (Ty.int IntKind.i64))], upd := [], pre := fun a => Sp.f131x_pre a.1 a.2, spec := fun a => (Sp.f131x a.1 a.2).1, wrt := fun a => (Sp.f131x a.1 a.2).2 }
def f131x_g (v : denS [Sh.agg [C0.dat (Ty.int IntKind.i64), C0.dat (Ty.int IntKind.i64), C0.dat Ty.str], Sh.one (C0.dat (Ty.int IntKind.i64))] × denS []) : Res := ⟨mkS [Sh.agg [C0.dat (Ty.int IntKind.i64), C0.dat (Ty.int IntKind.i64), C0.dat Ty.str], Sh.one (C0.dat (Ty.int IntKind.i64))] v.1, mkU [] v.2⟩
theorem f131x_raw (x0 : List Int) (x1 : Bool) : abody Γ (orc [e77, e167, e168]) 0 131 [XV.mk false [X.c (X0.dat (Ty.int IntKind.u8).slice x0)], XV.mk false [X.c (X0.dat Ty.bool x1)]] = chk (decide ((0 : Int) < (↑x0.length : Int))) (chk (decide ((1 : Int) ≤ (↑x0.length : Int))) (bif IntKind.i64.wrap (x0.getD (0 : Nat) (0 : Int)) == (0 : Int) then some (Res.mk [XV.mk true [X.c (X0.dat (Ty.int IntKind.i64) (IntKind.i64.wrap (x0.getD (0 : Nat) (0 : Int)))), X.c (X0.dat (Ty.int IntKind.i64) (0 : Int)), X.c (X0.dat Ty.str ByteArray.empty)], XV.mk false [X.c (X0.dat (Ty.int IntKind.i64) (1 : Int))]] []) else bif IntKind.i64.wrap (x0.getD (0 : Nat) (0 : Int)) == (1 : Int) then bif decide ((↑(List.take (x0.length - (1 : Nat)) (List.drop (1 : Nat) x0)).length : Int) ≥ (1 : Int)) then chk (decide ((0 : Int) < (↑(List.take (x0.length - (1 : Nat)) (List.drop (1 : Nat) x0)).length : Int))) (some (Res.mk [XV.mk true [X.c (X0.dat (Ty.int IntKind.i64) (IntKind.i64.wrap (x0.getD (0 : Nat) (0 : Int)))), X.c (X0.dat (Ty.int IntKind.i64) (IntKind.i64.wrap ((List.take (x0.length - (1 : Nat)) (List.drop (1 : Nat) x0)).getD (0 : Nat) (0 : Int)))), X.c (X0.dat Ty.str ByteArray.empty)], XV.mk false [X.c (X0.dat (Ty.int IntKind.i64) (2 : Int))]] [])) else bif IntKind.i64.wrap (x0.getD (0 : Nat) (0 : Int)) == (2 : Int) then bif decide ((↑(List.take (x0.length - (1 : Nat)) (List.drop (1 : Nat) x0)).length : Int) ≥ (8 : Int)) then chk (decide ((8 : Int) ≤ (↑(List.take (x0.length - (1 : Nat)) (List.drop (1 : Nat) x0)).length : Int))) (chk (Sp.eight (List.take (8 : Nat) (List.drop (0 : Nat) (List.take (x0.length - (1 : Nat)) (List.drop (1 : Nat) x0))))) (some (Res.mk [XV.mk true [X.c (X0.dat (Ty.int IntKind.i64) (IntKind.i64.wrap (x0.getD (0 : Nat) (0 : Int)))), X.c (X0.dat (Ty.int IntKind.i64) (IntKind.i64.wrap (IntKind.u64.wrap (↑(BitVec.ofInt (64 : Nat) (↑(Sp.num (0 : Nat) (List.take (8 : Nat) (List.drop (0 : Nat) (List.take (x0.length - (1 : Nat)) (List.drop (1 : Nat) x0))))) : Int) ^^^ BitVec.ofInt (64 : Nat) (9223372036854775808 : Int)).toNat : Int)))), X.c (X0.dat Ty.str ByteArray.empty)], XV.mk false [X.c (X0.dat (Ty.int IntKind.i64) (9 : Int))]] []))) else bif (Sp.f167 (IntKind.i64.wrap (x0.getD (0 : Nat) (0 : Int)))).1 then bif !x1 then chk (Sp.mid (List.take (x0.length - (1 : Nat)) (List.drop (1 : Nat) x0))) (bif decide ((Sp.kt (List.take (x0.length - (1 : Nat)) (List.drop (1 : Nat) x0)) [] (0 : Int)).2 > (0 : Int)) then some (Res.mk [XV.mk true [X.c (X0.dat (Ty.int IntKind.i64) (IntKind.i64.wrap (x0.getD (0 : Nat) (0 : Int)))), X.c (X0.dat (Ty.int IntKind.i64) (0 : Int)), X.c (X0.dat Ty.str (Sp.kt (List.take (x0.length - (1 : Nat)) (List.drop (1 : Nat) x0)) [] (0 : Int)).1)], XV.mk false [X.c (X0.dat (Ty.int IntKind.i64) (IntKind.i64.wrap ((Sp.kt (List.take (x0.length - (1 : Nat)) (List.drop (1 : Nat) x0)) [] (0 : Int)).2 + (1 : Int))))]] []) else some (Res.mk [XV.mk true [X.c (X0.dat (Ty.int IntKind.i64) (0 : Int)), X.c (X0.dat (Ty.int IntKind.i64) (0 : Int)), X.c (X0.dat Ty.str ByteArray.empty)], XV.mk false [X.c (X0.dat (Ty.int IntKind.i64) (0 : Int))]] [])) else bif (Sp.f167 (IntKind.i64.wrap (x0.getD (0 : Nat) (0 : Int)))).1 then bif decide ((↑(List.take (x0.length - (1 : Nat)) (List.drop (1 : Nat) x0)).length : Int) ≥ (1 : Int)) then chk (decide ((0 : Int) < (↑(List.take (x0.length - (1 : Nat)) (List.drop (1 : Nat) x0)).length : Int))) (bif decide ((↑(List.take (x0.length - (1 : Nat)) (List.drop (1 : Nat) x0)).length : Int) > IntKind.i64.wrap ((List.take (x0.length - (1 : Nat)) (List.drop (1 : Nat) x0)).getD (0 : Nat) (0 : Int))) then chk (decide ((0 : Int) < (↑(List.take (x0.length - (1 : Nat)) (List.drop (1 : Nat) x0)).length : Int))) (chk (decide ((1 : Int) ≤ IntKind.i64.wrap ((1 : Int) + IntKind.i64.wrap ((List.take (x0.length - (1 : Nat)) (List.drop (1 : Nat) x0)).getD (0 : Nat) (0 : Int)))) && decide (IntKind.i64.wrap ((1 : Int) + IntKind.i64.wrap ((List.take (x0.length - (1 : Nat)) (List.drop (1 : Nat) x0)).getD (0 : Nat) (0 : Int))) ≤ (↑(List.take (x0.length - (1 : Nat)) (List.drop (1 : Nat) x0)).length : Int))) (chk (decide ((0 : Int) < (↑(List.take (x0.length - (1 : Nat)) (List.drop (1 : Nat) x0)).length : Int))) (some (Res.mk [XV.mk true [X.c (X0.dat (Ty.int IntKind.i64) (IntKind.i64.wrap (x0.getD (0 : Nat) (0 : Int)))), X.c (X0.dat (Ty.int IntKind.i64) (0 : Int)), X.c (X0.dat Ty.str (bytesStr (List.take ((IntKind.i64.wrap ((1 : Int) + IntKind.i64.wrap ((List.take (x0.length - (1 : Nat)) (List.drop (1 : Nat) x0)).getD (0 : Nat) (0 : Int)))).toNat - (1 : Nat)) (List.drop (1 : Nat) (List.take (x0.length - (1 : Nat)) (List.drop (1 : Nat) x0))))))], XV.mk false [X.c (X0.dat (Ty.int IntKind.i64) (IntKind.i64.wrap ((2 : Int) + IntKind.i64.wrap ((List.take (x0.length - (1 : Nat)) (List.drop (1 : Nat) x0)).getD (0 : Nat) (0 : Int)))))]] [])))) else some (Res.mk [XV.mk true [X.c (X0.dat (Ty.int IntKind.i64) (0 : Int)), X.c (X0.dat (Ty.int IntKind.i64) (0 : Int)), X.c (X0.dat Ty.str ByteArray.empty)], XV.mk false [X.c (X0.dat (Ty.int IntKind.i64) (0 : Int))]] [])) else some (Res.mk [XV.mk true [X.c (X0.dat (Ty.int IntKind.i64) (0 : Int)), X.c (X0.dat (Ty.int IntKind.i64) (0 : Int)), X.c (X0.dat Ty.str ByteArray.empty)], XV.mk false [X.c (X0.dat (Ty.int IntKind.i64) (0 : Int))]] []) else some (Res.mk [XV.mk true [X.c (X0.dat (Ty.int IntKind.i64) (0 : Int)), X.c (X0.dat (Ty.int IntKind.i64) (0 : Int)), X.c (X0.dat Ty.str ByteArray.empty)], XV.mk false [X.c (X0.dat (Ty.int IntKind.i64) (0 : Int))]] []) else bif (Sp.f167 (IntKind.i64.wrap (x0.getD (0 : Nat) (0 : Int)))).1 then bif decide ((↑(List.take (x0.length - (1 : Nat)) (List.drop (1 : Nat) x0)).length : Int) ≥ (1 : Int)) then chk (decide ((0 : Int) < (↑(List.take (x0.length - (1 : Nat)) (List.drop (1 : Nat) x0)).length : Int))) (bif decide ((↑(List.take (x0.length - (1 : Nat)) (List.drop (1 : Nat) x0)).length : Int) > IntKind.i64.wrap ((List.take (x0.length - (1 : Nat)) (List.drop (1 : Nat) x0)).getD (0 : Nat) (0 : Int))) then chk (decide ((0 : Int) < (↑(List.take (x0.length - (1 : Nat)) (List.drop (1 : Nat) x0)).length : Int))) (chk (decide ((1 : Int) ≤ IntKind.i64.wrap ((1 : Int) + IntKind.i64.wrap ((List.take (x0.length - (1 : Nat)) (List.drop (1 : Nat) x0)).getD (0 : Nat) (0 : Int)))) && decide (IntKind.i64.wrap ((1 : Int) + IntKind.i64.wrap ((List.take (x0.length - (1 : Nat)) (List.drop (1 : Nat) x0)).getD (0 : Nat) (0 : Int))) ≤ (↑(List.take (x0.length - (1 : Nat)) (List.drop (1 : Nat) x0)).length : Int))) (chk (decide ((0 : Int) < (↑(List.take (x0.length - (1 : Nat)) (List.drop (1 : Nat) x0)).length : Int))) (some (Res.mk [XV.mk true [X.c (X0.dat (Ty.int IntKind.i64) (IntKind.i64.wrap (x0.getD (0 : Nat) (0 : Int)))), X.c (X0.dat (Ty.int IntKind.i64) (0 : Int)), X.c (X0.dat Ty.str (bytesStr (List.take ((IntKind.i64.wrap ((1 : Int) + IntKind.i64.wrap ((List.take (x0.length - (1 : Nat)) (List.drop (1 : Nat) x0)).getD (0 : Nat) (0 : Int)))).toNat - (1 : Nat)) (List.drop (1 : Nat) (List.take (x0.length - (1 : Nat)) (List.drop (1 : Nat) x0))))))], XV.mk false [X.c (X0.dat (Ty.int IntKind.i64) (IntKind.i64.wrap ((2 : Int) + IntKind.i64.wrap ((List.take (x0.length - (1 : Nat)) (List.drop (1 : Nat) x0)).getD (0 : Nat) (0 : Int)))))]] [])))) else some (Res.mk [XV.mk true [X.c (X0.dat (Ty.int IntKind.i64) (0 : Int)), X.c (X0.dat (Ty.int IntKind.i64) (0 : Int)), X.c (X0.dat Ty.str ByteArray.empty)], XV.mk false [X.c (X0.dat (Ty.int IntKind.i64) (0 : Int))]] [])) else some (Res.mk [XV.mk true [X.c (X0.dat (Ty.int IntKind.i64) (0 : Int)), X.c (X0.dat (Ty.int IntKind.i64) (0 : Int)), X.c (X0.dat Ty.str ByteArray.empty)], XV.mk false [X.c (X0.dat (Ty.int IntKind.i64) (0 : Int))]] []) else some (Res.mk [XV.mk true [X.c (X0.dat (Ty.int IntKind.i64) (0 : Int)), X.c (X0.dat (Ty.int IntKind.i64) (0 : Int)), X.c (X0.dat Ty.str ByteArray.empty)], XV.mk false [X.c (X0.dat (Ty.int IntKind.i64) (0 : Int))]] []) else bif (Sp.f167 (IntKind.i64.wrap (x0.getD (0 : Nat) (0 : Int)))).1 then bif !x1 then chk (Sp.mid (List.take (x0.length - (1 : Nat)) (List.drop (1 : Nat) x0))) (bif decide ((Sp.kt (List.take (x0.length - (1 : Nat)) (List.drop (1 : Nat) x0)) [] (0 : Int)).2 > (0 : Int)) then some (Res.mk [XV.mk true [X.c (X0.dat (Ty.int IntKind.i64) (IntKind.i64.wrap (x0.getD (0 : Nat) (0 : Int)))), X.c (X0.dat (Ty.int IntKind.i64) (0 : Int)), X.c (X0.dat Ty.str (Sp.kt (List.take (x0.length - (1 : Nat)) (List.drop (1 : Nat) x0)) [] (0 : Int)).1)], XV.mk false [X.c (X0.dat (Ty.int IntKind.i64) (IntKind.i64.wrap ((Sp.kt (List.take (x0.length - (1 : Nat)) (List.drop (1 : Nat) x0)) [] (0 : Int)).2 + (1 : Int))))]] []) else some (Res.mk [XV.mk true [X.c (X0.dat (Ty.int IntKind.i64) (0 : Int)), X.c (X0.dat (Ty.int IntKind.i64) (0 : Int)), X.c (X0.dat Ty.str ByteArray.empty)], XV.mk false [X.c (X0.dat (Ty.int IntKind.i64) (0 : Int))]] [])) else bif (Sp.f167 (IntKind.i64.wrap (x0.getD (0 : Nat) (0 : Int)))).1 then bif decide ((↑(List.take (x0.length - (1 : Nat)) (List.drop (1 : Nat) x0)).length : Int) ≥ (1 : Int)) then chk (decide ((0 : Int) < (↑(List.take (x0.length - (1 : Nat)) (List.drop (1 : Nat) x0)).length : Int))) (bif decide ((↑(List.take (x0.length - (1 : Nat)) (List.drop (1 : Nat) x0)).length : Int) > IntKind.i64.wrap ((List.take (x0.length - (1 : Nat)) (List.drop (1 : Nat) x0)).getD (0 : Nat) (0 : Int))) then chk (decide ((0 : Int) < (↑(List.take (x0.length - (1 : Nat)) (List.drop (1 : Nat) x0)).length : Int))) (chk (decide ((1 : Int) ≤ IntKind.i64.wrap ((1 : Int) + IntKind.i64.wrap ((List.take (x0.length - (1 : Nat)) (List.drop (1 : Nat) x0)).getD (0 : Nat) (0 : Int)))) && decide (IntKind.i64.wrap ((1 : Int) + IntKind.i64.wrap ((List.take (x0.length - (1 : Nat)) (List.drop (1 : Nat) x0)).getD (0 : Nat) (0 : Int))) ≤ (↑(List.take (x0.length - (1 : Nat)) (List.drop (1 : Nat) x0)).length : Int))) (chk (decide ((0 : Int) < (↑(List.take (x0.length - (1 : Nat)) (List.drop (1 : Nat) x0)).length : Int))) (some (Res.mk [XV.mk true [X.c (X0.dat (Ty.int IntKind.i64) (IntKind.i64.wrap (x0.getD (0 : Nat) (0 : Int)))), X.c (X0.dat (Ty.int IntKind.i64) (0 : Int)), X.c (X0.dat Ty.str (bytesStr (List.take ((IntKind.i64.wrap ((1 : Int) + IntKind.i64.wrap ((List.take (x0.length - (1 : Nat)) (List.drop (1 : Nat) x0)).getD (0 : Nat) (0 : Int)))).toNat - (1 : Nat)) (List.drop (1 : Nat) (List.take (x0.length - (1 : Nat)) (List.drop (1 : Nat) x0))))))], XV.mk false [X.c (X0.dat (Ty.int IntKind.i64) (IntKind.i64.wrap ((2 : Int) + IntKind.i64.wrap ((List.take (x0.length - (1 : Nat)) (List.drop (1 : Nat) x0)).getD (0 : Nat) (0 : Int)))))]] [])))) else some (Res.mk [XV.mk true [X.c (X0.dat (Ty.int IntKind.i64) (0 : Int)), X.c (X0.dat (Ty.int IntKind.i64) (0 : Int)), X.c (X0.dat Ty.str ByteArray.empty)], XV.mk false [X.c (X0.dat (Ty.int IntKind.i64) (0 : Int))]] [])) else some (Res.mk [XV.mk true [X.c (X0.dat (Ty.int IntKind.i64) (0 : Int)), X.c (X0.dat (Ty.int IntKind.i64) (0 : Int)), X.c (X0.dat Ty.str ByteArray.empty)], XV.mk false [X.c (X0.dat (Ty.int IntKind.i64) (0 : Int))]] []) else some (Res.mk [XV.mk true [X.c (X0.dat (Ty.int IntKind.i64) (0 : Int)), X.c (X0.dat (Ty.int IntKind.i64) (0 : Int)), X.c (X0.dat Ty.str ByteArray.empty)], XV.mk false [X.c (X0.dat (Ty.int IntKind.i64) (0 : Int))]] []) else bif (Sp.f167 (IntKind.i64.wrap (x0.getD (0 : Nat) (0 : Int)))).1 then bif decide ((↑(List.take (x0.length - (1 : Nat)) (List.drop (1 : Nat) x0)).length : Int) ≥ (1 : Int)) then chk (decide ((0 : Int) < (↑(List.take (x0.length - (1 : Nat)) (List.drop (1 : Nat) x0)).length : Int))) (bif decide ((↑(List.take (x0.length - (1 : Nat)) (List.drop (1 : Nat) x0)).length : Int) > IntKind.i64.wrap ((List.take (x0.length - (1 : Nat)) (List.drop (1 : Nat) x0)).getD (0 : Nat) (0 : Int))) then chk (decide ((0 : Int) < (↑(List.take (x0.length - (1 : Nat)) (List.drop (1 : Nat) x0)).length : Int))) (chk (decide ((1 : Int) ≤ IntKind.i64.wrap ((1 : Int) + IntKind.i64.wrap ((List.take (x0.length - (1 : Nat)) (List.drop (1 : Nat) x0)).getD (0 : Nat) (0 : Int)))) && decide (IntKind.i64.wrap ((1 : Int) + IntKind.i64.wrap ((List.take (x0.length - (1 : Nat)) (List.drop (1 : Nat) x0)).getD (0 : Nat) (0 : Int))) ≤ (↑(List.take (x0.length - (1 : Nat)) (List.drop (1 : Nat) x0)).length : Int))) (chk (decide ((0 : Int) < (↑(List.take (x0.length - (1 : Nat)) (List.drop (1 : Nat) x0)).length : Int))) (some (Res.mk [XV.mk true [X.c (X0.dat (Ty.int IntKind.i64) (IntKind.i64.wrap (x0.getD (0 : Nat) (0 : Int)))), X.c (X0.dat (Ty.int IntKind.i64) (0 : Int)), X.c (X0.dat Ty.str (bytesStr (List.take ((IntKind.i64.wrap ((1 : Int) + IntKind.i64.wrap ((List.take (x0.length - (1 : Nat)) (List.drop (1 : Nat) x0)).getD (0 : Nat) (0 : Int)))).toNat - (1 : Nat)) (List.drop (1 : Nat) (List.take (x0.length - (1 : Nat)) (List.drop (1 : Nat) x0))))))], XV.mk false [X.c (X0.dat (Ty.int IntKind.i64) (IntKind.i64.wrap ((2 : Int) + IntKind.i64.wrap ((List.take (x0.length - (1 : Nat)) (List.drop (1 : Nat) x0)).getD (0 : Nat) (0 : Int)))))]] [])))) else some (Res.mk [XV.mk true [X.c (X0.dat (Ty.int IntKind.i64) (0 : Int)), X.c (X0.dat (Ty.int IntKind.i64) (0 : Int)), X.c (X0.dat Ty.str ByteArray.empty)], XV.mk false [X.c (X0.dat (Ty.int IntKind.i64) (0 : Int))]] [])) else some (Res.mk [XV.mk true [X.c (X0.dat (Ty.int IntKind.i64) (0 : Int)), X.c (X0.dat (Ty.int IntKind.i64) (0 : Int)), X.c (X0.dat Ty.str ByteArray.empty)], XV.mk false [X.c (X0.dat (Ty.int IntKind.i64) (0 : Int))]] []) else some (Res.mk [XV.mk true [X.c (X0.dat (Ty.int IntKind.i64) (0 : Int)), X.c (X0.dat (Ty.int IntKind.i64) (0 : Int)), X.c (X0.dat Ty.str ByteArray.empty)], XV.mk false [X.c (X0.dat (Ty.int IntKind.i64) (0 : Int))]] []) else bif IntKind.i64.wrap (x0.getD (0 : Nat) (0 : Int)) == (2 : Int) then bif decide ((↑(List.take (x0.length - (1 : Nat)) (List.drop (1 : Nat) x0)).length : Int) ≥ (8 : Int)) then chk (decide ((8 : Int) ≤ (↑(List.take (x0.length - (1 : Nat)) (List.drop (1 : Nat) x0)).length : Int))) (chk (Sp.eight (List.take (8 : Nat) (List.drop (0 : Nat) (List.take (x0.length - (1 : Nat)) (List.drop (1 : Nat) x0))))) (some (Res.mk [XV.mk true [X.c (X0.dat (Ty.int IntKind.i64) (IntKind.i64.wrap (x0.getD (0 : Nat) (0 : Int)))), X.c (X0.dat (Ty.int IntKind.i64) (IntKind.i64.wrap (IntKind.u64.wrap (↑(BitVec.ofInt (64 : Nat) (↑(Sp.num (0 : Nat) (List.take (8 : Nat) (List.drop (0 : Nat) (List.take (x0.length - (1 : Nat)) (List.drop (1 : Nat) x0))))) : Int) ^^^ BitVec.ofInt (64 : Nat) (9223372036854775808 : Int)).toNat : Int)))), X.c (X0.dat Ty.str ByteArray.empty)], XV.mk false [X.c (X0.dat (Ty.int IntKind.i64) (9 : Int))]] []))) else bif (Sp.f167 (IntKind.i64.wrap (x0.getD (0 : Nat) (0 : Int)))).1 then bif !x1 then chk (Sp.mid (List.take (x0.length - (1 : Nat)) (List.drop (1 : Nat) x0))) (bif decide ((Sp.kt (List.take (x0.length - (1 : Nat)) (List.drop (1 : Nat) x0)) [] (0 : Int)).2 > (0 : Int)) then some (Res.mk [XV.mk true [X.c (X0.dat (Ty.int IntKind.i64) (IntKind.i64.wrap (x0.getD (0 : Nat) (0 : Int)))), X.c (X0.dat (Ty.int IntKind.i64) (0 : Int)), X.c (X0.dat Ty.str (Sp.kt (List.take (x0.length - (1 : Nat)) (List.drop (1 : Nat) x0)) [] (0 : Int)).1)], XV.mk false [X.c (X0.dat (Ty.int IntKind.i64) (IntKind.i64.wrap ((Sp.kt (List.take (x0.length - (1 : Nat)) (List.drop (1 : Nat) x0)) [] (0 : Int)).2 + (1 : Int))))]] []) else some (Res.mk [XV.mk true [X.c (X0.dat (Ty.int IntKind.i64) (0 : Int)), X.c (X0.dat (Ty.int IntKind.i64) (0 : Int)), X.c (X0.dat Ty.str ByteArray.empty)], XV.mk false [X.c (X0.dat (Ty.int IntKind.i64) (0 : Int))]] [])) else bif (Sp.f167 (IntKind.i64.wrap (x0.getD (0 : Nat) (0 : Int)))).1 then bif decide ((↑(List.take (x0.length - (1 : Nat)) (List.drop (1 : Nat) x0)).length : Int) ≥ (1 : Int)) then chk (decide ((0 : Int) < (↑(List.take (x0.length - (1 : Nat)) (List.drop (1 : Nat) x0)).length : Int))) (bif decide ((↑(List.take (x0.length - (1 : Nat)) (List.drop (1 : Nat) x0)).length : Int) > IntKind.i64.wrap ((List.take (x0.length - (1 : Nat)) (List.drop (1 : Nat) x0)).getD (0 : Nat) (0 : Int))) then chk (decide ((0 : Int) < (↑(List.take (x0.length - (1 : Nat)) (List.drop (1 : Nat) x0)).length : Int))) (chk (decide ((1 : Int) ≤ IntKind.i64.wrap ((1 : Int) + IntKind.i64.wrap ((List.take (x0.length - (1 : Nat)) (List.drop (1 : Nat) x0)).getD (0 : Nat) (0 : Int)))) && decide (IntKind.i64.wrap ((1 : Int) + IntKind.i64.wrap ((List.take (x0.length - (1 : Nat)) (List.drop (1 : Nat) x0)).getD (0 : Nat) (0 : Int))) ≤ (↑(List.take (x0.length - (1 : Nat)) (List.drop (1 : Nat) x0)).length : Int))) (chk (decide ((0 : Int) < (↑(List.take (x0.length - (1 : Nat)) (List.drop (1 : Nat) x0)).length : Int))) (some (Res.mk [XV.mk true [X.c (X0.dat (Ty.int IntKind.i64) (IntKind.i64.wrap (x0.getD (0 : Nat) (0 : Int)))), X.c (X0.dat (Ty.int IntKind.i64) (0 : Int)), X.c (X0.dat Ty.str (bytesStr (List.take ((IntKind.i64.wrap ((1 : Int) + IntKind.i64.wrap ((List.take (x0.length - (1 : Nat)) (List.drop (1 : Nat) x0)).getD (0 : Nat) (0 : Int)))).toNat - (1 : Nat)) (List.drop (1 : Nat) (List.take (x0.length - (1 : Nat)) (List.drop (1 : Nat) x0))))))], XV.mk false [X.c (X0.dat (Ty.int IntKind.i64) (IntKind.i64.wrap ((2 : Int) + IntKind.i64.wrap ((List.take (x0.length - (1 : Nat)) (List.drop (1 : Nat) x0)).getD (0 : Nat) (0 : Int)))))]] [])))) else some (Res.mk [XV.mk true [X.c (X0.dat (Ty.int IntKind.i64) (0 : Int)), X.c (X0.dat (Ty.int IntKind.i64) (0 : Int)), X.c (X0.dat Ty.str ByteArray.empty)], XV.mk false [X.c (X0.dat (Ty.int IntKind.i64) (0 : Int))]] [])) else some (Res.mk [XV.mk true [X.c (X0.dat (Ty.int IntKind.i64) (0 : Int)), X.c (X0.dat (Ty.int IntKind.i64) (0 : Int)), X.c (X0.dat Ty.str ByteArray.empty)], XV.mk false [X.c (X0.dat (Ty.int IntKind.i64) (0 : Int))]] []) else some (Res.mk [XV.mk true [X.c (X0.dat (Ty.int IntKind.i64) (0 : Int)), X.c (X0.dat (Ty.int IntKind.i64) (0 : Int)), X.c (X0.dat Ty.str ByteArray.empty)], XV.mk false [X.c (X0.dat (Ty.int IntKind.i64) (0 : Int))]] []) else bif (Sp.f167 (IntKind.i64.wrap (x0.getD (0 : Nat) (0 : Int)))).1 then bif decide ((↑(List.take (x0.length - (1 : Nat)) (List.drop (1 : Nat) x0)).length : Int) ≥ (1 : Int)) then chk (decide ((0 : Int) < (↑(List.take (x0.length - (1 : Nat)) (List.drop (1 : Nat) x0)).length : Int))) (bif decide ((↑(List.take (x0.length - (1 : Nat)) (List.drop (1 : Nat) x0)).length : Int) > IntKind.i64.wrap ((List.take (x0.length - (1 : Nat)) (List.drop (1 : Nat) x0)).getD (0 : Nat) (0 : Int))) then chk (decide ((0 : Int) < (↑(List.take (x0.length - (1 : Nat)) (List.drop (1 : Nat) x0)).length : Int))) (chk (decide ((1 : Int) ≤ IntKind.i64.wrap ((1 : Int) + IntKind.i64.wrap ((List.take (x0.length - (1 : Nat)) (List.drop (1 : Nat) x0)).getD (0 : Nat) (0 : Int)))) && decide (IntKind.i64.wrap ((1 : Int) + IntKind.i64.wrap ((List.take (x0.length - (1 : Nat)) (List.drop (1 : Nat) x0)).getD (0 : Nat) (0 : Int))) ≤ (↑(List.take (x0.length - (1 : Nat)) (List.drop (1 : Nat) x0)).length : Int))) (chk (decide ((0 : Int) < (↑(List.take (x0.length - (1 : Nat)) (List.drop (1 : Nat) x0)).length : Int))) (some (Res.mk [XV.mk true [X.c (X0.dat (Ty.int IntKind.i64) (IntKind.i64.wrap (x0.getD (0 : Nat) (0 : Int)))), X.c (X0.dat (Ty.int IntKind.i64) (0 : Int)), X.c (X0.dat Ty.str (bytesStr (List.take ((IntKind.i64.wrap ((1 : Int) + IntKind.i64.wrap ((List.take (x0.length - (1 : Nat)) (List.drop (1 : Nat) x0)).getD (0 : Nat) (0 : Int)))).toNat - (1 : Nat)) (List.drop (1 : Nat) (List.take (x0.length - (1 : Nat)) (List.drop (1 : Nat) x0))))))], XV.mk false [X.c (X0.dat (Ty.int IntKind.i64) (IntKind.i64.wrap ((2 : Int) + IntKind.i64.wrap ((List.take (x0.length - (1 : Nat)) (List.drop (1 : Nat) x0)).getD (0 : Nat) (0 : Int)))))]] [])))) else some (Res.mk [XV.mk true [X.c (X0.dat (Ty.int IntKind.i64) (0 : Int)), X.c (X0.dat (Ty.int IntKind.i64) (0 : Int)), X.c (X0.dat Ty.str ByteArray.empty)], XV.mk false [X.c (X0.dat (Ty.int IntKind.i64) (0 : Int))]] [])) else some (Res.mk [XV.mk true [X.c (X0.dat (Ty.int IntKind.i64) (0 : Int)), X.c (X0.dat (Ty.int IntKind.i64) (0 : Int)), X.c (X0.dat Ty.str ByteArray.empty)], XV.mk false [X.c (X0.dat (Ty.int IntKind.i64) (0 : Int))]] []) else some (Res.mk [XV.mk true [X.c (X0.dat (Ty.int IntKind.i64) (0 : Int)), X.c (X0.dat (Ty.int IntKind.i64) (0 : Int)), X.c (X0.dat Ty.str ByteArray.empty)], XV.mk false [X.c (X0.dat (Ty.int IntKind.i64) (0 : Int))]] []) else bif (Sp.f167 (IntKind.i64.wrap (x0.getD (0 : Nat) (0 : Int)))).1 then bif !x1 then chk (Sp.mid (List.take (x0.length - (1 : Nat)) (List.drop (1 : Nat) x0))) (bif decide ((Sp.kt (List.take (x0.length - (1 : Nat)) (List.drop (1 : Nat) x0)) [] (0 : Int)).2 > (0 : Int)) then some (Res.mk [XV.mk true [X.c (X0.dat (Ty.int IntKind.i64) (IntKind.i64.wrap (x0.getD (0 : Nat) (0 : Int)))), X.c (X0.dat (Ty.int IntKind.i64) (0 : Int)), X.c (X0.dat Ty.str (Sp.kt (List.take (x0.length - (1 : Nat)) (List.drop (1 : Nat) x0)) [] (0 : Int)).1)], XV.mk false [X.c (X0.dat (Ty.int IntKind.i64) (IntKind.i64.wrap ((Sp.kt (List.take (x0.length - (1 : Nat)) (List.drop (1 : Nat) x0)) [] (0 : Int)).2 + (1 : Int))))]] []) else some (Res.mk [XV.mk true [X.c (X0.dat (Ty.int IntKind.i64) (0 : Int)), X.c (X0.dat (Ty.int IntKind.i64) (0 : Int)), X.c (X0.dat Ty.str ByteArray.empty)], XV.mk false [X.c (X0.dat (Ty.int IntKind.i64) (0 : Int))]] [])) else bif (Sp.f167 (IntKind.i64.wrap (x0.getD (0 : Nat) (0 : Int)))).1 then bif decide ((↑(List.take (x0.length - (1 : Nat)) (List.drop (1 : Nat) x0)).length : Int) ≥ (1 : Int)) then chk (decide ((0 : Int) < (↑(List.take (x0.length - (1 : Nat)) (List.drop (1 : Nat) x0)).length : Int))) (bif decide ((↑(List.take (x0.length - (1 : Nat)) (List.drop (1 : Nat) x0)).length : Int) > IntKind.i64.wrap ((List.take (x0.length - (1 : Nat)) (List.drop (1 : Nat) x0)).getD (0 : Nat) (0 : Int))) then chk (decide ((0 : Int) < (↑(List.take (x0.length - (1 : Nat)) (List.drop (1 : Nat) x0)).length : Int))) (chk (decide ((1 : Int) ≤ IntKind.i64.wrap ((1 : Int) + IntKind.i64.wrap ((List.take (x0.length - (1 : Nat)) (List.drop (1 : Nat) x0)).getD (0 : Nat) (0 : Int)))) && decide (IntKind.i64.wrap ((1 : Int) + IntKind.i64.wrap ((List.take (x0.length - (1 : Nat)) (List.drop (1 : Nat) x0)).getD (0 : Nat) (0 : Int))) ≤ (↑(List.take (x0.length - (1 : Nat)) (List.drop (1 : Nat) x0)).length : Int))) (chk (decide ((0 : Int) < (↑(List.take (x0.length - (1 : Nat)) (List.drop (1 : Nat) x0)).length : Int))) (some (Res.mk [XV.mk true [X.c (X0.dat (Ty.int IntKind.i64) (IntKind.i64.wrap (x0.getD (0 : Nat) (0 : Int)))), X.c (X0.dat (Ty.int IntKind.i64) (0 : Int)), X.c (X0.dat Ty.str (bytesStr (List.take ((IntKind.i64.wrap ((1 : Int) + IntKind.i64.wrap ((List.take (x0.length - (1 : Nat)) (List.drop (1 : Nat) x0)).getD (0 : Nat) (0 : Int)))).toNat - (1 : Nat)) (List.drop (1 : Nat) (List.take (x0.length - (1 : Nat)) (List.drop (1 : Nat) x0))))))], XV.mk false [X.c (X0.dat (Ty.int IntKind.i64) (IntKind.i64.wrap ((2 : Int) + IntKind.i64.wrap ((List.take (x0.length - (1 : Nat)) (List.drop (1 : Nat) x0)).getD (0 : Nat) (0 : Int)))))]] [])))) else some (Res.mk [XV.mk true [X.c (X0.dat (Ty.int IntKind.i64) (0 : Int)), X.c (X0.dat (Ty.int IntKind.i64) (0 : Int)), X.c (X0.dat Ty.str ByteArray.empty)], XV.mk false [X.c (X0.dat (Ty.int IntKind.i64) (0 : Int))]] [])) else some (Res.mk [XV.mk true [X.c (X0.dat (Ty.int IntKind.i64) (0 : Int)), X.c (X0.dat (Ty.int IntKind.i64) (0 : Int)), X.c (X0.dat Ty.str ByteArray.empty)], XV.mk false [X.c (X0.dat (Ty.int IntKind.i64) (0 : Int))]] []) else some (Res.mk [XV.mk true [X.c (X0.dat (Ty.int IntKind.i64) (0 : Int)), X.c (X0.dat (Ty.int IntKind.i64) (0 : Int)), X.c (X0.dat Ty.str ByteArray.empty)], XV.mk false [X.c (X0.dat (Ty.int IntKind.i64) (0 : Int))]] []) else bif (Sp.f167 (IntKind.i64.wrap (x0.getD (0 : Nat) (0 : Int)))).1 then bif decide ((↑(List.take (x0.length - (1 : Nat)) (List.drop (1 : Nat) x0)).length : Int) ≥ (1 : Int)) then chk (decide ((0 : Int) < (↑(List.take (x0.length - (1 : Nat)) (List.drop (1 : Nat) x0)).length : Int))) (bif decide ((↑(List.take (x0.length - (1 : Nat)) (List.drop (1 : Nat) x0)).length : Int) > IntKind.i64.wrap ((List.take (x0.length - (1 : Nat)) (List.drop (1 : Nat) x0)).getD (0 : Nat) (0 : Int))) then chk (decide ((0 : Int) < (↑(List.take (x0.length - (1 : Nat)) (List.drop (1 : Nat) x0)).length : Int))) (chk (decide ((1 : Int) ≤ IntKind.i64.wrap ((1 : Int) + IntKind.i64.wrap ((List.take (x0.length - (1 : Nat)) (List.drop (1 : Nat) x0)).getD (0 : Nat) (0 : Int)))) && decide (IntKind.i64.wrap ((1 : Int) + IntKind.i64.wrap ((List.take (x0.length - (1 : Nat)) (List.drop (1 : Nat) x0)).getD (0 : Nat) (0 : Int))) ≤ (↑(List.take (x0.length - (1 : Nat)) (List.drop (1 : Nat) x0)).length : Int))) (chk (decide ((0 : Int) < (↑(List.take (x0.length - (1 : Nat)) (List.drop (1 : Nat) x0)).length : Int))) (some (Res.mk [XV.mk true [X.c (X0.dat (Ty.int IntKind.i64) (IntKind.i64.wrap (x0.getD (0 : Nat) (0 : Int)))), X.c (X0.dat (Ty.int IntKind.i64) (0 : Int)), X.c (X0.dat Ty.str (bytesStr (List.take ((IntKind.i64.wrap ((1 : Int) + IntKind.i64.wrap ((List.take (x0.length - (1 : Nat)) (List.drop (1 : Nat) x0)).getD (0 : Nat) (0 : Int)))).toNat - (1 : Nat)) (List.drop (1 : Nat) (List.take (x0.length - (1 : Nat)) (List.drop (1 : Nat) x0))))))], XV.mk false [X.c (X0.dat (Ty.int IntKind.i64) (IntKind.i64.wrap ((2 : Int) + IntKind.i64.wrap ((List.take (x0.length - (1 : Nat)) (List.drop (1 : Nat) x0)).getD (0 : Nat) (0 : Int)))))]] [])))) else some (Res.mk [XV.mk true [X.c (X0.dat (Ty.int IntKind.i64) (0 : Int)), X.c (X0.dat (Ty.int IntKind.i64) (0 : Int)), X.c (X0.dat Ty.str ByteArray.empty)], XV.mk false [X.c (X0.dat (Ty.int IntKind.i64) (0 : Int))]] [])) else some (Res.mk [XV.mk true [X.c (X0.dat (Ty.int IntKind.i64) (0 : Int)), X.c (X0.dat (Ty.int IntKind.i64) (0 : Int)), X.c (X0.dat Ty.str ByteArray.empty)], XV.mk false [X.c (X0.dat (Ty.int IntKind.i64) (0 : Int))]] []) else some (Res.mk [XV.mk true [X.c (X0.dat (Ty.int IntKind.i64) (0 : Int)), X.c (X0.dat (Ty.int IntKind.i64) (0 : Int)), X.c (X0.dat Ty.str ByteArray.empty)], XV.mk false [X.c (X0.dat (Ty.int IntKind.i64) (0 : Int))]] []))) := by kernel_rfl
theorem f131x_form (x0 : List Int) (x1 : Bool) : (chk (decide ((0 : Int) < (↑x0.length : Int))) (chk (decide ((1 : Int) ≤ (↑x0.length : Int))) (bif IntKind.i64.wrap (x0.getD (0 : Nat) (0 : Int)) == (0 : Int) then some (Res.mk [XV.mk true [X.c (X0.dat (Ty.int IntKind.i64) (IntKind.i64.wrap (x0.getD (0 : Nat) (0 : Int)))), X.c (X0.dat (Ty.int IntKind.i64) (0 : Int)), X.c (X0.dat Ty.str ByteArray.empty)], XV.mk false [X.c (X0.dat (Ty.int IntKind.i64) (1 : Int))]] []) else bif IntKind.i64.wrap (x0.getD (0 : Nat) (0 : Int)) == (1 : Int) then bif decide ((↑(List.take (x0.length - (1 : Nat)) (List.drop (1 : Nat) x0)).length : Int) ≥ (1 : Int)) then chk (decide ((0 : Int) < (↑(List.take (x0.length - (1 : Nat)) (List.drop (1 : Nat) x0)).length : Int))) (some (Res.mk [XV.mk true [X.c (X0.dat (Ty.int IntKind.i64) (IntKind.i64.wrap (x0.getD (0 : Nat) (0 : Int)))), X.c (X0.dat (Ty.int IntKind.i64) (IntKind.i64.wrap ((List.take (x0.length - (1 : Nat)) (List.drop (1 : Nat) x0)).getD (0 : Nat) (0 : Int)))), X.c (X0.dat Ty.str ByteArray.empty)], XV.mk false [X.c (X0.dat (Ty.int IntKind.i64) (2 : Int))]] [])) else bif IntKind.i64.wrap (x0.getD (0 : Nat) (0 : Int)) == (2 : Int) then bif decide ((↑(List.take (x0.length - (1 : Nat)) (List.drop (1 : Nat) x0)).length : Int) ≥ (8 : Int)) then chk (decide ((8 : Int) ≤ (↑(List.take (x0.length - (1 : Nat)) (List.drop (1 : Nat) x0)).length : Int))) (chk (Sp.eight (List.take (8 : Nat) (List.drop (0 : Nat) (List.take (x0.length - (1 : Nat)) (List.drop (1 : Nat) x0))))) (some (Res.mk [XV.mk true [X.c (X0.dat (Ty.int IntKind.i64) (IntKind.i64.wrap (x0.getD (0 : Nat) (0 : Int)))), X.c (X0.dat (Ty.int IntKind.i64) (IntKind.i64.wrap (IntKind.u64.wrap (↑(BitVec.ofInt (64 : Nat) (↑(Sp.num (0 : Nat) (List.take (8 : Nat) (List.drop (0 : Nat) (List.take (x0.length - (1 : Nat)) (List.drop (1 : Nat) x0))))) : Int) ^^^ BitVec.ofInt (64 : Nat) (9223372036854775808 : Int)).toNat : Int)))), X.c (X0.dat Ty.str ByteArray.empty)], XV.mk false [X.c (X0.dat (Ty.int IntKind.i64) (9 : Int))]] []))) else bif (Sp.f167 (IntKind.i64.wrap (x0.getD (0 : Nat) (0 : Int)))).1 then bif !x1 then chk (Sp.mid (List.take (x0.length - (1 : Nat)) (List.drop (1 : Nat) x0))) (bif decide ((Sp.kt (List.take (x0.length - (1 : Nat)) (List.drop (1 : Nat) x0)) [] (0 : Int)).2 > (0 : Int)) then some (Res.mk [XV.mk true [X.c (X0.dat (Ty.int IntKind.i64) (IntKind.i64.wrap (x0.getD (0 : Nat) (0 : Int)))), X.c (X0.dat (Ty.int IntKind.i64) (0 : Int)), X.c (X0.dat Ty.str (Sp.kt (List.take (x0.length - (1 : Nat)) (List.drop (1 : Nat) x0)) [] (0 : Int)).1)], XV.mk false [X.c (X0.dat (Ty.int IntKind.i64) (IntKind.i64.wrap ((Sp.kt (List.take (x0.length - (1 : Nat)) (List.drop (1 : Nat) x0)) [] (0 : Int)).2 + (1 : Int))))]] []) else some (Res.mk [XV.mk true [X.c (X0.dat (Ty.int IntKind.i64) (0 : Int)), X.c (X0.dat (Ty.int IntKind.i64) (0 : Int)), X.c (X0.dat Ty.str ByteArray.empty)], XV.mk false [X.c (X0.dat (Ty.int IntKind.i64) (0 : Int))]] [])) else bif (Sp.f167 (IntKind.i64.wrap (x0.getD (0 : Nat) (0 : Int)))).1 then bif decide ((↑(List.take (x0.length - (1 : Nat)) (List.drop (1 : Nat) x0)).length : Int) ≥ (1 : Int)) then chk (decide ((0 : Int) < (↑(List.take (x0.length - (1 : Nat)) (List.drop (1 : Nat) x0)).length : Int))) (bif decide ((↑(List.take (x0.length - (1 : Nat)) (List.drop (1 : Nat) x0)).length : Int) > IntKind.i64.wrap ((List.take (x0.length - (1 : Nat)) (List.drop (1 : Nat) x0)).getD (0 : Nat) (0 : Int))) then chk (decide ((0 : Int) < (↑(List.take (x0.length - (1 : Nat)) (List.drop (1 : Nat) x0)).length : Int))) (chk (decide ((1 : Int) ≤ IntKind.i64.wrap ((1 : Int) + IntKind.i64.wrap ((List.take (x0.length - (1 : Nat)) (List.drop (1 : Nat) x0)).getD (0 : Nat) (0 : Int)))) && decide (IntKind.i64.wrap ((1 : Int) + IntKind.i64.wrap ((List.take (x0.length - (1 : Nat)) (List.drop (1 : Nat) x0)).getD (0 : Nat) (0 : Int))) ≤ (↑(List.take (x0.length - (1 : Nat)) (List.drop (1 : Nat) x0)).length : Int))) (chk (decide ((0 : Int) < (↑(List.take (x0.length - (1 : Nat)) (List.drop (1 : Nat) x0)).length : Int))) (some (Res.mk [XV.mk true [X.c (X0.dat (Ty.int IntKind.i64) (IntKind.i64.wrap (x0.getD (0 : Nat) (0 : Int)))), X.c (X0.dat (Ty.int IntKind.i64) (0 : Int)), X.c (X0.dat Ty.str (bytesStr (List.take ((IntKind.i64.wrap ((1 : Int) + IntKind.i64.wrap ((List.take (x0.length - (1 : Nat)) (List.drop (1 : Nat) x0)).getD (0 : Nat) (0 : Int)))).toNat - (1 : Nat)) (List.drop (1 : Nat) (List.take (x0.length - (1 : Nat)) (List.drop (1 : Nat) x0))))))], XV.mk false [X.c (X0.dat (Ty.int IntKind.i64) (IntKind.i64.wrap ((2 : Int) + IntKind.i64.wrap ((List.take (x0.length - (1 : Nat)) (List.drop (1 : Nat) x0)).getD (0 : Nat) (0 : Int)))))]] [])))) else some (Res.mk [XV.mk true [X.c (X0.dat (Ty.int IntKind.i64) (0 : Int)), X.c (X0.dat (Ty.int IntKind.i64) (0 : Int)), X.c (X0.dat Ty.str ByteArray.empty)], XV.mk false [X.c (X0.dat (Ty.int IntKind.i64) (0 : Int))]] [])) else some (Res.mk [XV.mk true [X.c (X0.dat (Ty.int IntKind.i64) (0 : Int)), X.c (X0.dat (Ty.int IntKind.i64) (0 : Int)), X.c (X0.dat Ty.str ByteArray.empty)], XV.mk false [X.c (X0.dat (Ty.int IntKind.i64) (0 : Int))]] []) else some (Res.mk [XV.mk true [X.c (X0.dat (Ty.int IntKind.i64) (0 : Int)), X.c (X0.dat (Ty.int IntKind.i64) (0 : Int)), X.c (X0.dat Ty.str ByteArray.empty)], XV.mk false [X.c (X0.dat (Ty.int IntKind.i64) (0 : Int))]] []) else bif (Sp.f167 (IntKind.i64.wrap (x0.getD (0 : Nat) (0 : Int)))).1 then bif decide ((↑(List.take (x0.length - (1 : Nat)) (List.drop (1 : Nat) x0)).length : Int) ≥ (1 : Int)) then chk (decide ((0 : Int) < (↑(List.take (x0.length - (1 : Nat)) (List.drop (1 : Nat) x0)).length : Int))) (bif decide ((↑(List.take (x0.length - (1 : Nat)) (List.drop (1 : Nat) x0)).length : Int) > IntKind.i64.wrap ((List.take (x0.length - (1 : Nat)) (List.drop (1 : Nat) x0)).getD (0 : Nat) (0 : Int))) then chk (decide ((0 : Int) < (↑(List.take (x0.length - (1 : Nat)) (List.drop (1 : Nat) x0)).length : Int))) (chk (decide ((1 : Int) ≤ IntKind.i64.wrap ((1 : Int) + IntKind.i64.wrap ((List.take (x0.length - (1 : Nat)) (List.drop (1 : Nat) x0)).getD (0 : Nat) (0 : Int)))) && decide (IntKind.i64.wrap ((1 : Int) + IntKind.i64.wrap ((List.take (x0.length - (1 : Nat)) (List.drop (1 : Nat) x0)).getD (0 : Nat) (0 : Int))) ≤ (↑(List.take (x0.length - (1 : Nat)) (List.drop (1 : Nat) x0)).length : Int))) (chk (decide ((0 : Int) < (↑(List.take (x0.length - (1 : Nat)) (List.drop (1 : Nat) x0)).length : Int))) (some (Res.mk [XV.mk true [X.c (X0.dat (Ty.int IntKind.i64) (IntKind.i64.wrap (x0.getD (0 : Nat) (0 : Int)))), X.c (X0.dat (Ty.int IntKind.i64) (0 : Int)), X.c (X0.dat Ty.str (bytesStr (List.take ((IntKind.i64.wrap ((1 : Int) + IntKind.i64.wrap ((List.take (x0.length - (1 : Nat)) (List.drop (1 : Nat) x0)).getD (0 : Nat) (0 : Int)))).toNat - (1 : Nat)) (List.drop (1 : Nat) (List.take (x0.length - (1 : Nat)) (List.drop (1 : Nat) x0))))))], XV.mk false [X.c (X0.dat (Ty.int IntKind.i64) (IntKind.i64.wrap ((2 : Int) + IntKind.i64.wrap ((List.take (x0.length - (1 : Nat)) (List.drop (1 : Nat) x0)).getD (0 : Nat) (0 : Int)))))]] [])))) else some (Res.mk [XV.mk true [X.c (X0.dat (Ty.int IntKind.i64) (0 : Int)), X.c (X0.dat (Ty.int IntKind.i64) (0 : Int)), X.c (X0.dat Ty.str ByteArray.empty)], XV.mk false [X.c (X0.dat (Ty.int IntKind.i64) (0 : Int))]] [])) else some (Res.mk [XV.mk true [X.c (X0.dat (Ty.int IntKind.i64) (0 : Int)), X.c (X0.dat (Ty.int IntKind.i64) (0 : Int)), X.c (X0.dat Ty.str ByteArray.empty)], XV.mk false [X.c (X0.dat (Ty.int IntKind.i64) (0 : Int))]] []) else some (Res.mk [XV.mk true [X.c (X0.dat (Ty.int IntKind.i64) (0 : Int)), X.c (X0.dat (Ty.int IntKind.i64) (0 : Int)), X.c (X0.dat Ty.str ByteArray.empty)], XV.mk false [X.c (X0.dat (Ty.int IntKind.i64) (0 : Int))]] []) else bif (Sp.f167 (IntKind.i64.wrap (x0.getD (0 : Nat) (0 : Int)))).1 then bif !x1 then chk (Sp.mid (List.take (x0.length - (1 : Nat)) (List.drop (1 : Nat) x0))) (bif decide ((Sp.kt (List.take (x0.length - (1 : Nat)) (List.drop (1 : Nat) x0)) [] (0 : Int)).2 > (0 : Int)) then some (Res.mk [XV.mk true [X.c (X0.dat (Ty.int IntKind.i64) (IntKind.i64.wrap (x0.getD (0 : Nat) (0 : Int)))), X.c (X0.dat (Ty.int IntKind.i64) (0 : Int)), X.c (X0.dat Ty.str (Sp.kt (List.take (x0.length - (1 : Nat)) (List.drop (1 : Nat) x0)) [] (0 : Int)).1)], XV.mk false [X.c (X0.dat (Ty.int IntKind.i64) (IntKind.i64.wrap ((Sp.kt (List.take (x0.length - (1 : Nat)) (List.drop (1 : Nat) x0)) [] (0 : Int)).2 + (1 : Int))))]] []) else some (Res.mk [XV.mk true [X.c (X0.dat (Ty.int IntKind.i64) (0 : Int)), X.c (X0.dat (Ty.int IntKind.i64) (0 : Int)), X.c (X0.dat Ty.str ByteArray.empty)], XV.mk false [X.c (X0.dat (Ty.int IntKind.i64) (0 : Int))]] [])) else bif (Sp.f167 (IntKind.i64.wrap (x0.getD (0 : Nat) (0 : Int)))).1 then bif decide ((↑(List.take (x0.length - (1 : Nat)) (List.drop (1 : Nat) x0)).length : Int) ≥ (1 : Int)) then chk (decide ((0 : Int) < (↑(List.take (x0.length - (1 : Nat)) (List.drop (1 : Nat) x0)).length : Int))) (bif decide ((↑(List.take (x0.length - (1 : Nat)) (List.drop (1 : Nat) x0)).length : Int) > IntKind.i64.wrap ((List.take (x0.length - (1 : Nat)) (List.drop (1 : Nat) x0)).getD (0 : Nat) (0 : Int))) then chk (decide ((0 : Int) < (↑(List.take (x0.length - (1 : Nat)) (List.drop (1 : Nat) x0)).length : Int))) (chk (decide ((1 : Int) ≤ IntKind.i64.wrap ((1 : Int) + IntKind.i64.wrap ((List.take (x0.length - (1 : Nat)) (List.drop (1 : Nat) x0)).getD (0 : Nat) (0 : Int)))) && decide (IntKind.i64.wrap ((1 : Int) + IntKind.i64.wrap ((List.take (x0.length - (1 : Nat)) (List.drop (1 : Nat) x0)).getD (0 : Nat) (0 : Int))) ≤ (↑(List.take (x0.length - (1 : Nat)) (List.drop (1 : Nat) x0)).length : Int))) (chk (decide ((0 : Int) < (↑(List.take (x0.length - (1 : Nat)) (List.drop (1 : Nat) x0)).length : Int))) (some (Res.mk [XV.mk true [X.c (X0.dat (Ty.int IntKind.i64) (IntKind.i64.wrap (x0.getD (0 : Nat) (0 : Int)))), X.c (X0.dat (Ty.int IntKind.i64) (0 : Int)), X.c (X0.dat Ty.str (bytesStr (List.take ((IntKind.i64.wrap ((1 : Int) + IntKind.i64.wrap ((List.take (x0.length - (1 : Nat)) (List.drop (1 : Nat) x0)).getD (0 : Nat) (0 : Int)))).toNat - (1 : Nat)) (List.drop (1 : Nat) (List.take (x0.length - (1 : Nat)) (List.drop (1 : Nat) x0))))))], XV.mk false [X.c (X0.dat (Ty.int IntKind.i64) (IntKind.i64.wrap ((2 : Int) + IntKind.i64.wrap ((List.take (x0.length - (1 : Nat)) (List.drop (1 : Nat) x0)).getD (0 : Nat) (0 : Int)))))]] [])))) else some (Res.mk [XV.mk true [X.c (X0.dat (Ty.int IntKind.i64) (0 : Int)), X.c (X0.dat (Ty.int IntKind.i64) (0 : Int)), X.c (X0.dat Ty.str ByteArray.empty)], XV.mk false [X.c (X0.dat (Ty.int IntKind.i64) (0 : Int))]] [])) else some (Res.mk [XV.mk true [X.c (X0.dat (Ty.int IntKind.i64) (0 : Int)), X.c (X0.dat (Ty.int IntKind.i64) (0 : Int)), X.c (X0.dat Ty.str ByteArray.empty)], XV.mk false [X.c (X0.dat (Ty.int IntKind.i64) (0 : Int))]] []) else some (Res.mk [XV.mk true [X.c (X0.dat (Ty.int IntKind.i64) (0 : Int)), X.c (X0.dat (Ty.int IntKind.i64) (0 : Int)), X.c (X0.dat Ty.str ByteArray.empty)], XV.mk false [X.c (X0.dat (Ty.int IntKind.i64) (0 : Int))]] []) else bif (Sp.f167 (IntKind.i64.wrap (x0.getD (0 : Nat) (0 : Int)))).1 then bif decide ((↑(List.take (x0.length - (1 : Nat)) (List.drop (1 : Nat) x0)).length : Int) ≥ (1 : Int)) then chk (decide ((0 : Int) < (↑(List.take (x0.length - (1 : Nat)) (List.drop (1 : Nat) x0)).length : Int))) (bif decide ((↑(List.take (x0.length - (1 : Nat)) (List.drop (1 : Nat) x0)).length : Int) > IntKind.i64.wrap ((List.take (x0.length - (1 : Nat)) (List.drop (1 : Nat) x0)).getD (0 : Nat) (0 : Int))) then chk (decide ((0 : Int) < (↑(List.take (x0.length - (1 : Nat)) (List.drop (1 : Nat) x0)).length : Int))) (chk (decide ((1 : Int) ≤ IntKind.i64.wrap ((1 : Int) + IntKind.i64.wrap ((List.take (x0.length - (1 : Nat)) (List.drop (1 : Nat) x0)).getD (0 : Nat) (0 : Int)))) && decide (IntKind.i64.wrap ((1 : Int) + IntKind.i64.wrap ((List.take (x0.length - (1 : Nat)) (List.drop (1 : Nat) x0)).getD (0 : Nat) (0 : Int))) ≤ (↑(List.take (x0.length - (1 : Nat)) (List.drop (1 : Nat) x0)).length : Int))) (chk (decide ((0 : Int) < (↑(List.take (x0.length - (1 : Nat)) (List.drop (1 : Nat) x0)).length : Int))) (some (Res.mk [XV.mk true [X.c (X0.dat (Ty.int IntKind.i64) (IntKind.i64.wrap (x0.getD (0 : Nat) (0 : Int)))), X.c (X0.dat (Ty.int IntKind.i64) (0 : Int)), X.c (X0.dat Ty.str (bytesStr (List.take ((IntKind.i64.wrap ((1 : Int) + IntKind.i64.wrap ((List.take (x0.length - (1 : Nat)) (List.drop (1 : Nat) x0)).getD (0 : Nat) (0 : Int)))).toNat - (1 : Nat)) (List.drop (1 : Nat) (List.take (x0.length - (1 : Nat)) (List.drop (1 : Nat) x0))))))], XV.mk false [X.c (X0.dat (Ty.int IntKind.i64) (IntKind.i64.wrap ((2 : Int) + IntKind.i64.wrap ((List.take (x0.length - (1 : Nat)) (List.drop (1 : Nat) x0)).getD (0 : Nat) (0 : Int)))))]] [])))) else some (Res.mk [XV.mk true [X.c (X0.dat (Ty.int IntKind.i64) (0 : Int)), X.c (X0.dat (Ty.int IntKind.i64) (0 : Int)), X.c (X0.dat Ty.str ByteArray.empty)], XV.mk false [X.c (X0.dat (Ty.int IntKind.i64) (0 : Int))]] [])) else some (Res.mk [XV.mk true [X.c (X0.dat (Ty.int IntKind.i64) (0 : Int)), X.c (X0.dat (Ty.int IntKind.i64) (0 : Int)), X.c (X0.dat Ty.str ByteArray.empty)], XV.mk false [X.c (X0.dat (Ty.int IntKind.i64) (0 : Int))]] []) else some (Res.mk [XV.mk true [X.c (X0.dat (Ty.int IntKind.i64) (0 : Int)), X.c (X0.dat (Ty.int IntKind.i64) (0 : Int)), X.c (X0.dat Ty.str ByteArray.empty)], XV.mk false [X.c (X0.dat (Ty.int IntKind.i64) (0 : Int))]] []) else bif IntKind.i64.wrap (x0.getD (0 : Nat) (0 : Int)) == (2 : Int) then bif decide ((↑(List.take (x0.length - (1 : Nat)) (List.drop (1 : Nat) x0)).length : Int) ≥ (8 : Int)) then chk (decide ((8 : Int) ≤ (↑(List.take (x0.length - (1 : Nat)) (List.drop (1 : Nat) x0)).length : Int))) (chk (Sp.eight (List.take (8 : Nat) (List.drop (0 : Nat) (List.take (x0.length - (1 : Nat)) (List.drop (1 : Nat) x0))))) (some (Res.mk [XV.mk true [X.c (X0.dat (Ty.int IntKind.i64) (IntKind.i64.wrap (x0.getD (0 : Nat) (0 : Int)))), X.c (X0.dat (Ty.int IntKind.i64) (IntKind.i64.wrap (IntKind.u64.wrap (↑(BitVec.ofInt (64 : Nat) (↑(Sp.num (0 : Nat) (List.take (8 : Nat) (List.drop (0 : Nat) (List.take (x0.length - (1 : Nat)) (List.drop (1 : Nat) x0))))) : Int) ^^^ BitVec.ofInt (64 : Nat) (9223372036854775808 : Int)).toNat : Int)))), X.c (X0.dat Ty.str ByteArray.empty)], XV.mk false [X.c (X0.dat (Ty.int IntKind.i64) (9 : Int))]] []))) else bif (Sp.f167 (IntKind.i64.wrap (x0.getD (0 : Nat) (0 : Int)))).1 then bif !x1 then chk (Sp.mid (List.take (x0.length - (1 : Nat)) (List.drop (1 : Nat) x0))) (bif decide ((Sp.kt (List.take (x0.length - (1 : Nat)) (List.drop (1 : Nat) x0)) [] (0 : Int)).2 > (0 : Int)) then some (Res.mk [XV.mk true [X.c (X0.dat (Ty.int IntKind.i64) (IntKind.i64.wrap (x0.getD (0 : Nat) (0 : Int)))), X.c (X0.dat (Ty.int IntKind.i64) (0 : Int)), X.c (X0.dat Ty.str (Sp.kt (List.take (x0.length - (1 : Nat)) (List.drop (1 : Nat) x0)) [] (0 : Int)).1)], XV.mk false [X.c (X0.dat (Ty.int IntKind.i64) (IntKind.i64.wrap ((Sp.kt (List.take (x0.length - (1 : Nat)) (List.drop (1 : Nat) x0)) [] (0 : Int)).2 + (1 : Int))))]] []) else some (Res.mk [XV.mk true [X.c (X0.dat (Ty.int IntKind.i64) (0 : Int)), X.c (X0.dat (Ty.int IntKind.i64) (0 : Int)), X.c (X0.dat Ty.str ByteArray.empty)], XV.mk false [X.c (X0.dat (Ty.int IntKind.i64) (0 : Int))]] [])) else bif (Sp.f167 (IntKind.i64.wrap (x0.getD (0 : Nat) (0 : Int)))).1 then bif decide ((↑(List.take (x0.length - (1 : Nat)) (List.drop (1 : Nat) x0)).length : Int) ≥ (1 : Int)) then chk (decide ((0 : Int) < (↑(List.take (x0.length - (1 : Nat)) (List.drop (1 : Nat) x0)).length : Int))) (bif decide ((↑(List.take (x0.length - (1 : Nat)) (List.drop (1 : Nat) x0)).length : Int) > IntKind.i64.wrap ((List.take (x0.length - (1 : Nat)) (List.drop (1 : Nat) x0)).getD (0 : Nat) (0 : Int))) then chk (decide ((0 : Int) < (↑(List.take (x0.length - (1 : Nat)) (List.drop (1 : Nat) x0)).length : Int))) (chk (decide ((1 : Int) ≤ IntKind.i64.wrap ((1 : Int) + IntKind.i64.wrap ((List.take (x0.length - (1 : Nat)) (List.drop (1 : Nat) x0)).getD (0 : Nat) (0 : Int)))) && decide (IntKind.i64.wrap ((1 : Int) + IntKind.i64.wrap ((List.take (x0.length - (1 : Nat)) (List.drop (1 : Nat) x0)).getD (0 : Nat) (0 : Int))) ≤ (↑(List.take (x0.length - (1 : Nat)) (List.drop (1 : Nat) x0)).length : Int))) (chk (decide ((0 : Int) < (↑(List.take (x0.length - (1 : Nat)) (List.drop (1 : Nat) x0)).length : Int))) (some (Res.mk [XV.mk true [X.c (X0.dat (Ty.int IntKind.i64) (IntKind.i64.wrap (x0.getD (0 : Nat) (0 : Int)))), X.c (X0.dat (Ty.int IntKind.i64) (0 : Int)), X.c (X0.dat Ty.str (bytesStr (List.take ((IntKind.i64.wrap ((1 : Int) + IntKind.i64.wrap ((List.take (x0.length - (1 : Nat)) (List.drop (1 : Nat) x0)).getD (0 : Nat) (0 : Int)))).toNat - (1 : Nat)) (List.drop (1 : Nat) (List.take (x0.length - (1 : Nat)) (List.drop (1 : Nat) x0))))))], XV.mk false [X.c (X0.dat (Ty.int IntKind.i64) (IntKind.i64.wrap ((2 : Int) + IntKind.i64.wrap ((List.take (x0.length - (1 : Nat)) (List.drop (1 : Nat) x0)).getD (0 : Nat) (0 : Int)))))]] [])))) else some (Res.mk [XV.mk true [X.c (X0.dat (Ty.int IntKind.i64) (0 : Int)), X.c (X0.dat (Ty.int IntKind.i64) (0 : Int)), X.c (X0.dat Ty.str ByteArray.empty)], XV.mk false [X.c (X0.dat (Ty.int IntKind.i64) (0 : Int))]] [])) else some (Res.mk [XV.mk true [X.c (X0.dat (Ty.int IntKind.i64) (0 : Int)), X.c (X0.dat (Ty.int IntKind.i64) (0 : Int)), X.c (X0.dat Ty.str ByteArray.empty)], XV.mk false [X.c (X0.dat (Ty.int IntKind.i64) (0 : Int))]] []) else some (Res.mk [XV.mk true [X.c (X0.dat (Ty.int IntKind.i64) (0 : Int)), X.c (X0.dat (Ty.int IntKind.i64) (0 : Int)), X.c (X0.dat Ty.str ByteArray.empty)], XV.mk false [X.c (X0.dat (Ty.int IntKind.i64) (0 : Int))]] []) else bif (Sp.f167 (IntKind.i64.wrap (x0.getD (0 : Nat) (0 : Int)))).1 then bif decide ((↑(List.take (x0.length - (1 : Nat)) (List.drop (1 : Nat) x0)).length : Int) ≥ (1 : Int)) then chk (decide ((0 : Int) < (↑(List.take (x0.length - (1 : Nat)) (List.drop (1 : Nat) x0)).length : Int))) (bif decide ((↑(List.take (x0.length - (1 : Nat)) (List.drop (1 : Nat) x0)).length : Int) > IntKind.i64.wrap ((List.take (x0.length - (1 : Nat)) (List.drop (1 : Nat) x0)).getD (0 : Nat) (0 : Int))) then chk (decide ((0 : Int) < (↑(List.take (x0.length - (1 : Nat)) (List.drop (1 : Nat) x0)).length : Int))) (chk (decide ((1 : Int) ≤ IntKind.i64.wrap ((1 : Int) + IntKind.i64.wrap ((List.take (x0.length - (1 : Nat)) (List.drop (1 : Nat) x0)).getD (0 : Nat) (0 : Int)))) && decide (IntKind.i64.wrap ((1 : Int) + IntKind.i64.wrap ((List.take (x0.length - (1 : Nat)) (List.drop (1 : Nat) x0)).getD (0 : Nat) (0 : Int))) ≤ (↑(List.take (x0.length - (1 : Nat)) (List.drop (1 : Nat) x0)).length : Int))) (chk (decide ((0 : Int) < (↑(List.take (x0.length - (1 : Nat)) (List.drop (1 : Nat) x0)).length : Int))) (some (Res.mk [XV.mk true [X.c (X0.dat (Ty.int IntKind.i64) (IntKind.i64.wrap (x0.getD (0 : Nat) (0 : Int)))), X.c (X0.dat (Ty.int IntKind.i64) (0 : Int)), X.c (X0.dat Ty.str (bytesStr (List.take ((IntKind.i64.wrap ((1 : Int) + IntKind.i64.wrap ((List.take (x0.length - (1 : Nat)) (List.drop (1 : Nat) x0)).getD (0 : Nat) (0 : Int)))).toNat - (1 : Nat)) (List.drop (1 : Nat) (List.take (x0.length - (1 : Nat)) (List.drop (1 : Nat) x0))))))], XV.mk false [X.c (X0.dat (Ty.int IntKind.i64) (IntKind.i64.wrap ((2 : Int) + IntKind.i64.wrap ((List.take (x0.length - (1 : Nat)) (List.drop (1 : Nat) x0)).getD (0 : Nat) (0 : Int)))))]] [])))) else some (Res.mk [XV.mk true [X.c (X0.dat (Ty.int IntKind.i64) (0 : Int)), X.c (X0.dat (Ty.int IntKind.i64) (0 : Int)), X.c (X0.dat Ty.str ByteArray.empty)], XV.mk false [X.c (X0.dat (Ty.int IntKind.i64) (0 : Int))]] [])) else some (Res.mk [XV.mk true [X.c (X0.dat (Ty.int IntKind.i64) (0 : Int)), X.c (X0.dat (Ty.int IntKind.i64) (0 : Int)), X.c (X0.dat Ty.str ByteArray.empty)], XV.mk false [X.c (X0.dat (Ty.int IntKind.i64) (0 : Int))]] []) else some (Res.mk [XV.mk true [X.c (X0.dat (Ty.int IntKind.i64) (0 : Int)), X.c (X0.dat (Ty.int IntKind.i64) (0 : Int)), X.c (X0.dat Ty.str ByteArray.empty)], XV.mk false [X.c (X0.dat (Ty.int IntKind.i64) (0 : Int))]] []) else bif (Sp.f167 (IntKind.i64.wrap (x0.getD (0 : Nat) (0 : Int)))).1 then bif !x1 then chk (Sp.mid (List.take (x0.length - (1 : Nat)) (List.drop (1 : Nat) x0))) (bif decide ((Sp.kt (List.take (x0.length - (1 : Nat)) (List.drop (1 : Nat) x0)) [] (0 : Int)).2 > (0 : Int)) then some (Res.mk [XV.mk true [X.c (X0.dat (Ty.int IntKind.i64) (IntKind.i64.wrap (x0.getD (0 : Nat) (0 : Int)))), X.c (X0.dat (Ty.int IntKind.i64) (0 : Int)), X.c (X0.dat Ty.str (Sp.kt (List.take (x0.length - (1 : Nat)) (List.drop (1 : Nat) x0)) [] (0 : Int)).1)], XV.mk false [X.c (X0.dat (Ty.int IntKind.i64) (IntKind.i64.wrap ((Sp.kt (List.take (x0.length - (1 : Nat)) (List.drop (1 : Nat) x0)) [] (0 : Int)).2 + (1 : Int))))]] []) else some (Res.mk [XV.mk true [X.c (X0.dat (Ty.int IntKind.i64) (0 : Int)), X.c (X0.dat (Ty.int IntKind.i64) (0 : Int)), X.c (X0.dat Ty.str ByteArray.empty)], XV.mk false [X.c (X0.dat (Ty.int IntKind.i64) (0 : Int))]] [])) else bif (Sp.f167 (IntKind.i64.wrap (x0.getD (0 : Nat) (0 : Int)))).1 then bif decide ((↑(List.take (x0.length - (1 : Nat)) (List.drop (1 : Nat) x0)).length : Int) ≥ (1 : Int)) then chk (decide ((0 : Int) < (↑(List.take (x0.length - (1 : Nat)) (List.drop (1 : Nat) x0)).length : Int))) (bif decide ((↑(List.take (x0.length - (1 : Nat)) (List.drop (1 : Nat) x0)).length : Int) > IntKind.i64.wrap ((List.take (x0.length - (1 : Nat)) (List.drop (1 : Nat) x0)).getD (0 : Nat) (0 : Int))) then chk (decide ((0 : Int) < (↑(List.take (x0.length - (1 : Nat)) (List.drop (1 : Nat) x0)).length : Int))) (chk (decide ((1 : Int) ≤ IntKind.i64.wrap ((1 : Int) + IntKind.i64.wrap ((List.take (x0.length - (1 : Nat)) (List.drop (1 : Nat) x0)).getD (0 : Nat) (0 : Int)))) && decide (IntKind.i64.wrap ((1 : Int) + IntKind.i64.wrap ((List.take (x0.length - (1 : Nat)) (List.drop (1 : Nat) x0)).getD (0 : Nat) (0 : Int))) ≤ (↑(List.take (x0.length - (1 : Nat)) (List.drop (1 : Nat) x0)).length : Int))) (chk (decide ((0 : Int) < (↑(List.take (x0.length - (1 : Nat)) (List.drop (1 : Nat) x0)).length : Int))) (some (Res.mk [XV.mk true [X.c (X0.dat (Ty.int IntKind.i64) (IntKind.i64.wrap (x0.getD (0 : Nat) (0 : Int)))), X.c (X0.dat (Ty.int IntKind.i64) (0 : Int)), X.c (X0.dat Ty.str (bytesStr (List.take ((IntKind.i64.wrap ((1 : Int) + IntKind.i64.wrap ((List.take (x0.length - (1 : Nat)) (List.drop (1 : Nat) x0)).getD (0 : Nat) (0 : Int)))).toNat - (1 : Nat)) (List.drop (1 : Nat) (List.take (x0.length - (1 : Nat)) (List.drop (1 : Nat) x0))))))], XV.mk false [X.c (X0.dat (Ty.int IntKind.i64) (IntKind.i64.wrap ((2 : Int) + IntKind.i64.wrap ((List.take (x0.length - (1 : Nat)) (List.drop (1 : Nat) x0)).getD (0 : Nat) (0 : Int)))))]] [])))) else some (Res.mk [XV.mk true [X.c (X0.dat (Ty.int IntKind.i64) (0 : Int)), X.c (X0.dat (Ty.int IntKind.i64) (0 : Int)), X.c (X0.dat Ty.str ByteArray.empty)], XV.mk false [X.c (X0.dat (Ty.int IntKind.i64) (0 : Int))]] [])) else some (Res.mk [XV.mk true [X.c (X0.dat (Ty.int IntKind.i64) (0 : Int)), X.c (X0.dat (Ty.int IntKind.i64) (0 : Int)), X.c (X0.dat Ty.str ByteArray.empty)], XV.mk false [X.c (X0.dat (Ty.int IntKind.i64) (0 : Int))]] []) else some (Res.mk [XV.mk true [X.c (X0.dat (Ty.int IntKind.i64) (0 : Int)), X.c (X0.dat (Ty.int IntKind.i64) (0 : Int)), X.c (X0.dat Ty.str ByteArray.empty)], XV.mk false [X.c (X0.dat (Ty.int IntKind.i64) (0 : Int))]] []) else bif (Sp.f167 (IntKind.i64.wrap (x0.getD (0 : Nat) (0 : Int)))).1 then bif decide ((↑(List.take (x0.length - (1 : Nat)) (List.drop (1 : Nat) x0)).length : Int) ≥ (1 : Int)) then chk (decide ((0 : Int) < (↑(List.take (x0.length - (1 : Nat)) (List.drop (1 : Nat) x0)).length : Int))) (bif decide ((↑(List.take (x0.length - (1 : Nat)) (List.drop (1 : Nat) x0)).length : Int) > IntKind.i64.wrap ((List.take (x0.length - (1 : Nat)) (List.drop (1 : Nat) x0)).getD (0 : Nat) (0 : Int))) then chk (decide ((0 : Int) < (↑(List.take (x0.length - (1 : Nat)) (List.drop (1 : Nat) x0)).length : Int))) (chk (decide ((1 : Int) ≤ IntKind.i64.wrap ((1 : Int) + IntKind.i64.wrap ((List.take (x0.length - (1 : Nat)) (List.drop (1 : Nat) x0)).getD (0 : Nat) (0 : Int)))) && decide (IntKind.i64.wrap ((1 : Int) + IntKind.i64.wrap ((List.take (x0.length - (1 : Nat)) (List.drop (1 : Nat) x0)).getD (0 : Nat) (0 : Int))) ≤ (↑(List.take (x0.length - (1 : Nat)) (List.drop (1 : Nat) x0)).length : Int))) (chk (decide ((0 : Int) < (↑(List.take (x0.length - (1 : Nat)) (List.drop (1 : Nat) x0)).length : Int))) (some (Res.mk [XV.mk true [X.c (X0.dat (Ty.int IntKind.i64) (IntKind.i64.wrap (x0.getD (0 : Nat) (0 : Int)))), X.c (X0.dat (Ty.int IntKind.i64) (0 : Int)), X.c (X0.dat Ty.str (bytesStr (List.take ((IntKind.i64.wrap ((1 : Int) + IntKind.i64.wrap ((List.take (x0.length - (1 : Nat)) (List.drop (1 : Nat) x0)).getD (0 : Nat) (0 : Int)))).toNat - (1 : Nat)) (List.drop (1 : Nat) (List.take (x0.length - (1 : Nat)) (List.drop (1 : Nat) x0))))))], XV.mk false [X.c (X0.dat (Ty.int IntKind.i64) (IntKind.i64.wrap ((2 : Int) + IntKind.i64.wrap ((List.take (x0.length - (1 : Nat)) (List.drop (1 : Nat) x0)).getD (0 : Nat) (0 : Int)))))]] [])))) else some (Res.mk [XV.mk true [X.c (X0.dat (Ty.int IntKind.i64) (0 : Int)), X.c (X0.dat (Ty.int IntKind.i64) (0 : Int)), X.c (X0.dat Ty.str ByteArray.empty)], XV.mk false [X.c (X0.dat (Ty.int IntKind.i64) (0 : Int))]] [])) else some (Res.mk [XV.mk true [X.c (X0.dat (Ty.int IntKind.i64) (0 : Int)), X.c (X0.dat (Ty.int IntKind.i64) (0 : Int)), X.c (X0.dat Ty.str ByteArray.empty)], XV.mk false [X.c (X0.dat (Ty.int IntKind.i64) (0 : Int))]] []) else some (Res.mk [XV.mk true [X.c (X0.dat (Ty.int IntKind.i64) (0 : Int)), X.c (X0.dat (Ty.int IntKind.i64) (0 : Int)), X.c (X0.dat Ty.str ByteArray.empty)], XV.mk false [X.c (X0.dat (Ty.int IntKind.i64) (0 : Int))]] [])))) = chk (Sp.f131x_pre x0 x1) (some (f131x_g (Sp.f131x x0 x1))) := by
  unfold Sp.f131x_pre Sp.f131x
  exact (chk_step ((chk_step ((cond_step f131x_g ((lift_plain (rfl))) ((cond_step f131x_g ((cond_step f131x_g ((chk_last (rfl))) ((cond_step f131x_g ((cond_step f131x_g ((chk_step ((chk_last (rfl))))) ((cond_step f131x_g ((cond_step f131x_g ((chk_last ((cond_plain f131x_g (rfl) (rfl))))) ((cond_step f131x_g ((cond_step f131x_g ((chk_step ((cond_step f131x_g ((chk_step ((chk_step ((chk_last (rfl))))))) ((lift_plain (rfl))))))) ((lift_plain (rfl))))) ((lift_plain (rfl))))))) ((cond_step f131x_g ((cond_step f131x_g ((chk_step ((cond_step f131x_g ((chk_step ((chk_step ((chk_last (rfl))))))) ((lift_plain (rfl))))))) ((lift_plain (rfl))))) ((lift_plain (rfl))))))))) ((cond_step f131x_g ((cond_step f131x_g ((chk_last ((cond_plain f131x_g (rfl) (rfl))))) ((cond_step f131x_g ((cond_step f131x_g ((chk_step ((cond_step f131x_g ((chk_step ((chk_step ((chk_last (rfl))))))) ((lift_plain (rfl))))))) ((lift_plain (rfl))))) ((lift_plain (rfl))))))) ((cond_step f131x_g ((cond_step f131x_g ((chk_step ((cond_step f131x_g ((chk_step ((chk_step ((chk_last (rfl))))))) ((lift_plain (rfl))))))) ((lift_plain (rfl))))) ((lift_plain (rfl))))))))))) ((cond_step f131x_g ((cond_step f131x_g ((chk_step ((chk_last (rfl))))) ((cond_step f131x_g ((cond_step f131x_g ((chk_last ((cond_plain f131x_g (rfl) (rfl))))) ((cond_step f131x_g ((cond_step f131x_g ((chk_step ((cond_step f131x_g ((chk_step ((chk_step ((chk_last (rfl))))))) ((lift_plain (rfl))))))) ((lift_plain (rfl))))) ((lift_plain (rfl))))))) ((cond_step f131x_g ((cond_step f131x_g ((chk_step ((cond_step f131x_g ((chk_step ((chk_step ((chk_last (rfl))))))) ((lift_plain (rfl))))))) ((lift_plain (rfl))))) ((lift_plain (rfl))))))))) ((cond_step f131x_g ((cond_step f131x_g ((chk_last ((cond_plain f131x_g (rfl) (rfl))))) ((cond_step f131x_g ((cond_step f131x_g ((chk_step ((cond_step f131x_g ((chk_step ((chk_step ((chk_last (rfl))))))) ((lift_plain (rfl))))))) ((lift_plain (rfl))))) ((lift_plain (rfl))))))) ((cond_step f131x_g ((cond_step f131x_g ((chk_step ((cond_step f131x_g ((chk_step ((chk_step ((chk_last (rfl))))))) ((lift_plain (rfl))))))) ((lift_plain (rfl))))) ((lift_plain (rfl))))))))))))))))
theorem e131x_ok : Valid Try.prog Γ e131x := valid_auto ok (vcons e77_ok (vcons e167_ok (vcons e168_ok vnil))) fun a => (f131x_raw a.1 a.2).trans (f131x_form a.1 a.2)

abbrev V3 := Int × Int × ByteArray
def Sp.zv : V3 := (0, 0, ByteArray.empty)
/-! The value at the beginning of bytes, and how many bytes it takes; 0 if there is none. -/
def Sp.cellC (x : Int) (r : List Int) (row : Bool) : V3 × Int :=
    bif x == 0 then ((0, 0, ByteArray.empty), 1)
    else bif x == 1 then (match r with | [] => (Sp.zv, 0) | y :: _ => ((1, y, ByteArray.empty), 2))
    else bif x == 2 then (bif Nat.ble 8 r.length then ((2, Sp.of8 r, ByteArray.empty), 9) else (Sp.zv, 0))
    else bif (Sp.f167 x).1 then
      bif !row then (bif decide ((Sp.kt r [] 0).2 > 0) then ((x, 0, (Sp.kt r [] 0).1), IntKind.i64.wrap ((Sp.kt r [] 0).2 + 1)) else (Sp.zv, 0))
      else (match r with | [] => (Sp.zv, 0) | y :: r' => bif Nat.ble y.toNat r'.length then ((x, 0, bytesStr (r'.take y.toNat)), 2 + y) else (Sp.zv, 0))
    else (Sp.zv, 0)
def Sp.cell : List Int → Bool → V3 × Int
  | [], _ => (Sp.zv, 0)
  | x :: r, row => Sp.cellC x r row
def Sp.cellOK (b : List Int) : Bool := yes2 (Nat.ble 1 b.length) (yes2 (Sp.mid b) (Sp.isBytes b))
theorem cellOK_of {xs : List Int} (h : Sp.cellOK xs = true) : 1 ≤ xs.length ∧ xs.length ≤ 1048576 ∧ Sp.isBytes xs = true := by
  obtain ⟨h1, h2⟩ := yes2_true h
  obtain ⟨h2, h3⟩ := yes2_true h2
  exact ⟨Nat.le_of_ble_eq_true h1, mid_of h2, h3⟩
theorem cellOK_mk {xs : List Int} (h1 : 1 ≤ xs.length) (h2 : xs.length ≤ 1048576) (h3 : Sp.isBytes xs = true) : Sp.cellOK xs = true := by
  unfold Sp.cellOK
  rw [Nat.ble_eq_true_of_le h1, mid_mk h2, h3]; rfl
theorem xor63 {n : Nat} (h : n < 2 ^ 64) : n ^^^ 9223372036854775808 = if n < 9223372036854775808 then n + 9223372036854775808 else n - 9223372036854775808 := by
  have h1 : (n ^^^ 9223372036854775808) / 2 ^ 63 = (n / 2 ^ 63) ^^^ 1 := by
    rw [Nat.xor_div_two_pow]
  have h2 : (n ^^^ 9223372036854775808) % 2 ^ 63 = n % 2 ^ 63 := by
    rw [Nat.xor_mod_two_pow, show 9223372036854775808 % 2 ^ 63 = 0 from rfl, Nat.xor_zero]
  have h3 := Nat.div_add_mod (n ^^^ 9223372036854775808) (2 ^ 63)
  rw [h1, h2] at h3
  split
  · have e : n / 2 ^ 63 = 0 := by omega
    rw [e] at h3
    have : (0 : Nat) ^^^ 1 = 1 := rfl
    omega
  · have e : n / 2 ^ 63 = 1 := by omega
    rw [e] at h3
    have : (1 : Nat) ^^^ 1 = 0 := rfl
    omega
theorem sign_eq {n : Nat} (h : n < 2 ^ 64) : IntKind.i64.wrap (IntKind.u64.wrap (((BitVec.ofInt 64 (n : Int) ^^^ BitVec.ofInt 64 (9223372036854775808 : Int)).toNat : Nat) : Int)) = (n : Int) - 9223372036854775808 := by
  rw [BitVec.toNat_xor, ofInt_toNat, show (BitVec.ofInt 64 (9223372036854775808 : Int)).toNat = 9223372036854775808 from rfl, Nat.mod_eq_of_lt h, xor63 h]
  by_cases hc : n < 9223372036854775808
  · rw [if_pos hc, wrapu64 (by omega) (by omega), i64_cases _ (by omega) (by omega), if_neg (by omega)]
    omega
  · rw [if_neg hc, wrapu64 (by omega) (by omega), i64_cases _ (by omega) (by omega), if_pos (by omega)]
    omega
theorem num8_lt {r : List Int} (hb : Sp.isBytes r = true) : Sp.num 0 (r.take 8) < 2 ^ 64 := by
  have := num_lt (r.take 8) 0 (isBytes_take hb 8)
  have h2 : 256 ^ (r.take 8).length ≤ 256 ^ 8 := Nat.pow_le_pow_right (by omega) (by rw [List.length_take]; omega)
  have h3 : 256 ^ 8 = 2 ^ 64 := by decide +kernel
  omega
theorem f131_eq {b : List Int} (row : Bool) (h : Sp.cellOK b = true) : Sp.f131x b row = (Sp.cell b row, ()) := by
  obtain ⟨h1, h2, hb⟩ := cellOK_of h
  match b, h1 with
  | x :: r, _ =>
    have hl : (x :: r).length = r.length + 1 := rfl
    have hr : List.take ((x :: r).length - 1) (List.drop 1 (x :: r)) = r := by simp
    obtain ⟨⟨x0, x1⟩, hb'⟩ := isBytes_cons.1 hb
    have hx : IntKind.i64.wrap ((x :: r).getD 0 0) = x := wrap64 (by simpa using by omega) (by simpa using by omega)
    rw [show Sp.cell (x :: r) row = Sp.cellC x r row from rfl]
    unfold Sp.f131x Sp.cellC
    rw [hr, hx]
    by_cases c0 : x = 0
    · subst c0; rfl
    rw [beq_false_of_ne c0, cond_false, cond_false]
    by_cases c1 : x = 1
    · subst c1
      cases r with
      | nil => rfl
      | cons y r' =>
        obtain ⟨⟨y0, y1⟩, _⟩ := isBytes_cons.1 hb'
        have hy : IntKind.i64.wrap ((y :: r').getD 0 0) = y := wrap64 (by simpa using by omega) (by simpa using by omega)
        rw [hy, decide_eq_true (show ((y :: r').length : Int) ≥ 1 by rw [List.length_cons]; omega)]
        rfl
    rw [beq_false_of_ne c1, cond_false, cond_false]
    by_cases c2 : x = 2
    · subst c2
      rw [List.drop_zero, sign_eq (num8_lt hb')]
      by_cases h8 : 8 ≤ r.length
      · rw [decide_eq_true (show (r.length : Int) ≥ 8 by omega), Nat.ble_eq_true_of_le h8]
        rfl
      · rw [decide_eq_false (show ¬ (r.length : Int) ≥ 8 by omega), show Nat.ble 8 r.length = false from Bool.eq_false_iff.2 fun e => h8 (Nat.le_of_ble_eq_true e)]
        rfl
    rw [beq_false_of_ne c2, cond_false, cond_false]
    cases (Sp.f167 x).1 with
    | false => rfl
    | true =>
      cases row with
      | false =>
        rw [cond_true, cond_true]
        show (bif true then _ else _) = _
        cases decide ((Sp.kt r [] 0).2 > 0) <;> rfl
      | true =>
        cases r with
        | nil => rfl
        | cons y r' =>
          obtain ⟨⟨y0, y1⟩, _⟩ := isBytes_cons.1 hb'
          have hy : IntKind.i64.wrap ((y :: r').getD 0 0) = y := wrap64 (by simpa using by omega) (by simpa using by omega)
          have hl2 : (y :: r').length = r'.length + 1 := rfl
          rw [hy, hl2, decide_eq_true (show ((r'.length + 1 : Nat) : Int) ≥ 1 by omega), wrap64 (n := 1 + y) (by omega) (by omega), wrap64 (n := 2 + y) (by omega) (by omega)]
          rw [show (1 + y).toNat - 1 = y.toNat by omega]
          show _ = ((bif Nat.ble y.toNat r'.length then ((x, 0, bytesStr (r'.take y.toNat)), 2 + y) else (Sp.zv, 0)), ())
          by_cases hc : y.toNat ≤ r'.length
          · rw [decide_eq_true (show ((r'.length + 1 : Nat) : Int) > y by omega), Nat.ble_eq_true_of_le hc]
            rfl
          · rw [decide_eq_false (show ¬ ((r'.length + 1 : Nat) : Int) > y by omega), show Nat.ble y.toNat r'.length = false from Bool.eq_false_iff.2 fun e => hc (Nat.le_of_ble_eq_true e)]
            rfl
theorem f131_pre {b : List Int} (row : Bool) (h : Sp.cellOK b = true) : Sp.f131x_pre b row = true := by
  obtain ⟨h1, h2, hb⟩ := cellOK_of h
  match b, h1 with
  | x :: r, _ =>
    have hl : (x :: r).length = r.length + 1 := rfl
    have hr : List.take ((x :: r).length - 1) (List.drop 1 (x :: r)) = r := by simp
    obtain ⟨⟨x0, x1⟩, hb'⟩ := isBytes_cons.1 hb
    have hm : Sp.mid r = true := mid_mk (by omega)
    have he : Sp.eight (List.take 8 (List.drop 0 r)) = true := by
      unfold Sp.eight
      rw [List.drop_zero, isBytes_take hb' 8, decide_eq_true (by rw [List.length_take]; omega)]; rfl
    unfold Sp.f131x_pre
    rw [hr, hm, he, decide_eq_true (show (0 : Int) < (x :: r).length by omega), decide_eq_true (show (1 : Int) ≤ (x :: r).length by omega)]
    generalize (IntKind.i64.wrap ((x :: r).getD 0 0) == 0) = b0
    generalize (IntKind.i64.wrap ((x :: r).getD 0 0) == 1) = b1
    generalize (IntKind.i64.wrap ((x :: r).getD 0 0) == 2) = b2
    generalize (Sp.f167 (IntKind.i64.wrap ((x :: r).getD 0 0))).1 = b3
    cases r with
    | nil => cases b0 <;> cases b1 <;> cases b2 <;> cases b3 <;> cases row <;> rfl
    | cons y r' =>
      obtain ⟨⟨y0, y1⟩, _⟩ := isBytes_cons.1 hb'
      have hy : IntKind.i64.wrap ((y :: r').getD 0 0) = y := wrap64 (by simpa using by omega) (by simpa using by omega)
      have hl2 : (y :: r').length = r'.length + 1 := rfl
      rw [hy, hl2, decide_eq_true (show ((r'.length + 1 : Nat) : Int) ≥ 1 by omega), decide_eq_true (show (0 : Int) < ((r'.length + 1 : Nat) : Int) by omega), wrap64 (n := 1 + y) (by omega) (by omega), decide_eq_true (show (1 : Int) ≤ 1 + y by omega)]
      by_cases h8 : ((r'.length + 1 : Nat) : Int) ≥ 8
      · rw [decide_eq_true h8]
        by_cases hc : ((r'.length + 1 : Nat) : Int) > y
        · rw [decide_eq_true hc, decide_eq_true (show 1 + y ≤ ((r'.length + 1 : Nat) : Int) by omega)]
          cases b0 <;> cases b1 <;> cases b2 <;> cases b3 <;> cases row <;> rfl
        · rw [decide_eq_false hc]
          cases b0 <;> cases b1 <;> cases b2 <;> cases b3 <;> cases row <;> rfl
      · rw [decide_eq_false h8]
        by_cases hc : ((r'.length + 1 : Nat) : Int) > y
        · rw [decide_eq_true hc, decide_eq_true (show 1 + y ≤ ((r'.length + 1 : Nat) : Int) by omega)]
          cases b0 <;> cases b1 <;> cases b2 <;> cases b3 <;> cases row <;> rfl
        · rw [decide_eq_false hc]
          cases b0 <;> cases b1 <;> cases b2 <;> cases b3 <;> cases row <;> rfl
noncomputable def e131 : Ent := { e131x with pre := fun a => Sp.cellOK (show List Int from a.1), spec := fun a => Sp.cell a.1 a.2, wrt := fun _ => () }
theorem e131_ok : Valid Try.prog Γ e131 := fun a ha => by
  have h := e131x_ok a (f131_pre a.2 ha)
  have e : e131x.res a = e131.res a := by
    have e2 : Sp.f131x a.1 a.2 = (Sp.cell a.1 a.2, ()) := f131_eq a.2 ha
    show (⟨mkS e131x.outs (Sp.f131x a.1 a.2).1, mkU e131x.upd (Sp.f131x a.1 a.2).2⟩ : Res) = _
    rw [e2]
    rfl
  rw [e] at h
  exact h
end Go.Proofs.GR.T
namespace Go.Proofs.GR.T
open Go Go.Proofs Go.Proofs.GR
namespace Sp
def eqW {α β : Type} (q : α → β → Bool) : List α → List β → Bool
  | [], [] => true
  | x :: r, y :: s => bif !q x y then false else eqW q r s
  | _, _ => false
def markW {α : Type} (g : α → Int → α) (c : Int) : List α → Int → List α
  | [], _ => []
  | x :: r, k => g x k :: markW g c r (k + c)
def heldW {α : Type} (p : α → Int → Bool) (c : Int) : List α → Int → Int
  | [], k => k
  | x :: r, k => bif p x k then heldW p c r (k + c) else -1
def smallW {α : Type} (c : Nat) (xs : List α) (k : Int) : Bool := match k with
  | .ofNat n => decide (n + c * xs.length ≤ 4611686018427387904)
  | .negSucc _ => false
def addW {α : Type} (c : Int) (xs : List α) (k : Int) : Int := k + c * (xs.length : Int)
def allW {α : Type} (p : α → Bool) : List α → Bool
  | [] => true
  | x :: r => bif !p x then false else allW p r
end Sp
theorem smallW_of {α : Type} {c : Nat} {xs : List α} {k : Int} (h : Sp.smallW c xs k = true) : 0 ≤ k ∧ k + c * (xs.length : Int) ≤ 4611686018427387904 := by
  cases k with
  | ofNat n =>
    have h1 : n + c * xs.length ≤ 4611686018427387904 := of_decide_eq_true h
    refine ⟨Int.natCast_nonneg n, ?_⟩
    show (n : Int) + c * (xs.length : Int) ≤ 4611686018427387904
    rw [← Int.natCast_mul]
    omega
  | negSucc n => cases h
theorem smallW_mk {α : Type} {c : Nat} {xs : List α} {k : Int} (h1 : 0 ≤ k) (h2 : k.toNat + c * xs.length ≤ 4611686018427387904) : Sp.smallW c xs k = true := by
  cases k with
  | ofNat n => exact decide_eq_true h2
  | negSucc n => exact absurd h1 (by omega)
theorem eqW_len {α β : Type} {q : α → β → Bool} : ∀ {xs : List α} {ys : List β}, xs.length ≠ ys.length → Sp.eqW q xs ys = false
  | [], [], h => absurd rfl h
  | [], _ :: _, _ => rfl
  | _ :: _, [], _ => rfl
  | x :: r, y :: s, h => by
    unfold Sp.eqW
    rw [eqW_len (xs := r) (ys := s) (fun e => h (by simp [e]))]
    cases !q x y <;> rfl
theorem eqW_self {α : Type} {q : α → α → Bool} (h : ∀ x, q x x = true) : ∀ xs : List α, Sp.eqW q xs xs = true
  | [] => rfl
  | x :: r => by unfold Sp.eqW; rw [h, eqW_self h r]; rfl
theorem markW_len {α : Type} (g : α → Int → α) (c : Int) : ∀ (xs : List α) (k : Int), (Sp.markW g c xs k).length = xs.length
  | [], _ => rfl
  | x :: r, k => by rw [Sp.markW, List.length_cons, List.length_cons, markW_len g c r]
theorem heldW_mark {α : Type} {g : α → Int → α} {p : α → Int → Bool} {c : Int} (h : ∀ x k, p (g x k) k = true) : ∀ (xs : List α) (k : Int), Sp.heldW p c (Sp.markW g c xs k) k = Sp.addW c xs k
  | [], k => by simp [Sp.heldW, Sp.markW, Sp.addW]
  | x :: r, k => by
    rw [Sp.markW, Sp.heldW, h, cond_true, heldW_mark h r]
    unfold Sp.addW
    rw [List.length_cons, Int.natCast_add, Int.natCast_one, Int.mul_add, Int.mul_one]
    omega
theorem allW_mem {α : Type} {p : α → Bool} : ∀ {xs : List α}, Sp.allW p xs = true ↔ ∀ x ∈ xs, p x = true
  | [] => by simp [Sp.allW]
  | x :: r => by
    unfold Sp.allW
    cases h : p x with
    | true => simp [h, allW_mem (xs := r)]
    | false => simp [h]
/-! How such loops end. -/
theorem eq_loop {α : Type} {ρ : Type} {q : α → α → Bool} {R : Bool → ρ} (xs ys : List α) (L : Nat → Int → Option ρ) (hy : xs.length = ys.length)
    (hend : ∀ m (k : Nat), xs.length ≤ k → L (m + 1) k = some (R true))
    (hstep : ∀ m (k : Nat) (h : k < xs.length) (h2 : k < ys.length), L (m + 1) k = bif !q xs[k] ys[k] then some (R false) else L m ((k + 1 : Nat) : Int)) :
    ∀ (d k m : Nat), k + d = xs.length → d < m → L m k = some (R (Sp.eqW q (xs.drop k) (ys.drop k))) := by
  intro d
  induction d with
  | zero =>
    intro k m hk hm
    obtain ⟨m, rfl⟩ := succ_of hm
    rw [hend m k (by omega), List.drop_of_length_le (by omega), List.drop_of_length_le (by omega)]
    rfl
  | succ d ih =>
    intro k m hk hm
    obtain ⟨m, rfl⟩ := succ_of hm
    rw [hstep m k (by omega) (by omega), ih (k + 1) m (by omega) (by omega), List.drop_eq_getElem_cons (show k < xs.length by omega), List.drop_eq_getElem_cons (show k < ys.length by omega)]
    rw [Sp.eqW]
    cases !q xs[k] ys[k] <;> rfl
theorem all_loop {α : Type} {ρ : Type} {p : α → Bool} {R : Bool → ρ} (xs : List α) (L : Nat → Int → Option ρ)
    (hend : ∀ m (k : Nat), xs.length ≤ k → L (m + 1) k = some (R true))
    (hstep : ∀ m (k : Nat) (h : k < xs.length), L (m + 1) k = bif !p xs[k] then some (R false) else L m ((k + 1 : Nat) : Int)) :
    ∀ (d k m : Nat), k + d = xs.length → d < m → L m k = some (R (Sp.allW p (xs.drop k))) := by
  intro d
  induction d with
  | zero =>
    intro k m hk hm
    obtain ⟨m, rfl⟩ := succ_of hm
    rw [hend m k (by omega), List.drop_of_length_le (by omega)]
    rfl
  | succ d ih =>
    intro k m hk hm
    obtain ⟨m, rfl⟩ := succ_of hm
    rw [hstep m k (by omega), ih (k + 1) m (by omega) (by omega), List.drop_eq_getElem_cons (show k < xs.length by omega)]
    rw [Sp.allW]
    cases !p xs[k] <;> rfl
theorem idx_loop {α : Type} {ρ : Type} {p : α → Bool} {R : Int → ρ} (xs : List α) (L : Nat → Int → Option ρ)
    (hend : ∀ m (k : Nat), xs.length ≤ k → L (m + 1) k = some (R (-1)))
    (hstep : ∀ m (k : Nat) (h : k < xs.length), L (m + 1) k = bif p xs[k] then some (R k) else L m ((k + 1 : Nat) : Int)) :
    ∀ (d k m : Nat), k + d = xs.length → d < m → L m k = some (R (Sp.idx p (xs.drop k) k)) := by
  intro d
  induction d with
  | zero =>
    intro k m hk hm
    obtain ⟨m, rfl⟩ := succ_of hm
    rw [hend m k (by omega), List.drop_of_length_le (by omega)]
    rfl
  | succ d ih =>
    intro k m hk hm
    obtain ⟨m, rfl⟩ := succ_of hm
    rw [hstep m k (by omega), ih (k + 1) m (by omega) (by omega), List.drop_eq_getElem_cons (show k < xs.length by omega)]
    rw [Sp.idx]
    rw [show ((k + 1 : Nat) : Int) = (k : Int) + 1 by omega]
    cases p xs[k] <;> rfl
theorem held_loop {α : Type} {ρ : Type} {p : α → Int → Bool} {c : Nat} {R : Int → ρ} (xs : List α) (L : Nat → Int → Int → Option ρ)
    (hend : ∀ m (v : Int) (k : Nat), xs.length ≤ k → L (m + 1) v k = some (R v))
    (hstep : ∀ m (v : Int) (k : Nat) (h : k < xs.length), 0 ≤ v → v + c ≤ 4611686018427387904 → L (m + 1) v k = bif p xs[k] v then L m (v + c) ((k + 1 : Nat) : Int) else some (R (-1))) :
    ∀ (d k m : Nat) (v : Int), k + d = xs.length → d < m → 0 ≤ v → v + c * (d : Int) ≤ 4611686018427387904 → L m v k = some (R (Sp.heldW p c (xs.drop k) v)) := by
  intro d
  induction d with
  | zero =>
    intro k m v hk hm h0 h1
    obtain ⟨m, rfl⟩ := succ_of hm
    rw [hend m v k (by omega), List.drop_of_length_le (by omega)]
    rfl
  | succ d ih =>
    intro k m v hk hm h0 h1
    obtain ⟨m, rfl⟩ := succ_of hm
    rw [Int.natCast_add, Int.natCast_one, Int.mul_add, Int.mul_one] at h1
    have hp : (0 : Int) ≤ c * (d : Int) := Int.mul_nonneg (Int.natCast_nonneg _) (Int.natCast_nonneg _)
    have hc : (0 : Int) ≤ c := Int.natCast_nonneg _
    rw [hstep m v k (by omega) h0 (by omega), ih (k + 1) m (v + c) (by omega) (by omega) (by omega) (by omega), List.drop_eq_getElem_cons (show k < xs.length by omega)]
    rw [Sp.heldW]
    cases p xs[k] v <;> rfl
theorem mark_loop {α : Type} {ρ : Type} {g : α → Int → α} {c : Nat} {R : Int → List α → ρ} (L : Nat → Int → Int → List α → Option ρ)
    (hend : ∀ m (v : Int) (k : Nat) acc, acc.length ≤ k → L (m + 1) v k acc = some (R v acc))
    (hstep : ∀ m (v : Int) (k : Nat) acc (h : k < acc.length), acc.length ≤ 9223372036854775807 → 0 ≤ v → v + c ≤ 4611686018427387904 → L (m + 1) v k acc = L m (v + c) ((k + 1 : Nat) : Int) (acc.set k (g acc[k] v))) :
    ∀ (d k m : Nat) (v : Int) (acc : List α), k + d = acc.length → d < m → acc.length ≤ 9223372036854775807 → 0 ≤ v → v + c * (d : Int) ≤ 4611686018427387904 →
      L m v k acc = some (R (v + c * (d : Int)) (acc.take k ++ Sp.markW g c (acc.drop k) v)) := by
  intro d
  induction d with
  | zero =>
    intro k m v acc hk hm hlen h0 h1
    obtain ⟨m, rfl⟩ := succ_of hm
    rw [hend m v k acc (by omega), List.drop_of_length_le (by omega), List.take_of_length_le (by omega)]
    simp [Sp.markW]
  | succ d ih =>
    intro k m v acc hk hm hlen h0 h1
    obtain ⟨m, rfl⟩ := succ_of hm
    rw [Int.natCast_add, Int.natCast_one, Int.mul_add, Int.mul_one] at h1
    have hp : (0 : Int) ≤ c * (d : Int) := Int.mul_nonneg (Int.natCast_nonneg _) (Int.natCast_nonneg _)
    have hc : (0 : Int) ≤ c := Int.natCast_nonneg _
    have hlt : k < acc.length := by omega
    rw [hstep m v k acc hlt hlen h0 (by omega), ih (k + 1) m (v + c) _ (by rw [List.length_set]; omega) (by omega) (by rw [List.length_set]; exact hlen) (by omega) (by omega)]
    have e : (acc.set k (g acc[k] v)).take (k + 1) = acc.take k ++ [g acc[k] v] := by
      rw [List.take_set, List.take_succ_eq_append_getElem (by omega)]
      rw [List.set_append_right _ _ (by simp; omega)]
      simp [Nat.min_eq_left (show k ≤ acc.length by omega)]
    have e2 : (acc.set k (g acc[k] v)).drop (k + 1) = acc.drop (k + 1) := by rw [List.drop_set_of_lt (by omega)]
    rw [e, e2, List.append_assoc, List.drop_eq_getElem_cons hlt]
    simp only [Sp.markW, List.singleton_append]
    rw [Int.natCast_add, Int.natCast_one, Int.mul_add, Int.mul_one, show v + c + c * (d : Int) = v + (c * (d : Int) + c) by omega]
theorem getD_nat {α : Type} (xs : List α) (k : Nat) (d : α) (h : k < xs.length) : xs.getD (k : Int).toNat d = xs[k] := by
  rw [Int.toNat_natCast, List.getD, List.getElem?_eq_getElem h, Option.getD_some]
theorem guard2 {k n : Nat} (h : k < n) : (decide ((0 : Int) ≤ (k : Int)) && decide ((k : Int) < (n : Int))) = true := by
  rw [decide_eq_true (show (0 : Int) ≤ k by omega), decide_eq_true (show (k : Int) < n by omega)]; rfl
theorem guard0 {k : Nat} : (decide ((0 : Int) ≤ (k : Int)) && true) = true := by
  rw [decide_eq_true (show (0 : Int) ≤ k by omega)]; rfl
theorem getD_set {α : Type} {l : List α} {k : Nat} {y d : α} (h : k < l.length) : (l.set k y).getD k d = y := by
  rw [List.getD, List.getElem?_set_self h, Option.getD_some]
theorem next64 {k n : Nat} (h : k < n) (h2 : n ≤ 9223372036854775807) : IntKind.i64.wrap ((k : Int) + 1) = ((k + 1 : Nat) : Int) := by
  rw [wrap64 (by omega) (by omega)]; omega
theorem nat_lt {k n : Nat} (h : k < n) : decide ((k : Int) < (n : Int)) = true := decide_eq_true (by omega)
theorem nat_ge {k n : Nat} (h : n ≤ k) : decide ((k : Int) < (n : Int)) = false := decide_eq_false (by omega)
end Go.Proofs.GR.T
set_option maxRecDepth 100000
namespace Go.Proofs.GR.T
open Go Go.Proofs Go.Proofs.GR
abbrev tV : Ty := .pair (.int .i64) (.pair (.int .i64) .str)
def Sp.eqV (x y : V3) : Bool := (Sp.f86 x.1 x.2.1 x.2.2 y.1 y.2.1 y.2.2).1
def Sp.markV (_ : V3) (k : Int) : V3 := (k, k + 1, Sp.mText (k + 2))
def Sp.heldV (x : V3) (k : Int) : Bool := bif x.1 != k then false else bif x.2.1 != k + 1 then false else x.2.2.toList == (Sp.mText (k + 2)).toList
noncomputable def f44_L0 (n m0 : Nat) (y0 : List (Int × Int × ByteArray)) (y1 : List (Int × Int × ByteArray)) (y2 : Int) : Option Res := loopAt Γ (orc [e86]) n (44 : Nat) (0 : Nat) [] [Pth.r, Pth.r, Pth.l, Pth.r, Pth.b] m0 (St.mk [Slot.val (Val.one (Cell.dat ((Ty.int IntKind.i64).pair ((Ty.int IntKind.i64).pair Ty.str)).slice y0)), Slot.val (Val.one (Cell.dat ((Ty.int IntKind.i64).pair ((Ty.int IntKind.i64).pair Ty.str)).slice y1)), Slot.nix, Slot.nix, Slot.nix, Slot.val (Val.one (Cell.dat (Ty.int IntKind.i64) y2)), Slot.nix, Slot.nix, Slot.nix, Slot.nix, Slot.nix, Slot.nix, Slot.nix, Slot.nix, Slot.nix, Slot.nix, Slot.nix, Slot.nix, Slot.nix, Slot.nix, Slot.nix, Slot.nix, Slot.nix, Slot.nix, Slot.nix, Slot.nix, Slot.nix] [])
theorem f44_L0_step (n m0 : Nat) (y0 : List (Int × Int × ByteArray)) (y1 : List (Int × Int × ByteArray)) (y2 : Int) : f44_L0 n (m0 + 1) y0 y1 y2 = bif decide (y2 < (↑y0.length : Int)) then chk (decide ((0 : Int) ≤ y2) && decide (y2 < (↑y0.length : Int))) (chk (decide ((0 : Int) ≤ y2) && decide (y2 < (↑y1.length : Int))) (bif !(Sp.f86 (y0.getD y2.toNat ((0 : Int), (0 : Int), ByteArray.mk #[])).1 (y0.getD y2.toNat ((0 : Int), (0 : Int), ByteArray.mk #[])).2.1 (y0.getD y2.toNat ((0 : Int), (0 : Int), ByteArray.mk #[])).2.2 (y1.getD y2.toNat ((0 : Int), (0 : Int), ByteArray.mk #[])).1 (y1.getD y2.toNat ((0 : Int), (0 : Int), ByteArray.mk #[])).2.1 (y1.getD y2.toNat ((0 : Int), (0 : Int), ByteArray.mk #[])).2.2).1 then some (Res.mk [XV.mk false [X.c (X0.dat Ty.bool false)]] []) else f44_L0 n m0 y0 y1 (IntKind.i64.wrap (y2 + (1 : Int))))) else some (Res.mk [XV.mk false [X.c (X0.dat Ty.bool true)]] []) := by kernel_rfl
theorem f44_raw (n : Nat) (x0 : List (Int × Int × ByteArray)) (x1 : List (Int × Int × ByteArray)) : abody Γ (orc [e86]) n 44 [XV.mk false [X.c (X0.dat ((Ty.int IntKind.i64).pair ((Ty.int IntKind.i64).pair Ty.str)).slice x0)], XV.mk false [X.c (X0.dat ((Ty.int IntKind.i64).pair ((Ty.int IntKind.i64).pair Ty.str)).slice x1)]] = bif (↑x0.length : Int) != (↑x1.length : Int) then some (Res.mk [XV.mk false [X.c (X0.dat Ty.bool false)]] []) else f44_L0 n n x0 x1 (0 : Int) := by kernel_rfl

noncomputable def e44 : Ent := { f := 44, ins := [Sh.one (C0.dat (.slice tV)), Sh.one (C0.dat (.slice tV))], outs := [Sh.one cB], upd := [], pre := fun a => true, spec := fun a => Sp.eqW Sp.eqV a.1 a.2, wrt := fun _ => () }
theorem e44_core (xs ys : List V3) (h1 : xs.length ≤ maxLen) : ∃ n, abody Γ (orc [e86]) n 44 [XV.mk false [X.c (X0.dat (Ty.slice tV) xs)], XV.mk false [X.c (X0.dat (Ty.slice tV) ys)]] = some (rBo (Sp.eqW Sp.eqV xs ys)) := by
  have h1 : xs.length ≤ 9223372036854775807 := h1
  refine ⟨xs.length + 1, (f44_raw _ xs ys).trans ?_⟩
  by_cases he : xs.length = ys.length
  · rw [show ((xs.length : Int) != (ys.length : Int)) = false by simp [he], cond_false]
    refine eq_loop xs ys (fun m k => f44_L0 _ m xs ys k) he (fun m k hk => ?_) (fun m k h h2 => ?_) xs.length 0 _ (Nat.zero_add _) (Nat.lt_succ_self _)
    · show f44_L0 _ _ _ _ _ = _
      rw [f44_L0_step, nat_ge hk, cond_false]
    · show f44_L0 _ _ _ _ _ = _
      rw [f44_L0_step, nat_lt h, cond_true, guard0, chkT, guard2 h2, chkT, getD_nat xs k _ h, getD_nat ys k _ h2, next64 h2 (by omega)]
      rfl
  · rw [show ((xs.length : Int) != (ys.length : Int)) = true by simp; omega, eqW_len he]
    rfl
theorem e44_ok : Valid Try.prog Γ e44 := valid_len ok (vcons e86_ok vnil) fun a _ hl => e44_core a.1 a.2 (hl _ (List.mem_cons_self) _ (List.mem_cons_self)).1
noncomputable def f45_L0 (n m0 : Nat) (y0 : Int) (y1 : Int) (y2 : List (Int × Int × ByteArray)) : Option Res := loopAt Γ (orc [e75]) n (45 : Nat) (1 : Nat) [(0 : Nat)] [Pth.r, Pth.l, Pth.r, Pth.b] m0 (St.mk [Slot.val (Val.one (Cell.own (0 : Nat))), Slot.val (Val.one (Cell.dat (Ty.int IntKind.i64) y0)), Slot.nix, Slot.nix, Slot.nix, Slot.val (Val.one (Cell.dat (Ty.int IntKind.i64) y1)), Slot.nix, Slot.nix, Slot.nix, Slot.nix, Slot.nix, Slot.nix, Slot.nix, Slot.nix, Slot.nix, Slot.nix, Slot.nix, Slot.nix, Slot.nix, Slot.nix, Slot.nix, Slot.nix, Slot.nix, Slot.nix, Slot.nix, Slot.nix, Slot.nix, Slot.nix, Slot.nix, Slot.nix, Slot.nix, Slot.nix, Slot.nix, Slot.nix, Slot.nix] [AObj.row ((Ty.int IntKind.i64).pair ((Ty.int IntKind.i64).pair Ty.str)) y2 true])
theorem f45_L0_step (n m0 : Nat) (y0 : Int) (y1 : Int) (y2 : List (Int × Int × ByteArray)) : f45_L0 n (m0 + 1) y0 y1 y2 = bif decide (y1 < (↑y2.length : Int)) then chk (decide ((0 : Int) ≤ y1) && decide (y1 < (↑y2.length : Int))) (chk (decide ((0 : Int) ≤ y1) && decide (y1 < (↑(y2.set y1.toNat (y0, (y2.getD y1.toNat ((0 : Int), (0 : Int), ByteArray.mk #[])).2)).length : Int))) (chk (Sp.mOK (IntKind.i64.wrap (IntKind.i64.wrap (y0 + (1 : Int)) + (1 : Int)))) (chk (decide ((0 : Int) ≤ y1) && decide (y1 < (↑((y2.set y1.toNat (y0, (y2.getD y1.toNat ((0 : Int), (0 : Int), ByteArray.mk #[])).2)).set y1.toNat (((y2.set y1.toNat (y0, (y2.getD y1.toNat ((0 : Int), (0 : Int), ByteArray.mk #[])).2)).getD y1.toNat ((0 : Int), (0 : Int), ByteArray.mk #[])).1, IntKind.i64.wrap (y0 + (1 : Int)), ((y2.set y1.toNat (y0, (y2.getD y1.toNat ((0 : Int), (0 : Int), ByteArray.mk #[])).2)).getD y1.toNat ((0 : Int), (0 : Int), ByteArray.mk #[])).2.2)).length : Int))) (f45_L0 n m0 (IntKind.i64.wrap (IntKind.i64.wrap (IntKind.i64.wrap (y0 + (1 : Int)) + (1 : Int)) + (1 : Int))) (IntKind.i64.wrap (y1 + (1 : Int))) (((y2.set y1.toNat (y0, (y2.getD y1.toNat ((0 : Int), (0 : Int), ByteArray.mk #[])).2)).set y1.toNat (((y2.set y1.toNat (y0, (y2.getD y1.toNat ((0 : Int), (0 : Int), ByteArray.mk #[])).2)).getD y1.toNat ((0 : Int), (0 : Int), ByteArray.mk #[])).1, IntKind.i64.wrap (y0 + (1 : Int)), ((y2.set y1.toNat (y0, (y2.getD y1.toNat ((0 : Int), (0 : Int), ByteArray.mk #[])).2)).getD y1.toNat ((0 : Int), (0 : Int), ByteArray.mk #[])).2.2)).set y1.toNat ((((y2.set y1.toNat (y0, (y2.getD y1.toNat ((0 : Int), (0 : Int), ByteArray.mk #[])).2)).set y1.toNat (((y2.set y1.toNat (y0, (y2.getD y1.toNat ((0 : Int), (0 : Int), ByteArray.mk #[])).2)).getD y1.toNat ((0 : Int), (0 : Int), ByteArray.mk #[])).1, IntKind.i64.wrap (y0 + (1 : Int)), ((y2.set y1.toNat (y0, (y2.getD y1.toNat ((0 : Int), (0 : Int), ByteArray.mk #[])).2)).getD y1.toNat ((0 : Int), (0 : Int), ByteArray.mk #[])).2.2)).getD y1.toNat ((0 : Int), (0 : Int), ByteArray.mk #[])).1, (((y2.set y1.toNat (y0, (y2.getD y1.toNat ((0 : Int), (0 : Int), ByteArray.mk #[])).2)).set y1.toNat (((y2.set y1.toNat (y0, (y2.getD y1.toNat ((0 : Int), (0 : Int), ByteArray.mk #[])).2)).getD y1.toNat ((0 : Int), (0 : Int), ByteArray.mk #[])).1, IntKind.i64.wrap (y0 + (1 : Int)), ((y2.set y1.toNat (y0, (y2.getD y1.toNat ((0 : Int), (0 : Int), ByteArray.mk #[])).2)).getD y1.toNat ((0 : Int), (0 : Int), ByteArray.mk #[])).2.2)).getD y1.toNat ((0 : Int), (0 : Int), ByteArray.mk #[])).2.1, Sp.mText (IntKind.i64.wrap (IntKind.i64.wrap (y0 + (1 : Int)) + (1 : Int))))))))) else some (Res.mk [XV.mk false [X.c (X0.dat (Ty.int IntKind.i64) y0)]] [X.c (X0.row ((Ty.int IntKind.i64).pair ((Ty.int IntKind.i64).pair Ty.str)) y2 true)]) := by kernel_rfl
theorem f45_raw (n : Nat) (x0 : List (Int × Int × ByteArray)) (x1 : Int) : abody Γ (orc [e75]) n 45 [XV.mk false [X.c (X0.row ((Ty.int IntKind.i64).pair ((Ty.int IntKind.i64).pair Ty.str)) x0 true)], XV.mk false [X.c (X0.dat (Ty.int IntKind.i64) x1)]] = f45_L0 n n x1 (0 : Int) x0 := by kernel_rfl

noncomputable def e45 : Ent := { f := 45, ins := [Sh.one (C0.row tV), Sh.one cI], outs := [Sh.one cI], upd := [Sh.one (C0.row tV)], pre := fun a => Sp.smallW (α := V3) 3 a.1 a.2, spec := fun a => Sp.addW (α := V3) 3 a.1 a.2, wrt := fun a => Sp.markW Sp.markV 3 a.1 a.2 }
abbrev rMk (τ : Ty) (v : Int) (xs : List τ.den) : Res := Res.mk [XV.mk false [X.c (X0.dat (Ty.int IntKind.i64) v)]] [X.c (X0.row τ xs true)]
theorem mOK_of {k : Int} (h : k ≤ 4611686018427387904) : Sp.mOK k = true := decide_eq_true (by omega)
theorem e45_core (xs : List V3) (v : Int) (ha : Sp.smallW 3 xs v = true) (hl : xs.length ≤ maxLen) : ∃ n, abody Γ (orc [e75]) n 45 [XV.mk false [X.c (X0.row tV xs true)], XV.mk false [X.c (X0.dat (Ty.int IntKind.i64) v)]] = some (rMk tV (Sp.addW 3 xs v) (Sp.markW Sp.markV 3 xs v)) := by
  obtain ⟨h1, h2⟩ := smallW_of ha
  have hl : xs.length ≤ 9223372036854775807 := hl
  refine ⟨xs.length + 1, (f45_raw _ xs v).trans ?_⟩
  refine mark_loop (c := 3) (g := Sp.markV) (R := rMk tV) (fun m v k acc => f45_L0 (xs.length + 1) m v k acc) (fun m v k acc hk => ?_) (fun m v k acc h hlen h0 h1 => ?_) xs.length 0 _ v xs (Nat.zero_add _) (Nat.lt_succ_self _) hl h1 h2
  · show f45_L0 _ _ _ _ _ = _
    rw [f45_L0_step, nat_ge hk, cond_false]
  · show f45_L0 _ _ _ _ _ = _
    have e1 : IntKind.i64.wrap (v + 1) = v + 1 := wrap64 (by omega) (by omega)
    have e2 : IntKind.i64.wrap (v + 1 + 1) = v + 2 := (wrap64 (by omega) (by omega)).trans (by omega)
    have e3 : IntKind.i64.wrap (v + 2 + 1) = v + (3 : Nat) := (wrap64 (by omega) (by omega)).trans (by omega)
    rw [f45_L0_step, List.length_set, List.length_set, List.length_set, nat_lt h, cond_true, guard0, chkT, chkT, e1, e2, e3, mOK_of (by omega), chkT, chkT, next64 h hlen]
    rw [Int.toNat_natCast]
    simp only [List.set_set]
    rw [getD_set h, getD_set h]
    rfl
theorem e45_ok : Valid Try.prog Γ e45 := valid_len ok (vcons e75_ok vnil) fun a ha hl => e45_core a.1 a.2 ha (hl _ (List.mem_cons_self) _ (List.mem_cons_self)).1
noncomputable def f46_L0 (n m0 : Nat) (y0 : List (Int × Int × ByteArray)) (y1 : Int) (y2 : Int) : Option Res := loopAt Γ (orc [e75]) n (46 : Nat) (0 : Nat) [] [Pth.r, Pth.l, Pth.r, Pth.b] m0 (St.mk [Slot.val (Val.one (Cell.dat ((Ty.int IntKind.i64).pair ((Ty.int IntKind.i64).pair Ty.str)).slice y0)), Slot.val (Val.one (Cell.dat (Ty.int IntKind.i64) y1)), Slot.nix, Slot.nix, Slot.nix, Slot.val (Val.one (Cell.dat (Ty.int IntKind.i64) y2)), Slot.nix, Slot.nix, Slot.nix, Slot.nix, Slot.nix, Slot.nix, Slot.nix, Slot.nix, Slot.nix, Slot.nix, Slot.nix, Slot.nix, Slot.nix, Slot.nix, Slot.nix, Slot.nix, Slot.nix, Slot.nix, Slot.nix, Slot.nix, Slot.nix, Slot.nix, Slot.nix, Slot.nix, Slot.nix, Slot.nix, Slot.nix, Slot.nix, Slot.nix, Slot.nix, Slot.nix, Slot.nix, Slot.nix, Slot.nix, Slot.nix] [])
theorem f46_L0_step (n m0 : Nat) (y0 : List (Int × Int × ByteArray)) (y1 : Int) (y2 : Int) : f46_L0 n (m0 + 1) y0 y1 y2 = bif decide (y2 < (↑y0.length : Int)) then chk (decide ((0 : Int) ≤ y2) && decide (y2 < (↑y0.length : Int))) (bif (y0.getD y2.toNat ((0 : Int), (0 : Int), ByteArray.mk #[])).1 != y1 then some (Res.mk [XV.mk false [X.c (X0.dat (Ty.int IntKind.i64) (-1 : Int))]] []) else chk (decide ((0 : Int) ≤ y2) && decide (y2 < (↑y0.length : Int))) (bif (y0.getD y2.toNat ((0 : Int), (0 : Int), ByteArray.mk #[])).2.1 != IntKind.i64.wrap (y1 + (1 : Int)) then some (Res.mk [XV.mk false [X.c (X0.dat (Ty.int IntKind.i64) (-1 : Int))]] []) else chk (decide ((0 : Int) ≤ y2) && decide (y2 < (↑y0.length : Int))) (chk (Sp.mOK (IntKind.i64.wrap (IntKind.i64.wrap (y1 + (1 : Int)) + (1 : Int)))) (bif !(y0.getD y2.toNat ((0 : Int), (0 : Int), ByteArray.mk #[])).2.2.toList == (Sp.mText (IntKind.i64.wrap (IntKind.i64.wrap (y1 + (1 : Int)) + (1 : Int)))).toList then some (Res.mk [XV.mk false [X.c (X0.dat (Ty.int IntKind.i64) (-1 : Int))]] []) else f46_L0 n m0 y0 (IntKind.i64.wrap (IntKind.i64.wrap (IntKind.i64.wrap (y1 + (1 : Int)) + (1 : Int)) + (1 : Int))) (IntKind.i64.wrap (y2 + (1 : Int))))))) else some (Res.mk [XV.mk false [X.c (X0.dat (Ty.int IntKind.i64) y1)]] []) := by kernel_rfl
theorem f46_raw (n : Nat) (x0 : List (Int × Int × ByteArray)) (x1 : Int) : abody Γ (orc [e75]) n 46 [XV.mk false [X.c (X0.dat ((Ty.int IntKind.i64).pair ((Ty.int IntKind.i64).pair Ty.str)).slice x0)], XV.mk false [X.c (X0.dat (Ty.int IntKind.i64) x1)]] = f46_L0 n n x0 x1 (0 : Int) := by kernel_rfl

noncomputable def e46 : Ent := { f := 46, ins := [Sh.one (C0.dat (.slice tV)), Sh.one cI], outs := [Sh.one cI], upd := [], pre := fun a => Sp.smallW (α := V3) 3 a.1 a.2, spec := fun a => Sp.heldW Sp.heldV 3 a.1 a.2, wrt := fun _ => () }
theorem e46_core (xs : List V3) (v : Int) (ha : Sp.smallW 3 xs v = true) (hl : xs.length ≤ maxLen) : ∃ n, abody Γ (orc [e75]) n 46 [XV.mk false [X.c (X0.dat (Ty.slice tV) xs)], XV.mk false [X.c (X0.dat (Ty.int IntKind.i64) v)]] = some (rI (Sp.heldW Sp.heldV 3 xs v)) := by
  obtain ⟨h1, h2⟩ := smallW_of ha
  have hl : xs.length ≤ 9223372036854775807 := hl
  refine ⟨xs.length + 1, (f46_raw _ xs v).trans ?_⟩
  refine held_loop (c := 3) (p := Sp.heldV) (R := rI) xs (fun m v k => f46_L0 (xs.length + 1) m xs v k) (fun m v k hk => ?_) (fun m v k h h0 h1 => ?_) xs.length 0 _ v (Nat.zero_add _) (Nat.lt_succ_self _) h1 h2
  · show f46_L0 _ _ _ _ _ = _
    rw [f46_L0_step, nat_ge hk, cond_false]
  · show f46_L0 _ _ _ _ _ = _
    have e1 : IntKind.i64.wrap (v + 1) = v + 1 := wrap64 (by omega) (by omega)
    have e2 : IntKind.i64.wrap (v + 1 + 1) = v + 2 := (wrap64 (by omega) (by omega)).trans (by omega)
    have e3 : IntKind.i64.wrap (v + 2 + 1) = v + (3 : Nat) := (wrap64 (by omega) (by omega)).trans (by omega)
    rw [f46_L0_step, nat_lt h, cond_true, guard0, chkT, chkT, chkT, e1, e2, e3, mOK_of (by omega), chkT, next64 h hl, getD_nat xs k _ h]
    unfold Sp.heldV
    cases xs[k].1 != v <;> cases xs[k].2.1 != v + 1 <;> cases xs[k].2.2.toList == (Sp.mText (v + 2)).toList <;> rfl
theorem e46_ok : Valid Try.prog Γ e46 := valid_len ok (vcons e75_ok vnil) fun a ha hl => e46_core a.1 a.2 ha (hl _ (List.mem_cons_self) _ (List.mem_cons_self)).1
def Sp.vOK (x : V3) : Bool := (Sp.f136 x.1 x.2.1 x.2.2).1
def Sp.rowOK (xs : List V3) : Bool := bif decide ((xs.length : Int) > 8) then false else Sp.allW Sp.vOK xs
noncomputable def f92_L0 (n m0 : Nat) (y0 : List (Int × Int × ByteArray)) (y1 : Int) : Option Res := loopAt Γ (orc [e136]) n (92 : Nat) (0 : Nat) [] [Pth.r, Pth.r, Pth.l, Pth.r, Pth.b] m0 (St.mk [Slot.val (Val.one (Cell.dat ((Ty.int IntKind.i64).pair ((Ty.int IntKind.i64).pair Ty.str)).slice y0)), Slot.nix, Slot.nix, Slot.val (Val.one (Cell.dat (Ty.int IntKind.i64) y1)), Slot.nix, Slot.nix, Slot.nix, Slot.nix, Slot.nix, Slot.nix, Slot.nix, Slot.nix, Slot.nix, Slot.nix, Slot.nix, Slot.nix, Slot.nix, Slot.nix, Slot.nix] [])
theorem f92_L0_step (n m0 : Nat) (y0 : List (Int × Int × ByteArray)) (y1 : Int) : f92_L0 n (m0 + 1) y0 y1 = bif decide (y1 < (↑y0.length : Int)) then chk (decide ((0 : Int) ≤ y1) && decide (y1 < (↑y0.length : Int))) (bif !(Sp.f136 (y0.getD y1.toNat ((0 : Int), (0 : Int), ByteArray.mk #[])).1 (y0.getD y1.toNat ((0 : Int), (0 : Int), ByteArray.mk #[])).2.1 (y0.getD y1.toNat ((0 : Int), (0 : Int), ByteArray.mk #[])).2.2).1 then some (Res.mk [XV.mk false [X.c (X0.dat Ty.bool false)]] []) else f92_L0 n m0 y0 (IntKind.i64.wrap (y1 + (1 : Int)))) else some (Res.mk [XV.mk false [X.c (X0.dat Ty.bool true)]] []) := by kernel_rfl
theorem f92_raw (n : Nat) (x0 : List (Int × Int × ByteArray)) : abody Γ (orc [e136]) n 92 [XV.mk false [X.c (X0.dat ((Ty.int IntKind.i64).pair ((Ty.int IntKind.i64).pair Ty.str)).slice x0)]] = bif decide ((↑x0.length : Int) > (8 : Int)) then some (Res.mk [XV.mk false [X.c (X0.dat Ty.bool false)]] []) else f92_L0 n n x0 (0 : Int) := by kernel_rfl

noncomputable def e92 : Ent := { f := 92, ins := [Sh.one (C0.dat (.slice tV))], outs := [Sh.one cB], upd := [], pre := fun a => true, spec := fun a => Sp.rowOK a, wrt := fun _ => () }
theorem e92_core (xs : List V3) (hl : xs.length ≤ maxLen) : ∃ n, abody Γ (orc [e136]) n 92 [XV.mk false [X.c (X0.dat (Ty.slice tV) xs)]] = some (rBo (Sp.rowOK xs)) := by
  have hl : xs.length ≤ 9223372036854775807 := hl
  refine ⟨xs.length + 1, (f92_raw _ xs).trans ?_⟩
  unfold Sp.rowOK
  cases decide ((xs.length : Int) > 8) with
  | true => rfl
  | false =>
    rw [cond_false, cond_false]
    refine all_loop (p := Sp.vOK) (R := rBo) xs (fun m k => f92_L0 (xs.length + 1) m xs k) (fun m k hk => ?_) (fun m k h => ?_) xs.length 0 _ (Nat.zero_add _) (Nat.lt_succ_self _)
    · show f92_L0 _ _ _ _ = _
      rw [f92_L0_step, nat_ge hk, cond_false]
    · show f92_L0 _ _ _ _ = _
      rw [f92_L0_step, nat_lt h, cond_true, guard0, chkT, getD_nat xs k _ h, next64 h hl]
      rfl
theorem e92_ok : Valid Try.prog Γ e92 := valid_len ok (vcons e136_ok vnil) fun a _ hl => e92_core a (hl _ (List.mem_cons_self) _ (List.mem_cons_self)).1
def Sp.badV (x : V3) : Bool := (Sp.f170 x.1 x.2.1 x.2.2).1
noncomputable def f193_L0 (n m0 : Nat) (y0 : List (Int × Int × ByteArray)) (y1 : Int) (y2 : Int) : Option Res := loopAt Γ (orc [e170]) n (193 : Nat) (0 : Nat) [] [Pth.r, Pth.l, Pth.r, Pth.b] m0 (St.mk [Slot.val (Val.one (Cell.dat ((Ty.int IntKind.i64).pair ((Ty.int IntKind.i64).pair Ty.str)).slice y0)), Slot.val (Val.one (Cell.fn (170 : Nat) [])), Slot.nix, Slot.nix, Slot.nix, Slot.nix, Slot.nix, Slot.val (Val.one (Cell.dat (Ty.int IntKind.i64) y1)), Slot.val (Val.one (Cell.dat (Ty.int IntKind.i64) y2)), Slot.nix, Slot.nix, Slot.nix, Slot.nix, Slot.nix, Slot.nix, Slot.nix, Slot.nix, Slot.nix, Slot.nix] [])
theorem f193_L0_step (n m0 : Nat) (y0 : List (Int × Int × ByteArray)) (y1 : Int) (y2 : Int) : f193_L0 n (m0 + 1) y0 y1 y2 = bif decide (y2 < y1) then chk (decide ((0 : Int) ≤ y2) && decide (y2 < (↑y0.length : Int))) (bif (Sp.f170 (y0.getD y2.toNat ((0 : Int), (0 : Int), ByteArray.mk #[])).1 (y0.getD y2.toNat ((0 : Int), (0 : Int), ByteArray.mk #[])).2.1 (y0.getD y2.toNat ((0 : Int), (0 : Int), ByteArray.mk #[])).2.2).1 then some (Res.mk [XV.mk false [X.c (X0.dat (Ty.int IntKind.i64) y2)]] []) else f193_L0 n m0 y0 y1 (IntKind.i64.wrap (y2 + (1 : Int)))) else some (Res.mk [XV.mk false [X.c (X0.dat (Ty.int IntKind.i64) (-1 : Int))]] []) := by kernel_rfl
theorem f193_raw (n : Nat) (x0 : List (Int × Int × ByteArray)) : abody Γ (orc [e170]) n 193 [XV.mk false [X.c (X0.dat ((Ty.int IntKind.i64).pair ((Ty.int IntKind.i64).pair Ty.str)).slice x0)], XV.mk false [X.c (X0.fn (170 : Nat) [])]] = f193_L0 n n x0 (↑x0.length : Int) (0 : Int) := by kernel_rfl

noncomputable def e193 : Ent := { f := 193, ins := [Sh.one (C0.dat (.slice tV)), Sh.one (C0.fn 170 [])], outs := [Sh.one cI], upd := [], pre := fun _ => true, spec := fun a => Sp.idx Sp.badV a.1 0, wrt := fun _ => () }
theorem e193_core (xs : List V3) (hl : xs.length ≤ maxLen) : ∃ n, abody Γ (orc [e170]) n 193 [XV.mk false [X.c (X0.dat (Ty.slice tV) xs)], XV.mk false [X.c (X0.fn 170 [])]] = some (rI (Sp.idx Sp.badV xs 0)) := by
  have hl : xs.length ≤ 9223372036854775807 := hl
  refine ⟨xs.length + 1, (f193_raw _ xs).trans ?_⟩
  refine idx_loop (p := Sp.badV) (R := rI) xs (fun m k => f193_L0 (xs.length + 1) m xs xs.length k) (fun m k hk => ?_) (fun m k h => ?_) xs.length 0 _ (Nat.zero_add _) (Nat.lt_succ_self _)
  · show f193_L0 _ _ _ _ _ = _
    rw [f193_L0_step, nat_ge hk, cond_false]
  · show f193_L0 _ _ _ _ _ = _
    rw [f193_L0_step, nat_lt h, cond_true, guard0, chkT, getD_nat xs k _ h, next64 h hl]
    rfl
theorem e193_ok : Valid Try.prog Γ e193 := valid_len ok (es := [e170]) (vcons e170_ok vnil) fun a _ hl => e193_core a.1 (hl _ (List.mem_cons_self) _ (List.mem_cons_self)).1
def Sp.f169_pre (x0 : List (Int × Int × ByteArray)) : Bool := true
def Sp.f169 (x0 : List (Int × Int × ByteArray)) := (decide (Sp.idx Sp.badV x0 (0 : Int) ≥ (0 : Int)), ())
noncomputable def e169 : Ent := { f := 169, ins := [Sh.one (C0.dat ((Ty.int IntKind.i64).pair ((Ty.int IntKind.i64).pair Ty.str)).slice), Sh.one (C0.fn (170 : Nat) [])], outs := [Sh.one (C0.dat Ty.bool)], upd := [], pre := fun a => true, spec := fun a => (Sp.f169 a.1).1, wrt := fun a => (Sp.f169 a.1).2 }
def f169_g (v : denS [Sh.one (C0.dat Ty.bool)] × denS []) : Res := ⟨mkS [Sh.one (C0.dat Ty.bool)] v.1, mkU [] v.2⟩
theorem f169_raw (x0 : List (Int × Int × ByteArray)) : abody Γ (orc [e193, e170]) 0 169 [XV.mk false [X.c (X0.dat ((Ty.int IntKind.i64).pair ((Ty.int IntKind.i64).pair Ty.str)).slice x0)], XV.mk false [X.c (X0.fn (170 : Nat) [])]] = some (Res.mk [XV.mk false [X.c (X0.dat Ty.bool (decide (Sp.idx Sp.badV x0 (0 : Int) ≥ (0 : Int))))]] []) := by kernel_rfl
theorem f169_form (x0 : List (Int × Int × ByteArray)) : (some (Res.mk [XV.mk false [X.c (X0.dat Ty.bool (decide (Sp.idx Sp.badV x0 (0 : Int) ≥ (0 : Int))))]] [])) = some (f169_g (Sp.f169 x0)) := by
  unfold Sp.f169
  exact rfl
theorem e169_ok : Valid Try.prog Γ e169 := valid_auto ok (vcons e193_ok (vcons e170_ok vnil)) fun a => (f169_raw a.1).trans (f169_form a.1)

def Sp.f132_pre (x0 : List (Int × Int × ByteArray)) : Bool := true
def Sp.f132 (x0 : List (Int × Int × ByteArray)) := (bif decide ((↑x0.length : Int) ≤ (8 : Int)) then (!(Sp.f169 x0).1, ()) else (false, ()))
noncomputable def e132 : Ent := { f := 132, ins := [Sh.one (C0.dat ((Ty.int IntKind.i64).pair ((Ty.int IntKind.i64).pair Ty.str)).slice)], outs := [Sh.one (C0.dat Ty.bool)], upd := [], pre := fun a => true, spec := fun a => (Sp.f132 a).1, wrt := fun a => (Sp.f132 a).2 }
def f132_g (v : denS [Sh.one (C0.dat Ty.bool)] × denS []) : Res := ⟨mkS [Sh.one (C0.dat Ty.bool)] v.1, mkU [] v.2⟩
theorem f132_raw (x0 : List (Int × Int × ByteArray)) : abody Γ (orc [e169, e170]) 0 132 [XV.mk false [X.c (X0.dat ((Ty.int IntKind.i64).pair ((Ty.int IntKind.i64).pair Ty.str)).slice x0)]] = bif decide ((↑x0.length : Int) ≤ (8 : Int)) then some (Res.mk [XV.mk false [X.c (X0.dat Ty.bool !(Sp.f169 x0).1)]] []) else some (Res.mk [XV.mk false [X.c (X0.dat Ty.bool false)]] []) := by kernel_rfl
theorem f132_form (x0 : List (Int × Int × ByteArray)) : (bif decide ((↑x0.length : Int) ≤ (8 : Int)) then some (Res.mk [XV.mk false [X.c (X0.dat Ty.bool !(Sp.f169 x0).1)]] []) else some (Res.mk [XV.mk false [X.c (X0.dat Ty.bool false)]] [])) = some (f132_g (Sp.f132 x0)) := by
  unfold Sp.f132
  exact (cond_plain f132_g (rfl) (rfl))
theorem e132_ok : Valid Try.prog Γ e132 := valid_auto ok (vcons e169_ok (vcons e170_ok vnil)) fun a => (f132_raw a).trans (f132_form a)

end Go.Proofs.GR.T
set_option maxRecDepth 100000
namespace Go.Proofs.GR.T
open Go Go.Proofs Go.Proofs.GR
theorem oneV_byte {b : List Int} {a : Int} {bad : Bool} (h : Sp.rdOK b a = true) : 0 ≤ Sp.oneV b a bad ∧ Sp.oneV b a bad < 256 := by
  obtain ⟨a0, a1, h2, h3⟩ := rdOK_of h
  unfold Sp.oneV
  cases bad with
  | true => exact ⟨Int.le_refl _, show (0 : Int) < 256 by decide⟩
  | false =>
    rw [cond_false]
    by_cases hc : a ≥ (b.length : Int)
    · rw [decide_eq_true hc]; exact ⟨Int.le_refl _, show (0 : Int) < 256 by decide⟩
    · have hlt : a.toNat < b.length := by omega
      rw [decide_eq_false hc, cond_false, List.getD, List.getElem?_eq_getElem hlt, Option.getD_some]
      exact isBytes_mem h3 (List.getElem_mem hlt)
theorem oneA_ok {b : List Int} {a : Int} {bad : Bool} (h : Sp.rdOK b a = true) : Sp.rdOK b (Sp.oneA b a bad) = true := by
  obtain ⟨a0, a1, h2, h3⟩ := rdOK_of h
  unfold Sp.oneA
  cases bad with
  | true => exact h
  | false =>
    rw [cond_false]
    by_cases hc : a ≥ (b.length : Int)
    · rw [decide_eq_true hc]; exact h
    · rw [decide_eq_false hc]; exact rdOK_mk (by rw [cond_false]; omega) (by rw [cond_false]; omega) h2 h3
theorem takeA_ok {b : List Int} {a n : Int} {bad : Bool} (h : Sp.rdOK b a = true) : Sp.rdOK b (Sp.takeA b a bad n) = true := by
  obtain ⟨a0, a1, h2, h3⟩ := rdOK_of h
  unfold Sp.takeA Sp.takeB
  cases bad with
  | true => exact h
  | false =>
    rw [cond_false]
    by_cases hc : n < 0
    · rw [decide_eq_true hc]; exact h
    · rw [decide_eq_false hc, cond_false]
      by_cases hd : a + n > (b.length : Int)
      · rw [decide_eq_true hd]; exact h
      · rw [decide_eq_false hd]; exact rdOK_mk (by rw [cond_false]; omega) (by rw [cond_false]; omega) h2 h3
theorem take8_ok {b : List Int} {a : Int} {bad : Bool} (h : Sp.rdOK b a = true) : Sp.has8 (Sp.takeV b a bad 8) = true := by
  obtain ⟨a0, a1, h2, h3⟩ := rdOK_of h
  have hz : Sp.has8 (List.replicate (maxI 0 (minI 8 8)).toNat 0) = true := by decide
  unfold Sp.takeV Sp.takeB
  cases bad with
  | true => exact hz
  | false =>
    rw [cond_false, decide_eq_false (show ¬ (8 : Int) < 0 by decide), cond_false]
    by_cases hd : a + 8 > (b.length : Int)
    · rw [decide_eq_true hd]; exact hz
    · rw [decide_eq_false hd, cond_false]
      unfold Sp.has8
      rw [isBytes_take (isBytes_drop h3 _) _, Nat.ble_eq_true_of_le (by rw [List.length_take, List.length_drop]; show 8 ≤ min 8 _; omega)]
      rfl
/-! A value of a row. -/
def Sp.rvV (b : List Int) (a : Int) (bad : Bool) : V3 :=
  bif Sp.oneV b a bad == 1 then (Sp.oneV b a bad, Sp.oneV b (Sp.oneA b a bad) (Sp.oneB b a bad), ByteArray.empty)
  else bif Sp.oneV b a bad == 2 then (Sp.oneV b a bad, Sp.of8 (Sp.takeV b (Sp.oneA b a bad) (Sp.oneB b a bad) 8), ByteArray.empty)
  else bif (bif Sp.oneV b a bad == 3 then true else Sp.oneV b a bad == 4) then (Sp.oneV b a bad, 0, bytesStr (Sp.takeV b (Sp.oneA b (Sp.oneA b a bad) (Sp.oneB b a bad)) (Sp.oneB b (Sp.oneA b a bad) (Sp.oneB b a bad)) (Sp.oneV b (Sp.oneA b a bad) (Sp.oneB b a bad))))
  else (Sp.oneV b a bad, 0, ByteArray.empty)
def Sp.rvA (b : List Int) (a : Int) (bad : Bool) : Int :=
  bif Sp.oneV b a bad == 1 then Sp.oneA b (Sp.oneA b a bad) (Sp.oneB b a bad)
  else bif Sp.oneV b a bad == 2 then Sp.takeA b (Sp.oneA b a bad) (Sp.oneB b a bad) 8
  else bif (bif Sp.oneV b a bad == 3 then true else Sp.oneV b a bad == 4) then Sp.takeA b (Sp.oneA b (Sp.oneA b a bad) (Sp.oneB b a bad)) (Sp.oneB b (Sp.oneA b a bad) (Sp.oneB b a bad)) (Sp.oneV b (Sp.oneA b a bad) (Sp.oneB b a bad))
  else Sp.oneA b a bad
def Sp.rvB (b : List Int) (a : Int) (bad : Bool) : Bool :=
  bif Sp.oneV b a bad == 1 then Sp.oneB b (Sp.oneA b a bad) (Sp.oneB b a bad)
  else bif Sp.oneV b a bad == 2 then Sp.takeB b (Sp.oneA b a bad) (Sp.oneB b a bad) 8
  else bif (bif Sp.oneV b a bad == 3 then true else Sp.oneV b a bad == 4) then Sp.takeB b (Sp.oneA b (Sp.oneA b a bad) (Sp.oneB b a bad)) (Sp.oneB b (Sp.oneA b a bad) (Sp.oneB b a bad)) (Sp.oneV b (Sp.oneA b a bad) (Sp.oneB b a bad))
  else Sp.oneB b a bad
theorem cond_all {α : Type} {P : α → Prop} {c : Bool} {x y : α} (h1 : P x) (h2 : P y) : P (bif c then x else y) := by cases c; exact h2; exact h1
theorem rvA_ok {b : List Int} {a : Int} {bad : Bool} (h : Sp.rdOK b a = true) : Sp.rdOK b (Sp.rvA b a bad) = true := by
  unfold Sp.rvA
  exact cond_all (P := fun z => Sp.rdOK b z = true) (oneA_ok (oneA_ok h)) (cond_all (P := fun z => Sp.rdOK b z = true) (takeA_ok (oneA_ok h)) (cond_all (P := fun z => Sp.rdOK b z = true) (takeA_ok (oneA_ok (oneA_ok h))) (oneA_ok h)))
def Sp.srow : Nat → List Int → Int → Bool → List V3 → List V3 × Int × Bool
  | 0, _, a, bad, out => (out, a, bad)
  | k + 1, b, a, bad, out => bif bad then (out, a, bad) else Sp.srow k b (Sp.rvA b a bad) (Sp.rvB b a bad) (out ++ [Sp.rvV b a bad])
abbrev rRow (b : List Int) (p : List V3 × Int × Bool) : Res := Res.mk [XV.mk false [X.c (X0.row tV p.1 true)]] [X.box (115 : Nat) [X0.dat (Ty.int IntKind.u8).slice b, X0.dat (Ty.int IntKind.i64) p.2.1, X0.dat Ty.bool (bif !Sp.rowOK p.1 then true else p.2.2)]]
noncomputable def f84_L0 (n m0 : Nat) (y0 : Int) (y1 : List Int) (y2 : Int) (y3 : Bool) (y4 : List (Int × Int × ByteArray)) : Option Res := loopAt Γ (orc [e128, e130, e129, e92]) n (84 : Nat) (1 : Nat) [(0 : Nat)] [Pth.r, Pth.r, Pth.l, Pth.r, Pth.b] m0 (St.mk [Slot.val (Val.one (Cell.ptr (0 : Nat) (0 : Nat))), Slot.nix, Slot.nix, Slot.val (Val.one (Cell.own (1 : Nat))), Slot.val (Val.one (Cell.dat (Ty.int IntKind.i64) y0)), Slot.nix, Slot.nix, Slot.nix, Slot.nix, Slot.nix, Slot.nix, Slot.nix, Slot.nix, Slot.nix, Slot.nix, Slot.nix, Slot.nix, Slot.nix, Slot.nix, Slot.nix, Slot.nix, Slot.nix, Slot.nix, Slot.nix, Slot.nix, Slot.nix, Slot.nix, Slot.nix, Slot.nix, Slot.nix, Slot.nix, Slot.nix, Slot.nix, Slot.nix, Slot.nix, Slot.nix, Slot.nix, Slot.nix, Slot.nix, Slot.nix, Slot.nix, Slot.nix, Slot.nix, Slot.nix, Slot.nix, Slot.nix, Slot.nix, Slot.nix, Slot.nix, Slot.nix, Slot.nix, Slot.nix, Slot.nix, Slot.nix, Slot.nix, Slot.nix] [AObj.box (115 : Nat) [Cell.dat (Ty.int IntKind.u8).slice y1, Cell.dat (Ty.int IntKind.i64) y2, Cell.dat Ty.bool y3], AObj.row ((Ty.int IntKind.i64).pair ((Ty.int IntKind.i64).pair Ty.str)) y4 true])
theorem f84_L0_step (n m0 : Nat) (y0 : Int) (y1 : List Int) (y2 : Int) (y3 : Bool) (y4 : List (Int × Int × ByteArray)) : f84_L0 n (m0 + 1) y0 y1 y2 y3 y4 = bif decide (y0 > (0 : Int)) then bif !y3 then chk (Sp.rdOK y1 y2) (bif Sp.oneV y1 y2 y3 == (1 : Int) then chk (Sp.rdOK y1 (Sp.oneA y1 y2 y3)) (chk (decide ((y4.length + [(Sp.oneV y1 y2 y3, Sp.oneV y1 (Sp.oneA y1 y2 y3) (Sp.oneB y1 y2 y3), ByteArray.empty)].length) * (32 : Nat) ≤ (140737488355328 : Nat))) (f84_L0 n m0 (IntKind.i64.wrap (y0 - (1 : Int))) y1 (Sp.oneA y1 (Sp.oneA y1 y2 y3) (Sp.oneB y1 y2 y3)) (Sp.oneB y1 (Sp.oneA y1 y2 y3) (Sp.oneB y1 y2 y3)) (y4 ++ [(Sp.oneV y1 y2 y3, Sp.oneV y1 (Sp.oneA y1 y2 y3) (Sp.oneB y1 y2 y3), ByteArray.empty)]))) else bif Sp.oneV y1 y2 y3 == (2 : Int) then chk (Sp.tkOK y1 (Sp.oneA y1 y2 y3) (8 : Int)) (chk (Sp.has8 (Sp.takeV y1 (Sp.oneA y1 y2 y3) (Sp.oneB y1 y2 y3) (8 : Int))) (chk (decide ((y4.length + [(Sp.oneV y1 y2 y3, Sp.of8 (Sp.takeV y1 (Sp.oneA y1 y2 y3) (Sp.oneB y1 y2 y3) (8 : Int)), ByteArray.empty)].length) * (32 : Nat) ≤ (140737488355328 : Nat))) (f84_L0 n m0 (IntKind.i64.wrap (y0 - (1 : Int))) y1 (Sp.takeA y1 (Sp.oneA y1 y2 y3) (Sp.oneB y1 y2 y3) (8 : Int)) (Sp.takeB y1 (Sp.oneA y1 y2 y3) (Sp.oneB y1 y2 y3) (8 : Int)) (y4 ++ [(Sp.oneV y1 y2 y3, Sp.of8 (Sp.takeV y1 (Sp.oneA y1 y2 y3) (Sp.oneB y1 y2 y3) (8 : Int)), ByteArray.empty)])))) else bif Sp.oneV y1 y2 y3 == (3 : Int) then bif Sp.oneV y1 y2 y3 == (3 : Int) then chk (Sp.rdOK y1 (Sp.oneA y1 y2 y3)) (chk (Sp.tkOK y1 (Sp.oneA y1 (Sp.oneA y1 y2 y3) (Sp.oneB y1 y2 y3)) (Sp.oneV y1 (Sp.oneA y1 y2 y3) (Sp.oneB y1 y2 y3))) (chk (decide ((y4.length + [(Sp.oneV y1 y2 y3, (0 : Int), bytesStr (Sp.takeV y1 (Sp.oneA y1 (Sp.oneA y1 y2 y3) (Sp.oneB y1 y2 y3)) (Sp.oneB y1 (Sp.oneA y1 y2 y3) (Sp.oneB y1 y2 y3)) (Sp.oneV y1 (Sp.oneA y1 y2 y3) (Sp.oneB y1 y2 y3))))].length) * (32 : Nat) ≤ (140737488355328 : Nat))) (f84_L0 n m0 (IntKind.i64.wrap (y0 - (1 : Int))) y1 (Sp.takeA y1 (Sp.oneA y1 (Sp.oneA y1 y2 y3) (Sp.oneB y1 y2 y3)) (Sp.oneB y1 (Sp.oneA y1 y2 y3) (Sp.oneB y1 y2 y3)) (Sp.oneV y1 (Sp.oneA y1 y2 y3) (Sp.oneB y1 y2 y3))) (Sp.takeB y1 (Sp.oneA y1 (Sp.oneA y1 y2 y3) (Sp.oneB y1 y2 y3)) (Sp.oneB y1 (Sp.oneA y1 y2 y3) (Sp.oneB y1 y2 y3)) (Sp.oneV y1 (Sp.oneA y1 y2 y3) (Sp.oneB y1 y2 y3))) (y4 ++ [(Sp.oneV y1 y2 y3, (0 : Int), bytesStr (Sp.takeV y1 (Sp.oneA y1 (Sp.oneA y1 y2 y3) (Sp.oneB y1 y2 y3)) (Sp.oneB y1 (Sp.oneA y1 y2 y3) (Sp.oneB y1 y2 y3)) (Sp.oneV y1 (Sp.oneA y1 y2 y3) (Sp.oneB y1 y2 y3))))])))) else chk (decide ((y4.length + [(Sp.oneV y1 y2 y3, (0 : Int), ByteArray.empty)].length) * (32 : Nat) ≤ (140737488355328 : Nat))) (f84_L0 n m0 (IntKind.i64.wrap (y0 - (1 : Int))) y1 (Sp.oneA y1 y2 y3) (Sp.oneB y1 y2 y3) (y4 ++ [(Sp.oneV y1 y2 y3, (0 : Int), ByteArray.empty)])) else bif Sp.oneV y1 y2 y3 == (4 : Int) then chk (Sp.rdOK y1 (Sp.oneA y1 y2 y3)) (chk (Sp.tkOK y1 (Sp.oneA y1 (Sp.oneA y1 y2 y3) (Sp.oneB y1 y2 y3)) (Sp.oneV y1 (Sp.oneA y1 y2 y3) (Sp.oneB y1 y2 y3))) (chk (decide ((y4.length + [(Sp.oneV y1 y2 y3, (0 : Int), bytesStr (Sp.takeV y1 (Sp.oneA y1 (Sp.oneA y1 y2 y3) (Sp.oneB y1 y2 y3)) (Sp.oneB y1 (Sp.oneA y1 y2 y3) (Sp.oneB y1 y2 y3)) (Sp.oneV y1 (Sp.oneA y1 y2 y3) (Sp.oneB y1 y2 y3))))].length) * (32 : Nat) ≤ (140737488355328 : Nat))) (f84_L0 n m0 (IntKind.i64.wrap (y0 - (1 : Int))) y1 (Sp.takeA y1 (Sp.oneA y1 (Sp.oneA y1 y2 y3) (Sp.oneB y1 y2 y3)) (Sp.oneB y1 (Sp.oneA y1 y2 y3) (Sp.oneB y1 y2 y3)) (Sp.oneV y1 (Sp.oneA y1 y2 y3) (Sp.oneB y1 y2 y3))) (Sp.takeB y1 (Sp.oneA y1 (Sp.oneA y1 y2 y3) (Sp.oneB y1 y2 y3)) (Sp.oneB y1 (Sp.oneA y1 y2 y3) (Sp.oneB y1 y2 y3)) (Sp.oneV y1 (Sp.oneA y1 y2 y3) (Sp.oneB y1 y2 y3))) (y4 ++ [(Sp.oneV y1 y2 y3, (0 : Int), bytesStr (Sp.takeV y1 (Sp.oneA y1 (Sp.oneA y1 y2 y3) (Sp.oneB y1 y2 y3)) (Sp.oneB y1 (Sp.oneA y1 y2 y3) (Sp.oneB y1 y2 y3)) (Sp.oneV y1 (Sp.oneA y1 y2 y3) (Sp.oneB y1 y2 y3))))])))) else chk (decide ((y4.length + [(Sp.oneV y1 y2 y3, (0 : Int), ByteArray.empty)].length) * (32 : Nat) ≤ (140737488355328 : Nat))) (f84_L0 n m0 (IntKind.i64.wrap (y0 - (1 : Int))) y1 (Sp.oneA y1 y2 y3) (Sp.oneB y1 y2 y3) (y4 ++ [(Sp.oneV y1 y2 y3, (0 : Int), ByteArray.empty)]))) else bif !Sp.rowOK y4 then some (Res.mk [XV.mk false [X.c (X0.row ((Ty.int IntKind.i64).pair ((Ty.int IntKind.i64).pair Ty.str)) y4 true)]] [X.box (115 : Nat) [X0.dat (Ty.int IntKind.u8).slice y1, X0.dat (Ty.int IntKind.i64) y2, X0.dat Ty.bool true]]) else some (Res.mk [XV.mk false [X.c (X0.row ((Ty.int IntKind.i64).pair ((Ty.int IntKind.i64).pair Ty.str)) y4 true)]] [X.box (115 : Nat) [X0.dat (Ty.int IntKind.u8).slice y1, X0.dat (Ty.int IntKind.i64) y2, X0.dat Ty.bool y3]]) else bif !Sp.rowOK y4 then some (Res.mk [XV.mk false [X.c (X0.row ((Ty.int IntKind.i64).pair ((Ty.int IntKind.i64).pair Ty.str)) y4 true)]] [X.box (115 : Nat) [X0.dat (Ty.int IntKind.u8).slice y1, X0.dat (Ty.int IntKind.i64) y2, X0.dat Ty.bool true]]) else some (Res.mk [XV.mk false [X.c (X0.row ((Ty.int IntKind.i64).pair ((Ty.int IntKind.i64).pair Ty.str)) y4 true)]] [X.box (115 : Nat) [X0.dat (Ty.int IntKind.u8).slice y1, X0.dat (Ty.int IntKind.i64) y2, X0.dat Ty.bool y3]]) := by kernel_rfl
theorem f84_raw (n : Nat) (x0 : List Int) (x1 : Int) (x2 : Bool) : abody Γ (orc [e128, e130, e129, e92]) n 84 [XV.mk false [X.box (115 : Nat) [X0.dat (Ty.int IntKind.u8).slice x0, X0.dat (Ty.int IntKind.i64) x1, X0.dat Ty.bool x2]]] = chk (Sp.rdOK x0 x1) (f84_L0 n n (Sp.oneV x0 x1 x2) x0 (Sp.oneA x0 x1 x2) (Sp.oneB x0 x1 x2) []) := by kernel_rfl

theorem f84_next (n m k : Nat) (b : List Int) (a : Int) (out : List V3) (h : Sp.rdOK b a = true) (hk : k ≤ 1000) (ho : out.length ≤ 1000) :
    f84_L0 n (m + 1) ((k + 1 : Nat) : Int) b a false out = f84_L0 n m (k : Int) b (Sp.rvA b a false) (Sp.rvB b a false) (out ++ [Sp.rvV b a false]) := by
  have hL := (oneV_byte (bad := Sp.oneB b a false) (oneA_ok (bad := false) h))
  have ek : IntKind.i64.wrap (((k + 1 : Nat) : Int) - 1) = (k : Int) := (wrap64 (by omega) (by omega)).trans (by omega)
  rw [f84_L0_step, decide_eq_true (show ((k + 1 : Nat) : Int) > 0 by omega), ek, h, oneA_ok h, tkOK_mk (oneA_ok h) (by decide), take8_ok (oneA_ok h), tkOK_mk (oneA_ok (oneA_ok h)) (by omega)]
  simp only [List.length_singleton]
  rw [decide_eq_true (show (out.length + 1) * 32 ≤ 140737488355328 by omega), cond_true, Bool.not_false, cond_true, chkT, chkT, chkT, chkT, chkT]
  have c1 := Bool.eq_false_or_eq_true (Sp.oneV b a false == 1)
  rcases c1 with c1 | c1
  · have eV : Sp.rvV b a false = (Sp.oneV b a false, Sp.oneV b (Sp.oneA b a false) (Sp.oneB b a false), ByteArray.empty) := by unfold Sp.rvV; rw [c1, cond_true]
    have eA : Sp.rvA b a false = Sp.oneA b (Sp.oneA b a false) (Sp.oneB b a false) := by unfold Sp.rvA; rw [c1, cond_true]
    have eB : Sp.rvB b a false = Sp.oneB b (Sp.oneA b a false) (Sp.oneB b a false) := by unfold Sp.rvB; rw [c1, cond_true]
    rw [c1, cond_true, eV, eA, eB]
  rcases Bool.eq_false_or_eq_true (Sp.oneV b a false == 2) with c2 | c2
  · have eV : Sp.rvV b a false = (Sp.oneV b a false, Sp.of8 (Sp.takeV b (Sp.oneA b a false) (Sp.oneB b a false) 8), ByteArray.empty) := by unfold Sp.rvV; rw [c1, cond_false, c2, cond_true]
    have eA : Sp.rvA b a false = Sp.takeA b (Sp.oneA b a false) (Sp.oneB b a false) 8 := by unfold Sp.rvA; rw [c1, cond_false, c2, cond_true]
    have eB : Sp.rvB b a false = Sp.takeB b (Sp.oneA b a false) (Sp.oneB b a false) 8 := by unfold Sp.rvB; rw [c1, cond_false, c2, cond_true]
    rw [c1, cond_false, c2, cond_true, eV, eA, eB, chkT]
  have hT : (bif Sp.oneV b a false == 3 then true else Sp.oneV b a false == 4) = true → Sp.rvV b a false = (Sp.oneV b a false, 0, bytesStr (Sp.takeV b (Sp.oneA b (Sp.oneA b a false) (Sp.oneB b a false)) (Sp.oneB b (Sp.oneA b a false) (Sp.oneB b a false)) (Sp.oneV b (Sp.oneA b a false) (Sp.oneB b a false)))) ∧ Sp.rvA b a false = Sp.takeA b (Sp.oneA b (Sp.oneA b a false) (Sp.oneB b a false)) (Sp.oneB b (Sp.oneA b a false) (Sp.oneB b a false)) (Sp.oneV b (Sp.oneA b a false) (Sp.oneB b a false)) ∧ Sp.rvB b a false = Sp.takeB b (Sp.oneA b (Sp.oneA b a false) (Sp.oneB b a false)) (Sp.oneB b (Sp.oneA b a false) (Sp.oneB b a false)) (Sp.oneV b (Sp.oneA b a false) (Sp.oneB b a false)) := by
    intro c
    unfold Sp.rvV Sp.rvA Sp.rvB
    rw [c1, cond_false, cond_false, cond_false, c2, cond_false, cond_false, cond_false, c, cond_true, cond_true, cond_true]
    exact ⟨rfl, rfl, rfl⟩
  rcases Bool.eq_false_or_eq_true (Sp.oneV b a false == 3) with c3 | c3
  · obtain ⟨eV, eA, eB⟩ := hT (by rw [c3]; rfl)
    rw [c1, cond_false, c2, cond_false, c3, cond_true, cond_true, eV, eA, eB, chkT, chkT, chkT]
  rcases Bool.eq_false_or_eq_true (Sp.oneV b a false == 4) with c4 | c4
  · obtain ⟨eV, eA, eB⟩ := hT (by rw [c3, c4]; rfl)
    rw [c1, cond_false, c2, cond_false, c3, cond_false, c4, cond_true, eV, eA, eB, chkT, chkT, chkT]
  · have eV : Sp.rvV b a false = (Sp.oneV b a false, 0, ByteArray.empty) := by unfold Sp.rvV; rw [c1, cond_false, c2, cond_false, c3, c4]; rfl
    have eA : Sp.rvA b a false = Sp.oneA b a false := by unfold Sp.rvA; rw [c1, cond_false, c2, cond_false, c3, c4]; rfl
    have eB : Sp.rvB b a false = Sp.oneB b a false := by unfold Sp.rvB; rw [c1, cond_false, c2, cond_false, c3, c4]; rfl
    rw [c1, cond_false, c2, cond_false, c3, cond_false, c4, cond_false, eV, eA, eB, chkT]
theorem f84_loop (n : Nat) (b : List Int) : ∀ (k m : Nat) (a : Int) (bad : Bool) (out : List V3), Sp.rdOK b a = true → out.length + k ≤ 1000 → k < m →
    f84_L0 n m (k : Int) b a bad out = some (rRow b (Sp.srow k b a bad out)) := by
  intro k
  induction k with
  | zero =>
    intro m a bad out h ho hm
    obtain ⟨m, rfl⟩ := succ_of hm
    rw [f84_L0_step, decide_eq_false (by omega), cond_false]
    show _ = some (rRow b (out, a, bad))
    unfold rRow
    cases Sp.rowOK out <;> rfl
  | succ k ih =>
    intro m a bad out h ho hm
    obtain ⟨m, rfl⟩ := succ_of hm
    cases bad with
    | false =>
      rw [f84_next n m k b a out h (by omega) (by omega), ih m _ _ _ (rvA_ok h) (by rw [List.length_append, List.length_singleton]; omega) (by omega)]
      rfl
    | true =>
      rw [f84_L0_step, decide_eq_true (show ((k + 1 : Nat) : Int) > 0 by omega), cond_true, Bool.not_true, cond_false]
      show _ = some (rRow b (out, a, true))
      unfold rRow
      cases Sp.rowOK out <;> rfl
def Sp.rowR (b : List Int) (a : Int) (bad : Bool) : List V3 × Int × Bool := Sp.srow (Sp.oneV b a bad).toNat b (Sp.oneA b a bad) (Sp.oneB b a bad) []
def Sp.rowB (b : List Int) (a : Int) (bad : Bool) : Bool := bif !Sp.rowOK (Sp.rowR b a bad).1 then true else (Sp.rowR b a bad).2.2
noncomputable def e84 : Ent := { f := 84, ins := [Sh.box 115 [C0.dat (.slice (.int .u8)), C0.dat (.int .i64), C0.dat .bool]], outs := [Sh.one (C0.row tV)], upd := [Sh.box 115 [C0.dat (.slice (.int .u8)), C0.dat (.int .i64), C0.dat .bool]], pre := fun a => Sp.rdOK a.1 a.2.1, spec := fun a => (Sp.rowR a.1 a.2.1 a.2.2).1, wrt := fun a => (a.1, (Sp.rowR a.1 a.2.1 a.2.2).2.1, Sp.rowB a.1 a.2.1 a.2.2) }
theorem e84_core (b : List Int) (a : Int) (bad : Bool) (h : Sp.rdOK b a = true) : ∃ n, abody Γ (orc [e128, e130, e129, e92]) n 84 [XV.mk false [X.box (115 : Nat) [X0.dat (Ty.int IntKind.u8).slice b, X0.dat (Ty.int IntKind.i64) a, X0.dat Ty.bool bad]]] = some (rRow b (Sp.rowR b a bad)) := by
  obtain ⟨v0, v1⟩ := oneV_byte (bad := bad) h
  have hv : Sp.oneV b a bad = (((Sp.oneV b a bad).toNat : Nat) : Int) := by omega
  refine ⟨300, (f84_raw 300 b a bad).trans ?_⟩
  rw [h, chkT]
  have := f84_loop 300 b (Sp.oneV b a bad).toNat 300 (Sp.oneA b a bad) (Sp.oneB b a bad) [] (oneA_ok h) (by rw [List.length_nil]; omega) (by omega)
  rw [← hv] at this
  exact this
theorem e84_ok : Valid Try.prog Γ e84 := valid_of ok (vcons e128_ok (vcons e130_ok (vcons e129_ok (vcons e92_ok vnil)))) fun a ha => e84_core a.1 a.2.1 a.2.2 ha
def Sp.f42_pre (x0 : List Int) : Bool := (bif decide ((↑x0.length : Int) > (65536 : Int)) then true else Sp.rdOK x0 (0 : Int))
def Sp.f42 (x0 : List Int) := (bif decide ((↑x0.length : Int) > (65536 : Int)) then (([], (2 : Int)), ()) else (bif Sp.rowB x0 (0 : Int) false then (([], (3 : Int)), ()) else (bif (Sp.rowR x0 (0 : Int) false).2.1 != (↑x0.length : Int) then (([], (3 : Int)), ()) else (((Sp.rowR x0 (0 : Int) false).1, (0 : Int)), ()))))
noncomputable def e42 : Ent := { f := 42, ins := [Sh.one (C0.dat (Ty.int IntKind.u8).slice)], outs := [Sh.one (C0.row ((Ty.int IntKind.i64).pair ((Ty.int IntKind.i64).pair Ty.str))), Sh.one (C0.dat (Ty.int IntKind.i64))], upd := [], pre := fun a => Sp.f42_pre a, spec := fun a => (Sp.f42 a).1, wrt := fun a => (Sp.f42 a).2 }
def f42_g (v : denS [Sh.one (C0.row ((Ty.int IntKind.i64).pair ((Ty.int IntKind.i64).pair Ty.str))), Sh.one (C0.dat (Ty.int IntKind.i64))] × denS []) : Res := ⟨mkS [Sh.one (C0.row ((Ty.int IntKind.i64).pair ((Ty.int IntKind.i64).pair Ty.str))), Sh.one (C0.dat (Ty.int IntKind.i64))] v.1, mkU [] v.2⟩
theorem f42_raw (x0 : List Int) : abody Γ (orc [e84]) 0 42 [XV.mk false [X.c (X0.dat (Ty.int IntKind.u8).slice x0)]] = bif decide ((↑x0.length : Int) > (65536 : Int)) then some (Res.mk [XV.mk false [X.c (X0.row ((Ty.int IntKind.i64).pair ((Ty.int IntKind.i64).pair Ty.str)) [] true)], XV.mk false [X.c (X0.dat (Ty.int IntKind.i64) (2 : Int))]] []) else chk (Sp.rdOK x0 (0 : Int)) (bif Sp.rowB x0 (0 : Int) false then some (Res.mk [XV.mk false [X.c (X0.row ((Ty.int IntKind.i64).pair ((Ty.int IntKind.i64).pair Ty.str)) [] true)], XV.mk false [X.c (X0.dat (Ty.int IntKind.i64) (3 : Int))]] []) else bif (Sp.rowR x0 (0 : Int) false).2.1 != (↑x0.length : Int) then some (Res.mk [XV.mk false [X.c (X0.row ((Ty.int IntKind.i64).pair ((Ty.int IntKind.i64).pair Ty.str)) [] true)], XV.mk false [X.c (X0.dat (Ty.int IntKind.i64) (3 : Int))]] []) else some (Res.mk [XV.mk false [X.c (X0.row ((Ty.int IntKind.i64).pair ((Ty.int IntKind.i64).pair Ty.str)) (Sp.rowR x0 (0 : Int) false).1 true)], XV.mk false [X.c (X0.dat (Ty.int IntKind.i64) (0 : Int))]] [])) := by kernel_rfl
theorem f42_form (x0 : List Int) : (bif decide ((↑x0.length : Int) > (65536 : Int)) then some (Res.mk [XV.mk false [X.c (X0.row ((Ty.int IntKind.i64).pair ((Ty.int IntKind.i64).pair Ty.str)) [] true)], XV.mk false [X.c (X0.dat (Ty.int IntKind.i64) (2 : Int))]] []) else chk (Sp.rdOK x0 (0 : Int)) (bif Sp.rowB x0 (0 : Int) false then some (Res.mk [XV.mk false [X.c (X0.row ((Ty.int IntKind.i64).pair ((Ty.int IntKind.i64).pair Ty.str)) [] true)], XV.mk false [X.c (X0.dat (Ty.int IntKind.i64) (3 : Int))]] []) else bif (Sp.rowR x0 (0 : Int) false).2.1 != (↑x0.length : Int) then some (Res.mk [XV.mk false [X.c (X0.row ((Ty.int IntKind.i64).pair ((Ty.int IntKind.i64).pair Ty.str)) [] true)], XV.mk false [X.c (X0.dat (Ty.int IntKind.i64) (3 : Int))]] []) else some (Res.mk [XV.mk false [X.c (X0.row ((Ty.int IntKind.i64).pair ((Ty.int IntKind.i64).pair Ty.str)) (Sp.rowR x0 (0 : Int) false).1 true)], XV.mk false [X.c (X0.dat (Ty.int IntKind.i64) (0 : Int))]] []))) = chk (Sp.f42_pre x0) (some (f42_g (Sp.f42 x0))) := by
  unfold Sp.f42_pre Sp.f42
  exact (cond_step f42_g ((lift_plain (rfl))) ((chk_last ((cond_plain f42_g (rfl) ((cond_plain f42_g (rfl) (rfl))))))))
theorem e42_ok : Valid Try.prog Γ e42 := valid_auto ok (vcons e84_ok vnil) fun a => (f42_raw a).trans (f42_form a)

/-! The values of bytes. -/
def Sp.cells : Nat → List Int → Bool → List V3 → List V3 × Bool
  | 0, _, _, _ => ([], false)
  | d + 1, b, row, out => bif decide (b.length = 0) then (out, (Sp.f132 out).1)
    else bif (Sp.cell b row).2 == 0 then ([], false) else bif decide (out.length = 8) then ([], false)
    else Sp.cells d (b.drop (Sp.cell b row).2.toNat) row (out ++ [(Sp.cell b row).1])
theorem kt_len : ∀ (d : Nat) (r : List Int) (acc : List Int) (i : Int), r.length ≤ d → (Sp.kt r acc i).2 = 0 ∨ (i + 2 ≤ (Sp.kt r acc i).2 ∧ (Sp.kt r acc i).2 ≤ i + r.length) := by
  intro d
  induction d using Nat.strongRecOn with
  | _ d ih =>
    intro r acc i hd
    match r with
    | [] => exact .inl rfl
    | [x] => exact .inl rfl
    | x :: y :: r =>
      have hl : (x :: y :: r).length = r.length + 2 := rfl
      rw [Sp.kt]
      cases x != 0 with
      | true =>
        rw [cond_true]
        have h := ih (d - 1) (by omega) (y :: r) (acc ++ [x]) (i + 1) (by rw [List.length_cons]; omega)
        rw [List.length_cons] at h
        rw [hl]
        omega
      | false =>
        rw [cond_false]
        cases y == 1 with
        | true => rw [cond_true, hl]; exact .inr ⟨Int.le_refl _, by show i + 2 ≤ _; omega⟩
        | false =>
          rw [cond_false]
          cases y != 255 with
          | true => exact .inl rfl
          | false =>
            rw [cond_false]
            have h := ih (d - 2) (by omega) r (acc ++ [0]) (i + 2) (by omega)
            rw [hl]
            omega
/-- A value takes no more bytes than there are. -/
theorem cell_len {b : List Int} {row : Bool} (h : Sp.cellOK b = true) : 0 ≤ (Sp.cell b row).2 ∧ (Sp.cell b row).2 ≤ b.length := by
  obtain ⟨h1, h2, hb⟩ := cellOK_of h
  match b, h1 with
  | x :: r, _ =>
    have hl : (x :: r).length = r.length + 1 := rfl
    obtain ⟨⟨x0, x1⟩, hb'⟩ := isBytes_cons.1 hb
    rw [show Sp.cell (x :: r) row = Sp.cellC x r row from rfl, hl]
    unfold Sp.cellC
    cases x == 0 with
    | true => rw [cond_true]; show (0 : Int) ≤ 1 ∧ (1 : Int) ≤ _; omega
    | false =>
      rw [cond_false]
      cases x == 1 with
      | true =>
        rw [cond_true]
        cases r with
        | nil => show (0 : Int) ≤ 0 ∧ (0 : Int) ≤ _; omega
        | cons y r' => show (0 : Int) ≤ 2 ∧ (2 : Int) ≤ _; rw [List.length_cons]; omega
      | false =>
        rw [cond_false]
        cases x == 2 with
        | true =>
          rw [cond_true]
          cases h8 : Nat.ble 8 r.length with
          | true =>
            have := Nat.le_of_ble_eq_true h8
            show (0 : Int) ≤ 9 ∧ (9 : Int) ≤ _; omega
          | false => show (0 : Int) ≤ 0 ∧ (0 : Int) ≤ _; omega
        | false =>
          rw [cond_false]
          cases (Sp.f167 x).1 with
          | false => show (0 : Int) ≤ 0 ∧ (0 : Int) ≤ _; omega
          | true =>
            rw [cond_true]
            cases row with
            | false =>
              rw [Bool.not_false, cond_true]
              have hk := kt_len r.length r [] 0 (Nat.le_refl _)
              by_cases hp : (Sp.kt r [] 0).2 > 0
              · rw [decide_eq_true hp, cond_true]
                show 0 ≤ IntKind.i64.wrap _ ∧ IntKind.i64.wrap _ ≤ _
                rw [wrap64 (by omega) (by omega)]
                omega
              · rw [decide_eq_false hp, cond_false]
                show (0 : Int) ≤ 0 ∧ (0 : Int) ≤ _; omega
            | true =>
              rw [Bool.not_true, cond_false]
              cases r with
              | nil => show (0 : Int) ≤ 0 ∧ (0 : Int) ≤ _; omega
              | cons y r' =>
                obtain ⟨⟨y0, y1⟩, _⟩ := isBytes_cons.1 hb'
                show 0 ≤ (bif Nat.ble y.toNat r'.length then ((x, 0, bytesStr (r'.take y.toNat)), 2 + y) else (Sp.zv, 0)).2 ∧ (bif Nat.ble y.toNat r'.length then ((x, 0, bytesStr (r'.take y.toNat)), 2 + y) else (Sp.zv, 0)).2 ≤ _
                cases hy : Nat.ble y.toNat r'.length with
                | true =>
                  have := Nat.le_of_ble_eq_true hy
                  show 0 ≤ 2 + y ∧ 2 + y ≤ _
                  rw [List.length_cons]
                  omega
                | false => show (0 : Int) ≤ 0 ∧ (0 : Int) ≤ _; omega
noncomputable def f85_L0 (n m0 : Nat) (y0 : List Int) (y1 : Bool) (y2 : List (Int × Int × ByteArray)) : Option Res := loopAt Γ (orc [e131, e132]) n (85 : Nat) (0 : Nat) [] [Pth.r, Pth.r, Pth.l, Pth.b] m0 (St.mk [Slot.val (Val.one (Cell.dat (Ty.int IntKind.u8).slice y0)), Slot.val (Val.one (Cell.dat Ty.bool y1)), Slot.nix, Slot.nix, Slot.nix, Slot.nix, Slot.val (Val.one (Cell.own (0 : Nat))), Slot.nix, Slot.nix, Slot.nix, Slot.nix, Slot.nix, Slot.nix, Slot.nix, Slot.nix, Slot.nix, Slot.nix, Slot.nix, Slot.nix, Slot.nix, Slot.nix, Slot.nix, Slot.nix, Slot.nix, Slot.nix, Slot.nix, Slot.nix, Slot.nix, Slot.nix, Slot.nix, Slot.nix, Slot.nix, Slot.nix, Slot.nix, Slot.nix, Slot.nix] [AObj.row ((Ty.int IntKind.i64).pair ((Ty.int IntKind.i64).pair Ty.str)) y2 true])
theorem f85_L0_step (n m0 : Nat) (y0 : List Int) (y1 : Bool) (y2 : List (Int × Int × ByteArray)) : f85_L0 n (m0 + 1) y0 y1 y2 = bif decide ((↑y0.length : Int) > (0 : Int)) then chk (Sp.cellOK y0) (bif (Sp.cell y0 y1).2 == (0 : Int) then some (Res.mk [XV.mk false [X.c (X0.row ((Ty.int IntKind.i64).pair ((Ty.int IntKind.i64).pair Ty.str)) [] true)], XV.mk false [X.c (X0.dat Ty.bool false)]] []) else bif (↑y2.length : Int) == (8 : Int) then some (Res.mk [XV.mk false [X.c (X0.row ((Ty.int IntKind.i64).pair ((Ty.int IntKind.i64).pair Ty.str)) [] true)], XV.mk false [X.c (X0.dat Ty.bool false)]] []) else chk (decide ((y2.length + [((Sp.cell y0 y1).1.1, (Sp.cell y0 y1).1.2.1, (Sp.cell y0 y1).1.2.2)].length) * (32 : Nat) ≤ (140737488355328 : Nat))) (chk (decide ((0 : Int) ≤ (Sp.cell y0 y1).2) && decide ((Sp.cell y0 y1).2 ≤ (↑y0.length : Int))) (f85_L0 n m0 (List.take (y0.length - (Sp.cell y0 y1).2.toNat) (List.drop (Sp.cell y0 y1).2.toNat y0)) y1 (y2 ++ [((Sp.cell y0 y1).1.1, (Sp.cell y0 y1).1.2.1, (Sp.cell y0 y1).1.2.2)])))) else some (Res.mk [XV.mk false [X.c (X0.row ((Ty.int IntKind.i64).pair ((Ty.int IntKind.i64).pair Ty.str)) y2 true)], XV.mk false [X.c (X0.dat Ty.bool (Sp.f132 y2).1)]] []) := by kernel_rfl
theorem f85_raw (n : Nat) (x0 : List Int) (x1 : Bool) : abody Γ (orc [e131, e132]) n 85 [XV.mk false [X.c (X0.dat (Ty.int IntKind.u8).slice x0)], XV.mk false [X.c (X0.dat Ty.bool x1)]] = f85_L0 n n x0 x1 [] := by kernel_rfl

abbrev rCells (p : List V3 × Bool) : Res := Res.mk [XV.mk false [X.c (X0.row tV p.1 true)], XV.mk false [X.c (X0.dat Ty.bool p.2)]] []
def Sp.bmid (b : List Int) : Bool := yes2 (Sp.mid b) (Sp.isBytes b)
theorem f85_loop (n : Nat) (row : Bool) : ∀ (d m : Nat) (b : List Int) (out : List V3), b.length < d → b.length ≤ 1048576 → Sp.isBytes b = true → out.length ≤ 8 → d ≤ m →
    f85_L0 n m b row out = some (rCells (Sp.cells d b row out)) := by
  intro d
  induction d with
  | zero => intro m b out h; omega
  | succ d ih =>
    intro m b out hd hl hb ho hm
    obtain ⟨m, rfl⟩ := succ_of (show d < m by omega)
    rw [f85_L0_step, Sp.cells]
    by_cases h0 : b.length = 0
    · rw [decide_eq_true h0, decide_eq_false (by omega), cond_false, cond_true]
    · have hc := cellOK_mk (xs := b) (by omega) hl hb
      obtain ⟨c0, c1⟩ := cell_len (row := row) hc
      rw [decide_eq_false h0, decide_eq_true (show (b.length : Int) > 0 by omega), cond_true, cond_false, hc, chkT]
      by_cases hz : (Sp.cell b row).2 = 0
      · rw [show ((Sp.cell b row).2 == 0) = true from beq_iff_eq.2 hz, cond_true, cond_true]; rfl
      · rw [beq_false_of_ne hz, cond_false, cond_false]
        by_cases h8 : out.length = 8
        · rw [show ((out.length : Int) == 8) = true from beq_iff_eq.2 (by omega), decide_eq_true h8, cond_true, cond_true]; rfl
        · have hdl : (b.drop (Sp.cell b row).2.toNat).length = b.length - (Sp.cell b row).2.toNat := List.length_drop
          have ht : (b.drop (Sp.cell b row).2.toNat).take (b.length - (Sp.cell b row).2.toNat) = b.drop (Sp.cell b row).2.toNat := List.take_of_length_le (by omega)
          rw [show ((out.length : Int) == 8) = false from beq_false_of_ne (by omega), decide_eq_false h8, cond_false, cond_false, ht]
          simp only [List.length_singleton]
          rw [decide_eq_true (show (out.length + 1) * 32 ≤ 140737488355328 by omega), chkT, decide_eq_true c0, decide_eq_true c1, Bool.and_self, chkT]
          exact ih m _ _ (by omega) (by omega) (isBytes_drop hb _) (by rw [List.length_append, List.length_singleton]; omega) (by omega)
noncomputable def e85 : Ent := { f := 85, ins := [Sh.one (cL tB), Sh.one cB], outs := [Sh.one (C0.row tV), Sh.one cB], upd := [], pre := fun a => Sp.bmid a.1, spec := fun a => Sp.cells (List.length (α := Int) a.1 + 1) a.1 a.2 [], wrt := fun _ => () }
theorem e85_core (b : List Int) (row : Bool) (h : Sp.bmid b = true) : ∃ n, abody Γ (orc [e131, e132]) n 85 [XV.mk false [X.c (X0.dat (Ty.int IntKind.u8).slice b)], XV.mk false [X.c (X0.dat Ty.bool row)]] = some (rCells (Sp.cells (b.length + 1) b row [])) := by
  obtain ⟨h1, h2⟩ := yes2_true h
  exact ⟨b.length + 1, (f85_raw _ b row).trans (f85_loop _ row _ _ b [] (Nat.lt_succ_self _) (mid_of h1) h2 (Nat.zero_le _) (Nat.le_refl _))⟩
theorem e85_ok : Valid Try.prog Γ e85 := valid_of ok (vcons e131_ok (vcons e132_ok vnil)) fun a ha => e85_core a.1 a.2 ha
def Sp.f43_pre (x0 : List Int) : Bool := (bif decide ((↑x0.length : Int) > (65536 : Int)) then true else (bif (↑x0.length : Int) == (0 : Int) then true else (decide ((1 : Int) ≤ (↑x0.length : Int)) && (Sp.bmid (List.take (x0.length - (1 : Nat)) (List.drop (1 : Nat) x0)) && (bif !(Sp.cells ((List.take (x0.length - (1 : Nat)) (List.drop (1 : Nat) x0)).length + (1 : Nat)) (List.take (x0.length - (1 : Nat)) (List.drop (1 : Nat) x0)) true []).2 then true else decide ((0 : Int) < (↑x0.length : Int)))))))
def Sp.f43 (x0 : List Int) := (bif decide ((↑x0.length : Int) > (65536 : Int)) then (([], (2 : Int)), ()) else (bif (↑x0.length : Int) == (0 : Int) then (([], (3 : Int)), ()) else (bif !(Sp.cells ((List.take (x0.length - (1 : Nat)) (List.drop (1 : Nat) x0)).length + (1 : Nat)) (List.take (x0.length - (1 : Nat)) (List.drop (1 : Nat) x0)) true []).2 then (([], (3 : Int)), ()) else (bif (↑(Sp.cells ((List.take (x0.length - (1 : Nat)) (List.drop (1 : Nat) x0)).length + (1 : Nat)) (List.take (x0.length - (1 : Nat)) (List.drop (1 : Nat) x0)) true []).1.length : Int) != IntKind.i64.wrap (x0.getD (0 : Nat) (0 : Int)) then (([], (3 : Int)), ()) else (((Sp.cells ((List.take (x0.length - (1 : Nat)) (List.drop (1 : Nat) x0)).length + (1 : Nat)) (List.take (x0.length - (1 : Nat)) (List.drop (1 : Nat) x0)) true []).1, (0 : Int)), ())))))
noncomputable def e43 : Ent := { f := 43, ins := [Sh.one (C0.dat (Ty.int IntKind.u8).slice)], outs := [Sh.one (C0.row ((Ty.int IntKind.i64).pair ((Ty.int IntKind.i64).pair Ty.str))), Sh.one (C0.dat (Ty.int IntKind.i64))], upd := [], pre := fun a => Sp.f43_pre a, spec := fun a => (Sp.f43 a).1, wrt := fun a => (Sp.f43 a).2 }
def f43_g (v : denS [Sh.one (C0.row ((Ty.int IntKind.i64).pair ((Ty.int IntKind.i64).pair Ty.str))), Sh.one (C0.dat (Ty.int IntKind.i64))] × denS []) : Res := ⟨mkS [Sh.one (C0.row ((Ty.int IntKind.i64).pair ((Ty.int IntKind.i64).pair Ty.str))), Sh.one (C0.dat (Ty.int IntKind.i64))] v.1, mkU [] v.2⟩
theorem f43_raw (x0 : List Int) : abody Γ (orc [e85]) 0 43 [XV.mk false [X.c (X0.dat (Ty.int IntKind.u8).slice x0)]] = bif decide ((↑x0.length : Int) > (65536 : Int)) then some (Res.mk [XV.mk false [X.c (X0.row ((Ty.int IntKind.i64).pair ((Ty.int IntKind.i64).pair Ty.str)) [] true)], XV.mk false [X.c (X0.dat (Ty.int IntKind.i64) (2 : Int))]] []) else bif (↑x0.length : Int) == (0 : Int) then some (Res.mk [XV.mk false [X.c (X0.row ((Ty.int IntKind.i64).pair ((Ty.int IntKind.i64).pair Ty.str)) [] true)], XV.mk false [X.c (X0.dat (Ty.int IntKind.i64) (3 : Int))]] []) else chk (decide ((1 : Int) ≤ (↑x0.length : Int))) (chk (Sp.bmid (List.take (x0.length - (1 : Nat)) (List.drop (1 : Nat) x0))) (bif !(Sp.cells ((List.take (x0.length - (1 : Nat)) (List.drop (1 : Nat) x0)).length + (1 : Nat)) (List.take (x0.length - (1 : Nat)) (List.drop (1 : Nat) x0)) true []).2 then some (Res.mk [XV.mk false [X.c (X0.row ((Ty.int IntKind.i64).pair ((Ty.int IntKind.i64).pair Ty.str)) [] true)], XV.mk false [X.c (X0.dat (Ty.int IntKind.i64) (3 : Int))]] []) else chk (decide ((0 : Int) < (↑x0.length : Int))) (bif (↑(Sp.cells ((List.take (x0.length - (1 : Nat)) (List.drop (1 : Nat) x0)).length + (1 : Nat)) (List.take (x0.length - (1 : Nat)) (List.drop (1 : Nat) x0)) true []).1.length : Int) != IntKind.i64.wrap (x0.getD (0 : Nat) (0 : Int)) then some (Res.mk [XV.mk false [X.c (X0.row ((Ty.int IntKind.i64).pair ((Ty.int IntKind.i64).pair Ty.str)) [] true)], XV.mk false [X.c (X0.dat (Ty.int IntKind.i64) (3 : Int))]] []) else some (Res.mk [XV.mk false [X.c (X0.row ((Ty.int IntKind.i64).pair ((Ty.int IntKind.i64).pair Ty.str)) (Sp.cells ((List.take (x0.length - (1 : Nat)) (List.drop (1 : Nat) x0)).length + (1 : Nat)) (List.take (x0.length - (1 : Nat)) (List.drop (1 : Nat) x0)) true []).1 true)], XV.mk false [X.c (X0.dat (Ty.int IntKind.i64) (0 : Int))]] [])))) := by kernel_rfl
theorem f43_form (x0 : List Int) : (bif decide ((↑x0.length : Int) > (65536 : Int)) then some (Res.mk [XV.mk false [X.c (X0.row ((Ty.int IntKind.i64).pair ((Ty.int IntKind.i64).pair Ty.str)) [] true)], XV.mk false [X.c (X0.dat (Ty.int IntKind.i64) (2 : Int))]] []) else bif (↑x0.length : Int) == (0 : Int) then some (Res.mk [XV.mk false [X.c (X0.row ((Ty.int IntKind.i64).pair ((Ty.int IntKind.i64).pair Ty.str)) [] true)], XV.mk false [X.c (X0.dat (Ty.int IntKind.i64) (3 : Int))]] []) else chk (decide ((1 : Int) ≤ (↑x0.length : Int))) (chk (Sp.bmid (List.take (x0.length - (1 : Nat)) (List.drop (1 : Nat) x0))) (bif !(Sp.cells ((List.take (x0.length - (1 : Nat)) (List.drop (1 : Nat) x0)).length + (1 : Nat)) (List.take (x0.length - (1 : Nat)) (List.drop (1 : Nat) x0)) true []).2 then some (Res.mk [XV.mk false [X.c (X0.row ((Ty.int IntKind.i64).pair ((Ty.int IntKind.i64).pair Ty.str)) [] true)], XV.mk false [X.c (X0.dat (Ty.int IntKind.i64) (3 : Int))]] []) else chk (decide ((0 : Int) < (↑x0.length : Int))) (bif (↑(Sp.cells ((List.take (x0.length - (1 : Nat)) (List.drop (1 : Nat) x0)).length + (1 : Nat)) (List.take (x0.length - (1 : Nat)) (List.drop (1 : Nat) x0)) true []).1.length : Int) != IntKind.i64.wrap (x0.getD (0 : Nat) (0 : Int)) then some (Res.mk [XV.mk false [X.c (X0.row ((Ty.int IntKind.i64).pair ((Ty.int IntKind.i64).pair Ty.str)) [] true)], XV.mk false [X.c (X0.dat (Ty.int IntKind.i64) (3 : Int))]] []) else some (Res.mk [XV.mk false [X.c (X0.row ((Ty.int IntKind.i64).pair ((Ty.int IntKind.i64).pair Ty.str)) (Sp.cells ((List.take (x0.length - (1 : Nat)) (List.drop (1 : Nat) x0)).length + (1 : Nat)) (List.take (x0.length - (1 : Nat)) (List.drop (1 : Nat) x0)) true []).1 true)], XV.mk false [X.c (X0.dat (Ty.int IntKind.i64) (0 : Int))]] []))))) = chk (Sp.f43_pre x0) (some (f43_g (Sp.f43 x0))) := by
  unfold Sp.f43_pre Sp.f43
  exact (cond_step f43_g ((lift_plain (rfl))) ((cond_step f43_g ((lift_plain (rfl))) ((chk_step ((chk_step ((cond_step f43_g ((lift_plain (rfl))) ((chk_last ((cond_plain f43_g (rfl) (rfl))))))))))))))
theorem e43_ok : Valid Try.prog Γ e43 := valid_auto ok (vcons e85_ok vnil) fun a => (f43_raw a).trans (f43_form a)

def Sp.f9_pre (x0 : List Int) : Bool := (bif decide ((↑x0.length : Int) > (1048576 : Int)) then true else (Sp.fits x0 && (Sp.f42_pre x0 && (Sp.fits x0 && (Sp.f43_pre x0 && (bif !Sp.eqW Sp.eqV (Sp.f43 x0).1.1 (Sp.f42 x0).1.1 then true else (bif (Sp.f43 x0).1.2 != (Sp.f42 x0).1.2 then true else (Sp.fits x0 && (bif !Sp.eqL x0 x0 then true else (Sp.small x0 (1 : Int) && (bif decide (Sp.addLen x0 (1 : Int) < (0 : Int)) then true else (bif !Sp.eqW Sp.eqV (Sp.f43 x0).1.1 (Sp.f42 x0).1.1 then true else (bif (Sp.f43 x0).1.2 != (Sp.f42 x0).1.2 then true else (Sp.smallW (3 : Nat) (Sp.f43 x0).1.1 (1 : Int) && (Sp.smallW (3 : Nat) (Sp.markW Sp.markV (3 : Int) (Sp.f43 x0).1.1 (1 : Int)) (1 : Int) && (bif decide (Sp.heldW Sp.heldV (3 : Int) (Sp.markW Sp.markV (3 : Int) (Sp.f43 x0).1.1 (1 : Int)) (1 : Int) < (0 : Int)) then true else (bif Sp.heldW Sp.heldV (3 : Int) (Sp.markW Sp.markV (3 : Int) (Sp.f43 x0).1.1 (1 : Int)) (1 : Int) != Sp.addW (3 : Int) (Sp.f43 x0).1.1 (1 : Int) then true else (Sp.fits x0 && (Sp.f43_pre x0 && (bif !Sp.eqW Sp.eqV (Sp.f43 x0).1.1 (Sp.f42 x0).1.1 then true else (bif (Sp.f43 x0).1.2 != (Sp.f42 x0).1.2 then true else Sp.smallW (3 : Nat) (Sp.markW Sp.markV (3 : Int) (Sp.f43 x0).1.1 (1 : Int)) (1 : Int))))))))))))))))))))))
def Sp.f9 (x0 : List Int) := (bif decide ((↑x0.length : Int) > (1048576 : Int)) then (true, ()) else (bif !Sp.eqW Sp.eqV (Sp.f43 x0).1.1 (Sp.f42 x0).1.1 then (false, ()) else (bif (Sp.f43 x0).1.2 != (Sp.f42 x0).1.2 then (false, ()) else (bif !Sp.eqL x0 x0 then (false, ()) else (bif decide (Sp.addLen x0 (1 : Int) < (0 : Int)) then (false, ()) else (bif !Sp.eqW Sp.eqV (Sp.f43 x0).1.1 (Sp.f42 x0).1.1 then (false, ()) else (bif (Sp.f43 x0).1.2 != (Sp.f42 x0).1.2 then (false, ()) else (bif decide (Sp.heldW Sp.heldV (3 : Int) (Sp.markW Sp.markV (3 : Int) (Sp.f43 x0).1.1 (1 : Int)) (1 : Int) < (0 : Int)) then (false, ()) else (bif Sp.heldW Sp.heldV (3 : Int) (Sp.markW Sp.markV (3 : Int) (Sp.f43 x0).1.1 (1 : Int)) (1 : Int) != Sp.addW (3 : Int) (Sp.f43 x0).1.1 (1 : Int) then (false, ()) else (bif !Sp.eqW Sp.eqV (Sp.f43 x0).1.1 (Sp.f42 x0).1.1 then (false, ()) else (bif (Sp.f43 x0).1.2 != (Sp.f42 x0).1.2 then (false, ()) else (bif decide (Sp.heldW Sp.heldV (3 : Int) (Sp.markW Sp.markV (3 : Int) (Sp.f43 x0).1.1 (1 : Int)) (1 : Int) < (0 : Int)) then (false, ()) else (bif Sp.heldW Sp.heldV (3 : Int) (Sp.markW Sp.markV (3 : Int) (Sp.f43 x0).1.1 (1 : Int)) (1 : Int) != Sp.addW (3 : Int) (Sp.f43 x0).1.1 (1 : Int) then (false, ()) else (true, ()))))))))))))))
noncomputable def e9 : Ent := { f := 9, ins := [Sh.one (C0.dat (Ty.int IntKind.u8).slice)], outs := [Sh.one (C0.dat Ty.bool)], upd := [], pre := fun a => Sp.f9_pre a, spec := fun a => (Sp.f9 a).1, wrt := fun a => (Sp.f9 a).2 }
def f9_g (v : denS [Sh.one (C0.dat Ty.bool)] × denS []) : Res := ⟨mkS [Sh.one (C0.dat Ty.bool)] v.1, mkU [] v.2⟩
theorem f9_raw (x0 : List Int) : abody Γ (orc [e22, e42, e43, e44, e24, e25, e45, e46]) 0 9 [XV.mk false [X.c (X0.dat (Ty.int IntKind.u8).slice x0)]] = bif decide ((↑x0.length : Int) > (1048576 : Int)) then some (Res.mk [XV.mk false [X.c (X0.dat Ty.bool true)]] []) else chk (Sp.fits x0) (chk (Sp.f42_pre x0) (chk (Sp.fits x0) (chk (Sp.f43_pre x0) (bif !Sp.eqW Sp.eqV (Sp.f43 x0).1.1 (Sp.f42 x0).1.1 then some (Res.mk [XV.mk false [X.c (X0.dat Ty.bool false)]] []) else bif (Sp.f43 x0).1.2 != (Sp.f42 x0).1.2 then some (Res.mk [XV.mk false [X.c (X0.dat Ty.bool false)]] []) else chk (Sp.fits x0) (bif !Sp.eqL x0 x0 then some (Res.mk [XV.mk false [X.c (X0.dat Ty.bool false)]] []) else chk (Sp.small x0 (1 : Int)) (bif decide (Sp.addLen x0 (1 : Int) < (0 : Int)) then some (Res.mk [XV.mk false [X.c (X0.dat Ty.bool false)]] []) else bif !Sp.eqW Sp.eqV (Sp.f43 x0).1.1 (Sp.f42 x0).1.1 then some (Res.mk [XV.mk false [X.c (X0.dat Ty.bool false)]] []) else bif (Sp.f43 x0).1.2 != (Sp.f42 x0).1.2 then some (Res.mk [XV.mk false [X.c (X0.dat Ty.bool false)]] []) else chk (Sp.smallW (3 : Nat) (Sp.f43 x0).1.1 (1 : Int)) (chk (Sp.smallW (3 : Nat) (Sp.markW Sp.markV (3 : Int) (Sp.f43 x0).1.1 (1 : Int)) (1 : Int)) (bif decide (Sp.heldW Sp.heldV (3 : Int) (Sp.markW Sp.markV (3 : Int) (Sp.f43 x0).1.1 (1 : Int)) (1 : Int) < (0 : Int)) then some (Res.mk [XV.mk false [X.c (X0.dat Ty.bool false)]] []) else bif Sp.heldW Sp.heldV (3 : Int) (Sp.markW Sp.markV (3 : Int) (Sp.f43 x0).1.1 (1 : Int)) (1 : Int) != Sp.addW (3 : Int) (Sp.f43 x0).1.1 (1 : Int) then some (Res.mk [XV.mk false [X.c (X0.dat Ty.bool false)]] []) else chk (Sp.fits x0) (chk (Sp.f43_pre x0) (bif !Sp.eqW Sp.eqV (Sp.f43 x0).1.1 (Sp.f42 x0).1.1 then some (Res.mk [XV.mk false [X.c (X0.dat Ty.bool false)]] []) else bif (Sp.f43 x0).1.2 != (Sp.f42 x0).1.2 then some (Res.mk [XV.mk false [X.c (X0.dat Ty.bool false)]] []) else chk (Sp.smallW (3 : Nat) (Sp.markW Sp.markV (3 : Int) (Sp.f43 x0).1.1 (1 : Int)) (1 : Int)) (bif decide (Sp.heldW Sp.heldV (3 : Int) (Sp.markW Sp.markV (3 : Int) (Sp.f43 x0).1.1 (1 : Int)) (1 : Int) < (0 : Int)) then some (Res.mk [XV.mk false [X.c (X0.dat Ty.bool false)]] []) else bif Sp.heldW Sp.heldV (3 : Int) (Sp.markW Sp.markV (3 : Int) (Sp.f43 x0).1.1 (1 : Int)) (1 : Int) != Sp.addW (3 : Int) (Sp.f43 x0).1.1 (1 : Int) then some (Res.mk [XV.mk false [X.c (X0.dat Ty.bool false)]] []) else some (Res.mk [XV.mk false [X.c (X0.dat Ty.bool true)]] [])))))))))))) := by kernel_rfl
theorem f9_form (x0 : List Int) : (bif decide ((↑x0.length : Int) > (1048576 : Int)) then some (Res.mk [XV.mk false [X.c (X0.dat Ty.bool true)]] []) else chk (Sp.fits x0) (chk (Sp.f42_pre x0) (chk (Sp.fits x0) (chk (Sp.f43_pre x0) (bif !Sp.eqW Sp.eqV (Sp.f43 x0).1.1 (Sp.f42 x0).1.1 then some (Res.mk [XV.mk false [X.c (X0.dat Ty.bool false)]] []) else bif (Sp.f43 x0).1.2 != (Sp.f42 x0).1.2 then some (Res.mk [XV.mk false [X.c (X0.dat Ty.bool false)]] []) else chk (Sp.fits x0) (bif !Sp.eqL x0 x0 then some (Res.mk [XV.mk false [X.c (X0.dat Ty.bool false)]] []) else chk (Sp.small x0 (1 : Int)) (bif decide (Sp.addLen x0 (1 : Int) < (0 : Int)) then some (Res.mk [XV.mk false [X.c (X0.dat Ty.bool false)]] []) else bif !Sp.eqW Sp.eqV (Sp.f43 x0).1.1 (Sp.f42 x0).1.1 then some (Res.mk [XV.mk false [X.c (X0.dat Ty.bool false)]] []) else bif (Sp.f43 x0).1.2 != (Sp.f42 x0).1.2 then some (Res.mk [XV.mk false [X.c (X0.dat Ty.bool false)]] []) else chk (Sp.smallW (3 : Nat) (Sp.f43 x0).1.1 (1 : Int)) (chk (Sp.smallW (3 : Nat) (Sp.markW Sp.markV (3 : Int) (Sp.f43 x0).1.1 (1 : Int)) (1 : Int)) (bif decide (Sp.heldW Sp.heldV (3 : Int) (Sp.markW Sp.markV (3 : Int) (Sp.f43 x0).1.1 (1 : Int)) (1 : Int) < (0 : Int)) then some (Res.mk [XV.mk false [X.c (X0.dat Ty.bool false)]] []) else bif Sp.heldW Sp.heldV (3 : Int) (Sp.markW Sp.markV (3 : Int) (Sp.f43 x0).1.1 (1 : Int)) (1 : Int) != Sp.addW (3 : Int) (Sp.f43 x0).1.1 (1 : Int) then some (Res.mk [XV.mk false [X.c (X0.dat Ty.bool false)]] []) else chk (Sp.fits x0) (chk (Sp.f43_pre x0) (bif !Sp.eqW Sp.eqV (Sp.f43 x0).1.1 (Sp.f42 x0).1.1 then some (Res.mk [XV.mk false [X.c (X0.dat Ty.bool false)]] []) else bif (Sp.f43 x0).1.2 != (Sp.f42 x0).1.2 then some (Res.mk [XV.mk false [X.c (X0.dat Ty.bool false)]] []) else chk (Sp.smallW (3 : Nat) (Sp.markW Sp.markV (3 : Int) (Sp.f43 x0).1.1 (1 : Int)) (1 : Int)) (bif decide (Sp.heldW Sp.heldV (3 : Int) (Sp.markW Sp.markV (3 : Int) (Sp.f43 x0).1.1 (1 : Int)) (1 : Int) < (0 : Int)) then some (Res.mk [XV.mk false [X.c (X0.dat Ty.bool false)]] []) else bif Sp.heldW Sp.heldV (3 : Int) (Sp.markW Sp.markV (3 : Int) (Sp.f43 x0).1.1 (1 : Int)) (1 : Int) != Sp.addW (3 : Int) (Sp.f43 x0).1.1 (1 : Int) then some (Res.mk [XV.mk false [X.c (X0.dat Ty.bool false)]] []) else some (Res.mk [XV.mk false [X.c (X0.dat Ty.bool true)]] []))))))))))))) = chk (Sp.f9_pre x0) (some (f9_g (Sp.f9 x0))) := by
  unfold Sp.f9_pre Sp.f9
  exact (cond_step f9_g ((lift_plain (rfl))) ((chk_step ((chk_step ((chk_step ((chk_step ((cond_step f9_g ((lift_plain (rfl))) ((cond_step f9_g ((lift_plain (rfl))) ((chk_step ((cond_step f9_g ((lift_plain (rfl))) ((chk_step ((cond_step f9_g ((lift_plain (rfl))) ((cond_step f9_g ((lift_plain (rfl))) ((cond_step f9_g ((lift_plain (rfl))) ((chk_step ((chk_step ((cond_step f9_g ((lift_plain (rfl))) ((cond_step f9_g ((lift_plain (rfl))) ((chk_step ((chk_step ((cond_step f9_g ((lift_plain (rfl))) ((cond_step f9_g ((lift_plain (rfl))) ((chk_last ((cond_plain f9_g (rfl) ((cond_plain f9_g (rfl) (rfl))))))))))))))))))))))))))))))))))))))))))))))))
theorem e9_ok : Valid Try.prog Γ e9 := valid_auto ok (vcons e22_ok (vcons e42_ok (vcons e43_ok (vcons e44_ok (vcons e24_ok (vcons e25_ok (vcons e45_ok (vcons e46_ok vnil)))))))) fun a => (f9_raw a).trans (f9_form a)

end Go.Proofs.GR.T
namespace Go.Proofs.GR.T
open Go Go.Proofs Go.Proofs.GR
theorem badV_eq (x : V3) : Sp.badV x = !Sp.vOK x := by
  unfold Sp.badV Sp.vOK Sp.f170 Sp.f171 Sp.f136 Sp.f167 Sp.f70 Sp.f79
  cases x.1 == 0 <;> cases x.1 == 1 <;> cases x.1 == 2 <;> cases x.1 == 3 <;> cases x.1 == 4 <;> rfl
theorem idx_ge {α : Type} {p : α → Bool} : ∀ (xs : List α) (i : Int), 0 ≤ i → decide (Sp.idx p xs i ≥ 0) = !Sp.allW (fun x => !p x) xs
  | [], i, _ => by rw [Sp.idx, Sp.allW]; rfl
  | x :: r, i, h => by
    rw [Sp.idx, Sp.allW]
    cases p x with
    | true => exact decide_eq_true h
    | false => exact idx_ge r (i + 1) (by omega)
theorem allW_congr {α : Type} {p q : α → Bool} (h : ∀ x, p x = q x) (xs : List α) : Sp.allW p xs = Sp.allW q xs := by
  rw [show p = q from funext h]
theorem f132_eq (xs : List V3) : (Sp.f132 xs).1 = Sp.rowOK xs := by
  unfold Sp.f132 Sp.rowOK Sp.f169
  rw [idx_ge xs 0 (Int.le_refl _), allW_congr (q := Sp.vOK) (fun x => by rw [badV_eq, Bool.not_not]), Bool.not_not]
  by_cases h : (xs.length : Int) ≤ 8
  · rw [decide_eq_true h, decide_eq_false (show ¬ (xs.length : Int) > 8 by omega)]; rfl
  · rw [decide_eq_false h, decide_eq_true (show (xs.length : Int) > 8 by omega)]; rfl
theorem rowOK_iff {xs : List V3} : Sp.rowOK xs = true ↔ xs.length ≤ 8 ∧ ∀ x ∈ xs, Sp.vOK x = true := by
  unfold Sp.rowOK
  by_cases h : (xs.length : Int) > 8
  · rw [decide_eq_true h, cond_true]
    constructor
    · intro h; cases h
    · rintro ⟨h1, _⟩; omega
  · rw [decide_eq_false h, cond_false, allW_mem]
    exact ⟨fun h2 => ⟨by omega, h2⟩, fun h2 => h2.2⟩
theorem cells_grow (row : Bool) : ∀ (d : Nat) (b : List Int) (out : List V3), (Sp.cells d b row out).2 = true → out.length ≤ (Sp.cells d b row out).1.length ∧ (b.length ≠ 0 → out.length < (Sp.cells d b row out).1.length)
  | 0, _, _, h => by cases h
  | d + 1, b, out, h => by
    rw [Sp.cells] at h ⊢
    by_cases h0 : b.length = 0
    · rw [decide_eq_true h0, cond_true]
      exact ⟨Nat.le_refl _, fun hn => absurd h0 hn⟩
    · rw [decide_eq_false h0, cond_false] at h ⊢
      cases hz : (Sp.cell b row).2 == 0 with
      | true => rw [hz, cond_true] at h; cases h
      | false =>
        rw [hz, cond_false] at h
        rw [cond_false]
        cases h8 : decide (out.length = 8) with
        | true => rw [h8, cond_true] at h; cases h
        | false =>
          rw [h8, cond_false] at h
          rw [cond_false]
          have := (cells_grow row d _ _ h).1
          rw [List.length_append, List.length_singleton] at this
          exact ⟨by omega, fun _ => by omega⟩
theorem of8_take (r : List Int) : Sp.of8 (r.take 8) = Sp.of8 r := by
  unfold Sp.of8
  rw [List.take_take]
  rfl
theorem oneV_at {b : List Int} {a : Nat} {x : Int} {r : List Int} (h : b.drop a = x :: r) : Sp.oneV b a false = x ∧ Sp.oneA b a false = ((a + 1 : Nat) : Int) ∧ Sp.oneB b a false = false ∧ b.drop (a + 1) = r ∧ a < b.length := by
  have hlt : a < b.length := by
    apply Nat.lt_of_not_le
    intro hge
    rw [List.drop_of_length_le hge] at h
    cases h
  have h2 := List.drop_eq_getElem_cons hlt
  rw [h] at h2
  obtain ⟨e1, e2⟩ := List.cons.inj h2
  have hc : ¬ (a : Int) ≥ (b.length : Int) := by omega
  unfold Sp.oneV Sp.oneA Sp.oneB
  rw [decide_eq_false hc, getD_nat b a 0 hlt]
  refine ⟨e1.symm, ?_, rfl, e2.symm, hlt⟩
  show (a : Int) + 1 = _
  omega
theorem one_end {b : List Int} {a : Nat} (bad : Bool) (h : b.drop a = []) : Sp.oneV b a bad = 0 ∧ Sp.oneA b a bad = (a : Int) ∧ Sp.oneB b a bad = true := by
  have hge : b.length ≤ a := by
    apply Nat.le_of_not_lt
    intro hlt
    rw [List.drop_eq_getElem_cons hlt] at h
    cases h
  have hc : (a : Int) ≥ (b.length : Int) := by omega
  unfold Sp.oneV Sp.oneA Sp.oneB
  rw [decide_eq_true hc]
  cases bad <;> exact ⟨rfl, rfl, rfl⟩
/-- A value of a row is what the program's cell is. -/
theorem rv_step {b : List Int} {a : Nat} {x : Int} {r : List Int} (hb : Sp.isBytes b = true) (h : b.drop a = x :: r) :
    ((Sp.cell (x :: r) true).2 = 0 → Sp.rvB b a false = true ∨ Sp.vOK (Sp.rvV b a false) = false) ∧
    ((Sp.cell (x :: r) true).2 ≠ 0 → Sp.rvV b a false = (Sp.cell (x :: r) true).1 ∧ Sp.rvA b a false = a + (Sp.cell (x :: r) true).2 ∧ Sp.rvB b a false = false) := by
  obtain ⟨o1, o2, o3, o4, o5⟩ := oneV_at h
  have hbx : Sp.isBytes (x :: r) = true := h ▸ isBytes_drop hb a
  obtain ⟨⟨x0, x1⟩, hbr⟩ := isBytes_cons.1 hbx
  have hlen : r.length = b.length - (a + 1) := by rw [← o4, List.length_drop]
  rw [show Sp.cell (x :: r) true = Sp.cellC x r true from rfl]
  unfold Sp.rvV Sp.rvA Sp.rvB
  rw [o1, o2, o3]
  by_cases c0 : x = 0
  · subst c0
    exact ⟨fun h => absurd h (show ¬ (1 : Int) = 0 by decide), fun _ => ⟨rfl, by show ((a + 1 : Nat) : Int) = a + 1; omega, rfl⟩⟩
  by_cases c1 : x = 1
  · subst c1
    cases r with
    | nil =>
      obtain ⟨p1, p2, p3⟩ := one_end (b := b) (a := a + 1) false o4
      refine ⟨fun _ => .inl p3, fun h => absurd rfl h⟩
    | cons y r' =>
      obtain ⟨p1, p2, p3, p4, p5⟩ := oneV_at o4
      refine ⟨fun h => absurd h (show ¬ (2 : Int) = 0 by decide), fun _ => ⟨?_, ?_, p3⟩⟩
      · show ((1 : Int), Sp.oneV b ((a + 1 : Nat) : Int) false, ByteArray.empty) = (1, y, ByteArray.empty)
        rw [p1]
      · show Sp.oneA b ((a + 1 : Nat) : Int) false = a + 2
        rw [p2]; omega
  by_cases c2 : x = 2
  · subst c2
    have ht : Sp.takeB b ((a + 1 : Nat) : Int) false 8 = decide (((a + 1 : Nat) : Int) + 8 > (b.length : Int)) := rfl
    by_cases h8 : 8 ≤ r.length
    · have ht2 : Sp.takeB b ((a + 1 : Nat) : Int) false 8 = false := by rw [ht]; exact decide_eq_false (by omega)
      have e9 : Sp.cellC 2 r true = ((2, Sp.of8 r, ByteArray.empty), 9) := by
        show (bif Nat.ble 8 r.length then (((2, Sp.of8 r, ByteArray.empty), 9) : V3 × Int) else (Sp.zv, 0)) = _
        rw [Nat.ble_eq_true_of_le h8]; rfl
      rw [e9]
      refine ⟨fun h => absurd h (show ¬ (9 : Int) = 0 by decide), fun _ => ⟨?_, ?_, ht2⟩⟩
      · show ((2 : Int), Sp.of8 (Sp.takeV b ((a + 1 : Nat) : Int) false 8), ByteArray.empty) = (2, Sp.of8 r, ByteArray.empty)
        unfold Sp.takeV
        rw [ht2, cond_false, Int.toNat_natCast, o4, show (8 : Int).toNat = 8 from rfl, of8_take]
      · show Sp.takeA b ((a + 1 : Nat) : Int) false 8 = a + 9
        unfold Sp.takeA
        rw [ht2, cond_false]; omega
    · have ht2 : Sp.takeB b ((a + 1 : Nat) : Int) false 8 = true := by rw [ht]; exact decide_eq_true (by omega)
      have hb8 : Nat.ble 8 r.length = false := Bool.eq_false_iff.2 fun e => h8 (Nat.le_of_ble_eq_true e)
      refine ⟨fun _ => .inl ht2, fun hn => absurd ?_ hn⟩
      show (bif Nat.ble 8 r.length then (((2, Sp.of8 r, ByteArray.empty), 9) : V3 × Int) else (Sp.zv, 0)).2 = 0
      rw [hb8]; rfl
  unfold Sp.cellC
  rw [beq_false_of_ne c0, beq_false_of_ne c1, beq_false_of_ne c2]
  simp only [cond_false, Bool.not_true]
  have e167 : (Sp.f167 x).1 = (bif x == 3 then true else x == 4) := by
    unfold Sp.f167
    cases x == 3 <;> rfl
  rw [e167]
  cases ct : (bif x == 3 then true else x == 4) with
  | true =>
    simp only [cond_true]
    cases r with
    | nil =>
      obtain ⟨p1, p2, p3⟩ := one_end (b := b) (a := a + 1) false o4
      rw [p3]
      exact ⟨fun _ => .inl rfl, fun h => absurd rfl h⟩
    | cons y r' =>
      obtain ⟨p1, p2, p3, p4, p5⟩ := oneV_at o4
      obtain ⟨⟨y0, y1⟩, _⟩ := isBytes_cons.1 hbr
      have hl2 : r'.length = b.length - (a + 1 + 1) := by rw [← p4, List.length_drop]
      rw [p1, p2, p3]
      show ((bif Nat.ble y.toNat r'.length then (((x, 0, bytesStr (r'.take y.toNat)), 2 + y) : V3 × Int) else (Sp.zv, 0)).2 = 0 → _) ∧ ((bif Nat.ble y.toNat r'.length then (((x, 0, bytesStr (r'.take y.toNat)), 2 + y) : V3 × Int) else (Sp.zv, 0)).2 ≠ 0 → _ = (bif Nat.ble y.toNat r'.length then (((x, 0, bytesStr (r'.take y.toNat)), 2 + y) : V3 × Int) else (Sp.zv, 0)).1 ∧ _ = _ + (bif Nat.ble y.toNat r'.length then (((x, 0, bytesStr (r'.take y.toNat)), 2 + y) : V3 × Int) else (Sp.zv, 0)).2 ∧ _)
      have ht : Sp.takeB b ((a + 1 + 1 : Nat) : Int) false y = decide (((a + 1 + 1 : Nat) : Int) + y > (b.length : Int)) := by
        unfold Sp.takeB
        rw [decide_eq_false (show ¬ y < 0 by omega)]; rfl
      by_cases hy : y.toNat ≤ r'.length
      · have ht2 : Sp.takeB b ((a + 1 + 1 : Nat) : Int) false y = false := by rw [ht]; exact decide_eq_false (by omega)
        rw [Nat.ble_eq_true_of_le hy, cond_true]
        refine ⟨fun h => absurd h (show ¬ 2 + y = 0 by omega), fun _ => ⟨?_, ?_, ht2⟩⟩
        · show _ = (x, (0 : Int), bytesStr (r'.take y.toNat))
          unfold Sp.takeV
          rw [ht2, cond_false, Int.toNat_natCast, p4]
        · unfold Sp.takeA
          rw [ht2, cond_false]
          show _ = (a : Int) + (2 + y)
          omega
      · have ht2 : Sp.takeB b ((a + 1 + 1 : Nat) : Int) false y = true := by rw [ht]; exact decide_eq_true (by omega)
        rw [show Nat.ble y.toNat r'.length = false from Bool.eq_false_iff.2 fun e => hy (Nat.le_of_ble_eq_true e), cond_false]
        exact ⟨fun _ => .inl ht2, fun h => absurd rfl h⟩
  | false =>
    simp only [cond_false]
    refine ⟨fun _ => .inr ?_, fun h => absurd rfl h⟩
    have c34 : (x == 3) = false ∧ (x == 4) = false := by
      cases h3 : x == 3 with
      | true => rw [h3] at ct; cases ct
      | false => rw [h3] at ct; exact ⟨rfl, ct⟩
    unfold Sp.vOK Sp.f136
    simp only [beq_false_of_ne c0, beq_false_of_ne c1, beq_false_of_ne c2, c34.1, c34.2, cond_false]
theorem srow_bad (b : List Int) (a : Int) (out : List V3) : ∀ k, Sp.srow k b a true out = (out, a, true)
  | 0 => rfl
  | _ + 1 => rfl
theorem srow_next (k : Nat) (b : List Int) (a : Int) (out : List V3) : Sp.srow (k + 1) b a false out = Sp.srow k b (Sp.rvA b a false) (Sp.rvB b a false) (out ++ [Sp.rvV b a false]) := rfl
theorem srow_pre (b : List Int) : ∀ (k : Nat) (a : Int) (bad : Bool) (out : List V3), ∃ t, (Sp.srow k b a bad out).1 = out ++ t ∧ t.length ≤ k
  | 0, _, _, out => ⟨[], by rw [List.append_nil]; rfl, Nat.le_refl _⟩
  | k + 1, a, true, out => ⟨[], by rw [srow_bad, List.append_nil], Nat.zero_le _⟩
  | k + 1, a, false, out => by
    obtain ⟨t, h1, h2⟩ := srow_pre b k (Sp.rvA b a false) (Sp.rvB b a false) (out ++ [Sp.rvV b a false])
    refine ⟨Sp.rvV b a false :: t, ?_, by rw [List.length_cons]; omega⟩
    rw [srow_next, h1, List.append_assoc]
    rfl
theorem row_core {b : List Int} (hb : Sp.isBytes b = true) (hl : b.length ≤ 1048576) : ∀ (k a d : Nat) (out : List V3), a ≤ b.length → (b.drop a).length < d → out.length ≤ 8 →
    ((Sp.cells d (b.drop a) true out).2 = true → (Sp.cells d (b.drop a) true out).1.length = out.length + k → Sp.srow k b a false out = ((Sp.cells d (b.drop a) true out).1, (b.length : Int), false) ∧ Sp.rowOK (Sp.cells d (b.drop a) true out).1 = true) ∧
    (∀ o, Sp.srow k b a false out = (o, (b.length : Int), false) → Sp.rowOK o = true → Sp.cells d (b.drop a) true out = (o, true) ∧ o.length = out.length + k) := by
  intro k
  induction k with
  | zero =>
    intro a d out ha hd ho
    obtain ⟨d, rfl⟩ := succ_of hd
    have e0 : Sp.srow 0 b a false out = (out, (a : Int), false) := rfl
    by_cases h0 : (b.drop a).length = 0
    · have hab : a = b.length := by rw [List.length_drop] at h0; omega
      have ec : Sp.cells (d + 1) (b.drop a) true out = (out, Sp.rowOK out) := by rw [Sp.cells, decide_eq_true h0, cond_true, f132_eq]
      rw [ec, e0, hab]
      refine ⟨fun h _ => ⟨rfl, h⟩, fun o h hr => ?_⟩
      obtain ⟨rfl, _⟩ := Prod.mk.inj h
      exact ⟨by rw [hr], rfl⟩
    · refine ⟨fun h hlen => ?_, fun o h hr => ?_⟩
      · have := (cells_grow true (d + 1) _ _ h).2 h0
        omega
      · rw [e0] at h
        obtain ⟨_, h2⟩ := Prod.mk.inj h
        obtain ⟨h2, _⟩ := Prod.mk.inj h2
        rw [List.length_drop] at h0
        omega
  | succ k ih =>
    intro a d out ha hd ho
    obtain ⟨d, rfl⟩ := succ_of hd
    rw [srow_next]
    cases hc : b.drop a with
    | nil =>
      obtain ⟨p1, p2, p3⟩ := one_end (b := b) (a := a) false hc
      have eB : Sp.rvB b a false = true := by unfold Sp.rvB; rw [p1, p2, p3]; rfl
      rw [eB, srow_bad]
      refine ⟨fun h hlen => ?_, fun o h hr => ?_⟩
      · have e : Sp.cells (d + 1) [] true out = (out, (Sp.f132 out).1) := rfl
        rw [e] at hlen
        have : out.length = out.length + (k + 1) := hlen
        omega
      · obtain ⟨_, h2⟩ := Prod.mk.inj h
        obtain ⟨_, h2⟩ := Prod.mk.inj h2
        cases h2
    | cons x r =>
      obtain ⟨s1, s2⟩ := rv_step hb hc
      have hlr : (b.drop a).length = r.length + 1 := by rw [hc]; rfl
      have hbx : Sp.isBytes (x :: r) = true := hc ▸ isBytes_drop hb a
      have hdl : r.length + 1 = b.length - a := by rw [← hlr, List.length_drop]
      have hcell := cell_len (b := x :: r) (row := true) (cellOK_mk (by rw [List.length_cons]; omega) (by rw [List.length_cons]; omega) hbx)
      have ec : Sp.cells (d + 1) (x :: r) true out = bif (Sp.cell (x :: r) true).2 == 0 then ([], false) else bif decide (out.length = 8) then ([], false) else Sp.cells d ((x :: r).drop (Sp.cell (x :: r) true).2.toNat) true (out ++ [(Sp.cell (x :: r) true).1]) := by
        rw [Sp.cells, decide_eq_false (show ¬ (x :: r).length = 0 by rw [List.length_cons]; omega), cond_false]
      rw [ec]
      by_cases hz : (Sp.cell (x :: r) true).2 = 0
      · rw [show ((Sp.cell (x :: r) true).2 == 0) = true from beq_iff_eq.2 hz, cond_true]
        refine ⟨fun h => (by cases h), fun o h hr => ?_⟩
        exfalso
        cases hB : Sp.rvB b a false with
        | true =>
          rw [hB, srow_bad] at h
          obtain ⟨_, h2⟩ := Prod.mk.inj h
          obtain ⟨_, h2⟩ := Prod.mk.inj h2
          cases h2
        | false =>
          rcases s1 hz with h3 | h3
          · rw [hB] at h3; cases h3
          · obtain ⟨t, h4, _⟩ := srow_pre b k (Sp.rvA b a false) (Sp.rvB b a false) (out ++ [Sp.rvV b a false])
            rw [h] at h4
            have h5 : o = out ++ [Sp.rvV b a false] ++ t := h4
            have := (rowOK_iff.1 hr).2 (Sp.rvV b a false) (by rw [h5]; simp)
            rw [h3] at this
            cases this
      · obtain ⟨v1, v2, v3⟩ := s2 hz
        rw [beq_false_of_ne hz, cond_false]
        by_cases h8 : out.length = 8
        · rw [decide_eq_true h8, cond_true]
          refine ⟨fun h => (by cases h), fun o h hr => ?_⟩
          exfalso
          obtain ⟨t, h4, _⟩ := srow_pre b k (Sp.rvA b a false) (Sp.rvB b a false) (out ++ [Sp.rvV b a false])
          rw [h] at h4
          have h5 : o = out ++ [Sp.rvV b a false] ++ t := h4
          have h6 := (rowOK_iff.1 hr).1
          rw [h5, List.length_append, List.length_append, List.length_singleton] at h6
          omega
        · have hcl : (x :: r).length = r.length + 1 := rfl
          rw [hcl] at hcell
          have ea : (a : Int) + (Sp.cell (x :: r) true).2 = ((a + (Sp.cell (x :: r) true).2.toNat : Nat) : Int) := by omega
          have ed : (x :: r).drop (Sp.cell (x :: r) true).2.toNat = b.drop (a + (Sp.cell (x :: r) true).2.toNat) := by rw [← hc, List.drop_drop]
          rw [decide_eq_false h8, cond_false, v1, v2, v3, ea, ed]
          have hh := ih (a + (Sp.cell (x :: r) true).2.toNat) d (out ++ [(Sp.cell (x :: r) true).1]) (by omega) (by rw [List.length_drop]; omega) (by rw [List.length_append, List.length_singleton]; omega)
          rw [List.length_append, List.length_singleton, show out.length + 1 + k = out.length + (k + 1) by omega] at hh
          exact hh
theorem f43_eq {xs : List Int} (hb : Sp.isBytes xs = true) : Sp.f43 xs = Sp.f42 xs := by
  unfold Sp.f43 Sp.f42
  by_cases c0 : (xs.length : Int) > 65536
  · rw [decide_eq_true c0]; rfl
  rw [decide_eq_false c0, cond_false, cond_false]
  match xs, hb, c0 with
  | [], _, _ => rfl
  | c :: r, hb, c0 =>
    have hl : (c :: r).length = r.length + 1 := rfl
    obtain ⟨⟨x0, x1⟩, hbr⟩ := isBytes_cons.1 hb
    have hr : List.take ((c :: r).length - 1) (List.drop 1 (c :: r)) = r := by simp
    obtain ⟨o1, o2, o3, o4, o5⟩ := oneV_at (b := c :: r) (a := 0) rfl
    have hx : IntKind.i64.wrap ((c :: r).getD 0 0) = c := wrap64 (by simpa using by omega) (by simpa using by omega)
    rw [Int.natCast_zero] at o1 o2 o3
    have eR : Sp.rowR (c :: r) 0 false = Sp.srow c.toNat (c :: r) (1 : Nat) false [] := by
      unfold Sp.rowR
      rw [o1, o2, o3]
    obtain ⟨A, B⟩ := row_core hb (by omega) c.toNat 1 (r.length + 1) [] (by omega) (by show r.length < _; omega) (Nat.zero_le _)
    rw [show (c :: r).drop 1 = r from rfl] at A B
    rw [List.length_nil, Nat.zero_add] at A
    have hne : (((c :: r).length : Int) == 0) = false := beq_false_of_ne (by omega)
    unfold Sp.rowB
    rw [hr, hx, hne, cond_false, eR]
    cases hq : (Sp.cells (r.length + 1) r true []).2 with
    | true =>
      by_cases hn : ((Sp.cells (r.length + 1) r true []).1.length : Int) = c
      · obtain ⟨h1, h2⟩ := A hq (by omega)
        rw [h1, h2, show (((Sp.cells (r.length + 1) r true []).1.length : Int) != c) = false by simp [hn]]
        simp
      · have hn2 : (((Sp.cells (r.length + 1) r true []).1.length : Int) != c) = true := bne_iff_ne.2 hn
        rw [hn2]
        rcases hs : Sp.srow c.toNat (c :: r) (1 : Nat) false [] with ⟨o, a', bad'⟩
        cases bad' with
        | true => cases Sp.rowOK o <;> rfl
        | false =>
          cases hro : Sp.rowOK o with
          | false => rfl
          | true =>
            by_cases ha : a' = ((c :: r).length : Int)
            · subst ha
              obtain ⟨h1, h2⟩ := B o hs hro
              rw [h1] at hn
              rw [List.length_nil, Nat.zero_add] at h2
              exact absurd (show (o.length : Int) = c by omega) hn
            · rw [show (a' != ((c :: r).length : Int)) = true from bne_iff_ne.2 ha]; rfl
    | false =>
      rcases hs : Sp.srow c.toNat (c :: r) (1 : Nat) false [] with ⟨o, a', bad'⟩
      cases bad' with
      | true => cases Sp.rowOK o <;> rfl
      | false =>
        cases hro : Sp.rowOK o with
        | false => rfl
        | true =>
          by_cases ha : a' = ((c :: r).length : Int)
          · subst ha
            obtain ⟨h1, h2⟩ := B o hs hro
            rw [h1] at hq
            cases hq
          · rw [show (a' != ((c :: r).length : Int)) = true from bne_iff_ne.2 ha]; rfl
theorem f42_pre {xs : List Int} (hb : Sp.isBytes xs = true) : Sp.f42_pre xs = true := by
  unfold Sp.f42_pre
  by_cases c0 : (xs.length : Int) > 65536
  · rw [decide_eq_true c0]; rfl
  · rw [decide_eq_false c0]
    exact rdOK_mk (Int.le_refl _) (Int.natCast_nonneg _) (by omega) hb
theorem f43_pre {xs : List Int} (hb : Sp.isBytes xs = true) : Sp.f43_pre xs = true := by
  unfold Sp.f43_pre
  by_cases c0 : (xs.length : Int) > 65536
  · rw [decide_eq_true c0]; rfl
  rw [decide_eq_false c0, cond_false]
  match xs, hb, c0 with
  | [], _, _ => rfl
  | c :: r, hb, c0 =>
    have hl : (c :: r).length = r.length + 1 := rfl
    obtain ⟨_, hbr⟩ := isBytes_cons.1 hb
    have hr : List.take ((c :: r).length - 1) (List.drop 1 (c :: r)) = r := by simp
    have hm : Sp.bmid r = true := by unfold Sp.bmid; rw [mid_mk (by omega), hbr]; rfl
    rw [hr, hm, decide_eq_true (show (1 : Int) ≤ (c :: r).length by omega), decide_eq_true (show (0 : Int) < (c :: r).length by omega), show (((c :: r).length : Int) == 0) = false from beq_false_of_ne (by omega)]
    cases (Sp.cells (r.length + 1) r true []).2 <;> rfl
theorem cells_len (row : Bool) : ∀ (d : Nat) (b : List Int) (out : List V3), (Sp.cells d b row out).1.length ≤ out.length + d
  | 0, _, _ => Nat.zero_le _
  | d + 1, b, out => by
    rw [Sp.cells]
    cases decide (b.length = 0) with
    | true => exact Nat.le_add_right _ _
    | false =>
      cases (Sp.cell b row).2 == 0 with
      | true => exact Nat.zero_le _
      | false =>
        cases decide (out.length = 8) with
        | true => exact Nat.zero_le _
        | false =>
          have := cells_len row d (b.drop (Sp.cell b row).2.toNat) (out ++ [(Sp.cell b row).1])
          rw [List.length_append, List.length_singleton] at this
          show (Sp.cells d (b.drop (Sp.cell b row).2.toNat) row (out ++ [(Sp.cell b row).1])).1.length ≤ _
          omega
theorem f43_len (xs : List Int) : (Sp.f43 xs).1.1.length ≤ xs.length + 1 := by
  unfold Sp.f43
  have h := cells_len true ((xs.drop 1).take (xs.length - 1)).length.succ ((xs.drop 1).take (xs.length - 1)) []
  rw [List.length_nil, Nat.zero_add] at h
  have hl : ((xs.drop 1).take (xs.length - 1)).length ≤ xs.length := by rw [List.length_take, List.length_drop]; omega
  cases decide ((xs.length : Int) > 65536) with
  | true => exact Nat.zero_le _
  | false =>
    rw [cond_false]
    cases (xs.length : Int) == 0 with
    | true => exact Nat.zero_le _
    | false =>
      rw [cond_false]
      cases hb : (Sp.cells (((xs.drop 1).take (xs.length - 1)).length + 1) ((xs.drop 1).take (xs.length - 1)) true []).2 with
      | false => exact Nat.zero_le _
      | true =>
        rw [Bool.not_true, cond_false]
        cases ((Sp.cells (((xs.drop 1).take (xs.length - 1)).length + 1) ((xs.drop 1).take (xs.length - 1)) true []).1.length : Int) != IntKind.i64.wrap (xs.getD 0 0) with
        | true => exact Nat.zero_le _
        | false => exact Nat.le_trans h (by omega)
theorem eqV_self (x : V3) : Sp.eqV x x = true := by
  unfold Sp.eqV Sp.f86
  rw [show (x.1 != x.1) = false by simp, show (x.2.1 != x.2.1) = false by simp, beq_self_eq_true]
  rfl
theorem heldV_mark (x : V3) (k : Int) : Sp.heldV (Sp.markV x k) k = true := by
  unfold Sp.heldV Sp.markV
  simp
theorem law9_pre (xs : List Int) (hb : Sp.isBytes xs = true) : Sp.f9_pre xs = true := by
  unfold Sp.f9_pre
  by_cases h : (xs.length : Int) > 1048576
  · rw [decide_eq_true h]; rfl
  · have hf : Sp.fits xs = true := decide_eq_true (by omega)
    have hs : Sp.small xs 1 = true := small_mk (by omega) (by omega)
    have hlen := f43_len xs
    rw [f43_eq hb] at hlen
    have hs2 : Sp.smallW 3 (Sp.f42 xs).1.1 1 = true := smallW_mk (by omega) (by show 1 + _ ≤ _; omega)
    have hs3 : Sp.smallW 3 (Sp.markW Sp.markV 3 (Sp.f42 xs).1.1 1) 1 = true := smallW_mk (by omega) (by rw [markW_len]; show 1 + _ ≤ _; omega)
    rw [f43_eq hb, decide_eq_false h, f42_pre hb, f43_pre hb, hf, hs, hs2, hs3]
    simp
theorem law9 (xs : List Int) (hb : Sp.isBytes xs = true) : (Sp.f9 xs).1 = true := by
  unfold Sp.f9
  rw [f43_eq hb, heldW_mark heldV_mark, eqW_self eqV_self]
  have h1 : decide (Sp.addLen xs (1 : Int) < 0) = false := decide_eq_false (by unfold Sp.addLen; omega)
  have h2 : decide (Sp.addW 3 (Sp.f42 xs).1.1 (1 : Int) < 0) = false := decide_eq_false (by unfold Sp.addW; omega)
  rw [h1, h2, eqL_self]
  cases decide ((xs.length : Int) > 1048576) <;> simp
end Go.Proofs.GR.T
set_option maxRecDepth 100000
namespace Go.Proofs.GR.T
open Go Go.Proofs Go.Proofs.GR
/-! A number's bytes, the highest bit turned. -/
def Sp.hi (n j : Int) : Int := IntKind.u8.wrap (n.fdiv ((2 : Int) ^ min (IntKind.u64.wrap (IntKind.i64.wrap ((8 : Int) * j))).toNat (64 : Nat)))
def Sp.key8 (n : Int) : List Int := [IntKind.u8.wrap (((BitVec.ofInt (8 : Nat) (Sp.hi n 7) ^^^ BitVec.ofInt (8 : Nat) (128 : Int)).toNat : Nat) : Int), Sp.hi n 6, Sp.hi n 5, Sp.hi n 4, Sp.hi n 3, Sp.hi n 2, Sp.hi n 1, Sp.hi n 0]
noncomputable def f137_L0 (n m0 : Nat) (y0 : Int) (y1 : Int) (y2 : List Int) : Option Res := loopAt Γ (orc []) n (137 : Nat) (0 : Nat) [] [Pth.r, Pth.r, Pth.l, Pth.r, Pth.b] m0 (St.mk [Slot.val (Val.one (Cell.dat (Ty.int IntKind.i64) y0)), Slot.nix, Slot.nix, Slot.val (Val.one (Cell.own (0 : Nat))), Slot.val (Val.one (Cell.dat (Ty.int IntKind.i64) y1)), Slot.nix, Slot.nix, Slot.nix, Slot.nix, Slot.nix, Slot.nix, Slot.nix, Slot.nix, Slot.nix, Slot.nix, Slot.nix, Slot.nix, Slot.nix, Slot.nix, Slot.nix, Slot.nix, Slot.nix, Slot.nix, Slot.nix, Slot.nix] [AObj.row (Ty.int IntKind.u8) y2 true])
theorem f137_L0_step (n m0 : Nat) (y0 : Int) (y1 : Int) (y2 : List Int) : f137_L0 n (m0 + 1) y0 y1 y2 = bif decide (y1 ≥ (0 : Int)) then chk (decide ((0 : Int) ≤ IntKind.u64.wrap (IntKind.i64.wrap ((8 : Int) * y1)))) (chk (decide ((y2.length + [IntKind.u8.wrap (y0.fdiv ((2 : Int) ^ min (IntKind.u64.wrap (IntKind.i64.wrap ((8 : Int) * y1))).toNat (64 : Nat)))].length) * (1 : Nat) ≤ (140737488355328 : Nat))) (f137_L0 n m0 y0 (IntKind.i64.wrap (y1 - (1 : Int))) (y2 ++ [IntKind.u8.wrap (y0.fdiv ((2 : Int) ^ min (IntKind.u64.wrap (IntKind.i64.wrap ((8 : Int) * y1))).toNat (64 : Nat)))]))) else chk (decide ((0 : Int) < (↑y2.length : Int))) (chk (decide ((0 : Int) < (↑y2.length : Int))) (some (Res.mk [XV.mk false [X.c (X0.row (Ty.int IntKind.u8) (y2.set (0 : Nat) (IntKind.u8.wrap (↑(BitVec.ofInt (8 : Nat) (y2.getD (0 : Nat) (0 : Int)) ^^^ BitVec.ofInt (8 : Nat) (128 : Int)).toNat : Int))) true)]] []))) := by kernel_rfl
theorem f137_raw (n : Nat) (x0 : Int) : abody Γ (orc []) n 137 [XV.mk false [X.c (X0.dat (Ty.int IntKind.i64) x0)]] = f137_L0 n n x0 (7 : Int) [] := by kernel_rfl

theorem f137_run (x0 : Int) : f137_L0 9 9 x0 7 [] = some (rB (Sp.key8 x0)) := by kernel_rfl
noncomputable def e137 : Ent := { f := 137, ins := [Sh.one cI], outs := [Sh.one (C0.row tB)], upd := [], pre := fun a => true, spec := fun a => Sp.key8 a, wrt := fun _ => () }
theorem e137_ok : Valid Try.prog Γ e137 := valid_of ok vnil fun a _ => ⟨9, (f137_raw 9 a).trans (f137_run a)⟩
/-! A text of a key. -/
def Sp.ktx : Nat → List Int → Int → Bool → List Int → List Int × Int × Bool
  | 0, _, a, bad, acc => (acc, a, bad)
  | d + 1, b, a, bad, acc => bif bad then (acc, a, bad) else
    bif decide (Sp.oneV b a bad > 0) then Sp.ktx d b (Sp.oneA b a bad) (Sp.oneB b a bad) (acc ++ [IntKind.u8.wrap (Sp.oneV b a bad)])
    else bif Sp.oneV b (Sp.oneA b a bad) (Sp.oneB b a bad) == 1 then (acc, Sp.oneA b (Sp.oneA b a bad) (Sp.oneB b a bad), Sp.oneB b (Sp.oneA b a bad) (Sp.oneB b a bad))
    else bif Sp.oneV b (Sp.oneA b a bad) (Sp.oneB b a bad) != 255 then Sp.ktx d b (Sp.oneA b (Sp.oneA b a bad) (Sp.oneB b a bad)) true (acc ++ [0])
    else Sp.ktx d b (Sp.oneA b (Sp.oneA b a bad) (Sp.oneB b a bad)) (Sp.oneB b (Sp.oneA b a bad) (Sp.oneB b a bad)) (acc ++ [0])
def Sp.left (b : List Int) (a : Int) (bad : Bool) : Nat := bif bad then 0 else (b.length - a.toNat) + 1
theorem left_one {b : List Int} {a : Int} (h : Sp.rdOK b a = true) : Sp.left b (Sp.oneA b a false) (Sp.oneB b a false) < Sp.left b a false := by
  obtain ⟨a0, a1, h2, h3⟩ := rdOK_of h
  unfold Sp.left Sp.oneA Sp.oneB
  rw [cond_false, cond_false, cond_false]
  by_cases hc : a ≥ (b.length : Int)
  · rw [decide_eq_true hc, cond_true]; omega
  · rw [decide_eq_false hc, cond_false, cond_false]; omega
theorem left_one' {b : List Int} {a : Int} (bad : Bool) (h : Sp.rdOK b a = true) : Sp.left b (Sp.oneA b a bad) (Sp.oneB b a bad) ≤ Sp.left b a bad := by
  cases bad with
  | false => exact Nat.le_of_lt (left_one h)
  | true => exact Nat.le_refl _
noncomputable def f135_L0 (n m0 : Nat) (y0 : List Int) (y1 : Int) (y2 : Bool) (y3 : List Int) : Option Res := loopAt Γ (orc [e128]) n (135 : Nat) (1 : Nat) [(0 : Nat)] [Pth.r, Pth.r, Pth.l, Pth.b] m0 (St.mk [Slot.val (Val.one (Cell.ptr (0 : Nat) (0 : Nat))), Slot.nix, Slot.nix, Slot.val (Val.one (Cell.own (1 : Nat))), Slot.nix, Slot.nix, Slot.nix, Slot.nix, Slot.nix, Slot.nix, Slot.nix, Slot.nix, Slot.nix, Slot.nix, Slot.nix, Slot.nix, Slot.nix, Slot.nix, Slot.nix, Slot.nix, Slot.nix, Slot.nix, Slot.nix, Slot.nix, Slot.nix, Slot.nix, Slot.nix, Slot.nix, Slot.nix, Slot.nix, Slot.nix, Slot.nix, Slot.nix, Slot.nix, Slot.nix] [AObj.box (115 : Nat) [Cell.dat (Ty.int IntKind.u8).slice y0, Cell.dat (Ty.int IntKind.i64) y1, Cell.dat Ty.bool y2], AObj.row (Ty.int IntKind.u8) y3 true])
theorem f135_L0_step (n m0 : Nat) (y0 : List Int) (y1 : Int) (y2 : Bool) (y3 : List Int) : f135_L0 n (m0 + 1) y0 y1 y2 y3 = bif !y2 then chk (Sp.rdOK y0 y1) (bif decide (Sp.oneV y0 y1 y2 > (0 : Int)) then chk (decide ((y3.length + [IntKind.u8.wrap (Sp.oneV y0 y1 y2)].length) * (1 : Nat) ≤ (140737488355328 : Nat))) (f135_L0 n m0 y0 (Sp.oneA y0 y1 y2) (Sp.oneB y0 y1 y2) (y3 ++ [IntKind.u8.wrap (Sp.oneV y0 y1 y2)])) else chk (Sp.rdOK y0 (Sp.oneA y0 y1 y2)) (bif Sp.oneV y0 (Sp.oneA y0 y1 y2) (Sp.oneB y0 y1 y2) == (1 : Int) then some (Res.mk [XV.mk false [X.c (X0.dat Ty.str (bytesStr y3))]] [X.box (115 : Nat) [X0.dat (Ty.int IntKind.u8).slice y0, X0.dat (Ty.int IntKind.i64) (Sp.oneA y0 (Sp.oneA y0 y1 y2) (Sp.oneB y0 y1 y2)), X0.dat Ty.bool (Sp.oneB y0 (Sp.oneA y0 y1 y2) (Sp.oneB y0 y1 y2))]]) else bif Sp.oneV y0 (Sp.oneA y0 y1 y2) (Sp.oneB y0 y1 y2) != (255 : Int) then chk (decide ((y3.length + (1 : Nat)) * (1 : Nat) ≤ (140737488355328 : Nat))) (f135_L0 n m0 y0 (Sp.oneA y0 (Sp.oneA y0 y1 y2) (Sp.oneB y0 y1 y2)) true (y3 ++ [(0 : Int)])) else chk (decide ((y3.length + (1 : Nat)) * (1 : Nat) ≤ (140737488355328 : Nat))) (f135_L0 n m0 y0 (Sp.oneA y0 (Sp.oneA y0 y1 y2) (Sp.oneB y0 y1 y2)) (Sp.oneB y0 (Sp.oneA y0 y1 y2) (Sp.oneB y0 y1 y2)) (y3 ++ [(0 : Int)])))) else some (Res.mk [XV.mk false [X.c (X0.dat Ty.str (bytesStr y3))]] [X.box (115 : Nat) [X0.dat (Ty.int IntKind.u8).slice y0, X0.dat (Ty.int IntKind.i64) y1, X0.dat Ty.bool y2]]) := by kernel_rfl
theorem f135_raw (n : Nat) (x0 : List Int) (x1 : Int) (x2 : Bool) : abody Γ (orc [e128]) n 135 [XV.mk false [X.box (115 : Nat) [X0.dat (Ty.int IntKind.u8).slice x0, X0.dat (Ty.int IntKind.i64) x1, X0.dat Ty.bool x2]]] = f135_L0 n n x0 x1 x2 [] := by kernel_rfl

abbrev rKtx (b : List Int) (p : List Int × Int × Bool) : Res := Res.mk [XV.mk false [X.c (X0.dat Ty.str (bytesStr p.1))]] [X.box (115 : Nat) [X0.dat (Ty.int IntKind.u8).slice b, X0.dat (Ty.int IntKind.i64) p.2.1, X0.dat Ty.bool p.2.2]]
theorem f135_loop (n : Nat) (b : List Int) : ∀ (d m : Nat) (a : Int) (bad : Bool) (acc : List Int), Sp.rdOK b a = true → Sp.left b a bad ≤ d → acc.length + d ≤ 3000000 → d < m →
    f135_L0 n m b a bad acc = some (rKtx b (Sp.ktx d b a bad acc)) := by
  intro d
  induction d with
  | zero =>
    intro m a bad acc h hl ha hm
    obtain ⟨m, rfl⟩ := succ_of hm
    cases bad with
    | true => rw [f135_L0_step, Bool.not_true, cond_false]; rfl
    | false => unfold Sp.left at hl; rw [cond_false] at hl; omega
  | succ d ih =>
    intro m a bad acc h hl ha hm
    obtain ⟨m, rfl⟩ := succ_of hm
    cases bad with
    | true => rw [f135_L0_step, Bool.not_true, cond_false]; rfl
    | false =>
      have l1 := left_one h
      have l2 := left_one' (b := b) (Sp.oneB b a false) (oneA_ok (bad := false) h)
      have i1 := ih m (Sp.oneA b a false) (Sp.oneB b a false) (acc ++ [IntKind.u8.wrap (Sp.oneV b a false)]) (oneA_ok h) (by omega) (by rw [List.length_append, List.length_singleton]; omega) (by omega)
      have i2 := ih m (Sp.oneA b (Sp.oneA b a false) (Sp.oneB b a false)) true (acc ++ [0]) (oneA_ok (oneA_ok h)) (Nat.zero_le _) (by rw [List.length_append, List.length_singleton]; omega) (by omega)
      have i3 := ih m (Sp.oneA b (Sp.oneA b a false) (Sp.oneB b a false)) (Sp.oneB b (Sp.oneA b a false) (Sp.oneB b a false)) (acc ++ [0]) (oneA_ok (oneA_ok h)) (by omega) (by rw [List.length_append, List.length_singleton]; omega) (by omega)
      rw [f135_L0_step, Bool.not_false, cond_true, h, chkT, oneA_ok h, chkT]
      simp only [List.length_singleton]
      rw [decide_eq_true (show (acc.length + 1) * 1 ≤ 140737488355328 by omega), chkT, chkT, i1, i2, i3, Sp.ktx, cond_false]
      cases decide (Sp.oneV b a false > 0) with
      | true => rfl
      | false =>
        cases Sp.oneV b (Sp.oneA b a false) (Sp.oneB b a false) == 1 with
        | true => rfl
        | false => cases Sp.oneV b (Sp.oneA b a false) (Sp.oneB b a false) != 255 <;> rfl
def Sp.keyT (b : List Int) (a : Int) (bad : Bool) : List Int × Int × Bool := Sp.ktx (b.length + 1) b a bad []
noncomputable def e135 : Ent := { f := 135, ins := [Sh.box 115 [C0.dat (.slice (.int .u8)), C0.dat (.int .i64), C0.dat .bool]], outs := [Sh.one cS], upd := [Sh.box 115 [C0.dat (.slice (.int .u8)), C0.dat (.int .i64), C0.dat .bool]], pre := fun a => Sp.rdOK a.1 a.2.1, spec := fun a => bytesStr (Sp.keyT a.1 a.2.1 a.2.2).1, wrt := fun a => (a.1, (Sp.keyT a.1 a.2.1 a.2.2).2.1, (Sp.keyT a.1 a.2.1 a.2.2).2.2) }
theorem e135_core (b : List Int) (a : Int) (bad : Bool) (h : Sp.rdOK b a = true) : ∃ n, abody Γ (orc [e128]) n 135 [XV.mk false [X.box (115 : Nat) [X0.dat (Ty.int IntKind.u8).slice b, X0.dat (Ty.int IntKind.i64) a, X0.dat Ty.bool bad]]] = some (rKtx b (Sp.keyT b a bad)) := by
  obtain ⟨a0, a1, h2, h3⟩ := rdOK_of h
  have hl : Sp.left b a bad ≤ b.length + 1 := by
    unfold Sp.left
    cases bad with
    | true => exact Nat.zero_le _
    | false => rw [cond_false]; omega
  exact ⟨b.length + 2, (f135_raw _ b a bad).trans (f135_loop _ b (b.length + 1) _ a bad [] h hl (by rw [List.length_nil]; omega) (Nat.lt_succ_self _))⟩
theorem e135_ok : Valid Try.prog Γ e135 := valid_of ok (vcons e128_ok vnil) fun a ha => e135_core a.1 a.2.1 a.2.2 ha
def Sp.f91x_pre (x0 : List Int) (x1 : Int) (x2 : Bool) : Bool := (Sp.rdOK x0 x1 && (bif Sp.oneV x0 x1 x2 == (1 : Int) then Sp.rdOK x0 (Sp.oneA x0 x1 x2) else (bif Sp.oneV x0 x1 x2 == (2 : Int) then (Sp.tkOK x0 (Sp.oneA x0 x1 x2) (8 : Int) && Sp.has8 (Sp.takeV x0 (Sp.oneA x0 x1 x2) (Sp.oneB x0 x1 x2) (8 : Int))) else (bif Sp.oneV x0 x1 x2 == (3 : Int) then (bif Sp.oneV x0 x1 x2 == (3 : Int) then Sp.rdOK x0 (Sp.oneA x0 x1 x2) else true) else (bif Sp.oneV x0 x1 x2 == (4 : Int) then Sp.rdOK x0 (Sp.oneA x0 x1 x2) else true)))))
def Sp.f91x (x0 : List Int) (x1 : Int) (x2 : Bool) := (bif Sp.oneV x0 x1 x2 == (1 : Int) then ((Sp.oneV x0 x1 x2, Sp.oneV x0 (Sp.oneA x0 x1 x2) (Sp.oneB x0 x1 x2), ByteArray.empty), x0, Sp.oneA x0 (Sp.oneA x0 x1 x2) (Sp.oneB x0 x1 x2), Sp.oneB x0 (Sp.oneA x0 x1 x2) (Sp.oneB x0 x1 x2)) else (bif Sp.oneV x0 x1 x2 == (2 : Int) then ((Sp.oneV x0 x1 x2, Sp.of8 (Sp.takeV x0 (Sp.oneA x0 x1 x2) (Sp.oneB x0 x1 x2) (8 : Int)), ByteArray.empty), x0, Sp.takeA x0 (Sp.oneA x0 x1 x2) (Sp.oneB x0 x1 x2) (8 : Int), Sp.takeB x0 (Sp.oneA x0 x1 x2) (Sp.oneB x0 x1 x2) (8 : Int)) else (bif Sp.oneV x0 x1 x2 == (3 : Int) then (bif Sp.oneV x0 x1 x2 == (3 : Int) then ((Sp.oneV x0 x1 x2, (0 : Int), bytesStr (Sp.keyT x0 (Sp.oneA x0 x1 x2) (Sp.oneB x0 x1 x2)).1), x0, (Sp.keyT x0 (Sp.oneA x0 x1 x2) (Sp.oneB x0 x1 x2)).2.1, (Sp.keyT x0 (Sp.oneA x0 x1 x2) (Sp.oneB x0 x1 x2)).2.2) else ((Sp.oneV x0 x1 x2, (0 : Int), ByteArray.empty), x0, Sp.oneA x0 x1 x2, Sp.oneB x0 x1 x2)) else (bif Sp.oneV x0 x1 x2 == (4 : Int) then ((Sp.oneV x0 x1 x2, (0 : Int), bytesStr (Sp.keyT x0 (Sp.oneA x0 x1 x2) (Sp.oneB x0 x1 x2)).1), x0, (Sp.keyT x0 (Sp.oneA x0 x1 x2) (Sp.oneB x0 x1 x2)).2.1, (Sp.keyT x0 (Sp.oneA x0 x1 x2) (Sp.oneB x0 x1 x2)).2.2) else ((Sp.oneV x0 x1 x2, (0 : Int), ByteArray.empty), x0, Sp.oneA x0 x1 x2, Sp.oneB x0 x1 x2)))))
noncomputable def e91x : Ent := { f := 91, ins := [Sh.box (115 : Nat) [C0.dat (Ty.int IntKind.u8).slice, C0.dat (Ty.int IntKind.i64), C0.dat Ty.bool]], outs := [Sh.agg [C0.dat (Ty.int IntKind.i64), C0.dat (Ty.int IntKind.i64), C0.dat Ty.str]], upd := [Sh.box (115 : Nat) [C0.dat (Ty.int IntKind.u8).slice, C0.dat (Ty.int IntKind.i64), C0.dat Ty.bool]], pre := fun a => Sp.f91x_pre a.1 a.2.1 a.2.2, spec := fun a => (Sp.f91x a.1 a.2.1 a.2.2).1, wrt := fun a => (Sp.f91x a.1 a.2.1 a.2.2).2 }
def f91x_g (v : denS [Sh.agg [C0.dat (Ty.int IntKind.i64), C0.dat (Ty.int IntKind.i64), C0.dat Ty.str]] × denS [Sh.box (115 : Nat) [C0.dat (Ty.int IntKind.u8).slice, C0.dat (Ty.int IntKind.i64), C0.dat Ty.bool]]) : Res := ⟨mkS [Sh.agg [C0.dat (Ty.int IntKind.i64), C0.dat (Ty.int IntKind.i64), C0.dat Ty.str]] v.1, mkU [Sh.box (115 : Nat) [C0.dat (Ty.int IntKind.u8).slice, C0.dat (Ty.int IntKind.i64), C0.dat Ty.bool]] v.2⟩
theorem f91x_raw (x0 : List Int) (x1 : Int) (x2 : Bool) : abody Γ (orc [e128, e130, e129, e135]) 0 91 [XV.mk false [X.box (115 : Nat) [X0.dat (Ty.int IntKind.u8).slice x0, X0.dat (Ty.int IntKind.i64) x1, X0.dat Ty.bool x2]]] = chk (Sp.rdOK x0 x1) (bif Sp.oneV x0 x1 x2 == (1 : Int) then chk (Sp.rdOK x0 (Sp.oneA x0 x1 x2)) (some (Res.mk [XV.mk true [X.c (X0.dat (Ty.int IntKind.i64) (Sp.oneV x0 x1 x2)), X.c (X0.dat (Ty.int IntKind.i64) (Sp.oneV x0 (Sp.oneA x0 x1 x2) (Sp.oneB x0 x1 x2))), X.c (X0.dat Ty.str ByteArray.empty)]] [X.box (115 : Nat) [X0.dat (Ty.int IntKind.u8).slice x0, X0.dat (Ty.int IntKind.i64) (Sp.oneA x0 (Sp.oneA x0 x1 x2) (Sp.oneB x0 x1 x2)), X0.dat Ty.bool (Sp.oneB x0 (Sp.oneA x0 x1 x2) (Sp.oneB x0 x1 x2))]])) else bif Sp.oneV x0 x1 x2 == (2 : Int) then chk (Sp.tkOK x0 (Sp.oneA x0 x1 x2) (8 : Int)) (chk (Sp.has8 (Sp.takeV x0 (Sp.oneA x0 x1 x2) (Sp.oneB x0 x1 x2) (8 : Int))) (some (Res.mk [XV.mk true [X.c (X0.dat (Ty.int IntKind.i64) (Sp.oneV x0 x1 x2)), X.c (X0.dat (Ty.int IntKind.i64) (Sp.of8 (Sp.takeV x0 (Sp.oneA x0 x1 x2) (Sp.oneB x0 x1 x2) (8 : Int)))), X.c (X0.dat Ty.str ByteArray.empty)]] [X.box (115 : Nat) [X0.dat (Ty.int IntKind.u8).slice x0, X0.dat (Ty.int IntKind.i64) (Sp.takeA x0 (Sp.oneA x0 x1 x2) (Sp.oneB x0 x1 x2) (8 : Int)), X0.dat Ty.bool (Sp.takeB x0 (Sp.oneA x0 x1 x2) (Sp.oneB x0 x1 x2) (8 : Int))]]))) else bif Sp.oneV x0 x1 x2 == (3 : Int) then bif Sp.oneV x0 x1 x2 == (3 : Int) then chk (Sp.rdOK x0 (Sp.oneA x0 x1 x2)) (some (Res.mk [XV.mk true [X.c (X0.dat (Ty.int IntKind.i64) (Sp.oneV x0 x1 x2)), X.c (X0.dat (Ty.int IntKind.i64) (0 : Int)), X.c (X0.dat Ty.str (bytesStr (Sp.keyT x0 (Sp.oneA x0 x1 x2) (Sp.oneB x0 x1 x2)).1))]] [X.box (115 : Nat) [X0.dat (Ty.int IntKind.u8).slice x0, X0.dat (Ty.int IntKind.i64) (Sp.keyT x0 (Sp.oneA x0 x1 x2) (Sp.oneB x0 x1 x2)).2.1, X0.dat Ty.bool (Sp.keyT x0 (Sp.oneA x0 x1 x2) (Sp.oneB x0 x1 x2)).2.2]])) else some (Res.mk [XV.mk true [X.c (X0.dat (Ty.int IntKind.i64) (Sp.oneV x0 x1 x2)), X.c (X0.dat (Ty.int IntKind.i64) (0 : Int)), X.c (X0.dat Ty.str ByteArray.empty)]] [X.box (115 : Nat) [X0.dat (Ty.int IntKind.u8).slice x0, X0.dat (Ty.int IntKind.i64) (Sp.oneA x0 x1 x2), X0.dat Ty.bool (Sp.oneB x0 x1 x2)]]) else bif Sp.oneV x0 x1 x2 == (4 : Int) then chk (Sp.rdOK x0 (Sp.oneA x0 x1 x2)) (some (Res.mk [XV.mk true [X.c (X0.dat (Ty.int IntKind.i64) (Sp.oneV x0 x1 x2)), X.c (X0.dat (Ty.int IntKind.i64) (0 : Int)), X.c (X0.dat Ty.str (bytesStr (Sp.keyT x0 (Sp.oneA x0 x1 x2) (Sp.oneB x0 x1 x2)).1))]] [X.box (115 : Nat) [X0.dat (Ty.int IntKind.u8).slice x0, X0.dat (Ty.int IntKind.i64) (Sp.keyT x0 (Sp.oneA x0 x1 x2) (Sp.oneB x0 x1 x2)).2.1, X0.dat Ty.bool (Sp.keyT x0 (Sp.oneA x0 x1 x2) (Sp.oneB x0 x1 x2)).2.2]])) else some (Res.mk [XV.mk true [X.c (X0.dat (Ty.int IntKind.i64) (Sp.oneV x0 x1 x2)), X.c (X0.dat (Ty.int IntKind.i64) (0 : Int)), X.c (X0.dat Ty.str ByteArray.empty)]] [X.box (115 : Nat) [X0.dat (Ty.int IntKind.u8).slice x0, X0.dat (Ty.int IntKind.i64) (Sp.oneA x0 x1 x2), X0.dat Ty.bool (Sp.oneB x0 x1 x2)]])) := by kernel_rfl
theorem f91x_form (x0 : List Int) (x1 : Int) (x2 : Bool) : (chk (Sp.rdOK x0 x1) (bif Sp.oneV x0 x1 x2 == (1 : Int) then chk (Sp.rdOK x0 (Sp.oneA x0 x1 x2)) (some (Res.mk [XV.mk true [X.c (X0.dat (Ty.int IntKind.i64) (Sp.oneV x0 x1 x2)), X.c (X0.dat (Ty.int IntKind.i64) (Sp.oneV x0 (Sp.oneA x0 x1 x2) (Sp.oneB x0 x1 x2))), X.c (X0.dat Ty.str ByteArray.empty)]] [X.box (115 : Nat) [X0.dat (Ty.int IntKind.u8).slice x0, X0.dat (Ty.int IntKind.i64) (Sp.oneA x0 (Sp.oneA x0 x1 x2) (Sp.oneB x0 x1 x2)), X0.dat Ty.bool (Sp.oneB x0 (Sp.oneA x0 x1 x2) (Sp.oneB x0 x1 x2))]])) else bif Sp.oneV x0 x1 x2 == (2 : Int) then chk (Sp.tkOK x0 (Sp.oneA x0 x1 x2) (8 : Int)) (chk (Sp.has8 (Sp.takeV x0 (Sp.oneA x0 x1 x2) (Sp.oneB x0 x1 x2) (8 : Int))) (some (Res.mk [XV.mk true [X.c (X0.dat (Ty.int IntKind.i64) (Sp.oneV x0 x1 x2)), X.c (X0.dat (Ty.int IntKind.i64) (Sp.of8 (Sp.takeV x0 (Sp.oneA x0 x1 x2) (Sp.oneB x0 x1 x2) (8 : Int)))), X.c (X0.dat Ty.str ByteArray.empty)]] [X.box (115 : Nat) [X0.dat (Ty.int IntKind.u8).slice x0, X0.dat (Ty.int IntKind.i64) (Sp.takeA x0 (Sp.oneA x0 x1 x2) (Sp.oneB x0 x1 x2) (8 : Int)), X0.dat Ty.bool (Sp.takeB x0 (Sp.oneA x0 x1 x2) (Sp.oneB x0 x1 x2) (8 : Int))]]))) else bif Sp.oneV x0 x1 x2 == (3 : Int) then bif Sp.oneV x0 x1 x2 == (3 : Int) then chk (Sp.rdOK x0 (Sp.oneA x0 x1 x2)) (some (Res.mk [XV.mk true [X.c (X0.dat (Ty.int IntKind.i64) (Sp.oneV x0 x1 x2)), X.c (X0.dat (Ty.int IntKind.i64) (0 : Int)), X.c (X0.dat Ty.str (bytesStr (Sp.keyT x0 (Sp.oneA x0 x1 x2) (Sp.oneB x0 x1 x2)).1))]] [X.box (115 : Nat) [X0.dat (Ty.int IntKind.u8).slice x0, X0.dat (Ty.int IntKind.i64) (Sp.keyT x0 (Sp.oneA x0 x1 x2) (Sp.oneB x0 x1 x2)).2.1, X0.dat Ty.bool (Sp.keyT x0 (Sp.oneA x0 x1 x2) (Sp.oneB x0 x1 x2)).2.2]])) else some (Res.mk [XV.mk true [X.c (X0.dat (Ty.int IntKind.i64) (Sp.oneV x0 x1 x2)), X.c (X0.dat (Ty.int IntKind.i64) (0 : Int)), X.c (X0.dat Ty.str ByteArray.empty)]] [X.box (115 : Nat) [X0.dat (Ty.int IntKind.u8).slice x0, X0.dat (Ty.int IntKind.i64) (Sp.oneA x0 x1 x2), X0.dat Ty.bool (Sp.oneB x0 x1 x2)]]) else bif Sp.oneV x0 x1 x2 == (4 : Int) then chk (Sp.rdOK x0 (Sp.oneA x0 x1 x2)) (some (Res.mk [XV.mk true [X.c (X0.dat (Ty.int IntKind.i64) (Sp.oneV x0 x1 x2)), X.c (X0.dat (Ty.int IntKind.i64) (0 : Int)), X.c (X0.dat Ty.str (bytesStr (Sp.keyT x0 (Sp.oneA x0 x1 x2) (Sp.oneB x0 x1 x2)).1))]] [X.box (115 : Nat) [X0.dat (Ty.int IntKind.u8).slice x0, X0.dat (Ty.int IntKind.i64) (Sp.keyT x0 (Sp.oneA x0 x1 x2) (Sp.oneB x0 x1 x2)).2.1, X0.dat Ty.bool (Sp.keyT x0 (Sp.oneA x0 x1 x2) (Sp.oneB x0 x1 x2)).2.2]])) else some (Res.mk [XV.mk true [X.c (X0.dat (Ty.int IntKind.i64) (Sp.oneV x0 x1 x2)), X.c (X0.dat (Ty.int IntKind.i64) (0 : Int)), X.c (X0.dat Ty.str ByteArray.empty)]] [X.box (115 : Nat) [X0.dat (Ty.int IntKind.u8).slice x0, X0.dat (Ty.int IntKind.i64) (Sp.oneA x0 x1 x2), X0.dat Ty.bool (Sp.oneB x0 x1 x2)]]))) = chk (Sp.f91x_pre x0 x1 x2) (some (f91x_g (Sp.f91x x0 x1 x2))) := by
  unfold Sp.f91x_pre Sp.f91x
  exact (chk_step ((cond_step f91x_g ((chk_last (rfl))) ((cond_step f91x_g ((chk_step ((chk_last (rfl))))) ((cond_step f91x_g ((cond_step f91x_g ((chk_last (rfl))) ((lift_plain (rfl))))) ((cond_step f91x_g ((chk_last (rfl))) ((lift_plain (rfl))))))))))))
theorem e91x_ok : Valid Try.prog Γ e91x := valid_auto ok (vcons e128_ok (vcons e130_ok (vcons e129_ok (vcons e135_ok vnil)))) fun a => (f91x_raw a.1 a.2.1 a.2.2).trans (f91x_form a.1 a.2.1 a.2.2)

/-! A value of a key. -/
def Sp.kvV (b : List Int) (a : Int) (bad : Bool) : V3 :=
  bif Sp.oneV b a bad == 1 then (Sp.oneV b a bad, Sp.oneV b (Sp.oneA b a bad) (Sp.oneB b a bad), ByteArray.empty)
  else bif Sp.oneV b a bad == 2 then (Sp.oneV b a bad, Sp.of8 (Sp.takeV b (Sp.oneA b a bad) (Sp.oneB b a bad) 8), ByteArray.empty)
  else bif (bif Sp.oneV b a bad == 3 then true else Sp.oneV b a bad == 4) then (Sp.oneV b a bad, 0, bytesStr (Sp.keyT b (Sp.oneA b a bad) (Sp.oneB b a bad)).1)
  else (Sp.oneV b a bad, 0, ByteArray.empty)
def Sp.kvA (b : List Int) (a : Int) (bad : Bool) : Int :=
  bif Sp.oneV b a bad == 1 then Sp.oneA b (Sp.oneA b a bad) (Sp.oneB b a bad)
  else bif Sp.oneV b a bad == 2 then Sp.takeA b (Sp.oneA b a bad) (Sp.oneB b a bad) 8
  else bif (bif Sp.oneV b a bad == 3 then true else Sp.oneV b a bad == 4) then (Sp.keyT b (Sp.oneA b a bad) (Sp.oneB b a bad)).2.1
  else Sp.oneA b a bad
def Sp.kvB (b : List Int) (a : Int) (bad : Bool) : Bool :=
  bif Sp.oneV b a bad == 1 then Sp.oneB b (Sp.oneA b a bad) (Sp.oneB b a bad)
  else bif Sp.oneV b a bad == 2 then Sp.takeB b (Sp.oneA b a bad) (Sp.oneB b a bad) 8
  else bif (bif Sp.oneV b a bad == 3 then true else Sp.oneV b a bad == 4) then (Sp.keyT b (Sp.oneA b a bad) (Sp.oneB b a bad)).2.2
  else Sp.oneB b a bad
theorem ktx_ok (b : List Int) : ∀ (d : Nat) (a : Int) (bad : Bool) (acc : List Int), Sp.rdOK b a = true → Sp.rdOK b (Sp.ktx d b a bad acc).2.1 = true
  | 0, _, _, _, h => h
  | d + 1, a, bad, acc, h => by
    rw [Sp.ktx]
    refine cond_all (P := fun z : List Int × Int × Bool => Sp.rdOK b z.2.1 = true) h ?_
    refine cond_all (P := fun z : List Int × Int × Bool => Sp.rdOK b z.2.1 = true) (ktx_ok b d _ _ _ (oneA_ok h)) ?_
    refine cond_all (P := fun z : List Int × Int × Bool => Sp.rdOK b z.2.1 = true) (oneA_ok (oneA_ok h)) ?_
    exact cond_all (P := fun z : List Int × Int × Bool => Sp.rdOK b z.2.1 = true) (ktx_ok b d _ _ _ (oneA_ok (oneA_ok h))) (ktx_ok b d _ _ _ (oneA_ok (oneA_ok h)))
theorem kvA_ok {b : List Int} {a : Int} {bad : Bool} (h : Sp.rdOK b a = true) : Sp.rdOK b (Sp.kvA b a bad) = true := by
  unfold Sp.kvA
  exact cond_all (P := fun z => Sp.rdOK b z = true) (oneA_ok (oneA_ok h)) (cond_all (P := fun z => Sp.rdOK b z = true) (takeA_ok (oneA_ok h)) (cond_all (P := fun z => Sp.rdOK b z = true) (ktx_ok b _ _ _ _ (oneA_ok h)) (oneA_ok h)))
theorem f91_eq (b : List Int) (a : Int) (bad : Bool) : Sp.f91x b a bad = (Sp.kvV b a bad, b, Sp.kvA b a bad, Sp.kvB b a bad) := by
  unfold Sp.f91x Sp.kvV Sp.kvA Sp.kvB
  cases Sp.oneV b a bad == 1 <;> cases Sp.oneV b a bad == 2 <;> cases Sp.oneV b a bad == 3 <;> cases Sp.oneV b a bad == 4 <;> rfl
theorem f91_pre {b : List Int} {a : Int} (bad : Bool) (h : Sp.rdOK b a = true) : Sp.f91x_pre b a bad = true := by
  unfold Sp.f91x_pre
  rw [h, oneA_ok h, tkOK_mk (oneA_ok h) (by decide), take8_ok (oneA_ok h)]
  cases Sp.oneV b a bad == 1 <;> cases Sp.oneV b a bad == 2 <;> cases Sp.oneV b a bad == 3 <;> cases Sp.oneV b a bad == 4 <;> rfl
noncomputable def e91 : Ent := { e91x with pre := fun a => Sp.rdOK a.1 a.2.1, spec := fun a => Sp.kvV a.1 a.2.1 a.2.2, wrt := fun a => (a.1, Sp.kvA a.1 a.2.1 a.2.2, Sp.kvB a.1 a.2.1 a.2.2) }
theorem e91_ok : Valid Try.prog Γ e91 := fun a ha => by
  have h := e91x_ok a (f91_pre a.2.2 ha)
  have e : e91x.res a = e91.res a := by
    have e2 := f91_eq a.1 a.2.1 a.2.2
    show (⟨mkS e91x.outs (Sp.f91x a.1 a.2.1 a.2.2).1, mkU e91x.upd (Sp.f91x a.1 a.2.1 a.2.2).2⟩ : Res) = _
    rw [e2]
    rfl
  rw [e] at h
  exact h
/-! A row's key bytes. -/
def Sp.esc : List Int → List Int
  | [] => []
  | x :: r => bif x == 0 then x :: 255 :: Sp.esc r else x :: Sp.esc r
def Sp.kv1 (v : V3) : List Int :=
  IntKind.u8.wrap v.1 :: (bif v.1 == 1 then [IntKind.u8.wrap v.2.1] else bif v.1 == 2 then Sp.key8 v.2.1
    else bif (bif v.1 == 3 then true else v.1 == 4) then Sp.esc (strBytes v.2.2) ++ [0, 1] else [])
def Sp.key : List V3 → List Int
  | [] => []
  | v :: r => Sp.kv1 v ++ Sp.key r
theorem esc_len : ∀ xs : List Int, (Sp.esc xs).length ≤ 2 * xs.length
  | [] => Nat.le_refl _
  | x :: r => by
    have := esc_len r
    unfold Sp.esc
    cases x == 0 <;> simp [cond] <;> omega
noncomputable def f93_L0 (n m0 : Nat) (y0 : List (Int × Int × ByteArray)) (y1 : Int) (y2 : List Int) : Option Res := loopAt Γ (orc [e137]) n (93 : Nat) (0 : Nat) [] [Pth.r, Pth.r, Pth.l, Pth.r, Pth.b] m0 (St.mk [Slot.val (Val.one (Cell.dat ((Ty.int IntKind.i64).pair ((Ty.int IntKind.i64).pair Ty.str)).slice y0)), Slot.nix, Slot.nix, Slot.val (Val.one (Cell.own (0 : Nat))), Slot.val (Val.one (Cell.dat (Ty.int IntKind.i64) y1)), Slot.nix, Slot.nix, Slot.nix, Slot.nix, Slot.nix, Slot.nix, Slot.nix, Slot.nix, Slot.nix, Slot.nix, Slot.nix, Slot.nix, Slot.nix, Slot.nix, Slot.nix, Slot.nix, Slot.nix, Slot.nix, Slot.nix, Slot.nix, Slot.nix, Slot.nix, Slot.nix, Slot.nix, Slot.nix, Slot.nix, Slot.nix, Slot.nix, Slot.nix, Slot.nix, Slot.nix, Slot.nix, Slot.nix, Slot.nix, Slot.nix, Slot.nix, Slot.nix, Slot.nix, Slot.nix, Slot.nix, Slot.nix, Slot.nix, Slot.nix, Slot.nix, Slot.nix, Slot.nix, Slot.nix, Slot.nix, Slot.nix, Slot.nix, Slot.nix, Slot.nix, Slot.nix, Slot.nix, Slot.nix, Slot.nix, Slot.nix, Slot.nix, Slot.nix, Slot.nix, Slot.nix, Slot.nix, Slot.nix, Slot.nix, Slot.nix] [AObj.row (Ty.int IntKind.u8) y2 true])
noncomputable def f93_L1 (n m0 m1 : Nat) (y0 : List (Int × Int × ByteArray)) (y1 : Int) (y2 : Int) (y3 : List Int) (y4 : Int) (y5 : Int) (y6 : ByteArray) : Option Res := loopAt Γ (orc [e137]) n (93 : Nat) (0 : Nat) [] [Pth.r, Pth.r, Pth.l, Pth.r, Pth.b, Pth.p m0, Pth.r, Pth.l, Pth.b, Pth.r, Pth.r, Pth.r, Pth.b, Pth.r, Pth.r, Pth.r, Pth.r, Pth.r, Pth.l, Pth.l, Pth.r, Pth.b] m1 (St.mk [Slot.val (Val.one (Cell.dat ((Ty.int IntKind.i64).pair ((Ty.int IntKind.i64).pair Ty.str)).slice y0)), Slot.nix, Slot.nix, Slot.val (Val.one (Cell.own (0 : Nat))), Slot.val (Val.one (Cell.dat (Ty.int IntKind.i64) y1)), Slot.val (Val.one (Cell.ptr (1 : Nat) (0 : Nat))), Slot.val (Val.one (Cell.dat (Ty.int IntKind.i64) y2)), Slot.nix, Slot.nix, Slot.nix, Slot.nix, Slot.nix, Slot.nix, Slot.nix, Slot.nix, Slot.nix, Slot.nix, Slot.nix, Slot.nix, Slot.nix, Slot.nix, Slot.nix, Slot.nix, Slot.nix, Slot.nix, Slot.nix, Slot.nix, Slot.nix, Slot.nix, Slot.nix, Slot.nix, Slot.nix, Slot.nix, Slot.nix, Slot.nix, Slot.nix, Slot.nix, Slot.nix, Slot.nix, Slot.nix, Slot.nix, Slot.nix, Slot.nix, Slot.nix, Slot.nix, Slot.nix, Slot.nix, Slot.nix, Slot.nix, Slot.nix, Slot.nix, Slot.nix, Slot.nix, Slot.nix, Slot.nix, Slot.nix, Slot.nix, Slot.nix, Slot.nix, Slot.nix, Slot.nix, Slot.nix, Slot.nix, Slot.nix, Slot.nix, Slot.nix, Slot.nix, Slot.nix, Slot.nix, Slot.nix] [AObj.row (Ty.int IntKind.u8) y3 true, AObj.box (121 : Nat) [Cell.dat (Ty.int IntKind.i64) y4, Cell.dat (Ty.int IntKind.i64) y5, Cell.dat Ty.str y6]])
theorem f93_L0_step (n m0 : Nat) (y0 : List (Int × Int × ByteArray)) (y1 : Int) (y2 : List Int) : f93_L0 n (m0 + 1) y0 y1 y2 = bif decide (y1 < (↑y0.length : Int)) then chk (decide ((0 : Int) ≤ y1) && decide (y1 < (↑y0.length : Int))) (chk (decide ((y2.length + [IntKind.u8.wrap (y0.getD y1.toNat ((0 : Int), (0 : Int), ByteArray.mk #[])).1].length) * (1 : Nat) ≤ (140737488355328 : Nat))) (bif (y0.getD y1.toNat ((0 : Int), (0 : Int), ByteArray.mk #[])).1 == (1 : Int) then chk (decide (((y2 ++ [IntKind.u8.wrap (y0.getD y1.toNat ((0 : Int), (0 : Int), ByteArray.mk #[])).1]).length + [IntKind.u8.wrap (y0.getD y1.toNat ((0 : Int), (0 : Int), ByteArray.mk #[])).2.1].length) * (1 : Nat) ≤ (140737488355328 : Nat))) (f93_L0 n m0 y0 (IntKind.i64.wrap (y1 + (1 : Int))) (y2 ++ [IntKind.u8.wrap (y0.getD y1.toNat ((0 : Int), (0 : Int), ByteArray.mk #[])).1] ++ [IntKind.u8.wrap (y0.getD y1.toNat ((0 : Int), (0 : Int), ByteArray.mk #[])).2.1])) else bif (y0.getD y1.toNat ((0 : Int), (0 : Int), ByteArray.mk #[])).1 == (2 : Int) then chk (decide (((y2 ++ [IntKind.u8.wrap (y0.getD y1.toNat ((0 : Int), (0 : Int), ByteArray.mk #[])).1]).length + (Sp.key8 (y0.getD y1.toNat ((0 : Int), (0 : Int), ByteArray.mk #[])).2.1).length) * (1 : Nat) ≤ (140737488355328 : Nat))) (f93_L0 n m0 y0 (IntKind.i64.wrap (y1 + (1 : Int))) (y2 ++ [IntKind.u8.wrap (y0.getD y1.toNat ((0 : Int), (0 : Int), ByteArray.mk #[])).1] ++ Sp.key8 (y0.getD y1.toNat ((0 : Int), (0 : Int), ByteArray.mk #[])).2.1)) else bif (y0.getD y1.toNat ((0 : Int), (0 : Int), ByteArray.mk #[])).1 == (3 : Int) then bif (y0.getD y1.toNat ((0 : Int), (0 : Int), ByteArray.mk #[])).1 == (3 : Int) then f93_L1 n m0 n y0 y1 (0 : Int) (y2 ++ [IntKind.u8.wrap (y0.getD y1.toNat ((0 : Int), (0 : Int), ByteArray.mk #[])).1]) (y0.getD y1.toNat ((0 : Int), (0 : Int), ByteArray.mk #[])).1 (y0.getD y1.toNat ((0 : Int), (0 : Int), ByteArray.mk #[])).2.1 (y0.getD y1.toNat ((0 : Int), (0 : Int), ByteArray.mk #[])).2.2 else f93_L0 n m0 y0 (IntKind.i64.wrap (y1 + (1 : Int))) (y2 ++ [IntKind.u8.wrap (y0.getD y1.toNat ((0 : Int), (0 : Int), ByteArray.mk #[])).1]) else bif (y0.getD y1.toNat ((0 : Int), (0 : Int), ByteArray.mk #[])).1 == (4 : Int) then f93_L1 n m0 n y0 y1 (0 : Int) (y2 ++ [IntKind.u8.wrap (y0.getD y1.toNat ((0 : Int), (0 : Int), ByteArray.mk #[])).1]) (y0.getD y1.toNat ((0 : Int), (0 : Int), ByteArray.mk #[])).1 (y0.getD y1.toNat ((0 : Int), (0 : Int), ByteArray.mk #[])).2.1 (y0.getD y1.toNat ((0 : Int), (0 : Int), ByteArray.mk #[])).2.2 else f93_L0 n m0 y0 (IntKind.i64.wrap (y1 + (1 : Int))) (y2 ++ [IntKind.u8.wrap (y0.getD y1.toNat ((0 : Int), (0 : Int), ByteArray.mk #[])).1]))) else some (Res.mk [XV.mk false [X.c (X0.row (Ty.int IntKind.u8) y2 true)]] []) := by kernel_rfl
theorem f93_L1_step (n m0 m1 : Nat) (y0 : List (Int × Int × ByteArray)) (y1 : Int) (y2 : Int) (y3 : List Int) (y4 : Int) (y5 : Int) (y6 : ByteArray) : f93_L1 n m0 (m1 + 1) y0 y1 y2 y3 y4 y5 y6 = bif decide (y2 < (↑y6.size : Int)) then chk (decide ((0 : Int) ≤ y2) && decide (y2 < (↑y6.size : Int))) (chk (decide ((y3.length + [(strBytes y6).getD y2.toNat (0 : Int)].length) * (1 : Nat) ≤ (140737488355328 : Nat))) (chk (decide ((0 : Int) ≤ y2) && decide (y2 < (↑y6.size : Int))) (bif (strBytes y6).getD y2.toNat (0 : Int) == (0 : Int) then chk (decide (((y3 ++ [(strBytes y6).getD y2.toNat (0 : Int)]).length + (1 : Nat)) * (1 : Nat) ≤ (140737488355328 : Nat))) (f93_L1 n m0 m1 y0 y1 (IntKind.i64.wrap (y2 + (1 : Int))) (y3 ++ [(strBytes y6).getD y2.toNat (0 : Int)] ++ [(255 : Int)]) y4 y5 y6) else f93_L1 n m0 m1 y0 y1 (IntKind.i64.wrap (y2 + (1 : Int))) (y3 ++ [(strBytes y6).getD y2.toNat (0 : Int)]) y4 y5 y6))) else chk (decide ((y3.length + (2 : Nat)) * (1 : Nat) ≤ (140737488355328 : Nat))) (f93_L0 n m0 y0 (IntKind.i64.wrap (y1 + (1 : Int))) (y3 ++ [(0 : Int), (1 : Int)])) := by kernel_rfl
theorem f93_raw (n : Nat) (x0 : List (Int × Int × ByteArray)) : abody Γ (orc [e137]) n 93 [XV.mk false [X.c (X0.dat ((Ty.int IntKind.i64).pair ((Ty.int IntKind.i64).pair Ty.str)).slice x0)]] = f93_L0 n n x0 (0 : Int) [] := by kernel_rfl

theorem f93_in (n m0 : Nat) (vs : List V3) (i : Int) (k0 k1 : Int) (s : ByteArray) (hs : s.size ≤ 100) : ∀ (d k m : Nat) (acc : List Int), k + d = (strBytes s).length → d < m → acc.length ≤ 10000 + 2 * k →
    f93_L1 n m0 m vs i (↑k : Int) acc k0 k1 s = f93_L0 n m0 vs (IntKind.i64.wrap (i + 1)) (acc ++ Sp.esc ((strBytes s).drop k) ++ [0, 1]) := by
  have hsz := strBytes_len s
  intro d
  induction d with
  | zero =>
    intro k m acc hk hm ha
    obtain ⟨m, rfl⟩ := succ_of hm
    rw [f93_L1_step, decide_eq_false (show ¬ (k : Int) < s.size by omega), cond_false, decide_eq_true (show (acc.length + 2) * 1 ≤ 140737488355328 by omega), chkT, List.drop_of_length_le (by omega)]
    rw [Sp.esc, List.append_nil]
  | succ d ih =>
    intro k m acc hk hm ha
    obtain ⟨m, rfl⟩ := succ_of hm
    have hlt : k < (strBytes s).length := by omega
    have e0 := getD_nat (strBytes s) k 0 hlt
    have i1 := ih (k + 1) m (acc ++ [(strBytes s)[k]] ++ [255]) (by omega) (by omega) (by rw [List.length_append, List.length_append, List.length_singleton, List.length_singleton]; omega)
    have i2 := ih (k + 1) m (acc ++ [(strBytes s)[k]]) (by omega) (by omega) (by rw [List.length_append, List.length_singleton]; omega)
    have g : (decide ((0 : Int) ≤ (k : Int)) && decide ((k : Int) < (s.size : Int))) = true := guard2 (by omega)
    rw [f93_L1_step, e0]
    simp only [List.length_singleton, List.length_append]
    rw [decide_eq_true (show (k : Int) < s.size by omega), cond_true, guard0, chkT, decide_eq_true (show (acc.length + 1) * 1 ≤ 140737488355328 by omega), chkT, chkT, decide_eq_true (show (acc.length + 1 + 1) * 1 ≤ 140737488355328 by omega), chkT, next64 (show k < s.size by omega) (by omega), i1, i2, List.drop_eq_getElem_cons hlt, Sp.esc]
    cases (strBytes s)[k] == 0 with
    | true => rw [cond_true, cond_true]; simp
    | false => rw [cond_false, cond_false]; simp
theorem vOK_size {v : V3} (h : Sp.vOK v = true) (h3 : (bif v.1 == 3 then true else v.1 == 4) = true) : v.2.2.size ≤ 60 := by
  unfold Sp.vOK Sp.f136 at h
  have hk : v.1 = 3 ∨ v.1 = 4 := by
    cases h4 : v.1 == 3 with
    | true => exact .inl (by simpa using h4)
    | false => rw [h4] at h3; exact .inr (by simpa using h3)
  have key : ∀ b : Bool, (bif b then ((decide ((v.2.2.size : Int) ≤ 60)), ()) else (false, ())).1 = true → v.2.2.size ≤ 60 := by
    intro b hb
    cases b with
    | true => have := of_decide_eq_true hb; omega
    | false => cases hb
  rcases hk with e | e <;> rw [e] at h <;> exact key _ h
theorem kv1_len {v : V3} (h : Sp.vOK v = true) : (Sp.kv1 v).length ≤ 200 := by
  unfold Sp.kv1
  rw [List.length_cons]
  cases v.1 == 1 with
  | true => rw [cond_true, List.length_singleton]; omega
  | false =>
    rw [cond_false]
    cases v.1 == 2 with
    | true => show 8 + 1 ≤ 200; omega
    | false =>
      rw [cond_false]
      cases h3 : (bif v.1 == 3 then true else v.1 == 4) with
      | true =>
        have := vOK_size h h3
        have h5 := esc_len (strBytes v.2.2)
        rw [strBytes_len] at h5
        rw [cond_true, List.length_append]
        show _ + 2 + 1 ≤ 200
        omega
      | false => rw [cond_false, List.length_nil]; omega
theorem f93_loop (n : Nat) (hn : 1000 ≤ n) (vs : List V3) (hv : ∀ v ∈ vs, Sp.vOK v = true) (hl : vs.length ≤ 8) : ∀ (d k m : Nat) (acc : List Int), k + d = vs.length → d < m → acc.length ≤ 200 * k →
    f93_L0 n m vs (↑k : Int) acc = some (rB (acc ++ Sp.key (vs.drop k))) := by
  intro d
  induction d with
  | zero =>
    intro k m acc hk hm ha
    obtain ⟨m, rfl⟩ := succ_of hm
    rw [f93_L0_step, nat_ge (by omega), cond_false, List.drop_of_length_le (by omega), Sp.key, List.append_nil]
  | succ d ih =>
    intro k m acc hk hm ha
    obtain ⟨m, rfl⟩ := succ_of hm
    have hlt : k < vs.length := by omega
    have hok := hv _ (List.getElem_mem hlt)
    have hkl := kv1_len hok
    have i1 := ih (k + 1) m (acc ++ Sp.kv1 vs[k]) (by omega) (by omega) (by rw [List.length_append]; omega)
    rw [List.append_assoc] at i1
    rw [f93_L0_step, nat_lt hlt, cond_true, guard0, chkT, getD_nat vs k _ hlt, next64 hlt (by omega), List.drop_eq_getElem_cons hlt, Sp.key, ← i1]
    simp only [List.length_singleton, List.length_append]
    rw [decide_eq_true (show (acc.length + 1) * 1 ≤ 140737488355328 by omega), chkT, decide_eq_true (show (acc.length + 1 + 1) * 1 ≤ 140737488355328 by omega), chkT, decide_eq_true (show (acc.length + 1 + (Sp.key8 vs[k].2.1).length) * 1 ≤ 140737488355328 by show (acc.length + 1 + 8) * 1 ≤ _; omega), chkT]
    have hT : (bif vs[k].1 == 3 then true else vs[k].1 == 4) = true → f93_L1 n m n vs (↑k : Int) 0 (acc ++ [IntKind.u8.wrap vs[k].1]) vs[k].1 vs[k].2.1 vs[k].2.2 = f93_L0 n m vs ((k + 1 : Nat) : Int) (acc ++ ([IntKind.u8.wrap vs[k].1] ++ (Sp.esc (strBytes vs[k].2.2) ++ [0, 1]))) := by
      intro h3
      have hsz := vOK_size hok h3
      have hsb := strBytes_len vs[k].2.2
      have := f93_in n m vs k vs[k].1 vs[k].2.1 vs[k].2.2 (by omega) (strBytes vs[k].2.2).length 0 n (acc ++ [IntKind.u8.wrap vs[k].1]) (Nat.zero_add _) (by omega) (by rw [List.length_append, List.length_singleton]; omega)
      rw [Int.natCast_zero, List.drop_zero, next64 hlt (by omega)] at this
      rw [this]
      simp only [List.append_assoc]
    have e1 : Sp.kv1 vs[k] = [IntKind.u8.wrap vs[k].1] ++ (bif vs[k].1 == 1 then [IntKind.u8.wrap vs[k].2.1] else bif vs[k].1 == 2 then Sp.key8 vs[k].2.1 else bif (bif vs[k].1 == 3 then true else vs[k].1 == 4) then Sp.esc (strBytes vs[k].2.2) ++ [0, 1] else []) := rfl
    rw [e1]
    rcases Bool.eq_false_or_eq_true (vs[k].1 == 1) with c1 | c1
    · rw [c1, cond_true, cond_true, List.append_assoc]
    rcases Bool.eq_false_or_eq_true (vs[k].1 == 2) with c2 | c2
    · rw [c1, c2, cond_false, cond_true, cond_false, cond_true, List.append_assoc]
    rcases Bool.eq_false_or_eq_true (vs[k].1 == 3) with c3 | c3
    · rw [hT (by rw [c3]; rfl), c1, c2, c3]
      simp only [cond_false, cond_true]
    rcases Bool.eq_false_or_eq_true (vs[k].1 == 4) with c4 | c4
    · rw [hT (by rw [c3, c4]; rfl), c1, c2, c3, c4]
      simp only [cond_false, cond_true]
    · rw [c1, c2, c3, c4]
      simp only [cond_false, List.append_nil]
noncomputable def e93 : Ent := { f := 93, ins := [Sh.one (C0.dat (.slice tV))], outs := [Sh.one (C0.row tB)], upd := [], pre := fun a => Sp.rowOK a, spec := fun a => Sp.key a, wrt := fun _ => () }
theorem e93_core (vs : List V3) (h : Sp.rowOK vs = true) : ∃ n, abody Γ (orc [e137]) n 93 [XV.mk false [X.c (X0.dat (Ty.slice tV) vs)]] = some (rB (Sp.key vs)) := by
  obtain ⟨h1, h2⟩ := rowOK_iff.1 h
  refine ⟨1000, (f93_raw 1000 vs).trans ?_⟩
  have := f93_loop 1000 (Nat.le_refl _) vs h2 h1 vs.length 0 1000 [] (Nat.zero_add _) (by omega) (Nat.le_refl _)
  rw [Int.natCast_zero, List.drop_zero, List.nil_append] at this
  exact this
theorem e93_ok : Valid Try.prog Γ e93 := valid_of ok (vcons e137_ok vnil) fun a ha => e93_core a ha
noncomputable def f55_L0 (n m0 : Nat) (y0 : List Int) (y1 : List Int) (y2 : Int) (y3 : Bool) (y4 : List (Int × Int × ByteArray)) : Option Res := loopAt Γ (orc [e91, e92, e93]) n (55 : Nat) (0 : Nat) [] [Pth.r, Pth.r, Pth.r, Pth.r, Pth.l, Pth.b] m0 (St.mk [Slot.val (Val.one (Cell.dat (Ty.int IntKind.u8).slice y0)), Slot.nix, Slot.nix, Slot.nix, Slot.val (Val.one (Cell.ptr (0 : Nat) (0 : Nat))), Slot.val (Val.one (Cell.own (1 : Nat))), Slot.nix, Slot.nix, Slot.nix, Slot.nix, Slot.nix, Slot.nix, Slot.nix, Slot.nix, Slot.nix, Slot.nix, Slot.nix, Slot.nix, Slot.nix, Slot.nix, Slot.nix, Slot.nix, Slot.nix, Slot.nix, Slot.nix, Slot.nix, Slot.nix, Slot.nix, Slot.nix, Slot.nix, Slot.nix, Slot.nix, Slot.nix, Slot.nix, Slot.nix, Slot.nix, Slot.nix, Slot.nix, Slot.nix, Slot.nix, Slot.nix, Slot.nix, Slot.nix, Slot.nix, Slot.nix, Slot.nix, Slot.nix, Slot.nix, Slot.nix, Slot.nix, Slot.nix, Slot.nix, Slot.nix, Slot.nix, Slot.nix, Slot.nix, Slot.nix] [AObj.box (115 : Nat) [Cell.dat (Ty.int IntKind.u8).slice y1, Cell.dat (Ty.int IntKind.i64) y2, Cell.dat Ty.bool y3], AObj.row ((Ty.int IntKind.i64).pair ((Ty.int IntKind.i64).pair Ty.str)) y4 true])
theorem f55_L0_step (n m0 : Nat) (y0 : List Int) (y1 : List Int) (y2 : Int) (y3 : Bool) (y4 : List (Int × Int × ByteArray)) : f55_L0 n (m0 + 1) y0 y1 y2 y3 y4 = bif !y3 then bif decide (y2 < (↑y0.length : Int)) then bif decide ((↑y4.length : Int) ≤ (8 : Int)) then chk (Sp.rdOK y1 y2) (chk (decide ((y4.length + [((Sp.kvV y1 y2 y3).1, (Sp.kvV y1 y2 y3).2.1, (Sp.kvV y1 y2 y3).2.2)].length) * (32 : Nat) ≤ (140737488355328 : Nat))) (f55_L0 n m0 y0 y1 (Sp.kvA y1 y2 y3) (Sp.kvB y1 y2 y3) (y4 ++ [((Sp.kvV y1 y2 y3).1, (Sp.kvV y1 y2 y3).2.1, (Sp.kvV y1 y2 y3).2.2)]))) else bif y3 then some (Res.mk [XV.mk false [X.c (X0.row ((Ty.int IntKind.i64).pair ((Ty.int IntKind.i64).pair Ty.str)) [] true)], XV.mk false [X.c (X0.dat (Ty.int IntKind.i64) (3 : Int))]] []) else bif !Sp.rowOK y4 then some (Res.mk [XV.mk false [X.c (X0.row ((Ty.int IntKind.i64).pair ((Ty.int IntKind.i64).pair Ty.str)) [] true)], XV.mk false [X.c (X0.dat (Ty.int IntKind.i64) (3 : Int))]] []) else chk (Sp.rowOK y4) (bif !(bytesStr (Sp.key y4)).toList == (bytesStr y0).toList then some (Res.mk [XV.mk false [X.c (X0.row ((Ty.int IntKind.i64).pair ((Ty.int IntKind.i64).pair Ty.str)) [] true)], XV.mk false [X.c (X0.dat (Ty.int IntKind.i64) (3 : Int))]] []) else some (Res.mk [XV.mk false [X.c (X0.row ((Ty.int IntKind.i64).pair ((Ty.int IntKind.i64).pair Ty.str)) y4 true)], XV.mk false [X.c (X0.dat (Ty.int IntKind.i64) (0 : Int))]] [])) else bif y3 then some (Res.mk [XV.mk false [X.c (X0.row ((Ty.int IntKind.i64).pair ((Ty.int IntKind.i64).pair Ty.str)) [] true)], XV.mk false [X.c (X0.dat (Ty.int IntKind.i64) (3 : Int))]] []) else bif !Sp.rowOK y4 then some (Res.mk [XV.mk false [X.c (X0.row ((Ty.int IntKind.i64).pair ((Ty.int IntKind.i64).pair Ty.str)) [] true)], XV.mk false [X.c (X0.dat (Ty.int IntKind.i64) (3 : Int))]] []) else chk (Sp.rowOK y4) (bif !(bytesStr (Sp.key y4)).toList == (bytesStr y0).toList then some (Res.mk [XV.mk false [X.c (X0.row ((Ty.int IntKind.i64).pair ((Ty.int IntKind.i64).pair Ty.str)) [] true)], XV.mk false [X.c (X0.dat (Ty.int IntKind.i64) (3 : Int))]] []) else some (Res.mk [XV.mk false [X.c (X0.row ((Ty.int IntKind.i64).pair ((Ty.int IntKind.i64).pair Ty.str)) y4 true)], XV.mk false [X.c (X0.dat (Ty.int IntKind.i64) (0 : Int))]] [])) else bif y3 then some (Res.mk [XV.mk false [X.c (X0.row ((Ty.int IntKind.i64).pair ((Ty.int IntKind.i64).pair Ty.str)) [] true)], XV.mk false [X.c (X0.dat (Ty.int IntKind.i64) (3 : Int))]] []) else bif !Sp.rowOK y4 then some (Res.mk [XV.mk false [X.c (X0.row ((Ty.int IntKind.i64).pair ((Ty.int IntKind.i64).pair Ty.str)) [] true)], XV.mk false [X.c (X0.dat (Ty.int IntKind.i64) (3 : Int))]] []) else chk (Sp.rowOK y4) (bif !(bytesStr (Sp.key y4)).toList == (bytesStr y0).toList then some (Res.mk [XV.mk false [X.c (X0.row ((Ty.int IntKind.i64).pair ((Ty.int IntKind.i64).pair Ty.str)) [] true)], XV.mk false [X.c (X0.dat (Ty.int IntKind.i64) (3 : Int))]] []) else some (Res.mk [XV.mk false [X.c (X0.row ((Ty.int IntKind.i64).pair ((Ty.int IntKind.i64).pair Ty.str)) y4 true)], XV.mk false [X.c (X0.dat (Ty.int IntKind.i64) (0 : Int))]] [])) := by kernel_rfl
theorem f55_raw (n : Nat) (x0 : List Int) : abody Γ (orc [e91, e92, e93]) n 55 [XV.mk false [X.c (X0.dat (Ty.int IntKind.u8).slice x0)]] = bif decide ((↑x0.length : Int) > (65536 : Int)) then some (Res.mk [XV.mk false [X.c (X0.row ((Ty.int IntKind.i64).pair ((Ty.int IntKind.i64).pair Ty.str)) [] true)], XV.mk false [X.c (X0.dat (Ty.int IntKind.i64) (2 : Int))]] []) else f55_L0 n n x0 x0 (0 : Int) false [] := by kernel_rfl

end Go.Proofs.GR.T
set_option maxRecDepth 100000
namespace Go.Proofs.GR.T
open Go Go.Proofs Go.Proofs.GR
def Sp.krun : Nat → List Int → Int → Bool → List V3 → List V3 × Int × Bool
  | 0, _, a, bad, out => (out, a, bad)
  | d + 1, b, a, bad, out => bif bad then (out, a, bad) else bif decide (a < (b.length : Int)) then Sp.krun d b (Sp.kvA b a bad) (Sp.kvB b a bad) (out ++ [Sp.kvV b a bad]) else (out, a, bad)
def Sp.kfin (b : List Int) (p : List V3 × Int × Bool) : List V3 × Int :=
  bif p.2.2 then ([], 3) else bif !Sp.rowOK p.1 then ([], 3) else bif !((bytesStr (Sp.key p.1)).toList == (bytesStr b).toList) then ([], 3) else (p.1, 0)
def Sp.readK (b : List Int) : List V3 × Int := bif decide ((b.length : Int) > 65536) then ([], 2) else Sp.kfin b (Sp.krun 9 b 0 false [])
abbrev rVI (p : List V3 × Int) : Res := Res.mk [XV.mk false [X.c (X0.row tV p.1 true)], XV.mk false [X.c (X0.dat (Ty.int IntKind.i64) p.2)]] []
theorem f55_end (n m : Nat) (b : List Int) (a : Int) (bad : Bool) (out : List V3) (h : bad = true ∨ ¬ a < (b.length : Int) ∨ ¬ (out.length : Int) ≤ 8) : f55_L0 n (m + 1) b b a bad out = some (rVI (Sp.kfin b (out, a, bad))) := by
  rw [f55_L0_step]
  show _ = some (rVI (bif bad then ([], 3) else bif !Sp.rowOK out then ([], 3) else bif !((bytesStr (Sp.key out)).toList == (bytesStr b).toList) then ([], 3) else (out, 0)))
  generalize ((bytesStr (Sp.key out)).toList == (bytesStr b).toList) = e
  cases bad with
  | true => rfl
  | false =>
    rw [Bool.not_false, cond_true]
    rcases h with h | h | h
    · cases h
    · rw [decide_eq_false h]
      cases Sp.rowOK out with
      | false => rfl
      | true => rw [chkT]; cases e <;> rfl
    · rw [decide_eq_false h]
      cases decide (a < (b.length : Int)) with
      | false =>
        cases Sp.rowOK out with
        | false => rfl
        | true => rw [chkT]; cases e <;> rfl
      | true =>
        cases Sp.rowOK out with
        | false => rfl
        | true => rw [chkT]; cases e <;> rfl
theorem f55_loop (n : Nat) (b : List Int) : ∀ (d m : Nat) (a : Int) (bad : Bool) (out : List V3), Sp.rdOK b a = true → out.length + d = 9 → d < m →
    f55_L0 n m b b a bad out = some (rVI (Sp.kfin b (Sp.krun d b a bad out))) := by
  intro d
  induction d with
  | zero =>
    intro m a bad out h ho hm
    obtain ⟨m, rfl⟩ := succ_of hm
    exact f55_end n m b a bad out (.inr (.inr (by omega)))
  | succ d ih =>
    intro m a bad out h ho hm
    obtain ⟨m, rfl⟩ := succ_of hm
    cases bad with
    | true => exact f55_end n m b a true out (.inl rfl)
    | false =>
      rw [Sp.krun, cond_false]
      by_cases ha : a < (b.length : Int)
      · rw [f55_L0_step, Bool.not_false, cond_true, decide_eq_true ha, cond_true, decide_eq_true (show (out.length : Int) ≤ 8 by omega), cond_true, h, chkT]
        simp only [List.length_singleton]
        rw [decide_eq_true (show (out.length + 1) * 32 ≤ 140737488355328 by omega), chkT, cond_true]
        exact ih m _ _ _ (kvA_ok h) (by rw [List.length_append, List.length_singleton]; omega) (by omega)
      · rw [decide_eq_false ha, cond_false]
        exact f55_end n m b a false out (.inr (.inl ha))
noncomputable def e55 : Ent := { f := 55, ins := [Sh.one (cL tB)], outs := [Sh.one (C0.row tV), Sh.one cI], upd := [], pre := fun a => Sp.bmid a, spec := fun a => Sp.readK a, wrt := fun _ => () }
theorem e55_core (b : List Int) (h : Sp.bmid b = true) : ∃ n, abody Γ (orc [e91, e92, e93]) n 55 [XV.mk false [X.c (X0.dat (Ty.int IntKind.u8).slice b)]] = some (rVI (Sp.readK b)) := by
  obtain ⟨h1, h2⟩ := yes2_true h
  refine ⟨10, (f55_raw 10 b).trans ?_⟩
  unfold Sp.readK
  cases decide ((b.length : Int) > 65536) with
  | true => rfl
  | false =>
    rw [cond_false, cond_false]
    exact f55_loop 10 b 9 10 0 false [] (rdOK_mk (Int.le_refl _) (Int.natCast_nonneg _) (mid_of h1) h2) rfl (by omega)
theorem e55_ok : Valid Try.prog Γ e55 := valid_of ok (vcons e91_ok (vcons e92_ok (vcons e93_ok vnil))) fun a ha => e55_core a ha
def Sp.f56_pre (x0 : List Int) : Bool := (bif decide ((↑x0.length : Int) > (65536 : Int)) then true else Sp.bmid x0)
def Sp.f56 (x0 : List Int) := (bif decide ((↑x0.length : Int) > (65536 : Int)) then (([], (2 : Int)), ()) else (bif !(Sp.cells (x0.length + (1 : Nat)) x0 false []).2 then (([], (3 : Int)), ()) else (((Sp.cells (x0.length + (1 : Nat)) x0 false []).1, (0 : Int)), ())))
noncomputable def e56 : Ent := { f := 56, ins := [Sh.one (C0.dat (Ty.int IntKind.u8).slice)], outs := [Sh.one (C0.row ((Ty.int IntKind.i64).pair ((Ty.int IntKind.i64).pair Ty.str))), Sh.one (C0.dat (Ty.int IntKind.i64))], upd := [], pre := fun a => Sp.f56_pre a, spec := fun a => (Sp.f56 a).1, wrt := fun a => (Sp.f56 a).2 }
def f56_g (v : denS [Sh.one (C0.row ((Ty.int IntKind.i64).pair ((Ty.int IntKind.i64).pair Ty.str))), Sh.one (C0.dat (Ty.int IntKind.i64))] × denS []) : Res := ⟨mkS [Sh.one (C0.row ((Ty.int IntKind.i64).pair ((Ty.int IntKind.i64).pair Ty.str))), Sh.one (C0.dat (Ty.int IntKind.i64))] v.1, mkU [] v.2⟩
theorem f56_raw (x0 : List Int) : abody Γ (orc [e85]) 0 56 [XV.mk false [X.c (X0.dat (Ty.int IntKind.u8).slice x0)]] = bif decide ((↑x0.length : Int) > (65536 : Int)) then some (Res.mk [XV.mk false [X.c (X0.row ((Ty.int IntKind.i64).pair ((Ty.int IntKind.i64).pair Ty.str)) [] true)], XV.mk false [X.c (X0.dat (Ty.int IntKind.i64) (2 : Int))]] []) else chk (Sp.bmid x0) (bif !(Sp.cells (x0.length + (1 : Nat)) x0 false []).2 then some (Res.mk [XV.mk false [X.c (X0.row ((Ty.int IntKind.i64).pair ((Ty.int IntKind.i64).pair Ty.str)) [] true)], XV.mk false [X.c (X0.dat (Ty.int IntKind.i64) (3 : Int))]] []) else some (Res.mk [XV.mk false [X.c (X0.row ((Ty.int IntKind.i64).pair ((Ty.int IntKind.i64).pair Ty.str)) (Sp.cells (x0.length + (1 : Nat)) x0 false []).1 true)], XV.mk false [X.c (X0.dat (Ty.int IntKind.i64) (0 : Int))]] [])) := by kernel_rfl
theorem f56_form (x0 : List Int) : (bif decide ((↑x0.length : Int) > (65536 : Int)) then some (Res.mk [XV.mk false [X.c (X0.row ((Ty.int IntKind.i64).pair ((Ty.int IntKind.i64).pair Ty.str)) [] true)], XV.mk false [X.c (X0.dat (Ty.int IntKind.i64) (2 : Int))]] []) else chk (Sp.bmid x0) (bif !(Sp.cells (x0.length + (1 : Nat)) x0 false []).2 then some (Res.mk [XV.mk false [X.c (X0.row ((Ty.int IntKind.i64).pair ((Ty.int IntKind.i64).pair Ty.str)) [] true)], XV.mk false [X.c (X0.dat (Ty.int IntKind.i64) (3 : Int))]] []) else some (Res.mk [XV.mk false [X.c (X0.row ((Ty.int IntKind.i64).pair ((Ty.int IntKind.i64).pair Ty.str)) (Sp.cells (x0.length + (1 : Nat)) x0 false []).1 true)], XV.mk false [X.c (X0.dat (Ty.int IntKind.i64) (0 : Int))]] []))) = chk (Sp.f56_pre x0) (some (f56_g (Sp.f56 x0))) := by
  unfold Sp.f56_pre Sp.f56
  exact (cond_step f56_g ((lift_plain (rfl))) ((chk_last ((cond_plain f56_g (rfl) (rfl))))))
theorem e56_ok : Valid Try.prog Γ e56 := valid_auto ok (vcons e85_ok vnil) fun a => (f56_raw a).trans (f56_form a)

def Sp.f11_pre (x0 : List Int) : Bool := (bif decide ((↑x0.length : Int) > (1048576 : Int)) then true else (Sp.fits x0 && (Sp.bmid x0 && (Sp.fits x0 && (Sp.f56_pre x0 && (bif !Sp.eqW Sp.eqV (Sp.f56 x0).1.1 (Sp.readK x0).1 then true else (bif (Sp.f56 x0).1.2 != (Sp.readK x0).2 then true else (Sp.fits x0 && (bif !Sp.eqL x0 x0 then true else (Sp.small x0 (1 : Int) && (bif decide (Sp.addLen x0 (1 : Int) < (0 : Int)) then true else (bif !Sp.eqW Sp.eqV (Sp.f56 x0).1.1 (Sp.readK x0).1 then true else (bif (Sp.f56 x0).1.2 != (Sp.readK x0).2 then true else (Sp.smallW (3 : Nat) (Sp.f56 x0).1.1 (1 : Int) && (Sp.smallW (3 : Nat) (Sp.markW Sp.markV (3 : Int) (Sp.f56 x0).1.1 (1 : Int)) (1 : Int) && (bif decide (Sp.heldW Sp.heldV (3 : Int) (Sp.markW Sp.markV (3 : Int) (Sp.f56 x0).1.1 (1 : Int)) (1 : Int) < (0 : Int)) then true else (bif Sp.heldW Sp.heldV (3 : Int) (Sp.markW Sp.markV (3 : Int) (Sp.f56 x0).1.1 (1 : Int)) (1 : Int) != Sp.addW (3 : Int) (Sp.f56 x0).1.1 (1 : Int) then true else (Sp.fits x0 && (Sp.f56_pre x0 && (bif !Sp.eqW Sp.eqV (Sp.f56 x0).1.1 (Sp.readK x0).1 then true else (bif (Sp.f56 x0).1.2 != (Sp.readK x0).2 then true else Sp.smallW (3 : Nat) (Sp.markW Sp.markV (3 : Int) (Sp.f56 x0).1.1 (1 : Int)) (1 : Int))))))))))))))))))))))
def Sp.f11 (x0 : List Int) := (bif decide ((↑x0.length : Int) > (1048576 : Int)) then (true, ()) else (bif !Sp.eqW Sp.eqV (Sp.f56 x0).1.1 (Sp.readK x0).1 then (false, ()) else (bif (Sp.f56 x0).1.2 != (Sp.readK x0).2 then (false, ()) else (bif !Sp.eqL x0 x0 then (false, ()) else (bif decide (Sp.addLen x0 (1 : Int) < (0 : Int)) then (false, ()) else (bif !Sp.eqW Sp.eqV (Sp.f56 x0).1.1 (Sp.readK x0).1 then (false, ()) else (bif (Sp.f56 x0).1.2 != (Sp.readK x0).2 then (false, ()) else (bif decide (Sp.heldW Sp.heldV (3 : Int) (Sp.markW Sp.markV (3 : Int) (Sp.f56 x0).1.1 (1 : Int)) (1 : Int) < (0 : Int)) then (false, ()) else (bif Sp.heldW Sp.heldV (3 : Int) (Sp.markW Sp.markV (3 : Int) (Sp.f56 x0).1.1 (1 : Int)) (1 : Int) != Sp.addW (3 : Int) (Sp.f56 x0).1.1 (1 : Int) then (false, ()) else (bif !Sp.eqW Sp.eqV (Sp.f56 x0).1.1 (Sp.readK x0).1 then (false, ()) else (bif (Sp.f56 x0).1.2 != (Sp.readK x0).2 then (false, ()) else (bif decide (Sp.heldW Sp.heldV (3 : Int) (Sp.markW Sp.markV (3 : Int) (Sp.f56 x0).1.1 (1 : Int)) (1 : Int) < (0 : Int)) then (false, ()) else (bif Sp.heldW Sp.heldV (3 : Int) (Sp.markW Sp.markV (3 : Int) (Sp.f56 x0).1.1 (1 : Int)) (1 : Int) != Sp.addW (3 : Int) (Sp.f56 x0).1.1 (1 : Int) then (false, ()) else (true, ()))))))))))))))
noncomputable def e11 : Ent := { f := 11, ins := [Sh.one (C0.dat (Ty.int IntKind.u8).slice)], outs := [Sh.one (C0.dat Ty.bool)], upd := [], pre := fun a => Sp.f11_pre a, spec := fun a => (Sp.f11 a).1, wrt := fun a => (Sp.f11 a).2 }
def f11_g (v : denS [Sh.one (C0.dat Ty.bool)] × denS []) : Res := ⟨mkS [Sh.one (C0.dat Ty.bool)] v.1, mkU [] v.2⟩
theorem f11_raw (x0 : List Int) : abody Γ (orc [e22, e55, e56, e44, e24, e25, e45, e46]) 0 11 [XV.mk false [X.c (X0.dat (Ty.int IntKind.u8).slice x0)]] = bif decide ((↑x0.length : Int) > (1048576 : Int)) then some (Res.mk [XV.mk false [X.c (X0.dat Ty.bool true)]] []) else chk (Sp.fits x0) (chk (Sp.bmid x0) (chk (Sp.fits x0) (chk (Sp.f56_pre x0) (bif !Sp.eqW Sp.eqV (Sp.f56 x0).1.1 (Sp.readK x0).1 then some (Res.mk [XV.mk false [X.c (X0.dat Ty.bool false)]] []) else bif (Sp.f56 x0).1.2 != (Sp.readK x0).2 then some (Res.mk [XV.mk false [X.c (X0.dat Ty.bool false)]] []) else chk (Sp.fits x0) (bif !Sp.eqL x0 x0 then some (Res.mk [XV.mk false [X.c (X0.dat Ty.bool false)]] []) else chk (Sp.small x0 (1 : Int)) (bif decide (Sp.addLen x0 (1 : Int) < (0 : Int)) then some (Res.mk [XV.mk false [X.c (X0.dat Ty.bool false)]] []) else bif !Sp.eqW Sp.eqV (Sp.f56 x0).1.1 (Sp.readK x0).1 then some (Res.mk [XV.mk false [X.c (X0.dat Ty.bool false)]] []) else bif (Sp.f56 x0).1.2 != (Sp.readK x0).2 then some (Res.mk [XV.mk false [X.c (X0.dat Ty.bool false)]] []) else chk (Sp.smallW (3 : Nat) (Sp.f56 x0).1.1 (1 : Int)) (chk (Sp.smallW (3 : Nat) (Sp.markW Sp.markV (3 : Int) (Sp.f56 x0).1.1 (1 : Int)) (1 : Int)) (bif decide (Sp.heldW Sp.heldV (3 : Int) (Sp.markW Sp.markV (3 : Int) (Sp.f56 x0).1.1 (1 : Int)) (1 : Int) < (0 : Int)) then some (Res.mk [XV.mk false [X.c (X0.dat Ty.bool false)]] []) else bif Sp.heldW Sp.heldV (3 : Int) (Sp.markW Sp.markV (3 : Int) (Sp.f56 x0).1.1 (1 : Int)) (1 : Int) != Sp.addW (3 : Int) (Sp.f56 x0).1.1 (1 : Int) then some (Res.mk [XV.mk false [X.c (X0.dat Ty.bool false)]] []) else chk (Sp.fits x0) (chk (Sp.f56_pre x0) (bif !Sp.eqW Sp.eqV (Sp.f56 x0).1.1 (Sp.readK x0).1 then some (Res.mk [XV.mk false [X.c (X0.dat Ty.bool false)]] []) else bif (Sp.f56 x0).1.2 != (Sp.readK x0).2 then some (Res.mk [XV.mk false [X.c (X0.dat Ty.bool false)]] []) else chk (Sp.smallW (3 : Nat) (Sp.markW Sp.markV (3 : Int) (Sp.f56 x0).1.1 (1 : Int)) (1 : Int)) (bif decide (Sp.heldW Sp.heldV (3 : Int) (Sp.markW Sp.markV (3 : Int) (Sp.f56 x0).1.1 (1 : Int)) (1 : Int) < (0 : Int)) then some (Res.mk [XV.mk false [X.c (X0.dat Ty.bool false)]] []) else bif Sp.heldW Sp.heldV (3 : Int) (Sp.markW Sp.markV (3 : Int) (Sp.f56 x0).1.1 (1 : Int)) (1 : Int) != Sp.addW (3 : Int) (Sp.f56 x0).1.1 (1 : Int) then some (Res.mk [XV.mk false [X.c (X0.dat Ty.bool false)]] []) else some (Res.mk [XV.mk false [X.c (X0.dat Ty.bool true)]] [])))))))))))) := by kernel_rfl
theorem f11_form (x0 : List Int) : (bif decide ((↑x0.length : Int) > (1048576 : Int)) then some (Res.mk [XV.mk false [X.c (X0.dat Ty.bool true)]] []) else chk (Sp.fits x0) (chk (Sp.bmid x0) (chk (Sp.fits x0) (chk (Sp.f56_pre x0) (bif !Sp.eqW Sp.eqV (Sp.f56 x0).1.1 (Sp.readK x0).1 then some (Res.mk [XV.mk false [X.c (X0.dat Ty.bool false)]] []) else bif (Sp.f56 x0).1.2 != (Sp.readK x0).2 then some (Res.mk [XV.mk false [X.c (X0.dat Ty.bool false)]] []) else chk (Sp.fits x0) (bif !Sp.eqL x0 x0 then some (Res.mk [XV.mk false [X.c (X0.dat Ty.bool false)]] []) else chk (Sp.small x0 (1 : Int)) (bif decide (Sp.addLen x0 (1 : Int) < (0 : Int)) then some (Res.mk [XV.mk false [X.c (X0.dat Ty.bool false)]] []) else bif !Sp.eqW Sp.eqV (Sp.f56 x0).1.1 (Sp.readK x0).1 then some (Res.mk [XV.mk false [X.c (X0.dat Ty.bool false)]] []) else bif (Sp.f56 x0).1.2 != (Sp.readK x0).2 then some (Res.mk [XV.mk false [X.c (X0.dat Ty.bool false)]] []) else chk (Sp.smallW (3 : Nat) (Sp.f56 x0).1.1 (1 : Int)) (chk (Sp.smallW (3 : Nat) (Sp.markW Sp.markV (3 : Int) (Sp.f56 x0).1.1 (1 : Int)) (1 : Int)) (bif decide (Sp.heldW Sp.heldV (3 : Int) (Sp.markW Sp.markV (3 : Int) (Sp.f56 x0).1.1 (1 : Int)) (1 : Int) < (0 : Int)) then some (Res.mk [XV.mk false [X.c (X0.dat Ty.bool false)]] []) else bif Sp.heldW Sp.heldV (3 : Int) (Sp.markW Sp.markV (3 : Int) (Sp.f56 x0).1.1 (1 : Int)) (1 : Int) != Sp.addW (3 : Int) (Sp.f56 x0).1.1 (1 : Int) then some (Res.mk [XV.mk false [X.c (X0.dat Ty.bool false)]] []) else chk (Sp.fits x0) (chk (Sp.f56_pre x0) (bif !Sp.eqW Sp.eqV (Sp.f56 x0).1.1 (Sp.readK x0).1 then some (Res.mk [XV.mk false [X.c (X0.dat Ty.bool false)]] []) else bif (Sp.f56 x0).1.2 != (Sp.readK x0).2 then some (Res.mk [XV.mk false [X.c (X0.dat Ty.bool false)]] []) else chk (Sp.smallW (3 : Nat) (Sp.markW Sp.markV (3 : Int) (Sp.f56 x0).1.1 (1 : Int)) (1 : Int)) (bif decide (Sp.heldW Sp.heldV (3 : Int) (Sp.markW Sp.markV (3 : Int) (Sp.f56 x0).1.1 (1 : Int)) (1 : Int) < (0 : Int)) then some (Res.mk [XV.mk false [X.c (X0.dat Ty.bool false)]] []) else bif Sp.heldW Sp.heldV (3 : Int) (Sp.markW Sp.markV (3 : Int) (Sp.f56 x0).1.1 (1 : Int)) (1 : Int) != Sp.addW (3 : Int) (Sp.f56 x0).1.1 (1 : Int) then some (Res.mk [XV.mk false [X.c (X0.dat Ty.bool false)]] []) else some (Res.mk [XV.mk false [X.c (X0.dat Ty.bool true)]] []))))))))))))) = chk (Sp.f11_pre x0) (some (f11_g (Sp.f11 x0))) := by
  unfold Sp.f11_pre Sp.f11
  exact (cond_step f11_g ((lift_plain (rfl))) ((chk_step ((chk_step ((chk_step ((chk_step ((cond_step f11_g ((lift_plain (rfl))) ((cond_step f11_g ((lift_plain (rfl))) ((chk_step ((cond_step f11_g ((lift_plain (rfl))) ((chk_step ((cond_step f11_g ((lift_plain (rfl))) ((cond_step f11_g ((lift_plain (rfl))) ((cond_step f11_g ((lift_plain (rfl))) ((chk_step ((chk_step ((cond_step f11_g ((lift_plain (rfl))) ((cond_step f11_g ((lift_plain (rfl))) ((chk_step ((chk_step ((cond_step f11_g ((lift_plain (rfl))) ((cond_step f11_g ((lift_plain (rfl))) ((chk_last ((cond_plain f11_g (rfl) ((cond_plain f11_g (rfl) (rfl))))))))))))))))))))))))))))))))))))))))))))))))
theorem e11_ok : Valid Try.prog Γ e11 := valid_auto ok (vcons e22_ok (vcons e55_ok (vcons e56_ok (vcons e44_ok (vcons e24_ok (vcons e25_ok (vcons e45_ok (vcons e46_ok vnil)))))))) fun a => (f11_raw a).trans (f11_form a)

end Go.Proofs.GR.T
namespace Go.Proofs.GR.T
open Go Go.Proofs Go.Proofs.GR
theorem wrap8_id {n : Int} (h0 : 0 ≤ n) (h1 : n < 256) : IntKind.u8.wrap n = n := by rw [wrap8]; omega
theorem hi_eq (n j p : Int) (k : Nat) (hj : j = k) (hk : k ≤ 7) (hp : ((2 ^ (8 * k) : Nat) : Int) = p) : Sp.hi n j = (n / p) % 256 := by
  subst hj
  unfold Sp.hi
  rw [wrap8, wrap64 (n := 8 * (k : Int)) (by omega) (by omega), wrapu64 (by omega) (by omega), show (8 * (k : Int)).toNat = 8 * k by omega, Nat.min_eq_left (show 8 * k ≤ 64 by omega)]
  rw [show ((2 : Int) ^ (8 * k)) = ((2 ^ (8 * k) : Nat) : Int) by rw [Int.natCast_pow]; rfl, Int.fdiv_eq_ediv_of_nonneg _ (Int.natCast_nonneg _), hp]
theorem turn8 {n : Int} (h0 : 0 ≤ n) (h1 : n < 256) : IntKind.u8.wrap (((BitVec.ofInt (8 : Nat) n ^^^ BitVec.ofInt (8 : Nat) (128 : Int)).toNat : Nat) : Int) = if n < 128 then n + 128 else n - 128 := by
  have hx : n.toNat ^^^ 128 < 2 ^ 8 := Nat.xor_lt_two_pow (by omega) (by omega)
  have ea : n = ((n.toNat : Nat) : Int) := by omega
  have hv := xor128_val ⟨n.toNat, by omega⟩
  simp only at hv
  rw [ea, BitVec.toNat_xor, ofInt_toNat, show (BitVec.ofInt 8 (128 : Int)).toNat = 128 from rfl, Nat.mod_eq_of_lt (by omega), wrap8, hv]
  split <;> split <;> omega
theorem key8_val {N b0 b1 b2 b3 b4 b5 b6 b7 : Int} (e : N = (((((((b0 * 256 + b1) * 256 + b2) * 256 + b3) * 256 + b4) * 256 + b5) * 256 + b6) * 256 + b7) - 9223372036854775808) (x0 : 0 ≤ b0) (y0 : b0 < 256) (x1 : 0 ≤ b1) (y1 : b1 < 256) (x2 : 0 ≤ b2) (y2 : b2 < 256) (x3 : 0 ≤ b3) (y3 : b3 < 256) (x4 : 0 ≤ b4) (y4 : b4 < 256) (x5 : 0 ≤ b5) (y5 : b5 < 256) (x6 : 0 ≤ b6) (y6 : b6 < 256) (x7 : 0 ≤ b7) (y7 : b7 < 256) : Sp.key8 N = [b0, b1, b2, b3, b4, b5, b6, b7] := by
  have h7 : Sp.hi N 7 = (N / 72057594037927936) % 256 := hi_eq N 7 72057594037927936 7 rfl (by omega) (by decide)
  have h6 : Sp.hi N 6 = (N / 281474976710656) % 256 := hi_eq N 6 281474976710656 6 rfl (by omega) (by decide)
  have h5 : Sp.hi N 5 = (N / 1099511627776) % 256 := hi_eq N 5 1099511627776 5 rfl (by omega) (by decide)
  have h4 : Sp.hi N 4 = (N / 4294967296) % 256 := hi_eq N 4 4294967296 4 rfl (by omega) (by decide)
  have h3 : Sp.hi N 3 = (N / 16777216) % 256 := hi_eq N 3 16777216 3 rfl (by omega) (by decide)
  have h2 : Sp.hi N 2 = (N / 65536) % 256 := hi_eq N 2 65536 2 rfl (by omega) (by decide)
  have h1 : Sp.hi N 1 = (N / 256) % 256 := hi_eq N 1 256 1 rfl (by omega) (by decide)
  have h0 : Sp.hi N 0 = (N / 1) % 256 := hi_eq N 0 1 0 rfl (by omega) (by decide)
  have a7 : (N / 72057594037927936) % 256 = if b0 < 128 then b0 + 128 else b0 - 128 := by
    clear h0 h1 h2 h3 h4 h5 h6 h7
    split <;> omega
  have e7 : IntKind.u8.wrap (((BitVec.ofInt (8 : Nat) (Sp.hi N 7) ^^^ BitVec.ofInt (8 : Nat) (128 : Int)).toNat : Nat) : Int) = b0 := by
    rw [h7, a7]
    clear h0 h1 h2 h3 h4 h5 h6 h7 a7 e
    rw [turn8 (by split <;> omega) (by split <;> omega)]
    split <;> split <;> omega
  have e6 : Sp.hi N 6 = b1 := by
    rw [h6]
    clear h0 h1 h2 h3 h4 h5 h6 h7 a7 e7
    omega
  have e5 : Sp.hi N 5 = b2 := by
    rw [h5]
    clear h0 h1 h2 h3 h4 h5 h6 h7 a7 e7 e6
    omega
  have e4 : Sp.hi N 4 = b3 := by
    rw [h4]
    clear h0 h1 h2 h3 h4 h5 h6 h7 a7 e7 e6 e5
    omega
  have e3 : Sp.hi N 3 = b4 := by
    rw [h3]
    clear h0 h1 h2 h3 h4 h5 h6 h7 a7 e7 e6 e5 e4
    omega
  have e2 : Sp.hi N 2 = b5 := by
    rw [h2]
    clear h0 h1 h2 h3 h4 h5 h6 h7 a7 e7 e6 e5 e4 e3
    omega
  have e1 : Sp.hi N 1 = b6 := by
    rw [h1]
    clear h0 h1 h2 h3 h4 h5 h6 h7 a7 e7 e6 e5 e4 e3 e2
    omega
  have e0 : Sp.hi N 0 = b7 := by
    rw [h0]
    clear h0 h1 h2 h3 h4 h5 h6 h7 a7 e7 e6 e5 e4 e3 e2 e1
    omega
  unfold Sp.key8
  rw [e7, e6, e5, e4, e3, e2, e1, e0]
theorem key8_of8 {r : List Int} (h8 : 8 ≤ r.length) (hb : Sp.isBytes r = true) : Sp.key8 (Sp.of8 r) = r.take 8 := by
  match r, h8 with
  | b0 :: b1 :: b2 :: b3 :: b4 :: b5 :: b6 :: b7 :: r', _ =>
    obtain ⟨⟨x0, y0⟩, hb⟩ := isBytes_cons.1 hb
    obtain ⟨⟨x1, y1⟩, hb⟩ := isBytes_cons.1 hb
    obtain ⟨⟨x2, y2⟩, hb⟩ := isBytes_cons.1 hb
    obtain ⟨⟨x3, y3⟩, hb⟩ := isBytes_cons.1 hb
    obtain ⟨⟨x4, y4⟩, hb⟩ := isBytes_cons.1 hb
    obtain ⟨⟨x5, y5⟩, hb⟩ := isBytes_cons.1 hb
    obtain ⟨⟨x6, y6⟩, hb⟩ := isBytes_cons.1 hb
    obtain ⟨⟨x7, y7⟩, hb⟩ := isBytes_cons.1 hb
    refine key8_val ?_ x0 y0 x1 y1 x2 y2 x3 y3 x4 y4 x5 y5 x6 y6 x7 y7
    show ((((((((((0 * 256 + b0.toNat) * 256 + b1.toNat) * 256 + b2.toNat) * 256 + b3.toNat) * 256 + b4.toNat) * 256 + b5.toNat) * 256 + b6.toNat) * 256 + b7.toNat) : Nat) : Int) - 9223372036854775808 = _
    omega
theorem ktx_bad (d : Nat) (b : List Int) (a : Int) (acc : List Int) : Sp.ktx d b a true acc = (acc, a, true) := by cases d <;> rfl
theorem ktx_end {d : Nat} {b : List Int} {a : Nat} {acc : List Int} (h : b.drop a = []) : (Sp.ktx (d + 1) b a false acc).2.2 = true := by
  obtain ⟨p1, p2, p3⟩ := one_end (b := b) (a := a) false h
  obtain ⟨q1, q2, q3⟩ := one_end (b := b) (a := a) true h
  rw [Sp.ktx, cond_false, p1, p2, p3, q1, q2, q3]
  show (Sp.ktx d b a true (acc ++ [0])).2.2 = true
  rw [ktx_bad]
theorem kt_both (b : List Int) (hb : Sp.isBytes b = true) : ∀ (n : Nat) (r acc : List Int) (i : Int) (a d : Nat), r.length ≤ n → b.drop a = r → r.length < d →
    ((Sp.kt r acc i).2 = 0 ∧ (Sp.ktx d b a false acc).2.2 = true) ∨
    (∃ (u : List Int) (t : Nat), Sp.isBytes u = true ∧ r.take t = Sp.esc u ++ [0, 1] ∧ t ≤ r.length ∧ 0 < t ∧ Sp.kt r acc i = (bytesStr (acc ++ u), i + t) ∧ Sp.ktx d b a false acc = (acc ++ u, (a : Int) + t, false)) := by
  intro n
  induction n using Nat.strongRecOn with
  | _ n ih =>
    intro r acc i a d hn hr hd
    obtain ⟨d, rfl⟩ := succ_of hd
    match r, hn, hr, hd with
    | [], hn, hr, hd => exact .inl ⟨rfl, ktx_end hr⟩
    | [x], hn, hr, hd =>
      refine .inl ⟨rfl, ?_⟩
      obtain ⟨o1, o2, o3, o4, o5⟩ := oneV_at hr
      have hbx : Sp.isBytes [x] = true := hr ▸ isBytes_drop hb a
      obtain ⟨⟨x0, x1⟩, _⟩ := isBytes_cons.1 hbx
      rw [List.length_singleton] at hd
      rw [Sp.ktx, cond_false, o1, o2, o3]
      by_cases hx : x > 0
      · rw [decide_eq_true hx, cond_true]
        obtain ⟨d', rfl⟩ := succ_of (show 0 < d by omega)
        exact ktx_end o4
      · obtain ⟨p1, p2, p3⟩ := one_end (b := b) (a := a + 1) false o4
        rw [decide_eq_false hx, cond_false, p1, p2, p3]
        show (Sp.ktx d b ((a + 1 : Nat) : Int) true (acc ++ [0])).2.2 = true
        rw [ktx_bad]
    | x :: y :: r', hn, hr, hd =>
      have hl : (x :: y :: r').length = r'.length + 2 := rfl
      have hl2 : (y :: r').length = r'.length + 1 := rfl
      obtain ⟨o1, o2, o3, o4, o5⟩ := oneV_at hr
      obtain ⟨p1, p2, p3, p4, p5⟩ := oneV_at o4
      have hbx : Sp.isBytes (x :: y :: r') = true := hr ▸ isBytes_drop hb a
      obtain ⟨⟨x0, x1⟩, hby⟩ := isBytes_cons.1 hbx
      obtain ⟨⟨y0, y1⟩, hbr⟩ := isBytes_cons.1 hby
      rw [Sp.ktx, cond_false, o1, o2, o3, p1, p2, p3, Sp.kt]
      by_cases hx : x > 0
      · rw [decide_eq_true hx, cond_true, show (x != 0) = true from bne_iff_ne.2 (by omega), cond_true, wrap8_id x0 x1]
        rcases ih (n - 1) (by omega) (y :: r') (acc ++ [x]) (i + 1) (a + 1) d (by omega) o4 (by omega) with ⟨h1, h2⟩ | ⟨u, t, h1, h2, h3, h4, h5, h6⟩
        · exact .inl ⟨h1, h2⟩
        · refine .inr ⟨x :: u, t + 1, isBytes_cons.2 ⟨⟨x0, x1⟩, h1⟩, ?_, by omega, by omega, ?_, ?_⟩
          · rw [List.take_succ_cons, h2, Sp.esc, beq_false_of_ne (show x ≠ 0 by omega)]
            rfl
          · rw [h5, List.append_assoc]
            show (bytesStr (acc ++ x :: u), _) = _
            rw [show i + 1 + (t : Int) = i + ((t + 1 : Nat) : Int) by omega]
          · rw [h6, List.append_assoc]
            show (acc ++ x :: u, _, false) = _
            rw [show ((a + 1 : Nat) : Int) + (t : Int) = a + ((t + 1 : Nat) : Int) by omega]
      · have hx0 : x = 0 := by omega
        subst hx0
        rw [decide_eq_false hx, cond_false, show ((0 : Int) != 0) = false from rfl, cond_false]
        by_cases h1 : y = 1
        · subst h1
          refine .inr ⟨[], 2, rfl, rfl, by omega, by omega, ?_, ?_⟩
          · show (bytesStr acc, i + 2) = (bytesStr (acc ++ []), i + 2)
            rw [List.append_nil]
          · show (acc, ((a + 1 + 1 : Nat) : Int), false) = (acc ++ [], (a : Int) + 2, false)
            rw [List.append_nil, show ((a + 1 + 1 : Nat) : Int) = (a : Int) + 2 by omega]
        · rw [beq_false_of_ne h1, cond_false, cond_false]
          by_cases h255 : y = 255
          · subst h255
            rw [show ((255 : Int) != 255) = false from rfl, cond_false, cond_false]
            rcases ih (n - 2) (by omega) r' (acc ++ [0]) (i + 2) (a + 1 + 1) d (by omega) p4 (by omega) with ⟨h1, h2⟩ | ⟨u, t, h1, h2, h3, h4, h5, h6⟩
            · exact .inl ⟨h1, h2⟩
            · refine .inr ⟨0 :: u, t + 2, isBytes_cons.2 ⟨⟨by omega, by omega⟩, h1⟩, ?_, by omega, by omega, ?_, ?_⟩
              · rw [List.take_succ_cons, List.take_succ_cons, h2]
                rfl
              · rw [h5, List.append_assoc]
                show (bytesStr (acc ++ 0 :: u), _) = _
                rw [show i + 2 + (t : Int) = i + ((t + 2 : Nat) : Int) by omega]
              · rw [h6, List.append_assoc]
                show (acc ++ 0 :: u, _, false) = _
                rw [show ((a + 1 + 1 : Nat) : Int) + (t : Int) = a + ((t + 2 : Nat) : Int) by omega]
          · rw [show (y != 255) = true from bne_iff_ne.2 h255, cond_true, cond_true, ktx_bad]
            exact .inl ⟨rfl, rfl⟩
/-- A value of a key is what the program's cell is. -/
theorem kv_step {b : List Int} {a : Nat} {x : Int} {r : List Int} (hb : Sp.isBytes b = true) (hl : b.length ≤ 1048576) (h : b.drop a = x :: r) :
    ((Sp.cell (x :: r) false).2 = 0 → Sp.kvB b a false = true ∨ Sp.vOK (Sp.kvV b a false) = false) ∧
    ((Sp.cell (x :: r) false).2 ≠ 0 → Sp.kvV b a false = (Sp.cell (x :: r) false).1 ∧ Sp.kvA b a false = a + (Sp.cell (x :: r) false).2 ∧ Sp.kvB b a false = false ∧
      Sp.kv1 (Sp.cell (x :: r) false).1 = (x :: r).take (Sp.cell (x :: r) false).2.toNat) := by
  obtain ⟨o1, o2, o3, o4, o5⟩ := oneV_at h
  have hbx : Sp.isBytes (x :: r) = true := h ▸ isBytes_drop hb a
  obtain ⟨⟨x0, x1⟩, hbr⟩ := isBytes_cons.1 hbx
  have hlen : r.length = b.length - (a + 1) := by rw [← o4, List.length_drop]
  rw [show Sp.cell (x :: r) false = Sp.cellC x r false from rfl]
  unfold Sp.kvV Sp.kvA Sp.kvB
  rw [o1, o2, o3]
  by_cases c0 : x = 0
  · subst c0
    exact ⟨fun h => absurd h (show ¬ (1 : Int) = 0 by decide), fun _ => ⟨rfl, by show ((a + 1 : Nat) : Int) = a + 1; omega, rfl, rfl⟩⟩
  by_cases c1 : x = 1
  · subst c1
    cases r with
    | nil =>
      obtain ⟨p1, p2, p3⟩ := one_end (b := b) (a := a + 1) false o4
      refine ⟨fun _ => .inl p3, fun h => absurd rfl h⟩
    | cons y r' =>
      obtain ⟨⟨y0, y1⟩, _⟩ := isBytes_cons.1 hbr
      obtain ⟨p1, p2, p3, p4, p5⟩ := oneV_at o4
      refine ⟨fun h => absurd h (show ¬ (2 : Int) = 0 by decide), fun _ => ⟨?_, ?_, p3, ?_⟩⟩
      · show ((1 : Int), Sp.oneV b ((a + 1 : Nat) : Int) false, ByteArray.empty) = (1, y, ByteArray.empty)
        rw [p1]
      · show Sp.oneA b ((a + 1 : Nat) : Int) false = a + 2
        rw [p2]; omega
      · show [IntKind.u8.wrap 1, IntKind.u8.wrap y] = [1, y]
        rw [wrap8_id y0 y1]; rfl
  by_cases c2 : x = 2
  · subst c2
    have ht : Sp.takeB b ((a + 1 : Nat) : Int) false 8 = decide (((a + 1 : Nat) : Int) + 8 > (b.length : Int)) := rfl
    by_cases h8 : 8 ≤ r.length
    · have ht2 : Sp.takeB b ((a + 1 : Nat) : Int) false 8 = false := by rw [ht]; exact decide_eq_false (by omega)
      have e9 : Sp.cellC 2 r false = ((2, Sp.of8 r, ByteArray.empty), 9) := by
        show (bif Nat.ble 8 r.length then (((2, Sp.of8 r, ByteArray.empty), 9) : V3 × Int) else (Sp.zv, 0)) = _
        rw [Nat.ble_eq_true_of_le h8]; rfl
      rw [e9]
      refine ⟨fun h => absurd h (show ¬ (9 : Int) = 0 by decide), fun _ => ⟨?_, ?_, ht2, ?_⟩⟩
      · show ((2 : Int), Sp.of8 (Sp.takeV b ((a + 1 : Nat) : Int) false 8), ByteArray.empty) = (2, Sp.of8 r, ByteArray.empty)
        unfold Sp.takeV
        rw [ht2, cond_false, Int.toNat_natCast, o4, show (8 : Int).toNat = 8 from rfl, of8_take]
      · show Sp.takeA b ((a + 1 : Nat) : Int) false 8 = a + 9
        unfold Sp.takeA
        rw [ht2, cond_false]; omega
      · show IntKind.u8.wrap 2 :: Sp.key8 (Sp.of8 r) = 2 :: r.take 8
        rw [key8_of8 h8 hbr]; rfl
    · have ht2 : Sp.takeB b ((a + 1 : Nat) : Int) false 8 = true := by rw [ht]; exact decide_eq_true (by omega)
      have hb8 : Nat.ble 8 r.length = false := Bool.eq_false_iff.2 fun e => h8 (Nat.le_of_ble_eq_true e)
      refine ⟨fun _ => .inl ht2, fun hn => absurd ?_ hn⟩
      show (bif Nat.ble 8 r.length then (((2, Sp.of8 r, ByteArray.empty), 9) : V3 × Int) else (Sp.zv, 0)).2 = 0
      rw [hb8]; rfl
  unfold Sp.cellC Sp.kv1
  rw [beq_false_of_ne c0, beq_false_of_ne c1, beq_false_of_ne c2]
  simp only [cond_false, Bool.not_false]
  have e167 : (Sp.f167 x).1 = (bif x == 3 then true else x == 4) := by
    unfold Sp.f167
    cases x == 3 <;> rfl
  rw [e167]
  cases ct : (bif x == 3 then true else x == 4) with
  | true =>
    simp only [cond_true]
    unfold Sp.keyT
    rcases kt_both b hb r.length r [] 0 (a + 1) (b.length + 1) (Nat.le_refl _) o4 (by omega) with ⟨h1, h2⟩ | ⟨u, t, h1, h2, h3, h4, h5, h6⟩
    · rw [h1, h2]
      exact ⟨fun _ => .inl rfl, fun h => absurd rfl h⟩
    · rw [h5, h6, List.nil_append, decide_eq_true (show (0 : Int) + (t : Int) > 0 by omega), wrap64 (n := 0 + (t : Int) + 1) (by omega) (by omega)]
      simp only [cond_true]
      refine ⟨fun h => absurd h (by omega), fun _ => ⟨trivial, by omega, trivial, ?_⟩⟩
      rw [beq_false_of_ne c1, beq_false_of_ne c2, ct, strBytes_bytesStr h1, wrap8_id x0 x1, show (0 + (t : Int) + 1).toNat = t + 1 by omega, List.take_succ_cons, h2]
      rfl
  | false =>
    simp only [cond_false]
    refine ⟨fun _ => .inr ?_, fun h => absurd rfl h⟩
    have c34 : (x == 3) = false ∧ (x == 4) = false := by
      cases h3 : x == 3 with
      | true => rw [h3] at ct; cases ct
      | false => rw [h3] at ct; exact ⟨rfl, ct⟩
    unfold Sp.vOK Sp.f136
    simp only [beq_false_of_ne c0, beq_false_of_ne c1, beq_false_of_ne c2, c34.1, c34.2, cond_false]
theorem krun_bad (e : Nat) (b : List Int) (a : Int) (out : List V3) : Sp.krun e b a true out = (out, a, true) := by cases e <;> rfl
theorem krun_pre (b : List Int) : ∀ (e : Nat) (a : Int) (bad : Bool) (out : List V3), ∃ t, (Sp.krun e b a bad out).1 = out ++ t
  | 0, _, _, out => ⟨[], (List.append_nil _).symm⟩
  | e + 1, a, true, out => ⟨[], by rw [krun_bad, List.append_nil]⟩
  | e + 1, a, false, out => by
    rw [Sp.krun, cond_false]
    cases decide (a < (b.length : Int)) with
    | false => exact ⟨[], (List.append_nil _).symm⟩
    | true =>
      obtain ⟨t, h⟩ := krun_pre b e (Sp.kvA b a false) (Sp.kvB b a false) (out ++ [Sp.kvV b a false])
      exact ⟨Sp.kvV b a false :: t, by rw [cond_true, h, List.append_assoc]; rfl⟩
theorem key_snoc (v : V3) : ∀ xs : List V3, Sp.key (xs ++ [v]) = Sp.key xs ++ Sp.kv1 v
  | [] => by show Sp.kv1 v ++ [] = [] ++ Sp.kv1 v; simp
  | x :: r => by
    show Sp.kv1 x ++ Sp.key (r ++ [v]) = Sp.kv1 x ++ Sp.key r ++ Sp.kv1 v
    rw [key_snoc v r, List.append_assoc]
theorem key_core {b : List Int} (hb : Sp.isBytes b = true) (hl : b.length ≤ 1048576) : ∀ (e a d : Nat) (out : List V3), out.length + e = 9 → out.length ≤ 8 → a ≤ b.length → (b.drop a).length < d →
    ((Sp.cells d (b.drop a) false out).2 = true → Sp.krun e b a false out = ((Sp.cells d (b.drop a) false out).1, (b.length : Int), false) ∧ Sp.rowOK (Sp.cells d (b.drop a) false out).1 = true ∧ Sp.key (Sp.cells d (b.drop a) false out).1 = Sp.key out ++ b.drop a) ∧
    (∀ o a', Sp.krun e b a false out = (o, a', false) → Sp.rowOK o = true → Sp.cells d (b.drop a) false out = (o, true)) := by
  intro e
  induction e with
  | zero => intro a d out h1 h2; omega
  | succ e ih =>
    intro a d out he ho ha hd
    obtain ⟨d, rfl⟩ := succ_of hd
    rw [Sp.krun, cond_false]
    cases hc : b.drop a with
    | nil =>
      have hab : a = b.length := by
        have : (b.drop a).length = 0 := by rw [hc]; rfl
        rw [List.length_drop] at this; omega
      have ec : Sp.cells (d + 1) [] false out = (out, Sp.rowOK out) := by rw [Sp.cells, decide_eq_true (show ([] : List Int).length = 0 from rfl), cond_true, f132_eq]
      rw [ec, decide_eq_false (show ¬ (a : Int) < b.length by omega), cond_false, hab]
      refine ⟨fun h => ⟨rfl, h, (List.append_nil _).symm⟩, fun o a' h hr => ?_⟩
      obtain ⟨rfl, _⟩ := Prod.mk.inj h
      rw [hr]
    | cons x r =>
      obtain ⟨s1, s2⟩ := kv_step hb hl hc
      have hlr : (b.drop a).length = r.length + 1 := by rw [hc]; rfl
      have hbx : Sp.isBytes (x :: r) = true := hc ▸ isBytes_drop hb a
      have hdl : r.length + 1 = b.length - a := by rw [← hlr, List.length_drop]
      have hcell := cell_len (b := x :: r) (row := false) (cellOK_mk (by rw [List.length_cons]; omega) (by rw [List.length_cons]; omega) hbx)
      have ec : Sp.cells (d + 1) (x :: r) false out = bif (Sp.cell (x :: r) false).2 == 0 then ([], false) else bif decide (out.length = 8) then ([], false) else Sp.cells d ((x :: r).drop (Sp.cell (x :: r) false).2.toNat) false (out ++ [(Sp.cell (x :: r) false).1]) := by
        rw [Sp.cells, decide_eq_false (show ¬ (x :: r).length = 0 by rw [List.length_cons]; omega), cond_false]
      rw [ec, decide_eq_true (show (a : Int) < b.length by omega), cond_true]
      by_cases hz : (Sp.cell (x :: r) false).2 = 0
      · rw [show ((Sp.cell (x :: r) false).2 == 0) = true from beq_iff_eq.2 hz, cond_true]
        refine ⟨fun h => (by cases h), fun o a' h hr => ?_⟩
        exfalso
        cases hB : Sp.kvB b a false with
        | true =>
          rw [hB, krun_bad] at h
          obtain ⟨_, h2⟩ := Prod.mk.inj h
          obtain ⟨_, h2⟩ := Prod.mk.inj h2
          cases h2
        | false =>
          rcases s1 hz with h3 | h3
          · rw [hB] at h3; cases h3
          · obtain ⟨t, h4⟩ := krun_pre b e (Sp.kvA b a false) (Sp.kvB b a false) (out ++ [Sp.kvV b a false])
            rw [h] at h4
            have h5 : o = out ++ [Sp.kvV b a false] ++ t := h4
            have := (rowOK_iff.1 hr).2 (Sp.kvV b a false) (by rw [h5]; simp)
            rw [h3] at this
            cases this
      · obtain ⟨v1, v2, v3, v4⟩ := s2 hz
        rw [beq_false_of_ne hz, cond_false]
        by_cases h8 : out.length = 8
        · rw [decide_eq_true h8, cond_true]
          refine ⟨fun h => (by cases h), fun o a' h hr => ?_⟩
          exfalso
          obtain ⟨t, h4⟩ := krun_pre b e (Sp.kvA b a false) (Sp.kvB b a false) (out ++ [Sp.kvV b a false])
          rw [h] at h4
          have h5 : o = out ++ [Sp.kvV b a false] ++ t := h4
          have h6 := (rowOK_iff.1 hr).1
          rw [h5, List.length_append, List.length_append, List.length_singleton] at h6
          omega
        · have hcl : (x :: r).length = r.length + 1 := rfl
          rw [hcl] at hcell
          have ea : (a : Int) + (Sp.cell (x :: r) false).2 = ((a + (Sp.cell (x :: r) false).2.toNat : Nat) : Int) := by omega
          have ed : (x :: r).drop (Sp.cell (x :: r) false).2.toNat = b.drop (a + (Sp.cell (x :: r) false).2.toNat) := by rw [← hc, List.drop_drop]
          have hh := ih (a + (Sp.cell (x :: r) false).2.toNat) d (out ++ [(Sp.cell (x :: r) false).1]) (by rw [List.length_append, List.length_singleton]; omega) (by rw [List.length_append, List.length_singleton]; omega) (by omega) (by rw [List.length_drop]; omega)
          rw [key_snoc, v4, List.append_assoc, ← ed, List.take_append_drop] at hh
          rw [decide_eq_false h8, cond_false, v1, v2, v3, ea]
          exact hh
theorem f56_eq {xs : List Int} (hb : Sp.isBytes xs = true) : Sp.f56 xs = (Sp.readK xs, ()) := by
  unfold Sp.f56 Sp.readK
  by_cases c0 : (xs.length : Int) > 65536
  · rw [decide_eq_true c0]; rfl
  rw [decide_eq_false c0, cond_false, cond_false]
  obtain ⟨A, B⟩ := key_core hb (by omega) 9 0 (xs.length + 1) [] rfl (Nat.zero_le _) (Nat.zero_le _) (by rw [List.drop_zero]; exact Nat.lt_succ_self _)
  rw [List.drop_zero, Int.natCast_zero] at A B
  cases hq : (Sp.cells (xs.length + 1) xs false []).2 with
  | true =>
    obtain ⟨h1, h2, h3⟩ := A hq
    rw [h1]
    unfold Sp.kfin
    have h4 : Sp.key (Sp.cells (xs.length + 1) xs false []).1 = xs := h3
    rw [h2, h4, beq_self_eq_true]
    rfl
  | false =>
    rcases hs : Sp.krun 9 xs 0 false [] with ⟨o, a', bad'⟩
    unfold Sp.kfin
    cases bad' with
    | true => rfl
    | false =>
      cases hro : Sp.rowOK o with
      | false => simp [hro]
      | true =>
        have := B o a' hs hro
        rw [this] at hq
        cases hq
theorem bmid_mk {xs : List Int} (hb : Sp.isBytes xs = true) (hl : xs.length ≤ 1048576) : Sp.bmid xs = true := by
  unfold Sp.bmid
  rw [mid_mk hl, hb]; rfl
theorem f56_pre {xs : List Int} (hb : Sp.isBytes xs = true) (hl : xs.length ≤ 1048576) : Sp.f56_pre xs = true := by
  unfold Sp.f56_pre
  rw [bmid_mk hb hl]
  cases decide ((xs.length : Int) > 65536) <;> rfl
theorem f56_len (xs : List Int) : (Sp.f56 xs).1.1.length ≤ xs.length + 1 := by
  unfold Sp.f56
  have h := cells_len false (xs.length + 1) xs []
  rw [List.length_nil, Nat.zero_add] at h
  cases decide ((xs.length : Int) > 65536) with
  | true => exact Nat.zero_le _
  | false =>
    rw [cond_false]
    cases hb : (Sp.cells (xs.length + 1) xs false []).2 with
    | false => exact Nat.zero_le _
    | true => exact h
theorem law11_pre (xs : List Int) (hb : Sp.isBytes xs = true) : Sp.f11_pre xs = true := by
  unfold Sp.f11_pre
  by_cases h : (xs.length : Int) > 1048576
  · rw [decide_eq_true h]; rfl
  · have hf : Sp.fits xs = true := decide_eq_true (by omega)
    have hs : Sp.small xs 1 = true := small_mk (by omega) (by omega)
    have hlen := f56_len xs
    rw [f56_eq hb] at hlen
    have hlen' : (Sp.readK xs).1.length ≤ xs.length + 1 := hlen
    have hs2 : Sp.smallW 3 (Sp.readK xs).1 1 = true := smallW_mk (by omega) (by show 1 + _ ≤ _; omega)
    have hs3 : Sp.smallW 3 (Sp.markW Sp.markV 3 (Sp.readK xs).1 1) 1 = true := smallW_mk (by omega) (by rw [markW_len]; show 1 + _ ≤ _; omega)
    rw [f56_eq hb, decide_eq_false h, f56_pre hb (by omega), bmid_mk hb (by omega), hf, hs, hs2, hs3]
    simp
theorem law11 (xs : List Int) (hb : Sp.isBytes xs = true) : (Sp.f11 xs).1 = true := by
  unfold Sp.f11
  rw [f56_eq hb]
  show (bif decide ((xs.length : Int) > 1048576) then _ else _ : Bool × Unit).1 = true
  rw [heldW_mark heldV_mark, eqW_self eqV_self]
  have h1 : decide (Sp.addLen xs (1 : Int) < 0) = false := decide_eq_false (by unfold Sp.addLen; omega)
  have h2 : decide (Sp.addW 3 (Sp.readK xs).1 (1 : Int) < 0) = false := decide_eq_false (by unfold Sp.addW; omega)
  rw [h1, h2, eqL_self]
  cases decide ((xs.length : Int) > 1048576) <;> simp
end Go.Proofs.GR.T
