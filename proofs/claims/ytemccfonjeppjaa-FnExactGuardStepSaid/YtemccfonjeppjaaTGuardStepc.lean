/-
  No statement is proved here: what the functions of the law answer, told as plain functions, and that the law's answer is always true.
  No condition.
-/
import Derived.Test.YtemccfonjeppjaaTGuardStepb
set_option maxRecDepth 100000
namespace Go.Proofs.GR.T
open Go Go.Proofs Go.Proofs.GR
abbrev V2 := ByteArray × ByteArray
abbrev tE : Ty := .pair .str .str
def Sp.f123_pre (x0 : ByteArray) (x1 : ByteArray) (x2 : Int) : Bool := true
def Sp.f123 (x0 : ByteArray) (x1 : ByteArray) (x2 : Int) := (bif decide (IntKind.i64.wrap (x2 - (↑x0.size : Int)) < (0 : Int)) then ((-1 : Int), ()) else (bif decide (IntKind.i64.wrap (IntKind.i64.wrap (x2 - (↑x0.size : Int)) - (↑x1.size : Int)) < (0 : Int)) then ((-1 : Int), ()) else (IntKind.i64.wrap (IntKind.i64.wrap (x2 - (↑x0.size : Int)) - (↑x1.size : Int)), ())))
noncomputable def e123 : Ent := { f := 123, ins := [Sh.agg [C0.dat Ty.str, C0.dat Ty.str], Sh.one (C0.dat (Ty.int IntKind.i64))], outs := [Sh.one (C0.dat (Ty.int IntKind.i64))], upd := [], pre := fun a => true, spec := fun a => (Sp.f123 a.1.1 a.1.2 a.2).1, wrt := fun a => (Sp.f123 a.1.1 a.1.2 a.2).2 }
def f123_g (v : denS [Sh.one (C0.dat (Ty.int IntKind.i64))] × denS []) : Res := ⟨mkS [Sh.one (C0.dat (Ty.int IntKind.i64))] v.1, mkU [] v.2⟩
theorem f123_raw (x0 : ByteArray) (x1 : ByteArray) (x2 : Int) : abody Γ (orc []) 0 123 [XV.mk true [X.c (X0.dat Ty.str x0), X.c (X0.dat Ty.str x1)], XV.mk false [X.c (X0.dat (Ty.int IntKind.i64) x2)]] = bif decide (IntKind.i64.wrap (x2 - (↑x0.size : Int)) < (0 : Int)) then some (Res.mk [XV.mk false [X.c (X0.dat (Ty.int IntKind.i64) (-1 : Int))]] []) else bif decide (IntKind.i64.wrap (IntKind.i64.wrap (x2 - (↑x0.size : Int)) - (↑x1.size : Int)) < (0 : Int)) then some (Res.mk [XV.mk false [X.c (X0.dat (Ty.int IntKind.i64) (-1 : Int))]] []) else some (Res.mk [XV.mk false [X.c (X0.dat (Ty.int IntKind.i64) (IntKind.i64.wrap (IntKind.i64.wrap (x2 - (↑x0.size : Int)) - (↑x1.size : Int))))]] []) := by kernel_rfl
theorem f123_form (x0 : ByteArray) (x1 : ByteArray) (x2 : Int) : (bif decide (IntKind.i64.wrap (x2 - (↑x0.size : Int)) < (0 : Int)) then some (Res.mk [XV.mk false [X.c (X0.dat (Ty.int IntKind.i64) (-1 : Int))]] []) else bif decide (IntKind.i64.wrap (IntKind.i64.wrap (x2 - (↑x0.size : Int)) - (↑x1.size : Int)) < (0 : Int)) then some (Res.mk [XV.mk false [X.c (X0.dat (Ty.int IntKind.i64) (-1 : Int))]] []) else some (Res.mk [XV.mk false [X.c (X0.dat (Ty.int IntKind.i64) (IntKind.i64.wrap (IntKind.i64.wrap (x2 - (↑x0.size : Int)) - (↑x1.size : Int))))]] [])) = some (f123_g (Sp.f123 x0 x1 x2)) := by
  unfold Sp.f123
  exact (cond_plain f123_g (rfl) ((cond_plain f123_g (rfl) (rfl))))
theorem e123_ok : Valid Try.prog Γ e123 := valid_auto ok vnil fun a => (f123_raw a.1.1 a.1.2 a.2).trans (f123_form a.1.1 a.1.2 a.2)

def Sp.f87_pre (x0 : Int) (x1 : Int) (x2 : ByteArray) (x3 : Int) : Bool := true
def Sp.f87 (x0 : Int) (x1 : Int) (x2 : ByteArray) (x3 : Int) := (bif decide (IntKind.i64.wrap (x3 - (↑x2.size : Int)) < (0 : Int)) then ((-1 : Int), ()) else (IntKind.i64.wrap (x3 - (↑x2.size : Int)), ()))
noncomputable def e87 : Ent := { f := 87, ins := [Sh.agg [C0.dat (Ty.int IntKind.i64), C0.dat (Ty.int IntKind.i64), C0.dat Ty.str], Sh.one (C0.dat (Ty.int IntKind.i64))], outs := [Sh.one (C0.dat (Ty.int IntKind.i64))], upd := [], pre := fun a => true, spec := fun a => (Sp.f87 a.1.1 a.1.2.1 a.1.2.2 a.2).1, wrt := fun a => (Sp.f87 a.1.1 a.1.2.1 a.1.2.2 a.2).2 }
def f87_g (v : denS [Sh.one (C0.dat (Ty.int IntKind.i64))] × denS []) : Res := ⟨mkS [Sh.one (C0.dat (Ty.int IntKind.i64))] v.1, mkU [] v.2⟩
theorem f87_raw (x0 : Int) (x1 : Int) (x2 : ByteArray) (x3 : Int) : abody Γ (orc []) 0 87 [XV.mk true [X.c (X0.dat (Ty.int IntKind.i64) x0), X.c (X0.dat (Ty.int IntKind.i64) x1), X.c (X0.dat Ty.str x2)], XV.mk false [X.c (X0.dat (Ty.int IntKind.i64) x3)]] = bif decide (IntKind.i64.wrap (x3 - (↑x2.size : Int)) < (0 : Int)) then some (Res.mk [XV.mk false [X.c (X0.dat (Ty.int IntKind.i64) (-1 : Int))]] []) else some (Res.mk [XV.mk false [X.c (X0.dat (Ty.int IntKind.i64) (IntKind.i64.wrap (x3 - (↑x2.size : Int))))]] []) := by kernel_rfl
theorem f87_form (x0 : Int) (x1 : Int) (x2 : ByteArray) (x3 : Int) : (bif decide (IntKind.i64.wrap (x3 - (↑x2.size : Int)) < (0 : Int)) then some (Res.mk [XV.mk false [X.c (X0.dat (Ty.int IntKind.i64) (-1 : Int))]] []) else some (Res.mk [XV.mk false [X.c (X0.dat (Ty.int IntKind.i64) (IntKind.i64.wrap (x3 - (↑x2.size : Int))))]] [])) = some (f87_g (Sp.f87 x0 x1 x2 x3)) := by
  unfold Sp.f87
  exact (cond_plain f87_g (rfl) (rfl))
theorem e87_ok : Valid Try.prog Γ e87 := valid_auto ok vnil fun a => (f87_raw a.1.1 a.1.2.1 a.1.2.2 a.2).trans (f87_form a.1.1 a.1.2.1 a.1.2.2 a.2)

def Sp.f124_pre (x0 : ByteArray) (x1 : ByteArray) : Bool := true
def Sp.f124 (x0 : ByteArray) (x1 : ByteArray) := ((x0, x1), ())
noncomputable def e124 : Ent := { f := 124, ins := [Sh.agg [C0.dat Ty.str, C0.dat Ty.str]], outs := [Sh.agg [C0.dat Ty.str, C0.dat Ty.str]], upd := [], pre := fun a => true, spec := fun a => (Sp.f124 a.1 a.2).1, wrt := fun a => (Sp.f124 a.1 a.2).2 }
def f124_g (v : denS [Sh.agg [C0.dat Ty.str, C0.dat Ty.str]] × denS []) : Res := ⟨mkS [Sh.agg [C0.dat Ty.str, C0.dat Ty.str]] v.1, mkU [] v.2⟩
theorem f124_raw (x0 : ByteArray) (x1 : ByteArray) : abody Γ (orc []) 0 124 [XV.mk true [X.c (X0.dat Ty.str x0), X.c (X0.dat Ty.str x1)]] = some (Res.mk [XV.mk true [X.c (X0.dat Ty.str x0), X.c (X0.dat Ty.str x1)]] []) := by kernel_rfl
theorem f124_form (x0 : ByteArray) (x1 : ByteArray) : (some (Res.mk [XV.mk true [X.c (X0.dat Ty.str x0), X.c (X0.dat Ty.str x1)]] [])) = some (f124_g (Sp.f124 x0 x1)) := by
  unfold Sp.f124
  exact rfl
theorem e124_ok : Valid Try.prog Γ e124 := valid_auto ok vnil fun a => (f124_raw a.1 a.2).trans (f124_form a.1 a.2)

def Sp.f89_pre (x0 : Int) (x1 : Int) (x2 : ByteArray) : Bool := true
def Sp.f89 (x0 : Int) (x1 : Int) (x2 : ByteArray) := ((x0, x1, x2), ())
noncomputable def e89 : Ent := { f := 89, ins := [Sh.agg [C0.dat (Ty.int IntKind.i64), C0.dat (Ty.int IntKind.i64), C0.dat Ty.str]], outs := [Sh.agg [C0.dat (Ty.int IntKind.i64), C0.dat (Ty.int IntKind.i64), C0.dat Ty.str]], upd := [], pre := fun a => true, spec := fun a => (Sp.f89 a.1 a.2.1 a.2.2).1, wrt := fun a => (Sp.f89 a.1 a.2.1 a.2.2).2 }
def f89_g (v : denS [Sh.agg [C0.dat (Ty.int IntKind.i64), C0.dat (Ty.int IntKind.i64), C0.dat Ty.str]] × denS []) : Res := ⟨mkS [Sh.agg [C0.dat (Ty.int IntKind.i64), C0.dat (Ty.int IntKind.i64), C0.dat Ty.str]] v.1, mkU [] v.2⟩
theorem f89_raw (x0 : Int) (x1 : Int) (x2 : ByteArray) : abody Γ (orc []) 0 89 [XV.mk true [X.c (X0.dat (Ty.int IntKind.i64) x0), X.c (X0.dat (Ty.int IntKind.i64) x1), X.c (X0.dat Ty.str x2)]] = some (Res.mk [XV.mk true [X.c (X0.dat (Ty.int IntKind.i64) x0), X.c (X0.dat (Ty.int IntKind.i64) x1), X.c (X0.dat Ty.str x2)]] []) := by kernel_rfl
theorem f89_form (x0 : Int) (x1 : Int) (x2 : ByteArray) : (some (Res.mk [XV.mk true [X.c (X0.dat (Ty.int IntKind.i64) x0), X.c (X0.dat (Ty.int IntKind.i64) x1), X.c (X0.dat Ty.str x2)]] [])) = some (f89_g (Sp.f89 x0 x1 x2)) := by
  unfold Sp.f89
  exact rfl
theorem e89_ok : Valid Try.prog Γ e89 := valid_auto ok vnil fun a => (f89_raw a.1 a.2.1 a.2.2).trans (f89_form a.1 a.2.1 a.2.2)

def Sp.f127_pre (x0 : ByteArray) (x1 : ByteArray) (x2 : ByteArray) (x3 : ByteArray) : Bool := true
def Sp.f127 (x0 : ByteArray) (x1 : ByteArray) (x2 : ByteArray) (x3 : ByteArray) := (bif !x0.toList == x2.toList then (false, ()) else (bif !x1.toList == x3.toList then (false, ()) else (true, ())))
noncomputable def e127 : Ent := { f := 127, ins := [Sh.agg [C0.dat Ty.str, C0.dat Ty.str], Sh.agg [C0.dat Ty.str, C0.dat Ty.str]], outs := [Sh.one (C0.dat Ty.bool)], upd := [], pre := fun a => true, spec := fun a => (Sp.f127 a.1.1 a.1.2 a.2.1 a.2.2).1, wrt := fun a => (Sp.f127 a.1.1 a.1.2 a.2.1 a.2.2).2 }
def f127_g (v : denS [Sh.one (C0.dat Ty.bool)] × denS []) : Res := ⟨mkS [Sh.one (C0.dat Ty.bool)] v.1, mkU [] v.2⟩
theorem f127_raw (x0 : ByteArray) (x1 : ByteArray) (x2 : ByteArray) (x3 : ByteArray) : abody Γ (orc []) 0 127 [XV.mk true [X.c (X0.dat Ty.str x0), X.c (X0.dat Ty.str x1)], XV.mk true [X.c (X0.dat Ty.str x2), X.c (X0.dat Ty.str x3)]] = bif !x0.toList == x2.toList then some (Res.mk [XV.mk false [X.c (X0.dat Ty.bool false)]] []) else bif !x1.toList == x3.toList then some (Res.mk [XV.mk false [X.c (X0.dat Ty.bool false)]] []) else some (Res.mk [XV.mk false [X.c (X0.dat Ty.bool true)]] []) := by kernel_rfl
theorem f127_form (x0 : ByteArray) (x1 : ByteArray) (x2 : ByteArray) (x3 : ByteArray) : (bif !x0.toList == x2.toList then some (Res.mk [XV.mk false [X.c (X0.dat Ty.bool false)]] []) else bif !x1.toList == x3.toList then some (Res.mk [XV.mk false [X.c (X0.dat Ty.bool false)]] []) else some (Res.mk [XV.mk false [X.c (X0.dat Ty.bool true)]] [])) = some (f127_g (Sp.f127 x0 x1 x2 x3)) := by
  unfold Sp.f127
  exact (cond_plain f127_g (rfl) ((cond_plain f127_g (rfl) (rfl))))
theorem e127_ok : Valid Try.prog Γ e127 := valid_auto ok vnil fun a => (f127_raw a.1.1 a.1.2 a.2.1 a.2.2).trans (f127_form a.1.1 a.1.2 a.2.1 a.2.2)

def Sp.szEn (x : V2) (l : Int) : Int := (Sp.f123 x.1 x.2 l).1
def Sp.szV (x : V3) (l : Int) : Int := (Sp.f87 x.1 x.2.1 x.2.2 l).1
def Sp.eqE (x y : V2) : Bool := (Sp.f127 x.1 x.2 y.1 y.2).1
noncomputable def f78_L0 (n m0 : Nat) (y0 : List (ByteArray × ByteArray)) (y1 : Int) (y2 : Int) : Option Res := loopAt Γ (orc [e123]) n (78 : Nat) (0 : Nat) [] [Pth.r, Pth.r, Pth.r, Pth.l, Pth.r, Pth.b] m0 (St.mk [Slot.val (Val.one (Cell.dat (Ty.str.pair Ty.str).slice y0)), Slot.val (Val.one (Cell.dat (Ty.int IntKind.i64) y1)), Slot.nix, Slot.nix, Slot.nix, Slot.val (Val.one (Cell.dat (Ty.int IntKind.i64) y2)), Slot.nix, Slot.nix, Slot.nix, Slot.nix, Slot.nix, Slot.nix, Slot.nix, Slot.nix, Slot.nix, Slot.nix, Slot.nix, Slot.nix, Slot.nix, Slot.nix, Slot.nix, Slot.nix, Slot.nix, Slot.nix, Slot.nix, Slot.nix, Slot.nix] [])
theorem f78_L0_step (n m0 : Nat) (y0 : List (ByteArray × ByteArray)) (y1 : Int) (y2 : Int) : f78_L0 n (m0 + 1) y0 y1 y2 = bif decide (y2 < (↑y0.length : Int)) then chk (decide ((0 : Int) ≤ y2) && decide (y2 < (↑y0.length : Int))) (bif decide ((Sp.f123 (y0.getD y2.toNat (ByteArray.mk #[], ByteArray.mk #[])).1 (y0.getD y2.toNat (ByteArray.mk #[], ByteArray.mk #[])).2 y1).1 < (0 : Int)) then some (Res.mk [XV.mk false [X.c (X0.dat (Ty.int IntKind.i64) (-1 : Int))]] []) else f78_L0 n m0 y0 (Sp.f123 (y0.getD y2.toNat (ByteArray.mk #[], ByteArray.mk #[])).1 (y0.getD y2.toNat (ByteArray.mk #[], ByteArray.mk #[])).2 y1).1 (IntKind.i64.wrap (y2 + (1 : Int)))) else some (Res.mk [XV.mk false [X.c (X0.dat (Ty.int IntKind.i64) y1)]] []) := by kernel_rfl
theorem f78_raw (n : Nat) (x0 : List (ByteArray × ByteArray)) (x1 : Int) : abody Γ (orc [e123]) n 78 [XV.mk false [X.c (X0.dat (Ty.str.pair Ty.str).slice x0)], XV.mk false [X.c (X0.dat (Ty.int IntKind.i64) x1)]] = bif decide (IntKind.i64.wrap (x1 - (↑x0.length : Int)) < (0 : Int)) then some (Res.mk [XV.mk false [X.c (X0.dat (Ty.int IntKind.i64) (-1 : Int))]] []) else f78_L0 n n x0 (IntKind.i64.wrap (x1 - (↑x0.length : Int))) (0 : Int) := by kernel_rfl

noncomputable def f48_L0 (n m0 : Nat) (y0 : List (Int × Int × ByteArray)) (y1 : Int) (y2 : Int) : Option Res := loopAt Γ (orc [e87]) n (48 : Nat) (0 : Nat) [] [Pth.r, Pth.r, Pth.r, Pth.l, Pth.r, Pth.b] m0 (St.mk [Slot.val (Val.one (Cell.dat ((Ty.int IntKind.i64).pair ((Ty.int IntKind.i64).pair Ty.str)).slice y0)), Slot.val (Val.one (Cell.dat (Ty.int IntKind.i64) y1)), Slot.nix, Slot.nix, Slot.nix, Slot.val (Val.one (Cell.dat (Ty.int IntKind.i64) y2)), Slot.nix, Slot.nix, Slot.nix, Slot.nix, Slot.nix, Slot.nix, Slot.nix, Slot.nix, Slot.nix, Slot.nix, Slot.nix, Slot.nix, Slot.nix, Slot.nix, Slot.nix, Slot.nix, Slot.nix, Slot.nix, Slot.nix, Slot.nix, Slot.nix] [])
theorem f48_L0_step (n m0 : Nat) (y0 : List (Int × Int × ByteArray)) (y1 : Int) (y2 : Int) : f48_L0 n (m0 + 1) y0 y1 y2 = bif decide (y2 < (↑y0.length : Int)) then chk (decide ((0 : Int) ≤ y2) && decide (y2 < (↑y0.length : Int))) (bif decide ((Sp.f87 (y0.getD y2.toNat ((0 : Int), (0 : Int), ByteArray.mk #[])).1 (y0.getD y2.toNat ((0 : Int), (0 : Int), ByteArray.mk #[])).2.1 (y0.getD y2.toNat ((0 : Int), (0 : Int), ByteArray.mk #[])).2.2 y1).1 < (0 : Int)) then some (Res.mk [XV.mk false [X.c (X0.dat (Ty.int IntKind.i64) (-1 : Int))]] []) else f48_L0 n m0 y0 (Sp.f87 (y0.getD y2.toNat ((0 : Int), (0 : Int), ByteArray.mk #[])).1 (y0.getD y2.toNat ((0 : Int), (0 : Int), ByteArray.mk #[])).2.1 (y0.getD y2.toNat ((0 : Int), (0 : Int), ByteArray.mk #[])).2.2 y1).1 (IntKind.i64.wrap (y2 + (1 : Int)))) else some (Res.mk [XV.mk false [X.c (X0.dat (Ty.int IntKind.i64) y1)]] []) := by kernel_rfl
theorem f48_raw (n : Nat) (x0 : List (Int × Int × ByteArray)) (x1 : Int) : abody Γ (orc [e87]) n 48 [XV.mk false [X.c (X0.dat ((Ty.int IntKind.i64).pair ((Ty.int IntKind.i64).pair Ty.str)).slice x0)], XV.mk false [X.c (X0.dat (Ty.int IntKind.i64) x1)]] = bif decide (IntKind.i64.wrap (x1 - (↑x0.length : Int)) < (0 : Int)) then some (Res.mk [XV.mk false [X.c (X0.dat (Ty.int IntKind.i64) (-1 : Int))]] []) else f48_L0 n n x0 (IntKind.i64.wrap (x1 - (↑x0.length : Int))) (0 : Int) := by kernel_rfl

noncomputable def e78 : Ent := { f := 78, ins := [Sh.one (C0.dat (.slice tE)), Sh.one cI], outs := [Sh.one cI], upd := [], pre := fun a => true, spec := fun a => Sp.szE Sp.szEn a.1 a.2, wrt := fun _ => () }
theorem e78_core (xs : List V2) (v : Int) (hl : xs.length ≤ maxLen) : ∃ n, abody Γ (orc [e123]) n 78 [XV.mk false [X.c (X0.dat (Ty.slice tE) xs)], XV.mk false [X.c (X0.dat (Ty.int IntKind.i64) v)]] = some (rI (Sp.szE Sp.szEn xs v)) := by
  have hl : xs.length ≤ 9223372036854775807 := hl
  refine ⟨xs.length + 1, (f78_raw _ xs v).trans ?_⟩
  unfold Sp.szE
  cases decide (IntKind.i64.wrap (v - (xs.length : Int)) < 0) with
  | true => rfl
  | false =>
    rw [cond_false, cond_false]
    refine sz_loop (f := Sp.szEn) (R := rI) xs (fun m v k => f78_L0 (xs.length + 1) m xs v k) (fun m v k hk => ?_) (fun m v k h => ?_) xs.length 0 _ _ (Nat.zero_add _) (Nat.lt_succ_self _)
    · show f78_L0 _ _ _ _ _ = _
      rw [f78_L0_step, nat_ge hk, cond_false]
    · show f78_L0 _ _ _ _ _ = _
      rw [f78_L0_step, nat_lt h, cond_true, guard0, chkT, getD_nat xs k _ h, next64 h hl]
      rfl
theorem e78_ok : Valid Try.prog Γ e78 := valid_len ok (vcons e123_ok vnil) fun a _ hl => e78_core a.1 a.2 (hl _ (List.mem_cons_self) _ (List.mem_cons_self)).1
noncomputable def e48 : Ent := { f := 48, ins := [Sh.one (C0.dat (.slice tV)), Sh.one cI], outs := [Sh.one cI], upd := [], pre := fun a => true, spec := fun a => Sp.szE Sp.szV a.1 a.2, wrt := fun _ => () }
theorem e48_core (xs : List V3) (v : Int) (hl : xs.length ≤ maxLen) : ∃ n, abody Γ (orc [e87]) n 48 [XV.mk false [X.c (X0.dat (Ty.slice tV) xs)], XV.mk false [X.c (X0.dat (Ty.int IntKind.i64) v)]] = some (rI (Sp.szE Sp.szV xs v)) := by
  have hl : xs.length ≤ 9223372036854775807 := hl
  refine ⟨xs.length + 1, (f48_raw _ xs v).trans ?_⟩
  unfold Sp.szE
  cases decide (IntKind.i64.wrap (v - (xs.length : Int)) < 0) with
  | true => rfl
  | false =>
    rw [cond_false, cond_false]
    refine sz_loop (f := Sp.szV) (R := rI) xs (fun m v k => f48_L0 (xs.length + 1) m xs v k) (fun m v k hk => ?_) (fun m v k h => ?_) xs.length 0 _ _ (Nat.zero_add _) (Nat.lt_succ_self _)
    · show f48_L0 _ _ _ _ _ = _
      rw [f48_L0_step, nat_ge hk, cond_false]
    · show f48_L0 _ _ _ _ _ = _
      rw [f48_L0_step, nat_lt h, cond_true, guard0, chkT, getD_nat xs k _ h, next64 h hl]
      rfl
theorem e48_ok : Valid Try.prog Γ e48 := valid_len ok (vcons e87_ok vnil) fun a _ hl => e48_core a.1 a.2 (hl _ (List.mem_cons_self) _ (List.mem_cons_self)).1
noncomputable def f81_L0 (n m0 : Nat) (y0 : List (ByteArray × ByteArray)) (y1 : Int) (y2 : List (ByteArray × ByteArray)) : Option Res := loopAt Γ (orc [e124]) n (81 : Nat) (0 : Nat) [] [Pth.r, Pth.r, Pth.l, Pth.r, Pth.b] m0 (St.mk [Slot.val (Val.one (Cell.dat (Ty.str.pair Ty.str).slice y0)), Slot.nix, Slot.nix, Slot.val (Val.one (Cell.own (0 : Nat))), Slot.val (Val.one (Cell.dat (Ty.int IntKind.i64) y1)), Slot.nix, Slot.nix, Slot.nix, Slot.nix, Slot.nix, Slot.nix, Slot.nix, Slot.nix, Slot.nix, Slot.nix, Slot.nix, Slot.nix, Slot.nix, Slot.nix, Slot.nix, Slot.nix, Slot.nix, Slot.nix] [AObj.row (Ty.str.pair Ty.str) y2 true])
theorem f81_L0_step (n m0 : Nat) (y0 : List (ByteArray × ByteArray)) (y1 : Int) (y2 : List (ByteArray × ByteArray)) : f81_L0 n (m0 + 1) y0 y1 y2 = bif decide (y1 < (↑y0.length : Int)) then chk (decide ((0 : Int) ≤ y1) && decide (y1 < (↑y0.length : Int))) (chk (decide ((0 : Int) ≤ y1) && decide (y1 < (↑y2.length : Int))) (f81_L0 n m0 y0 (IntKind.i64.wrap (y1 + (1 : Int))) (y2.set y1.toNat ((Sp.f124 (y0.getD y1.toNat (ByteArray.mk #[], ByteArray.mk #[])).1 (y0.getD y1.toNat (ByteArray.mk #[], ByteArray.mk #[])).2).1.1, (Sp.f124 (y0.getD y1.toNat (ByteArray.mk #[], ByteArray.mk #[])).1 (y0.getD y1.toNat (ByteArray.mk #[], ByteArray.mk #[])).2).1.2)))) else some (Res.mk [XV.mk false [X.c (X0.row (Ty.str.pair Ty.str) y2 true)]] []) := by kernel_rfl
theorem f81_raw (n : Nat) (x0 : List (ByteArray × ByteArray)) : abody Γ (orc [e124]) n 81 [XV.mk false [X.c (X0.dat (Ty.str.pair Ty.str).slice x0)]] = chk (decide ((0 : Int) ≤ (↑x0.length : Int)) && decide ((↑x0.length : Int) ≤ (↑x0.length : Int)) && decide ((↑x0.length : Int) ≤ (140737488355328 : Int)) && decide ((32 : Int) * (↑x0.length : Int) ≤ (140737488355328 : Int))) (f81_L0 n n x0 (0 : Int) (List.replicate (↑x0.length : Int).toNat (ByteArray.empty, ByteArray.empty))) := by kernel_rfl

noncomputable def f51_L0 (n m0 : Nat) (y0 : List (Int × Int × ByteArray)) (y1 : Int) (y2 : List (Int × Int × ByteArray)) : Option Res := loopAt Γ (orc [e89]) n (51 : Nat) (0 : Nat) [] [Pth.r, Pth.r, Pth.l, Pth.r, Pth.b] m0 (St.mk [Slot.val (Val.one (Cell.dat ((Ty.int IntKind.i64).pair ((Ty.int IntKind.i64).pair Ty.str)).slice y0)), Slot.nix, Slot.nix, Slot.val (Val.one (Cell.own (0 : Nat))), Slot.val (Val.one (Cell.dat (Ty.int IntKind.i64) y1)), Slot.nix, Slot.nix, Slot.nix, Slot.nix, Slot.nix, Slot.nix, Slot.nix, Slot.nix, Slot.nix, Slot.nix, Slot.nix, Slot.nix, Slot.nix, Slot.nix, Slot.nix, Slot.nix, Slot.nix, Slot.nix] [AObj.row ((Ty.int IntKind.i64).pair ((Ty.int IntKind.i64).pair Ty.str)) y2 true])
theorem f51_L0_step (n m0 : Nat) (y0 : List (Int × Int × ByteArray)) (y1 : Int) (y2 : List (Int × Int × ByteArray)) : f51_L0 n (m0 + 1) y0 y1 y2 = bif decide (y1 < (↑y0.length : Int)) then chk (decide ((0 : Int) ≤ y1) && decide (y1 < (↑y0.length : Int))) (chk (decide ((0 : Int) ≤ y1) && decide (y1 < (↑y2.length : Int))) (f51_L0 n m0 y0 (IntKind.i64.wrap (y1 + (1 : Int))) (y2.set y1.toNat ((Sp.f89 (y0.getD y1.toNat ((0 : Int), (0 : Int), ByteArray.mk #[])).1 (y0.getD y1.toNat ((0 : Int), (0 : Int), ByteArray.mk #[])).2.1 (y0.getD y1.toNat ((0 : Int), (0 : Int), ByteArray.mk #[])).2.2).1.1, (Sp.f89 (y0.getD y1.toNat ((0 : Int), (0 : Int), ByteArray.mk #[])).1 (y0.getD y1.toNat ((0 : Int), (0 : Int), ByteArray.mk #[])).2.1 (y0.getD y1.toNat ((0 : Int), (0 : Int), ByteArray.mk #[])).2.2).1.2.1, (Sp.f89 (y0.getD y1.toNat ((0 : Int), (0 : Int), ByteArray.mk #[])).1 (y0.getD y1.toNat ((0 : Int), (0 : Int), ByteArray.mk #[])).2.1 (y0.getD y1.toNat ((0 : Int), (0 : Int), ByteArray.mk #[])).2.2).1.2.2)))) else some (Res.mk [XV.mk false [X.c (X0.row ((Ty.int IntKind.i64).pair ((Ty.int IntKind.i64).pair Ty.str)) y2 true)]] []) := by kernel_rfl
theorem f51_raw (n : Nat) (x0 : List (Int × Int × ByteArray)) : abody Γ (orc [e89]) n 51 [XV.mk false [X.c (X0.dat ((Ty.int IntKind.i64).pair ((Ty.int IntKind.i64).pair Ty.str)).slice x0)]] = chk (decide ((0 : Int) ≤ (↑x0.length : Int)) && decide ((↑x0.length : Int) ≤ (↑x0.length : Int)) && decide ((↑x0.length : Int) ≤ (140737488355328 : Int)) && decide ((32 : Int) * (↑x0.length : Int) ≤ (140737488355328 : Int))) (f51_L0 n n x0 (0 : Int) (List.replicate (↑x0.length : Int).toNat ((0 : Int), (0 : Int), ByteArray.empty))) := by kernel_rfl

noncomputable def e81 : Ent := { f := 81, ins := [Sh.one (C0.dat (.slice tE))], outs := [Sh.one (C0.row tE)], upd := [], pre := fun a => Sp.fits32 (α := V2) a, spec := fun a => a, wrt := fun _ => () }
theorem e81_core (xs : List V2) (ha : Sp.fits32 xs = true) : ∃ n, abody Γ (orc [e124]) n 81 [XV.mk false [X.c (X0.dat (Ty.slice tE) xs)]] = some (Res.mk [XV.mk false [X.c (X0.row tE xs true)]] []) := by
  have h1 := fits32_of ha
  refine ⟨xs.length + 1, (f81_raw _ xs).trans ?_⟩
  rw [make32 h1, chkT]
  refine to_end (R := fun l : List V2 => Res.mk [XV.mk false [X.c (X0.row tE l true)]] []) xs (fun m k acc => f81_L0 (xs.length + 1) m xs k acc) (fun m k acc hk => ?_) (fun m k acc h ha => ?_) _
  · show f81_L0 _ _ _ _ _ = _
    rw [f81_L0_step, nat_ge hk, cond_false]
  · show f81_L0 _ _ _ _ _ = _
    rw [f81_L0_step, ha, nat_lt h, cond_true, guard0, chkT, chkT, getD_nat xs k _ h, next64 h (by omega), Int.toNat_natCast]
    rfl
theorem e81_ok : Valid Try.prog Γ e81 := valid_of ok (vcons e124_ok vnil) fun a ha => e81_core a ha
noncomputable def e51 : Ent := { f := 51, ins := [Sh.one (C0.dat (.slice tV))], outs := [Sh.one (C0.row tV)], upd := [], pre := fun a => Sp.fits32 (α := V3) a, spec := fun a => a, wrt := fun _ => () }
theorem e51_core (xs : List V3) (ha : Sp.fits32 xs = true) : ∃ n, abody Γ (orc [e89]) n 51 [XV.mk false [X.c (X0.dat (Ty.slice tV) xs)]] = some (Res.mk [XV.mk false [X.c (X0.row tV xs true)]] []) := by
  have h1 := fits32_of ha
  refine ⟨xs.length + 1, (f51_raw _ xs).trans ?_⟩
  rw [make32 h1, chkT]
  refine to_end (R := fun l : List V3 => Res.mk [XV.mk false [X.c (X0.row tV l true)]] []) xs (fun m k acc => f51_L0 (xs.length + 1) m xs k acc) (fun m k acc hk => ?_) (fun m k acc h ha => ?_) _
  · show f51_L0 _ _ _ _ _ = _
    rw [f51_L0_step, nat_ge hk, cond_false]
  · show f51_L0 _ _ _ _ _ = _
    rw [f51_L0_step, ha, nat_lt h, cond_true, guard0, chkT, chkT, getD_nat xs k _ h, next64 h (by omega), Int.toNat_natCast]
    rfl
theorem e51_ok : Valid Try.prog Γ e51 := valid_of ok (vcons e89_ok vnil) fun a ha => e51_core a ha
noncomputable def f83_L0 (n m0 : Nat) (y0 : List (ByteArray × ByteArray)) (y1 : List (ByteArray × ByteArray)) (y2 : Int) : Option Res := loopAt Γ (orc [e127]) n (83 : Nat) (0 : Nat) [] [Pth.r, Pth.r, Pth.l, Pth.r, Pth.b] m0 (St.mk [Slot.val (Val.one (Cell.dat (Ty.str.pair Ty.str).slice y0)), Slot.val (Val.one (Cell.dat (Ty.str.pair Ty.str).slice y1)), Slot.nix, Slot.nix, Slot.nix, Slot.val (Val.one (Cell.dat (Ty.int IntKind.i64) y2)), Slot.nix, Slot.nix, Slot.nix, Slot.nix, Slot.nix, Slot.nix, Slot.nix, Slot.nix, Slot.nix, Slot.nix, Slot.nix, Slot.nix, Slot.nix, Slot.nix, Slot.nix, Slot.nix, Slot.nix, Slot.nix, Slot.nix, Slot.nix, Slot.nix] [])
theorem f83_L0_step (n m0 : Nat) (y0 : List (ByteArray × ByteArray)) (y1 : List (ByteArray × ByteArray)) (y2 : Int) : f83_L0 n (m0 + 1) y0 y1 y2 = bif decide (y2 < (↑y0.length : Int)) then chk (decide ((0 : Int) ≤ y2) && decide (y2 < (↑y0.length : Int))) (chk (decide ((0 : Int) ≤ y2) && decide (y2 < (↑y1.length : Int))) (bif !(Sp.f127 (y0.getD y2.toNat (ByteArray.mk #[], ByteArray.mk #[])).1 (y0.getD y2.toNat (ByteArray.mk #[], ByteArray.mk #[])).2 (y1.getD y2.toNat (ByteArray.mk #[], ByteArray.mk #[])).1 (y1.getD y2.toNat (ByteArray.mk #[], ByteArray.mk #[])).2).1 then some (Res.mk [XV.mk false [X.c (X0.dat Ty.bool false)]] []) else f83_L0 n m0 y0 y1 (IntKind.i64.wrap (y2 + (1 : Int))))) else some (Res.mk [XV.mk false [X.c (X0.dat Ty.bool true)]] []) := by kernel_rfl
theorem f83_raw (n : Nat) (x0 : List (ByteArray × ByteArray)) (x1 : List (ByteArray × ByteArray)) : abody Γ (orc [e127]) n 83 [XV.mk false [X.c (X0.dat (Ty.str.pair Ty.str).slice x0)], XV.mk false [X.c (X0.dat (Ty.str.pair Ty.str).slice x1)]] = bif (↑x0.length : Int) != (↑x1.length : Int) then some (Res.mk [XV.mk false [X.c (X0.dat Ty.bool false)]] []) else f83_L0 n n x0 x1 (0 : Int) := by kernel_rfl

noncomputable def e83 : Ent := { f := 83, ins := [Sh.one (C0.dat (.slice tE)), Sh.one (C0.dat (.slice tE))], outs := [Sh.one cB], upd := [], pre := fun a => true, spec := fun a => Sp.eqW Sp.eqE a.1 a.2, wrt := fun _ => () }
theorem e83_core (xs ys : List V2) (h1 : xs.length ≤ maxLen) : ∃ n, abody Γ (orc [e127]) n 83 [XV.mk false [X.c (X0.dat (Ty.slice tE) xs)], XV.mk false [X.c (X0.dat (Ty.slice tE) ys)]] = some (rBo (Sp.eqW Sp.eqE xs ys)) := by
  have h1 : xs.length ≤ 9223372036854775807 := h1
  refine ⟨xs.length + 1, (f83_raw _ xs ys).trans ?_⟩
  by_cases he : xs.length = ys.length
  · rw [show ((xs.length : Int) != (ys.length : Int)) = false by simp [he], cond_false]
    refine eq_loop xs ys (fun m k => f83_L0 _ m xs ys k) he (fun m k hk => ?_) (fun m k h h2 => ?_) xs.length 0 _ (Nat.zero_add _) (Nat.lt_succ_self _)
    · show f83_L0 _ _ _ _ _ = _
      rw [f83_L0_step, nat_ge hk, cond_false]
    · show f83_L0 _ _ _ _ _ = _
      rw [f83_L0_step, nat_lt h, cond_true, guard0, chkT, guard2 h2, chkT, getD_nat xs k _ h, getD_nat ys k _ h2, next64 h2 (by omega)]
      rfl
  · rw [show ((xs.length : Int) != (ys.length : Int)) = true by simp; omega, eqW_len he]
    rfl
theorem e83_ok : Valid Try.prog Γ e83 := valid_len ok (vcons e127_ok vnil) fun a _ hl => e83_core a.1 a.2 (hl _ (List.mem_cons_self) _ (List.mem_cons_self)).1
def Sp.f34_pre (x0 : ByteArray) (x1 : Int) (x2 : List (ByteArray × ByteArray)) (x3 : Int) : Bool := true
def Sp.f34 (x0 : ByteArray) (x1 : Int) (x2 : List (ByteArray × ByteArray)) (x3 : Int) := (bif decide (IntKind.i64.wrap (x3 - (↑x0.size : Int)) < (0 : Int)) then ((-1 : Int), ()) else (bif decide (Sp.szE Sp.szEn x2 (IntKind.i64.wrap (x3 - (↑x0.size : Int))) < (0 : Int)) then ((-1 : Int), ()) else (Sp.szE Sp.szEn x2 (IntKind.i64.wrap (x3 - (↑x0.size : Int))), ())))
noncomputable def e34 : Ent := { f := 34, ins := [Sh.agg [C0.dat Ty.str, C0.dat (Ty.int IntKind.i64), C0.dat (Ty.str.pair Ty.str).slice], Sh.one (C0.dat (Ty.int IntKind.i64))], outs := [Sh.one (C0.dat (Ty.int IntKind.i64))], upd := [], pre := fun a => true, spec := fun a => (Sp.f34 a.1.1 a.1.2.1 a.1.2.2 a.2).1, wrt := fun a => (Sp.f34 a.1.1 a.1.2.1 a.1.2.2 a.2).2 }
def f34_g (v : denS [Sh.one (C0.dat (Ty.int IntKind.i64))] × denS []) : Res := ⟨mkS [Sh.one (C0.dat (Ty.int IntKind.i64))] v.1, mkU [] v.2⟩
theorem f34_raw (x0 : ByteArray) (x1 : Int) (x2 : List (ByteArray × ByteArray)) (x3 : Int) : abody Γ (orc [e78]) 0 34 [XV.mk true [X.c (X0.dat Ty.str x0), X.c (X0.dat (Ty.int IntKind.i64) x1), X.c (X0.dat (Ty.str.pair Ty.str).slice x2)], XV.mk false [X.c (X0.dat (Ty.int IntKind.i64) x3)]] = bif decide (IntKind.i64.wrap (x3 - (↑x0.size : Int)) < (0 : Int)) then some (Res.mk [XV.mk false [X.c (X0.dat (Ty.int IntKind.i64) (-1 : Int))]] []) else bif decide (Sp.szE Sp.szEn x2 (IntKind.i64.wrap (x3 - (↑x0.size : Int))) < (0 : Int)) then some (Res.mk [XV.mk false [X.c (X0.dat (Ty.int IntKind.i64) (-1 : Int))]] []) else some (Res.mk [XV.mk false [X.c (X0.dat (Ty.int IntKind.i64) (Sp.szE Sp.szEn x2 (IntKind.i64.wrap (x3 - (↑x0.size : Int)))))]] []) := by kernel_rfl
theorem f34_form (x0 : ByteArray) (x1 : Int) (x2 : List (ByteArray × ByteArray)) (x3 : Int) : (bif decide (IntKind.i64.wrap (x3 - (↑x0.size : Int)) < (0 : Int)) then some (Res.mk [XV.mk false [X.c (X0.dat (Ty.int IntKind.i64) (-1 : Int))]] []) else bif decide (Sp.szE Sp.szEn x2 (IntKind.i64.wrap (x3 - (↑x0.size : Int))) < (0 : Int)) then some (Res.mk [XV.mk false [X.c (X0.dat (Ty.int IntKind.i64) (-1 : Int))]] []) else some (Res.mk [XV.mk false [X.c (X0.dat (Ty.int IntKind.i64) (Sp.szE Sp.szEn x2 (IntKind.i64.wrap (x3 - (↑x0.size : Int)))))]] [])) = some (f34_g (Sp.f34 x0 x1 x2 x3)) := by
  unfold Sp.f34
  exact (cond_plain f34_g (rfl) ((cond_plain f34_g (rfl) (rfl))))
theorem e34_ok : Valid Try.prog Γ e34 := valid_auto ok (vcons e78_ok vnil) fun a => (f34_raw a.1.1 a.1.2.1 a.1.2.2 a.2).trans (f34_form a.1.1 a.1.2.1 a.1.2.2 a.2)

def Sp.f35_pre (x0 : Int) (x1 : ByteArray) (x2 : List (Int × Int × ByteArray)) (x3 : List (Int × Int × ByteArray)) (x4 : Int) : Bool := true
def Sp.f35 (x0 : Int) (x1 : ByteArray) (x2 : List (Int × Int × ByteArray)) (x3 : List (Int × Int × ByteArray)) (x4 : Int) := (bif decide (IntKind.i64.wrap (x4 - (↑x1.size : Int)) < (0 : Int)) then ((-1 : Int), ()) else (bif decide (Sp.szE Sp.szV x2 (IntKind.i64.wrap (x4 - (↑x1.size : Int))) < (0 : Int)) then ((-1 : Int), ()) else (bif decide (Sp.szE Sp.szV x3 (Sp.szE Sp.szV x2 (IntKind.i64.wrap (x4 - (↑x1.size : Int)))) < (0 : Int)) then ((-1 : Int), ()) else (Sp.szE Sp.szV x3 (Sp.szE Sp.szV x2 (IntKind.i64.wrap (x4 - (↑x1.size : Int)))), ()))))
noncomputable def e35 : Ent := { f := 35, ins := [Sh.agg [C0.dat (Ty.int IntKind.i64), C0.dat Ty.str, C0.dat ((Ty.int IntKind.i64).pair ((Ty.int IntKind.i64).pair Ty.str)).slice, C0.dat ((Ty.int IntKind.i64).pair ((Ty.int IntKind.i64).pair Ty.str)).slice], Sh.one (C0.dat (Ty.int IntKind.i64))], outs := [Sh.one (C0.dat (Ty.int IntKind.i64))], upd := [], pre := fun a => true, spec := fun a => (Sp.f35 a.1.1 a.1.2.1 a.1.2.2.1 a.1.2.2.2 a.2).1, wrt := fun a => (Sp.f35 a.1.1 a.1.2.1 a.1.2.2.1 a.1.2.2.2 a.2).2 }
def f35_g (v : denS [Sh.one (C0.dat (Ty.int IntKind.i64))] × denS []) : Res := ⟨mkS [Sh.one (C0.dat (Ty.int IntKind.i64))] v.1, mkU [] v.2⟩
theorem f35_raw (x0 : Int) (x1 : ByteArray) (x2 : List (Int × Int × ByteArray)) (x3 : List (Int × Int × ByteArray)) (x4 : Int) : abody Γ (orc [e48]) 0 35 [XV.mk true [X.c (X0.dat (Ty.int IntKind.i64) x0), X.c (X0.dat Ty.str x1), X.c (X0.dat ((Ty.int IntKind.i64).pair ((Ty.int IntKind.i64).pair Ty.str)).slice x2), X.c (X0.dat ((Ty.int IntKind.i64).pair ((Ty.int IntKind.i64).pair Ty.str)).slice x3)], XV.mk false [X.c (X0.dat (Ty.int IntKind.i64) x4)]] = bif decide (IntKind.i64.wrap (x4 - (↑x1.size : Int)) < (0 : Int)) then some (Res.mk [XV.mk false [X.c (X0.dat (Ty.int IntKind.i64) (-1 : Int))]] []) else bif decide (Sp.szE Sp.szV x2 (IntKind.i64.wrap (x4 - (↑x1.size : Int))) < (0 : Int)) then some (Res.mk [XV.mk false [X.c (X0.dat (Ty.int IntKind.i64) (-1 : Int))]] []) else bif decide (Sp.szE Sp.szV x3 (Sp.szE Sp.szV x2 (IntKind.i64.wrap (x4 - (↑x1.size : Int)))) < (0 : Int)) then some (Res.mk [XV.mk false [X.c (X0.dat (Ty.int IntKind.i64) (-1 : Int))]] []) else some (Res.mk [XV.mk false [X.c (X0.dat (Ty.int IntKind.i64) (Sp.szE Sp.szV x3 (Sp.szE Sp.szV x2 (IntKind.i64.wrap (x4 - (↑x1.size : Int))))))]] []) := by kernel_rfl
theorem f35_form (x0 : Int) (x1 : ByteArray) (x2 : List (Int × Int × ByteArray)) (x3 : List (Int × Int × ByteArray)) (x4 : Int) : (bif decide (IntKind.i64.wrap (x4 - (↑x1.size : Int)) < (0 : Int)) then some (Res.mk [XV.mk false [X.c (X0.dat (Ty.int IntKind.i64) (-1 : Int))]] []) else bif decide (Sp.szE Sp.szV x2 (IntKind.i64.wrap (x4 - (↑x1.size : Int))) < (0 : Int)) then some (Res.mk [XV.mk false [X.c (X0.dat (Ty.int IntKind.i64) (-1 : Int))]] []) else bif decide (Sp.szE Sp.szV x3 (Sp.szE Sp.szV x2 (IntKind.i64.wrap (x4 - (↑x1.size : Int)))) < (0 : Int)) then some (Res.mk [XV.mk false [X.c (X0.dat (Ty.int IntKind.i64) (-1 : Int))]] []) else some (Res.mk [XV.mk false [X.c (X0.dat (Ty.int IntKind.i64) (Sp.szE Sp.szV x3 (Sp.szE Sp.szV x2 (IntKind.i64.wrap (x4 - (↑x1.size : Int))))))]] [])) = some (f35_g (Sp.f35 x0 x1 x2 x3 x4)) := by
  unfold Sp.f35
  exact (cond_plain f35_g (rfl) ((cond_plain f35_g (rfl) ((cond_plain f35_g (rfl) (rfl))))))
theorem e35_ok : Valid Try.prog Γ e35 := valid_auto ok (vcons e48_ok vnil) fun a => (f35_raw a.1.1 a.1.2.1 a.1.2.2.1 a.1.2.2.2 a.2).trans (f35_form a.1.1 a.1.2.1 a.1.2.2.1 a.1.2.2.2 a.2)

def Sp.f37_pre (x0 : ByteArray) (x1 : Int) (x2 : List (ByteArray × ByteArray)) : Bool := Sp.fits32 x2
def Sp.f37 (x0 : ByteArray) (x1 : Int) (x2 : List (ByteArray × ByteArray)) := ((x0, x1, x2), ())
noncomputable def e37 : Ent := { f := 37, ins := [Sh.agg [C0.dat Ty.str, C0.dat (Ty.int IntKind.i64), C0.dat (Ty.str.pair Ty.str).slice]], outs := [Sh.agg [C0.dat Ty.str, C0.dat (Ty.int IntKind.i64), C0.row (Ty.str.pair Ty.str)]], upd := [], pre := fun a => Sp.f37_pre a.1 a.2.1 a.2.2, spec := fun a => (Sp.f37 a.1 a.2.1 a.2.2).1, wrt := fun a => (Sp.f37 a.1 a.2.1 a.2.2).2 }
def f37_g (v : denS [Sh.agg [C0.dat Ty.str, C0.dat (Ty.int IntKind.i64), C0.row (Ty.str.pair Ty.str)]] × denS []) : Res := ⟨mkS [Sh.agg [C0.dat Ty.str, C0.dat (Ty.int IntKind.i64), C0.row (Ty.str.pair Ty.str)]] v.1, mkU [] v.2⟩
theorem f37_raw (x0 : ByteArray) (x1 : Int) (x2 : List (ByteArray × ByteArray)) : abody Γ (orc [e81]) 0 37 [XV.mk true [X.c (X0.dat Ty.str x0), X.c (X0.dat (Ty.int IntKind.i64) x1), X.c (X0.dat (Ty.str.pair Ty.str).slice x2)]] = chk (Sp.fits32 x2) (some (Res.mk [XV.mk true [X.c (X0.dat Ty.str x0), X.c (X0.dat (Ty.int IntKind.i64) x1), X.c (X0.row (Ty.str.pair Ty.str) x2 true)]] [])) := by kernel_rfl
theorem f37_form (x0 : ByteArray) (x1 : Int) (x2 : List (ByteArray × ByteArray)) : (chk (Sp.fits32 x2) (some (Res.mk [XV.mk true [X.c (X0.dat Ty.str x0), X.c (X0.dat (Ty.int IntKind.i64) x1), X.c (X0.row (Ty.str.pair Ty.str) x2 true)]] []))) = chk (Sp.f37_pre x0 x1 x2) (some (f37_g (Sp.f37 x0 x1 x2))) := by
  unfold Sp.f37_pre Sp.f37
  exact (chk_last (rfl))
theorem e37_ok : Valid Try.prog Γ e37 := valid_auto ok (vcons e81_ok vnil) fun a => (f37_raw a.1 a.2.1 a.2.2).trans (f37_form a.1 a.2.1 a.2.2)

def Sp.f38_pre (x0 : Int) (x1 : ByteArray) (x2 : List (Int × Int × ByteArray)) (x3 : List (Int × Int × ByteArray)) : Bool := (Sp.fits32 x2 && Sp.fits32 x3)
def Sp.f38 (x0 : Int) (x1 : ByteArray) (x2 : List (Int × Int × ByteArray)) (x3 : List (Int × Int × ByteArray)) := ((x0, x1, x2, x3), ())
noncomputable def e38 : Ent := { f := 38, ins := [Sh.agg [C0.dat (Ty.int IntKind.i64), C0.dat Ty.str, C0.dat ((Ty.int IntKind.i64).pair ((Ty.int IntKind.i64).pair Ty.str)).slice, C0.dat ((Ty.int IntKind.i64).pair ((Ty.int IntKind.i64).pair Ty.str)).slice]], outs := [Sh.agg [C0.dat (Ty.int IntKind.i64), C0.dat Ty.str, C0.row ((Ty.int IntKind.i64).pair ((Ty.int IntKind.i64).pair Ty.str)), C0.row ((Ty.int IntKind.i64).pair ((Ty.int IntKind.i64).pair Ty.str))]], upd := [], pre := fun a => Sp.f38_pre a.1 a.2.1 a.2.2.1 a.2.2.2, spec := fun a => (Sp.f38 a.1 a.2.1 a.2.2.1 a.2.2.2).1, wrt := fun a => (Sp.f38 a.1 a.2.1 a.2.2.1 a.2.2.2).2 }
def f38_g (v : denS [Sh.agg [C0.dat (Ty.int IntKind.i64), C0.dat Ty.str, C0.row ((Ty.int IntKind.i64).pair ((Ty.int IntKind.i64).pair Ty.str)), C0.row ((Ty.int IntKind.i64).pair ((Ty.int IntKind.i64).pair Ty.str))]] × denS []) : Res := ⟨mkS [Sh.agg [C0.dat (Ty.int IntKind.i64), C0.dat Ty.str, C0.row ((Ty.int IntKind.i64).pair ((Ty.int IntKind.i64).pair Ty.str)), C0.row ((Ty.int IntKind.i64).pair ((Ty.int IntKind.i64).pair Ty.str))]] v.1, mkU [] v.2⟩
theorem f38_raw (x0 : Int) (x1 : ByteArray) (x2 : List (Int × Int × ByteArray)) (x3 : List (Int × Int × ByteArray)) : abody Γ (orc [e51]) 0 38 [XV.mk true [X.c (X0.dat (Ty.int IntKind.i64) x0), X.c (X0.dat Ty.str x1), X.c (X0.dat ((Ty.int IntKind.i64).pair ((Ty.int IntKind.i64).pair Ty.str)).slice x2), X.c (X0.dat ((Ty.int IntKind.i64).pair ((Ty.int IntKind.i64).pair Ty.str)).slice x3)]] = chk (Sp.fits32 x2) (chk (Sp.fits32 x3) (some (Res.mk [XV.mk true [X.c (X0.dat (Ty.int IntKind.i64) x0), X.c (X0.dat Ty.str x1), X.c (X0.row ((Ty.int IntKind.i64).pair ((Ty.int IntKind.i64).pair Ty.str)) x2 true), X.c (X0.row ((Ty.int IntKind.i64).pair ((Ty.int IntKind.i64).pair Ty.str)) x3 true)]] []))) := by kernel_rfl
theorem f38_form (x0 : Int) (x1 : ByteArray) (x2 : List (Int × Int × ByteArray)) (x3 : List (Int × Int × ByteArray)) : (chk (Sp.fits32 x2) (chk (Sp.fits32 x3) (some (Res.mk [XV.mk true [X.c (X0.dat (Ty.int IntKind.i64) x0), X.c (X0.dat Ty.str x1), X.c (X0.row ((Ty.int IntKind.i64).pair ((Ty.int IntKind.i64).pair Ty.str)) x2 true), X.c (X0.row ((Ty.int IntKind.i64).pair ((Ty.int IntKind.i64).pair Ty.str)) x3 true)]] [])))) = chk (Sp.f38_pre x0 x1 x2 x3) (some (f38_g (Sp.f38 x0 x1 x2 x3))) := by
  unfold Sp.f38_pre Sp.f38
  exact (chk_step ((chk_last (rfl))))
theorem e38_ok : Valid Try.prog Γ e38 := valid_auto ok (vcons e51_ok vnil) fun a => (f38_raw a.1 a.2.1 a.2.2.1 a.2.2.2).trans (f38_form a.1 a.2.1 a.2.2.1 a.2.2.2)

def Sp.f40_pre (x0 : ByteArray) (x1 : Int) (x2 : List (ByteArray × ByteArray)) (x3 : ByteArray) (x4 : Int) (x5 : List (ByteArray × ByteArray)) : Bool := true
def Sp.f40 (x0 : ByteArray) (x1 : Int) (x2 : List (ByteArray × ByteArray)) (x3 : ByteArray) (x4 : Int) (x5 : List (ByteArray × ByteArray)) := (bif !x0.toList == x3.toList then (false, ()) else (bif x1 != x4 then (false, ()) else (bif !Sp.eqW Sp.eqE x2 x5 then (false, ()) else (true, ()))))
noncomputable def e40 : Ent := { f := 40, ins := [Sh.agg [C0.dat Ty.str, C0.dat (Ty.int IntKind.i64), C0.dat (Ty.str.pair Ty.str).slice], Sh.agg [C0.dat Ty.str, C0.dat (Ty.int IntKind.i64), C0.dat (Ty.str.pair Ty.str).slice]], outs := [Sh.one (C0.dat Ty.bool)], upd := [], pre := fun a => true, spec := fun a => (Sp.f40 a.1.1 a.1.2.1 a.1.2.2 a.2.1 a.2.2.1 a.2.2.2).1, wrt := fun a => (Sp.f40 a.1.1 a.1.2.1 a.1.2.2 a.2.1 a.2.2.1 a.2.2.2).2 }
def f40_g (v : denS [Sh.one (C0.dat Ty.bool)] × denS []) : Res := ⟨mkS [Sh.one (C0.dat Ty.bool)] v.1, mkU [] v.2⟩
theorem f40_raw (x0 : ByteArray) (x1 : Int) (x2 : List (ByteArray × ByteArray)) (x3 : ByteArray) (x4 : Int) (x5 : List (ByteArray × ByteArray)) : abody Γ (orc [e83]) 0 40 [XV.mk true [X.c (X0.dat Ty.str x0), X.c (X0.dat (Ty.int IntKind.i64) x1), X.c (X0.dat (Ty.str.pair Ty.str).slice x2)], XV.mk true [X.c (X0.dat Ty.str x3), X.c (X0.dat (Ty.int IntKind.i64) x4), X.c (X0.dat (Ty.str.pair Ty.str).slice x5)]] = bif !x0.toList == x3.toList then some (Res.mk [XV.mk false [X.c (X0.dat Ty.bool false)]] []) else bif x1 != x4 then some (Res.mk [XV.mk false [X.c (X0.dat Ty.bool false)]] []) else bif !Sp.eqW Sp.eqE x2 x5 then some (Res.mk [XV.mk false [X.c (X0.dat Ty.bool false)]] []) else some (Res.mk [XV.mk false [X.c (X0.dat Ty.bool true)]] []) := by kernel_rfl
theorem f40_form (x0 : ByteArray) (x1 : Int) (x2 : List (ByteArray × ByteArray)) (x3 : ByteArray) (x4 : Int) (x5 : List (ByteArray × ByteArray)) : (bif !x0.toList == x3.toList then some (Res.mk [XV.mk false [X.c (X0.dat Ty.bool false)]] []) else bif x1 != x4 then some (Res.mk [XV.mk false [X.c (X0.dat Ty.bool false)]] []) else bif !Sp.eqW Sp.eqE x2 x5 then some (Res.mk [XV.mk false [X.c (X0.dat Ty.bool false)]] []) else some (Res.mk [XV.mk false [X.c (X0.dat Ty.bool true)]] [])) = some (f40_g (Sp.f40 x0 x1 x2 x3 x4 x5)) := by
  unfold Sp.f40
  exact (cond_plain f40_g (rfl) ((cond_plain f40_g (rfl) ((cond_plain f40_g (rfl) (rfl))))))
theorem e40_ok : Valid Try.prog Γ e40 := valid_auto ok (vcons e83_ok vnil) fun a => (f40_raw a.1.1 a.1.2.1 a.1.2.2 a.2.1 a.2.2.1 a.2.2.2).trans (f40_form a.1.1 a.1.2.1 a.1.2.2 a.2.1 a.2.2.1 a.2.2.2)

def Sp.f41_pre (x0 : Int) (x1 : ByteArray) (x2 : List (Int × Int × ByteArray)) (x3 : List (Int × Int × ByteArray)) (x4 : Int) (x5 : ByteArray) (x6 : List (Int × Int × ByteArray)) (x7 : List (Int × Int × ByteArray)) : Bool := true
def Sp.f41 (x0 : Int) (x1 : ByteArray) (x2 : List (Int × Int × ByteArray)) (x3 : List (Int × Int × ByteArray)) (x4 : Int) (x5 : ByteArray) (x6 : List (Int × Int × ByteArray)) (x7 : List (Int × Int × ByteArray)) := (bif x0 != x4 then (false, ()) else (bif !x1.toList == x5.toList then (false, ()) else (bif !Sp.eqW Sp.eqV x2 x6 then (false, ()) else (bif !Sp.eqW Sp.eqV x3 x7 then (false, ()) else (true, ())))))
noncomputable def e41 : Ent := { f := 41, ins := [Sh.agg [C0.dat (Ty.int IntKind.i64), C0.dat Ty.str, C0.dat ((Ty.int IntKind.i64).pair ((Ty.int IntKind.i64).pair Ty.str)).slice, C0.dat ((Ty.int IntKind.i64).pair ((Ty.int IntKind.i64).pair Ty.str)).slice], Sh.agg [C0.dat (Ty.int IntKind.i64), C0.dat Ty.str, C0.dat ((Ty.int IntKind.i64).pair ((Ty.int IntKind.i64).pair Ty.str)).slice, C0.dat ((Ty.int IntKind.i64).pair ((Ty.int IntKind.i64).pair Ty.str)).slice]], outs := [Sh.one (C0.dat Ty.bool)], upd := [], pre := fun a => true, spec := fun a => (Sp.f41 a.1.1 a.1.2.1 a.1.2.2.1 a.1.2.2.2 a.2.1 a.2.2.1 a.2.2.2.1 a.2.2.2.2).1, wrt := fun a => (Sp.f41 a.1.1 a.1.2.1 a.1.2.2.1 a.1.2.2.2 a.2.1 a.2.2.1 a.2.2.2.1 a.2.2.2.2).2 }
def f41_g (v : denS [Sh.one (C0.dat Ty.bool)] × denS []) : Res := ⟨mkS [Sh.one (C0.dat Ty.bool)] v.1, mkU [] v.2⟩
theorem f41_raw (x0 : Int) (x1 : ByteArray) (x2 : List (Int × Int × ByteArray)) (x3 : List (Int × Int × ByteArray)) (x4 : Int) (x5 : ByteArray) (x6 : List (Int × Int × ByteArray)) (x7 : List (Int × Int × ByteArray)) : abody Γ (orc [e44]) 0 41 [XV.mk true [X.c (X0.dat (Ty.int IntKind.i64) x0), X.c (X0.dat Ty.str x1), X.c (X0.dat ((Ty.int IntKind.i64).pair ((Ty.int IntKind.i64).pair Ty.str)).slice x2), X.c (X0.dat ((Ty.int IntKind.i64).pair ((Ty.int IntKind.i64).pair Ty.str)).slice x3)], XV.mk true [X.c (X0.dat (Ty.int IntKind.i64) x4), X.c (X0.dat Ty.str x5), X.c (X0.dat ((Ty.int IntKind.i64).pair ((Ty.int IntKind.i64).pair Ty.str)).slice x6), X.c (X0.dat ((Ty.int IntKind.i64).pair ((Ty.int IntKind.i64).pair Ty.str)).slice x7)]] = bif x0 != x4 then some (Res.mk [XV.mk false [X.c (X0.dat Ty.bool false)]] []) else bif !x1.toList == x5.toList then some (Res.mk [XV.mk false [X.c (X0.dat Ty.bool false)]] []) else bif !Sp.eqW Sp.eqV x2 x6 then some (Res.mk [XV.mk false [X.c (X0.dat Ty.bool false)]] []) else bif !Sp.eqW Sp.eqV x3 x7 then some (Res.mk [XV.mk false [X.c (X0.dat Ty.bool false)]] []) else some (Res.mk [XV.mk false [X.c (X0.dat Ty.bool true)]] []) := by kernel_rfl
theorem f41_form (x0 : Int) (x1 : ByteArray) (x2 : List (Int × Int × ByteArray)) (x3 : List (Int × Int × ByteArray)) (x4 : Int) (x5 : ByteArray) (x6 : List (Int × Int × ByteArray)) (x7 : List (Int × Int × ByteArray)) : (bif x0 != x4 then some (Res.mk [XV.mk false [X.c (X0.dat Ty.bool false)]] []) else bif !x1.toList == x5.toList then some (Res.mk [XV.mk false [X.c (X0.dat Ty.bool false)]] []) else bif !Sp.eqW Sp.eqV x2 x6 then some (Res.mk [XV.mk false [X.c (X0.dat Ty.bool false)]] []) else bif !Sp.eqW Sp.eqV x3 x7 then some (Res.mk [XV.mk false [X.c (X0.dat Ty.bool false)]] []) else some (Res.mk [XV.mk false [X.c (X0.dat Ty.bool true)]] [])) = some (f41_g (Sp.f41 x0 x1 x2 x3 x4 x5 x6 x7)) := by
  unfold Sp.f41
  exact (cond_plain f41_g (rfl) ((cond_plain f41_g (rfl) ((cond_plain f41_g (rfl) ((cond_plain f41_g (rfl) (rfl))))))))
theorem e41_ok : Valid Try.prog Γ e41 := valid_auto ok (vcons e44_ok vnil) fun a => (f41_raw a.1.1 a.1.2.1 a.1.2.2.1 a.1.2.2.2 a.2.1 a.2.2.1 a.2.2.2.1 a.2.2.2.2).trans (f41_form a.1.1 a.1.2.1 a.1.2.2.1 a.1.2.2.2 a.2.1 a.2.2.1 a.2.2.2.1 a.2.2.2.2)

/-! May a text go from one to another? -/
def Sp.may (a b : ByteArray) : List V2 → Bool
  | [] => false
  | x :: r => bif x.1.toList == a.toList then (bif x.2.toList == b.toList then true else Sp.may a b r) else Sp.may a b r
def Sp.txt (xs : List V3) (i : Int) : ByteArray := (xs.getD i.toNat ((0 : Int), (0 : Int), ByteArray.mk #[])).2.2
def Sp.has (xs : List V3) (i : Int) : Bool := bif decide (0 ≤ i) then decide (i < (xs.length : Int)) else false
def Sp.step (gt : ByteArray) (gc : Int) (gs : List V2) (ev : Int) (ct : ByteArray) (old new : List V3) : Bool :=
  bif !(ct.toList == gt.toList) then true else bif ev == 3 then true else bif ev == 2 then
    (bif (Sp.txt old gc).toList == (Sp.txt new gc).toList then true else Sp.may (Sp.txt old gc) (Sp.txt new gc) gs)
  else Sp.may (ByteArray.mk #[]) (Sp.txt new gc) gs
def Sp.stepOK (gt : ByteArray) (gc ev : Int) (ct : ByteArray) (old new : List V3) : Bool :=
  bif !(ct.toList == gt.toList) then true else bif ev == 3 then true else bif Sp.has new gc then (bif ev == 2 then Sp.has old gc else true) else false
noncomputable def f80_L0 (n m0 : Nat) (y0 : ByteArray) (y1 : Int) (y2 : ByteArray) (y3 : Int) (y4 : List (ByteArray × ByteArray)) (y5 : Int) (y6 : ByteArray) (y7 : List (Int × Int × ByteArray)) (y8 : List (Int × Int × ByteArray)) : Option Res := loopAt Γ (orc []) n (80 : Nat) (0 : Nat) [] [Pth.r, Pth.r, Pth.r, Pth.r, Pth.l, Pth.r, Pth.b] m0 (St.mk [Slot.nix, Slot.nix, Slot.val (Val.one (Cell.ptr (0 : Nat) (0 : Nat))), Slot.val (Val.one (Cell.ptr (1 : Nat) (0 : Nat))), Slot.nix, Slot.val (Val.one (Cell.dat Ty.str y0)), Slot.val (Val.one (Cell.dat (Ty.int IntKind.i64) y1)), Slot.nix, Slot.nix, Slot.nix, Slot.nix, Slot.nix, Slot.nix, Slot.nix, Slot.nix, Slot.nix, Slot.nix, Slot.nix, Slot.nix, Slot.nix, Slot.nix, Slot.nix, Slot.nix, Slot.nix, Slot.nix, Slot.nix, Slot.nix, Slot.nix, Slot.nix, Slot.nix, Slot.nix, Slot.nix, Slot.nix, Slot.nix, Slot.nix, Slot.nix, Slot.nix, Slot.nix, Slot.nix, Slot.nix, Slot.nix, Slot.nix, Slot.nix, Slot.nix, Slot.nix, Slot.nix, Slot.nix, Slot.nix, Slot.nix, Slot.nix, Slot.nix, Slot.nix, Slot.nix, Slot.nix, Slot.nix, Slot.nix, Slot.nix, Slot.nix, Slot.nix, Slot.nix, Slot.nix, Slot.nix, Slot.nix, Slot.nix, Slot.nix, Slot.nix, Slot.nix] [AObj.box (57 : Nat) [Cell.dat Ty.str y2, Cell.dat (Ty.int IntKind.i64) y3, Cell.dat (Ty.str.pair Ty.str).slice y4], AObj.box (61 : Nat) [Cell.dat (Ty.int IntKind.i64) y5, Cell.dat Ty.str y6, Cell.dat ((Ty.int IntKind.i64).pair ((Ty.int IntKind.i64).pair Ty.str)).slice y7, Cell.dat ((Ty.int IntKind.i64).pair ((Ty.int IntKind.i64).pair Ty.str)).slice y8]])
theorem f80_L0_step (n m0 : Nat) (y0 : ByteArray) (y1 : Int) (y2 : ByteArray) (y3 : Int) (y4 : List (ByteArray × ByteArray)) (y5 : Int) (y6 : ByteArray) (y7 : List (Int × Int × ByteArray)) (y8 : List (Int × Int × ByteArray)) : f80_L0 n (m0 + 1) y0 y1 y2 y3 y4 y5 y6 y7 y8 = bif decide (y1 < (↑y4.length : Int)) then chk (decide ((0 : Int) ≤ y1) && decide (y1 < (↑y4.length : Int))) (bif (y4.getD y1.toNat (ByteArray.mk #[], ByteArray.mk #[])).1.toList == y0.toList then chk (decide ((0 : Int) ≤ y1) && decide (y1 < (↑y4.length : Int))) (chk (decide ((0 : Int) ≤ y3) && decide (y3 < (↑y8.length : Int))) (bif (y4.getD y1.toNat (ByteArray.mk #[], ByteArray.mk #[])).2.toList == (y8.getD y3.toNat ((0 : Int), (0 : Int), ByteArray.mk #[])).2.2.toList then some (Res.mk [XV.mk false [X.c (X0.dat Ty.bool true)]] []) else f80_L0 n m0 y0 (IntKind.i64.wrap (y1 + (1 : Int))) y2 y3 y4 y5 y6 y7 y8)) else f80_L0 n m0 y0 (IntKind.i64.wrap (y1 + (1 : Int))) y2 y3 y4 y5 y6 y7 y8) else some (Res.mk [XV.mk false [X.c (X0.dat Ty.bool false)]] []) := by kernel_rfl
theorem f80_raw (n : Nat) (x0 : ByteArray) (x1 : Int) (x2 : List (ByteArray × ByteArray)) (x3 : Int) (x4 : ByteArray) (x5 : List (Int × Int × ByteArray)) (x6 : List (Int × Int × ByteArray)) : abody Γ (orc []) n 80 [XV.mk true [X.c (X0.dat Ty.str x0), X.c (X0.dat (Ty.int IntKind.i64) x1), X.c (X0.dat (Ty.str.pair Ty.str).slice x2)], XV.mk true [X.c (X0.dat (Ty.int IntKind.i64) x3), X.c (X0.dat Ty.str x4), X.c (X0.dat ((Ty.int IntKind.i64).pair ((Ty.int IntKind.i64).pair Ty.str)).slice x5), X.c (X0.dat ((Ty.int IntKind.i64).pair ((Ty.int IntKind.i64).pair Ty.str)).slice x6)]] = bif !x4.toList == x0.toList then some (Res.mk [XV.mk false [X.c (X0.dat Ty.bool true)]] []) else bif x3 == (3 : Int) then some (Res.mk [XV.mk false [X.c (X0.dat Ty.bool true)]] []) else bif x3 == (2 : Int) then chk (decide ((0 : Int) ≤ x1) && decide (x1 < (↑x5.length : Int))) (chk (decide ((0 : Int) ≤ x1) && decide (x1 < (↑x6.length : Int))) (bif (x5.getD x1.toNat ((0 : Int), (0 : Int), ByteArray.mk #[])).2.2.toList == (x6.getD x1.toNat ((0 : Int), (0 : Int), ByteArray.mk #[])).2.2.toList then some (Res.mk [XV.mk false [X.c (X0.dat Ty.bool true)]] []) else f80_L0 n n (x5.getD x1.toNat ((0 : Int), (0 : Int), ByteArray.mk #[])).2.2 (0 : Int) x0 x1 x2 x3 x4 x5 x6)) else f80_L0 n n (ByteArray.mk #[]) (0 : Int) x0 x1 x2 x3 x4 x5 x6 := by kernel_rfl

theorem f80_loop (n : Nat) (from_ : ByteArray) (gt : ByteArray) (gc : Int) (gs : List V2) (ev : Int) (ct : ByteArray) (old new : List V3) (hl : gs.length ≤ 9223372036854775807) (hn : (decide ((0 : Int) ≤ gc) && decide (gc < (new.length : Int))) = true) : ∀ (d k m : Nat), k + d = gs.length → d < m →
    f80_L0 n m from_ (↑k : Int) gt gc gs ev ct old new = some (rBo (Sp.may from_ (Sp.txt new gc) (gs.drop k))) := by
  intro d
  induction d with
  | zero =>
    intro k m hk hm
    obtain ⟨m, rfl⟩ := succ_of hm
    rw [f80_L0_step, nat_ge (by omega), cond_false, List.drop_of_length_le (by omega)]
    rfl
  | succ d ih =>
    intro k m hk hm
    obtain ⟨m, rfl⟩ := succ_of hm
    have hlt : k < gs.length := by omega
    rw [f80_L0_step, nat_lt hlt, cond_true, guard0, chkT, hn, chkT, chkT, getD_nat gs k _ hlt, next64 hlt hl, ih (k + 1) m (by omega) (by omega), List.drop_eq_getElem_cons hlt, Sp.may]
    show (bif gs[k].1.toList == from_.toList then (bif gs[k].2.toList == (Sp.txt new gc).toList then _ else _) else _) = _
    cases gs[k].1.toList == from_.toList with
    | false => rfl
    | true => cases gs[k].2.toList == (Sp.txt new gc).toList <;> rfl
theorem has_of {xs : List V3} {i : Int} (h : Sp.has xs i = true) : (decide ((0 : Int) ≤ i) && decide (i < (xs.length : Int))) = true := by
  unfold Sp.has at h
  cases h0 : decide (0 ≤ i) with
  | true => rw [h0] at h; rw [Bool.true_and]; exact h
  | false => rw [h0] at h; cases h
noncomputable def e80 : Ent := { f := 80, ins := [Sh.agg [C0.dat .str, C0.dat (.int .i64), C0.dat (.slice tE)], Sh.agg [C0.dat (.int .i64), C0.dat .str, C0.dat (.slice tV), C0.dat (.slice tV)]], outs := [Sh.one cB], upd := [], pre := fun a => Sp.stepOK a.1.1 a.1.2.1 a.2.1 a.2.2.1 a.2.2.2.1 a.2.2.2.2, spec := fun a => Sp.step a.1.1 a.1.2.1 a.1.2.2 a.2.1 a.2.2.1 a.2.2.2.1 a.2.2.2.2, wrt := fun _ => () }
theorem e80_core (gt : ByteArray) (gc : Int) (gs : List V2) (ev : Int) (ct : ByteArray) (old new : List V3) (hl : gs.length ≤ maxLen) (h : Sp.stepOK gt gc ev ct old new = true) :
    ∃ n, abody Γ (orc []) n 80 [XV.mk true [X.c (X0.dat Ty.str gt), X.c (X0.dat (Ty.int IntKind.i64) gc), X.c (X0.dat (Ty.slice tE) gs)], XV.mk true [X.c (X0.dat (Ty.int IntKind.i64) ev), X.c (X0.dat Ty.str ct), X.c (X0.dat (Ty.slice tV) old), X.c (X0.dat (Ty.slice tV) new)]] = some (rBo (Sp.step gt gc gs ev ct old new)) := by
  have hl : gs.length ≤ 9223372036854775807 := hl
  refine ⟨gs.length + 1, (f80_raw _ gt gc gs ev ct old new).trans ?_⟩
  unfold Sp.stepOK at h
  unfold Sp.step
  cases ht : ct.toList == gt.toList with
  | false => rfl
  | true =>
    rw [ht] at h
    rw [Bool.not_true, cond_false] at h ⊢
    rw [cond_false]
    cases h3 : ev == 3 with
    | true => rfl
    | false =>
      rw [h3, cond_false] at h
      rw [cond_false, cond_false]
      cases hn : Sp.has new gc with
      | false => rw [hn] at h; cases h
      | true =>
        rw [hn, cond_true] at h
        have g1 := has_of hn
        have L := fun (fr : ByteArray) => f80_loop (gs.length + 1) fr gt gc gs ev ct old new hl g1 gs.length 0 (gs.length + 1) (Nat.zero_add _) (Nat.lt_succ_self _)
        rw [Int.natCast_zero, List.drop_zero] at L
        cases h2 : ev == 2 with
        | false => rw [cond_false, cond_false]; exact L _
        | true =>
          rw [h2, cond_true] at h
          rw [cond_true, cond_true, has_of h, chkT, g1, chkT, L]
          show (bif (Sp.txt old gc).toList == (Sp.txt new gc).toList then _ else some (rBo (Sp.may (Sp.txt old gc) (Sp.txt new gc) gs))) = _
          cases (Sp.txt old gc).toList == (Sp.txt new gc).toList <;> rfl
theorem e80_ok : Valid Try.prog Γ e80 := valid_len ok vnil fun a ha hl => e80_core a.1.1 a.1.2.1 a.1.2.2 a.2.1 a.2.2.1 a.2.2.2.1 a.2.2.2.2 (hl _ (List.mem_cons_self) _ (List.mem_cons_of_mem _ (List.mem_cons_of_mem _ List.mem_cons_self))).1 ha
def Sp.f36_pre (x0 : ByteArray) (x1 : Int) (x2 : List (ByteArray × ByteArray)) (x3 : Int) (x4 : ByteArray) (x5 : List (Int × Int × ByteArray)) (x6 : List (Int × Int × ByteArray)) : Bool := (bif decide ((↑x5.length : Int) > (8 : Int)) then true else (bif decide ((↑x6.length : Int) > (8 : Int)) then true else (bif decide ((↑x2.length : Int) > (20 : Int)) then true else (bif x4.toList == x0.toList then (bif x3 != (3 : Int) then (bif !(Sp.f79 x1 (0 : Int) (IntKind.i64.wrap ((↑x6.length : Int) - (1 : Int)))).1 then true else (bif x3 == (2 : Int) then (bif !(Sp.f79 x1 (0 : Int) (IntKind.i64.wrap ((↑x5.length : Int) - (1 : Int)))).1 then true else Sp.stepOK x0 x1 x3 x4 x5 x6) else Sp.stepOK x0 x1 x3 x4 x5 x6)) else (bif x3 == (2 : Int) then (bif !(Sp.f79 x1 (0 : Int) (IntKind.i64.wrap ((↑x5.length : Int) - (1 : Int)))).1 then true else Sp.stepOK x0 x1 x3 x4 x5 x6) else Sp.stepOK x0 x1 x3 x4 x5 x6)) else Sp.stepOK x0 x1 x3 x4 x5 x6))))
def Sp.f36 (x0 : ByteArray) (x1 : Int) (x2 : List (ByteArray × ByteArray)) (x3 : Int) (x4 : ByteArray) (x5 : List (Int × Int × ByteArray)) (x6 : List (Int × Int × ByteArray)) := (bif decide ((↑x5.length : Int) > (8 : Int)) then ((false, (1 : Int)), ()) else (bif decide ((↑x6.length : Int) > (8 : Int)) then ((false, (1 : Int)), ()) else (bif decide ((↑x2.length : Int) > (20 : Int)) then ((false, (1 : Int)), ()) else (bif x4.toList == x0.toList then (bif x3 != (3 : Int) then (bif !(Sp.f79 x1 (0 : Int) (IntKind.i64.wrap ((↑x6.length : Int) - (1 : Int)))).1 then ((false, (1 : Int)), ()) else (bif x3 == (2 : Int) then (bif !(Sp.f79 x1 (0 : Int) (IntKind.i64.wrap ((↑x5.length : Int) - (1 : Int)))).1 then ((false, (1 : Int)), ()) else ((Sp.step x0 x1 x2 x3 x4 x5 x6, (0 : Int)), ())) else ((Sp.step x0 x1 x2 x3 x4 x5 x6, (0 : Int)), ()))) else (bif x3 == (2 : Int) then (bif !(Sp.f79 x1 (0 : Int) (IntKind.i64.wrap ((↑x5.length : Int) - (1 : Int)))).1 then ((false, (1 : Int)), ()) else ((Sp.step x0 x1 x2 x3 x4 x5 x6, (0 : Int)), ())) else ((Sp.step x0 x1 x2 x3 x4 x5 x6, (0 : Int)), ()))) else ((Sp.step x0 x1 x2 x3 x4 x5 x6, (0 : Int)), ())))))
noncomputable def e36 : Ent := { f := 36, ins := [Sh.agg [C0.dat Ty.str, C0.dat (Ty.int IntKind.i64), C0.dat (Ty.str.pair Ty.str).slice], Sh.agg [C0.dat (Ty.int IntKind.i64), C0.dat Ty.str, C0.dat ((Ty.int IntKind.i64).pair ((Ty.int IntKind.i64).pair Ty.str)).slice, C0.dat ((Ty.int IntKind.i64).pair ((Ty.int IntKind.i64).pair Ty.str)).slice]], outs := [Sh.one (C0.dat Ty.bool), Sh.one (C0.dat (Ty.int IntKind.i64))], upd := [], pre := fun a => Sp.f36_pre a.1.1 a.1.2.1 a.1.2.2 a.2.1 a.2.2.1 a.2.2.2.1 a.2.2.2.2, spec := fun a => (Sp.f36 a.1.1 a.1.2.1 a.1.2.2 a.2.1 a.2.2.1 a.2.2.2.1 a.2.2.2.2).1, wrt := fun a => (Sp.f36 a.1.1 a.1.2.1 a.1.2.2 a.2.1 a.2.2.1 a.2.2.2.1 a.2.2.2.2).2 }
def f36_g (v : denS [Sh.one (C0.dat Ty.bool), Sh.one (C0.dat (Ty.int IntKind.i64))] × denS []) : Res := ⟨mkS [Sh.one (C0.dat Ty.bool), Sh.one (C0.dat (Ty.int IntKind.i64))] v.1, mkU [] v.2⟩
theorem f36_raw (x0 : ByteArray) (x1 : Int) (x2 : List (ByteArray × ByteArray)) (x3 : Int) (x4 : ByteArray) (x5 : List (Int × Int × ByteArray)) (x6 : List (Int × Int × ByteArray)) : abody Γ (orc [e79, e80]) 0 36 [XV.mk true [X.c (X0.dat Ty.str x0), X.c (X0.dat (Ty.int IntKind.i64) x1), X.c (X0.dat (Ty.str.pair Ty.str).slice x2)], XV.mk true [X.c (X0.dat (Ty.int IntKind.i64) x3), X.c (X0.dat Ty.str x4), X.c (X0.dat ((Ty.int IntKind.i64).pair ((Ty.int IntKind.i64).pair Ty.str)).slice x5), X.c (X0.dat ((Ty.int IntKind.i64).pair ((Ty.int IntKind.i64).pair Ty.str)).slice x6)]] = bif decide ((↑x5.length : Int) > (8 : Int)) then some (Res.mk [XV.mk false [X.c (X0.dat Ty.bool false)], XV.mk false [X.c (X0.dat (Ty.int IntKind.i64) (1 : Int))]] []) else bif decide ((↑x6.length : Int) > (8 : Int)) then some (Res.mk [XV.mk false [X.c (X0.dat Ty.bool false)], XV.mk false [X.c (X0.dat (Ty.int IntKind.i64) (1 : Int))]] []) else bif decide ((↑x2.length : Int) > (20 : Int)) then some (Res.mk [XV.mk false [X.c (X0.dat Ty.bool false)], XV.mk false [X.c (X0.dat (Ty.int IntKind.i64) (1 : Int))]] []) else bif x4.toList == x0.toList then bif x3 != (3 : Int) then bif !(Sp.f79 x1 (0 : Int) (IntKind.i64.wrap ((↑x6.length : Int) - (1 : Int)))).1 then some (Res.mk [XV.mk false [X.c (X0.dat Ty.bool false)], XV.mk false [X.c (X0.dat (Ty.int IntKind.i64) (1 : Int))]] []) else bif x3 == (2 : Int) then bif !(Sp.f79 x1 (0 : Int) (IntKind.i64.wrap ((↑x5.length : Int) - (1 : Int)))).1 then some (Res.mk [XV.mk false [X.c (X0.dat Ty.bool false)], XV.mk false [X.c (X0.dat (Ty.int IntKind.i64) (1 : Int))]] []) else chk (Sp.stepOK x0 x1 x3 x4 x5 x6) (some (Res.mk [XV.mk false [X.c (X0.dat Ty.bool (Sp.step x0 x1 x2 x3 x4 x5 x6))], XV.mk false [X.c (X0.dat (Ty.int IntKind.i64) (0 : Int))]] [])) else chk (Sp.stepOK x0 x1 x3 x4 x5 x6) (some (Res.mk [XV.mk false [X.c (X0.dat Ty.bool (Sp.step x0 x1 x2 x3 x4 x5 x6))], XV.mk false [X.c (X0.dat (Ty.int IntKind.i64) (0 : Int))]] [])) else bif x3 == (2 : Int) then bif !(Sp.f79 x1 (0 : Int) (IntKind.i64.wrap ((↑x5.length : Int) - (1 : Int)))).1 then some (Res.mk [XV.mk false [X.c (X0.dat Ty.bool false)], XV.mk false [X.c (X0.dat (Ty.int IntKind.i64) (1 : Int))]] []) else chk (Sp.stepOK x0 x1 x3 x4 x5 x6) (some (Res.mk [XV.mk false [X.c (X0.dat Ty.bool (Sp.step x0 x1 x2 x3 x4 x5 x6))], XV.mk false [X.c (X0.dat (Ty.int IntKind.i64) (0 : Int))]] [])) else chk (Sp.stepOK x0 x1 x3 x4 x5 x6) (some (Res.mk [XV.mk false [X.c (X0.dat Ty.bool (Sp.step x0 x1 x2 x3 x4 x5 x6))], XV.mk false [X.c (X0.dat (Ty.int IntKind.i64) (0 : Int))]] [])) else chk (Sp.stepOK x0 x1 x3 x4 x5 x6) (some (Res.mk [XV.mk false [X.c (X0.dat Ty.bool (Sp.step x0 x1 x2 x3 x4 x5 x6))], XV.mk false [X.c (X0.dat (Ty.int IntKind.i64) (0 : Int))]] [])) := by kernel_rfl
theorem f36_form (x0 : ByteArray) (x1 : Int) (x2 : List (ByteArray × ByteArray)) (x3 : Int) (x4 : ByteArray) (x5 : List (Int × Int × ByteArray)) (x6 : List (Int × Int × ByteArray)) : (bif decide ((↑x5.length : Int) > (8 : Int)) then some (Res.mk [XV.mk false [X.c (X0.dat Ty.bool false)], XV.mk false [X.c (X0.dat (Ty.int IntKind.i64) (1 : Int))]] []) else bif decide ((↑x6.length : Int) > (8 : Int)) then some (Res.mk [XV.mk false [X.c (X0.dat Ty.bool false)], XV.mk false [X.c (X0.dat (Ty.int IntKind.i64) (1 : Int))]] []) else bif decide ((↑x2.length : Int) > (20 : Int)) then some (Res.mk [XV.mk false [X.c (X0.dat Ty.bool false)], XV.mk false [X.c (X0.dat (Ty.int IntKind.i64) (1 : Int))]] []) else bif x4.toList == x0.toList then bif x3 != (3 : Int) then bif !(Sp.f79 x1 (0 : Int) (IntKind.i64.wrap ((↑x6.length : Int) - (1 : Int)))).1 then some (Res.mk [XV.mk false [X.c (X0.dat Ty.bool false)], XV.mk false [X.c (X0.dat (Ty.int IntKind.i64) (1 : Int))]] []) else bif x3 == (2 : Int) then bif !(Sp.f79 x1 (0 : Int) (IntKind.i64.wrap ((↑x5.length : Int) - (1 : Int)))).1 then some (Res.mk [XV.mk false [X.c (X0.dat Ty.bool false)], XV.mk false [X.c (X0.dat (Ty.int IntKind.i64) (1 : Int))]] []) else chk (Sp.stepOK x0 x1 x3 x4 x5 x6) (some (Res.mk [XV.mk false [X.c (X0.dat Ty.bool (Sp.step x0 x1 x2 x3 x4 x5 x6))], XV.mk false [X.c (X0.dat (Ty.int IntKind.i64) (0 : Int))]] [])) else chk (Sp.stepOK x0 x1 x3 x4 x5 x6) (some (Res.mk [XV.mk false [X.c (X0.dat Ty.bool (Sp.step x0 x1 x2 x3 x4 x5 x6))], XV.mk false [X.c (X0.dat (Ty.int IntKind.i64) (0 : Int))]] [])) else bif x3 == (2 : Int) then bif !(Sp.f79 x1 (0 : Int) (IntKind.i64.wrap ((↑x5.length : Int) - (1 : Int)))).1 then some (Res.mk [XV.mk false [X.c (X0.dat Ty.bool false)], XV.mk false [X.c (X0.dat (Ty.int IntKind.i64) (1 : Int))]] []) else chk (Sp.stepOK x0 x1 x3 x4 x5 x6) (some (Res.mk [XV.mk false [X.c (X0.dat Ty.bool (Sp.step x0 x1 x2 x3 x4 x5 x6))], XV.mk false [X.c (X0.dat (Ty.int IntKind.i64) (0 : Int))]] [])) else chk (Sp.stepOK x0 x1 x3 x4 x5 x6) (some (Res.mk [XV.mk false [X.c (X0.dat Ty.bool (Sp.step x0 x1 x2 x3 x4 x5 x6))], XV.mk false [X.c (X0.dat (Ty.int IntKind.i64) (0 : Int))]] [])) else chk (Sp.stepOK x0 x1 x3 x4 x5 x6) (some (Res.mk [XV.mk false [X.c (X0.dat Ty.bool (Sp.step x0 x1 x2 x3 x4 x5 x6))], XV.mk false [X.c (X0.dat (Ty.int IntKind.i64) (0 : Int))]] []))) = chk (Sp.f36_pre x0 x1 x2 x3 x4 x5 x6) (some (f36_g (Sp.f36 x0 x1 x2 x3 x4 x5 x6))) := by
  unfold Sp.f36_pre Sp.f36
  exact (cond_step f36_g ((lift_plain (rfl))) ((cond_step f36_g ((lift_plain (rfl))) ((cond_step f36_g ((lift_plain (rfl))) ((cond_step f36_g ((cond_step f36_g ((cond_step f36_g ((lift_plain (rfl))) ((cond_step f36_g ((cond_step f36_g ((lift_plain (rfl))) ((chk_last (rfl))))) ((chk_last (rfl))))))) ((cond_step f36_g ((cond_step f36_g ((lift_plain (rfl))) ((chk_last (rfl))))) ((chk_last (rfl))))))) ((chk_last (rfl))))))))))
theorem e36_ok : Valid Try.prog Γ e36 := valid_auto ok (vcons e79_ok (vcons e80_ok vnil)) fun a => (f36_raw a.1.1 a.1.2.1 a.1.2.2 a.2.1 a.2.2.1 a.2.2.2.1 a.2.2.2.2).trans (f36_form a.1.1 a.1.2.1 a.1.2.2 a.2.1 a.2.2.1 a.2.2.2.1 a.2.2.2.2)

noncomputable def f166_L0 (n m0 : Nat) (y0 : List (ByteArray × ByteArray)) (y1 : Int) (y2 : Int) (y3 : ByteArray) (y4 : ByteArray) : Option Res := loopAt Γ (orc []) n (166 : Nat) (0 : Nat) [] [Pth.r, Pth.l, Pth.r, Pth.b] m0 (St.mk [Slot.val (Val.one (Cell.dat (Ty.str.pair Ty.str).slice y0)), Slot.nix, Slot.nix, Slot.val (Val.one (Cell.ptr (0 : Nat) (0 : Nat))), Slot.nix, Slot.nix, Slot.nix, Slot.val (Val.one (Cell.dat (Ty.int IntKind.i64) y1)), Slot.val (Val.one (Cell.dat (Ty.int IntKind.i64) y2)), Slot.nix, Slot.nix, Slot.nix, Slot.nix, Slot.nix, Slot.nix, Slot.nix, Slot.nix, Slot.nix, Slot.nix] [AObj.box (157 : Nat) [Cell.dat Ty.str y3, Cell.dat Ty.str y4]])
theorem f166_L0_step (n m0 : Nat) (y0 : List (ByteArray × ByteArray)) (y1 : Int) (y2 : Int) (y3 : ByteArray) (y4 : ByteArray) : f166_L0 n (m0 + 1) y0 y1 y2 y3 y4 = bif decide (y2 < y1) then chk (decide ((0 : Int) ≤ y2) && decide (y2 < (↑y0.length : Int))) (bif eqS y3 (y0.getD y2.toNat (ByteArray.mk #[], ByteArray.mk #[])).1 && (eqS y4 (y0.getD y2.toNat (ByteArray.mk #[], ByteArray.mk #[])).2 && true) then some (Res.mk [XV.mk false [X.c (X0.dat (Ty.int IntKind.i64) y2)]] []) else f166_L0 n m0 y0 y1 (IntKind.i64.wrap (y2 + (1 : Int))) y3 y4) else some (Res.mk [XV.mk false [X.c (X0.dat (Ty.int IntKind.i64) (-1 : Int))]] []) := by kernel_rfl
theorem f166_raw (n : Nat) (x0 : List (ByteArray × ByteArray)) (x1 : ByteArray) (x2 : ByteArray) : abody Γ (orc []) n 166 [XV.mk false [X.c (X0.dat (Ty.str.pair Ty.str).slice x0)], XV.mk true [X.c (X0.dat Ty.str x1), X.c (X0.dat Ty.str x2)]] = f166_L0 n n x0 (↑x0.length : Int) (0 : Int) x1 x2 := by kernel_rfl

def Sp.sameE (a b : ByteArray) (x : V2) : Bool := Go.Proofs.GR.eqS a x.1 && (Go.Proofs.GR.eqS b x.2 && true)
noncomputable def e166 : Ent := { f := 166, ins := [Sh.one (C0.dat (.slice tE)), Sh.agg [C0.dat .str, C0.dat .str]], outs := [Sh.one cI], upd := [], pre := fun _ => true, spec := fun a => Sp.idx (Sp.sameE a.2.1 a.2.2) a.1 0, wrt := fun _ => () }
theorem e166_core (xs : List V2) (s t : ByteArray) (hl : xs.length ≤ maxLen) : ∃ n, abody Γ (orc []) n 166 [XV.mk false [X.c (X0.dat (Ty.slice tE) xs)], XV.mk true [X.c (X0.dat Ty.str s), X.c (X0.dat Ty.str t)]] = some (rI (Sp.idx (Sp.sameE s t) xs 0)) := by
  have hl : xs.length ≤ 9223372036854775807 := hl
  refine ⟨xs.length + 1, (f166_raw _ xs s t).trans ?_⟩
  refine idx_loop (p := Sp.sameE s t) (R := rI) xs (fun m k => f166_L0 (xs.length + 1) m xs xs.length k s t) (fun m k hk => ?_) (fun m k h => ?_) xs.length 0 _ (Nat.zero_add _) (Nat.lt_succ_self _)
  · show f166_L0 _ _ _ _ _ _ _ = _
    rw [f166_L0_step, nat_ge hk, cond_false]
  · show f166_L0 _ _ _ _ _ _ _ = _
    rw [f166_L0_step, nat_lt h, cond_true, guard0, chkT, getD_nat xs k _ h, next64 h hl]
    rfl
theorem e166_ok : Valid Try.prog Γ e166 := valid_len ok vnil fun a _ hl => e166_core a.1 a.2.1 a.2.2 (hl _ (List.mem_cons_self) _ (List.mem_cons_self)).1
def Sp.f125_pre (x0 : List (Int × Int × ByteArray)) (x1 : ByteArray) (x2 : Int) (x3 : List (ByteArray × ByteArray)) : Bool := true
def Sp.f125 (x0 : List (Int × Int × ByteArray)) (x1 : ByteArray) (x2 : Int) (x3 : List (ByteArray × ByteArray)) := ((Sp.f70 x2 (0 : Int) (IntKind.i64.wrap ((↑x0.length : Int) - (1 : Int)))).1, ())
noncomputable def e125 : Ent := { f := 125, ins := [Sh.one (C0.dat ((Ty.int IntKind.i64).pair ((Ty.int IntKind.i64).pair Ty.str)).slice), Sh.one (C0.rptr (Ty.str.pair ((Ty.int IntKind.i64).pair (Ty.str.pair Ty.str).slice)))], outs := [Sh.one (C0.dat Ty.bool)], upd := [], pre := fun a => true, spec := fun a => (Sp.f125 a.1 a.2.1 a.2.2.1 a.2.2.2).1, wrt := fun a => (Sp.f125 a.1 a.2.1 a.2.2.1 a.2.2.2).2 }
def f125_g (v : denS [Sh.one (C0.dat Ty.bool)] × denS []) : Res := ⟨mkS [Sh.one (C0.dat Ty.bool)] v.1, mkU [] v.2⟩
theorem f125_raw (x0 : List (Int × Int × ByteArray)) (x1 : ByteArray) (x2 : Int) (x3 : List (ByteArray × ByteArray)) : abody Γ (orc [e70]) 0 125 [XV.mk false [X.c (X0.dat ((Ty.int IntKind.i64).pair ((Ty.int IntKind.i64).pair Ty.str)).slice x0)], XV.mk false [X.c (X0.rptr (Ty.str.pair ((Ty.int IntKind.i64).pair (Ty.str.pair Ty.str).slice)) (x1, x2, x3))]] = some (Res.mk [XV.mk false [X.c (X0.dat Ty.bool (Sp.f70 x2 (0 : Int) (IntKind.i64.wrap ((↑x0.length : Int) - (1 : Int)))).1)]] []) := by kernel_rfl
theorem f125_form (x0 : List (Int × Int × ByteArray)) (x1 : ByteArray) (x2 : Int) (x3 : List (ByteArray × ByteArray)) : (some (Res.mk [XV.mk false [X.c (X0.dat Ty.bool (Sp.f70 x2 (0 : Int) (IntKind.i64.wrap ((↑x0.length : Int) - (1 : Int)))).1)]] [])) = some (f125_g (Sp.f125 x0 x1 x2 x3)) := by
  unfold Sp.f125
  exact rfl
theorem e125_ok : Valid Try.prog Γ e125 := valid_auto ok (vcons e70_ok vnil) fun a => (f125_raw a.1 a.2.1 a.2.2.1 a.2.2.2).trans (f125_form a.1 a.2.1 a.2.2.1 a.2.2.2)

def Sp.f126_pre (x0 : List (ByteArray × ByteArray)) (x1 : ByteArray) (x2 : ByteArray) : Bool := true
def Sp.f126 (x0 : List (ByteArray × ByteArray)) (x1 : ByteArray) (x2 : ByteArray) := (decide (Sp.idx (Sp.sameE x1 x2) x0 (0 : Int) ≥ (0 : Int)), ())
noncomputable def e126 : Ent := { f := 126, ins := [Sh.one (C0.dat (Ty.str.pair Ty.str).slice), Sh.agg [C0.dat Ty.str, C0.dat Ty.str]], outs := [Sh.one (C0.dat Ty.bool)], upd := [], pre := fun a => true, spec := fun a => (Sp.f126 a.1 a.2.1 a.2.2).1, wrt := fun a => (Sp.f126 a.1 a.2.1 a.2.2).2 }
def f126_g (v : denS [Sh.one (C0.dat Ty.bool)] × denS []) : Res := ⟨mkS [Sh.one (C0.dat Ty.bool)] v.1, mkU [] v.2⟩
theorem f126_raw (x0 : List (ByteArray × ByteArray)) (x1 : ByteArray) (x2 : ByteArray) : abody Γ (orc [e166]) 0 126 [XV.mk false [X.c (X0.dat (Ty.str.pair Ty.str).slice x0)], XV.mk true [X.c (X0.dat Ty.str x1), X.c (X0.dat Ty.str x2)]] = some (Res.mk [XV.mk false [X.c (X0.dat Ty.bool (decide (Sp.idx (Sp.sameE x1 x2) x0 (0 : Int) ≥ (0 : Int))))]] []) := by kernel_rfl
theorem f126_form (x0 : List (ByteArray × ByteArray)) (x1 : ByteArray) (x2 : ByteArray) : (some (Res.mk [XV.mk false [X.c (X0.dat Ty.bool (decide (Sp.idx (Sp.sameE x1 x2) x0 (0 : Int) ≥ (0 : Int))))]] [])) = some (f126_g (Sp.f126 x0 x1 x2)) := by
  unfold Sp.f126
  exact rfl
theorem e126_ok : Valid Try.prog Γ e126 := valid_auto ok (vcons e166_ok vnil) fun a => (f126_raw a.1 a.2.1 a.2.2).trans (f126_form a.1 a.2.1 a.2.2)

def Sp.f82_pre (x0 : ByteArray) (x1 : Int) (x2 : List (ByteArray × ByteArray)) (x3 : Int) (x4 : ByteArray) (x5 : List (Int × Int × ByteArray)) (x6 : List (Int × Int × ByteArray)) : Bool := (bif !x4.toList == x0.toList then true else (bif x3 == (3 : Int) then true else (bif !(Sp.f125 x6 x0 x1 x2).1 then true else (bif x3 == (2 : Int) then (bif !(Sp.f125 x5 x0 x1 x2).1 then true else (decide ((0 : Int) ≤ x1) && decide (x1 < (↑x6.length : Int)) && (bif x3 == (2 : Int) then decide ((0 : Int) ≤ x1) && decide (x1 < (↑x5.length : Int)) else true))) else (decide ((0 : Int) ≤ x1) && decide (x1 < (↑x6.length : Int)) && (bif x3 == (2 : Int) then decide ((0 : Int) ≤ x1) && decide (x1 < (↑x5.length : Int)) else true))))))
def Sp.f82 (x0 : ByteArray) (x1 : Int) (x2 : List (ByteArray × ByteArray)) (x3 : Int) (x4 : ByteArray) (x5 : List (Int × Int × ByteArray)) (x6 : List (Int × Int × ByteArray)) := (bif !x4.toList == x0.toList then ((true, true), ()) else (bif x3 == (3 : Int) then ((true, true), ()) else (bif !(Sp.f125 x6 x0 x1 x2).1 then ((false, false), ()) else (bif x3 == (2 : Int) then (bif !(Sp.f125 x5 x0 x1 x2).1 then ((false, false), ()) else (bif x3 == (2 : Int) then (bif (x5.getD x1.toNat ((0 : Int), (0 : Int), ByteArray.mk #[])).2.2.toList == (x6.getD x1.toNat ((0 : Int), (0 : Int), ByteArray.mk #[])).2.2.toList then ((true, true), ()) else (((Sp.f126 x2 (x5.getD x1.toNat ((0 : Int), (0 : Int), ByteArray.mk #[])).2.2 (x6.getD x1.toNat ((0 : Int), (0 : Int), ByteArray.mk #[])).2.2).1, true), ())) else (((Sp.f126 x2 (ByteArray.mk #[]) (x6.getD x1.toNat ((0 : Int), (0 : Int), ByteArray.mk #[])).2.2).1, true), ()))) else (bif x3 == (2 : Int) then (bif (x5.getD x1.toNat ((0 : Int), (0 : Int), ByteArray.mk #[])).2.2.toList == (x6.getD x1.toNat ((0 : Int), (0 : Int), ByteArray.mk #[])).2.2.toList then ((true, true), ()) else (((Sp.f126 x2 (x5.getD x1.toNat ((0 : Int), (0 : Int), ByteArray.mk #[])).2.2 (x6.getD x1.toNat ((0 : Int), (0 : Int), ByteArray.mk #[])).2.2).1, true), ())) else (((Sp.f126 x2 (ByteArray.mk #[]) (x6.getD x1.toNat ((0 : Int), (0 : Int), ByteArray.mk #[])).2.2).1, true), ()))))))
noncomputable def e82 : Ent := { f := 82, ins := [Sh.agg [C0.dat Ty.str, C0.dat (Ty.int IntKind.i64), C0.dat (Ty.str.pair Ty.str).slice], Sh.agg [C0.dat (Ty.int IntKind.i64), C0.dat Ty.str, C0.dat ((Ty.int IntKind.i64).pair ((Ty.int IntKind.i64).pair Ty.str)).slice, C0.dat ((Ty.int IntKind.i64).pair ((Ty.int IntKind.i64).pair Ty.str)).slice]], outs := [Sh.one (C0.dat Ty.bool), Sh.one (C0.dat Ty.bool)], upd := [], pre := fun a => Sp.f82_pre a.1.1 a.1.2.1 a.1.2.2 a.2.1 a.2.2.1 a.2.2.2.1 a.2.2.2.2, spec := fun a => (Sp.f82 a.1.1 a.1.2.1 a.1.2.2 a.2.1 a.2.2.1 a.2.2.2.1 a.2.2.2.2).1, wrt := fun a => (Sp.f82 a.1.1 a.1.2.1 a.1.2.2 a.2.1 a.2.2.1 a.2.2.2.1 a.2.2.2.2).2 }
def f82_g (v : denS [Sh.one (C0.dat Ty.bool), Sh.one (C0.dat Ty.bool)] × denS []) : Res := ⟨mkS [Sh.one (C0.dat Ty.bool), Sh.one (C0.dat Ty.bool)] v.1, mkU [] v.2⟩
theorem f82_raw (x0 : ByteArray) (x1 : Int) (x2 : List (ByteArray × ByteArray)) (x3 : Int) (x4 : ByteArray) (x5 : List (Int × Int × ByteArray)) (x6 : List (Int × Int × ByteArray)) : abody Γ (orc [e125, e126]) 0 82 [XV.mk true [X.c (X0.dat Ty.str x0), X.c (X0.dat (Ty.int IntKind.i64) x1), X.c (X0.dat (Ty.str.pair Ty.str).slice x2)], XV.mk true [X.c (X0.dat (Ty.int IntKind.i64) x3), X.c (X0.dat Ty.str x4), X.c (X0.dat ((Ty.int IntKind.i64).pair ((Ty.int IntKind.i64).pair Ty.str)).slice x5), X.c (X0.dat ((Ty.int IntKind.i64).pair ((Ty.int IntKind.i64).pair Ty.str)).slice x6)]] = bif !x4.toList == x0.toList then some (Res.mk [XV.mk false [X.c (X0.dat Ty.bool true)], XV.mk false [X.c (X0.dat Ty.bool true)]] []) else bif x3 == (3 : Int) then some (Res.mk [XV.mk false [X.c (X0.dat Ty.bool true)], XV.mk false [X.c (X0.dat Ty.bool true)]] []) else bif !(Sp.f125 x6 x0 x1 x2).1 then some (Res.mk [XV.mk false [X.c (X0.dat Ty.bool false)], XV.mk false [X.c (X0.dat Ty.bool false)]] []) else bif x3 == (2 : Int) then bif !(Sp.f125 x5 x0 x1 x2).1 then some (Res.mk [XV.mk false [X.c (X0.dat Ty.bool false)], XV.mk false [X.c (X0.dat Ty.bool false)]] []) else chk (decide ((0 : Int) ≤ x1) && decide (x1 < (↑x6.length : Int))) (bif x3 == (2 : Int) then chk (decide ((0 : Int) ≤ x1) && decide (x1 < (↑x5.length : Int))) (bif (x5.getD x1.toNat ((0 : Int), (0 : Int), ByteArray.mk #[])).2.2.toList == (x6.getD x1.toNat ((0 : Int), (0 : Int), ByteArray.mk #[])).2.2.toList then some (Res.mk [XV.mk false [X.c (X0.dat Ty.bool true)], XV.mk false [X.c (X0.dat Ty.bool true)]] []) else some (Res.mk [XV.mk false [X.c (X0.dat Ty.bool (Sp.f126 x2 (x5.getD x1.toNat ((0 : Int), (0 : Int), ByteArray.mk #[])).2.2 (x6.getD x1.toNat ((0 : Int), (0 : Int), ByteArray.mk #[])).2.2).1)], XV.mk false [X.c (X0.dat Ty.bool true)]] [])) else some (Res.mk [XV.mk false [X.c (X0.dat Ty.bool (Sp.f126 x2 (ByteArray.mk #[]) (x6.getD x1.toNat ((0 : Int), (0 : Int), ByteArray.mk #[])).2.2).1)], XV.mk false [X.c (X0.dat Ty.bool true)]] [])) else chk (decide ((0 : Int) ≤ x1) && decide (x1 < (↑x6.length : Int))) (bif x3 == (2 : Int) then chk (decide ((0 : Int) ≤ x1) && decide (x1 < (↑x5.length : Int))) (bif (x5.getD x1.toNat ((0 : Int), (0 : Int), ByteArray.mk #[])).2.2.toList == (x6.getD x1.toNat ((0 : Int), (0 : Int), ByteArray.mk #[])).2.2.toList then some (Res.mk [XV.mk false [X.c (X0.dat Ty.bool true)], XV.mk false [X.c (X0.dat Ty.bool true)]] []) else some (Res.mk [XV.mk false [X.c (X0.dat Ty.bool (Sp.f126 x2 (x5.getD x1.toNat ((0 : Int), (0 : Int), ByteArray.mk #[])).2.2 (x6.getD x1.toNat ((0 : Int), (0 : Int), ByteArray.mk #[])).2.2).1)], XV.mk false [X.c (X0.dat Ty.bool true)]] [])) else some (Res.mk [XV.mk false [X.c (X0.dat Ty.bool (Sp.f126 x2 (ByteArray.mk #[]) (x6.getD x1.toNat ((0 : Int), (0 : Int), ByteArray.mk #[])).2.2).1)], XV.mk false [X.c (X0.dat Ty.bool true)]] [])) := by kernel_rfl
theorem f82_form (x0 : ByteArray) (x1 : Int) (x2 : List (ByteArray × ByteArray)) (x3 : Int) (x4 : ByteArray) (x5 : List (Int × Int × ByteArray)) (x6 : List (Int × Int × ByteArray)) : (bif !x4.toList == x0.toList then some (Res.mk [XV.mk false [X.c (X0.dat Ty.bool true)], XV.mk false [X.c (X0.dat Ty.bool true)]] []) else bif x3 == (3 : Int) then some (Res.mk [XV.mk false [X.c (X0.dat Ty.bool true)], XV.mk false [X.c (X0.dat Ty.bool true)]] []) else bif !(Sp.f125 x6 x0 x1 x2).1 then some (Res.mk [XV.mk false [X.c (X0.dat Ty.bool false)], XV.mk false [X.c (X0.dat Ty.bool false)]] []) else bif x3 == (2 : Int) then bif !(Sp.f125 x5 x0 x1 x2).1 then some (Res.mk [XV.mk false [X.c (X0.dat Ty.bool false)], XV.mk false [X.c (X0.dat Ty.bool false)]] []) else chk (decide ((0 : Int) ≤ x1) && decide (x1 < (↑x6.length : Int))) (bif x3 == (2 : Int) then chk (decide ((0 : Int) ≤ x1) && decide (x1 < (↑x5.length : Int))) (bif (x5.getD x1.toNat ((0 : Int), (0 : Int), ByteArray.mk #[])).2.2.toList == (x6.getD x1.toNat ((0 : Int), (0 : Int), ByteArray.mk #[])).2.2.toList then some (Res.mk [XV.mk false [X.c (X0.dat Ty.bool true)], XV.mk false [X.c (X0.dat Ty.bool true)]] []) else some (Res.mk [XV.mk false [X.c (X0.dat Ty.bool (Sp.f126 x2 (x5.getD x1.toNat ((0 : Int), (0 : Int), ByteArray.mk #[])).2.2 (x6.getD x1.toNat ((0 : Int), (0 : Int), ByteArray.mk #[])).2.2).1)], XV.mk false [X.c (X0.dat Ty.bool true)]] [])) else some (Res.mk [XV.mk false [X.c (X0.dat Ty.bool (Sp.f126 x2 (ByteArray.mk #[]) (x6.getD x1.toNat ((0 : Int), (0 : Int), ByteArray.mk #[])).2.2).1)], XV.mk false [X.c (X0.dat Ty.bool true)]] [])) else chk (decide ((0 : Int) ≤ x1) && decide (x1 < (↑x6.length : Int))) (bif x3 == (2 : Int) then chk (decide ((0 : Int) ≤ x1) && decide (x1 < (↑x5.length : Int))) (bif (x5.getD x1.toNat ((0 : Int), (0 : Int), ByteArray.mk #[])).2.2.toList == (x6.getD x1.toNat ((0 : Int), (0 : Int), ByteArray.mk #[])).2.2.toList then some (Res.mk [XV.mk false [X.c (X0.dat Ty.bool true)], XV.mk false [X.c (X0.dat Ty.bool true)]] []) else some (Res.mk [XV.mk false [X.c (X0.dat Ty.bool (Sp.f126 x2 (x5.getD x1.toNat ((0 : Int), (0 : Int), ByteArray.mk #[])).2.2 (x6.getD x1.toNat ((0 : Int), (0 : Int), ByteArray.mk #[])).2.2).1)], XV.mk false [X.c (X0.dat Ty.bool true)]] [])) else some (Res.mk [XV.mk false [X.c (X0.dat Ty.bool (Sp.f126 x2 (ByteArray.mk #[]) (x6.getD x1.toNat ((0 : Int), (0 : Int), ByteArray.mk #[])).2.2).1)], XV.mk false [X.c (X0.dat Ty.bool true)]] []))) = chk (Sp.f82_pre x0 x1 x2 x3 x4 x5 x6) (some (f82_g (Sp.f82 x0 x1 x2 x3 x4 x5 x6))) := by
  unfold Sp.f82_pre Sp.f82
  exact (cond_step f82_g ((lift_plain (rfl))) ((cond_step f82_g ((lift_plain (rfl))) ((cond_step f82_g ((lift_plain (rfl))) ((cond_step f82_g ((cond_step f82_g ((lift_plain (rfl))) ((chk_step ((cond_step f82_g ((chk_last ((cond_plain f82_g (rfl) (rfl))))) ((lift_plain (rfl))))))))) ((chk_step ((cond_step f82_g ((chk_last ((cond_plain f82_g (rfl) (rfl))))) ((lift_plain (rfl))))))))))))))
theorem e82_ok : Valid Try.prog Γ e82 := valid_auto ok (vcons e125_ok (vcons e126_ok vnil)) fun a => (f82_raw a.1.1 a.1.2.1 a.1.2.2 a.2.1 a.2.2.1 a.2.2.2.1 a.2.2.2.2).trans (f82_form a.1.1 a.1.2.1 a.1.2.2 a.2.1 a.2.2.1 a.2.2.2.1 a.2.2.2.2)

def Sp.f39_pre (x0 : ByteArray) (x1 : Int) (x2 : List (ByteArray × ByteArray)) (x3 : Int) (x4 : ByteArray) (x5 : List (Int × Int × ByteArray)) (x6 : List (Int × Int × ByteArray)) : Bool := (bif decide ((↑x5.length : Int) > (8 : Int)) then true else (bif decide ((↑x6.length : Int) > (8 : Int)) then true else (bif decide ((↑x2.length : Int) > (20 : Int)) then true else Sp.f82_pre x0 x1 x2 x3 x4 x5 x6)))
def Sp.f39 (x0 : ByteArray) (x1 : Int) (x2 : List (ByteArray × ByteArray)) (x3 : Int) (x4 : ByteArray) (x5 : List (Int × Int × ByteArray)) (x6 : List (Int × Int × ByteArray)) := (bif decide ((↑x5.length : Int) > (8 : Int)) then ((false, (1 : Int)), ()) else (bif decide ((↑x6.length : Int) > (8 : Int)) then ((false, (1 : Int)), ()) else (bif decide ((↑x2.length : Int) > (20 : Int)) then ((false, (1 : Int)), ()) else (bif !(Sp.f82 x0 x1 x2 x3 x4 x5 x6).1.2 then ((false, (1 : Int)), ()) else (((Sp.f82 x0 x1 x2 x3 x4 x5 x6).1.1, (0 : Int)), ())))))
noncomputable def e39 : Ent := { f := 39, ins := [Sh.agg [C0.dat Ty.str, C0.dat (Ty.int IntKind.i64), C0.dat (Ty.str.pair Ty.str).slice], Sh.agg [C0.dat (Ty.int IntKind.i64), C0.dat Ty.str, C0.dat ((Ty.int IntKind.i64).pair ((Ty.int IntKind.i64).pair Ty.str)).slice, C0.dat ((Ty.int IntKind.i64).pair ((Ty.int IntKind.i64).pair Ty.str)).slice]], outs := [Sh.one (C0.dat Ty.bool), Sh.one (C0.dat (Ty.int IntKind.i64))], upd := [], pre := fun a => Sp.f39_pre a.1.1 a.1.2.1 a.1.2.2 a.2.1 a.2.2.1 a.2.2.2.1 a.2.2.2.2, spec := fun a => (Sp.f39 a.1.1 a.1.2.1 a.1.2.2 a.2.1 a.2.2.1 a.2.2.2.1 a.2.2.2.2).1, wrt := fun a => (Sp.f39 a.1.1 a.1.2.1 a.1.2.2 a.2.1 a.2.2.1 a.2.2.2.1 a.2.2.2.2).2 }
def f39_g (v : denS [Sh.one (C0.dat Ty.bool), Sh.one (C0.dat (Ty.int IntKind.i64))] × denS []) : Res := ⟨mkS [Sh.one (C0.dat Ty.bool), Sh.one (C0.dat (Ty.int IntKind.i64))] v.1, mkU [] v.2⟩
theorem f39_raw (x0 : ByteArray) (x1 : Int) (x2 : List (ByteArray × ByteArray)) (x3 : Int) (x4 : ByteArray) (x5 : List (Int × Int × ByteArray)) (x6 : List (Int × Int × ByteArray)) : abody Γ (orc [e82]) 0 39 [XV.mk true [X.c (X0.dat Ty.str x0), X.c (X0.dat (Ty.int IntKind.i64) x1), X.c (X0.dat (Ty.str.pair Ty.str).slice x2)], XV.mk true [X.c (X0.dat (Ty.int IntKind.i64) x3), X.c (X0.dat Ty.str x4), X.c (X0.dat ((Ty.int IntKind.i64).pair ((Ty.int IntKind.i64).pair Ty.str)).slice x5), X.c (X0.dat ((Ty.int IntKind.i64).pair ((Ty.int IntKind.i64).pair Ty.str)).slice x6)]] = bif decide ((↑x5.length : Int) > (8 : Int)) then some (Res.mk [XV.mk false [X.c (X0.dat Ty.bool false)], XV.mk false [X.c (X0.dat (Ty.int IntKind.i64) (1 : Int))]] []) else bif decide ((↑x6.length : Int) > (8 : Int)) then some (Res.mk [XV.mk false [X.c (X0.dat Ty.bool false)], XV.mk false [X.c (X0.dat (Ty.int IntKind.i64) (1 : Int))]] []) else bif decide ((↑x2.length : Int) > (20 : Int)) then some (Res.mk [XV.mk false [X.c (X0.dat Ty.bool false)], XV.mk false [X.c (X0.dat (Ty.int IntKind.i64) (1 : Int))]] []) else chk (Sp.f82_pre x0 x1 x2 x3 x4 x5 x6) (bif !(Sp.f82 x0 x1 x2 x3 x4 x5 x6).1.2 then some (Res.mk [XV.mk false [X.c (X0.dat Ty.bool false)], XV.mk false [X.c (X0.dat (Ty.int IntKind.i64) (1 : Int))]] []) else some (Res.mk [XV.mk false [X.c (X0.dat Ty.bool (Sp.f82 x0 x1 x2 x3 x4 x5 x6).1.1)], XV.mk false [X.c (X0.dat (Ty.int IntKind.i64) (0 : Int))]] [])) := by kernel_rfl
theorem f39_form (x0 : ByteArray) (x1 : Int) (x2 : List (ByteArray × ByteArray)) (x3 : Int) (x4 : ByteArray) (x5 : List (Int × Int × ByteArray)) (x6 : List (Int × Int × ByteArray)) : (bif decide ((↑x5.length : Int) > (8 : Int)) then some (Res.mk [XV.mk false [X.c (X0.dat Ty.bool false)], XV.mk false [X.c (X0.dat (Ty.int IntKind.i64) (1 : Int))]] []) else bif decide ((↑x6.length : Int) > (8 : Int)) then some (Res.mk [XV.mk false [X.c (X0.dat Ty.bool false)], XV.mk false [X.c (X0.dat (Ty.int IntKind.i64) (1 : Int))]] []) else bif decide ((↑x2.length : Int) > (20 : Int)) then some (Res.mk [XV.mk false [X.c (X0.dat Ty.bool false)], XV.mk false [X.c (X0.dat (Ty.int IntKind.i64) (1 : Int))]] []) else chk (Sp.f82_pre x0 x1 x2 x3 x4 x5 x6) (bif !(Sp.f82 x0 x1 x2 x3 x4 x5 x6).1.2 then some (Res.mk [XV.mk false [X.c (X0.dat Ty.bool false)], XV.mk false [X.c (X0.dat (Ty.int IntKind.i64) (1 : Int))]] []) else some (Res.mk [XV.mk false [X.c (X0.dat Ty.bool (Sp.f82 x0 x1 x2 x3 x4 x5 x6).1.1)], XV.mk false [X.c (X0.dat (Ty.int IntKind.i64) (0 : Int))]] []))) = chk (Sp.f39_pre x0 x1 x2 x3 x4 x5 x6) (some (f39_g (Sp.f39 x0 x1 x2 x3 x4 x5 x6))) := by
  unfold Sp.f39_pre Sp.f39
  exact (cond_step f39_g ((lift_plain (rfl))) ((cond_step f39_g ((lift_plain (rfl))) ((cond_step f39_g ((lift_plain (rfl))) ((chk_last ((cond_plain f39_g (rfl) (rfl))))))))))
theorem e39_ok : Valid Try.prog Γ e39 := valid_auto ok (vcons e82_ok vnil) fun a => (f39_raw a.1.1 a.1.2.1 a.1.2.2 a.2.1 a.2.2.1 a.2.2.2.1 a.2.2.2.2).trans (f39_form a.1.1 a.1.2.1 a.1.2.2 a.2.1 a.2.2.1 a.2.2.2.1 a.2.2.2.2)

def Sp.f8_pre (x0 : ByteArray) (x1 : Int) (x2 : List (ByteArray × ByteArray)) (x3 : Int) (x4 : ByteArray) (x5 : List (Int × Int × ByteArray)) (x6 : List (Int × Int × ByteArray)) : Bool := (bif decide ((Sp.f34 x0 x1 x2 (1048576 : Int)).1 < (0 : Int)) then true else (bif decide ((Sp.f35 x3 x4 x5 x6 (Sp.f34 x0 x1 x2 (1048576 : Int)).1).1 < (0 : Int)) then true else (Sp.f37_pre x0 x1 x2 && (Sp.f38_pre x3 x4 x5 x6 && (Sp.f36_pre (Sp.f37 x0 x1 x2).1.1 (Sp.f37 x0 x1 x2).1.2.1 (Sp.f37 x0 x1 x2).1.2.2 (Sp.f38 x3 x4 x5 x6).1.1 (Sp.f38 x3 x4 x5 x6).1.2.1 (Sp.f38 x3 x4 x5 x6).1.2.2.1 (Sp.f38 x3 x4 x5 x6).1.2.2.2 && (Sp.f37_pre x0 x1 x2 && (Sp.f38_pre x3 x4 x5 x6 && (Sp.f39_pre (Sp.f37 x0 x1 x2).1.1 (Sp.f37 x0 x1 x2).1.2.1 (Sp.f37 x0 x1 x2).1.2.2 (Sp.f38 x3 x4 x5 x6).1.1 (Sp.f38 x3 x4 x5 x6).1.2.1 (Sp.f38 x3 x4 x5 x6).1.2.2.1 (Sp.f38 x3 x4 x5 x6).1.2.2.2 && (bif !eqB (Sp.f39 (Sp.f37 x0 x1 x2).1.1 (Sp.f37 x0 x1 x2).1.2.1 (Sp.f37 x0 x1 x2).1.2.2 (Sp.f38 x3 x4 x5 x6).1.1 (Sp.f38 x3 x4 x5 x6).1.2.1 (Sp.f38 x3 x4 x5 x6).1.2.2.1 (Sp.f38 x3 x4 x5 x6).1.2.2.2).1.1 (Sp.f36 (Sp.f37 x0 x1 x2).1.1 (Sp.f37 x0 x1 x2).1.2.1 (Sp.f37 x0 x1 x2).1.2.2 (Sp.f38 x3 x4 x5 x6).1.1 (Sp.f38 x3 x4 x5 x6).1.2.1 (Sp.f38 x3 x4 x5 x6).1.2.2.1 (Sp.f38 x3 x4 x5 x6).1.2.2.2).1.1 then true else (bif (Sp.f39 (Sp.f37 x0 x1 x2).1.1 (Sp.f37 x0 x1 x2).1.2.1 (Sp.f37 x0 x1 x2).1.2.2 (Sp.f38 x3 x4 x5 x6).1.1 (Sp.f38 x3 x4 x5 x6).1.2.1 (Sp.f38 x3 x4 x5 x6).1.2.2.1 (Sp.f38 x3 x4 x5 x6).1.2.2.2).1.2 != (Sp.f36 (Sp.f37 x0 x1 x2).1.1 (Sp.f37 x0 x1 x2).1.2.1 (Sp.f37 x0 x1 x2).1.2.2 (Sp.f38 x3 x4 x5 x6).1.1 (Sp.f38 x3 x4 x5 x6).1.2.1 (Sp.f38 x3 x4 x5 x6).1.2.2.1 (Sp.f38 x3 x4 x5 x6).1.2.2.2).1.2 then true else (Sp.f37_pre x0 x1 x2 && (bif !(Sp.f40 (Sp.f37 x0 x1 x2).1.1 (Sp.f37 x0 x1 x2).1.2.1 (Sp.f37 x0 x1 x2).1.2.2 (Sp.f37 x0 x1 x2).1.1 (Sp.f37 x0 x1 x2).1.2.1 (Sp.f37 x0 x1 x2).1.2.2).1 then true else Sp.f38_pre x3 x4 x5 x6))))))))))))
def Sp.f8 (x0 : ByteArray) (x1 : Int) (x2 : List (ByteArray × ByteArray)) (x3 : Int) (x4 : ByteArray) (x5 : List (Int × Int × ByteArray)) (x6 : List (Int × Int × ByteArray)) := (bif decide ((Sp.f34 x0 x1 x2 (1048576 : Int)).1 < (0 : Int)) then (true, ()) else (bif decide ((Sp.f35 x3 x4 x5 x6 (Sp.f34 x0 x1 x2 (1048576 : Int)).1).1 < (0 : Int)) then (true, ()) else (bif !eqB (Sp.f39 (Sp.f37 x0 x1 x2).1.1 (Sp.f37 x0 x1 x2).1.2.1 (Sp.f37 x0 x1 x2).1.2.2 (Sp.f38 x3 x4 x5 x6).1.1 (Sp.f38 x3 x4 x5 x6).1.2.1 (Sp.f38 x3 x4 x5 x6).1.2.2.1 (Sp.f38 x3 x4 x5 x6).1.2.2.2).1.1 (Sp.f36 (Sp.f37 x0 x1 x2).1.1 (Sp.f37 x0 x1 x2).1.2.1 (Sp.f37 x0 x1 x2).1.2.2 (Sp.f38 x3 x4 x5 x6).1.1 (Sp.f38 x3 x4 x5 x6).1.2.1 (Sp.f38 x3 x4 x5 x6).1.2.2.1 (Sp.f38 x3 x4 x5 x6).1.2.2.2).1.1 then (false, ()) else (bif (Sp.f39 (Sp.f37 x0 x1 x2).1.1 (Sp.f37 x0 x1 x2).1.2.1 (Sp.f37 x0 x1 x2).1.2.2 (Sp.f38 x3 x4 x5 x6).1.1 (Sp.f38 x3 x4 x5 x6).1.2.1 (Sp.f38 x3 x4 x5 x6).1.2.2.1 (Sp.f38 x3 x4 x5 x6).1.2.2.2).1.2 != (Sp.f36 (Sp.f37 x0 x1 x2).1.1 (Sp.f37 x0 x1 x2).1.2.1 (Sp.f37 x0 x1 x2).1.2.2 (Sp.f38 x3 x4 x5 x6).1.1 (Sp.f38 x3 x4 x5 x6).1.2.1 (Sp.f38 x3 x4 x5 x6).1.2.2.1 (Sp.f38 x3 x4 x5 x6).1.2.2.2).1.2 then (false, ()) else (bif !(Sp.f40 (Sp.f37 x0 x1 x2).1.1 (Sp.f37 x0 x1 x2).1.2.1 (Sp.f37 x0 x1 x2).1.2.2 (Sp.f37 x0 x1 x2).1.1 (Sp.f37 x0 x1 x2).1.2.1 (Sp.f37 x0 x1 x2).1.2.2).1 then (false, ()) else (bif !(Sp.f41 (Sp.f38 x3 x4 x5 x6).1.1 (Sp.f38 x3 x4 x5 x6).1.2.1 (Sp.f38 x3 x4 x5 x6).1.2.2.1 (Sp.f38 x3 x4 x5 x6).1.2.2.2 (Sp.f38 x3 x4 x5 x6).1.1 (Sp.f38 x3 x4 x5 x6).1.2.1 (Sp.f38 x3 x4 x5 x6).1.2.2.1 (Sp.f38 x3 x4 x5 x6).1.2.2.2).1 then (false, ()) else (true, ())))))))
noncomputable def e8 : Ent := { f := 8, ins := [Sh.agg [C0.dat Ty.str, C0.dat (Ty.int IntKind.i64), C0.dat (Ty.str.pair Ty.str).slice], Sh.agg [C0.dat (Ty.int IntKind.i64), C0.dat Ty.str, C0.dat ((Ty.int IntKind.i64).pair ((Ty.int IntKind.i64).pair Ty.str)).slice, C0.dat ((Ty.int IntKind.i64).pair ((Ty.int IntKind.i64).pair Ty.str)).slice]], outs := [Sh.one (C0.dat Ty.bool)], upd := [], pre := fun a => Sp.f8_pre a.1.1 a.1.2.1 a.1.2.2 a.2.1 a.2.2.1 a.2.2.2.1 a.2.2.2.2, spec := fun a => (Sp.f8 a.1.1 a.1.2.1 a.1.2.2 a.2.1 a.2.2.1 a.2.2.2.1 a.2.2.2.2).1, wrt := fun a => (Sp.f8 a.1.1 a.1.2.1 a.1.2.2 a.2.1 a.2.2.1 a.2.2.2.1 a.2.2.2.2).2 }
def f8_g (v : denS [Sh.one (C0.dat Ty.bool)] × denS []) : Res := ⟨mkS [Sh.one (C0.dat Ty.bool)] v.1, mkU [] v.2⟩
theorem f8_raw (x0 : ByteArray) (x1 : Int) (x2 : List (ByteArray × ByteArray)) (x3 : Int) (x4 : ByteArray) (x5 : List (Int × Int × ByteArray)) (x6 : List (Int × Int × ByteArray)) : abody Γ (orc [e34, e35, e37, e38, e36, e39, e40, e41]) 0 8 [XV.mk true [X.c (X0.dat Ty.str x0), X.c (X0.dat (Ty.int IntKind.i64) x1), X.c (X0.dat (Ty.str.pair Ty.str).slice x2)], XV.mk true [X.c (X0.dat (Ty.int IntKind.i64) x3), X.c (X0.dat Ty.str x4), X.c (X0.dat ((Ty.int IntKind.i64).pair ((Ty.int IntKind.i64).pair Ty.str)).slice x5), X.c (X0.dat ((Ty.int IntKind.i64).pair ((Ty.int IntKind.i64).pair Ty.str)).slice x6)]] = bif decide ((Sp.f34 x0 x1 x2 (1048576 : Int)).1 < (0 : Int)) then some (Res.mk [XV.mk false [X.c (X0.dat Ty.bool true)]] []) else bif decide ((Sp.f35 x3 x4 x5 x6 (Sp.f34 x0 x1 x2 (1048576 : Int)).1).1 < (0 : Int)) then some (Res.mk [XV.mk false [X.c (X0.dat Ty.bool true)]] []) else chk (Sp.f37_pre x0 x1 x2) (chk (Sp.f38_pre x3 x4 x5 x6) (chk (Sp.f36_pre (Sp.f37 x0 x1 x2).1.1 (Sp.f37 x0 x1 x2).1.2.1 (Sp.f37 x0 x1 x2).1.2.2 (Sp.f38 x3 x4 x5 x6).1.1 (Sp.f38 x3 x4 x5 x6).1.2.1 (Sp.f38 x3 x4 x5 x6).1.2.2.1 (Sp.f38 x3 x4 x5 x6).1.2.2.2) (chk (Sp.f37_pre x0 x1 x2) (chk (Sp.f38_pre x3 x4 x5 x6) (chk (Sp.f39_pre (Sp.f37 x0 x1 x2).1.1 (Sp.f37 x0 x1 x2).1.2.1 (Sp.f37 x0 x1 x2).1.2.2 (Sp.f38 x3 x4 x5 x6).1.1 (Sp.f38 x3 x4 x5 x6).1.2.1 (Sp.f38 x3 x4 x5 x6).1.2.2.1 (Sp.f38 x3 x4 x5 x6).1.2.2.2) (bif !eqB (Sp.f39 (Sp.f37 x0 x1 x2).1.1 (Sp.f37 x0 x1 x2).1.2.1 (Sp.f37 x0 x1 x2).1.2.2 (Sp.f38 x3 x4 x5 x6).1.1 (Sp.f38 x3 x4 x5 x6).1.2.1 (Sp.f38 x3 x4 x5 x6).1.2.2.1 (Sp.f38 x3 x4 x5 x6).1.2.2.2).1.1 (Sp.f36 (Sp.f37 x0 x1 x2).1.1 (Sp.f37 x0 x1 x2).1.2.1 (Sp.f37 x0 x1 x2).1.2.2 (Sp.f38 x3 x4 x5 x6).1.1 (Sp.f38 x3 x4 x5 x6).1.2.1 (Sp.f38 x3 x4 x5 x6).1.2.2.1 (Sp.f38 x3 x4 x5 x6).1.2.2.2).1.1 then some (Res.mk [XV.mk false [X.c (X0.dat Ty.bool false)]] []) else bif (Sp.f39 (Sp.f37 x0 x1 x2).1.1 (Sp.f37 x0 x1 x2).1.2.1 (Sp.f37 x0 x1 x2).1.2.2 (Sp.f38 x3 x4 x5 x6).1.1 (Sp.f38 x3 x4 x5 x6).1.2.1 (Sp.f38 x3 x4 x5 x6).1.2.2.1 (Sp.f38 x3 x4 x5 x6).1.2.2.2).1.2 != (Sp.f36 (Sp.f37 x0 x1 x2).1.1 (Sp.f37 x0 x1 x2).1.2.1 (Sp.f37 x0 x1 x2).1.2.2 (Sp.f38 x3 x4 x5 x6).1.1 (Sp.f38 x3 x4 x5 x6).1.2.1 (Sp.f38 x3 x4 x5 x6).1.2.2.1 (Sp.f38 x3 x4 x5 x6).1.2.2.2).1.2 then some (Res.mk [XV.mk false [X.c (X0.dat Ty.bool false)]] []) else chk (Sp.f37_pre x0 x1 x2) (bif !(Sp.f40 (Sp.f37 x0 x1 x2).1.1 (Sp.f37 x0 x1 x2).1.2.1 (Sp.f37 x0 x1 x2).1.2.2 (Sp.f37 x0 x1 x2).1.1 (Sp.f37 x0 x1 x2).1.2.1 (Sp.f37 x0 x1 x2).1.2.2).1 then some (Res.mk [XV.mk false [X.c (X0.dat Ty.bool false)]] []) else chk (Sp.f38_pre x3 x4 x5 x6) (bif !(Sp.f41 (Sp.f38 x3 x4 x5 x6).1.1 (Sp.f38 x3 x4 x5 x6).1.2.1 (Sp.f38 x3 x4 x5 x6).1.2.2.1 (Sp.f38 x3 x4 x5 x6).1.2.2.2 (Sp.f38 x3 x4 x5 x6).1.1 (Sp.f38 x3 x4 x5 x6).1.2.1 (Sp.f38 x3 x4 x5 x6).1.2.2.1 (Sp.f38 x3 x4 x5 x6).1.2.2.2).1 then some (Res.mk [XV.mk false [X.c (X0.dat Ty.bool false)]] []) else some (Res.mk [XV.mk false [X.c (X0.dat Ty.bool true)]] []))))))))) := by kernel_rfl
theorem f8_form (x0 : ByteArray) (x1 : Int) (x2 : List (ByteArray × ByteArray)) (x3 : Int) (x4 : ByteArray) (x5 : List (Int × Int × ByteArray)) (x6 : List (Int × Int × ByteArray)) : (bif decide ((Sp.f34 x0 x1 x2 (1048576 : Int)).1 < (0 : Int)) then some (Res.mk [XV.mk false [X.c (X0.dat Ty.bool true)]] []) else bif decide ((Sp.f35 x3 x4 x5 x6 (Sp.f34 x0 x1 x2 (1048576 : Int)).1).1 < (0 : Int)) then some (Res.mk [XV.mk false [X.c (X0.dat Ty.bool true)]] []) else chk (Sp.f37_pre x0 x1 x2) (chk (Sp.f38_pre x3 x4 x5 x6) (chk (Sp.f36_pre (Sp.f37 x0 x1 x2).1.1 (Sp.f37 x0 x1 x2).1.2.1 (Sp.f37 x0 x1 x2).1.2.2 (Sp.f38 x3 x4 x5 x6).1.1 (Sp.f38 x3 x4 x5 x6).1.2.1 (Sp.f38 x3 x4 x5 x6).1.2.2.1 (Sp.f38 x3 x4 x5 x6).1.2.2.2) (chk (Sp.f37_pre x0 x1 x2) (chk (Sp.f38_pre x3 x4 x5 x6) (chk (Sp.f39_pre (Sp.f37 x0 x1 x2).1.1 (Sp.f37 x0 x1 x2).1.2.1 (Sp.f37 x0 x1 x2).1.2.2 (Sp.f38 x3 x4 x5 x6).1.1 (Sp.f38 x3 x4 x5 x6).1.2.1 (Sp.f38 x3 x4 x5 x6).1.2.2.1 (Sp.f38 x3 x4 x5 x6).1.2.2.2) (bif !eqB (Sp.f39 (Sp.f37 x0 x1 x2).1.1 (Sp.f37 x0 x1 x2).1.2.1 (Sp.f37 x0 x1 x2).1.2.2 (Sp.f38 x3 x4 x5 x6).1.1 (Sp.f38 x3 x4 x5 x6).1.2.1 (Sp.f38 x3 x4 x5 x6).1.2.2.1 (Sp.f38 x3 x4 x5 x6).1.2.2.2).1.1 (Sp.f36 (Sp.f37 x0 x1 x2).1.1 (Sp.f37 x0 x1 x2).1.2.1 (Sp.f37 x0 x1 x2).1.2.2 (Sp.f38 x3 x4 x5 x6).1.1 (Sp.f38 x3 x4 x5 x6).1.2.1 (Sp.f38 x3 x4 x5 x6).1.2.2.1 (Sp.f38 x3 x4 x5 x6).1.2.2.2).1.1 then some (Res.mk [XV.mk false [X.c (X0.dat Ty.bool false)]] []) else bif (Sp.f39 (Sp.f37 x0 x1 x2).1.1 (Sp.f37 x0 x1 x2).1.2.1 (Sp.f37 x0 x1 x2).1.2.2 (Sp.f38 x3 x4 x5 x6).1.1 (Sp.f38 x3 x4 x5 x6).1.2.1 (Sp.f38 x3 x4 x5 x6).1.2.2.1 (Sp.f38 x3 x4 x5 x6).1.2.2.2).1.2 != (Sp.f36 (Sp.f37 x0 x1 x2).1.1 (Sp.f37 x0 x1 x2).1.2.1 (Sp.f37 x0 x1 x2).1.2.2 (Sp.f38 x3 x4 x5 x6).1.1 (Sp.f38 x3 x4 x5 x6).1.2.1 (Sp.f38 x3 x4 x5 x6).1.2.2.1 (Sp.f38 x3 x4 x5 x6).1.2.2.2).1.2 then some (Res.mk [XV.mk false [X.c (X0.dat Ty.bool false)]] []) else chk (Sp.f37_pre x0 x1 x2) (bif !(Sp.f40 (Sp.f37 x0 x1 x2).1.1 (Sp.f37 x0 x1 x2).1.2.1 (Sp.f37 x0 x1 x2).1.2.2 (Sp.f37 x0 x1 x2).1.1 (Sp.f37 x0 x1 x2).1.2.1 (Sp.f37 x0 x1 x2).1.2.2).1 then some (Res.mk [XV.mk false [X.c (X0.dat Ty.bool false)]] []) else chk (Sp.f38_pre x3 x4 x5 x6) (bif !(Sp.f41 (Sp.f38 x3 x4 x5 x6).1.1 (Sp.f38 x3 x4 x5 x6).1.2.1 (Sp.f38 x3 x4 x5 x6).1.2.2.1 (Sp.f38 x3 x4 x5 x6).1.2.2.2 (Sp.f38 x3 x4 x5 x6).1.1 (Sp.f38 x3 x4 x5 x6).1.2.1 (Sp.f38 x3 x4 x5 x6).1.2.2.1 (Sp.f38 x3 x4 x5 x6).1.2.2.2).1 then some (Res.mk [XV.mk false [X.c (X0.dat Ty.bool false)]] []) else some (Res.mk [XV.mk false [X.c (X0.dat Ty.bool true)]] [])))))))))) = chk (Sp.f8_pre x0 x1 x2 x3 x4 x5 x6) (some (f8_g (Sp.f8 x0 x1 x2 x3 x4 x5 x6))) := by
  unfold Sp.f8_pre Sp.f8
  exact (cond_step f8_g ((lift_plain (rfl))) ((cond_step f8_g ((lift_plain (rfl))) ((chk_step ((chk_step ((chk_step ((chk_step ((chk_step ((chk_step ((cond_step f8_g ((lift_plain (rfl))) ((cond_step f8_g ((lift_plain (rfl))) ((chk_step ((cond_step f8_g ((lift_plain (rfl))) ((chk_last ((cond_plain f8_g (rfl) (rfl))))))))))))))))))))))))))))
theorem e8_ok : Valid Try.prog Γ e8 := valid_auto ok (vcons e34_ok (vcons e35_ok (vcons e37_ok (vcons e38_ok (vcons e36_ok (vcons e39_ok (vcons e40_ok (vcons e41_ok vnil)))))))) fun a => (f8_raw a.1.1 a.1.2.1 a.1.2.2 a.2.1 a.2.2.1 a.2.2.2.1 a.2.2.2.2).trans (f8_form a.1.1 a.1.2.1 a.1.2.2 a.2.1 a.2.2.1 a.2.2.2.1 a.2.2.2.2)

end Go.Proofs.GR.T
namespace Go.Proofs.GR.T
open Go Go.Proofs Go.Proofs.GR
theorem eqS_list (a b : ByteArray) : Go.Proofs.GR.eqS a b = (b.toList == a.toList) := by
  unfold Go.Proofs.GR.eqS
  rw [beq_toListBytes, Bool.eq_iff_iff]
  simp only [beq_iff_eq]
  exact eq_comm
theorem may_eq (a b : ByteArray) : ∀ (gs : List V2), Sp.may a b gs = !Sp.allW (fun x => !Sp.sameE a b x) gs
  | [] => rfl
  | x :: r => by
    rw [Sp.may, Sp.allW]
    unfold Sp.sameE
    rw [eqS_list, eqS_list, may_eq a b r]
    unfold Sp.sameE
    cases x.1.toList == a.toList <;> cases x.2.toList == b.toList <;> simp
theorem f126_eq (a b : ByteArray) (gs : List V2) : (Sp.f126 gs a b).1 = Sp.may a b gs := by
  unfold Sp.f126
  rw [idx_ge gs 0 (Int.le_refl _), may_eq]
theorem has_dec (xs : List V3) (i : Int) : (decide ((0 : Int) ≤ i) && decide (i < (xs.length : Int))) = Sp.has xs i := by
  unfold Sp.has
  cases decide (0 ≤ i) <;> rfl
theorem within_has {xs : List V3} (h : xs.length ≤ 8) (i : Int) : (bif decide (i ≥ (0 : Int)) then (decide (i ≤ IntKind.i64.wrap ((xs.length : Int) - 1)), ()) else (false, ())).1 = Sp.has xs i := by
  rw [wrap64 (by omega) (by omega)]
  unfold Sp.has
  by_cases h0 : 0 ≤ i
  · rw [decide_eq_true h0, cond_true, cond_true]
    exact decide_eq_decide.2 ⟨fun h => by omega, fun h => by omega⟩
  · rw [decide_eq_false h0]
    rfl
theorem f79_has {xs : List V3} (h : xs.length ≤ 8) (i : Int) : (Sp.f79 i 0 (IntKind.i64.wrap ((xs.length : Int) - 1))).1 = Sp.has xs i := within_has h i
theorem f125_has {xs : List V3} (h : xs.length ≤ 8) (gt : ByteArray) (i : Int) (gs : List V2) : (Sp.f125 xs gt i gs).1 = Sp.has xs i := within_has h i
theorem f82_eq {old new : List V3} (h5 : old.length ≤ 8) (h6 : new.length ≤ 8) (gt : ByteArray) (gc : Int) (gs : List V2) (ev : Int) (ct : ByteArray) :
    Sp.f82 gt gc gs ev ct old new = ((bif !(ct.toList == gt.toList) then (true, true) else bif ev == 3 then (true, true) else bif !Sp.has new gc then (false, false) else bif ev == 2 then (bif !Sp.has old gc then (false, false) else (Sp.step gt gc gs ev ct old new, true)) else (Sp.step gt gc gs ev ct old new, true)), ()) := by
  unfold Sp.f82 Sp.step
  rw [f125_has h5, f125_has h6, f126_eq, f126_eq]
  show (bif !(ct.toList == gt.toList) then ((true, true), ()) else bif ev == 3 then ((true, true), ()) else bif !Sp.has new gc then ((false, false), ()) else bif ev == 2 then (bif !Sp.has old gc then ((false, false), ()) else bif ev == 2 then (bif (Sp.txt old gc).toList == (Sp.txt new gc).toList then ((true, true), ()) else ((Sp.may (Sp.txt old gc) (Sp.txt new gc) gs, true), ())) else ((Sp.may (ByteArray.mk #[]) (Sp.txt new gc) gs, true), ())) else bif ev == 2 then (bif (Sp.txt old gc).toList == (Sp.txt new gc).toList then ((true, true), ()) else ((Sp.may (Sp.txt old gc) (Sp.txt new gc) gs, true), ())) else ((Sp.may (ByteArray.mk #[]) (Sp.txt new gc) gs, true), ())) = _
  cases ct.toList == gt.toList <;> cases ev == 3 <;> cases Sp.has new gc <;> cases ev == 2 <;> cases Sp.has old gc <;> cases (Sp.txt old gc).toList == (Sp.txt new gc).toList <;> rfl
theorem not3 {ev : Int} (h : (ev == 3) = true) : (ev == 2) = false := by
  have : ev = 3 := by simpa using h
  rw [this]; rfl
theorem f39_eq (gt : ByteArray) (gc : Int) (gs : List V2) (ev : Int) (ct : ByteArray) (old new : List V3) : Sp.f39 gt gc gs ev ct old new = Sp.f36 gt gc gs ev ct old new := by
  unfold Sp.f39 Sp.f36
  by_cases c5 : (old.length : Int) > 8
  · rw [decide_eq_true c5]; rfl
  rw [decide_eq_false c5]
  by_cases c6 : (new.length : Int) > 8
  · rw [decide_eq_true c6]; rfl
  rw [decide_eq_false c6]
  cases decide ((gs.length : Int) > 20) with
  | true => rfl
  | false =>
    rw [f79_has (by omega), f79_has (by omega), f82_eq (by omega) (by omega)]
    have e3 : (ev != 3) = !(ev == 3) := rfl
    rw [e3]
    have hs : Sp.step gt gc gs ev ct old new = (bif !(ct.toList == gt.toList) then true else bif ev == 3 then true else Sp.step gt gc gs ev ct old new) := by
      unfold Sp.step
      cases ct.toList == gt.toList <;> cases ev == 3 <;> rfl
    rw [hs]
    generalize Sp.step gt gc gs ev ct old new = st
    cases h3 : ev == 3 with
    | true =>
      rw [not3 h3]
      cases ct.toList == gt.toList <;> rfl
    | false => cases ct.toList == gt.toList <;> cases Sp.has new gc <;> cases ev == 2 <;> cases Sp.has old gc <;> rfl
theorem f36_pre (gt : ByteArray) (gc : Int) (gs : List V2) (ev : Int) (ct : ByteArray) (old new : List V3) : Sp.f36_pre gt gc gs ev ct old new = true := by
  unfold Sp.f36_pre
  by_cases c5 : (old.length : Int) > 8
  · rw [decide_eq_true c5]; rfl
  rw [decide_eq_false c5]
  by_cases c6 : (new.length : Int) > 8
  · rw [decide_eq_true c6]; rfl
  rw [decide_eq_false c6]
  cases decide ((gs.length : Int) > 20) with
  | true => rfl
  | false =>
    rw [f79_has (by omega), f79_has (by omega)]
    have e3 : (ev != 3) = !(ev == 3) := rfl
    rw [e3]
    unfold Sp.stepOK
    cases h3 : ev == 3 with
    | true =>
      rw [not3 h3]
      cases ct.toList == gt.toList <;> rfl
    | false => cases ct.toList == gt.toList <;> cases Sp.has new gc <;> cases ev == 2 <;> cases Sp.has old gc <;> rfl
theorem f39_pre (gt : ByteArray) (gc : Int) (gs : List V2) (ev : Int) (ct : ByteArray) (old new : List V3) : Sp.f39_pre gt gc gs ev ct old new = true := by
  unfold Sp.f39_pre
  by_cases c5 : (old.length : Int) > 8
  · rw [decide_eq_true c5]; rfl
  rw [decide_eq_false c5]
  by_cases c6 : (new.length : Int) > 8
  · rw [decide_eq_true c6]; rfl
  rw [decide_eq_false c6]
  cases decide ((gs.length : Int) > 20) with
  | true => rfl
  | false =>
    unfold Sp.f82_pre
    rw [f125_has (by omega), f125_has (by omega), has_dec, has_dec]
    cases ct.toList == gt.toList <;> cases ev == 3 <;> cases Sp.has new gc <;> cases ev == 2 <;> cases Sp.has old gc <;> rfl
theorem szEn_le {x : V2} (h1 : x.1.size ≤ 9223372036854775807) (h2 : x.2.size ≤ 9223372036854775807) (l : Int) (h0 : 0 ≤ l) (hl : l ≤ 1048576) : Sp.szEn x l ≤ l := by
  unfold Sp.szEn Sp.f123
  rw [wrap64 (n := l - (x.1.size : Int)) (by omega) (by omega)]
  by_cases c1 : l - (x.1.size : Int) < 0
  · rw [decide_eq_true c1]; show (-1 : Int) ≤ l; omega
  · rw [decide_eq_false c1, cond_false, wrap64 (by omega) (by omega)]
    by_cases c2 : l - (x.1.size : Int) - (x.2.size : Int) < 0
    · rw [decide_eq_true c2]; show (-1 : Int) ≤ l; omega
    · rw [decide_eq_false c2]; show l - (x.1.size : Int) - (x.2.size : Int) ≤ l; omega
theorem szV_le {x : V3} (h1 : x.2.2.size ≤ 9223372036854775807) (l : Int) (h0 : 0 ≤ l) (hl : l ≤ 1048576) : Sp.szV x l ≤ l := by
  unfold Sp.szV Sp.f87
  rw [wrap64 (n := l - (x.2.2.size : Int)) (by omega) (by omega)]
  by_cases c1 : l - (x.2.2.size : Int) < 0
  · rw [decide_eq_true c1]; show (-1 : Int) ≤ l; omega
  · rw [decide_eq_false c1]; show l - (x.2.2.size : Int) ≤ l; omega
/-! Sizes of what comes in. -/
def Sp.okE (xs : List V2) : Prop := xs.length ≤ 9223372036854775807 ∧ ∀ x ∈ xs, x.1.size ≤ 9223372036854775807 ∧ x.2.size ≤ 9223372036854775807
def Sp.okV (xs : List V3) : Prop := xs.length ≤ 9223372036854775807 ∧ ∀ x ∈ xs, x.2.2.size ≤ 9223372036854775807
theorem f34_of {gt : ByteArray} {gc : Int} {gs : List V2} (h1 : gt.size ≤ 9223372036854775807) (h2 : Sp.okE gs) (h : ¬ (Sp.f34 gt gc gs 1048576).1 < 0) : (Sp.f34 gt gc gs 1048576).1 ≤ 1048576 ∧ gs.length ≤ 1048576 := by
  unfold Sp.f34 at h ⊢
  rw [wrap64 (n := 1048576 - (gt.size : Int)) (by omega) (by omega)] at h ⊢
  by_cases c1 : 1048576 - (gt.size : Int) < 0
  · rw [decide_eq_true c1] at h; exact absurd (show (-1 : Int) < 0 by decide) h
  · rw [decide_eq_false c1, cond_false] at h ⊢
    obtain ⟨s1, s2⟩ := szE_of (f := Sp.szEn) (xs := gs) (l := 1048576 - (gt.size : Int)) h2.1 (fun x hx l a b => szEn_le (h2.2 x hx).1 (h2.2 x hx).2 l a b) (by omega) (by omega)
    by_cases c2 : Sp.szE Sp.szEn gs (1048576 - (gt.size : Int)) < 0
    · rw [decide_eq_true c2] at h; exact absurd (show (-1 : Int) < 0 by decide) h
    · rw [decide_eq_false c2, cond_false]
      exact ⟨by show Sp.szE Sp.szEn gs (1048576 - (gt.size : Int)) ≤ _; omega, s2 (by omega)⟩
theorem f35_of {ev : Int} {ct : ByteArray} {old new : List V3} {l : Int} (h0 : 0 ≤ l) (hl : l ≤ 1048576) (h1 : ct.size ≤ 9223372036854775807) (h2 : Sp.okV old) (h3 : Sp.okV new) (h : ¬ (Sp.f35 ev ct old new l).1 < 0) : old.length ≤ 1048576 ∧ new.length ≤ 1048576 := by
  unfold Sp.f35 at h
  rw [wrap64 (n := l - (ct.size : Int)) (by omega) (by omega)] at h
  by_cases c1 : l - (ct.size : Int) < 0
  · rw [decide_eq_true c1] at h; exact absurd (show (-1 : Int) < 0 by decide) h
  · rw [decide_eq_false c1, cond_false] at h
    obtain ⟨s1, s2⟩ := szE_of (f := Sp.szV) (xs := old) (l := l - (ct.size : Int)) h2.1 (fun x hx l a b => szV_le (h2.2 x hx) l a b) (by omega) (by omega)
    by_cases c2 : Sp.szE Sp.szV old (l - (ct.size : Int)) < 0
    · rw [decide_eq_true c2] at h; exact absurd (show (-1 : Int) < 0 by decide) h
    · rw [decide_eq_false c2, cond_false] at h
      obtain ⟨s3, s4⟩ := szE_of (f := Sp.szV) (xs := new) (l := Sp.szE Sp.szV old (l - (ct.size : Int))) h3.1 (fun x hx l a b => szV_le (h3.2 x hx) l a b) (by omega) (by omega)
      by_cases c3 : Sp.szE Sp.szV new (Sp.szE Sp.szV old (l - (ct.size : Int))) < 0
      · rw [decide_eq_true c3] at h; exact absurd (show (-1 : Int) < 0 by decide) h
      · exact ⟨s2 (by omega), s4 (by omega)⟩
theorem eqE_self (x : V2) : Sp.eqE x x = true := by
  unfold Sp.eqE Sp.f127
  rw [beq_self_eq_true, beq_self_eq_true]
  rfl
theorem f40_self (gt : ByteArray) (gc : Int) (gs : List V2) : (Sp.f40 gt gc gs gt gc gs).1 = true := by
  unfold Sp.f40
  rw [beq_self_eq_true, show (gc != gc) = false by simp, eqW_self eqE_self]
  rfl
theorem f41_self (ev : Int) (ct : ByteArray) (old new : List V3) : (Sp.f41 ev ct old new ev ct old new).1 = true := by
  unfold Sp.f41
  rw [beq_self_eq_true, show (ev != ev) = false by simp, eqW_self eqV_self, eqW_self eqV_self]
  rfl
theorem law8_pre (gt : ByteArray) (gc : Int) (gs : List V2) (ev : Int) (ct : ByteArray) (old new : List V3) (h1 : gt.size ≤ 9223372036854775807) (h2 : Sp.okE gs) (h3 : ct.size ≤ 9223372036854775807) (h4 : Sp.okV old) (h5 : Sp.okV new) : Sp.f8_pre gt gc gs ev ct old new = true := by
  unfold Sp.f8_pre
  by_cases c1 : (Sp.f34 gt gc gs 1048576).1 < 0
  · rw [decide_eq_true c1]; rfl
  obtain ⟨a1, a2⟩ := f34_of h1 h2 c1
  rw [decide_eq_false c1]
  by_cases c2 : (Sp.f35 ev ct old new (Sp.f34 gt gc gs 1048576).1).1 < 0
  · rw [decide_eq_true c2]; rfl
  obtain ⟨b1, b2⟩ := f35_of (by omega) a1 h3 h4 h5 c2
  have p37 : Sp.f37_pre gt gc gs = true := fits32_mk (by omega)
  have p38 : Sp.f38_pre ev ct old new = true := by
    unfold Sp.f38_pre
    rw [fits32_mk (by omega), fits32_mk (by omega)]; rfl
  rw [decide_eq_false c2, p37, p38, f36_pre, f39_pre]
  simp
theorem law8 (gt : ByteArray) (gc : Int) (gs : List V2) (ev : Int) (ct : ByteArray) (old new : List V3) : (Sp.f8 gt gc gs ev ct old new).1 = true := by
  unfold Sp.f8
  have e37 : (Sp.f37 gt gc gs).1 = (gt, gc, gs) := rfl
  have e38 : (Sp.f38 ev ct old new).1 = (ev, ct, old, new) := rfl
  rw [e37, e38]
  show (bif _ then _ else bif _ then _ else bif !eqB (Sp.f39 gt gc gs ev ct old new).1.1 (Sp.f36 gt gc gs ev ct old new).1.1 then (false, ()) else bif (Sp.f39 gt gc gs ev ct old new).1.2 != (Sp.f36 gt gc gs ev ct old new).1.2 then (false, ()) else bif !(Sp.f40 gt gc gs gt gc gs).1 then (false, ()) else bif !(Sp.f41 ev ct old new ev ct old new).1 then (false, ()) else (true, ()) : Bool × Unit).1 = true
  rw [f39_eq, f40_self, f41_self]
  have e1 : eqB (Sp.f36 gt gc gs ev ct old new).1.1 (Sp.f36 gt gc gs ev ct old new).1.1 = true := beq_self_eq_true _
  have e2 : ((Sp.f36 gt gc gs ev ct old new).1.2 != (Sp.f36 gt gc gs ev ct old new).1.2) = false := by simp
  rw [e1, e2]
  cases decide ((Sp.f34 gt gc gs 1048576).1 < 0) <;> cases decide ((Sp.f35 ev ct old new (Sp.f34 gt gc gs 1048576).1).1 < 0) <;> rfl
end Go.Proofs.GR.T
