/-
  No statement is proved here: what the functions of the law answer, told as plain functions, and that the law's answer is always true.
  No condition.
-/
import Derived.Test.YtemccfonjeppjaaRt
namespace Go.Proofs.GR.T
abbrev tI : Ty := .int .i64
abbrev tB : Ty := .int .u8
abbrev cI : C0 := .dat (.int .i64)
abbrev cB : C0 := .dat .bool
abbrev cS : C0 := .dat .str
abbrev cL (t : Ty) : C0 := .dat (.slice t)
end Go.Proofs.GR.T
set_option maxRecDepth 100000
namespace Go.Proofs.GR.T
open Go Go.Proofs Go.Proofs.GR
def Sp.f14_pre (x0 : Int) (x1 : ByteArray) (x2 : Bool) (x3 : Int) : Bool := true
def Sp.f14 (x0 : Int) (x1 : ByteArray) (x2 : Bool) (x3 : Int) := (bif decide (IntKind.i64.wrap (x3 - (↑x1.size : Int)) < (0 : Int)) then ((-1 : Int), ()) else (IntKind.i64.wrap (x3 - (↑x1.size : Int)), ()))
noncomputable def e14 : Ent := { f := 14, ins := [Sh.agg [C0.dat (Ty.int IntKind.i64), C0.dat Ty.str, C0.dat Ty.bool], Sh.one (C0.dat (Ty.int IntKind.i64))], outs := [Sh.one (C0.dat (Ty.int IntKind.i64))], upd := [], pre := fun a => true, spec := fun a => (Sp.f14 a.1.1 a.1.2.1 a.1.2.2 a.2).1, wrt := fun a => (Sp.f14 a.1.1 a.1.2.1 a.1.2.2 a.2).2 }
def f14_g (v : denS [Sh.one (C0.dat (Ty.int IntKind.i64))] × denS []) : Res := ⟨mkS [Sh.one (C0.dat (Ty.int IntKind.i64))] v.1, mkU [] v.2⟩
theorem f14_raw (x0 : Int) (x1 : ByteArray) (x2 : Bool) (x3 : Int) : abody Γ (orc []) 0 14 [XV.mk true [X.c (X0.dat (Ty.int IntKind.i64) x0), X.c (X0.dat Ty.str x1), X.c (X0.dat Ty.bool x2)], XV.mk false [X.c (X0.dat (Ty.int IntKind.i64) x3)]] = bif decide (IntKind.i64.wrap (x3 - (↑x1.size : Int)) < (0 : Int)) then some (Res.mk [XV.mk false [X.c (X0.dat (Ty.int IntKind.i64) (-1 : Int))]] []) else some (Res.mk [XV.mk false [X.c (X0.dat (Ty.int IntKind.i64) (IntKind.i64.wrap (x3 - (↑x1.size : Int))))]] []) := by kernel_rfl
theorem f14_form (x0 : Int) (x1 : ByteArray) (x2 : Bool) (x3 : Int) : (bif decide (IntKind.i64.wrap (x3 - (↑x1.size : Int)) < (0 : Int)) then some (Res.mk [XV.mk false [X.c (X0.dat (Ty.int IntKind.i64) (-1 : Int))]] []) else some (Res.mk [XV.mk false [X.c (X0.dat (Ty.int IntKind.i64) (IntKind.i64.wrap (x3 - (↑x1.size : Int))))]] [])) = some (f14_g (Sp.f14 x0 x1 x2 x3)) := by
  unfold Sp.f14
  exact (cond_plain f14_g (rfl) (rfl))
theorem e14_ok : Valid Try.prog Γ e14 := valid_auto ok vnil fun a => (f14_raw a.1.1 a.1.2.1 a.1.2.2 a.2).trans (f14_form a.1.1 a.1.2.1 a.1.2.2 a.2)

def Sp.f15_pre (x0 : Int) (x1 : ByteArray) (x2 : Bool) : Bool := true
def Sp.f15 (x0 : Int) (x1 : ByteArray) (x2 : Bool) := (bif decide ((↑x1.size : Int) ≤ (65536 : Int)) then (bif x0 == (↑x1.size : Int) then (bif x2 then (true, ()) else (x0.tmod (64 : Int) == (0 : Int), ())) else (false, ())) else (false, ()))
noncomputable def e15 : Ent := { f := 15, ins := [Sh.agg [C0.dat (Ty.int IntKind.i64), C0.dat Ty.str, C0.dat Ty.bool]], outs := [Sh.one (C0.dat Ty.bool)], upd := [], pre := fun a => true, spec := fun a => (Sp.f15 a.1 a.2.1 a.2.2).1, wrt := fun a => (Sp.f15 a.1 a.2.1 a.2.2).2 }
def f15_g (v : denS [Sh.one (C0.dat Ty.bool)] × denS []) : Res := ⟨mkS [Sh.one (C0.dat Ty.bool)] v.1, mkU [] v.2⟩
theorem f15_raw (x0 : Int) (x1 : ByteArray) (x2 : Bool) : abody Γ (orc []) 0 15 [XV.mk true [X.c (X0.dat (Ty.int IntKind.i64) x0), X.c (X0.dat Ty.str x1), X.c (X0.dat Ty.bool x2)]] = bif decide ((↑x1.size : Int) ≤ (65536 : Int)) then bif x0 == (↑x1.size : Int) then bif x2 then some (Res.mk [XV.mk false [X.c (X0.dat Ty.bool true)]] []) else some (Res.mk [XV.mk false [X.c (X0.dat Ty.bool (x0.tmod (64 : Int) == (0 : Int)))]] []) else some (Res.mk [XV.mk false [X.c (X0.dat Ty.bool false)]] []) else some (Res.mk [XV.mk false [X.c (X0.dat Ty.bool false)]] []) := by kernel_rfl
theorem f15_form (x0 : Int) (x1 : ByteArray) (x2 : Bool) : (bif decide ((↑x1.size : Int) ≤ (65536 : Int)) then bif x0 == (↑x1.size : Int) then bif x2 then some (Res.mk [XV.mk false [X.c (X0.dat Ty.bool true)]] []) else some (Res.mk [XV.mk false [X.c (X0.dat Ty.bool (x0.tmod (64 : Int) == (0 : Int)))]] []) else some (Res.mk [XV.mk false [X.c (X0.dat Ty.bool false)]] []) else some (Res.mk [XV.mk false [X.c (X0.dat Ty.bool false)]] [])) = some (f15_g (Sp.f15 x0 x1 x2)) := by
  unfold Sp.f15
  exact (cond_plain f15_g ((cond_plain f15_g ((cond_plain f15_g (rfl) (rfl))) (rfl))) (rfl))
theorem e15_ok : Valid Try.prog Γ e15 := valid_auto ok vnil fun a => (f15_raw a.1 a.2.1 a.2.2).trans (f15_form a.1 a.2.1 a.2.2)

def Sp.f16_pre (x0 : Int) (x1 : ByteArray) (x2 : Bool) : Bool := true
def Sp.f16 (x0 : Int) (x1 : ByteArray) (x2 : Bool) := ((x0, x1, x2), ())
noncomputable def e16 : Ent := { f := 16, ins := [Sh.agg [C0.dat (Ty.int IntKind.i64), C0.dat Ty.str, C0.dat Ty.bool]], outs := [Sh.agg [C0.dat (Ty.int IntKind.i64), C0.dat Ty.str, C0.dat Ty.bool]], upd := [], pre := fun a => true, spec := fun a => (Sp.f16 a.1 a.2.1 a.2.2).1, wrt := fun a => (Sp.f16 a.1 a.2.1 a.2.2).2 }
def f16_g (v : denS [Sh.agg [C0.dat (Ty.int IntKind.i64), C0.dat Ty.str, C0.dat Ty.bool]] × denS []) : Res := ⟨mkS [Sh.agg [C0.dat (Ty.int IntKind.i64), C0.dat Ty.str, C0.dat Ty.bool]] v.1, mkU [] v.2⟩
theorem f16_raw (x0 : Int) (x1 : ByteArray) (x2 : Bool) : abody Γ (orc []) 0 16 [XV.mk true [X.c (X0.dat (Ty.int IntKind.i64) x0), X.c (X0.dat Ty.str x1), X.c (X0.dat Ty.bool x2)]] = some (Res.mk [XV.mk true [X.c (X0.dat (Ty.int IntKind.i64) x0), X.c (X0.dat Ty.str x1), X.c (X0.dat Ty.bool x2)]] []) := by kernel_rfl
theorem f16_form (x0 : Int) (x1 : ByteArray) (x2 : Bool) : (some (Res.mk [XV.mk true [X.c (X0.dat (Ty.int IntKind.i64) x0), X.c (X0.dat Ty.str x1), X.c (X0.dat Ty.bool x2)]] [])) = some (f16_g (Sp.f16 x0 x1 x2)) := by
  unfold Sp.f16
  exact rfl
theorem e16_ok : Valid Try.prog Γ e16 := valid_auto ok vnil fun a => (f16_raw a.1 a.2.1 a.2.2).trans (f16_form a.1 a.2.1 a.2.2)

def Sp.f17_pre (x0 : Int) (x1 : ByteArray) (x2 : Bool) : Bool := true
def Sp.f17 (x0 : Int) (x1 : ByteArray) (x2 : Bool) := (bif x0 == (↑x1.size : Int) then (bif decide (x0 ≤ (65536 : Int)) then (bif x2 then (true, ()) else (x0.tmod (64 : Int) == (0 : Int), ())) else (false, ())) else (false, ()))
noncomputable def e17 : Ent := { f := 17, ins := [Sh.agg [C0.dat (Ty.int IntKind.i64), C0.dat Ty.str, C0.dat Ty.bool]], outs := [Sh.one (C0.dat Ty.bool)], upd := [], pre := fun a => true, spec := fun a => (Sp.f17 a.1 a.2.1 a.2.2).1, wrt := fun a => (Sp.f17 a.1 a.2.1 a.2.2).2 }
def f17_g (v : denS [Sh.one (C0.dat Ty.bool)] × denS []) : Res := ⟨mkS [Sh.one (C0.dat Ty.bool)] v.1, mkU [] v.2⟩
theorem f17_raw (x0 : Int) (x1 : ByteArray) (x2 : Bool) : abody Γ (orc []) 0 17 [XV.mk true [X.c (X0.dat (Ty.int IntKind.i64) x0), X.c (X0.dat Ty.str x1), X.c (X0.dat Ty.bool x2)]] = bif x0 == (↑x1.size : Int) then bif decide (x0 ≤ (65536 : Int)) then bif x2 then some (Res.mk [XV.mk false [X.c (X0.dat Ty.bool true)]] []) else some (Res.mk [XV.mk false [X.c (X0.dat Ty.bool (x0.tmod (64 : Int) == (0 : Int)))]] []) else some (Res.mk [XV.mk false [X.c (X0.dat Ty.bool false)]] []) else some (Res.mk [XV.mk false [X.c (X0.dat Ty.bool false)]] []) := by kernel_rfl
theorem f17_form (x0 : Int) (x1 : ByteArray) (x2 : Bool) : (bif x0 == (↑x1.size : Int) then bif decide (x0 ≤ (65536 : Int)) then bif x2 then some (Res.mk [XV.mk false [X.c (X0.dat Ty.bool true)]] []) else some (Res.mk [XV.mk false [X.c (X0.dat Ty.bool (x0.tmod (64 : Int) == (0 : Int)))]] []) else some (Res.mk [XV.mk false [X.c (X0.dat Ty.bool false)]] []) else some (Res.mk [XV.mk false [X.c (X0.dat Ty.bool false)]] [])) = some (f17_g (Sp.f17 x0 x1 x2)) := by
  unfold Sp.f17
  exact (cond_plain f17_g ((cond_plain f17_g ((cond_plain f17_g (rfl) (rfl))) (rfl))) (rfl))
theorem e17_ok : Valid Try.prog Γ e17 := valid_auto ok vnil fun a => (f17_raw a.1 a.2.1 a.2.2).trans (f17_form a.1 a.2.1 a.2.2)

def Sp.f20_pre (x0 : Int) (x1 : ByteArray) (x2 : Bool) (x3 : Int) (x4 : ByteArray) (x5 : Bool) : Bool := true
def Sp.f20 (x0 : Int) (x1 : ByteArray) (x2 : Bool) (x3 : Int) (x4 : ByteArray) (x5 : Bool) := (bif x0 != x3 then (false, ()) else (bif !x1.toList == x4.toList then (false, ()) else (bif !eqB x2 x5 then (false, ()) else (true, ()))))
noncomputable def e20 : Ent := { f := 20, ins := [Sh.agg [C0.dat (Ty.int IntKind.i64), C0.dat Ty.str, C0.dat Ty.bool], Sh.agg [C0.dat (Ty.int IntKind.i64), C0.dat Ty.str, C0.dat Ty.bool]], outs := [Sh.one (C0.dat Ty.bool)], upd := [], pre := fun a => true, spec := fun a => (Sp.f20 a.1.1 a.1.2.1 a.1.2.2 a.2.1 a.2.2.1 a.2.2.2).1, wrt := fun a => (Sp.f20 a.1.1 a.1.2.1 a.1.2.2 a.2.1 a.2.2.1 a.2.2.2).2 }
def f20_g (v : denS [Sh.one (C0.dat Ty.bool)] × denS []) : Res := ⟨mkS [Sh.one (C0.dat Ty.bool)] v.1, mkU [] v.2⟩
theorem f20_raw (x0 : Int) (x1 : ByteArray) (x2 : Bool) (x3 : Int) (x4 : ByteArray) (x5 : Bool) : abody Γ (orc []) 0 20 [XV.mk true [X.c (X0.dat (Ty.int IntKind.i64) x0), X.c (X0.dat Ty.str x1), X.c (X0.dat Ty.bool x2)], XV.mk true [X.c (X0.dat (Ty.int IntKind.i64) x3), X.c (X0.dat Ty.str x4), X.c (X0.dat Ty.bool x5)]] = bif x0 != x3 then some (Res.mk [XV.mk false [X.c (X0.dat Ty.bool false)]] []) else bif !x1.toList == x4.toList then some (Res.mk [XV.mk false [X.c (X0.dat Ty.bool false)]] []) else bif !eqB x2 x5 then some (Res.mk [XV.mk false [X.c (X0.dat Ty.bool false)]] []) else some (Res.mk [XV.mk false [X.c (X0.dat Ty.bool true)]] []) := by kernel_rfl
theorem f20_form (x0 : Int) (x1 : ByteArray) (x2 : Bool) (x3 : Int) (x4 : ByteArray) (x5 : Bool) : (bif x0 != x3 then some (Res.mk [XV.mk false [X.c (X0.dat Ty.bool false)]] []) else bif !x1.toList == x4.toList then some (Res.mk [XV.mk false [X.c (X0.dat Ty.bool false)]] []) else bif !eqB x2 x5 then some (Res.mk [XV.mk false [X.c (X0.dat Ty.bool false)]] []) else some (Res.mk [XV.mk false [X.c (X0.dat Ty.bool true)]] [])) = some (f20_g (Sp.f20 x0 x1 x2 x3 x4 x5)) := by
  unfold Sp.f20
  exact (cond_plain f20_g (rfl) ((cond_plain f20_g (rfl) ((cond_plain f20_g (rfl) (rfl))))))
theorem e20_ok : Valid Try.prog Γ e20 := valid_auto ok vnil fun a => (f20_raw a.1.1 a.1.2.1 a.1.2.2 a.2.1 a.2.2.1 a.2.2.2).trans (f20_form a.1.1 a.1.2.1 a.1.2.2 a.2.1 a.2.2.1 a.2.2.2)

def Sp.f68_pre (x0 : Int) (x1 : ByteArray) (x2 : Bool) (x3 : ByteArray) : Bool := (bif x2 then true else (bif (↑x3.size : Int) == (0 : Int) then true else (bif decide ((↑x3.size : Int) > (64 : Int)) then true else (bif decide (IntKind.i64.wrap ((↑x1.size : Int) + (↑x3.size : Int)) > (65536 : Int)) then true else decide (x1.size + x3.size ≤ (9223372036854775807 : Nat))))))
def Sp.f68 (x0 : Int) (x1 : ByteArray) (x2 : Bool) (x3 : ByteArray) := (bif x2 then (((x0, x1, x2), (16 : Int)), ()) else (bif (↑x3.size : Int) == (0 : Int) then (((x0, x1, x2), (4 : Int)), ()) else (bif decide ((↑x3.size : Int) > (64 : Int)) then (((x0, x1, x2), (4 : Int)), ()) else (bif decide (IntKind.i64.wrap ((↑x1.size : Int) + (↑x3.size : Int)) > (65536 : Int)) then (((x0, x1, x2), (7 : Int)), ()) else ((((↑(x1 ++ x3).size : Int), x1 ++ x3, decide ((↑x3.size : Int) < (64 : Int))), (0 : Int)), ())))))
noncomputable def e68 : Ent := { f := 68, ins := [Sh.agg [C0.dat (Ty.int IntKind.i64), C0.dat Ty.str, C0.dat Ty.bool], Sh.one (C0.dat Ty.str)], outs := [Sh.agg [C0.dat (Ty.int IntKind.i64), C0.dat Ty.str, C0.dat Ty.bool], Sh.one (C0.dat (Ty.int IntKind.i64))], upd := [], pre := fun a => Sp.f68_pre a.1.1 a.1.2.1 a.1.2.2 a.2, spec := fun a => (Sp.f68 a.1.1 a.1.2.1 a.1.2.2 a.2).1, wrt := fun a => (Sp.f68 a.1.1 a.1.2.1 a.1.2.2 a.2).2 }
def f68_g (v : denS [Sh.agg [C0.dat (Ty.int IntKind.i64), C0.dat Ty.str, C0.dat Ty.bool], Sh.one (C0.dat (Ty.int IntKind.i64))] × denS []) : Res := ⟨mkS [Sh.agg [C0.dat (Ty.int IntKind.i64), C0.dat Ty.str, C0.dat Ty.bool], Sh.one (C0.dat (Ty.int IntKind.i64))] v.1, mkU [] v.2⟩
theorem f68_raw (x0 : Int) (x1 : ByteArray) (x2 : Bool) (x3 : ByteArray) : abody Γ (orc []) 0 68 [XV.mk true [X.c (X0.dat (Ty.int IntKind.i64) x0), X.c (X0.dat Ty.str x1), X.c (X0.dat Ty.bool x2)], XV.mk false [X.c (X0.dat Ty.str x3)]] = bif x2 then some (Res.mk [XV.mk true [X.c (X0.dat (Ty.int IntKind.i64) x0), X.c (X0.dat Ty.str x1), X.c (X0.dat Ty.bool x2)], XV.mk false [X.c (X0.dat (Ty.int IntKind.i64) (16 : Int))]] []) else bif (↑x3.size : Int) == (0 : Int) then some (Res.mk [XV.mk true [X.c (X0.dat (Ty.int IntKind.i64) x0), X.c (X0.dat Ty.str x1), X.c (X0.dat Ty.bool x2)], XV.mk false [X.c (X0.dat (Ty.int IntKind.i64) (4 : Int))]] []) else bif decide ((↑x3.size : Int) > (64 : Int)) then some (Res.mk [XV.mk true [X.c (X0.dat (Ty.int IntKind.i64) x0), X.c (X0.dat Ty.str x1), X.c (X0.dat Ty.bool x2)], XV.mk false [X.c (X0.dat (Ty.int IntKind.i64) (4 : Int))]] []) else bif decide (IntKind.i64.wrap ((↑x1.size : Int) + (↑x3.size : Int)) > (65536 : Int)) then some (Res.mk [XV.mk true [X.c (X0.dat (Ty.int IntKind.i64) x0), X.c (X0.dat Ty.str x1), X.c (X0.dat Ty.bool x2)], XV.mk false [X.c (X0.dat (Ty.int IntKind.i64) (7 : Int))]] []) else chk (decide (x1.size + x3.size ≤ (9223372036854775807 : Nat))) (some (Res.mk [XV.mk true [X.c (X0.dat (Ty.int IntKind.i64) (↑(x1 ++ x3).size : Int)), X.c (X0.dat Ty.str (x1 ++ x3)), X.c (X0.dat Ty.bool (decide ((↑x3.size : Int) < (64 : Int))))], XV.mk false [X.c (X0.dat (Ty.int IntKind.i64) (0 : Int))]] [])) := by kernel_rfl
theorem f68_form (x0 : Int) (x1 : ByteArray) (x2 : Bool) (x3 : ByteArray) : (bif x2 then some (Res.mk [XV.mk true [X.c (X0.dat (Ty.int IntKind.i64) x0), X.c (X0.dat Ty.str x1), X.c (X0.dat Ty.bool x2)], XV.mk false [X.c (X0.dat (Ty.int IntKind.i64) (16 : Int))]] []) else bif (↑x3.size : Int) == (0 : Int) then some (Res.mk [XV.mk true [X.c (X0.dat (Ty.int IntKind.i64) x0), X.c (X0.dat Ty.str x1), X.c (X0.dat Ty.bool x2)], XV.mk false [X.c (X0.dat (Ty.int IntKind.i64) (4 : Int))]] []) else bif decide ((↑x3.size : Int) > (64 : Int)) then some (Res.mk [XV.mk true [X.c (X0.dat (Ty.int IntKind.i64) x0), X.c (X0.dat Ty.str x1), X.c (X0.dat Ty.bool x2)], XV.mk false [X.c (X0.dat (Ty.int IntKind.i64) (4 : Int))]] []) else bif decide (IntKind.i64.wrap ((↑x1.size : Int) + (↑x3.size : Int)) > (65536 : Int)) then some (Res.mk [XV.mk true [X.c (X0.dat (Ty.int IntKind.i64) x0), X.c (X0.dat Ty.str x1), X.c (X0.dat Ty.bool x2)], XV.mk false [X.c (X0.dat (Ty.int IntKind.i64) (7 : Int))]] []) else chk (decide (x1.size + x3.size ≤ (9223372036854775807 : Nat))) (some (Res.mk [XV.mk true [X.c (X0.dat (Ty.int IntKind.i64) (↑(x1 ++ x3).size : Int)), X.c (X0.dat Ty.str (x1 ++ x3)), X.c (X0.dat Ty.bool (decide ((↑x3.size : Int) < (64 : Int))))], XV.mk false [X.c (X0.dat (Ty.int IntKind.i64) (0 : Int))]] []))) = chk (Sp.f68_pre x0 x1 x2 x3) (some (f68_g (Sp.f68 x0 x1 x2 x3))) := by
  unfold Sp.f68_pre Sp.f68
  exact (cond_step f68_g ((lift_plain (rfl))) ((cond_step f68_g ((lift_plain (rfl))) ((cond_step f68_g ((lift_plain (rfl))) ((cond_step f68_g ((lift_plain (rfl))) ((chk_last (rfl))))))))))
theorem e68_ok : Valid Try.prog Γ e68 := valid_auto ok vnil fun a => (f68_raw a.1.1 a.1.2.1 a.1.2.2 a.2).trans (f68_form a.1.1 a.1.2.1 a.1.2.2 a.2)

def Sp.f70_pre (x0 : Int) (x1 : Int) (x2 : Int) : Bool := true
def Sp.f70 (x0 : Int) (x1 : Int) (x2 : Int) := (bif decide (x0 ≥ x1) then (decide (x0 ≤ x2), ()) else (false, ()))
noncomputable def e70 : Ent := { f := 70, ins := [Sh.one (C0.dat (Ty.int IntKind.i64)), Sh.one (C0.dat (Ty.int IntKind.i64)), Sh.one (C0.dat (Ty.int IntKind.i64))], outs := [Sh.one (C0.dat Ty.bool)], upd := [], pre := fun a => true, spec := fun a => (Sp.f70 a.1 a.2.1 a.2.2).1, wrt := fun a => (Sp.f70 a.1 a.2.1 a.2.2).2 }
def f70_g (v : denS [Sh.one (C0.dat Ty.bool)] × denS []) : Res := ⟨mkS [Sh.one (C0.dat Ty.bool)] v.1, mkU [] v.2⟩
theorem f70_raw (x0 : Int) (x1 : Int) (x2 : Int) : abody Γ (orc []) 0 70 [XV.mk false [X.c (X0.dat (Ty.int IntKind.i64) x0)], XV.mk false [X.c (X0.dat (Ty.int IntKind.i64) x1)], XV.mk false [X.c (X0.dat (Ty.int IntKind.i64) x2)]] = bif decide (x0 ≥ x1) then some (Res.mk [XV.mk false [X.c (X0.dat Ty.bool (decide (x0 ≤ x2)))]] []) else some (Res.mk [XV.mk false [X.c (X0.dat Ty.bool false)]] []) := by kernel_rfl
theorem f70_form (x0 : Int) (x1 : Int) (x2 : Int) : (bif decide (x0 ≥ x1) then some (Res.mk [XV.mk false [X.c (X0.dat Ty.bool (decide (x0 ≤ x2)))]] []) else some (Res.mk [XV.mk false [X.c (X0.dat Ty.bool false)]] [])) = some (f70_g (Sp.f70 x0 x1 x2)) := by
  unfold Sp.f70
  exact (cond_plain f70_g (rfl) (rfl))
theorem e70_ok : Valid Try.prog Γ e70 := valid_auto ok vnil fun a => (f70_raw a.1 a.2.1 a.2.2).trans (f70_form a.1 a.2.1 a.2.2)

def Sp.f115_pre (x0 : ByteArray) : Bool := true
def Sp.f115 (x0 : ByteArray) := (decide ((↑x0.size : Int) > (65536 : Int)), ())
noncomputable def e115 : Ent := { f := 115, ins := [Sh.one (C0.dat Ty.str)], outs := [Sh.one (C0.dat Ty.bool)], upd := [], pre := fun a => true, spec := fun a => (Sp.f115 a).1, wrt := fun a => (Sp.f115 a).2 }
def f115_g (v : denS [Sh.one (C0.dat Ty.bool)] × denS []) : Res := ⟨mkS [Sh.one (C0.dat Ty.bool)] v.1, mkU [] v.2⟩
theorem f115_raw (x0 : ByteArray) : abody Γ (orc []) 0 115 [XV.mk false [X.c (X0.dat Ty.str x0)]] = some (Res.mk [XV.mk false [X.c (X0.dat Ty.bool (decide ((↑x0.size : Int) > (65536 : Int))))]] []) := by kernel_rfl
theorem f115_form (x0 : ByteArray) : (some (Res.mk [XV.mk false [X.c (X0.dat Ty.bool (decide ((↑x0.size : Int) > (65536 : Int))))]] [])) = some (f115_g (Sp.f115 x0)) := by
  unfold Sp.f115
  exact rfl
theorem e115_ok : Valid Try.prog Γ e115 := valid_auto ok vnil fun a => (f115_raw a).trans (f115_form a)

def Sp.f18_pre (x0 : Int) (x1 : ByteArray) (x2 : Bool) (x3 : ByteArray) : Bool := (bif decide ((↑x3.size : Int) > (65536 : Int)) then true else (bif !(Sp.f15 x0 x1 x2).1 then true else Sp.f68_pre x0 x1 x2 x3))
def Sp.f18 (x0 : Int) (x1 : ByteArray) (x2 : Bool) (x3 : ByteArray) := (bif decide ((↑x3.size : Int) > (65536 : Int)) then ((((0 : Int), ByteArray.empty, false), (2 : Int)), ()) else (bif !(Sp.f15 x0 x1 x2).1 then ((((0 : Int), ByteArray.empty, false), (1 : Int)), ()) else ((((Sp.f68 x0 x1 x2 x3).1.1.1, (Sp.f68 x0 x1 x2 x3).1.1.2.1, (Sp.f68 x0 x1 x2 x3).1.1.2.2), (Sp.f68 x0 x1 x2 x3).1.2), ())))
noncomputable def e18 : Ent := { f := 18, ins := [Sh.agg [C0.dat (Ty.int IntKind.i64), C0.dat Ty.str, C0.dat Ty.bool], Sh.one (C0.dat Ty.str)], outs := [Sh.agg [C0.dat (Ty.int IntKind.i64), C0.dat Ty.str, C0.dat Ty.bool], Sh.one (C0.dat (Ty.int IntKind.i64))], upd := [], pre := fun a => Sp.f18_pre a.1.1 a.1.2.1 a.1.2.2 a.2, spec := fun a => (Sp.f18 a.1.1 a.1.2.1 a.1.2.2 a.2).1, wrt := fun a => (Sp.f18 a.1.1 a.1.2.1 a.1.2.2 a.2).2 }
def f18_g (v : denS [Sh.agg [C0.dat (Ty.int IntKind.i64), C0.dat Ty.str, C0.dat Ty.bool], Sh.one (C0.dat (Ty.int IntKind.i64))] × denS []) : Res := ⟨mkS [Sh.agg [C0.dat (Ty.int IntKind.i64), C0.dat Ty.str, C0.dat Ty.bool], Sh.one (C0.dat (Ty.int IntKind.i64))] v.1, mkU [] v.2⟩
theorem f18_raw (x0 : Int) (x1 : ByteArray) (x2 : Bool) (x3 : ByteArray) : abody Γ (orc [e15, e68]) 0 18 [XV.mk true [X.c (X0.dat (Ty.int IntKind.i64) x0), X.c (X0.dat Ty.str x1), X.c (X0.dat Ty.bool x2)], XV.mk false [X.c (X0.dat Ty.str x3)]] = bif decide ((↑x3.size : Int) > (65536 : Int)) then some (Res.mk [XV.mk true [X.c (X0.dat (Ty.int IntKind.i64) (0 : Int)), X.c (X0.dat Ty.str ByteArray.empty), X.c (X0.dat Ty.bool false)], XV.mk false [X.c (X0.dat (Ty.int IntKind.i64) (2 : Int))]] []) else bif !(Sp.f15 x0 x1 x2).1 then some (Res.mk [XV.mk true [X.c (X0.dat (Ty.int IntKind.i64) (0 : Int)), X.c (X0.dat Ty.str ByteArray.empty), X.c (X0.dat Ty.bool false)], XV.mk false [X.c (X0.dat (Ty.int IntKind.i64) (1 : Int))]] []) else chk (Sp.f68_pre x0 x1 x2 x3) (some (Res.mk [XV.mk true [X.c (X0.dat (Ty.int IntKind.i64) (Sp.f68 x0 x1 x2 x3).1.1.1), X.c (X0.dat Ty.str (Sp.f68 x0 x1 x2 x3).1.1.2.1), X.c (X0.dat Ty.bool (Sp.f68 x0 x1 x2 x3).1.1.2.2)], XV.mk false [X.c (X0.dat (Ty.int IntKind.i64) (Sp.f68 x0 x1 x2 x3).1.2)]] [])) := by kernel_rfl
theorem f18_form (x0 : Int) (x1 : ByteArray) (x2 : Bool) (x3 : ByteArray) : (bif decide ((↑x3.size : Int) > (65536 : Int)) then some (Res.mk [XV.mk true [X.c (X0.dat (Ty.int IntKind.i64) (0 : Int)), X.c (X0.dat Ty.str ByteArray.empty), X.c (X0.dat Ty.bool false)], XV.mk false [X.c (X0.dat (Ty.int IntKind.i64) (2 : Int))]] []) else bif !(Sp.f15 x0 x1 x2).1 then some (Res.mk [XV.mk true [X.c (X0.dat (Ty.int IntKind.i64) (0 : Int)), X.c (X0.dat Ty.str ByteArray.empty), X.c (X0.dat Ty.bool false)], XV.mk false [X.c (X0.dat (Ty.int IntKind.i64) (1 : Int))]] []) else chk (Sp.f68_pre x0 x1 x2 x3) (some (Res.mk [XV.mk true [X.c (X0.dat (Ty.int IntKind.i64) (Sp.f68 x0 x1 x2 x3).1.1.1), X.c (X0.dat Ty.str (Sp.f68 x0 x1 x2 x3).1.1.2.1), X.c (X0.dat Ty.bool (Sp.f68 x0 x1 x2 x3).1.1.2.2)], XV.mk false [X.c (X0.dat (Ty.int IntKind.i64) (Sp.f68 x0 x1 x2 x3).1.2)]] []))) = chk (Sp.f18_pre x0 x1 x2 x3) (some (f18_g (Sp.f18 x0 x1 x2 x3))) := by
  unfold Sp.f18_pre Sp.f18
  exact (cond_step f18_g ((lift_plain (rfl))) ((cond_step f18_g ((lift_plain (rfl))) ((chk_last (rfl))))))
theorem e18_ok : Valid Try.prog Γ e18 := valid_auto ok (vcons e15_ok (vcons e68_ok vnil)) fun a => (f18_raw a.1.1 a.1.2.1 a.1.2.2 a.2).trans (f18_form a.1.1 a.1.2.1 a.1.2.2 a.2)

noncomputable def f163_L0 (n m0 : Nat) (y0 : List ByteArray) (y1 : Int) (y2 : Int) : Option Res := loopAt Γ (orc [e115]) n (163 : Nat) (0 : Nat) [] [Pth.r, Pth.l, Pth.r, Pth.b] m0 (St.mk [Slot.val (Val.one (Cell.dat Ty.str.slice y0)), Slot.val (Val.one (Cell.fn (115 : Nat) [])), Slot.nix, Slot.nix, Slot.nix, Slot.nix, Slot.nix, Slot.val (Val.one (Cell.dat (Ty.int IntKind.i64) y1)), Slot.val (Val.one (Cell.dat (Ty.int IntKind.i64) y2)), Slot.nix, Slot.nix, Slot.nix, Slot.nix, Slot.nix, Slot.nix, Slot.nix, Slot.nix, Slot.nix, Slot.nix] [])
theorem f163_L0_step (n m0 : Nat) (y0 : List ByteArray) (y1 : Int) (y2 : Int) : f163_L0 n (m0 + 1) y0 y1 y2 = bif decide (y2 < y1) then chk (decide ((0 : Int) ≤ y2) && decide (y2 < (↑y0.length : Int))) (bif (Sp.f115 (y0.getD y2.toNat (ByteArray.mk #[]))).1 then some (Res.mk [XV.mk false [X.c (X0.dat (Ty.int IntKind.i64) y2)]] []) else f163_L0 n m0 y0 y1 (IntKind.i64.wrap (y2 + (1 : Int)))) else some (Res.mk [XV.mk false [X.c (X0.dat (Ty.int IntKind.i64) (-1 : Int))]] []) := by kernel_rfl
theorem f163_raw (n : Nat) (x0 : List ByteArray) : abody Γ (orc [e115]) n 163 [XV.mk false [X.c (X0.dat Ty.str.slice x0)], XV.mk false [X.c (X0.fn (115 : Nat) [])]] = f163_L0 n n x0 (↑x0.length : Int) (0 : Int) := by kernel_rfl

/-- The first place from 'i' on where something holds; else -1. -/
def Sp.idx {α : Type} (p : α → Bool) : List α → Int → Int
  | [], _ => -1
  | x :: r, i => bif p x then i else Sp.idx p r (i + 1)
noncomputable def e163 : Ent := { f := 163, ins := [Sh.one (C0.dat (.slice .str)), Sh.one (C0.fn 115 [])], outs := [Sh.one cI], upd := [], pre := fun _ => true, spec := fun a => Sp.idx (fun t => (Sp.f115 t).1) a.1 0, wrt := fun _ => () }
theorem f163_loop (n : Nat) (xs : List ByteArray) (hl : xs.length ≤ maxLen) : ∀ (d k m : Nat), k + d = xs.length → d < m →
    f163_L0 n m xs (↑xs.length : Int) (↑k : Int) = some (Res.mk [XV.mk false [X.c (X0.dat (Ty.int IntKind.i64) (Sp.idx (fun t => (Sp.f115 t).1) (xs.drop k) k))]] []) := by
  intro d
  induction d with
  | zero =>
    intro k m hk hm
    obtain ⟨m, rfl⟩ : ∃ q, m = q + 1 := ⟨m - 1, by omega⟩
    rw [f163_L0_step, decide_eq_false (by omega), List.drop_of_length_le (by omega)]
    rfl
  | succ d ih =>
    intro k m hk hm
    obtain ⟨m, rfl⟩ : ∃ q, m = q + 1 := ⟨m - 1, by omega⟩
    have hlt : k < xs.length := by omega
    have hm : (xs.length : Nat) ≤ 9223372036854775807 := hl
    rw [f163_L0_step, decide_eq_true (by omega), decide_eq_true (by omega), wrap64 (by omega) (by omega), List.drop_eq_getElem_cons hlt]
    simp only [cond_true, Bool.and_self, chk, Int.toNat_natCast, Sp.idx, List.getD, List.getElem?_eq_getElem hlt, Option.getD_some]
    cases (Sp.f115 xs[k]).1 with
    | true => rfl
    | false =>
      have := ih (k + 1) m (by omega) (by omega)
      simpa using this
theorem e163_ok : Valid Try.prog Γ e163 := valid_len ok (es := [e115]) (vcons e115_ok vnil) fun a _ hl => by
  have h := hl _ (List.mem_cons_self) _ (List.mem_cons_self)
  have h1 : List.length a.1 ≤ maxLen := h.1
  exact ⟨List.length a.1 + 1, (f163_raw _ a.1).trans (f163_loop _ a.1 h1 (List.length a.1) 0 _ (Nat.zero_add _) (Nat.lt_succ_self _))⟩
def Sp.f114_pre (x0 : List ByteArray) : Bool := true
def Sp.f114 (x0 : List ByteArray) := (decide (Sp.idx (fun t ↦ (Sp.f115 t).fst) x0 (0 : Int) ≥ (0 : Int)), ())
noncomputable def e114 : Ent := { f := 114, ins := [Sh.one (C0.dat Ty.str.slice), Sh.one (C0.fn (115 : Nat) [])], outs := [Sh.one (C0.dat Ty.bool)], upd := [], pre := fun a => true, spec := fun a => (Sp.f114 a.1).1, wrt := fun a => (Sp.f114 a.1).2 }
def f114_g (v : denS [Sh.one (C0.dat Ty.bool)] × denS []) : Res := ⟨mkS [Sh.one (C0.dat Ty.bool)] v.1, mkU [] v.2⟩
theorem f114_raw (x0 : List ByteArray) : abody Γ (orc [e163, e115]) 0 114 [XV.mk false [X.c (X0.dat Ty.str.slice x0)], XV.mk false [X.c (X0.fn (115 : Nat) [])]] = some (Res.mk [XV.mk false [X.c (X0.dat Ty.bool (decide (Sp.idx (fun t ↦ (Sp.f115 t).fst) x0 (0 : Int) ≥ (0 : Int))))]] []) := by kernel_rfl
theorem f114_form (x0 : List ByteArray) : (some (Res.mk [XV.mk false [X.c (X0.dat Ty.bool (decide (Sp.idx (fun t ↦ (Sp.f115 t).fst) x0 (0 : Int) ≥ (0 : Int))))]] [])) = some (f114_g (Sp.f114 x0)) := by
  unfold Sp.f114
  exact rfl
theorem e114_ok : Valid Try.prog Γ e114 := valid_auto ok (vcons e163_ok (vcons e115_ok vnil)) fun a => (f114_raw a.1).trans (f114_form a.1)

def Sp.f69_pre (x0 : List ByteArray) : Bool := true
def Sp.f69 (x0 : List ByteArray) := ((Sp.f114 x0).1, ())
noncomputable def e69 : Ent := { f := 69, ins := [Sh.one (C0.dat Ty.str.slice)], outs := [Sh.one (C0.dat Ty.bool)], upd := [], pre := fun a => true, spec := fun a => (Sp.f69 a).1, wrt := fun a => (Sp.f69 a).2 }
def f69_g (v : denS [Sh.one (C0.dat Ty.bool)] × denS []) : Res := ⟨mkS [Sh.one (C0.dat Ty.bool)] v.1, mkU [] v.2⟩
theorem f69_raw (x0 : List ByteArray) : abody Γ (orc [e114, e115]) 0 69 [XV.mk false [X.c (X0.dat Ty.str.slice x0)]] = some (Res.mk [XV.mk false [X.c (X0.dat Ty.bool (Sp.f114 x0).1)]] []) := by kernel_rfl
theorem f69_form (x0 : List ByteArray) : (some (Res.mk [XV.mk false [X.c (X0.dat Ty.bool (Sp.f114 x0).1)]] [])) = some (f69_g (Sp.f69 x0)) := by
  unfold Sp.f69
  exact rfl
theorem e69_ok : Valid Try.prog Γ e69 := valid_auto ok (vcons e114_ok (vcons e115_ok vnil)) fun a => (f69_raw a).trans (f69_form a)

def Sp.f19_pre (x0 : Int) (x1 : ByteArray) (x2 : Bool) (x3 : ByteArray) : Bool := (bif (Sp.f69 [x3]).1 then true else (bif !(Sp.f17 x0 x1 x2).1 then true else (bif x2 then true else (bif !(Sp.f70 (↑x3.size : Int) (1 : Int) (64 : Int)).1 then true else (bif decide (IntKind.i64.wrap (x0 + (↑x3.size : Int)) > (65536 : Int)) then true else decide (x1.size + x3.size ≤ (9223372036854775807 : Nat)))))))
def Sp.f19 (x0 : Int) (x1 : ByteArray) (x2 : Bool) (x3 : ByteArray) := (bif (Sp.f69 [x3]).1 then ((((0 : Int), ByteArray.empty, false), (2 : Int)), ()) else (bif !(Sp.f17 x0 x1 x2).1 then ((((0 : Int), ByteArray.empty, false), (1 : Int)), ()) else (bif x2 then (((x0, x1, x2), (16 : Int)), ()) else (bif !(Sp.f70 (↑x3.size : Int) (1 : Int) (64 : Int)).1 then (((x0, x1, x2), (4 : Int)), ()) else (bif decide (IntKind.i64.wrap (x0 + (↑x3.size : Int)) > (65536 : Int)) then (((x0, x1, x2), (7 : Int)), ()) else (((IntKind.i64.wrap (x0 + (↑x3.size : Int)), x1 ++ x3, decide ((↑x3.size : Int) < (64 : Int))), (0 : Int)), ()))))))
noncomputable def e19 : Ent := { f := 19, ins := [Sh.agg [C0.dat (Ty.int IntKind.i64), C0.dat Ty.str, C0.dat Ty.bool], Sh.one (C0.dat Ty.str)], outs := [Sh.agg [C0.dat (Ty.int IntKind.i64), C0.dat Ty.str, C0.dat Ty.bool], Sh.one (C0.dat (Ty.int IntKind.i64))], upd := [], pre := fun a => Sp.f19_pre a.1.1 a.1.2.1 a.1.2.2 a.2, spec := fun a => (Sp.f19 a.1.1 a.1.2.1 a.1.2.2 a.2).1, wrt := fun a => (Sp.f19 a.1.1 a.1.2.1 a.1.2.2 a.2).2 }
def f19_g (v : denS [Sh.agg [C0.dat (Ty.int IntKind.i64), C0.dat Ty.str, C0.dat Ty.bool], Sh.one (C0.dat (Ty.int IntKind.i64))] × denS []) : Res := ⟨mkS [Sh.agg [C0.dat (Ty.int IntKind.i64), C0.dat Ty.str, C0.dat Ty.bool], Sh.one (C0.dat (Ty.int IntKind.i64))] v.1, mkU [] v.2⟩
theorem f19_raw (x0 : Int) (x1 : ByteArray) (x2 : Bool) (x3 : ByteArray) : abody Γ (orc [e69, e17, e70]) 0 19 [XV.mk true [X.c (X0.dat (Ty.int IntKind.i64) x0), X.c (X0.dat Ty.str x1), X.c (X0.dat Ty.bool x2)], XV.mk false [X.c (X0.dat Ty.str x3)]] = bif (Sp.f69 [x3]).1 then some (Res.mk [XV.mk true [X.c (X0.dat (Ty.int IntKind.i64) (0 : Int)), X.c (X0.dat Ty.str ByteArray.empty), X.c (X0.dat Ty.bool false)], XV.mk false [X.c (X0.dat (Ty.int IntKind.i64) (2 : Int))]] []) else bif !(Sp.f17 x0 x1 x2).1 then some (Res.mk [XV.mk true [X.c (X0.dat (Ty.int IntKind.i64) (0 : Int)), X.c (X0.dat Ty.str ByteArray.empty), X.c (X0.dat Ty.bool false)], XV.mk false [X.c (X0.dat (Ty.int IntKind.i64) (1 : Int))]] []) else bif x2 then some (Res.mk [XV.mk true [X.c (X0.dat (Ty.int IntKind.i64) x0), X.c (X0.dat Ty.str x1), X.c (X0.dat Ty.bool x2)], XV.mk false [X.c (X0.dat (Ty.int IntKind.i64) (16 : Int))]] []) else bif !(Sp.f70 (↑x3.size : Int) (1 : Int) (64 : Int)).1 then some (Res.mk [XV.mk true [X.c (X0.dat (Ty.int IntKind.i64) x0), X.c (X0.dat Ty.str x1), X.c (X0.dat Ty.bool x2)], XV.mk false [X.c (X0.dat (Ty.int IntKind.i64) (4 : Int))]] []) else bif decide (IntKind.i64.wrap (x0 + (↑x3.size : Int)) > (65536 : Int)) then some (Res.mk [XV.mk true [X.c (X0.dat (Ty.int IntKind.i64) x0), X.c (X0.dat Ty.str x1), X.c (X0.dat Ty.bool x2)], XV.mk false [X.c (X0.dat (Ty.int IntKind.i64) (7 : Int))]] []) else chk (decide (x1.size + x3.size ≤ (9223372036854775807 : Nat))) (some (Res.mk [XV.mk true [X.c (X0.dat (Ty.int IntKind.i64) (IntKind.i64.wrap (x0 + (↑x3.size : Int)))), X.c (X0.dat Ty.str (x1 ++ x3)), X.c (X0.dat Ty.bool (decide ((↑x3.size : Int) < (64 : Int))))], XV.mk false [X.c (X0.dat (Ty.int IntKind.i64) (0 : Int))]] [])) := by kernel_rfl
theorem f19_form (x0 : Int) (x1 : ByteArray) (x2 : Bool) (x3 : ByteArray) : (bif (Sp.f69 [x3]).1 then some (Res.mk [XV.mk true [X.c (X0.dat (Ty.int IntKind.i64) (0 : Int)), X.c (X0.dat Ty.str ByteArray.empty), X.c (X0.dat Ty.bool false)], XV.mk false [X.c (X0.dat (Ty.int IntKind.i64) (2 : Int))]] []) else bif !(Sp.f17 x0 x1 x2).1 then some (Res.mk [XV.mk true [X.c (X0.dat (Ty.int IntKind.i64) (0 : Int)), X.c (X0.dat Ty.str ByteArray.empty), X.c (X0.dat Ty.bool false)], XV.mk false [X.c (X0.dat (Ty.int IntKind.i64) (1 : Int))]] []) else bif x2 then some (Res.mk [XV.mk true [X.c (X0.dat (Ty.int IntKind.i64) x0), X.c (X0.dat Ty.str x1), X.c (X0.dat Ty.bool x2)], XV.mk false [X.c (X0.dat (Ty.int IntKind.i64) (16 : Int))]] []) else bif !(Sp.f70 (↑x3.size : Int) (1 : Int) (64 : Int)).1 then some (Res.mk [XV.mk true [X.c (X0.dat (Ty.int IntKind.i64) x0), X.c (X0.dat Ty.str x1), X.c (X0.dat Ty.bool x2)], XV.mk false [X.c (X0.dat (Ty.int IntKind.i64) (4 : Int))]] []) else bif decide (IntKind.i64.wrap (x0 + (↑x3.size : Int)) > (65536 : Int)) then some (Res.mk [XV.mk true [X.c (X0.dat (Ty.int IntKind.i64) x0), X.c (X0.dat Ty.str x1), X.c (X0.dat Ty.bool x2)], XV.mk false [X.c (X0.dat (Ty.int IntKind.i64) (7 : Int))]] []) else chk (decide (x1.size + x3.size ≤ (9223372036854775807 : Nat))) (some (Res.mk [XV.mk true [X.c (X0.dat (Ty.int IntKind.i64) (IntKind.i64.wrap (x0 + (↑x3.size : Int)))), X.c (X0.dat Ty.str (x1 ++ x3)), X.c (X0.dat Ty.bool (decide ((↑x3.size : Int) < (64 : Int))))], XV.mk false [X.c (X0.dat (Ty.int IntKind.i64) (0 : Int))]] []))) = chk (Sp.f19_pre x0 x1 x2 x3) (some (f19_g (Sp.f19 x0 x1 x2 x3))) := by
  unfold Sp.f19_pre Sp.f19
  exact (cond_step f19_g ((lift_plain (rfl))) ((cond_step f19_g ((lift_plain (rfl))) ((cond_step f19_g ((lift_plain (rfl))) ((cond_step f19_g ((lift_plain (rfl))) ((cond_step f19_g ((lift_plain (rfl))) ((chk_last (rfl))))))))))))
theorem e19_ok : Valid Try.prog Γ e19 := valid_auto ok (vcons e69_ok (vcons e17_ok (vcons e70_ok vnil))) fun a => (f19_raw a.1.1 a.1.2.1 a.1.2.2 a.2).trans (f19_form a.1.1 a.1.2.1 a.1.2.2 a.2)

def Sp.f4_pre (x0 : Int) (x1 : ByteArray) (x2 : Bool) (x3 : ByteArray) : Bool := (bif decide ((↑x3.size : Int) > (1048576 : Int)) then true else (bif decide ((Sp.f14 x0 x1 x2 (1048576 : Int)).1 < (0 : Int)) then true else (Sp.f18_pre (Sp.f16 x0 x1 x2).1.1 (Sp.f16 x0 x1 x2).1.2.1 (Sp.f16 x0 x1 x2).1.2.2 x3 && Sp.f19_pre (Sp.f16 x0 x1 x2).1.1 (Sp.f16 x0 x1 x2).1.2.1 (Sp.f16 x0 x1 x2).1.2.2 x3)))
def Sp.f4 (x0 : Int) (x1 : ByteArray) (x2 : Bool) (x3 : ByteArray) := (bif decide ((↑x3.size : Int) > (1048576 : Int)) then (true, ()) else (bif decide ((Sp.f14 x0 x1 x2 (1048576 : Int)).1 < (0 : Int)) then (true, ()) else (bif !(Sp.f20 (Sp.f19 (Sp.f16 x0 x1 x2).1.1 (Sp.f16 x0 x1 x2).1.2.1 (Sp.f16 x0 x1 x2).1.2.2 x3).1.1.1 (Sp.f19 (Sp.f16 x0 x1 x2).1.1 (Sp.f16 x0 x1 x2).1.2.1 (Sp.f16 x0 x1 x2).1.2.2 x3).1.1.2.1 (Sp.f19 (Sp.f16 x0 x1 x2).1.1 (Sp.f16 x0 x1 x2).1.2.1 (Sp.f16 x0 x1 x2).1.2.2 x3).1.1.2.2 (Sp.f18 (Sp.f16 x0 x1 x2).1.1 (Sp.f16 x0 x1 x2).1.2.1 (Sp.f16 x0 x1 x2).1.2.2 x3).1.1.1 (Sp.f18 (Sp.f16 x0 x1 x2).1.1 (Sp.f16 x0 x1 x2).1.2.1 (Sp.f16 x0 x1 x2).1.2.2 x3).1.1.2.1 (Sp.f18 (Sp.f16 x0 x1 x2).1.1 (Sp.f16 x0 x1 x2).1.2.1 (Sp.f16 x0 x1 x2).1.2.2 x3).1.1.2.2).1 then (false, ()) else (bif (Sp.f19 (Sp.f16 x0 x1 x2).1.1 (Sp.f16 x0 x1 x2).1.2.1 (Sp.f16 x0 x1 x2).1.2.2 x3).1.2 != (Sp.f18 (Sp.f16 x0 x1 x2).1.1 (Sp.f16 x0 x1 x2).1.2.1 (Sp.f16 x0 x1 x2).1.2.2 x3).1.2 then (false, ()) else (true, ())))))
noncomputable def e4 : Ent := { f := 4, ins := [Sh.agg [C0.dat (Ty.int IntKind.i64), C0.dat Ty.str, C0.dat Ty.bool], Sh.one (C0.dat Ty.str)], outs := [Sh.one (C0.dat Ty.bool)], upd := [], pre := fun a => Sp.f4_pre a.1.1 a.1.2.1 a.1.2.2 a.2, spec := fun a => (Sp.f4 a.1.1 a.1.2.1 a.1.2.2 a.2).1, wrt := fun a => (Sp.f4 a.1.1 a.1.2.1 a.1.2.2 a.2).2 }
def f4_g (v : denS [Sh.one (C0.dat Ty.bool)] × denS []) : Res := ⟨mkS [Sh.one (C0.dat Ty.bool)] v.1, mkU [] v.2⟩
theorem f4_raw (x0 : Int) (x1 : ByteArray) (x2 : Bool) (x3 : ByteArray) : abody Γ (orc [e14, e16, e18, e19, e20]) 0 4 [XV.mk true [X.c (X0.dat (Ty.int IntKind.i64) x0), X.c (X0.dat Ty.str x1), X.c (X0.dat Ty.bool x2)], XV.mk false [X.c (X0.dat Ty.str x3)]] = bif decide ((↑x3.size : Int) > (1048576 : Int)) then some (Res.mk [XV.mk false [X.c (X0.dat Ty.bool true)]] []) else bif decide ((Sp.f14 x0 x1 x2 (1048576 : Int)).1 < (0 : Int)) then some (Res.mk [XV.mk false [X.c (X0.dat Ty.bool true)]] []) else chk (Sp.f18_pre (Sp.f16 x0 x1 x2).1.1 (Sp.f16 x0 x1 x2).1.2.1 (Sp.f16 x0 x1 x2).1.2.2 x3) (chk (Sp.f19_pre (Sp.f16 x0 x1 x2).1.1 (Sp.f16 x0 x1 x2).1.2.1 (Sp.f16 x0 x1 x2).1.2.2 x3) (bif !(Sp.f20 (Sp.f19 (Sp.f16 x0 x1 x2).1.1 (Sp.f16 x0 x1 x2).1.2.1 (Sp.f16 x0 x1 x2).1.2.2 x3).1.1.1 (Sp.f19 (Sp.f16 x0 x1 x2).1.1 (Sp.f16 x0 x1 x2).1.2.1 (Sp.f16 x0 x1 x2).1.2.2 x3).1.1.2.1 (Sp.f19 (Sp.f16 x0 x1 x2).1.1 (Sp.f16 x0 x1 x2).1.2.1 (Sp.f16 x0 x1 x2).1.2.2 x3).1.1.2.2 (Sp.f18 (Sp.f16 x0 x1 x2).1.1 (Sp.f16 x0 x1 x2).1.2.1 (Sp.f16 x0 x1 x2).1.2.2 x3).1.1.1 (Sp.f18 (Sp.f16 x0 x1 x2).1.1 (Sp.f16 x0 x1 x2).1.2.1 (Sp.f16 x0 x1 x2).1.2.2 x3).1.1.2.1 (Sp.f18 (Sp.f16 x0 x1 x2).1.1 (Sp.f16 x0 x1 x2).1.2.1 (Sp.f16 x0 x1 x2).1.2.2 x3).1.1.2.2).1 then some (Res.mk [XV.mk false [X.c (X0.dat Ty.bool false)]] []) else bif (Sp.f19 (Sp.f16 x0 x1 x2).1.1 (Sp.f16 x0 x1 x2).1.2.1 (Sp.f16 x0 x1 x2).1.2.2 x3).1.2 != (Sp.f18 (Sp.f16 x0 x1 x2).1.1 (Sp.f16 x0 x1 x2).1.2.1 (Sp.f16 x0 x1 x2).1.2.2 x3).1.2 then some (Res.mk [XV.mk false [X.c (X0.dat Ty.bool false)]] []) else some (Res.mk [XV.mk false [X.c (X0.dat Ty.bool true)]] []))) := by kernel_rfl
theorem f4_form (x0 : Int) (x1 : ByteArray) (x2 : Bool) (x3 : ByteArray) : (bif decide ((↑x3.size : Int) > (1048576 : Int)) then some (Res.mk [XV.mk false [X.c (X0.dat Ty.bool true)]] []) else bif decide ((Sp.f14 x0 x1 x2 (1048576 : Int)).1 < (0 : Int)) then some (Res.mk [XV.mk false [X.c (X0.dat Ty.bool true)]] []) else chk (Sp.f18_pre (Sp.f16 x0 x1 x2).1.1 (Sp.f16 x0 x1 x2).1.2.1 (Sp.f16 x0 x1 x2).1.2.2 x3) (chk (Sp.f19_pre (Sp.f16 x0 x1 x2).1.1 (Sp.f16 x0 x1 x2).1.2.1 (Sp.f16 x0 x1 x2).1.2.2 x3) (bif !(Sp.f20 (Sp.f19 (Sp.f16 x0 x1 x2).1.1 (Sp.f16 x0 x1 x2).1.2.1 (Sp.f16 x0 x1 x2).1.2.2 x3).1.1.1 (Sp.f19 (Sp.f16 x0 x1 x2).1.1 (Sp.f16 x0 x1 x2).1.2.1 (Sp.f16 x0 x1 x2).1.2.2 x3).1.1.2.1 (Sp.f19 (Sp.f16 x0 x1 x2).1.1 (Sp.f16 x0 x1 x2).1.2.1 (Sp.f16 x0 x1 x2).1.2.2 x3).1.1.2.2 (Sp.f18 (Sp.f16 x0 x1 x2).1.1 (Sp.f16 x0 x1 x2).1.2.1 (Sp.f16 x0 x1 x2).1.2.2 x3).1.1.1 (Sp.f18 (Sp.f16 x0 x1 x2).1.1 (Sp.f16 x0 x1 x2).1.2.1 (Sp.f16 x0 x1 x2).1.2.2 x3).1.1.2.1 (Sp.f18 (Sp.f16 x0 x1 x2).1.1 (Sp.f16 x0 x1 x2).1.2.1 (Sp.f16 x0 x1 x2).1.2.2 x3).1.1.2.2).1 then some (Res.mk [XV.mk false [X.c (X0.dat Ty.bool false)]] []) else bif (Sp.f19 (Sp.f16 x0 x1 x2).1.1 (Sp.f16 x0 x1 x2).1.2.1 (Sp.f16 x0 x1 x2).1.2.2 x3).1.2 != (Sp.f18 (Sp.f16 x0 x1 x2).1.1 (Sp.f16 x0 x1 x2).1.2.1 (Sp.f16 x0 x1 x2).1.2.2 x3).1.2 then some (Res.mk [XV.mk false [X.c (X0.dat Ty.bool false)]] []) else some (Res.mk [XV.mk false [X.c (X0.dat Ty.bool true)]] [])))) = chk (Sp.f4_pre x0 x1 x2 x3) (some (f4_g (Sp.f4 x0 x1 x2 x3))) := by
  unfold Sp.f4_pre Sp.f4
  exact (cond_step f4_g ((lift_plain (rfl))) ((cond_step f4_g ((lift_plain (rfl))) ((chk_step ((chk_last ((cond_plain f4_g (rfl) ((cond_plain f4_g (rfl) (rfl))))))))))))
theorem e4_ok : Valid Try.prog Γ e4 := valid_auto ok (vcons e14_ok (vcons e16_ok (vcons e18_ok (vcons e19_ok (vcons e20_ok vnil))))) fun a => (f4_raw a.1.1 a.1.2.1 a.1.2.2 a.2).trans (f4_form a.1.1 a.1.2.1 a.1.2.2 a.2)

#print axioms e4_ok
end Go.Proofs.GR.T
namespace Go.Proofs.GR.T
open Go Go.Proofs Go.Proofs.GR

theorem f17_eq (x0 : Int) (x1 : ByteArray) (x2 : Bool) : Sp.f17 x0 x1 x2 = Sp.f15 x0 x1 x2 := by
  unfold Sp.f17 Sp.f15
  by_cases h1 : x0 = (x1.size : Int)
  · subst h1
    by_cases h2 : (x1.size : Int) ≤ 65536 <;> cases x2 <;> simp [h2]
  · simp [beq_false_of_ne h1]
theorem f15_true {x0 : Int} {x1 : ByteArray} {x2 : Bool} (h : (Sp.f15 x0 x1 x2).1 = true) : x0 = (x1.size : Int) ∧ (x1.size : Int) ≤ 65536 := by
  unfold Sp.f15 at h
  by_cases h2 : (x1.size : Int) ≤ 65536
  · by_cases h1 : x0 = (x1.size : Int)
    · exact ⟨h1, h2⟩
    · simp [h2, beq_false_of_ne h1] at h
  · simp [h2] at h
theorem f69_one (t : ByteArray) : (Sp.f69 [t]).1 = decide ((t.size : Int) > 65536) := by
  simp only [Sp.f69, Sp.f114, Sp.idx, Sp.f115]
  by_cases h : (t.size : Int) > 65536
  · simp [h]
  · simp [h]
theorem f19_eq (x0 : Int) (x1 : ByteArray) (x2 : Bool) (x3 : ByteArray) : Sp.f19 x0 x1 x2 x3 = Sp.f18 x0 x1 x2 x3 := by
  unfold Sp.f19 Sp.f18
  rw [f69_one, f17_eq]
  cases h1 : decide ((x3.size : Int) > 65536) with
  | true => rfl
  | false =>
    cases h2 : (Sp.f15 x0 x1 x2).1 with
    | false => rfl
    | true =>
      obtain ⟨e1, e2⟩ := f15_true h2
      subst e1
      have e3 : (x3.size : Int) ≤ 65536 := by simpa using h1
      simp only [cond_false, cond_true, Bool.not_true]
      cases x2 with
      | true => rfl
      | false =>
        simp only [cond_false, Sp.f68, Sp.f70]
        rw [wrap64 (by omega) (by omega)]
        by_cases h3 : (x3.size : Int) = 0
        · simp [h3]
        · by_cases h4 : (x3.size : Int) > 64
          · have h4' : ¬ ((x3.size : Int) ≤ 64) := by omega
            have h5 : (1 : Int) ≤ x3.size := by omega
            simp [h3, h4, h4', h5]
          · have h4' : (x3.size : Int) ≤ 64 := by omega
            have h5 : (1 : Int) ≤ x3.size := by omega
            by_cases h6 : (x1.size : Int) + x3.size > 65536
            · simp [beq_false_of_ne h3, h4, h4', h5, h6]
            · simp [beq_false_of_ne h3, h4, h4', h5, h6, ByteArray.size_append]
theorem f20_same (x0 : Int) (x1 : ByteArray) (x2 : Bool) : (Sp.f20 x0 x1 x2 x0 x1 x2).1 = true := by
  simp [Sp.f20, eqB]
theorem f18_pre_true (x0 : Int) (x1 : ByteArray) (x2 : Bool) (x3 : ByteArray) : Sp.f18_pre x0 x1 x2 x3 = true := by
  unfold Sp.f18_pre
  cases h1 : decide ((x3.size : Int) > 65536) with
  | true => rfl
  | false =>
    cases h2 : (Sp.f15 x0 x1 x2).1 with
    | false => rfl
    | true =>
      obtain ⟨e1, e2⟩ := f15_true h2
      have e3 : (x3.size : Int) ≤ 65536 := by simpa using h1
      simp [Sp.f68_pre]
      omega
theorem f19_pre_true (x0 : Int) (x1 : ByteArray) (x2 : Bool) (x3 : ByteArray) : Sp.f19_pre x0 x1 x2 x3 = true := by
  unfold Sp.f19_pre
  rw [f69_one, f17_eq]
  cases h1 : decide ((x3.size : Int) > 65536) with
  | true => rfl
  | false =>
    cases h2 : (Sp.f15 x0 x1 x2).1 with
    | false => rfl
    | true =>
      obtain ⟨e1, e2⟩ := f15_true h2
      have e3 : (x3.size : Int) ≤ 65536 := by simpa using h1
      simp
      omega
theorem law4_pre (x0 : Int) (x1 : ByteArray) (x2 : Bool) (x3 : ByteArray) : Sp.f4_pre x0 x1 x2 x3 = true := by
  unfold Sp.f4_pre
  rw [f18_pre_true, f19_pre_true]
  simp
theorem law4 (x0 : Int) (x1 : ByteArray) (x2 : Bool) (x3 : ByteArray) : (Sp.f4 x0 x1 x2 x3).1 = true := by
  unfold Sp.f4
  simp only [f19_eq, Sp.f16, f20_same, Bool.not_true, cond_false]
  simp
end Go.Proofs.GR.T
