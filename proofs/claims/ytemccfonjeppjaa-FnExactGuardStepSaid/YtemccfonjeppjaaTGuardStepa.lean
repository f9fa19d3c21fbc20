/-
  No statement is proved here: what the functions of the law answer, told as plain functions, and that the law's answer is always true.
  No condition.
-/
import Derived.Test.YtemccfonjeppjaaRt
import Derived.Shelf.Strconv.Clone
namespace Go.Proofs.GR.T
abbrev tI : Ty := .int .i64
abbrev tB : Ty := .int .u8
abbrev cI : C0 := .dat (.int .i64)
abbrev cB : C0 := .dat .bool
abbrev cS : C0 := .dat .str
abbrev cL (t : Ty) : C0 := .dat (.slice t)
end Go.Proofs.GR.T
namespace Go.Proofs.GR.T
open Go Go.Proofs Go.Proofs.GR Go.Shelf
def ren165 : Ren := ⟨fun _ => 165, fun k => if k = 0 then 0 else if k = 37 then 33 else if k = 127 then 233 else k, fun k => k⟩
theorem lays165 : LaysM.n316 Try.prog ren165 where
  mixed := ok.mixed
  f316 := by kernel_rfl
  t0 := by kernel_rfl
  a0 := fun _ => by kernel_rfl
  z0 := fun _ => by kernel_rfl
  v0 := fun _ => by kernel_rfl
  t3 := by kernel_rfl
  a3 := fun _ => by kernel_rfl
  z3 := fun _ => by kernel_rfl
  v3 := fun _ => by kernel_rfl
  t4 := by kernel_rfl
  a4 := fun _ => by kernel_rfl
  z4 := fun _ => by kernel_rfl
  v4 := fun _ => by kernel_rfl
  t5 := by kernel_rfl
  a5 := fun _ => by kernel_rfl
  z5 := fun _ => by kernel_rfl
  v5 := fun _ => by kernel_rfl
  t9 := by kernel_rfl
  a9 := fun _ => by kernel_rfl
  z9 := fun _ => by kernel_rfl
  v9 := fun _ => by kernel_rfl
  t37 := by kernel_rfl
  a37 := fun _ => by kernel_rfl
  z37 := fun _ => by kernel_rfl
  v37 := fun _ => by kernel_rfl
  t127 := by kernel_rfl
  a127 := fun _ => by kernel_rfl
  z127 := fun _ => by kernel_rfl
  v127 := fun _ => by kernel_rfl
  i0 := by kernel_rfl
  i3 := by kernel_rfl
  i4 := by kernel_rfl
  i5 := by kernel_rfl
  i9 := by kernel_rfl
  i37 := by kernel_rfl
  i127 := by kernel_rfl
theorem clone165 (s : ByteArray) (h : s.size ≤ 281474976710656) : Contract Try.prog Γ 165 [⟨false, [.c (.dat .str s)]⟩] ⟨[⟨false, [.c (.dat .str s)]⟩], []⟩ :=
  contract_str (by kernel_rfl) fun w => Any.stringslite_Clone lays165 s w h
end Go.Proofs.GR.T
set_option maxRecDepth 100000
namespace Go.Proofs.GR.T
open Go Go.Proofs Go.Proofs.GR
def Sp.f14_pre (x0 : Int) (x1 : ByteArray) (x2 : Bool) (x3 : Int) : Bool := true
def Sp.f14 (x0 : Int) (x1 : ByteArray) (x2 : Bool) (x3 : Int) := (bif decide (IntKind.i64.wrap (x3 - (↑x1.size : Int)) < (0 : Int)) then ((-1 : Int), ()) else (IntKind.i64.wrap (x3 - (↑x1.size : Int)), ()))
noncomputable def e14 : Ent := { f := 14, ins := [Sh.agg [C0.dat (Ty.int IntKind.i64), C0.dat Ty.str, C0.dat Ty.bool], Sh.one (C0.dat (Ty.int IntKind.i64))], outs := [Sh.one (C0.dat (Ty.int IntKind.i64))], upd := [], pre := fun a => true, spec := fun a => (Sp.f14 a.1.1 a.1.2.1 a.1.2.2 a.2).1, wrt := fun a => (Sp.f14 a.1.1 a.1.2.1 a.1.2.2 a.2).2 }
def f14_g (v : denS [Sh.one (C0.dat (Ty.int IntKind.i64))] × denS []) : Res := ⟨mkS [Sh.one (C0.dat (Ty.int IntKind.i64))] v.1, mkU [] v.2⟩
theorem f14_raw (x0 : Int) (x1 : ByteArray) (x2 : Bool) (x3 : Int) : abody Γ (orc []) 0 14 [XV.mk true [X.c (X0.dat (Ty.int IntKind.i64) x0), X.c (X0.dat Ty.str x1), X.c (X0.dat Ty.bool x2)], XV.mk false [X.c (X0.dat (Ty.int IntKind.i64) x3)]] = bif decide (IntKind.i64.wrap (x3 - (↑x1.size : Int)) < (0 : Int)) then some (Res.mk [XV.mk false [X.c (X0.dat (Ty.int IntKind.i64) (-1 : Int))]] []) else some (Res.mk [XV.mk false [X.c (X0.dat (Ty.int IntKind.i64) (IntKind.i64.wrap (x3 - (↑x1.size : Int))))]] []) := by kernel_rfl
theorem f14_form (x0 : Int) (x1 : ByteArray) (x2 : Bool) (x3 : Int) : (bif decide (IntKind.i64.wrap (x3 - (↑x1.size : Int)) < (0 : Int)) then some (Res.mk [XV.mk false [X.c (X0.dat (Ty.int IntKind.i64) (-1 : Int))]] []) else some (Res.mk [XV.mk false [X.c (X0.dat (Ty.int IntKind.i64) (IntKind.i64.wrap (x3 - (↑x1.size : Int))))]] [])) = some (f14_g (Sp.f14 x0 x1 x2 x3)) := by
  unfold Sp.f14
  exact (cond_plain f14_g (rfl) (rfl))
theorem e14_ok : Valid Try.prog Γ e14 := valid_auto ok vnil fun a => (f14_raw a.1.1 a.1.2.1 a.1.2.2 a.2).trans (f14_form a.1.1 a.1.2.1 a.1.2.2 a.2)

def Sp.f15_pre (x0 : Int) (x1 : ByteArray) (x2 : Bool) : Bool := true
def Sp.f15 (x0 : Int) (x1 : ByteArray) (x2 : Bool) := (bif decide ((↑x1.size : Int) ≤ (65536 : Int)) then (bif x0 == (↑x1.size : Int) then (bif x2 then (true, ()) else (x0.tmod (64 : Int) == (0 : Int), ())) else (false, ())) else (false, ()))
noncomputable def e15 : Ent := { f := 15, ins := [Sh.agg [C0.dat (Ty.int IntKind.i64), C0.dat Ty.str, C0.dat Ty.bool]], outs := [Sh.one (C0.dat Ty.bool)], upd := [], pre := fun a => true, spec := fun a => (Sp.f15 a.1 a.2.1 a.2.2).1, wrt := fun a => (Sp.f15 a.1 a.2.1 a.2.2).2 }
def f15_g (v : denS [Sh.one (C0.dat Ty.bool)] × denS []) : Res := ⟨mkS [Sh.one (C0.dat Ty.bool)] v.1, mkU [] v.2⟩
theorem f15_raw (x0 : Int) (x1 : ByteArray) (x2 : Bool) : abody Γ (orc []) 0 15 [XV.mk true [X.c (X0.dat (Ty.int IntKind.i64) x0), X.c (X0.dat Ty.str x1), X.c (X0.dat Ty.bool x2)]] = bif decide ((↑x1.size : Int) ≤ (65536 : Int)) then bif x0 == (↑x1.size : Int) then bif x2 then some (Res.mk [XV.mk false [X.c (X0.dat Ty.bool true)]] []) else some (Res.mk [XV.mk false [X.c (X0.dat Ty.bool (x0.tmod (64 : Int) == (0 : Int)))]] []) else some (Res.mk [XV.mk false [X.c (X0.dat Ty.bool false)]] []) else some (Res.mk [XV.mk false [X.c (X0.dat Ty.bool false)]] []) := by kernel_rfl
theorem f15_form (x0 : Int) (x1 : ByteArray) (x2 : Bool) : (bif decide ((↑x1.size : Int) ≤ (65536 : Int)) then bif x0 == (↑x1.size : Int) then bif x2 then some (Res.mk [XV.mk false [X.c (X0.dat Ty.bool true)]] []) else some (Res.mk [XV.mk false [X.c (X0.dat Ty.bool (x0.tmod (64 : Int) == (0 : Int)))]] []) else some (Res.mk [XV.mk false [X.c (X0.dat Ty.bool false)]] []) else some (Res.mk [XV.mk false [X.c (X0.dat Ty.bool false)]] [])) = some (f15_g (Sp.f15 x0 x1 x2)) := by
  unfold Sp.f15
  exact (cond_plain f15_g ((cond_plain f15_g ((cond_plain f15_g (rfl) (rfl))) (rfl))) (rfl))
theorem e15_ok : Valid Try.prog Γ e15 := valid_auto ok vnil fun a => (f15_raw a.1 a.2.1 a.2.2).trans (f15_form a.1 a.2.1 a.2.2)

def Sp.f16_pre (x0 : Int) (x1 : ByteArray) (x2 : Bool) : Bool := true
def Sp.f16 (x0 : Int) (x1 : ByteArray) (x2 : Bool) := ((x0, x1, x2), ())
noncomputable def e16 : Ent := { f := 16, ins := [Sh.agg [C0.dat (Ty.int IntKind.i64), C0.dat Ty.str, C0.dat Ty.bool]], outs := [Sh.agg [C0.dat (Ty.int IntKind.i64), C0.dat Ty.str, C0.dat Ty.bool]], upd := [], pre := fun a => true, spec := fun a => (Sp.f16 a.1 a.2.1 a.2.2).1, wrt := fun a => (Sp.f16 a.1 a.2.1 a.2.2).2 }
def f16_g (v : denS [Sh.agg [C0.dat (Ty.int IntKind.i64), C0.dat Ty.str, C0.dat Ty.bool]] × denS []) : Res := ⟨mkS [Sh.agg [C0.dat (Ty.int IntKind.i64), C0.dat Ty.str, C0.dat Ty.bool]] v.1, mkU [] v.2⟩
theorem f16_raw (x0 : Int) (x1 : ByteArray) (x2 : Bool) : abody Γ (orc []) 0 16 [XV.mk true [X.c (X0.dat (Ty.int IntKind.i64) x0), X.c (X0.dat Ty.str x1), X.c (X0.dat Ty.bool x2)]] = some (Res.mk [XV.mk true [X.c (X0.dat (Ty.int IntKind.i64) x0), X.c (X0.dat Ty.str x1), X.c (X0.dat Ty.bool x2)]] []) := by kernel_rfl
theorem f16_form (x0 : Int) (x1 : ByteArray) (x2 : Bool) : (some (Res.mk [XV.mk true [X.c (X0.dat (Ty.int IntKind.i64) x0), X.c (X0.dat Ty.str x1), X.c (X0.dat Ty.bool x2)]] [])) = some (f16_g (Sp.f16 x0 x1 x2)) := by
  unfold Sp.f16
  exact rfl
theorem e16_ok : Valid Try.prog Γ e16 := valid_auto ok vnil fun a => (f16_raw a.1 a.2.1 a.2.2).trans (f16_form a.1 a.2.1 a.2.2)

def Sp.f17_pre (x0 : Int) (x1 : ByteArray) (x2 : Bool) : Bool := true
def Sp.f17 (x0 : Int) (x1 : ByteArray) (x2 : Bool) := (bif x0 == (↑x1.size : Int) then (bif decide (x0 ≤ (65536 : Int)) then (bif x2 then (true, ()) else (x0.tmod (64 : Int) == (0 : Int), ())) else (false, ())) else (false, ()))
noncomputable def e17 : Ent := { f := 17, ins := [Sh.agg [C0.dat (Ty.int IntKind.i64), C0.dat Ty.str, C0.dat Ty.bool]], outs := [Sh.one (C0.dat Ty.bool)], upd := [], pre := fun a => true, spec := fun a => (Sp.f17 a.1 a.2.1 a.2.2).1, wrt := fun a => (Sp.f17 a.1 a.2.1 a.2.2).2 }
def f17_g (v : denS [Sh.one (C0.dat Ty.bool)] × denS []) : Res := ⟨mkS [Sh.one (C0.dat Ty.bool)] v.1, mkU [] v.2⟩
theorem f17_raw (x0 : Int) (x1 : ByteArray) (x2 : Bool) : abody Γ (orc []) 0 17 [XV.mk true [X.c (X0.dat (Ty.int IntKind.i64) x0), X.c (X0.dat Ty.str x1), X.c (X0.dat Ty.bool x2)]] = bif x0 == (↑x1.size : Int) then bif decide (x0 ≤ (65536 : Int)) then bif x2 then some (Res.mk [XV.mk false [X.c (X0.dat Ty.bool true)]] []) else some (Res.mk [XV.mk false [X.c (X0.dat Ty.bool (x0.tmod (64 : Int) == (0 : Int)))]] []) else some (Res.mk [XV.mk false [X.c (X0.dat Ty.bool false)]] []) else some (Res.mk [XV.mk false [X.c (X0.dat Ty.bool false)]] []) := by kernel_rfl
theorem f17_form (x0 : Int) (x1 : ByteArray) (x2 : Bool) : (bif x0 == (↑x1.size : Int) then bif decide (x0 ≤ (65536 : Int)) then bif x2 then some (Res.mk [XV.mk false [X.c (X0.dat Ty.bool true)]] []) else some (Res.mk [XV.mk false [X.c (X0.dat Ty.bool (x0.tmod (64 : Int) == (0 : Int)))]] []) else some (Res.mk [XV.mk false [X.c (X0.dat Ty.bool false)]] []) else some (Res.mk [XV.mk false [X.c (X0.dat Ty.bool false)]] [])) = some (f17_g (Sp.f17 x0 x1 x2)) := by
  unfold Sp.f17
  exact (cond_plain f17_g ((cond_plain f17_g ((cond_plain f17_g (rfl) (rfl))) (rfl))) (rfl))
theorem e17_ok : Valid Try.prog Γ e17 := valid_auto ok vnil fun a => (f17_raw a.1 a.2.1 a.2.2).trans (f17_form a.1 a.2.1 a.2.2)

def Sp.f20_pre (x0 : Int) (x1 : ByteArray) (x2 : Bool) (x3 : Int) (x4 : ByteArray) (x5 : Bool) : Bool := true
def Sp.f20 (x0 : Int) (x1 : ByteArray) (x2 : Bool) (x3 : Int) (x4 : ByteArray) (x5 : Bool) := (bif x0 != x3 then (false, ()) else (bif !x1.toList == x4.toList then (false, ()) else (bif !eqB x2 x5 then (false, ()) else (true, ()))))
noncomputable def e20 : Ent := { f := 20, ins := [Sh.agg [C0.dat (Ty.int IntKind.i64), C0.dat Ty.str, C0.dat Ty.bool], Sh.agg [C0.dat (Ty.int IntKind.i64), C0.dat Ty.str, C0.dat Ty.bool]], outs := [Sh.one (C0.dat Ty.bool)], upd := [], pre := fun a => true, spec := fun a => (Sp.f20 a.1.1 a.1.2.1 a.1.2.2 a.2.1 a.2.2.1 a.2.2.2).1, wrt := fun a => (Sp.f20 a.1.1 a.1.2.1 a.1.2.2 a.2.1 a.2.2.1 a.2.2.2).2 }
def f20_g (v : denS [Sh.one (C0.dat Ty.bool)] × denS []) : Res := ⟨mkS [Sh.one (C0.dat Ty.bool)] v.1, mkU [] v.2⟩
theorem f20_raw (x0 : Int) (x1 : ByteArray) (x2 : Bool) (x3 : Int) (x4 : ByteArray) (x5 : Bool) : abody Γ (orc []) 0 20 [XV.mk true [X.c (X0.dat (Ty.int IntKind.i64) x0), X.c (X0.dat Ty.str x1), X.c (X0.dat Ty.bool x2)], XV.mk true [X.c (X0.dat (Ty.int IntKind.i64) x3), X.c (X0.dat Ty.str x4), X.c (X0.dat Ty.bool x5)]] = bif x0 != x3 then some (Res.mk [XV.mk false [X.c (X0.dat Ty.bool false)]] []) else bif !x1.toList == x4.toList then some (Res.mk [XV.mk false [X.c (X0.dat Ty.bool false)]] []) else bif !eqB x2 x5 then some (Res.mk [XV.mk false [X.c (X0.dat Ty.bool false)]] []) else some (Res.mk [XV.mk false [X.c (X0.dat Ty.bool true)]] []) := by kernel_rfl
theorem f20_form (x0 : Int) (x1 : ByteArray) (x2 : Bool) (x3 : Int) (x4 : ByteArray) (x5 : Bool) : (bif x0 != x3 then some (Res.mk [XV.mk false [X.c (X0.dat Ty.bool false)]] []) else bif !x1.toList == x4.toList then some (Res.mk [XV.mk false [X.c (X0.dat Ty.bool false)]] []) else bif !eqB x2 x5 then some (Res.mk [XV.mk false [X.c (X0.dat Ty.bool false)]] []) else some (Res.mk [XV.mk false [X.c (X0.dat Ty.bool true)]] [])) = some (f20_g (Sp.f20 x0 x1 x2 x3 x4 x5)) := by
  unfold Sp.f20
  exact (cond_plain f20_g (rfl) ((cond_plain f20_g (rfl) ((cond_plain f20_g (rfl) (rfl))))))
theorem e20_ok : Valid Try.prog Γ e20 := valid_auto ok vnil fun a => (f20_raw a.1.1 a.1.2.1 a.1.2.2 a.2.1 a.2.2.1 a.2.2.2).trans (f20_form a.1.1 a.1.2.1 a.1.2.2 a.2.1 a.2.2.1 a.2.2.2)

def Sp.f68_pre (x0 : Int) (x1 : ByteArray) (x2 : Bool) (x3 : ByteArray) : Bool := (bif x2 then true else (bif (↑x3.size : Int) == (0 : Int) then true else (bif decide ((↑x3.size : Int) > (64 : Int)) then true else (bif decide (IntKind.i64.wrap ((↑x1.size : Int) + (↑x3.size : Int)) > (65536 : Int)) then true else decide (x1.size + x3.size ≤ (9223372036854775807 : Nat))))))
def Sp.f68 (x0 : Int) (x1 : ByteArray) (x2 : Bool) (x3 : ByteArray) := (bif x2 then (((x0, x1, x2), (16 : Int)), ()) else (bif (↑x3.size : Int) == (0 : Int) then (((x0, x1, x2), (4 : Int)), ()) else (bif decide ((↑x3.size : Int) > (64 : Int)) then (((x0, x1, x2), (4 : Int)), ()) else (bif decide (IntKind.i64.wrap ((↑x1.size : Int) + (↑x3.size : Int)) > (65536 : Int)) then (((x0, x1, x2), (7 : Int)), ()) else ((((↑(x1 ++ x3).size : Int), x1 ++ x3, decide ((↑x3.size : Int) < (64 : Int))), (0 : Int)), ())))))
noncomputable def e68 : Ent := { f := 68, ins := [Sh.agg [C0.dat (Ty.int IntKind.i64), C0.dat Ty.str, C0.dat Ty.bool], Sh.one (C0.dat Ty.str)], outs := [Sh.agg [C0.dat (Ty.int IntKind.i64), C0.dat Ty.str, C0.dat Ty.bool], Sh.one (C0.dat (Ty.int IntKind.i64))], upd := [], pre := fun a => Sp.f68_pre a.1.1 a.1.2.1 a.1.2.2 a.2, spec := fun a => (Sp.f68 a.1.1 a.1.2.1 a.1.2.2 a.2).1, wrt := fun a => (Sp.f68 a.1.1 a.1.2.1 a.1.2.2 a.2).2 }
def f68_g (v : denS [Sh.agg [C0.dat (Ty.int IntKind.i64), C0.dat Ty.str, C0.dat Ty.bool], Sh.one (C0.dat (Ty.int IntKind.i64))] × denS []) : Res := ⟨mkS [Sh.agg [C0.dat (Ty.int IntKind.i64), C0.dat Ty.str, C0.dat Ty.bool], Sh.one (C0.dat (Ty.int IntKind.i64))] v.1, mkU [] v.2⟩
theorem f68_raw (x0 : Int) (x1 : ByteArray) (x2 : Bool) (x3 : ByteArray) : abody Γ (orc []) 0 68 [XV.mk true [X.c (X0.dat (Ty.int IntKind.i64) x0), X.c (X0.dat Ty.str x1), X.c (X0.dat Ty.bool x2)], XV.mk false [X.c (X0.dat Ty.str x3)]] = bif x2 then some (Res.mk [XV.mk true [X.c (X0.dat (Ty.int IntKind.i64) x0), X.c (X0.dat Ty.str x1), X.c (X0.dat Ty.bool x2)], XV.mk false [X.c (X0.dat (Ty.int IntKind.i64) (16 : Int))]] []) else bif (↑x3.size : Int) == (0 : Int) then some (Res.mk [XV.mk true [X.c (X0.dat (Ty.int IntKind.i64) x0), X.c (X0.dat Ty.str x1), X.c (X0.dat Ty.bool x2)], XV.mk false [X.c (X0.dat (Ty.int IntKind.i64) (4 : Int))]] []) else bif decide ((↑x3.size : Int) > (64 : Int)) then some (Res.mk [XV.mk true [X.c (X0.dat (Ty.int IntKind.i64) x0), X.c (X0.dat Ty.str x1), X.c (X0.dat Ty.bool x2)], XV.mk false [X.c (X0.dat (Ty.int IntKind.i64) (4 : Int))]] []) else bif decide (IntKind.i64.wrap ((↑x1.size : Int) + (↑x3.size : Int)) > (65536 : Int)) then some (Res.mk [XV.mk true [X.c (X0.dat (Ty.int IntKind.i64) x0), X.c (X0.dat Ty.str x1), X.c (X0.dat Ty.bool x2)], XV.mk false [X.c (X0.dat (Ty.int IntKind.i64) (7 : Int))]] []) else chk (decide (x1.size + x3.size ≤ (9223372036854775807 : Nat))) (some (Res.mk [XV.mk true [X.c (X0.dat (Ty.int IntKind.i64) (↑(x1 ++ x3).size : Int)), X.c (X0.dat Ty.str (x1 ++ x3)), X.c (X0.dat Ty.bool (decide ((↑x3.size : Int) < (64 : Int))))], XV.mk false [X.c (X0.dat (Ty.int IntKind.i64) (0 : Int))]] [])) := by kernel_rfl
theorem f68_form (x0 : Int) (x1 : ByteArray) (x2 : Bool) (x3 : ByteArray) : (bif x2 then some (Res.mk [XV.mk true [X.c (X0.dat (Ty.int IntKind.i64) x0), X.c (X0.dat Ty.str x1), X.c (X0.dat Ty.bool x2)], XV.mk false [X.c (X0.dat (Ty.int IntKind.i64) (16 : Int))]] []) else bif (↑x3.size : Int) == (0 : Int) then some (Res.mk [XV.mk true [X.c (X0.dat (Ty.int IntKind.i64) x0), X.c (X0.dat Ty.str x1), X.c (X0.dat Ty.bool x2)], XV.mk false [X.c (X0.dat (Ty.int IntKind.i64) (4 : Int))]] []) else bif decide ((↑x3.size : Int) > (64 : Int)) then some (Res.mk [XV.mk true [X.c (X0.dat (Ty.int IntKind.i64) x0), X.c (X0.dat Ty.str x1), X.c (X0.dat Ty.bool x2)], XV.mk false [X.c (X0.dat (Ty.int IntKind.i64) (4 : Int))]] []) else bif decide (IntKind.i64.wrap ((↑x1.size : Int) + (↑x3.size : Int)) > (65536 : Int)) then some (Res.mk [XV.mk true [X.c (X0.dat (Ty.int IntKind.i64) x0), X.c (X0.dat Ty.str x1), X.c (X0.dat Ty.bool x2)], XV.mk false [X.c (X0.dat (Ty.int IntKind.i64) (7 : Int))]] []) else chk (decide (x1.size + x3.size ≤ (9223372036854775807 : Nat))) (some (Res.mk [XV.mk true [X.c (X0.dat (Ty.int IntKind.i64) (↑(x1 ++ x3).size : Int)), X.c (X0.dat Ty.str (x1 ++ x3)), X.c (X0.dat Ty.bool (decide ((↑x3.size : Int) < (64 : Int))))], XV.mk false [X.c (X0.dat (Ty.int IntKind.i64) (0 : Int))]] []))) = chk (Sp.f68_pre x0 x1 x2 x3) (some (f68_g (Sp.f68 x0 x1 x2 x3))) := by
  unfold Sp.f68_pre Sp.f68
  exact (cond_step f68_g ((lift_plain (rfl))) ((cond_step f68_g ((lift_plain (rfl))) ((cond_step f68_g ((lift_plain (rfl))) ((cond_step f68_g ((lift_plain (rfl))) ((chk_last (rfl))))))))))
theorem e68_ok : Valid Try.prog Γ e68 := valid_auto ok vnil fun a => (f68_raw a.1.1 a.1.2.1 a.1.2.2 a.2).trans (f68_form a.1.1 a.1.2.1 a.1.2.2 a.2)

def Sp.f70_pre (x0 : Int) (x1 : Int) (x2 : Int) : Bool := true
def Sp.f70 (x0 : Int) (x1 : Int) (x2 : Int) := (bif decide (x0 ≥ x1) then (decide (x0 ≤ x2), ()) else (false, ()))
noncomputable def e70 : Ent := { f := 70, ins := [Sh.one (C0.dat (Ty.int IntKind.i64)), Sh.one (C0.dat (Ty.int IntKind.i64)), Sh.one (C0.dat (Ty.int IntKind.i64))], outs := [Sh.one (C0.dat Ty.bool)], upd := [], pre := fun a => true, spec := fun a => (Sp.f70 a.1 a.2.1 a.2.2).1, wrt := fun a => (Sp.f70 a.1 a.2.1 a.2.2).2 }
def f70_g (v : denS [Sh.one (C0.dat Ty.bool)] × denS []) : Res := ⟨mkS [Sh.one (C0.dat Ty.bool)] v.1, mkU [] v.2⟩
theorem f70_raw (x0 : Int) (x1 : Int) (x2 : Int) : abody Γ (orc []) 0 70 [XV.mk false [X.c (X0.dat (Ty.int IntKind.i64) x0)], XV.mk false [X.c (X0.dat (Ty.int IntKind.i64) x1)], XV.mk false [X.c (X0.dat (Ty.int IntKind.i64) x2)]] = bif decide (x0 ≥ x1) then some (Res.mk [XV.mk false [X.c (X0.dat Ty.bool (decide (x0 ≤ x2)))]] []) else some (Res.mk [XV.mk false [X.c (X0.dat Ty.bool false)]] []) := by kernel_rfl
theorem f70_form (x0 : Int) (x1 : Int) (x2 : Int) : (bif decide (x0 ≥ x1) then some (Res.mk [XV.mk false [X.c (X0.dat Ty.bool (decide (x0 ≤ x2)))]] []) else some (Res.mk [XV.mk false [X.c (X0.dat Ty.bool false)]] [])) = some (f70_g (Sp.f70 x0 x1 x2)) := by
  unfold Sp.f70
  exact (cond_plain f70_g (rfl) (rfl))
theorem e70_ok : Valid Try.prog Γ e70 := valid_auto ok vnil fun a => (f70_raw a.1 a.2.1 a.2.2).trans (f70_form a.1 a.2.1 a.2.2)

def Sp.f115_pre (x0 : ByteArray) : Bool := true
def Sp.f115 (x0 : ByteArray) := (decide ((↑x0.size : Int) > (65536 : Int)), ())
noncomputable def e115 : Ent := { f := 115, ins := [Sh.one (C0.dat Ty.str)], outs := [Sh.one (C0.dat Ty.bool)], upd := [], pre := fun a => true, spec := fun a => (Sp.f115 a).1, wrt := fun a => (Sp.f115 a).2 }
def f115_g (v : denS [Sh.one (C0.dat Ty.bool)] × denS []) : Res := ⟨mkS [Sh.one (C0.dat Ty.bool)] v.1, mkU [] v.2⟩
theorem f115_raw (x0 : ByteArray) : abody Γ (orc []) 0 115 [XV.mk false [X.c (X0.dat Ty.str x0)]] = some (Res.mk [XV.mk false [X.c (X0.dat Ty.bool (decide ((↑x0.size : Int) > (65536 : Int))))]] []) := by kernel_rfl
theorem f115_form (x0 : ByteArray) : (some (Res.mk [XV.mk false [X.c (X0.dat Ty.bool (decide ((↑x0.size : Int) > (65536 : Int))))]] [])) = some (f115_g (Sp.f115 x0)) := by
  unfold Sp.f115
  exact rfl
theorem e115_ok : Valid Try.prog Γ e115 := valid_auto ok vnil fun a => (f115_raw a).trans (f115_form a)

def Sp.f18_pre (x0 : Int) (x1 : ByteArray) (x2 : Bool) (x3 : ByteArray) : Bool := (bif decide ((↑x3.size : Int) > (65536 : Int)) then true else (bif !(Sp.f15 x0 x1 x2).1 then true else Sp.f68_pre x0 x1 x2 x3))
def Sp.f18 (x0 : Int) (x1 : ByteArray) (x2 : Bool) (x3 : ByteArray) := (bif decide ((↑x3.size : Int) > (65536 : Int)) then ((((0 : Int), ByteArray.empty, false), (2 : Int)), ()) else (bif !(Sp.f15 x0 x1 x2).1 then ((((0 : Int), ByteArray.empty, false), (1 : Int)), ()) else ((((Sp.f68 x0 x1 x2 x3).1.1.1, (Sp.f68 x0 x1 x2 x3).1.1.2.1, (Sp.f68 x0 x1 x2 x3).1.1.2.2), (Sp.f68 x0 x1 x2 x3).1.2), ())))
noncomputable def e18 : Ent := { f := 18, ins := [Sh.agg [C0.dat (Ty.int IntKind.i64), C0.dat Ty.str, C0.dat Ty.bool], Sh.one (C0.dat Ty.str)], outs := [Sh.agg [C0.dat (Ty.int IntKind.i64), C0.dat Ty.str, C0.dat Ty.bool], Sh.one (C0.dat (Ty.int IntKind.i64))], upd := [], pre := fun a => Sp.f18_pre a.1.1 a.1.2.1 a.1.2.2 a.2, spec := fun a => (Sp.f18 a.1.1 a.1.2.1 a.1.2.2 a.2).1, wrt := fun a => (Sp.f18 a.1.1 a.1.2.1 a.1.2.2 a.2).2 }
def f18_g (v : denS [Sh.agg [C0.dat (Ty.int IntKind.i64), C0.dat Ty.str, C0.dat Ty.bool], Sh.one (C0.dat (Ty.int IntKind.i64))] × denS []) : Res := ⟨mkS [Sh.agg [C0.dat (Ty.int IntKind.i64), C0.dat Ty.str, C0.dat Ty.bool], Sh.one (C0.dat (Ty.int IntKind.i64))] v.1, mkU [] v.2⟩
theorem f18_raw (x0 : Int) (x1 : ByteArray) (x2 : Bool) (x3 : ByteArray) : abody Γ (orc [e15, e68]) 0 18 [XV.mk true [X.c (X0.dat (Ty.int IntKind.i64) x0), X.c (X0.dat Ty.str x1), X.c (X0.dat Ty.bool x2)], XV.mk false [X.c (X0.dat Ty.str x3)]] = bif decide ((↑x3.size : Int) > (65536 : Int)) then some (Res.mk [XV.mk true [X.c (X0.dat (Ty.int IntKind.i64) (0 : Int)), X.c (X0.dat Ty.str ByteArray.empty), X.c (X0.dat Ty.bool false)], XV.mk false [X.c (X0.dat (Ty.int IntKind.i64) (2 : Int))]] []) else bif !(Sp.f15 x0 x1 x2).1 then some (Res.mk [XV.mk true [X.c (X0.dat (Ty.int IntKind.i64) (0 : Int)), X.c (X0.dat Ty.str ByteArray.empty), X.c (X0.dat Ty.bool false)], XV.mk false [X.c (X0.dat (Ty.int IntKind.i64) (1 : Int))]] []) else chk (Sp.f68_pre x0 x1 x2 x3) (some (Res.mk [XV.mk true [X.c (X0.dat (Ty.int IntKind.i64) (Sp.f68 x0 x1 x2 x3).1.1.1), X.c (X0.dat Ty.str (Sp.f68 x0 x1 x2 x3).1.1.2.1), X.c (X0.dat Ty.bool (Sp.f68 x0 x1 x2 x3).1.1.2.2)], XV.mk false [X.c (X0.dat (Ty.int IntKind.i64) (Sp.f68 x0 x1 x2 x3).1.2)]] [])) := by kernel_rfl
theorem f18_form (x0 : Int) (x1 : ByteArray) (x2 : Bool) (x3 : ByteArray) : (bif decide ((↑x3.size : Int) > (65536 : Int)) then some (Res.mk [XV.mk true [X.c (X0.dat (Ty.int IntKind.i64) (0 : Int)), X.c (X0.dat Ty.str ByteArray.empty), X.c (X0.dat Ty.bool false)], XV.mk false [X.c (X0.dat (Ty.int IntKind.i64) (2 : Int))]] []) else bif !(Sp.f15 x0 x1 x2).1 then some (Res.mk [XV.mk true [X.c (X0.dat (Ty.int IntKind.i64) (0 : Int)), X.c (X0.dat Ty.str ByteArray.empty), X.c (X0.dat Ty.bool false)], XV.mk false [X.c (X0.dat (Ty.int IntKind.i64) (1 : Int))]] []) else chk (Sp.f68_pre x0 x1 x2 x3) (some (Res.mk [XV.mk true [X.c (X0.dat (Ty.int IntKind.i64) (Sp.f68 x0 x1 x2 x3).1.1.1), X.c (X0.dat Ty.str (Sp.f68 x0 x1 x2 x3).1.1.2.1), X.c (X0.dat Ty.bool (Sp.f68 x0 x1 x2 x3).1.1.2.2)], XV.mk false [X.c (X0.dat (Ty.int IntKind.i64) (Sp.f68 x0 x1 x2 x3).1.2)]] []))) = chk (Sp.f18_pre x0 x1 x2 x3) (some (f18_g (Sp.f18 x0 x1 x2 x3))) := by
  unfold Sp.f18_pre Sp.f18
  exact (cond_step f18_g ((lift_plain (rfl))) ((cond_step f18_g ((lift_plain (rfl))) ((chk_last (rfl))))))
theorem e18_ok : Valid Try.prog Γ e18 := valid_auto ok (vcons e15_ok (vcons e68_ok vnil)) fun a => (f18_raw a.1.1 a.1.2.1 a.1.2.2 a.2).trans (f18_form a.1.1 a.1.2.1 a.1.2.2 a.2)

noncomputable def f163_L0 (n m0 : Nat) (y0 : List ByteArray) (y1 : Int) (y2 : Int) : Option Res := loopAt Γ (orc [e115]) n (163 : Nat) (0 : Nat) [] [Pth.r, Pth.l, Pth.r, Pth.b] m0 (St.mk [Slot.val (Val.one (Cell.dat Ty.str.slice y0)), Slot.val (Val.one (Cell.fn (115 : Nat) [])), Slot.nix, Slot.nix, Slot.nix, Slot.nix, Slot.nix, Slot.val (Val.one (Cell.dat (Ty.int IntKind.i64) y1)), Slot.val (Val.one (Cell.dat (Ty.int IntKind.i64) y2)), Slot.nix, Slot.nix, Slot.nix, Slot.nix, Slot.nix, Slot.nix, Slot.nix, Slot.nix, Slot.nix, Slot.nix] [])
theorem f163_L0_step (n m0 : Nat) (y0 : List ByteArray) (y1 : Int) (y2 : Int) : f163_L0 n (m0 + 1) y0 y1 y2 = bif decide (y2 < y1) then chk (decide ((0 : Int) ≤ y2) && decide (y2 < (↑y0.length : Int))) (bif (Sp.f115 (y0.getD y2.toNat (ByteArray.mk #[]))).1 then some (Res.mk [XV.mk false [X.c (X0.dat (Ty.int IntKind.i64) y2)]] []) else f163_L0 n m0 y0 y1 (IntKind.i64.wrap (y2 + (1 : Int)))) else some (Res.mk [XV.mk false [X.c (X0.dat (Ty.int IntKind.i64) (-1 : Int))]] []) := by kernel_rfl
theorem f163_raw (n : Nat) (x0 : List ByteArray) : abody Γ (orc [e115]) n 163 [XV.mk false [X.c (X0.dat Ty.str.slice x0)], XV.mk false [X.c (X0.fn (115 : Nat) [])]] = f163_L0 n n x0 (↑x0.length : Int) (0 : Int) := by kernel_rfl

/-- The first place from 'i' on where something holds; else -1. -/
def Sp.idx {α : Type} (p : α → Bool) : List α → Int → Int
  | [], _ => -1
  | x :: r, i => bif p x then i else Sp.idx p r (i + 1)
noncomputable def e163 : Ent := { f := 163, ins := [Sh.one (C0.dat (.slice .str)), Sh.one (C0.fn 115 [])], outs := [Sh.one cI], upd := [], pre := fun _ => true, spec := fun a => Sp.idx (fun t => (Sp.f115 t).1) a.1 0, wrt := fun _ => () }
theorem f163_loop (n : Nat) (xs : List ByteArray) (hl : xs.length ≤ maxLen) : ∀ (d k m : Nat), k + d = xs.length → d < m →
    f163_L0 n m xs (↑xs.length : Int) (↑k : Int) = some (Res.mk [XV.mk false [X.c (X0.dat (Ty.int IntKind.i64) (Sp.idx (fun t => (Sp.f115 t).1) (xs.drop k) k))]] []) := by
  intro d
  induction d with
  | zero =>
    intro k m hk hm
    obtain ⟨m, rfl⟩ : ∃ q, m = q + 1 := ⟨m - 1, by omega⟩
    rw [f163_L0_step, decide_eq_false (by omega), List.drop_of_length_le (by omega)]
    rfl
  | succ d ih =>
    intro k m hk hm
    obtain ⟨m, rfl⟩ : ∃ q, m = q + 1 := ⟨m - 1, by omega⟩
    have hlt : k < xs.length := by omega
    have hm : (xs.length : Nat) ≤ 9223372036854775807 := hl
    rw [f163_L0_step, decide_eq_true (by omega), decide_eq_true (by omega), wrap64 (by omega) (by omega), List.drop_eq_getElem_cons hlt]
    simp only [cond_true, Bool.and_self, chk, Int.toNat_natCast, Sp.idx, List.getD, List.getElem?_eq_getElem hlt, Option.getD_some]
    cases (Sp.f115 xs[k]).1 with
    | true => rfl
    | false =>
      have := ih (k + 1) m (by omega) (by omega)
      simpa using this
theorem e163_ok : Valid Try.prog Γ e163 := valid_len ok (es := [e115]) (vcons e115_ok vnil) fun a _ hl => by
  have h := hl _ (List.mem_cons_self) _ (List.mem_cons_self)
  have h1 : List.length a.1 ≤ maxLen := h.1
  exact ⟨List.length a.1 + 1, (f163_raw _ a.1).trans (f163_loop _ a.1 h1 (List.length a.1) 0 _ (Nat.zero_add _) (Nat.lt_succ_self _))⟩
def Sp.f114_pre (x0 : List ByteArray) : Bool := true
def Sp.f114 (x0 : List ByteArray) := (decide (Sp.idx (fun t ↦ (Sp.f115 t).fst) x0 (0 : Int) ≥ (0 : Int)), ())
noncomputable def e114 : Ent := { f := 114, ins := [Sh.one (C0.dat Ty.str.slice), Sh.one (C0.fn (115 : Nat) [])], outs := [Sh.one (C0.dat Ty.bool)], upd := [], pre := fun a => true, spec := fun a => (Sp.f114 a.1).1, wrt := fun a => (Sp.f114 a.1).2 }
def f114_g (v : denS [Sh.one (C0.dat Ty.bool)] × denS []) : Res := ⟨mkS [Sh.one (C0.dat Ty.bool)] v.1, mkU [] v.2⟩
theorem f114_raw (x0 : List ByteArray) : abody Γ (orc [e163, e115]) 0 114 [XV.mk false [X.c (X0.dat Ty.str.slice x0)], XV.mk false [X.c (X0.fn (115 : Nat) [])]] = some (Res.mk [XV.mk false [X.c (X0.dat Ty.bool (decide (Sp.idx (fun t ↦ (Sp.f115 t).fst) x0 (0 : Int) ≥ (0 : Int))))]] []) := by kernel_rfl
theorem f114_form (x0 : List ByteArray) : (some (Res.mk [XV.mk false [X.c (X0.dat Ty.bool (decide (Sp.idx (fun t ↦ (Sp.f115 t).fst) x0 (0 : Int) ≥ (0 : Int))))]] [])) = some (f114_g (Sp.f114 x0)) := by
  unfold Sp.f114
  exact rfl
theorem e114_ok : Valid Try.prog Γ e114 := valid_auto ok (vcons e163_ok (vcons e115_ok vnil)) fun a => (f114_raw a.1).trans (f114_form a.1)

def Sp.f69_pre (x0 : List ByteArray) : Bool := true
def Sp.f69 (x0 : List ByteArray) := ((Sp.f114 x0).1, ())
noncomputable def e69 : Ent := { f := 69, ins := [Sh.one (C0.dat Ty.str.slice)], outs := [Sh.one (C0.dat Ty.bool)], upd := [], pre := fun a => true, spec := fun a => (Sp.f69 a).1, wrt := fun a => (Sp.f69 a).2 }
def f69_g (v : denS [Sh.one (C0.dat Ty.bool)] × denS []) : Res := ⟨mkS [Sh.one (C0.dat Ty.bool)] v.1, mkU [] v.2⟩
theorem f69_raw (x0 : List ByteArray) : abody Γ (orc [e114, e115]) 0 69 [XV.mk false [X.c (X0.dat Ty.str.slice x0)]] = some (Res.mk [XV.mk false [X.c (X0.dat Ty.bool (Sp.f114 x0).1)]] []) := by kernel_rfl
theorem f69_form (x0 : List ByteArray) : (some (Res.mk [XV.mk false [X.c (X0.dat Ty.bool (Sp.f114 x0).1)]] [])) = some (f69_g (Sp.f69 x0)) := by
  unfold Sp.f69
  exact rfl
theorem e69_ok : Valid Try.prog Γ e69 := valid_auto ok (vcons e114_ok (vcons e115_ok vnil)) fun a => (f69_raw a).trans (f69_form a)

def Sp.f19_pre (x0 : Int) (x1 : ByteArray) (x2 : Bool) (x3 : ByteArray) : Bool := (bif (Sp.f69 [x3]).1 then true else (bif !(Sp.f17 x0 x1 x2).1 then true else (bif x2 then true else (bif !(Sp.f70 (↑x3.size : Int) (1 : Int) (64 : Int)).1 then true else (bif decide (IntKind.i64.wrap (x0 + (↑x3.size : Int)) > (65536 : Int)) then true else decide (x1.size + x3.size ≤ (9223372036854775807 : Nat)))))))
def Sp.f19 (x0 : Int) (x1 : ByteArray) (x2 : Bool) (x3 : ByteArray) := (bif (Sp.f69 [x3]).1 then ((((0 : Int), ByteArray.empty, false), (2 : Int)), ()) else (bif !(Sp.f17 x0 x1 x2).1 then ((((0 : Int), ByteArray.empty, false), (1 : Int)), ()) else (bif x2 then (((x0, x1, x2), (16 : Int)), ()) else (bif !(Sp.f70 (↑x3.size : Int) (1 : Int) (64 : Int)).1 then (((x0, x1, x2), (4 : Int)), ()) else (bif decide (IntKind.i64.wrap (x0 + (↑x3.size : Int)) > (65536 : Int)) then (((x0, x1, x2), (7 : Int)), ()) else (((IntKind.i64.wrap (x0 + (↑x3.size : Int)), x1 ++ x3, decide ((↑x3.size : Int) < (64 : Int))), (0 : Int)), ()))))))
noncomputable def e19 : Ent := { f := 19, ins := [Sh.agg [C0.dat (Ty.int IntKind.i64), C0.dat Ty.str, C0.dat Ty.bool], Sh.one (C0.dat Ty.str)], outs := [Sh.agg [C0.dat (Ty.int IntKind.i64), C0.dat Ty.str, C0.dat Ty.bool], Sh.one (C0.dat (Ty.int IntKind.i64))], upd := [], pre := fun a => Sp.f19_pre a.1.1 a.1.2.1 a.1.2.2 a.2, spec := fun a => (Sp.f19 a.1.1 a.1.2.1 a.1.2.2 a.2).1, wrt := fun a => (Sp.f19 a.1.1 a.1.2.1 a.1.2.2 a.2).2 }
def f19_g (v : denS [Sh.agg [C0.dat (Ty.int IntKind.i64), C0.dat Ty.str, C0.dat Ty.bool], Sh.one (C0.dat (Ty.int IntKind.i64))] × denS []) : Res := ⟨mkS [Sh.agg [C0.dat (Ty.int IntKind.i64), C0.dat Ty.str, C0.dat Ty.bool], Sh.one (C0.dat (Ty.int IntKind.i64))] v.1, mkU [] v.2⟩
theorem f19_raw (x0 : Int) (x1 : ByteArray) (x2 : Bool) (x3 : ByteArray) : abody Γ (orc [e69, e17, e70]) 0 19 [XV.mk true [X.c (X0.dat (Ty.int IntKind.i64) x0), X.c (X0.dat Ty.str x1), X.c (X0.dat Ty.bool x2)], XV.mk false [X.c (X0.dat Ty.str x3)]] = bif (Sp.f69 [x3]).1 then some (Res.mk [XV.mk true [X.c (X0.dat (Ty.int IntKind.i64) (0 : Int)), X.c (X0.dat Ty.str ByteArray.empty), X.c (X0.dat Ty.bool false)], XV.mk false [X.c (X0.dat (Ty.int IntKind.i64) (2 : Int))]] []) else bif !(Sp.f17 x0 x1 x2).1 then some (Res.mk [XV.mk true [X.c (X0.dat (Ty.int IntKind.i64) (0 : Int)), X.c (X0.dat Ty.str ByteArray.empty), X.c (X0.dat Ty.bool false)], XV.mk false [X.c (X0.dat (Ty.int IntKind.i64) (1 : Int))]] []) else bif x2 then some (Res.mk [XV.mk true [X.c (X0.dat (Ty.int IntKind.i64) x0), X.c (X0.dat Ty.str x1), X.c (X0.dat Ty.bool x2)], XV.mk false [X.c (X0.dat (Ty.int IntKind.i64) (16 : Int))]] []) else bif !(Sp.f70 (↑x3.size : Int) (1 : Int) (64 : Int)).1 then some (Res.mk [XV.mk true [X.c (X0.dat (Ty.int IntKind.i64) x0), X.c (X0.dat Ty.str x1), X.c (X0.dat Ty.bool x2)], XV.mk false [X.c (X0.dat (Ty.int IntKind.i64) (4 : Int))]] []) else bif decide (IntKind.i64.wrap (x0 + (↑x3.size : Int)) > (65536 : Int)) then some (Res.mk [XV.mk true [X.c (X0.dat (Ty.int IntKind.i64) x0), X.c (X0.dat Ty.str x1), X.c (X0.dat Ty.bool x2)], XV.mk false [X.c (X0.dat (Ty.int IntKind.i64) (7 : Int))]] []) else chk (decide (x1.size + x3.size ≤ (9223372036854775807 : Nat))) (some (Res.mk [XV.mk true [X.c (X0.dat (Ty.int IntKind.i64) (IntKind.i64.wrap (x0 + (↑x3.size : Int)))), X.c (X0.dat Ty.str (x1 ++ x3)), X.c (X0.dat Ty.bool (decide ((↑x3.size : Int) < (64 : Int))))], XV.mk false [X.c (X0.dat (Ty.int IntKind.i64) (0 : Int))]] [])) := by kernel_rfl
theorem f19_form (x0 : Int) (x1 : ByteArray) (x2 : Bool) (x3 : ByteArray) : (bif (Sp.f69 [x3]).1 then some (Res.mk [XV.mk true [X.c (X0.dat (Ty.int IntKind.i64) (0 : Int)), X.c (X0.dat Ty.str ByteArray.empty), X.c (X0.dat Ty.bool false)], XV.mk false [X.c (X0.dat (Ty.int IntKind.i64) (2 : Int))]] []) else bif !(Sp.f17 x0 x1 x2).1 then some (Res.mk [XV.mk true [X.c (X0.dat (Ty.int IntKind.i64) (0 : Int)), X.c (X0.dat Ty.str ByteArray.empty), X.c (X0.dat Ty.bool false)], XV.mk false [X.c (X0.dat (Ty.int IntKind.i64) (1 : Int))]] []) else bif x2 then some (Res.mk [XV.mk true [X.c (X0.dat (Ty.int IntKind.i64) x0), X.c (X0.dat Ty.str x1), X.c (X0.dat Ty.bool x2)], XV.mk false [X.c (X0.dat (Ty.int IntKind.i64) (16 : Int))]] []) else bif !(Sp.f70 (↑x3.size : Int) (1 : Int) (64 : Int)).1 then some (Res.mk [XV.mk true [X.c (X0.dat (Ty.int IntKind.i64) x0), X.c (X0.dat Ty.str x1), X.c (X0.dat Ty.bool x2)], XV.mk false [X.c (X0.dat (Ty.int IntKind.i64) (4 : Int))]] []) else bif decide (IntKind.i64.wrap (x0 + (↑x3.size : Int)) > (65536 : Int)) then some (Res.mk [XV.mk true [X.c (X0.dat (Ty.int IntKind.i64) x0), X.c (X0.dat Ty.str x1), X.c (X0.dat Ty.bool x2)], XV.mk false [X.c (X0.dat (Ty.int IntKind.i64) (7 : Int))]] []) else chk (decide (x1.size + x3.size ≤ (9223372036854775807 : Nat))) (some (Res.mk [XV.mk true [X.c (X0.dat (Ty.int IntKind.i64) (IntKind.i64.wrap (x0 + (↑x3.size : Int)))), X.c (X0.dat Ty.str (x1 ++ x3)), X.c (X0.dat Ty.bool (decide ((↑x3.size : Int) < (64 : Int))))], XV.mk false [X.c (X0.dat (Ty.int IntKind.i64) (0 : Int))]] []))) = chk (Sp.f19_pre x0 x1 x2 x3) (some (f19_g (Sp.f19 x0 x1 x2 x3))) := by
  unfold Sp.f19_pre Sp.f19
  exact (cond_step f19_g ((lift_plain (rfl))) ((cond_step f19_g ((lift_plain (rfl))) ((cond_step f19_g ((lift_plain (rfl))) ((cond_step f19_g ((lift_plain (rfl))) ((cond_step f19_g ((lift_plain (rfl))) ((chk_last (rfl))))))))))))
theorem e19_ok : Valid Try.prog Γ e19 := valid_auto ok (vcons e69_ok (vcons e17_ok (vcons e70_ok vnil))) fun a => (f19_raw a.1.1 a.1.2.1 a.1.2.2 a.2).trans (f19_form a.1.1 a.1.2.1 a.1.2.2 a.2)

def Sp.f4_pre (x0 : Int) (x1 : ByteArray) (x2 : Bool) (x3 : ByteArray) : Bool := (bif decide ((↑x3.size : Int) > (1048576 : Int)) then true else (bif decide ((Sp.f14 x0 x1 x2 (1048576 : Int)).1 < (0 : Int)) then true else (Sp.f18_pre (Sp.f16 x0 x1 x2).1.1 (Sp.f16 x0 x1 x2).1.2.1 (Sp.f16 x0 x1 x2).1.2.2 x3 && Sp.f19_pre (Sp.f16 x0 x1 x2).1.1 (Sp.f16 x0 x1 x2).1.2.1 (Sp.f16 x0 x1 x2).1.2.2 x3)))
def Sp.f4 (x0 : Int) (x1 : ByteArray) (x2 : Bool) (x3 : ByteArray) := (bif decide ((↑x3.size : Int) > (1048576 : Int)) then (true, ()) else (bif decide ((Sp.f14 x0 x1 x2 (1048576 : Int)).1 < (0 : Int)) then (true, ()) else (bif !(Sp.f20 (Sp.f19 (Sp.f16 x0 x1 x2).1.1 (Sp.f16 x0 x1 x2).1.2.1 (Sp.f16 x0 x1 x2).1.2.2 x3).1.1.1 (Sp.f19 (Sp.f16 x0 x1 x2).1.1 (Sp.f16 x0 x1 x2).1.2.1 (Sp.f16 x0 x1 x2).1.2.2 x3).1.1.2.1 (Sp.f19 (Sp.f16 x0 x1 x2).1.1 (Sp.f16 x0 x1 x2).1.2.1 (Sp.f16 x0 x1 x2).1.2.2 x3).1.1.2.2 (Sp.f18 (Sp.f16 x0 x1 x2).1.1 (Sp.f16 x0 x1 x2).1.2.1 (Sp.f16 x0 x1 x2).1.2.2 x3).1.1.1 (Sp.f18 (Sp.f16 x0 x1 x2).1.1 (Sp.f16 x0 x1 x2).1.2.1 (Sp.f16 x0 x1 x2).1.2.2 x3).1.1.2.1 (Sp.f18 (Sp.f16 x0 x1 x2).1.1 (Sp.f16 x0 x1 x2).1.2.1 (Sp.f16 x0 x1 x2).1.2.2 x3).1.1.2.2).1 then (false, ()) else (bif (Sp.f19 (Sp.f16 x0 x1 x2).1.1 (Sp.f16 x0 x1 x2).1.2.1 (Sp.f16 x0 x1 x2).1.2.2 x3).1.2 != (Sp.f18 (Sp.f16 x0 x1 x2).1.1 (Sp.f16 x0 x1 x2).1.2.1 (Sp.f16 x0 x1 x2).1.2.2 x3).1.2 then (false, ()) else (true, ())))))
noncomputable def e4 : Ent := { f := 4, ins := [Sh.agg [C0.dat (Ty.int IntKind.i64), C0.dat Ty.str, C0.dat Ty.bool], Sh.one (C0.dat Ty.str)], outs := [Sh.one (C0.dat Ty.bool)], upd := [], pre := fun a => Sp.f4_pre a.1.1 a.1.2.1 a.1.2.2 a.2, spec := fun a => (Sp.f4 a.1.1 a.1.2.1 a.1.2.2 a.2).1, wrt := fun a => (Sp.f4 a.1.1 a.1.2.1 a.1.2.2 a.2).2 }
def f4_g (v : denS [Sh.one (C0.dat Ty.bool)] × denS []) : Res := ⟨mkS [Sh.one (C0.dat Ty.bool)] v.1, mkU [] v.2⟩
theorem f4_raw (x0 : Int) (x1 : ByteArray) (x2 : Bool) (x3 : ByteArray) : abody Γ (orc [e14, e16, e18, e19, e20]) 0 4 [XV.mk true [X.c (X0.dat (Ty.int IntKind.i64) x0), X.c (X0.dat Ty.str x1), X.c (X0.dat Ty.bool x2)], XV.mk false [X.c (X0.dat Ty.str x3)]] = bif decide ((↑x3.size : Int) > (1048576 : Int)) then some (Res.mk [XV.mk false [X.c (X0.dat Ty.bool true)]] []) else bif decide ((Sp.f14 x0 x1 x2 (1048576 : Int)).1 < (0 : Int)) then some (Res.mk [XV.mk false [X.c (X0.dat Ty.bool true)]] []) else chk (Sp.f18_pre (Sp.f16 x0 x1 x2).1.1 (Sp.f16 x0 x1 x2).1.2.1 (Sp.f16 x0 x1 x2).1.2.2 x3) (chk (Sp.f19_pre (Sp.f16 x0 x1 x2).1.1 (Sp.f16 x0 x1 x2).1.2.1 (Sp.f16 x0 x1 x2).1.2.2 x3) (bif !(Sp.f20 (Sp.f19 (Sp.f16 x0 x1 x2).1.1 (Sp.f16 x0 x1 x2).1.2.1 (Sp.f16 x0 x1 x2).1.2.2 x3).1.1.1 (Sp.f19 (Sp.f16 x0 x1 x2).1.1 (Sp.f16 x0 x1 x2).1.2.1 (Sp.f16 x0 x1 x2).1.2.2 x3).1.1.2.1 (Sp.f19 (Sp.f16 x0 x1 x2).1.1 (Sp.f16 x0 x1 x2).1.2.1 (Sp.f16 x0 x1 x2).1.2.2 x3).1.1.2.2 (Sp.f18 (Sp.f16 x0 x1 x2).1.1 (Sp.f16 x0 x1 x2).1.2.1 (Sp.f16 x0 x1 x2).1.2.2 x3).1.1.1 (Sp.f18 (Sp.f16 x0 x1 x2).1.1 (Sp.f16 x0 x1 x2).1.2.1 (Sp.f16 x0 x1 x2).1.2.2 x3).1.1.2.1 (Sp.f18 (Sp.f16 x0 x1 x2).1.1 (Sp.f16 x0 x1 x2).1.2.1 (Sp.f16 x0 x1 x2).1.2.2 x3).1.1.2.2).1 then some (Res.mk [XV.mk false [X.c (X0.dat Ty.bool false)]] []) else bif (Sp.f19 (Sp.f16 x0 x1 x2).1.1 (Sp.f16 x0 x1 x2).1.2.1 (Sp.f16 x0 x1 x2).1.2.2 x3).1.2 != (Sp.f18 (Sp.f16 x0 x1 x2).1.1 (Sp.f16 x0 x1 x2).1.2.1 (Sp.f16 x0 x1 x2).1.2.2 x3).1.2 then some (Res.mk [XV.mk false [X.c (X0.dat Ty.bool false)]] []) else some (Res.mk [XV.mk false [X.c (X0.dat Ty.bool true)]] []))) := by kernel_rfl
theorem f4_form (x0 : Int) (x1 : ByteArray) (x2 : Bool) (x3 : ByteArray) : (bif decide ((↑x3.size : Int) > (1048576 : Int)) then some (Res.mk [XV.mk false [X.c (X0.dat Ty.bool true)]] []) else bif decide ((Sp.f14 x0 x1 x2 (1048576 : Int)).1 < (0 : Int)) then some (Res.mk [XV.mk false [X.c (X0.dat Ty.bool true)]] []) else chk (Sp.f18_pre (Sp.f16 x0 x1 x2).1.1 (Sp.f16 x0 x1 x2).1.2.1 (Sp.f16 x0 x1 x2).1.2.2 x3) (chk (Sp.f19_pre (Sp.f16 x0 x1 x2).1.1 (Sp.f16 x0 x1 x2).1.2.1 (Sp.f16 x0 x1 x2).1.2.2 x3) (bif !(Sp.f20 (Sp.f19 (Sp.f16 x0 x1 x2).1.1 (Sp.f16 x0 x1 x2).1.2.1 (Sp.f16 x0 x1 x2).1.2.2 x3).1.1.1 (Sp.f19 (Sp.f16 x0 x1 x2).1.1 (Sp.f16 x0 x1 x2).1.2.1 (Sp.f16 x0 x1 x2).1.2.2 x3).1.1.2.1 (Sp.f19 (Sp.f16 x0 x1 x2).1.1 (Sp.f16 x0 x1 x2).1.2.1 (Sp.f16 x0 x1 x2).1.2.2 x3).1.1.2.2 (Sp.f18 (Sp.f16 x0 x1 x2).1.1 (Sp.f16 x0 x1 x2).1.2.1 (Sp.f16 x0 x1 x2).1.2.2 x3).1.1.1 (Sp.f18 (Sp.f16 x0 x1 x2).1.1 (Sp.f16 x0 x1 x2).1.2.1 (Sp.f16 x0 x1 x2).1.2.2 x3).1.1.2.1 (Sp.f18 (Sp.f16 x0 x1 x2).1.1 (Sp.f16 x0 x1 x2).1.2.1 (Sp.f16 x0 x1 x2).1.2.2 x3).1.1.2.2).1 then some (Res.mk [XV.mk false [X.c (X0.dat Ty.bool false)]] []) else bif (Sp.f19 (Sp.f16 x0 x1 x2).1.1 (Sp.f16 x0 x1 x2).1.2.1 (Sp.f16 x0 x1 x2).1.2.2 x3).1.2 != (Sp.f18 (Sp.f16 x0 x1 x2).1.1 (Sp.f16 x0 x1 x2).1.2.1 (Sp.f16 x0 x1 x2).1.2.2 x3).1.2 then some (Res.mk [XV.mk false [X.c (X0.dat Ty.bool false)]] []) else some (Res.mk [XV.mk false [X.c (X0.dat Ty.bool true)]] [])))) = chk (Sp.f4_pre x0 x1 x2 x3) (some (f4_g (Sp.f4 x0 x1 x2 x3))) := by
  unfold Sp.f4_pre Sp.f4
  exact (cond_step f4_g ((lift_plain (rfl))) ((cond_step f4_g ((lift_plain (rfl))) ((chk_step ((chk_last ((cond_plain f4_g (rfl) ((cond_plain f4_g (rfl) (rfl))))))))))))
theorem e4_ok : Valid Try.prog Γ e4 := valid_auto ok (vcons e14_ok (vcons e16_ok (vcons e18_ok (vcons e19_ok (vcons e20_ok vnil))))) fun a => (f4_raw a.1.1 a.1.2.1 a.1.2.2 a.2).trans (f4_form a.1.1 a.1.2.1 a.1.2.2 a.2)

#print axioms e4_ok
end Go.Proofs.GR.T
namespace Go.Proofs.GR.T
open Go Go.Proofs Go.Proofs.GR
namespace Sp
def bit (r : Nat) : Nat := if r % 2 = 1 then (r / 2) ^^^ 3988292384 else r / 2
def bits : Nat → Nat → Nat
  | 0, r => r
  | n + 1, r => bits n (bit r)
def crc (r : Nat) : List Int → Nat
  | [] => r
  | x :: l => crc (bits 8 (r ^^^ x.toNat)) l
def sum (xs : List Int) : Int := ((crc 4294967295 xs) ^^^ 4294967295 : Nat)
def isBytes (xs : List Int) : Bool := xs.all fun x => decide (0 ≤ x) && decide (x < 256)
def mark8 : List Int → Int → List Int
  | [], _ => []
  | _ :: r, k => IntKind.u8.wrap k :: mark8 r (k + 1)
def held8 : List Int → Int → Int
  | [], k => k
  | x :: r, k => bif x != IntKind.u8.wrap k then -1 else held8 r (k + 1)
def eqL {α : Type} [DecidableEq α] (xs ys : List α) : Bool := decide (xs = ys)
def small {α : Type} (xs : List α) (k : Int) : Bool := match k with
  | .ofNat n => decide (n + xs.length ≤ 4611686018427387904)
  | .negSucc _ => false
def addLen {α : Type} (xs : List α) (k : Int) : Int := k + (xs.length : Int)
def fits {α : Type} (xs : List α) : Bool := decide (xs.length ≤ 140737488355328)
end Sp
theorem small_of {α : Type} {xs : List α} {k : Int} (h : Sp.small xs k = true) : 0 ≤ k ∧ k + (xs.length : Int) ≤ 4611686018427387904 := by
  cases k with
  | ofNat n =>
    have h1 : n + xs.length ≤ 4611686018427387904 := of_decide_eq_true h
    exact ⟨Int.natCast_nonneg n, by show (n : Int) + (xs.length : Int) ≤ 4611686018427387904; omega⟩
  | negSucc n => cases h
theorem small_mk {α : Type} {xs : List α} {k : Int} (h1 : 0 ≤ k) (h2 : k + (xs.length : Int) ≤ 4611686018427387904) : Sp.small xs k = true := by
  cases k with
  | ofNat n =>
    have h3 : (n : Int) + (xs.length : Int) ≤ 4611686018427387904 := h2
    exact decide_eq_true (show n + xs.length ≤ 4611686018427387904 by omega)
  | negSucc n => exact absurd h1 (by omega)
theorem chkT {ρ : Type} (k : Option ρ) : chk true k = k := rfl
theorem eqL_cons {α : Type} [DecidableEq α] {x y : α} {r s : List α} : Sp.eqL (x :: r) (y :: s) = (decide (x = y) && Sp.eqL r s) := by
  unfold Sp.eqL
  by_cases h1 : x = y <;> by_cases h2 : r = s <;> simp [h1, h2]
theorem eqL_self {α : Type} [DecidableEq α] (xs : List α) : Sp.eqL xs xs = true := decide_eq_true rfl
theorem eqL_of {α : Type} [DecidableEq α] {xs ys : List α} (h : Sp.eqL xs ys = true) : xs = ys := of_decide_eq_true h
theorem eqL_len {α : Type} [DecidableEq α] {xs ys : List α} (h : xs.length ≠ ys.length) : Sp.eqL xs ys = false := decide_eq_false fun e => h (by rw [e])
theorem bit_lt {r : Nat} (h : r < 2 ^ 32) : Sp.bit r < 2 ^ 32 := by
  unfold Sp.bit
  split
  · exact Nat.xor_lt_two_pow (by omega) (by omega)
  · omega
theorem bits_lt : ∀ (n : Nat) {r : Nat}, r < 2 ^ 32 → Sp.bits n r < 2 ^ 32
  | 0, _, h => h
  | n + 1, _, h => bits_lt n (bit_lt h)
theorem ofInt_toNat (w n : Nat) : (BitVec.ofInt w (n : Int)).toNat = n % 2 ^ w := by
  simp
theorem xor32 {a b : Nat} (ha : a < 2 ^ 32) (hb : b < 2 ^ 32) : IntKind.u32.wrap (((BitVec.ofInt 32 (a : Int) ^^^ BitVec.ofInt 32 (b : Int)).toNat : Nat) : Int) = ((a ^^^ b : Nat) : Int) := by
  rw [BitVec.toNat_xor, ofInt_toNat, ofInt_toNat, Nat.mod_eq_of_lt ha, Nat.mod_eq_of_lt hb]
  have : a ^^^ b < 2 ^ 32 := Nat.xor_lt_two_pow ha hb
  simp only [IntKind.wrap, IntKind.signed, IntKind.bits]
  simp
  omega
theorem xor64 {a b : Nat} (ha : a < 2 ^ 32) (hb : b < 2 ^ 32) : IntKind.i64.wrap (((BitVec.ofInt 64 (a : Int) ^^^ BitVec.ofInt 64 (b : Int)).toNat : Nat) : Int) = ((a ^^^ b : Nat) : Int) := by
  rw [BitVec.toNat_xor, ofInt_toNat, ofInt_toNat, Nat.mod_eq_of_lt (by omega), Nat.mod_eq_of_lt (by omega)]
  have : a ^^^ b < 2 ^ 32 := Nat.xor_lt_two_pow ha hb
  rw [wrap64 (by omega) (by omega)]
theorem and32 {a : Nat} (ha : a < 2 ^ 32) : IntKind.u32.wrap (((BitVec.ofInt 32 (a : Int) &&& BitVec.ofInt 32 (1 : Int)).toNat : Nat) : Int) = ((a % 2 : Nat) : Int) := by
  rw [BitVec.toNat_and, ofInt_toNat, Nat.mod_eq_of_lt ha]
  have h1 : (BitVec.ofInt 32 (1 : Int)).toNat = 1 := rfl
  rw [h1, Nat.and_one_is_mod]
  simp only [IntKind.wrap, IntKind.signed, IntKind.bits]
  simp
  omega
theorem wrap32 {n : Int} (h1 : 0 ≤ n) (h2 : n < 4294967296) : IntKind.u32.wrap n = n := by
  simp only [IntKind.wrap, IntKind.signed, IntKind.bits]
  simp
  omega
theorem wrapu64 {n : Int} (h1 : 0 ≤ n) (h2 : n < 18446744073709551616) : IntKind.u64.wrap n = n := by
  simp only [IntKind.wrap, IntKind.signed, IntKind.bits]
  simp
  omega
theorem wrap8 (n : Int) : IntKind.u8.wrap n = n % 256 := by
  simp only [IntKind.wrap, IntKind.signed, IntKind.bits]
  simp
theorem isBytes_cons {x : Int} {r : List Int} : Sp.isBytes (x :: r) = true ↔ (0 ≤ x ∧ x < 256) ∧ Sp.isBytes r = true := by
  simp [Sp.isBytes, List.all_cons]
theorem isBytes_mem {xs : List Int} (h : Sp.isBytes xs = true) {x : Int} (hx : x ∈ xs) : 0 ≤ x ∧ x < 256 := by
  have := List.all_eq_true.1 h x hx
  simpa using this
theorem isBytes_of {xs : List Int} (h : ∀ x ∈ xs, 0 ≤ x ∧ x < 256) : Sp.isBytes xs = true := by
  refine List.all_eq_true.2 fun x hx => ?_
  simpa using h x hx
theorem isBytes_append {xs ys : List Int} (h1 : Sp.isBytes xs = true) (h2 : Sp.isBytes ys = true) : Sp.isBytes (xs ++ ys) = true :=
  isBytes_of fun x hx => by
    rcases List.mem_append.1 hx with h | h
    · exact isBytes_mem h1 h
    · exact isBytes_mem h2 h
theorem wrap8_byte (n : Int) : 0 ≤ IntKind.u8.wrap n ∧ IntKind.u8.wrap n < 256 := by rw [wrap8]; omega
theorem strBytes_len (s : ByteArray) : (strBytes s).length = s.size := by unfold strBytes; rw [List.length_map, Array.length_toList]; rfl
theorem strBytes_bytes (s : ByteArray) : Sp.isBytes (strBytes s) = true := isBytes_of fun x hx => by
  simp only [strBytes, List.mem_map] at hx
  obtain ⟨b, _, rfl⟩ := hx
  have := b.toNat_lt
  omega
theorem strBytes_append (s t : ByteArray) : strBytes (s ++ t) = strBytes s ++ strBytes t := by
  simp [strBytes]
theorem strBytes_bytesStr {xs : List Int} (h : Sp.isBytes xs = true) : strBytes (bytesStr xs) = xs := by
  simp only [strBytes, bytesStr, List.map_map]
  conv => rhs; rw [← List.map_id xs]
  refine List.map_congr_left fun x hx => ?_
  have := isBytes_mem h hx
  simp only [Function.comp, id, UInt8.toNat_ofNat']
  omega
theorem bytesStr_strBytes (s : ByteArray) : bytesStr (strBytes s) = s := by
  have : (strBytes s).map (fun n => UInt8.ofNat n.toNat) = s.data.toList := by
    simp only [strBytes, List.map_map]
    conv => rhs; rw [← List.map_id s.data.toList]
    refine List.map_congr_left fun x _ => ?_
    simp
  unfold bytesStr
  rw [this]
theorem bytesStr_size (xs : List Int) : (bytesStr xs).size = xs.length := by
  show ((xs.map fun n => UInt8.ofNat n.toNat).toArray).size = _
  rw [List.size_toArray, List.length_map]
theorem held_mark : ∀ (xs : List Int) (k : Int), Sp.held8 (Sp.mark8 xs k) k = k + xs.length
  | [], k => by simp [Sp.held8, Sp.mark8]
  | x :: r, k => by
    simp only [Sp.mark8, Sp.held8, bne_self_eq_false, cond_false, held_mark r, List.length_cons]
    omega
theorem mark8_len : ∀ (xs : List Int) (k : Int), (Sp.mark8 xs k).length = xs.length
  | [], k => rfl
  | x :: r, k => by simp [Sp.mark8, mark8_len r]
end Go.Proofs.GR.T
set_option maxRecDepth 100000
namespace Go.Proofs.GR.T
open Go Go.Proofs Go.Proofs.GR
abbrev rB (xs : List Int) : Res := Res.mk [XV.mk false [X.c (X0.row (Ty.int IntKind.u8) xs true)]] []
abbrev rI (n : Int) : Res := Res.mk [XV.mk false [X.c (X0.dat (Ty.int IntKind.i64) n)]] []
abbrev rBo (b : Bool) : Res := Res.mk [XV.mk false [X.c (X0.dat Ty.bool b)]] []
theorem succ_of {d m : Nat} (h : d < m) : ∃ q, m = q + 1 := ⟨m - 1, by omega⟩
noncomputable def f22_L0 (n m0 : Nat) (y0 : List Int) (y1 : Int) (y2 : List Int) : Option Res := loopAt Γ (orc []) n (22 : Nat) (0 : Nat) [] [Pth.r, Pth.r, Pth.l, Pth.r, Pth.b] m0 (St.mk [Slot.val (Val.one (Cell.dat (Ty.int IntKind.u8).slice y0)), Slot.nix, Slot.nix, Slot.val (Val.one (Cell.own (0 : Nat))), Slot.val (Val.one (Cell.dat (Ty.int IntKind.i64) y1)), Slot.nix, Slot.nix, Slot.nix, Slot.nix, Slot.nix, Slot.nix, Slot.nix, Slot.nix, Slot.nix, Slot.nix, Slot.nix, Slot.nix, Slot.nix, Slot.nix, Slot.nix, Slot.nix, Slot.nix] [AObj.row (Ty.int IntKind.u8) y2 true])
theorem f22_L0_step (n m0 : Nat) (y0 : List Int) (y1 : Int) (y2 : List Int) : f22_L0 n (m0 + 1) y0 y1 y2 = bif decide (y1 < (↑y0.length : Int)) then chk (decide ((0 : Int) ≤ y1) && decide (y1 < (↑y0.length : Int))) (chk (decide ((0 : Int) ≤ y1) && decide (y1 < (↑y2.length : Int))) (f22_L0 n m0 y0 (IntKind.i64.wrap (y1 + (1 : Int))) (y2.set y1.toNat (y0.getD y1.toNat (0 : Int))))) else some (Res.mk [XV.mk false [X.c (X0.row (Ty.int IntKind.u8) y2 true)]] []) := by kernel_rfl
theorem f22_raw (n : Nat) (x0 : List Int) : abody Γ (orc []) n 22 [XV.mk false [X.c (X0.dat (Ty.int IntKind.u8).slice x0)]] = chk (decide ((0 : Int) ≤ (↑x0.length : Int)) && decide ((↑x0.length : Int) ≤ (↑x0.length : Int)) && decide ((↑x0.length : Int) ≤ (140737488355328 : Int)) && decide ((1 : Int) * (↑x0.length : Int) ≤ (140737488355328 : Int))) (f22_L0 n n x0 (0 : Int) (List.replicate (↑x0.length : Int).toNat (0 : Int))) := by kernel_rfl

noncomputable def e22 : Ent := { f := 22, ins := [Sh.one (cL tB)], outs := [Sh.one (C0.row tB)], upd := [], pre := fun a => Sp.fits (α := Int) a, spec := fun a => a, wrt := fun _ => () }
theorem f22_loop (n : Nat) (xs : List Int) (hl : (xs.length : Int) ≤ 140737488355328) : ∀ (d k m : Nat) (acc : List Int), k + d = xs.length → acc.length = xs.length → d < m →
    f22_L0 n m xs (↑k : Int) acc = some (rB (acc.take k ++ xs.drop k)) := by
  intro d
  induction d with
  | zero =>
    intro k m acc hk ha hm
    obtain ⟨m, rfl⟩ := succ_of hm
    rw [f22_L0_step, decide_eq_false (by omega), List.drop_of_length_le (by omega), List.take_of_length_le (by omega), List.append_nil]
    rfl
  | succ d ih =>
    intro k m acc hk ha hm
    obtain ⟨m, rfl⟩ := succ_of hm
    have hlt : k < xs.length := by omega
    rw [f22_L0_step, decide_eq_true (show (k : Int) < xs.length by omega), decide_eq_true (show (0 : Int) ≤ k by omega), decide_eq_true (show (k : Int) < acc.length by omega), wrap64 (by omega) (by omega)]
    simp only [cond_true, Bool.and_self, chkT, Int.toNat_natCast]
    have := ih (k + 1) m (acc.set k (xs.getD k 0)) (by omega) (by simpa using ha) (by omega)
    refine this.trans ?_
    have e : (acc.set k (xs.getD k 0)).take (k + 1) = acc.take k ++ [xs[k]] := by
      rw [List.take_set, List.take_succ_eq_append_getElem (by omega)]
      rw [List.set_append_right _ _ (by simp; omega)]
      simp [List.getD, List.getElem?_eq_getElem hlt, Nat.min_eq_left (show k ≤ acc.length by omega)]
    rw [e, List.append_assoc, List.drop_eq_getElem_cons hlt]
    rfl
theorem e22_core (xs : List Int) (ha : Sp.fits xs = true) : ∃ n, abody Γ (orc []) n 22 [XV.mk false [X.c (X0.dat (Ty.int IntKind.u8).slice xs)]] = some (rB xs) := by
  have h0 : xs.length ≤ 140737488355328 := of_decide_eq_true ha
  have h : (xs.length : Int) ≤ 140737488355328 := by omega
  refine ⟨xs.length + 1, (f22_raw _ xs).trans ?_⟩
  rw [decide_eq_true (show (0 : Int) ≤ (xs.length : Int) by omega), decide_eq_true h, decide_eq_true (show (1 : Int) * (xs.length : Int) ≤ 140737488355328 by omega), decide_eq_true (Int.le_refl _)]
  simp only [Bool.and_self, chkT]
  have := f22_loop (xs.length + 1) xs h xs.length 0 (xs.length + 1) (List.replicate (xs.length : Int).toNat 0) (Nat.zero_add _) (by simp) (Nat.lt_succ_self _)
  rw [List.take_zero, List.drop_zero, List.nil_append] at this
  exact this
theorem e22_ok : Valid Try.prog Γ e22 := valid_of ok vnil fun a ha => e22_core a ha
noncomputable def f24_L0 (n m0 : Nat) (y0 : List Int) (y1 : List Int) (y2 : Int) : Option Res := loopAt Γ (orc []) n (24 : Nat) (0 : Nat) [] [Pth.r, Pth.r, Pth.l, Pth.r, Pth.b] m0 (St.mk [Slot.val (Val.one (Cell.dat (Ty.int IntKind.u8).slice y0)), Slot.val (Val.one (Cell.dat (Ty.int IntKind.u8).slice y1)), Slot.nix, Slot.nix, Slot.nix, Slot.val (Val.one (Cell.dat (Ty.int IntKind.i64) y2)), Slot.nix, Slot.nix, Slot.nix, Slot.nix, Slot.nix, Slot.nix, Slot.nix, Slot.nix, Slot.nix, Slot.nix, Slot.nix, Slot.nix, Slot.nix, Slot.nix, Slot.nix, Slot.nix, Slot.nix, Slot.nix, Slot.nix, Slot.nix] [])
theorem f24_L0_step (n m0 : Nat) (y0 : List Int) (y1 : List Int) (y2 : Int) : f24_L0 n (m0 + 1) y0 y1 y2 = bif decide (y2 < (↑y0.length : Int)) then chk (decide ((0 : Int) ≤ y2) && decide (y2 < (↑y0.length : Int))) (chk (decide ((0 : Int) ≤ y2) && decide (y2 < (↑y1.length : Int))) (bif y0.getD y2.toNat (0 : Int) != y1.getD y2.toNat (0 : Int) then some (Res.mk [XV.mk false [X.c (X0.dat Ty.bool false)]] []) else f24_L0 n m0 y0 y1 (IntKind.i64.wrap (y2 + (1 : Int))))) else some (Res.mk [XV.mk false [X.c (X0.dat Ty.bool true)]] []) := by kernel_rfl
theorem f24_raw (n : Nat) (x0 : List Int) (x1 : List Int) : abody Γ (orc []) n 24 [XV.mk false [X.c (X0.dat (Ty.int IntKind.u8).slice x0)], XV.mk false [X.c (X0.dat (Ty.int IntKind.u8).slice x1)]] = bif (↑x0.length : Int) != (↑x1.length : Int) then some (Res.mk [XV.mk false [X.c (X0.dat Ty.bool false)]] []) else f24_L0 n n x0 x1 (0 : Int) := by kernel_rfl

noncomputable def e24 : Ent := { f := 24, ins := [Sh.one (cL tB), Sh.one (cL tB)], outs := [Sh.one cB], upd := [], pre := fun a => true, spec := fun a => Sp.eqL (α := Int) a.1 a.2, wrt := fun _ => () }
theorem f24_loop (n : Nat) (xs ys : List Int) (hl : xs.length ≤ maxLen) (hy : xs.length = ys.length) : ∀ (d k m : Nat), k + d = xs.length → d < m →
    f24_L0 n m xs ys (↑k : Int) = some (rBo (Sp.eqL (xs.drop k) (ys.drop k))) := by
  have hm : (xs.length : Nat) ≤ 9223372036854775807 := hl
  intro d
  induction d with
  | zero =>
    intro k m hk hm
    obtain ⟨m, rfl⟩ := succ_of hm
    rw [f24_L0_step, decide_eq_false (by omega), List.drop_of_length_le (by omega), List.drop_of_length_le (by omega)]
    rfl
  | succ d ih =>
    intro k m hk hm
    obtain ⟨m, rfl⟩ := succ_of hm
    have hlt : k < xs.length := by omega
    have hlt2 : k < ys.length := by omega
    rw [f24_L0_step, decide_eq_true (show (k : Int) < xs.length by omega), decide_eq_true (show (0 : Int) ≤ k by omega), decide_eq_true (show (k : Int) < ys.length by omega), wrap64 (by omega) (by omega), List.drop_eq_getElem_cons hlt, List.drop_eq_getElem_cons hlt2]
    simp only [cond_true, Bool.and_self, chkT, Int.toNat_natCast, List.getD, List.getElem?_eq_getElem hlt, List.getElem?_eq_getElem hlt2, Option.getD_some]
    rw [eqL_cons]
    by_cases he : xs[k] = ys[k]
    · have h1 : (xs[k] != ys[k]) = false := by simp [he]
      rw [h1, decide_eq_true he]
      simp only [cond_false, Bool.true_and]
      exact ih (k + 1) m (by omega) (by omega)
    · have h1 : (xs[k] != ys[k]) = true := by simpa using he
      rw [h1, decide_eq_false he]
      rfl
theorem e24_core (xs ys : List Int) (h1 : xs.length ≤ maxLen) : ∃ n, abody Γ (orc []) n 24 [XV.mk false [X.c (X0.dat (Ty.int IntKind.u8).slice xs)], XV.mk false [X.c (X0.dat (Ty.int IntKind.u8).slice ys)]] = some (rBo (Sp.eqL xs ys)) := by
  refine ⟨xs.length + 1, (f24_raw _ xs ys).trans ?_⟩
  by_cases he : xs.length = ys.length
  · have h2 : ((xs.length : Int) != (ys.length : Int)) = false := by simp [he]
    rw [h2]
    simp only [cond_false]
    exact f24_loop _ xs ys h1 he xs.length 0 _ (Nat.zero_add _) (Nat.lt_succ_self _)
  · have h2 : ((xs.length : Int) != (ys.length : Int)) = true := by
      simp; omega
    rw [h2, eqL_len he]
    rfl
theorem e24_ok : Valid Try.prog Γ e24 := valid_len ok vnil fun a _ hl => e24_core a.1 a.2 (hl _ (List.mem_cons_self) _ (List.mem_cons_self)).1
noncomputable def f25_L0 (n m0 : Nat) (y0 : Int) (y1 : Int) (y2 : List Int) : Option Res := loopAt Γ (orc []) n (25 : Nat) (1 : Nat) [(0 : Nat)] [Pth.r, Pth.l, Pth.r, Pth.b] m0 (St.mk [Slot.val (Val.one (Cell.own (0 : Nat))), Slot.val (Val.one (Cell.dat (Ty.int IntKind.i64) y0)), Slot.nix, Slot.nix, Slot.nix, Slot.val (Val.one (Cell.dat (Ty.int IntKind.i64) y1)), Slot.nix, Slot.nix, Slot.nix, Slot.nix, Slot.nix, Slot.nix, Slot.nix, Slot.nix, Slot.nix, Slot.nix, Slot.nix, Slot.nix, Slot.nix, Slot.nix] [AObj.row (Ty.int IntKind.u8) y2 true])
theorem f25_L0_step (n m0 : Nat) (y0 : Int) (y1 : Int) (y2 : List Int) : f25_L0 n (m0 + 1) y0 y1 y2 = bif decide (y1 < (↑y2.length : Int)) then chk (decide ((0 : Int) ≤ y1) && decide (y1 < (↑y2.length : Int))) (f25_L0 n m0 (IntKind.i64.wrap (y0 + (1 : Int))) (IntKind.i64.wrap (y1 + (1 : Int))) (y2.set y1.toNat (IntKind.u8.wrap y0))) else some (Res.mk [XV.mk false [X.c (X0.dat (Ty.int IntKind.i64) y0)]] [X.c (X0.row (Ty.int IntKind.u8) y2 true)]) := by kernel_rfl
theorem f25_raw (n : Nat) (x0 : List Int) (x1 : Int) : abody Γ (orc []) n 25 [XV.mk false [X.c (X0.row (Ty.int IntKind.u8) x0 true)], XV.mk false [X.c (X0.dat (Ty.int IntKind.i64) x1)]] = f25_L0 n n x1 (0 : Int) x0 := by kernel_rfl

noncomputable def e25 : Ent := { f := 25, ins := [Sh.one (C0.row tB), Sh.one cI], outs := [Sh.one cI], upd := [Sh.one (C0.row tB)], pre := fun a => Sp.small (α := Int) a.1 a.2, spec := fun a => Sp.addLen (α := Int) a.1 a.2, wrt := fun a => Sp.mark8 a.1 a.2 }
theorem f25_loop (n : Nat) : ∀ (d k m : Nat) (v : Int) (acc : List Int), k + d = acc.length → d < m → 0 ≤ v → v + d ≤ 4611686018427387904 → k ≤ v + 4611686018427387904 → acc.length ≤ 4611686018427387904 →
    f25_L0 n m v (↑k : Int) acc = some (Res.mk [XV.mk false [X.c (X0.dat (Ty.int IntKind.i64) (v + (d : Int)))]] [X.c (X0.row (Ty.int IntKind.u8) (acc.take k ++ Sp.mark8 (acc.drop k) v) true)]) := by
  intro d
  induction d with
  | zero =>
    intro k m v acc hk hm h0 h1 h2 h3
    obtain ⟨m, rfl⟩ := succ_of hm
    rw [f25_L0_step, decide_eq_false (by omega), List.drop_of_length_le (by omega), List.take_of_length_le (by omega)]
    simp [Sp.mark8]
  | succ d ih =>
    intro k m v acc hk hm h0 h1 h2 h3
    obtain ⟨m, rfl⟩ := succ_of hm
    have hlt : k < acc.length := by omega
    rw [f25_L0_step, decide_eq_true (show (k : Int) < acc.length by omega), decide_eq_true (show (0 : Int) ≤ k by omega), wrap64 (by omega) (by omega), wrap64 (n := (k : Int) + 1) (by omega) (by omega)]
    simp only [cond_true, Bool.and_self, chkT, Int.toNat_natCast]
    have := ih (k + 1) m (v + 1) (acc.set k (IntKind.u8.wrap v)) (by simpa using by omega) (by omega) (by omega) (by omega) (by omega) (by simpa using h3)
    refine this.trans ?_
    have e : (acc.set k (IntKind.u8.wrap v)).take (k + 1) = acc.take k ++ [IntKind.u8.wrap v] := by
      rw [List.take_set, List.take_succ_eq_append_getElem (by omega)]
      rw [List.set_append_right _ _ (by simp; omega)]
      simp [Nat.min_eq_left (show k ≤ acc.length by omega)]
    have e2 : (acc.set k (IntKind.u8.wrap v)).drop (k + 1) = acc.drop (k + 1) := by rw [List.drop_set_of_lt (by omega)]
    rw [e, e2, List.append_assoc, List.drop_eq_getElem_cons hlt]
    simp only [Sp.mark8, List.singleton_append]
    rw [show v + 1 + (d : Int) = v + ((d + 1 : Nat) : Int) by omega]
theorem e25_core (xs : List Int) (v : Int) (ha : Sp.small xs v = true) : ∃ n, abody Γ (orc []) n 25 [XV.mk false [X.c (X0.row (Ty.int IntKind.u8) xs true)], XV.mk false [X.c (X0.dat (Ty.int IntKind.i64) v)]] = some (Res.mk [XV.mk false [X.c (X0.dat (Ty.int IntKind.i64) (Sp.addLen xs v))]] [X.c (X0.row (Ty.int IntKind.u8) (Sp.mark8 xs v) true)]) := by
  obtain ⟨h1, h2⟩ := small_of ha
  refine ⟨xs.length + 1, (f25_raw _ xs v).trans ?_⟩
  exact f25_loop _ xs.length 0 _ v xs (Nat.zero_add _) (Nat.lt_succ_self _) h1 h2 (by omega) (by omega)
theorem e25_ok : Valid Try.prog Γ e25 := valid_of ok vnil fun a ha => e25_core a.1 a.2 ha
noncomputable def f26_L0 (n m0 : Nat) (y0 : List Int) (y1 : Int) (y2 : Int) : Option Res := loopAt Γ (orc []) n (26 : Nat) (0 : Nat) [] [Pth.r, Pth.l, Pth.r, Pth.b] m0 (St.mk [Slot.val (Val.one (Cell.dat (Ty.int IntKind.u8).slice y0)), Slot.val (Val.one (Cell.dat (Ty.int IntKind.i64) y1)), Slot.nix, Slot.nix, Slot.nix, Slot.val (Val.one (Cell.dat (Ty.int IntKind.i64) y2)), Slot.nix, Slot.nix, Slot.nix, Slot.nix, Slot.nix, Slot.nix, Slot.nix, Slot.nix, Slot.nix, Slot.nix, Slot.nix, Slot.nix, Slot.nix, Slot.nix, Slot.nix, Slot.nix] [])
theorem f26_L0_step (n m0 : Nat) (y0 : List Int) (y1 : Int) (y2 : Int) : f26_L0 n (m0 + 1) y0 y1 y2 = bif decide (y2 < (↑y0.length : Int)) then chk (decide ((0 : Int) ≤ y2) && decide (y2 < (↑y0.length : Int))) (bif y0.getD y2.toNat (0 : Int) != IntKind.u8.wrap y1 then some (Res.mk [XV.mk false [X.c (X0.dat (Ty.int IntKind.i64) (-1 : Int))]] []) else f26_L0 n m0 y0 (IntKind.i64.wrap (y1 + (1 : Int))) (IntKind.i64.wrap (y2 + (1 : Int)))) else some (Res.mk [XV.mk false [X.c (X0.dat (Ty.int IntKind.i64) y1)]] []) := by kernel_rfl
theorem f26_raw (n : Nat) (x0 : List Int) (x1 : Int) : abody Γ (orc []) n 26 [XV.mk false [X.c (X0.dat (Ty.int IntKind.u8).slice x0)], XV.mk false [X.c (X0.dat (Ty.int IntKind.i64) x1)]] = f26_L0 n n x0 x1 (0 : Int) := by kernel_rfl

noncomputable def e26 : Ent := { f := 26, ins := [Sh.one (cL tB), Sh.one cI], outs := [Sh.one cI], upd := [], pre := fun a => Sp.small (α := Int) a.1 a.2, spec := fun a => Sp.held8 a.1 a.2, wrt := fun _ => () }
theorem f26_loop (n : Nat) (xs : List Int) : ∀ (d k m : Nat) (v : Int), k + d = xs.length → d < m → 0 ≤ v → v + d ≤ 4611686018427387904 → xs.length ≤ 4611686018427387904 →
    f26_L0 n m xs v (↑k : Int) = some (rI (Sp.held8 (xs.drop k) v)) := by
  intro d
  induction d with
  | zero =>
    intro k m v hk hm h0 h1 h3
    obtain ⟨m, rfl⟩ := succ_of hm
    rw [f26_L0_step, decide_eq_false (by omega), List.drop_of_length_le (by omega)]
    rfl
  | succ d ih =>
    intro k m v hk hm h0 h1 h3
    obtain ⟨m, rfl⟩ := succ_of hm
    have hlt : k < xs.length := by omega
    rw [f26_L0_step, decide_eq_true (show (k : Int) < xs.length by omega), decide_eq_true (show (0 : Int) ≤ k by omega), wrap64 (by omega) (by omega), wrap64 (n := (k : Int) + 1) (by omega) (by omega), List.drop_eq_getElem_cons hlt]
    simp only [cond_true, Bool.and_self, chkT, Int.toNat_natCast, List.getD, List.getElem?_eq_getElem hlt, Option.getD_some, Sp.held8]
    cases xs[k] != IntKind.u8.wrap v with
    | true => rfl
    | false =>
      simp only [cond_false]
      exact ih (k + 1) m (v + 1) (by omega) (by omega) (by omega) (by omega) h3
theorem e26_core (xs : List Int) (v : Int) (ha : Sp.small xs v = true) : ∃ n, abody Γ (orc []) n 26 [XV.mk false [X.c (X0.dat (Ty.int IntKind.u8).slice xs)], XV.mk false [X.c (X0.dat (Ty.int IntKind.i64) v)]] = some (rI (Sp.held8 xs v)) := by
  obtain ⟨h1, h2⟩ := small_of ha
  refine ⟨xs.length + 1, (f26_raw _ xs v).trans ?_⟩
  exact f26_loop _ xs xs.length 0 _ v (Nat.zero_add _) (Nat.lt_succ_self _) h1 h2 (by omega)
theorem e26_ok : Valid Try.prog Γ e26 := valid_of ok vnil fun a ha => e26_core a.1 a.2 ha
def Sp.f116_pre (x0 : Int) : Bool := true
def Sp.f116 (x0 : Int) := ([IntKind.u8.wrap (x0.fdiv (16777216 : Int)), IntKind.u8.wrap (x0.fdiv (65536 : Int)), IntKind.u8.wrap (x0.fdiv (256 : Int)), IntKind.u8.wrap x0], ())
noncomputable def e116 : Ent := { f := 116, ins := [Sh.one (C0.dat (Ty.int IntKind.i64))], outs := [Sh.one (C0.row (Ty.int IntKind.u8))], upd := [], pre := fun a => true, spec := fun a => (Sp.f116 a).1, wrt := fun a => (Sp.f116 a).2 }
def f116_g (v : denS [Sh.one (C0.row (Ty.int IntKind.u8))] × denS []) : Res := ⟨mkS [Sh.one (C0.row (Ty.int IntKind.u8))] v.1, mkU [] v.2⟩
theorem f116_raw (x0 : Int) : abody Γ (orc []) 0 116 [XV.mk false [X.c (X0.dat (Ty.int IntKind.i64) x0)]] = some (Res.mk [XV.mk false [X.c (X0.row (Ty.int IntKind.u8) [IntKind.u8.wrap (x0.fdiv (16777216 : Int)), IntKind.u8.wrap (x0.fdiv (65536 : Int)), IntKind.u8.wrap (x0.fdiv (256 : Int)), IntKind.u8.wrap x0] true)]] []) := by kernel_rfl
theorem f116_form (x0 : Int) : (some (Res.mk [XV.mk false [X.c (X0.row (Ty.int IntKind.u8) [IntKind.u8.wrap (x0.fdiv (16777216 : Int)), IntKind.u8.wrap (x0.fdiv (65536 : Int)), IntKind.u8.wrap (x0.fdiv (256 : Int)), IntKind.u8.wrap x0] true)]] [])) = some (f116_g (Sp.f116 x0)) := by
  unfold Sp.f116
  exact rfl
theorem e116_ok : Valid Try.prog Γ e116 := valid_auto ok vnil fun a => (f116_raw a).trans (f116_form a)

def Sp.f117_pre (x0 : Int) : Bool := true
def Sp.f117 (x0 : Int) := ([IntKind.u8.wrap x0, IntKind.u8.wrap (x0.fdiv (256 : Int)), IntKind.u8.wrap (x0.fdiv (65536 : Int)), IntKind.u8.wrap (x0.fdiv (16777216 : Int))], ())
noncomputable def e117 : Ent := { f := 117, ins := [Sh.one (C0.dat (Ty.int IntKind.i64))], outs := [Sh.one (C0.row (Ty.int IntKind.u8))], upd := [], pre := fun a => true, spec := fun a => (Sp.f117 a).1, wrt := fun a => (Sp.f117 a).2 }
def f117_g (v : denS [Sh.one (C0.row (Ty.int IntKind.u8))] × denS []) : Res := ⟨mkS [Sh.one (C0.row (Ty.int IntKind.u8))] v.1, mkU [] v.2⟩
theorem f117_raw (x0 : Int) : abody Γ (orc []) 0 117 [XV.mk false [X.c (X0.dat (Ty.int IntKind.i64) x0)]] = some (Res.mk [XV.mk false [X.c (X0.row (Ty.int IntKind.u8) [IntKind.u8.wrap x0, IntKind.u8.wrap (x0.fdiv (256 : Int)), IntKind.u8.wrap (x0.fdiv (65536 : Int)), IntKind.u8.wrap (x0.fdiv (16777216 : Int))] true)]] []) := by kernel_rfl
theorem f117_form (x0 : Int) : (some (Res.mk [XV.mk false [X.c (X0.row (Ty.int IntKind.u8) [IntKind.u8.wrap x0, IntKind.u8.wrap (x0.fdiv (256 : Int)), IntKind.u8.wrap (x0.fdiv (65536 : Int)), IntKind.u8.wrap (x0.fdiv (16777216 : Int))] true)]] [])) = some (f117_g (Sp.f117 x0)) := by
  unfold Sp.f117
  exact rfl
theorem e117_ok : Valid Try.prog Γ e117 := valid_auto ok vnil fun a => (f117_raw a).trans (f117_form a)

end Go.Proofs.GR.T
set_option maxRecDepth 100000
namespace Go.Proofs.GR.T
open Go Go.Proofs Go.Proofs.GR
noncomputable def f164_L0 (n m0 : Nat) (y0 : Int) (y1 : Int) (y2 : Int) (y3 : Int) (y4 : List Int) : Option Res := loopAt Γ (orc []) n (164 : Nat) (0 : Nat) [] [Pth.r, Pth.r, Pth.l, Pth.r, Pth.b] m0 (St.mk [Slot.val (Val.one (Cell.dat (Ty.int IntKind.u64) y0)), Slot.val (Val.one (Cell.dat (Ty.int IntKind.i64) y1)), Slot.nix, Slot.nix, Slot.nix, Slot.val (Val.one (Cell.own (0 : Nat))), Slot.nix, Slot.nix, Slot.nix, Slot.nix, Slot.val (Val.one (Cell.dat (Ty.int IntKind.i64) y2)), Slot.val (Val.one (Cell.dat (Ty.int IntKind.i64) y3)), Slot.nix, Slot.nix, Slot.nix, Slot.nix, Slot.nix, Slot.nix, Slot.nix, Slot.nix, Slot.nix, Slot.nix, Slot.nix, Slot.nix, Slot.nix, Slot.nix, Slot.nix] [AObj.row (Ty.int IntKind.u8) y4 true])
theorem f164_L0_step (n m0 : Nat) (y0 : Int) (y1 : Int) (y2 : Int) (y3 : Int) (y4 : List Int) : f164_L0 n (m0 + 1) y0 y1 y2 y3 y4 = bif decide (y3 < y2) then chk (decide ((0 : Int) ≤ IntKind.i64.wrap ((8 : Int) * IntKind.i64.wrap (IntKind.i64.wrap (y1 - (1 : Int)) - y3)))) (chk (decide ((0 : Int) ≤ y3) && decide (y3 < (↑y4.length : Int))) (f164_L0 n m0 y0 y1 y2 (IntKind.i64.wrap (y3 + (1 : Int))) (y4.set y3.toNat (IntKind.u8.wrap (y0.fdiv ((2 : Int) ^ min (IntKind.i64.wrap ((8 : Int) * IntKind.i64.wrap (IntKind.i64.wrap (y1 - (1 : Int)) - y3))).toNat (64 : Nat))))))) else some (Res.mk [XV.mk false [X.c (X0.row (Ty.int IntKind.u8) y4 true)]] []) := by kernel_rfl
theorem f164_raw (n : Nat) (x0 : Int) (x1 : Int) : abody Γ (orc []) n 164 [XV.mk false [X.c (X0.dat (Ty.int IntKind.u64) x0)], XV.mk false [X.c (X0.dat (Ty.int IntKind.i64) x1)]] = chk (decide ((0 : Int) ≤ x1) && decide (x1 ≤ x1) && decide (x1 ≤ (140737488355328 : Int)) && decide ((1 : Int) * x1 ≤ (140737488355328 : Int))) (f164_L0 n n x0 x1 (↑(List.replicate x1.toNat (0 : Int)).length : Int) (0 : Int) (List.replicate x1.toNat (0 : Int))) := by kernel_rfl

/-- So many bytes of a number, the highest first. -/
def Sp.highAt (n : Int) (c i : Nat) : Int := IntKind.u8.wrap (n.fdiv ((2 : Int) ^ min (8 * (c - 1 - i)) 64))
def Sp.highN (n : Int) (c : Nat) : List Int := (List.range' 0 c).map (Sp.highAt n c)
def Sp.high (n c : Int) : List Int := Sp.highN n c.toNat
def Sp.few (c : Int) : Bool := match c with
  | .ofNat n => decide (n ≤ 1048576)
  | .negSucc _ => false
theorem few_of {c : Int} (h : Sp.few c = true) : 0 ≤ c ∧ c ≤ 1048576 := by
  cases c with
  | ofNat n =>
    have h1 : n ≤ 1048576 := of_decide_eq_true h
    exact ⟨Int.natCast_nonneg n, by show (n : Int) ≤ 1048576; omega⟩
  | negSucc n => cases h
noncomputable def e164 : Ent := { f := 164, ins := [Sh.one (C0.dat (Ty.int IntKind.u64)), Sh.one cI], outs := [Sh.one (C0.row tB)], upd := [], pre := fun a => Sp.few a.2, spec := fun a => Sp.high a.1 a.2, wrt := fun _ => () }
theorem f164_loop (n : Nat) (x : Int) (c : Nat) (hc : (c : Int) ≤ 1048576) : ∀ (d k m : Nat) (acc : List Int), k + d = c → acc.length = c → d < m →
    f164_L0 n m x (↑c : Int) (↑c : Int) (↑k : Int) acc = some (rB (acc.take k ++ (List.range' k d).map (Sp.highAt x c))) := by
  intro d
  induction d with
  | zero =>
    intro k m acc hk ha hm
    obtain ⟨m, rfl⟩ := succ_of hm
    rw [f164_L0_step, decide_eq_false (by omega), List.take_of_length_le (by omega)]
    simp
  | succ d ih =>
    intro k m acc hk ha hm
    obtain ⟨m, rfl⟩ := succ_of hm
    have hlt : k < acc.length := by omega
    have w1 : IntKind.i64.wrap ((c : Int) - 1) = ((c - 1 : Nat) : Int) := by rw [wrap64 (by omega) (by omega)]; omega
    have w2 : IntKind.i64.wrap (((c - 1 : Nat) : Int) - (k : Int)) = ((c - 1 - k : Nat) : Int) := by rw [wrap64 (by omega) (by omega)]; omega
    have w3 : IntKind.i64.wrap (8 * ((c - 1 - k : Nat) : Int)) = ((8 * (c - 1 - k) : Nat) : Int) := by rw [wrap64 (by omega) (by omega)]; omega
    rw [f164_L0_step, w1, w2, w3, decide_eq_true (show (k : Int) < c by omega), decide_eq_true (show (0 : Int) ≤ ((8 * (c - 1 - k) : Nat) : Int) by omega), decide_eq_true (show (0 : Int) ≤ k by omega), decide_eq_true (show (k : Int) < acc.length by omega), wrap64 (n := (k : Int) + 1) (by omega) (by omega)]
    simp only [cond_true, Bool.and_self, chkT, Int.toNat_natCast]
    refine (ih (k + 1) m (acc.set k (IntKind.u8.wrap (x.fdiv ((2 : Int) ^ min (8 * (c - 1 - k)) 64)))) (by omega) (by simpa using ha) (by omega)).trans ?_
    have e : ∀ v : Int, (acc.set k v).take (k + 1) = acc.take k ++ [v] := by
      intro v
      rw [List.take_set, List.take_succ_eq_append_getElem (by omega)]
      rw [List.set_append_right _ _ (by simp; omega)]
      simp [Nat.min_eq_left (show k ≤ acc.length by omega)]
    rw [e, List.append_assoc, List.range'_succ]
    rfl
theorem f164_full (x : Int) (k : Nat) (h2 : (k : Int) ≤ 1048576) : f164_L0 (k + 1) (k + 1) x (↑k : Int) (↑k : Int) (0 : Int) (List.replicate k 0) = some (rB (Sp.highN x k)) := by
  have := f164_loop (k + 1) x k h2 k 0 (k + 1) (List.replicate k 0) (Nat.zero_add _) (List.length_replicate) (Nat.lt_succ_self _)
  rw [List.take_zero, List.nil_append, Int.natCast_zero] at this
  exact this
theorem e164_nat (x : Int) (k : Nat) (h2 : (k : Int) ≤ 1048576) : abody Γ (orc []) (k + 1) 164 [XV.mk false [X.c (X0.dat (Ty.int IntKind.u64) x)], XV.mk false [X.c (X0.dat (Ty.int IntKind.i64) (k : Int))]] = some (rB (Sp.highN x k)) := by
  have e1 : (decide ((0 : Int) ≤ (k : Int)) && decide ((k : Int) ≤ (k : Int)) && decide ((k : Int) ≤ (140737488355328 : Int)) && decide ((1 : Int) * (k : Int) ≤ (140737488355328 : Int))) = true := by
    simp
    omega
  have e2 : (k : Int).toNat = k := Int.toNat_natCast k
  rw [f164_raw, e1, chkT, e2, List.length_replicate]
  exact f164_full x k h2
theorem e164_core (x c : Int) (ha : Sp.few c = true) : ∃ n, abody Γ (orc []) n 164 [XV.mk false [X.c (X0.dat (Ty.int IntKind.u64) x)], XV.mk false [X.c (X0.dat (Ty.int IntKind.i64) c)]] = some (rB (Sp.high x c)) := by
  obtain ⟨h1, h2⟩ := few_of ha
  have e : c = (c.toNat : Int) := by omega
  have := e164_nat x c.toNat (by omega)
  rw [← e] at this
  exact ⟨c.toNat + 1, this⟩
theorem e164_ok : Valid Try.prog Γ e164 := valid_of ok vnil fun a ha => e164_core a.1 a.2 ha
noncomputable def f118_L0 (n m0 : Nat) (y0 : List Int) (y1 : Int) (y2 : Int) : Option Res := loopAt Γ (orc []) n (118 : Nat) (0 : Nat) [] [Pth.r, Pth.r, Pth.l, Pth.r, Pth.b] m0 (St.mk [Slot.val (Val.one (Cell.dat (Ty.int IntKind.u8).slice y0)), Slot.nix, Slot.nix, Slot.val (Val.one (Cell.dat (Ty.int IntKind.i64) y1)), Slot.val (Val.one (Cell.dat (Ty.int IntKind.i64) y2)), Slot.nix, Slot.nix, Slot.nix, Slot.nix, Slot.nix, Slot.nix, Slot.nix, Slot.nix, Slot.nix, Slot.nix, Slot.nix, Slot.nix, Slot.nix, Slot.nix, Slot.nix, Slot.nix, Slot.nix, Slot.nix, Slot.nix, Slot.nix, Slot.nix, Slot.nix, Slot.nix, Slot.nix, Slot.nix, Slot.nix, Slot.nix, Slot.nix] [])
noncomputable def f118_L1 (n m0 m1 : Nat) (y0 : List Int) (y1 : Int) (y2 : Int) (y3 : Int) : Option Res := loopAt Γ (orc []) n (118 : Nat) (0 : Nat) [] [Pth.r, Pth.r, Pth.l, Pth.r, Pth.b, Pth.p m0, Pth.r, Pth.l, Pth.b, Pth.r, Pth.r, Pth.b] m1 (St.mk [Slot.val (Val.one (Cell.dat (Ty.int IntKind.u8).slice y0)), Slot.nix, Slot.nix, Slot.val (Val.one (Cell.dat (Ty.int IntKind.i64) y1)), Slot.val (Val.one (Cell.dat (Ty.int IntKind.i64) y2)), Slot.val (Val.one (Cell.dat (Ty.int IntKind.i64) y3)), Slot.nix, Slot.nix, Slot.nix, Slot.nix, Slot.nix, Slot.nix, Slot.nix, Slot.nix, Slot.nix, Slot.nix, Slot.nix, Slot.nix, Slot.nix, Slot.nix, Slot.nix, Slot.nix, Slot.nix, Slot.nix, Slot.nix, Slot.nix, Slot.nix, Slot.nix, Slot.nix, Slot.nix, Slot.nix, Slot.nix, Slot.nix] [])
theorem f118_L0_step (n m0 : Nat) (y0 : List Int) (y1 : Int) (y2 : Int) : f118_L0 n (m0 + 1) y0 y1 y2 = bif decide (y2 < (↑y0.length : Int)) then chk (decide ((0 : Int) ≤ y2) && decide (y2 < (↑y0.length : Int))) (f118_L1 n m0 n y0 (IntKind.i64.wrap (↑(BitVec.ofInt (64 : Nat) y1 ^^^ BitVec.ofInt (64 : Nat) (IntKind.i64.wrap (y0.getD y2.toNat (0 : Int)))).toNat : Int)) y2 (0 : Int)) else some (Res.mk [XV.mk false [X.c (X0.dat (Ty.int IntKind.i64) (IntKind.i64.wrap (↑(BitVec.ofInt (64 : Nat) y1 ^^^ BitVec.ofInt (64 : Nat) (4294967295 : Int)).toNat : Int)))]] []) := by kernel_rfl
theorem f118_L1_step (n m0 m1 : Nat) (y0 : List Int) (y1 : Int) (y2 : Int) (y3 : Int) : f118_L1 n m0 (m1 + 1) y0 y1 y2 y3 = bif decide (y3 < (8 : Int)) then bif y1.tmod (2 : Int) == (1 : Int) then f118_L1 n m0 m1 y0 (IntKind.i64.wrap (↑(BitVec.ofInt (64 : Nat) (IntKind.i64.wrap (y1.tdiv (2 : Int))) ^^^ BitVec.ofInt (64 : Nat) (3988292384 : Int)).toNat : Int)) y2 (IntKind.i64.wrap (y3 + (1 : Int))) else f118_L1 n m0 m1 y0 (IntKind.i64.wrap (y1.tdiv (2 : Int))) y2 (IntKind.i64.wrap (y3 + (1 : Int))) else f118_L0 n m0 y0 y1 (IntKind.i64.wrap (y2 + (1 : Int))) := by kernel_rfl
theorem f118_raw (n : Nat) (x0 : List Int) : abody Γ (orc []) n 118 [XV.mk false [X.c (X0.dat (Ty.int IntKind.u8).slice x0)]] = f118_L0 n n x0 (4294967295 : Int) (0 : Int) := by kernel_rfl

noncomputable def e118 : Ent := { f := 118, ins := [Sh.one (cL tB)], outs := [Sh.one cI], upd := [], pre := fun a => Sp.isBytes a, spec := fun a => Sp.sum a, wrt := fun _ => () }
theorem f118_bits (n m0 : Nat) (xs : List Int) (i : Int) : ∀ (d k m r : Nat), k + d = 8 → d < m → r < 2 ^ 32 →
    f118_L1 n m0 m xs (↑r : Int) i (↑k : Int) = f118_L0 n m0 xs (↑(Sp.bits d r) : Int) (IntKind.i64.wrap (i + 1)) := by
  intro d
  induction d with
  | zero =>
    intro k m r hk hm hr
    obtain ⟨m, rfl⟩ := succ_of hm
    rw [f118_L1_step, decide_eq_false (by omega)]
    rfl
  | succ d ih =>
    intro k m r hk hm hr
    obtain ⟨m, rfl⟩ := succ_of hm
    have e1 : ((r : Int).tmod 2 == 1) = decide (r % 2 = 1) := by
      rw [Int.tmod_eq_emod_of_nonneg (by omega)]
      by_cases h : r % 2 = 1
      · rw [decide_eq_true h]; simp; omega
      · rw [decide_eq_false h]; simp; omega
    have e2 : IntKind.i64.wrap ((r : Int).tdiv 2) = ((r / 2 : Nat) : Int) := by
      rw [Int.tdiv_eq_ediv_of_nonneg (by omega), wrap64 (by omega) (by omega)]; omega
    have e3 : IntKind.i64.wrap (((BitVec.ofInt 64 ((r / 2 : Nat) : Int) ^^^ BitVec.ofInt 64 (3988292384 : Int)).toNat : Nat) : Int) = ((r / 2 ^^^ 3988292384 : Nat) : Int) := xor64 (b := 3988292384) (by omega) (by omega)
    rw [f118_L1_step, decide_eq_true (show (k : Int) < 8 by omega), e1, e2, e3, wrap64 (n := (k : Int) + 1) (by omega) (by omega)]
    simp only [cond_true, Sp.bits]
    by_cases h : r % 2 = 1
    · have hb : Sp.bit r = r / 2 ^^^ 3988292384 := by unfold Sp.bit; rw [if_pos h]
      rw [decide_eq_true h, ← hb]
      simp only [cond_true]
      exact ih (k + 1) m (Sp.bit r) (by omega) (by omega) (bit_lt hr)
    · have hb : Sp.bit r = r / 2 := by unfold Sp.bit; rw [if_neg h]
      rw [decide_eq_false h, ← hb]
      simp only [cond_false]
      exact ih (k + 1) m (Sp.bit r) (by omega) (by omega) (bit_lt hr)
theorem f118_loop (n : Nat) (hn : 8 < n) (xs : List Int) (hl : xs.length ≤ maxLen) (hb : Sp.isBytes xs = true) : ∀ (d k m r : Nat), k + d = xs.length → d < m → r < 2 ^ 32 →
    f118_L0 n m xs (↑r : Int) (↑k : Int) = some (rI ((Sp.crc r (xs.drop k) ^^^ 4294967295 : Nat) : Int)) := by
  have hm : (xs.length : Nat) ≤ 9223372036854775807 := hl
  intro d
  induction d with
  | zero =>
    intro k m r hk hm hr
    obtain ⟨m, rfl⟩ := succ_of hm
    have e3 : IntKind.i64.wrap (((BitVec.ofInt 64 ((r : Nat) : Int) ^^^ BitVec.ofInt 64 (4294967295 : Int)).toNat : Nat) : Int) = ((r ^^^ 4294967295 : Nat) : Int) := xor64 (b := 4294967295) (by omega) (by omega)
    rw [f118_L0_step, decide_eq_false (by omega), List.drop_of_length_le (by omega), e3]
    rfl
  | succ d ih =>
    intro k m r hk hm hr
    obtain ⟨m, rfl⟩ := succ_of hm
    have hlt : k < xs.length := by omega
    obtain ⟨b1, b2⟩ := isBytes_mem hb (List.getElem_mem hlt)
    have e1 : IntKind.i64.wrap xs[k] = ((xs[k].toNat : Nat) : Int) := by rw [wrap64 (by omega) (by omega)]; omega
    have e3 : IntKind.i64.wrap (((BitVec.ofInt 64 ((r : Nat) : Int) ^^^ BitVec.ofInt 64 ((xs[k].toNat : Nat) : Int)).toNat : Nat) : Int) = ((r ^^^ xs[k].toNat : Nat) : Int) := xor64 (by omega) (by omega)
    have hx : r ^^^ xs[k].toNat < 2 ^ 32 := Nat.xor_lt_two_pow hr (by omega)
    have e0 : xs.getD (k : Int).toNat 0 = xs[k] := by rw [Int.toNat_natCast, List.getD, List.getElem?_eq_getElem hlt, Option.getD_some]
    rw [f118_L0_step, decide_eq_true (show (k : Int) < xs.length by omega), decide_eq_true (show (0 : Int) ≤ k by omega), List.drop_eq_getElem_cons hlt, e0, e1, e3, Bool.and_self, chkT, cond_true]
    have hbits := f118_bits n m xs k 8 0 n (r ^^^ xs[k].toNat) rfl hn hx
    rw [wrap64 (by omega) (by omega)] at hbits
    refine Eq.trans hbits ?_
    exact ih (k + 1) m _ (by omega) (by omega) (bits_lt 8 hx)
theorem e118_core (xs : List Int) (hb : Sp.isBytes xs = true) (hl : xs.length ≤ maxLen) : ∃ n, abody Γ (orc []) n 118 [XV.mk false [X.c (X0.dat (Ty.int IntKind.u8).slice xs)]] = some (rI (Sp.sum xs)) :=
  ⟨xs.length + 9, (f118_raw _ xs).trans (f118_loop _ (by omega) xs hl hb xs.length 0 _ 4294967295 (Nat.zero_add _) (by omega) (by omega))⟩
theorem e118_ok : Valid Try.prog Γ e118 := valid_len ok vnil fun a ha hl => e118_core a ha (hl _ (List.mem_cons_self) _ (List.mem_cons_self)).1
noncomputable def f120_L0 (n m0 : Nat) (y0 : ByteArray) (y1 : Int) (y2 : Int) (y3 : Int) : Option Res := loopAt Γ (orc []) n (120 : Nat) (0 : Nat) [] [Pth.r, Pth.r, Pth.l, Pth.r, Pth.b] m0 (St.mk [Slot.val (Val.one (Cell.dat Ty.str y0)), Slot.nix, Slot.nix, Slot.val (Val.one (Cell.dat (Ty.int IntKind.u32) y1)), Slot.nix, Slot.nix, Slot.nix, Slot.val (Val.one (Cell.dat (Ty.int IntKind.i64) y2)), Slot.val (Val.one (Cell.dat (Ty.int IntKind.i64) y3)), Slot.nix, Slot.nix, Slot.nix, Slot.nix, Slot.nix, Slot.nix, Slot.nix, Slot.nix, Slot.nix, Slot.nix, Slot.nix, Slot.nix, Slot.nix, Slot.nix, Slot.nix, Slot.nix, Slot.nix, Slot.nix, Slot.nix, Slot.nix, Slot.nix, Slot.nix, Slot.nix] [])
noncomputable def f120_L1 (n m0 m1 : Nat) (y0 : ByteArray) (y1 : Int) (y2 : Int) (y3 : Int) (y4 : Int) : Option Res := loopAt Γ (orc []) n (120 : Nat) (0 : Nat) [] [Pth.r, Pth.r, Pth.l, Pth.r, Pth.b, Pth.p m0, Pth.r, Pth.r, Pth.l, Pth.b, Pth.r, Pth.r, Pth.r, Pth.b] m1 (St.mk [Slot.val (Val.one (Cell.dat Ty.str y0)), Slot.nix, Slot.nix, Slot.val (Val.one (Cell.dat (Ty.int IntKind.u32) y1)), Slot.nix, Slot.nix, Slot.nix, Slot.val (Val.one (Cell.dat (Ty.int IntKind.i64) y2)), Slot.val (Val.one (Cell.dat (Ty.int IntKind.i64) y3)), Slot.nix, Slot.nix, Slot.nix, Slot.nix, Slot.nix, Slot.nix, Slot.nix, Slot.nix, Slot.val (Val.one (Cell.dat (Ty.int IntKind.i64) y4)), Slot.nix, Slot.nix, Slot.nix, Slot.nix, Slot.nix, Slot.nix, Slot.nix, Slot.nix, Slot.nix, Slot.nix, Slot.nix, Slot.nix, Slot.nix, Slot.nix] [])
theorem f120_L0_step (n m0 : Nat) (y0 : ByteArray) (y1 : Int) (y2 : Int) (y3 : Int) : f120_L0 n (m0 + 1) y0 y1 y2 y3 = bif decide (y3 < y2) then chk (decide ((0 : Int) ≤ y3) && decide (y3 < (↑y0.size : Int))) (f120_L1 n m0 n y0 (IntKind.u32.wrap (↑(BitVec.ofInt (32 : Nat) y1 ^^^ BitVec.ofInt (32 : Nat) (IntKind.u32.wrap ((strBytes y0).getD y3.toNat (0 : Int)))).toNat : Int)) y2 y3 (0 : Int)) else some (Res.mk [XV.mk false [X.c (X0.dat (Ty.int IntKind.i64) (IntKind.i64.wrap (IntKind.u32.wrap (↑(BitVec.ofInt (32 : Nat) (4294967295 : Int) ^^^ BitVec.ofInt (32 : Nat) y1).toNat : Int))))]] []) := by kernel_rfl
theorem f120_L1_step (n m0 m1 : Nat) (y0 : ByteArray) (y1 : Int) (y2 : Int) (y3 : Int) (y4 : Int) : f120_L1 n m0 (m1 + 1) y0 y1 y2 y3 y4 = bif decide (y4 < (8 : Int)) then bif IntKind.u32.wrap (↑(BitVec.ofInt (32 : Nat) y1 &&& BitVec.ofInt (32 : Nat) (1 : Int)).toNat : Int) == (1 : Int) then f120_L1 n m0 m1 y0 (IntKind.u32.wrap (↑(BitVec.ofInt (32 : Nat) (y1.fdiv (2 : Int)) ^^^ BitVec.ofInt (32 : Nat) (3988292384 : Int)).toNat : Int)) y2 y3 (IntKind.i64.wrap (y4 + (1 : Int))) else f120_L1 n m0 m1 y0 (y1.fdiv (2 : Int)) y2 y3 (IntKind.i64.wrap (y4 + (1 : Int))) else f120_L0 n m0 y0 y1 y2 (IntKind.i64.wrap (y3 + (1 : Int))) := by kernel_rfl
theorem f120_raw (n : Nat) (x0 : ByteArray) : abody Γ (orc []) n 120 [XV.mk false [X.c (X0.dat Ty.str x0)]] = f120_L0 n n x0 (4294967295 : Int) (↑x0.size : Int) (0 : Int) := by kernel_rfl

def Sp.shortS (s : ByteArray) : Bool := decide (s.size ≤ 9223372036854775807)
theorem short_of {s : ByteArray} (h : Sp.shortS s = true) : (s.size : Int) ≤ 9223372036854775807 := by
  have h1 : s.size ≤ 9223372036854775807 := of_decide_eq_true h
  omega
noncomputable def e120 : Ent := { f := 120, ins := [Sh.one cS], outs := [Sh.one cI], upd := [], pre := fun a => Sp.shortS a, spec := fun a => Sp.sum (strBytes a), wrt := fun _ => () }
theorem f120_bits (n m0 : Nat) (xs : ByteArray) (l i : Int) : ∀ (d k m r : Nat), k + d = 8 → d < m → r < 2 ^ 32 →
    f120_L1 n m0 m xs (↑r : Int) l i (↑k : Int) = f120_L0 n m0 xs (↑(Sp.bits d r) : Int) l (IntKind.i64.wrap (i + 1)) := by
  intro d
  induction d with
  | zero =>
    intro k m r hk hm hr
    obtain ⟨m, rfl⟩ := succ_of hm
    rw [f120_L1_step, decide_eq_false (by omega)]
    rfl
  | succ d ih =>
    intro k m r hk hm hr
    obtain ⟨m, rfl⟩ := succ_of hm
    have e1 : (((r % 2 : Nat) : Int) == 1) = decide (r % 2 = 1) := by
      by_cases h : r % 2 = 1
      · rw [decide_eq_true h]; simp; omega
      · rw [decide_eq_false h]; simp; omega
    have e2 : ((r : Int).fdiv 2) = ((r / 2 : Nat) : Int) := by
      rw [Int.fdiv_eq_ediv_of_nonneg _ (by omega)]; omega
    have e3 : IntKind.u32.wrap (((BitVec.ofInt 32 ((r / 2 : Nat) : Int) ^^^ BitVec.ofInt 32 (3988292384 : Int)).toNat : Nat) : Int) = ((r / 2 ^^^ 3988292384 : Nat) : Int) := xor32 (b := 3988292384) (by omega) (by omega)
    rw [f120_L1_step, decide_eq_true (show (k : Int) < 8 by omega), and32 hr, e1, e2, e3, wrap64 (n := (k : Int) + 1) (by omega) (by omega)]
    simp only [cond_true, Sp.bits]
    by_cases h : r % 2 = 1
    · have hb : Sp.bit r = r / 2 ^^^ 3988292384 := by unfold Sp.bit; rw [if_pos h]
      rw [decide_eq_true h, ← hb]
      simp only [cond_true]
      exact ih (k + 1) m (Sp.bit r) (by omega) (by omega) (bit_lt hr)
    · have hb : Sp.bit r = r / 2 := by unfold Sp.bit; rw [if_neg h]
      rw [decide_eq_false h, ← hb]
      simp only [cond_false]
      exact ih (k + 1) m (Sp.bit r) (by omega) (by omega) (bit_lt hr)
theorem f120_loop (n : Nat) (hn : 8 < n) (s : ByteArray) (hl : (s.size : Int) ≤ 9223372036854775807) : ∀ (d k m r : Nat), k + d = s.size → d < m → r < 2 ^ 32 →
    f120_L0 n m s (↑r : Int) (↑s.size : Int) (↑k : Int) = some (rI ((Sp.crc r ((strBytes s).drop k) ^^^ 4294967295 : Nat) : Int)) := by
  intro d
  induction d with
  | zero =>
    intro k m r hk hm hr
    obtain ⟨m, rfl⟩ := succ_of hm
    have e3 : IntKind.u32.wrap (((BitVec.ofInt 32 (4294967295 : Int) ^^^ BitVec.ofInt 32 ((r : Nat) : Int)).toNat : Nat) : Int) = ((4294967295 ^^^ r : Nat) : Int) := xor32 (a := 4294967295) (by omega) (by omega)
    have hx : 4294967295 ^^^ r < 2 ^ 32 := Nat.xor_lt_two_pow (by omega) (by omega)
    rw [f120_L0_step, decide_eq_false (by omega), List.drop_of_length_le (by rw [strBytes_len]; omega), e3, wrap64 (by omega) (by omega), Nat.xor_comm]
    rfl
  | succ d ih =>
    intro k m r hk hm hr
    obtain ⟨m, rfl⟩ := succ_of hm
    have hlt : k < (strBytes s).length := by rw [strBytes_len]; omega
    obtain ⟨b1, b2⟩ := isBytes_mem (strBytes_bytes s) (List.getElem_mem hlt)
    have e1 : IntKind.u32.wrap (strBytes s)[k] = (((strBytes s)[k].toNat : Nat) : Int) := by rw [wrap32 (by omega) (by omega)]; omega
    have e3 : IntKind.u32.wrap (((BitVec.ofInt 32 ((r : Nat) : Int) ^^^ BitVec.ofInt 32 (((strBytes s)[k].toNat : Nat) : Int)).toNat : Nat) : Int) = ((r ^^^ (strBytes s)[k].toNat : Nat) : Int) := xor32 (by omega) (by omega)
    have hx : r ^^^ (strBytes s)[k].toNat < 2 ^ 32 := Nat.xor_lt_two_pow hr (by omega)
    have e0 : (strBytes s).getD (k : Int).toNat 0 = (strBytes s)[k] := by rw [Int.toNat_natCast, List.getD, List.getElem?_eq_getElem hlt, Option.getD_some]
    rw [f120_L0_step, decide_eq_true (show (k : Int) < s.size by omega), decide_eq_true (show (0 : Int) ≤ k by omega), List.drop_eq_getElem_cons hlt, e0, e1, e3, Bool.and_self, chkT, cond_true]
    have hbits := f120_bits n m s s.size k 8 0 n (r ^^^ (strBytes s)[k].toNat) rfl hn hx
    rw [wrap64 (by omega) (by omega)] at hbits
    refine Eq.trans hbits ?_
    exact ih (k + 1) m _ (by omega) (by omega) (bits_lt 8 hx)
theorem e120_core (s : ByteArray) (hb : Sp.shortS s = true) : ∃ n, abody Γ (orc []) n 120 [XV.mk false [X.c (X0.dat Ty.str s)]] = some (rI (Sp.sum (strBytes s))) :=
  ⟨s.size + 9, (f120_raw _ s).trans (f120_loop _ (by omega) s (short_of hb) s.size 0 _ 4294967295 (Nat.zero_add _) (by omega) (by omega))⟩
theorem e120_ok : Valid Try.prog Γ e120 := valid_of ok vnil fun a ha => e120_core a ha
def Sp.f119_pre (x0 : Int) : Bool := Sp.few (4 : Int)
def Sp.f119 (x0 : Int) := (bytesStr (Sp.high (IntKind.u64.wrap (IntKind.u32.wrap x0)) (4 : Int)), ())
noncomputable def e119 : Ent := { f := 119, ins := [Sh.one (C0.dat (Ty.int IntKind.i64))], outs := [Sh.one (C0.dat Ty.str)], upd := [], pre := fun a => Sp.f119_pre a, spec := fun a => (Sp.f119 a).1, wrt := fun a => (Sp.f119 a).2 }
def f119_g (v : denS [Sh.one (C0.dat Ty.str)] × denS []) : Res := ⟨mkS [Sh.one (C0.dat Ty.str)] v.1, mkU [] v.2⟩
theorem f119_raw (x0 : Int) : abody Γ (orc [e164]) 0 119 [XV.mk false [X.c (X0.dat (Ty.int IntKind.i64) x0)]] = chk (Sp.few (4 : Int)) (some (Res.mk [XV.mk false [X.c (X0.dat Ty.str (bytesStr (Sp.high (IntKind.u64.wrap (IntKind.u32.wrap x0)) (4 : Int))))]] [])) := by kernel_rfl
theorem f119_form (x0 : Int) : (chk (Sp.few (4 : Int)) (some (Res.mk [XV.mk false [X.c (X0.dat Ty.str (bytesStr (Sp.high (IntKind.u64.wrap (IntKind.u32.wrap x0)) (4 : Int))))]] []))) = chk (Sp.f119_pre x0) (some (f119_g (Sp.f119 x0))) := by
  unfold Sp.f119_pre Sp.f119
  exact (chk_last (rfl))
theorem e119_ok : Valid Try.prog Γ e119 := valid_auto ok (vcons e164_ok vnil) fun a => (f119_raw a).trans (f119_form a)

def Sp.f71_pre (x0 : List Int) : Bool := (decide (((2 : Nat) + (Sp.f116 (↑x0.length : Int)).1.length) * (1 : Nat) ≤ (140737488355328 : Nat)) && (decide ((([(66 : Int), (75 : Int)] ++ (Sp.f116 (↑x0.length : Int)).1).length + x0.length) * (1 : Nat) ≤ (140737488355328 : Nat)) && (Sp.isBytes ([(66 : Int), (75 : Int)] ++ (Sp.f116 (↑x0.length : Int)).1 ++ x0) && decide ((([(66 : Int), (75 : Int)] ++ (Sp.f116 (↑x0.length : Int)).1 ++ x0).length + (Sp.f117 (Sp.sum ([(66 : Int), (75 : Int)] ++ (Sp.f116 (↑x0.length : Int)).1 ++ x0))).1.length) * (1 : Nat) ≤ (140737488355328 : Nat)))))
def Sp.f71 (x0 : List Int) := ([(66 : Int), (75 : Int)] ++ (Sp.f116 (↑x0.length : Int)).1 ++ x0 ++ (Sp.f117 (Sp.sum ([(66 : Int), (75 : Int)] ++ (Sp.f116 (↑x0.length : Int)).1 ++ x0))).1, ())
noncomputable def e71 : Ent := { f := 71, ins := [Sh.one (C0.dat (Ty.int IntKind.u8).slice)], outs := [Sh.one (C0.row (Ty.int IntKind.u8))], upd := [], pre := fun a => Sp.f71_pre a, spec := fun a => (Sp.f71 a).1, wrt := fun a => (Sp.f71 a).2 }
def f71_g (v : denS [Sh.one (C0.row (Ty.int IntKind.u8))] × denS []) : Res := ⟨mkS [Sh.one (C0.row (Ty.int IntKind.u8))] v.1, mkU [] v.2⟩
theorem f71_raw (x0 : List Int) : abody Γ (orc [e116, e118, e117]) 0 71 [XV.mk false [X.c (X0.dat (Ty.int IntKind.u8).slice x0)]] = chk (decide (((2 : Nat) + (Sp.f116 (↑x0.length : Int)).1.length) * (1 : Nat) ≤ (140737488355328 : Nat))) (chk (decide ((([(66 : Int), (75 : Int)] ++ (Sp.f116 (↑x0.length : Int)).1).length + x0.length) * (1 : Nat) ≤ (140737488355328 : Nat))) (chk (Sp.isBytes ([(66 : Int), (75 : Int)] ++ (Sp.f116 (↑x0.length : Int)).1 ++ x0)) (chk (decide ((([(66 : Int), (75 : Int)] ++ (Sp.f116 (↑x0.length : Int)).1 ++ x0).length + (Sp.f117 (Sp.sum ([(66 : Int), (75 : Int)] ++ (Sp.f116 (↑x0.length : Int)).1 ++ x0))).1.length) * (1 : Nat) ≤ (140737488355328 : Nat))) (some (Res.mk [XV.mk false [X.c (X0.row (Ty.int IntKind.u8) ([(66 : Int), (75 : Int)] ++ (Sp.f116 (↑x0.length : Int)).1 ++ x0 ++ (Sp.f117 (Sp.sum ([(66 : Int), (75 : Int)] ++ (Sp.f116 (↑x0.length : Int)).1 ++ x0))).1) true)]] []))))) := by kernel_rfl
theorem f71_form (x0 : List Int) : (chk (decide (((2 : Nat) + (Sp.f116 (↑x0.length : Int)).1.length) * (1 : Nat) ≤ (140737488355328 : Nat))) (chk (decide ((([(66 : Int), (75 : Int)] ++ (Sp.f116 (↑x0.length : Int)).1).length + x0.length) * (1 : Nat) ≤ (140737488355328 : Nat))) (chk (Sp.isBytes ([(66 : Int), (75 : Int)] ++ (Sp.f116 (↑x0.length : Int)).1 ++ x0)) (chk (decide ((([(66 : Int), (75 : Int)] ++ (Sp.f116 (↑x0.length : Int)).1 ++ x0).length + (Sp.f117 (Sp.sum ([(66 : Int), (75 : Int)] ++ (Sp.f116 (↑x0.length : Int)).1 ++ x0))).1.length) * (1 : Nat) ≤ (140737488355328 : Nat))) (some (Res.mk [XV.mk false [X.c (X0.row (Ty.int IntKind.u8) ([(66 : Int), (75 : Int)] ++ (Sp.f116 (↑x0.length : Int)).1 ++ x0 ++ (Sp.f117 (Sp.sum ([(66 : Int), (75 : Int)] ++ (Sp.f116 (↑x0.length : Int)).1 ++ x0))).1) true)]] [])))))) = chk (Sp.f71_pre x0) (some (f71_g (Sp.f71 x0))) := by
  unfold Sp.f71_pre Sp.f71
  exact (chk_step ((chk_step ((chk_step ((chk_last (rfl))))))))
theorem e71_ok : Valid Try.prog Γ e71 := valid_auto ok (vcons e116_ok (vcons e118_ok (vcons e117_ok vnil))) fun a => (f71_raw a).trans (f71_form a)

def Sp.f72_pre (x0 : List Int) : Bool := (Sp.f119_pre (↑x0.length : Int) && (decide ((2 : Nat) + (Sp.f119 (↑x0.length : Int)).1.size ≤ (9223372036854775807 : Nat)) && (decide ((ByteArray.mk #[(66 : UInt8), (75 : UInt8)] ++ (Sp.f119 (↑x0.length : Int)).1).size ≤ (9223372036854775807 : Nat)) && (decide (((strBytes (ByteArray.mk #[(66 : UInt8), (75 : UInt8)] ++ (Sp.f119 (↑x0.length : Int)).1)).length + x0.length) * (1 : Nat) ≤ (140737488355328 : Nat)) && (Sp.shortS (bytesStr (strBytes (ByteArray.mk #[(66 : UInt8), (75 : UInt8)] ++ (Sp.f119 (↑x0.length : Int)).1) ++ x0)) && decide (((strBytes (ByteArray.mk #[(66 : UInt8), (75 : UInt8)] ++ (Sp.f119 (↑x0.length : Int)).1) ++ x0).length + [IntKind.u8.wrap (IntKind.u32.wrap (Sp.sum (strBytes (bytesStr (strBytes (ByteArray.mk #[(66 : UInt8), (75 : UInt8)] ++ (Sp.f119 (↑x0.length : Int)).1) ++ x0))))), IntKind.u8.wrap ((IntKind.u32.wrap (Sp.sum (strBytes (bytesStr (strBytes (ByteArray.mk #[(66 : UInt8), (75 : UInt8)] ++ (Sp.f119 (↑x0.length : Int)).1) ++ x0))))).fdiv (256 : Int)), IntKind.u8.wrap ((IntKind.u32.wrap (Sp.sum (strBytes (bytesStr (strBytes (ByteArray.mk #[(66 : UInt8), (75 : UInt8)] ++ (Sp.f119 (↑x0.length : Int)).1) ++ x0))))).fdiv (65536 : Int)), IntKind.u8.wrap ((IntKind.u32.wrap (Sp.sum (strBytes (bytesStr (strBytes (ByteArray.mk #[(66 : UInt8), (75 : UInt8)] ++ (Sp.f119 (↑x0.length : Int)).1) ++ x0))))).fdiv (16777216 : Int))].length) * (1 : Nat) ≤ (140737488355328 : Nat)))))))
def Sp.f72 (x0 : List Int) := (strBytes (ByteArray.mk #[(66 : UInt8), (75 : UInt8)] ++ (Sp.f119 (↑x0.length : Int)).1) ++ x0 ++ [IntKind.u8.wrap (IntKind.u32.wrap (Sp.sum (strBytes (bytesStr (strBytes (ByteArray.mk #[(66 : UInt8), (75 : UInt8)] ++ (Sp.f119 (↑x0.length : Int)).1) ++ x0))))), IntKind.u8.wrap ((IntKind.u32.wrap (Sp.sum (strBytes (bytesStr (strBytes (ByteArray.mk #[(66 : UInt8), (75 : UInt8)] ++ (Sp.f119 (↑x0.length : Int)).1) ++ x0))))).fdiv (256 : Int)), IntKind.u8.wrap ((IntKind.u32.wrap (Sp.sum (strBytes (bytesStr (strBytes (ByteArray.mk #[(66 : UInt8), (75 : UInt8)] ++ (Sp.f119 (↑x0.length : Int)).1) ++ x0))))).fdiv (65536 : Int)), IntKind.u8.wrap ((IntKind.u32.wrap (Sp.sum (strBytes (bytesStr (strBytes (ByteArray.mk #[(66 : UInt8), (75 : UInt8)] ++ (Sp.f119 (↑x0.length : Int)).1) ++ x0))))).fdiv (16777216 : Int))], ())
noncomputable def e72 : Ent := { f := 72, ins := [Sh.one (C0.dat (Ty.int IntKind.u8).slice)], outs := [Sh.one (C0.row (Ty.int IntKind.u8))], upd := [], pre := fun a => Sp.f72_pre a, spec := fun a => (Sp.f72 a).1, wrt := fun a => (Sp.f72 a).2 }
def f72_g (v : denS [Sh.one (C0.row (Ty.int IntKind.u8))] × denS []) : Res := ⟨mkS [Sh.one (C0.row (Ty.int IntKind.u8))] v.1, mkU [] v.2⟩
theorem f72_raw (x0 : List Int) : abody Γ (orc [e119, e120]) 0 72 [XV.mk false [X.c (X0.dat (Ty.int IntKind.u8).slice x0)]] = chk (Sp.f119_pre (↑x0.length : Int)) (chk (decide ((2 : Nat) + (Sp.f119 (↑x0.length : Int)).1.size ≤ (9223372036854775807 : Nat))) (chk (decide ((ByteArray.mk #[(66 : UInt8), (75 : UInt8)] ++ (Sp.f119 (↑x0.length : Int)).1).size ≤ (9223372036854775807 : Nat))) (chk (decide (((strBytes (ByteArray.mk #[(66 : UInt8), (75 : UInt8)] ++ (Sp.f119 (↑x0.length : Int)).1)).length + x0.length) * (1 : Nat) ≤ (140737488355328 : Nat))) (chk (Sp.shortS (bytesStr (strBytes (ByteArray.mk #[(66 : UInt8), (75 : UInt8)] ++ (Sp.f119 (↑x0.length : Int)).1) ++ x0))) (chk (decide (((strBytes (ByteArray.mk #[(66 : UInt8), (75 : UInt8)] ++ (Sp.f119 (↑x0.length : Int)).1) ++ x0).length + [IntKind.u8.wrap (IntKind.u32.wrap (Sp.sum (strBytes (bytesStr (strBytes (ByteArray.mk #[(66 : UInt8), (75 : UInt8)] ++ (Sp.f119 (↑x0.length : Int)).1) ++ x0))))), IntKind.u8.wrap ((IntKind.u32.wrap (Sp.sum (strBytes (bytesStr (strBytes (ByteArray.mk #[(66 : UInt8), (75 : UInt8)] ++ (Sp.f119 (↑x0.length : Int)).1) ++ x0))))).fdiv (256 : Int)), IntKind.u8.wrap ((IntKind.u32.wrap (Sp.sum (strBytes (bytesStr (strBytes (ByteArray.mk #[(66 : UInt8), (75 : UInt8)] ++ (Sp.f119 (↑x0.length : Int)).1) ++ x0))))).fdiv (65536 : Int)), IntKind.u8.wrap ((IntKind.u32.wrap (Sp.sum (strBytes (bytesStr (strBytes (ByteArray.mk #[(66 : UInt8), (75 : UInt8)] ++ (Sp.f119 (↑x0.length : Int)).1) ++ x0))))).fdiv (16777216 : Int))].length) * (1 : Nat) ≤ (140737488355328 : Nat))) (some (Res.mk [XV.mk false [X.c (X0.row (Ty.int IntKind.u8) (strBytes (ByteArray.mk #[(66 : UInt8), (75 : UInt8)] ++ (Sp.f119 (↑x0.length : Int)).1) ++ x0 ++ [IntKind.u8.wrap (IntKind.u32.wrap (Sp.sum (strBytes (bytesStr (strBytes (ByteArray.mk #[(66 : UInt8), (75 : UInt8)] ++ (Sp.f119 (↑x0.length : Int)).1) ++ x0))))), IntKind.u8.wrap ((IntKind.u32.wrap (Sp.sum (strBytes (bytesStr (strBytes (ByteArray.mk #[(66 : UInt8), (75 : UInt8)] ++ (Sp.f119 (↑x0.length : Int)).1) ++ x0))))).fdiv (256 : Int)), IntKind.u8.wrap ((IntKind.u32.wrap (Sp.sum (strBytes (bytesStr (strBytes (ByteArray.mk #[(66 : UInt8), (75 : UInt8)] ++ (Sp.f119 (↑x0.length : Int)).1) ++ x0))))).fdiv (65536 : Int)), IntKind.u8.wrap ((IntKind.u32.wrap (Sp.sum (strBytes (bytesStr (strBytes (ByteArray.mk #[(66 : UInt8), (75 : UInt8)] ++ (Sp.f119 (↑x0.length : Int)).1) ++ x0))))).fdiv (16777216 : Int))]) true)]] []))))))) := by kernel_rfl
theorem f72_form (x0 : List Int) : (chk (Sp.f119_pre (↑x0.length : Int)) (chk (decide ((2 : Nat) + (Sp.f119 (↑x0.length : Int)).1.size ≤ (9223372036854775807 : Nat))) (chk (decide ((ByteArray.mk #[(66 : UInt8), (75 : UInt8)] ++ (Sp.f119 (↑x0.length : Int)).1).size ≤ (9223372036854775807 : Nat))) (chk (decide (((strBytes (ByteArray.mk #[(66 : UInt8), (75 : UInt8)] ++ (Sp.f119 (↑x0.length : Int)).1)).length + x0.length) * (1 : Nat) ≤ (140737488355328 : Nat))) (chk (Sp.shortS (bytesStr (strBytes (ByteArray.mk #[(66 : UInt8), (75 : UInt8)] ++ (Sp.f119 (↑x0.length : Int)).1) ++ x0))) (chk (decide (((strBytes (ByteArray.mk #[(66 : UInt8), (75 : UInt8)] ++ (Sp.f119 (↑x0.length : Int)).1) ++ x0).length + [IntKind.u8.wrap (IntKind.u32.wrap (Sp.sum (strBytes (bytesStr (strBytes (ByteArray.mk #[(66 : UInt8), (75 : UInt8)] ++ (Sp.f119 (↑x0.length : Int)).1) ++ x0))))), IntKind.u8.wrap ((IntKind.u32.wrap (Sp.sum (strBytes (bytesStr (strBytes (ByteArray.mk #[(66 : UInt8), (75 : UInt8)] ++ (Sp.f119 (↑x0.length : Int)).1) ++ x0))))).fdiv (256 : Int)), IntKind.u8.wrap ((IntKind.u32.wrap (Sp.sum (strBytes (bytesStr (strBytes (ByteArray.mk #[(66 : UInt8), (75 : UInt8)] ++ (Sp.f119 (↑x0.length : Int)).1) ++ x0))))).fdiv (65536 : Int)), IntKind.u8.wrap ((IntKind.u32.wrap (Sp.sum (strBytes (bytesStr (strBytes (ByteArray.mk #[(66 : UInt8), (75 : UInt8)] ++ (Sp.f119 (↑x0.length : Int)).1) ++ x0))))).fdiv (16777216 : Int))].length) * (1 : Nat) ≤ (140737488355328 : Nat))) (some (Res.mk [XV.mk false [X.c (X0.row (Ty.int IntKind.u8) (strBytes (ByteArray.mk #[(66 : UInt8), (75 : UInt8)] ++ (Sp.f119 (↑x0.length : Int)).1) ++ x0 ++ [IntKind.u8.wrap (IntKind.u32.wrap (Sp.sum (strBytes (bytesStr (strBytes (ByteArray.mk #[(66 : UInt8), (75 : UInt8)] ++ (Sp.f119 (↑x0.length : Int)).1) ++ x0))))), IntKind.u8.wrap ((IntKind.u32.wrap (Sp.sum (strBytes (bytesStr (strBytes (ByteArray.mk #[(66 : UInt8), (75 : UInt8)] ++ (Sp.f119 (↑x0.length : Int)).1) ++ x0))))).fdiv (256 : Int)), IntKind.u8.wrap ((IntKind.u32.wrap (Sp.sum (strBytes (bytesStr (strBytes (ByteArray.mk #[(66 : UInt8), (75 : UInt8)] ++ (Sp.f119 (↑x0.length : Int)).1) ++ x0))))).fdiv (65536 : Int)), IntKind.u8.wrap ((IntKind.u32.wrap (Sp.sum (strBytes (bytesStr (strBytes (ByteArray.mk #[(66 : UInt8), (75 : UInt8)] ++ (Sp.f119 (↑x0.length : Int)).1) ++ x0))))).fdiv (16777216 : Int))]) true)]] [])))))))) = chk (Sp.f72_pre x0) (some (f72_g (Sp.f72 x0))) := by
  unfold Sp.f72_pre Sp.f72
  exact (chk_step ((chk_step ((chk_step ((chk_step ((chk_step ((chk_last (rfl))))))))))))
theorem e72_ok : Valid Try.prog Γ e72 := valid_auto ok (vcons e119_ok (vcons e120_ok vnil)) fun a => (f72_raw a).trans (f72_form a)

def Sp.f21_pre (x0 : List Int) : Bool := (bif decide ((↑x0.length : Int) > (65526 : Int)) then true else Sp.f71_pre x0)
def Sp.f21 (x0 : List Int) := (bif decide ((↑x0.length : Int) > (65526 : Int)) then (([], (2 : Int)), ()) else (((Sp.f71 x0).1, (0 : Int)), ()))
noncomputable def e21 : Ent := { f := 21, ins := [Sh.one (C0.dat (Ty.int IntKind.u8).slice)], outs := [Sh.one (C0.row (Ty.int IntKind.u8)), Sh.one (C0.dat (Ty.int IntKind.i64))], upd := [], pre := fun a => Sp.f21_pre a, spec := fun a => (Sp.f21 a).1, wrt := fun a => (Sp.f21 a).2 }
def f21_g (v : denS [Sh.one (C0.row (Ty.int IntKind.u8)), Sh.one (C0.dat (Ty.int IntKind.i64))] × denS []) : Res := ⟨mkS [Sh.one (C0.row (Ty.int IntKind.u8)), Sh.one (C0.dat (Ty.int IntKind.i64))] v.1, mkU [] v.2⟩
theorem f21_raw (x0 : List Int) : abody Γ (orc [e71]) 0 21 [XV.mk false [X.c (X0.dat (Ty.int IntKind.u8).slice x0)]] = bif decide ((↑x0.length : Int) > (65526 : Int)) then some (Res.mk [XV.mk false [X.c (X0.row (Ty.int IntKind.u8) [] true)], XV.mk false [X.c (X0.dat (Ty.int IntKind.i64) (2 : Int))]] []) else chk (Sp.f71_pre x0) (some (Res.mk [XV.mk false [X.c (X0.row (Ty.int IntKind.u8) (Sp.f71 x0).1 true)], XV.mk false [X.c (X0.dat (Ty.int IntKind.i64) (0 : Int))]] [])) := by kernel_rfl
theorem f21_form (x0 : List Int) : (bif decide ((↑x0.length : Int) > (65526 : Int)) then some (Res.mk [XV.mk false [X.c (X0.row (Ty.int IntKind.u8) [] true)], XV.mk false [X.c (X0.dat (Ty.int IntKind.i64) (2 : Int))]] []) else chk (Sp.f71_pre x0) (some (Res.mk [XV.mk false [X.c (X0.row (Ty.int IntKind.u8) (Sp.f71 x0).1 true)], XV.mk false [X.c (X0.dat (Ty.int IntKind.i64) (0 : Int))]] []))) = chk (Sp.f21_pre x0) (some (f21_g (Sp.f21 x0))) := by
  unfold Sp.f21_pre Sp.f21
  exact (cond_step f21_g ((lift_plain (rfl))) ((chk_last (rfl))))
theorem e21_ok : Valid Try.prog Γ e21 := valid_auto ok (vcons e71_ok vnil) fun a => (f21_raw a).trans (f21_form a)

def Sp.f23_pre (x0 : List Int) : Bool := (bif decide ((↑x0.length : Int) > (65526 : Int)) then true else Sp.f72_pre x0)
def Sp.f23 (x0 : List Int) := (bif decide ((↑x0.length : Int) > (65526 : Int)) then (([], (2 : Int)), ()) else (((Sp.f72 x0).1, (0 : Int)), ()))
noncomputable def e23 : Ent := { f := 23, ins := [Sh.one (C0.dat (Ty.int IntKind.u8).slice)], outs := [Sh.one (C0.row (Ty.int IntKind.u8)), Sh.one (C0.dat (Ty.int IntKind.i64))], upd := [], pre := fun a => Sp.f23_pre a, spec := fun a => (Sp.f23 a).1, wrt := fun a => (Sp.f23 a).2 }
def f23_g (v : denS [Sh.one (C0.row (Ty.int IntKind.u8)), Sh.one (C0.dat (Ty.int IntKind.i64))] × denS []) : Res := ⟨mkS [Sh.one (C0.row (Ty.int IntKind.u8)), Sh.one (C0.dat (Ty.int IntKind.i64))] v.1, mkU [] v.2⟩
theorem f23_raw (x0 : List Int) : abody Γ (orc [e72]) 0 23 [XV.mk false [X.c (X0.dat (Ty.int IntKind.u8).slice x0)]] = bif decide ((↑x0.length : Int) > (65526 : Int)) then some (Res.mk [XV.mk false [X.c (X0.row (Ty.int IntKind.u8) [] true)], XV.mk false [X.c (X0.dat (Ty.int IntKind.i64) (2 : Int))]] []) else chk (Sp.f72_pre x0) (some (Res.mk [XV.mk false [X.c (X0.row (Ty.int IntKind.u8) (Sp.f72 x0).1 true)], XV.mk false [X.c (X0.dat (Ty.int IntKind.i64) (0 : Int))]] [])) := by kernel_rfl
theorem f23_form (x0 : List Int) : (bif decide ((↑x0.length : Int) > (65526 : Int)) then some (Res.mk [XV.mk false [X.c (X0.row (Ty.int IntKind.u8) [] true)], XV.mk false [X.c (X0.dat (Ty.int IntKind.i64) (2 : Int))]] []) else chk (Sp.f72_pre x0) (some (Res.mk [XV.mk false [X.c (X0.row (Ty.int IntKind.u8) (Sp.f72 x0).1 true)], XV.mk false [X.c (X0.dat (Ty.int IntKind.i64) (0 : Int))]] []))) = chk (Sp.f23_pre x0) (some (f23_g (Sp.f23 x0))) := by
  unfold Sp.f23_pre Sp.f23
  exact (cond_step f23_g ((lift_plain (rfl))) ((chk_last (rfl))))
theorem e23_ok : Valid Try.prog Γ e23 := valid_auto ok (vcons e72_ok vnil) fun a => (f23_raw a).trans (f23_form a)

def Sp.f5_pre (x0 : List Int) : Bool := (bif decide ((↑x0.length : Int) > (1048576 : Int)) then true else (Sp.fits x0 && (Sp.f21_pre x0 && (Sp.fits x0 && (Sp.f23_pre x0 && (bif !Sp.eqL (Sp.f23 x0).1.1 (Sp.f21 x0).1.1 then true else (bif (Sp.f23 x0).1.2 != (Sp.f21 x0).1.2 then true else (Sp.fits x0 && (bif !Sp.eqL x0 x0 then true else (Sp.small x0 (1 : Int) && (bif decide (Sp.addLen x0 (1 : Int) < (0 : Int)) then true else (bif !Sp.eqL (Sp.f23 x0).1.1 (Sp.f21 x0).1.1 then true else (bif (Sp.f23 x0).1.2 != (Sp.f21 x0).1.2 then true else (Sp.small (Sp.f23 x0).1.1 (1 : Int) && (Sp.small (Sp.mark8 (Sp.f23 x0).1.1 (1 : Int)) (1 : Int) && (bif decide (Sp.held8 (Sp.mark8 (Sp.f23 x0).1.1 (1 : Int)) (1 : Int) < (0 : Int)) then true else (bif Sp.held8 (Sp.mark8 (Sp.f23 x0).1.1 (1 : Int)) (1 : Int) != Sp.addLen (Sp.f23 x0).1.1 (1 : Int) then true else (Sp.fits x0 && (Sp.f23_pre x0 && (bif !Sp.eqL (Sp.f23 x0).1.1 (Sp.f21 x0).1.1 then true else (bif (Sp.f23 x0).1.2 != (Sp.f21 x0).1.2 then true else Sp.small (Sp.mark8 (Sp.f23 x0).1.1 (1 : Int)) (1 : Int))))))))))))))))))))))
def Sp.f5 (x0 : List Int) := (bif decide ((↑x0.length : Int) > (1048576 : Int)) then (true, ()) else (bif !Sp.eqL (Sp.f23 x0).1.1 (Sp.f21 x0).1.1 then (false, ()) else (bif (Sp.f23 x0).1.2 != (Sp.f21 x0).1.2 then (false, ()) else (bif !Sp.eqL x0 x0 then (false, ()) else (bif decide (Sp.addLen x0 (1 : Int) < (0 : Int)) then (false, ()) else (bif !Sp.eqL (Sp.f23 x0).1.1 (Sp.f21 x0).1.1 then (false, ()) else (bif (Sp.f23 x0).1.2 != (Sp.f21 x0).1.2 then (false, ()) else (bif decide (Sp.held8 (Sp.mark8 (Sp.f23 x0).1.1 (1 : Int)) (1 : Int) < (0 : Int)) then (false, ()) else (bif Sp.held8 (Sp.mark8 (Sp.f23 x0).1.1 (1 : Int)) (1 : Int) != Sp.addLen (Sp.f23 x0).1.1 (1 : Int) then (false, ()) else (bif !Sp.eqL (Sp.f23 x0).1.1 (Sp.f21 x0).1.1 then (false, ()) else (bif (Sp.f23 x0).1.2 != (Sp.f21 x0).1.2 then (false, ()) else (bif decide (Sp.held8 (Sp.mark8 (Sp.f23 x0).1.1 (1 : Int)) (1 : Int) < (0 : Int)) then (false, ()) else (bif Sp.held8 (Sp.mark8 (Sp.f23 x0).1.1 (1 : Int)) (1 : Int) != Sp.addLen (Sp.f23 x0).1.1 (1 : Int) then (false, ()) else (true, ()))))))))))))))
noncomputable def e5 : Ent := { f := 5, ins := [Sh.one (C0.dat (Ty.int IntKind.u8).slice)], outs := [Sh.one (C0.dat Ty.bool)], upd := [], pre := fun a => Sp.f5_pre a, spec := fun a => (Sp.f5 a).1, wrt := fun a => (Sp.f5 a).2 }
def f5_g (v : denS [Sh.one (C0.dat Ty.bool)] × denS []) : Res := ⟨mkS [Sh.one (C0.dat Ty.bool)] v.1, mkU [] v.2⟩
theorem f5_raw (x0 : List Int) : abody Γ (orc [e22, e21, e23, e24, e25, e26]) 0 5 [XV.mk false [X.c (X0.dat (Ty.int IntKind.u8).slice x0)]] = bif decide ((↑x0.length : Int) > (1048576 : Int)) then some (Res.mk [XV.mk false [X.c (X0.dat Ty.bool true)]] []) else chk (Sp.fits x0) (chk (Sp.f21_pre x0) (chk (Sp.fits x0) (chk (Sp.f23_pre x0) (bif !Sp.eqL (Sp.f23 x0).1.1 (Sp.f21 x0).1.1 then some (Res.mk [XV.mk false [X.c (X0.dat Ty.bool false)]] []) else bif (Sp.f23 x0).1.2 != (Sp.f21 x0).1.2 then some (Res.mk [XV.mk false [X.c (X0.dat Ty.bool false)]] []) else chk (Sp.fits x0) (bif !Sp.eqL x0 x0 then some (Res.mk [XV.mk false [X.c (X0.dat Ty.bool false)]] []) else chk (Sp.small x0 (1 : Int)) (bif decide (Sp.addLen x0 (1 : Int) < (0 : Int)) then some (Res.mk [XV.mk false [X.c (X0.dat Ty.bool false)]] []) else bif !Sp.eqL (Sp.f23 x0).1.1 (Sp.f21 x0).1.1 then some (Res.mk [XV.mk false [X.c (X0.dat Ty.bool false)]] []) else bif (Sp.f23 x0).1.2 != (Sp.f21 x0).1.2 then some (Res.mk [XV.mk false [X.c (X0.dat Ty.bool false)]] []) else chk (Sp.small (Sp.f23 x0).1.1 (1 : Int)) (chk (Sp.small (Sp.mark8 (Sp.f23 x0).1.1 (1 : Int)) (1 : Int)) (bif decide (Sp.held8 (Sp.mark8 (Sp.f23 x0).1.1 (1 : Int)) (1 : Int) < (0 : Int)) then some (Res.mk [XV.mk false [X.c (X0.dat Ty.bool false)]] []) else bif Sp.held8 (Sp.mark8 (Sp.f23 x0).1.1 (1 : Int)) (1 : Int) != Sp.addLen (Sp.f23 x0).1.1 (1 : Int) then some (Res.mk [XV.mk false [X.c (X0.dat Ty.bool false)]] []) else chk (Sp.fits x0) (chk (Sp.f23_pre x0) (bif !Sp.eqL (Sp.f23 x0).1.1 (Sp.f21 x0).1.1 then some (Res.mk [XV.mk false [X.c (X0.dat Ty.bool false)]] []) else bif (Sp.f23 x0).1.2 != (Sp.f21 x0).1.2 then some (Res.mk [XV.mk false [X.c (X0.dat Ty.bool false)]] []) else chk (Sp.small (Sp.mark8 (Sp.f23 x0).1.1 (1 : Int)) (1 : Int)) (bif decide (Sp.held8 (Sp.mark8 (Sp.f23 x0).1.1 (1 : Int)) (1 : Int) < (0 : Int)) then some (Res.mk [XV.mk false [X.c (X0.dat Ty.bool false)]] []) else bif Sp.held8 (Sp.mark8 (Sp.f23 x0).1.1 (1 : Int)) (1 : Int) != Sp.addLen (Sp.f23 x0).1.1 (1 : Int) then some (Res.mk [XV.mk false [X.c (X0.dat Ty.bool false)]] []) else some (Res.mk [XV.mk false [X.c (X0.dat Ty.bool true)]] [])))))))))))) := by kernel_rfl
theorem f5_form (x0 : List Int) : (bif decide ((↑x0.length : Int) > (1048576 : Int)) then some (Res.mk [XV.mk false [X.c (X0.dat Ty.bool true)]] []) else chk (Sp.fits x0) (chk (Sp.f21_pre x0) (chk (Sp.fits x0) (chk (Sp.f23_pre x0) (bif !Sp.eqL (Sp.f23 x0).1.1 (Sp.f21 x0).1.1 then some (Res.mk [XV.mk false [X.c (X0.dat Ty.bool false)]] []) else bif (Sp.f23 x0).1.2 != (Sp.f21 x0).1.2 then some (Res.mk [XV.mk false [X.c (X0.dat Ty.bool false)]] []) else chk (Sp.fits x0) (bif !Sp.eqL x0 x0 then some (Res.mk [XV.mk false [X.c (X0.dat Ty.bool false)]] []) else chk (Sp.small x0 (1 : Int)) (bif decide (Sp.addLen x0 (1 : Int) < (0 : Int)) then some (Res.mk [XV.mk false [X.c (X0.dat Ty.bool false)]] []) else bif !Sp.eqL (Sp.f23 x0).1.1 (Sp.f21 x0).1.1 then some (Res.mk [XV.mk false [X.c (X0.dat Ty.bool false)]] []) else bif (Sp.f23 x0).1.2 != (Sp.f21 x0).1.2 then some (Res.mk [XV.mk false [X.c (X0.dat Ty.bool false)]] []) else chk (Sp.small (Sp.f23 x0).1.1 (1 : Int)) (chk (Sp.small (Sp.mark8 (Sp.f23 x0).1.1 (1 : Int)) (1 : Int)) (bif decide (Sp.held8 (Sp.mark8 (Sp.f23 x0).1.1 (1 : Int)) (1 : Int) < (0 : Int)) then some (Res.mk [XV.mk false [X.c (X0.dat Ty.bool false)]] []) else bif Sp.held8 (Sp.mark8 (Sp.f23 x0).1.1 (1 : Int)) (1 : Int) != Sp.addLen (Sp.f23 x0).1.1 (1 : Int) then some (Res.mk [XV.mk false [X.c (X0.dat Ty.bool false)]] []) else chk (Sp.fits x0) (chk (Sp.f23_pre x0) (bif !Sp.eqL (Sp.f23 x0).1.1 (Sp.f21 x0).1.1 then some (Res.mk [XV.mk false [X.c (X0.dat Ty.bool false)]] []) else bif (Sp.f23 x0).1.2 != (Sp.f21 x0).1.2 then some (Res.mk [XV.mk false [X.c (X0.dat Ty.bool false)]] []) else chk (Sp.small (Sp.mark8 (Sp.f23 x0).1.1 (1 : Int)) (1 : Int)) (bif decide (Sp.held8 (Sp.mark8 (Sp.f23 x0).1.1 (1 : Int)) (1 : Int) < (0 : Int)) then some (Res.mk [XV.mk false [X.c (X0.dat Ty.bool false)]] []) else bif Sp.held8 (Sp.mark8 (Sp.f23 x0).1.1 (1 : Int)) (1 : Int) != Sp.addLen (Sp.f23 x0).1.1 (1 : Int) then some (Res.mk [XV.mk false [X.c (X0.dat Ty.bool false)]] []) else some (Res.mk [XV.mk false [X.c (X0.dat Ty.bool true)]] []))))))))))))) = chk (Sp.f5_pre x0) (some (f5_g (Sp.f5 x0))) := by
  unfold Sp.f5_pre Sp.f5
  exact (cond_step f5_g ((lift_plain (rfl))) ((chk_step ((chk_step ((chk_step ((chk_step ((cond_step f5_g ((lift_plain (rfl))) ((cond_step f5_g ((lift_plain (rfl))) ((chk_step ((cond_step f5_g ((lift_plain (rfl))) ((chk_step ((cond_step f5_g ((lift_plain (rfl))) ((cond_step f5_g ((lift_plain (rfl))) ((cond_step f5_g ((lift_plain (rfl))) ((chk_step ((chk_step ((cond_step f5_g ((lift_plain (rfl))) ((cond_step f5_g ((lift_plain (rfl))) ((chk_step ((chk_step ((cond_step f5_g ((lift_plain (rfl))) ((cond_step f5_g ((lift_plain (rfl))) ((chk_last ((cond_plain f5_g (rfl) ((cond_plain f5_g (rfl) (rfl))))))))))))))))))))))))))))))))))))))))))))))))
theorem e5_ok : Valid Try.prog Γ e5 := valid_auto ok (vcons e22_ok (vcons e21_ok (vcons e23_ok (vcons e24_ok (vcons e25_ok (vcons e26_ok vnil)))))) fun a => (f5_raw a).trans (f5_form a)

end Go.Proofs.GR.T
namespace Go.Proofs.GR.T
open Go Go.Proofs Go.Proofs.GR
theorem crc_lt : ∀ (xs : List Int) (r : Nat), r < 2 ^ 32 → Sp.isBytes xs = true → Sp.crc r xs < 2 ^ 32
  | [], _, h, _ => h
  | x :: xs, r, h, hb => by
    obtain ⟨⟨h1, h2⟩, h3⟩ := isBytes_cons.1 hb
    exact crc_lt xs _ (bits_lt 8 (Nat.xor_lt_two_pow h (by omega))) h3
theorem sum_lt {xs : List Int} (hb : Sp.isBytes xs = true) : 0 ≤ Sp.sum xs ∧ Sp.sum xs < 4294967296 := by
  unfold Sp.sum
  have := Nat.xor_lt_two_pow (crc_lt xs 4294967295 (by omega) hb) (show 4294967295 < 2 ^ 32 by omega)
  omega
theorem high_four (n : Int) : Sp.high n 4 = [IntKind.u8.wrap (n.fdiv 16777216), IntKind.u8.wrap (n.fdiv 65536), IntKind.u8.wrap (n.fdiv 256), IntKind.u8.wrap n] := by
  show [IntKind.u8.wrap (n.fdiv (2 ^ 24)), IntKind.u8.wrap (n.fdiv (2 ^ 16)), IntKind.u8.wrap (n.fdiv (2 ^ 8)), IntKind.u8.wrap (n.fdiv (2 ^ 0))] = _
  rw [show (2 : Int) ^ 0 = 1 from rfl, Int.fdiv_one]
  rfl
theorem four_bytes (n : Int) : Sp.isBytes (Sp.f116 n).1 = true := isBytes_of fun x hx => by
  simp only [Sp.f116, List.mem_cons, List.not_mem_nil, or_false] at hx
  rcases hx with rfl | rfl | rfl | rfl <;> exact wrap8_byte _
theorem head_bytes : Sp.isBytes [(66 : Int), (75 : Int)] = true := by decide
theorem head_eq {n : Int} (h0 : 0 ≤ n) (h1 : n < 4294967296) : strBytes (ByteArray.mk #[(66 : UInt8), (75 : UInt8)] ++ (Sp.f119 n).1) = [(66 : Int), (75 : Int)] ++ (Sp.f116 n).1 := by
  have e : (Sp.f119 n).1 = bytesStr (Sp.f116 n).1 := by
    unfold Sp.f119
    rw [wrap32 h0 h1, wrapu64 h0 (by omega), high_four]
    rfl
  rw [strBytes_append, e, strBytes_bytesStr (four_bytes n)]
  rfl
theorem f72_eq {xs : List Int} (hb : Sp.isBytes xs = true) (hl : (xs.length : Int) < 4294967296) : Sp.f72 xs = Sp.f71 xs := by
  have hB : Sp.isBytes ([(66 : Int), (75 : Int)] ++ (Sp.f116 (xs.length : Int)).1 ++ xs) = true := isBytes_append (isBytes_append head_bytes (four_bytes _)) hb
  obtain ⟨s1, s2⟩ := sum_lt hB
  unfold Sp.f72 Sp.f71
  rw [head_eq (by omega) hl, strBytes_bytesStr hB, wrap32 s1 s2]
  rfl
theorem f23_eq {xs : List Int} (hb : Sp.isBytes xs = true) : Sp.f23 xs = Sp.f21 xs := by
  unfold Sp.f23 Sp.f21
  by_cases h : (xs.length : Int) > 65526
  · rw [decide_eq_true h]; rfl
  · rw [f72_eq hb (by omega)]
theorem f71_len (xs : List Int) : (Sp.f71 xs).1.length = xs.length + 10 := by
  simp only [Sp.f71, Sp.f116, Sp.f117, List.length_append, List.length_cons, List.length_nil]
  omega
theorem f21_len (xs : List Int) : (Sp.f21 xs).1.1.length ≤ xs.length + 10 := by
  unfold Sp.f21
  cases decide ((xs.length : Int) > 65526) with
  | true => simp
  | false => exact Nat.le_of_eq (f71_len xs)
theorem f71_pre {xs : List Int} (hb : Sp.isBytes xs = true) (hl : (xs.length : Int) ≤ 65526) : Sp.f71_pre xs = true := by
  have hB : Sp.isBytes ([(66 : Int), (75 : Int)] ++ (Sp.f116 (xs.length : Int)).1 ++ xs) = true := isBytes_append (isBytes_append head_bytes (four_bytes _)) hb
  unfold Sp.f71_pre
  rw [hB]
  simp [Sp.f116, Sp.f117]
  omega
theorem f72_pre {xs : List Int} (hb : Sp.isBytes xs = true) (hl : (xs.length : Int) ≤ 65526) : Sp.f72_pre xs = true := by
  have e : (Sp.f119 (xs.length : Int)).1.size = 4 := by
    unfold Sp.f119
    rw [wrap32 (by omega) (by omega), wrapu64 (by omega) (by omega), high_four, bytesStr_size]
    rfl
  have e2 : (ByteArray.mk #[(66 : UInt8), (75 : UInt8)] ++ (Sp.f119 (xs.length : Int)).1).size = 6 := by
    rw [ByteArray.size_append, e]; rfl
  unfold Sp.f72_pre
  rw [e, e2]
  have h1 : Sp.f119_pre (xs.length : Int) = true := rfl
  have h3 : Sp.shortS (bytesStr (strBytes (ByteArray.mk #[(66 : UInt8), (75 : UInt8)] ++ (Sp.f119 (xs.length : Int)).1) ++ xs)) = true := by
    refine decide_eq_true ?_
    rw [bytesStr_size, List.length_append, strBytes_len, e2]
    omega
  rw [h1, h3]
  simp [strBytes_len, e2]
  all_goals omega
theorem law5_pre (xs : List Int) (hb : Sp.isBytes xs = true) : Sp.f5_pre xs = true := by
  unfold Sp.f5_pre
  by_cases h : (xs.length : Int) > 1048576
  · rw [decide_eq_true h]; rfl
  · have p21 : Sp.f21_pre xs = true := by
      unfold Sp.f21_pre
      by_cases h2 : (xs.length : Int) > 65526
      · rw [decide_eq_true h2]; rfl
      · rw [f71_pre hb (by omega)]; simp
    have p23 : Sp.f23_pre xs = true := by
      unfold Sp.f23_pre
      by_cases h2 : (xs.length : Int) > 65526
      · rw [decide_eq_true h2]; rfl
      · rw [f72_pre hb (by omega)]; simp
    have hf : Sp.fits xs = true := decide_eq_true (by omega)
    have hs : Sp.small xs 1 = true := small_mk (by omega) (by omega)
    have hlen := f21_len xs
    have hs2 : Sp.small (Sp.f21 xs).1.1 1 = true := small_mk (by omega) (by omega)
    have hs3 : Sp.small (Sp.mark8 (Sp.f21 xs).1.1 1) 1 = true := small_mk (by omega) (by rw [mark8_len]; omega)
    rw [f23_eq hb, decide_eq_false h, p21, p23, hf, hs, hs2, hs3]
    simp
theorem law5 (xs : List Int) (hb : Sp.isBytes xs = true) : (Sp.f5 xs).1 = true := by
  unfold Sp.f5
  rw [f23_eq hb, held_mark]
  have h1 : decide (Sp.addLen xs (1 : Int) < 0) = false := decide_eq_false (by unfold Sp.addLen; omega)
  have h2 : decide ((1 : Int) + ((Sp.f21 xs).1.1.length : Int) < 0) = false := decide_eq_false (by omega)
  have h3 : ((1 : Int) + ((Sp.f21 xs).1.1.length : Int) != Sp.addLen (Sp.f21 xs).1.1 1) = false := by simp [Sp.addLen]
  rw [h1, h2, h3, eqL_self, eqL_self]
  cases decide ((xs.length : Int) > 1048576) <;> simp
end Go.Proofs.GR.T
set_option maxRecDepth 100000
namespace Go.Proofs.GR.T
open Go Go.Proofs Go.Proofs.GR
/-- The number of bytes, the highest first. -/
def Sp.num : Nat → List Int → Nat
  | r, [] => r
  | r, x :: l => Sp.num (r * 256 + x.toNat) l
def Sp.four (xs : List Int) : Bool := yes2 (decide (xs.length ≤ 4)) (Sp.isBytes xs)
theorem four_of {xs : List Int} (h : Sp.four xs = true) : xs.length ≤ 4 ∧ Sp.isBytes xs = true := by
  obtain ⟨h1, h2⟩ := yes2_true h
  exact ⟨of_decide_eq_true h1, h2⟩
def Sp.eight (xs : List Int) : Bool := yes2 (decide (xs.length ≤ 8)) (Sp.isBytes xs)
theorem eight_of {xs : List Int} (h : Sp.eight xs = true) : xs.length ≤ 8 ∧ Sp.isBytes xs = true := by
  obtain ⟨h1, h2⟩ := yes2_true h
  exact ⟨of_decide_eq_true h1, h2⟩
theorem or64 {a b : Nat} (ha : a < 2 ^ 56) (hb : b < 256) : IntKind.u64.wrap (((BitVec.ofInt 64 (IntKind.u64.wrap ((a : Int) * 256)) ||| BitVec.ofInt 64 (IntKind.u64.wrap (b : Int))).toNat : Nat) : Int) = ((a * 256 + b : Nat) : Int) := by
  rw [wrapu64 (n := (a : Int) * 256) (by omega) (by omega), wrapu64 (n := (b : Int)) (by omega) (by omega)]
  rw [show (a : Int) * 256 = ((a * 256 : Nat) : Int) by omega, BitVec.toNat_or, ofInt_toNat, ofInt_toNat, Nat.mod_eq_of_lt (by omega), Nat.mod_eq_of_lt (by omega)]
  have e : a * 256 ||| b = a * 256 + b := by
    have := Nat.shiftLeft_add_eq_or_of_lt (i := 8) (show b < 2 ^ 8 by omega) a
    rw [Nat.shiftLeft_eq] at this
    exact this.symm
  rw [e, wrapu64 (by omega) (by omega)]
noncomputable def f77_L0 (n m0 : Nat) (y0 : List Int) (y1 : Int) (y2 : Int) (y3 : Int) : Option Res := loopAt Γ (orc []) n (77 : Nat) (0 : Nat) [] [Pth.r, Pth.r, Pth.l, Pth.r, Pth.b] m0 (St.mk [Slot.val (Val.one (Cell.dat (Ty.int IntKind.u8).slice y0)), Slot.nix, Slot.nix, Slot.val (Val.one (Cell.dat (Ty.int IntKind.u64) y1)), Slot.nix, Slot.nix, Slot.val (Val.one (Cell.dat (Ty.int IntKind.i64) y2)), Slot.val (Val.one (Cell.dat (Ty.int IntKind.i64) y3)), Slot.nix, Slot.nix, Slot.nix, Slot.nix, Slot.nix, Slot.nix, Slot.nix, Slot.nix, Slot.nix, Slot.nix, Slot.nix, Slot.nix] [])
theorem f77_L0_step (n m0 : Nat) (y0 : List Int) (y1 : Int) (y2 : Int) (y3 : Int) : f77_L0 n (m0 + 1) y0 y1 y2 y3 = bif decide (y3 < y2) then chk (decide ((0 : Int) ≤ y3) && decide (y3 < (↑y0.length : Int))) (f77_L0 n m0 y0 (IntKind.u64.wrap (↑(BitVec.ofInt (64 : Nat) (IntKind.u64.wrap (y1 * (256 : Int))) ||| BitVec.ofInt (64 : Nat) (IntKind.u64.wrap (y0.getD y3.toNat (0 : Int)))).toNat : Int)) y2 (IntKind.i64.wrap (y3 + (1 : Int)))) else some (Res.mk [XV.mk false [X.c (X0.dat (Ty.int IntKind.u64) y1)]] []) := by kernel_rfl
theorem f77_raw (n : Nat) (x0 : List Int) : abody Γ (orc []) n 77 [XV.mk false [X.c (X0.dat (Ty.int IntKind.u8).slice x0)]] = f77_L0 n n x0 (0 : Int) (↑x0.length : Int) (0 : Int) := by kernel_rfl

noncomputable def e77 : Ent := { f := 77, ins := [Sh.one (cL tB)], outs := [Sh.one (C0.dat (.int .u64))], upd := [], pre := fun a => Sp.eight a, spec := fun a => (Sp.num 0 a : Int), wrt := fun _ => () }
theorem f77_loop (n : Nat) (xs : List Int) (hl : xs.length ≤ 8) (hb : Sp.isBytes xs = true) : ∀ (d k m r : Nat), k + d = xs.length → d < m → r < 256 ^ k →
    f77_L0 n m xs (↑r : Int) (↑xs.length : Int) (↑k : Int) = some (Res.mk [XV.mk false [X.c (X0.dat (Ty.int IntKind.u64) (Sp.num r (xs.drop k) : Int))]] []) := by
  intro d
  induction d with
  | zero =>
    intro k m r hk hm hr
    obtain ⟨m, rfl⟩ := succ_of hm
    rw [f77_L0_step, decide_eq_false (by omega), List.drop_of_length_le (by omega)]
    rfl
  | succ d ih =>
    intro k m r hk hm hr
    obtain ⟨m, rfl⟩ := succ_of hm
    have hlt : k < xs.length := by omega
    obtain ⟨b1, b2⟩ := isBytes_mem hb (List.getElem_mem hlt)
    have e0 : xs.getD (k : Int).toNat 0 = xs[k] := by rw [Int.toNat_natCast, List.getD, List.getElem?_eq_getElem hlt, Option.getD_some]
    have e1 : xs[k] = ((xs[k].toNat : Nat) : Int) := by omega
    have hr2 : r < 2 ^ 56 := Nat.lt_of_lt_of_le hr (Nat.le_trans (Nat.pow_le_pow_right (by omega) (show k ≤ 7 by omega)) (by decide))
    have e2 := or64 hr2 (show xs[k].toNat < 256 by omega)
    rw [← e1] at e2
    rw [f77_L0_step, decide_eq_true (show (k : Int) < xs.length by omega), decide_eq_true (show (0 : Int) ≤ k by omega), List.drop_eq_getElem_cons hlt, e0, e2, Bool.and_self, chkT, cond_true, wrap64 (by omega) (by omega)]
    exact ih (k + 1) m _ (by omega) (by omega) (by rw [Nat.pow_succ]; omega)
theorem e77_core (xs : List Int) (h : Sp.eight xs = true) : ∃ n, abody Γ (orc []) n 77 [XV.mk false [X.c (X0.dat (Ty.int IntKind.u8).slice xs)]] = some (Res.mk [XV.mk false [X.c (X0.dat (Ty.int IntKind.u64) (Sp.num 0 xs : Int))]] []) := by
  obtain ⟨h1, h2⟩ := eight_of h
  have := f77_loop (xs.length + 1) xs h1 h2 xs.length 0 (xs.length + 1) 0 (Nat.zero_add _) (Nat.lt_succ_self _) (by decide)
  rw [Int.natCast_zero] at this
  exact ⟨xs.length + 1, (f77_raw _ xs).trans this⟩
theorem e77_ok : Valid Try.prog Γ e77 := valid_of ok vnil fun a ha => e77_core a ha
noncomputable def f122_L0 (n m0 : Nat) (y0 : ByteArray) (y1 : Int) (y2 : Int) : Option Res := loopAt Γ (orc []) n (122 : Nat) (0 : Nat) [] [Pth.r, Pth.r, Pth.l, Pth.r, Pth.b] m0 (St.mk [Slot.val (Val.one (Cell.dat Ty.str y0)), Slot.nix, Slot.nix, Slot.val (Val.one (Cell.dat (Ty.int IntKind.i64) y1)), Slot.val (Val.one (Cell.dat (Ty.int IntKind.i64) y2)), Slot.nix, Slot.nix, Slot.nix, Slot.nix, Slot.nix, Slot.nix, Slot.nix, Slot.nix, Slot.nix, Slot.nix, Slot.nix, Slot.nix, Slot.nix, Slot.nix] [])
theorem f122_L0_step (n m0 : Nat) (y0 : ByteArray) (y1 : Int) (y2 : Int) : f122_L0 n (m0 + 1) y0 y1 y2 = bif decide (y2 < (↑y0.size : Int)) then chk (decide ((0 : Int) ≤ y2) && decide (y2 < (↑y0.size : Int))) (f122_L0 n m0 y0 (IntKind.i64.wrap (IntKind.i64.wrap (y1 * (256 : Int)) + IntKind.i64.wrap ((strBytes y0).getD y2.toNat (0 : Int)))) (IntKind.i64.wrap (y2 + (1 : Int)))) else some (Res.mk [XV.mk false [X.c (X0.dat (Ty.int IntKind.i64) y1)]] []) := by kernel_rfl
theorem f122_raw (n : Nat) (x0 : ByteArray) : abody Γ (orc []) n 122 [XV.mk false [X.c (X0.dat Ty.str x0)]] = f122_L0 n n x0 (0 : Int) (0 : Int) := by kernel_rfl

noncomputable def e122 : Ent := { f := 122, ins := [Sh.one cS], outs := [Sh.one cI], upd := [], pre := fun a => Sp.four (strBytes a), spec := fun a => (Sp.num 0 (strBytes a) : Int), wrt := fun _ => () }
theorem f122_loop (n : Nat) (s : ByteArray) (hl : (strBytes s).length ≤ 4) : ∀ (d k m r : Nat), k + d = (strBytes s).length → d < m → r < 256 ^ k →
    f122_L0 n m s (↑r : Int) (↑k : Int) = some (rI (Sp.num r ((strBytes s).drop k) : Int)) := by
  have hs := strBytes_len s
  intro d
  induction d with
  | zero =>
    intro k m r hk hm hr
    obtain ⟨m, rfl⟩ := succ_of hm
    rw [f122_L0_step, decide_eq_false (by omega), List.drop_of_length_le (by omega)]
    rfl
  | succ d ih =>
    intro k m r hk hm hr
    obtain ⟨m, rfl⟩ := succ_of hm
    have hlt : k < (strBytes s).length := by omega
    obtain ⟨b1, b2⟩ := isBytes_mem (strBytes_bytes s) (List.getElem_mem hlt)
    have e0 : (strBytes s).getD (k : Int).toNat 0 = (strBytes s)[k] := by rw [Int.toNat_natCast, List.getD, List.getElem?_eq_getElem hlt, Option.getD_some]
    have hr2 : r < 2 ^ 32 := Nat.lt_of_lt_of_le hr (Nat.le_trans (Nat.pow_le_pow_right (by omega) (show k ≤ 4 by omega)) (by decide))
    have e2 : IntKind.i64.wrap (IntKind.i64.wrap ((r : Int) * 256) + IntKind.i64.wrap (strBytes s)[k]) = ((r * 256 + (strBytes s)[k].toNat : Nat) : Int) := by
      rw [wrap64 (n := (r : Int) * 256) (by omega) (by omega), wrap64 (n := (strBytes s)[k]) (by omega) (by omega), wrap64 (by omega) (by omega)]
      omega
    rw [f122_L0_step, decide_eq_true (show (k : Int) < s.size by omega), decide_eq_true (show (0 : Int) ≤ k by omega), List.drop_eq_getElem_cons hlt, e0, e2, Bool.and_self, chkT, cond_true, wrap64 (by omega) (by omega)]
    exact ih (k + 1) m _ (by omega) (by omega) (by rw [Nat.pow_succ]; omega)
theorem e122_core (s : ByteArray) (h : Sp.four (strBytes s) = true) : ∃ n, abody Γ (orc []) n 122 [XV.mk false [X.c (X0.dat Ty.str s)]] = some (rI (Sp.num 0 (strBytes s) : Int)) := by
  obtain ⟨h1, _⟩ := four_of h
  have := f122_loop ((strBytes s).length + 1) s h1 (strBytes s).length 0 ((strBytes s).length + 1) 0 (Nat.zero_add _) (Nat.lt_succ_self _) (by decide)
  rw [Int.natCast_zero] at this
  exact ⟨(strBytes s).length + 1, (f122_raw _ s).trans this⟩
theorem e122_ok : Valid Try.prog Γ e122 := valid_of ok vnil fun a ha => e122_core a ha
def Sp.f76_pre (x0 : List Int) : Bool := (bif decide ((↑x0.length : Int) < (10 : Int)) then true else (decide ((2 : Int) ≤ (↑x0.length : Int)) && (bif !(bytesStr (List.take (2 : Nat) (List.drop (0 : Nat) x0))).toList == (ByteArray.mk #[(66 : UInt8), (75 : UInt8)]).toList then true else (decide ((6 : Int) ≤ (↑x0.length : Int)) && (Sp.four (strBytes (bytesStr (List.take (4 : Nat) (List.drop (2 : Nat) x0)))) && (bif (↑(Sp.num (0 : Nat) (strBytes (bytesStr (List.take (4 : Nat) (List.drop (2 : Nat) x0))))) : Int) != IntKind.i64.wrap ((↑x0.length : Int) - (10 : Int)) then true else (decide ((0 : Int) ≤ IntKind.i64.wrap ((↑x0.length : Int) - (4 : Int))) && decide (IntKind.i64.wrap ((↑x0.length : Int) - (4 : Int)) ≤ (↑x0.length : Int)) && (Sp.isBytes (List.take ((IntKind.i64.wrap ((↑x0.length : Int) - (4 : Int))).toNat - (0 : Nat)) (List.drop (0 : Nat) x0)) && (decide ((0 : Int) ≤ IntKind.i64.wrap ((↑x0.length : Int) - (4 : Int))) && decide (IntKind.i64.wrap ((↑x0.length : Int) - (4 : Int)) ≤ (↑x0.length : Int)) && (bif !(bytesStr (Sp.f117 (Sp.sum (List.take ((IntKind.i64.wrap ((↑x0.length : Int) - (4 : Int))).toNat - (0 : Nat)) (List.drop (0 : Nat) x0)))).1).toList == (bytesStr (List.take (x0.length - (IntKind.i64.wrap ((↑x0.length : Int) - (4 : Int))).toNat) (List.drop (IntKind.i64.wrap ((↑x0.length : Int) - (4 : Int))).toNat x0))).toList then true else (decide ((6 : Int) ≤ IntKind.i64.wrap ((↑x0.length : Int) - (4 : Int))) && decide (IntKind.i64.wrap ((↑x0.length : Int) - (4 : Int)) ≤ (↑x0.length : Int)) && decide (((0 : Nat) + (List.take ((IntKind.i64.wrap ((↑x0.length : Int) - (4 : Int))).toNat - (6 : Nat)) (List.drop (6 : Nat) x0)).length) * (1 : Nat) ≤ (140737488355328 : Nat)))))))))))))
def Sp.f76 (x0 : List Int) := (bif decide ((↑x0.length : Int) < (10 : Int)) then (([], (3 : Int)), ()) else (bif !(bytesStr (List.take (2 : Nat) (List.drop (0 : Nat) x0))).toList == (ByteArray.mk #[(66 : UInt8), (75 : UInt8)]).toList then (([], (3 : Int)), ()) else (bif (↑(Sp.num (0 : Nat) (strBytes (bytesStr (List.take (4 : Nat) (List.drop (2 : Nat) x0))))) : Int) != IntKind.i64.wrap ((↑x0.length : Int) - (10 : Int)) then (([], (3 : Int)), ()) else (bif !(bytesStr (Sp.f117 (Sp.sum (List.take ((IntKind.i64.wrap ((↑x0.length : Int) - (4 : Int))).toNat - (0 : Nat)) (List.drop (0 : Nat) x0)))).1).toList == (bytesStr (List.take (x0.length - (IntKind.i64.wrap ((↑x0.length : Int) - (4 : Int))).toNat) (List.drop (IntKind.i64.wrap ((↑x0.length : Int) - (4 : Int))).toNat x0))).toList then (([], (8 : Int)), ()) else (([] ++ List.take ((IntKind.i64.wrap ((↑x0.length : Int) - (4 : Int))).toNat - (6 : Nat)) (List.drop (6 : Nat) x0), (0 : Int)), ())))))
noncomputable def e76 : Ent := { f := 76, ins := [Sh.one (C0.dat (Ty.int IntKind.u8).slice)], outs := [Sh.one (C0.row (Ty.int IntKind.u8)), Sh.one (C0.dat (Ty.int IntKind.i64))], upd := [], pre := fun a => Sp.f76_pre a, spec := fun a => (Sp.f76 a).1, wrt := fun a => (Sp.f76 a).2 }
def f76_g (v : denS [Sh.one (C0.row (Ty.int IntKind.u8)), Sh.one (C0.dat (Ty.int IntKind.i64))] × denS []) : Res := ⟨mkS [Sh.one (C0.row (Ty.int IntKind.u8)), Sh.one (C0.dat (Ty.int IntKind.i64))] v.1, mkU [] v.2⟩
theorem f76_raw (x0 : List Int) : abody Γ (orc [e122, e118, e117]) 0 76 [XV.mk false [X.c (X0.dat (Ty.int IntKind.u8).slice x0)]] = bif decide ((↑x0.length : Int) < (10 : Int)) then some (Res.mk [XV.mk false [X.c (X0.row (Ty.int IntKind.u8) [] true)], XV.mk false [X.c (X0.dat (Ty.int IntKind.i64) (3 : Int))]] []) else chk (decide ((2 : Int) ≤ (↑x0.length : Int))) (bif !(bytesStr (List.take (2 : Nat) (List.drop (0 : Nat) x0))).toList == (ByteArray.mk #[(66 : UInt8), (75 : UInt8)]).toList then some (Res.mk [XV.mk false [X.c (X0.row (Ty.int IntKind.u8) [] true)], XV.mk false [X.c (X0.dat (Ty.int IntKind.i64) (3 : Int))]] []) else chk (decide ((6 : Int) ≤ (↑x0.length : Int))) (chk (Sp.four (strBytes (bytesStr (List.take (4 : Nat) (List.drop (2 : Nat) x0))))) (bif (↑(Sp.num (0 : Nat) (strBytes (bytesStr (List.take (4 : Nat) (List.drop (2 : Nat) x0))))) : Int) != IntKind.i64.wrap ((↑x0.length : Int) - (10 : Int)) then some (Res.mk [XV.mk false [X.c (X0.row (Ty.int IntKind.u8) [] true)], XV.mk false [X.c (X0.dat (Ty.int IntKind.i64) (3 : Int))]] []) else chk (decide ((0 : Int) ≤ IntKind.i64.wrap ((↑x0.length : Int) - (4 : Int))) && decide (IntKind.i64.wrap ((↑x0.length : Int) - (4 : Int)) ≤ (↑x0.length : Int))) (chk (Sp.isBytes (List.take ((IntKind.i64.wrap ((↑x0.length : Int) - (4 : Int))).toNat - (0 : Nat)) (List.drop (0 : Nat) x0))) (chk (decide ((0 : Int) ≤ IntKind.i64.wrap ((↑x0.length : Int) - (4 : Int))) && decide (IntKind.i64.wrap ((↑x0.length : Int) - (4 : Int)) ≤ (↑x0.length : Int))) (bif !(bytesStr (Sp.f117 (Sp.sum (List.take ((IntKind.i64.wrap ((↑x0.length : Int) - (4 : Int))).toNat - (0 : Nat)) (List.drop (0 : Nat) x0)))).1).toList == (bytesStr (List.take (x0.length - (IntKind.i64.wrap ((↑x0.length : Int) - (4 : Int))).toNat) (List.drop (IntKind.i64.wrap ((↑x0.length : Int) - (4 : Int))).toNat x0))).toList then some (Res.mk [XV.mk false [X.c (X0.row (Ty.int IntKind.u8) [] true)], XV.mk false [X.c (X0.dat (Ty.int IntKind.i64) (8 : Int))]] []) else chk (decide ((6 : Int) ≤ IntKind.i64.wrap ((↑x0.length : Int) - (4 : Int))) && decide (IntKind.i64.wrap ((↑x0.length : Int) - (4 : Int)) ≤ (↑x0.length : Int))) (chk (decide (((0 : Nat) + (List.take ((IntKind.i64.wrap ((↑x0.length : Int) - (4 : Int))).toNat - (6 : Nat)) (List.drop (6 : Nat) x0)).length) * (1 : Nat) ≤ (140737488355328 : Nat))) (some (Res.mk [XV.mk false [X.c (X0.row (Ty.int IntKind.u8) ([] ++ List.take ((IntKind.i64.wrap ((↑x0.length : Int) - (4 : Int))).toNat - (6 : Nat)) (List.drop (6 : Nat) x0)) true)], XV.mk false [X.c (X0.dat (Ty.int IntKind.i64) (0 : Int))]] []))))))))) := by kernel_rfl
theorem f76_form (x0 : List Int) : (bif decide ((↑x0.length : Int) < (10 : Int)) then some (Res.mk [XV.mk false [X.c (X0.row (Ty.int IntKind.u8) [] true)], XV.mk false [X.c (X0.dat (Ty.int IntKind.i64) (3 : Int))]] []) else chk (decide ((2 : Int) ≤ (↑x0.length : Int))) (bif !(bytesStr (List.take (2 : Nat) (List.drop (0 : Nat) x0))).toList == (ByteArray.mk #[(66 : UInt8), (75 : UInt8)]).toList then some (Res.mk [XV.mk false [X.c (X0.row (Ty.int IntKind.u8) [] true)], XV.mk false [X.c (X0.dat (Ty.int IntKind.i64) (3 : Int))]] []) else chk (decide ((6 : Int) ≤ (↑x0.length : Int))) (chk (Sp.four (strBytes (bytesStr (List.take (4 : Nat) (List.drop (2 : Nat) x0))))) (bif (↑(Sp.num (0 : Nat) (strBytes (bytesStr (List.take (4 : Nat) (List.drop (2 : Nat) x0))))) : Int) != IntKind.i64.wrap ((↑x0.length : Int) - (10 : Int)) then some (Res.mk [XV.mk false [X.c (X0.row (Ty.int IntKind.u8) [] true)], XV.mk false [X.c (X0.dat (Ty.int IntKind.i64) (3 : Int))]] []) else chk (decide ((0 : Int) ≤ IntKind.i64.wrap ((↑x0.length : Int) - (4 : Int))) && decide (IntKind.i64.wrap ((↑x0.length : Int) - (4 : Int)) ≤ (↑x0.length : Int))) (chk (Sp.isBytes (List.take ((IntKind.i64.wrap ((↑x0.length : Int) - (4 : Int))).toNat - (0 : Nat)) (List.drop (0 : Nat) x0))) (chk (decide ((0 : Int) ≤ IntKind.i64.wrap ((↑x0.length : Int) - (4 : Int))) && decide (IntKind.i64.wrap ((↑x0.length : Int) - (4 : Int)) ≤ (↑x0.length : Int))) (bif !(bytesStr (Sp.f117 (Sp.sum (List.take ((IntKind.i64.wrap ((↑x0.length : Int) - (4 : Int))).toNat - (0 : Nat)) (List.drop (0 : Nat) x0)))).1).toList == (bytesStr (List.take (x0.length - (IntKind.i64.wrap ((↑x0.length : Int) - (4 : Int))).toNat) (List.drop (IntKind.i64.wrap ((↑x0.length : Int) - (4 : Int))).toNat x0))).toList then some (Res.mk [XV.mk false [X.c (X0.row (Ty.int IntKind.u8) [] true)], XV.mk false [X.c (X0.dat (Ty.int IntKind.i64) (8 : Int))]] []) else chk (decide ((6 : Int) ≤ IntKind.i64.wrap ((↑x0.length : Int) - (4 : Int))) && decide (IntKind.i64.wrap ((↑x0.length : Int) - (4 : Int)) ≤ (↑x0.length : Int))) (chk (decide (((0 : Nat) + (List.take ((IntKind.i64.wrap ((↑x0.length : Int) - (4 : Int))).toNat - (6 : Nat)) (List.drop (6 : Nat) x0)).length) * (1 : Nat) ≤ (140737488355328 : Nat))) (some (Res.mk [XV.mk false [X.c (X0.row (Ty.int IntKind.u8) ([] ++ List.take ((IntKind.i64.wrap ((↑x0.length : Int) - (4 : Int))).toNat - (6 : Nat)) (List.drop (6 : Nat) x0)) true)], XV.mk false [X.c (X0.dat (Ty.int IntKind.i64) (0 : Int))]] [])))))))))) = chk (Sp.f76_pre x0) (some (f76_g (Sp.f76 x0))) := by
  unfold Sp.f76_pre Sp.f76
  exact (cond_step f76_g ((lift_plain (rfl))) ((chk_step ((cond_step f76_g ((lift_plain (rfl))) ((chk_step ((chk_step ((cond_step f76_g ((lift_plain (rfl))) ((chk_step ((chk_step ((chk_step ((cond_step f76_g ((lift_plain (rfl))) ((chk_step ((chk_last (rfl))))))))))))))))))))))))
theorem e76_ok : Valid Try.prog Γ e76 := valid_auto ok (vcons e122_ok (vcons e118_ok (vcons e117_ok vnil))) fun a => (f76_raw a).trans (f76_form a)

def Sp.f32_pre (x0 : List Int) : Bool := (bif decide ((↑x0.length : Int) > (65536 : Int)) then true else Sp.f76_pre x0)
def Sp.f32 (x0 : List Int) := (bif decide ((↑x0.length : Int) > (65536 : Int)) then (([], (2 : Int)), ()) else (((Sp.f76 x0).1.1, (Sp.f76 x0).1.2), ()))
noncomputable def e32 : Ent := { f := 32, ins := [Sh.one (C0.dat (Ty.int IntKind.u8).slice)], outs := [Sh.one (C0.row (Ty.int IntKind.u8)), Sh.one (C0.dat (Ty.int IntKind.i64))], upd := [], pre := fun a => Sp.f32_pre a, spec := fun a => (Sp.f32 a).1, wrt := fun a => (Sp.f32 a).2 }
def f32_g (v : denS [Sh.one (C0.row (Ty.int IntKind.u8)), Sh.one (C0.dat (Ty.int IntKind.i64))] × denS []) : Res := ⟨mkS [Sh.one (C0.row (Ty.int IntKind.u8)), Sh.one (C0.dat (Ty.int IntKind.i64))] v.1, mkU [] v.2⟩
theorem f32_raw (x0 : List Int) : abody Γ (orc [e76]) 0 32 [XV.mk false [X.c (X0.dat (Ty.int IntKind.u8).slice x0)]] = bif decide ((↑x0.length : Int) > (65536 : Int)) then some (Res.mk [XV.mk false [X.c (X0.row (Ty.int IntKind.u8) [] true)], XV.mk false [X.c (X0.dat (Ty.int IntKind.i64) (2 : Int))]] []) else chk (Sp.f76_pre x0) (some (Res.mk [XV.mk false [X.c (X0.row (Ty.int IntKind.u8) (Sp.f76 x0).1.1 true)], XV.mk false [X.c (X0.dat (Ty.int IntKind.i64) (Sp.f76 x0).1.2)]] [])) := by kernel_rfl
theorem f32_form (x0 : List Int) : (bif decide ((↑x0.length : Int) > (65536 : Int)) then some (Res.mk [XV.mk false [X.c (X0.row (Ty.int IntKind.u8) [] true)], XV.mk false [X.c (X0.dat (Ty.int IntKind.i64) (2 : Int))]] []) else chk (Sp.f76_pre x0) (some (Res.mk [XV.mk false [X.c (X0.row (Ty.int IntKind.u8) (Sp.f76 x0).1.1 true)], XV.mk false [X.c (X0.dat (Ty.int IntKind.i64) (Sp.f76 x0).1.2)]] []))) = chk (Sp.f32_pre x0) (some (f32_g (Sp.f32 x0))) := by
  unfold Sp.f32_pre Sp.f32
  exact (cond_step f32_g ((lift_plain (rfl))) ((chk_last (rfl))))
theorem e32_ok : Valid Try.prog Γ e32 := valid_auto ok (vcons e76_ok vnil) fun a => (f32_raw a).trans (f32_form a)

def Sp.f33_pre (x0 : List Int) : Bool := (bif decide ((↑x0.length : Int) > (65536 : Int)) then true else (bif decide ((↑x0.length : Int) < (10 : Int)) then true else (decide ((2 : Int) ≤ (↑x0.length : Int)) && (bif !(bytesStr (List.take (2 : Nat) (List.drop (0 : Nat) x0))).toList == (ByteArray.mk #[(66 : UInt8), (75 : UInt8)]).toList then true else (decide ((6 : Int) ≤ (↑x0.length : Int)) && (Sp.eight (List.take (4 : Nat) (List.drop (2 : Nat) x0)) && (bif IntKind.i64.wrap (↑(Sp.num (0 : Nat) (List.take (4 : Nat) (List.drop (2 : Nat) x0))) : Int) != IntKind.i64.wrap ((↑x0.length : Int) - (10 : Int)) then true else (decide ((6 : Int) ≤ IntKind.i64.wrap ((↑x0.length : Int) - (4 : Int))) && decide (IntKind.i64.wrap ((↑x0.length : Int) - (4 : Int)) ≤ (↑x0.length : Int)) && (decide (((0 : Nat) + (List.take ((IntKind.i64.wrap ((↑x0.length : Int) - (4 : Int))).toNat - (6 : Nat)) (List.drop (6 : Nat) x0)).length) * (1 : Nat) ≤ (140737488355328 : Nat)) && Sp.f72_pre ([] ++ List.take ((IntKind.i64.wrap ((↑x0.length : Int) - (4 : Int))).toNat - (6 : Nat)) (List.drop (6 : Nat) x0)))))))))))
def Sp.f33 (x0 : List Int) := (bif decide ((↑x0.length : Int) > (65536 : Int)) then (([], (2 : Int)), ()) else (bif decide ((↑x0.length : Int) < (10 : Int)) then (([], (3 : Int)), ()) else (bif !(bytesStr (List.take (2 : Nat) (List.drop (0 : Nat) x0))).toList == (ByteArray.mk #[(66 : UInt8), (75 : UInt8)]).toList then (([], (3 : Int)), ()) else (bif IntKind.i64.wrap (↑(Sp.num (0 : Nat) (List.take (4 : Nat) (List.drop (2 : Nat) x0))) : Int) != IntKind.i64.wrap ((↑x0.length : Int) - (10 : Int)) then (([], (3 : Int)), ()) else (bif !(bytesStr (Sp.f72 ([] ++ List.take ((IntKind.i64.wrap ((↑x0.length : Int) - (4 : Int))).toNat - (6 : Nat)) (List.drop (6 : Nat) x0))).1).toList == (bytesStr x0).toList then (([], (8 : Int)), ()) else (([] ++ List.take ((IntKind.i64.wrap ((↑x0.length : Int) - (4 : Int))).toNat - (6 : Nat)) (List.drop (6 : Nat) x0), (0 : Int)), ()))))))
noncomputable def e33 : Ent := { f := 33, ins := [Sh.one (C0.dat (Ty.int IntKind.u8).slice)], outs := [Sh.one (C0.row (Ty.int IntKind.u8)), Sh.one (C0.dat (Ty.int IntKind.i64))], upd := [], pre := fun a => Sp.f33_pre a, spec := fun a => (Sp.f33 a).1, wrt := fun a => (Sp.f33 a).2 }
def f33_g (v : denS [Sh.one (C0.row (Ty.int IntKind.u8)), Sh.one (C0.dat (Ty.int IntKind.i64))] × denS []) : Res := ⟨mkS [Sh.one (C0.row (Ty.int IntKind.u8)), Sh.one (C0.dat (Ty.int IntKind.i64))] v.1, mkU [] v.2⟩
theorem f33_raw (x0 : List Int) : abody Γ (orc [e77, e72]) 0 33 [XV.mk false [X.c (X0.dat (Ty.int IntKind.u8).slice x0)]] = bif decide ((↑x0.length : Int) > (65536 : Int)) then some (Res.mk [XV.mk false [X.c (X0.row (Ty.int IntKind.u8) [] true)], XV.mk false [X.c (X0.dat (Ty.int IntKind.i64) (2 : Int))]] []) else bif decide ((↑x0.length : Int) < (10 : Int)) then some (Res.mk [XV.mk false [X.c (X0.row (Ty.int IntKind.u8) [] true)], XV.mk false [X.c (X0.dat (Ty.int IntKind.i64) (3 : Int))]] []) else chk (decide ((2 : Int) ≤ (↑x0.length : Int))) (bif !(bytesStr (List.take (2 : Nat) (List.drop (0 : Nat) x0))).toList == (ByteArray.mk #[(66 : UInt8), (75 : UInt8)]).toList then some (Res.mk [XV.mk false [X.c (X0.row (Ty.int IntKind.u8) [] true)], XV.mk false [X.c (X0.dat (Ty.int IntKind.i64) (3 : Int))]] []) else chk (decide ((6 : Int) ≤ (↑x0.length : Int))) (chk (Sp.eight (List.take (4 : Nat) (List.drop (2 : Nat) x0))) (bif IntKind.i64.wrap (↑(Sp.num (0 : Nat) (List.take (4 : Nat) (List.drop (2 : Nat) x0))) : Int) != IntKind.i64.wrap ((↑x0.length : Int) - (10 : Int)) then some (Res.mk [XV.mk false [X.c (X0.row (Ty.int IntKind.u8) [] true)], XV.mk false [X.c (X0.dat (Ty.int IntKind.i64) (3 : Int))]] []) else chk (decide ((6 : Int) ≤ IntKind.i64.wrap ((↑x0.length : Int) - (4 : Int))) && decide (IntKind.i64.wrap ((↑x0.length : Int) - (4 : Int)) ≤ (↑x0.length : Int))) (chk (decide (((0 : Nat) + (List.take ((IntKind.i64.wrap ((↑x0.length : Int) - (4 : Int))).toNat - (6 : Nat)) (List.drop (6 : Nat) x0)).length) * (1 : Nat) ≤ (140737488355328 : Nat))) (chk (Sp.f72_pre ([] ++ List.take ((IntKind.i64.wrap ((↑x0.length : Int) - (4 : Int))).toNat - (6 : Nat)) (List.drop (6 : Nat) x0))) (bif !(bytesStr (Sp.f72 ([] ++ List.take ((IntKind.i64.wrap ((↑x0.length : Int) - (4 : Int))).toNat - (6 : Nat)) (List.drop (6 : Nat) x0))).1).toList == (bytesStr x0).toList then some (Res.mk [XV.mk false [X.c (X0.row (Ty.int IntKind.u8) [] true)], XV.mk false [X.c (X0.dat (Ty.int IntKind.i64) (8 : Int))]] []) else some (Res.mk [XV.mk false [X.c (X0.row (Ty.int IntKind.u8) ([] ++ List.take ((IntKind.i64.wrap ((↑x0.length : Int) - (4 : Int))).toNat - (6 : Nat)) (List.drop (6 : Nat) x0)) true)], XV.mk false [X.c (X0.dat (Ty.int IntKind.i64) (0 : Int))]] []))))))) := by kernel_rfl
theorem f33_form (x0 : List Int) : (bif decide ((↑x0.length : Int) > (65536 : Int)) then some (Res.mk [XV.mk false [X.c (X0.row (Ty.int IntKind.u8) [] true)], XV.mk false [X.c (X0.dat (Ty.int IntKind.i64) (2 : Int))]] []) else bif decide ((↑x0.length : Int) < (10 : Int)) then some (Res.mk [XV.mk false [X.c (X0.row (Ty.int IntKind.u8) [] true)], XV.mk false [X.c (X0.dat (Ty.int IntKind.i64) (3 : Int))]] []) else chk (decide ((2 : Int) ≤ (↑x0.length : Int))) (bif !(bytesStr (List.take (2 : Nat) (List.drop (0 : Nat) x0))).toList == (ByteArray.mk #[(66 : UInt8), (75 : UInt8)]).toList then some (Res.mk [XV.mk false [X.c (X0.row (Ty.int IntKind.u8) [] true)], XV.mk false [X.c (X0.dat (Ty.int IntKind.i64) (3 : Int))]] []) else chk (decide ((6 : Int) ≤ (↑x0.length : Int))) (chk (Sp.eight (List.take (4 : Nat) (List.drop (2 : Nat) x0))) (bif IntKind.i64.wrap (↑(Sp.num (0 : Nat) (List.take (4 : Nat) (List.drop (2 : Nat) x0))) : Int) != IntKind.i64.wrap ((↑x0.length : Int) - (10 : Int)) then some (Res.mk [XV.mk false [X.c (X0.row (Ty.int IntKind.u8) [] true)], XV.mk false [X.c (X0.dat (Ty.int IntKind.i64) (3 : Int))]] []) else chk (decide ((6 : Int) ≤ IntKind.i64.wrap ((↑x0.length : Int) - (4 : Int))) && decide (IntKind.i64.wrap ((↑x0.length : Int) - (4 : Int)) ≤ (↑x0.length : Int))) (chk (decide (((0 : Nat) + (List.take ((IntKind.i64.wrap ((↑x0.length : Int) - (4 : Int))).toNat - (6 : Nat)) (List.drop (6 : Nat) x0)).length) * (1 : Nat) ≤ (140737488355328 : Nat))) (chk (Sp.f72_pre ([] ++ List.take ((IntKind.i64.wrap ((↑x0.length : Int) - (4 : Int))).toNat - (6 : Nat)) (List.drop (6 : Nat) x0))) (bif !(bytesStr (Sp.f72 ([] ++ List.take ((IntKind.i64.wrap ((↑x0.length : Int) - (4 : Int))).toNat - (6 : Nat)) (List.drop (6 : Nat) x0))).1).toList == (bytesStr x0).toList then some (Res.mk [XV.mk false [X.c (X0.row (Ty.int IntKind.u8) [] true)], XV.mk false [X.c (X0.dat (Ty.int IntKind.i64) (8 : Int))]] []) else some (Res.mk [XV.mk false [X.c (X0.row (Ty.int IntKind.u8) ([] ++ List.take ((IntKind.i64.wrap ((↑x0.length : Int) - (4 : Int))).toNat - (6 : Nat)) (List.drop (6 : Nat) x0)) true)], XV.mk false [X.c (X0.dat (Ty.int IntKind.i64) (0 : Int))]] [])))))))) = chk (Sp.f33_pre x0) (some (f33_g (Sp.f33 x0))) := by
  unfold Sp.f33_pre Sp.f33
  exact (cond_step f33_g ((lift_plain (rfl))) ((cond_step f33_g ((lift_plain (rfl))) ((chk_step ((cond_step f33_g ((lift_plain (rfl))) ((chk_step ((chk_step ((cond_step f33_g ((lift_plain (rfl))) ((chk_step ((chk_step ((chk_last ((cond_plain f33_g (rfl) (rfl))))))))))))))))))))))
theorem e33_ok : Valid Try.prog Γ e33 := valid_auto ok (vcons e77_ok (vcons e72_ok vnil)) fun a => (f33_raw a).trans (f33_form a)

def Sp.f7_pre (x0 : List Int) : Bool := (bif decide ((↑x0.length : Int) > (1048576 : Int)) then true else (Sp.fits x0 && (Sp.f32_pre x0 && (Sp.fits x0 && (Sp.f33_pre x0 && (bif !Sp.eqL (Sp.f33 x0).1.1 (Sp.f32 x0).1.1 then true else (bif (Sp.f33 x0).1.2 != (Sp.f32 x0).1.2 then true else (Sp.fits x0 && (bif !Sp.eqL x0 x0 then true else (Sp.small x0 (1 : Int) && (bif decide (Sp.addLen x0 (1 : Int) < (0 : Int)) then true else (bif !Sp.eqL (Sp.f33 x0).1.1 (Sp.f32 x0).1.1 then true else (bif (Sp.f33 x0).1.2 != (Sp.f32 x0).1.2 then true else (Sp.small (Sp.f33 x0).1.1 (1 : Int) && (Sp.small (Sp.mark8 (Sp.f33 x0).1.1 (1 : Int)) (1 : Int) && (bif decide (Sp.held8 (Sp.mark8 (Sp.f33 x0).1.1 (1 : Int)) (1 : Int) < (0 : Int)) then true else (bif Sp.held8 (Sp.mark8 (Sp.f33 x0).1.1 (1 : Int)) (1 : Int) != Sp.addLen (Sp.f33 x0).1.1 (1 : Int) then true else (Sp.fits x0 && (Sp.f33_pre x0 && (bif !Sp.eqL (Sp.f33 x0).1.1 (Sp.f32 x0).1.1 then true else (bif (Sp.f33 x0).1.2 != (Sp.f32 x0).1.2 then true else Sp.small (Sp.mark8 (Sp.f33 x0).1.1 (1 : Int)) (1 : Int))))))))))))))))))))))
def Sp.f7 (x0 : List Int) := (bif decide ((↑x0.length : Int) > (1048576 : Int)) then (true, ()) else (bif !Sp.eqL (Sp.f33 x0).1.1 (Sp.f32 x0).1.1 then (false, ()) else (bif (Sp.f33 x0).1.2 != (Sp.f32 x0).1.2 then (false, ()) else (bif !Sp.eqL x0 x0 then (false, ()) else (bif decide (Sp.addLen x0 (1 : Int) < (0 : Int)) then (false, ()) else (bif !Sp.eqL (Sp.f33 x0).1.1 (Sp.f32 x0).1.1 then (false, ()) else (bif (Sp.f33 x0).1.2 != (Sp.f32 x0).1.2 then (false, ()) else (bif decide (Sp.held8 (Sp.mark8 (Sp.f33 x0).1.1 (1 : Int)) (1 : Int) < (0 : Int)) then (false, ()) else (bif Sp.held8 (Sp.mark8 (Sp.f33 x0).1.1 (1 : Int)) (1 : Int) != Sp.addLen (Sp.f33 x0).1.1 (1 : Int) then (false, ()) else (bif !Sp.eqL (Sp.f33 x0).1.1 (Sp.f32 x0).1.1 then (false, ()) else (bif (Sp.f33 x0).1.2 != (Sp.f32 x0).1.2 then (false, ()) else (bif decide (Sp.held8 (Sp.mark8 (Sp.f33 x0).1.1 (1 : Int)) (1 : Int) < (0 : Int)) then (false, ()) else (bif Sp.held8 (Sp.mark8 (Sp.f33 x0).1.1 (1 : Int)) (1 : Int) != Sp.addLen (Sp.f33 x0).1.1 (1 : Int) then (false, ()) else (true, ()))))))))))))))
noncomputable def e7 : Ent := { f := 7, ins := [Sh.one (C0.dat (Ty.int IntKind.u8).slice)], outs := [Sh.one (C0.dat Ty.bool)], upd := [], pre := fun a => Sp.f7_pre a, spec := fun a => (Sp.f7 a).1, wrt := fun a => (Sp.f7 a).2 }
def f7_g (v : denS [Sh.one (C0.dat Ty.bool)] × denS []) : Res := ⟨mkS [Sh.one (C0.dat Ty.bool)] v.1, mkU [] v.2⟩
theorem f7_raw (x0 : List Int) : abody Γ (orc [e22, e32, e33, e24, e25, e26]) 0 7 [XV.mk false [X.c (X0.dat (Ty.int IntKind.u8).slice x0)]] = bif decide ((↑x0.length : Int) > (1048576 : Int)) then some (Res.mk [XV.mk false [X.c (X0.dat Ty.bool true)]] []) else chk (Sp.fits x0) (chk (Sp.f32_pre x0) (chk (Sp.fits x0) (chk (Sp.f33_pre x0) (bif !Sp.eqL (Sp.f33 x0).1.1 (Sp.f32 x0).1.1 then some (Res.mk [XV.mk false [X.c (X0.dat Ty.bool false)]] []) else bif (Sp.f33 x0).1.2 != (Sp.f32 x0).1.2 then some (Res.mk [XV.mk false [X.c (X0.dat Ty.bool false)]] []) else chk (Sp.fits x0) (bif !Sp.eqL x0 x0 then some (Res.mk [XV.mk false [X.c (X0.dat Ty.bool false)]] []) else chk (Sp.small x0 (1 : Int)) (bif decide (Sp.addLen x0 (1 : Int) < (0 : Int)) then some (Res.mk [XV.mk false [X.c (X0.dat Ty.bool false)]] []) else bif !Sp.eqL (Sp.f33 x0).1.1 (Sp.f32 x0).1.1 then some (Res.mk [XV.mk false [X.c (X0.dat Ty.bool false)]] []) else bif (Sp.f33 x0).1.2 != (Sp.f32 x0).1.2 then some (Res.mk [XV.mk false [X.c (X0.dat Ty.bool false)]] []) else chk (Sp.small (Sp.f33 x0).1.1 (1 : Int)) (chk (Sp.small (Sp.mark8 (Sp.f33 x0).1.1 (1 : Int)) (1 : Int)) (bif decide (Sp.held8 (Sp.mark8 (Sp.f33 x0).1.1 (1 : Int)) (1 : Int) < (0 : Int)) then some (Res.mk [XV.mk false [X.c (X0.dat Ty.bool false)]] []) else bif Sp.held8 (Sp.mark8 (Sp.f33 x0).1.1 (1 : Int)) (1 : Int) != Sp.addLen (Sp.f33 x0).1.1 (1 : Int) then some (Res.mk [XV.mk false [X.c (X0.dat Ty.bool false)]] []) else chk (Sp.fits x0) (chk (Sp.f33_pre x0) (bif !Sp.eqL (Sp.f33 x0).1.1 (Sp.f32 x0).1.1 then some (Res.mk [XV.mk false [X.c (X0.dat Ty.bool false)]] []) else bif (Sp.f33 x0).1.2 != (Sp.f32 x0).1.2 then some (Res.mk [XV.mk false [X.c (X0.dat Ty.bool false)]] []) else chk (Sp.small (Sp.mark8 (Sp.f33 x0).1.1 (1 : Int)) (1 : Int)) (bif decide (Sp.held8 (Sp.mark8 (Sp.f33 x0).1.1 (1 : Int)) (1 : Int) < (0 : Int)) then some (Res.mk [XV.mk false [X.c (X0.dat Ty.bool false)]] []) else bif Sp.held8 (Sp.mark8 (Sp.f33 x0).1.1 (1 : Int)) (1 : Int) != Sp.addLen (Sp.f33 x0).1.1 (1 : Int) then some (Res.mk [XV.mk false [X.c (X0.dat Ty.bool false)]] []) else some (Res.mk [XV.mk false [X.c (X0.dat Ty.bool true)]] [])))))))))))) := by kernel_rfl
theorem f7_form (x0 : List Int) : (bif decide ((↑x0.length : Int) > (1048576 : Int)) then some (Res.mk [XV.mk false [X.c (X0.dat Ty.bool true)]] []) else chk (Sp.fits x0) (chk (Sp.f32_pre x0) (chk (Sp.fits x0) (chk (Sp.f33_pre x0) (bif !Sp.eqL (Sp.f33 x0).1.1 (Sp.f32 x0).1.1 then some (Res.mk [XV.mk false [X.c (X0.dat Ty.bool false)]] []) else bif (Sp.f33 x0).1.2 != (Sp.f32 x0).1.2 then some (Res.mk [XV.mk false [X.c (X0.dat Ty.bool false)]] []) else chk (Sp.fits x0) (bif !Sp.eqL x0 x0 then some (Res.mk [XV.mk false [X.c (X0.dat Ty.bool false)]] []) else chk (Sp.small x0 (1 : Int)) (bif decide (Sp.addLen x0 (1 : Int) < (0 : Int)) then some (Res.mk [XV.mk false [X.c (X0.dat Ty.bool false)]] []) else bif !Sp.eqL (Sp.f33 x0).1.1 (Sp.f32 x0).1.1 then some (Res.mk [XV.mk false [X.c (X0.dat Ty.bool false)]] []) else bif (Sp.f33 x0).1.2 != (Sp.f32 x0).1.2 then some (Res.mk [XV.mk false [X.c (X0.dat Ty.bool false)]] []) else chk (Sp.small (Sp.f33 x0).1.1 (1 : Int)) (chk (Sp.small (Sp.mark8 (Sp.f33 x0).1.1 (1 : Int)) (1 : Int)) (bif decide (Sp.held8 (Sp.mark8 (Sp.f33 x0).1.1 (1 : Int)) (1 : Int) < (0 : Int)) then some (Res.mk [XV.mk false [X.c (X0.dat Ty.bool false)]] []) else bif Sp.held8 (Sp.mark8 (Sp.f33 x0).1.1 (1 : Int)) (1 : Int) != Sp.addLen (Sp.f33 x0).1.1 (1 : Int) then some (Res.mk [XV.mk false [X.c (X0.dat Ty.bool false)]] []) else chk (Sp.fits x0) (chk (Sp.f33_pre x0) (bif !Sp.eqL (Sp.f33 x0).1.1 (Sp.f32 x0).1.1 then some (Res.mk [XV.mk false [X.c (X0.dat Ty.bool false)]] []) else bif (Sp.f33 x0).1.2 != (Sp.f32 x0).1.2 then some (Res.mk [XV.mk false [X.c (X0.dat Ty.bool false)]] []) else chk (Sp.small (Sp.mark8 (Sp.f33 x0).1.1 (1 : Int)) (1 : Int)) (bif decide (Sp.held8 (Sp.mark8 (Sp.f33 x0).1.1 (1 : Int)) (1 : Int) < (0 : Int)) then some (Res.mk [XV.mk false [X.c (X0.dat Ty.bool false)]] []) else bif Sp.held8 (Sp.mark8 (Sp.f33 x0).1.1 (1 : Int)) (1 : Int) != Sp.addLen (Sp.f33 x0).1.1 (1 : Int) then some (Res.mk [XV.mk false [X.c (X0.dat Ty.bool false)]] []) else some (Res.mk [XV.mk false [X.c (X0.dat Ty.bool true)]] []))))))))))))) = chk (Sp.f7_pre x0) (some (f7_g (Sp.f7 x0))) := by
  unfold Sp.f7_pre Sp.f7
  exact (cond_step f7_g ((lift_plain (rfl))) ((chk_step ((chk_step ((chk_step ((chk_step ((cond_step f7_g ((lift_plain (rfl))) ((cond_step f7_g ((lift_plain (rfl))) ((chk_step ((cond_step f7_g ((lift_plain (rfl))) ((chk_step ((cond_step f7_g ((lift_plain (rfl))) ((cond_step f7_g ((lift_plain (rfl))) ((cond_step f7_g ((lift_plain (rfl))) ((chk_step ((chk_step ((cond_step f7_g ((lift_plain (rfl))) ((cond_step f7_g ((lift_plain (rfl))) ((chk_step ((chk_step ((cond_step f7_g ((lift_plain (rfl))) ((cond_step f7_g ((lift_plain (rfl))) ((chk_last ((cond_plain f7_g (rfl) ((cond_plain f7_g (rfl) (rfl))))))))))))))))))))))))))))))))))))))))))))))))
theorem e7_ok : Valid Try.prog Γ e7 := valid_auto ok (vcons e22_ok (vcons e32_ok (vcons e33_ok (vcons e24_ok (vcons e25_ok (vcons e26_ok vnil)))))) fun a => (f7_raw a).trans (f7_form a)

end Go.Proofs.GR.T
namespace Go.Proofs.GR.T
open Go Go.Proofs Go.Proofs.GR
theorem toList_loop (s : ByteArray) : ∀ (d i : Nat) (r : List UInt8), i + d = s.size → ByteArray.toList.loop s i r = r.reverse ++ s.data.toList.drop i := by
  intro d
  have hs : s.size = s.data.toList.length := by rw [Array.length_toList]; rfl
  induction d with
  | zero =>
    intro i r h
    unfold ByteArray.toList.loop
    rw [if_neg (by omega), List.drop_of_length_le (by omega), List.append_nil]
  | succ d ih =>
    intro i r h
    unfold ByteArray.toList.loop
    rw [if_pos (by omega), ih (i + 1) _ (by omega)]
    have hlt : i < s.data.toList.length := by omega
    have hlt2 : i < s.data.size := by rw [Array.length_toList] at hlt; exact hlt
    have hg : s.get! i = s.data.toList[i] := by
      show s.data[i]! = _
      rw [getElem!_pos s.data i hlt2, Array.getElem_toList]
    rw [List.drop_eq_getElem_cons hlt, hg]
    simp
theorem toList_eq (s : ByteArray) : s.toList = s.data.toList := by
  unfold ByteArray.toList
  rw [toList_loop s s.size 0 [] (Nat.zero_add _)]
  rfl
theorem beq_strBytes (s t : ByteArray) : (s.toList == t.toList) = Sp.eqL (strBytes s) (strBytes t) := by
  rw [toList_eq, toList_eq]
  by_cases h : s.data.toList = t.data.toList
  · rw [h, beq_self_eq_true]
    have e : strBytes s = strBytes t := by unfold strBytes; rw [h]
    rw [e, eqL_self]
  · rw [beq_false_of_ne h]
    refine (decide_eq_false fun e => h ?_).symm
    have e2 : bytesStr (strBytes s) = bytesStr (strBytes t) := by rw [e]
    rw [bytesStr_strBytes, bytesStr_strBytes] at e2
    rw [e2]
theorem beq_bytes {a b : List Int} (ha : Sp.isBytes a = true) (hb : Sp.isBytes b = true) : ((bytesStr a).toList == (bytesStr b).toList) = Sp.eqL a b := by
  rw [beq_strBytes, strBytes_bytesStr ha, strBytes_bytesStr hb]
theorem isBytes_take {xs : List Int} (h : Sp.isBytes xs = true) (n : Nat) : Sp.isBytes (xs.take n) = true := isBytes_of fun _ hx => isBytes_mem h (List.mem_of_mem_take hx)
theorem isBytes_drop {xs : List Int} (h : Sp.isBytes xs = true) (n : Nat) : Sp.isBytes (xs.drop n) = true := isBytes_of fun _ hx => isBytes_mem h (List.mem_of_mem_drop hx)
end Go.Proofs.GR.T
namespace Go.Proofs.GR.T
open Go Go.Proofs Go.Proofs.GR
theorem num_lt : ∀ (l : List Int) (r : Nat), Sp.isBytes l = true → Sp.num r l < (r + 1) * 256 ^ l.length
  | [], r, _ => by simp [Sp.num]
  | x :: l, r, h => by
    obtain ⟨⟨h1, h2⟩, h3⟩ := isBytes_cons.1 h
    have := num_lt l (r * 256 + x.toNat) h3
    rw [List.length_cons, Nat.pow_succ]
    show Sp.num (r * 256 + x.toNat) l < _
    have h4 : (r * 256 + x.toNat + 1) * 256 ^ l.length ≤ ((r + 1) * 256) * 256 ^ l.length := Nat.mul_le_mul_right _ (by omega)
    rw [Nat.mul_assoc, Nat.mul_comm 256] at h4
    omega
theorem four_num {l : List Int} (hl : l.length = 4) (hb : Sp.isBytes l = true) : l = (Sp.f116 (Sp.num 0 l : Int)).1 := by
  match l, hl with
  | [a, b, c, d], _ =>
    obtain ⟨⟨a1, a2⟩, hb⟩ := isBytes_cons.1 hb
    obtain ⟨⟨b1, b2⟩, hb⟩ := isBytes_cons.1 hb
    obtain ⟨⟨c1, c2⟩, hb⟩ := isBytes_cons.1 hb
    obtain ⟨⟨d1, d2⟩, hb⟩ := isBytes_cons.1 hb
    simp only [Sp.f116, Sp.num, wrap8]
    have e : ((((0 * 256 + a.toNat) * 256 + b.toNat) * 256 + c.toNat) * 256 + d.toNat : Nat) = (((a * 256 + b) * 256 + c) * 256 + d : Int) := by omega
    rw [e]
    rw [Int.fdiv_eq_ediv_of_nonneg _ (by omega), Int.fdiv_eq_ediv_of_nonneg _ (by omega), Int.fdiv_eq_ediv_of_nonneg _ (by omega)]
    simp only [List.cons.injEq, and_true]
    refine ⟨?_, ?_, ?_, ?_⟩ <;> omega
theorem low_bytes (n : Int) : Sp.isBytes (Sp.f117 n).1 = true := isBytes_of fun x hx => by
  simp only [Sp.f117, List.mem_cons, List.not_mem_nil, or_false] at hx
  rcases hx with rfl | rfl | rfl | rfl <;> exact wrap8_byte _
theorem head_beq {xs : List Int} (hb : Sp.isBytes xs = true) : ((bytesStr (List.take 2 (List.drop 0 xs))).toList == (ByteArray.mk #[(66 : UInt8), (75 : UInt8)]).toList) = Sp.eqL (xs.take 2) [66, 75] := by
  rw [List.drop_zero]
  exact beq_bytes (isBytes_take hb 2) head_bytes
/-- What is sealed, and with its sum again what there was. -/
theorem seal_eq {xs : List Int} (hb : Sp.isBytes xs = true) (h10 : 10 ≤ xs.length) (h65 : xs.length ≤ 65536) (h2 : xs.take 2 = [66, 75]) (h4 : (Sp.num 0 ((xs.drop 2).take 4) : Int) = (xs.length : Int) - 10) :
    (Sp.f72 ((xs.drop 6).take (xs.length - 10))).1 = xs.take (xs.length - 4) ++ (Sp.f117 (Sp.sum (xs.take (xs.length - 4)))).1 := by
  have hl : ((xs.drop 6).take (xs.length - 10)).length = xs.length - 10 := by rw [List.length_take, List.length_drop]; omega
  have hi : Sp.isBytes ((xs.drop 6).take (xs.length - 10)) = true := isBytes_take (isBytes_drop hb _) _
  have e4 : (xs.drop 2).take 4 = (Sp.f116 ((xs.length : Int) - 10)).1 := by
    rw [← h4]
    exact four_num (by rw [List.length_take, List.length_drop]; omega) (isBytes_take (isBytes_drop hb _) _)
  have hpre : [(66 : Int), 75] ++ (Sp.f116 (((xs.length - 10 : Nat)) : Int)).1 ++ (xs.drop 6).take (xs.length - 10) = xs.take (xs.length - 4) := by
    rw [show ((xs.length - 10 : Nat) : Int) = (xs.length : Int) - 10 by omega, ← e4, ← h2]
    have e1 : xs.drop 6 = (xs.drop 2).drop 4 := by rw [List.drop_drop]
    have e2 : xs.take (xs.length - 4) = xs.take (2 + (4 + (xs.length - 10))) := by congr 1; omega
    rw [e2, List.take_add, List.take_add, e1, List.append_assoc]
  rw [f72_eq hi (by rw [hl]; omega)]
  unfold Sp.f71
  rw [hl, hpre]
theorem inner_nat {n : Nat} (h1 : 10 ≤ n) (h2 : n ≤ 65536) : (IntKind.i64.wrap ((n : Int) - 4)).toNat - 6 = n - 10 := by
  rw [wrap64 (by omega) (by omega)]; omega
theorem f33_eq {xs : List Int} (hb : Sp.isBytes xs = true) : Sp.f33 xs = Sp.f32 xs := by
  unfold Sp.f33 Sp.f32
  by_cases c0 : (xs.length : Int) > 65536
  · rw [decide_eq_true c0]; rfl
  rw [decide_eq_false c0]
  unfold Sp.f76
  by_cases c1 : (xs.length : Int) < 10
  · rw [decide_eq_true c1]; rfl
  rw [decide_eq_false c1, head_beq hb, strBytes_bytesStr (isBytes_take (isBytes_drop hb _) _), inner_nat (by omega) (by omega), wrap64 (n := (xs.length : Int) - 4) (by omega) (by omega), wrap64 (n := (xs.length : Int) - 10) (by omega) (by omega)]
  have hn : Sp.num 0 ((xs.drop 2).take 4) < 4294967296 := by
    have := num_lt ((xs.drop 2).take 4) 0 (isBytes_take (isBytes_drop hb _) _)
    have e : ((xs.drop 2).take 4).length = 4 := by rw [List.length_take, List.length_drop]; omega
    rw [e] at this
    omega
  rw [wrap64 (n := (Sp.num 0 ((xs.drop 2).take 4) : Int)) (by omega) (by omega)]
  by_cases c2 : Sp.eqL (xs.take 2) [66, 75] = true
  case neg => rw [Bool.eq_false_iff.2 c2]; rfl
  rw [c2]
  by_cases c3 : (Sp.num 0 ((xs.drop 2).take 4) : Int) = (xs.length : Int) - 10
  case neg => rw [show ((Sp.num 0 ((xs.drop 2).take 4) : Int) != (xs.length : Int) - 10) = true from bne_iff_ne.2 c3]; rfl
  have h2 := eqL_of c2
  have e3 : ((Sp.num 0 ((xs.drop 2).take 4) : Int) != (xs.length : Int) - 10) = false := by rw [c3]; simp
  rw [e3, List.nil_append, seal_eq hb (by omega) (by omega) h2 c3]
  rw [show ((xs.length : Int) - 4).toNat = xs.length - 4 by omega, show xs.length - 4 - 0 = xs.length - 4 from rfl, List.drop_zero]
  have hp : Sp.isBytes (xs.take (xs.length - 4) ++ (Sp.f117 (Sp.sum (xs.take (xs.length - 4)))).1) = true := isBytes_append (isBytes_take hb _) (low_bytes _)
  rw [beq_bytes hp hb, beq_bytes (low_bytes _) (isBytes_take (isBytes_drop hb _) _)]
  have ed : (xs.drop (xs.length - 4)).take (xs.length - (xs.length - 4)) = xs.drop (xs.length - 4) := List.take_of_length_le (by rw [List.length_drop]; omega)
  rw [ed]
  have ek : Sp.eqL (xs.take (xs.length - 4) ++ (Sp.f117 (Sp.sum (xs.take (xs.length - 4)))).1) xs = Sp.eqL (Sp.f117 (Sp.sum (xs.take (xs.length - 4)))).1 (xs.drop (xs.length - 4)) := by
    unfold Sp.eqL
    refine decide_eq_decide.2 ⟨fun h => ?_, fun h => ?_⟩
    · have h' := h.trans (List.take_append_drop (xs.length - 4) xs).symm
      exact List.append_cancel_left h'
    · rw [h]; exact List.take_append_drop _ _
  rw [ek]
theorem f76_pre {xs : List Int} (hb : Sp.isBytes xs = true) (hl : (xs.length : Int) ≤ 65536) : Sp.f76_pre xs = true := by
  unfold Sp.f76_pre
  by_cases c1 : (xs.length : Int) < 10
  · rw [decide_eq_true c1]; rfl
  rw [decide_eq_false c1, strBytes_bytesStr (isBytes_take (isBytes_drop hb _) _), wrap64 (n := (xs.length : Int) - 4) (by omega) (by omega)]
  have f4 : Sp.four ((xs.drop 2).take 4) = true := by
    unfold Sp.four
    rw [isBytes_take (isBytes_drop hb _) _, decide_eq_true (by rw [List.length_take]; omega)]; rfl
  rw [f4, isBytes_take (isBytes_drop hb _) _, decide_eq_true (show (2 : Int) ≤ xs.length by omega), decide_eq_true (show (6 : Int) ≤ xs.length by omega), decide_eq_true (show (0 : Int) ≤ (xs.length : Int) - 4 by omega), decide_eq_true (show (xs.length : Int) - 4 ≤ xs.length by omega), decide_eq_true (show (6 : Int) ≤ (xs.length : Int) - 4 by omega)]
  have hs : decide ((0 + (List.take (((xs.length : Int) - 4).toNat - 6) (List.drop 6 xs)).length) * 1 ≤ 140737488355328) = true := decide_eq_true (by rw [List.length_take, List.length_drop]; omega)
  rw [hs]
  simp only [Bool.and_self, Bool.true_and, Bool.cond_true_right, Bool.or_true, Bool.cond_false_left, cond_false]
theorem f33_pre {xs : List Int} (hb : Sp.isBytes xs = true) : Sp.f33_pre xs = true := by
  unfold Sp.f33_pre
  by_cases c0 : (xs.length : Int) > 65536
  · rw [decide_eq_true c0]; rfl
  rw [decide_eq_false c0]
  by_cases c1 : (xs.length : Int) < 10
  · rw [decide_eq_true c1]; rfl
  rw [decide_eq_false c1, inner_nat (by omega) (by omega), wrap64 (n := (xs.length : Int) - 4) (by omega) (by omega)]
  have f4 : Sp.eight ((xs.drop 2).take 4) = true := by
    unfold Sp.eight
    rw [isBytes_take (isBytes_drop hb _) _, decide_eq_true (by rw [List.length_take]; omega)]; rfl
  have hi := f72_pre (isBytes_take (isBytes_drop hb 6) (xs.length - 10)) (by rw [List.length_take, List.length_drop]; omega)
  have hs : decide ((0 + (List.take (xs.length - 10) (List.drop 6 xs)).length) * 1 ≤ 140737488355328) = true := decide_eq_true (by rw [List.length_take, List.length_drop]; omega)
  rw [f4, List.nil_append, hi, hs, decide_eq_true (show (2 : Int) ≤ xs.length by omega), decide_eq_true (show (6 : Int) ≤ xs.length by omega), decide_eq_true (show (xs.length : Int) - 4 ≤ xs.length by omega), decide_eq_true (show (6 : Int) ≤ (xs.length : Int) - 4 by omega)]
  simp only [Bool.and_self, Bool.true_and, Bool.cond_true_right, Bool.or_true, Bool.cond_false_left, cond_false]
theorem cond_len {b : Bool} {p q : (List Int × Int) × Unit} {n : Nat} (h1 : p.1.1.length ≤ n) (h2 : q.1.1.length ≤ n) : (bif b then p else q).1.1.length ≤ n := by
  cases b
  · exact h2
  · exact h1
theorem f76_len (xs : List Int) : (Sp.f76 xs).1.1.length ≤ xs.length := by
  unfold Sp.f76
  refine cond_len (Nat.zero_le _) (cond_len (Nat.zero_le _) (cond_len (Nat.zero_le _) (cond_len (Nat.zero_le _) ?_)))
  rw [List.nil_append]
  show (List.take _ (List.drop 6 xs)).length ≤ _
  rw [List.length_take, List.length_drop]
  omega
theorem f32_len (xs : List Int) : (Sp.f32 xs).1.1.length ≤ xs.length := by
  unfold Sp.f32
  cases decide ((xs.length : Int) > 65536) with
  | true => simp
  | false => exact f76_len xs
theorem law7_pre (xs : List Int) (hb : Sp.isBytes xs = true) : Sp.f7_pre xs = true := by
  unfold Sp.f7_pre
  by_cases h : (xs.length : Int) > 1048576
  · rw [decide_eq_true h]; rfl
  · have p32 : Sp.f32_pre xs = true := by
      unfold Sp.f32_pre
      by_cases h2 : (xs.length : Int) > 65536
      · rw [decide_eq_true h2]; rfl
      · rw [f76_pre hb (by omega)]; simp
    have p33 : Sp.f33_pre xs = true := f33_pre hb
    have hf : Sp.fits xs = true := decide_eq_true (by omega)
    have hs : Sp.small xs 1 = true := small_mk (by omega) (by omega)
    have hlen := f32_len xs
    have hs2 : Sp.small (Sp.f32 xs).1.1 1 = true := small_mk (by omega) (by omega)
    have hs3 : Sp.small (Sp.mark8 (Sp.f32 xs).1.1 1) 1 = true := small_mk (by omega) (by rw [mark8_len]; omega)
    rw [f33_eq hb, decide_eq_false h, p32, p33, hf, hs, hs2, hs3]
    simp
theorem law7 (xs : List Int) (hb : Sp.isBytes xs = true) : (Sp.f7 xs).1 = true := by
  unfold Sp.f7
  rw [f33_eq hb, held_mark]
  have h1 : decide (Sp.addLen xs (1 : Int) < 0) = false := decide_eq_false (by unfold Sp.addLen; omega)
  have h2 : decide ((1 : Int) + ((Sp.f32 xs).1.1.length : Int) < 0) = false := decide_eq_false (by omega)
  have h3 : ((1 : Int) + ((Sp.f32 xs).1.1.length : Int) != Sp.addLen (Sp.f32 xs).1.1 1) = false := by simp [Sp.addLen]
  rw [h1, h2, h3, eqL_self, eqL_self]
  cases decide ((xs.length : Int) > 1048576) <;> simp
end Go.Proofs.GR.T
set_option maxRecDepth 100000
namespace Go.Proofs.GR.T
open Go Go.Proofs Go.Proofs.GR
def Sp.mdig : Nat → Int → ByteArray → ByteArray
  | 0, _, acc => acc
  | d + 1, r, acc => bif decide (r > 0) then Sp.mdig d (IntKind.i64.wrap (r.tdiv 10)) (bytesStr [IntKind.u8.wrap (IntKind.i64.wrap (48 + r.tmod 10))] ++ acc) else acc
def Sp.mText (k : Int) : ByteArray := bif decide (k ≤ 0) then ByteArray.mk #[109, 48] else ByteArray.mk #[109] ++ Sp.mdig 19 k (ByteArray.mk #[])
def Sp.mOK (k : Int) : Bool := decide (k.toNat ≤ 4611686018427387904)
noncomputable def f75_L0 (n m0 : Nat) (y0 : Int) (y1 : ByteArray) : Option Res := loopAt Γ (orc []) n (75 : Nat) (0 : Nat) [] [Pth.r, Pth.r, Pth.r, Pth.l, Pth.b] m0 (St.mk [Slot.val (Val.one (Cell.dat (Ty.int IntKind.i64) y0)), Slot.nix, Slot.nix, Slot.val (Val.one (Cell.dat Ty.str y1)), Slot.nix, Slot.nix, Slot.nix, Slot.nix, Slot.nix, Slot.nix, Slot.nix, Slot.nix, Slot.nix, Slot.nix, Slot.nix, Slot.nix, Slot.nix, Slot.nix, Slot.nix, Slot.nix] [])
theorem f75_L0_step (n m0 : Nat) (y0 : Int) (y1 : ByteArray) : f75_L0 n (m0 + 1) y0 y1 = bif decide (y0 > (0 : Int)) then chk (decide ((bytesStr [IntKind.u8.wrap (IntKind.i64.wrap ((48 : Int) + y0.tmod (10 : Int)))]).size + y1.size ≤ (9223372036854775807 : Nat))) (f75_L0 n m0 (IntKind.i64.wrap (y0.tdiv (10 : Int))) (bytesStr [IntKind.u8.wrap (IntKind.i64.wrap ((48 : Int) + y0.tmod (10 : Int)))] ++ y1)) else chk (decide ((1 : Nat) + y1.size ≤ (9223372036854775807 : Nat))) (some (Res.mk [XV.mk false [X.c (X0.dat Ty.str (ByteArray.mk #[(109 : UInt8)] ++ y1))]] [])) := by kernel_rfl
theorem f75_raw (n : Nat) (x0 : Int) : abody Γ (orc []) n 75 [XV.mk false [X.c (X0.dat (Ty.int IntKind.i64) x0)]] = bif decide (x0 ≤ (0 : Int)) then some (Res.mk [XV.mk false [X.c (X0.dat Ty.str (ByteArray.mk #[(109 : UInt8), (48 : UInt8)]))]] []) else f75_L0 n n x0 (ByteArray.mk #[]) := by kernel_rfl

noncomputable def e75 : Ent := { f := 75, ins := [Sh.one cI], outs := [Sh.one cS], upd := [], pre := fun a => Sp.mOK a, spec := fun a => Sp.mText a, wrt := fun _ => () }
abbrev rS (s : ByteArray) : Res := Res.mk [XV.mk false [X.c (X0.dat Ty.str s)]] []
theorem f75_loop (n : Nat) : ∀ (d m : Nat) (r : Int) (acc : ByteArray), r.toNat < 10 ^ d → r.toNat ≤ 4611686018427387904 → acc.size + d ≤ 19 → d < m →
    f75_L0 n m r acc = some (rS (ByteArray.mk #[109] ++ Sp.mdig d r acc)) := by
  intro d
  induction d with
  | zero =>
    intro m r acc hr hr2 ha hm
    obtain ⟨m, rfl⟩ := succ_of hm
    rw [f75_L0_step, decide_eq_false (by omega), decide_eq_true (show 1 + acc.size ≤ 9223372036854775807 by omega), cond_false, chkT, Sp.mdig]
  | succ d ih =>
    intro m r acc hr hr2 ha hm
    obtain ⟨m, rfl⟩ := succ_of hm
    rw [f75_L0_step]
    by_cases h0 : r > 0
    · have hsz : (bytesStr [IntKind.u8.wrap (IntKind.i64.wrap (48 + r.tmod 10))]).size = 1 := by rw [bytesStr_size]; rfl
      rw [decide_eq_true h0, hsz, decide_eq_true (show 1 + acc.size ≤ 9223372036854775807 by omega), cond_true, chkT, Sp.mdig, decide_eq_true h0, cond_true]
      have e : r.tdiv 10 = ((r.toNat / 10 : Nat) : Int) := by
        rw [Int.tdiv_eq_ediv_of_nonneg (by omega)]; omega
      have e2 : IntKind.i64.wrap (r.tdiv 10) = ((r.toNat / 10 : Nat) : Int) := by rw [e]; exact wrap64 (by omega) (by omega)
      rw [e2]
      refine ih m _ _ ?_ ?_ ?_ (by omega)
      · rw [Int.toNat_natCast]; rw [Nat.pow_succ] at hr; omega
      · rw [Int.toNat_natCast]; omega
      · rw [ByteArray.size_append, hsz]; omega
    · rw [decide_eq_false h0, decide_eq_true (show 1 + acc.size ≤ 9223372036854775807 by omega), Sp.mdig, decide_eq_false h0, cond_false, cond_false, chkT]
theorem e75_core (k : Int) (h : Sp.mOK k = true) : ∃ n, abody Γ (orc []) n 75 [XV.mk false [X.c (X0.dat (Ty.int IntKind.i64) k)]] = some (rS (Sp.mText k)) := by
  have h1 : k.toNat ≤ 4611686018427387904 := of_decide_eq_true h
  refine ⟨20, (f75_raw 20 k).trans ?_⟩
  unfold Sp.mText
  by_cases h0 : k ≤ 0
  · rw [decide_eq_true h0]; rfl
  · rw [decide_eq_false h0, cond_false, cond_false]
    exact f75_loop 20 19 20 k _ (by omega) h1 (by decide) (by omega)
theorem e75_ok : Valid Try.prog Γ e75 := valid_of ok vnil fun a ha => e75_core a ha
noncomputable def f29_L0 (n m0 : Nat) (y0 : List ByteArray) (y1 : List ByteArray) (y2 : Int) : Option Res := loopAt Γ (orc []) n (29 : Nat) (0 : Nat) [] [Pth.r, Pth.r, Pth.l, Pth.r, Pth.b] m0 (St.mk [Slot.val (Val.one (Cell.dat Ty.str.slice y0)), Slot.val (Val.one (Cell.dat Ty.str.slice y1)), Slot.nix, Slot.nix, Slot.nix, Slot.val (Val.one (Cell.dat (Ty.int IntKind.i64) y2)), Slot.nix, Slot.nix, Slot.nix, Slot.nix, Slot.nix, Slot.nix, Slot.nix, Slot.nix, Slot.nix, Slot.nix, Slot.nix, Slot.nix, Slot.nix, Slot.nix, Slot.nix, Slot.nix, Slot.nix, Slot.nix, Slot.nix, Slot.nix] [])
theorem f29_L0_step (n m0 : Nat) (y0 : List ByteArray) (y1 : List ByteArray) (y2 : Int) : f29_L0 n (m0 + 1) y0 y1 y2 = bif decide (y2 < (↑y0.length : Int)) then chk (decide ((0 : Int) ≤ y2) && decide (y2 < (↑y0.length : Int))) (chk (decide ((0 : Int) ≤ y2) && decide (y2 < (↑y1.length : Int))) (bif !(y0.getD y2.toNat (ByteArray.mk #[])).toList == (y1.getD y2.toNat (ByteArray.mk #[])).toList then some (Res.mk [XV.mk false [X.c (X0.dat Ty.bool false)]] []) else f29_L0 n m0 y0 y1 (IntKind.i64.wrap (y2 + (1 : Int))))) else some (Res.mk [XV.mk false [X.c (X0.dat Ty.bool true)]] []) := by kernel_rfl
theorem f29_raw (n : Nat) (x0 : List ByteArray) (x1 : List ByteArray) : abody Γ (orc []) n 29 [XV.mk false [X.c (X0.dat Ty.str.slice x0)], XV.mk false [X.c (X0.dat Ty.str.slice x1)]] = bif (↑x0.length : Int) != (↑x1.length : Int) then some (Res.mk [XV.mk false [X.c (X0.dat Ty.bool false)]] []) else f29_L0 n n x0 x1 (0 : Int) := by kernel_rfl

def Sp.eqS : List ByteArray → List ByteArray → Bool
  | [], [] => true
  | x :: r, y :: s => bif !(x.toList == y.toList) then false else Sp.eqS r s
  | _, _ => false
theorem eqS_len : ∀ {xs ys : List ByteArray}, xs.length ≠ ys.length → Sp.eqS xs ys = false
  | [], [], h => absurd rfl h
  | [], _ :: _, _ => rfl
  | _ :: _, [], _ => rfl
  | x :: r, y :: s, h => by
    unfold Sp.eqS
    rw [eqS_len (xs := r) (ys := s) (fun e => h (by simp [e]))]
    cases !(x.toList == y.toList) <;> rfl
noncomputable def e29 : Ent := { f := 29, ins := [Sh.one (cL Ty.str), Sh.one (cL Ty.str)], outs := [Sh.one cB], upd := [], pre := fun a => true, spec := fun a => Sp.eqS a.1 a.2, wrt := fun _ => () }
theorem f29_loop (n : Nat) (xs ys : List ByteArray) (hl : xs.length ≤ maxLen) (hy : xs.length = ys.length) : ∀ (d k m : Nat), k + d = xs.length → d < m →
    f29_L0 n m xs ys (↑k : Int) = some (rBo (Sp.eqS (xs.drop k) (ys.drop k))) := by
  have hm : (xs.length : Nat) ≤ 9223372036854775807 := hl
  intro d
  induction d with
  | zero =>
    intro k m hk hm
    obtain ⟨m, rfl⟩ := succ_of hm
    rw [f29_L0_step, decide_eq_false (by omega), List.drop_of_length_le (by omega), List.drop_of_length_le (by omega)]
    rfl
  | succ d ih =>
    intro k m hk hm
    obtain ⟨m, rfl⟩ := succ_of hm
    have hlt : k < xs.length := by omega
    have hlt2 : k < ys.length := by omega
    rw [f29_L0_step, decide_eq_true (show (k : Int) < xs.length by omega), decide_eq_true (show (0 : Int) ≤ k by omega), decide_eq_true (show (k : Int) < ys.length by omega), wrap64 (by omega) (by omega), List.drop_eq_getElem_cons hlt, List.drop_eq_getElem_cons hlt2]
    simp only [cond_true, Bool.and_self, chkT, Int.toNat_natCast, List.getD, List.getElem?_eq_getElem hlt, List.getElem?_eq_getElem hlt2, Option.getD_some]
    unfold Sp.eqS
    cases !(xs[k].toList == ys[k].toList) with
    | true => rfl
    | false =>
      rw [cond_false, cond_false]
      exact ih (k + 1) m (by omega) (by omega)
theorem e29_core (xs ys : List ByteArray) (h1 : xs.length ≤ maxLen) : ∃ n, abody Γ (orc []) n 29 [XV.mk false [X.c (X0.dat Ty.str.slice xs)], XV.mk false [X.c (X0.dat Ty.str.slice ys)]] = some (rBo (Sp.eqS xs ys)) := by
  refine ⟨xs.length + 1, (f29_raw _ xs ys).trans ?_⟩
  by_cases he : xs.length = ys.length
  · have h2 : ((xs.length : Int) != (ys.length : Int)) = false := by simp [he]
    rw [h2]
    simp only [cond_false]
    exact f29_loop _ xs ys h1 he xs.length 0 _ (Nat.zero_add _) (Nat.lt_succ_self _)
  · have h2 : ((xs.length : Int) != (ys.length : Int)) = true := by
      simp; omega
    rw [h2, eqS_len he]
    rfl
theorem e29_ok : Valid Try.prog Γ e29 := valid_len ok vnil fun a _ hl => e29_core a.1 a.2 (hl _ (List.mem_cons_self) _ (List.mem_cons_self)).1
noncomputable def f30_L0 (n m0 : Nat) (y0 : Int) (y1 : Int) (y2 : List ByteArray) : Option Res := loopAt Γ (orc [e75]) n (30 : Nat) (1 : Nat) [(0 : Nat)] [Pth.r, Pth.l, Pth.r, Pth.b] m0 (St.mk [Slot.val (Val.one (Cell.own (0 : Nat))), Slot.val (Val.one (Cell.dat (Ty.int IntKind.i64) y0)), Slot.nix, Slot.nix, Slot.nix, Slot.val (Val.one (Cell.dat (Ty.int IntKind.i64) y1)), Slot.nix, Slot.nix, Slot.nix, Slot.nix, Slot.nix, Slot.nix, Slot.nix, Slot.nix, Slot.nix, Slot.nix, Slot.nix, Slot.nix, Slot.nix, Slot.nix] [AObj.row Ty.str y2 true])
theorem f30_L0_step (n m0 : Nat) (y0 : Int) (y1 : Int) (y2 : List ByteArray) : f30_L0 n (m0 + 1) y0 y1 y2 = bif decide (y1 < (↑y2.length : Int)) then chk (Sp.mOK y0) (chk (decide ((0 : Int) ≤ y1) && decide (y1 < (↑y2.length : Int))) (f30_L0 n m0 (IntKind.i64.wrap (y0 + (1 : Int))) (IntKind.i64.wrap (y1 + (1 : Int))) (y2.set y1.toNat (Sp.mText y0)))) else some (Res.mk [XV.mk false [X.c (X0.dat (Ty.int IntKind.i64) y0)]] [X.c (X0.row Ty.str y2 true)]) := by kernel_rfl
theorem f30_raw (n : Nat) (x0 : List ByteArray) (x1 : Int) : abody Γ (orc [e75]) n 30 [XV.mk false [X.c (X0.row Ty.str x0 true)], XV.mk false [X.c (X0.dat (Ty.int IntKind.i64) x1)]] = f30_L0 n n x1 (0 : Int) x0 := by kernel_rfl

def Sp.markS : List ByteArray → Int → List ByteArray
  | [], _ => []
  | _ :: r, k => Sp.mText k :: Sp.markS r (k + 1)
def Sp.heldS : List ByteArray → Int → Int
  | [], k => k
  | x :: r, k => bif !(x.toList == (Sp.mText k).toList) then -1 else Sp.heldS r (k + 1)
noncomputable def e30 : Ent := { f := 30, ins := [Sh.one (C0.row Ty.str), Sh.one cI], outs := [Sh.one cI], upd := [Sh.one (C0.row Ty.str)], pre := fun a => Sp.small (α := ByteArray) a.1 a.2, spec := fun a => Sp.addLen (α := ByteArray) a.1 a.2, wrt := fun a => Sp.markS a.1 a.2 }
theorem f30_loop (n : Nat) : ∀ (d k m : Nat) (v : Int) (acc : List ByteArray), k + d = acc.length → d < m → 0 ≤ v → v + d ≤ 4611686018427387904 → k ≤ v + 4611686018427387904 → acc.length ≤ 4611686018427387904 →
    f30_L0 n m v (↑k : Int) acc = some (Res.mk [XV.mk false [X.c (X0.dat (Ty.int IntKind.i64) (v + (d : Int)))]] [X.c (X0.row Ty.str (acc.take k ++ Sp.markS (acc.drop k) v) true)]) := by
  intro d
  induction d with
  | zero =>
    intro k m v acc hk hm h0 h1 h2 h3
    obtain ⟨m, rfl⟩ := succ_of hm
    rw [f30_L0_step, decide_eq_false (by omega), List.drop_of_length_le (by omega), List.take_of_length_le (by omega)]
    simp [Sp.markS]
  | succ d ih =>
    intro k m v acc hk hm h0 h1 h2 h3
    obtain ⟨m, rfl⟩ := succ_of hm
    have hlt : k < acc.length := by omega
    have hok : Sp.mOK v = true := decide_eq_true (by omega)
    rw [f30_L0_step, hok, decide_eq_true (show (k : Int) < acc.length by omega), decide_eq_true (show (0 : Int) ≤ k by omega), wrap64 (by omega) (by omega), wrap64 (n := (k : Int) + 1) (by omega) (by omega)]
    simp only [cond_true, Bool.and_self, chkT, Int.toNat_natCast]
    have := ih (k + 1) m (v + 1) (acc.set k (Sp.mText v)) (by simpa using by omega) (by omega) (by omega) (by omega) (by omega) (by simpa using h3)
    refine this.trans ?_
    have e : (acc.set k (Sp.mText v)).take (k + 1) = acc.take k ++ [Sp.mText v] := by
      rw [List.take_set, List.take_succ_eq_append_getElem (by omega)]
      rw [List.set_append_right _ _ (by simp; omega)]
      simp [Nat.min_eq_left (show k ≤ acc.length by omega)]
    have e2 : (acc.set k (Sp.mText v)).drop (k + 1) = acc.drop (k + 1) := by rw [List.drop_set_of_lt (by omega)]
    rw [e, e2, List.append_assoc, List.drop_eq_getElem_cons hlt]
    simp only [Sp.markS, List.singleton_append]
    rw [show v + 1 + (d : Int) = v + ((d + 1 : Nat) : Int) by omega]
theorem e30_core (xs : List ByteArray) (v : Int) (ha : Sp.small xs v = true) : ∃ n, abody Γ (orc [e75]) n 30 [XV.mk false [X.c (X0.row Ty.str xs true)], XV.mk false [X.c (X0.dat (Ty.int IntKind.i64) v)]] = some (Res.mk [XV.mk false [X.c (X0.dat (Ty.int IntKind.i64) (Sp.addLen xs v))]] [X.c (X0.row Ty.str (Sp.markS xs v) true)]) := by
  obtain ⟨h1, h2⟩ := small_of ha
  refine ⟨xs.length + 1, (f30_raw _ xs v).trans ?_⟩
  exact f30_loop _ xs.length 0 _ v xs (Nat.zero_add _) (Nat.lt_succ_self _) h1 h2 (by omega) (by omega)
theorem e30_ok : Valid Try.prog Γ e30 := valid_of ok (vcons e75_ok vnil) fun a ha => e30_core a.1 a.2 ha
noncomputable def f31_L0 (n m0 : Nat) (y0 : List ByteArray) (y1 : Int) (y2 : Int) : Option Res := loopAt Γ (orc [e75]) n (31 : Nat) (0 : Nat) [] [Pth.r, Pth.l, Pth.r, Pth.b] m0 (St.mk [Slot.val (Val.one (Cell.dat Ty.str.slice y0)), Slot.val (Val.one (Cell.dat (Ty.int IntKind.i64) y1)), Slot.nix, Slot.nix, Slot.nix, Slot.val (Val.one (Cell.dat (Ty.int IntKind.i64) y2)), Slot.nix, Slot.nix, Slot.nix, Slot.nix, Slot.nix, Slot.nix, Slot.nix, Slot.nix, Slot.nix, Slot.nix, Slot.nix, Slot.nix, Slot.nix, Slot.nix, Slot.nix, Slot.nix] [])
theorem f31_L0_step (n m0 : Nat) (y0 : List ByteArray) (y1 : Int) (y2 : Int) : f31_L0 n (m0 + 1) y0 y1 y2 = bif decide (y2 < (↑y0.length : Int)) then chk (decide ((0 : Int) ≤ y2) && decide (y2 < (↑y0.length : Int))) (chk (Sp.mOK y1) (bif !(y0.getD y2.toNat (ByteArray.mk #[])).toList == (Sp.mText y1).toList then some (Res.mk [XV.mk false [X.c (X0.dat (Ty.int IntKind.i64) (-1 : Int))]] []) else f31_L0 n m0 y0 (IntKind.i64.wrap (y1 + (1 : Int))) (IntKind.i64.wrap (y2 + (1 : Int))))) else some (Res.mk [XV.mk false [X.c (X0.dat (Ty.int IntKind.i64) y1)]] []) := by kernel_rfl
theorem f31_raw (n : Nat) (x0 : List ByteArray) (x1 : Int) : abody Γ (orc [e75]) n 31 [XV.mk false [X.c (X0.dat Ty.str.slice x0)], XV.mk false [X.c (X0.dat (Ty.int IntKind.i64) x1)]] = f31_L0 n n x0 x1 (0 : Int) := by kernel_rfl

noncomputable def e31 : Ent := { f := 31, ins := [Sh.one (cL Ty.str), Sh.one cI], outs := [Sh.one cI], upd := [], pre := fun a => Sp.small (α := ByteArray) a.1 a.2, spec := fun a => Sp.heldS a.1 a.2, wrt := fun _ => () }
theorem f31_loop (n : Nat) (xs : List ByteArray) : ∀ (d k m : Nat) (v : Int), k + d = xs.length → d < m → 0 ≤ v → v + d ≤ 4611686018427387904 → xs.length ≤ 4611686018427387904 →
    f31_L0 n m xs v (↑k : Int) = some (rI (Sp.heldS (xs.drop k) v)) := by
  intro d
  induction d with
  | zero =>
    intro k m v hk hm h0 h1 h3
    obtain ⟨m, rfl⟩ := succ_of hm
    rw [f31_L0_step, decide_eq_false (by omega), List.drop_of_length_le (by omega)]
    rfl
  | succ d ih =>
    intro k m v hk hm h0 h1 h3
    obtain ⟨m, rfl⟩ := succ_of hm
    have hlt : k < xs.length := by omega
    have hok : Sp.mOK v = true := decide_eq_true (by omega)
    rw [f31_L0_step, hok, decide_eq_true (show (k : Int) < xs.length by omega), decide_eq_true (show (0 : Int) ≤ k by omega), wrap64 (by omega) (by omega), wrap64 (n := (k : Int) + 1) (by omega) (by omega), List.drop_eq_getElem_cons hlt]
    simp only [cond_true, Bool.and_self, chkT, Int.toNat_natCast, List.getD, List.getElem?_eq_getElem hlt, Option.getD_some, Sp.heldS]
    cases !(xs[k].toList == (Sp.mText v).toList) with
    | true => rfl
    | false =>
      simp only [cond_false]
      exact ih (k + 1) m (v + 1) (by omega) (by omega) (by omega) (by omega) h3
theorem e31_core (xs : List ByteArray) (v : Int) (ha : Sp.small xs v = true) : ∃ n, abody Γ (orc [e75]) n 31 [XV.mk false [X.c (X0.dat Ty.str.slice xs)], XV.mk false [X.c (X0.dat (Ty.int IntKind.i64) v)]] = some (rI (Sp.heldS xs v)) := by
  obtain ⟨h1, h2⟩ := small_of ha
  refine ⟨xs.length + 1, (f31_raw _ xs v).trans ?_⟩
  exact f31_loop _ xs xs.length 0 _ v (Nat.zero_add _) (Nat.lt_succ_self _) h1 h2 (by omega)
theorem e31_ok : Valid Try.prog Γ e31 := valid_of ok (vcons e75_ok vnil) fun a ha => e31_core a.1 a.2 ha
end Go.Proofs.GR.T
set_option maxRecDepth 100000
namespace Go.Proofs.GR.T
open Go Go.Proofs Go.Proofs.GR
def Sp.sOK (s : ByteArray) : Bool := decide (s.size ≤ 281474976710656)
noncomputable def e165 : Ent := { f := 165, ins := [Sh.one cS], outs := [Sh.one cS], upd := [], pre := fun a => Sp.sOK a, spec := fun a => a, wrt := fun _ => () }
theorem e165_ok : Valid Try.prog Γ e165 := fun a ha => clone165 a (of_decide_eq_true ha)
def Sp.f121_pre (x0 : ByteArray) : Bool := Sp.sOK x0
def Sp.f121 (x0 : ByteArray) := (x0, ())
noncomputable def e121 : Ent := { f := 121, ins := [Sh.one (C0.dat Ty.str)], outs := [Sh.one (C0.dat Ty.str)], upd := [], pre := fun a => Sp.f121_pre a, spec := fun a => (Sp.f121 a).1, wrt := fun a => (Sp.f121 a).2 }
def f121_g (v : denS [Sh.one (C0.dat Ty.str)] × denS []) : Res := ⟨mkS [Sh.one (C0.dat Ty.str)] v.1, mkU [] v.2⟩
theorem f121_raw (x0 : ByteArray) : abody Γ (orc [e165]) 0 121 [XV.mk false [X.c (X0.dat Ty.str x0)]] = chk (Sp.sOK x0) (some (Res.mk [XV.mk false [X.c (X0.dat Ty.str x0)]] [])) := by kernel_rfl
theorem f121_form (x0 : ByteArray) : (chk (Sp.sOK x0) (some (Res.mk [XV.mk false [X.c (X0.dat Ty.str x0)]] []))) = chk (Sp.f121_pre x0) (some (f121_g (Sp.f121 x0))) := by
  unfold Sp.f121_pre Sp.f121
  exact (chk_last (rfl))
theorem e121_ok : Valid Try.prog Γ e121 := valid_auto ok (vcons e165_ok vnil) fun a => (f121_raw a).trans (f121_form a)

def Sp.chunks : Nat → List Int → List ByteArray
  | 0, _ => []
  | d + 1, xs => bif decide (xs.length = 0) then [] else bytesStr (xs.take 64) :: Sp.chunks d (xs.drop 64)
def Sp.l64 (xs : List Int) : Bool := decide (xs.length ≤ 65536)
theorem chunks_nil (d : Nat) : Sp.chunks d [] = [] := by cases d <;> rfl
theorem chunks_cons (d : Nat) {xs : List Int} (h : xs.length ≠ 0) : Sp.chunks (d + 1) xs = bytesStr (xs.take 64) :: Sp.chunks d (xs.drop 64) := by
  show (bif decide (xs.length = 0) then [] else _) = _
  rw [decide_eq_false h, cond_false]
noncomputable def f73_L0 (n m0 : Nat) (y0 : List Int) (y1 : Int) (y2 : List ByteArray) : Option Res := loopAt Γ (orc []) n (73 : Nat) (0 : Nat) [] [Pth.r, Pth.r, Pth.l, Pth.r, Pth.b] m0 (St.mk [Slot.val (Val.one (Cell.dat (Ty.int IntKind.u8).slice y0)), Slot.nix, Slot.nix, Slot.val (Val.one (Cell.own (0 : Nat))), Slot.val (Val.one (Cell.dat (Ty.int IntKind.i64) y1)), Slot.nix, Slot.nix, Slot.nix, Slot.nix, Slot.nix, Slot.nix, Slot.nix, Slot.nix, Slot.nix, Slot.nix, Slot.nix, Slot.nix, Slot.nix, Slot.nix, Slot.nix, Slot.nix, Slot.nix, Slot.nix, Slot.nix, Slot.nix] [AObj.row Ty.str y2 true])
theorem f73_L0_step (n m0 : Nat) (y0 : List Int) (y1 : Int) (y2 : List ByteArray) : f73_L0 n (m0 + 1) y0 y1 y2 = bif decide (y1 < (↑y0.length : Int)) then chk (decide ((0 : Int) ≤ y1) && decide (y1 ≤ minI (↑y0.length : Int) (IntKind.i64.wrap (y1 + (64 : Int)))) && decide (minI (↑y0.length : Int) (IntKind.i64.wrap (y1 + (64 : Int))) ≤ (↑y0.length : Int))) (chk (decide ((y2.length + [bytesStr (List.take ((minI (↑y0.length : Int) (IntKind.i64.wrap (y1 + (64 : Int)))).toNat - y1.toNat) (List.drop y1.toNat y0))].length) * (16 : Nat) ≤ (140737488355328 : Nat))) (f73_L0 n m0 y0 (IntKind.i64.wrap (y1 + (64 : Int))) (y2 ++ [bytesStr (List.take ((minI (↑y0.length : Int) (IntKind.i64.wrap (y1 + (64 : Int)))).toNat - y1.toNat) (List.drop y1.toNat y0))]))) else some (Res.mk [XV.mk false [X.c (X0.row Ty.str y2 true)]] []) := by kernel_rfl
theorem f73_raw (n : Nat) (x0 : List Int) : abody Γ (orc []) n 73 [XV.mk false [X.c (X0.dat (Ty.int IntKind.u8).slice x0)]] = f73_L0 n n x0 (0 : Int) [] := by kernel_rfl

noncomputable def e73 : Ent := { f := 73, ins := [Sh.one (cL tB)], outs := [Sh.one (C0.row Ty.str)], upd := [], pre := fun a => Sp.l64 a, spec := fun a => Sp.chunks (List.length (α := Int) a) a, wrt := fun _ => () }
abbrev rSs (s : List ByteArray) : Res := Res.mk [XV.mk false [X.c (X0.row Ty.str s true)]] []
theorem f73_loop (n : Nat) (xs : List Int) (hl : xs.length ≤ 65536) : ∀ (d k m : Nat) (acc : List ByteArray), xs.length ≤ k + 64 * d → acc.length ≤ k → k ≤ xs.length + 64 → d < m →
    f73_L0 n m xs (↑k : Int) acc = some (rSs (acc ++ Sp.chunks d (xs.drop k))) := by
  intro d
  induction d with
  | zero =>
    intro k m acc hk ha hk2 hm
    obtain ⟨m, rfl⟩ := succ_of hm
    rw [f73_L0_step, decide_eq_false (by omega), cond_false, List.drop_of_length_le (by omega), chunks_nil, List.append_nil]
  | succ d ih =>
    intro k m acc hk ha hk2 hm
    obtain ⟨m, rfl⟩ := succ_of hm
    rw [f73_L0_step]
    by_cases hlt : (k : Int) < xs.length
    · have hw : IntKind.i64.wrap ((k : Int) + 64) = ((k + 64 : Nat) : Int) := by rw [wrap64 (by omega) (by omega)]; omega
      have hmin : minI (xs.length : Int) ((k + 64 : Nat) : Int) = ((min xs.length (k + 64) : Nat) : Int) := by unfold minI; split <;> omega
      have ht : ((xs.drop (k : Int).toNat).take (((min xs.length (k + 64) : Nat) : Int).toNat - (k : Int).toNat)) = (xs.drop k).take 64 := by
        rw [Int.toNat_natCast, Int.toNat_natCast]
        refine List.take_eq_take_iff.2 ?_
        rw [List.length_drop]
        omega
      have hd : (xs.drop k).length ≠ 0 := by rw [List.length_drop]; omega
      rw [decide_eq_true hlt, cond_true, hw, hmin, ht, chunks_cons d hd, List.drop_drop, decide_eq_true (show (0 : Int) ≤ k by omega), decide_eq_true (show (k : Int) ≤ ((min xs.length (k + 64) : Nat) : Int) by omega), decide_eq_true (show ((min xs.length (k + 64) : Nat) : Int) ≤ xs.length by omega), Bool.and_self, Bool.and_self, chkT]
      rw [decide_eq_true (show (acc.length + [bytesStr ((xs.drop k).take 64)].length) * 16 ≤ 140737488355328 by rw [List.length_singleton]; omega), chkT]
      have := ih (k + 64) m (acc ++ [bytesStr ((xs.drop k).take 64)]) (by omega) (by rw [List.length_append, List.length_singleton]; omega) (by omega) (by omega)
      rw [List.append_assoc, List.singleton_append] at this
      exact this
    · have hd : xs.drop k = [] := List.drop_of_length_le (by omega)
      rw [decide_eq_false hlt, cond_false, hd, chunks_nil, List.append_nil]
theorem e73_core (xs : List Int) (h : Sp.l64 xs = true) : ∃ n, abody Γ (orc []) n 73 [XV.mk false [X.c (X0.dat (Ty.int IntKind.u8).slice xs)]] = some (rSs (Sp.chunks xs.length xs)) := by
  have h1 : xs.length ≤ 65536 := of_decide_eq_true h
  refine ⟨xs.length + 1, (f73_raw _ xs).trans ?_⟩
  have := f73_loop (xs.length + 1) xs h1 xs.length 0 (xs.length + 1) [] (by omega) (Nat.zero_le _) (by omega) (by omega)
  rw [Int.natCast_zero, List.drop_zero, List.nil_append] at this
  exact this
theorem e73_ok : Valid Try.prog Γ e73 := valid_of ok vnil fun a ha => e73_core a ha
noncomputable def f74_L0 (n m0 : Nat) (y0 : ByteArray) (y1 : List ByteArray) : Option Res := loopAt Γ (orc [e121]) n (74 : Nat) (0 : Nat) [] [Pth.r, Pth.r, Pth.l, Pth.b] m0 (St.mk [Slot.val (Val.one (Cell.dat Ty.str y0)), Slot.nix, Slot.nix, Slot.val (Val.one (Cell.own (0 : Nat))), Slot.nix, Slot.nix, Slot.nix, Slot.nix, Slot.nix, Slot.nix, Slot.nix, Slot.nix, Slot.nix, Slot.nix, Slot.nix, Slot.nix, Slot.nix, Slot.nix, Slot.nix, Slot.nix, Slot.nix, Slot.nix, Slot.nix] [AObj.row Ty.str y1 true])
theorem f74_L0_step (n m0 : Nat) (y0 : ByteArray) (y1 : List ByteArray) : f74_L0 n (m0 + 1) y0 y1 = bif decide ((↑y0.size : Int) > (0 : Int)) then chk (decide ((0 : Int) ≤ minI (64 : Int) (↑y0.size : Int)) && decide (minI (64 : Int) (↑y0.size : Int) ≤ (↑y0.size : Int))) (chk (Sp.f121_pre (y0.extract (0 : Nat) (minI (64 : Int) (↑y0.size : Int)).toNat)) (chk (decide ((y1.length + [(Sp.f121 (y0.extract (0 : Nat) (minI (64 : Int) (↑y0.size : Int)).toNat)).1].length) * (16 : Nat) ≤ (140737488355328 : Nat))) (chk (decide ((0 : Int) ≤ minI (64 : Int) (↑y0.size : Int)) && decide (minI (64 : Int) (↑y0.size : Int) ≤ (↑y0.size : Int))) (f74_L0 n m0 (y0.extract (minI (64 : Int) (↑y0.size : Int)).toNat y0.size) (y1 ++ [(Sp.f121 (y0.extract (0 : Nat) (minI (64 : Int) (↑y0.size : Int)).toNat)).1]))))) else some (Res.mk [XV.mk false [X.c (X0.row Ty.str y1 true)]] []) := by kernel_rfl
theorem f74_raw (n : Nat) (x0 : ByteArray) : abody Γ (orc [e121]) n 74 [XV.mk false [X.c (X0.dat Ty.str x0)]] = f74_L0 n n x0 [] := by kernel_rfl

theorem strBytes_extract (s : ByteArray) (a b : Nat) : strBytes (s.extract a b) = ((strBytes s).drop a).take (b - a) := by
  have : (s.extract a b).data.toList = (s.data.toList.drop a).take (b - a) := by
    rw [ByteArray.data_extract, Array.toList_extract]
  unfold strBytes
  rw [this, List.map_take, List.map_drop]
theorem extract_eq (s : ByteArray) (a b : Nat) : s.extract a b = bytesStr (((strBytes s).drop a).take (b - a)) := by rw [← strBytes_extract, bytesStr_strBytes]
noncomputable def e74 : Ent := { f := 74, ins := [Sh.one cS], outs := [Sh.one (C0.row Ty.str)], upd := [], pre := fun a => Sp.l64 (strBytes a), spec := fun a => Sp.chunks (strBytes a).length (strBytes a), wrt := fun _ => () }
theorem f74_loop (n : Nat) : ∀ (d m : Nat) (s : ByteArray) (acc : List ByteArray), (strBytes s).length ≤ 64 * d → (strBytes s).length ≤ 65536 → acc.length + (strBytes s).length ≤ 65536 → d < m →
    f74_L0 n m s acc = some (rSs (acc ++ Sp.chunks d (strBytes s))) := by
  intro d
  induction d with
  | zero =>
    intro m s acc hk h6 ha hm
    obtain ⟨m, rfl⟩ := succ_of hm
    have hs := strBytes_len s
    have hn : strBytes s = [] := List.eq_nil_of_length_eq_zero (by omega)
    rw [f74_L0_step, decide_eq_false (by omega), cond_false, hn, chunks_nil, List.append_nil]
  | succ d ih =>
    intro m s acc hk h6 ha hm
    obtain ⟨m, rfl⟩ := succ_of hm
    have hs := strBytes_len s
    rw [f74_L0_step]
    by_cases hlt : (s.size : Int) > 0
    · have hmin : minI 64 (s.size : Int) = ((min 64 s.size : Nat) : Int) := by unfold minI; split <;> omega
      have he : s.extract 0 (min 64 s.size) = bytesStr ((strBytes s).take 64) := by
        rw [extract_eq, List.drop_zero]
        congr 1
        refine List.take_eq_take_iff.2 ?_
        omega
      have he2 : strBytes (s.extract (min 64 s.size) s.size) = (strBytes s).drop 64 := by
        rw [strBytes_extract, List.take_of_length_le (by rw [List.length_drop]; omega)]
        by_cases h64 : 64 ≤ s.size
        · rw [Nat.min_eq_left h64]
        · rw [List.drop_of_length_le (by omega), List.drop_of_length_le (by omega)]
      have hp : Sp.f121_pre (bytesStr ((strBytes s).take 64)) = true := decide_eq_true (by rw [bytesStr_size, List.length_take]; omega)
      rw [decide_eq_true hlt, cond_true, hmin, Int.toNat_natCast, he, hp, chunks_cons d (by omega), decide_eq_true (show (0 : Int) ≤ ((min 64 s.size : Nat) : Int) by omega), decide_eq_true (show ((min 64 s.size : Nat) : Int) ≤ s.size by omega), Bool.and_self, chkT, chkT]
      rw [decide_eq_true (show (acc.length + [(Sp.f121 (bytesStr ((strBytes s).take 64))).1].length) * 16 ≤ 140737488355328 by rw [List.length_singleton]; omega), chkT, chkT]
      have hl2 : (strBytes (s.extract (min 64 s.size) s.size)).length = (strBytes s).length - 64 := by rw [he2, List.length_drop]
      have := ih m (s.extract (min 64 s.size) s.size) (acc ++ [bytesStr ((strBytes s).take 64)]) (by omega) (by omega) (by rw [List.length_append, List.length_singleton]; omega) (by omega)
      rw [List.append_assoc, List.singleton_append, he2] at this
      exact this
    · have hn : strBytes s = [] := List.eq_nil_of_length_eq_zero (by omega)
      rw [decide_eq_false hlt, cond_false, hn, chunks_nil, List.append_nil]
theorem e74_core (s : ByteArray) (h : Sp.l64 (strBytes s) = true) : ∃ n, abody Γ (orc [e121]) n 74 [XV.mk false [X.c (X0.dat Ty.str s)]] = some (rSs (Sp.chunks (strBytes s).length (strBytes s))) := by
  have h1 : (strBytes s).length ≤ 65536 := of_decide_eq_true h
  exact ⟨(strBytes s).length + 1, (f74_raw _ s).trans (f74_loop _ _ _ s [] (by omega) h1 (by rw [List.length_nil]; omega) (Nat.lt_succ_self _))⟩
theorem e74_ok : Valid Try.prog Γ e74 := valid_of ok (vcons e121_ok vnil) fun a ha => e74_core a ha
def Sp.f27_pre (x0 : List Int) : Bool := (bif decide ((↑x0.length : Int) > (65536 : Int)) then true else Sp.l64 x0)
def Sp.f27 (x0 : List Int) := (bif decide ((↑x0.length : Int) > (65536 : Int)) then (([], (2 : Int)), ()) else ((Sp.chunks x0.length x0, (0 : Int)), ()))
noncomputable def e27 : Ent := { f := 27, ins := [Sh.one (C0.dat (Ty.int IntKind.u8).slice)], outs := [Sh.one (C0.row Ty.str), Sh.one (C0.dat (Ty.int IntKind.i64))], upd := [], pre := fun a => Sp.f27_pre a, spec := fun a => (Sp.f27 a).1, wrt := fun a => (Sp.f27 a).2 }
def f27_g (v : denS [Sh.one (C0.row Ty.str), Sh.one (C0.dat (Ty.int IntKind.i64))] × denS []) : Res := ⟨mkS [Sh.one (C0.row Ty.str), Sh.one (C0.dat (Ty.int IntKind.i64))] v.1, mkU [] v.2⟩
theorem f27_raw (x0 : List Int) : abody Γ (orc [e73]) 0 27 [XV.mk false [X.c (X0.dat (Ty.int IntKind.u8).slice x0)]] = bif decide ((↑x0.length : Int) > (65536 : Int)) then some (Res.mk [XV.mk false [X.c (X0.row Ty.str [] true)], XV.mk false [X.c (X0.dat (Ty.int IntKind.i64) (2 : Int))]] []) else chk (Sp.l64 x0) (some (Res.mk [XV.mk false [X.c (X0.row Ty.str (Sp.chunks x0.length x0) true)], XV.mk false [X.c (X0.dat (Ty.int IntKind.i64) (0 : Int))]] [])) := by kernel_rfl
theorem f27_form (x0 : List Int) : (bif decide ((↑x0.length : Int) > (65536 : Int)) then some (Res.mk [XV.mk false [X.c (X0.row Ty.str [] true)], XV.mk false [X.c (X0.dat (Ty.int IntKind.i64) (2 : Int))]] []) else chk (Sp.l64 x0) (some (Res.mk [XV.mk false [X.c (X0.row Ty.str (Sp.chunks x0.length x0) true)], XV.mk false [X.c (X0.dat (Ty.int IntKind.i64) (0 : Int))]] []))) = chk (Sp.f27_pre x0) (some (f27_g (Sp.f27 x0))) := by
  unfold Sp.f27_pre Sp.f27
  exact (cond_step f27_g ((lift_plain (rfl))) ((chk_last (rfl))))
theorem e27_ok : Valid Try.prog Γ e27 := valid_auto ok (vcons e73_ok vnil) fun a => (f27_raw a).trans (f27_form a)

def Sp.f28_pre (x0 : List Int) : Bool := (bif decide ((↑x0.length : Int) > (65536 : Int)) then true else Sp.l64 (strBytes (bytesStr x0)))
def Sp.f28 (x0 : List Int) := (bif decide ((↑x0.length : Int) > (65536 : Int)) then (([], (2 : Int)), ()) else ((Sp.chunks (strBytes (bytesStr x0)).length (strBytes (bytesStr x0)), (0 : Int)), ()))
noncomputable def e28 : Ent := { f := 28, ins := [Sh.one (C0.dat (Ty.int IntKind.u8).slice)], outs := [Sh.one (C0.row Ty.str), Sh.one (C0.dat (Ty.int IntKind.i64))], upd := [], pre := fun a => Sp.f28_pre a, spec := fun a => (Sp.f28 a).1, wrt := fun a => (Sp.f28 a).2 }
def f28_g (v : denS [Sh.one (C0.row Ty.str), Sh.one (C0.dat (Ty.int IntKind.i64))] × denS []) : Res := ⟨mkS [Sh.one (C0.row Ty.str), Sh.one (C0.dat (Ty.int IntKind.i64))] v.1, mkU [] v.2⟩
theorem f28_raw (x0 : List Int) : abody Γ (orc [e74]) 0 28 [XV.mk false [X.c (X0.dat (Ty.int IntKind.u8).slice x0)]] = bif decide ((↑x0.length : Int) > (65536 : Int)) then some (Res.mk [XV.mk false [X.c (X0.row Ty.str [] true)], XV.mk false [X.c (X0.dat (Ty.int IntKind.i64) (2 : Int))]] []) else chk (Sp.l64 (strBytes (bytesStr x0))) (some (Res.mk [XV.mk false [X.c (X0.row Ty.str (Sp.chunks (strBytes (bytesStr x0)).length (strBytes (bytesStr x0))) true)], XV.mk false [X.c (X0.dat (Ty.int IntKind.i64) (0 : Int))]] [])) := by kernel_rfl
theorem f28_form (x0 : List Int) : (bif decide ((↑x0.length : Int) > (65536 : Int)) then some (Res.mk [XV.mk false [X.c (X0.row Ty.str [] true)], XV.mk false [X.c (X0.dat (Ty.int IntKind.i64) (2 : Int))]] []) else chk (Sp.l64 (strBytes (bytesStr x0))) (some (Res.mk [XV.mk false [X.c (X0.row Ty.str (Sp.chunks (strBytes (bytesStr x0)).length (strBytes (bytesStr x0))) true)], XV.mk false [X.c (X0.dat (Ty.int IntKind.i64) (0 : Int))]] []))) = chk (Sp.f28_pre x0) (some (f28_g (Sp.f28 x0))) := by
  unfold Sp.f28_pre Sp.f28
  exact (cond_step f28_g ((lift_plain (rfl))) ((chk_last (rfl))))
theorem e28_ok : Valid Try.prog Γ e28 := valid_auto ok (vcons e74_ok vnil) fun a => (f28_raw a).trans (f28_form a)

def Sp.f6_pre (x0 : List Int) : Bool := (bif decide ((↑x0.length : Int) > (1048576 : Int)) then true else (Sp.fits x0 && (Sp.f27_pre x0 && (Sp.fits x0 && (Sp.f28_pre x0 && (bif !Sp.eqS (Sp.f28 x0).1.1 (Sp.f27 x0).1.1 then true else (bif (Sp.f28 x0).1.2 != (Sp.f27 x0).1.2 then true else (Sp.fits x0 && (bif !Sp.eqL x0 x0 then true else (Sp.small x0 (1 : Int) && (bif decide (Sp.addLen x0 (1 : Int) < (0 : Int)) then true else (bif !Sp.eqS (Sp.f28 x0).1.1 (Sp.f27 x0).1.1 then true else (bif (Sp.f28 x0).1.2 != (Sp.f27 x0).1.2 then true else (Sp.small (Sp.f28 x0).1.1 (1 : Int) && (Sp.small (Sp.markS (Sp.f28 x0).1.1 (1 : Int)) (1 : Int) && (bif decide (Sp.heldS (Sp.markS (Sp.f28 x0).1.1 (1 : Int)) (1 : Int) < (0 : Int)) then true else (bif Sp.heldS (Sp.markS (Sp.f28 x0).1.1 (1 : Int)) (1 : Int) != Sp.addLen (Sp.f28 x0).1.1 (1 : Int) then true else (Sp.fits x0 && (Sp.f28_pre x0 && (bif !Sp.eqS (Sp.f28 x0).1.1 (Sp.f27 x0).1.1 then true else (bif (Sp.f28 x0).1.2 != (Sp.f27 x0).1.2 then true else Sp.small (Sp.markS (Sp.f28 x0).1.1 (1 : Int)) (1 : Int))))))))))))))))))))))
def Sp.f6 (x0 : List Int) := (bif decide ((↑x0.length : Int) > (1048576 : Int)) then (true, ()) else (bif !Sp.eqS (Sp.f28 x0).1.1 (Sp.f27 x0).1.1 then (false, ()) else (bif (Sp.f28 x0).1.2 != (Sp.f27 x0).1.2 then (false, ()) else (bif !Sp.eqL x0 x0 then (false, ()) else (bif decide (Sp.addLen x0 (1 : Int) < (0 : Int)) then (false, ()) else (bif !Sp.eqS (Sp.f28 x0).1.1 (Sp.f27 x0).1.1 then (false, ()) else (bif (Sp.f28 x0).1.2 != (Sp.f27 x0).1.2 then (false, ()) else (bif decide (Sp.heldS (Sp.markS (Sp.f28 x0).1.1 (1 : Int)) (1 : Int) < (0 : Int)) then (false, ()) else (bif Sp.heldS (Sp.markS (Sp.f28 x0).1.1 (1 : Int)) (1 : Int) != Sp.addLen (Sp.f28 x0).1.1 (1 : Int) then (false, ()) else (bif !Sp.eqS (Sp.f28 x0).1.1 (Sp.f27 x0).1.1 then (false, ()) else (bif (Sp.f28 x0).1.2 != (Sp.f27 x0).1.2 then (false, ()) else (bif decide (Sp.heldS (Sp.markS (Sp.f28 x0).1.1 (1 : Int)) (1 : Int) < (0 : Int)) then (false, ()) else (bif Sp.heldS (Sp.markS (Sp.f28 x0).1.1 (1 : Int)) (1 : Int) != Sp.addLen (Sp.f28 x0).1.1 (1 : Int) then (false, ()) else (true, ()))))))))))))))
noncomputable def e6 : Ent := { f := 6, ins := [Sh.one (C0.dat (Ty.int IntKind.u8).slice)], outs := [Sh.one (C0.dat Ty.bool)], upd := [], pre := fun a => Sp.f6_pre a, spec := fun a => (Sp.f6 a).1, wrt := fun a => (Sp.f6 a).2 }
def f6_g (v : denS [Sh.one (C0.dat Ty.bool)] × denS []) : Res := ⟨mkS [Sh.one (C0.dat Ty.bool)] v.1, mkU [] v.2⟩
theorem f6_raw (x0 : List Int) : abody Γ (orc [e22, e27, e28, e29, e24, e25, e30, e31]) 0 6 [XV.mk false [X.c (X0.dat (Ty.int IntKind.u8).slice x0)]] = bif decide ((↑x0.length : Int) > (1048576 : Int)) then some (Res.mk [XV.mk false [X.c (X0.dat Ty.bool true)]] []) else chk (Sp.fits x0) (chk (Sp.f27_pre x0) (chk (Sp.fits x0) (chk (Sp.f28_pre x0) (bif !Sp.eqS (Sp.f28 x0).1.1 (Sp.f27 x0).1.1 then some (Res.mk [XV.mk false [X.c (X0.dat Ty.bool false)]] []) else bif (Sp.f28 x0).1.2 != (Sp.f27 x0).1.2 then some (Res.mk [XV.mk false [X.c (X0.dat Ty.bool false)]] []) else chk (Sp.fits x0) (bif !Sp.eqL x0 x0 then some (Res.mk [XV.mk false [X.c (X0.dat Ty.bool false)]] []) else chk (Sp.small x0 (1 : Int)) (bif decide (Sp.addLen x0 (1 : Int) < (0 : Int)) then some (Res.mk [XV.mk false [X.c (X0.dat Ty.bool false)]] []) else bif !Sp.eqS (Sp.f28 x0).1.1 (Sp.f27 x0).1.1 then some (Res.mk [XV.mk false [X.c (X0.dat Ty.bool false)]] []) else bif (Sp.f28 x0).1.2 != (Sp.f27 x0).1.2 then some (Res.mk [XV.mk false [X.c (X0.dat Ty.bool false)]] []) else chk (Sp.small (Sp.f28 x0).1.1 (1 : Int)) (chk (Sp.small (Sp.markS (Sp.f28 x0).1.1 (1 : Int)) (1 : Int)) (bif decide (Sp.heldS (Sp.markS (Sp.f28 x0).1.1 (1 : Int)) (1 : Int) < (0 : Int)) then some (Res.mk [XV.mk false [X.c (X0.dat Ty.bool false)]] []) else bif Sp.heldS (Sp.markS (Sp.f28 x0).1.1 (1 : Int)) (1 : Int) != Sp.addLen (Sp.f28 x0).1.1 (1 : Int) then some (Res.mk [XV.mk false [X.c (X0.dat Ty.bool false)]] []) else chk (Sp.fits x0) (chk (Sp.f28_pre x0) (bif !Sp.eqS (Sp.f28 x0).1.1 (Sp.f27 x0).1.1 then some (Res.mk [XV.mk false [X.c (X0.dat Ty.bool false)]] []) else bif (Sp.f28 x0).1.2 != (Sp.f27 x0).1.2 then some (Res.mk [XV.mk false [X.c (X0.dat Ty.bool false)]] []) else chk (Sp.small (Sp.markS (Sp.f28 x0).1.1 (1 : Int)) (1 : Int)) (bif decide (Sp.heldS (Sp.markS (Sp.f28 x0).1.1 (1 : Int)) (1 : Int) < (0 : Int)) then some (Res.mk [XV.mk false [X.c (X0.dat Ty.bool false)]] []) else bif Sp.heldS (Sp.markS (Sp.f28 x0).1.1 (1 : Int)) (1 : Int) != Sp.addLen (Sp.f28 x0).1.1 (1 : Int) then some (Res.mk [XV.mk false [X.c (X0.dat Ty.bool false)]] []) else some (Res.mk [XV.mk false [X.c (X0.dat Ty.bool true)]] [])))))))))))) := by kernel_rfl
theorem f6_form (x0 : List Int) : (bif decide ((↑x0.length : Int) > (1048576 : Int)) then some (Res.mk [XV.mk false [X.c (X0.dat Ty.bool true)]] []) else chk (Sp.fits x0) (chk (Sp.f27_pre x0) (chk (Sp.fits x0) (chk (Sp.f28_pre x0) (bif !Sp.eqS (Sp.f28 x0).1.1 (Sp.f27 x0).1.1 then some (Res.mk [XV.mk false [X.c (X0.dat Ty.bool false)]] []) else bif (Sp.f28 x0).1.2 != (Sp.f27 x0).1.2 then some (Res.mk [XV.mk false [X.c (X0.dat Ty.bool false)]] []) else chk (Sp.fits x0) (bif !Sp.eqL x0 x0 then some (Res.mk [XV.mk false [X.c (X0.dat Ty.bool false)]] []) else chk (Sp.small x0 (1 : Int)) (bif decide (Sp.addLen x0 (1 : Int) < (0 : Int)) then some (Res.mk [XV.mk false [X.c (X0.dat Ty.bool false)]] []) else bif !Sp.eqS (Sp.f28 x0).1.1 (Sp.f27 x0).1.1 then some (Res.mk [XV.mk false [X.c (X0.dat Ty.bool false)]] []) else bif (Sp.f28 x0).1.2 != (Sp.f27 x0).1.2 then some (Res.mk [XV.mk false [X.c (X0.dat Ty.bool false)]] []) else chk (Sp.small (Sp.f28 x0).1.1 (1 : Int)) (chk (Sp.small (Sp.markS (Sp.f28 x0).1.1 (1 : Int)) (1 : Int)) (bif decide (Sp.heldS (Sp.markS (Sp.f28 x0).1.1 (1 : Int)) (1 : Int) < (0 : Int)) then some (Res.mk [XV.mk false [X.c (X0.dat Ty.bool false)]] []) else bif Sp.heldS (Sp.markS (Sp.f28 x0).1.1 (1 : Int)) (1 : Int) != Sp.addLen (Sp.f28 x0).1.1 (1 : Int) then some (Res.mk [XV.mk false [X.c (X0.dat Ty.bool false)]] []) else chk (Sp.fits x0) (chk (Sp.f28_pre x0) (bif !Sp.eqS (Sp.f28 x0).1.1 (Sp.f27 x0).1.1 then some (Res.mk [XV.mk false [X.c (X0.dat Ty.bool false)]] []) else bif (Sp.f28 x0).1.2 != (Sp.f27 x0).1.2 then some (Res.mk [XV.mk false [X.c (X0.dat Ty.bool false)]] []) else chk (Sp.small (Sp.markS (Sp.f28 x0).1.1 (1 : Int)) (1 : Int)) (bif decide (Sp.heldS (Sp.markS (Sp.f28 x0).1.1 (1 : Int)) (1 : Int) < (0 : Int)) then some (Res.mk [XV.mk false [X.c (X0.dat Ty.bool false)]] []) else bif Sp.heldS (Sp.markS (Sp.f28 x0).1.1 (1 : Int)) (1 : Int) != Sp.addLen (Sp.f28 x0).1.1 (1 : Int) then some (Res.mk [XV.mk false [X.c (X0.dat Ty.bool false)]] []) else some (Res.mk [XV.mk false [X.c (X0.dat Ty.bool true)]] []))))))))))))) = chk (Sp.f6_pre x0) (some (f6_g (Sp.f6 x0))) := by
  unfold Sp.f6_pre Sp.f6
  exact (cond_step f6_g ((lift_plain (rfl))) ((chk_step ((chk_step ((chk_step ((chk_step ((cond_step f6_g ((lift_plain (rfl))) ((cond_step f6_g ((lift_plain (rfl))) ((chk_step ((cond_step f6_g ((lift_plain (rfl))) ((chk_step ((cond_step f6_g ((lift_plain (rfl))) ((cond_step f6_g ((lift_plain (rfl))) ((cond_step f6_g ((lift_plain (rfl))) ((chk_step ((chk_step ((cond_step f6_g ((lift_plain (rfl))) ((cond_step f6_g ((lift_plain (rfl))) ((chk_step ((chk_step ((cond_step f6_g ((lift_plain (rfl))) ((cond_step f6_g ((lift_plain (rfl))) ((chk_last ((cond_plain f6_g (rfl) ((cond_plain f6_g (rfl) (rfl))))))))))))))))))))))))))))))))))))))))))))))))
theorem e6_ok : Valid Try.prog Γ e6 := valid_auto ok (vcons e22_ok (vcons e27_ok (vcons e28_ok (vcons e29_ok (vcons e24_ok (vcons e25_ok (vcons e30_ok (vcons e31_ok vnil)))))))) fun a => (f6_raw a).trans (f6_form a)

end Go.Proofs.GR.T
namespace Go.Proofs.GR.T
open Go Go.Proofs Go.Proofs.GR
theorem eqS_self : ∀ xs : List ByteArray, Sp.eqS xs xs = true
  | [] => rfl
  | x :: r => by
    unfold Sp.eqS
    rw [beq_self_eq_true, eqS_self r]; rfl
theorem markS_len : ∀ (xs : List ByteArray) (k : Int), (Sp.markS xs k).length = xs.length
  | [], _ => rfl
  | x :: r, k => by rw [Sp.markS, List.length_cons, List.length_cons, markS_len r]
theorem heldS_mark : ∀ (xs : List ByteArray) (k : Int), Sp.heldS (Sp.markS xs k) k = k + xs.length
  | [], k => by simp [Sp.heldS, Sp.markS]
  | x :: r, k => by
    rw [Sp.markS, Sp.heldS, beq_self_eq_true, Bool.not_true, cond_false, heldS_mark r, List.length_cons]
    omega
theorem chunks_len : ∀ (d : Nat) (xs : List Int), (Sp.chunks d xs).length ≤ d
  | 0, _ => Nat.le_refl _
  | d + 1, xs => by
    show (bif decide (xs.length = 0) then [] else _).length ≤ _
    cases decide (xs.length = 0) with
    | true => exact Nat.zero_le _
    | false =>
      rw [cond_false, List.length_cons]
      exact Nat.succ_le_succ (chunks_len d _)
theorem f28_eq {xs : List Int} (hb : Sp.isBytes xs = true) : Sp.f28 xs = Sp.f27 xs := by
  unfold Sp.f28 Sp.f27
  rw [strBytes_bytesStr hb]
theorem f27_len (xs : List Int) : (Sp.f27 xs).1.1.length ≤ xs.length := by
  unfold Sp.f27
  cases decide ((xs.length : Int) > 65536) with
  | true => exact Nat.zero_le _
  | false => exact chunks_len _ _
theorem law6_pre (xs : List Int) (hb : Sp.isBytes xs = true) : Sp.f6_pre xs = true := by
  unfold Sp.f6_pre
  by_cases h : (xs.length : Int) > 1048576
  · rw [decide_eq_true h]; rfl
  · have p27 : Sp.f27_pre xs = true := by
      unfold Sp.f27_pre
      by_cases h2 : (xs.length : Int) > 65536
      · rw [decide_eq_true h2]; rfl
      · rw [decide_eq_false h2, cond_false]; exact decide_eq_true (by omega)
    have p28 : Sp.f28_pre xs = true := by
      unfold Sp.f28_pre
      rw [strBytes_bytesStr hb]
      exact p27
    have hf : Sp.fits xs = true := decide_eq_true (by omega)
    have hs : Sp.small xs 1 = true := small_mk (by omega) (by omega)
    have hlen := f27_len xs
    have hs2 : Sp.small (Sp.f27 xs).1.1 1 = true := small_mk (by omega) (by omega)
    have hs3 : Sp.small (Sp.markS (Sp.f27 xs).1.1 1) 1 = true := small_mk (by omega) (by rw [markS_len]; omega)
    rw [f28_eq hb, decide_eq_false h, p27, p28, hf, hs, hs2, hs3]
    simp
theorem law6 (xs : List Int) (hb : Sp.isBytes xs = true) : (Sp.f6 xs).1 = true := by
  unfold Sp.f6
  rw [f28_eq hb, heldS_mark]
  have h1 : decide (Sp.addLen xs (1 : Int) < 0) = false := decide_eq_false (by unfold Sp.addLen; omega)
  have h2 : decide ((1 : Int) + ((Sp.f27 xs).1.1.length : Int) < 0) = false := decide_eq_false (by omega)
  have h3 : ((1 : Int) + ((Sp.f27 xs).1.1.length : Int) != Sp.addLen (Sp.f27 xs).1.1 1) = false := by simp [Sp.addLen]
  rw [h1, h2, h3, eqS_self, eqL_self]
  cases decide ((xs.length : Int) > 1048576) <;> simp
end Go.Proofs.GR.T
set_option maxRecDepth 100000
namespace Go.Proofs.GR.T
open Go Go.Proofs Go.Proofs.GR
def Sp.f79_pre (x0 : Int) (x1 : Int) (x2 : Int) : Bool := true
def Sp.f79 (x0 : Int) (x1 : Int) (x2 : Int) := (bif decide (x0 ≥ x1) then (decide (x0 ≤ x2), ()) else (false, ()))
noncomputable def e79 : Ent := { f := 79, ins := [Sh.one (C0.dat (Ty.int IntKind.i64)), Sh.one (C0.dat (Ty.int IntKind.i64)), Sh.one (C0.dat (Ty.int IntKind.i64))], outs := [Sh.one (C0.dat Ty.bool)], upd := [], pre := fun a => true, spec := fun a => (Sp.f79 a.1 a.2.1 a.2.2).1, wrt := fun a => (Sp.f79 a.1 a.2.1 a.2.2).2 }
def f79_g (v : denS [Sh.one (C0.dat Ty.bool)] × denS []) : Res := ⟨mkS [Sh.one (C0.dat Ty.bool)] v.1, mkU [] v.2⟩
theorem f79_raw (x0 : Int) (x1 : Int) (x2 : Int) : abody Γ (orc []) 0 79 [XV.mk false [X.c (X0.dat (Ty.int IntKind.i64) x0)], XV.mk false [X.c (X0.dat (Ty.int IntKind.i64) x1)], XV.mk false [X.c (X0.dat (Ty.int IntKind.i64) x2)]] = bif decide (x0 ≥ x1) then some (Res.mk [XV.mk false [X.c (X0.dat Ty.bool (decide (x0 ≤ x2)))]] []) else some (Res.mk [XV.mk false [X.c (X0.dat Ty.bool false)]] []) := by kernel_rfl
theorem f79_form (x0 : Int) (x1 : Int) (x2 : Int) : (bif decide (x0 ≥ x1) then some (Res.mk [XV.mk false [X.c (X0.dat Ty.bool (decide (x0 ≤ x2)))]] []) else some (Res.mk [XV.mk false [X.c (X0.dat Ty.bool false)]] [])) = some (f79_g (Sp.f79 x0 x1 x2)) := by
  unfold Sp.f79
  exact (cond_plain f79_g (rfl) (rfl))
theorem e79_ok : Valid Try.prog Γ e79 := valid_auto ok vnil fun a => (f79_raw a.1 a.2.1 a.2.2).trans (f79_form a.1 a.2.1 a.2.2)

def Sp.f136_pre (x0 : Int) (x1 : Int) (x2 : ByteArray) : Bool := true
def Sp.f136 (x0 : Int) (x1 : Int) (x2 : ByteArray) := (bif x0 == (0 : Int) then (bif x1 == (0 : Int) then (x2.toList == (ByteArray.mk #[]).toList, ()) else (false, ())) else (bif x0 == (1 : Int) then (bif (Sp.f79 x1 (0 : Int) (1 : Int)).1 then (x2.toList == (ByteArray.mk #[]).toList, ()) else (false, ())) else (bif x0 == (2 : Int) then (x2.toList == (ByteArray.mk #[]).toList, ()) else (bif x0 == (3 : Int) then (bif x0 == (3 : Int) then (bif x1 == (0 : Int) then (decide ((↑x2.size : Int) ≤ (60 : Int)), ()) else (false, ())) else (false, ())) else (bif x0 == (4 : Int) then (bif x1 == (0 : Int) then (decide ((↑x2.size : Int) ≤ (60 : Int)), ()) else (false, ())) else (false, ()))))))
noncomputable def e136 : Ent := { f := 136, ins := [Sh.agg [C0.dat (Ty.int IntKind.i64), C0.dat (Ty.int IntKind.i64), C0.dat Ty.str]], outs := [Sh.one (C0.dat Ty.bool)], upd := [], pre := fun a => true, spec := fun a => (Sp.f136 a.1 a.2.1 a.2.2).1, wrt := fun a => (Sp.f136 a.1 a.2.1 a.2.2).2 }
def f136_g (v : denS [Sh.one (C0.dat Ty.bool)] × denS []) : Res := ⟨mkS [Sh.one (C0.dat Ty.bool)] v.1, mkU [] v.2⟩
theorem f136_raw (x0 : Int) (x1 : Int) (x2 : ByteArray) : abody Γ (orc [e79]) 0 136 [XV.mk true [X.c (X0.dat (Ty.int IntKind.i64) x0), X.c (X0.dat (Ty.int IntKind.i64) x1), X.c (X0.dat Ty.str x2)]] = bif x0 == (0 : Int) then bif x1 == (0 : Int) then some (Res.mk [XV.mk false [X.c (X0.dat Ty.bool (x2.toList == (ByteArray.mk #[]).toList))]] []) else some (Res.mk [XV.mk false [X.c (X0.dat Ty.bool false)]] []) else bif x0 == (1 : Int) then bif (Sp.f79 x1 (0 : Int) (1 : Int)).1 then some (Res.mk [XV.mk false [X.c (X0.dat Ty.bool (x2.toList == (ByteArray.mk #[]).toList))]] []) else some (Res.mk [XV.mk false [X.c (X0.dat Ty.bool false)]] []) else bif x0 == (2 : Int) then some (Res.mk [XV.mk false [X.c (X0.dat Ty.bool (x2.toList == (ByteArray.mk #[]).toList))]] []) else bif x0 == (3 : Int) then bif x0 == (3 : Int) then bif x1 == (0 : Int) then some (Res.mk [XV.mk false [X.c (X0.dat Ty.bool (decide ((↑x2.size : Int) ≤ (60 : Int))))]] []) else some (Res.mk [XV.mk false [X.c (X0.dat Ty.bool false)]] []) else some (Res.mk [XV.mk false [X.c (X0.dat Ty.bool false)]] []) else bif x0 == (4 : Int) then bif x1 == (0 : Int) then some (Res.mk [XV.mk false [X.c (X0.dat Ty.bool (decide ((↑x2.size : Int) ≤ (60 : Int))))]] []) else some (Res.mk [XV.mk false [X.c (X0.dat Ty.bool false)]] []) else some (Res.mk [XV.mk false [X.c (X0.dat Ty.bool false)]] []) := by kernel_rfl
theorem f136_form (x0 : Int) (x1 : Int) (x2 : ByteArray) : (bif x0 == (0 : Int) then bif x1 == (0 : Int) then some (Res.mk [XV.mk false [X.c (X0.dat Ty.bool (x2.toList == (ByteArray.mk #[]).toList))]] []) else some (Res.mk [XV.mk false [X.c (X0.dat Ty.bool false)]] []) else bif x0 == (1 : Int) then bif (Sp.f79 x1 (0 : Int) (1 : Int)).1 then some (Res.mk [XV.mk false [X.c (X0.dat Ty.bool (x2.toList == (ByteArray.mk #[]).toList))]] []) else some (Res.mk [XV.mk false [X.c (X0.dat Ty.bool false)]] []) else bif x0 == (2 : Int) then some (Res.mk [XV.mk false [X.c (X0.dat Ty.bool (x2.toList == (ByteArray.mk #[]).toList))]] []) else bif x0 == (3 : Int) then bif x0 == (3 : Int) then bif x1 == (0 : Int) then some (Res.mk [XV.mk false [X.c (X0.dat Ty.bool (decide ((↑x2.size : Int) ≤ (60 : Int))))]] []) else some (Res.mk [XV.mk false [X.c (X0.dat Ty.bool false)]] []) else some (Res.mk [XV.mk false [X.c (X0.dat Ty.bool false)]] []) else bif x0 == (4 : Int) then bif x1 == (0 : Int) then some (Res.mk [XV.mk false [X.c (X0.dat Ty.bool (decide ((↑x2.size : Int) ≤ (60 : Int))))]] []) else some (Res.mk [XV.mk false [X.c (X0.dat Ty.bool false)]] []) else some (Res.mk [XV.mk false [X.c (X0.dat Ty.bool false)]] [])) = some (f136_g (Sp.f136 x0 x1 x2)) := by
  unfold Sp.f136
  exact (cond_plain f136_g ((cond_plain f136_g (rfl) (rfl))) ((cond_plain f136_g ((cond_plain f136_g (rfl) (rfl))) ((cond_plain f136_g (rfl) ((cond_plain f136_g ((cond_plain f136_g ((cond_plain f136_g (rfl) (rfl))) (rfl))) ((cond_plain f136_g ((cond_plain f136_g (rfl) (rfl))) (rfl))))))))))
theorem e136_ok : Valid Try.prog Γ e136 := valid_auto ok (vcons e79_ok vnil) fun a => (f136_raw a.1 a.2.1 a.2.2).trans (f136_form a.1 a.2.1 a.2.2)

def Sp.f167_pre (x0 : Int) : Bool := true
def Sp.f167 (x0 : Int) := (bif x0 == (3 : Int) then (true, ()) else (x0 == (4 : Int), ()))
noncomputable def e167 : Ent := { f := 167, ins := [Sh.one (C0.dat (Ty.int IntKind.i64))], outs := [Sh.one (C0.dat Ty.bool)], upd := [], pre := fun a => true, spec := fun a => (Sp.f167 a).1, wrt := fun a => (Sp.f167 a).2 }
def f167_g (v : denS [Sh.one (C0.dat Ty.bool)] × denS []) : Res := ⟨mkS [Sh.one (C0.dat Ty.bool)] v.1, mkU [] v.2⟩
theorem f167_raw (x0 : Int) : abody Γ (orc []) 0 167 [XV.mk false [X.c (X0.dat (Ty.int IntKind.i64) x0)]] = bif x0 == (3 : Int) then some (Res.mk [XV.mk false [X.c (X0.dat Ty.bool true)]] []) else some (Res.mk [XV.mk false [X.c (X0.dat Ty.bool (x0 == (4 : Int)))]] []) := by kernel_rfl
theorem f167_form (x0 : Int) : (bif x0 == (3 : Int) then some (Res.mk [XV.mk false [X.c (X0.dat Ty.bool true)]] []) else some (Res.mk [XV.mk false [X.c (X0.dat Ty.bool (x0 == (4 : Int)))]] [])) = some (f167_g (Sp.f167 x0)) := by
  unfold Sp.f167
  exact (cond_plain f167_g (rfl) (rfl))
theorem e167_ok : Valid Try.prog Γ e167 := valid_auto ok vnil fun a => (f167_raw a).trans (f167_form a)

def Sp.f171_pre (x0 : Int) (x1 : Int) (x2 : ByteArray) : Bool := true
def Sp.f171 (x0 : Int) (x1 : Int) (x2 : ByteArray) := (bif x0 == (0 : Int) then (bif x1 == (0 : Int) then (x2.toList == (ByteArray.mk #[]).toList, ()) else (false, ())) else (bif x0 == (1 : Int) then (bif (Sp.f70 x1 (0 : Int) (1 : Int)).1 then (x2.toList == (ByteArray.mk #[]).toList, ()) else (false, ())) else (bif x0 == (2 : Int) then (x2.toList == (ByteArray.mk #[]).toList, ()) else (bif (Sp.f167 x0).1 then (bif x1 == (0 : Int) then (decide ((↑x2.size : Int) ≤ (60 : Int)), ()) else (false, ())) else (false, ())))))
noncomputable def e171 : Ent := { f := 171, ins := [Sh.agg [C0.dat (Ty.int IntKind.i64), C0.dat (Ty.int IntKind.i64), C0.dat Ty.str]], outs := [Sh.one (C0.dat Ty.bool)], upd := [], pre := fun a => true, spec := fun a => (Sp.f171 a.1 a.2.1 a.2.2).1, wrt := fun a => (Sp.f171 a.1 a.2.1 a.2.2).2 }
def f171_g (v : denS [Sh.one (C0.dat Ty.bool)] × denS []) : Res := ⟨mkS [Sh.one (C0.dat Ty.bool)] v.1, mkU [] v.2⟩
theorem f171_raw (x0 : Int) (x1 : Int) (x2 : ByteArray) : abody Γ (orc [e70, e167]) 0 171 [XV.mk true [X.c (X0.dat (Ty.int IntKind.i64) x0), X.c (X0.dat (Ty.int IntKind.i64) x1), X.c (X0.dat Ty.str x2)]] = bif x0 == (0 : Int) then bif x1 == (0 : Int) then some (Res.mk [XV.mk false [X.c (X0.dat Ty.bool (x2.toList == (ByteArray.mk #[]).toList))]] []) else some (Res.mk [XV.mk false [X.c (X0.dat Ty.bool false)]] []) else bif x0 == (1 : Int) then bif (Sp.f70 x1 (0 : Int) (1 : Int)).1 then some (Res.mk [XV.mk false [X.c (X0.dat Ty.bool (x2.toList == (ByteArray.mk #[]).toList))]] []) else some (Res.mk [XV.mk false [X.c (X0.dat Ty.bool false)]] []) else bif x0 == (2 : Int) then some (Res.mk [XV.mk false [X.c (X0.dat Ty.bool (x2.toList == (ByteArray.mk #[]).toList))]] []) else bif (Sp.f167 x0).1 then bif x1 == (0 : Int) then some (Res.mk [XV.mk false [X.c (X0.dat Ty.bool (decide ((↑x2.size : Int) ≤ (60 : Int))))]] []) else some (Res.mk [XV.mk false [X.c (X0.dat Ty.bool false)]] []) else some (Res.mk [XV.mk false [X.c (X0.dat Ty.bool false)]] []) := by kernel_rfl
theorem f171_form (x0 : Int) (x1 : Int) (x2 : ByteArray) : (bif x0 == (0 : Int) then bif x1 == (0 : Int) then some (Res.mk [XV.mk false [X.c (X0.dat Ty.bool (x2.toList == (ByteArray.mk #[]).toList))]] []) else some (Res.mk [XV.mk false [X.c (X0.dat Ty.bool false)]] []) else bif x0 == (1 : Int) then bif (Sp.f70 x1 (0 : Int) (1 : Int)).1 then some (Res.mk [XV.mk false [X.c (X0.dat Ty.bool (x2.toList == (ByteArray.mk #[]).toList))]] []) else some (Res.mk [XV.mk false [X.c (X0.dat Ty.bool false)]] []) else bif x0 == (2 : Int) then some (Res.mk [XV.mk false [X.c (X0.dat Ty.bool (x2.toList == (ByteArray.mk #[]).toList))]] []) else bif (Sp.f167 x0).1 then bif x1 == (0 : Int) then some (Res.mk [XV.mk false [X.c (X0.dat Ty.bool (decide ((↑x2.size : Int) ≤ (60 : Int))))]] []) else some (Res.mk [XV.mk false [X.c (X0.dat Ty.bool false)]] []) else some (Res.mk [XV.mk false [X.c (X0.dat Ty.bool false)]] [])) = some (f171_g (Sp.f171 x0 x1 x2)) := by
  unfold Sp.f171
  exact (cond_plain f171_g ((cond_plain f171_g (rfl) (rfl))) ((cond_plain f171_g ((cond_plain f171_g (rfl) (rfl))) ((cond_plain f171_g (rfl) ((cond_plain f171_g ((cond_plain f171_g (rfl) (rfl))) (rfl))))))))
theorem e171_ok : Valid Try.prog Γ e171 := valid_auto ok (vcons e70_ok (vcons e167_ok vnil)) fun a => (f171_raw a.1 a.2.1 a.2.2).trans (f171_form a.1 a.2.1 a.2.2)

def Sp.f170_pre (x0 : Int) (x1 : Int) (x2 : ByteArray) : Bool := true
def Sp.f170 (x0 : Int) (x1 : Int) (x2 : ByteArray) := (!(Sp.f171 x0 x1 x2).1, ())
noncomputable def e170 : Ent := { f := 170, ins := [Sh.agg [C0.dat (Ty.int IntKind.i64), C0.dat (Ty.int IntKind.i64), C0.dat Ty.str]], outs := [Sh.one (C0.dat Ty.bool)], upd := [], pre := fun a => true, spec := fun a => (Sp.f170 a.1 a.2.1 a.2.2).1, wrt := fun a => (Sp.f170 a.1 a.2.1 a.2.2).2 }
def f170_g (v : denS [Sh.one (C0.dat Ty.bool)] × denS []) : Res := ⟨mkS [Sh.one (C0.dat Ty.bool)] v.1, mkU [] v.2⟩
theorem f170_raw (x0 : Int) (x1 : Int) (x2 : ByteArray) : abody Γ (orc [e171]) 0 170 [XV.mk true [X.c (X0.dat (Ty.int IntKind.i64) x0), X.c (X0.dat (Ty.int IntKind.i64) x1), X.c (X0.dat Ty.str x2)]] = some (Res.mk [XV.mk false [X.c (X0.dat Ty.bool !(Sp.f171 x0 x1 x2).1)]] []) := by kernel_rfl
theorem f170_form (x0 : Int) (x1 : Int) (x2 : ByteArray) : (some (Res.mk [XV.mk false [X.c (X0.dat Ty.bool !(Sp.f171 x0 x1 x2).1)]] [])) = some (f170_g (Sp.f170 x0 x1 x2)) := by
  unfold Sp.f170
  exact rfl
theorem e170_ok : Valid Try.prog Γ e170 := valid_auto ok (vcons e171_ok vnil) fun a => (f170_raw a.1 a.2.1 a.2.2).trans (f170_form a.1 a.2.1 a.2.2)

def Sp.f86_pre (x0 : Int) (x1 : Int) (x2 : ByteArray) (x3 : Int) (x4 : Int) (x5 : ByteArray) : Bool := true
def Sp.f86 (x0 : Int) (x1 : Int) (x2 : ByteArray) (x3 : Int) (x4 : Int) (x5 : ByteArray) := (bif x0 != x3 then (false, ()) else (bif x1 != x4 then (false, ()) else (bif !x2.toList == x5.toList then (false, ()) else (true, ()))))
noncomputable def e86 : Ent := { f := 86, ins := [Sh.agg [C0.dat (Ty.int IntKind.i64), C0.dat (Ty.int IntKind.i64), C0.dat Ty.str], Sh.agg [C0.dat (Ty.int IntKind.i64), C0.dat (Ty.int IntKind.i64), C0.dat Ty.str]], outs := [Sh.one (C0.dat Ty.bool)], upd := [], pre := fun a => true, spec := fun a => (Sp.f86 a.1.1 a.1.2.1 a.1.2.2 a.2.1 a.2.2.1 a.2.2.2).1, wrt := fun a => (Sp.f86 a.1.1 a.1.2.1 a.1.2.2 a.2.1 a.2.2.1 a.2.2.2).2 }
def f86_g (v : denS [Sh.one (C0.dat Ty.bool)] × denS []) : Res := ⟨mkS [Sh.one (C0.dat Ty.bool)] v.1, mkU [] v.2⟩
theorem f86_raw (x0 : Int) (x1 : Int) (x2 : ByteArray) (x3 : Int) (x4 : Int) (x5 : ByteArray) : abody Γ (orc []) 0 86 [XV.mk true [X.c (X0.dat (Ty.int IntKind.i64) x0), X.c (X0.dat (Ty.int IntKind.i64) x1), X.c (X0.dat Ty.str x2)], XV.mk true [X.c (X0.dat (Ty.int IntKind.i64) x3), X.c (X0.dat (Ty.int IntKind.i64) x4), X.c (X0.dat Ty.str x5)]] = bif x0 != x3 then some (Res.mk [XV.mk false [X.c (X0.dat Ty.bool false)]] []) else bif x1 != x4 then some (Res.mk [XV.mk false [X.c (X0.dat Ty.bool false)]] []) else bif !x2.toList == x5.toList then some (Res.mk [XV.mk false [X.c (X0.dat Ty.bool false)]] []) else some (Res.mk [XV.mk false [X.c (X0.dat Ty.bool true)]] []) := by kernel_rfl
theorem f86_form (x0 : Int) (x1 : Int) (x2 : ByteArray) (x3 : Int) (x4 : Int) (x5 : ByteArray) : (bif x0 != x3 then some (Res.mk [XV.mk false [X.c (X0.dat Ty.bool false)]] []) else bif x1 != x4 then some (Res.mk [XV.mk false [X.c (X0.dat Ty.bool false)]] []) else bif !x2.toList == x5.toList then some (Res.mk [XV.mk false [X.c (X0.dat Ty.bool false)]] []) else some (Res.mk [XV.mk false [X.c (X0.dat Ty.bool true)]] [])) = some (f86_g (Sp.f86 x0 x1 x2 x3 x4 x5)) := by
  unfold Sp.f86
  exact (cond_plain f86_g (rfl) ((cond_plain f86_g (rfl) ((cond_plain f86_g (rfl) (rfl))))))
theorem e86_ok : Valid Try.prog Γ e86 := valid_auto ok vnil fun a => (f86_raw a.1.1 a.1.2.1 a.1.2.2 a.2.1 a.2.2.1 a.2.2.2).trans (f86_form a.1.1 a.1.2.1 a.1.2.2 a.2.1 a.2.2.1 a.2.2.2)

def Sp.f128x_pre (x0 : List Int) (x1 : Int) (x2 : Bool) : Bool := (bif x2 then true else (bif decide (x1 ≥ (↑x0.length : Int)) then true else decide ((0 : Int) ≤ IntKind.i64.wrap (IntKind.i64.wrap (x1 + (1 : Int)) - (1 : Int))) && decide (IntKind.i64.wrap (IntKind.i64.wrap (x1 + (1 : Int)) - (1 : Int)) < (↑x0.length : Int))))
def Sp.f128x (x0 : List Int) (x1 : Int) (x2 : Bool) := (bif x2 then ((0 : Int), x0, x1, true) else (bif decide (x1 ≥ (↑x0.length : Int)) then ((0 : Int), x0, x1, true) else (IntKind.i64.wrap (x0.getD (IntKind.i64.wrap (IntKind.i64.wrap (x1 + (1 : Int)) - (1 : Int))).toNat (0 : Int)), x0, IntKind.i64.wrap (x1 + (1 : Int)), x2)))
noncomputable def e128x : Ent := { f := 128, ins := [Sh.box (115 : Nat) [C0.dat (Ty.int IntKind.u8).slice, C0.dat (Ty.int IntKind.i64), C0.dat Ty.bool]], outs := [Sh.one (C0.dat (Ty.int IntKind.i64))], upd := [Sh.box (115 : Nat) [C0.dat (Ty.int IntKind.u8).slice, C0.dat (Ty.int IntKind.i64), C0.dat Ty.bool]], pre := fun a => Sp.f128x_pre a.1 a.2.1 a.2.2, spec := fun a => (Sp.f128x a.1 a.2.1 a.2.2).1, wrt := fun a => (Sp.f128x a.1 a.2.1 a.2.2).2 }
def f128x_g (v : denS [Sh.one (C0.dat (Ty.int IntKind.i64))] × denS [Sh.box (115 : Nat) [C0.dat (Ty.int IntKind.u8).slice, C0.dat (Ty.int IntKind.i64), C0.dat Ty.bool]]) : Res := ⟨mkS [Sh.one (C0.dat (Ty.int IntKind.i64))] v.1, mkU [Sh.box (115 : Nat) [C0.dat (Ty.int IntKind.u8).slice, C0.dat (Ty.int IntKind.i64), C0.dat Ty.bool]] v.2⟩
theorem f128x_raw (x0 : List Int) (x1 : Int) (x2 : Bool) : abody Γ (orc []) 0 128 [XV.mk false [X.box (115 : Nat) [X0.dat (Ty.int IntKind.u8).slice x0, X0.dat (Ty.int IntKind.i64) x1, X0.dat Ty.bool x2]]] = bif x2 then some (Res.mk [XV.mk false [X.c (X0.dat (Ty.int IntKind.i64) (0 : Int))]] [X.box (115 : Nat) [X0.dat (Ty.int IntKind.u8).slice x0, X0.dat (Ty.int IntKind.i64) x1, X0.dat Ty.bool true]]) else bif decide (x1 ≥ (↑x0.length : Int)) then some (Res.mk [XV.mk false [X.c (X0.dat (Ty.int IntKind.i64) (0 : Int))]] [X.box (115 : Nat) [X0.dat (Ty.int IntKind.u8).slice x0, X0.dat (Ty.int IntKind.i64) x1, X0.dat Ty.bool true]]) else chk (decide ((0 : Int) ≤ IntKind.i64.wrap (IntKind.i64.wrap (x1 + (1 : Int)) - (1 : Int))) && decide (IntKind.i64.wrap (IntKind.i64.wrap (x1 + (1 : Int)) - (1 : Int)) < (↑x0.length : Int))) (some (Res.mk [XV.mk false [X.c (X0.dat (Ty.int IntKind.i64) (IntKind.i64.wrap (x0.getD (IntKind.i64.wrap (IntKind.i64.wrap (x1 + (1 : Int)) - (1 : Int))).toNat (0 : Int))))]] [X.box (115 : Nat) [X0.dat (Ty.int IntKind.u8).slice x0, X0.dat (Ty.int IntKind.i64) (IntKind.i64.wrap (x1 + (1 : Int))), X0.dat Ty.bool x2]])) := by kernel_rfl
theorem f128x_form (x0 : List Int) (x1 : Int) (x2 : Bool) : (bif x2 then some (Res.mk [XV.mk false [X.c (X0.dat (Ty.int IntKind.i64) (0 : Int))]] [X.box (115 : Nat) [X0.dat (Ty.int IntKind.u8).slice x0, X0.dat (Ty.int IntKind.i64) x1, X0.dat Ty.bool true]]) else bif decide (x1 ≥ (↑x0.length : Int)) then some (Res.mk [XV.mk false [X.c (X0.dat (Ty.int IntKind.i64) (0 : Int))]] [X.box (115 : Nat) [X0.dat (Ty.int IntKind.u8).slice x0, X0.dat (Ty.int IntKind.i64) x1, X0.dat Ty.bool true]]) else chk (decide ((0 : Int) ≤ IntKind.i64.wrap (IntKind.i64.wrap (x1 + (1 : Int)) - (1 : Int))) && decide (IntKind.i64.wrap (IntKind.i64.wrap (x1 + (1 : Int)) - (1 : Int)) < (↑x0.length : Int))) (some (Res.mk [XV.mk false [X.c (X0.dat (Ty.int IntKind.i64) (IntKind.i64.wrap (x0.getD (IntKind.i64.wrap (IntKind.i64.wrap (x1 + (1 : Int)) - (1 : Int))).toNat (0 : Int))))]] [X.box (115 : Nat) [X0.dat (Ty.int IntKind.u8).slice x0, X0.dat (Ty.int IntKind.i64) (IntKind.i64.wrap (x1 + (1 : Int))), X0.dat Ty.bool x2]]))) = chk (Sp.f128x_pre x0 x1 x2) (some (f128x_g (Sp.f128x x0 x1 x2))) := by
  unfold Sp.f128x_pre Sp.f128x
  exact (cond_step f128x_g ((lift_plain (rfl))) ((cond_step f128x_g ((lift_plain (rfl))) ((chk_last (rfl))))))
theorem e128x_ok : Valid Try.prog Γ e128x := valid_auto ok vnil fun a => (f128x_raw a.1 a.2.1 a.2.2).trans (f128x_form a.1 a.2.1 a.2.2)

/-! A reader of bytes: how far it is, whether it failed. -/
def Sp.mid (xs : List Int) : Bool := Nat.ble xs.length 1048576
theorem mid_of {xs : List Int} (h : Sp.mid xs = true) : xs.length ≤ 1048576 := Nat.le_of_ble_eq_true h
theorem mid_mk {xs : List Int} (h : xs.length ≤ 1048576) : Sp.mid xs = true := Nat.ble_eq_true_of_le h
def Sp.upTo (at_ : Int) (n : Nat) : Bool := match at_ with | .ofNat k => Nat.ble k n | .negSucc _ => false
theorem upTo_of {a : Int} {n : Nat} (h : Sp.upTo a n = true) : 0 ≤ a ∧ a ≤ n := by
  cases a with
  | ofNat k =>
    have := Nat.le_of_ble_eq_true h
    exact ⟨Int.natCast_nonneg k, by show (k : Int) ≤ n; omega⟩
  | negSucc k => cases h
theorem upTo_mk {a : Int} {n : Nat} (h1 : 0 ≤ a) (h2 : a ≤ n) : Sp.upTo a n = true := by
  cases a with
  | ofNat k =>
    have h3 : (k : Int) ≤ n := h2
    exact Nat.ble_eq_true_of_le (by omega)
  | negSucc k => exact absurd h1 (by omega)
def Sp.rdOK (b : List Int) (at_ : Int) : Bool := yes2 (Sp.upTo at_ b.length) (yes2 (Sp.mid b) (Sp.isBytes b))
theorem rdOK_of {b : List Int} {a : Int} (h : Sp.rdOK b a = true) : 0 ≤ a ∧ a ≤ b.length ∧ b.length ≤ 1048576 ∧ Sp.isBytes b = true := by
  obtain ⟨h1, h2⟩ := yes2_true h
  obtain ⟨h2, h3⟩ := yes2_true h2
  obtain ⟨a1, a2⟩ := upTo_of h1
  exact ⟨a1, a2, mid_of h2, h3⟩
theorem rdOK_mk {b : List Int} {a : Int} (h0 : 0 ≤ a) (h1 : a ≤ b.length) (h2 : b.length ≤ 1048576) (h3 : Sp.isBytes b = true) : Sp.rdOK b a = true := by
  unfold Sp.rdOK
  rw [upTo_mk h0 h1, mid_mk h2, h3]; rfl
def Sp.oneV (b : List Int) (a : Int) (bad : Bool) : Int := bif bad then 0 else bif decide (a ≥ (b.length : Int)) then 0 else b.getD a.toNat 0
def Sp.oneA (b : List Int) (a : Int) (bad : Bool) : Int := bif bad then a else bif decide (a ≥ (b.length : Int)) then a else a + 1
def Sp.oneB (b : List Int) (a : Int) (bad : Bool) : Bool := bif bad then true else decide (a ≥ (b.length : Int))
theorem f128_eq {b : List Int} {a : Int} (bad : Bool) (h : Sp.rdOK b a = true) : Sp.f128x b a bad = (Sp.oneV b a bad, b, Sp.oneA b a bad, Sp.oneB b a bad) := by
  obtain ⟨a0, a1, h2, h3⟩ := rdOK_of h
  unfold Sp.f128x Sp.oneV Sp.oneA Sp.oneB
  cases bad with
  | true => rfl
  | false =>
    rw [cond_false, cond_false, cond_false, cond_false]
    by_cases hc : a ≥ (b.length : Int)
    · rw [decide_eq_true hc]; rfl
    · have hlt : a.toNat < b.length := by omega
      obtain ⟨b1, b2⟩ := isBytes_mem h3 (List.getElem_mem hlt)
      rw [decide_eq_false hc, wrap64 (n := a + 1) (by omega) (by omega), show a + 1 - 1 = a by omega, wrap64 (n := a) (by omega) (by omega), List.getD, List.getElem?_eq_getElem hlt, Option.getD_some, wrap64 (n := b[a.toNat]) (by omega) (by omega)]
      rfl
theorem f128_pre {b : List Int} {a : Int} (bad : Bool) (h : Sp.rdOK b a = true) : Sp.f128x_pre b a bad = true := by
  obtain ⟨a0, a1, h2, h3⟩ := rdOK_of h
  unfold Sp.f128x_pre
  cases bad with
  | true => rfl
  | false =>
    rw [cond_false]
    by_cases hc : a ≥ (b.length : Int)
    · rw [decide_eq_true hc]; rfl
    · rw [decide_eq_false hc, wrap64 (n := a + 1) (by omega) (by omega), show a + 1 - 1 = a by omega, wrap64 (n := a) (by omega) (by omega), decide_eq_true a0, decide_eq_true (show a < (b.length : Int) by omega)]
      rfl
noncomputable def e128 : Ent := { e128x with pre := fun a => Sp.rdOK a.1 a.2.1, spec := fun a => Sp.oneV a.1 a.2.1 a.2.2, wrt := fun a => (a.1, Sp.oneA a.1 a.2.1 a.2.2, Sp.oneB a.1 a.2.1 a.2.2) }
theorem e128_ok : Valid Try.prog Γ e128 := fun a ha => by
  have h := e128x_ok a (f128_pre a.2.2 ha)
  have e : e128x.res a = e128.res a := by
    have e2 := f128_eq a.2.2 ha
    show (⟨mkS e128x.outs (Sp.f128x a.1 a.2.1 a.2.2).1, mkU e128x.upd (Sp.f128x a.1 a.2.1 a.2.2).2⟩ : Res) = _
    rw [e2]
    rfl
  rw [e] at h
  exact h
def Sp.f130x_pre (x0 : List Int) (x1 : Int) (x2 : Bool) (x3 : Int) : Bool := (bif x2 then decide ((0 : Int) ≤ maxI (0 : Int) (minI x3 (8 : Int))) && decide (maxI (0 : Int) (minI x3 (8 : Int)) ≤ maxI (0 : Int) (minI x3 (8 : Int))) && decide (maxI (0 : Int) (minI x3 (8 : Int)) ≤ (140737488355328 : Int)) && decide ((1 : Int) * maxI (0 : Int) (minI x3 (8 : Int)) ≤ (140737488355328 : Int)) else (bif decide (x3 < (0 : Int)) then decide ((0 : Int) ≤ maxI (0 : Int) (minI x3 (8 : Int))) && decide (maxI (0 : Int) (minI x3 (8 : Int)) ≤ maxI (0 : Int) (minI x3 (8 : Int))) && decide (maxI (0 : Int) (minI x3 (8 : Int)) ≤ (140737488355328 : Int)) && decide ((1 : Int) * maxI (0 : Int) (minI x3 (8 : Int)) ≤ (140737488355328 : Int)) else (bif decide (IntKind.i64.wrap (x1 + x3) > (↑x0.length : Int)) then decide ((0 : Int) ≤ maxI (0 : Int) (minI x3 (8 : Int))) && decide (maxI (0 : Int) (minI x3 (8 : Int)) ≤ maxI (0 : Int) (minI x3 (8 : Int))) && decide (maxI (0 : Int) (minI x3 (8 : Int)) ≤ (140737488355328 : Int)) && decide ((1 : Int) * maxI (0 : Int) (minI x3 (8 : Int)) ≤ (140737488355328 : Int)) else decide ((0 : Int) ≤ IntKind.i64.wrap (IntKind.i64.wrap (x1 + x3) - x3)) && decide (IntKind.i64.wrap (IntKind.i64.wrap (x1 + x3) - x3) ≤ IntKind.i64.wrap (x1 + x3)) && decide (IntKind.i64.wrap (x1 + x3) ≤ (↑x0.length : Int)))))
def Sp.f130x (x0 : List Int) (x1 : Int) (x2 : Bool) (x3 : Int) := (bif x2 then (List.replicate (maxI (0 : Int) (minI x3 (8 : Int))).toNat (0 : Int), x0, x1, true) else (bif decide (x3 < (0 : Int)) then (List.replicate (maxI (0 : Int) (minI x3 (8 : Int))).toNat (0 : Int), x0, x1, true) else (bif decide (IntKind.i64.wrap (x1 + x3) > (↑x0.length : Int)) then (List.replicate (maxI (0 : Int) (minI x3 (8 : Int))).toNat (0 : Int), x0, x1, true) else (List.take ((IntKind.i64.wrap (x1 + x3)).toNat - (IntKind.i64.wrap (IntKind.i64.wrap (x1 + x3) - x3)).toNat) (List.drop (IntKind.i64.wrap (IntKind.i64.wrap (x1 + x3) - x3)).toNat x0), x0, IntKind.i64.wrap (x1 + x3), x2))))
noncomputable def e130x : Ent := { f := 130, ins := [Sh.box (115 : Nat) [C0.dat (Ty.int IntKind.u8).slice, C0.dat (Ty.int IntKind.i64), C0.dat Ty.bool], Sh.one (C0.dat (Ty.int IntKind.i64))], outs := [Sh.one (C0.dat (Ty.int IntKind.u8).slice)], upd := [Sh.box (115 : Nat) [C0.dat (Ty.int IntKind.u8).slice, C0.dat (Ty.int IntKind.i64), C0.dat Ty.bool]], pre := fun a => Sp.f130x_pre a.1.1 a.1.2.1 a.1.2.2 a.2, spec := fun a => (Sp.f130x a.1.1 a.1.2.1 a.1.2.2 a.2).1, wrt := fun a => (Sp.f130x a.1.1 a.1.2.1 a.1.2.2 a.2).2 }
def f130x_g (v : denS [Sh.one (C0.dat (Ty.int IntKind.u8).slice)] × denS [Sh.box (115 : Nat) [C0.dat (Ty.int IntKind.u8).slice, C0.dat (Ty.int IntKind.i64), C0.dat Ty.bool]]) : Res := ⟨mkS [Sh.one (C0.dat (Ty.int IntKind.u8).slice)] v.1, mkU [Sh.box (115 : Nat) [C0.dat (Ty.int IntKind.u8).slice, C0.dat (Ty.int IntKind.i64), C0.dat Ty.bool]] v.2⟩
theorem f130x_raw (x0 : List Int) (x1 : Int) (x2 : Bool) (x3 : Int) : abody Γ (orc []) 0 130 [XV.mk false [X.box (115 : Nat) [X0.dat (Ty.int IntKind.u8).slice x0, X0.dat (Ty.int IntKind.i64) x1, X0.dat Ty.bool x2]], XV.mk false [X.c (X0.dat (Ty.int IntKind.i64) x3)]] = bif x2 then chk (decide ((0 : Int) ≤ maxI (0 : Int) (minI x3 (8 : Int))) && decide (maxI (0 : Int) (minI x3 (8 : Int)) ≤ maxI (0 : Int) (minI x3 (8 : Int))) && decide (maxI (0 : Int) (minI x3 (8 : Int)) ≤ (140737488355328 : Int)) && decide ((1 : Int) * maxI (0 : Int) (minI x3 (8 : Int)) ≤ (140737488355328 : Int))) (some (Res.mk [XV.mk false [X.c (X0.dat (Ty.int IntKind.u8).slice (List.replicate (maxI (0 : Int) (minI x3 (8 : Int))).toNat (0 : Int)))]] [X.box (115 : Nat) [X0.dat (Ty.int IntKind.u8).slice x0, X0.dat (Ty.int IntKind.i64) x1, X0.dat Ty.bool true]])) else bif decide (x3 < (0 : Int)) then chk (decide ((0 : Int) ≤ maxI (0 : Int) (minI x3 (8 : Int))) && decide (maxI (0 : Int) (minI x3 (8 : Int)) ≤ maxI (0 : Int) (minI x3 (8 : Int))) && decide (maxI (0 : Int) (minI x3 (8 : Int)) ≤ (140737488355328 : Int)) && decide ((1 : Int) * maxI (0 : Int) (minI x3 (8 : Int)) ≤ (140737488355328 : Int))) (some (Res.mk [XV.mk false [X.c (X0.dat (Ty.int IntKind.u8).slice (List.replicate (maxI (0 : Int) (minI x3 (8 : Int))).toNat (0 : Int)))]] [X.box (115 : Nat) [X0.dat (Ty.int IntKind.u8).slice x0, X0.dat (Ty.int IntKind.i64) x1, X0.dat Ty.bool true]])) else bif decide (IntKind.i64.wrap (x1 + x3) > (↑x0.length : Int)) then chk (decide ((0 : Int) ≤ maxI (0 : Int) (minI x3 (8 : Int))) && decide (maxI (0 : Int) (minI x3 (8 : Int)) ≤ maxI (0 : Int) (minI x3 (8 : Int))) && decide (maxI (0 : Int) (minI x3 (8 : Int)) ≤ (140737488355328 : Int)) && decide ((1 : Int) * maxI (0 : Int) (minI x3 (8 : Int)) ≤ (140737488355328 : Int))) (some (Res.mk [XV.mk false [X.c (X0.dat (Ty.int IntKind.u8).slice (List.replicate (maxI (0 : Int) (minI x3 (8 : Int))).toNat (0 : Int)))]] [X.box (115 : Nat) [X0.dat (Ty.int IntKind.u8).slice x0, X0.dat (Ty.int IntKind.i64) x1, X0.dat Ty.bool true]])) else chk (decide ((0 : Int) ≤ IntKind.i64.wrap (IntKind.i64.wrap (x1 + x3) - x3)) && decide (IntKind.i64.wrap (IntKind.i64.wrap (x1 + x3) - x3) ≤ IntKind.i64.wrap (x1 + x3)) && decide (IntKind.i64.wrap (x1 + x3) ≤ (↑x0.length : Int))) (some (Res.mk [XV.mk false [X.c (X0.dat (Ty.int IntKind.u8).slice (List.take ((IntKind.i64.wrap (x1 + x3)).toNat - (IntKind.i64.wrap (IntKind.i64.wrap (x1 + x3) - x3)).toNat) (List.drop (IntKind.i64.wrap (IntKind.i64.wrap (x1 + x3) - x3)).toNat x0)))]] [X.box (115 : Nat) [X0.dat (Ty.int IntKind.u8).slice x0, X0.dat (Ty.int IntKind.i64) (IntKind.i64.wrap (x1 + x3)), X0.dat Ty.bool x2]])) := by kernel_rfl
theorem f130x_form (x0 : List Int) (x1 : Int) (x2 : Bool) (x3 : Int) : (bif x2 then chk (decide ((0 : Int) ≤ maxI (0 : Int) (minI x3 (8 : Int))) && decide (maxI (0 : Int) (minI x3 (8 : Int)) ≤ maxI (0 : Int) (minI x3 (8 : Int))) && decide (maxI (0 : Int) (minI x3 (8 : Int)) ≤ (140737488355328 : Int)) && decide ((1 : Int) * maxI (0 : Int) (minI x3 (8 : Int)) ≤ (140737488355328 : Int))) (some (Res.mk [XV.mk false [X.c (X0.dat (Ty.int IntKind.u8).slice (List.replicate (maxI (0 : Int) (minI x3 (8 : Int))).toNat (0 : Int)))]] [X.box (115 : Nat) [X0.dat (Ty.int IntKind.u8).slice x0, X0.dat (Ty.int IntKind.i64) x1, X0.dat Ty.bool true]])) else bif decide (x3 < (0 : Int)) then chk (decide ((0 : Int) ≤ maxI (0 : Int) (minI x3 (8 : Int))) && decide (maxI (0 : Int) (minI x3 (8 : Int)) ≤ maxI (0 : Int) (minI x3 (8 : Int))) && decide (maxI (0 : Int) (minI x3 (8 : Int)) ≤ (140737488355328 : Int)) && decide ((1 : Int) * maxI (0 : Int) (minI x3 (8 : Int)) ≤ (140737488355328 : Int))) (some (Res.mk [XV.mk false [X.c (X0.dat (Ty.int IntKind.u8).slice (List.replicate (maxI (0 : Int) (minI x3 (8 : Int))).toNat (0 : Int)))]] [X.box (115 : Nat) [X0.dat (Ty.int IntKind.u8).slice x0, X0.dat (Ty.int IntKind.i64) x1, X0.dat Ty.bool true]])) else bif decide (IntKind.i64.wrap (x1 + x3) > (↑x0.length : Int)) then chk (decide ((0 : Int) ≤ maxI (0 : Int) (minI x3 (8 : Int))) && decide (maxI (0 : Int) (minI x3 (8 : Int)) ≤ maxI (0 : Int) (minI x3 (8 : Int))) && decide (maxI (0 : Int) (minI x3 (8 : Int)) ≤ (140737488355328 : Int)) && decide ((1 : Int) * maxI (0 : Int) (minI x3 (8 : Int)) ≤ (140737488355328 : Int))) (some (Res.mk [XV.mk false [X.c (X0.dat (Ty.int IntKind.u8).slice (List.replicate (maxI (0 : Int) (minI x3 (8 : Int))).toNat (0 : Int)))]] [X.box (115 : Nat) [X0.dat (Ty.int IntKind.u8).slice x0, X0.dat (Ty.int IntKind.i64) x1, X0.dat Ty.bool true]])) else chk (decide ((0 : Int) ≤ IntKind.i64.wrap (IntKind.i64.wrap (x1 + x3) - x3)) && decide (IntKind.i64.wrap (IntKind.i64.wrap (x1 + x3) - x3) ≤ IntKind.i64.wrap (x1 + x3)) && decide (IntKind.i64.wrap (x1 + x3) ≤ (↑x0.length : Int))) (some (Res.mk [XV.mk false [X.c (X0.dat (Ty.int IntKind.u8).slice (List.take ((IntKind.i64.wrap (x1 + x3)).toNat - (IntKind.i64.wrap (IntKind.i64.wrap (x1 + x3) - x3)).toNat) (List.drop (IntKind.i64.wrap (IntKind.i64.wrap (x1 + x3) - x3)).toNat x0)))]] [X.box (115 : Nat) [X0.dat (Ty.int IntKind.u8).slice x0, X0.dat (Ty.int IntKind.i64) (IntKind.i64.wrap (x1 + x3)), X0.dat Ty.bool x2]]))) = chk (Sp.f130x_pre x0 x1 x2 x3) (some (f130x_g (Sp.f130x x0 x1 x2 x3))) := by
  unfold Sp.f130x_pre Sp.f130x
  exact (cond_step f130x_g ((chk_last (rfl))) ((cond_step f130x_g ((chk_last (rfl))) ((cond_step f130x_g ((chk_last (rfl))) ((chk_last (rfl))))))))
theorem e130x_ok : Valid Try.prog Γ e130x := valid_auto ok vnil fun a => (f130x_raw a.1.1 a.1.2.1 a.1.2.2 a.2).trans (f130x_form a.1.1 a.1.2.1 a.1.2.2 a.2)

def Sp.takeB (b : List Int) (a : Int) (bad : Bool) (n : Int) : Bool := bif bad then true else bif decide (n < 0) then true else decide (a + n > (b.length : Int))
def Sp.takeV (b : List Int) (a : Int) (bad : Bool) (n : Int) : List Int := bif Sp.takeB b a bad n then List.replicate (maxI 0 (minI n 8)).toNat 0 else (b.drop a.toNat).take n.toNat
def Sp.takeA (b : List Int) (a : Int) (bad : Bool) (n : Int) : Int := bif Sp.takeB b a bad n then a else a + n
theorem f130_eq {b : List Int} {a n : Int} (bad : Bool) (h : Sp.rdOK b a = true) (hn : n ≤ 1048576) : Sp.f130x b a bad n = (Sp.takeV b a bad n, b, Sp.takeA b a bad n, Sp.takeB b a bad n) := by
  obtain ⟨a0, a1, h2, h3⟩ := rdOK_of h
  unfold Sp.f130x Sp.takeV Sp.takeA Sp.takeB
  cases bad with
  | true => rfl
  | false =>
    by_cases hc : n < 0
    · rw [decide_eq_true hc]; rfl
    · rw [decide_eq_false hc, cond_false, cond_false, cond_false, cond_false, wrap64 (n := a + n) (by omega) (by omega), show a + n - n = a by omega, wrap64 (n := a) (by omega) (by omega)]
      by_cases hd : a + n > (b.length : Int)
      · rw [decide_eq_true hd]; rfl
      · rw [decide_eq_false hd, show (a + n).toNat - a.toNat = n.toNat by omega]; rfl
theorem f130_pre {b : List Int} {a n : Int} (bad : Bool) (h : Sp.rdOK b a = true) (hn : n ≤ 1048576) : Sp.f130x_pre b a bad n = true := by
  obtain ⟨a0, a1, h2, h3⟩ := rdOK_of h
  have hm0 : (0 : Int) ≤ maxI 0 (minI n 8) := by unfold maxI; split <;> omega
  have hm1 : maxI 0 (minI n 8) ≤ 8 := by unfold maxI minI; split <;> split <;> omega
  unfold Sp.f130x_pre
  rw [decide_eq_true hm0, decide_eq_true (Int.le_refl (maxI 0 (minI n 8))), decide_eq_true (show maxI 0 (minI n 8) ≤ 140737488355328 by omega), decide_eq_true (show 1 * maxI 0 (minI n 8) ≤ 140737488355328 by omega)]
  cases bad with
  | true => rfl
  | false =>
    by_cases hc : n < 0
    · rw [decide_eq_true hc]; rfl
    · rw [decide_eq_false hc, cond_false, cond_false, wrap64 (n := a + n) (by omega) (by omega), show a + n - n = a by omega, wrap64 (n := a) (by omega) (by omega)]
      by_cases hd : a + n > (b.length : Int)
      · rw [decide_eq_true hd]; rfl
      · rw [decide_eq_false hd, decide_eq_true a0, decide_eq_true (show a ≤ a + n by omega), decide_eq_true (show a + n ≤ (b.length : Int) by omega)]; rfl
def Sp.le20 (n : Int) : Bool := match n with | .ofNat k => Nat.ble k 1048576 | .negSucc _ => true
theorem le20_of {n : Int} (h : Sp.le20 n = true) : n ≤ 1048576 := by
  cases n with
  | ofNat k =>
    have := Nat.le_of_ble_eq_true h
    show (k : Int) ≤ 1048576
    omega
  | negSucc k => omega
theorem le20_mk {n : Int} (h : n ≤ 1048576) : Sp.le20 n = true := by
  cases n with
  | ofNat k =>
    have h3 : (k : Int) ≤ 1048576 := h
    exact Nat.ble_eq_true_of_le (by omega)
  | negSucc k => rfl
def Sp.tkOK (b : List Int) (a n : Int) : Bool := yes2 (Sp.rdOK b a) (Sp.le20 n)
theorem tkOK_mk {b : List Int} {a n : Int} (h1 : Sp.rdOK b a = true) (h2 : n ≤ 1048576) : Sp.tkOK b a n = true := by
  unfold Sp.tkOK; rw [h1, le20_mk h2]; rfl
noncomputable def e130 : Ent := { e130x with pre := fun a => Sp.tkOK a.1.1 a.1.2.1 a.2, spec := fun a => Sp.takeV a.1.1 a.1.2.1 a.1.2.2 a.2, wrt := fun a => (a.1.1, Sp.takeA a.1.1 a.1.2.1 a.1.2.2 a.2, Sp.takeB a.1.1 a.1.2.1 a.1.2.2 a.2) }
theorem e130_ok : Valid Try.prog Γ e130 := fun a ha => by
  obtain ⟨h1, h2⟩ := yes2_true ha
  have h := e130x_ok a (f130_pre a.1.2.2 h1 (le20_of h2))
  have e : e130x.res a = e130.res a := by
    have e2 := f130_eq a.1.2.2 h1 (le20_of h2)
    show (⟨mkS e130x.outs (Sp.f130x a.1.1 a.1.2.1 a.1.2.2 a.2).1, mkU e130x.upd (Sp.f130x a.1.1 a.1.2.1 a.1.2.2 a.2).2⟩ : Res) = _
    rw [e2]
    rfl
  rw [e] at h
  exact h
/-! The number of eight bytes, its highest bit turned. -/
def Sp.of8 (xs : List Int) : Int := (Sp.num 0 (xs.take 8) : Int) - 9223372036854775808
def Sp.has8 (xs : List Int) : Bool := yes2 (Nat.ble 8 xs.length) (Sp.isBytes xs)
theorem has8_of {xs : List Int} (h : Sp.has8 xs = true) : 8 ≤ xs.length ∧ Sp.isBytes xs = true := by
  obtain ⟨h1, h2⟩ := yes2_true h
  exact ⟨Nat.le_of_ble_eq_true h1, h2⟩
theorem i64_cases (n : Int) (h0 : 0 ≤ n) (h1 : n < 18446744073709551616) : IntKind.i64.wrap n = if n < 9223372036854775808 then n else n - 18446744073709551616 := by
  simp only [IntKind.wrap, IntKind.signed, IntKind.bits]
  simp
  split <;> omega
theorem ofInt64 (n : Int) : (BitVec.ofInt 64 n).toNat = (n % 18446744073709551616).toNat := by
  rw [BitVec.toNat_ofInt]
  rfl
theorem ori64 {a b : Nat} (ha : a < 2 ^ 56) (hb : b < 256) : IntKind.i64.wrap (((BitVec.ofInt 64 (IntKind.i64.wrap ((a : Int) * 256)) ||| BitVec.ofInt 64 (IntKind.i64.wrap (b : Int))).toNat : Nat) : Int) = IntKind.i64.wrap ((a * 256 + b : Nat) : Int) := by
  have e1 : (BitVec.ofInt 64 (IntKind.i64.wrap ((a : Int) * 256))).toNat = a * 256 := by
    rw [ofInt64, i64_cases _ (by omega) (by omega)]
    split <;> omega
  have e2 : (BitVec.ofInt 64 (IntKind.i64.wrap (b : Int))).toNat = b := by
    rw [ofInt64, wrap64 (by omega) (by omega)]
    omega
  have e : a * 256 ||| b = a * 256 + b := by
    have := Nat.shiftLeft_add_eq_or_of_lt (i := 8) (show b < 2 ^ 8 by omega) a
    rw [Nat.shiftLeft_eq] at this
    exact this.symm
  rw [BitVec.toNat_or, e1, e2, e]
theorem xor128 {a : Int} (h0 : 0 ≤ a) (h1 : a < 256) : IntKind.i64.wrap (IntKind.u8.wrap (((BitVec.ofInt 8 a ^^^ BitVec.ofInt 8 (128 : Int)).toNat : Nat) : Int)) = (((a.toNat ^^^ 128 : Nat)) : Int) ∧ a.toNat ^^^ 128 < 256 := by
  have hx : a.toNat ^^^ 128 < 2 ^ 8 := Nat.xor_lt_two_pow (by omega) (by omega)
  have ea : a = ((a.toNat : Nat) : Int) := by omega
  refine ⟨?_, hx⟩
  rw [ea, BitVec.toNat_xor, ofInt_toNat, show (BitVec.ofInt 8 (128 : Int)).toNat = 128 from rfl, Nat.mod_eq_of_lt (by omega), Int.toNat_natCast, wrap8, wrap64 (by omega) (by omega)]
  omega
theorem xor128_val : ∀ a : Fin 256, a.val ^^^ 128 = if a.val < 128 then a.val + 128 else a.val - 128 := by decide +kernel
noncomputable def f129_L0 (n m0 : Nat) (y0 : List Int) (y1 : Int) (y2 : Int) : Option Res := loopAt Γ (orc []) n (129 : Nat) (0 : Nat) [] [Pth.r, Pth.r, Pth.l, Pth.r, Pth.b] m0 (St.mk [Slot.val (Val.one (Cell.dat (Ty.int IntKind.u8).slice y0)), Slot.nix, Slot.nix, Slot.val (Val.one (Cell.dat (Ty.int IntKind.i64) y1)), Slot.val (Val.one (Cell.dat (Ty.int IntKind.i64) y2)), Slot.nix, Slot.nix, Slot.nix, Slot.nix, Slot.nix, Slot.nix, Slot.nix, Slot.nix, Slot.nix, Slot.nix, Slot.nix, Slot.nix, Slot.nix, Slot.nix, Slot.nix, Slot.nix, Slot.nix, Slot.nix] [])
theorem f129_L0_step (n m0 : Nat) (y0 : List Int) (y1 : Int) (y2 : Int) : f129_L0 n (m0 + 1) y0 y1 y2 = bif decide (y2 < (8 : Int)) then chk (decide ((0 : Int) ≤ y2) && decide (y2 < (↑y0.length : Int))) (f129_L0 n m0 y0 (IntKind.i64.wrap (↑(BitVec.ofInt (64 : Nat) (IntKind.i64.wrap (y1 * (256 : Int))) ||| BitVec.ofInt (64 : Nat) (IntKind.i64.wrap (y0.getD y2.toNat (0 : Int)))).toNat : Int)) (IntKind.i64.wrap (y2 + (1 : Int)))) else some (Res.mk [XV.mk false [X.c (X0.dat (Ty.int IntKind.i64) y1)]] []) := by kernel_rfl
theorem f129_raw (n : Nat) (x0 : List Int) : abody Γ (orc []) n 129 [XV.mk false [X.c (X0.dat (Ty.int IntKind.u8).slice x0)]] = chk (decide ((0 : Int) < (↑x0.length : Int))) (f129_L0 n n x0 (IntKind.i64.wrap (IntKind.u8.wrap (↑(BitVec.ofInt (8 : Nat) (x0.getD (0 : Nat) (0 : Int)) ^^^ BitVec.ofInt (8 : Nat) (128 : Int)).toNat : Int))) (1 : Int)) := by kernel_rfl

noncomputable def e129 : Ent := { f := 129, ins := [Sh.one (cL tB)], outs := [Sh.one cI], upd := [], pre := fun a => Sp.has8 a, spec := fun a => Sp.of8 a, wrt := fun _ => () }
theorem f129_loop (n : Nat) (xs : List Int) (hl : 8 ≤ xs.length) (hb : Sp.isBytes xs = true) : ∀ (d k m r : Nat), k + d = 8 → d < m → r < 256 ^ k →
    f129_L0 n m xs (IntKind.i64.wrap (r : Int)) (↑k : Int) = some (rI (IntKind.i64.wrap (Sp.num r ((xs.drop k).take d) : Int))) := by
  intro d
  induction d with
  | zero =>
    intro k m r hk hm hr
    obtain ⟨m, rfl⟩ := succ_of hm
    rw [f129_L0_step, decide_eq_false (by omega), cond_false]
    rfl
  | succ d ih =>
    intro k m r hk hm hr
    obtain ⟨m, rfl⟩ := succ_of hm
    have hlt : k < xs.length := by omega
    obtain ⟨b1, b2⟩ := isBytes_mem hb (List.getElem_mem hlt)
    have e0 : xs.getD (k : Int).toNat 0 = xs[k] := by rw [Int.toNat_natCast, List.getD, List.getElem?_eq_getElem hlt, Option.getD_some]
    have e1 : xs[k] = ((xs[k].toNat : Nat) : Int) := by omega
    have hr2 : r < 2 ^ 56 := Nat.lt_of_lt_of_le hr (Nat.le_trans (Nat.pow_le_pow_right (by omega) (show k ≤ 7 by omega)) (by decide))
    have e2 := ori64 hr2 (show xs[k].toNat < 256 by omega)
    rw [← e1] at e2
    have e3 : IntKind.i64.wrap (r : Int) = r := wrap64 (by omega) (by omega)
    rw [f129_L0_step, decide_eq_true (show (k : Int) < 8 by omega), decide_eq_true (show (0 : Int) ≤ k by omega), decide_eq_true (show (k : Int) < xs.length by omega), List.drop_eq_getElem_cons hlt, e0, e3, e2, Bool.and_self, chkT, cond_true, wrap64 (n := (k : Int) + 1) (by omega) (by omega)]
    exact ih (k + 1) m _ (by omega) (by omega) (by rw [Nat.pow_succ]; omega)
theorem num_acc : ∀ (l : List Int) (r s : Nat), Sp.num (r + s) l = r * 256 ^ l.length + Sp.num s l
  | [], r, s => by simp [Sp.num]
  | x :: l, r, s => by
    show Sp.num ((r + s) * 256 + x.toNat) l = _ + Sp.num (s * 256 + x.toNat) l
    rw [show (r + s) * 256 + x.toNat = r * 256 + (s * 256 + x.toNat) by omega, num_acc l, List.length_cons, Nat.pow_succ, Nat.mul_assoc, Nat.mul_comm 256]
theorem p7 : 256 ^ 7 = 72057594037927936 := by decide +kernel
theorem of8_end {a t : Nat} (ha : a < 256) (ht : t < (0 + 1) * 72057594037927936) : IntKind.i64.wrap (((if a < 128 then a + 128 else a - 128) * 72057594037927936 + t : Nat) : Int) = ((a * 72057594037927936 + t : Nat) : Int) - 9223372036854775808 := by
  by_cases h : a < 128
  · rw [if_pos h, i64_cases _ (by omega) (by omega), if_neg (by omega)]
    omega
  · rw [if_neg h, i64_cases _ (by omega) (by omega), if_pos (by omega)]
    omega
theorem e129_core (xs : List Int) (h : Sp.has8 xs = true) : ∃ n, abody Γ (orc []) n 129 [XV.mk false [X.c (X0.dat (Ty.int IntKind.u8).slice xs)]] = some (rI (Sp.of8 xs)) := by
  obtain ⟨h1, h2⟩ := has8_of h
  refine ⟨8, (f129_raw 8 xs).trans ?_⟩
  have hlt : 0 < xs.length := by omega
  obtain ⟨b1, b2⟩ := isBytes_mem h2 (List.getElem_mem hlt)
  obtain ⟨x1, x2⟩ := xor128 b1 b2
  have e0 : xs.getD 0 0 = xs[0] := by rw [List.getD, List.getElem?_eq_getElem hlt, Option.getD_some]
  have hw : ((xs[0].toNat ^^^ 128 : Nat) : Int) = IntKind.i64.wrap ((xs[0].toNat ^^^ 128 : Nat) : Int) := (wrap64 (by omega) (by omega)).symm
  rw [decide_eq_true (show (0 : Int) < xs.length by omega), chkT, e0, x1, hw]
  refine (f129_loop 8 xs h1 h2 7 1 8 (xs[0].toNat ^^^ 128) rfl (by omega) x2).trans ?_
  have ht : xs.take 8 = xs[0] :: (xs.drop 1).take 7 := by
    conv => lhs; rw [← List.drop_zero (l := xs), List.drop_eq_getElem_cons hlt]
    rfl
  have hb7 : Sp.isBytes ((xs.drop 1).take 7) = true := isBytes_take (isBytes_drop h2 _) _
  have hlen : ((xs.drop 1).take 7).length = 7 := by rw [List.length_take, List.length_drop]; omega
  have hn := num_lt ((xs.drop 1).take 7) 0 hb7
  have ha := num_acc ((xs.drop 1).take 7) (xs[0].toNat ^^^ 128) 0
  have hc := num_acc ((xs.drop 1).take 7) xs[0].toNat 0
  rw [hlen, p7] at hn ha hc
  rw [Nat.add_zero] at ha hc
  have hv := xor128_val ⟨xs[0].toNat, by omega⟩
  simp only at hv
  have hof : Sp.of8 xs = (Sp.num xs[0].toNat ((xs.drop 1).take 7) : Int) - 9223372036854775808 := by
    unfold Sp.of8
    rw [ht]
    show (Sp.num (0 * 256 + xs[0].toNat) _ : Int) - _ = _
    rw [Nat.zero_mul, Nat.zero_add]
  rw [hof, ha, hc, hv]
  exact congrArg (fun z => some (rI z)) (of8_end (by omega) hn)
theorem e129_ok : Valid Try.prog Γ e129 := valid_of ok vnil fun a ha => e129_core a ha
end Go.Proofs.GR.T
