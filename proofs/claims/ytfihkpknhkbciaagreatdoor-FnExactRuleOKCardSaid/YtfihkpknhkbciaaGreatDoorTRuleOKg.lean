/-
  No statement is proved here: what the functions of the law answer, told as plain functions, and that the law's answer is always true.
  No condition.
-/
import Derived.Test.YtfihkpknhkbciaaGreatDoorTRuleOKf
set_option maxRecDepth 3000000
set_option maxHeartbeats 100000000
namespace Go.Proofs.GR.T
open Go Go.Proofs Go.Proofs.GR
theorem f79_has {i : Int} {n : Nat} (h : n ≤ 9223372036854775807) : (Sp.f79 i (0 : Int) (IntKind.i64.wrap ((n : Int) - (1 : Int)))).1 = (decide ((0 : Int) ≤ i) && decide (i < (n : Int))) := by
  rw [wrap64 (by omega) (by omega)]
  show (bif decide (i ≥ (0 : Int)) then (decide (i ≤ (n : Int) - 1), ()) else (false, ())).1 = _
  by_cases h0 : 0 ≤ i
  · rw [decide_eq_true h0, cond_true, Bool.true_and]
    exact decide_eq_decide.2 ⟨fun h => by omega, fun h => by omega⟩
  · rw [decide_eq_false h0]
    rfl
def Sp.tAt (xs : List VTb) (i : Int) : VTb := xs.getD i.toNat (ByteArray.mk #[], [], (0 : Int), [])
def Sp.f1154 (x0 : ByteArray) := (!x0.toList == x0.toList, ())
noncomputable def e1154 : Ent := { f := 202, ins := [Sh.one (C0.dat Ty.str)], outs := [Sh.one (C0.dat Ty.bool)], upd := [], pre := fun a => true, spec := fun a => (Sp.f1154 a).1, wrt := fun a => (Sp.f1154 a).2 }
def f1154_g (v : denS [Sh.one (C0.dat Ty.bool)] × denS []) : Res := ⟨mkS [Sh.one (C0.dat Ty.bool)] v.1, mkU [] v.2⟩
theorem f1154_form (x0 : ByteArray) : abody Γ (orc []) 0 202 [ZX Ty.str x0] = some (f1154_g (Sp.f1154 x0)) := by
  refine Eq.trans (b := some (Res.mk [XV.mk false [X.c (X0.dat Ty.bool !x0.toList == x0.toList)]] [])) (by kernel_rfl) ?_
  unfold Sp.f1154
  exact rfl
theorem e1154_ok : Valid PP Γ e1154 := valid_auto ok vnil fun a => f1154_form a

def Sp.f1118 (x0 x1 : ByteArray) := (bif (Sp.f1154 x0).1 then (bif (Sp.f1154 x1).1 then ((0 : Int), ()) else ((-1 : Int), ())) else (bif (Sp.f1154 x1).1 then ((1 : Int), ()) else (bif Op.bytesLess x0.toList x1.toList then ((-1 : Int), ()) else (bif !(Op.bytesLess x0.toList x1.toList || x0.toList == x1.toList) then ((1 : Int), ()) else ((0 : Int), ())))))
noncomputable def e1118 : Ent := { f := 142, ins := [Sh.one (C0.dat Ty.str), Sh.one (C0.dat Ty.str)], outs := [Sh.one ZI], upd := [], pre := fun a => true, spec := fun a => (Sp.f1118 a.1 a.2).1, wrt := fun a => (Sp.f1118 a.1 a.2).2 }
def f1118_g (v : denS [Sh.one ZI] × denS []) : Res := ⟨mkS [Sh.one ZI] v.1, mkU [] v.2⟩
theorem f1118_form (x0 x1 : ByteArray) : abody Γ (orc [e1154]) 0 142 [ZX Ty.str x0, ZX Ty.str x1] = some (f1118_g (Sp.f1118 x0 x1)) := by
  refine Eq.trans (b := bif (Sp.f1154 x0).1 then bif (Sp.f1154 x1).1 then ZJ (0 : Int) else ZJ (-1 : Int) else bif (Sp.f1154 x1).1 then ZJ (1 : Int) else bif Op.bytesLess x0.toList x1.toList then ZJ (-1 : Int) else bif !(Op.bytesLess x0.toList x1.toList || x0.toList == x1.toList) then ZJ (1 : Int) else ZJ (0 : Int)) (by kernel_rfl) ?_
  unfold Sp.f1118
  exact (cond_plain f1118_g ((cond_plain f1118_g (rfl) (rfl))) ((cond_plain f1118_g (rfl) ((cond_plain f1118_g (rfl) ((cond_plain f1118_g (rfl) (rfl))))))))
theorem e1118_ok : Valid PP Γ e1118 := valid_auto ok (vcons e1154_ok vnil) fun a => f1118_form a.1 a.2

def Sp.f1117 (x0 : ByteArray) (x1 : List (ByteArray × Int × Bool)) (x2 : Int) (x3 : List (ByteArray × List Int)) (x4 : ByteArray) := ((Sp.f1118 x0 x4).1, ())
noncomputable def e1117 : Ent := { f := 171, ins := [Sh.agg [C0.dat Ty.str, C0.dat (Ty.str.pair (Zi.pair Ty.bool)).slice, C0.dat Zi, C0.dat (Ty.str.pair Zi.slice).slice], Sh.one (C0.dat Ty.str)], outs := [Sh.one ZI], upd := [], pre := fun a => true, spec := fun a => (Sp.f1117 a.1.1 a.1.2.1 a.1.2.2.1 a.1.2.2.2 a.2).1, wrt := fun a => (Sp.f1117 a.1.1 a.1.2.1 a.1.2.2.1 a.1.2.2.2 a.2).2 }
def f1117_g (v : denS [Sh.one ZI] × denS []) : Res := ⟨mkS [Sh.one ZI] v.1, mkU [] v.2⟩
theorem f1117_form (x0 : ByteArray) (x1 : List (ByteArray × Int × Bool)) (x2 : Int) (x3 : List (ByteArray × List Int)) (x4 : ByteArray) : abody Γ (orc [e1118]) 0 171 [XV.mk true [ZC Ty.str x0, ZC (Ty.str.pair (Zi.pair Ty.bool)).slice x1, ZC Zi x2, ZC (Ty.str.pair Zi.slice).slice x3], ZX Ty.str x4] = some (f1117_g (Sp.f1117 x0 x1 x2 x3 x4)) := by
  refine Eq.trans (b := ZJ (Sp.f1118 x0 x4).1) (by kernel_rfl) ?_
  unfold Sp.f1117
  exact rfl
theorem e1117_ok : Valid PP Γ e1117 := valid_auto ok (vcons e1118_ok vnil) fun a => f1117_form a.1.1 a.1.2.1 a.1.2.2.1 a.1.2.2.2 a.2

end Go.Proofs.GR.T

