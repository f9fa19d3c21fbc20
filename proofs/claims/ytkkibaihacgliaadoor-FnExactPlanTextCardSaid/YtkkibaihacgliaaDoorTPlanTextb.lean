/-
  No statement is proved here: what the functions of the law answer, told as plain functions, and that the law's answer is always true.
  No condition.
-/
import Derived.Test.YtkkibaihacgliaaDoorTPlanTexta
set_option maxRecDepth 3000000
set_option maxHeartbeats 100000000
namespace Go.Proofs.GR.T
open Go Go.Proofs Go.Proofs.GR
def Sp.prevT (pre : List VTb) : ByteArray := (pre.getD (pre.length - 1) (ByteArray.mk #[], [], (0 : Int), [])).1
def Sp.okT (x : VTb) : Bool := Sp.tbOK x.1 x.2.1 x.2.2.1 x.2.2.2
def Sp.catP (pre : List VTb) (x : VTb) : Bool := bif !Sp.okT x then false else bif decide (0 < pre.length) then Sp.lessS (Sp.prevT pre) x.1 else true
def Sp.catOK (xs : List VTb) : Bool := bif decide ((xs.length : Int) > (4096 : Int)) then false else bif decide ((xs.length : Int) > (6 : Int)) then false else Sp.allP Sp.catP [] xs
theorem prevT_take {xs : List VTb} {k : Nat} (h : k < xs.length) (h0 : 0 < k) : Sp.prevT (xs.take k) = (xs.getD (k - 1) (ByteArray.mk #[], [], (0 : Int), [])).1 := by
  unfold Sp.prevT
  rw [List.length_take, Nat.min_eq_left (Nat.le_of_lt h), List.getD, List.getD, List.getElem?_take_of_lt (by omega)]
noncomputable def e140 : Ent := { f := n140, ins := [Sh.one (cL tTb)], outs := [Sh.one cB], upd := [], pre := fun _ => true, spec := fun a => Sp.catOK a, wrt := fun _ => () }
theorem e140_core (xs : List VTb) : ∃ n, abody Γ (orc [e173]) n n140 [XV.mk false [X.c (X0.dat (Ty.slice tTb) xs)]] = some (rBo (Sp.catOK xs)) := by
  refine ⟨xs.length + 1, (f140_raw _ xs).trans ?_⟩
  unfold Sp.catOK
  cases decide ((xs.length : Int) > (4096 : Int)) with
  | true => rfl
  | false =>
  by_cases h6 : (xs.length : Int) > (6 : Int)
  · rw [decide_eq_true h6]; rfl
  rw [decide_eq_false h6, cond_false, cond_false, cond_false, cond_false]
  have L0 := allP_end (p := Sp.catP) (z := some (rBo true)) (F := some (rBo false)) xs (fun m k => f140_L0 (xs.length + 1) m xs k) (fun m k hk => by
    show f140_L0 _ _ _ _ = _
    rw [f140_L0_step, nat_ge hk, cond_false]) (fun m k h _ => by
    show f140_L0 _ _ _ _ = _
    have hk : (xs.take k).length = k := by rw [List.length_take]; omega
    rw [f140_L0_step, nat_lt h, cond_true, guard0, chkT, chkT, getD_nat xs k _ h, next64 h (by omega)]
    unfold Sp.catP
    rw [hk]
    show (bif !Sp.okT xs[k] then _ else _) = _
    cases Sp.okT xs[k] with
    | false => rfl
    | true =>
      rw [Bool.not_true, cond_false, cond_false]
      by_cases h0 : 0 < k
      · rw [decide_eq_true (show (k : Int) > 0 by omega), decide_eq_true h0, cond_true, cond_true, prevT_take h h0]
        have e : IntKind.i64.wrap ((k : Int) - 1) = ((k - 1 : Nat) : Int) := (wrap64 (by omega) (by omega)).trans (by omega)
        rw [e, guard2 (show k - 1 < xs.length by omega), chkT, Int.toNat_natCast]
        show (bif !Sp.lessS _ _ then _ else _) = _
        rfl
      · rw [decide_eq_false (show ¬ (k : Int) > 0 by omega), decide_eq_false h0]
        rfl) _ (Nat.lt_succ_self _)
  refine L0.trans ?_
  cases Sp.allP Sp.catP [] xs <;> rfl
theorem e140_ok : Valid PP Γ e140 := valid_of ok (vcons e173_ok vnil) fun a _ => e140_core a
def Sp.f1086_pre (x0 : ByteArray) (x1 : Int) (x2 : ByteArray) (x3 : ByteArray) (x4 : Int) (x5 : List (ByteArray × List (ByteArray × Int × Bool) × Int × List (ByteArray × List Int))) : Bool := (bif decide (Sp.idx (Sp.nmTb x0) x5 (0 : Int) ≥ (0 : Int)) then decide ((0 : Int) ≤ Sp.idx (Sp.nmTb x0) x5 (0 : Int)) && decide (Sp.idx (Sp.nmTb x0) x5 (0 : Int) < (↑x5.length : Int)) else true)
def Sp.f1086 (x0 : ByteArray) (x1 : Int) (x2 : ByteArray) (x3 : ByteArray) (x4 : Int) (x5 : List (ByteArray × List (ByteArray × Int × Bool) × Int × List (ByteArray × List Int))) := (bif decide (Sp.idx (Sp.nmTb x0) x5 (0 : Int) ≥ (0 : Int)) then (bif (Sp.f79 x1 (-1 : Int) (IntKind.i64.wrap ((↑(x5.getD (Sp.idx (Sp.nmTb x0) x5 (0 : Int)).toNat (ByteArray.mk #[], [], (0 : Int), [])).2.2.2.length : Int) - (1 : Int)))).1 then (bif decide ((↑x2.size : Int) ≤ (200 : Int)) then (bif decide ((↑x3.size : Int) ≤ (200 : Int)) then ((Sp.f79 x4 (0 : Int) (1000 : Int)).1, ()) else (false, ())) else (false, ())) else (false, ())) else (false, ()))
noncomputable def e1086 : Ent := { f := 41, ins := [Sh.agg [C0.dat Ty.str, C0.dat (Ty.int IntKind.i64), C0.dat Ty.str, C0.dat Ty.str, C0.dat (Ty.int IntKind.i64)], Sh.one (C0.dat (Ty.str.pair ((Ty.str.pair ((Ty.int IntKind.i64).pair Ty.bool)).slice.pair ((Ty.int IntKind.i64).pair (Ty.str.pair (Ty.int IntKind.i64).slice).slice))).slice)], outs := [Sh.one (C0.dat Ty.bool)], upd := [], pre := fun a => Sp.f1086_pre a.1.1 a.1.2.1 a.1.2.2.1 a.1.2.2.2.1 a.1.2.2.2.2 a.2, spec := fun a => (Sp.f1086 a.1.1 a.1.2.1 a.1.2.2.1 a.1.2.2.2.1 a.1.2.2.2.2 a.2).1, wrt := fun a => (Sp.f1086 a.1.1 a.1.2.1 a.1.2.2.1 a.1.2.2.2.1 a.1.2.2.2.2 a.2).2 }
def f1086_g (v : denS [Sh.one (C0.dat Ty.bool)] × denS []) : Res := ⟨mkS [Sh.one (C0.dat Ty.bool)] v.1, mkU [] v.2⟩
theorem f1086_raw (x0 : ByteArray) (x1 : Int) (x2 : ByteArray) (x3 : ByteArray) (x4 : Int) (x5 : List (ByteArray × List (ByteArray × Int × Bool) × Int × List (ByteArray × List Int))) : abody Γ (orc [e1088, e79]) 0 41 [XV.mk true [X.c (X0.dat Ty.str x0), X.c (X0.dat (Ty.int IntKind.i64) x1), X.c (X0.dat Ty.str x2), X.c (X0.dat Ty.str x3), X.c (X0.dat (Ty.int IntKind.i64) x4)], XV.mk false [X.c (X0.dat (Ty.str.pair ((Ty.str.pair ((Ty.int IntKind.i64).pair Ty.bool)).slice.pair ((Ty.int IntKind.i64).pair (Ty.str.pair (Ty.int IntKind.i64).slice).slice))).slice x5)]] = bif decide (Sp.idx (Sp.nmTb x0) x5 (0 : Int) ≥ (0 : Int)) then chk (decide ((0 : Int) ≤ Sp.idx (Sp.nmTb x0) x5 (0 : Int)) && decide (Sp.idx (Sp.nmTb x0) x5 (0 : Int) < (↑x5.length : Int))) (bif (Sp.f79 x1 (-1 : Int) (IntKind.i64.wrap ((↑(x5.getD (Sp.idx (Sp.nmTb x0) x5 (0 : Int)).toNat (ByteArray.mk #[], [], (0 : Int), [])).2.2.2.length : Int) - (1 : Int)))).1 then bif decide ((↑x2.size : Int) ≤ (200 : Int)) then bif decide ((↑x3.size : Int) ≤ (200 : Int)) then some (Res.mk [XV.mk false [X.c (X0.dat Ty.bool (Sp.f79 x4 (0 : Int) (1000 : Int)).1)]] []) else some (Res.mk [XV.mk false [X.c (X0.dat Ty.bool false)]] []) else some (Res.mk [XV.mk false [X.c (X0.dat Ty.bool false)]] []) else some (Res.mk [XV.mk false [X.c (X0.dat Ty.bool false)]] [])) else some (Res.mk [XV.mk false [X.c (X0.dat Ty.bool false)]] []) := by kernel_rfl
theorem f1086_form (x0 : ByteArray) (x1 : Int) (x2 : ByteArray) (x3 : ByteArray) (x4 : Int) (x5 : List (ByteArray × List (ByteArray × Int × Bool) × Int × List (ByteArray × List Int))) : (bif decide (Sp.idx (Sp.nmTb x0) x5 (0 : Int) ≥ (0 : Int)) then chk (decide ((0 : Int) ≤ Sp.idx (Sp.nmTb x0) x5 (0 : Int)) && decide (Sp.idx (Sp.nmTb x0) x5 (0 : Int) < (↑x5.length : Int))) (bif (Sp.f79 x1 (-1 : Int) (IntKind.i64.wrap ((↑(x5.getD (Sp.idx (Sp.nmTb x0) x5 (0 : Int)).toNat (ByteArray.mk #[], [], (0 : Int), [])).2.2.2.length : Int) - (1 : Int)))).1 then bif decide ((↑x2.size : Int) ≤ (200 : Int)) then bif decide ((↑x3.size : Int) ≤ (200 : Int)) then some (Res.mk [XV.mk false [X.c (X0.dat Ty.bool (Sp.f79 x4 (0 : Int) (1000 : Int)).1)]] []) else some (Res.mk [XV.mk false [X.c (X0.dat Ty.bool false)]] []) else some (Res.mk [XV.mk false [X.c (X0.dat Ty.bool false)]] []) else some (Res.mk [XV.mk false [X.c (X0.dat Ty.bool false)]] [])) else some (Res.mk [XV.mk false [X.c (X0.dat Ty.bool false)]] [])) = chk (Sp.f1086_pre x0 x1 x2 x3 x4 x5) (some (f1086_g (Sp.f1086 x0 x1 x2 x3 x4 x5))) := by
  unfold Sp.f1086_pre Sp.f1086
  exact (cond_step f1086_g ((chk_last ((cond_plain f1086_g ((cond_plain f1086_g ((cond_plain f1086_g (rfl) (rfl))) (rfl))) (rfl))))) ((lift_plain (rfl))))
theorem e1086_ok : Valid PP Γ e1086 := valid_auto ok (vcons e1088_ok (vcons e79_ok vnil)) fun a => (f1086_raw a.1.1 a.1.2.1 a.1.2.2.1 a.1.2.2.2.1 a.1.2.2.2.2 a.2).trans (f1086_form a.1.1 a.1.2.1 a.1.2.2.1 a.1.2.2.2.1 a.1.2.2.2.2 a.2)

noncomputable def f1087_L0 (n m0 : Nat) (y0 : ByteArray) (y1 : Int) (y2 : List Int) : Option Res := loopAt Γ (orc []) n (42 : Nat) (0 : Nat) [] [Pth.r, Pth.r, Pth.l, Pth.r, Pth.b] m0 (St.mk [Slot.val (Val.one (Cell.dat Ty.str y0)), Slot.nix, Slot.nix, Slot.val (Val.one (Cell.own (0 : Nat))), Slot.val (Val.one (Cell.dat (Ty.int IntKind.i64) y1)), Slot.nix, Slot.nix, Slot.nix, Slot.nix, Slot.nix, Slot.nix, Slot.nix, Slot.nix, Slot.nix, Slot.nix, Slot.nix, Slot.nix, Slot.nix, Slot.nix, Slot.nix, Slot.nix, Slot.nix, Slot.nix, Slot.nix, Slot.nix, Slot.nix, Slot.nix] [AObj.row (Ty.int IntKind.u8) y2 true])
theorem f1087_L0_step (n m0 : Nat) (y0 : ByteArray) (y1 : Int) (y2 : List Int) : f1087_L0 n (m0 + 1) y0 y1 y2 = bif decide (y1 < (↑y0.size : Int)) then chk (decide ((0 : Int) ≤ y1) && decide (y1 < (↑y0.size : Int))) (chk (decide ((0 : Int) ≤ IntKind.u8.wrap (((strBytes y0).getD y1.toNat (0 : Int)).tdiv (16 : Int))) && decide (IntKind.u8.wrap (((strBytes y0).getD y1.toNat (0 : Int)).tdiv (16 : Int)) < (16 : Int))) (chk (decide ((0 : Int) ≤ y1) && decide (y1 < (↑y0.size : Int))) (chk (decide ((0 : Int) ≤ ((strBytes y0).getD y1.toNat (0 : Int)).tmod (16 : Int)) && decide (((strBytes y0).getD y1.toNat (0 : Int)).tmod (16 : Int) < (16 : Int))) (chk (decide ((y2.length + [(strBytes (ByteArray.mk #[(48 : UInt8), (49 : UInt8), (50 : UInt8), (51 : UInt8), (52 : UInt8), (53 : UInt8), (54 : UInt8), (55 : UInt8), (56 : UInt8), (57 : UInt8), (97 : UInt8), (98 : UInt8), (99 : UInt8), (100 : UInt8), (101 : UInt8), (102 : UInt8)])).getD (IntKind.u8.wrap (((strBytes y0).getD y1.toNat (0 : Int)).tdiv (16 : Int))).toNat (0 : Int), (strBytes (ByteArray.mk #[(48 : UInt8), (49 : UInt8), (50 : UInt8), (51 : UInt8), (52 : UInt8), (53 : UInt8), (54 : UInt8), (55 : UInt8), (56 : UInt8), (57 : UInt8), (97 : UInt8), (98 : UInt8), (99 : UInt8), (100 : UInt8), (101 : UInt8), (102 : UInt8)])).getD (((strBytes y0).getD y1.toNat (0 : Int)).tmod (16 : Int)).toNat (0 : Int)].length) * (1 : Nat) ≤ (140737488355328 : Nat))) (f1087_L0 n m0 y0 (IntKind.i64.wrap (y1 + (1 : Int))) (y2 ++ [(strBytes (ByteArray.mk #[(48 : UInt8), (49 : UInt8), (50 : UInt8), (51 : UInt8), (52 : UInt8), (53 : UInt8), (54 : UInt8), (55 : UInt8), (56 : UInt8), (57 : UInt8), (97 : UInt8), (98 : UInt8), (99 : UInt8), (100 : UInt8), (101 : UInt8), (102 : UInt8)])).getD (IntKind.u8.wrap (((strBytes y0).getD y1.toNat (0 : Int)).tdiv (16 : Int))).toNat (0 : Int), (strBytes (ByteArray.mk #[(48 : UInt8), (49 : UInt8), (50 : UInt8), (51 : UInt8), (52 : UInt8), (53 : UInt8), (54 : UInt8), (55 : UInt8), (56 : UInt8), (57 : UInt8), (97 : UInt8), (98 : UInt8), (99 : UInt8), (100 : UInt8), (101 : UInt8), (102 : UInt8)])).getD (((strBytes y0).getD y1.toNat (0 : Int)).tmod (16 : Int)).toNat (0 : Int)])))))) else some (Res.mk [XV.mk false [X.c (X0.dat Ty.str (bytesStr y2))]] []) := by kernel_rfl
theorem f1087_raw (n : Nat) (x0 : ByteArray) : abody Γ (orc []) n 42 [XV.mk false [X.c (X0.dat Ty.str x0)]] = f1087_L0 n n x0 (0 : Int) [] := by kernel_rfl

end Go.Proofs.GR.T

