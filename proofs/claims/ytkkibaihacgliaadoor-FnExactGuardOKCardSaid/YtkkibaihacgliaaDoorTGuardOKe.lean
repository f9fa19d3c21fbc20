/-
  No statement is proved here: what the functions of the law answer, told as plain functions, and that the law's answer is always true.
  No condition.
-/
import Derived.Test.YtkkibaihacgliaaDoorTGuardOKd
set_option maxRecDepth 3000000
set_option maxHeartbeats 100000000
namespace Go.Proofs.GR.T
open Go Go.Proofs Go.Proofs.GR
theorem less_le (x y : ByteArray) : (Op.bytesLess y.toList x.toList || y.toList == x.toList) = !Sp.lessS x y := by
  show (Sp.lessS y x || y.toList == x.toList) = !Sp.lessS x y
  cases h : Sp.lessS x y with
  | true =>
    rw [lessS_asymm h, Bool.false_or]
    cases he : y.toList == x.toList with
    | false => rfl
    | true => rw [lessS_congr' (c := x) (eq_of_beq he), lessS_irrefl] at h; cases h
  | false =>
    cases h2 : Sp.lessS y x with
    | true => rfl
    | false => rw [lessS_tri h2 h, beq_self_eq_true]; rfl
def Sp.fineTb (x : VTb) : Bool := Sp.fineT x.1 x.2.1 x.2.2.2
def Sp.fineTs (xs : List VTb) : Bool := Sp.allW Sp.fineTb xs
noncomputable def e1090 : Ent := { f := n1090, ins := [Sh.one (cL tTb)], outs := [Sh.one cB], upd := [], pre := fun a => Sp.fineTs a, spec := fun a => Sp.catOK a, wrt := fun _ => () }
theorem e1090_core (xs : List VTb) (ha : Sp.fineTs xs = true) (hl : xs.length ≤ maxLen) : ∃ n, abody Γ (orc [e1115]) n n1090 [XV.mk false [X.c (X0.dat (Ty.slice tTb) xs)]] = some (rBo (Sp.catOK xs)) := by
  have hl : xs.length ≤ 9223372036854775807 := hl
  have ha := allW_mem.1 ha
  refine ⟨xs.length + 1, (f1090_raw _ xs).trans ?_⟩
  have L0 := allP_end (p := Sp.catP) (z := some (rBo (decide ((xs.length : Int) ≤ (6 : Int))))) (F := some (rBo false)) xs (fun m k => f1090_L0 (xs.length + 1) m xs xs xs.length k) (fun m k hk => by
    show f1090_L0 _ _ _ _ _ _ = _
    rw [f1090_L0_step, nat_ge hk, cond_false]) (fun m k h _ => by
    show f1090_L0 _ _ _ _ _ _ = _
    have hk : (xs.take k).length = k := by rw [List.length_take]; omega
    have hp : Sp.fineT xs[k].1 xs[k].2.1 xs[k].2.2.2 = true := ha _ (List.getElem_mem h)
    rw [f1090_L0_step, nat_lt h, cond_true, guard0, chkT, getD_nat xs k _ h, hp, chkT, next64 h hl]
    unfold Sp.catP
    rw [hk]
    show (bif !Sp.okT xs[k] then _ else _) = _
    cases Sp.okT xs[k] with
    | false => rfl
    | true =>
      rw [Bool.not_true, cond_false, cond_false]
      by_cases h0 : 0 < k
      · rw [decide_eq_true (show (k : Int) > 0 by omega), decide_eq_true h0, cond_true, cond_true, prevT_take h h0]
        have e : IntKind.i64.wrap ((k : Int) - 1) = ((k - 1 : Nat) : Int) := (wrap64 (by omega) (by omega)).trans (by omega)
        rw [e, guard2 (show k - 1 < xs.length by omega), chkT, Int.toNat_natCast, less_le]
      · rw [decide_eq_false (show ¬ (k : Int) > 0 by omega), decide_eq_false h0]
        rfl) _ (Nat.lt_succ_self _)
  refine L0.trans ?_
  unfold Sp.catOK
  by_cases h6 : (xs.length : Int) ≤ (6 : Int)
  · rw [decide_eq_true h6, decide_eq_false (show ¬ (xs.length : Int) > 4096 by omega), decide_eq_false (show ¬ (xs.length : Int) > 6 by omega), cond_false, cond_false]
    cases Sp.allP Sp.catP [] xs <;> rfl
  · rw [decide_eq_false h6, decide_eq_true (show (xs.length : Int) > 6 by omega)]
    cases Sp.allP Sp.catP [] xs <;> cases decide ((xs.length : Int) > (4096 : Int)) <;> rfl
theorem e1090_ok : Valid PP Γ e1090 := valid_len ok (vcons e1115_ok vnil) fun a ha hl => e1090_core a ha (hl _ (List.mem_cons_self) _ (List.mem_cons_self)).1
def Sp.f1122 (x0 : ByteArray) (x1 : ByteArray) := (bif decide ((↑x0.size : Int) > (60 : Int)) then (true, ()) else (decide ((↑x1.size : Int) > (60 : Int)), ()))
noncomputable def e1122 : Ent := { f := 99, ins := [Sh.agg [C0.dat Ty.str, C0.dat Ty.str]], outs := [Sh.one (C0.dat Ty.bool)], upd := [], pre := fun a => true, spec := fun a => (Sp.f1122 a.1 a.2).1, wrt := fun a => (Sp.f1122 a.1 a.2).2 }
def f1122_g (v : denS [Sh.one (C0.dat Ty.bool)] × denS []) : Res := ⟨mkS [Sh.one (C0.dat Ty.bool)] v.1, mkU [] v.2⟩
theorem f1122_raw (x0 : ByteArray) (x1 : ByteArray) : abody Γ (orc []) 0 99 [XV.mk true [X.c (X0.dat Ty.str x0), X.c (X0.dat Ty.str x1)]] = bif decide ((↑x0.size : Int) > (60 : Int)) then some (Res.mk [XV.mk false [X.c (X0.dat Ty.bool true)]] []) else some (Res.mk [XV.mk false [X.c (X0.dat Ty.bool (decide ((↑x1.size : Int) > (60 : Int))))]] []) := by kernel_rfl
theorem f1122_form (x0 : ByteArray) (x1 : ByteArray) : (bif decide ((↑x0.size : Int) > (60 : Int)) then some (Res.mk [XV.mk false [X.c (X0.dat Ty.bool true)]] []) else some (Res.mk [XV.mk false [X.c (X0.dat Ty.bool (decide ((↑x1.size : Int) > (60 : Int))))]] [])) = some (f1122_g (Sp.f1122 x0 x1)) := by
  unfold Sp.f1122
  exact (cond_plain f1122_g (rfl) (rfl))
theorem e1122_ok : Valid PP Γ e1122 := valid_auto ok vnil fun a => (f1122_raw a.1 a.2).trans (f1122_form a.1 a.2)

noncomputable def f1157_L0 (n m0 : Nat) (y0 : List (ByteArray × ByteArray)) (y1 : Int) (y2 : Int) : Option Res := loopAt Γ (orc [e1122]) n (160 : Nat) (0 : Nat) [] [Pth.r, Pth.l, Pth.r, Pth.b] m0 (St.mk [Slot.val (Val.one (Cell.dat (Ty.str.pair Ty.str).slice y0)), Slot.val (Val.one (Cell.fn (99 : Nat) [])), Slot.nix, Slot.nix, Slot.nix, Slot.nix, Slot.nix, Slot.val (Val.one (Cell.dat (Ty.int IntKind.i64) y1)), Slot.val (Val.one (Cell.dat (Ty.int IntKind.i64) y2)), Slot.nix, Slot.nix, Slot.nix, Slot.nix, Slot.nix, Slot.nix, Slot.nix, Slot.nix, Slot.nix, Slot.nix] [])
theorem f1157_L0_step (n m0 : Nat) (y0 : List (ByteArray × ByteArray)) (y1 : Int) (y2 : Int) : f1157_L0 n (m0 + 1) y0 y1 y2 = bif decide (y2 < y1) then chk (decide ((0 : Int) ≤ y2) && decide (y2 < (↑y0.length : Int))) (bif (Sp.f1122 (y0.getD y2.toNat (ByteArray.mk #[], ByteArray.mk #[])).1 (y0.getD y2.toNat (ByteArray.mk #[], ByteArray.mk #[])).2).1 then some (Res.mk [XV.mk false [X.c (X0.dat (Ty.int IntKind.i64) y2)]] []) else f1157_L0 n m0 y0 y1 (IntKind.i64.wrap (y2 + (1 : Int)))) else some (Res.mk [XV.mk false [X.c (X0.dat (Ty.int IntKind.i64) (-1 : Int))]] []) := by kernel_rfl
theorem f1157_raw (n : Nat) (x0 : List (ByteArray × ByteArray)) : abody Γ (orc [e1122]) n 160 [XV.mk false [X.c (X0.dat (Ty.str.pair Ty.str).slice x0)], XV.mk false [X.c (X0.fn (99 : Nat) [])]] = f1157_L0 n n x0 (↑x0.length : Int) (0 : Int) := by kernel_rfl

def Sp.longE (e : V2) : Bool := (Sp.f1122 e.1 e.2).1
noncomputable def e1157 : Ent := { f := n1157, ins := [Sh.one (cL tE), Sh.one (C0.fn n1122 [])], outs := [Sh.one cI], upd := [], pre := fun _ => true, spec := fun a => Sp.idx Sp.longE a.1 0, wrt := fun _ => () }
theorem e1157_core (xs : List V2) (hl : xs.length ≤ maxLen) : ∃ n, abody Γ (orc [e1122]) n n1157 [XV.mk false [X.c (X0.dat (Ty.slice tE) xs)], XV.mk false [X.c (X0.fn n1122 [])]] = some (rI (Sp.idx Sp.longE xs 0)) := by
  have hl : xs.length ≤ 9223372036854775807 := hl
  refine ⟨xs.length + 1, (f1157_raw _ xs).trans ?_⟩
  refine idx_loop (p := Sp.longE) (R := rI) xs (fun m k => f1157_L0 (xs.length + 1) m xs xs.length k) (fun m k hk => ?_) (fun m k h => ?_) xs.length 0 _ (Nat.zero_add _) (Nat.lt_succ_self _)
  · show f1157_L0 _ _ _ _ _ = _
    rw [f1157_L0_step, nat_ge hk, cond_false]
  · show f1157_L0 _ _ _ _ _ = _
    rw [f1157_L0_step, nat_lt h, cond_true, guard0, chkT, getD_nat xs k _ h, next64 h hl]
    rfl
theorem e1157_ok : Valid PP Γ e1157 := valid_len ok (vcons e1122_ok vnil) fun a _ hl => e1157_core a.1 (hl _ (List.mem_cons_self) _ (List.mem_cons_self)).1
def Sp.f1121 (x0 : List (ByteArray × ByteArray)) := (decide (Sp.idx Sp.longE x0 (0 : Int) ≥ (0 : Int)), ())
noncomputable def e1121 : Ent := { f := 98, ins := [Sh.one (C0.dat (Ty.str.pair Ty.str).slice), Sh.one (C0.fn (99 : Nat) [])], outs := [Sh.one (C0.dat Ty.bool)], upd := [], pre := fun a => true, spec := fun a => (Sp.f1121 a.1).1, wrt := fun a => (Sp.f1121 a.1).2 }
def f1121_g (v : denS [Sh.one (C0.dat Ty.bool)] × denS []) : Res := ⟨mkS [Sh.one (C0.dat Ty.bool)] v.1, mkU [] v.2⟩
theorem f1121_raw (x0 : List (ByteArray × ByteArray)) : abody Γ (orc [e1157, e1122]) 0 98 [XV.mk false [X.c (X0.dat (Ty.str.pair Ty.str).slice x0)], XV.mk false [X.c (X0.fn (99 : Nat) [])]] = some (Res.mk [XV.mk false [X.c (X0.dat Ty.bool (decide (Sp.idx Sp.longE x0 (0 : Int) ≥ (0 : Int))))]] []) := by kernel_rfl
theorem f1121_form (x0 : List (ByteArray × ByteArray)) : (some (Res.mk [XV.mk false [X.c (X0.dat Ty.bool (decide (Sp.idx Sp.longE x0 (0 : Int) ≥ (0 : Int))))]] [])) = some (f1121_g (Sp.f1121 x0)) := by
  unfold Sp.f1121
  exact rfl
theorem e1121_ok : Valid PP Γ e1121 := valid_auto ok (vcons e1157_ok (vcons e1122_ok vnil)) fun a => (f1121_raw a.1).trans (f1121_form a.1)

def Sp.f1095_pre (x0 : ByteArray) (x1 : Int) (x2 : List (ByteArray × ByteArray)) (x3 : List (ByteArray × List (ByteArray × Int × Bool) × Int × List (ByteArray × List Int))) : Bool := (Sp.f1092_pre x3 x0 && (bif (Sp.f1092 x3 x0).1.2 then (decide ((0 : Int) ≤ (Sp.f1092 x3 x0).1.1) && decide ((Sp.f1092 x3 x0).1.1 < (↑x3.length : Int)) && (bif (Sp.f70 x1 (0 : Int) (IntKind.i64.wrap ((↑(x3.getD (Sp.f1092 x3 x0).1.1.toNat (ByteArray.mk #[], [], (0 : Int), [])).2.1.length : Int) - (1 : Int)))).1 then (decide ((0 : Int) ≤ (Sp.f1092 x3 x0).1.1) && decide ((Sp.f1092 x3 x0).1.1 < (↑x3.length : Int)) && (decide ((0 : Int) ≤ x1) && decide (x1 < (↑(x3.getD (Sp.f1092 x3 x0).1.1.toNat (ByteArray.mk #[], [], (0 : Int), [])).2.1.length : Int)))) else true)) else true))
def Sp.f1095 (x0 : ByteArray) (x1 : Int) (x2 : List (ByteArray × ByteArray)) (x3 : List (ByteArray × List (ByteArray × Int × Bool) × Int × List (ByteArray × List Int))) := (bif (Sp.f1092 x3 x0).1.2 then (bif (Sp.f70 x1 (0 : Int) (IntKind.i64.wrap ((↑(x3.getD (Sp.f1092 x3 x0).1.1.toNat (ByteArray.mk #[], [], (0 : Int), [])).2.1.length : Int) - (1 : Int)))).1 then (bif ((x3.getD (Sp.f1092 x3 x0).1.1.toNat (ByteArray.mk #[], [], (0 : Int), [])).2.1.getD x1.toNat (ByteArray.mk #[], (0 : Int), false)).2.1 == (3 : Int) then (bif decide ((↑x2.length : Int) ≤ (20 : Int)) then (!(Sp.f1121 x2).1, ()) else (false, ())) else (false, ())) else (false, ())) else (false, ()))
noncomputable def e1095 : Ent := { f := 53, ins := [Sh.agg [C0.dat Ty.str, C0.dat (Ty.int IntKind.i64), C0.dat (Ty.str.pair Ty.str).slice], Sh.one (C0.dat (Ty.str.pair ((Ty.str.pair ((Ty.int IntKind.i64).pair Ty.bool)).slice.pair ((Ty.int IntKind.i64).pair (Ty.str.pair (Ty.int IntKind.i64).slice).slice))).slice)], outs := [Sh.one (C0.dat Ty.bool)], upd := [], pre := fun a => Sp.f1095_pre a.1.1 a.1.2.1 a.1.2.2 a.2, spec := fun a => (Sp.f1095 a.1.1 a.1.2.1 a.1.2.2 a.2).1, wrt := fun a => (Sp.f1095 a.1.1 a.1.2.1 a.1.2.2 a.2).2 }
def f1095_g (v : denS [Sh.one (C0.dat Ty.bool)] × denS []) : Res := ⟨mkS [Sh.one (C0.dat Ty.bool)] v.1, mkU [] v.2⟩
theorem f1095_raw (x0 : ByteArray) (x1 : Int) (x2 : List (ByteArray × ByteArray)) (x3 : List (ByteArray × List (ByteArray × Int × Bool) × Int × List (ByteArray × List Int))) : abody Γ (orc [e1092, e70, e1121, e1122]) 0 53 [XV.mk true [X.c (X0.dat Ty.str x0), X.c (X0.dat (Ty.int IntKind.i64) x1), X.c (X0.dat (Ty.str.pair Ty.str).slice x2)], XV.mk false [X.c (X0.dat (Ty.str.pair ((Ty.str.pair ((Ty.int IntKind.i64).pair Ty.bool)).slice.pair ((Ty.int IntKind.i64).pair (Ty.str.pair (Ty.int IntKind.i64).slice).slice))).slice x3)]] = chk (Sp.f1092_pre x3 x0) (bif (Sp.f1092 x3 x0).1.2 then chk (decide ((0 : Int) ≤ (Sp.f1092 x3 x0).1.1) && decide ((Sp.f1092 x3 x0).1.1 < (↑x3.length : Int))) (bif (Sp.f70 x1 (0 : Int) (IntKind.i64.wrap ((↑(x3.getD (Sp.f1092 x3 x0).1.1.toNat (ByteArray.mk #[], [], (0 : Int), [])).2.1.length : Int) - (1 : Int)))).1 then chk (decide ((0 : Int) ≤ (Sp.f1092 x3 x0).1.1) && decide ((Sp.f1092 x3 x0).1.1 < (↑x3.length : Int))) (chk (decide ((0 : Int) ≤ x1) && decide (x1 < (↑(x3.getD (Sp.f1092 x3 x0).1.1.toNat (ByteArray.mk #[], [], (0 : Int), [])).2.1.length : Int))) (bif ((x3.getD (Sp.f1092 x3 x0).1.1.toNat (ByteArray.mk #[], [], (0 : Int), [])).2.1.getD x1.toNat (ByteArray.mk #[], (0 : Int), false)).2.1 == (3 : Int) then bif decide ((↑x2.length : Int) ≤ (20 : Int)) then some (Res.mk [XV.mk false [X.c (X0.dat Ty.bool !(Sp.f1121 x2).1)]] []) else some (Res.mk [XV.mk false [X.c (X0.dat Ty.bool false)]] []) else some (Res.mk [XV.mk false [X.c (X0.dat Ty.bool false)]] []))) else some (Res.mk [XV.mk false [X.c (X0.dat Ty.bool false)]] [])) else some (Res.mk [XV.mk false [X.c (X0.dat Ty.bool false)]] [])) := by kernel_rfl
theorem f1095_form (x0 : ByteArray) (x1 : Int) (x2 : List (ByteArray × ByteArray)) (x3 : List (ByteArray × List (ByteArray × Int × Bool) × Int × List (ByteArray × List Int))) : (chk (Sp.f1092_pre x3 x0) (bif (Sp.f1092 x3 x0).1.2 then chk (decide ((0 : Int) ≤ (Sp.f1092 x3 x0).1.1) && decide ((Sp.f1092 x3 x0).1.1 < (↑x3.length : Int))) (bif (Sp.f70 x1 (0 : Int) (IntKind.i64.wrap ((↑(x3.getD (Sp.f1092 x3 x0).1.1.toNat (ByteArray.mk #[], [], (0 : Int), [])).2.1.length : Int) - (1 : Int)))).1 then chk (decide ((0 : Int) ≤ (Sp.f1092 x3 x0).1.1) && decide ((Sp.f1092 x3 x0).1.1 < (↑x3.length : Int))) (chk (decide ((0 : Int) ≤ x1) && decide (x1 < (↑(x3.getD (Sp.f1092 x3 x0).1.1.toNat (ByteArray.mk #[], [], (0 : Int), [])).2.1.length : Int))) (bif ((x3.getD (Sp.f1092 x3 x0).1.1.toNat (ByteArray.mk #[], [], (0 : Int), [])).2.1.getD x1.toNat (ByteArray.mk #[], (0 : Int), false)).2.1 == (3 : Int) then bif decide ((↑x2.length : Int) ≤ (20 : Int)) then some (Res.mk [XV.mk false [X.c (X0.dat Ty.bool !(Sp.f1121 x2).1)]] []) else some (Res.mk [XV.mk false [X.c (X0.dat Ty.bool false)]] []) else some (Res.mk [XV.mk false [X.c (X0.dat Ty.bool false)]] []))) else some (Res.mk [XV.mk false [X.c (X0.dat Ty.bool false)]] [])) else some (Res.mk [XV.mk false [X.c (X0.dat Ty.bool false)]] []))) = chk (Sp.f1095_pre x0 x1 x2 x3) (some (f1095_g (Sp.f1095 x0 x1 x2 x3))) := by
  unfold Sp.f1095_pre Sp.f1095
  exact (chk_step ((cond_step f1095_g ((chk_step ((cond_step f1095_g ((chk_step ((chk_last ((cond_plain f1095_g ((cond_plain f1095_g (rfl) (rfl))) (rfl))))))) ((lift_plain (rfl))))))) ((lift_plain (rfl))))))
theorem e1095_ok : Valid PP Γ e1095 := valid_auto ok (vcons e1092_ok (vcons e70_ok (vcons e1121_ok (vcons e1122_ok vnil)))) fun a => (f1095_raw a.1.1 a.1.2.1 a.1.2.2 a.2).trans (f1095_form a.1.1 a.1.2.1 a.1.2.2 a.2)

def Sp.f1072_pre (x0 : ByteArray) (x1 : Int) (x2 : List (ByteArray × ByteArray)) (x3 : List (ByteArray × List (ByteArray × Int × Bool) × Int × List (ByteArray × List Int))) : Bool := (Sp.fineTs x3 && (bif Sp.catOK x3 then (Sp.f1095_pre x0 x1 x2 x3) else true))
def Sp.f1072 (x0 : ByteArray) (x1 : Int) (x2 : List (ByteArray × ByteArray)) (x3 : List (ByteArray × List (ByteArray × Int × Bool) × Int × List (ByteArray × List Int))) := (bif Sp.catOK x3 then ((Sp.f1095 x0 x1 x2 x3).1, ()) else (false, ()))
noncomputable def e1072 : Ent := { f := 18, ins := [Sh.agg [C0.dat Ty.str, C0.dat (Ty.int IntKind.i64), C0.dat (Ty.str.pair Ty.str).slice], Sh.one (C0.dat (Ty.str.pair ((Ty.str.pair ((Ty.int IntKind.i64).pair Ty.bool)).slice.pair ((Ty.int IntKind.i64).pair (Ty.str.pair (Ty.int IntKind.i64).slice).slice))).slice)], outs := [Sh.one (C0.dat Ty.bool)], upd := [], pre := fun a => Sp.f1072_pre a.1.1 a.1.2.1 a.1.2.2 a.2, spec := fun a => (Sp.f1072 a.1.1 a.1.2.1 a.1.2.2 a.2).1, wrt := fun a => (Sp.f1072 a.1.1 a.1.2.1 a.1.2.2 a.2).2 }
def f1072_g (v : denS [Sh.one (C0.dat Ty.bool)] × denS []) : Res := ⟨mkS [Sh.one (C0.dat Ty.bool)] v.1, mkU [] v.2⟩
theorem f1072_raw (x0 : ByteArray) (x1 : Int) (x2 : List (ByteArray × ByteArray)) (x3 : List (ByteArray × List (ByteArray × Int × Bool) × Int × List (ByteArray × List Int))) : abody Γ (orc [e1090, e1095]) 0 18 [XV.mk true [X.c (X0.dat Ty.str x0), X.c (X0.dat (Ty.int IntKind.i64) x1), X.c (X0.dat (Ty.str.pair Ty.str).slice x2)], XV.mk false [X.c (X0.dat (Ty.str.pair ((Ty.str.pair ((Ty.int IntKind.i64).pair Ty.bool)).slice.pair ((Ty.int IntKind.i64).pair (Ty.str.pair (Ty.int IntKind.i64).slice).slice))).slice x3)]] = chk (Sp.fineTs x3) (bif Sp.catOK x3 then chk (Sp.f1095_pre x0 x1 x2 x3) (some (Res.mk [XV.mk false [X.c (X0.dat Ty.bool (Sp.f1095 x0 x1 x2 x3).1)]] [])) else some (Res.mk [XV.mk false [X.c (X0.dat Ty.bool false)]] [])) := by kernel_rfl
theorem f1072_form (x0 : ByteArray) (x1 : Int) (x2 : List (ByteArray × ByteArray)) (x3 : List (ByteArray × List (ByteArray × Int × Bool) × Int × List (ByteArray × List Int))) : (chk (Sp.fineTs x3) (bif Sp.catOK x3 then chk (Sp.f1095_pre x0 x1 x2 x3) (some (Res.mk [XV.mk false [X.c (X0.dat Ty.bool (Sp.f1095 x0 x1 x2 x3).1)]] [])) else some (Res.mk [XV.mk false [X.c (X0.dat Ty.bool false)]] []))) = chk (Sp.f1072_pre x0 x1 x2 x3) (some (f1072_g (Sp.f1072 x0 x1 x2 x3))) := by
  unfold Sp.f1072_pre Sp.f1072
  exact (chk_step ((cond_step f1072_g ((chk_last (rfl))) ((lift_plain (rfl))))))
theorem e1072_ok : Valid PP Γ e1072 := valid_auto ok (vcons e1090_ok (vcons e1095_ok vnil)) fun a => (f1072_raw a.1.1 a.1.2.1 a.1.2.2 a.2).trans (f1072_form a.1.1 a.1.2.1 a.1.2.2 a.2)

def Sp.f1060_pre (x0 : ByteArray) (x1 : Int) (x2 : List (ByteArray × ByteArray)) (x3 : List (ByteArray × List (ByteArray × Int × Bool) × Int × List (ByteArray × List Int))) : Bool := (bif decide ((Sp.f34 x0 x1 x2 (1048576 : Int)).1 < (0 : Int)) then true else (bif decide (Sp.szE Sp.szTb x3 (Sp.f34 x0 x1 x2 (1048576 : Int)).1 < (0 : Int)) then true else (Sp.f37_pre x0 x1 x2 && (Sp.fits1068 x3 && (Sp.f37_pre x0 x1 x2 && (Sp.fits1068 x3 && (Sp.f1072_pre (Sp.f37 x0 x1 x2).1.1 (Sp.f37 x0 x1 x2).1.2.1 (Sp.f37 x0 x1 x2).1.2.2 x3 && (bif !eqB (Sp.f1072 (Sp.f37 x0 x1 x2).1.1 (Sp.f37 x0 x1 x2).1.2.1 (Sp.f37 x0 x1 x2).1.2.2 x3).1 (Sp.guS (Sp.f37 x0 x1 x2).1.1 (Sp.f37 x0 x1 x2).1.2.1 (Sp.f37 x0 x1 x2).1.2.2 x3) then true else (Sp.f37_pre x0 x1 x2 && (bif !(Sp.f40 (Sp.f37 x0 x1 x2).1.1 (Sp.f37 x0 x1 x2).1.2.1 (Sp.f37 x0 x1 x2).1.2.2 (Sp.f37 x0 x1 x2).1.1 (Sp.f37 x0 x1 x2).1.2.1 (Sp.f37 x0 x1 x2).1.2.2).1 then true else (Sp.fits1068 x3)))))))))))
def Sp.f1060 (x0 : ByteArray) (x1 : Int) (x2 : List (ByteArray × ByteArray)) (x3 : List (ByteArray × List (ByteArray × Int × Bool) × Int × List (ByteArray × List Int))) := (bif decide ((Sp.f34 x0 x1 x2 (1048576 : Int)).1 < (0 : Int)) then (true, ()) else (bif decide (Sp.szE Sp.szTb x3 (Sp.f34 x0 x1 x2 (1048576 : Int)).1 < (0 : Int)) then (true, ()) else (bif !eqB (Sp.f1072 (Sp.f37 x0 x1 x2).1.1 (Sp.f37 x0 x1 x2).1.2.1 (Sp.f37 x0 x1 x2).1.2.2 x3).1 (Sp.guS (Sp.f37 x0 x1 x2).1.1 (Sp.f37 x0 x1 x2).1.2.1 (Sp.f37 x0 x1 x2).1.2.2 x3) then (false, ()) else (bif !(Sp.f40 (Sp.f37 x0 x1 x2).1.1 (Sp.f37 x0 x1 x2).1.2.1 (Sp.f37 x0 x1 x2).1.2.2 (Sp.f37 x0 x1 x2).1.1 (Sp.f37 x0 x1 x2).1.2.1 (Sp.f37 x0 x1 x2).1.2.2).1 then (false, ()) else (bif !Sp.eqW Sp.eqTb x3 x3 then (false, ()) else (true, ()))))))
noncomputable def e1060 : Ent := { f := 4, ins := [Sh.agg [C0.dat Ty.str, C0.dat (Ty.int IntKind.i64), C0.dat (Ty.str.pair Ty.str).slice], Sh.one (C0.dat (Ty.str.pair ((Ty.str.pair ((Ty.int IntKind.i64).pair Ty.bool)).slice.pair ((Ty.int IntKind.i64).pair (Ty.str.pair (Ty.int IntKind.i64).slice).slice))).slice)], outs := [Sh.one (C0.dat Ty.bool)], upd := [], pre := fun a => Sp.f1060_pre a.1.1 a.1.2.1 a.1.2.2 a.2, spec := fun a => (Sp.f1060 a.1.1 a.1.2.1 a.1.2.2 a.2).1, wrt := fun a => (Sp.f1060 a.1.1 a.1.2.1 a.1.2.2 a.2).2 }
def f1060_g (v : denS [Sh.one (C0.dat Ty.bool)] × denS []) : Res := ⟨mkS [Sh.one (C0.dat Ty.bool)] v.1, mkU [] v.2⟩
theorem f1060_raw (x0 : ByteArray) (x1 : Int) (x2 : List (ByteArray × ByteArray)) (x3 : List (ByteArray × List (ByteArray × Int × Bool) × Int × List (ByteArray × List Int))) : abody Γ (orc [e34, e1065, e37, e1068, e1071, e1072, e40, e1070]) 0 4 [XV.mk true [X.c (X0.dat Ty.str x0), X.c (X0.dat (Ty.int IntKind.i64) x1), X.c (X0.dat (Ty.str.pair Ty.str).slice x2)], XV.mk false [X.c (X0.dat (Ty.str.pair ((Ty.str.pair ((Ty.int IntKind.i64).pair Ty.bool)).slice.pair ((Ty.int IntKind.i64).pair (Ty.str.pair (Ty.int IntKind.i64).slice).slice))).slice x3)]] = bif decide ((Sp.f34 x0 x1 x2 (1048576 : Int)).1 < (0 : Int)) then some (Res.mk [XV.mk false [X.c (X0.dat Ty.bool true)]] []) else bif decide (Sp.szE Sp.szTb x3 (Sp.f34 x0 x1 x2 (1048576 : Int)).1 < (0 : Int)) then some (Res.mk [XV.mk false [X.c (X0.dat Ty.bool true)]] []) else chk (Sp.f37_pre x0 x1 x2) (chk (Sp.fits1068 x3) (chk (Sp.f37_pre x0 x1 x2) (chk (Sp.fits1068 x3) (chk (Sp.f1072_pre (Sp.f37 x0 x1 x2).1.1 (Sp.f37 x0 x1 x2).1.2.1 (Sp.f37 x0 x1 x2).1.2.2 x3) (bif !eqB (Sp.f1072 (Sp.f37 x0 x1 x2).1.1 (Sp.f37 x0 x1 x2).1.2.1 (Sp.f37 x0 x1 x2).1.2.2 x3).1 (Sp.guS (Sp.f37 x0 x1 x2).1.1 (Sp.f37 x0 x1 x2).1.2.1 (Sp.f37 x0 x1 x2).1.2.2 x3) then some (Res.mk [XV.mk false [X.c (X0.dat Ty.bool false)]] []) else chk (Sp.f37_pre x0 x1 x2) (bif !(Sp.f40 (Sp.f37 x0 x1 x2).1.1 (Sp.f37 x0 x1 x2).1.2.1 (Sp.f37 x0 x1 x2).1.2.2 (Sp.f37 x0 x1 x2).1.1 (Sp.f37 x0 x1 x2).1.2.1 (Sp.f37 x0 x1 x2).1.2.2).1 then some (Res.mk [XV.mk false [X.c (X0.dat Ty.bool false)]] []) else chk (Sp.fits1068 x3) (bif !Sp.eqW Sp.eqTb x3 x3 then some (Res.mk [XV.mk false [X.c (X0.dat Ty.bool false)]] []) else some (Res.mk [XV.mk false [X.c (X0.dat Ty.bool true)]] [])))))))) := by kernel_rfl
theorem f1060_form (x0 : ByteArray) (x1 : Int) (x2 : List (ByteArray × ByteArray)) (x3 : List (ByteArray × List (ByteArray × Int × Bool) × Int × List (ByteArray × List Int))) : (bif decide ((Sp.f34 x0 x1 x2 (1048576 : Int)).1 < (0 : Int)) then some (Res.mk [XV.mk false [X.c (X0.dat Ty.bool true)]] []) else bif decide (Sp.szE Sp.szTb x3 (Sp.f34 x0 x1 x2 (1048576 : Int)).1 < (0 : Int)) then some (Res.mk [XV.mk false [X.c (X0.dat Ty.bool true)]] []) else chk (Sp.f37_pre x0 x1 x2) (chk (Sp.fits1068 x3) (chk (Sp.f37_pre x0 x1 x2) (chk (Sp.fits1068 x3) (chk (Sp.f1072_pre (Sp.f37 x0 x1 x2).1.1 (Sp.f37 x0 x1 x2).1.2.1 (Sp.f37 x0 x1 x2).1.2.2 x3) (bif !eqB (Sp.f1072 (Sp.f37 x0 x1 x2).1.1 (Sp.f37 x0 x1 x2).1.2.1 (Sp.f37 x0 x1 x2).1.2.2 x3).1 (Sp.guS (Sp.f37 x0 x1 x2).1.1 (Sp.f37 x0 x1 x2).1.2.1 (Sp.f37 x0 x1 x2).1.2.2 x3) then some (Res.mk [XV.mk false [X.c (X0.dat Ty.bool false)]] []) else chk (Sp.f37_pre x0 x1 x2) (bif !(Sp.f40 (Sp.f37 x0 x1 x2).1.1 (Sp.f37 x0 x1 x2).1.2.1 (Sp.f37 x0 x1 x2).1.2.2 (Sp.f37 x0 x1 x2).1.1 (Sp.f37 x0 x1 x2).1.2.1 (Sp.f37 x0 x1 x2).1.2.2).1 then some (Res.mk [XV.mk false [X.c (X0.dat Ty.bool false)]] []) else chk (Sp.fits1068 x3) (bif !Sp.eqW Sp.eqTb x3 x3 then some (Res.mk [XV.mk false [X.c (X0.dat Ty.bool false)]] []) else some (Res.mk [XV.mk false [X.c (X0.dat Ty.bool true)]] []))))))))) = chk (Sp.f1060_pre x0 x1 x2 x3) (some (f1060_g (Sp.f1060 x0 x1 x2 x3))) := by
  unfold Sp.f1060_pre Sp.f1060
  exact (cond_step f1060_g ((lift_plain (rfl))) ((cond_step f1060_g ((lift_plain (rfl))) ((chk_step ((chk_step ((chk_step ((chk_step ((chk_step ((cond_step f1060_g ((lift_plain (rfl))) ((chk_step ((cond_step f1060_g ((lift_plain (rfl))) ((chk_last ((cond_plain f1060_g (rfl) (rfl))))))))))))))))))))))))
theorem e1060_ok : Valid PP Γ e1060 := valid_auto ok (vcons e34_ok (vcons e1065_ok (vcons e37_ok (vcons e1068_ok (vcons e1071_ok (vcons e1072_ok (vcons e40_ok (vcons e1070_ok vnil)))))))) fun a => (f1060_raw a.1.1 a.1.2.1 a.1.2.2 a.2).trans (f1060_form a.1.1 a.1.2.1 a.1.2.2 a.2)

end Go.Proofs.GR.T

namespace Go.Proofs.GR.T
open Go Go.Proofs Go.Proofs.GR
theorem eqCo_self (x : VCo) : Sp.eqCo x x = true := by
  unfold Sp.eqCo Sp.f1155
  have h : eqB x.2.2 x.2.2 = true := by cases x.2.2 <;> rfl
  rw [beq_self_eq_true, h, show (x.2.1 != x.2.1) = false by simp]; rfl
theorem eqN_self (x : Int) : Sp.eqN x x = true := beq_self_eq_true x
theorem eqIx_self (x : VIx) : Sp.eqIx x x = true := by
  unfold Sp.eqIx Sp.f1156
  rw [beq_self_eq_true, eqW_self eqN_self]; rfl
theorem eqTb_self (x : VTb) : Sp.eqTb x x = true := by
  unfold Sp.eqTb Sp.f1094
  rw [beq_self_eq_true, eqW_self eqCo_self, eqW_self eqIx_self, show (x.2.2.1 != x.2.2.1) = false by simp]; rfl
def Sp.okTb1 (x : VTb) : Prop := x.1.size ≤ 9223372036854775807 ∧ (x.2.1.length ≤ 9223372036854775807 ∧ ∀ c ∈ x.2.1, c.1.size ≤ 9223372036854775807) ∧ (x.2.2.2.length ≤ 9223372036854775807 ∧ ∀ i ∈ x.2.2.2, i.1.size ≤ 9223372036854775807 ∧ i.2.length ≤ 9223372036854775807)
def Sp.okTbs (xs : List VTb) : Prop := xs.length ≤ 9223372036854775807 ∧ ∀ x ∈ xs, Sp.okTb1 x
def Sp.ctCo (x : VCo) : Nat := x.1.size
def Sp.ctIx (x : VIx) : Nat := x.1.size + x.2.length
def Sp.ctTb (x : VTb) : Nat := x.1.size + x.2.1.length + Sp.wtW Sp.ctCo x.2.1 + x.2.2.2.length + Sp.wtW Sp.ctIx x.2.2.2
theorem neg1 : ¬ (0 : Int) ≤ -1 := by decide
theorem szCo_wt {x : VCo} (h1 : x.1.size ≤ 9223372036854775807) (l : Int) (h0 : 0 ≤ l) (hl : l ≤ 1048576) (h : 0 ≤ Sp.szCo x l) : Sp.szCo x l + (Sp.ctCo x : Int) ≤ l := by
  unfold Sp.szCo Sp.f1147 at h ⊢
  rw [wrap64 (n := l - (x.1.size : Int)) (by omega) (by omega)] at h ⊢
  by_cases c1 : l - (x.1.size : Int) < 0
  · rw [decide_eq_true c1] at h; exact absurd h neg1
  · rw [decide_eq_false c1, cond_false]
    unfold Sp.ctCo
    show l - (x.1.size : Int) + _ ≤ l
    omega
theorem szIx_wt {x : VIx} (h1 : x.1.size ≤ 9223372036854775807) (h2 : x.2.length ≤ 9223372036854775807) (l : Int) (h0 : 0 ≤ l) (hl : l ≤ 1048576) (h : 0 ≤ Sp.szIx x l) : Sp.szIx x l + (Sp.ctIx x : Int) ≤ l := by
  unfold Sp.szIx Sp.f1148 at h ⊢
  rw [wrap64 (n := l - (x.1.size : Int)) (by omega) (by omega)] at h ⊢
  by_cases c1 : l - (x.1.size : Int) < 0
  · rw [decide_eq_true c1] at h; exact absurd h neg1
  · rw [decide_eq_false c1, cond_false] at h ⊢
    unfold Sp.f179 at h ⊢
    rw [wrap64 (n := l - (x.1.size : Int) - (x.2.length : Int)) (by omega) (by omega)] at h ⊢
    by_cases c2 : l - (x.1.size : Int) - (x.2.length : Int) < 0
    · rw [decide_eq_true c2] at h; exact absurd h neg1
    · rw [decide_eq_false c2]
      have c3 : decide (l - (x.1.size : Int) - (x.2.length : Int) < 0) = false := decide_eq_false c2
      unfold Sp.ctIx
      show (bif decide (l - (x.1.size : Int) - (x.2.length : Int) < 0) then ((-1 : Int), ()) else (l - (x.1.size : Int) - (x.2.length : Int), ())).1 + _ ≤ l
      rw [c3, cond_false, Int.natCast_add]
      show l - (x.1.size : Int) - (x.2.length : Int) + _ ≤ l
      omega
theorem szTb_wt {x : VTb} (hx : Sp.okTb1 x) (l : Int) (h0 : 0 ≤ l) (hl : l ≤ 1048576) (h : 0 ≤ Sp.szTb x l) : Sp.szTb x l + (Sp.ctTb x : Int) ≤ l := by
  obtain ⟨h1, ⟨h2, h2'⟩, h3, h3'⟩ := hx
  unfold Sp.szTb Sp.f1085 at h ⊢
  rw [wrap64 (n := l - (x.1.size : Int)) (by omega) (by omega)] at h ⊢
  by_cases c1 : l - (x.1.size : Int) < 0
  · rw [decide_eq_true c1] at h; exact absurd h neg1
  · rw [decide_eq_false c1, cond_false] at h ⊢
    by_cases c2 : Sp.szE Sp.szCo x.2.1 (l - (x.1.size : Int)) < 0
    · rw [decide_eq_true c2] at h; exact absurd h neg1
    · have w1 := szE_wt (f := Sp.szCo) (c := Sp.ctCo) (xs := x.2.1) (l := l - (x.1.size : Int)) h2 (fun y hy l a b d => szCo_wt (h2' y hy) l a b d) (by omega) (by omega) (by omega)
      rw [decide_eq_false c2, cond_false] at h ⊢
      by_cases c3 : Sp.szE Sp.szIx x.2.2.2 (Sp.szE Sp.szCo x.2.1 (l - (x.1.size : Int))) < 0
      · rw [decide_eq_true c3] at h; exact absurd h neg1
      · have w2 := szE_wt (f := Sp.szIx) (c := Sp.ctIx) (xs := x.2.2.2) (l := Sp.szE Sp.szCo x.2.1 (l - (x.1.size : Int))) h3 (fun y hy l a b d => szIx_wt (h3' y hy).1 (h3' y hy).2 l a b d) (by omega) (by omega) (by omega)
        rw [decide_eq_false c3, cond_false]
        show Sp.szE Sp.szIx x.2.2.2 (Sp.szE Sp.szCo x.2.1 (l - (x.1.size : Int))) + ((x.1.size + x.2.1.length + Sp.wtW Sp.ctCo x.2.1 + x.2.2.2.length + Sp.wtW Sp.ctIx x.2.2.2 : Nat) : Int) ≤ l
        omega
theorem wtW_one {α : Type} {w : α → Nat} : ∀ {xs : List α} {x : α}, x ∈ xs → w x ≤ Sp.wtW w xs
  | y :: r, x, h => by
    rw [Sp.wtW]
    rcases List.mem_cons.1 h with rfl | h
    · omega
    · have := wtW_one (w := w) h; omega
/-- What tables have to be for a copy. -/
def Sp.smallTbs (xs : List VTb) : Prop := xs.length ≤ 1048576 ∧ ∀ x ∈ xs, Sp.ctTb x ≤ 1048576
theorem smallTb_of {xs : List VTb} (h : Sp.okTbs xs) {l : Int} (h0 : 0 ≤ l) (hl : l ≤ 1048576) (hs : ¬ Sp.szE Sp.szTb xs l < 0) : Sp.smallTbs xs := by
  have w := szE_wt (f := Sp.szTb) (c := Sp.ctTb) (xs := xs) (l := l) h.1 (fun x hx l a b c => szTb_wt (h.2 x hx) l a b c) h0 hl (by omega)
  refine ⟨by omega, fun x hx => ?_⟩
  have := wtW_one (w := Sp.ctTb) hx
  omega
theorem yes2_both {a b : Bool} (ha : a = true) (hb : b = true) : yes2 a b = true := by rw [ha, hb]; rfl
theorem fits_of {xs : List VTb} (h : Sp.smallTbs xs) : Sp.fits1068 xs = true := by
  refine yes2_both (fits32_mk (by have := h.1; omega)) (allW_mem.2 fun x hx => ?_)
  have h2 := h.2 x hx
  unfold Sp.ctTb at h2
  show (Sp.fits32 x.2.1 && Sp.fits1114 x.2.2.2) = true
  have a : Sp.fits32 x.2.1 = true := fits32_mk (by omega)
  have b : Sp.fits1114 x.2.2.2 = true := by
    refine yes2_both (fits32_mk (by omega)) (allW_mem.2 fun y hy => ?_)
    have h3 := wtW_one (w := Sp.ctIx) hy
    unfold Sp.ctIx at h3 h2
    exact fits32_mk (by omega)
  rw [a, b]; rfl
theorem fine_of {xs : List VTb} (h : Sp.okTbs xs) : Sp.fineTs xs = true := by
  refine allW_mem.2 fun x hx => ?_
  obtain ⟨h1, ⟨_, h2⟩, _, h3⟩ := h.2 x hx
  exact yes2_both (Nat.ble_eq_true_of_le h1) (yes2_both (allW_mem.2 fun c hc => Nat.ble_eq_true_of_le (h2 c hc)) (allW_mem.2 fun c hc => Nat.ble_eq_true_of_le (h3 c hc).1))
theorem cat_rises : ∀ (xs pre : List VTb), Sp.allP Sp.catP pre xs = true → Sp.risesW Sp.nameT xs = true
  | [], _, _ => rfl
  | [_], _, _ => rfl
  | x :: y :: r, pre, h => by
    rw [Sp.allP] at h
    cases hx : Sp.catP pre x with
    | false => rw [hx] at h; cases h
    | true =>
      rw [hx, Bool.not_true, cond_false] at h
      rw [Sp.risesW, cat_rises (y :: r) (pre ++ [x]) h]
      rw [Sp.allP] at h
      cases hy : Sp.catP (pre ++ [x]) y with
      | false => rw [hy] at h; cases h
      | true =>
        unfold Sp.catP at hy
        cases ho : Sp.okT y with
        | false => rw [ho] at hy; cases hy
        | true =>
          rw [ho, Bool.not_true, cond_false, decide_eq_true (show 0 < (pre ++ [x]).length by simp), cond_true] at hy
          have e : Sp.prevT (pre ++ [x]) = x.1 := by
            unfold Sp.prevT
            rw [List.length_append, List.length_singleton, Nat.add_sub_cancel, List.getD, List.getElem?_append_right (Nat.le_refl _), Nat.sub_self]
            rfl
          rw [e] at hy
          show (bif Sp.lessS x.1 y.1 then true else false) = true
          rw [hy]; rfl
theorem cat_of {xs : List VTb} (h : Sp.catOK xs = true) : xs.length ≤ 6 ∧ Sp.risesW Sp.nameT xs = true := by
  unfold Sp.catOK at h
  by_cases h4 : (xs.length : Int) > 4096
  · rw [decide_eq_true h4] at h; cases h
  by_cases h6 : (xs.length : Int) > 6
  · rw [decide_eq_false h4, decide_eq_true h6] at h; cases h
  rw [decide_eq_false h4, decide_eq_false h6, cond_false, cond_false] at h
  exact ⟨by omega, cat_rises xs [] h⟩
theorem rist_of {xs : List VTb} (h : Sp.catOK xs = true) : Sp.risT xs = true := by
  have := cat_of h
  exact yes2_both (fits32_mk (by omega)) this.2
theorem seek_idx {xs : List VTb} (t : ByteArray) (h : Sp.catOK xs = true) : Sp.idx (Sp.nmTb t) xs 0 = bif Sp.hitT xs t then ((Sp.lowT xs t : Nat) : Int) else -1 := by
  have := idx_low (key := Sp.nameT) (t := t) (xs := xs) 0 (cat_of h).2
  refine this.trans ?_
  have e0 : Sp.lowW (fun x => Sp.lessS (Sp.nameT x) t) xs = Sp.lowT xs t := rfl
  rw [e0, Int.zero_add]
  unfold Sp.hitT
  by_cases hl : Sp.lowT xs t < xs.length
  · rw [decide_eq_true hl, cond_true, List.getElem?_eq_getElem hl]
    have e : Sp.tAt xs (Sp.lowT xs t : Nat) = xs[Sp.lowT xs t] := getD_nat xs _ _ hl
    rw [e]
    rfl
  · rw [decide_eq_false hl, cond_false, List.getElem?_eq_none (by omega)]
theorem hit_lt {xs : List VTb} {t : ByteArray} (h : Sp.hitT xs t = true) : Sp.lowT xs t < xs.length := by
  unfold Sp.hitT at h
  by_cases hl : Sp.lowT xs t < xs.length
  · exact hl
  · rw [decide_eq_false hl] at h; cases h
theorem guardI {i : Nat} {n : Nat} (h : i < n) : (decide ((0 : Int) ≤ (i : Int)) && decide ((i : Int) < (n : Int))) = true := guard2 h
end Go.Proofs.GR.T

namespace Go.Proofs.GR.T
open Go Go.Proofs Go.Proofs.GR
theorem short_long (x2 : List V2) : (!(Sp.f1121 x2).1) = Sp.allW Sp.shortE x2 := by
  show (!decide (Sp.idx Sp.longE x2 0 ≥ 0)) = _
  rw [idx_any _ _ _ (Int.le_refl 0), anyW_all, Bool.not_not]
  refine allW_cong fun e _ => ?_
  show (!(bif decide ((e.1.size : Int) > (60 : Int)) then (true, ()) else (decide ((e.2.size : Int) > (60 : Int)), ())).1) = Sp.shortE e
  unfold Sp.shortE
  cases decide ((e.1.size : Int) > (60 : Int)) <;> rfl
theorem neg_nat {n : Nat} : decide (((n : Nat) : Int) < 0) = false := decide_eq_false (by omega)
theorem guard_eq (x0 : ByteArray) (x1 : Int) (x2 : List V2) (x3 : List VTb) : (Sp.f1072 x0 x1 x2 x3).1 = Sp.guS x0 x1 x2 x3 := by
  unfold Sp.f1072 Sp.guS
  cases hc : Sp.catOK x3 with
  | false => cases decide ((x3.length : Int) > (4096 : Int)) <;> rfl
  | true =>
    have hl := (cat_of hc).1
    rw [decide_eq_false (show ¬ (x3.length : Int) > 4096 by omega), cond_false, Bool.not_true, cond_false, cond_true, seek_idx x0 hc]
    show (bif Sp.hitT x3 x0 then (bif (Sp.f79 x1 (0 : Int) (IntKind.i64.wrap (((Sp.tAt x3 (Sp.lowT x3 x0 : Nat)).2.1.length : Int) - (1 : Int)))).1 then (bif (Sp.cAt (Sp.tAt x3 (Sp.lowT x3 x0 : Nat)).2.1 x1).2.1 == (3 : Int) then (bif decide ((x2.length : Int) ≤ (20 : Int)) then (!(Sp.f1121 x2).1, ()) else (false, ())) else (false, ())) else (false, ())) else (false, ())).1 = _
    cases Sp.hitT x3 x0 with
    | false => rfl
    | true =>
      rw [cond_true, cond_true, neg_nat, cond_false]
      unfold Sp.guT
      rw [short_long]
      have h20 : decide ((x2.length : Int) ≤ (20 : Int)) = !decide ((x2.length : Int) > (20 : Int)) := by
        by_cases h : (x2.length : Int) ≤ 20
        · rw [decide_eq_true h, decide_eq_false (by omega)]; rfl
        · rw [decide_eq_false h, decide_eq_true (by omega)]; rfl
      rw [h20, show ((Sp.cAt (Sp.tAt x3 (Sp.lowT x3 x0 : Nat)).2.1 x1).2.1 != (3 : Int)) = !((Sp.cAt (Sp.tAt x3 (Sp.lowT x3 x0 : Nat)).2.1 x1).2.1 == (3 : Int)) from rfl]
      cases (Sp.f79 x1 (0 : Int) (IntKind.i64.wrap (((Sp.tAt x3 (Sp.lowT x3 x0 : Nat)).2.1.length : Int) - (1 : Int)))).1 <;> cases (Sp.cAt (Sp.tAt x3 (Sp.lowT x3 x0 : Nat)).2.1 x1).2.1 == (3 : Int) <;> cases decide ((x2.length : Int) > (20 : Int)) <;> rfl
theorem tAt_mem {xs : List VTb} {i : Nat} (h : i < xs.length) : Sp.tAt xs (i : Nat) ∈ xs := by
  have : Sp.tAt xs (i : Nat) = xs[i] := getD_nat xs i _ h
  rw [this]; exact List.getElem_mem h
theorem f1095_pre_of {x0 : ByteArray} {x1 : Int} {x2 : List V2} {x3 : List VTb} (hc : Sp.catOK x3 = true) (hs : Sp.smallTbs x3) : Sp.f1095_pre x0 x1 x2 x3 = true := by
  have hr : Sp.f1092_pre x3 x0 = true := rist_of hc
  unfold Sp.f1095_pre
  rw [hr, Bool.true_and]
  show (bif Sp.hitT x3 x0 then (decide ((0 : Int) ≤ (Sp.lowT x3 x0 : Nat)) && decide (((Sp.lowT x3 x0 : Nat) : Int) < (x3.length : Int)) && (bif (Sp.f79 x1 (0 : Int) (IntKind.i64.wrap (((Sp.tAt x3 (Sp.lowT x3 x0 : Nat)).2.1.length : Int) - (1 : Int)))).1 then (decide ((0 : Int) ≤ (Sp.lowT x3 x0 : Nat)) && decide (((Sp.lowT x3 x0 : Nat) : Int) < (x3.length : Int)) && (decide ((0 : Int) ≤ x1) && decide (x1 < ((Sp.tAt x3 (Sp.lowT x3 x0 : Nat)).2.1.length : Int)))) else true)) else true) = true
  cases hh : Sp.hitT x3 x0 with
  | false => rfl
  | true =>
    have hl := hit_lt hh
    have hs2 := hs.2 _ (tAt_mem hl)
    unfold Sp.ctTb at hs2
    rw [cond_true, guardI hl, Bool.true_and, f79_has (by omega)]
    cases decide ((0 : Int) ≤ x1) && decide (x1 < ((Sp.tAt x3 (Sp.lowT x3 x0 : Nat)).2.1.length : Int)) <;> rfl
theorem law1060_pre (x0 : ByteArray) (x1 : Int) (x2 : List V2) (x3 : List VTb) (h0 : x0.size ≤ 9223372036854775807) (h2 : Sp.okE x2) (h3 : Sp.okTbs x3) : Sp.f1060_pre x0 x1 x2 x3 = true := by
  unfold Sp.f1060_pre
  by_cases c1 : (Sp.f34 x0 x1 x2 (1048576 : Int)).1 < 0
  · rw [decide_eq_true c1]; rfl
  have c1' := c1
  unfold Sp.f34 at c1'
  rw [wrap64 (n := 1048576 - (x0.size : Int)) (by omega) (by omega)] at c1'
  by_cases k1 : 1048576 - (x0.size : Int) < 0
  · rw [decide_eq_true k1] at c1'; exact absurd (show (-1 : Int) < 0 by decide) c1'
  rw [decide_eq_false k1, cond_false] at c1'
  by_cases k2 : Sp.szE Sp.szEn x2 (1048576 - (x0.size : Int)) < 0
  · rw [decide_eq_true k2] at c1'; exact absurd (show (-1 : Int) < 0 by decide) c1'
  obtain ⟨s1, s2⟩ := szE_of (f := Sp.szEn) (xs := x2) (l := 1048576 - (x0.size : Int)) h2.1 (fun x hx l a b => szEn_le (h2.2 x hx).1 (h2.2 x hx).2 l a b) (by omega) (by omega)
  have hf : (Sp.f34 x0 x1 x2 (1048576 : Int)).1 = Sp.szE Sp.szEn x2 (1048576 - (x0.size : Int)) := by
    unfold Sp.f34
    rw [wrap64 (n := 1048576 - (x0.size : Int)) (by omega) (by omega), decide_eq_false k1, cond_false, decide_eq_false k2]; rfl
  by_cases c2 : Sp.szE Sp.szTb x3 (Sp.f34 x0 x1 x2 (1048576 : Int)).1 < 0
  · rw [decide_eq_false c1, decide_eq_true c2]; rfl
  have hs := smallTb_of h3 (l := (Sp.f34 x0 x1 x2 (1048576 : Int)).1) (by omega) (by rw [hf]; omega) c2
  have p1 : Sp.f37_pre x0 x1 x2 = true := fits32_mk (by have := s2 (by omega); omega)
  have p2 := fits_of hs
  have p3 : Sp.f1072_pre x0 x1 x2 x3 = true := by
    unfold Sp.f1072_pre
    rw [fine_of h3, Bool.true_and]
    cases hc : Sp.catOK x3 with
    | false => rfl
    | true => exact f1095_pre_of (x2 := x2) hc hs
  rw [decide_eq_false c1, decide_eq_false c2, cond_false, cond_false, p1, p2]
  show (true && (true && (true && (true && (Sp.f1072_pre x0 x1 x2 x3 && _))))) = true
  rw [p3]
  simp
theorem law1060 (x0 : ByteArray) (x1 : Int) (x2 : List V2) (x3 : List VTb) : (Sp.f1060 x0 x1 x2 x3).1 = true := by
  unfold Sp.f1060
  show (bif decide ((Sp.f34 x0 x1 x2 (1048576 : Int)).1 < (0 : Int)) then (true, ()) else (bif decide (Sp.szE Sp.szTb x3 (Sp.f34 x0 x1 x2 (1048576 : Int)).1 < (0 : Int)) then (true, ()) else (bif !eqB (Sp.f1072 x0 x1 x2 x3).1 (Sp.guS x0 x1 x2 x3) then (false, ()) else (bif !(Sp.f40 x0 x1 x2 x0 x1 x2).1 then (false, ()) else (bif !Sp.eqW Sp.eqTb x3 x3 then (false, ()) else (true, ())))))).1 = true
  rw [guard_eq, f40_self, eqW_self eqTb_self]
  have h : eqB (Sp.guS x0 x1 x2 x3) (Sp.guS x0 x1 x2 x3) = true := by cases Sp.guS x0 x1 x2 x3 <;> rfl
  rw [h]
  cases decide ((Sp.f34 x0 x1 x2 (1048576 : Int)).1 < (0 : Int)) <;> cases decide (Sp.szE Sp.szTb x3 (Sp.f34 x0 x1 x2 (1048576 : Int)).1 < (0 : Int)) <;> rfl
end Go.Proofs.GR.T

