/-
  No statement is proved here: what the functions of the law answer, told as plain functions, and that the law's answer is always true.
  No condition.
-/
import Derived.Test.YtkkibaihacgliaaDoorTGuardOKb
set_option maxRecDepth 3000000
set_option maxHeartbeats 100000000
namespace Go.Proofs.GR.T
open Go Go.Proofs Go.Proofs.GR
def Sp.short (t : ByteArray) : Bool := Nat.ble t.size 1000000000000
noncomputable def f1071_L0 (n m0 : Nat) (y0 : Int) (y1 : ByteArray) (y2 : Int) (y3 : List (ByteArray × ByteArray)) : Option Res := loopAt Γ (orc [e1088, e140, e79]) n (16 : Nat) (0 : Nat) [] [Pth.r, Pth.r, Pth.r, Pth.r, Pth.l, Pth.r, Pth.b] m0 (St.mk [Slot.nix, Slot.nix, Slot.val (Val.one (Cell.ptr (0 : Nat) (0 : Nat))), Slot.nix, Slot.nix, Slot.nix, Slot.val (Val.one (Cell.dat (Ty.int IntKind.i64) y0)), Slot.nix, Slot.nix, Slot.nix, Slot.nix, Slot.nix, Slot.nix, Slot.nix, Slot.nix, Slot.nix, Slot.nix, Slot.nix, Slot.nix, Slot.nix, Slot.nix, Slot.nix, Slot.nix, Slot.nix, Slot.nix, Slot.nix, Slot.nix, Slot.nix, Slot.nix, Slot.nix, Slot.nix, Slot.nix, Slot.nix, Slot.nix, Slot.nix, Slot.nix, Slot.nix, Slot.nix, Slot.nix, Slot.nix, Slot.nix, Slot.nix, Slot.nix, Slot.nix, Slot.nix, Slot.nix, Slot.nix, Slot.nix, Slot.nix, Slot.nix, Slot.nix, Slot.nix, Slot.nix, Slot.nix, Slot.nix, Slot.nix, Slot.nix, Slot.nix, Slot.nix, Slot.nix, Slot.nix, Slot.nix, Slot.nix, Slot.nix, Slot.nix, Slot.nix, Slot.nix, Slot.nix, Slot.nix, Slot.nix, Slot.nix, Slot.nix, Slot.nix, Slot.nix, Slot.nix, Slot.nix, Slot.nix, Slot.nix] [AObj.box (42 : Nat) [Cell.dat Ty.str y1, Cell.dat (Ty.int IntKind.i64) y2, Cell.dat (Ty.str.pair Ty.str).slice y3]])
theorem f1071_L0_step (n m0 : Nat) (y0 : Int) (y1 : ByteArray) (y2 : Int) (y3 : List (ByteArray × ByteArray)) : f1071_L0 n (m0 + 1) y0 y1 y2 y3 = bif decide (y0 < (↑y3.length : Int)) then chk (decide ((0 : Int) ≤ y0) && decide (y0 < (↑y3.length : Int))) (bif decide ((↑(y3.getD y0.toNat (ByteArray.mk #[], ByteArray.mk #[])).1.size : Int) > (60 : Int)) then some (Res.mk [XV.mk false [X.c (X0.dat Ty.bool false)]] []) else chk (decide ((0 : Int) ≤ y0) && decide (y0 < (↑y3.length : Int))) (bif decide ((↑(y3.getD y0.toNat (ByteArray.mk #[], ByteArray.mk #[])).2.size : Int) > (60 : Int)) then some (Res.mk [XV.mk false [X.c (X0.dat Ty.bool false)]] []) else f1071_L0 n m0 (IntKind.i64.wrap (y0 + (1 : Int))) y1 y2 y3)) else some (Res.mk [XV.mk false [X.c (X0.dat Ty.bool true)]] []) := by kernel_rfl
theorem f1071_raw (n : Nat) (x0 : ByteArray) (x1 : Int) (x2 : List (ByteArray × ByteArray)) (x3 : List (ByteArray × List (ByteArray × Int × Bool) × Int × List (ByteArray × List Int))) : abody Γ (orc [e1088, e140, e79]) n 16 [XV.mk true [X.c (X0.dat Ty.str x0), X.c (X0.dat (Ty.int IntKind.i64) x1), X.c (X0.dat (Ty.str.pair Ty.str).slice x2)], XV.mk false [X.c (X0.dat (Ty.str.pair ((Ty.str.pair ((Ty.int IntKind.i64).pair Ty.bool)).slice.pair ((Ty.int IntKind.i64).pair (Ty.str.pair (Ty.int IntKind.i64).slice).slice))).slice x3)]] = bif decide ((↑x3.length : Int) > (4096 : Int)) then some (Res.mk [XV.mk false [X.c (X0.dat Ty.bool false)]] []) else bif !Sp.catOK x3 then some (Res.mk [XV.mk false [X.c (X0.dat Ty.bool false)]] []) else bif decide (Sp.idx (Sp.nmTb x0) x3 (0 : Int) < (0 : Int)) then some (Res.mk [XV.mk false [X.c (X0.dat Ty.bool false)]] []) else chk (decide ((0 : Int) ≤ Sp.idx (Sp.nmTb x0) x3 (0 : Int)) && decide (Sp.idx (Sp.nmTb x0) x3 (0 : Int) < (↑x3.length : Int))) (bif !(Sp.f79 x1 (0 : Int) (IntKind.i64.wrap ((↑(x3.getD (Sp.idx (Sp.nmTb x0) x3 (0 : Int)).toNat (ByteArray.mk #[], [], (0 : Int), [])).2.1.length : Int) - (1 : Int)))).1 then some (Res.mk [XV.mk false [X.c (X0.dat Ty.bool false)]] []) else chk (decide ((0 : Int) ≤ Sp.idx (Sp.nmTb x0) x3 (0 : Int)) && decide (Sp.idx (Sp.nmTb x0) x3 (0 : Int) < (↑x3.length : Int))) (chk (decide ((0 : Int) ≤ x1) && decide (x1 < (↑(x3.getD (Sp.idx (Sp.nmTb x0) x3 (0 : Int)).toNat (ByteArray.mk #[], [], (0 : Int), [])).2.1.length : Int))) (bif ((x3.getD (Sp.idx (Sp.nmTb x0) x3 (0 : Int)).toNat (ByteArray.mk #[], [], (0 : Int), [])).2.1.getD x1.toNat (ByteArray.mk #[], (0 : Int), false)).2.1 != (3 : Int) then some (Res.mk [XV.mk false [X.c (X0.dat Ty.bool false)]] []) else bif decide ((↑x2.length : Int) > (20 : Int)) then some (Res.mk [XV.mk false [X.c (X0.dat Ty.bool false)]] []) else f1071_L0 n n (0 : Int) x0 x1 x2))) := by kernel_rfl

end Go.Proofs.GR.T

set_option maxRecDepth 3000000
set_option maxHeartbeats 100000000
namespace Go.Proofs.GR.T
open Go Go.Proofs Go.Proofs.GR
theorem idx_lt {α : Type} {p : α → Bool} : ∀ (xs : List α) (n : Int), 0 ≤ n → ¬ Sp.idx p xs n < 0 → n ≤ Sp.idx p xs n ∧ Sp.idx p xs n < n + (xs.length : Int)
  | [], n, _, h => absurd (show (-1 : Int) < 0 by decide) h
  | x :: r, n, h0, h => by
    rw [Sp.idx] at h ⊢
    rw [List.length_cons]
    cases hp : p x with
    | true => rw [cond_true]; omega
    | false =>
      rw [hp, cond_false] at h
      rw [cond_false]
      have := idx_lt r (n + 1) (by omega) h
      omega
theorem f79_has {i : Int} {n : Nat} (h : n ≤ 9223372036854775807) : (Sp.f79 i (0 : Int) (IntKind.i64.wrap ((n : Int) - (1 : Int)))).1 = (decide ((0 : Int) ≤ i) && decide (i < (n : Int))) := by
  rw [wrap64 (by omega) (by omega)]
  show (bif decide (i ≥ (0 : Int)) then (decide (i ≤ (n : Int) - 1), ()) else (false, ())).1 = _
  by_cases h0 : 0 ≤ i
  · rw [decide_eq_true h0, cond_true, Bool.true_and]
    exact decide_eq_decide.2 ⟨fun h => by omega, fun h => by omega⟩
  · rw [decide_eq_false h0]
    rfl
def Sp.tAt (xs : List VTb) (i : Int) : VTb := xs.getD i.toNat (ByteArray.mk #[], [], (0 : Int), [])
def Sp.cAt (cs : List VCo) (i : Int) : VCo := cs.getD i.toNat (ByteArray.mk #[], (0 : Int), false)
def Sp.shortE (e : V2) : Bool := bif decide ((e.1.size : Int) > (60 : Int)) then false else !decide ((e.2.size : Int) > (60 : Int))
def Sp.guT (x1 : Int) (x2 : List V2) (cs : List VCo) : Bool := bif !(Sp.f79 x1 (0 : Int) (IntKind.i64.wrap ((cs.length : Int) - (1 : Int)))).1 then false else bif (Sp.cAt cs x1).2.1 != (3 : Int) then false else bif decide ((x2.length : Int) > (20 : Int)) then false else Sp.allW Sp.shortE x2
def Sp.guS (x0 : ByteArray) (x1 : Int) (x2 : List V2) (x3 : List VTb) : Bool := bif decide ((x3.length : Int) > (4096 : Int)) then false else bif !Sp.catOK x3 then false else bif decide (Sp.idx (Sp.nmTb x0) x3 (0 : Int) < (0 : Int)) then false else Sp.guT x1 x2 (Sp.tAt x3 (Sp.idx (Sp.nmTb x0) x3 (0 : Int))).2.1
abbrev shGu : Sh := Sh.agg [C0.dat .str, C0.dat (.int .i64), C0.dat (.slice tE)]
noncomputable def e1071 : Ent := { f := n1071, ins := [shGu, Sh.one (cL tTb)], outs := [Sh.one cB], upd := [], pre := fun _ => true, spec := fun a => Sp.guS a.1.1 a.1.2.1 a.1.2.2 a.2, wrt := fun _ => () }
theorem e1071_core (x0 : ByteArray) (x1 : Int) (x2 : List V2) (x3 : List VTb) (hl : x2.length ≤ maxLen) (hc : ∀ x ∈ x3, x.2.1.length ≤ maxLen) : ∃ n, abody Γ (orc [e1088, e140, e79]) n n1071 [XV.mk true [X.c (X0.dat Ty.str x0), X.c (X0.dat (Ty.int IntKind.i64) x1), X.c (X0.dat (Ty.slice tE) x2)], XV.mk false [X.c (X0.dat (Ty.slice tTb) x3)]] = some (rBo (Sp.guS x0 x1 x2 x3)) := by
  have hl : x2.length ≤ 9223372036854775807 := hl
  refine ⟨x2.length + 1, (f1071_raw _ x0 x1 x2 x3).trans ?_⟩
  unfold Sp.guS
  cases decide ((x3.length : Int) > (4096 : Int)) with
  | true => rfl
  | false =>
  cases Sp.catOK x3 with
  | false => rfl
  | true =>
  by_cases hi : Sp.idx (Sp.nmTb x0) x3 (0 : Int) < 0
  · rw [decide_eq_true hi]; rfl
  have hb := idx_lt x3 0 (Int.le_refl 0) hi
  rw [Int.zero_add] at hb
  have hg : (decide ((0 : Int) ≤ Sp.idx (Sp.nmTb x0) x3 (0 : Int)) && decide (Sp.idx (Sp.nmTb x0) x3 (0 : Int) < (x3.length : Int))) = true := by rw [decide_eq_true hb.1, decide_eq_true hb.2]; rfl
  have hc : (Sp.tAt x3 (Sp.idx (Sp.nmTb x0) x3 (0 : Int))).2.1.length ≤ 9223372036854775807 := by
    unfold Sp.tAt
    have hn : (Sp.idx (Sp.nmTb x0) x3 (0 : Int)).toNat < x3.length := by omega
    rw [List.getD, List.getElem?_eq_getElem hn, Option.getD_some]
    exact hc _ (List.getElem_mem hn)
  rw [decide_eq_false hi, hg, Bool.not_true, cond_false, cond_false, cond_false, cond_false, cond_false, cond_false, chkT]
  show (bif !(Sp.f79 x1 (0 : Int) (IntKind.i64.wrap (((Sp.tAt x3 (Sp.idx (Sp.nmTb x0) x3 (0 : Int))).2.1.length : Int) - (1 : Int)))).1 then some (rBo false) else chk true (chk (decide ((0 : Int) ≤ x1) && decide (x1 < ((Sp.tAt x3 (Sp.idx (Sp.nmTb x0) x3 (0 : Int))).2.1.length : Int))) (bif (Sp.cAt (Sp.tAt x3 (Sp.idx (Sp.nmTb x0) x3 (0 : Int))).2.1 x1).2.1 != (3 : Int) then some (rBo false) else bif decide ((x2.length : Int) > (20 : Int)) then some (rBo false) else f1071_L0 (x2.length + 1) (x2.length + 1) (0 : Int) x0 x1 x2))) = some (rBo (Sp.guT x1 x2 (Sp.tAt x3 (Sp.idx (Sp.nmTb x0) x3 (0 : Int))).2.1))
  revert hc
  generalize (Sp.tAt x3 (Sp.idx (Sp.nmTb x0) x3 (0 : Int))).2.1 = cs
  intro hc
  unfold Sp.guT
  rw [f79_has hc]
  cases decide ((0 : Int) ≤ x1) && decide (x1 < (cs.length : Int)) with
  | false => rfl
  | true =>
    rw [Bool.not_true, cond_false, cond_false, chkT, chkT]
    cases (Sp.cAt cs x1).2.1 != (3 : Int) with
    | true => rfl
    | false =>
      cases decide ((x2.length : Int) > (20 : Int)) with
      | true => rfl
      | false =>
        rw [cond_false, cond_false, cond_false, cond_false]
        have := all_loop (p := Sp.shortE) (R := rBo) x2 (fun m k => f1071_L0 (x2.length + 1) m k x0 x1 x2) (fun m k hk => by
          show f1071_L0 _ _ _ _ _ _ = _
          rw [f1071_L0_step, nat_ge hk, cond_false]) (fun m k h => by
          show f1071_L0 _ _ _ _ _ _ = _
          rw [f1071_L0_step, nat_lt h, cond_true, guard0, chkT, chkT, getD_nat x2 k _ h, next64 h hl]
          unfold Sp.shortE
          cases decide ((x2[k].1.size : Int) > (60 : Int)) <;> cases decide ((x2[k].2.size : Int) > (60 : Int)) <;> rfl) x2.length 0 (x2.length + 1) (Nat.zero_add _) (Nat.lt_succ_self _)
        rw [List.drop_zero] at this
        exact this
theorem e1071_ok : Valid PP Γ e1071 := valid_len ok (vcons e1088_ok (vcons e140_ok (vcons e79_ok vnil))) fun a _ hl => e1071_core a.1.1 a.1.2.1 a.1.2.2 a.2 (hl _ (List.mem_cons_self) _ (List.mem_cons_of_mem _ (List.mem_cons_of_mem _ List.mem_cons_self))).1 fun x hx => ((hl _ (List.mem_cons_of_mem _ List.mem_cons_self) _ (List.mem_cons_self)).2 x hx).2.1.1
def Sp.f1154 (x0 : ByteArray) := (!x0.toList == x0.toList, ())
noncomputable def e1154 : Ent := { f := 157, ins := [Sh.one (C0.dat Ty.str)], outs := [Sh.one (C0.dat Ty.bool)], upd := [], pre := fun a => true, spec := fun a => (Sp.f1154 a).1, wrt := fun a => (Sp.f1154 a).2 }
def f1154_g (v : denS [Sh.one (C0.dat Ty.bool)] × denS []) : Res := ⟨mkS [Sh.one (C0.dat Ty.bool)] v.1, mkU [] v.2⟩
theorem f1154_raw (x0 : ByteArray) : abody Γ (orc []) 0 157 [XV.mk false [X.c (X0.dat Ty.str x0)]] = some (Res.mk [XV.mk false [X.c (X0.dat Ty.bool !x0.toList == x0.toList)]] []) := by kernel_rfl
theorem f1154_form (x0 : ByteArray) : (some (Res.mk [XV.mk false [X.c (X0.dat Ty.bool !x0.toList == x0.toList)]] [])) = some (f1154_g (Sp.f1154 x0)) := by
  unfold Sp.f1154
  exact rfl
theorem e1154_ok : Valid PP Γ e1154 := valid_auto ok vnil fun a => (f1154_raw a).trans (f1154_form a)

def Sp.f1118 (x0 : ByteArray) (x1 : ByteArray) := (bif (Sp.f1154 x0).1 then (bif (Sp.f1154 x1).1 then ((0 : Int), ()) else ((-1 : Int), ())) else (bif (Sp.f1154 x1).1 then ((1 : Int), ()) else (bif Op.bytesLess x0.toList x1.toList then ((-1 : Int), ()) else (bif !(Op.bytesLess x0.toList x1.toList || x0.toList == x1.toList) then ((1 : Int), ()) else ((0 : Int), ())))))
noncomputable def e1118 : Ent := { f := 93, ins := [Sh.one (C0.dat Ty.str), Sh.one (C0.dat Ty.str)], outs := [Sh.one (C0.dat (Ty.int IntKind.i64))], upd := [], pre := fun a => true, spec := fun a => (Sp.f1118 a.1 a.2).1, wrt := fun a => (Sp.f1118 a.1 a.2).2 }
def f1118_g (v : denS [Sh.one (C0.dat (Ty.int IntKind.i64))] × denS []) : Res := ⟨mkS [Sh.one (C0.dat (Ty.int IntKind.i64))] v.1, mkU [] v.2⟩
theorem f1118_raw (x0 : ByteArray) (x1 : ByteArray) : abody Γ (orc [e1154]) 0 93 [XV.mk false [X.c (X0.dat Ty.str x0)], XV.mk false [X.c (X0.dat Ty.str x1)]] = bif (Sp.f1154 x0).1 then bif (Sp.f1154 x1).1 then some (Res.mk [XV.mk false [X.c (X0.dat (Ty.int IntKind.i64) (0 : Int))]] []) else some (Res.mk [XV.mk false [X.c (X0.dat (Ty.int IntKind.i64) (-1 : Int))]] []) else bif (Sp.f1154 x1).1 then some (Res.mk [XV.mk false [X.c (X0.dat (Ty.int IntKind.i64) (1 : Int))]] []) else bif Op.bytesLess x0.toList x1.toList then some (Res.mk [XV.mk false [X.c (X0.dat (Ty.int IntKind.i64) (-1 : Int))]] []) else bif !(Op.bytesLess x0.toList x1.toList || x0.toList == x1.toList) then some (Res.mk [XV.mk false [X.c (X0.dat (Ty.int IntKind.i64) (1 : Int))]] []) else some (Res.mk [XV.mk false [X.c (X0.dat (Ty.int IntKind.i64) (0 : Int))]] []) := by kernel_rfl
theorem f1118_form (x0 : ByteArray) (x1 : ByteArray) : (bif (Sp.f1154 x0).1 then bif (Sp.f1154 x1).1 then some (Res.mk [XV.mk false [X.c (X0.dat (Ty.int IntKind.i64) (0 : Int))]] []) else some (Res.mk [XV.mk false [X.c (X0.dat (Ty.int IntKind.i64) (-1 : Int))]] []) else bif (Sp.f1154 x1).1 then some (Res.mk [XV.mk false [X.c (X0.dat (Ty.int IntKind.i64) (1 : Int))]] []) else bif Op.bytesLess x0.toList x1.toList then some (Res.mk [XV.mk false [X.c (X0.dat (Ty.int IntKind.i64) (-1 : Int))]] []) else bif !(Op.bytesLess x0.toList x1.toList || x0.toList == x1.toList) then some (Res.mk [XV.mk false [X.c (X0.dat (Ty.int IntKind.i64) (1 : Int))]] []) else some (Res.mk [XV.mk false [X.c (X0.dat (Ty.int IntKind.i64) (0 : Int))]] [])) = some (f1118_g (Sp.f1118 x0 x1)) := by
  unfold Sp.f1118
  exact (cond_plain f1118_g ((cond_plain f1118_g (rfl) (rfl))) ((cond_plain f1118_g (rfl) ((cond_plain f1118_g (rfl) ((cond_plain f1118_g (rfl) (rfl))))))))
theorem e1118_ok : Valid PP Γ e1118 := valid_auto ok (vcons e1154_ok vnil) fun a => (f1118_raw a.1 a.2).trans (f1118_form a.1 a.2)

def Sp.f1117 (x0 : ByteArray) (x1 : List (ByteArray × Int × Bool)) (x2 : Int) (x3 : List (ByteArray × List Int)) (x4 : ByteArray) := ((Sp.f1118 x0 x4).1, ())
noncomputable def e1117 : Ent := { f := 92, ins := [Sh.agg [C0.dat Ty.str, C0.dat (Ty.str.pair ((Ty.int IntKind.i64).pair Ty.bool)).slice, C0.dat (Ty.int IntKind.i64), C0.dat (Ty.str.pair (Ty.int IntKind.i64).slice).slice], Sh.one (C0.dat Ty.str)], outs := [Sh.one (C0.dat (Ty.int IntKind.i64))], upd := [], pre := fun a => true, spec := fun a => (Sp.f1117 a.1.1 a.1.2.1 a.1.2.2.1 a.1.2.2.2 a.2).1, wrt := fun a => (Sp.f1117 a.1.1 a.1.2.1 a.1.2.2.1 a.1.2.2.2 a.2).2 }
def f1117_g (v : denS [Sh.one (C0.dat (Ty.int IntKind.i64))] × denS []) : Res := ⟨mkS [Sh.one (C0.dat (Ty.int IntKind.i64))] v.1, mkU [] v.2⟩
theorem f1117_raw (x0 : ByteArray) (x1 : List (ByteArray × Int × Bool)) (x2 : Int) (x3 : List (ByteArray × List Int)) (x4 : ByteArray) : abody Γ (orc [e1118]) 0 92 [XV.mk true [X.c (X0.dat Ty.str x0), X.c (X0.dat (Ty.str.pair ((Ty.int IntKind.i64).pair Ty.bool)).slice x1), X.c (X0.dat (Ty.int IntKind.i64) x2), X.c (X0.dat (Ty.str.pair (Ty.int IntKind.i64).slice).slice x3)], XV.mk false [X.c (X0.dat Ty.str x4)]] = some (Res.mk [XV.mk false [X.c (X0.dat (Ty.int IntKind.i64) (Sp.f1118 x0 x4).1)]] []) := by kernel_rfl
theorem f1117_form (x0 : ByteArray) (x1 : List (ByteArray × Int × Bool)) (x2 : Int) (x3 : List (ByteArray × List Int)) (x4 : ByteArray) : (some (Res.mk [XV.mk false [X.c (X0.dat (Ty.int IntKind.i64) (Sp.f1118 x0 x4).1)]] [])) = some (f1117_g (Sp.f1117 x0 x1 x2 x3 x4)) := by
  unfold Sp.f1117
  exact rfl
theorem e1117_ok : Valid PP Γ e1117 := valid_auto ok (vcons e1118_ok vnil) fun a => (f1117_raw a.1.1 a.1.2.1 a.1.2.2.1 a.1.2.2.2 a.2).trans (f1117_form a.1.1 a.1.2.1 a.1.2.2.1 a.1.2.2.2 a.2)

end Go.Proofs.GR.T

set_option maxRecDepth 100000
set_option maxHeartbeats 100000000
namespace Go.Proofs.GR.T
open Go Go.Proofs Go.Proofs.GR
def Sp.f1029_pre (x0 : ByteArray) : Bool := x0.size.ble (9223372036854775807 : Nat)
def Sp.f1029 (x0 : ByteArray) := (bif Sp.isName (strBytes x0) then (!(Sp.f1031 Sp.f1037.1 x0).1, ()) else (false, ()))
noncomputable def e1029 : Ent := { f := 110, ins := [Sh.one (C0.dat Ty.str)], outs := [Sh.one (C0.dat Ty.bool)], upd := [], pre := fun a => Sp.f1029_pre a, spec := fun a => (Sp.f1029 a).1, wrt := fun a => (Sp.f1029 a).2 }
def f1029_g (v : denS [Sh.one (C0.dat Ty.bool)] × denS []) : Res := ⟨mkS [Sh.one (C0.dat Ty.bool)] v.1, mkU [] v.2⟩
theorem f1029_raw (x0 : ByteArray) : abody Γ (orc [e1036, e1037, e1031]) 0 110 [XV.mk false [X.c (X0.dat Ty.str x0)]] = chk (x0.size.ble (9223372036854775807 : Nat)) (bif Sp.isName (strBytes x0) then some (Res.mk [XV.mk false [X.c (X0.dat Ty.bool !(Sp.f1031 Sp.f1037.1 x0).1)]] []) else some (Res.mk [XV.mk false [X.c (X0.dat Ty.bool false)]] [])) := by kernel_rfl
theorem f1029_form (x0 : ByteArray) : (chk (x0.size.ble (9223372036854775807 : Nat)) (bif Sp.isName (strBytes x0) then some (Res.mk [XV.mk false [X.c (X0.dat Ty.bool !(Sp.f1031 Sp.f1037.1 x0).1)]] []) else some (Res.mk [XV.mk false [X.c (X0.dat Ty.bool false)]] []))) = chk (Sp.f1029_pre x0) (some (f1029_g (Sp.f1029 x0))) := by
  unfold Sp.f1029_pre Sp.f1029
  exact (chk_last ((cond_plain f1029_g (rfl) (rfl))))
theorem e1029_ok : Valid PP Γ e1029 := valid_auto ok (vcons e1036_ok (vcons e1037_ok (vcons e1031_ok vnil))) fun a => (f1029_raw a).trans (f1029_form a)

end Go.Proofs.GR.T

