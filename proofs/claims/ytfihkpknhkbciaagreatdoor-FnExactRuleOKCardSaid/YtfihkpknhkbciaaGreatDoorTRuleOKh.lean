/-
  No statement is proved here: what the functions of the law answer, told as plain functions, and that the law's answer is always true.
  No condition.
-/
import Derived.Test.YtfihkpknhkbciaaGreatDoorTRuleOKg
set_option maxRecDepth 3000000
set_option maxHeartbeats 100000000
namespace Go.Proofs.GR.T
open Go Go.Proofs Go.Proofs.GR
noncomputable def f1209_L0 (n m0 : Nat) (y0 : List Int) (y1 y2 y3 : Int) : Option Res := loopAt Γ (orc []) n (298 : Nat) (0 : Nat) [] [Pth.r, Pth.l, Pth.r, Pth.b] m0 (St.mk (ZS Zi.slice y0 :: ZS Zi y1 :: ZN 5 (ZS Zi y2 :: ZS Zi y3 :: ZN 10 [])) [])
theorem f1209_L0_step (n m0 : Nat) (y0 : List Int) (y1 y2 y3 : Int) : f1209_L0 n (m0 + 1) y0 y1 y2 y3 = bif decide (y3 < y2) then chk (decide ((0 : Int) ≤ y3) && decide (y3 < (↑y0.length : Int))) (bif y1 == y0.getD y3.toNat (0 : Int) then ZJ y3 else f1209_L0 n m0 y0 y1 y2 (IntKind.i64.wrap (y3 + (1 : Int)))) else ZJ (-1 : Int) := by kernel_rfl
theorem f1209_raw (n : Nat) (x0 : List Int) (x1 : Int) : abody Γ (orc []) n 298 [ZX Zi.slice x0, ZX Zi x1] = f1209_L0 n n x0 x1 (↑x0.length : Int) (0 : Int) := by kernel_rfl

def Sp.f1151_pre (x0 : ByteArray) (x1 : Int) (x2 : Bool) : Bool := (Sp.f1029_pre x0)
def Sp.f1151 (x0 : ByteArray) (x1 : Int) (x2 : Bool) := (bif (Sp.f1029 x0).1 then ((Sp.f70 x1 (1 : Int) (4 : Int)).1, ()) else (false, ()))
noncomputable def e1151 : Ent := { f := 183, ins := [Sh.agg [C0.dat Ty.str, C0.dat Zi, C0.dat Ty.bool]], outs := [Sh.one (C0.dat Ty.bool)], upd := [], pre := fun a => Sp.f1151_pre a.1 a.2.1 a.2.2, spec := fun a => (Sp.f1151 a.1 a.2.1 a.2.2).1, wrt := fun a => (Sp.f1151 a.1 a.2.1 a.2.2).2 }
def f1151_g (v : denS [Sh.one (C0.dat Ty.bool)] × denS []) : Res := ⟨mkS [Sh.one (C0.dat Ty.bool)] v.1, mkU [] v.2⟩
theorem f1151_form (x0 : ByteArray) (x1 : Int) (x2 : Bool) : abody Γ (orc [e1029, e70]) 0 183 [XV.mk true [ZC Ty.str x0, ZC Zi x1, ZC Ty.bool x2]] = chk (Sp.f1151_pre x0 x1 x2) (some (f1151_g (Sp.f1151 x0 x1 x2))) := by
  refine Eq.trans (b := chk (Sp.f1029_pre x0) (bif (Sp.f1029 x0).1 then ZB (Sp.f70 x1 (1 : Int) (4 : Int)).1 else Zf)) (by kernel_rfl) ?_
  unfold Sp.f1151_pre Sp.f1151
  exact (chk_last ((cond_plain f1151_g (rfl) (rfl))))
theorem e1151_ok : Valid PP Γ e1151 := valid_auto ok (vcons e1029_ok (vcons e70_ok vnil)) fun a => f1151_form a.1 a.2.1 a.2.2

noncomputable def f1116_L0 (n m0 : Nat) (y0 : List (ByteArray × List (ByteArray × Int × Bool) × Int × List (ByteArray × List Int))) (y1 : ByteArray) (y2 y3 y4 : Int) : Option Res := loopAt Γ (orc [e1117]) n (170 : Nat) (0 : Nat) [] [Pth.r, Pth.r, Pth.r, Pth.l, Pth.b] m0 (St.mk (ZS (Ty.str.pair ((Ty.str.pair (Zi.pair Ty.bool)).slice.pair (Zi.pair (Ty.str.pair Zi.slice).slice))).slice y0 :: ZS Ty.str y1 :: Slot.val (Val.one (Cell.fn (171 : Nat) [])) :: ZN 5 (ZS Zi y2 :: ZS Zi y3 :: ZS Zi y4 :: ZN 38 [])) [])
theorem f1116_L0_step (n m0 : Nat) (y0 : List (ByteArray × List (ByteArray × Int × Bool) × Int × List (ByteArray × List Int))) (y1 : ByteArray) (y2 y3 y4 : Int) : f1116_L0 n (m0 + 1) y0 y1 y2 y3 y4 = bif decide (y3 < y4) then chk (decide ((0 : Int) ≤ IntKind.i64.wrap ((IntKind.u64.wrap (IntKind.i64.wrap (y3 + y4))).fdiv (2 : Int))) && decide (IntKind.i64.wrap ((IntKind.u64.wrap (IntKind.i64.wrap (y3 + y4))).fdiv (2 : Int)) < (↑y0.length : Int))) (bif decide ((Sp.f1117 (y0.getD (IntKind.i64.wrap ((IntKind.u64.wrap (IntKind.i64.wrap (y3 + y4))).fdiv (2 : Int))).toNat (ByteArray.mk #[], [], (0 : Int), [])).1 (y0.getD (IntKind.i64.wrap ((IntKind.u64.wrap (IntKind.i64.wrap (y3 + y4))).fdiv (2 : Int))).toNat (ByteArray.mk #[], [], (0 : Int), [])).2.1 (y0.getD (IntKind.i64.wrap ((IntKind.u64.wrap (IntKind.i64.wrap (y3 + y4))).fdiv (2 : Int))).toNat (ByteArray.mk #[], [], (0 : Int), [])).2.2.1 (y0.getD (IntKind.i64.wrap ((IntKind.u64.wrap (IntKind.i64.wrap (y3 + y4))).fdiv (2 : Int))).toNat (ByteArray.mk #[], [], (0 : Int), [])).2.2.2 y1).1 < (0 : Int)) then f1116_L0 n m0 y0 y1 y2 (IntKind.i64.wrap (IntKind.i64.wrap ((IntKind.u64.wrap (IntKind.i64.wrap (y3 + y4))).fdiv (2 : Int)) + (1 : Int))) y4 else f1116_L0 n m0 y0 y1 y2 y3 (IntKind.i64.wrap ((IntKind.u64.wrap (IntKind.i64.wrap (y3 + y4))).fdiv (2 : Int)))) else bif decide (y3 < y2) then chk (decide ((0 : Int) ≤ y3) && decide (y3 < (↑y0.length : Int))) (some (Res.mk [ZX Zi y3, ZX Ty.bool ((Sp.f1117 (y0.getD y3.toNat (ByteArray.mk #[], [], (0 : Int), [])).1 (y0.getD y3.toNat (ByteArray.mk #[], [], (0 : Int), [])).2.1 (y0.getD y3.toNat (ByteArray.mk #[], [], (0 : Int), [])).2.2.1 (y0.getD y3.toNat (ByteArray.mk #[], [], (0 : Int), [])).2.2.2 y1).1 == (0 : Int))] [])) else some (Res.mk [ZX Zi y3, ZX Ty.bool false] []) := by kernel_rfl
theorem f1116_raw (n : Nat) (x0 : List (ByteArray × List (ByteArray × Int × Bool) × Int × List (ByteArray × List Int))) (x1 : ByteArray) : abody Γ (orc [e1117]) n 170 [ZX (Ty.str.pair ((Ty.str.pair (Zi.pair Ty.bool)).slice.pair (Zi.pair (Ty.str.pair Zi.slice).slice))).slice x0, ZX Ty.str x1, XV.mk false [X.c (X0.fn (171 : Nat) [])]] = f1116_L0 n n x0 x1 (↑x0.length : Int) (0 : Int) (↑x0.length : Int) := by kernel_rfl

def Sp.f1179 (x0 : ByteArray) (x1 : Int) (x2 : Bool) (x3 : ByteArray) := (x0.toList == x3.toList, ())
noncomputable def e1179 : Ent := { f := 243, ins := [Sh.agg [C0.dat Ty.str, C0.dat Zi, C0.dat Ty.bool], Sh.one (C0.rptr Ty.str)], outs := [Sh.one (C0.dat Ty.bool)], upd := [], pre := fun a => true, spec := fun a => (Sp.f1179 a.1.1 a.1.2.1 a.1.2.2 a.2).1, wrt := fun a => (Sp.f1179 a.1.1 a.1.2.1 a.1.2.2 a.2).2 }
def f1179_g (v : denS [Sh.one (C0.dat Ty.bool)] × denS []) : Res := ⟨mkS [Sh.one (C0.dat Ty.bool)] v.1, mkU [] v.2⟩
theorem f1179_form (x0 : ByteArray) (x1 : Int) (x2 : Bool) (x3 : ByteArray) : abody Γ (orc []) 0 243 [XV.mk true [ZC Ty.str x0, ZC Zi x1, ZC Ty.bool x2], XV.mk false [X.c (X0.rptr Ty.str x3)]] = some (f1179_g (Sp.f1179 x0 x1 x2 x3)) := by
  refine Eq.trans (b := ZB (x0.toList == x3.toList)) (by kernel_rfl) ?_
  unfold Sp.f1179
  exact rfl
theorem e1179_ok : Valid PP Γ e1179 := valid_auto ok vnil fun a => f1179_form a.1.1 a.1.2.1 a.1.2.2 a.2

def Sp.f1183 (x0 : ByteArray) (x1 : List Int) (x2 : ByteArray) := (x0.toList == x2.toList, ())
noncomputable def e1183 : Ent := { f := 248, ins := [Sh.agg [C0.dat Ty.str, C0.dat Zi.slice], Sh.one (C0.rptr Ty.str)], outs := [Sh.one (C0.dat Ty.bool)], upd := [], pre := fun a => true, spec := fun a => (Sp.f1183 a.1.1 a.1.2 a.2).1, wrt := fun a => (Sp.f1183 a.1.1 a.1.2 a.2).2 }
def f1183_g (v : denS [Sh.one (C0.dat Ty.bool)] × denS []) : Res := ⟨mkS [Sh.one (C0.dat Ty.bool)] v.1, mkU [] v.2⟩
theorem f1183_form (x0 : ByteArray) (x1 : List Int) (x2 : ByteArray) : abody Γ (orc []) 0 248 [XV.mk true [ZC Ty.str x0, ZC Zi.slice x1], XV.mk false [X.c (X0.rptr Ty.str x2)]] = some (f1183_g (Sp.f1183 x0 x1 x2)) := by
  refine Eq.trans (b := ZB (x0.toList == x2.toList)) (by kernel_rfl) ?_
  unfold Sp.f1183
  exact rfl
theorem e1183_ok : Valid PP Γ e1183 := valid_auto ok vnil fun a => f1183_form a.1.1 a.1.2 a.2

def Sp.f1181 (x0 : Int) (x1 : ByteArray) (x2 : List (ByteArray × Int × Bool)) (x3 : Int) (x4 : List (ByteArray × List Int)) := (!(Sp.f70 x0 (0 : Int) (IntKind.i64.wrap ((↑x2.length : Int) - (1 : Int)))).1, ())
noncomputable def e1181 : Ent := { f := 246, ins := [Sh.one ZI, Sh.one (C0.rptr (Ty.str.pair ((Ty.str.pair (Zi.pair Ty.bool)).slice.pair (Zi.pair (Ty.str.pair Zi.slice).slice))))], outs := [Sh.one (C0.dat Ty.bool)], upd := [], pre := fun a => true, spec := fun a => (Sp.f1181 a.1 a.2.1 a.2.2.1 a.2.2.2.1 a.2.2.2.2).1, wrt := fun a => (Sp.f1181 a.1 a.2.1 a.2.2.1 a.2.2.2.1 a.2.2.2.2).2 }
def f1181_g (v : denS [Sh.one (C0.dat Ty.bool)] × denS []) : Res := ⟨mkS [Sh.one (C0.dat Ty.bool)] v.1, mkU [] v.2⟩
theorem f1181_form (x0 : Int) (x1 : ByteArray) (x2 : List (ByteArray × Int × Bool)) (x3 : Int) (x4 : List (ByteArray × List Int)) : abody Γ (orc [e70]) 0 246 [ZX Zi x0, XV.mk false [X.c (X0.rptr (Ty.str.pair ((Ty.str.pair (Zi.pair Ty.bool)).slice.pair (Zi.pair (Ty.str.pair Zi.slice).slice))) (x1, x2, x3, x4))]] = some (f1181_g (Sp.f1181 x0 x1 x2 x3 x4)) := by
  refine Eq.trans (b := some (Res.mk [XV.mk false [X.c (X0.dat Ty.bool !(Sp.f70 x0 (0 : Int) (IntKind.i64.wrap ((↑x2.length : Int) - (1 : Int)))).1)]] [])) (by kernel_rfl) ?_
  unfold Sp.f1181
  exact rfl
theorem e1181_ok : Valid PP Γ e1181 := valid_auto ok (vcons e70_ok vnil) fun a => f1181_form a.1 a.2.1 a.2.2.1 a.2.2.2.1 a.2.2.2.2

end Go.Proofs.GR.T

set_option maxRecDepth 3000000
set_option maxHeartbeats 100000000
namespace Go.Proofs.GR.T
open Go Go.Proofs Go.Proofs.GR
theorem cmpS (a b : ByteArray) : (Sp.f1118 a b).1 = bif Sp.lessS a b then -1 else bif a.toList == b.toList then 0 else 1 := by
  have h : ∀ x : ByteArray, (Sp.f1154 x).1 = false := fun x => by show (!(x.toList == x.toList)) = false; rw [beq_self_eq_true]; rfl
  unfold Sp.f1118 Sp.lessS
  rw [h, h, cond_false, cond_false]
  cases Op.bytesLess a.toList b.toList <;> cases a.toList == b.toList <;> rfl
def Sp.nameT (x : VTb) : ByteArray := x.1
def Sp.lessT (t : ByteArray) (x : VTb) : Bool := Sp.lessS x.1 t
def Sp.risT (xs : List VTb) : Bool := yes2 (Sp.fits32 xs) (Sp.risesW Sp.nameT xs)
def Sp.lowT (xs : List VTb) (t : ByteArray) : Nat := Sp.lowW (Sp.lessT t) xs
def Sp.hitT (xs : List VTb) (t : ByteArray) : Bool := bif decide (Sp.lowT xs t < xs.length) then Sp.nmTb t (Sp.tAt xs (Sp.lowT xs t : Nat)) else false
def Sp.seekT (xs : List VTb) (t : ByteArray) : Int × Bool := ((Sp.lowT xs t : Nat), Sp.hitT xs t)
abbrev rTB (p : Int × Bool) : Res := Res.mk [ZX Zi p.1, ZX Ty.bool p.2] []
noncomputable def e1116 : Ent := { f := n1116, ins := [Sh.one (cL tTb), Sh.one cS, Sh.one (C0.fn n1117 [])], outs := [Sh.one cI, Sh.one cB], upd := [], pre := fun a => Sp.risT a.1, spec := fun a => Sp.seekT a.1 a.2.1, wrt := fun _ => () }
theorem e1116_core (xs : List VTb) (t : ByteArray) (ha : Sp.risT xs = true) : ∃ n, abody Γ (orc [e1117]) n n1116 [ZX (Ty.slice tTb) xs, ZX Ty.str t, XV.mk false [X.c (X0.fn n1117 [])]] = some (rTB (Sp.seekT xs t)) := by
  obtain ⟨hl, hr⟩ := yes2_true ha
  have hl := fits32_of hl
  refine ⟨xs.length + 1, (f1116_raw _ xs t).trans ?_⟩
  have hlow := lowW_le (Sp.lessT t) xs
  have key := bs_loop (p := Sp.lessT t) (R := fun i => rTB (i, bif decide (i < (xs.length : Int)) then Sp.nmTb t (Sp.tAt xs i) else false)) xs (fun m i j => f1116_L0 (xs.length + 1) m xs t xs.length i j) (fun k h hk => lowW_behind (key := Sp.nameT) h hr hk) (fun m i j hij => by
    show f1116_L0 _ _ _ _ _ _ _ = _
    rw [f1116_L0_step, nat_ge hij, cond_false]
    by_cases hi : i < xs.length
    · rw [nat_lt hi, cond_true, guard0, chkT]
      show some (rTB ((i : Int), (Sp.f1118 (Sp.tAt xs i).1 t).1 == 0)) = some (rTB ((i : Int), bif true then Sp.nmTb t (Sp.tAt xs i) else false))
      rw [cond_true, cmpS]
      unfold Sp.nmTb
      cases hc : Sp.lessS (Sp.tAt xs i).1 t with
      | true =>
        have : ((Sp.tAt xs i).1.toList == t.toList) = false := by
          cases he : (Sp.tAt xs i).1.toList == t.toList with
          | false => rfl
          | true => rw [lessS_congr (eq_of_beq he), lessS_irrefl] at hc; cases hc
        rw [this]; rfl
      | false => cases (Sp.tAt xs i).1.toList == t.toList <;> rfl
    · rw [nat_ge (by omega), cond_false]
      rfl) (fun m i j hij hj h => by
    show f1116_L0 _ _ _ _ _ _ _ = _
    have e1 : IntKind.i64.wrap ((i : Int) + (j : Int)) = (i : Int) + (j : Int) := wrap64 (by omega) (by omega)
    have e2 : IntKind.u64.wrap ((i : Int) + (j : Int)) = (i : Int) + (j : Int) := wrapu64 (by omega) (by omega)
    have e3 : ((i : Int) + (j : Int)).fdiv 2 = (((i + j) / 2 : Nat) : Int) := by rw [Int.fdiv_eq_ediv_of_nonneg _ (by omega)]; omega
    have e4 : IntKind.i64.wrap (((i + j) / 2 : Nat) : Int) = (((i + j) / 2 : Nat) : Int) := wrap64 (by omega) (by omega)
    rw [f1116_L0_step, nat_lt hij, cond_true, e1, e2, e3, e4, guard2 h, chkT, next64 h (by omega)]
    show (bif decide ((Sp.f1118 (Sp.tAt xs (((i + j) / 2 : Nat) : Int)).1 t).1 < 0) then _ else _) = _
    have e5 : Sp.tAt xs (((i + j) / 2 : Nat) : Int) = xs[(i + j) / 2] := getD_nat xs _ _ h
    rw [e5, cmpS]
    show _ = (bif Sp.lessS xs[(i + j) / 2].1 t then _ else _)
    cases Sp.lessS xs[(i + j) / 2].1 t with
    | true => rfl
    | false => cases xs[(i + j) / 2].1.toList == t.toList <;> rfl) xs.length 0 xs.length (xs.length + 1) (by omega) (Nat.lt_succ_self _) (Nat.zero_le _) hlow (Nat.le_refl _)
  refine key.trans ?_
  show some (rTB ((Sp.lowT xs t : Nat), bif decide (((Sp.lowT xs t : Nat) : Int) < (xs.length : Int)) then Sp.nmTb t (Sp.tAt xs (Sp.lowT xs t : Nat)) else false)) = some (rTB ((Sp.lowT xs t : Nat), Sp.hitT xs t))
  unfold Sp.hitT
  rw [show decide (((Sp.lowT xs t : Nat) : Int) < (xs.length : Int)) = decide (Sp.lowT xs t < xs.length) from decide_eq_decide.2 (by omega)]
theorem e1116_ok : Valid PP Γ e1116 := valid_of ok (vcons e1117_ok vnil) fun a ha => e1116_core a.1 a.2.1 ha
def Sp.f1092_pre (x0 : List (ByteArray × List (ByteArray × Int × Bool) × Int × List (ByteArray × List Int))) (x1 : ByteArray) : Bool := (Sp.risT x0)
def Sp.f1092 (x0 : List (ByteArray × List (ByteArray × Int × Bool) × Int × List (ByteArray × List Int))) (x1 : ByteArray) := (((Sp.seekT x0 x1).1, (Sp.seekT x0 x1).2), ())
noncomputable def e1092 : Ent := { f := 108, ins := [Sh.one (C0.dat (Ty.str.pair ((Ty.str.pair (Zi.pair Ty.bool)).slice.pair (Zi.pair (Ty.str.pair Zi.slice).slice))).slice), Sh.one (C0.dat Ty.str)], outs := [Sh.one ZI, Sh.one (C0.dat Ty.bool)], upd := [], pre := fun a => Sp.f1092_pre a.1 a.2, spec := fun a => (Sp.f1092 a.1 a.2).1, wrt := fun a => (Sp.f1092 a.1 a.2).2 }
def f1092_g (v : denS [Sh.one ZI, Sh.one (C0.dat Ty.bool)] × denS []) : Res := ⟨mkS [Sh.one ZI, Sh.one (C0.dat Ty.bool)] v.1, mkU [] v.2⟩
theorem f1092_form (x0 : List (ByteArray × List (ByteArray × Int × Bool) × Int × List (ByteArray × List Int))) (x1 : ByteArray) : abody Γ (orc [e1116, e1117]) 0 108 [ZX (Ty.str.pair ((Ty.str.pair (Zi.pair Ty.bool)).slice.pair (Zi.pair (Ty.str.pair Zi.slice).slice))).slice x0, ZX Ty.str x1] = chk (Sp.f1092_pre x0 x1) (some (f1092_g (Sp.f1092 x0 x1))) := by
  refine Eq.trans (b := chk (Sp.risT x0) (some (Res.mk [ZX Zi (Sp.seekT x0 x1).1, ZX Ty.bool (Sp.seekT x0 x1).2] []))) (by kernel_rfl) ?_
  unfold Sp.f1092_pre Sp.f1092
  exact (chk_last (rfl))
theorem e1092_ok : Valid PP Γ e1092 := valid_auto ok (vcons e1116_ok (vcons e1117_ok vnil)) fun a => f1092_form a.1 a.2

noncomputable def e1209 : Ent := { f := n1209, ins := [Sh.one (cL tIn), Sh.one cI], outs := [Sh.one cI], upd := [], pre := fun _ => true, spec := fun a => Sp.idx (Sp.eqN a.2) a.1 0, wrt := fun _ => () }
theorem e1209_core (xs : List Int) (t : Int) (hl : xs.length ≤ maxLen) : ∃ n, abody Γ (orc []) n n1209 [ZX (Ty.slice tIn) xs, ZX tIn t] = some (rI (Sp.idx (Sp.eqN t) xs 0)) := by
  have hl : xs.length ≤ 9223372036854775807 := hl
  refine ⟨xs.length + 1, (f1209_raw _ xs t).trans ?_⟩
  refine idx_loop (p := Sp.eqN t) (R := rI) xs (fun m k => f1209_L0 (xs.length + 1) m xs t xs.length k) (fun m k hk => ?_) (fun m k h => ?_) xs.length 0 _ (Nat.zero_add _) (Nat.lt_succ_self _)
  · show f1209_L0 _ _ _ _ _ _ = _
    rw [f1209_L0_step, nat_ge hk, cond_false]
  · show f1209_L0 _ _ _ _ _ _ = _
    rw [f1209_L0_step, nat_lt h, cond_true, guard0, chkT, getD_nat xs k _ h, next64 h hl]
    rfl
theorem e1209_ok : Valid PP Γ e1209 := valid_len ok vnil fun a _ hl => e1209_core a.1 a.2 (hl _ (List.mem_cons_self) _ (List.mem_cons_self)).1
def Sp.f1197 (x0 : List Int) (x1 : Int) := (decide (Sp.idx (Sp.eqN x1) x0 (0 : Int) ≥ (0 : Int)), ())
noncomputable def e1197 : Ent := { f := 280, ins := [Sh.one (C0.dat Zi.slice), Sh.one ZI], outs := [Sh.one (C0.dat Ty.bool)], upd := [], pre := fun a => true, spec := fun a => (Sp.f1197 a.1 a.2).1, wrt := fun a => (Sp.f1197 a.1 a.2).2 }
def f1197_g (v : denS [Sh.one (C0.dat Ty.bool)] × denS []) : Res := ⟨mkS [Sh.one (C0.dat Ty.bool)] v.1, mkU [] v.2⟩
theorem f1197_form (x0 : List Int) (x1 : Int) : abody Γ (orc [e1209]) 0 280 [ZX Zi.slice x0, ZX Zi x1] = some (f1197_g (Sp.f1197 x0 x1)) := by
  refine Eq.trans (b := ZB (decide (Sp.idx (Sp.eqN x1) x0 (0 : Int) ≥ (0 : Int)))) (by kernel_rfl) ?_
  unfold Sp.f1197
  exact rfl
theorem e1197_ok : Valid PP Γ e1197 := valid_auto ok (vcons e1209_ok vnil) fun a => f1197_form a.1 a.2

noncomputable def f1180_L0 (n m0 : Nat) (y0 y1 : List Int) (y2 y3 : Int) : Option Res := loopAt Γ (orc [e1197]) n (244 : Nat) (0 : Nat) [] [Pth.r, Pth.l, Pth.r, Pth.b] m0 (St.mk (ZS Zi.slice y0 :: ZN 4 (ZS Zi.slice y1 :: ZS Zi y2 :: ZS Zi y3 :: ZN 10 [])) [])
theorem f1180_L0_step (n m0 : Nat) (y0 y1 : List Int) (y2 y3 : Int) : f1180_L0 n (m0 + 1) y0 y1 y2 y3 = bif decide (y3 < y2) then chk (decide ((0 : Int) ≤ y3) && decide (y3 < (↑y1.length : Int))) (chk (decide ((0 : Int) ≤ y3) && decide (y3 ≤ (↑y0.length : Int))) (bif (Sp.f1197 (List.take (y3.toNat - (0 : Nat)) (List.drop (0 : Nat) y0)) (y1.getD y3.toNat (0 : Int))).1 then Zt else f1180_L0 n m0 y0 y1 y2 (IntKind.i64.wrap (y3 + (1 : Int))))) else Zf := by kernel_rfl
theorem f1180_raw (n : Nat) (x0 : List Int) : abody Γ (orc [e1197]) n 244 [ZX Zi.slice x0] = f1180_L0 n n x0 x0 (↑x0.length : Int) (0 : Int) := by kernel_rfl

noncomputable def f1178_L0 (n m0 : Nat) (y0 : List (ByteArray × Int × Bool)) (y1 : ByteArray) (y2 y3 : Int) : Option Res := loopAt Γ (orc [e1179]) n (242 : Nat) (0 : Nat) [] [Pth.r, Pth.l, Pth.r, Pth.b] m0 (St.mk (ZS (Ty.str.pair (Zi.pair Ty.bool)).slice y0 :: Slot.val (Val.one (Cell.fn (243 : Nat) [Sigma.mk Ty.str y1])) :: ZN 5 (ZS Zi y2 :: ZS Zi y3 :: ZN 10 [])) [])
theorem f1178_L0_step (n m0 : Nat) (y0 : List (ByteArray × Int × Bool)) (y1 : ByteArray) (y2 y3 : Int) : f1178_L0 n (m0 + 1) y0 y1 y2 y3 = bif decide (y3 < y2) then chk (decide ((0 : Int) ≤ y3) && decide (y3 < (↑y0.length : Int))) (bif (Sp.f1179 (y0.getD y3.toNat (ByteArray.mk #[], (0 : Int), false)).1 (y0.getD y3.toNat (ByteArray.mk #[], (0 : Int), false)).2.1 (y0.getD y3.toNat (ByteArray.mk #[], (0 : Int), false)).2.2 y1).1 then ZJ y3 else f1178_L0 n m0 y0 y1 y2 (IntKind.i64.wrap (y3 + (1 : Int)))) else ZJ (-1 : Int) := by kernel_rfl
theorem f1178_raw (n : Nat) (x0 : List (ByteArray × Int × Bool)) (x1 : ByteArray) : abody Γ (orc [e1179]) n 242 [ZX (Ty.str.pair (Zi.pair Ty.bool)).slice x0, XV.mk false [X.c (X0.fn (243 : Nat) [Sigma.mk Ty.str x1])]] = f1178_L0 n n x0 x1 (↑x0.length : Int) (0 : Int) := by kernel_rfl

noncomputable def f1182_L0 (n m0 : Nat) (y0 : List (ByteArray × List Int)) (y1 : ByteArray) (y2 y3 : Int) : Option Res := loopAt Γ (orc [e1183]) n (247 : Nat) (0 : Nat) [] [Pth.r, Pth.l, Pth.r, Pth.b] m0 (St.mk (ZS (Ty.str.pair Zi.slice).slice y0 :: Slot.val (Val.one (Cell.fn (248 : Nat) [Sigma.mk Ty.str y1])) :: ZN 5 (ZS Zi y2 :: ZS Zi y3 :: ZN 10 [])) [])
theorem f1182_L0_step (n m0 : Nat) (y0 : List (ByteArray × List Int)) (y1 : ByteArray) (y2 y3 : Int) : f1182_L0 n (m0 + 1) y0 y1 y2 y3 = bif decide (y3 < y2) then chk (decide ((0 : Int) ≤ y3) && decide (y3 < (↑y0.length : Int))) (bif (Sp.f1183 (y0.getD y3.toNat (ByteArray.mk #[], [])).1 (y0.getD y3.toNat (ByteArray.mk #[], [])).2 y1).1 then ZJ y3 else f1182_L0 n m0 y0 y1 y2 (IntKind.i64.wrap (y3 + (1 : Int)))) else ZJ (-1 : Int) := by kernel_rfl
theorem f1182_raw (n : Nat) (x0 : List (ByteArray × List Int)) (x1 : ByteArray) : abody Γ (orc [e1183]) n 247 [ZX (Ty.str.pair Zi.slice).slice x0, XV.mk false [X.c (X0.fn (248 : Nat) [Sigma.mk Ty.str x1])]] = f1182_L0 n n x0 x1 (↑x0.length : Int) (0 : Int) := by kernel_rfl

noncomputable def f211_L0 (n m0 : Nat) (y0 : List Int) (y1 : ByteArray × List (ByteArray × Int × Bool) × Int × List (ByteArray × List Int)) (y2 y3 : Int) : Option Res := loopAt Γ (orc [e1181]) n (281 : Nat) (0 : Nat) [] [Pth.r, Pth.l, Pth.r, Pth.b] m0 (St.mk (ZS Zi.slice y0 :: Slot.val (Val.one (Cell.fn (246 : Nat) [Sigma.mk (Ty.str.pair ((Ty.str.pair (Zi.pair Ty.bool)).slice.pair (Zi.pair (Ty.str.pair Zi.slice).slice))) y1])) :: ZN 5 (ZS Zi y2 :: ZS Zi y3 :: ZN 10 [])) [])
theorem f211_L0_step (n m0 : Nat) (y0 : List Int) (y1 : ByteArray × List (ByteArray × Int × Bool) × Int × List (ByteArray × List Int)) (y2 y3 : Int) : f211_L0 n (m0 + 1) y0 y1 y2 y3 = bif decide (y3 < y2) then chk (decide ((0 : Int) ≤ y3) && decide (y3 < (↑y0.length : Int))) (bif (Sp.f1181 (y0.getD y3.toNat (0 : Int)) y1.1 y1.2.1 y1.2.2.1 y1.2.2.2).1 then ZJ y3 else f211_L0 n m0 y0 y1 y2 (IntKind.i64.wrap (y3 + (1 : Int)))) else ZJ (-1 : Int) := by kernel_rfl
theorem f211_raw (n : Nat) (x0 : List Int) (x1 : ByteArray) (x2 : List (ByteArray × Int × Bool)) (x3 : Int) (x4 : List (ByteArray × List Int)) : abody Γ (orc [e1181]) n 281 [ZX Zi.slice x0, XV.mk false [X.c (X0.fn (246 : Nat) [Sigma.mk (Ty.str.pair ((Ty.str.pair (Zi.pair Ty.bool)).slice.pair (Zi.pair (Ty.str.pair Zi.slice).slice))) (x1, x2, x3, x4)])]] = f211_L0 n n x0 (x1, x2, x3, x4) (↑x0.length : Int) (0 : Int) := by kernel_rfl

end Go.Proofs.GR.T

