/-
  No statement is proved here: what the functions of the law answer, told as plain functions, and that the law's answer is always true.
  No condition.
-/
import Derived.Test.YtpljgmackfjkdaaGreatDoorTDumpBytesa
set_option maxRecDepth 100000
set_option maxHeartbeats 100000000
namespace Go.Proofs.GR.T
open Go Go.Proofs Go.Proofs.GR
abbrev tCo : Ty := .pair .str (.pair (.int .i64) .bool)
abbrev VCo := ByteArray × Int × Bool
abbrev tIx : Ty := .pair .str (.slice (.int .i64))
abbrev VIx := ByteArray × List Int
abbrev tTb : Ty := .pair .str (.pair (.slice tCo) (.pair (.int .i64) (.slice tIx)))
abbrev VTb := ByteArray × List VCo × Int × List VIx
abbrev tIn : Ty := .int .i64
theorem make8 {n : Nat} (h : n ≤ 1000000000000) : (decide ((0 : Int) ≤ (n : Int)) && decide ((n : Int) ≤ (n : Int)) && decide ((n : Int) ≤ (140737488355328 : Int)) && decide ((8 : Int) * (n : Int) ≤ (140737488355328 : Int))) = true := by
  rw [decide_eq_true (show (0 : Int) ≤ n by omega), decide_eq_true (Int.le_refl (n : Int)), decide_eq_true (show (n : Int) ≤ 140737488355328 by omega), decide_eq_true (show 8 * (n : Int) ≤ 140737488355328 by omega)]
  rfl
theorem make40 {n : Nat} (h : n ≤ 1000000000000) : (decide ((0 : Int) ≤ (n : Int)) && decide ((n : Int) ≤ (n : Int)) && decide ((n : Int) ≤ (140737488355328 : Int)) && decide ((40 : Int) * (n : Int) ≤ (140737488355328 : Int))) = true := by
  rw [decide_eq_true (show (0 : Int) ≤ n by omega), decide_eq_true (Int.le_refl (n : Int)), decide_eq_true (show (n : Int) ≤ 140737488355328 by omega), decide_eq_true (show 40 * (n : Int) ≤ 140737488355328 by omega)]
  rfl
def Sp.f1147 (x0 : ByteArray) (x1 : Int) (x2 : Bool) (x3 : Int) := (bif decide (IntKind.i64.wrap (x3 - (↑x0.size : Int)) < (0 : Int)) then ((-1 : Int), ()) else (IntKind.i64.wrap (x3 - (↑x0.size : Int)), ()))
noncomputable def e1147 : Ent := { f := 107, ins := [Sh.agg [C0.dat Ty.str, C0.dat Zi, C0.dat Ty.bool], Sh.one ZI], outs := [Sh.one ZI], upd := [], pre := fun a => true, spec := fun a => (Sp.f1147 a.1.1 a.1.2.1 a.1.2.2 a.2).1, wrt := fun a => (Sp.f1147 a.1.1 a.1.2.1 a.1.2.2 a.2).2 }
def f1147_g (v : denS [Sh.one ZI] × denS []) : Res := ⟨mkS [Sh.one ZI] v.1, mkU [] v.2⟩
theorem f1147_form (x0 : ByteArray) (x1 : Int) (x2 : Bool) (x3 : Int) : abody Γ (orc []) 0 107 [XV.mk true [ZC Ty.str x0, ZC Zi x1, ZC Ty.bool x2], ZX Zi x3] = some (f1147_g (Sp.f1147 x0 x1 x2 x3)) := by
  refine Eq.trans (b := bif decide (IntKind.i64.wrap (x3 - (↑x0.size : Int)) < (0 : Int)) then ZJ (-1 : Int) else ZJ (IntKind.i64.wrap (x3 - (↑x0.size : Int)))) (by kernel_rfl) ?_
  unfold Sp.f1147
  exact (cond_plain f1147_g (rfl) (rfl))
theorem e1147_ok : Valid PP Γ e1147 := valid_auto ok vnil fun a => f1147_form a.1.1 a.1.2.1 a.1.2.2 a.2

def Sp.f1149 (x0 : ByteArray) (x1 : Int) (x2 : Bool) := ((x0, x1, x2), ())
noncomputable def e1149 : Ent := { f := 115, ins := [Sh.agg [C0.dat Ty.str, C0.dat Zi, C0.dat Ty.bool]], outs := [Sh.agg [C0.dat Ty.str, C0.dat Zi, C0.dat Ty.bool]], upd := [], pre := fun a => true, spec := fun a => (Sp.f1149 a.1 a.2.1 a.2.2).1, wrt := fun a => (Sp.f1149 a.1 a.2.1 a.2.2).2 }
def f1149_g (v : denS [Sh.agg [C0.dat Ty.str, C0.dat Zi, C0.dat Ty.bool]] × denS []) : Res := ⟨mkS [Sh.agg [C0.dat Ty.str, C0.dat Zi, C0.dat Ty.bool]] v.1, mkU [] v.2⟩
theorem f1149_form (x0 : ByteArray) (x1 : Int) (x2 : Bool) : abody Γ (orc []) 0 115 [XV.mk true [ZC Ty.str x0, ZC Zi x1, ZC Ty.bool x2]] = some (f1149_g (Sp.f1149 x0 x1 x2)) := by
  refine Eq.trans (b := some (Res.mk [XV.mk true [ZC Ty.str x0, ZC Zi x1, ZC Ty.bool x2]] [])) (by kernel_rfl) ?_
  unfold Sp.f1149
  exact rfl
theorem e1149_ok : Valid PP Γ e1149 := valid_auto ok vnil fun a => f1149_form a.1 a.2.1 a.2.2

def Sp.f1155 (x0 : ByteArray) (x1 : Int) (x2 : Bool) (x3 : ByteArray) (x4 : Int) (x5 : Bool) := (bif !x0.toList == x3.toList then (false, ()) else (bif x1 != x4 then (false, ()) else (bif !eqB x2 x5 then (false, ()) else (true, ()))))
noncomputable def e1155 : Ent := { f := 123, ins := [Sh.agg [C0.dat Ty.str, C0.dat Zi, C0.dat Ty.bool], Sh.agg [C0.dat Ty.str, C0.dat Zi, C0.dat Ty.bool]], outs := [Sh.one (C0.dat Ty.bool)], upd := [], pre := fun a => true, spec := fun a => (Sp.f1155 a.1.1 a.1.2.1 a.1.2.2 a.2.1 a.2.2.1 a.2.2.2).1, wrt := fun a => (Sp.f1155 a.1.1 a.1.2.1 a.1.2.2 a.2.1 a.2.2.1 a.2.2.2).2 }
def f1155_g (v : denS [Sh.one (C0.dat Ty.bool)] × denS []) : Res := ⟨mkS [Sh.one (C0.dat Ty.bool)] v.1, mkU [] v.2⟩
theorem f1155_form (x0 : ByteArray) (x1 : Int) (x2 : Bool) (x3 : ByteArray) (x4 : Int) (x5 : Bool) : abody Γ (orc []) 0 123 [XV.mk true [ZC Ty.str x0, ZC Zi x1, ZC Ty.bool x2], XV.mk true [ZC Ty.str x3, ZC Zi x4, ZC Ty.bool x5]] = some (f1155_g (Sp.f1155 x0 x1 x2 x3 x4 x5)) := by
  refine Eq.trans (b := bif !x0.toList == x3.toList then Zf else bif x1 != x4 then Zf else bif !eqB x2 x5 then Zf else Zt) (by kernel_rfl) ?_
  unfold Sp.f1155
  exact (cond_plain f1155_g (rfl) ((cond_plain f1155_g (rfl) ((cond_plain f1155_g (rfl) (rfl))))))
theorem e1155_ok : Valid PP Γ e1155 := valid_auto ok vnil fun a => f1155_form a.1.1 a.1.2.1 a.1.2.2 a.2.1 a.2.2.1 a.2.2.2

def Sp.szCo (x : VCo) (l : Int) : Int := (Sp.f1147 x.1 x.2.1 x.2.2 l).1
def Sp.eqCo (x y : VCo) : Bool := (Sp.f1155 x.1 x.2.1 x.2.2 y.1 y.2.1 y.2.2).1
noncomputable def f1111_L0 (n m0 : Nat) (y0 : List (ByteArray × Int × Bool)) (y1 y2 : Int) : Option Res := loopAt Γ (orc [e1147]) n (64 : Nat) (0 : Nat) [] [Pth.r, Pth.r, Pth.r, Pth.l, Pth.r, Pth.b] m0 (St.mk (ZS (Ty.str.pair (Zi.pair Ty.bool)).slice y0 :: ZS Zi y1 :: ZN 3 (ZS Zi y2 :: ZN 21 [])) [])
theorem f1111_L0_step (n m0 : Nat) (y0 : List (ByteArray × Int × Bool)) (y1 y2 : Int) : f1111_L0 n (m0 + 1) y0 y1 y2 = bif decide (y2 < (↑y0.length : Int)) then chk (decide ((0 : Int) ≤ y2) && decide (y2 < (↑y0.length : Int))) (bif decide ((Sp.f1147 (y0.getD y2.toNat (ByteArray.mk #[], (0 : Int), false)).1 (y0.getD y2.toNat (ByteArray.mk #[], (0 : Int), false)).2.1 (y0.getD y2.toNat (ByteArray.mk #[], (0 : Int), false)).2.2 y1).1 < (0 : Int)) then ZJ (-1 : Int) else f1111_L0 n m0 y0 (Sp.f1147 (y0.getD y2.toNat (ByteArray.mk #[], (0 : Int), false)).1 (y0.getD y2.toNat (ByteArray.mk #[], (0 : Int), false)).2.1 (y0.getD y2.toNat (ByteArray.mk #[], (0 : Int), false)).2.2 y1).1 (IntKind.i64.wrap (y2 + (1 : Int)))) else ZJ y1 := by kernel_rfl
theorem f1111_raw (n : Nat) (x0 : List (ByteArray × Int × Bool)) (x1 : Int) : abody Γ (orc [e1147]) n 64 [ZX (Ty.str.pair (Zi.pair Ty.bool)).slice x0, ZX Zi x1] = bif decide (IntKind.i64.wrap (x1 - (↑x0.length : Int)) < (0 : Int)) then ZJ (-1 : Int) else f1111_L0 n n x0 (IntKind.i64.wrap (x1 - (↑x0.length : Int))) (0 : Int) := by kernel_rfl

noncomputable def f1113_L0 (n m0 : Nat) (y0 : List (ByteArray × Int × Bool)) (y1 : Int) (y2 : List (ByteArray × Int × Bool)) : Option Res := loopAt Γ (orc [e1149]) n (75 : Nat) (0 : Nat) [] [Pth.r, Pth.r, Pth.l, Pth.r, Pth.b] m0 (St.mk (ZS (Ty.str.pair (Zi.pair Ty.bool)).slice y0 :: Zn :: Zn :: Slot.val (Val.one (Cell.own (0 : Nat))) :: ZS Zi y1 :: ZN 18 []) [AObj.row (Ty.str.pair (Zi.pair Ty.bool)) y2 true])
theorem f1113_L0_step (n m0 : Nat) (y0 : List (ByteArray × Int × Bool)) (y1 : Int) (y2 : List (ByteArray × Int × Bool)) : f1113_L0 n (m0 + 1) y0 y1 y2 = bif decide (y1 < (↑y0.length : Int)) then chk (decide ((0 : Int) ≤ y1) && decide (y1 < (↑y0.length : Int))) (chk (decide ((0 : Int) ≤ y1) && decide (y1 < (↑y2.length : Int))) (f1113_L0 n m0 y0 (IntKind.i64.wrap (y1 + (1 : Int))) (y2.set y1.toNat ((Sp.f1149 (y0.getD y1.toNat (ByteArray.mk #[], (0 : Int), false)).1 (y0.getD y1.toNat (ByteArray.mk #[], (0 : Int), false)).2.1 (y0.getD y1.toNat (ByteArray.mk #[], (0 : Int), false)).2.2).1.1, (Sp.f1149 (y0.getD y1.toNat (ByteArray.mk #[], (0 : Int), false)).1 (y0.getD y1.toNat (ByteArray.mk #[], (0 : Int), false)).2.1 (y0.getD y1.toNat (ByteArray.mk #[], (0 : Int), false)).2.2).1.2.1, (Sp.f1149 (y0.getD y1.toNat (ByteArray.mk #[], (0 : Int), false)).1 (y0.getD y1.toNat (ByteArray.mk #[], (0 : Int), false)).2.1 (y0.getD y1.toNat (ByteArray.mk #[], (0 : Int), false)).2.2).1.2.2)))) else some (Res.mk [XV.mk false [X.c (X0.row (Ty.str.pair (Zi.pair Ty.bool)) y2 true)]] []) := by kernel_rfl
theorem f1113_raw (n : Nat) (x0 : List (ByteArray × Int × Bool)) : abody Γ (orc [e1149]) n 75 [ZX (Ty.str.pair (Zi.pair Ty.bool)).slice x0] = chk (decide ((0 : Int) ≤ (↑x0.length : Int)) && decide ((↑x0.length : Int) ≤ (↑x0.length : Int)) && decide ((↑x0.length : Int) ≤ (140737488355328 : Int)) && decide ((32 : Int) * (↑x0.length : Int) ≤ (140737488355328 : Int))) (f1113_L0 n n x0 (0 : Int) (List.replicate (↑x0.length : Int).toNat (ByteArray.empty, (0 : Int), false))) := by kernel_rfl

noncomputable def f1119_L0 (n m0 : Nat) (y0 y1 : List (ByteArray × Int × Bool)) (y2 : Int) : Option Res := loopAt Γ (orc [e1155]) n (85 : Nat) (0 : Nat) [] [Pth.r, Pth.r, Pth.l, Pth.r, Pth.b] m0 (St.mk (ZS (Ty.str.pair (Zi.pair Ty.bool)).slice y0 :: ZS (Ty.str.pair (Zi.pair Ty.bool)).slice y1 :: ZN 3 (ZS Zi y2 :: ZN 21 [])) [])
theorem f1119_L0_step (n m0 : Nat) (y0 y1 : List (ByteArray × Int × Bool)) (y2 : Int) : f1119_L0 n (m0 + 1) y0 y1 y2 = bif decide (y2 < (↑y0.length : Int)) then chk (decide ((0 : Int) ≤ y2) && decide (y2 < (↑y0.length : Int))) (chk (decide ((0 : Int) ≤ y2) && decide (y2 < (↑y1.length : Int))) (bif !(Sp.f1155 (y0.getD y2.toNat (ByteArray.mk #[], (0 : Int), false)).1 (y0.getD y2.toNat (ByteArray.mk #[], (0 : Int), false)).2.1 (y0.getD y2.toNat (ByteArray.mk #[], (0 : Int), false)).2.2 (y1.getD y2.toNat (ByteArray.mk #[], (0 : Int), false)).1 (y1.getD y2.toNat (ByteArray.mk #[], (0 : Int), false)).2.1 (y1.getD y2.toNat (ByteArray.mk #[], (0 : Int), false)).2.2).1 then Zf else f1119_L0 n m0 y0 y1 (IntKind.i64.wrap (y2 + (1 : Int))))) else Zt := by kernel_rfl
theorem f1119_raw (n : Nat) (x0 x1 : List (ByteArray × Int × Bool)) : abody Γ (orc [e1155]) n 85 [ZX (Ty.str.pair (Zi.pair Ty.bool)).slice x0, ZX (Ty.str.pair (Zi.pair Ty.bool)).slice x1] = bif (↑x0.length : Int) != (↑x1.length : Int) then Zf else f1119_L0 n n x0 x1 (0 : Int) := by kernel_rfl

noncomputable def e1111 : Ent := { f := n1111, ins := [Sh.one (C0.dat (.slice tCo)), Sh.one cI], outs := [Sh.one cI], upd := [], pre := fun a => true, spec := fun a => Sp.szE Sp.szCo a.1 a.2, wrt := fun _ => () }
theorem e1111_core (xs : List VCo) (v : Int) (hl : xs.length ≤ maxLen) : ∃ n, abody Γ (orc [e1147]) n n1111 [ZX (Ty.slice tCo) xs, ZX Zi v] = some (rI (Sp.szE Sp.szCo xs v)) := by
  have hl : xs.length ≤ 9223372036854775807 := hl
  refine ⟨xs.length + 1, (f1111_raw _ xs v).trans ?_⟩
  unfold Sp.szE
  cases decide (IntKind.i64.wrap (v - (xs.length : Int)) < 0) with
  | true => rfl
  | false =>
    rw [cond_false, cond_false]
    refine sz_loop (f := Sp.szCo) (R := rI) xs (fun m v k => f1111_L0 (xs.length + 1) m xs v k) (fun m v k hk => ?_) (fun m v k h => ?_) xs.length 0 _ _ (Nat.zero_add _) (Nat.lt_succ_self _)
    · show f1111_L0 _ _ _ _ _ = _
      rw [f1111_L0_step, nat_ge hk, cond_false]
    · show f1111_L0 _ _ _ _ _ = _
      rw [f1111_L0_step, nat_lt h, cond_true, guard0, chkT, getD_nat xs k _ h, next64 h hl]
      rfl
theorem e1111_ok : Valid PP Γ e1111 := valid_len ok (vcons e1147_ok vnil) fun a _ hl => e1111_core a.1 a.2 (hl _ (List.mem_cons_self) _ (List.mem_cons_self)).1
noncomputable def e1113 : Ent := { f := n1113, ins := [Sh.one (C0.dat (.slice tCo))], outs := [Sh.one (C0.row tCo)], upd := [], pre := fun a => Sp.fits32 (α := VCo) a, spec := fun a => a, wrt := fun _ => () }
theorem e1113_core (xs : List VCo) (ha : Sp.fits32 xs = true) : ∃ n, abody Γ (orc [e1149]) n n1113 [ZX (Ty.slice tCo) xs] = some (Res.mk [XV.mk false [X.c (X0.row tCo xs true)]] []) := by
  have h1 := fits32_of ha
  refine ⟨xs.length + 1, (f1113_raw _ xs).trans ?_⟩
  rw [make32 h1, chkT]
  refine to_end (R := fun l : List VCo => Res.mk [XV.mk false [X.c (X0.row tCo l true)]] []) xs (fun m k acc => f1113_L0 (xs.length + 1) m xs k acc) (fun m k acc hk => ?_) (fun m k acc h ha => ?_) _
  · show f1113_L0 _ _ _ _ _ = _
    rw [f1113_L0_step, nat_ge hk, cond_false]
  · show f1113_L0 _ _ _ _ _ = _
    rw [f1113_L0_step, ha, nat_lt h, cond_true, guard0, chkT, chkT, getD_nat xs k _ h, next64 h (by omega), Int.toNat_natCast]
    rfl
theorem e1113_ok : Valid PP Γ e1113 := valid_of ok (vcons e1149_ok vnil) fun a ha => e1113_core a ha
noncomputable def e1119 : Ent := { f := n1119, ins := [Sh.one (C0.dat (.slice tCo)), Sh.one (C0.dat (.slice tCo))], outs := [Sh.one cB], upd := [], pre := fun a => true, spec := fun a => Sp.eqW Sp.eqCo a.1 a.2, wrt := fun _ => () }
theorem e1119_core (xs ys : List VCo) (h1 : xs.length ≤ maxLen) : ∃ n, abody Γ (orc [e1155]) n n1119 [ZX (Ty.slice tCo) xs, ZX (Ty.slice tCo) ys] = some (rBo (Sp.eqW Sp.eqCo xs ys)) := by
  have h1 : xs.length ≤ 9223372036854775807 := h1
  refine ⟨xs.length + 1, (f1119_raw _ xs ys).trans ?_⟩
  by_cases he : xs.length = ys.length
  · rw [show ((xs.length : Int) != (ys.length : Int)) = false by simp [he], cond_false]
    refine eq_loop xs ys (fun m k => f1119_L0 _ m xs ys k) he (fun m k hk => ?_) (fun m k h h2 => ?_) xs.length 0 _ (Nat.zero_add _) (Nat.lt_succ_self _)
    · show f1119_L0 _ _ _ _ _ = _
      rw [f1119_L0_step, nat_ge hk, cond_false]
    · show f1119_L0 _ _ _ _ _ = _
      rw [f1119_L0_step, nat_lt h, cond_true, guard0, chkT, guard2 h2, chkT, getD_nat xs k _ h, getD_nat ys k _ h2, next64 h2 (by omega)]
      rfl
  · rw [show ((xs.length : Int) != (ys.length : Int)) = true by simp; omega, eqW_len he]
    rfl
theorem e1119_ok : Valid PP Γ e1119 := valid_len ok (vcons e1155_ok vnil) fun a _ hl => e1119_core a.1 a.2 (hl _ (List.mem_cons_self) _ (List.mem_cons_self)).1
def Sp.f179 (x0 : List Int) (x1 : Int) := (bif decide (IntKind.i64.wrap (x1 - (↑x0.length : Int)) < (0 : Int)) then ((-1 : Int), ()) else (IntKind.i64.wrap (x1 - (↑x0.length : Int)), ()))
noncomputable def e179 : Ent := { f := 142, ins := [Sh.one (C0.dat Zi.slice), Sh.one ZI], outs := [Sh.one ZI], upd := [], pre := fun a => true, spec := fun a => (Sp.f179 a.1 a.2).1, wrt := fun a => (Sp.f179 a.1 a.2).2 }
def f179_g (v : denS [Sh.one ZI] × denS []) : Res := ⟨mkS [Sh.one ZI] v.1, mkU [] v.2⟩
theorem f179_form (x0 : List Int) (x1 : Int) : abody Γ (orc []) 0 142 [ZX Zi.slice x0, ZX Zi x1] = some (f179_g (Sp.f179 x0 x1)) := by
  refine Eq.trans (b := bif decide (IntKind.i64.wrap (x1 - (↑x0.length : Int)) < (0 : Int)) then ZJ (-1 : Int) else ZJ (IntKind.i64.wrap (x1 - (↑x0.length : Int)))) (by kernel_rfl) ?_
  unfold Sp.f179
  exact (cond_plain f179_g (rfl) (rfl))
theorem e179_ok : Valid PP Γ e179 := valid_auto ok vnil fun a => f179_form a.1 a.2

noncomputable def f185_L0 (n m0 : Nat) (y0 : List Int) (y1 : Int) (y2 : List Int) : Option Res := loopAt Γ (orc []) n (147 : Nat) (0 : Nat) [] [Pth.r, Pth.r, Pth.l, Pth.r, Pth.b] m0 (St.mk (ZS Zi.slice y0 :: Zn :: Zn :: Slot.val (Val.one (Cell.own (0 : Nat))) :: ZS Zi y1 :: ZN 17 []) [AObj.row Zi y2 true])
theorem f185_L0_step (n m0 : Nat) (y0 : List Int) (y1 : Int) (y2 : List Int) : f185_L0 n (m0 + 1) y0 y1 y2 = bif decide (y1 < (↑y0.length : Int)) then chk (decide ((0 : Int) ≤ y1) && decide (y1 < (↑y0.length : Int))) (chk (decide ((0 : Int) ≤ y1) && decide (y1 < (↑y2.length : Int))) (f185_L0 n m0 y0 (IntKind.i64.wrap (y1 + (1 : Int))) (y2.set y1.toNat (y0.getD y1.toNat (0 : Int))))) else some (Res.mk [XV.mk false [X.c (X0.row Zi y2 true)]] []) := by kernel_rfl
theorem f185_raw (n : Nat) (x0 : List Int) : abody Γ (orc []) n 147 [ZX Zi.slice x0] = chk (decide ((0 : Int) ≤ (↑x0.length : Int)) && decide ((↑x0.length : Int) ≤ (↑x0.length : Int)) && decide ((↑x0.length : Int) ≤ (140737488355328 : Int)) && decide ((8 : Int) * (↑x0.length : Int) ≤ (140737488355328 : Int))) (f185_L0 n n x0 (0 : Int) (List.replicate (↑x0.length : Int).toNat (0 : Int))) := by kernel_rfl

noncomputable def f192_L0 (n m0 : Nat) (y0 y1 : List Int) (y2 : Int) : Option Res := loopAt Γ (orc []) n (14 : Nat) (0 : Nat) [] [Pth.r, Pth.r, Pth.l, Pth.r, Pth.b] m0 (St.mk (ZS Zi.slice y0 :: ZS Zi.slice y1 :: ZN 3 (ZS Zi y2 :: ZN 20 [])) [])
theorem f192_L0_step (n m0 : Nat) (y0 y1 : List Int) (y2 : Int) : f192_L0 n (m0 + 1) y0 y1 y2 = bif decide (y2 < (↑y0.length : Int)) then chk (decide ((0 : Int) ≤ y2) && decide (y2 < (↑y0.length : Int))) (chk (decide ((0 : Int) ≤ y2) && decide (y2 < (↑y1.length : Int))) (bif y0.getD y2.toNat (0 : Int) != y1.getD y2.toNat (0 : Int) then Zf else f192_L0 n m0 y0 y1 (IntKind.i64.wrap (y2 + (1 : Int))))) else Zt := by kernel_rfl
theorem f192_raw (n : Nat) (x0 x1 : List Int) : abody Γ (orc []) n 14 [ZX Zi.slice x0, ZX Zi.slice x1] = bif (↑x0.length : Int) != (↑x1.length : Int) then Zf else f192_L0 n n x0 x1 (0 : Int) := by kernel_rfl

def Sp.eqN (x y : Int) : Bool := x == y
noncomputable def e185 : Ent := { f := n185, ins := [Sh.one (C0.dat (.slice tIn))], outs := [Sh.one (C0.row tIn)], upd := [], pre := fun a => Sp.fits32 (α := Int) a, spec := fun a => a, wrt := fun _ => () }
theorem e185_core (xs : List Int) (ha : Sp.fits32 xs = true) : ∃ n, abody Γ (orc []) n n185 [ZX (Ty.slice tIn) xs] = some (Res.mk [XV.mk false [X.c (X0.row tIn xs true)]] []) := by
  have h1 := fits32_of ha
  refine ⟨xs.length + 1, (f185_raw _ xs).trans ?_⟩
  rw [make8 h1, chkT]
  refine to_end (R := fun l : List Int => Res.mk [XV.mk false [X.c (X0.row tIn l true)]] []) xs (fun m k acc => f185_L0 (xs.length + 1) m xs k acc) (fun m k acc hk => ?_) (fun m k acc h ha => ?_) _
  · show f185_L0 _ _ _ _ _ = _
    rw [f185_L0_step, nat_ge hk, cond_false]
  · show f185_L0 _ _ _ _ _ = _
    rw [f185_L0_step, ha, nat_lt h, cond_true, guard0, chkT, chkT, getD_nat xs k _ h, next64 h (by omega), Int.toNat_natCast]
theorem e185_ok : Valid PP Γ e185 := valid_of ok vnil fun a ha => e185_core a ha
noncomputable def e192 : Ent := { f := n192, ins := [Sh.one (C0.dat (.slice tIn)), Sh.one (C0.dat (.slice tIn))], outs := [Sh.one cB], upd := [], pre := fun a => true, spec := fun a => Sp.eqW Sp.eqN a.1 a.2, wrt := fun _ => () }
theorem e192_core (xs ys : List Int) (h1 : xs.length ≤ maxLen) : ∃ n, abody Γ (orc []) n n192 [ZX (Ty.slice tIn) xs, ZX (Ty.slice tIn) ys] = some (rBo (Sp.eqW Sp.eqN xs ys)) := by
  have h1 : xs.length ≤ 9223372036854775807 := h1
  refine ⟨xs.length + 1, (f192_raw _ xs ys).trans ?_⟩
  by_cases he : xs.length = ys.length
  · rw [show ((xs.length : Int) != (ys.length : Int)) = false by simp [he], cond_false]
    refine eq_loop xs ys (fun m k => f192_L0 _ m xs ys k) he (fun m k hk => ?_) (fun m k h h2 => ?_) xs.length 0 _ (Nat.zero_add _) (Nat.lt_succ_self _)
    · show f192_L0 _ _ _ _ _ = _
      rw [f192_L0_step, nat_ge hk, cond_false]
    · show f192_L0 _ _ _ _ _ = _
      rw [f192_L0_step, nat_lt h, cond_true, guard0, chkT, guard2 h2, chkT, getD_nat xs k _ h, getD_nat ys k _ h2, next64 h2 (by omega)]
      rfl
  · rw [show ((xs.length : Int) != (ys.length : Int)) = true by simp; omega, eqW_len he]
    rfl
theorem e192_ok : Valid PP Γ e192 := valid_len ok vnil fun a _ hl => e192_core a.1 a.2 (hl _ (List.mem_cons_self) _ (List.mem_cons_self)).1
def Sp.f1148 (x0 : ByteArray) (x1 : List Int) (x2 : Int) := (bif decide (IntKind.i64.wrap (x2 - (↑x0.size : Int)) < (0 : Int)) then ((-1 : Int), ()) else (bif decide ((Sp.f179 x1 (IntKind.i64.wrap (x2 - (↑x0.size : Int)))).1 < (0 : Int)) then ((-1 : Int), ()) else ((Sp.f179 x1 (IntKind.i64.wrap (x2 - (↑x0.size : Int)))).1, ())))
noncomputable def e1148 : Ent := { f := 108, ins := [Sh.agg [C0.dat Ty.str, C0.dat Zi.slice], Sh.one ZI], outs := [Sh.one ZI], upd := [], pre := fun a => true, spec := fun a => (Sp.f1148 a.1.1 a.1.2 a.2).1, wrt := fun a => (Sp.f1148 a.1.1 a.1.2 a.2).2 }
def f1148_g (v : denS [Sh.one ZI] × denS []) : Res := ⟨mkS [Sh.one ZI] v.1, mkU [] v.2⟩
theorem f1148_form (x0 : ByteArray) (x1 : List Int) (x2 : Int) : abody Γ (orc [e179]) 0 108 [XV.mk true [ZC Ty.str x0, ZC Zi.slice x1], ZX Zi x2] = some (f1148_g (Sp.f1148 x0 x1 x2)) := by
  refine Eq.trans (b := bif decide (IntKind.i64.wrap (x2 - (↑x0.size : Int)) < (0 : Int)) then ZJ (-1 : Int) else bif decide ((Sp.f179 x1 (IntKind.i64.wrap (x2 - (↑x0.size : Int)))).1 < (0 : Int)) then ZJ (-1 : Int) else ZJ (Sp.f179 x1 (IntKind.i64.wrap (x2 - (↑x0.size : Int)))).1) (by kernel_rfl) ?_
  unfold Sp.f1148
  exact (cond_plain f1148_g (rfl) ((cond_plain f1148_g (rfl) (rfl))))
theorem e1148_ok : Valid PP Γ e1148 := valid_auto ok (vcons e179_ok vnil) fun a => f1148_form a.1.1 a.1.2 a.2

def Sp.f1150_pre (x0 : ByteArray) (x1 : List Int) : Bool := (Sp.fits32 x1)
def Sp.f1150 (x0 : ByteArray) (x1 : List Int) := ((x0, x1), ())
noncomputable def e1150 : Ent := { f := 116, ins := [Sh.agg [C0.dat Ty.str, C0.dat Zi.slice]], outs := [Sh.agg [C0.dat Ty.str, C0.row Zi]], upd := [], pre := fun a => Sp.f1150_pre a.1 a.2, spec := fun a => (Sp.f1150 a.1 a.2).1, wrt := fun a => (Sp.f1150 a.1 a.2).2 }
def f1150_g (v : denS [Sh.agg [C0.dat Ty.str, C0.row Zi]] × denS []) : Res := ⟨mkS [Sh.agg [C0.dat Ty.str, C0.row Zi]] v.1, mkU [] v.2⟩
theorem f1150_form (x0 : ByteArray) (x1 : List Int) : abody Γ (orc [e185]) 0 116 [XV.mk true [ZC Ty.str x0, ZC Zi.slice x1]] = chk (Sp.f1150_pre x0 x1) (some (f1150_g (Sp.f1150 x0 x1))) := by
  refine Eq.trans (b := chk (Sp.fits32 x1) (some (Res.mk [XV.mk true [ZC Ty.str x0, X.c (X0.row Zi x1 true)]] []))) (by kernel_rfl) ?_
  unfold Sp.f1150_pre Sp.f1150
  exact (chk_last (rfl))
theorem e1150_ok : Valid PP Γ e1150 := valid_auto ok (vcons e185_ok vnil) fun a => f1150_form a.1 a.2

def Sp.f1156 (x0 : ByteArray) (x1 : List Int) (x2 : ByteArray) (x3 : List Int) := (bif !x0.toList == x2.toList then (false, ()) else (bif !Sp.eqW Sp.eqN x1 x3 then (false, ()) else (true, ())))
noncomputable def e1156 : Ent := { f := 124, ins := [Sh.agg [C0.dat Ty.str, C0.dat Zi.slice], Sh.agg [C0.dat Ty.str, C0.dat Zi.slice]], outs := [Sh.one (C0.dat Ty.bool)], upd := [], pre := fun a => true, spec := fun a => (Sp.f1156 a.1.1 a.1.2 a.2.1 a.2.2).1, wrt := fun a => (Sp.f1156 a.1.1 a.1.2 a.2.1 a.2.2).2 }
def f1156_g (v : denS [Sh.one (C0.dat Ty.bool)] × denS []) : Res := ⟨mkS [Sh.one (C0.dat Ty.bool)] v.1, mkU [] v.2⟩
theorem f1156_form (x0 : ByteArray) (x1 : List Int) (x2 : ByteArray) (x3 : List Int) : abody Γ (orc [e192]) 0 124 [XV.mk true [ZC Ty.str x0, ZC Zi.slice x1], XV.mk true [ZC Ty.str x2, ZC Zi.slice x3]] = some (f1156_g (Sp.f1156 x0 x1 x2 x3)) := by
  refine Eq.trans (b := bif !x0.toList == x2.toList then Zf else bif !Sp.eqW Sp.eqN x1 x3 then Zf else Zt) (by kernel_rfl) ?_
  unfold Sp.f1156
  exact (cond_plain f1156_g (rfl) ((cond_plain f1156_g (rfl) (rfl))))
theorem e1156_ok : Valid PP Γ e1156 := valid_auto ok (vcons e192_ok vnil) fun a => f1156_form a.1.1 a.1.2 a.2.1 a.2.2

def Sp.szIx (x : VIx) (l : Int) : Int := (Sp.f1148 x.1 x.2 l).1
def Sp.eqIx (x y : VIx) : Bool := (Sp.f1156 x.1 x.2 y.1 y.2).1
def Sp.okIx (x : VIx) : Bool := Sp.f1150_pre x.1 x.2
noncomputable def f1112_L0 (n m0 : Nat) (y0 : List (ByteArray × List Int)) (y1 y2 : Int) : Option Res := loopAt Γ (orc [e1148]) n (65 : Nat) (0 : Nat) [] [Pth.r, Pth.r, Pth.r, Pth.l, Pth.r, Pth.b] m0 (St.mk (ZS (Ty.str.pair Zi.slice).slice y0 :: ZS Zi y1 :: ZN 3 (ZS Zi y2 :: ZN 21 [])) [])
theorem f1112_L0_step (n m0 : Nat) (y0 : List (ByteArray × List Int)) (y1 y2 : Int) : f1112_L0 n (m0 + 1) y0 y1 y2 = bif decide (y2 < (↑y0.length : Int)) then chk (decide ((0 : Int) ≤ y2) && decide (y2 < (↑y0.length : Int))) (bif decide ((Sp.f1148 (y0.getD y2.toNat (ByteArray.mk #[], [])).1 (y0.getD y2.toNat (ByteArray.mk #[], [])).2 y1).1 < (0 : Int)) then ZJ (-1 : Int) else f1112_L0 n m0 y0 (Sp.f1148 (y0.getD y2.toNat (ByteArray.mk #[], [])).1 (y0.getD y2.toNat (ByteArray.mk #[], [])).2 y1).1 (IntKind.i64.wrap (y2 + (1 : Int)))) else ZJ y1 := by kernel_rfl
theorem f1112_raw (n : Nat) (x0 : List (ByteArray × List Int)) (x1 : Int) : abody Γ (orc [e1148]) n 65 [ZX (Ty.str.pair Zi.slice).slice x0, ZX Zi x1] = bif decide (IntKind.i64.wrap (x1 - (↑x0.length : Int)) < (0 : Int)) then ZJ (-1 : Int) else f1112_L0 n n x0 (IntKind.i64.wrap (x1 - (↑x0.length : Int))) (0 : Int) := by kernel_rfl

noncomputable def f1114_L0 (n m0 : Nat) (y0 : List (ByteArray × List Int)) (y1 : Int) (y2 : List (ByteArray × List Int)) : Option Res := loopAt Γ (orc [e1150]) n (76 : Nat) (0 : Nat) [] [Pth.r, Pth.r, Pth.l, Pth.r, Pth.b] m0 (St.mk (ZS (Ty.str.pair Zi.slice).slice y0 :: Zn :: Zn :: Slot.val (Val.one (Cell.own (0 : Nat))) :: ZS Zi y1 :: ZN 18 []) [AObj.row (Ty.str.pair Zi.slice) y2 true])
theorem f1114_L0_step (n m0 : Nat) (y0 : List (ByteArray × List Int)) (y1 : Int) (y2 : List (ByteArray × List Int)) : f1114_L0 n (m0 + 1) y0 y1 y2 = bif decide (y1 < (↑y0.length : Int)) then chk (decide ((0 : Int) ≤ y1) && decide (y1 < (↑y0.length : Int))) (chk (Sp.f1150_pre (y0.getD y1.toNat (ByteArray.mk #[], [])).1 (y0.getD y1.toNat (ByteArray.mk #[], [])).2) (chk (decide ((0 : Int) ≤ y1) && decide (y1 < (↑y2.length : Int))) (f1114_L0 n m0 y0 (IntKind.i64.wrap (y1 + (1 : Int))) (y2.set y1.toNat ((Sp.f1150 (y0.getD y1.toNat (ByteArray.mk #[], [])).1 (y0.getD y1.toNat (ByteArray.mk #[], [])).2).1.1, (Sp.f1150 (y0.getD y1.toNat (ByteArray.mk #[], [])).1 (y0.getD y1.toNat (ByteArray.mk #[], [])).2).1.2))))) else some (Res.mk [XV.mk false [X.c (X0.row (Ty.str.pair Zi.slice) y2 true)]] []) := by kernel_rfl
theorem f1114_raw (n : Nat) (x0 : List (ByteArray × List Int)) : abody Γ (orc [e1150]) n 76 [ZX (Ty.str.pair Zi.slice).slice x0] = chk (decide ((0 : Int) ≤ (↑x0.length : Int)) && decide ((↑x0.length : Int) ≤ (↑x0.length : Int)) && decide ((↑x0.length : Int) ≤ (140737488355328 : Int)) && decide ((40 : Int) * (↑x0.length : Int) ≤ (140737488355328 : Int))) (f1114_L0 n n x0 (0 : Int) (List.replicate (↑x0.length : Int).toNat (ByteArray.empty, []))) := by kernel_rfl

noncomputable def f1120_L0 (n m0 : Nat) (y0 y1 : List (ByteArray × List Int)) (y2 : Int) : Option Res := loopAt Γ (orc [e1156]) n (86 : Nat) (0 : Nat) [] [Pth.r, Pth.r, Pth.l, Pth.r, Pth.b] m0 (St.mk (ZS (Ty.str.pair Zi.slice).slice y0 :: ZS (Ty.str.pair Zi.slice).slice y1 :: ZN 3 (ZS Zi y2 :: ZN 21 [])) [])
theorem f1120_L0_step (n m0 : Nat) (y0 y1 : List (ByteArray × List Int)) (y2 : Int) : f1120_L0 n (m0 + 1) y0 y1 y2 = bif decide (y2 < (↑y0.length : Int)) then chk (decide ((0 : Int) ≤ y2) && decide (y2 < (↑y0.length : Int))) (chk (decide ((0 : Int) ≤ y2) && decide (y2 < (↑y1.length : Int))) (bif !(Sp.f1156 (y0.getD y2.toNat (ByteArray.mk #[], [])).1 (y0.getD y2.toNat (ByteArray.mk #[], [])).2 (y1.getD y2.toNat (ByteArray.mk #[], [])).1 (y1.getD y2.toNat (ByteArray.mk #[], [])).2).1 then Zf else f1120_L0 n m0 y0 y1 (IntKind.i64.wrap (y2 + (1 : Int))))) else Zt := by kernel_rfl
theorem f1120_raw (n : Nat) (x0 x1 : List (ByteArray × List Int)) : abody Γ (orc [e1156]) n 86 [ZX (Ty.str.pair Zi.slice).slice x0, ZX (Ty.str.pair Zi.slice).slice x1] = bif (↑x0.length : Int) != (↑x1.length : Int) then Zf else f1120_L0 n n x0 x1 (0 : Int) := by kernel_rfl

noncomputable def e1112 : Ent := { f := n1112, ins := [Sh.one (C0.dat (.slice tIx)), Sh.one cI], outs := [Sh.one cI], upd := [], pre := fun a => true, spec := fun a => Sp.szE Sp.szIx a.1 a.2, wrt := fun _ => () }
theorem e1112_core (xs : List VIx) (v : Int) (hl : xs.length ≤ maxLen) : ∃ n, abody Γ (orc [e1148]) n n1112 [ZX (Ty.slice tIx) xs, ZX Zi v] = some (rI (Sp.szE Sp.szIx xs v)) := by
  have hl : xs.length ≤ 9223372036854775807 := hl
  refine ⟨xs.length + 1, (f1112_raw _ xs v).trans ?_⟩
  unfold Sp.szE
  cases decide (IntKind.i64.wrap (v - (xs.length : Int)) < 0) with
  | true => rfl
  | false =>
    rw [cond_false, cond_false]
    refine sz_loop (f := Sp.szIx) (R := rI) xs (fun m v k => f1112_L0 (xs.length + 1) m xs v k) (fun m v k hk => ?_) (fun m v k h => ?_) xs.length 0 _ _ (Nat.zero_add _) (Nat.lt_succ_self _)
    · show f1112_L0 _ _ _ _ _ = _
      rw [f1112_L0_step, nat_ge hk, cond_false]
    · show f1112_L0 _ _ _ _ _ = _
      rw [f1112_L0_step, nat_lt h, cond_true, guard0, chkT, getD_nat xs k _ h, next64 h hl]
      rfl
theorem e1112_ok : Valid PP Γ e1112 := valid_len ok (vcons e1148_ok vnil) fun a _ hl => e1112_core a.1 a.2 (hl _ (List.mem_cons_self) _ (List.mem_cons_self)).1
def Sp.fits1114 (xs : List VIx) : Bool := yes2 (Sp.fits32 xs) (Sp.allW Sp.okIx xs)
noncomputable def e1114 : Ent := { f := n1114, ins := [Sh.one (C0.dat (.slice tIx))], outs := [Sh.one (C0.row tIx)], upd := [], pre := fun a => Sp.fits1114 a, spec := fun a => a, wrt := fun _ => () }
theorem e1114_core (xs : List VIx) (ha : Sp.fits1114 xs = true) : ∃ n, abody Γ (orc [e1150]) n n1114 [ZX (Ty.slice tIx) xs] = some (Res.mk [XV.mk false [X.c (X0.row tIx xs true)]] []) := by
  obtain ⟨h1, h2⟩ := yes2_true ha
  have h1 := fits32_of h1
  have h2 := allW_mem.1 h2
  refine ⟨xs.length + 1, (f1114_raw _ xs).trans ?_⟩
  rw [make40 h1, chkT]
  refine to_end (R := fun l : List VIx => Res.mk [XV.mk false [X.c (X0.row tIx l true)]] []) xs (fun m k acc => f1114_L0 (xs.length + 1) m xs k acc) (fun m k acc hk => ?_) (fun m k acc h ha => ?_) _
  · show f1114_L0 _ _ _ _ _ = _
    rw [f1114_L0_step, nat_ge hk, cond_false]
  · show f1114_L0 _ _ _ _ _ = _
    have h3 : Sp.f1150_pre xs[k].1 xs[k].2 = true := h2 _ (List.getElem_mem h)
    rw [f1114_L0_step, ha, nat_lt h, cond_true, guard0, chkT, getD_nat xs k _ h, h3, chkT, chkT, next64 h (by omega), Int.toNat_natCast]
    rfl
theorem e1114_ok : Valid PP Γ e1114 := valid_of ok (vcons e1150_ok vnil) fun a ha => e1114_core a ha
noncomputable def e1120 : Ent := { f := n1120, ins := [Sh.one (C0.dat (.slice tIx)), Sh.one (C0.dat (.slice tIx))], outs := [Sh.one cB], upd := [], pre := fun a => true, spec := fun a => Sp.eqW Sp.eqIx a.1 a.2, wrt := fun _ => () }
theorem e1120_core (xs ys : List VIx) (h1 : xs.length ≤ maxLen) : ∃ n, abody Γ (orc [e1156]) n n1120 [ZX (Ty.slice tIx) xs, ZX (Ty.slice tIx) ys] = some (rBo (Sp.eqW Sp.eqIx xs ys)) := by
  have h1 : xs.length ≤ 9223372036854775807 := h1
  refine ⟨xs.length + 1, (f1120_raw _ xs ys).trans ?_⟩
  by_cases he : xs.length = ys.length
  · rw [show ((xs.length : Int) != (ys.length : Int)) = false by simp [he], cond_false]
    refine eq_loop xs ys (fun m k => f1120_L0 _ m xs ys k) he (fun m k hk => ?_) (fun m k h h2 => ?_) xs.length 0 _ (Nat.zero_add _) (Nat.lt_succ_self _)
    · show f1120_L0 _ _ _ _ _ = _
      rw [f1120_L0_step, nat_ge hk, cond_false]
    · show f1120_L0 _ _ _ _ _ = _
      rw [f1120_L0_step, nat_lt h, cond_true, guard0, chkT, guard2 h2, chkT, getD_nat xs k _ h, getD_nat ys k _ h2, next64 h2 (by omega)]
      rfl
  · rw [show ((xs.length : Int) != (ys.length : Int)) = true by simp; omega, eqW_len he]
    rfl
theorem e1120_ok : Valid PP Γ e1120 := valid_len ok (vcons e1156_ok vnil) fun a _ hl => e1120_core a.1 a.2 (hl _ (List.mem_cons_self) _ (List.mem_cons_self)).1
def Sp.f1085 (x0 : ByteArray) (x1 : List (ByteArray × Int × Bool)) (x2 : Int) (x3 : List (ByteArray × List Int)) (x4 : Int) := (bif decide (IntKind.i64.wrap (x4 - (↑x0.size : Int)) < (0 : Int)) then ((-1 : Int), ()) else (bif decide (Sp.szE Sp.szCo x1 (IntKind.i64.wrap (x4 - (↑x0.size : Int))) < (0 : Int)) then ((-1 : Int), ()) else (bif decide (Sp.szE Sp.szIx x3 (Sp.szE Sp.szCo x1 (IntKind.i64.wrap (x4 - (↑x0.size : Int)))) < (0 : Int)) then ((-1 : Int), ()) else (Sp.szE Sp.szIx x3 (Sp.szE Sp.szCo x1 (IntKind.i64.wrap (x4 - (↑x0.size : Int)))), ()))))
noncomputable def e1085 : Ent := { f := 33, ins := [Sh.agg [C0.dat Ty.str, C0.dat (Ty.str.pair (Zi.pair Ty.bool)).slice, C0.dat Zi, C0.dat (Ty.str.pair Zi.slice).slice], Sh.one ZI], outs := [Sh.one ZI], upd := [], pre := fun a => true, spec := fun a => (Sp.f1085 a.1.1 a.1.2.1 a.1.2.2.1 a.1.2.2.2 a.2).1, wrt := fun a => (Sp.f1085 a.1.1 a.1.2.1 a.1.2.2.1 a.1.2.2.2 a.2).2 }
def f1085_g (v : denS [Sh.one ZI] × denS []) : Res := ⟨mkS [Sh.one ZI] v.1, mkU [] v.2⟩
theorem f1085_form (x0 : ByteArray) (x1 : List (ByteArray × Int × Bool)) (x2 : Int) (x3 : List (ByteArray × List Int)) (x4 : Int) : abody Γ (orc [e1111, e1112]) 0 33 [XV.mk true [ZC Ty.str x0, ZC (Ty.str.pair (Zi.pair Ty.bool)).slice x1, ZC Zi x2, ZC (Ty.str.pair Zi.slice).slice x3], ZX Zi x4] = some (f1085_g (Sp.f1085 x0 x1 x2 x3 x4)) := by
  refine Eq.trans (b := bif decide (IntKind.i64.wrap (x4 - (↑x0.size : Int)) < (0 : Int)) then ZJ (-1 : Int) else bif decide (Sp.szE Sp.szCo x1 (IntKind.i64.wrap (x4 - (↑x0.size : Int))) < (0 : Int)) then ZJ (-1 : Int) else bif decide (Sp.szE Sp.szIx x3 (Sp.szE Sp.szCo x1 (IntKind.i64.wrap (x4 - (↑x0.size : Int)))) < (0 : Int)) then ZJ (-1 : Int) else ZJ (Sp.szE Sp.szIx x3 (Sp.szE Sp.szCo x1 (IntKind.i64.wrap (x4 - (↑x0.size : Int)))))) (by kernel_rfl) ?_
  unfold Sp.f1085
  exact (cond_plain f1085_g (rfl) ((cond_plain f1085_g (rfl) ((cond_plain f1085_g (rfl) (rfl))))))
theorem e1085_ok : Valid PP Γ e1085 := valid_auto ok (vcons e1111_ok (vcons e1112_ok vnil)) fun a => f1085_form a.1.1 a.1.2.1 a.1.2.2.1 a.1.2.2.2 a.2

def Sp.f1089_pre (x0 : ByteArray) (x1 : List (ByteArray × Int × Bool)) (x2 : Int) (x3 : List (ByteArray × List Int)) : Bool := (Sp.fits32 x1 && (Sp.fits1114 x3))
def Sp.f1089 (x0 : ByteArray) (x1 : List (ByteArray × Int × Bool)) (x2 : Int) (x3 : List (ByteArray × List Int)) := ((x0, x1, x2, x3), ())
noncomputable def e1089 : Ent := { f := 40, ins := [Sh.agg [C0.dat Ty.str, C0.dat (Ty.str.pair (Zi.pair Ty.bool)).slice, C0.dat Zi, C0.dat (Ty.str.pair Zi.slice).slice]], outs := [Sh.agg [C0.dat Ty.str, C0.row (Ty.str.pair (Zi.pair Ty.bool)), C0.dat Zi, C0.row (Ty.str.pair Zi.slice)]], upd := [], pre := fun a => Sp.f1089_pre a.1 a.2.1 a.2.2.1 a.2.2.2, spec := fun a => (Sp.f1089 a.1 a.2.1 a.2.2.1 a.2.2.2).1, wrt := fun a => (Sp.f1089 a.1 a.2.1 a.2.2.1 a.2.2.2).2 }
def f1089_g (v : denS [Sh.agg [C0.dat Ty.str, C0.row (Ty.str.pair (Zi.pair Ty.bool)), C0.dat Zi, C0.row (Ty.str.pair Zi.slice)]] × denS []) : Res := ⟨mkS [Sh.agg [C0.dat Ty.str, C0.row (Ty.str.pair (Zi.pair Ty.bool)), C0.dat Zi, C0.row (Ty.str.pair Zi.slice)]] v.1, mkU [] v.2⟩
theorem f1089_form (x0 : ByteArray) (x1 : List (ByteArray × Int × Bool)) (x2 : Int) (x3 : List (ByteArray × List Int)) : abody Γ (orc [e1113, e1114]) 0 40 [XV.mk true [ZC Ty.str x0, ZC (Ty.str.pair (Zi.pair Ty.bool)).slice x1, ZC Zi x2, ZC (Ty.str.pair Zi.slice).slice x3]] = chk (Sp.f1089_pre x0 x1 x2 x3) (some (f1089_g (Sp.f1089 x0 x1 x2 x3))) := by
  refine Eq.trans (b := chk (Sp.fits32 x1) (chk (Sp.fits1114 x3) (some (Res.mk [XV.mk true [ZC Ty.str x0, X.c (X0.row (Ty.str.pair (Zi.pair Ty.bool)) x1 true), ZC Zi x2, X.c (X0.row (Ty.str.pair Zi.slice) x3 true)]] [])))) (by kernel_rfl) ?_
  unfold Sp.f1089_pre Sp.f1089
  exact (chk_step ((chk_last (rfl))))
theorem e1089_ok : Valid PP Γ e1089 := valid_auto ok (vcons e1113_ok (vcons e1114_ok vnil)) fun a => f1089_form a.1 a.2.1 a.2.2.1 a.2.2.2

def Sp.f1094 (x0 : ByteArray) (x1 : List (ByteArray × Int × Bool)) (x2 : Int) (x3 : List (ByteArray × List Int)) (x4 : ByteArray) (x5 : List (ByteArray × Int × Bool)) (x6 : Int) (x7 : List (ByteArray × List Int)) := (bif !x0.toList == x4.toList then (false, ()) else (bif !Sp.eqW Sp.eqCo x1 x5 then (false, ()) else (bif x2 != x6 then (false, ()) else (bif !Sp.eqW Sp.eqIx x3 x7 then (false, ()) else (true, ())))))
noncomputable def e1094 : Ent := { f := 45, ins := [Sh.agg [C0.dat Ty.str, C0.dat (Ty.str.pair (Zi.pair Ty.bool)).slice, C0.dat Zi, C0.dat (Ty.str.pair Zi.slice).slice], Sh.agg [C0.dat Ty.str, C0.dat (Ty.str.pair (Zi.pair Ty.bool)).slice, C0.dat Zi, C0.dat (Ty.str.pair Zi.slice).slice]], outs := [Sh.one (C0.dat Ty.bool)], upd := [], pre := fun a => true, spec := fun a => (Sp.f1094 a.1.1 a.1.2.1 a.1.2.2.1 a.1.2.2.2 a.2.1 a.2.2.1 a.2.2.2.1 a.2.2.2.2).1, wrt := fun a => (Sp.f1094 a.1.1 a.1.2.1 a.1.2.2.1 a.1.2.2.2 a.2.1 a.2.2.1 a.2.2.2.1 a.2.2.2.2).2 }
def f1094_g (v : denS [Sh.one (C0.dat Ty.bool)] × denS []) : Res := ⟨mkS [Sh.one (C0.dat Ty.bool)] v.1, mkU [] v.2⟩
theorem f1094_form (x0 : ByteArray) (x1 : List (ByteArray × Int × Bool)) (x2 : Int) (x3 : List (ByteArray × List Int)) (x4 : ByteArray) (x5 : List (ByteArray × Int × Bool)) (x6 : Int) (x7 : List (ByteArray × List Int)) : abody Γ (orc [e1119, e1120]) 0 45 [XV.mk true [ZC Ty.str x0, ZC (Ty.str.pair (Zi.pair Ty.bool)).slice x1, ZC Zi x2, ZC (Ty.str.pair Zi.slice).slice x3], XV.mk true [ZC Ty.str x4, ZC (Ty.str.pair (Zi.pair Ty.bool)).slice x5, ZC Zi x6, ZC (Ty.str.pair Zi.slice).slice x7]] = some (f1094_g (Sp.f1094 x0 x1 x2 x3 x4 x5 x6 x7)) := by
  refine Eq.trans (b := bif !x0.toList == x4.toList then Zf else bif !Sp.eqW Sp.eqCo x1 x5 then Zf else bif x2 != x6 then Zf else bif !Sp.eqW Sp.eqIx x3 x7 then Zf else Zt) (by kernel_rfl) ?_
  unfold Sp.f1094
  exact (cond_plain f1094_g (rfl) ((cond_plain f1094_g (rfl) ((cond_plain f1094_g (rfl) ((cond_plain f1094_g (rfl) (rfl))))))))
theorem e1094_ok : Valid PP Γ e1094 := valid_auto ok (vcons e1119_ok (vcons e1120_ok vnil)) fun a => f1094_form a.1.1 a.1.2.1 a.1.2.2.1 a.1.2.2.2 a.2.1 a.2.2.1 a.2.2.2.1 a.2.2.2.2

def Sp.szTb (x : VTb) (l : Int) : Int := (Sp.f1085 x.1 x.2.1 x.2.2.1 x.2.2.2 l).1
def Sp.eqTb (x y : VTb) : Bool := (Sp.f1094 x.1 x.2.1 x.2.2.1 x.2.2.2 y.1 y.2.1 y.2.2.1 y.2.2.2).1
def Sp.okTb (x : VTb) : Bool := Sp.f1089_pre x.1 x.2.1 x.2.2.1 x.2.2.2
noncomputable def f1065_L0 (n m0 : Nat) (y0 : List (ByteArray × List (ByteArray × Int × Bool) × Int × List (ByteArray × List Int))) (y1 y2 : Int) : Option Res := loopAt Γ (orc [e1085]) n (7 : Nat) (0 : Nat) [] [Pth.r, Pth.r, Pth.r, Pth.l, Pth.r, Pth.b] m0 (St.mk (ZS (Ty.str.pair ((Ty.str.pair (Zi.pair Ty.bool)).slice.pair (Zi.pair (Ty.str.pair Zi.slice).slice))).slice y0 :: ZS Zi y1 :: ZN 3 (ZS Zi y2 :: ZN 21 [])) [])
theorem f1065_L0_step (n m0 : Nat) (y0 : List (ByteArray × List (ByteArray × Int × Bool) × Int × List (ByteArray × List Int))) (y1 y2 : Int) : f1065_L0 n (m0 + 1) y0 y1 y2 = bif decide (y2 < (↑y0.length : Int)) then chk (decide ((0 : Int) ≤ y2) && decide (y2 < (↑y0.length : Int))) (bif decide ((Sp.f1085 (y0.getD y2.toNat (ByteArray.mk #[], [], (0 : Int), [])).1 (y0.getD y2.toNat (ByteArray.mk #[], [], (0 : Int), [])).2.1 (y0.getD y2.toNat (ByteArray.mk #[], [], (0 : Int), [])).2.2.1 (y0.getD y2.toNat (ByteArray.mk #[], [], (0 : Int), [])).2.2.2 y1).1 < (0 : Int)) then ZJ (-1 : Int) else f1065_L0 n m0 y0 (Sp.f1085 (y0.getD y2.toNat (ByteArray.mk #[], [], (0 : Int), [])).1 (y0.getD y2.toNat (ByteArray.mk #[], [], (0 : Int), [])).2.1 (y0.getD y2.toNat (ByteArray.mk #[], [], (0 : Int), [])).2.2.1 (y0.getD y2.toNat (ByteArray.mk #[], [], (0 : Int), [])).2.2.2 y1).1 (IntKind.i64.wrap (y2 + (1 : Int)))) else ZJ y1 := by kernel_rfl
theorem f1065_raw (n : Nat) (x0 : List (ByteArray × List (ByteArray × Int × Bool) × Int × List (ByteArray × List Int))) (x1 : Int) : abody Γ (orc [e1085]) n 7 [ZX (Ty.str.pair ((Ty.str.pair (Zi.pair Ty.bool)).slice.pair (Zi.pair (Ty.str.pair Zi.slice).slice))).slice x0, ZX Zi x1] = bif decide (IntKind.i64.wrap (x1 - (↑x0.length : Int)) < (0 : Int)) then ZJ (-1 : Int) else f1065_L0 n n x0 (IntKind.i64.wrap (x1 - (↑x0.length : Int))) (0 : Int) := by kernel_rfl

noncomputable def f1068_L0 (n m0 : Nat) (y0 : List (ByteArray × List (ByteArray × Int × Bool) × Int × List (ByteArray × List Int))) (y1 : Int) (y2 : List (ByteArray × List (ByteArray × Int × Bool) × Int × List (ByteArray × List Int))) : Option Res := loopAt Γ (orc [e1089]) n (11 : Nat) (0 : Nat) [] [Pth.r, Pth.r, Pth.l, Pth.r, Pth.b] m0 (St.mk (ZS (Ty.str.pair ((Ty.str.pair (Zi.pair Ty.bool)).slice.pair (Zi.pair (Ty.str.pair Zi.slice).slice))).slice y0 :: Zn :: Zn :: Slot.val (Val.one (Cell.own (0 : Nat))) :: ZS Zi y1 :: ZN 18 []) [AObj.row (Ty.str.pair ((Ty.str.pair (Zi.pair Ty.bool)).slice.pair (Zi.pair (Ty.str.pair Zi.slice).slice))) y2 true])
theorem f1068_L0_step (n m0 : Nat) (y0 : List (ByteArray × List (ByteArray × Int × Bool) × Int × List (ByteArray × List Int))) (y1 : Int) (y2 : List (ByteArray × List (ByteArray × Int × Bool) × Int × List (ByteArray × List Int))) : f1068_L0 n (m0 + 1) y0 y1 y2 = bif decide (y1 < (↑y0.length : Int)) then chk (decide ((0 : Int) ≤ y1) && decide (y1 < (↑y0.length : Int))) (chk (Sp.f1089_pre (y0.getD y1.toNat (ByteArray.mk #[], [], (0 : Int), [])).1 (y0.getD y1.toNat (ByteArray.mk #[], [], (0 : Int), [])).2.1 (y0.getD y1.toNat (ByteArray.mk #[], [], (0 : Int), [])).2.2.1 (y0.getD y1.toNat (ByteArray.mk #[], [], (0 : Int), [])).2.2.2) (chk (decide ((0 : Int) ≤ y1) && decide (y1 < (↑y2.length : Int))) (f1068_L0 n m0 y0 (IntKind.i64.wrap (y1 + (1 : Int))) (y2.set y1.toNat ((Sp.f1089 (y0.getD y1.toNat (ByteArray.mk #[], [], (0 : Int), [])).1 (y0.getD y1.toNat (ByteArray.mk #[], [], (0 : Int), [])).2.1 (y0.getD y1.toNat (ByteArray.mk #[], [], (0 : Int), [])).2.2.1 (y0.getD y1.toNat (ByteArray.mk #[], [], (0 : Int), [])).2.2.2).1.1, (Sp.f1089 (y0.getD y1.toNat (ByteArray.mk #[], [], (0 : Int), [])).1 (y0.getD y1.toNat (ByteArray.mk #[], [], (0 : Int), [])).2.1 (y0.getD y1.toNat (ByteArray.mk #[], [], (0 : Int), [])).2.2.1 (y0.getD y1.toNat (ByteArray.mk #[], [], (0 : Int), [])).2.2.2).1.2.1, (Sp.f1089 (y0.getD y1.toNat (ByteArray.mk #[], [], (0 : Int), [])).1 (y0.getD y1.toNat (ByteArray.mk #[], [], (0 : Int), [])).2.1 (y0.getD y1.toNat (ByteArray.mk #[], [], (0 : Int), [])).2.2.1 (y0.getD y1.toNat (ByteArray.mk #[], [], (0 : Int), [])).2.2.2).1.2.2.1, (Sp.f1089 (y0.getD y1.toNat (ByteArray.mk #[], [], (0 : Int), [])).1 (y0.getD y1.toNat (ByteArray.mk #[], [], (0 : Int), [])).2.1 (y0.getD y1.toNat (ByteArray.mk #[], [], (0 : Int), [])).2.2.1 (y0.getD y1.toNat (ByteArray.mk #[], [], (0 : Int), [])).2.2.2).1.2.2.2))))) else some (Res.mk [XV.mk false [X.c (X0.row (Ty.str.pair ((Ty.str.pair (Zi.pair Ty.bool)).slice.pair (Zi.pair (Ty.str.pair Zi.slice).slice))) y2 true)]] []) := by kernel_rfl
theorem f1068_raw (n : Nat) (x0 : List (ByteArray × List (ByteArray × Int × Bool) × Int × List (ByteArray × List Int))) : abody Γ (orc [e1089]) n 11 [ZX (Ty.str.pair ((Ty.str.pair (Zi.pair Ty.bool)).slice.pair (Zi.pair (Ty.str.pair Zi.slice).slice))).slice x0] = chk (decide ((0 : Int) ≤ (↑x0.length : Int)) && decide ((↑x0.length : Int) ≤ (↑x0.length : Int)) && decide ((↑x0.length : Int) ≤ (140737488355328 : Int)) && decide ((72 : Int) * (↑x0.length : Int) ≤ (140737488355328 : Int))) (f1068_L0 n n x0 (0 : Int) (List.replicate (↑x0.length : Int).toNat (ByteArray.empty, [], (0 : Int), []))) := by kernel_rfl

noncomputable def f1070_L0 (n m0 : Nat) (y0 y1 : List (ByteArray × List (ByteArray × Int × Bool) × Int × List (ByteArray × List Int))) (y2 : Int) : Option Res := loopAt Γ (orc [e1094]) n (15 : Nat) (0 : Nat) [] [Pth.r, Pth.r, Pth.l, Pth.r, Pth.b] m0 (St.mk (ZS (Ty.str.pair ((Ty.str.pair (Zi.pair Ty.bool)).slice.pair (Zi.pair (Ty.str.pair Zi.slice).slice))).slice y0 :: ZS (Ty.str.pair ((Ty.str.pair (Zi.pair Ty.bool)).slice.pair (Zi.pair (Ty.str.pair Zi.slice).slice))).slice y1 :: ZN 3 (ZS Zi y2 :: ZN 21 [])) [])
theorem f1070_L0_step (n m0 : Nat) (y0 y1 : List (ByteArray × List (ByteArray × Int × Bool) × Int × List (ByteArray × List Int))) (y2 : Int) : f1070_L0 n (m0 + 1) y0 y1 y2 = bif decide (y2 < (↑y0.length : Int)) then chk (decide ((0 : Int) ≤ y2) && decide (y2 < (↑y0.length : Int))) (chk (decide ((0 : Int) ≤ y2) && decide (y2 < (↑y1.length : Int))) (bif !(Sp.f1094 (y0.getD y2.toNat (ByteArray.mk #[], [], (0 : Int), [])).1 (y0.getD y2.toNat (ByteArray.mk #[], [], (0 : Int), [])).2.1 (y0.getD y2.toNat (ByteArray.mk #[], [], (0 : Int), [])).2.2.1 (y0.getD y2.toNat (ByteArray.mk #[], [], (0 : Int), [])).2.2.2 (y1.getD y2.toNat (ByteArray.mk #[], [], (0 : Int), [])).1 (y1.getD y2.toNat (ByteArray.mk #[], [], (0 : Int), [])).2.1 (y1.getD y2.toNat (ByteArray.mk #[], [], (0 : Int), [])).2.2.1 (y1.getD y2.toNat (ByteArray.mk #[], [], (0 : Int), [])).2.2.2).1 then Zf else f1070_L0 n m0 y0 y1 (IntKind.i64.wrap (y2 + (1 : Int))))) else Zt := by kernel_rfl
theorem f1070_raw (n : Nat) (x0 x1 : List (ByteArray × List (ByteArray × Int × Bool) × Int × List (ByteArray × List Int))) : abody Γ (orc [e1094]) n 15 [ZX (Ty.str.pair ((Ty.str.pair (Zi.pair Ty.bool)).slice.pair (Zi.pair (Ty.str.pair Zi.slice).slice))).slice x0, ZX (Ty.str.pair ((Ty.str.pair (Zi.pair Ty.bool)).slice.pair (Zi.pair (Ty.str.pair Zi.slice).slice))).slice x1] = bif (↑x0.length : Int) != (↑x1.length : Int) then Zf else f1070_L0 n n x0 x1 (0 : Int) := by kernel_rfl

noncomputable def e1065 : Ent := { f := n1065, ins := [Sh.one (C0.dat (.slice tTb)), Sh.one cI], outs := [Sh.one cI], upd := [], pre := fun a => true, spec := fun a => Sp.szE Sp.szTb a.1 a.2, wrt := fun _ => () }
theorem e1065_core (xs : List VTb) (v : Int) (hl : xs.length ≤ maxLen) : ∃ n, abody Γ (orc [e1085]) n n1065 [ZX (Ty.slice tTb) xs, ZX Zi v] = some (rI (Sp.szE Sp.szTb xs v)) := by
  have hl : xs.length ≤ 9223372036854775807 := hl
  refine ⟨xs.length + 1, (f1065_raw _ xs v).trans ?_⟩
  unfold Sp.szE
  cases decide (IntKind.i64.wrap (v - (xs.length : Int)) < 0) with
  | true => rfl
  | false =>
    rw [cond_false, cond_false]
    refine sz_loop (f := Sp.szTb) (R := rI) xs (fun m v k => f1065_L0 (xs.length + 1) m xs v k) (fun m v k hk => ?_) (fun m v k h => ?_) xs.length 0 _ _ (Nat.zero_add _) (Nat.lt_succ_self _)
    · show f1065_L0 _ _ _ _ _ = _
      rw [f1065_L0_step, nat_ge hk, cond_false]
    · show f1065_L0 _ _ _ _ _ = _
      rw [f1065_L0_step, nat_lt h, cond_true, guard0, chkT, getD_nat xs k _ h, next64 h hl]
      rfl
theorem e1065_ok : Valid PP Γ e1065 := valid_len ok (vcons e1085_ok vnil) fun a _ hl => e1065_core a.1 a.2 (hl _ (List.mem_cons_self) _ (List.mem_cons_self)).1
def Sp.fits1068 (xs : List VTb) : Bool := yes2 (Sp.fits32 xs) (Sp.allW Sp.okTb xs)
noncomputable def e1068 : Ent := { f := n1068, ins := [Sh.one (C0.dat (.slice tTb))], outs := [Sh.one (C0.row tTb)], upd := [], pre := fun a => Sp.fits1068 a, spec := fun a => a, wrt := fun _ => () }
theorem e1068_core (xs : List VTb) (ha : Sp.fits1068 xs = true) : ∃ n, abody Γ (orc [e1089]) n n1068 [ZX (Ty.slice tTb) xs] = some (Res.mk [XV.mk false [X.c (X0.row tTb xs true)]] []) := by
  obtain ⟨h1, h2⟩ := yes2_true ha
  have h1 := fits32_of h1
  have h2 := allW_mem.1 h2
  refine ⟨xs.length + 1, (f1068_raw _ xs).trans ?_⟩
  rw [make72 h1, chkT]
  refine to_end (R := fun l : List VTb => Res.mk [XV.mk false [X.c (X0.row tTb l true)]] []) xs (fun m k acc => f1068_L0 (xs.length + 1) m xs k acc) (fun m k acc hk => ?_) (fun m k acc h ha => ?_) _
  · show f1068_L0 _ _ _ _ _ = _
    rw [f1068_L0_step, nat_ge hk, cond_false]
  · show f1068_L0 _ _ _ _ _ = _
    have h3 : Sp.f1089_pre xs[k].1 xs[k].2.1 xs[k].2.2.1 xs[k].2.2.2 = true := h2 _ (List.getElem_mem h)
    rw [f1068_L0_step, ha, nat_lt h, cond_true, guard0, chkT, getD_nat xs k _ h, h3, chkT, chkT, next64 h (by omega), Int.toNat_natCast]
    rfl
theorem e1068_ok : Valid PP Γ e1068 := valid_of ok (vcons e1089_ok vnil) fun a ha => e1068_core a ha
noncomputable def e1070 : Ent := { f := n1070, ins := [Sh.one (C0.dat (.slice tTb)), Sh.one (C0.dat (.slice tTb))], outs := [Sh.one cB], upd := [], pre := fun a => true, spec := fun a => Sp.eqW Sp.eqTb a.1 a.2, wrt := fun _ => () }
theorem e1070_core (xs ys : List VTb) (h1 : xs.length ≤ maxLen) : ∃ n, abody Γ (orc [e1094]) n n1070 [ZX (Ty.slice tTb) xs, ZX (Ty.slice tTb) ys] = some (rBo (Sp.eqW Sp.eqTb xs ys)) := by
  have h1 : xs.length ≤ 9223372036854775807 := h1
  refine ⟨xs.length + 1, (f1070_raw _ xs ys).trans ?_⟩
  by_cases he : xs.length = ys.length
  · rw [show ((xs.length : Int) != (ys.length : Int)) = false by simp [he], cond_false]
    refine eq_loop xs ys (fun m k => f1070_L0 _ m xs ys k) he (fun m k hk => ?_) (fun m k h h2 => ?_) xs.length 0 _ (Nat.zero_add _) (Nat.lt_succ_self _)
    · show f1070_L0 _ _ _ _ _ = _
      rw [f1070_L0_step, nat_ge hk, cond_false]
    · show f1070_L0 _ _ _ _ _ = _
      rw [f1070_L0_step, nat_lt h, cond_true, guard0, chkT, guard2 h2, chkT, getD_nat xs k _ h, getD_nat ys k _ h2, next64 h2 (by omega)]
      rfl
  · rw [show ((xs.length : Int) != (ys.length : Int)) = true by simp; omega, eqW_len he]
    rfl
theorem e1070_ok : Valid PP Γ e1070 := valid_len ok (vcons e1094_ok vnil) fun a _ hl => e1070_core a.1 a.2 (hl _ (List.mem_cons_self) _ (List.mem_cons_self)).1
end Go.Proofs.GR.T

namespace Go.Proofs.GR.T
open Go Go.Proofs Go.Proofs.GR
theorem any_loop {α : Type} {ρ : Type} {p : α → Bool} {R : Bool → ρ} (xs : List α) (L : Nat → Int → Option ρ)
    (hend : ∀ m (k : Nat), xs.length ≤ k → L (m + 1) k = some (R false))
    (hstep : ∀ m (k : Nat) (h : k < xs.length), L (m + 1) k = bif p xs[k] then some (R true) else L m ((k + 1 : Nat) : Int)) :
    ∀ (d k m : Nat), k + d = xs.length → d < m → L m k = some (R (Sp.anyW p (xs.drop k))) := by
  intro d
  induction d with
  | zero =>
    intro k m hk hm
    obtain ⟨m, rfl⟩ := succ_of hm
    rw [hend m k (by omega), List.drop_of_length_le (by omega)]
    rfl
  | succ d ih =>
    intro k m hk hm
    obtain ⟨m, rfl⟩ := succ_of hm
    rw [hstep m k (by omega), ih (k + 1) m (by omega) (by omega), List.drop_eq_getElem_cons (show k < xs.length by omega)]
    rw [Sp.anyW]
    cases p xs[k] <;> rfl
def Sp.allP {α : Type} (p : List α → α → Bool) : List α → List α → Bool
  | _, [] => true
  | pre, x :: r => bif !p pre x then false else Sp.allP p (pre ++ [x]) r
theorem take_succ_get {α : Type} {xs : List α} {k : Nat} (h : k < xs.length) : xs.take (k + 1) = xs.take k ++ [xs[k]] := List.take_succ_eq_append_getElem h
theorem allP_loop {α : Type} {ρ : Type} {p : List α → α → Bool} {z : Option ρ} {F : Option ρ} (xs : List α) (L : Nat → Int → Option ρ)
    (hend : ∀ m (k : Nat), xs.length ≤ k → L (m + 1) k = z)
    (hstep : ∀ m (k : Nat) (h : k < xs.length), Sp.allP p [] (xs.take k) = true → L (m + 1) k = bif !p (xs.take k) xs[k] then F else L m ((k + 1 : Nat) : Int)) :
    ∀ (d k m : Nat), k + d = xs.length → d < m → Sp.allP p [] (xs.take k) = true → L m k = bif Sp.allP p (xs.take k) (xs.drop k) then z else F := by
  have happ : ∀ (r : List α) (pre : List α) (x : α), Sp.allP p pre (r ++ [x]) = (bif Sp.allP p pre r then p (pre ++ r) x else false) := by
    intro r
    induction r with
    | nil =>
      intro pre x
      show (bif !p pre x then false else true) = (bif true then p (pre ++ []) x else false)
      rw [List.append_nil, cond_true]
      cases p pre x <;> rfl
    | cons y r ih =>
      intro pre x
      rw [List.cons_append, Sp.allP, Sp.allP, ih, List.append_assoc, List.singleton_append]
      cases p pre y <;> rfl
  intro d
  induction d with
  | zero =>
    intro k m hk hm _
    obtain ⟨m, rfl⟩ := succ_of hm
    rw [hend m k (by omega), List.drop_of_length_le (by omega)]
    rfl
  | succ d ih =>
    intro k m hk hm hp
    obtain ⟨m, rfl⟩ := succ_of hm
    have h : k < xs.length := by omega
    rw [hstep m k h hp, List.drop_eq_getElem_cons h, Sp.allP]
    cases hc : p (xs.take k) xs[k] with
    | false => rfl
    | true =>
      rw [Bool.not_true, cond_false, cond_false, ih (k + 1) m (by omega) (by omega) (by rw [take_succ_get h, happ, hp, List.nil_append, hc]; rfl), take_succ_get h]
theorem allP_end {α : Type} {ρ : Type} {p : List α → α → Bool} {z : Option ρ} {F : Option ρ} (xs : List α) (L : Nat → Int → Option ρ)
    (hend : ∀ m (k : Nat), xs.length ≤ k → L (m + 1) k = z)
    (hstep : ∀ m (k : Nat) (h : k < xs.length), Sp.allP p [] (xs.take k) = true → L (m + 1) k = bif !p (xs.take k) xs[k] then F else L m ((k + 1 : Nat) : Int)) :
    ∀ m, xs.length < m → L m 0 = bif Sp.allP p [] xs then z else F := fun m hm => by
  have := allP_loop xs L hend hstep xs.length 0 m (Nat.zero_add _) hm rfl
  rw [List.take_zero, List.drop_zero] at this
  exact this
theorem allP_and {α : Type} {p q : List α → α → Bool} : ∀ (xs pre : List α), Sp.allP (fun a x => bif p a x then q a x else false) pre xs = (bif Sp.allP p pre xs then Sp.allP q pre xs else false)
  | [], _ => rfl
  | x :: r, pre => by
    rw [Sp.allP, Sp.allP, Sp.allP, allP_and r]
    cases p pre x <;> cases q pre x <;> cases Sp.allP p (pre ++ [x]) r <;> rfl
theorem allP_all {α : Type} {p : α → Bool} : ∀ (xs pre : List α), Sp.allP (fun _ x => p x) pre xs = Sp.allW p xs
  | [], _ => rfl
  | x :: r, pre => by rw [Sp.allP, Sp.allW, allP_all r]
theorem idx_own {α : Type} {p : α → Bool} : ∀ (a : List α) (x : α) (b : List α) (n : Int), p x = true → (Sp.idx p (a ++ x :: b) n != n + (a.length : Int)) = Sp.anyW p a
  | [], x, b, n, h => by
    rw [List.nil_append, Sp.idx, h, cond_true]
    show (n != n + 0) = false
    simp
  | y :: a, x, b, n, h => by
    rw [List.cons_append, Sp.idx, Sp.anyW]
    cases p y with
    | true =>
      rw [cond_true, cond_true]
      show (n != n + ((a.length + 1 : Nat) : Int)) = true
      simp
      omega
    | false =>
      rw [cond_false, cond_false, ← idx_own a x b (n + 1) h, show n + 1 + (a.length : Int) = n + ((y :: a).length : Int) by rw [List.length_cons]; omega]
end Go.Proofs.GR.T

set_option maxRecDepth 100000
set_option maxHeartbeats 100000000
namespace Go.Proofs.GR.T
open Go Go.Proofs Go.Proofs.GR
def Sp.nmCo (t : ByteArray) (x : VCo) : Bool := x.1.toList == t.toList
def Sp.nmIx (t : ByteArray) (x : VIx) : Bool := x.1.toList == t.toList
noncomputable def f195_L0 (n m0 : Nat) (y0 : List (ByteArray × Int × Bool)) (y1 : ByteArray) (y2 : Int) : Option Res := loopAt Γ (orc []) n (144 : Nat) (0 : Nat) [] [Pth.r, Pth.l, Pth.r, Pth.b] m0 (St.mk (ZS (Ty.str.pair (Zi.pair Ty.bool)).slice y0 :: ZS Ty.str y1 :: ZN 3 (ZS Zi y2 :: ZN 14 [])) [])
theorem f195_L0_step (n m0 : Nat) (y0 : List (ByteArray × Int × Bool)) (y1 : ByteArray) (y2 : Int) : f195_L0 n (m0 + 1) y0 y1 y2 = bif decide (y2 < (↑y0.length : Int)) then chk (decide ((0 : Int) ≤ y2) && decide (y2 < (↑y0.length : Int))) (bif (y0.getD y2.toNat (ByteArray.mk #[], (0 : Int), false)).1.toList == y1.toList then ZJ y2 else f195_L0 n m0 y0 y1 (IntKind.i64.wrap (y2 + (1 : Int)))) else ZJ (-1 : Int) := by kernel_rfl
theorem f195_raw (n : Nat) (x0 : List (ByteArray × Int × Bool)) (x1 : ByteArray) : abody Γ (orc []) n 144 [ZX (Ty.str.pair (Zi.pair Ty.bool)).slice x0, ZX Ty.str x1] = f195_L0 n n x0 x1 (0 : Int) := by kernel_rfl

noncomputable def f197_L0 (n m0 : Nat) (y0 : List (ByteArray × List Int)) (y1 : ByteArray) (y2 : Int) : Option Res := loopAt Γ (orc []) n (146 : Nat) (0 : Nat) [] [Pth.r, Pth.l, Pth.r, Pth.b] m0 (St.mk (ZS (Ty.str.pair Zi.slice).slice y0 :: ZS Ty.str y1 :: ZN 3 (ZS Zi y2 :: ZN 14 [])) [])
theorem f197_L0_step (n m0 : Nat) (y0 : List (ByteArray × List Int)) (y1 : ByteArray) (y2 : Int) : f197_L0 n (m0 + 1) y0 y1 y2 = bif decide (y2 < (↑y0.length : Int)) then chk (decide ((0 : Int) ≤ y2) && decide (y2 < (↑y0.length : Int))) (bif (y0.getD y2.toNat (ByteArray.mk #[], [])).1.toList == y1.toList then ZJ y2 else f197_L0 n m0 y0 y1 (IntKind.i64.wrap (y2 + (1 : Int)))) else ZJ (-1 : Int) := by kernel_rfl
theorem f197_raw (n : Nat) (x0 : List (ByteArray × List Int)) (x1 : ByteArray) : abody Γ (orc []) n 146 [ZX (Ty.str.pair Zi.slice).slice x0, ZX Ty.str x1] = f197_L0 n n x0 x1 (0 : Int) := by kernel_rfl

noncomputable def f210_L0 (n m0 : Nat) (y0 : List Int) (y1 y2 : Int) : Option Res := loopAt Γ (orc []) n (166 : Nat) (0 : Nat) [] [Pth.r, Pth.l, Pth.r, Pth.b] m0 (St.mk (ZS Zi.slice y0 :: ZS Zi y1 :: ZN 3 (ZS Zi y2 :: ZN 12 [])) [])
theorem f210_L0_step (n m0 : Nat) (y0 : List Int) (y1 y2 : Int) : f210_L0 n (m0 + 1) y0 y1 y2 = bif decide (y2 < (↑y0.length : Int)) then chk (decide ((0 : Int) ≤ y2) && decide (y2 < (↑y0.length : Int))) (bif y0.getD y2.toNat (0 : Int) == y1 then Zt else f210_L0 n m0 y0 y1 (IntKind.i64.wrap (y2 + (1 : Int)))) else Zf := by kernel_rfl
theorem f210_raw (n : Nat) (x0 : List Int) (x1 : Int) : abody Γ (orc []) n 166 [ZX Zi.slice x0, ZX Zi x1] = f210_L0 n n x0 x1 (0 : Int) := by kernel_rfl

noncomputable def e195 : Ent := { f := n195, ins := [Sh.one (cL tCo), Sh.one cS], outs := [Sh.one cI], upd := [], pre := fun _ => true, spec := fun a => Sp.idx (Sp.nmCo a.2) a.1 0, wrt := fun _ => () }
theorem e195_core (xs : List VCo) (t : ByteArray) (hl : xs.length ≤ maxLen) : ∃ n, abody Γ (orc []) n n195 [ZX (Ty.slice tCo) xs, ZX Ty.str t] = some (rI (Sp.idx (Sp.nmCo t) xs 0)) := by
  have hl : xs.length ≤ 9223372036854775807 := hl
  refine ⟨xs.length + 1, (f195_raw _ xs t).trans ?_⟩
  refine idx_loop (p := Sp.nmCo t) (R := rI) xs (fun m k => f195_L0 (xs.length + 1) m xs t k) (fun m k hk => ?_) (fun m k h => ?_) xs.length 0 _ (Nat.zero_add _) (Nat.lt_succ_self _)
  · show f195_L0 _ _ _ _ _ = _
    rw [f195_L0_step, nat_ge hk, cond_false]
  · show f195_L0 _ _ _ _ _ = _
    rw [f195_L0_step, nat_lt h, cond_true, guard0, chkT, getD_nat xs k _ h, next64 h hl]
    rfl
theorem e195_ok : Valid PP Γ e195 := valid_len ok vnil fun a _ hl => e195_core a.1 a.2 (hl _ (List.mem_cons_self) _ (List.mem_cons_self)).1
noncomputable def e197 : Ent := { f := n197, ins := [Sh.one (cL tIx), Sh.one cS], outs := [Sh.one cI], upd := [], pre := fun _ => true, spec := fun a => Sp.idx (Sp.nmIx a.2) a.1 0, wrt := fun _ => () }
theorem e197_core (xs : List VIx) (t : ByteArray) (hl : xs.length ≤ maxLen) : ∃ n, abody Γ (orc []) n n197 [ZX (Ty.slice tIx) xs, ZX Ty.str t] = some (rI (Sp.idx (Sp.nmIx t) xs 0)) := by
  have hl : xs.length ≤ 9223372036854775807 := hl
  refine ⟨xs.length + 1, (f197_raw _ xs t).trans ?_⟩
  refine idx_loop (p := Sp.nmIx t) (R := rI) xs (fun m k => f197_L0 (xs.length + 1) m xs t k) (fun m k hk => ?_) (fun m k h => ?_) xs.length 0 _ (Nat.zero_add _) (Nat.lt_succ_self _)
  · show f197_L0 _ _ _ _ _ = _
    rw [f197_L0_step, nat_ge hk, cond_false]
  · show f197_L0 _ _ _ _ _ = _
    rw [f197_L0_step, nat_lt h, cond_true, guard0, chkT, getD_nat xs k _ h, next64 h hl]
    rfl
theorem e197_ok : Valid PP Γ e197 := valid_len ok vnil fun a _ hl => e197_core a.1 a.2 (hl _ (List.mem_cons_self) _ (List.mem_cons_self)).1
noncomputable def e210 : Ent := { f := n210, ins := [Sh.one (cL tIn), Sh.one cI], outs := [Sh.one cB], upd := [], pre := fun _ => true, spec := fun a => Sp.anyW (Sp.eqN a.2) a.1, wrt := fun _ => () }
theorem e210_core (xs : List Int) (t : Int) (hl : xs.length ≤ maxLen) : ∃ n, abody Γ (orc []) n n210 [ZX (Ty.slice tIn) xs, ZX tIn t] = some (rBo (Sp.anyW (Sp.eqN t) xs)) := by
  have hl : xs.length ≤ 9223372036854775807 := hl
  refine ⟨xs.length + 1, (f210_raw _ xs t).trans ?_⟩
  refine any_loop (p := Sp.eqN t) (R := rBo) xs (fun m k => f210_L0 (xs.length + 1) m xs t k) (fun m k hk => ?_) (fun m k h => ?_) xs.length 0 _ (Nat.zero_add _) (Nat.lt_succ_self _)
  · show f210_L0 _ _ _ _ _ = _
    rw [f210_L0_step, nat_ge hk, cond_false]
  · show f210_L0 _ _ _ _ _ = _
    rw [f210_L0_step, nat_lt h, cond_true, guard0, chkT, getD_nat xs k _ h, next64 h hl, show (xs[k] == t) = Sp.eqN t xs[k] from Bool.beq_comm ..]
theorem e210_ok : Valid PP Γ e210 := valid_len ok vnil fun a _ hl => e210_core a.1 a.2 (hl _ (List.mem_cons_self) _ (List.mem_cons_self)).1
noncomputable def f196_L0 (n m0 : Nat) (y0 : Int) (y1 : ByteArray) (y2 : List (ByteArray × Int × Bool)) (y3 : Int) (y4 : List (ByteArray × List Int)) (y5 : ByteArray) (y6 : List Int) : Option Res := loopAt Γ (orc [e194, e79, e210]) n (145 : Nat) (0 : Nat) [] [Pth.r, Pth.r, Pth.l, Pth.r, Pth.b] m0 (St.mk (Zn :: Zn :: Slot.val (Val.one (Cell.ptr (0 : Nat) (0 : Nat))) :: Slot.val (Val.one (Cell.ptr (1 : Nat) (0 : Nat))) :: Zn :: ZS Zi y0 :: ZN 49 []) [AObj.box (79 : Nat) [Cell.dat Ty.str y1, Cell.dat (Ty.str.pair (Zi.pair Ty.bool)).slice y2, Cell.dat Zi y3, Cell.dat (Ty.str.pair Zi.slice).slice y4], AObj.box (115 : Nat) [Cell.dat Ty.str y5, Cell.dat Zi.slice y6]])
theorem f196_L0_step (n m0 : Nat) (y0 : Int) (y1 : ByteArray) (y2 : List (ByteArray × Int × Bool)) (y3 : Int) (y4 : List (ByteArray × List Int)) (y5 : ByteArray) (y6 : List Int) : f196_L0 n (m0 + 1) y0 y1 y2 y3 y4 y5 y6 = bif decide (y0 < (↑y6.length : Int)) then chk (decide ((0 : Int) ≤ y0) && decide (y0 < (↑y6.length : Int))) (bif !(Sp.f79 (y6.getD y0.toNat (0 : Int)) (0 : Int) (IntKind.i64.wrap ((↑y2.length : Int) - (1 : Int)))).1 then Zf else chk (decide ((0 : Int) ≤ y0) && decide (y0 ≤ (↑y6.length : Int))) (chk (decide ((0 : Int) ≤ y0) && decide (y0 < (↑y6.length : Int))) (bif Sp.anyW (Sp.eqN (y6.getD y0.toNat (0 : Int))) (List.take (y0.toNat - (0 : Nat)) (List.drop (0 : Nat) y6)) then Zf else f196_L0 n m0 (IntKind.i64.wrap (y0 + (1 : Int))) y1 y2 y3 y4 y5 y6))) else Zt := by kernel_rfl
theorem f196_raw (n : Nat) (x0 : ByteArray) (x1 : List (ByteArray × Int × Bool)) (x2 : Int) (x3 : List (ByteArray × List Int)) (x4 : ByteArray) (x5 : List Int) : abody Γ (orc [e194, e79, e210]) n 145 [XV.mk true [ZC Ty.str x0, ZC (Ty.str.pair (Zi.pair Ty.bool)).slice x1, ZC Zi x2, ZC (Ty.str.pair Zi.slice).slice x3], XV.mk true [ZC Ty.str x4, ZC Zi.slice x5]] = bif !Sp.isFreeS x4 then Zf else bif (↑x5.length : Int) == (0 : Int) then Zf else bif decide ((↑x5.length : Int) > (↑x1.length : Int)) then Zf else f196_L0 n n (0 : Int) x0 x1 x2 x3 x4 x5 := by kernel_rfl

end Go.Proofs.GR.T

