/-
  No statement is proved here: what the functions of the law answer, told as plain functions, and that the law's answer is always true.
  No condition.
-/
import Derived.Test.YtpljgmackfjkdaaGreatDoorTDumpBytesd
import Derived.Shelf.Small.Strs
import Derived.Shelf.Strings.Replace
set_option maxRecDepth 3000000
set_option maxHeartbeats 100000000
namespace Go.Proofs.GR.T
open Go Go.Proofs Go.Proofs.GR
abbrev tRw : Ty := .slice tV
abbrev VRw := List V3
def Sp.szRw (x : VRw) (l : Int) : Int := Sp.szE Sp.szV x l
def Sp.eqRw (x y : VRw) : Bool := Sp.eqW Sp.eqV x y
def Sp.okRw (x : VRw) : Bool := Sp.fits32 x
theorem make24 {n : Nat} (h : n ≤ 1000000000000) : (decide ((0 : Int) ≤ (n : Int)) && decide ((n : Int) ≤ (n : Int)) && decide ((n : Int) ≤ (140737488355328 : Int)) && decide ((24 : Int) * (n : Int) ≤ (140737488355328 : Int))) = true := by
  rw [decide_eq_true (show (0 : Int) ≤ n by omega), decide_eq_true (Int.le_refl (n : Int)), decide_eq_true (show (n : Int) ≤ 140737488355328 by omega), decide_eq_true (show 24 * (n : Int) ≤ 140737488355328 by omega)]
  rfl
noncomputable def f1100_L0 (n m0 : Nat) (y0 : List (List (Int × Int × ByteArray))) (y1 y2 : Int) : Option Res := loopAt Γ (orc [e48]) n (66 : Nat) (0 : Nat) [] [Pth.r, Pth.r, Pth.r, Pth.l, Pth.r, Pth.b] m0 (St.mk (ZS (Zi.pair (Zi.pair Ty.str)).slice.slice y0 :: ZS Zi y1 :: ZN 3 (ZS Zi y2 :: ZN 21 [])) [])
theorem f1100_L0_step (n m0 : Nat) (y0 : List (List (Int × Int × ByteArray))) (y1 y2 : Int) : f1100_L0 n (m0 + 1) y0 y1 y2 = bif decide (y2 < (↑y0.length : Int)) then chk (decide ((0 : Int) ≤ y2) && decide (y2 < (↑y0.length : Int))) (bif decide (Sp.szE Sp.szV (y0.getD y2.toNat []) y1 < (0 : Int)) then ZJ (-1 : Int) else f1100_L0 n m0 y0 (Sp.szE Sp.szV (y0.getD y2.toNat []) y1) (IntKind.i64.wrap (y2 + (1 : Int)))) else ZJ y1 := by kernel_rfl
theorem f1100_raw (n : Nat) (x0 : List (List (Int × Int × ByteArray))) (x1 : Int) : abody Γ (orc [e48]) n 66 [ZX (Zi.pair (Zi.pair Ty.str)).slice.slice x0, ZX Zi x1] = bif decide (IntKind.i64.wrap (x1 - (↑x0.length : Int)) < (0 : Int)) then ZJ (-1 : Int) else f1100_L0 n n x0 (IntKind.i64.wrap (x1 - (↑x0.length : Int))) (0 : Int) := by kernel_rfl

noncomputable def f1103_L0 (n m0 : Nat) (y0 : List (List (Int × Int × ByteArray))) (y1 : Int) (y2 : List (List (Int × Int × ByteArray))) : Option Res := loopAt Γ (orc [e51]) n (77 : Nat) (0 : Nat) [] [Pth.r, Pth.r, Pth.l, Pth.r, Pth.b] m0 (St.mk (ZS (Zi.pair (Zi.pair Ty.str)).slice.slice y0 :: Zn :: Zn :: Slot.val (Val.one (Cell.own (0 : Nat))) :: ZS Zi y1 :: ZN 18 []) [AObj.row (Zi.pair (Zi.pair Ty.str)).slice y2 true])
theorem f1103_L0_step (n m0 : Nat) (y0 : List (List (Int × Int × ByteArray))) (y1 : Int) (y2 : List (List (Int × Int × ByteArray))) : f1103_L0 n (m0 + 1) y0 y1 y2 = bif decide (y1 < (↑y0.length : Int)) then chk (decide ((0 : Int) ≤ y1) && decide (y1 < (↑y0.length : Int))) (chk (Sp.fits32 (y0.getD y1.toNat [])) (chk (decide ((0 : Int) ≤ y1) && decide (y1 < (↑y2.length : Int))) (f1103_L0 n m0 y0 (IntKind.i64.wrap (y1 + (1 : Int))) (y2.set y1.toNat (y0.getD y1.toNat []))))) else some (Res.mk [XV.mk false [X.c (X0.row (Zi.pair (Zi.pair Ty.str)).slice y2 true)]] []) := by kernel_rfl
theorem f1103_raw (n : Nat) (x0 : List (List (Int × Int × ByteArray))) : abody Γ (orc [e51]) n 77 [ZX (Zi.pair (Zi.pair Ty.str)).slice.slice x0] = chk (decide ((0 : Int) ≤ (↑x0.length : Int)) && decide ((↑x0.length : Int) ≤ (↑x0.length : Int)) && decide ((↑x0.length : Int) ≤ (140737488355328 : Int)) && decide ((24 : Int) * (↑x0.length : Int) ≤ (140737488355328 : Int))) (f1103_L0 n n x0 (0 : Int) (List.replicate (↑x0.length : Int).toNat [])) := by kernel_rfl

noncomputable def f1107_L0 (n m0 : Nat) (y0 y1 : List (List (Int × Int × ByteArray))) (y2 : Int) : Option Res := loopAt Γ (orc [e44]) n (87 : Nat) (0 : Nat) [] [Pth.r, Pth.r, Pth.l, Pth.r, Pth.b] m0 (St.mk (ZS (Zi.pair (Zi.pair Ty.str)).slice.slice y0 :: ZS (Zi.pair (Zi.pair Ty.str)).slice.slice y1 :: ZN 3 (ZS Zi y2 :: ZN 21 [])) [])
theorem f1107_L0_step (n m0 : Nat) (y0 y1 : List (List (Int × Int × ByteArray))) (y2 : Int) : f1107_L0 n (m0 + 1) y0 y1 y2 = bif decide (y2 < (↑y0.length : Int)) then chk (decide ((0 : Int) ≤ y2) && decide (y2 < (↑y0.length : Int))) (chk (decide ((0 : Int) ≤ y2) && decide (y2 < (↑y1.length : Int))) (bif !Sp.eqW Sp.eqV (y0.getD y2.toNat []) (y1.getD y2.toNat []) then Zf else f1107_L0 n m0 y0 y1 (IntKind.i64.wrap (y2 + (1 : Int))))) else Zt := by kernel_rfl
theorem f1107_raw (n : Nat) (x0 x1 : List (List (Int × Int × ByteArray))) : abody Γ (orc [e44]) n 87 [ZX (Zi.pair (Zi.pair Ty.str)).slice.slice x0, ZX (Zi.pair (Zi.pair Ty.str)).slice.slice x1] = bif (↑x0.length : Int) != (↑x1.length : Int) then Zf else f1107_L0 n n x0 x1 (0 : Int) := by kernel_rfl

noncomputable def e1100 : Ent := { f := n1100, ins := [Sh.one (C0.dat (.slice tRw)), Sh.one cI], outs := [Sh.one cI], upd := [], pre := fun a => true, spec := fun a => Sp.szE Sp.szRw a.1 a.2, wrt := fun _ => () }
theorem e1100_core (xs : List VRw) (v : Int) (hl : xs.length ≤ maxLen) : ∃ n, abody Γ (orc [e48]) n n1100 [ZX (Ty.slice tRw) xs, ZX Zi v] = some (rI (Sp.szE Sp.szRw xs v)) := by
  have hl : xs.length ≤ 9223372036854775807 := hl
  refine ⟨xs.length + 1, (f1100_raw _ xs v).trans ?_⟩
  unfold Sp.szE
  cases decide (IntKind.i64.wrap (v - (xs.length : Int)) < 0) with
  | true => rfl
  | false =>
    rw [cond_false, cond_false]
    refine sz_loop (f := Sp.szRw) (R := rI) xs (fun m v k => f1100_L0 (xs.length + 1) m xs v k) (fun m v k hk => ?_) (fun m v k h => ?_) xs.length 0 _ _ (Nat.zero_add _) (Nat.lt_succ_self _)
    · show f1100_L0 _ _ _ _ _ = _
      rw [f1100_L0_step, nat_ge hk, cond_false]
    · show f1100_L0 _ _ _ _ _ = _
      rw [f1100_L0_step, nat_lt h, cond_true, guard0, chkT, getD_nat xs k _ h, next64 h hl]
      rfl
theorem e1100_ok : Valid PP Γ e1100 := valid_len ok (vcons e48_ok vnil) fun a _ hl => e1100_core a.1 a.2 (hl _ (List.mem_cons_self) _ (List.mem_cons_self)).1
def Sp.fits1103 (xs : List VRw) : Bool := yes2 (Sp.fits32 xs) (Sp.allW Sp.okRw xs)
noncomputable def e1103 : Ent := { f := n1103, ins := [Sh.one (C0.dat (.slice tRw))], outs := [Sh.one (C0.row tRw)], upd := [], pre := fun a => Sp.fits1103 a, spec := fun a => a, wrt := fun _ => () }
theorem e1103_core (xs : List VRw) (ha : Sp.fits1103 xs = true) : ∃ n, abody Γ (orc [e51]) n n1103 [ZX (Ty.slice tRw) xs] = some (Res.mk [XV.mk false [X.c (X0.row tRw xs true)]] []) := by
  obtain ⟨h1, h2⟩ := yes2_true ha
  have h1 := fits32_of h1
  have h2 := allW_mem.1 h2
  refine ⟨xs.length + 1, (f1103_raw _ xs).trans ?_⟩
  rw [make24 h1, chkT]
  refine to_end (R := fun l : List VRw => Res.mk [XV.mk false [X.c (X0.row tRw l true)]] []) xs (fun m k acc => f1103_L0 (xs.length + 1) m xs k acc) (fun m k acc hk => ?_) (fun m k acc h ha => ?_) _
  · show f1103_L0 _ _ _ _ _ = _
    rw [f1103_L0_step, nat_ge hk, cond_false]
  · show f1103_L0 _ _ _ _ _ = _
    have h3 : Sp.fits32 xs[k] = true := h2 _ (List.getElem_mem h)
    rw [f1103_L0_step, ha, nat_lt h, cond_true, guard0, chkT, getD_nat xs k _ h, h3, chkT, chkT, next64 h (by omega), Int.toNat_natCast]
theorem e1103_ok : Valid PP Γ e1103 := valid_of ok (vcons e51_ok vnil) fun a ha => e1103_core a ha
noncomputable def e1107 : Ent := { f := n1107, ins := [Sh.one (C0.dat (.slice tRw)), Sh.one (C0.dat (.slice tRw))], outs := [Sh.one cB], upd := [], pre := fun a => true, spec := fun a => Sp.eqW Sp.eqRw a.1 a.2, wrt := fun _ => () }
theorem e1107_core (xs ys : List VRw) (h1 : xs.length ≤ maxLen) : ∃ n, abody Γ (orc [e44]) n n1107 [ZX (Ty.slice tRw) xs, ZX (Ty.slice tRw) ys] = some (rBo (Sp.eqW Sp.eqRw xs ys)) := by
  have h1 : xs.length ≤ 9223372036854775807 := h1
  refine ⟨xs.length + 1, (f1107_raw _ xs ys).trans ?_⟩
  by_cases he : xs.length = ys.length
  · rw [show ((xs.length : Int) != (ys.length : Int)) = false by simp [he], cond_false]
    refine eq_loop xs ys (fun m k => f1107_L0 _ m xs ys k) he (fun m k hk => ?_) (fun m k h h2 => ?_) xs.length 0 _ (Nat.zero_add _) (Nat.lt_succ_self _)
    · show f1107_L0 _ _ _ _ _ = _
      rw [f1107_L0_step, nat_ge hk, cond_false]
    · show f1107_L0 _ _ _ _ _ = _
      rw [f1107_L0_step, nat_lt h, cond_true, guard0, chkT, guard2 h2, chkT, getD_nat xs k _ h, getD_nat ys k _ h2, next64 h2 (by omega)]
      rfl
  · rw [show ((xs.length : Int) != (ys.length : Int)) = true by simp; omega, eqW_len he]
    rfl
theorem e1107_ok : Valid PP Γ e1107 := valid_len ok (vcons e44_ok vnil) fun a _ hl => e1107_core a.1 a.2 (hl _ (List.mem_cons_self) _ (List.mem_cons_self)).1
abbrev tDt : Ty := .pair .str (.slice tRw)
abbrev VDt := ByteArray × List VRw
def Sp.f1368 (x0 : ByteArray) (x1 : List (List (Int × Int × ByteArray))) (x2 : Int) := (bif decide (IntKind.i64.wrap (x2 - (↑x0.size : Int)) < (0 : Int)) then ((-1 : Int), ()) else (bif decide (Sp.szE Sp.szRw x1 (IntKind.i64.wrap (x2 - (↑x0.size : Int))) < (0 : Int)) then ((-1 : Int), ()) else (Sp.szE Sp.szRw x1 (IntKind.i64.wrap (x2 - (↑x0.size : Int))), ())))
noncomputable def e1368 : Ent := { f := 34, ins := [Sh.agg [C0.dat Ty.str, C0.dat (Zi.pair (Zi.pair Ty.str)).slice.slice], Sh.one ZI], outs := [Sh.one ZI], upd := [], pre := fun a => true, spec := fun a => (Sp.f1368 a.1.1 a.1.2 a.2).1, wrt := fun a => (Sp.f1368 a.1.1 a.1.2 a.2).2 }
def f1368_g (v : denS [Sh.one ZI] × denS []) : Res := ⟨mkS [Sh.one ZI] v.1, mkU [] v.2⟩
theorem f1368_form (x0 : ByteArray) (x1 : List (List (Int × Int × ByteArray))) (x2 : Int) : abody Γ (orc [e1100]) 0 34 [XV.mk true [ZC Ty.str x0, ZC (Zi.pair (Zi.pair Ty.str)).slice.slice x1], ZX Zi x2] = some (f1368_g (Sp.f1368 x0 x1 x2)) := by
  refine Eq.trans (b := bif decide (IntKind.i64.wrap (x2 - (↑x0.size : Int)) < (0 : Int)) then ZJ (-1 : Int) else bif decide (Sp.szE Sp.szRw x1 (IntKind.i64.wrap (x2 - (↑x0.size : Int))) < (0 : Int)) then ZJ (-1 : Int) else ZJ (Sp.szE Sp.szRw x1 (IntKind.i64.wrap (x2 - (↑x0.size : Int))))) (by kernel_rfl) ?_
  unfold Sp.f1368
  exact (cond_plain f1368_g (rfl) ((cond_plain f1368_g (rfl) (rfl))))
theorem e1368_ok : Valid PP Γ e1368 := valid_auto ok (vcons e1100_ok vnil) fun a => f1368_form a.1.1 a.1.2 a.2

def Sp.f1369_pre (x0 : ByteArray) (x1 : List (List (Int × Int × ByteArray))) : Bool := (Sp.fits1103 x1)
def Sp.f1369 (x0 : ByteArray) (x1 : List (List (Int × Int × ByteArray))) := ((x0, x1), ())
noncomputable def e1369 : Ent := { f := 41, ins := [Sh.agg [C0.dat Ty.str, C0.dat (Zi.pair (Zi.pair Ty.str)).slice.slice]], outs := [Sh.agg [C0.dat Ty.str, C0.row (Zi.pair (Zi.pair Ty.str)).slice]], upd := [], pre := fun a => Sp.f1369_pre a.1 a.2, spec := fun a => (Sp.f1369 a.1 a.2).1, wrt := fun a => (Sp.f1369 a.1 a.2).2 }
def f1369_g (v : denS [Sh.agg [C0.dat Ty.str, C0.row (Zi.pair (Zi.pair Ty.str)).slice]] × denS []) : Res := ⟨mkS [Sh.agg [C0.dat Ty.str, C0.row (Zi.pair (Zi.pair Ty.str)).slice]] v.1, mkU [] v.2⟩
theorem f1369_form (x0 : ByteArray) (x1 : List (List (Int × Int × ByteArray))) : abody Γ (orc [e1103]) 0 41 [XV.mk true [ZC Ty.str x0, ZC (Zi.pair (Zi.pair Ty.str)).slice.slice x1]] = chk (Sp.f1369_pre x0 x1) (some (f1369_g (Sp.f1369 x0 x1))) := by
  refine Eq.trans (b := chk (Sp.fits1103 x1) (some (Res.mk [XV.mk true [ZC Ty.str x0, X.c (X0.row (Zi.pair (Zi.pair Ty.str)).slice x1 true)]] []))) (by kernel_rfl) ?_
  unfold Sp.f1369_pre Sp.f1369
  exact (chk_last (rfl))
theorem e1369_ok : Valid PP Γ e1369 := valid_auto ok (vcons e1103_ok vnil) fun a => f1369_form a.1 a.2

def Sp.f1307 (x0 : ByteArray) (x1 : List (List (Int × Int × ByteArray))) (x2 : ByteArray) (x3 : List (List (Int × Int × ByteArray))) := (bif !x0.toList == x2.toList then (false, ()) else (bif !Sp.eqW Sp.eqRw x1 x3 then (false, ()) else (true, ())))
noncomputable def e1307 : Ent := { f := 46, ins := [Sh.agg [C0.dat Ty.str, C0.dat (Zi.pair (Zi.pair Ty.str)).slice.slice], Sh.agg [C0.dat Ty.str, C0.dat (Zi.pair (Zi.pair Ty.str)).slice.slice]], outs := [Sh.one (C0.dat Ty.bool)], upd := [], pre := fun a => true, spec := fun a => (Sp.f1307 a.1.1 a.1.2 a.2.1 a.2.2).1, wrt := fun a => (Sp.f1307 a.1.1 a.1.2 a.2.1 a.2.2).2 }
def f1307_g (v : denS [Sh.one (C0.dat Ty.bool)] × denS []) : Res := ⟨mkS [Sh.one (C0.dat Ty.bool)] v.1, mkU [] v.2⟩
theorem f1307_form (x0 : ByteArray) (x1 : List (List (Int × Int × ByteArray))) (x2 : ByteArray) (x3 : List (List (Int × Int × ByteArray))) : abody Γ (orc [e1107]) 0 46 [XV.mk true [ZC Ty.str x0, ZC (Zi.pair (Zi.pair Ty.str)).slice.slice x1], XV.mk true [ZC Ty.str x2, ZC (Zi.pair (Zi.pair Ty.str)).slice.slice x3]] = some (f1307_g (Sp.f1307 x0 x1 x2 x3)) := by
  refine Eq.trans (b := bif !x0.toList == x2.toList then Zf else bif !Sp.eqW Sp.eqRw x1 x3 then Zf else Zt) (by kernel_rfl) ?_
  unfold Sp.f1307
  exact (cond_plain f1307_g (rfl) ((cond_plain f1307_g (rfl) (rfl))))
theorem e1307_ok : Valid PP Γ e1307 := valid_auto ok (vcons e1107_ok vnil) fun a => f1307_form a.1.1 a.1.2 a.2.1 a.2.2

def Sp.szDt (x : VDt) (l : Int) : Int := (Sp.f1368 x.1 x.2 l).1
def Sp.eqDt (x y : VDt) : Bool := (Sp.f1307 x.1 x.2 y.1 y.2).1
def Sp.okDt (x : VDt) : Bool := Sp.f1369_pre x.1 x.2
noncomputable def f1362_L0 (n m0 : Nat) (y0 : List (ByteArray × List (List (Int × Int × ByteArray)))) (y1 y2 : Int) : Option Res := loopAt Γ (orc [e1368]) n (8 : Nat) (0 : Nat) [] [Pth.r, Pth.r, Pth.r, Pth.l, Pth.r, Pth.b] m0 (St.mk (ZS (Ty.str.pair (Zi.pair (Zi.pair Ty.str)).slice.slice).slice y0 :: ZS Zi y1 :: ZN 3 (ZS Zi y2 :: ZN 21 [])) [])
theorem f1362_L0_step (n m0 : Nat) (y0 : List (ByteArray × List (List (Int × Int × ByteArray)))) (y1 y2 : Int) : f1362_L0 n (m0 + 1) y0 y1 y2 = bif decide (y2 < (↑y0.length : Int)) then chk (decide ((0 : Int) ≤ y2) && decide (y2 < (↑y0.length : Int))) (bif decide ((Sp.f1368 (y0.getD y2.toNat (ByteArray.mk #[], [])).1 (y0.getD y2.toNat (ByteArray.mk #[], [])).2 y1).1 < (0 : Int)) then ZJ (-1 : Int) else f1362_L0 n m0 y0 (Sp.f1368 (y0.getD y2.toNat (ByteArray.mk #[], [])).1 (y0.getD y2.toNat (ByteArray.mk #[], [])).2 y1).1 (IntKind.i64.wrap (y2 + (1 : Int)))) else ZJ y1 := by kernel_rfl
theorem f1362_raw (n : Nat) (x0 : List (ByteArray × List (List (Int × Int × ByteArray)))) (x1 : Int) : abody Γ (orc [e1368]) n 8 [ZX (Ty.str.pair (Zi.pair (Zi.pair Ty.str)).slice.slice).slice x0, ZX Zi x1] = bif decide (IntKind.i64.wrap (x1 - (↑x0.length : Int)) < (0 : Int)) then ZJ (-1 : Int) else f1362_L0 n n x0 (IntKind.i64.wrap (x1 - (↑x0.length : Int))) (0 : Int) := by kernel_rfl

noncomputable def f1363_L0 (n m0 : Nat) (y0 : List (ByteArray × List (List (Int × Int × ByteArray)))) (y1 : Int) (y2 : List (ByteArray × List (List (Int × Int × ByteArray)))) : Option Res := loopAt Γ (orc [e1369]) n (12 : Nat) (0 : Nat) [] [Pth.r, Pth.r, Pth.l, Pth.r, Pth.b] m0 (St.mk (ZS (Ty.str.pair (Zi.pair (Zi.pair Ty.str)).slice.slice).slice y0 :: Zn :: Zn :: Slot.val (Val.one (Cell.own (0 : Nat))) :: ZS Zi y1 :: ZN 18 []) [AObj.row (Ty.str.pair (Zi.pair (Zi.pair Ty.str)).slice.slice) y2 true])
theorem f1363_L0_step (n m0 : Nat) (y0 : List (ByteArray × List (List (Int × Int × ByteArray)))) (y1 : Int) (y2 : List (ByteArray × List (List (Int × Int × ByteArray)))) : f1363_L0 n (m0 + 1) y0 y1 y2 = bif decide (y1 < (↑y0.length : Int)) then chk (decide ((0 : Int) ≤ y1) && decide (y1 < (↑y0.length : Int))) (chk (Sp.f1369_pre (y0.getD y1.toNat (ByteArray.mk #[], [])).1 (y0.getD y1.toNat (ByteArray.mk #[], [])).2) (chk (decide ((0 : Int) ≤ y1) && decide (y1 < (↑y2.length : Int))) (f1363_L0 n m0 y0 (IntKind.i64.wrap (y1 + (1 : Int))) (y2.set y1.toNat ((Sp.f1369 (y0.getD y1.toNat (ByteArray.mk #[], [])).1 (y0.getD y1.toNat (ByteArray.mk #[], [])).2).1.1, (Sp.f1369 (y0.getD y1.toNat (ByteArray.mk #[], [])).1 (y0.getD y1.toNat (ByteArray.mk #[], [])).2).1.2))))) else some (Res.mk [XV.mk false [X.c (X0.row (Ty.str.pair (Zi.pair (Zi.pair Ty.str)).slice.slice) y2 true)]] []) := by kernel_rfl
theorem f1363_raw (n : Nat) (x0 : List (ByteArray × List (List (Int × Int × ByteArray)))) : abody Γ (orc [e1369]) n 12 [ZX (Ty.str.pair (Zi.pair (Zi.pair Ty.str)).slice.slice).slice x0] = chk (decide ((0 : Int) ≤ (↑x0.length : Int)) && decide ((↑x0.length : Int) ≤ (↑x0.length : Int)) && decide ((↑x0.length : Int) ≤ (140737488355328 : Int)) && decide ((40 : Int) * (↑x0.length : Int) ≤ (140737488355328 : Int))) (f1363_L0 n n x0 (0 : Int) (List.replicate (↑x0.length : Int).toNat (ByteArray.empty, []))) := by kernel_rfl

noncomputable def f1272_L0 (n m0 : Nat) (y0 : List (ByteArray × List (List (Int × Int × ByteArray)))) (y1 : List (ByteArray × List (List (Int × Int × ByteArray)))) (y2 : Int) : Option Res := loopAt Γ (orc [e1307]) n (16 : Nat) (0 : Nat) [] [Pth.r, Pth.r, Pth.l, Pth.r, Pth.b] m0 (St.mk (ZS (Ty.str.pair (Zi.pair (Zi.pair Ty.str)).slice.slice).slice y0 :: ZS (Ty.str.pair (Zi.pair (Zi.pair Ty.str)).slice.slice).slice y1 :: ZN 3 (ZS Zi y2 :: ZN 21 [])) [])
theorem f1272_L0_step (n m0 : Nat) (y0 : List (ByteArray × List (List (Int × Int × ByteArray)))) (y1 : List (ByteArray × List (List (Int × Int × ByteArray)))) (y2 : Int) : f1272_L0 n (m0 + 1) y0 y1 y2 = bif decide (y2 < (↑y0.length : Int)) then chk (decide ((0 : Int) ≤ y2) && decide (y2 < (↑y0.length : Int))) (chk (decide ((0 : Int) ≤ y2) && decide (y2 < (↑y1.length : Int))) (bif !(Sp.f1307 (y0.getD y2.toNat (ByteArray.mk #[], [])).1 (y0.getD y2.toNat (ByteArray.mk #[], [])).2 (y1.getD y2.toNat (ByteArray.mk #[], [])).1 (y1.getD y2.toNat (ByteArray.mk #[], [])).2).1 then Zf else f1272_L0 n m0 y0 y1 (IntKind.i64.wrap (y2 + (1 : Int))))) else Zt := by kernel_rfl
theorem f1272_raw (n : Nat) (x0 : List (ByteArray × List (List (Int × Int × ByteArray)))) (x1 : List (ByteArray × List (List (Int × Int × ByteArray)))) : abody Γ (orc [e1307]) n 16 [ZX (Ty.str.pair (Zi.pair (Zi.pair Ty.str)).slice.slice).slice x0, ZX (Ty.str.pair (Zi.pair (Zi.pair Ty.str)).slice.slice).slice x1] = bif (↑x0.length : Int) != (↑x1.length : Int) then Zf else f1272_L0 n n x0 x1 (0 : Int) := by kernel_rfl

noncomputable def e1362 : Ent := { f := n1362, ins := [Sh.one (C0.dat (.slice tDt)), Sh.one cI], outs := [Sh.one cI], upd := [], pre := fun a => true, spec := fun a => Sp.szE Sp.szDt a.1 a.2, wrt := fun _ => () }
theorem e1362_core (xs : List VDt) (v : Int) (hl : xs.length ≤ maxLen) : ∃ n, abody Γ (orc [e1368]) n n1362 [ZX (Ty.slice tDt) xs, ZX Zi v] = some (rI (Sp.szE Sp.szDt xs v)) := by
  have hl : xs.length ≤ 9223372036854775807 := hl
  refine ⟨xs.length + 1, (f1362_raw _ xs v).trans ?_⟩
  unfold Sp.szE
  cases decide (IntKind.i64.wrap (v - (xs.length : Int)) < 0) with
  | true => rfl
  | false =>
    rw [cond_false, cond_false]
    refine sz_loop (f := Sp.szDt) (R := rI) xs (fun m v k => f1362_L0 (xs.length + 1) m xs v k) (fun m v k hk => ?_) (fun m v k h => ?_) xs.length 0 _ _ (Nat.zero_add _) (Nat.lt_succ_self _)
    · show f1362_L0 _ _ _ _ _ = _
      rw [f1362_L0_step, nat_ge hk, cond_false]
    · show f1362_L0 _ _ _ _ _ = _
      rw [f1362_L0_step, nat_lt h, cond_true, guard0, chkT, getD_nat xs k _ h, next64 h hl]
      rfl
theorem e1362_ok : Valid PP Γ e1362 := valid_len ok (vcons e1368_ok vnil) fun a _ hl => e1362_core a.1 a.2 (hl _ (List.mem_cons_self) _ (List.mem_cons_self)).1
def Sp.fits1363 (xs : List VDt) : Bool := yes2 (Sp.fits32 xs) (Sp.allW Sp.okDt xs)
noncomputable def e1363 : Ent := { f := n1363, ins := [Sh.one (C0.dat (.slice tDt))], outs := [Sh.one (C0.row tDt)], upd := [], pre := fun a => Sp.fits1363 a, spec := fun a => a, wrt := fun _ => () }
theorem e1363_core (xs : List VDt) (ha : Sp.fits1363 xs = true) : ∃ n, abody Γ (orc [e1369]) n n1363 [ZX (Ty.slice tDt) xs] = some (Res.mk [XV.mk false [X.c (X0.row tDt xs true)]] []) := by
  obtain ⟨h1, h2⟩ := yes2_true ha
  have h1 := fits32_of h1
  have h2 := allW_mem.1 h2
  refine ⟨xs.length + 1, (f1363_raw _ xs).trans ?_⟩
  rw [make40 h1, chkT]
  refine to_end (R := fun l : List VDt => Res.mk [XV.mk false [X.c (X0.row tDt l true)]] []) xs (fun m k acc => f1363_L0 (xs.length + 1) m xs k acc) (fun m k acc hk => ?_) (fun m k acc h ha => ?_) _
  · show f1363_L0 _ _ _ _ _ = _
    rw [f1363_L0_step, nat_ge hk, cond_false]
  · show f1363_L0 _ _ _ _ _ = _
    have h3 : Sp.f1369_pre xs[k].1 xs[k].2 = true := h2 _ (List.getElem_mem h)
    rw [f1363_L0_step, ha, nat_lt h, cond_true, guard0, chkT, getD_nat xs k _ h, h3, chkT, chkT, next64 h (by omega), Int.toNat_natCast]
    rfl
theorem e1363_ok : Valid PP Γ e1363 := valid_of ok (vcons e1369_ok vnil) fun a ha => e1363_core a ha
noncomputable def e1272 : Ent := { f := n1272, ins := [Sh.one (C0.dat (.slice tDt)), Sh.one (C0.dat (.slice tDt))], outs := [Sh.one cB], upd := [], pre := fun a => true, spec := fun a => Sp.eqW Sp.eqDt a.1 a.2, wrt := fun _ => () }
theorem e1272_core (xs ys : List VDt) (h1 : xs.length ≤ maxLen) : ∃ n, abody Γ (orc [e1307]) n n1272 [ZX (Ty.slice tDt) xs, ZX (Ty.slice tDt) ys] = some (rBo (Sp.eqW Sp.eqDt xs ys)) := by
  have h1 : xs.length ≤ 9223372036854775807 := h1
  refine ⟨xs.length + 1, (f1272_raw _ xs ys).trans ?_⟩
  by_cases he : xs.length = ys.length
  · rw [show ((xs.length : Int) != (ys.length : Int)) = false by simp [he], cond_false]
    refine eq_loop xs ys (fun m k => f1272_L0 _ m xs ys k) he (fun m k hk => ?_) (fun m k h h2 => ?_) xs.length 0 _ (Nat.zero_add _) (Nat.lt_succ_self _)
    · show f1272_L0 _ _ _ _ _ = _
      rw [f1272_L0_step, nat_ge hk, cond_false]
    · show f1272_L0 _ _ _ _ _ = _
      rw [f1272_L0_step, nat_lt h, cond_true, guard0, chkT, guard2 h2, chkT, getD_nat xs k _ h, getD_nat ys k _ h2, next64 h2 (by omega)]
      rfl
  · rw [show ((xs.length : Int) != (ys.length : Int)) = true by simp; omega, eqW_len he]
    rfl
theorem e1272_ok : Valid PP Γ e1272 := valid_len ok (vcons e1307_ok vnil) fun a _ hl => e1272_core a.1 a.2 (hl _ (List.mem_cons_self) _ (List.mem_cons_self)).1
def Sp.f174 (x0 : ByteArray) (x1 : Int) (x2 : Bool) (x3 x4 : Int) (x5 : ByteArray) := (bif x3 == (0 : Int) then (bif !x2 then ((14 : Int), ()) else (bif x3 != (0 : Int) then (bif x3 != x1 then ((10 : Int), ()) else ((0 : Int), ())) else ((0 : Int), ()))) else (bif x3 != (0 : Int) then (bif x3 != x1 then ((10 : Int), ()) else ((0 : Int), ())) else ((0 : Int), ())))
noncomputable def e174 : Ent := { f := 111, ins := [Sh.agg [C0.dat Ty.str, C0.dat Zi, C0.dat Ty.bool], Sh.agg [C0.dat Zi, C0.dat Zi, C0.dat Ty.str]], outs := [Sh.one ZI], upd := [], pre := fun a => true, spec := fun a => (Sp.f174 a.1.1 a.1.2.1 a.1.2.2 a.2.1 a.2.2.1 a.2.2.2).1, wrt := fun a => (Sp.f174 a.1.1 a.1.2.1 a.1.2.2 a.2.1 a.2.2.1 a.2.2.2).2 }
def f174_g (v : denS [Sh.one ZI] × denS []) : Res := ⟨mkS [Sh.one ZI] v.1, mkU [] v.2⟩
theorem f174_form (x0 : ByteArray) (x1 : Int) (x2 : Bool) (x3 x4 : Int) (x5 : ByteArray) : abody Γ (orc []) 0 111 [XV.mk true [ZC Ty.str x0, ZC Zi x1, ZC Ty.bool x2], XV.mk true [ZC Zi x3, ZC Zi x4, ZC Ty.str x5]] = some (f174_g (Sp.f174 x0 x1 x2 x3 x4 x5)) := by
  refine Eq.trans (b := bif x3 == (0 : Int) then bif !x2 then ZJ (14 : Int) else bif x3 != (0 : Int) then bif x3 != x1 then ZJ (10 : Int) else ZJ (0 : Int) else ZJ (0 : Int) else bif x3 != (0 : Int) then bif x3 != x1 then ZJ (10 : Int) else ZJ (0 : Int) else ZJ (0 : Int)) (by kernel_rfl) ?_
  unfold Sp.f174
  exact (cond_plain f174_g ((cond_plain f174_g (rfl) ((cond_plain f174_g ((cond_plain f174_g (rfl) (rfl))) (rfl))))) ((cond_plain f174_g ((cond_plain f174_g (rfl) (rfl))) (rfl))))
theorem e174_ok : Valid PP Γ e174 := valid_auto ok vnil fun a => f174_form a.1.1 a.1.2.1 a.1.2.2 a.2.1 a.2.2.1 a.2.2.2

noncomputable def f141_L0 (n m0 : Nat) (y0 : List (Int × Int × ByteArray)) (y1 : Int) (y2 : ByteArray) (y3 : List (ByteArray × Int × Bool)) (y4 : Int) (y5 : List (ByteArray × List Int)) : Option Res := loopAt Γ (orc [e174]) n (69 : Nat) (0 : Nat) [] [Pth.r, Pth.r, Pth.l, Pth.r, Pth.b] m0 (St.mk (Zn :: ZS (Zi.pair (Zi.pair Ty.str)).slice y0 :: Slot.val (Val.one (Cell.ptr (0 : Nat) (0 : Nat))) :: ZN 3 (ZS Zi y1 :: ZN 27 [])) [AObj.box (79 : Nat) [Cell.dat Ty.str y2, Cell.dat (Ty.str.pair (Zi.pair Ty.bool)).slice y3, Cell.dat Zi y4, Cell.dat (Ty.str.pair Zi.slice).slice y5]])
theorem f141_L0_step (n m0 : Nat) (y0 : List (Int × Int × ByteArray)) (y1 : Int) (y2 : ByteArray) (y3 : List (ByteArray × Int × Bool)) (y4 : Int) (y5 : List (ByteArray × List Int)) : f141_L0 n (m0 + 1) y0 y1 y2 y3 y4 y5 = bif decide (y1 < (↑y0.length : Int)) then chk (decide ((0 : Int) ≤ y1) && decide (y1 < (↑y3.length : Int))) (chk (decide ((0 : Int) ≤ y1) && decide (y1 < (↑y0.length : Int))) (bif (Sp.f174 (y3.getD y1.toNat (ByteArray.mk #[], (0 : Int), false)).1 (y3.getD y1.toNat (ByteArray.mk #[], (0 : Int), false)).2.1 (y3.getD y1.toNat (ByteArray.mk #[], (0 : Int), false)).2.2 (y0.getD y1.toNat ((0 : Int), (0 : Int), ByteArray.mk #[])).1 (y0.getD y1.toNat ((0 : Int), (0 : Int), ByteArray.mk #[])).2.1 (y0.getD y1.toNat ((0 : Int), (0 : Int), ByteArray.mk #[])).2.2).1 != (0 : Int) then some (Res.mk [ZX Zi (Sp.f174 (y3.getD y1.toNat (ByteArray.mk #[], (0 : Int), false)).1 (y3.getD y1.toNat (ByteArray.mk #[], (0 : Int), false)).2.1 (y3.getD y1.toNat (ByteArray.mk #[], (0 : Int), false)).2.2 (y0.getD y1.toNat ((0 : Int), (0 : Int), ByteArray.mk #[])).1 (y0.getD y1.toNat ((0 : Int), (0 : Int), ByteArray.mk #[])).2.1 (y0.getD y1.toNat ((0 : Int), (0 : Int), ByteArray.mk #[])).2.2).1, ZX Zi y1] []) else f141_L0 n m0 y0 (IntKind.i64.wrap (y1 + (1 : Int))) y2 y3 y4 y5)) else some (Res.mk [ZX Zi (0 : Int), ZX Zi (0 : Int)] []) := by kernel_rfl
theorem f141_raw (n : Nat) (x0 : ByteArray) (x1 : List (ByteArray × Int × Bool)) (x2 : Int) (x3 : List (ByteArray × List Int)) (x4 : List (Int × Int × ByteArray)) : abody Γ (orc [e174]) n 69 [XV.mk true [ZC Ty.str x0, ZC (Ty.str.pair (Zi.pair Ty.bool)).slice x1, ZC Zi x2, ZC (Ty.str.pair Zi.slice).slice x3], ZX (Zi.pair (Zi.pair Ty.str)).slice x4] = bif (↑x4.length : Int) != (↑x1.length : Int) then some (Res.mk [ZX Zi (12 : Int), ZX Zi (0 : Int)] []) else f141_L0 n n x4 (0 : Int) x0 x1 x2 x3 := by kernel_rfl

def Sp.f236 (x0 : ByteArray) (x1 : Int) (x2 : Bool) (x3 x4 : Int) (x5 : ByteArray) := (bif x3 == (0 : Int) then (bif !x2 then ((14 : Int), ()) else (bif x3 != (0 : Int) then (bif x3 != x1 then ((10 : Int), ()) else ((0 : Int), ())) else ((0 : Int), ()))) else (bif x3 != (0 : Int) then (bif x3 != x1 then ((10 : Int), ()) else ((0 : Int), ())) else ((0 : Int), ())))
noncomputable def e236 : Ent := { f := 135, ins := [Sh.agg [C0.dat Ty.str, C0.dat Zi, C0.dat Ty.bool], Sh.agg [C0.dat Zi, C0.dat Zi, C0.dat Ty.str]], outs := [Sh.one ZI], upd := [], pre := fun a => true, spec := fun a => (Sp.f236 a.1.1 a.1.2.1 a.1.2.2 a.2.1 a.2.2.1 a.2.2.2).1, wrt := fun a => (Sp.f236 a.1.1 a.1.2.1 a.1.2.2 a.2.1 a.2.2.1 a.2.2.2).2 }
def f236_g (v : denS [Sh.one ZI] × denS []) : Res := ⟨mkS [Sh.one ZI] v.1, mkU [] v.2⟩
theorem f236_form (x0 : ByteArray) (x1 : Int) (x2 : Bool) (x3 x4 : Int) (x5 : ByteArray) : abody Γ (orc []) 0 135 [XV.mk true [ZC Ty.str x0, ZC Zi x1, ZC Ty.bool x2], XV.mk true [ZC Zi x3, ZC Zi x4, ZC Ty.str x5]] = some (f236_g (Sp.f236 x0 x1 x2 x3 x4 x5)) := by
  refine Eq.trans (b := bif x3 == (0 : Int) then bif !x2 then ZJ (14 : Int) else bif x3 != (0 : Int) then bif x3 != x1 then ZJ (10 : Int) else ZJ (0 : Int) else ZJ (0 : Int) else bif x3 != (0 : Int) then bif x3 != x1 then ZJ (10 : Int) else ZJ (0 : Int) else ZJ (0 : Int)) (by kernel_rfl) ?_
  unfold Sp.f236
  exact (cond_plain f236_g ((cond_plain f236_g (rfl) ((cond_plain f236_g ((cond_plain f236_g (rfl) (rfl))) (rfl))))) ((cond_plain f236_g ((cond_plain f236_g (rfl) (rfl))) (rfl))))
theorem e236_ok : Valid PP Γ e236 := valid_auto ok vnil fun a => f236_form a.1.1 a.1.2.1 a.1.2.2 a.2.1 a.2.2.1 a.2.2.2

end Go.Proofs.GR.T

set_option maxRecDepth 1000000
set_option maxHeartbeats 100000000
namespace Go.Proofs.GR.T
open Go Go.Proofs Go.Proofs.GR
def Dec (A B : List Int) (c : Int) : Prop := ∃ p x y s t, A = p ++ x :: s ∧ B = p ++ y :: t ∧ ((x < y ∧ c = -1) ∨ (y < x ∧ c = 1))
theorem Dec.behind {A B : List Int} {c : Int} (h : Dec A B c) (R S : List Int) : Dec (A ++ R) (B ++ S) c := by
  obtain ⟨p, x, y, s, t, rfl, rfl, h⟩ := h
  exact ⟨p, x, y, s ++ R, t ++ S, by rw [List.append_assoc]; rfl, by rw [List.append_assoc]; rfl, h⟩
theorem Dec.ahead {A B : List Int} {c : Int} (h : Dec A B c) (q : List Int) : Dec (q ++ A) (q ++ B) c := by
  obtain ⟨p, x, y, s, t, rfl, rfl, h⟩ := h
  exact ⟨q ++ p, x, y, s, t, by rw [List.append_assoc], by rw [List.append_assoc], h⟩
theorem Dec.below {x y : Int} (h : x < y) (s t : List Int) : Dec (x :: s) (y :: t) (-1) := ⟨[], x, y, s, t, rfl, rfl, .inl ⟨h, rfl⟩⟩
theorem Dec.above {x y : Int} (h : y < x) (s t : List Int) : Dec (x :: s) (y :: t) 1 := ⟨[], x, y, s, t, rfl, rfl, .inr ⟨h, rfl⟩⟩
theorem Dec.ne {A B : List Int} {c : Int} (h : Dec A B c) : c ≠ 0 := by
  obtain ⟨_, _, _, _, _, _, _, h⟩ := h
  omega
def byteI (u : UInt8) : Int := (u.toNat : Int)
theorem byteI_lt {u v : UInt8} (h : u < v) : byteI u < byteI v := by
  have := UInt8.lt_iff_toNat_lt.1 h
  unfold byteI
  omega
theorem byteI_0 (u : UInt8) : 0 ≤ byteI u := by unfold byteI; omega
theorem esc_cons (x : Int) (r : List Int) : Sp.esc (x :: r) = (bif x == 0 then [x, 255] else [x]) ++ Sp.esc r := by
  rw [Sp.esc]
  cases x == 0 <;> rfl
theorem esc_head (x : Int) (r : List Int) : ∃ s, Sp.esc (x :: r) = x :: s := by
  rw [esc_cons]
  cases x == 0 with
  | true => exact ⟨_, rfl⟩
  | false => exact ⟨_, rfl⟩
theorem esc_dec : ∀ (a b : List UInt8), a ≠ b → Dec (Sp.esc (a.map byteI) ++ [0, 1]) (Sp.esc (b.map byteI) ++ [0, 1]) (bif Op.bytesLess a b then -1 else 1)
  | [], [], h => absurd rfl h
  | [], y :: b, _ => by
    have e : Op.bytesLess [] (y :: b) = true := by rw [bytesLess_dec]; exact decide_eq_true (List.nil_lt_cons y b)
    rw [e, cond_true, List.map_cons, esc_cons, List.map_nil]
    by_cases hy : byteI y = 0
    · rw [hy]
      exact (Dec.below (x := 1) (y := 255) (by decide) [] (Sp.esc (b.map byteI) ++ [0, 1])).ahead [0]
    · rw [beq_false_of_ne hy]
      exact Dec.below (x := 0) (y := byteI y) (by have := byteI_0 y; omega) [1] (Sp.esc (b.map byteI) ++ [0, 1])
  | x :: a, [], _ => by
    have e : Op.bytesLess (x :: a) [] = false := by rw [bytesLess_dec]; exact decide_eq_false (List.not_lt_nil _)
    rw [e, cond_false, List.map_cons, esc_cons, List.map_nil]
    by_cases hx : byteI x = 0
    · rw [hx]
      exact (Dec.above (x := 255) (y := 1) (by decide) (Sp.esc (a.map byteI) ++ [0, 1]) []).ahead [0]
    · rw [beq_false_of_ne hx]
      exact Dec.above (x := byteI x) (y := 0) (by have := byteI_0 x; omega) (Sp.esc (a.map byteI) ++ [0, 1]) [1]
  | x :: a, y :: b, h => by
    by_cases hxy : x = y
    · subst hxy
      have hab : a ≠ b := fun e => h (by rw [e])
      have e : Op.bytesLess (x :: a) (x :: b) = Op.bytesLess a b := by
        rw [bytesLess_dec, bytesLess_dec]
        congr 1
        exact propext ⟨fun q => (List.cons_lt_cons_iff.1 q).elim (fun r => absurd r (UInt8.lt_irrefl x)) fun r => r.2, fun q => List.cons_lt_cons_iff.2 (.inr ⟨rfl, q⟩)⟩
      rw [e, List.map_cons, List.map_cons, esc_cons, esc_cons, List.append_assoc, List.append_assoc]
      exact (esc_dec a b hab).ahead _
    · obtain ⟨s, hs⟩ := esc_head (byteI x) (a.map byteI)
      obtain ⟨t, ht⟩ := esc_head (byteI y) (b.map byteI)
      rw [List.map_cons, List.map_cons, hs, ht]
      rcases UInt8.lt_or_lt_of_ne hxy with hl | hl
      · have e : Op.bytesLess (x :: a) (y :: b) = true := by rw [bytesLess_dec]; exact decide_eq_true (List.cons_lt_cons_iff.2 (.inl hl))
        rw [e]
        exact Dec.below (byteI_lt hl) (s ++ [0, 1]) (t ++ [0, 1])
      · have e : Op.bytesLess (x :: a) (y :: b) = false := by
          rw [bytesLess_dec]
          exact decide_eq_false fun q => (List.cons_lt_cons_iff.1 q).elim (fun r => absurd (UInt8.lt_trans r hl) (UInt8.lt_irrefl x)) fun r => hxy r.1
        rw [e]
        exact Dec.above (byteI_lt hl) (s ++ [0, 1]) (t ++ [0, 1])
theorem strBytes_byteI (s : ByteArray) : strBytes s = s.toList.map byteI := by rw [toList_eq]; rfl
theorem Dec.one {b c : Int} {B C : List Int} (h : b < c ∨ (b = c ∧ Dec B C (-1))) : Dec (b :: B) (c :: C) (-1) := by
  rcases h with h | ⟨rfl, h⟩
  · exact Dec.below h B C
  · exact h.ahead [b]
theorem digits (n : Int) (h0 : -9223372036854775808 ≤ n) (h1 : n < 9223372036854775808) : ∃ b0 b1 b2 b3 b4 b5 b6 b7 : Int, n = (((((((b0 * 256 + b1) * 256 + b2) * 256 + b3) * 256 + b4) * 256 + b5) * 256 + b6) * 256 + b7) - 9223372036854775808 ∧
    (0 ≤ b0 ∧ b0 < 256) ∧ (0 ≤ b1 ∧ b1 < 256) ∧ (0 ≤ b2 ∧ b2 < 256) ∧ (0 ≤ b3 ∧ b3 < 256) ∧ (0 ≤ b4 ∧ b4 < 256) ∧ (0 ≤ b5 ∧ b5 < 256) ∧ (0 ≤ b6 ∧ b6 < 256) ∧ (0 ≤ b7 ∧ b7 < 256) := by
  have hx : ∃ x : Int, x = n + 9223372036854775808 := ⟨_, rfl⟩
  obtain ⟨x, hx⟩ := hx
  have a1 : ∃ y : Int, y = x / 256 := ⟨_, rfl⟩
  obtain ⟨x1, e1⟩ := a1
  have a2 : ∃ y : Int, y = x1 / 256 := ⟨_, rfl⟩
  obtain ⟨x2, e2⟩ := a2
  have a3 : ∃ y : Int, y = x2 / 256 := ⟨_, rfl⟩
  obtain ⟨x3, e3⟩ := a3
  have a4 : ∃ y : Int, y = x3 / 256 := ⟨_, rfl⟩
  obtain ⟨x4, e4⟩ := a4
  have a5 : ∃ y : Int, y = x4 / 256 := ⟨_, rfl⟩
  obtain ⟨x5, e5⟩ := a5
  have a6 : ∃ y : Int, y = x5 / 256 := ⟨_, rfl⟩
  obtain ⟨x6, e6⟩ := a6
  have a7 : ∃ y : Int, y = x6 / 256 := ⟨_, rfl⟩
  obtain ⟨x7, e7⟩ := a7
  have z0 : 0 ≤ x ∧ x < 18446744073709551616 := by omega
  have z1 : 0 ≤ x1 ∧ x1 < 72057594037927936 := by omega
  have z2 : 0 ≤ x2 ∧ x2 < 281474976710656 := by omega
  have z3 : 0 ≤ x3 ∧ x3 < 1099511627776 := by omega
  have z4 : 0 ≤ x4 ∧ x4 < 4294967296 := by omega
  have z5 : 0 ≤ x5 ∧ x5 < 16777216 := by omega
  have z6 : 0 ≤ x6 ∧ x6 < 65536 := by omega
  have z7 : 0 ≤ x7 ∧ x7 < 256 := by omega
  refine ⟨x7, x6 - 256 * x7, x5 - 256 * x6, x4 - 256 * x5, x3 - 256 * x4, x2 - 256 * x3, x1 - 256 * x2, x - 256 * x1, by omega, z7, by omega, by omega, by omega, by omega, by omega, by omega, by omega⟩
theorem key8_dec {n m : Int} (h : n < m) (h0 : -9223372036854775808 ≤ n) (h1 : n < 9223372036854775808) (g0 : -9223372036854775808 ≤ m) (g1 : m < 9223372036854775808) : Dec (Sp.key8 n) (Sp.key8 m) (-1) := by
  obtain ⟨b0, b1, b2, b3, b4, b5, b6, b7, e, ⟨p0, q0⟩, ⟨p1, q1⟩, ⟨p2, q2⟩, ⟨p3, q3⟩, ⟨p4, q4⟩, ⟨p5, q5⟩, ⟨p6, q6⟩, ⟨p7, q7⟩⟩ := digits n h0 h1
  obtain ⟨c0, c1, c2, c3, c4, c5, c6, c7, f, ⟨r0, s0⟩, ⟨r1, s1⟩, ⟨r2, s2⟩, ⟨r3, s3⟩, ⟨r4, s4⟩, ⟨r5, s5⟩, ⟨r6, s6⟩, ⟨r7, s7⟩⟩ := digits m g0 g1
  rw [key8_val e p0 q0 p1 q1 p2 q2 p3 q3 p4 q4 p5 q5 p6 q6 p7 q7, key8_val f r0 s0 r1 s1 r2 s2 r3 s3 r4 s4 r5 s5 r6 s6 r7 s7]
  have hlt : ((((((b0 * 256 + b1) * 256 + b2) * 256 + b3) * 256 + b4) * 256 + b5) * 256 + b6) * 256 + b7 < ((((((c0 * 256 + c1) * 256 + c2) * 256 + c3) * 256 + c4) * 256 + c5) * 256 + c6) * 256 + c7 := by omega
  clear e f h h0 h1 g0 g1
  refine Dec.one ?_
  rcases Int.lt_trichotomy b0 c0 with k | k | k
  · exact .inl k
  · subst k
    refine .inr ⟨rfl, Dec.one ?_⟩
    rcases Int.lt_trichotomy b1 c1 with k | k | k
    · exact .inl k
    · subst k
      refine .inr ⟨rfl, Dec.one ?_⟩
      rcases Int.lt_trichotomy b2 c2 with k | k | k
      · exact .inl k
      · subst k
        refine .inr ⟨rfl, Dec.one ?_⟩
        rcases Int.lt_trichotomy b3 c3 with k | k | k
        · exact .inl k
        · subst k
          refine .inr ⟨rfl, Dec.one ?_⟩
          rcases Int.lt_trichotomy b4 c4 with k | k | k
          · exact .inl k
          · subst k
            refine .inr ⟨rfl, Dec.one ?_⟩
            rcases Int.lt_trichotomy b5 c5 with k | k | k
            · exact .inl k
            · subst k
              refine .inr ⟨rfl, Dec.one ?_⟩
              rcases Int.lt_trichotomy b6 c6 with k | k | k
              · exact .inl k
              · subst k
                exact .inr ⟨rfl, Dec.below (by omega) [] []⟩
              · exfalso; omega
            · exfalso; omega
          · exfalso; omega
        · exfalso; omega
      · exfalso; omega
    · exfalso; omega
  · exfalso; omega
theorem Dec.flip {A B : List Int} {c : Int} (h : Dec A B c) : Dec B A (-c) := by
  obtain ⟨p, x, y, s, t, rfl, rfl, h⟩ := h
  exact ⟨p, y, x, t, s, rfl, rfl, h.elim (fun h => .inr ⟨h.1, by rw [h.2]; rfl⟩) (fun h => .inl ⟨h.1, by rw [h.2]⟩)⟩
theorem bytesW_eq {a b : ByteArray} (h : a.toList = b.toList) : a = b := by
  rw [toList_eq, toList_eq] at h
  cases a
  cases b
  exact congrArg ByteArray.mk (Array.toList_inj.1 h)
def okN (v : V3) : Prop := -9223372036854775808 ≤ v.2.1 ∧ v.2.1 < 9223372036854775808
theorem vOK_is {v : V3} (h : Sp.vOK v = true) : (v.1 = 0 ∧ v.2.1 = 0 ∧ v.2.2 = ByteArray.mk #[]) ∨ (v.1 = 1 ∧ (v.2.1 = 0 ∨ v.2.1 = 1) ∧ v.2.2 = ByteArray.mk #[]) ∨ (v.1 = 2 ∧ v.2.2 = ByteArray.mk #[]) ∨ ((v.1 = 3 ∨ v.1 = 4) ∧ v.2.1 = 0) := by
  unfold Sp.vOK Sp.f136 at h
  by_cases h0 : v.1 = 0
  · rw [h0] at h
    by_cases hn : v.2.1 = 0
    · rw [hn] at h
      exact .inl ⟨h0, hn, bytesW_eq (eq_of_beq h)⟩
    · rw [beq_false_of_ne hn] at h; cases h
  · rw [beq_false_of_ne h0, cond_false] at h
    by_cases h1 : v.1 = 1
    · rw [h1] at h
      cases hf : (Sp.f79 v.2.1 0 1).1 with
      | false => rw [hf] at h; cases h
      | true =>
        rw [hf] at h
        have hb : v.2.1 = 0 ∨ v.2.1 = 1 := by
          unfold Sp.f79 at hf
          by_cases q : v.2.1 ≥ 0
          · rw [decide_eq_true q] at hf
            have := of_decide_eq_true hf
            omega
          · rw [decide_eq_false q] at hf; cases hf
        exact .inr (.inl ⟨h1, hb, bytesW_eq (eq_of_beq h)⟩)
    · rw [beq_false_of_ne h1, cond_false] at h
      by_cases h2 : v.1 = 2
      · rw [h2] at h
        exact .inr (.inr (.inl ⟨h2, bytesW_eq (eq_of_beq h)⟩))
      · rw [beq_false_of_ne h2, cond_false] at h
        have hn : v.2.1 = 0 := by
          by_cases hn : v.2.1 = 0
          · exact hn
          · rw [beq_false_of_ne hn] at h
            cases h3 : v.1 == 3 <;> cases h4 : v.1 == 4 <;> rw [h3] at h <;> (try rw [h4] at h) <;> cases h
        by_cases h3 : v.1 = 3
        · exact .inr (.inr (.inr ⟨.inl h3, hn⟩))
        · rw [beq_false_of_ne h3] at h
          by_cases h4 : v.1 = 4
          · exact .inr (.inr (.inr ⟨.inr h4, hn⟩))
          · rw [beq_false_of_ne h4] at h; cases h
theorem cmpV_kind {v w : V3} (h : v.1 ≠ w.1) : Sp.cmpV v w = bif decide (v.1 < w.1) then -1 else 1 := by
  unfold Sp.cmpV Sp.f133 Sp.f134
  rw [show (v.1 != w.1) = true by rw [bne, beq_false_of_ne h]; rfl]
  cases decide (v.1 < w.1) <;> rfl
theorem cmpV_num {v w : V3} (h : v.1 = w.1) (hn : v.2.1 ≠ w.2.1) : Sp.cmpV v w = bif decide (v.2.1 < w.2.1) then -1 else 1 := by
  unfold Sp.cmpV Sp.f133 Sp.f134
  rw [show (v.1 != w.1) = false by rw [h, bne, beq_self_eq_true]; rfl, show (v.2.1 != w.2.1) = true by rw [bne, beq_false_of_ne hn]; rfl]
  cases decide (v.2.1 < w.2.1) <;> rfl
theorem cmpV_text {v w : V3} (h : v.1 = w.1) (hn : v.2.1 = w.2.1) (ht : v.2.2.toList ≠ w.2.2.toList) : Sp.cmpV v w = bif Op.bytesLess v.2.2.toList w.2.2.toList then -1 else 1 := by
  unfold Sp.cmpV Sp.f133 Sp.f134
  rw [show (v.1 != w.1) = false by rw [h, bne, beq_self_eq_true]; rfl, show (v.2.1 != w.2.1) = false by rw [hn, bne, beq_self_eq_true]; rfl, beq_false_of_ne ht]
  cases Op.bytesLess v.2.2.toList w.2.2.toList <;> rfl
theorem cmpV_self (v : V3) : Sp.cmpV v v = 0 := by
  unfold Sp.cmpV Sp.f133 Sp.f134
  rw [show (v.1 != v.1) = false by rw [bne, beq_self_eq_true]; rfl, show (v.2.1 != v.2.1) = false by rw [bne, beq_self_eq_true]; rfl, beq_self_eq_true, bytesLess_dec, decide_eq_false (List.lt_irrefl _)]
  rfl
theorem num_dec {A B : List Int} {n m : Int} (h : n ≠ m) (hb : n < m → Dec A B (-1)) (ha : m < n → Dec B A (-1)) : Dec A B (bif decide (n < m) then -1 else 1) := by
  by_cases q : n < m
  · rw [decide_eq_true q]; exact hb q
  · rw [decide_eq_false q]
    exact (ha (by omega)).flip
theorem kind_small {v : V3} (h : Sp.vOK v = true) : 0 ≤ v.1 ∧ v.1 < 256 := by
  rcases vOK_is h with h | h | h | h <;> omega
theorem cell_dec {v w : V3} (hv : Sp.vOK v = true) (hw : Sp.vOK w = true) (nv : okN v) (nw : okN w) : v = w ∨ Dec (Sp.kv1 v) (Sp.kv1 w) (Sp.cmpV v w) := by
  obtain ⟨kv0, kv1'⟩ := kind_small hv
  obtain ⟨kw0, kw1⟩ := kind_small hw
  by_cases hk : v.1 = w.1
  · by_cases hn : v.2.1 = w.2.1
    · by_cases ht : v.2.2.toList = w.2.2.toList
      · exact .inl (Prod.ext hk (Prod.ext hn (bytesW_eq ht)))
      · rw [cmpV_text hk hn ht]
        have h34 : v.1 = 3 ∨ v.1 = 4 := by
          rcases vOK_is hv with h | h | h | h
          · rcases vOK_is hw with g | g | g | g
            · exact absurd (by rw [h.2.2, g.2.2]) ht
            all_goals omega
          · rcases vOK_is hw with g | g | g | g
            · omega
            · exact absurd (by rw [h.2.2, g.2.2]) ht
            all_goals omega
          · rcases vOK_is hw with g | g | g | g
            · omega
            · omega
            · exact absurd (by rw [h.2, g.2]) ht
            · omega
          · exact h.1
        have hc : ∀ x : V3, x.1 = 3 ∨ x.1 = 4 → Sp.kv1 x = IntKind.u8.wrap x.1 :: (Sp.esc (x.2.2.toList.map byteI) ++ [0, 1]) := fun x hx => by
          unfold Sp.kv1
          rw [← strBytes_byteI]
          rcases hx with hx | hx <;> rw [hx] <;> rfl
        rw [hc v h34, hc w (by rw [← hk]; exact h34), hk]
        exact .inr ((esc_dec _ _ ht).ahead [IntKind.u8.wrap w.1])
    · rw [cmpV_num hk hn]
      rcases vOK_is hv with h | h | h | h
      · rcases vOK_is hw with g | g | g | g <;> omega
      · have hc : ∀ x : V3, x.1 = 1 → Sp.kv1 x = [IntKind.u8.wrap x.1, IntKind.u8.wrap x.2.1] := fun x hx => by unfold Sp.kv1; rw [hx]; rfl
        rw [hc v h.1, hc w (by omega), hk]
        have gw : w.2.1 = 0 ∨ w.2.1 = 1 := by rcases vOK_is hw with g | g | g | g <;> omega
        rw [wrap8_id (n := v.2.1) (by omega) (by omega), wrap8_id (n := w.2.1) (by omega) (by omega)]
        exact .inr ((num_dec hn (fun q => Dec.below q [] []) (fun q => Dec.below q [] [])).ahead [IntKind.u8.wrap w.1])
      · have hc : ∀ x : V3, x.1 = 2 → Sp.kv1 x = IntKind.u8.wrap x.1 :: Sp.key8 x.2.1 := fun x hx => by unfold Sp.kv1; rw [hx]; rfl
        rw [hc v h.1, hc w (by omega), hk]
        exact .inr ((num_dec hn (fun q => key8_dec q nv.1 nv.2 nw.1 nw.2) (fun q => key8_dec q nw.1 nw.2 nv.1 nv.2)).ahead [IntKind.u8.wrap w.1])
      · rcases vOK_is hw with g | g | g | g <;> omega
  · rw [cmpV_kind hk]
    have hc : ∀ x : V3, ∃ r, Sp.kv1 x = IntKind.u8.wrap x.1 :: r := fun x => ⟨_, rfl⟩
    obtain ⟨r, er⟩ := hc v
    obtain ⟨s, es⟩ := hc w
    rw [er, es, wrap8_id kv0 kv1', wrap8_id kw0 kw1]
    exact .inr (num_dec hk (fun q => Dec.below q r s) (fun q => Dec.below q s r))
theorem cmpN_self (n : Nat) : Sp.cmpN n n = 0 := by
  unfold Sp.cmpN Sp.f134
  rw [decide_eq_false (by omega), beq_self_eq_true]
  rfl
theorem key_dec : ∀ (a b : List V3), a.length = b.length → (∀ v ∈ a, Sp.vOK v = true ∧ okN v) → (∀ v ∈ b, Sp.vOK v = true ∧ okN v) → (a = b ∧ Sp.rows a b = 0) ∨ Dec (Sp.key a) (Sp.key b) (Sp.rows a b)
  | [], [], _, _, _ => .inl ⟨rfl, by unfold Sp.rows; exact cmpN_self 0⟩
  | [], _ :: _, h, _, _ => by cases h
  | _ :: _, [], h, _, _ => by cases h
  | v :: a, w :: b, h, ha, hb => by
    have hl : a.length = b.length := by simpa using h
    have e : Sp.rows (v :: a) (w :: b) = bif Sp.cmpV v w != 0 then Sp.cmpV v w else Sp.rows a b := by rw [Sp.rows]
    have k1 : Sp.key (v :: a) = Sp.kv1 v ++ Sp.key a := by rw [Sp.key]
    have k2 : Sp.key (w :: b) = Sp.kv1 w ++ Sp.key b := by rw [Sp.key]
    rw [e, k1, k2]
    rcases cell_dec (ha v List.mem_cons_self).1 (hb w List.mem_cons_self).1 (ha v List.mem_cons_self).2 (hb w List.mem_cons_self).2 with q | q
    · subst q
      rw [cmpV_self]
      rcases key_dec a b hl (fun x hx => ha x (List.mem_cons_of_mem _ hx)) (fun x hx => hb x (List.mem_cons_of_mem _ hx)) with ⟨rfl, q⟩ | q
      · exact .inl ⟨rfl, q⟩
      · exact .inr (q.ahead _)
    · have hne := q.ne
      rw [show (Sp.cmpV v w != 0) = true by rw [bne, beq_false_of_ne hne]; rfl, cond_true]
      exact .inr (q.behind _ _)
end Go.Proofs.GR.T

namespace Go.Proofs.GR.T
open Go Go.Proofs Go.Proofs.GR
set_option maxRecDepth 100000
theorem run_compareX {P : Program} {va vb : Value} {a b : ByteArray} {w : World} (ha : (Extern.Bytes.bytesOf va).run P w = .ok a w) (hb : (Extern.Bytes.bytesOf vb).run P w = .ok b w) :
    (Extern.BytealgCompare.compare #[va, vb]).run P w = .ok (.int .i64 (Lib.compareBytes a.data.toList b.data.toList)) w := by
  change Sem.run P (do pure (goInt (Extern.BytealgCompare.cmp (← Extern.Bytes.bytesOf va) (← Extern.Bytes.bytesOf vb)))) w = _
  simp only [Sem.run_bind, ha, hb, Sem.run_pure, Result.andThen]
  rw [Lib.cmp_eq]
  rfl
theorem calls1390 {va vb : Value} {a b : ByteArray} {w : World} (ha : (Extern.Bytes.bytesOf va).run PP w = .ok a w) (hb : (Extern.Bytes.bytesOf vb).run PP w = .ok b w) :
    Calls PP n1390 #[va, vb] w fun e w' => e = .returned (.int .i64 (Lib.compareBytes a.data.toList b.data.toList)) ∧ w' = w := by
  have mixed : PP.follows .mixedOrders = true := ok.mixed
  have h169 : PP.funcs[n1390]? = some Tryz.f118 := by kernel_rfl
  have h232 : PP.funcs[n1399]? = some Tryz.f153 := by kernel_rfl
  go_enter h169, (show Tryz.f118.ntmps = 8 from rfl)
  go_wp2
  rw [run_callFunc_extern h232 (by kernel_rfl) (by kernel_rfl) (by kernel_rfl) (e := Extern.BytealgCompare.compare) (by kernel_rfl), run_compareX ha hb]
  simp only [Result.andThen]
  rw [Oper.upon_value]
  go_wp2
  go_ret
  exact ⟨rfl, rfl⟩
def Sp.cmpB (xs ys : List Int) : Int := Lib.compareBytes (bytesStr xs).data.toList (bytesStr ys).data.toList
noncomputable def e1390 : Ent := { f := n1390, ins := [Sh.one (C0.dat (.slice (.int .u8))), Sh.one (C0.dat (.slice (.int .u8)))], outs := [Sh.one (C0.dat (.int .i64))], upd := [], pre := fun _ => true, spec := fun a => Sp.cmpB a.1 a.2, wrt := fun _ => () }
theorem e1390_ok : Valid PP Γ e1390 := fun a _ => contract_cmp (f := n1390) rfl fun w va vb ha hb => calls1390 ha hb
end Go.Proofs.GR.T

namespace Go.Proofs.GR.T
open Go Go.Proofs Go.Proofs.GR Go.Shelf
set_option maxRecDepth 100000
def ren1200 : Ren := ⟨fun k => if k = 155 then n1200 else if k = 154 then n1214 else if k = 138 then n1044 else if k = 165 then n1190 else if k = 143 then n1045 else if k = 166 then n1166 else if k = 197 then n1047 else if k = 169 then n1168 else if k = 195 then n1046 else if k = 218 then n1048 else if k = 240 then n1189 else if k = 241 then n1202 else if k = 219 then n1049 else if k = 260 then n1050 else if k = 276 then n1201 else if k = 277 then n1215 else if k = 217 then n1051 else if k = 225 then n1052 else if k = 224 then n1053 else if k = 267 then n1054 else if k = 266 then n1055 else if k = 314 then n1056 else k, fun k => if k = 9 then t9 else if k = 3 then t3 else if k = 4 then t4 else if k = 72 then t1141 else if k = 0 then t0 else if k = 76 then t1145 else if k = 105 then t1035 else if k = 21 then t21 else if k = 5 then t5 else if k = 70 then t1139 else if k = 20 then t20 else if k = 37 then t33 else if k = 75 then t1144 else if k = 127 then t233 else if k = 164 then t267 else if k = 46 then t86 else if k = 119 then t1038 else if k = 139 then t1041 else if k = 138 then t1040 else if k = 146 then t1042 else if k = 51 then t151 else if k = 80 then t166 else k, fun k => if k = 1 then g1 else if k = 3 then g2 else if k = 4 then g3 else k⟩
theorem lays1200 : Lays.n155 PP ren1200 where
  mixed := by kernel_rfl
  f138 := by kernel_rfl
  f143 := by kernel_rfl
  f154 := by kernel_rfl
  f155 := by kernel_rfl
  f165 := by kernel_rfl
  f166 := by kernel_rfl
  f169 := by kernel_rfl
  f195 := by kernel_rfl
  f197 := by kernel_rfl
  f217 := by kernel_rfl
  f218 := by kernel_rfl
  f219 := by kernel_rfl
  f224 := by kernel_rfl
  f225 := by kernel_rfl
  f240 := by kernel_rfl
  f241 := by kernel_rfl
  f260 := by kernel_rfl
  f266 := by kernel_rfl
  f267 := by kernel_rfl
  f276 := by kernel_rfl
  f277 := by kernel_rfl
  f314 := by kernel_rfl
  t0 := by kernel_rfl
  a0 := fun _ => by kernel_rfl
  z0 := fun _ => by kernel_rfl
  v0 := fun _ => by kernel_rfl
  t3 := by kernel_rfl
  a3 := fun _ => by kernel_rfl
  z3 := fun _ => by kernel_rfl
  v3 := fun _ => by kernel_rfl
  t4 := by kernel_rfl
  a4 := fun _ => by kernel_rfl
  z4 := fun _ => by kernel_rfl
  v4 := fun _ => by kernel_rfl
  t5 := by kernel_rfl
  a5 := fun _ => by kernel_rfl
  z5 := fun _ => by kernel_rfl
  v5 := fun _ => by kernel_rfl
  t9 := by kernel_rfl
  a9 := fun _ => by kernel_rfl
  z9 := fun _ => by kernel_rfl
  v9 := fun _ => by kernel_rfl
  t20 := by kernel_rfl
  a20 := fun _ => by kernel_rfl
  z20 := fun _ => by kernel_rfl
  v20 := fun _ => by kernel_rfl
  t21 := by kernel_rfl
  a21 := fun _ => by kernel_rfl
  z21 := fun _ => by kernel_rfl
  v21 := fun _ => by kernel_rfl
  t37 := by kernel_rfl
  a37 := fun _ => by kernel_rfl
  z37 := fun _ => by kernel_rfl
  v37 := fun _ => by kernel_rfl
  t46 := by kernel_rfl
  a46 := fun _ => by kernel_rfl
  z46 := fun _ => by kernel_rfl
  v46 := fun _ => by kernel_rfl
  t51 := by kernel_rfl
  a51 := fun _ => by kernel_rfl
  z51 := fun _ => by kernel_rfl
  v51 := fun _ => by kernel_rfl
  t70 := by kernel_rfl
  a70 := fun _ => by kernel_rfl
  z70 := fun _ => by kernel_rfl
  v70 := fun _ => by kernel_rfl
  t72 := by kernel_rfl
  a72 := fun _ => by kernel_rfl
  z72 := fun _ => by kernel_rfl
  v72 := fun _ => by kernel_rfl
  t75 := by kernel_rfl
  a75 := fun _ => by kernel_rfl
  z75 := fun _ => by kernel_rfl
  v75 := fun _ => by kernel_rfl
  t76 := by kernel_rfl
  a76 := fun _ => by kernel_rfl
  z76 := fun _ => by kernel_rfl
  v76 := fun _ => by kernel_rfl
  t105 := by kernel_rfl
  a105 := fun _ => by kernel_rfl
  z105 := fun _ => by kernel_rfl
  v105 := fun _ => by kernel_rfl
  t119 := by kernel_rfl
  a119 := fun _ => by kernel_rfl
  z119 := fun _ => by kernel_rfl
  t127 := by kernel_rfl
  a127 := fun _ => by kernel_rfl
  z127 := fun _ => by kernel_rfl
  v127 := fun _ => by kernel_rfl
  t138 := by kernel_rfl
  a138 := fun _ => by kernel_rfl
  z138 := fun _ => by kernel_rfl
  v138 := fun _ => by kernel_rfl
  t139 := by kernel_rfl
  a139 := fun _ => by kernel_rfl
  z139 := fun _ => by kernel_rfl
  v139 := fun _ => by kernel_rfl
  t146 := by kernel_rfl
  a146 := fun _ => by kernel_rfl
  z146 := fun _ => by kernel_rfl
  v146 := fun _ => by kernel_rfl
  t164 := by kernel_rfl
  a164 := fun _ => by kernel_rfl
  z164 := fun _ => by kernel_rfl
  v164 := fun _ => by kernel_rfl
  g1 := by kernel_rfl
  g3 := by kernel_rfl
  g4 := by kernel_rfl
theorem extra1200 : Builder.Extra PP ren1200 where
  sizeBuilder := by kernel_rfl
  liesBuilder := by kernel_rfl
  t5 := by kernel_rfl
  a5 := fun _ => by kernel_rfl
  z5 := fun _ => by kernel_rfl
  v5 := fun _ => by kernel_rfl
  infoByte := by kernel_rfl
  cellsByte := by kernel_rfl
  sizeByte := by kernel_rfl
  neB5 := by decide +kernel
theorem gls1200 : ∀ w : World, (∀ p ∈ Γ.gls, p.1 < w.heap.size ∧ p.2 w.heap[p.1]?) → ∃ m, w.cell? ⟨g1, 0, none⟩ = some (.int .i64 m) := fun w h => intAt0_cell (h (g1, intAt0) (List.mem_cons_self)).2
def Sp.repl (s old new : ByteArray) : ByteArray := ⟨(Lib.replaceAll s.data.toList old.data.toList new.data.toList).toArray⟩
theorem repl1200 (s old new : ByteArray) (h : s.size < 4294967281) (h1 : 1 ≤ old.size) (hl : s.size + Lib.countB s old * new.size ≤ 140737488355328) : Contract PP Γ n1200 [⟨false, [.c (.dat .str s)]⟩, ⟨false, [.c (.dat .str old)]⟩, ⟨false, [.c (.dat .str new)]⟩] ⟨[⟨false, [.c (.dat .str (Sp.repl s old new))]⟩], []⟩ := by
  refine contract_str3 (by kernel_rfl) fun w hw => ?_
  obtain ⟨m, hm⟩ := gls1200 w hw
  exact Any.strings_ReplaceAll lays1200 extra1200 s old new m w h hm h1 hl
end Go.Proofs.GR.T

set_option maxRecDepth 1000000
set_option maxHeartbeats 100000000
namespace Go.Proofs.GR.T
open Go Go.Proofs Go.Proofs.GR
def esc8 (b : UInt8) : List UInt8 := if b = 0 then [0, 255] else [b]
theorem index_zero (l : List UInt8) : Lib.index (0 :: l) [0] = 0 := by rw [Lib.index_one]; rfl
theorem index_other {b : UInt8} (hb : b ≠ 0) (l : List UInt8) : Lib.index (b :: l) [0] = if Lib.index l [0] == -1 then -1 else Lib.index l [0] + 1 := by
  rw [Lib.index_one, Lib.index_one, Lib.indexByte]
  rw [show (b == 0) = false by simp [hb]]
  rfl
theorem replK_other {b : UInt8} (hb : b ≠ 0) (N l : List UInt8) : ∀ k, Lib.replaceK [0] N k (b :: l) = b :: Lib.replaceK [0] N k l
  | 0 => rfl
  | k + 1 => by
    rw [Lib.replaceK, Lib.replaceK, index_other hb]
    by_cases h : Lib.index l [0] = -1
    · rw [h]; rfl
    · have hge := Lib.index_ge l [0]
      obtain ⟨i, hi⟩ : ∃ i : Nat, Lib.index l [0] = i := ⟨(Lib.index l [0]).toNat, by omega⟩
      rw [hi]
      have e1 : ((i : Int) == -1) = false := beq_false_of_ne (by omega)
      have e2 : ((i : Int) + 1 == -1) = false := beq_false_of_ne (by omega)
      simp only [e1, e2, Bool.false_eq_true, if_false]
      rw [show ((i : Int) + 1).toNat = i + 1 by omega, Int.toNat_natCast]
      rfl
theorem repl_count : ∀ l : List UInt8, Lib.replaceK [0] [0, 255] (Lib.count l [0]) l = l.flatMap esc8
  | [] => by
    rw [show Lib.count [] [0] = 0 by rfl]
    rfl
  | b :: l => by
    rw [List.flatMap_cons]
    by_cases hb : b = 0
    · subst hb
      rw [Lib.count_cons_eq, Nat.add_comm, Lib.replaceK, index_zero, if_neg (by decide)]
      show [] ++ [0, 255] ++ Lib.replaceK [0] [0, 255] (Lib.count l [0]) l = _
      rw [repl_count l]
      rfl
    · rw [Lib.count_cons_ne b 0 l hb, replK_other hb, repl_count l]
      unfold esc8
      rw [if_neg hb]
      rfl
theorem esc_flat : ∀ l : List UInt8, (l.flatMap esc8).map byteI = Sp.esc (l.map byteI)
  | [] => rfl
  | b :: l => by
    rw [List.flatMap_cons, List.map_append, esc_flat l, List.map_cons, esc_cons]
    by_cases hb : b = 0
    · subst hb; rfl
    · have h : (byteI b == 0) = false := beq_false_of_ne fun e => hb (UInt8.toNat_inj.1 (by unfold byteI at e; show b.toNat = 0; omega))
      unfold esc8
      rw [if_neg hb, h]
      rfl
theorem repl_esc (s : ByteArray) : strBytes (Sp.repl s (ByteArray.mk #[0]) (ByteArray.mk #[0, 255])) = Sp.esc (strBytes s) := by
  have e : Lib.replaceAll s.data.toList [0] [0, 255] = s.data.toList.flatMap esc8 := by
    unfold Lib.replaceAll Lib.replace Lib.replaceNum
    rw [if_neg (by decide), if_pos (.inl (by decide))]
    exact repl_count _
  have e2 : strBytes (Sp.repl s (ByteArray.mk #[0]) (ByteArray.mk #[0, 255])) = (Lib.replaceAll s.data.toList [0] [0, 255]).map byteI := rfl
  rw [e2, e, esc_flat]
  rfl
theorem high_bit {x : Nat} (h : x < 18446744073709551616) : x ^^^ 9223372036854775808 = if x < 9223372036854775808 then x + 9223372036854775808 else x - 9223372036854775808 := by
  have e : (9223372036854775808 : Nat) = 2 ^ 63 := by decide
  by_cases hx : x < 9223372036854775808
  · rw [if_pos hx, e]
    apply Nat.eq_of_testBit_eq
    intro j
    rw [Nat.testBit_xor, Nat.testBit_two_pow, Nat.add_comm]
    by_cases hj : j = 63
    · subst hj
      rw [Nat.testBit_two_pow_add_eq, Nat.testBit_lt_two_pow (by omega)]
      rfl
    · rw [decide_eq_false (fun q => hj q.symm), Bool.xor_false]
      rcases Nat.lt_or_gt_of_ne hj with hl | hl
      · rw [Nat.testBit_two_pow_add_gt hl]
      · rw [Nat.testBit_lt_two_pow (show x < 2 ^ j from Nat.lt_of_lt_of_le (by rw [← e]; exact hx) (Nat.pow_le_pow_right (by decide) (by omega))),
          Nat.testBit_lt_two_pow (show 2 ^ 63 + x < 2 ^ j from Nat.lt_of_lt_of_le (show 2 ^ 63 + x < 2 ^ 64 by rw [show (2 : Nat) ^ 63 = 9223372036854775808 by decide, show (2 : Nat) ^ 64 = 18446744073709551616 by decide]; omega) (Nat.pow_le_pow_right (by decide) (by omega)))]
  · obtain ⟨y, rfl⟩ : ∃ y, x = 2 ^ 63 + y := ⟨x - 2 ^ 63, by rw [← e]; omega⟩
    have hy : y < 2 ^ 63 := by rw [← e] at h ⊢; omega
    rw [if_neg hx, e, Nat.add_sub_cancel_left]
    apply Nat.eq_of_testBit_eq
    intro j
    rw [Nat.testBit_xor, Nat.testBit_two_pow]
    by_cases hj : j = 63
    · subst hj
      rw [Nat.testBit_two_pow_add_eq, Nat.testBit_lt_two_pow hy]
      rfl
    · rw [decide_eq_false (fun q => hj q.symm), Bool.xor_false]
      rcases Nat.lt_or_gt_of_ne hj with hl | hl
      · rw [Nat.testBit_two_pow_add_gt hl]
      · rw [Nat.testBit_lt_two_pow (show y < 2 ^ j from Nat.lt_of_lt_of_le hy (Nat.pow_le_pow_right (by decide) (by omega))),
          Nat.testBit_lt_two_pow (show 2 ^ 63 + y < 2 ^ j from Nat.lt_of_lt_of_le (show 2 ^ 63 + y < 2 ^ 64 by rw [show (2 : Nat) ^ 64 = 2 ^ 63 + 2 ^ 63 by decide]; omega) (Nat.pow_le_pow_right (by decide) (by omega)))]
theorem turn64 {n : Int} (h0 : -9223372036854775808 ≤ n) (h1 : n < 9223372036854775808) : IntKind.u64.wrap (((BitVec.ofInt (64 : Nat) (IntKind.u64.wrap n) ^^^ BitVec.ofInt (64 : Nat) (9223372036854775808 : Int)).toNat : Nat) : Int) = n + 9223372036854775808 := by
  have hw : IntKind.u64.wrap n = n % 18446744073709551616 := rfl
  have hb : (BitVec.ofInt 64 (9223372036854775808 : Int)).toNat = 9223372036854775808 := by decide
  have ha : (BitVec.ofInt 64 (n % 18446744073709551616)).toNat = (n % 18446744073709551616).toNat := by
    rw [BitVec.toNat_ofInt]
    rw [show ((2 ^ 64 : Nat) : Int) = 18446744073709551616 by decide, Int.emod_emod_of_dvd _ (Int.dvd_refl _)]
  rw [hw, BitVec.toNat_xor, ha, hb, high_bit (by omega)]
  have hw2 : ∀ m : Int, IntKind.u64.wrap m = m % 18446744073709551616 := fun _ => rfl
  rw [hw2]
  split <;> omega
theorem high_eight (n : Int) : Sp.high n 8 = [IntKind.u8.wrap (n.fdiv 72057594037927936), IntKind.u8.wrap (n.fdiv 281474976710656), IntKind.u8.wrap (n.fdiv 1099511627776), IntKind.u8.wrap (n.fdiv 4294967296), IntKind.u8.wrap (n.fdiv 16777216), IntKind.u8.wrap (n.fdiv 65536), IntKind.u8.wrap (n.fdiv 256), IntKind.u8.wrap (n.fdiv 1)] := rfl
theorem high_key8 {n : Int} (h0 : -9223372036854775808 ≤ n) (h1 : n < 9223372036854775808) : Sp.high (IntKind.u64.wrap (((BitVec.ofInt (64 : Nat) (IntKind.u64.wrap n) ^^^ BitVec.ofInt (64 : Nat) (9223372036854775808 : Int)).toNat : Nat) : Int)) 8 = Sp.key8 n := by
  obtain ⟨b0, b1, b2, b3, b4, b5, b6, b7, e, ⟨p0, q0⟩, ⟨p1, q1⟩, ⟨p2, q2⟩, ⟨p3, q3⟩, ⟨p4, q4⟩, ⟨p5, q5⟩, ⟨p6, q6⟩, ⟨p7, q7⟩⟩ := digits n h0 h1
  rw [turn64 h0 h1, key8_val e p0 q0 p1 q1 p2 q2 p3 q3 p4 q4 p5 q5 p6 q6 p7 q7, high_eight]
  have w : ∀ m : Int, IntKind.u8.wrap m = m % 256 := wrap8
  have ex : n + 9223372036854775808 = ((((((b0 * 256 + b1) * 256 + b2) * 256 + b3) * 256 + b4) * 256 + b5) * 256 + b6) * 256 + b7 := by omega
  rw [ex]
  have f : ∀ (x y : Int), 0 < y → x.fdiv y = x / y := fun x y hy => Int.fdiv_eq_ediv_of_nonneg x (by omega)
  rw [w, w, w, w, w, w, w, w, f _ 72057594037927936 (by decide), f _ 281474976710656 (by decide), f _ 1099511627776 (by decide), f _ 4294967296 (by decide), f _ 16777216 (by decide), f _ 65536 (by decide), f _ 256 (by decide), f _ 1 (by decide)]
  clear e ex h0 h1
  have g0 : (((((((b0 * 256 + b1) * 256 + b2) * 256 + b3) * 256 + b4) * 256 + b5) * 256 + b6) * 256 + b7) / 72057594037927936 % 256 = b0 := by omega
  have g1 : (((((((b0 * 256 + b1) * 256 + b2) * 256 + b3) * 256 + b4) * 256 + b5) * 256 + b6) * 256 + b7) / 281474976710656 % 256 = b1 := by omega
  have g2 : (((((((b0 * 256 + b1) * 256 + b2) * 256 + b3) * 256 + b4) * 256 + b5) * 256 + b6) * 256 + b7) / 1099511627776 % 256 = b2 := by omega
  have g3 : (((((((b0 * 256 + b1) * 256 + b2) * 256 + b3) * 256 + b4) * 256 + b5) * 256 + b6) * 256 + b7) / 4294967296 % 256 = b3 := by omega
  have g4 : (((((((b0 * 256 + b1) * 256 + b2) * 256 + b3) * 256 + b4) * 256 + b5) * 256 + b6) * 256 + b7) / 16777216 % 256 = b4 := by omega
  have g5 : (((((((b0 * 256 + b1) * 256 + b2) * 256 + b3) * 256 + b4) * 256 + b5) * 256 + b6) * 256 + b7) / 65536 % 256 = b5 := by omega
  have g6 : (((((((b0 * 256 + b1) * 256 + b2) * 256 + b3) * 256 + b4) * 256 + b5) * 256 + b6) * 256 + b7) / 256 % 256 = b6 := by omega
  have g7 : (((((((b0 * 256 + b1) * 256 + b2) * 256 + b3) * 256 + b4) * 256 + b5) * 256 + b6) * 256 + b7) / 1 % 256 = b7 := by omega
  rw [g0, g1, g2, g3, g4, g5, g6, g7]
theorem ofNat_lt {x y : Int} (h : x < y) (hx : 0 ≤ x) (hy : y < 256) : UInt8.ofNat x.toNat < UInt8.ofNat y.toNat := by
  rw [UInt8.lt_iff_toNat_lt, UInt8.toNat_ofNat', UInt8.toNat_ofNat']
  omega
theorem cmpL_dec {A B : List Int} {c : Int} (h : Dec A B c) (ha : ∀ x ∈ A, 0 ≤ x ∧ x < 256) (hb : ∀ x ∈ B, 0 ≤ x ∧ x < 256) : Lib.compareBytes (A.map fun n => UInt8.ofNat n.toNat) (B.map fun n => UInt8.ofNat n.toNat) = c := by
  obtain ⟨p, x, y, s, t, rfl, rfl, h⟩ := h
  induction p with
  | nil =>
    have hx := ha x (by simp)
    have hy := hb y (by simp)
    show Lib.compareBytes (UInt8.ofNat x.toNat :: _) (UInt8.ofNat y.toNat :: _) = c
    rw [Lib.compareBytes]
    rcases h with ⟨h, rfl⟩ | ⟨h, rfl⟩
    · rw [if_pos (ofNat_lt h hx.1 hy.2)]
    · have := ofNat_lt h hy.1 hx.2
      rw [if_neg (fun q => UInt8.lt_irrefl _ (UInt8.lt_trans this q)), if_pos this]
  | cons q p ih =>
    show Lib.compareBytes (UInt8.ofNat q.toNat :: _) (UInt8.ofNat q.toNat :: _) = c
    rw [Lib.compareBytes, if_neg (UInt8.lt_irrefl _), if_neg (UInt8.lt_irrefl _)]
    exact ih (fun z hz => ha z (List.mem_cons_of_mem _ hz)) (fun z hz => hb z (List.mem_cons_of_mem _ hz))
theorem cmpL_self : ∀ l : List UInt8, Lib.compareBytes l l = 0
  | [] => by rw [Lib.compareBytes]
  | x :: l => by rw [Lib.compareBytes, if_neg (UInt8.lt_irrefl _), if_neg (UInt8.lt_irrefl _)]; exact cmpL_self l
end Go.Proofs.GR.T

