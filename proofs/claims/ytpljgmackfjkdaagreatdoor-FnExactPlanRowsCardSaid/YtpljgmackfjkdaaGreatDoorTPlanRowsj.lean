/-
  No statement is proved here: what the functions of the law answer, told as plain functions, and that the law's answer is always true.
  No condition.
-/
import Derived.Test.YtpljgmackfjkdaaGreatDoorTPlanRowsi
set_option maxRecDepth 3000000
set_option maxHeartbeats 100000000
namespace Go.Proofs.GR.T
open Go Go.Proofs Go.Proofs.GR
def Sp.f1410_pre (x0 : ByteArray) (x1 : Int) (x2 x3 : ByteArray) (x4 : Int) (x5 : List (ByteArray × List (ByteArray × Int × Bool) × Int × List (ByteArray × List Int))) (x6 : List (ByteArray × List (List (Int × Int × ByteArray)))) : Bool := (bif decide ((↑x5.length : Int) > (4096 : Int)) then true else (bif decide ((↑x6.length : Int) > (4096 : Int)) then true else (bif !Sp.dataOK x5 x6 then true else (Sp.f1086_pre x0 x1 x2 x3 x4 x5 && (bif !(Sp.f1086 x0 x1 x2 x3 x4 x5).1 then true else (decide ((0 : Int) ≤ Sp.idx (Sp.nmTb x0) x5 (0 : Int)) && decide (Sp.idx (Sp.nmTb x0) x5 (0 : Int) < (↑x5.length : Int)) && (Sp.anyW (Sp.nmDt x0) x6 && (Sp.plrP x1 (x5.getD (Sp.idx (Sp.nmTb x0) x5 (0 : Int)).toNat (ByteArray.mk #[], [], (0 : Int), [])).2.2.1 (x5.getD (Sp.idx (Sp.nmTb x0) x5 (0 : Int)).toNat (ByteArray.mk #[], [], (0 : Int), [])).2.2.2 (Sp.dataOf x0 x6)))))))))
def Sp.f1410 (x0 : ByteArray) (x1 : Int) (x2 x3 : ByteArray) (x4 : Int) (x5 : List (ByteArray × List (ByteArray × Int × Bool) × Int × List (ByteArray × List Int))) (x6 : List (ByteArray × List (List (Int × Int × ByteArray)))) := (bif decide ((↑x5.length : Int) > (4096 : Int)) then (([], (2 : Int)), ()) else (bif decide ((↑x6.length : Int) > (4096 : Int)) then (([], (2 : Int)), ()) else (bif !Sp.dataOK x5 x6 then (([], (1 : Int)), ()) else (bif !(Sp.f1086 x0 x1 x2 x3 x4 x5).1 then (([], (1 : Int)), ()) else ((Sp.placesW (Sp.hitR x1 x2 x3 (x5.getD (Sp.idx (Sp.nmTb x0) x5 (0 : Int)).toNat (ByteArray.mk #[], [], (0 : Int), [])).2.2.1 (x5.getD (Sp.idx (Sp.nmTb x0) x5 (0 : Int)).toNat (ByteArray.mk #[], [], (0 : Int), [])).2.2.2) (Sp.dataOf x0 x6) (0 : Int), (0 : Int)), ())))))
noncomputable def e1410 : Ent := { f := 9, ins := [Sh.agg [C0.dat Ty.str, C0.dat Zi, C0.dat Ty.str, C0.dat Ty.str, C0.dat Zi], Sh.one (C0.dat (Ty.str.pair ((Ty.str.pair (Zi.pair Ty.bool)).slice.pair (Zi.pair (Ty.str.pair Zi.slice).slice))).slice), Sh.one (C0.dat (Ty.str.pair (Zi.pair (Zi.pair Ty.str)).slice.slice).slice)], outs := [Sh.one (C0.row Zi), Sh.one ZI], upd := [], pre := fun a => Sp.f1410_pre a.1.1 a.1.2.1 a.1.2.2.1 a.1.2.2.2.1 a.1.2.2.2.2 a.2.1 a.2.2, spec := fun a => (Sp.f1410 a.1.1 a.1.2.1 a.1.2.2.1 a.1.2.2.2.1 a.1.2.2.2.2 a.2.1 a.2.2).1, wrt := fun a => (Sp.f1410 a.1.1 a.1.2.1 a.1.2.2.1 a.1.2.2.2.1 a.1.2.2.2.2 a.2.1 a.2.2).2 }
def f1410_g (v : denS [Sh.one (C0.row Zi), Sh.one ZI] × denS []) : Res := ⟨mkS [Sh.one (C0.row Zi), Sh.one ZI] v.1, mkU [] v.2⟩
theorem f1410_form (x0 : ByteArray) (x1 : Int) (x2 x3 : ByteArray) (x4 : Int) (x5 : List (ByteArray × List (ByteArray × Int × Bool) × Int × List (ByteArray × List Int))) (x6 : List (ByteArray × List (List (Int × Int × ByteArray)))) : abody Γ (orc [e96, e1086, e1088, e1424, e1423]) 0 9 [XV.mk true [ZC Ty.str x0, ZC Zi x1, ZC Ty.str x2, ZC Ty.str x3, ZC Zi x4], ZX (Ty.str.pair ((Ty.str.pair (Zi.pair Ty.bool)).slice.pair (Zi.pair (Ty.str.pair Zi.slice).slice))).slice x5, ZX (Ty.str.pair (Zi.pair (Zi.pair Ty.str)).slice.slice).slice x6] = chk (Sp.f1410_pre x0 x1 x2 x3 x4 x5 x6) (some (f1410_g (Sp.f1410 x0 x1 x2 x3 x4 x5 x6))) := by
  refine Eq.trans (b := bif decide ((↑x5.length : Int) > (4096 : Int)) then some (Res.mk [XV.mk false [X.c (X0.row Zi [] true)], ZX Zi (2 : Int)] []) else bif decide ((↑x6.length : Int) > (4096 : Int)) then some (Res.mk [XV.mk false [X.c (X0.row Zi [] true)], ZX Zi (2 : Int)] []) else bif !Sp.dataOK x5 x6 then some (Res.mk [XV.mk false [X.c (X0.row Zi [] true)], ZX Zi (1 : Int)] []) else chk (Sp.f1086_pre x0 x1 x2 x3 x4 x5) (bif !(Sp.f1086 x0 x1 x2 x3 x4 x5).1 then some (Res.mk [XV.mk false [X.c (X0.row Zi [] true)], ZX Zi (1 : Int)] []) else chk (decide ((0 : Int) ≤ Sp.idx (Sp.nmTb x0) x5 (0 : Int)) && decide (Sp.idx (Sp.nmTb x0) x5 (0 : Int) < (↑x5.length : Int))) (chk (Sp.anyW (Sp.nmDt x0) x6) (chk (Sp.plrP x1 (x5.getD (Sp.idx (Sp.nmTb x0) x5 (0 : Int)).toNat (ByteArray.mk #[], [], (0 : Int), [])).2.2.1 (x5.getD (Sp.idx (Sp.nmTb x0) x5 (0 : Int)).toNat (ByteArray.mk #[], [], (0 : Int), [])).2.2.2 (Sp.dataOf x0 x6)) (some (Res.mk [XV.mk false [X.c (X0.row Zi (Sp.placesW (Sp.hitR x1 x2 x3 (x5.getD (Sp.idx (Sp.nmTb x0) x5 (0 : Int)).toNat (ByteArray.mk #[], [], (0 : Int), [])).2.2.1 (x5.getD (Sp.idx (Sp.nmTb x0) x5 (0 : Int)).toNat (ByteArray.mk #[], [], (0 : Int), [])).2.2.2) (Sp.dataOf x0 x6) (0 : Int)) true)], ZX Zi (0 : Int)] [])))))) (by kernel_rfl) ?_
  unfold Sp.f1410_pre Sp.f1410
  exact (cond_step f1410_g ((lift_plain (rfl))) ((cond_step f1410_g ((lift_plain (rfl))) ((cond_step f1410_g ((lift_plain (rfl))) ((chk_step ((cond_step f1410_g ((lift_plain (rfl))) ((chk_step ((chk_step ((chk_last (rfl))))))))))))))))
theorem e1410_ok : Valid PP Γ e1410 := valid_auto ok (vcons e96_ok (vcons e1086_ok (vcons e1088_ok (vcons e1424_ok (vcons e1423_ok vnil))))) fun a => f1410_form a.1.1 a.1.2.1 a.1.2.2.1 a.1.2.2.2.1 a.1.2.2.2.2 a.2.1 a.2.2

def Sp.f1411_pre (x0 : ByteArray) (x1 : Int) (x2 x3 : ByteArray) (x4 : Int) (x5 : List (ByteArray × List (ByteArray × Int × Bool) × Int × List (ByteArray × List Int))) (x6 : List (ByteArray × List (List (Int × Int × ByteArray)))) : Bool := (bif decide ((↑x5.length : Int) > (4096 : Int)) then true else (bif decide ((↑x6.length : Int) > (4096 : Int)) then true else (Sp.datP x5 x6 && (bif !Sp.dataOK x5 x6 then true else (Sp.f1091_pre x0 x1 x2 x3 x4 x5 && (bif !(Sp.f1091 x0 x1 x2 x3 x4 x5).1 then true else (Sp.plsP x0 x1 x5 x6)))))))
def Sp.f1411 (x0 : ByteArray) (x1 : Int) (x2 x3 : ByteArray) (x4 : Int) (x5 : List (ByteArray × List (ByteArray × Int × Bool) × Int × List (ByteArray × List Int))) (x6 : List (ByteArray × List (List (Int × Int × ByteArray)))) := (bif decide ((↑x5.length : Int) > (4096 : Int)) then (([], (2 : Int)), ()) else (bif decide ((↑x6.length : Int) > (4096 : Int)) then (([], (2 : Int)), ()) else (bif !Sp.dataOK x5 x6 then (([], (1 : Int)), ()) else (bif !(Sp.f1091 x0 x1 x2 x3 x4 x5).1 then (([], (1 : Int)), ()) else ((Sp.pls x0 x1 x2 x3 x5 x6, (0 : Int)), ())))))
noncomputable def e1411 : Ent := { f := 13, ins := [Sh.agg [C0.dat Ty.str, C0.dat Zi, C0.dat Ty.str, C0.dat Ty.str, C0.dat Zi], Sh.one (C0.dat (Ty.str.pair ((Ty.str.pair (Zi.pair Ty.bool)).slice.pair (Zi.pair (Ty.str.pair Zi.slice).slice))).slice), Sh.one (C0.dat (Ty.str.pair (Zi.pair (Zi.pair Ty.str)).slice.slice).slice)], outs := [Sh.one (C0.row Zi), Sh.one ZI], upd := [], pre := fun a => Sp.f1411_pre a.1.1 a.1.2.1 a.1.2.2.1 a.1.2.2.2.1 a.1.2.2.2.2 a.2.1 a.2.2, spec := fun a => (Sp.f1411 a.1.1 a.1.2.1 a.1.2.2.1 a.1.2.2.2.1 a.1.2.2.2.2 a.2.1 a.2.2).1, wrt := fun a => (Sp.f1411 a.1.1 a.1.2.1 a.1.2.2.1 a.1.2.2.2.1 a.1.2.2.2.2 a.2.1 a.2.2).2 }
def f1411_g (v : denS [Sh.one (C0.row Zi), Sh.one ZI] × denS []) : Res := ⟨mkS [Sh.one (C0.row Zi), Sh.one ZI] v.1, mkU [] v.2⟩
theorem f1411_form (x0 : ByteArray) (x1 : Int) (x2 x3 : ByteArray) (x4 : Int) (x5 : List (ByteArray × List (ByteArray × Int × Bool) × Int × List (ByteArray × List Int))) (x6 : List (ByteArray × List (List (Int × Int × ByteArray)))) : abody Γ (orc [e1370, e1091, e1425]) 0 13 [XV.mk true [ZC Ty.str x0, ZC Zi x1, ZC Ty.str x2, ZC Ty.str x3, ZC Zi x4], ZX (Ty.str.pair ((Ty.str.pair (Zi.pair Ty.bool)).slice.pair (Zi.pair (Ty.str.pair Zi.slice).slice))).slice x5, ZX (Ty.str.pair (Zi.pair (Zi.pair Ty.str)).slice.slice).slice x6] = chk (Sp.f1411_pre x0 x1 x2 x3 x4 x5 x6) (some (f1411_g (Sp.f1411 x0 x1 x2 x3 x4 x5 x6))) := by
  refine Eq.trans (b := bif decide ((↑x5.length : Int) > (4096 : Int)) then some (Res.mk [XV.mk false [X.c (X0.row Zi [] true)], ZX Zi (2 : Int)] []) else bif decide ((↑x6.length : Int) > (4096 : Int)) then some (Res.mk [XV.mk false [X.c (X0.row Zi [] true)], ZX Zi (2 : Int)] []) else chk (Sp.datP x5 x6) (bif !Sp.dataOK x5 x6 then some (Res.mk [XV.mk false [X.c (X0.row Zi [] true)], ZX Zi (1 : Int)] []) else chk (Sp.f1091_pre x0 x1 x2 x3 x4 x5) (bif !(Sp.f1091 x0 x1 x2 x3 x4 x5).1 then some (Res.mk [XV.mk false [X.c (X0.row Zi [] true)], ZX Zi (1 : Int)] []) else chk (Sp.plsP x0 x1 x5 x6) (some (Res.mk [XV.mk false [X.c (X0.row Zi (Sp.pls x0 x1 x2 x3 x5 x6) true)], ZX Zi (0 : Int)] []))))) (by kernel_rfl) ?_
  unfold Sp.f1411_pre Sp.f1411
  exact (cond_step f1411_g ((lift_plain (rfl))) ((cond_step f1411_g ((lift_plain (rfl))) ((chk_step ((cond_step f1411_g ((lift_plain (rfl))) ((chk_step ((cond_step f1411_g ((lift_plain (rfl))) ((chk_last (rfl))))))))))))))
theorem e1411_ok : Valid PP Γ e1411 := valid_auto ok (vcons e1370_ok (vcons e1091_ok (vcons e1425_ok vnil))) fun a => f1411_form a.1.1 a.1.2.1 a.1.2.2.1 a.1.2.2.2.1 a.1.2.2.2.2 a.2.1 a.2.2

def Sp.markI (_ : Int) (k : Int) : Int := k
def Sp.heldI (x k : Int) : Bool := x == k
noncomputable def f161_L0 (n m0 : Nat) (y0 y1 : Int) (y2 : List Int) : Option Res := loopAt Γ (orc []) n (19 : Nat) (1 : Nat) [(0 : Nat)] [Pth.r, Pth.l, Pth.r, Pth.b] m0 (St.mk (Slot.val (Val.one (Cell.own (0 : Nat))) :: ZS Zi y0 :: ZN 3 (ZS Zi y1 :: ZN 13 [])) [AObj.row Zi y2 true])
theorem f161_L0_step (n m0 : Nat) (y0 y1 : Int) (y2 : List Int) : f161_L0 n (m0 + 1) y0 y1 y2 = bif decide (y1 < (↑y2.length : Int)) then chk (decide ((0 : Int) ≤ y1) && decide (y1 < (↑y2.length : Int))) (f161_L0 n m0 (IntKind.i64.wrap (y0 + (1 : Int))) (IntKind.i64.wrap (y1 + (1 : Int))) (y2.set y1.toNat y0)) else some (Res.mk [ZX Zi y0] [X.c (X0.row Zi y2 true)]) := by kernel_rfl
theorem f161_raw (n : Nat) (x0 : List Int) (x1 : Int) : abody Γ (orc []) n 19 [XV.mk false [X.c (X0.row Zi x0 true)], ZX Zi x1] = f161_L0 n n x1 (0 : Int) x0 := by kernel_rfl

noncomputable def e161 : Ent := { f := n161, ins := [Sh.one (C0.row tIn), Sh.one cI], outs := [Sh.one cI], upd := [Sh.one (C0.row tIn)], pre := fun a => Sp.smallW (α := Int) 1 a.1 a.2, spec := fun a => Sp.addW (α := Int) 1 a.1 a.2, wrt := fun a => Sp.markW Sp.markI 1 a.1 a.2 }
theorem e161_core (xs : List Int) (v : Int) (ha : Sp.smallW 1 xs v = true) (hl : xs.length ≤ maxLen) : ∃ n, abody Γ (orc []) n n161 [XV.mk false [X.c (X0.row tIn xs true)], ZX Zi v] = some (rMk tIn (Sp.addW 1 xs v) (Sp.markW Sp.markI 1 xs v)) := by
  obtain ⟨h1, h2⟩ := smallW_of ha
  have hl : xs.length ≤ 9223372036854775807 := hl
  refine ⟨xs.length + 1, (f161_raw _ xs v).trans ?_⟩
  refine mark_loop (c := 1) (g := Sp.markI) (R := rMk tIn) (fun m v k acc => f161_L0 (xs.length + 1) m v k acc) (fun m v k acc hk => ?_) (fun m v k acc h hlen h0 h1 => ?_) xs.length 0 _ v xs (Nat.zero_add _) (Nat.lt_succ_self _) hl h1 h2
  · show f161_L0 _ _ _ _ _ = _
    rw [f161_L0_step, nat_ge hk, cond_false]
  · show f161_L0 _ _ _ _ _ = _
    have e1 : IntKind.i64.wrap (v + 1) = v + (1 : Nat) := wrap64 (by omega) (by omega)
    rw [f161_L0_step, nat_lt h, cond_true, guard0, chkT, e1, Int.toNat_natCast, next64 h hlen]
    rfl
theorem e161_ok : Valid PP Γ e161 := valid_len ok vnil fun a ha hl => e161_core a.1 a.2 ha (hl _ (List.mem_cons_self) _ (List.mem_cons_self)).1
noncomputable def f162_L0 (n m0 : Nat) (y0 : List Int) (y1 y2 : Int) : Option Res := loopAt Γ (orc []) n (20 : Nat) (0 : Nat) [] [Pth.r, Pth.l, Pth.r, Pth.b] m0 (St.mk (ZS Zi.slice y0 :: ZS Zi y1 :: ZN 3 (ZS Zi y2 :: ZN 15 [])) [])
theorem f162_L0_step (n m0 : Nat) (y0 : List Int) (y1 y2 : Int) : f162_L0 n (m0 + 1) y0 y1 y2 = bif decide (y2 < (↑y0.length : Int)) then chk (decide ((0 : Int) ≤ y2) && decide (y2 < (↑y0.length : Int))) (bif y0.getD y2.toNat (0 : Int) != y1 then ZJ (-1 : Int) else f162_L0 n m0 y0 (IntKind.i64.wrap (y1 + (1 : Int))) (IntKind.i64.wrap (y2 + (1 : Int)))) else ZJ y1 := by kernel_rfl
theorem f162_raw (n : Nat) (x0 : List Int) (x1 : Int) : abody Γ (orc []) n 20 [ZX Zi.slice x0, ZX Zi x1] = f162_L0 n n x0 x1 (0 : Int) := by kernel_rfl

noncomputable def e162 : Ent := { f := n162, ins := [Sh.one (C0.dat (.slice tIn)), Sh.one cI], outs := [Sh.one cI], upd := [], pre := fun a => Sp.smallW (α := Int) 1 a.1 a.2, spec := fun a => Sp.heldW Sp.heldI 1 a.1 a.2, wrt := fun _ => () }
theorem e162_core (xs : List Int) (v : Int) (ha : Sp.smallW 1 xs v = true) (hl : xs.length ≤ maxLen) : ∃ n, abody Γ (orc []) n n162 [ZX (Ty.slice tIn) xs, ZX Zi v] = some (rI (Sp.heldW Sp.heldI 1 xs v)) := by
  obtain ⟨h1, h2⟩ := smallW_of ha
  have hl : xs.length ≤ 9223372036854775807 := hl
  refine ⟨xs.length + 1, (f162_raw _ xs v).trans ?_⟩
  refine held_loop (c := 1) (p := Sp.heldI) (R := rI) xs (fun m v k => f162_L0 (xs.length + 1) m xs v k) (fun m v k hk => ?_) (fun m v k h h0 h1 => ?_) xs.length 0 _ v (Nat.zero_add _) (Nat.lt_succ_self _) h1 h2
  · show f162_L0 _ _ _ _ _ = _
    rw [f162_L0_step, nat_ge hk, cond_false]
  · show f162_L0 _ _ _ _ _ = _
    have e1 : IntKind.i64.wrap (v + 1) = v + (1 : Nat) := wrap64 (by omega) (by omega)
    rw [f162_L0_step, nat_lt h, cond_true, guard0, chkT, e1, next64 h hl, getD_nat xs k _ h]
    unfold Sp.heldI
    rw [bne]
    cases xs[k] == v <;> rfl
theorem e162_ok : Valid PP Γ e162 := valid_len ok vnil fun a ha hl => e162_core a.1 a.2 ha (hl _ (List.mem_cons_self) _ (List.mem_cons_self)).1
def Sp.markCo (_ : VCo) (k : Int) : VCo := (Sp.mText k, k + 1, (k + 2).tmod 3 == 0)
noncomputable def f1311_L0 (n m0 : Nat) (y0 y1 : Int) (y2 : List (ByteArray × Int × Bool)) : Option Res := loopAt Γ (orc [e75]) n (48 : Nat) (1 : Nat) [(0 : Nat)] [Pth.r, Pth.l, Pth.r, Pth.b] m0 (St.mk (Slot.val (Val.one (Cell.own (0 : Nat))) :: ZS Zi y0 :: ZN 3 (ZS Zi y1 :: ZN 31 [])) [AObj.row (Ty.str.pair (Zi.pair Ty.bool)) y2 true])
theorem f1311_L0_step (n m0 : Nat) (y0 y1 : Int) (y2 : List (ByteArray × Int × Bool)) : f1311_L0 n (m0 + 1) y0 y1 y2 = bif decide (y1 < (↑y2.length : Int)) then chk (Sp.mOK y0) (chk (decide ((0 : Int) ≤ y1) && decide (y1 < (↑y2.length : Int))) (chk (decide ((0 : Int) ≤ y1) && decide (y1 < (↑(rowUpd (Ty.str.pair (Zi.pair Ty.bool)) y2 y1.toNat (0 : Nat) [Cell.dat Ty.str (Sp.mText y0)]).length : Int))) (chk (decide ((0 : Int) ≤ y1) && decide (y1 < (↑(rowUpd (Ty.str.pair (Zi.pair Ty.bool)) (rowUpd (Ty.str.pair (Zi.pair Ty.bool)) y2 y1.toNat (0 : Nat) [Cell.dat Ty.str (Sp.mText y0)]) y1.toNat (1 : Nat) [Cell.dat Zi (IntKind.i64.wrap (y0 + (1 : Int)))]).length : Int))) (f1311_L0 n m0 (IntKind.i64.wrap (IntKind.i64.wrap (IntKind.i64.wrap (y0 + (1 : Int)) + (1 : Int)) + (1 : Int))) (IntKind.i64.wrap (y1 + (1 : Int))) (rowUpd (Ty.str.pair (Zi.pair Ty.bool)) (rowUpd (Ty.str.pair (Zi.pair Ty.bool)) (rowUpd (Ty.str.pair (Zi.pair Ty.bool)) y2 y1.toNat (0 : Nat) [Cell.dat Ty.str (Sp.mText y0)]) y1.toNat (1 : Nat) [Cell.dat Zi (IntKind.i64.wrap (y0 + (1 : Int)))]) y1.toNat (2 : Nat) [Cell.dat Ty.bool ((IntKind.i64.wrap (IntKind.i64.wrap (y0 + (1 : Int)) + (1 : Int))).tmod (3 : Int) == (0 : Int))]))))) else some (Res.mk [ZX Zi y0] [X.c (X0.row (Ty.str.pair (Zi.pair Ty.bool)) y2 true)]) := by kernel_rfl
theorem f1311_raw (n : Nat) (x0 : List (ByteArray × Int × Bool)) (x1 : Int) : abody Γ (orc [e75]) n 48 [XV.mk false [X.c (X0.row (Ty.str.pair (Zi.pair Ty.bool)) x0 true)], ZX Zi x1] = f1311_L0 n n x1 (0 : Int) x0 := by kernel_rfl

noncomputable def e1311 : Ent := { f := n1311, ins := [Sh.one (C0.row tCo), Sh.one cI], outs := [Sh.one cI], upd := [Sh.one (C0.row tCo)], pre := fun a => Sp.smallW (α := VCo) 3 a.1 a.2, spec := fun a => Sp.addW (α := VCo) 3 a.1 a.2, wrt := fun a => Sp.markW Sp.markCo 3 a.1 a.2 }
theorem e1311_core (xs : List VCo) (v : Int) (ha : Sp.smallW 3 xs v = true) (hl : xs.length ≤ maxLen) : ∃ n, abody Γ (orc [e75]) n n1311 [XV.mk false [X.c (X0.row tCo xs true)], ZX Zi v] = some (rMk tCo (Sp.addW 3 xs v) (Sp.markW Sp.markCo 3 xs v)) := by
  obtain ⟨h1, h2⟩ := smallW_of ha
  have hl : xs.length ≤ 9223372036854775807 := hl
  refine ⟨xs.length + 1, (f1311_raw _ xs v).trans ?_⟩
  refine mark_loop (c := 3) (g := Sp.markCo) (R := rMk tCo) (fun m v k acc => f1311_L0 (xs.length + 1) m v k acc) (fun m v k acc hk => ?_) (fun m v k acc h hlen h0 h1 => ?_) xs.length 0 _ v xs (Nat.zero_add _) (Nat.lt_succ_self _) hl h1 h2
  · show f1311_L0 _ _ _ _ _ = _
    rw [f1311_L0_step, nat_ge hk, cond_false]
  · show f1311_L0 _ _ _ _ _ = _
    have e1 : IntKind.i64.wrap (v + 1) = v + 1 := wrap64 (by omega) (by omega)
    have e2 : IntKind.i64.wrap (v + 1 + 1) = v + 2 := (wrap64 (by omega) (by omega)).trans (by omega)
    have e3 : IntKind.i64.wrap (v + 2 + 1) = v + (3 : Nat) := (wrap64 (by omega) (by omega)).trans (by omega)
    rw [f1311_L0_step, nat_lt h, cond_true, e1, e2, e3, Int.toNat_natCast]
    obtain ⟨a0, a1, a2, hx⟩ : ∃ a0 a1 a2, acc[k] = (a0, a1, a2) := ⟨acc[k].1, acc[k].2.1, acc[k].2.2, rfl⟩
    generalize g0 : rowUpd tCo acc k 0 [Cell.dat .str (Sp.mText v)] = A0
    generalize g1 : rowUpd tCo A0 k 1 [Cell.dat (.int .i64) (v + 1)] = A1
    have u0 : A0 = acc.set k (Sp.mText v, a1, a2) := g0.symm.trans (rowUpd_at h hx rfl)
    have u1 : A1 = acc.set k (Sp.mText v, v + 1, a2) := g1.symm.trans (upd_next h u0 rfl)
    have u2 : rowUpd tCo A1 k 2 [Cell.dat .bool ((v + 2).tmod 3 == 0)] = acc.set k (Sp.mText v, v + 1, (v + 2).tmod 3 == 0) := upd_next h u1 rfl
    have l0 : List.length A0 = List.length acc := (congrArg List.length u0).trans (List.length_set ..)
    have l1 : List.length A1 = List.length acc := (congrArg List.length u1).trans (List.length_set ..)
    rw [l0, l1, nat_lt h, guard0, mOK_of (by omega), chkT, chkT, chkT, chkT, next64 h hlen]
    exact congrArg (fun z => f1311_L0 (xs.length + 1) m (v + (3 : Nat)) ((k + 1 : Nat) : Int) z) (u2.trans (congrArg (fun z => acc.set k z) (show (Sp.mText v, v + 1, (v + 2).tmod 3 == 0) = Sp.markCo acc[k] v from rfl)))
theorem e1311_ok : Valid PP Γ e1311 := valid_len ok (vcons e75_ok vnil) fun a ha hl => e1311_core a.1 a.2 ha (hl _ (List.mem_cons_self) _ (List.mem_cons_self)).1
def Sp.markRw (x : VRw) (k : Int) : VRw := Sp.markW Sp.markV 3 x k
def Sp.wtRw (x : VRw) : Nat := 3 * x.length
noncomputable def f1313_L0 (n m0 : Nat) (y0 y1 : Int) (y2 : List (List (Int × Int × ByteArray))) : Option Res := loopAt Γ (orc [e45]) n (50 : Nat) (1 : Nat) [(0 : Nat)] [Pth.r, Pth.l, Pth.r, Pth.b] m0 (St.mk (Slot.val (Val.one (Cell.own (0 : Nat))) :: ZS Zi y0 :: ZN 3 (ZS Zi y1 :: ZN 13 [])) [AObj.row (Zi.pair (Zi.pair Ty.str)).slice y2 true])
theorem f1313_L0_step (n m0 : Nat) (y0 y1 : Int) (y2 : List (List (Int × Int × ByteArray))) : f1313_L0 n (m0 + 1) y0 y1 y2 = bif decide (y1 < (↑y2.length : Int)) then chk (decide ((0 : Int) ≤ y1) && decide (y1 < (↑y2.length : Int))) (chk (Sp.smallW (3 : Nat) (y2.getD y1.toNat []) y0) (f1313_L0 n m0 (Sp.addW (3 : Int) (y2.getD y1.toNat []) y0) (IntKind.i64.wrap (y1 + (1 : Int))) (y2.set y1.toNat (Sp.markW Sp.markV (3 : Int) (y2.getD y1.toNat []) y0)))) else some (Res.mk [ZX Zi y0] [X.c (X0.row (Zi.pair (Zi.pair Ty.str)).slice y2 true)]) := by kernel_rfl
theorem f1313_raw (n : Nat) (x0 : List (List (Int × Int × ByteArray))) (x1 : Int) : abody Γ (orc [e45]) n 50 [XV.mk false [X.c (X0.row (Zi.pair (Zi.pair Ty.str)).slice x0 true)], ZX Zi x1] = f1313_L0 n n x1 (0 : Int) x0 := by kernel_rfl

noncomputable def e1313 : Ent := { f := n1313, ins := [Sh.one (C0.row tRw), Sh.one cI], outs := [Sh.one cI], upd := [Sh.one (C0.row tRw)], pre := fun a => Sp.smallU Sp.wtRw a.1 a.2, spec := fun a => Sp.addU Sp.wtRw a.1 a.2, wrt := fun a => Sp.markU Sp.markRw Sp.wtRw a.1 a.2 }
theorem e1313_core (xs : List VRw) (v : Int) (ha : Sp.smallU Sp.wtRw xs v = true) (hl : xs.length ≤ maxLen) : ∃ n, abody Γ (orc [e45]) n n1313 [XV.mk false [X.c (X0.row tRw xs true)], ZX Zi v] = some (rMk tRw (Sp.addU Sp.wtRw xs v) (Sp.markU Sp.markRw Sp.wtRw xs v)) := by
  obtain ⟨h1, h2⟩ := smallU_of ha
  have hl : xs.length ≤ 9223372036854775807 := hl
  refine ⟨xs.length + 1, (f1313_raw _ xs v).trans ?_⟩
  refine markU_loop (g := Sp.markRw) (w := Sp.wtRw) (R := rMk tRw) (fun m v k acc => f1313_L0 (xs.length + 1) m v k acc) (fun m v k acc hk => ?_) (fun m v k acc h hlen h0 h1 => ?_) xs.length 0 _ v xs (Nat.zero_add _) (Nat.lt_succ_self _) hl h1 h2
  · show f1313_L0 _ _ _ _ _ = _
    rw [f1313_L0_step, nat_ge hk, cond_false]
  · show f1313_L0 _ _ _ _ _ = _
    have hw : Sp.wtRw acc[k] = 3 * List.length acc[k] := rfl
    rw [hw] at h1 ⊢
    have g1 : Sp.smallW 3 acc[k] v = true := smallW_mk (by omega) (by omega)
    have e3 : Sp.addW 3 acc[k] v = v + ((3 * List.length acc[k] : Nat) : Int) := by unfold Sp.addW; omega
    rw [f1313_L0_step, nat_lt h, cond_true, guard0, chkT, getD_nat acc k _ h, g1, chkT, e3, Int.toNat_natCast, next64 h hlen]
    rfl
theorem e1313_ok : Valid PP Γ e1313 := valid_len ok (vcons e45_ok vnil) fun a ha hl => e1313_core a.1 a.2 ha (hl _ (List.mem_cons_self) _ (List.mem_cons_self)).1
def Sp.markIx (x : VIx) (k : Int) : VIx := (Sp.mText k, Sp.markW Sp.markI 1 x.2 (k + 1))
def Sp.wtIx (x : VIx) : Nat := 1 + x.2.length
noncomputable def f1312_L0 (n m0 : Nat) (y0 y1 : Int) (y2 : List (ByteArray × List Int)) : Option Res := loopAt Γ (orc [e75, e161]) n (49 : Nat) (1 : Nat) [(0 : Nat)] [Pth.r, Pth.l, Pth.r, Pth.b] m0 (St.mk (Slot.val (Val.one (Cell.own (0 : Nat))) :: ZS Zi y0 :: ZN 3 (ZS Zi y1 :: ZN 22 [])) [AObj.row (Ty.str.pair Zi.slice) y2 true])
theorem f1312_L0_step (n m0 : Nat) (y0 y1 : Int) (y2 : List (ByteArray × List Int)) : f1312_L0 n (m0 + 1) y0 y1 y2 = bif decide (y1 < (↑y2.length : Int)) then chk (Sp.mOK y0) (chk (decide ((0 : Int) ≤ y1) && decide (y1 < (↑y2.length : Int))) (chk (decide ((0 : Int) ≤ y1) && decide (y1 < (↑(rowUpd (Ty.str.pair Zi.slice) y2 y1.toNat (0 : Nat) [Cell.dat Ty.str (Sp.mText y0)]).length : Int))) (chk (Sp.smallW (1 : Nat) ((rowUpd (Ty.str.pair Zi.slice) y2 y1.toNat (0 : Nat) [Cell.dat Ty.str (Sp.mText y0)]).getD y1.toNat (ByteArray.mk #[], [])).2 (IntKind.i64.wrap (y0 + (1 : Int)))) (f1312_L0 n m0 (Sp.addW (1 : Int) ((rowUpd (Ty.str.pair Zi.slice) y2 y1.toNat (0 : Nat) [Cell.dat Ty.str (Sp.mText y0)]).getD y1.toNat (ByteArray.mk #[], [])).2 (IntKind.i64.wrap (y0 + (1 : Int)))) (IntKind.i64.wrap (y1 + (1 : Int))) (rowUpd (Ty.str.pair Zi.slice) (rowUpd (Ty.str.pair Zi.slice) y2 y1.toNat (0 : Nat) [Cell.dat Ty.str (Sp.mText y0)]) y1.toNat (1 : Nat) [Cell.dat Zi.slice (Sp.markW Sp.markI (1 : Int) ((rowUpd (Ty.str.pair Zi.slice) y2 y1.toNat (0 : Nat) [Cell.dat Ty.str (Sp.mText y0)]).getD y1.toNat (ByteArray.mk #[], [])).2 (IntKind.i64.wrap (y0 + (1 : Int))))]))))) else some (Res.mk [ZX Zi y0] [X.c (X0.row (Ty.str.pair Zi.slice) y2 true)]) := by kernel_rfl
theorem f1312_raw (n : Nat) (x0 : List (ByteArray × List Int)) (x1 : Int) : abody Γ (orc [e75, e161]) n 49 [XV.mk false [X.c (X0.row (Ty.str.pair Zi.slice) x0 true)], ZX Zi x1] = f1312_L0 n n x1 (0 : Int) x0 := by kernel_rfl

noncomputable def e1312 : Ent := { f := n1312, ins := [Sh.one (C0.row tIx), Sh.one cI], outs := [Sh.one cI], upd := [Sh.one (C0.row tIx)], pre := fun a => Sp.smallU Sp.wtIx a.1 a.2, spec := fun a => Sp.addU Sp.wtIx a.1 a.2, wrt := fun a => Sp.markU Sp.markIx Sp.wtIx a.1 a.2 }
theorem e1312_core (xs : List VIx) (v : Int) (ha : Sp.smallU Sp.wtIx xs v = true) (hl : xs.length ≤ maxLen) : ∃ n, abody Γ (orc [e75, e161]) n n1312 [XV.mk false [X.c (X0.row tIx xs true)], ZX Zi v] = some (rMk tIx (Sp.addU Sp.wtIx xs v) (Sp.markU Sp.markIx Sp.wtIx xs v)) := by
  obtain ⟨h1, h2⟩ := smallU_of ha
  have hl : xs.length ≤ 9223372036854775807 := hl
  refine ⟨xs.length + 1, (f1312_raw _ xs v).trans ?_⟩
  refine markU_loop (g := Sp.markIx) (w := Sp.wtIx) (R := rMk tIx) (fun m v k acc => f1312_L0 (xs.length + 1) m v k acc) (fun m v k acc hk => ?_) (fun m v k acc h hlen h0 h1 => ?_) xs.length 0 _ v xs (Nat.zero_add _) (Nat.lt_succ_self _) hl h1 h2
  · show f1312_L0 _ _ _ _ _ = _
    rw [f1312_L0_step, nat_ge hk, cond_false]
  · show f1312_L0 _ _ _ _ _ = _
    have hw : Sp.wtIx acc[k] = 1 + acc[k].2.length := rfl
    rw [hw] at h1
    have e1 : IntKind.i64.wrap (v + 1) = v + 1 := wrap64 (by omega) (by omega)
    have g1 : Sp.smallW 1 acc[k].2 (v + 1) = true := smallW_mk (by omega) (by omega)
    have e3 : Sp.addW 1 acc[k].2 (v + 1) = v + (Sp.wtIx acc[k] : Nat) := by rw [hw]; unfold Sp.addW; omega
    obtain ⟨a0, a1, hx⟩ : ∃ a0 a1, acc[k] = (a0, a1) := ⟨acc[k].1, acc[k].2, rfl⟩
    rw [f1312_L0_step, nat_lt h, cond_true, e1, Int.toNat_natCast]
    generalize q0 : rowUpd tIx acc k 0 [Cell.dat .str (Sp.mText v)] = A0
    have u0 : A0 = acc.set k (Sp.mText v, a1) := q0.symm.trans (rowUpd_at h hx rfl)
    have w0 : List.getD A0 k (ByteArray.mk #[], []) = (Sp.mText v, a1) := by rw [u0]; exact getD_set h
    have l0 : List.length A0 = List.length acc := (congrArg List.length u0).trans (List.length_set ..)
    rw [hx] at g1 e3
    have g1 : Sp.smallW 1 a1 (v + 1) = true := g1
    have e3 : Sp.addW 1 a1 (v + 1) = v + (Sp.wtIx (a0, a1) : Nat) := e3
    rw [w0, l0, nat_lt h, guard0, mOK_of (by omega), chkT, chkT, chkT, next64 h hlen, hx]
    show chk (Sp.smallW 1 a1 (v + 1)) (f1312_L0 (xs.length + 1) m (Sp.addW 1 a1 (v + 1)) ((k + 1 : Nat) : Int) (rowUpd tIx A0 k 1 [Cell.dat (.slice tIn) (Sp.markW Sp.markI 1 a1 (v + 1))])) = _
    rw [g1, chkT, e3]
    exact congrArg (fun z => f1312_L0 (xs.length + 1) m (v + (Sp.wtIx (a0, a1) : Nat)) ((k + 1 : Nat) : Int) z) (show rowUpd tIx A0 k 1 [Cell.dat (.slice tIn) (Sp.markW Sp.markI 1 a1 (v + 1))] = acc.set k (Sp.markIx (a0, a1) v) from upd_next (t := tIx) h u0 rfl)
theorem e1312_ok : Valid PP Γ e1312 := valid_len ok (vcons e75_ok (vcons e161_ok vnil)) fun a ha hl => e1312_core a.1 a.2 ha (hl _ (List.mem_cons_self) _ (List.mem_cons_self)).1
def Sp.markDt (x : VDt) (k : Int) : VDt := (Sp.mText k, Sp.markU Sp.markRw Sp.wtRw x.2 (k + 1))
def Sp.wtDt (x : VDt) : Nat := 1 + Sp.wtW Sp.wtRw x.2
noncomputable def f1278_L0 (n m0 : Nat) (y0 y1 : Int) (y2 : List (ByteArray × List (List (Int × Int × ByteArray)))) : Option Res := loopAt Γ (orc [e75, e1313]) n (18 : Nat) (1 : Nat) [(0 : Nat)] [Pth.r, Pth.l, Pth.r, Pth.b] m0 (St.mk (Slot.val (Val.one (Cell.own (0 : Nat))) :: ZS Zi y0 :: ZN 3 (ZS Zi y1 :: ZN 22 [])) [AObj.row (Ty.str.pair (Zi.pair (Zi.pair Ty.str)).slice.slice) y2 true])
theorem f1278_L0_step (n m0 : Nat) (y0 y1 : Int) (y2 : List (ByteArray × List (List (Int × Int × ByteArray)))) : f1278_L0 n (m0 + 1) y0 y1 y2 = bif decide (y1 < (↑y2.length : Int)) then chk (Sp.mOK y0) (chk (decide ((0 : Int) ≤ y1) && decide (y1 < (↑y2.length : Int))) (chk (decide ((0 : Int) ≤ y1) && decide (y1 < (↑(rowUpd (Ty.str.pair (Zi.pair (Zi.pair Ty.str)).slice.slice) y2 y1.toNat (0 : Nat) [Cell.dat Ty.str (Sp.mText y0)]).length : Int))) (chk (Sp.smallU Sp.wtRw ((rowUpd (Ty.str.pair (Zi.pair (Zi.pair Ty.str)).slice.slice) y2 y1.toNat (0 : Nat) [Cell.dat Ty.str (Sp.mText y0)]).getD y1.toNat (ByteArray.mk #[], [])).2 (IntKind.i64.wrap (y0 + (1 : Int)))) (f1278_L0 n m0 (Sp.addU Sp.wtRw ((rowUpd (Ty.str.pair (Zi.pair (Zi.pair Ty.str)).slice.slice) y2 y1.toNat (0 : Nat) [Cell.dat Ty.str (Sp.mText y0)]).getD y1.toNat (ByteArray.mk #[], [])).2 (IntKind.i64.wrap (y0 + (1 : Int)))) (IntKind.i64.wrap (y1 + (1 : Int))) (rowUpd (Ty.str.pair (Zi.pair (Zi.pair Ty.str)).slice.slice) (rowUpd (Ty.str.pair (Zi.pair (Zi.pair Ty.str)).slice.slice) y2 y1.toNat (0 : Nat) [Cell.dat Ty.str (Sp.mText y0)]) y1.toNat (1 : Nat) [Cell.dat (Zi.pair (Zi.pair Ty.str)).slice.slice (Sp.markU Sp.markRw Sp.wtRw ((rowUpd (Ty.str.pair (Zi.pair (Zi.pair Ty.str)).slice.slice) y2 y1.toNat (0 : Nat) [Cell.dat Ty.str (Sp.mText y0)]).getD y1.toNat (ByteArray.mk #[], [])).2 (IntKind.i64.wrap (y0 + (1 : Int))))]))))) else some (Res.mk [ZX Zi y0] [X.c (X0.row (Ty.str.pair (Zi.pair (Zi.pair Ty.str)).slice.slice) y2 true)]) := by kernel_rfl
theorem f1278_raw (n : Nat) (x0 : List (ByteArray × List (List (Int × Int × ByteArray)))) (x1 : Int) : abody Γ (orc [e75, e1313]) n 18 [XV.mk false [X.c (X0.row (Ty.str.pair (Zi.pair (Zi.pair Ty.str)).slice.slice) x0 true)], ZX Zi x1] = f1278_L0 n n x1 (0 : Int) x0 := by kernel_rfl

noncomputable def e1278 : Ent := { f := n1278, ins := [Sh.one (C0.row tDt), Sh.one cI], outs := [Sh.one cI], upd := [Sh.one (C0.row tDt)], pre := fun a => Sp.smallU Sp.wtDt a.1 a.2, spec := fun a => Sp.addU Sp.wtDt a.1 a.2, wrt := fun a => Sp.markU Sp.markDt Sp.wtDt a.1 a.2 }
theorem e1278_core (xs : List VDt) (v : Int) (ha : Sp.smallU Sp.wtDt xs v = true) (hl : xs.length ≤ maxLen) : ∃ n, abody Γ (orc [e75, e1313]) n n1278 [XV.mk false [X.c (X0.row tDt xs true)], ZX Zi v] = some (rMk tDt (Sp.addU Sp.wtDt xs v) (Sp.markU Sp.markDt Sp.wtDt xs v)) := by
  obtain ⟨h1, h2⟩ := smallU_of ha
  have hl : xs.length ≤ 9223372036854775807 := hl
  refine ⟨xs.length + 1, (f1278_raw _ xs v).trans ?_⟩
  refine markU_loop (g := Sp.markDt) (w := Sp.wtDt) (R := rMk tDt) (fun m v k acc => f1278_L0 (xs.length + 1) m v k acc) (fun m v k acc hk => ?_) (fun m v k acc h hlen h0 h1 => ?_) xs.length 0 _ v xs (Nat.zero_add _) (Nat.lt_succ_self _) hl h1 h2
  · show f1278_L0 _ _ _ _ _ = _
    rw [f1278_L0_step, nat_ge hk, cond_false]
  · show f1278_L0 _ _ _ _ _ = _
    have hw : Sp.wtDt acc[k] = 1 + Sp.wtW Sp.wtRw acc[k].2 := rfl
    rw [hw] at h1
    have e1 : IntKind.i64.wrap (v + 1) = v + 1 := wrap64 (by omega) (by omega)
    have g1 : Sp.smallU Sp.wtRw acc[k].2 (v + 1) = true := smallU_mk (by omega) (by omega)
    have e3 : Sp.addU Sp.wtRw acc[k].2 (v + 1) = v + (Sp.wtDt acc[k] : Nat) := by rw [hw]; unfold Sp.addU; omega
    obtain ⟨a0, a1, hx⟩ : ∃ a0 a1, acc[k] = (a0, a1) := ⟨acc[k].1, acc[k].2, rfl⟩
    rw [f1278_L0_step, nat_lt h, cond_true, e1, Int.toNat_natCast]
    generalize q0 : rowUpd tDt acc k 0 [Cell.dat .str (Sp.mText v)] = A0
    have u0 : A0 = acc.set k (Sp.mText v, a1) := q0.symm.trans (rowUpd_at h hx rfl)
    have w0 : List.getD A0 k (ByteArray.mk #[], []) = (Sp.mText v, a1) := by rw [u0]; exact getD_set h
    have l0 : List.length A0 = List.length acc := (congrArg List.length u0).trans (List.length_set ..)
    rw [hx] at g1 e3
    have g1 : Sp.smallU Sp.wtRw a1 (v + 1) = true := g1
    have e3 : Sp.addU Sp.wtRw a1 (v + 1) = v + (Sp.wtDt (a0, a1) : Nat) := e3
    rw [w0, l0, nat_lt h, guard0, mOK_of (by omega), chkT, chkT, chkT, next64 h hlen, hx]
    show chk (Sp.smallU Sp.wtRw a1 (v + 1)) (f1278_L0 (xs.length + 1) m (Sp.addU Sp.wtRw a1 (v + 1)) ((k + 1 : Nat) : Int) (rowUpd tDt A0 k 1 [Cell.dat (.slice tRw) (Sp.markU Sp.markRw Sp.wtRw a1 (v + 1))])) = _
    rw [g1, chkT, e3]
    exact congrArg (fun z => f1278_L0 (xs.length + 1) m (v + (Sp.wtDt (a0, a1) : Nat)) ((k + 1 : Nat) : Int) z) (show rowUpd tDt A0 k 1 [Cell.dat (.slice tRw) (Sp.markU Sp.markRw Sp.wtRw a1 (v + 1))] = acc.set k (Sp.markDt (a0, a1) v) from upd_next (t := tDt) h u0 rfl)
theorem e1278_ok : Valid PP Γ e1278 := valid_len ok (vcons e75_ok (vcons e1313_ok vnil)) fun a ha hl => e1278_core a.1 a.2 ha (hl _ (List.mem_cons_self) _ (List.mem_cons_self)).1
def Sp.markTb (x : VTb) (k : Int) : VTb := (Sp.mText k, Sp.markW Sp.markCo 3 x.2.1 (k + 1), Sp.addW 3 x.2.1 (k + 1), Sp.markU Sp.markIx Sp.wtIx x.2.2.2 (Sp.addW 3 x.2.1 (k + 1) + 1))
def Sp.wtTb (x : VTb) : Nat := 2 + 3 * x.2.1.length + Sp.wtW Sp.wtIx x.2.2.2
noncomputable def f1277_L0 (n m0 : Nat) (y0 y1 : Int) (y2 : List (ByteArray × List (ByteArray × Int × Bool) × Int × List (ByteArray × List Int))) : Option Res := loopAt Γ (orc [e75, e1311, e1312]) n (17 : Nat) (1 : Nat) [(0 : Nat)] [Pth.r, Pth.l, Pth.r, Pth.b] m0 (St.mk (Slot.val (Val.one (Cell.own (0 : Nat))) :: ZS Zi y0 :: ZN 3 (ZS Zi y1 :: ZN 36 [])) [AObj.row (Ty.str.pair ((Ty.str.pair (Zi.pair Ty.bool)).slice.pair (Zi.pair (Ty.str.pair Zi.slice).slice))) y2 true])
theorem f1277_L0_step (n m0 : Nat) (y0 y1 : Int) (y2 : List (ByteArray × List (ByteArray × Int × Bool) × Int × List (ByteArray × List Int))) : f1277_L0 n (m0 + 1) y0 y1 y2 = bif decide (y1 < (↑y2.length : Int)) then chk (Sp.mOK y0) (chk (decide ((0 : Int) ≤ y1) && decide (y1 < (↑y2.length : Int))) (chk (decide ((0 : Int) ≤ y1) && decide (y1 < (↑(rowUpd (Ty.str.pair ((Ty.str.pair (Zi.pair Ty.bool)).slice.pair (Zi.pair (Ty.str.pair Zi.slice).slice))) y2 y1.toNat (0 : Nat) [Cell.dat Ty.str (Sp.mText y0)]).length : Int))) (chk (Sp.smallW (3 : Nat) ((rowUpd (Ty.str.pair ((Ty.str.pair (Zi.pair Ty.bool)).slice.pair (Zi.pair (Ty.str.pair Zi.slice).slice))) y2 y1.toNat (0 : Nat) [Cell.dat Ty.str (Sp.mText y0)]).getD y1.toNat (ByteArray.mk #[], [], (0 : Int), [])).2.1 (IntKind.i64.wrap (y0 + (1 : Int)))) (chk (decide ((0 : Int) ≤ y1) && decide (y1 < (↑(rowUpd (Ty.str.pair ((Ty.str.pair (Zi.pair Ty.bool)).slice.pair (Zi.pair (Ty.str.pair Zi.slice).slice))) (rowUpd (Ty.str.pair ((Ty.str.pair (Zi.pair Ty.bool)).slice.pair (Zi.pair (Ty.str.pair Zi.slice).slice))) y2 y1.toNat (0 : Nat) [Cell.dat Ty.str (Sp.mText y0)]) y1.toNat (1 : Nat) [Cell.dat (Ty.str.pair (Zi.pair Ty.bool)).slice (Sp.markW Sp.markCo (3 : Int) ((rowUpd (Ty.str.pair ((Ty.str.pair (Zi.pair Ty.bool)).slice.pair (Zi.pair (Ty.str.pair Zi.slice).slice))) y2 y1.toNat (0 : Nat) [Cell.dat Ty.str (Sp.mText y0)]).getD y1.toNat (ByteArray.mk #[], [], (0 : Int), [])).2.1 (IntKind.i64.wrap (y0 + (1 : Int))))]).length : Int))) (chk (decide ((0 : Int) ≤ y1) && decide (y1 < (↑(rowUpd (Ty.str.pair ((Ty.str.pair (Zi.pair Ty.bool)).slice.pair (Zi.pair (Ty.str.pair Zi.slice).slice))) (rowUpd (Ty.str.pair ((Ty.str.pair (Zi.pair Ty.bool)).slice.pair (Zi.pair (Ty.str.pair Zi.slice).slice))) (rowUpd (Ty.str.pair ((Ty.str.pair (Zi.pair Ty.bool)).slice.pair (Zi.pair (Ty.str.pair Zi.slice).slice))) y2 y1.toNat (0 : Nat) [Cell.dat Ty.str (Sp.mText y0)]) y1.toNat (1 : Nat) [Cell.dat (Ty.str.pair (Zi.pair Ty.bool)).slice (Sp.markW Sp.markCo (3 : Int) ((rowUpd (Ty.str.pair ((Ty.str.pair (Zi.pair Ty.bool)).slice.pair (Zi.pair (Ty.str.pair Zi.slice).slice))) y2 y1.toNat (0 : Nat) [Cell.dat Ty.str (Sp.mText y0)]).getD y1.toNat (ByteArray.mk #[], [], (0 : Int), [])).2.1 (IntKind.i64.wrap (y0 + (1 : Int))))]) y1.toNat (2 : Nat) [Cell.dat Zi (Sp.addW (3 : Int) ((rowUpd (Ty.str.pair ((Ty.str.pair (Zi.pair Ty.bool)).slice.pair (Zi.pair (Ty.str.pair Zi.slice).slice))) y2 y1.toNat (0 : Nat) [Cell.dat Ty.str (Sp.mText y0)]).getD y1.toNat (ByteArray.mk #[], [], (0 : Int), [])).2.1 (IntKind.i64.wrap (y0 + (1 : Int))))]).length : Int))) (chk (Sp.smallU Sp.wtIx ((rowUpd (Ty.str.pair ((Ty.str.pair (Zi.pair Ty.bool)).slice.pair (Zi.pair (Ty.str.pair Zi.slice).slice))) (rowUpd (Ty.str.pair ((Ty.str.pair (Zi.pair Ty.bool)).slice.pair (Zi.pair (Ty.str.pair Zi.slice).slice))) (rowUpd (Ty.str.pair ((Ty.str.pair (Zi.pair Ty.bool)).slice.pair (Zi.pair (Ty.str.pair Zi.slice).slice))) y2 y1.toNat (0 : Nat) [Cell.dat Ty.str (Sp.mText y0)]) y1.toNat (1 : Nat) [Cell.dat (Ty.str.pair (Zi.pair Ty.bool)).slice (Sp.markW Sp.markCo (3 : Int) ((rowUpd (Ty.str.pair ((Ty.str.pair (Zi.pair Ty.bool)).slice.pair (Zi.pair (Ty.str.pair Zi.slice).slice))) y2 y1.toNat (0 : Nat) [Cell.dat Ty.str (Sp.mText y0)]).getD y1.toNat (ByteArray.mk #[], [], (0 : Int), [])).2.1 (IntKind.i64.wrap (y0 + (1 : Int))))]) y1.toNat (2 : Nat) [Cell.dat Zi (Sp.addW (3 : Int) ((rowUpd (Ty.str.pair ((Ty.str.pair (Zi.pair Ty.bool)).slice.pair (Zi.pair (Ty.str.pair Zi.slice).slice))) y2 y1.toNat (0 : Nat) [Cell.dat Ty.str (Sp.mText y0)]).getD y1.toNat (ByteArray.mk #[], [], (0 : Int), [])).2.1 (IntKind.i64.wrap (y0 + (1 : Int))))]).getD y1.toNat (ByteArray.mk #[], [], (0 : Int), [])).2.2.2 (IntKind.i64.wrap (Sp.addW (3 : Int) ((rowUpd (Ty.str.pair ((Ty.str.pair (Zi.pair Ty.bool)).slice.pair (Zi.pair (Ty.str.pair Zi.slice).slice))) y2 y1.toNat (0 : Nat) [Cell.dat Ty.str (Sp.mText y0)]).getD y1.toNat (ByteArray.mk #[], [], (0 : Int), [])).2.1 (IntKind.i64.wrap (y0 + (1 : Int))) + (1 : Int)))) (f1277_L0 n m0 (Sp.addU Sp.wtIx ((rowUpd (Ty.str.pair ((Ty.str.pair (Zi.pair Ty.bool)).slice.pair (Zi.pair (Ty.str.pair Zi.slice).slice))) (rowUpd (Ty.str.pair ((Ty.str.pair (Zi.pair Ty.bool)).slice.pair (Zi.pair (Ty.str.pair Zi.slice).slice))) (rowUpd (Ty.str.pair ((Ty.str.pair (Zi.pair Ty.bool)).slice.pair (Zi.pair (Ty.str.pair Zi.slice).slice))) y2 y1.toNat (0 : Nat) [Cell.dat Ty.str (Sp.mText y0)]) y1.toNat (1 : Nat) [Cell.dat (Ty.str.pair (Zi.pair Ty.bool)).slice (Sp.markW Sp.markCo (3 : Int) ((rowUpd (Ty.str.pair ((Ty.str.pair (Zi.pair Ty.bool)).slice.pair (Zi.pair (Ty.str.pair Zi.slice).slice))) y2 y1.toNat (0 : Nat) [Cell.dat Ty.str (Sp.mText y0)]).getD y1.toNat (ByteArray.mk #[], [], (0 : Int), [])).2.1 (IntKind.i64.wrap (y0 + (1 : Int))))]) y1.toNat (2 : Nat) [Cell.dat Zi (Sp.addW (3 : Int) ((rowUpd (Ty.str.pair ((Ty.str.pair (Zi.pair Ty.bool)).slice.pair (Zi.pair (Ty.str.pair Zi.slice).slice))) y2 y1.toNat (0 : Nat) [Cell.dat Ty.str (Sp.mText y0)]).getD y1.toNat (ByteArray.mk #[], [], (0 : Int), [])).2.1 (IntKind.i64.wrap (y0 + (1 : Int))))]).getD y1.toNat (ByteArray.mk #[], [], (0 : Int), [])).2.2.2 (IntKind.i64.wrap (Sp.addW (3 : Int) ((rowUpd (Ty.str.pair ((Ty.str.pair (Zi.pair Ty.bool)).slice.pair (Zi.pair (Ty.str.pair Zi.slice).slice))) y2 y1.toNat (0 : Nat) [Cell.dat Ty.str (Sp.mText y0)]).getD y1.toNat (ByteArray.mk #[], [], (0 : Int), [])).2.1 (IntKind.i64.wrap (y0 + (1 : Int))) + (1 : Int)))) (IntKind.i64.wrap (y1 + (1 : Int))) (rowUpd (Ty.str.pair ((Ty.str.pair (Zi.pair Ty.bool)).slice.pair (Zi.pair (Ty.str.pair Zi.slice).slice))) (rowUpd (Ty.str.pair ((Ty.str.pair (Zi.pair Ty.bool)).slice.pair (Zi.pair (Ty.str.pair Zi.slice).slice))) (rowUpd (Ty.str.pair ((Ty.str.pair (Zi.pair Ty.bool)).slice.pair (Zi.pair (Ty.str.pair Zi.slice).slice))) (rowUpd (Ty.str.pair ((Ty.str.pair (Zi.pair Ty.bool)).slice.pair (Zi.pair (Ty.str.pair Zi.slice).slice))) y2 y1.toNat (0 : Nat) [Cell.dat Ty.str (Sp.mText y0)]) y1.toNat (1 : Nat) [Cell.dat (Ty.str.pair (Zi.pair Ty.bool)).slice (Sp.markW Sp.markCo (3 : Int) ((rowUpd (Ty.str.pair ((Ty.str.pair (Zi.pair Ty.bool)).slice.pair (Zi.pair (Ty.str.pair Zi.slice).slice))) y2 y1.toNat (0 : Nat) [Cell.dat Ty.str (Sp.mText y0)]).getD y1.toNat (ByteArray.mk #[], [], (0 : Int), [])).2.1 (IntKind.i64.wrap (y0 + (1 : Int))))]) y1.toNat (2 : Nat) [Cell.dat Zi (Sp.addW (3 : Int) ((rowUpd (Ty.str.pair ((Ty.str.pair (Zi.pair Ty.bool)).slice.pair (Zi.pair (Ty.str.pair Zi.slice).slice))) y2 y1.toNat (0 : Nat) [Cell.dat Ty.str (Sp.mText y0)]).getD y1.toNat (ByteArray.mk #[], [], (0 : Int), [])).2.1 (IntKind.i64.wrap (y0 + (1 : Int))))]) y1.toNat (3 : Nat) [Cell.dat (Ty.str.pair Zi.slice).slice (Sp.markU Sp.markIx Sp.wtIx ((rowUpd (Ty.str.pair ((Ty.str.pair (Zi.pair Ty.bool)).slice.pair (Zi.pair (Ty.str.pair Zi.slice).slice))) (rowUpd (Ty.str.pair ((Ty.str.pair (Zi.pair Ty.bool)).slice.pair (Zi.pair (Ty.str.pair Zi.slice).slice))) (rowUpd (Ty.str.pair ((Ty.str.pair (Zi.pair Ty.bool)).slice.pair (Zi.pair (Ty.str.pair Zi.slice).slice))) y2 y1.toNat (0 : Nat) [Cell.dat Ty.str (Sp.mText y0)]) y1.toNat (1 : Nat) [Cell.dat (Ty.str.pair (Zi.pair Ty.bool)).slice (Sp.markW Sp.markCo (3 : Int) ((rowUpd (Ty.str.pair ((Ty.str.pair (Zi.pair Ty.bool)).slice.pair (Zi.pair (Ty.str.pair Zi.slice).slice))) y2 y1.toNat (0 : Nat) [Cell.dat Ty.str (Sp.mText y0)]).getD y1.toNat (ByteArray.mk #[], [], (0 : Int), [])).2.1 (IntKind.i64.wrap (y0 + (1 : Int))))]) y1.toNat (2 : Nat) [Cell.dat Zi (Sp.addW (3 : Int) ((rowUpd (Ty.str.pair ((Ty.str.pair (Zi.pair Ty.bool)).slice.pair (Zi.pair (Ty.str.pair Zi.slice).slice))) y2 y1.toNat (0 : Nat) [Cell.dat Ty.str (Sp.mText y0)]).getD y1.toNat (ByteArray.mk #[], [], (0 : Int), [])).2.1 (IntKind.i64.wrap (y0 + (1 : Int))))]).getD y1.toNat (ByteArray.mk #[], [], (0 : Int), [])).2.2.2 (IntKind.i64.wrap (Sp.addW (3 : Int) ((rowUpd (Ty.str.pair ((Ty.str.pair (Zi.pair Ty.bool)).slice.pair (Zi.pair (Ty.str.pair Zi.slice).slice))) y2 y1.toNat (0 : Nat) [Cell.dat Ty.str (Sp.mText y0)]).getD y1.toNat (ByteArray.mk #[], [], (0 : Int), [])).2.1 (IntKind.i64.wrap (y0 + (1 : Int))) + (1 : Int))))])))))))) else some (Res.mk [ZX Zi y0] [X.c (X0.row (Ty.str.pair ((Ty.str.pair (Zi.pair Ty.bool)).slice.pair (Zi.pair (Ty.str.pair Zi.slice).slice))) y2 true)]) := by kernel_rfl
theorem f1277_raw (n : Nat) (x0 : List (ByteArray × List (ByteArray × Int × Bool) × Int × List (ByteArray × List Int))) (x1 : Int) : abody Γ (orc [e75, e1311, e1312]) n 17 [XV.mk false [X.c (X0.row (Ty.str.pair ((Ty.str.pair (Zi.pair Ty.bool)).slice.pair (Zi.pair (Ty.str.pair Zi.slice).slice))) x0 true)], ZX Zi x1] = f1277_L0 n n x1 (0 : Int) x0 := by kernel_rfl

noncomputable def e1277 : Ent := { f := n1277, ins := [Sh.one (C0.row tTb), Sh.one cI], outs := [Sh.one cI], upd := [Sh.one (C0.row tTb)], pre := fun a => Sp.smallU Sp.wtTb a.1 a.2, spec := fun a => Sp.addU Sp.wtTb a.1 a.2, wrt := fun a => Sp.markU Sp.markTb Sp.wtTb a.1 a.2 }
theorem e1277_core (xs : List VTb) (v : Int) (ha : Sp.smallU Sp.wtTb xs v = true) (hl : xs.length ≤ maxLen) : ∃ n, abody Γ (orc [e75, e1311, e1312]) n n1277 [XV.mk false [X.c (X0.row tTb xs true)], ZX Zi v] = some (rMk tTb (Sp.addU Sp.wtTb xs v) (Sp.markU Sp.markTb Sp.wtTb xs v)) := by
  obtain ⟨h1, h2⟩ := smallU_of ha
  have hl : xs.length ≤ 9223372036854775807 := hl
  refine ⟨xs.length + 1, (f1277_raw _ xs v).trans ?_⟩
  refine markU_loop (g := Sp.markTb) (w := Sp.wtTb) (R := rMk tTb) (fun m v k acc => f1277_L0 (xs.length + 1) m v k acc) (fun m v k acc hk => ?_) (fun m v k acc h hlen h0 h1 => ?_) xs.length 0 _ v xs (Nat.zero_add _) (Nat.lt_succ_self _) hl h1 h2
  · show f1277_L0 _ _ _ _ _ = _
    rw [f1277_L0_step, nat_ge hk, cond_false]
  · show f1277_L0 _ _ _ _ _ = _
    obtain ⟨a0, a1, a2, a3, hx⟩ : ∃ a0 a1 a2 a3, acc[k] = (a0, a1, a2, a3) := ⟨acc[k].1, acc[k].2.1, acc[k].2.2.1, acc[k].2.2.2, rfl⟩
    rw [hx] at h1
    have hw : Sp.wtTb (a0, a1, a2, a3) = 2 + 3 * a1.length + Sp.wtW Sp.wtIx a3 := rfl
    rw [hw] at h1
    have e1 : IntKind.i64.wrap (v + 1) = v + 1 := wrap64 (by omega) (by omega)
    have ea : Sp.addW 3 a1 (v + 1) = v + 1 + 3 * (a1.length : Int) := rfl
    have e2 : IntKind.i64.wrap (Sp.addW 3 a1 (v + 1) + 1) = Sp.addW 3 a1 (v + 1) + 1 := wrap64 (by omega) (by omega)
    have g1 : Sp.smallW 3 a1 (v + 1) = true := smallW_mk (by omega) (by omega)
    have g2 : Sp.smallU Sp.wtIx a3 (Sp.addW 3 a1 (v + 1) + 1) = true := smallU_mk (by omega) (by omega)
    have e3 : Sp.addU Sp.wtIx a3 (Sp.addW 3 a1 (v + 1) + 1) = v + (Sp.wtTb (a0, a1, a2, a3) : Nat) := by rw [hw]; unfold Sp.addU; omega
    rw [f1277_L0_step, nat_lt h, cond_true, e1, Int.toNat_natCast]
    generalize q0 : rowUpd tTb acc k 0 [Cell.dat .str (Sp.mText v)] = A0
    have u0 : A0 = acc.set k (Sp.mText v, a1, a2, a3) := q0.symm.trans (rowUpd_at h hx rfl)
    have w0 : List.getD A0 k (ByteArray.mk #[], [], (0 : Int), []) = (Sp.mText v, a1, a2, a3) := by rw [u0]; exact getD_set h
    rw [w0, show ((Sp.mText v, a1, a2, a3) : VTb).2.1 = a1 from rfl]
    generalize q1 : rowUpd tTb A0 k 1 [Cell.dat (.slice tCo) (Sp.markW Sp.markCo 3 a1 (v + 1))] = A1
    have u1 : A1 = acc.set k (Sp.mText v, Sp.markW Sp.markCo 3 a1 (v + 1), a2, a3) := q1.symm.trans (upd_next h u0 rfl)
    generalize q2 : rowUpd tTb A1 k 2 [Cell.dat (.int .i64) (Sp.addW (α := tCo.den) 3 a1 (v + 1))] = A2
    have u2 : A2 = acc.set k (Sp.mText v, Sp.markW Sp.markCo 3 a1 (v + 1), Sp.addW 3 a1 (v + 1), a3) := q2.symm.trans (upd_next h u1 rfl)
    have w2 : List.getD A2 k (ByteArray.mk #[], [], (0 : Int), []) = (Sp.mText v, Sp.markW Sp.markCo 3 a1 (v + 1), Sp.addW 3 a1 (v + 1), a3) := by rw [u2]; exact getD_set h
    have l0 : List.length A0 = List.length acc := (congrArg List.length u0).trans (List.length_set ..)
    have l1 : List.length A1 = List.length acc := (congrArg List.length u1).trans (List.length_set ..)
    have l2 : List.length A2 = List.length acc := (congrArg List.length u2).trans (List.length_set ..)
    rw [w2, l0, l1, l2, nat_lt h, guard0, mOK_of (by omega), next64 h hlen, hx]
    show chk true (chk true (chk true (chk (Sp.smallW 3 a1 (v + 1)) (chk true (chk true (chk (Sp.smallU Sp.wtIx a3 (IntKind.i64.wrap (Sp.addW 3 a1 (v + 1) + 1))) (f1277_L0 (xs.length + 1) m (Sp.addU Sp.wtIx a3 (IntKind.i64.wrap (Sp.addW 3 a1 (v + 1) + 1))) ((k + 1 : Nat) : Int) (rowUpd tTb A2 k 3 [Cell.dat (.slice tIx) (Sp.markU Sp.markIx Sp.wtIx a3 (IntKind.i64.wrap (Sp.addW 3 a1 (v + 1) + 1)))]))))))))  = _
    rw [e2, g1, g2, e3]
    simp only [chkT]
    exact congrArg (fun z => f1277_L0 (xs.length + 1) m (v + (Sp.wtTb (a0, a1, a2, a3) : Nat)) ((k + 1 : Nat) : Int) z) (show rowUpd tTb A2 k 3 [Cell.dat (.slice tIx) (Sp.markU Sp.markIx Sp.wtIx a3 (Sp.addW 3 a1 (v + 1) + 1))] = acc.set k (Sp.markTb (a0, a1, a2, a3) v) from upd_next (t := tTb) h u2 rfl)
theorem e1277_ok : Valid PP Γ e1277 := valid_len ok (vcons e75_ok (vcons e1311_ok (vcons e1312_ok vnil))) fun a ha hl => e1277_core a.1 a.2 ha (hl _ (List.mem_cons_self) _ (List.mem_cons_self)).1
def Sp.f1406_pre (x0 : ByteArray) (x1 : Int) (x2 x3 : ByteArray) (x4 : Int) (x5 : List (ByteArray × List (ByteArray × Int × Bool) × Int × List (ByteArray × List Int))) (x6 : List (ByteArray × List (List (Int × Int × ByteArray)))) : Bool := (bif decide ((Sp.f1064 x0 x1 x2 x3 x4 (1048576 : Int)).1 < (0 : Int)) then true else (bif decide (Sp.szE Sp.szTb x5 (Sp.f1064 x0 x1 x2 x3 x4 (1048576 : Int)).1 < (0 : Int)) then true else (bif decide (Sp.szE Sp.szDt x6 (Sp.szE Sp.szTb x5 (Sp.f1064 x0 x1 x2 x3 x4 (1048576 : Int)).1) < (0 : Int)) then true else (Sp.fits1068 x5 && (Sp.fits1363 x6 && (Sp.f1410_pre (Sp.f1067 x0 x1 x2 x3 x4).1.1 (Sp.f1067 x0 x1 x2 x3 x4).1.2.1 (Sp.f1067 x0 x1 x2 x3 x4).1.2.2.1 (Sp.f1067 x0 x1 x2 x3 x4).1.2.2.2.1 (Sp.f1067 x0 x1 x2 x3 x4).1.2.2.2.2 x5 x6 && (Sp.fits1068 x5 && (Sp.fits1363 x6 && (Sp.f1411_pre (Sp.f1067 x0 x1 x2 x3 x4).1.1 (Sp.f1067 x0 x1 x2 x3 x4).1.2.1 (Sp.f1067 x0 x1 x2 x3 x4).1.2.2.1 (Sp.f1067 x0 x1 x2 x3 x4).1.2.2.2.1 (Sp.f1067 x0 x1 x2 x3 x4).1.2.2.2.2 x5 x6 && (bif !Sp.eqW Sp.eqN (Sp.f1411 (Sp.f1067 x0 x1 x2 x3 x4).1.1 (Sp.f1067 x0 x1 x2 x3 x4).1.2.1 (Sp.f1067 x0 x1 x2 x3 x4).1.2.2.1 (Sp.f1067 x0 x1 x2 x3 x4).1.2.2.2.1 (Sp.f1067 x0 x1 x2 x3 x4).1.2.2.2.2 x5 x6).1.1 (Sp.f1410 (Sp.f1067 x0 x1 x2 x3 x4).1.1 (Sp.f1067 x0 x1 x2 x3 x4).1.2.1 (Sp.f1067 x0 x1 x2 x3 x4).1.2.2.1 (Sp.f1067 x0 x1 x2 x3 x4).1.2.2.2.1 (Sp.f1067 x0 x1 x2 x3 x4).1.2.2.2.2 x5 x6).1.1 then true else (bif (Sp.f1411 (Sp.f1067 x0 x1 x2 x3 x4).1.1 (Sp.f1067 x0 x1 x2 x3 x4).1.2.1 (Sp.f1067 x0 x1 x2 x3 x4).1.2.2.1 (Sp.f1067 x0 x1 x2 x3 x4).1.2.2.2.1 (Sp.f1067 x0 x1 x2 x3 x4).1.2.2.2.2 x5 x6).1.2 != (Sp.f1410 (Sp.f1067 x0 x1 x2 x3 x4).1.1 (Sp.f1067 x0 x1 x2 x3 x4).1.2.1 (Sp.f1067 x0 x1 x2 x3 x4).1.2.2.1 (Sp.f1067 x0 x1 x2 x3 x4).1.2.2.2.1 (Sp.f1067 x0 x1 x2 x3 x4).1.2.2.2.2 x5 x6).1.2 then true else (Sp.fits1068 x5 && (bif !Sp.eqW Sp.eqTb x5 x5 then true else (Sp.fits1363 x6 && (bif !Sp.eqW Sp.eqDt x6 x6 then true else (Sp.smallU Sp.wtTb x5 (1 : Int) && (Sp.smallU Sp.wtDt x6 (Sp.addU Sp.wtTb x5 (1 : Int)) && (bif decide (Sp.addU Sp.wtDt x6 (Sp.addU Sp.wtTb x5 (1 : Int)) < (0 : Int)) then true else (bif !Sp.eqW Sp.eqN (Sp.f1411 (Sp.f1067 x0 x1 x2 x3 x4).1.1 (Sp.f1067 x0 x1 x2 x3 x4).1.2.1 (Sp.f1067 x0 x1 x2 x3 x4).1.2.2.1 (Sp.f1067 x0 x1 x2 x3 x4).1.2.2.2.1 (Sp.f1067 x0 x1 x2 x3 x4).1.2.2.2.2 x5 x6).1.1 (Sp.f1410 (Sp.f1067 x0 x1 x2 x3 x4).1.1 (Sp.f1067 x0 x1 x2 x3 x4).1.2.1 (Sp.f1067 x0 x1 x2 x3 x4).1.2.2.1 (Sp.f1067 x0 x1 x2 x3 x4).1.2.2.2.1 (Sp.f1067 x0 x1 x2 x3 x4).1.2.2.2.2 x5 x6).1.1 then true else (bif (Sp.f1411 (Sp.f1067 x0 x1 x2 x3 x4).1.1 (Sp.f1067 x0 x1 x2 x3 x4).1.2.1 (Sp.f1067 x0 x1 x2 x3 x4).1.2.2.1 (Sp.f1067 x0 x1 x2 x3 x4).1.2.2.2.1 (Sp.f1067 x0 x1 x2 x3 x4).1.2.2.2.2 x5 x6).1.2 != (Sp.f1410 (Sp.f1067 x0 x1 x2 x3 x4).1.1 (Sp.f1067 x0 x1 x2 x3 x4).1.2.1 (Sp.f1067 x0 x1 x2 x3 x4).1.2.2.1 (Sp.f1067 x0 x1 x2 x3 x4).1.2.2.2.1 (Sp.f1067 x0 x1 x2 x3 x4).1.2.2.2.2 x5 x6).1.2 then true else (Sp.smallW (1 : Nat) (Sp.f1411 (Sp.f1067 x0 x1 x2 x3 x4).1.1 (Sp.f1067 x0 x1 x2 x3 x4).1.2.1 (Sp.f1067 x0 x1 x2 x3 x4).1.2.2.1 (Sp.f1067 x0 x1 x2 x3 x4).1.2.2.2.1 (Sp.f1067 x0 x1 x2 x3 x4).1.2.2.2.2 x5 x6).1.1 (1 : Int) && (Sp.smallW (1 : Nat) (Sp.markW Sp.markI (1 : Int) (Sp.f1411 (Sp.f1067 x0 x1 x2 x3 x4).1.1 (Sp.f1067 x0 x1 x2 x3 x4).1.2.1 (Sp.f1067 x0 x1 x2 x3 x4).1.2.2.1 (Sp.f1067 x0 x1 x2 x3 x4).1.2.2.2.1 (Sp.f1067 x0 x1 x2 x3 x4).1.2.2.2.2 x5 x6).1.1 (1 : Int)) (1 : Int) && (bif decide (Sp.heldW Sp.heldI (1 : Int) (Sp.markW Sp.markI (1 : Int) (Sp.f1411 (Sp.f1067 x0 x1 x2 x3 x4).1.1 (Sp.f1067 x0 x1 x2 x3 x4).1.2.1 (Sp.f1067 x0 x1 x2 x3 x4).1.2.2.1 (Sp.f1067 x0 x1 x2 x3 x4).1.2.2.2.1 (Sp.f1067 x0 x1 x2 x3 x4).1.2.2.2.2 x5 x6).1.1 (1 : Int)) (1 : Int) < (0 : Int)) then true else (bif Sp.heldW Sp.heldI (1 : Int) (Sp.markW Sp.markI (1 : Int) (Sp.f1411 (Sp.f1067 x0 x1 x2 x3 x4).1.1 (Sp.f1067 x0 x1 x2 x3 x4).1.2.1 (Sp.f1067 x0 x1 x2 x3 x4).1.2.2.1 (Sp.f1067 x0 x1 x2 x3 x4).1.2.2.2.1 (Sp.f1067 x0 x1 x2 x3 x4).1.2.2.2.2 x5 x6).1.1 (1 : Int)) (1 : Int) != Sp.addW (1 : Int) (Sp.f1411 (Sp.f1067 x0 x1 x2 x3 x4).1.1 (Sp.f1067 x0 x1 x2 x3 x4).1.2.1 (Sp.f1067 x0 x1 x2 x3 x4).1.2.2.1 (Sp.f1067 x0 x1 x2 x3 x4).1.2.2.2.1 (Sp.f1067 x0 x1 x2 x3 x4).1.2.2.2.2 x5 x6).1.1 (1 : Int) then true else (Sp.fits1068 x5 && (Sp.fits1363 x6 && (Sp.f1411_pre (Sp.f1067 x0 x1 x2 x3 x4).1.1 (Sp.f1067 x0 x1 x2 x3 x4).1.2.1 (Sp.f1067 x0 x1 x2 x3 x4).1.2.2.1 (Sp.f1067 x0 x1 x2 x3 x4).1.2.2.2.1 (Sp.f1067 x0 x1 x2 x3 x4).1.2.2.2.2 x5 x6 && (bif !Sp.eqW Sp.eqN (Sp.f1411 (Sp.f1067 x0 x1 x2 x3 x4).1.1 (Sp.f1067 x0 x1 x2 x3 x4).1.2.1 (Sp.f1067 x0 x1 x2 x3 x4).1.2.2.1 (Sp.f1067 x0 x1 x2 x3 x4).1.2.2.2.1 (Sp.f1067 x0 x1 x2 x3 x4).1.2.2.2.2 x5 x6).1.1 (Sp.f1410 (Sp.f1067 x0 x1 x2 x3 x4).1.1 (Sp.f1067 x0 x1 x2 x3 x4).1.2.1 (Sp.f1067 x0 x1 x2 x3 x4).1.2.2.1 (Sp.f1067 x0 x1 x2 x3 x4).1.2.2.2.1 (Sp.f1067 x0 x1 x2 x3 x4).1.2.2.2.2 x5 x6).1.1 then true else (bif (Sp.f1411 (Sp.f1067 x0 x1 x2 x3 x4).1.1 (Sp.f1067 x0 x1 x2 x3 x4).1.2.1 (Sp.f1067 x0 x1 x2 x3 x4).1.2.2.1 (Sp.f1067 x0 x1 x2 x3 x4).1.2.2.2.1 (Sp.f1067 x0 x1 x2 x3 x4).1.2.2.2.2 x5 x6).1.2 != (Sp.f1410 (Sp.f1067 x0 x1 x2 x3 x4).1.1 (Sp.f1067 x0 x1 x2 x3 x4).1.2.1 (Sp.f1067 x0 x1 x2 x3 x4).1.2.2.1 (Sp.f1067 x0 x1 x2 x3 x4).1.2.2.2.1 (Sp.f1067 x0 x1 x2 x3 x4).1.2.2.2.2 x5 x6).1.2 then true else (Sp.smallW (1 : Nat) (Sp.markW Sp.markI (1 : Int) (Sp.f1411 (Sp.f1067 x0 x1 x2 x3 x4).1.1 (Sp.f1067 x0 x1 x2 x3 x4).1.2.1 (Sp.f1067 x0 x1 x2 x3 x4).1.2.2.1 (Sp.f1067 x0 x1 x2 x3 x4).1.2.2.2.1 (Sp.f1067 x0 x1 x2 x3 x4).1.2.2.2.2 x5 x6).1.1 (1 : Int)) (1 : Int)))))))))))))))))))))))))))))))
def Sp.f1406 (x0 : ByteArray) (x1 : Int) (x2 x3 : ByteArray) (x4 : Int) (x5 : List (ByteArray × List (ByteArray × Int × Bool) × Int × List (ByteArray × List Int))) (x6 : List (ByteArray × List (List (Int × Int × ByteArray)))) := (bif decide ((Sp.f1064 x0 x1 x2 x3 x4 (1048576 : Int)).1 < (0 : Int)) then (true, ()) else (bif decide (Sp.szE Sp.szTb x5 (Sp.f1064 x0 x1 x2 x3 x4 (1048576 : Int)).1 < (0 : Int)) then (true, ()) else (bif decide (Sp.szE Sp.szDt x6 (Sp.szE Sp.szTb x5 (Sp.f1064 x0 x1 x2 x3 x4 (1048576 : Int)).1) < (0 : Int)) then (true, ()) else (bif !Sp.eqW Sp.eqN (Sp.f1411 (Sp.f1067 x0 x1 x2 x3 x4).1.1 (Sp.f1067 x0 x1 x2 x3 x4).1.2.1 (Sp.f1067 x0 x1 x2 x3 x4).1.2.2.1 (Sp.f1067 x0 x1 x2 x3 x4).1.2.2.2.1 (Sp.f1067 x0 x1 x2 x3 x4).1.2.2.2.2 x5 x6).1.1 (Sp.f1410 (Sp.f1067 x0 x1 x2 x3 x4).1.1 (Sp.f1067 x0 x1 x2 x3 x4).1.2.1 (Sp.f1067 x0 x1 x2 x3 x4).1.2.2.1 (Sp.f1067 x0 x1 x2 x3 x4).1.2.2.2.1 (Sp.f1067 x0 x1 x2 x3 x4).1.2.2.2.2 x5 x6).1.1 then (false, ()) else (bif (Sp.f1411 (Sp.f1067 x0 x1 x2 x3 x4).1.1 (Sp.f1067 x0 x1 x2 x3 x4).1.2.1 (Sp.f1067 x0 x1 x2 x3 x4).1.2.2.1 (Sp.f1067 x0 x1 x2 x3 x4).1.2.2.2.1 (Sp.f1067 x0 x1 x2 x3 x4).1.2.2.2.2 x5 x6).1.2 != (Sp.f1410 (Sp.f1067 x0 x1 x2 x3 x4).1.1 (Sp.f1067 x0 x1 x2 x3 x4).1.2.1 (Sp.f1067 x0 x1 x2 x3 x4).1.2.2.1 (Sp.f1067 x0 x1 x2 x3 x4).1.2.2.2.1 (Sp.f1067 x0 x1 x2 x3 x4).1.2.2.2.2 x5 x6).1.2 then (false, ()) else (bif !Sp.eqW Sp.eqTb x5 x5 then (false, ()) else (bif !Sp.eqW Sp.eqDt x6 x6 then (false, ()) else (bif decide (Sp.addU Sp.wtDt x6 (Sp.addU Sp.wtTb x5 (1 : Int)) < (0 : Int)) then (false, ()) else (bif !Sp.eqW Sp.eqN (Sp.f1411 (Sp.f1067 x0 x1 x2 x3 x4).1.1 (Sp.f1067 x0 x1 x2 x3 x4).1.2.1 (Sp.f1067 x0 x1 x2 x3 x4).1.2.2.1 (Sp.f1067 x0 x1 x2 x3 x4).1.2.2.2.1 (Sp.f1067 x0 x1 x2 x3 x4).1.2.2.2.2 x5 x6).1.1 (Sp.f1410 (Sp.f1067 x0 x1 x2 x3 x4).1.1 (Sp.f1067 x0 x1 x2 x3 x4).1.2.1 (Sp.f1067 x0 x1 x2 x3 x4).1.2.2.1 (Sp.f1067 x0 x1 x2 x3 x4).1.2.2.2.1 (Sp.f1067 x0 x1 x2 x3 x4).1.2.2.2.2 x5 x6).1.1 then (false, ()) else (bif (Sp.f1411 (Sp.f1067 x0 x1 x2 x3 x4).1.1 (Sp.f1067 x0 x1 x2 x3 x4).1.2.1 (Sp.f1067 x0 x1 x2 x3 x4).1.2.2.1 (Sp.f1067 x0 x1 x2 x3 x4).1.2.2.2.1 (Sp.f1067 x0 x1 x2 x3 x4).1.2.2.2.2 x5 x6).1.2 != (Sp.f1410 (Sp.f1067 x0 x1 x2 x3 x4).1.1 (Sp.f1067 x0 x1 x2 x3 x4).1.2.1 (Sp.f1067 x0 x1 x2 x3 x4).1.2.2.1 (Sp.f1067 x0 x1 x2 x3 x4).1.2.2.2.1 (Sp.f1067 x0 x1 x2 x3 x4).1.2.2.2.2 x5 x6).1.2 then (false, ()) else (bif decide (Sp.heldW Sp.heldI (1 : Int) (Sp.markW Sp.markI (1 : Int) (Sp.f1411 (Sp.f1067 x0 x1 x2 x3 x4).1.1 (Sp.f1067 x0 x1 x2 x3 x4).1.2.1 (Sp.f1067 x0 x1 x2 x3 x4).1.2.2.1 (Sp.f1067 x0 x1 x2 x3 x4).1.2.2.2.1 (Sp.f1067 x0 x1 x2 x3 x4).1.2.2.2.2 x5 x6).1.1 (1 : Int)) (1 : Int) < (0 : Int)) then (false, ()) else (bif Sp.heldW Sp.heldI (1 : Int) (Sp.markW Sp.markI (1 : Int) (Sp.f1411 (Sp.f1067 x0 x1 x2 x3 x4).1.1 (Sp.f1067 x0 x1 x2 x3 x4).1.2.1 (Sp.f1067 x0 x1 x2 x3 x4).1.2.2.1 (Sp.f1067 x0 x1 x2 x3 x4).1.2.2.2.1 (Sp.f1067 x0 x1 x2 x3 x4).1.2.2.2.2 x5 x6).1.1 (1 : Int)) (1 : Int) != Sp.addW (1 : Int) (Sp.f1411 (Sp.f1067 x0 x1 x2 x3 x4).1.1 (Sp.f1067 x0 x1 x2 x3 x4).1.2.1 (Sp.f1067 x0 x1 x2 x3 x4).1.2.2.1 (Sp.f1067 x0 x1 x2 x3 x4).1.2.2.2.1 (Sp.f1067 x0 x1 x2 x3 x4).1.2.2.2.2 x5 x6).1.1 (1 : Int) then (false, ()) else (bif !Sp.eqW Sp.eqN (Sp.f1411 (Sp.f1067 x0 x1 x2 x3 x4).1.1 (Sp.f1067 x0 x1 x2 x3 x4).1.2.1 (Sp.f1067 x0 x1 x2 x3 x4).1.2.2.1 (Sp.f1067 x0 x1 x2 x3 x4).1.2.2.2.1 (Sp.f1067 x0 x1 x2 x3 x4).1.2.2.2.2 x5 x6).1.1 (Sp.f1410 (Sp.f1067 x0 x1 x2 x3 x4).1.1 (Sp.f1067 x0 x1 x2 x3 x4).1.2.1 (Sp.f1067 x0 x1 x2 x3 x4).1.2.2.1 (Sp.f1067 x0 x1 x2 x3 x4).1.2.2.2.1 (Sp.f1067 x0 x1 x2 x3 x4).1.2.2.2.2 x5 x6).1.1 then (false, ()) else (bif (Sp.f1411 (Sp.f1067 x0 x1 x2 x3 x4).1.1 (Sp.f1067 x0 x1 x2 x3 x4).1.2.1 (Sp.f1067 x0 x1 x2 x3 x4).1.2.2.1 (Sp.f1067 x0 x1 x2 x3 x4).1.2.2.2.1 (Sp.f1067 x0 x1 x2 x3 x4).1.2.2.2.2 x5 x6).1.2 != (Sp.f1410 (Sp.f1067 x0 x1 x2 x3 x4).1.1 (Sp.f1067 x0 x1 x2 x3 x4).1.2.1 (Sp.f1067 x0 x1 x2 x3 x4).1.2.2.1 (Sp.f1067 x0 x1 x2 x3 x4).1.2.2.2.1 (Sp.f1067 x0 x1 x2 x3 x4).1.2.2.2.2 x5 x6).1.2 then (false, ()) else (bif decide (Sp.heldW Sp.heldI (1 : Int) (Sp.markW Sp.markI (1 : Int) (Sp.f1411 (Sp.f1067 x0 x1 x2 x3 x4).1.1 (Sp.f1067 x0 x1 x2 x3 x4).1.2.1 (Sp.f1067 x0 x1 x2 x3 x4).1.2.2.1 (Sp.f1067 x0 x1 x2 x3 x4).1.2.2.2.1 (Sp.f1067 x0 x1 x2 x3 x4).1.2.2.2.2 x5 x6).1.1 (1 : Int)) (1 : Int) < (0 : Int)) then (false, ()) else (bif Sp.heldW Sp.heldI (1 : Int) (Sp.markW Sp.markI (1 : Int) (Sp.f1411 (Sp.f1067 x0 x1 x2 x3 x4).1.1 (Sp.f1067 x0 x1 x2 x3 x4).1.2.1 (Sp.f1067 x0 x1 x2 x3 x4).1.2.2.1 (Sp.f1067 x0 x1 x2 x3 x4).1.2.2.2.1 (Sp.f1067 x0 x1 x2 x3 x4).1.2.2.2.2 x5 x6).1.1 (1 : Int)) (1 : Int) != Sp.addW (1 : Int) (Sp.f1411 (Sp.f1067 x0 x1 x2 x3 x4).1.1 (Sp.f1067 x0 x1 x2 x3 x4).1.2.1 (Sp.f1067 x0 x1 x2 x3 x4).1.2.2.1 (Sp.f1067 x0 x1 x2 x3 x4).1.2.2.2.1 (Sp.f1067 x0 x1 x2 x3 x4).1.2.2.2.2 x5 x6).1.1 (1 : Int) then (false, ()) else (true, ())))))))))))))))))
noncomputable def e1406 : Ent := { f := 3, ins := [Sh.agg [C0.dat Ty.str, C0.dat Zi, C0.dat Ty.str, C0.dat Ty.str, C0.dat Zi], Sh.one (C0.dat (Ty.str.pair ((Ty.str.pair (Zi.pair Ty.bool)).slice.pair (Zi.pair (Ty.str.pair Zi.slice).slice))).slice), Sh.one (C0.dat (Ty.str.pair (Zi.pair (Zi.pair Ty.str)).slice.slice).slice)], outs := [Sh.one (C0.dat Ty.bool)], upd := [], pre := fun a => Sp.f1406_pre a.1.1 a.1.2.1 a.1.2.2.1 a.1.2.2.2.1 a.1.2.2.2.2 a.2.1 a.2.2, spec := fun a => (Sp.f1406 a.1.1 a.1.2.1 a.1.2.2.1 a.1.2.2.2.1 a.1.2.2.2.2 a.2.1 a.2.2).1, wrt := fun a => (Sp.f1406 a.1.1 a.1.2.1 a.1.2.2.1 a.1.2.2.2.1 a.1.2.2.2.2 a.2.1 a.2.2).2 }
def f1406_g (v : denS [Sh.one (C0.dat Ty.bool)] × denS []) : Res := ⟨mkS [Sh.one (C0.dat Ty.bool)] v.1, mkU [] v.2⟩
theorem f1406_form (x0 : ByteArray) (x1 : Int) (x2 x3 : ByteArray) (x4 : Int) (x5 : List (ByteArray × List (ByteArray × Int × Bool) × Int × List (ByteArray × List Int))) (x6 : List (ByteArray × List (List (Int × Int × ByteArray)))) : abody Γ (orc [e1064, e1065, e1362, e1067, e1068, e1363, e1410, e1411, e192, e1070, e1272, e1277, e1278, e161, e162]) 0 3 [XV.mk true [ZC Ty.str x0, ZC Zi x1, ZC Ty.str x2, ZC Ty.str x3, ZC Zi x4], ZX (Ty.str.pair ((Ty.str.pair (Zi.pair Ty.bool)).slice.pair (Zi.pair (Ty.str.pair Zi.slice).slice))).slice x5, ZX (Ty.str.pair (Zi.pair (Zi.pair Ty.str)).slice.slice).slice x6] = chk (Sp.f1406_pre x0 x1 x2 x3 x4 x5 x6) (some (f1406_g (Sp.f1406 x0 x1 x2 x3 x4 x5 x6))) := by
  refine Eq.trans (b := bif decide ((Sp.f1064 x0 x1 x2 x3 x4 (1048576 : Int)).1 < (0 : Int)) then Zt else bif decide (Sp.szE Sp.szTb x5 (Sp.f1064 x0 x1 x2 x3 x4 (1048576 : Int)).1 < (0 : Int)) then Zt else bif decide (Sp.szE Sp.szDt x6 (Sp.szE Sp.szTb x5 (Sp.f1064 x0 x1 x2 x3 x4 (1048576 : Int)).1) < (0 : Int)) then Zt else chk (Sp.fits1068 x5) (chk (Sp.fits1363 x6) (chk (Sp.f1410_pre (Sp.f1067 x0 x1 x2 x3 x4).1.1 (Sp.f1067 x0 x1 x2 x3 x4).1.2.1 (Sp.f1067 x0 x1 x2 x3 x4).1.2.2.1 (Sp.f1067 x0 x1 x2 x3 x4).1.2.2.2.1 (Sp.f1067 x0 x1 x2 x3 x4).1.2.2.2.2 x5 x6) (chk (Sp.fits1068 x5) (chk (Sp.fits1363 x6) (chk (Sp.f1411_pre (Sp.f1067 x0 x1 x2 x3 x4).1.1 (Sp.f1067 x0 x1 x2 x3 x4).1.2.1 (Sp.f1067 x0 x1 x2 x3 x4).1.2.2.1 (Sp.f1067 x0 x1 x2 x3 x4).1.2.2.2.1 (Sp.f1067 x0 x1 x2 x3 x4).1.2.2.2.2 x5 x6) (bif !Sp.eqW Sp.eqN (Sp.f1411 (Sp.f1067 x0 x1 x2 x3 x4).1.1 (Sp.f1067 x0 x1 x2 x3 x4).1.2.1 (Sp.f1067 x0 x1 x2 x3 x4).1.2.2.1 (Sp.f1067 x0 x1 x2 x3 x4).1.2.2.2.1 (Sp.f1067 x0 x1 x2 x3 x4).1.2.2.2.2 x5 x6).1.1 (Sp.f1410 (Sp.f1067 x0 x1 x2 x3 x4).1.1 (Sp.f1067 x0 x1 x2 x3 x4).1.2.1 (Sp.f1067 x0 x1 x2 x3 x4).1.2.2.1 (Sp.f1067 x0 x1 x2 x3 x4).1.2.2.2.1 (Sp.f1067 x0 x1 x2 x3 x4).1.2.2.2.2 x5 x6).1.1 then Zf else bif (Sp.f1411 (Sp.f1067 x0 x1 x2 x3 x4).1.1 (Sp.f1067 x0 x1 x2 x3 x4).1.2.1 (Sp.f1067 x0 x1 x2 x3 x4).1.2.2.1 (Sp.f1067 x0 x1 x2 x3 x4).1.2.2.2.1 (Sp.f1067 x0 x1 x2 x3 x4).1.2.2.2.2 x5 x6).1.2 != (Sp.f1410 (Sp.f1067 x0 x1 x2 x3 x4).1.1 (Sp.f1067 x0 x1 x2 x3 x4).1.2.1 (Sp.f1067 x0 x1 x2 x3 x4).1.2.2.1 (Sp.f1067 x0 x1 x2 x3 x4).1.2.2.2.1 (Sp.f1067 x0 x1 x2 x3 x4).1.2.2.2.2 x5 x6).1.2 then Zf else chk (Sp.fits1068 x5) (bif !Sp.eqW Sp.eqTb x5 x5 then Zf else chk (Sp.fits1363 x6) (bif !Sp.eqW Sp.eqDt x6 x6 then Zf else chk (Sp.smallU Sp.wtTb x5 (1 : Int)) (chk (Sp.smallU Sp.wtDt x6 (Sp.addU Sp.wtTb x5 (1 : Int))) (bif decide (Sp.addU Sp.wtDt x6 (Sp.addU Sp.wtTb x5 (1 : Int)) < (0 : Int)) then Zf else bif !Sp.eqW Sp.eqN (Sp.f1411 (Sp.f1067 x0 x1 x2 x3 x4).1.1 (Sp.f1067 x0 x1 x2 x3 x4).1.2.1 (Sp.f1067 x0 x1 x2 x3 x4).1.2.2.1 (Sp.f1067 x0 x1 x2 x3 x4).1.2.2.2.1 (Sp.f1067 x0 x1 x2 x3 x4).1.2.2.2.2 x5 x6).1.1 (Sp.f1410 (Sp.f1067 x0 x1 x2 x3 x4).1.1 (Sp.f1067 x0 x1 x2 x3 x4).1.2.1 (Sp.f1067 x0 x1 x2 x3 x4).1.2.2.1 (Sp.f1067 x0 x1 x2 x3 x4).1.2.2.2.1 (Sp.f1067 x0 x1 x2 x3 x4).1.2.2.2.2 x5 x6).1.1 then Zf else bif (Sp.f1411 (Sp.f1067 x0 x1 x2 x3 x4).1.1 (Sp.f1067 x0 x1 x2 x3 x4).1.2.1 (Sp.f1067 x0 x1 x2 x3 x4).1.2.2.1 (Sp.f1067 x0 x1 x2 x3 x4).1.2.2.2.1 (Sp.f1067 x0 x1 x2 x3 x4).1.2.2.2.2 x5 x6).1.2 != (Sp.f1410 (Sp.f1067 x0 x1 x2 x3 x4).1.1 (Sp.f1067 x0 x1 x2 x3 x4).1.2.1 (Sp.f1067 x0 x1 x2 x3 x4).1.2.2.1 (Sp.f1067 x0 x1 x2 x3 x4).1.2.2.2.1 (Sp.f1067 x0 x1 x2 x3 x4).1.2.2.2.2 x5 x6).1.2 then Zf else chk (Sp.smallW (1 : Nat) (Sp.f1411 (Sp.f1067 x0 x1 x2 x3 x4).1.1 (Sp.f1067 x0 x1 x2 x3 x4).1.2.1 (Sp.f1067 x0 x1 x2 x3 x4).1.2.2.1 (Sp.f1067 x0 x1 x2 x3 x4).1.2.2.2.1 (Sp.f1067 x0 x1 x2 x3 x4).1.2.2.2.2 x5 x6).1.1 (1 : Int)) (chk (Sp.smallW (1 : Nat) (Sp.markW Sp.markI (1 : Int) (Sp.f1411 (Sp.f1067 x0 x1 x2 x3 x4).1.1 (Sp.f1067 x0 x1 x2 x3 x4).1.2.1 (Sp.f1067 x0 x1 x2 x3 x4).1.2.2.1 (Sp.f1067 x0 x1 x2 x3 x4).1.2.2.2.1 (Sp.f1067 x0 x1 x2 x3 x4).1.2.2.2.2 x5 x6).1.1 (1 : Int)) (1 : Int)) (bif decide (Sp.heldW Sp.heldI (1 : Int) (Sp.markW Sp.markI (1 : Int) (Sp.f1411 (Sp.f1067 x0 x1 x2 x3 x4).1.1 (Sp.f1067 x0 x1 x2 x3 x4).1.2.1 (Sp.f1067 x0 x1 x2 x3 x4).1.2.2.1 (Sp.f1067 x0 x1 x2 x3 x4).1.2.2.2.1 (Sp.f1067 x0 x1 x2 x3 x4).1.2.2.2.2 x5 x6).1.1 (1 : Int)) (1 : Int) < (0 : Int)) then Zf else bif Sp.heldW Sp.heldI (1 : Int) (Sp.markW Sp.markI (1 : Int) (Sp.f1411 (Sp.f1067 x0 x1 x2 x3 x4).1.1 (Sp.f1067 x0 x1 x2 x3 x4).1.2.1 (Sp.f1067 x0 x1 x2 x3 x4).1.2.2.1 (Sp.f1067 x0 x1 x2 x3 x4).1.2.2.2.1 (Sp.f1067 x0 x1 x2 x3 x4).1.2.2.2.2 x5 x6).1.1 (1 : Int)) (1 : Int) != Sp.addW (1 : Int) (Sp.f1411 (Sp.f1067 x0 x1 x2 x3 x4).1.1 (Sp.f1067 x0 x1 x2 x3 x4).1.2.1 (Sp.f1067 x0 x1 x2 x3 x4).1.2.2.1 (Sp.f1067 x0 x1 x2 x3 x4).1.2.2.2.1 (Sp.f1067 x0 x1 x2 x3 x4).1.2.2.2.2 x5 x6).1.1 (1 : Int) then Zf else chk (Sp.fits1068 x5) (chk (Sp.fits1363 x6) (chk (Sp.f1411_pre (Sp.f1067 x0 x1 x2 x3 x4).1.1 (Sp.f1067 x0 x1 x2 x3 x4).1.2.1 (Sp.f1067 x0 x1 x2 x3 x4).1.2.2.1 (Sp.f1067 x0 x1 x2 x3 x4).1.2.2.2.1 (Sp.f1067 x0 x1 x2 x3 x4).1.2.2.2.2 x5 x6) (bif !Sp.eqW Sp.eqN (Sp.f1411 (Sp.f1067 x0 x1 x2 x3 x4).1.1 (Sp.f1067 x0 x1 x2 x3 x4).1.2.1 (Sp.f1067 x0 x1 x2 x3 x4).1.2.2.1 (Sp.f1067 x0 x1 x2 x3 x4).1.2.2.2.1 (Sp.f1067 x0 x1 x2 x3 x4).1.2.2.2.2 x5 x6).1.1 (Sp.f1410 (Sp.f1067 x0 x1 x2 x3 x4).1.1 (Sp.f1067 x0 x1 x2 x3 x4).1.2.1 (Sp.f1067 x0 x1 x2 x3 x4).1.2.2.1 (Sp.f1067 x0 x1 x2 x3 x4).1.2.2.2.1 (Sp.f1067 x0 x1 x2 x3 x4).1.2.2.2.2 x5 x6).1.1 then Zf else bif (Sp.f1411 (Sp.f1067 x0 x1 x2 x3 x4).1.1 (Sp.f1067 x0 x1 x2 x3 x4).1.2.1 (Sp.f1067 x0 x1 x2 x3 x4).1.2.2.1 (Sp.f1067 x0 x1 x2 x3 x4).1.2.2.2.1 (Sp.f1067 x0 x1 x2 x3 x4).1.2.2.2.2 x5 x6).1.2 != (Sp.f1410 (Sp.f1067 x0 x1 x2 x3 x4).1.1 (Sp.f1067 x0 x1 x2 x3 x4).1.2.1 (Sp.f1067 x0 x1 x2 x3 x4).1.2.2.1 (Sp.f1067 x0 x1 x2 x3 x4).1.2.2.2.1 (Sp.f1067 x0 x1 x2 x3 x4).1.2.2.2.2 x5 x6).1.2 then Zf else chk (Sp.smallW (1 : Nat) (Sp.markW Sp.markI (1 : Int) (Sp.f1411 (Sp.f1067 x0 x1 x2 x3 x4).1.1 (Sp.f1067 x0 x1 x2 x3 x4).1.2.1 (Sp.f1067 x0 x1 x2 x3 x4).1.2.2.1 (Sp.f1067 x0 x1 x2 x3 x4).1.2.2.2.1 (Sp.f1067 x0 x1 x2 x3 x4).1.2.2.2.2 x5 x6).1.1 (1 : Int)) (1 : Int)) (bif decide (Sp.heldW Sp.heldI (1 : Int) (Sp.markW Sp.markI (1 : Int) (Sp.f1411 (Sp.f1067 x0 x1 x2 x3 x4).1.1 (Sp.f1067 x0 x1 x2 x3 x4).1.2.1 (Sp.f1067 x0 x1 x2 x3 x4).1.2.2.1 (Sp.f1067 x0 x1 x2 x3 x4).1.2.2.2.1 (Sp.f1067 x0 x1 x2 x3 x4).1.2.2.2.2 x5 x6).1.1 (1 : Int)) (1 : Int) < (0 : Int)) then Zf else bif Sp.heldW Sp.heldI (1 : Int) (Sp.markW Sp.markI (1 : Int) (Sp.f1411 (Sp.f1067 x0 x1 x2 x3 x4).1.1 (Sp.f1067 x0 x1 x2 x3 x4).1.2.1 (Sp.f1067 x0 x1 x2 x3 x4).1.2.2.1 (Sp.f1067 x0 x1 x2 x3 x4).1.2.2.2.1 (Sp.f1067 x0 x1 x2 x3 x4).1.2.2.2.2 x5 x6).1.1 (1 : Int)) (1 : Int) != Sp.addW (1 : Int) (Sp.f1411 (Sp.f1067 x0 x1 x2 x3 x4).1.1 (Sp.f1067 x0 x1 x2 x3 x4).1.2.1 (Sp.f1067 x0 x1 x2 x3 x4).1.2.2.1 (Sp.f1067 x0 x1 x2 x3 x4).1.2.2.2.1 (Sp.f1067 x0 x1 x2 x3 x4).1.2.2.2.2 x5 x6).1.1 (1 : Int) then Zf else Zt))))))))))))))))) (by kernel_rfl) ?_
  unfold Sp.f1406_pre Sp.f1406
  exact (cond_step f1406_g ((lift_plain (rfl))) ((cond_step f1406_g ((lift_plain (rfl))) ((cond_step f1406_g ((lift_plain (rfl))) ((chk_step ((chk_step ((chk_step ((chk_step ((chk_step ((chk_step ((cond_step f1406_g ((lift_plain (rfl))) ((cond_step f1406_g ((lift_plain (rfl))) ((chk_step ((cond_step f1406_g ((lift_plain (rfl))) ((chk_step ((cond_step f1406_g ((lift_plain (rfl))) ((chk_step ((chk_step ((cond_step f1406_g ((lift_plain (rfl))) ((cond_step f1406_g ((lift_plain (rfl))) ((cond_step f1406_g ((lift_plain (rfl))) ((chk_step ((chk_step ((cond_step f1406_g ((lift_plain (rfl))) ((cond_step f1406_g ((lift_plain (rfl))) ((chk_step ((chk_step ((chk_step ((cond_step f1406_g ((lift_plain (rfl))) ((cond_step f1406_g ((lift_plain (rfl))) ((chk_last ((cond_plain f1406_g (rfl) ((cond_plain f1406_g (rfl) (rfl))))))))))))))))))))))))))))))))))))))))))))))))))))))))))))))))
theorem e1406_ok : Valid PP Γ e1406 := valid_auto ok (vcons e1064_ok (vcons e1065_ok (vcons e1362_ok (vcons e1067_ok (vcons e1068_ok (vcons e1363_ok (vcons e1410_ok (vcons e1411_ok (vcons e192_ok (vcons e1070_ok (vcons e1272_ok (vcons e1277_ok (vcons e1278_ok (vcons e161_ok (vcons e162_ok vnil))))))))))))))) fun a => f1406_form a.1.1 a.1.2.1 a.1.2.2.1 a.1.2.2.2.1 a.1.2.2.2.2 a.2.1 a.2.2

end Go.Proofs.GR.T

set_option maxRecDepth 1000000
set_option maxHeartbeats 100000000
namespace Go.Proofs.GR.T
open Go Go.Proofs Go.Proofs.GR
def Sp.okRow1 (x : VRw) : Prop := x.length ≤ 9223372036854775807 ∧ ∀ v ∈ x, Sp.nN v = true ∧ v.2.2.size ≤ 9223372036854775807
def Sp.okDt1 (x : VDt) : Prop := x.1.size ≤ 9223372036854775807 ∧ x.2.length ≤ 9223372036854775807 ∧ ∀ r ∈ x.2, Sp.okRow1 r
def Sp.okDts (xs : List VDt) : Prop := xs.length ≤ 9223372036854775807 ∧ ∀ x ∈ xs, Sp.okDt1 x
def Sp.ctDt (x : VDt) : Nat := x.1.size + x.2.length + Sp.wtW List.length x.2
theorem szRw_wt {x : VRw} (hx : Sp.okRow1 x) (l : Int) (h0 : 0 ≤ l) (hl : l ≤ 1048576) (h : 0 ≤ Sp.szRw x l) : Sp.szRw x l + (x.length : Int) ≤ l := by
  have h2 : 0 ≤ Sp.szE Sp.szV x l := h
  have := szE_wt (f := Sp.szV) (c := fun _ => 0) (xs := x) (l := l) hx.1 (fun v hv l a b _ => by have := szV_le (hx.2 v hv).2 l a b; omega) h0 hl h2
  show Sp.szE Sp.szV x l + (x.length : Int) ≤ l
  omega
theorem szDt_wt {x : VDt} (hx : Sp.okDt1 x) (l : Int) (h0 : 0 ≤ l) (hl : l ≤ 1048576) (h : 0 ≤ Sp.szDt x l) : Sp.szDt x l + (Sp.ctDt x : Int) ≤ l := by
  obtain ⟨h1, h2, h3⟩ := hx
  unfold Sp.szDt Sp.f1368 at h ⊢
  rw [wrap64 (n := l - (x.1.size : Int)) (by omega) (by omega)] at h ⊢
  by_cases c1 : l - (x.1.size : Int) < 0
  · rw [decide_eq_true c1] at h; exact absurd h neg1
  · rw [decide_eq_false c1, cond_false] at h ⊢
    by_cases c2 : Sp.szE Sp.szRw x.2 (l - (x.1.size : Int)) < 0
    · rw [decide_eq_true c2] at h; exact absurd h neg1
    · have w1 := szE_wt (f := Sp.szRw) (c := List.length) (xs := x.2) (l := l - (x.1.size : Int)) h2 (fun y hy l a b d => szRw_wt (h3 y hy) l a b d) (by omega) (by omega) (by omega)
      rw [decide_eq_false c2, cond_false]
      show Sp.szE Sp.szRw x.2 (l - (x.1.size : Int)) + ((x.1.size + x.2.length + Sp.wtW List.length x.2 : Nat) : Int) ≤ l
      omega
def Sp.smallDts (xs : List VDt) : Prop := xs.length + Sp.wtW Sp.ctDt xs ≤ 1048576
theorem smallDt_of {xs : List VDt} (h : Sp.okDts xs) {l : Int} (h0 : 0 ≤ l) (hl : l ≤ 1048576) (hs : ¬ Sp.szE Sp.szDt xs l < 0) : Sp.smallDts xs := by
  have w := szE_wt (f := Sp.szDt) (c := Sp.ctDt) (xs := xs) (l := l) h.1 (fun x hx l a b c => szDt_wt (h.2 x hx) l a b c) h0 hl (by omega)
  unfold Sp.smallDts
  omega
theorem fitsDt_of {xs : List VDt} (h : Sp.smallDts xs) : Sp.fits1363 xs = true := by
  unfold Sp.smallDts at h
  refine yes2_both (fits32_mk (by omega)) (allW_mem.2 fun x hx => ?_)
  have h2 := wtW_one (w := Sp.ctDt) hx
  unfold Sp.ctDt at h2 h
  show Sp.fits1103 x.2 = true
  refine yes2_both (fits32_mk (by omega)) (allW_mem.2 fun y hy => ?_)
  have h3 := wtW_one (w := List.length) hy
  exact fits32_mk (by omega)
theorem sumTb_of {xs : List VTb} (h : Sp.okTbs xs) {l : Int} (h0 : 0 ≤ l) (hl : l ≤ 1048576) (hs : ¬ Sp.szE Sp.szTb xs l < 0) : xs.length + Sp.wtW Sp.ctTb xs ≤ 1048576 ∧ Sp.szE Sp.szTb xs l ≤ l := by
  have w := szE_wt (f := Sp.szTb) (c := Sp.ctTb) (xs := xs) (l := l) h.1 (fun x hx l a b c => szTb_wt (h.2 x hx) l a b c) h0 hl (by omega)
  omega
theorem wtTb_le {xs : List VTb} : Sp.wtW Sp.wtTb xs ≤ 2 * xs.length + 3 * Sp.wtW Sp.ctTb xs := wtW_lin fun x _ => by
  have := wtW_lin (w := Sp.wtIx) (c := Sp.ctIx) (a := 1) (b := 1) (xs := x.2.2.2) fun y _ => by unfold Sp.wtIx Sp.ctIx; omega
  unfold Sp.wtTb Sp.ctTb
  omega
theorem wtDt_le {xs : List VDt} : Sp.wtW Sp.wtDt xs ≤ 1 * xs.length + 3 * Sp.wtW Sp.ctDt xs := wtW_lin fun x _ => by
  have := wtW_lin (w := Sp.wtRw) (c := List.length) (a := 0) (b := 3) (xs := x.2) fun y _ => by unfold Sp.wtRw; omega
  unfold Sp.wtDt Sp.ctDt
  omega
theorem eqRw_self (x : VRw) : Sp.eqRw x x = true := eqW_self eqV_self x
theorem eqDt_self (x : VDt) : Sp.eqDt x x = true := by
  unfold Sp.eqDt Sp.f1307
  rw [beq_self_eq_true, eqW_self eqRw_self]; rfl
theorem dataOf_at (t : ByteArray) : ∀ (ts : List VTb) (ds : List VDt), Sp.all2 Sp.datG ts ds = true → ts.length = ds.length → Sp.anyW (Sp.nmTb t) ts = true → ∀ n : Nat, ∃ i : Nat, i < ts.length ∧ i < ds.length ∧ Sp.idx (Sp.nmTb t) ts n = ((n + i : Nat) : Int) ∧ Sp.dataOf t ds = (Sp.dAt ds i).2 ∧ Sp.anyW (Sp.nmDt t) ds = true
  | [], _, _, _, h, _ => by cases h
  | _ :: _, [], _, h, _, _ => by cases h
  | x :: r, d :: s, hp, hl, ha, n => by
    rw [Sp.all2] at hp
    cases hg : Sp.datG x d with
    | false => rw [hg] at hp; cases hp
    | true =>
      rw [hg, cond_true] at hp
      have hn : (d.1.toList == x.1.toList) = true := by
        unfold Sp.datG at hg
        cases q : d.1.toList == x.1.toList with
        | true => rfl
        | false => rw [q] at hg; cases hg
      have hn := eq_of_beq hn
      have e : Sp.nmDt t d = Sp.nmTb t x := by unfold Sp.nmDt Sp.nmTb; rw [hn]
      rw [Sp.idx, Sp.dataOf, Sp.anyW, e]
      rw [Sp.anyW] at ha
      cases hx : Sp.nmTb t x with
      | true => exact ⟨0, Nat.zero_lt_succ _, Nat.zero_lt_succ _, rfl, rfl, rfl⟩
      | false =>
        rw [hx, cond_false] at ha
        obtain ⟨i, h1, h2, h3, h4, h5⟩ := dataOf_at t r s hp (by simpa using hl) ha (n + 1)
        refine ⟨i + 1, Nat.succ_lt_succ h1, Nat.succ_lt_succ h2, ?_, ?_, ?_⟩
        · rw [cond_false]
          refine (show Sp.idx (Sp.nmTb t) r ((n : Int) + 1) = Sp.idx (Sp.nmTb t) r ((n + 1 : Nat) : Int) by rw [Int.natCast_add]; rfl).trans (h3.trans ?_)
          omega
        · rw [cond_false, h4]; rfl
        · rw [cond_false]; exact h5
theorem all2_at {ts : List VTb} {ds : List VDt} : Sp.all2 Sp.datG ts ds = true → ∀ (i : Nat) (h : i < ts.length) (h2 : i < ds.length), Sp.datG ts[i] ds[i] = true := by
  induction ts generalizing ds with
  | nil => intro _ i h; cases h
  | cons x r ih =>
    intro hp i h h2
    cases ds with
    | nil => cases h2
    | cons d s =>
      rw [Sp.all2] at hp
      cases hg : Sp.datG x d with
      | false => rw [hg] at hp; cases hp
      | true =>
        rw [hg, cond_true] at hp
        cases i with
        | zero => exact hg
        | succ i => exact ih hp i (Nat.lt_of_succ_lt_succ h) (Nat.lt_of_succ_lt_succ h2)
theorem dataOK_is {ts : List VTb} {ds : List VDt} (h : Sp.dataOK ts ds = true) : Sp.catOK ts = true ∧ ds.length = ts.length ∧ Sp.all2 Sp.datG ts ds = true := by
  unfold Sp.dataOK at h
  cases q1 : decide ((ts.length : Int) > 4096) with
  | true => rw [q1] at h; cases h
  | false =>
  cases q2 : decide ((ds.length : Int) > 4096) with
  | true => rw [q1, q2] at h; cases h
  | false =>
  cases q3 : Sp.catOK ts with
  | false => rw [q1, q2, q3] at h; cases h
  | true =>
  rw [q1, q2, q3] at h
  by_cases he : ds.length = ts.length
  · rw [show ((ds.length : Int) != (ts.length : Int)) = false by simp [he]] at h
    exact ⟨rfl, he, h⟩
  · rw [show ((ds.length : Int) != (ts.length : Int)) = true by simp; omega] at h
    cases h
def Sp.prows (x0 : ByteArray) (x1 : Int) (x2 x3 : ByteArray) (x4 : Int) (ts : List VTb) (ds : List VDt) : List Int × Int :=
  bif decide ((ts.length : Int) > (4096 : Int)) then ([], 2) else bif decide ((ds.length : Int) > (4096 : Int)) then ([], 2) else bif !Sp.dataOK ts ds then ([], 1) else bif !(bif Sp.hitT ts x0 then Sp.plT x1 x2 x3 x4 (Sp.tAt ts (Sp.lowT ts x0 : Nat)).2.2.2.length else false) then ([], 1) else (Sp.placesW (Sp.hitR x1 x2 x3 (Sp.tAt ts (Sp.lowT ts x0 : Nat)).2.2.1 (Sp.tAt ts (Sp.lowT ts x0 : Nat)).2.2.2) (Sp.dAt ds (Sp.lowT ts x0 : Nat)).2 0, 0)
theorem hit_any {ts : List VTb} {t : ByteArray} (hc : Sp.catOK ts = true) (h : Sp.hitT ts t = true) : Sp.anyW (Sp.nmTb t) ts = true := by
  rw [← idx_any (Sp.nmTb t) ts 0 (Int.le_refl 0), seek_idx t hc, h, cond_true]
  exact decide_eq_true (by omega)
theorem rows_at {ts : List VTb} {ds : List VDt} {t : ByteArray} (hc : Sp.catOK ts = true) (hl : ds.length = ts.length) (hp : Sp.all2 Sp.datG ts ds = true) (h : Sp.hitT ts t = true) : Sp.lowT ts t < ds.length ∧ Sp.dataOf t ds = (Sp.dAt ds (Sp.lowT ts t : Nat)).2 ∧ Sp.anyW (Sp.nmDt t) ds = true := by
  obtain ⟨i, h1, h2, h3, h4, h5⟩ := dataOf_at t ts ds hp hl.symm (hit_any hc h) 0
  have h6 := seek_idx t hc
  rw [h, cond_true] at h6
  have e : i = Sp.lowT ts t := by
    have : ((0 + i : Nat) : Int) = ((Sp.lowT ts t : Nat) : Int) := h3.symm.trans h6
    omega
  subst e
  exact ⟨h2, h4, h5⟩
theorem spec_rows (x0 : ByteArray) (x1 : Int) (x2 x3 : ByteArray) (x4 : Int) (ts : List VTb) (ds : List VDt) : (Sp.f1410 x0 x1 x2 x3 x4 ts ds).1 = Sp.prows x0 x1 x2 x3 x4 ts ds := by
  unfold Sp.f1410 Sp.prows
  cases decide ((ts.length : Int) > (4096 : Int)) with
  | true => rfl
  | false =>
  cases decide ((ds.length : Int) > (4096 : Int)) with
  | true => rfl
  | false =>
  cases hd : Sp.dataOK ts ds with
  | false => rfl
  | true =>
    obtain ⟨hc, hl, hp⟩ := dataOK_is hd
    rw [planS x0 x1 x2 x3 x4 hc, seek_idx x0 hc]
    cases hh : Sp.hitT ts x0 with
    | false => rfl
    | true =>
      rw [(rows_at hc hl hp hh).2.1, cond_true, cond_true]
      cases Sp.plT x1 x2 x3 x4 (Sp.tAt ts (Sp.lowT ts x0 : Nat)).2.2.2.length <;> rfl
theorem impl_rows (x0 : ByteArray) (x1 : Int) (x2 x3 : ByteArray) (x4 : Int) (ts : List VTb) (ds : List VDt) : (Sp.f1411 x0 x1 x2 x3 x4 ts ds).1 = Sp.prows x0 x1 x2 x3 x4 ts ds := by
  unfold Sp.f1411 Sp.prows
  cases decide ((ts.length : Int) > (4096 : Int)) with
  | true => rfl
  | false =>
  cases decide ((ds.length : Int) > (4096 : Int)) with
  | true => rfl
  | false =>
  cases hd : Sp.dataOK ts ds with
  | false => rfl
  | true =>
    rw [planI]
    cases hh : Sp.hitT ts x0 with
    | false => rfl
    | true =>
      rw [cond_true]
      cases Sp.plT x1 x2 x3 x4 (Sp.tAt ts (Sp.lowT ts x0 : Nat)).2.2.2.length <;> rfl
theorem placesW_len (p : VRw → Bool) : ∀ (rs : List VRw) (i : Int), (Sp.placesW p rs i).length ≤ rs.length
  | [], _ => Nat.le_refl _
  | r :: rs, i => by
    have := placesW_len p rs (i + 1)
    rw [Sp.placesW, List.length_append, List.length_cons]
    cases p r with
    | true => show 1 + _ ≤ _; omega
    | false => show 0 + _ ≤ _; omega
theorem plT_ix {x1 : Int} {x2 x3 : ByteArray} {x4 : Int} {n : Nat} (hn : n ≤ 1048576) (h : Sp.plT x1 x2 x3 x4 n = true) : -1 ≤ x1 ∧ x1 < (n : Int) := by
  unfold Sp.plT at h
  cases q : (Sp.f79 x1 (-1 : Int) (IntKind.i64.wrap ((n : Int) - (1 : Int)))).1 with
  | false => rw [q] at h; cases h
  | true =>
    have b := f79_iff q
    rw [wrap64 (by omega) (by omega)] at b
    omega
theorem plrP_of {x1 : Int} {t : VTb} {d : VDt} (ho : Sp.okT t = true) (hg : Sp.datG t d = true) (hd : Sp.okDt1 d) (hx : -1 ≤ x1 ∧ x1 < (t.2.2.2.length : Int)) : Sp.plrP x1 t.2.2.1 t.2.2.2 d.2 = true := by
  obtain ⟨o1, o2, o3⟩ := okT_is ho
  unfold Sp.datG at hg
  cases q1 : d.1.toList == t.1.toList with
  | false => rw [q1] at hg; cases hg
  | true =>
  by_cases q2 : (d.2.length : Int) > 400
  · rw [q1, decide_eq_true q2] at hg; cases hg
  rw [q1, decide_eq_false q2] at hg
  have hg : Sp.allP (Sp.rowG t.2.1 t.2.2.1) [] d.2 = true := hg
  refine yes2Q (Nat.ble_eq_true_of_le (by omega)) (yes2Q ?_ (allW_mem.2 fun row hr => ?_))
  · by_cases h0 : x1 ≥ 0
    · rw [decide_eq_true h0, cond_true, decide_eq_true hx.2]; rfl
    · rw [decide_eq_false h0]; rfl
  · obtain ⟨q, g⟩ := allP_mem _ _ hg row hr
    obtain ⟨g1, g2⟩ := rowG_is g
    have g3 := rowOK_iff.1 g1
    have hv : Sp.allW Sp.vN row = true := allW_mem.2 (vN_mk g1 (allW_mem.2 fun v hv => ((hd.2.2 row hr).2 v hv).1))
    have hk : Sp.inK row.length t.2.2.1 = true := by rw [g2]; exact o2
    refine yes2Q (Nat.ble_eq_true_of_le g3.1) (yes2Q hk (yes2Q hv ?_))
    by_cases h0 : x1 ≥ 0
    · rw [decide_eq_true h0, cond_true]
      have hm : x1.toNat < t.2.2.2.length := by omega
      have e : Sp.ixAt t.2.2.2 x1 = (t.2.2.2[x1.toNat]).2 := by
        unfold Sp.ixAt
        rw [List.getD, List.getElem?_eq_getElem hm, Option.getD_some]
      obtain ⟨c1, c2⟩ := o3 _ (List.getElem_mem hm)
      rw [← e] at c1 c2
      refine yes2Q (Nat.ble_eq_true_of_le c1) (yes2Q (Nat.ble_eq_true_of_le g3.1) (yes2Q hk (allW_mem.2 fun c hc => ?_)))
      rw [g2]
      exact c2 c hc
    · rw [decide_eq_false h0]; rfl
theorem datN_of {ds : List VDt} (h : Sp.okDts ds) : Sp.allW Sp.datN ds = true := allW_mem.2 fun d hd => allW_mem.2 fun r hr => allW_mem.2 fun v hv => (((h.2 d hd).2.2 r hr).2 v hv).1
theorem dAt_get {ds : List VDt} {i : Nat} (h : i < ds.length) : Sp.dAt ds (i : Nat) = ds[i] := getD_nat ds i _ h
theorem tAt_get {ts : List VTb} {i : Nat} (h : i < ts.length) : Sp.tAt ts (i : Nat) = ts[i] := getD_nat ts i _ h
theorem rows_pres {x0 : ByteArray} {x1 : Int} {x2 x3 : ByteArray} {x4 : Int} {ts : List VTb} {ds : List VDt} (h5 : Sp.okTbs ts) (hs : Sp.smallTbs ts) (h6 : Sp.okDts ds) : Sp.f1410_pre x0 x1 x2 x3 x4 ts ds = true ∧ Sp.f1411_pre x0 x1 x2 x3 x4 ts ds = true ∧ (Sp.prows x0 x1 x2 x3 x4 ts ds).1.length ≤ 400 := by
  have hP : Sp.datP ts ds = true := yes2Q (fine_of h5) (datN_of h6)
  unfold Sp.f1410_pre Sp.f1411_pre Sp.prows
  rw [hP]
  cases decide ((ts.length : Int) > (4096 : Int)) with
  | true => exact ⟨rfl, rfl, Nat.zero_le _⟩
  | false =>
  cases decide ((ds.length : Int) > (4096 : Int)) with
  | true => exact ⟨rfl, rfl, Nat.zero_le _⟩
  | false =>
  cases hd : Sp.dataOK ts ds with
  | false => exact ⟨rfl, rfl, Nat.zero_le _⟩
  | true =>
    obtain ⟨hc, hl, hp⟩ := dataOK_is hd
    have hr : Sp.f1092_pre ts x0 = true := rist_of hc
    have q1 : Sp.f1086_pre x0 x1 x2 x3 x4 ts = true := by
      unfold Sp.f1086_pre
      rw [seek_idx x0 hc]
      cases hh : Sp.hitT ts x0 with
      | false => rfl
      | true =>
        rw [cond_true, decide_eq_true (show ((Sp.lowT ts x0 : Nat) : Int) ≥ 0 by omega), cond_true, Bool.true_and]
        exact decide_eq_true (by have := hit_lt hh; omega)
    have q2 : Sp.f1091_pre x0 x1 x2 x3 x4 ts = true := by
      unfold Sp.f1091_pre
      rw [hr, Bool.true_and]
      show (bif Sp.hitT ts x0 then decide ((0 : Int) ≤ (Sp.lowT ts x0 : Nat)) && decide (((Sp.lowT ts x0 : Nat) : Int) < (ts.length : Int)) else true) = true
      cases hh : Sp.hitT ts x0 with
      | false => rfl
      | true => rw [cond_true, guardI (hit_lt hh)]
    rw [q1, q2, planI, planS x0 x1 x2 x3 x4 hc, seek_idx x0 hc]
    cases hh : Sp.hitT ts x0 with
    | false => exact ⟨rfl, rfl, Nat.zero_le _⟩
    | true =>
      rw [cond_true, cond_true]
      cases hpl : Sp.plT x1 x2 x3 x4 (Sp.tAt ts (Sp.lowT ts x0 : Nat)).2.2.2.length with
      | false => exact ⟨rfl, rfl, Nat.zero_le _⟩
      | true =>
        have hlt := hit_lt hh
        obtain ⟨r1, r2, r3⟩ := rows_at hc hl hp hh
        have hg := all2_at hp _ hlt r1
        have ho := (cat_each hc).2 _ (List.getElem_mem hlt)
        have hn : (Sp.tAt ts (Sp.lowT ts x0 : Nat)).2.2.2.length ≤ 1048576 := by
          have := hs.2 _ (tAt_mem hlt)
          unfold Sp.ctTb at this
          omega
        have hx := plT_ix hn hpl
        have hr4 : Sp.plrP x1 (Sp.tAt ts (Sp.lowT ts x0 : Nat)).2.2.1 (Sp.tAt ts (Sp.lowT ts x0 : Nat)).2.2.2 (Sp.dAt ds (Sp.lowT ts x0 : Nat)).2 = true := by
          rw [tAt_get hlt] at hx ⊢
          rw [dAt_get r1]
          exact plrP_of ho hg (h6.2 _ (List.getElem_mem r1)) hx
        have hpl2 : Sp.plsP x0 x1 ts ds = true := yes2Q hr (yes2Q (guardI hlt) (yes2Q (guardI r1) hr4))
        refine ⟨?_, ?_, ?_⟩
        · rw [r2, r3]
          show (decide ((0 : Int) ≤ (Sp.lowT ts x0 : Nat)) && decide (((Sp.lowT ts x0 : Nat) : Int) < (ts.length : Int)) && (true && Sp.plrP x1 (Sp.tAt ts (Sp.lowT ts x0 : Nat)).2.2.1 (Sp.tAt ts (Sp.lowT ts x0 : Nat)).2.2.2 (Sp.dAt ds (Sp.lowT ts x0 : Nat)).2)) = true
          rw [guardI hlt, hr4]; rfl
        · exact hpl2
        · show (Sp.placesW _ (Sp.dAt ds (Sp.lowT ts x0 : Nat)).2 0).length ≤ 400
          have := placesW_len (Sp.hitR x1 x2 x3 (Sp.tAt ts (Sp.lowT ts x0 : Nat)).2.2.1 (Sp.tAt ts (Sp.lowT ts x0 : Nat)).2.2.2) (Sp.dAt ds (Sp.lowT ts x0 : Nat)).2 0
          have := (plrP_is hr4).1
          omega
theorem pl_sz {x0 : ByteArray} (x1 : Int) {x2 x3 : ByteArray} (x4 : Int) (h0 : x0.size ≤ 9223372036854775807) (h2 : x2.size ≤ 9223372036854775807) (h3 : x3.size ≤ 9223372036854775807) : (Sp.f1064 x0 x1 x2 x3 x4 (1048576 : Int)).1 < 0 ∨ (0 ≤ (Sp.f1064 x0 x1 x2 x3 x4 (1048576 : Int)).1 ∧ (Sp.f1064 x0 x1 x2 x3 x4 (1048576 : Int)).1 ≤ 1048576) := by
  unfold Sp.f1064
  rw [wrap64 (n := 1048576 - (x0.size : Int)) (by omega) (by omega)]
  by_cases k1 : 1048576 - (x0.size : Int) < 0
  · rw [decide_eq_true k1]; exact .inl (show (-1 : Int) < 0 by decide)
  rw [decide_eq_false k1, cond_false, wrap64 (n := 1048576 - (x0.size : Int) - (x2.size : Int)) (by omega) (by omega)]
  by_cases k2 : 1048576 - (x0.size : Int) - (x2.size : Int) < 0
  · rw [decide_eq_true k2]; exact .inl (show (-1 : Int) < 0 by decide)
  rw [decide_eq_false k2, cond_false, wrap64 (n := 1048576 - (x0.size : Int) - (x2.size : Int) - (x3.size : Int)) (by omega) (by omega)]
  by_cases k3 : 1048576 - (x0.size : Int) - (x2.size : Int) - (x3.size : Int) < 0
  · rw [decide_eq_true k3]; exact .inl (show (-1 : Int) < 0 by decide)
  rw [decide_eq_false k3, cond_false]
  exact .inr ⟨show 0 ≤ 1048576 - (x0.size : Int) - (x2.size : Int) - (x3.size : Int) by omega, show 1048576 - (x0.size : Int) - (x2.size : Int) - (x3.size : Int) ≤ 1048576 by omega⟩
theorem f1067_is (x0 : ByteArray) (x1 : Int) (x2 x3 : ByteArray) (x4 : Int) : (Sp.f1067 x0 x1 x2 x3 x4).1 = (x0, x1, x2, x3, x4) := rfl
theorem heldI_mark (x k : Int) : Sp.heldI (Sp.markI x k) k = true := beq_self_eq_true k
theorem law1406_pre (x0 : ByteArray) (x1 : Int) (x2 x3 : ByteArray) (x4 : Int) (x5 : List VTb) (x6 : List VDt) (h0 : x0.size ≤ 9223372036854775807) (h2 : x2.size ≤ 9223372036854775807) (h3 : x3.size ≤ 9223372036854775807) (h5 : Sp.okTbs x5) (h6 : Sp.okDts x6) : Sp.f1406_pre x0 x1 x2 x3 x4 x5 x6 = true := by
  unfold Sp.f1406_pre
  rw [f1067_is]
  dsimp only
  rw [impl_rows, spec_rows]
  have e := pl_sz (x0 := x0) x1 (x2 := x2) (x3 := x3) x4 h0 h2 h3
  generalize (Sp.f1064 x0 x1 x2 x3 x4 (1048576 : Int)).1 = l0 at e ⊢
  by_cases c1 : l0 < 0
  · rw [decide_eq_true c1]; rfl
  obtain ⟨b1, b2⟩ := e.resolve_left c1
  by_cases c2 : Sp.szE Sp.szTb x5 l0 < 0
  · rw [decide_eq_false c1, decide_eq_true c2]; rfl
  obtain ⟨t1, t2⟩ := sumTb_of h5 b1 b2 c2
  have hs := smallTb_of h5 b1 b2 c2
  by_cases c3 : Sp.szE Sp.szDt x6 (Sp.szE Sp.szTb x5 l0) < 0
  · rw [decide_eq_false c1, decide_eq_false c2, decide_eq_true c3]; rfl
  have hd := smallDt_of h6 (l := Sp.szE Sp.szTb x5 l0) (by omega) (by omega) c3
  obtain ⟨p1, p2, p3⟩ := rows_pres (x0 := x0) (x1 := x1) (x2 := x2) (x3 := x3) (x4 := x4) h5 hs h6
  have w1 := wtTb_le (xs := x5)
  have w2 := wtDt_le (xs := x6)
  unfold Sp.smallDts at hd
  have s1 : Sp.smallU Sp.wtTb x5 (1 : Int) = true := smallU_mk (by omega) (by omega)
  have s2 : Sp.smallU Sp.wtDt x6 (Sp.addU Sp.wtTb x5 (1 : Int)) = true := smallU_mk (by unfold Sp.addU; omega) (by unfold Sp.addU; omega)
  generalize Sp.prows x0 x1 x2 x3 x4 x5 x6 = R at p3 ⊢
  have s3 : Sp.smallW 1 R.1 (1 : Int) = true := smallW_mk (by omega) (by omega)
  have s4 : Sp.smallW 1 (Sp.markW Sp.markI 1 R.1 (1 : Int)) (1 : Int) = true := smallW_mk (by omega) (by rw [markW_len]; omega)
  rw [decide_eq_false c1, decide_eq_false c2, decide_eq_false c3, fits_of hs, fitsDt_of (show Sp.smallDts x6 from hd), p1, p2, s1, s2, s3, s4]
  simp
theorem law1406 (x0 : ByteArray) (x1 : Int) (x2 x3 : ByteArray) (x4 : Int) (x5 : List VTb) (x6 : List VDt) (h5 : Sp.okTbs x5) (h6 : Sp.okDts x6) : (Sp.f1406 x0 x1 x2 x3 x4 x5 x6).1 = true := by
  unfold Sp.f1406
  rw [f1067_is]
  dsimp only
  rw [impl_rows, spec_rows]
  generalize Sp.prows x0 x1 x2 x3 x4 x5 x6 = R
  have n1 : decide (Sp.addU Sp.wtDt x6 (Sp.addU Sp.wtTb x5 (1 : Int)) < (0 : Int)) = false := decide_eq_false (by unfold Sp.addU; omega)
  have n2 : Sp.heldW Sp.heldI 1 (Sp.markW Sp.markI 1 R.1 (1 : Int)) (1 : Int) = Sp.addW 1 R.1 (1 : Int) := heldW_mark heldI_mark _ _
  have n3 : decide (Sp.addW 1 R.1 (1 : Int) < (0 : Int)) = false := decide_eq_false (by unfold Sp.addW; omega)
  rw [eqW_self eqN_self, eqW_self eqTb_self, eqW_self eqDt_self, n1, n2, n3, show (R.2 != R.2) = false by simp, show (Sp.addW 1 R.1 (1 : Int) != Sp.addW 1 R.1 (1 : Int)) = false by simp]
  cases decide ((Sp.f1064 x0 x1 x2 x3 x4 (1048576 : Int)).1 < (0 : Int)) <;> cases decide (Sp.szE Sp.szTb x5 (Sp.f1064 x0 x1 x2 x3 x4 (1048576 : Int)).1 < (0 : Int)) <;> cases decide (Sp.szE Sp.szDt x6 (Sp.szE Sp.szTb x5 (Sp.f1064 x0 x1 x2 x3 x4 (1048576 : Int)).1) < (0 : Int)) <;> rfl
end Go.Proofs.GR.T

