/-
  No statement is proved here: what the functions of the law answer, told as plain functions, and that the law's answer is always true.
  No condition.
-/
import Derived.Test.YtpljgmackfjkdaaGreatDoorTDumpBytesc
set_option maxRecDepth 3000000
set_option maxHeartbeats 100000000
namespace Go.Proofs.GR.T
open Go Go.Proofs Go.Proofs.GR
noncomputable def f1209_L0 (n m0 : Nat) (y0 : List Int) (y1 y2 y3 : Int) : Option Res := loopAt Γ (orc []) n (199 : Nat) (0 : Nat) [] [Pth.r, Pth.l, Pth.r, Pth.b] m0 (St.mk (ZS Zi.slice y0 :: ZS Zi y1 :: ZN 5 (ZS Zi y2 :: ZS Zi y3 :: ZN 10 [])) [])
theorem f1209_L0_step (n m0 : Nat) (y0 : List Int) (y1 y2 y3 : Int) : f1209_L0 n (m0 + 1) y0 y1 y2 y3 = bif decide (y3 < y2) then chk (decide ((0 : Int) ≤ y3) && decide (y3 < (↑y0.length : Int))) (bif y1 == y0.getD y3.toNat (0 : Int) then ZJ y3 else f1209_L0 n m0 y0 y1 y2 (IntKind.i64.wrap (y3 + (1 : Int)))) else ZJ (-1 : Int) := by kernel_rfl
theorem f1209_raw (n : Nat) (x0 : List Int) (x1 : Int) : abody Γ (orc []) n 199 [ZX Zi.slice x0, ZX Zi x1] = f1209_L0 n n x0 x1 (↑x0.length : Int) (0 : Int) := by kernel_rfl

def Sp.f1151_pre (x0 : ByteArray) (x1 : Int) (x2 : Bool) : Bool := (Sp.f1029_pre x0)
def Sp.f1151 (x0 : ByteArray) (x1 : Int) (x2 : Bool) := (bif (Sp.f1029 x0).1 then ((Sp.f70 x1 (1 : Int) (4 : Int)).1, ()) else (false, ()))
noncomputable def e1151 : Ent := { f := 149, ins := [Sh.agg [C0.dat Ty.str, C0.dat Zi, C0.dat Ty.bool]], outs := [Sh.one (C0.dat Ty.bool)], upd := [], pre := fun a => Sp.f1151_pre a.1 a.2.1 a.2.2, spec := fun a => (Sp.f1151 a.1 a.2.1 a.2.2).1, wrt := fun a => (Sp.f1151 a.1 a.2.1 a.2.2).2 }
def f1151_g (v : denS [Sh.one (C0.dat Ty.bool)] × denS []) : Res := ⟨mkS [Sh.one (C0.dat Ty.bool)] v.1, mkU [] v.2⟩
theorem f1151_form (x0 : ByteArray) (x1 : Int) (x2 : Bool) : abody Γ (orc [e1029, e70]) 0 149 [XV.mk true [ZC Ty.str x0, ZC Zi x1, ZC Ty.bool x2]] = chk (Sp.f1151_pre x0 x1 x2) (some (f1151_g (Sp.f1151 x0 x1 x2))) := by
  refine Eq.trans (b := chk (Sp.f1029_pre x0) (bif (Sp.f1029 x0).1 then ZB (Sp.f70 x1 (1 : Int) (4 : Int)).1 else Zf)) (by kernel_rfl) ?_
  unfold Sp.f1151_pre Sp.f1151
  exact (chk_last ((cond_plain f1151_g (rfl) (rfl))))
theorem e1151_ok : Valid PP Γ e1151 := valid_auto ok (vcons e1029_ok (vcons e70_ok vnil)) fun a => f1151_form a.1 a.2.1 a.2.2

def Sp.f1179 (x0 : ByteArray) (x1 : Int) (x2 : Bool) (x3 : ByteArray) := (x0.toList == x3.toList, ())
noncomputable def e1179 : Ent := { f := 171, ins := [Sh.agg [C0.dat Ty.str, C0.dat Zi, C0.dat Ty.bool], Sh.one (C0.rptr Ty.str)], outs := [Sh.one (C0.dat Ty.bool)], upd := [], pre := fun a => true, spec := fun a => (Sp.f1179 a.1.1 a.1.2.1 a.1.2.2 a.2).1, wrt := fun a => (Sp.f1179 a.1.1 a.1.2.1 a.1.2.2 a.2).2 }
def f1179_g (v : denS [Sh.one (C0.dat Ty.bool)] × denS []) : Res := ⟨mkS [Sh.one (C0.dat Ty.bool)] v.1, mkU [] v.2⟩
theorem f1179_form (x0 : ByteArray) (x1 : Int) (x2 : Bool) (x3 : ByteArray) : abody Γ (orc []) 0 171 [XV.mk true [ZC Ty.str x0, ZC Zi x1, ZC Ty.bool x2], XV.mk false [X.c (X0.rptr Ty.str x3)]] = some (f1179_g (Sp.f1179 x0 x1 x2 x3)) := by
  refine Eq.trans (b := ZB (x0.toList == x3.toList)) (by kernel_rfl) ?_
  unfold Sp.f1179
  exact rfl
theorem e1179_ok : Valid PP Γ e1179 := valid_auto ok vnil fun a => f1179_form a.1.1 a.1.2.1 a.1.2.2 a.2

def Sp.f1183 (x0 : ByteArray) (x1 : List Int) (x2 : ByteArray) := (x0.toList == x2.toList, ())
noncomputable def e1183 : Ent := { f := 176, ins := [Sh.agg [C0.dat Ty.str, C0.dat Zi.slice], Sh.one (C0.rptr Ty.str)], outs := [Sh.one (C0.dat Ty.bool)], upd := [], pre := fun a => true, spec := fun a => (Sp.f1183 a.1.1 a.1.2 a.2).1, wrt := fun a => (Sp.f1183 a.1.1 a.1.2 a.2).2 }
def f1183_g (v : denS [Sh.one (C0.dat Ty.bool)] × denS []) : Res := ⟨mkS [Sh.one (C0.dat Ty.bool)] v.1, mkU [] v.2⟩
theorem f1183_form (x0 : ByteArray) (x1 : List Int) (x2 : ByteArray) : abody Γ (orc []) 0 176 [XV.mk true [ZC Ty.str x0, ZC Zi.slice x1], XV.mk false [X.c (X0.rptr Ty.str x2)]] = some (f1183_g (Sp.f1183 x0 x1 x2)) := by
  refine Eq.trans (b := ZB (x0.toList == x2.toList)) (by kernel_rfl) ?_
  unfold Sp.f1183
  exact rfl
theorem e1183_ok : Valid PP Γ e1183 := valid_auto ok vnil fun a => f1183_form a.1.1 a.1.2 a.2

def Sp.f1181 (x0 : Int) (x1 : ByteArray) (x2 : List (ByteArray × Int × Bool)) (x3 : Int) (x4 : List (ByteArray × List Int)) := (!(Sp.f70 x0 (0 : Int) (IntKind.i64.wrap ((↑x2.length : Int) - (1 : Int)))).1, ())
noncomputable def e1181 : Ent := { f := 174, ins := [Sh.one ZI, Sh.one (C0.rptr (Ty.str.pair ((Ty.str.pair (Zi.pair Ty.bool)).slice.pair (Zi.pair (Ty.str.pair Zi.slice).slice))))], outs := [Sh.one (C0.dat Ty.bool)], upd := [], pre := fun a => true, spec := fun a => (Sp.f1181 a.1 a.2.1 a.2.2.1 a.2.2.2.1 a.2.2.2.2).1, wrt := fun a => (Sp.f1181 a.1 a.2.1 a.2.2.1 a.2.2.2.1 a.2.2.2.2).2 }
def f1181_g (v : denS [Sh.one (C0.dat Ty.bool)] × denS []) : Res := ⟨mkS [Sh.one (C0.dat Ty.bool)] v.1, mkU [] v.2⟩
theorem f1181_form (x0 : Int) (x1 : ByteArray) (x2 : List (ByteArray × Int × Bool)) (x3 : Int) (x4 : List (ByteArray × List Int)) : abody Γ (orc [e70]) 0 174 [ZX Zi x0, XV.mk false [X.c (X0.rptr (Ty.str.pair ((Ty.str.pair (Zi.pair Ty.bool)).slice.pair (Zi.pair (Ty.str.pair Zi.slice).slice))) (x1, x2, x3, x4))]] = some (f1181_g (Sp.f1181 x0 x1 x2 x3 x4)) := by
  refine Eq.trans (b := some (Res.mk [XV.mk false [X.c (X0.dat Ty.bool !(Sp.f70 x0 (0 : Int) (IntKind.i64.wrap ((↑x2.length : Int) - (1 : Int)))).1)]] [])) (by kernel_rfl) ?_
  unfold Sp.f1181
  exact rfl
theorem e1181_ok : Valid PP Γ e1181 := valid_auto ok (vcons e70_ok vnil) fun a => f1181_form a.1 a.2.1 a.2.2.1 a.2.2.2.1 a.2.2.2.2

end Go.Proofs.GR.T

set_option maxRecDepth 3000000
set_option maxHeartbeats 100000000
namespace Go.Proofs.GR.T
open Go Go.Proofs Go.Proofs.GR
noncomputable def e1209 : Ent := { f := n1209, ins := [Sh.one (cL tIn), Sh.one cI], outs := [Sh.one cI], upd := [], pre := fun _ => true, spec := fun a => Sp.idx (Sp.eqN a.2) a.1 0, wrt := fun _ => () }
theorem e1209_core (xs : List Int) (t : Int) (hl : xs.length ≤ maxLen) : ∃ n, abody Γ (orc []) n n1209 [ZX (Ty.slice tIn) xs, ZX tIn t] = some (rI (Sp.idx (Sp.eqN t) xs 0)) := by
  have hl : xs.length ≤ 9223372036854775807 := hl
  refine ⟨xs.length + 1, (f1209_raw _ xs t).trans ?_⟩
  refine idx_loop (p := Sp.eqN t) (R := rI) xs (fun m k => f1209_L0 (xs.length + 1) m xs t xs.length k) (fun m k hk => ?_) (fun m k h => ?_) xs.length 0 _ (Nat.zero_add _) (Nat.lt_succ_self _)
  · show f1209_L0 _ _ _ _ _ _ = _
    rw [f1209_L0_step, nat_ge hk, cond_false]
  · show f1209_L0 _ _ _ _ _ _ = _
    rw [f1209_L0_step, nat_lt h, cond_true, guard0, chkT, getD_nat xs k _ h, next64 h hl]
    rfl
theorem e1209_ok : Valid PP Γ e1209 := valid_len ok vnil fun a _ hl => e1209_core a.1 a.2 (hl _ (List.mem_cons_self) _ (List.mem_cons_self)).1
def Sp.f1197 (x0 : List Int) (x1 : Int) := (decide (Sp.idx (Sp.eqN x1) x0 (0 : Int) ≥ (0 : Int)), ())
noncomputable def e1197 : Ent := { f := 188, ins := [Sh.one (C0.dat Zi.slice), Sh.one ZI], outs := [Sh.one (C0.dat Ty.bool)], upd := [], pre := fun a => true, spec := fun a => (Sp.f1197 a.1 a.2).1, wrt := fun a => (Sp.f1197 a.1 a.2).2 }
def f1197_g (v : denS [Sh.one (C0.dat Ty.bool)] × denS []) : Res := ⟨mkS [Sh.one (C0.dat Ty.bool)] v.1, mkU [] v.2⟩
theorem f1197_form (x0 : List Int) (x1 : Int) : abody Γ (orc [e1209]) 0 188 [ZX Zi.slice x0, ZX Zi x1] = some (f1197_g (Sp.f1197 x0 x1)) := by
  refine Eq.trans (b := ZB (decide (Sp.idx (Sp.eqN x1) x0 (0 : Int) ≥ (0 : Int)))) (by kernel_rfl) ?_
  unfold Sp.f1197
  exact rfl
theorem e1197_ok : Valid PP Γ e1197 := valid_auto ok (vcons e1209_ok vnil) fun a => f1197_form a.1 a.2

noncomputable def f1180_L0 (n m0 : Nat) (y0 y1 : List Int) (y2 y3 : Int) : Option Res := loopAt Γ (orc [e1197]) n (172 : Nat) (0 : Nat) [] [Pth.r, Pth.l, Pth.r, Pth.b] m0 (St.mk (ZS Zi.slice y0 :: ZN 4 (ZS Zi.slice y1 :: ZS Zi y2 :: ZS Zi y3 :: ZN 10 [])) [])
theorem f1180_L0_step (n m0 : Nat) (y0 y1 : List Int) (y2 y3 : Int) : f1180_L0 n (m0 + 1) y0 y1 y2 y3 = bif decide (y3 < y2) then chk (decide ((0 : Int) ≤ y3) && decide (y3 < (↑y1.length : Int))) (chk (decide ((0 : Int) ≤ y3) && decide (y3 ≤ (↑y0.length : Int))) (bif (Sp.f1197 (List.take (y3.toNat - (0 : Nat)) (List.drop (0 : Nat) y0)) (y1.getD y3.toNat (0 : Int))).1 then Zt else f1180_L0 n m0 y0 y1 y2 (IntKind.i64.wrap (y3 + (1 : Int))))) else Zf := by kernel_rfl
theorem f1180_raw (n : Nat) (x0 : List Int) : abody Γ (orc [e1197]) n 172 [ZX Zi.slice x0] = f1180_L0 n n x0 x0 (↑x0.length : Int) (0 : Int) := by kernel_rfl

noncomputable def f1178_L0 (n m0 : Nat) (y0 : List (ByteArray × Int × Bool)) (y1 : ByteArray) (y2 y3 : Int) : Option Res := loopAt Γ (orc [e1179]) n (170 : Nat) (0 : Nat) [] [Pth.r, Pth.l, Pth.r, Pth.b] m0 (St.mk (ZS (Ty.str.pair (Zi.pair Ty.bool)).slice y0 :: Slot.val (Val.one (Cell.fn (171 : Nat) [Sigma.mk Ty.str y1])) :: ZN 5 (ZS Zi y2 :: ZS Zi y3 :: ZN 10 [])) [])
theorem f1178_L0_step (n m0 : Nat) (y0 : List (ByteArray × Int × Bool)) (y1 : ByteArray) (y2 y3 : Int) : f1178_L0 n (m0 + 1) y0 y1 y2 y3 = bif decide (y3 < y2) then chk (decide ((0 : Int) ≤ y3) && decide (y3 < (↑y0.length : Int))) (bif (Sp.f1179 (y0.getD y3.toNat (ByteArray.mk #[], (0 : Int), false)).1 (y0.getD y3.toNat (ByteArray.mk #[], (0 : Int), false)).2.1 (y0.getD y3.toNat (ByteArray.mk #[], (0 : Int), false)).2.2 y1).1 then ZJ y3 else f1178_L0 n m0 y0 y1 y2 (IntKind.i64.wrap (y3 + (1 : Int)))) else ZJ (-1 : Int) := by kernel_rfl
theorem f1178_raw (n : Nat) (x0 : List (ByteArray × Int × Bool)) (x1 : ByteArray) : abody Γ (orc [e1179]) n 170 [ZX (Ty.str.pair (Zi.pair Ty.bool)).slice x0, XV.mk false [X.c (X0.fn (171 : Nat) [Sigma.mk Ty.str x1])]] = f1178_L0 n n x0 x1 (↑x0.length : Int) (0 : Int) := by kernel_rfl

noncomputable def f1182_L0 (n m0 : Nat) (y0 : List (ByteArray × List Int)) (y1 : ByteArray) (y2 y3 : Int) : Option Res := loopAt Γ (orc [e1183]) n (175 : Nat) (0 : Nat) [] [Pth.r, Pth.l, Pth.r, Pth.b] m0 (St.mk (ZS (Ty.str.pair Zi.slice).slice y0 :: Slot.val (Val.one (Cell.fn (176 : Nat) [Sigma.mk Ty.str y1])) :: ZN 5 (ZS Zi y2 :: ZS Zi y3 :: ZN 10 [])) [])
theorem f1182_L0_step (n m0 : Nat) (y0 : List (ByteArray × List Int)) (y1 : ByteArray) (y2 y3 : Int) : f1182_L0 n (m0 + 1) y0 y1 y2 y3 = bif decide (y3 < y2) then chk (decide ((0 : Int) ≤ y3) && decide (y3 < (↑y0.length : Int))) (bif (Sp.f1183 (y0.getD y3.toNat (ByteArray.mk #[], [])).1 (y0.getD y3.toNat (ByteArray.mk #[], [])).2 y1).1 then ZJ y3 else f1182_L0 n m0 y0 y1 y2 (IntKind.i64.wrap (y3 + (1 : Int)))) else ZJ (-1 : Int) := by kernel_rfl
theorem f1182_raw (n : Nat) (x0 : List (ByteArray × List Int)) (x1 : ByteArray) : abody Γ (orc [e1183]) n 175 [ZX (Ty.str.pair Zi.slice).slice x0, XV.mk false [X.c (X0.fn (176 : Nat) [Sigma.mk Ty.str x1])]] = f1182_L0 n n x0 x1 (↑x0.length : Int) (0 : Int) := by kernel_rfl

noncomputable def f211_L0 (n m0 : Nat) (y0 : List Int) (y1 : ByteArray × List (ByteArray × Int × Bool) × Int × List (ByteArray × List Int)) (y2 y3 : Int) : Option Res := loopAt Γ (orc [e1181]) n (189 : Nat) (0 : Nat) [] [Pth.r, Pth.l, Pth.r, Pth.b] m0 (St.mk (ZS Zi.slice y0 :: Slot.val (Val.one (Cell.fn (174 : Nat) [Sigma.mk (Ty.str.pair ((Ty.str.pair (Zi.pair Ty.bool)).slice.pair (Zi.pair (Ty.str.pair Zi.slice).slice))) y1])) :: ZN 5 (ZS Zi y2 :: ZS Zi y3 :: ZN 10 [])) [])
theorem f211_L0_step (n m0 : Nat) (y0 : List Int) (y1 : ByteArray × List (ByteArray × Int × Bool) × Int × List (ByteArray × List Int)) (y2 y3 : Int) : f211_L0 n (m0 + 1) y0 y1 y2 y3 = bif decide (y3 < y2) then chk (decide ((0 : Int) ≤ y3) && decide (y3 < (↑y0.length : Int))) (bif (Sp.f1181 (y0.getD y3.toNat (0 : Int)) y1.1 y1.2.1 y1.2.2.1 y1.2.2.2).1 then ZJ y3 else f211_L0 n m0 y0 y1 y2 (IntKind.i64.wrap (y3 + (1 : Int)))) else ZJ (-1 : Int) := by kernel_rfl
theorem f211_raw (n : Nat) (x0 : List Int) (x1 : ByteArray) (x2 : List (ByteArray × Int × Bool)) (x3 : Int) (x4 : List (ByteArray × List Int)) : abody Γ (orc [e1181]) n 189 [ZX Zi.slice x0, XV.mk false [X.c (X0.fn (174 : Nat) [Sigma.mk (Ty.str.pair ((Ty.str.pair (Zi.pair Ty.bool)).slice.pair (Zi.pair (Ty.str.pair Zi.slice).slice))) (x1, x2, x3, x4)])]] = f211_L0 n n x0 (x1, x2, x3, x4) (↑x0.length : Int) (0 : Int) := by kernel_rfl

end Go.Proofs.GR.T

set_option maxRecDepth 3000000
set_option maxHeartbeats 100000000
namespace Go.Proofs.GR.T
open Go Go.Proofs Go.Proofs.GR
noncomputable def e1178 : Ent := { f := n1178, ins := [Sh.one (cL tCo), Sh.one (C0.fn n1179 [.str])], outs := [Sh.one cI], upd := [], pre := fun _ => true, spec := fun a => Sp.idx (Sp.nmCo a.2) a.1 0, wrt := fun _ => () }
theorem e1178_core (xs : List VCo) (t : ByteArray) (hl : xs.length ≤ maxLen) : ∃ n, abody Γ (orc [e1179]) n n1178 [ZX (Ty.slice tCo) xs, XV.mk false [X.c (X0.fn n1179 [Sigma.mk Ty.str t])]] = some (rI (Sp.idx (Sp.nmCo t) xs 0)) := by
  have hl : xs.length ≤ 9223372036854775807 := hl
  refine ⟨xs.length + 1, (f1178_raw _ xs t).trans ?_⟩
  refine idx_loop (p := Sp.nmCo t) (R := rI) xs (fun m k => f1178_L0 (xs.length + 1) m xs t xs.length k) (fun m k hk => ?_) (fun m k h => ?_) xs.length 0 _ (Nat.zero_add _) (Nat.lt_succ_self _)
  · show f1178_L0 _ _ _ _ _ _ = _
    rw [f1178_L0_step, nat_ge hk, cond_false]
  · show f1178_L0 _ _ _ _ _ _ = _
    rw [f1178_L0_step, nat_lt h, cond_true, guard0, chkT, getD_nat xs k _ h, next64 h hl]
    rfl
theorem e1178_ok : Valid PP Γ e1178 := valid_len ok (vcons e1179_ok vnil) fun a _ hl => e1178_core a.1 a.2 (hl _ (List.mem_cons_self) _ (List.mem_cons_self)).1
noncomputable def e1182 : Ent := { f := n1182, ins := [Sh.one (cL tIx), Sh.one (C0.fn n1183 [.str])], outs := [Sh.one cI], upd := [], pre := fun _ => true, spec := fun a => Sp.idx (Sp.nmIx a.2) a.1 0, wrt := fun _ => () }
theorem e1182_core (xs : List VIx) (t : ByteArray) (hl : xs.length ≤ maxLen) : ∃ n, abody Γ (orc [e1183]) n n1182 [ZX (Ty.slice tIx) xs, XV.mk false [X.c (X0.fn n1183 [Sigma.mk Ty.str t])]] = some (rI (Sp.idx (Sp.nmIx t) xs 0)) := by
  have hl : xs.length ≤ 9223372036854775807 := hl
  refine ⟨xs.length + 1, (f1182_raw _ xs t).trans ?_⟩
  refine idx_loop (p := Sp.nmIx t) (R := rI) xs (fun m k => f1182_L0 (xs.length + 1) m xs t xs.length k) (fun m k hk => ?_) (fun m k h => ?_) xs.length 0 _ (Nat.zero_add _) (Nat.lt_succ_self _)
  · show f1182_L0 _ _ _ _ _ _ = _
    rw [f1182_L0_step, nat_ge hk, cond_false]
  · show f1182_L0 _ _ _ _ _ _ = _
    rw [f1182_L0_step, nat_lt h, cond_true, guard0, chkT, getD_nat xs k _ h, next64 h hl]
    rfl
theorem e1182_ok : Valid PP Γ e1182 := valid_len ok (vcons e1183_ok vnil) fun a _ hl => e1182_core a.1 a.2 (hl _ (List.mem_cons_self) _ (List.mem_cons_self)).1
def Sp.outC (n : Nat) (c : Int) : Bool := !(Sp.f70 c (0 : Int) (IntKind.i64.wrap ((n : Int) - (1 : Int)))).1
noncomputable def e211 : Ent := { f := n211, ins := [Sh.one (cL tIn), Sh.one (C0.fn n1181 [tTb])], outs := [Sh.one cI], upd := [], pre := fun _ => true, spec := fun a => Sp.idx (Sp.outC (List.length a.2.2.1)) a.1 0, wrt := fun _ => () }
theorem e211_core (xs : List Int) (t : VTb) (hl : xs.length ≤ maxLen) : ∃ n, abody Γ (orc [e1181]) n n211 [ZX (Ty.slice tIn) xs, XV.mk false [X.c (X0.fn n1181 [Sigma.mk tTb t])]] = some (rI (Sp.idx (Sp.outC t.2.1.length) xs 0)) := by
  have hl : xs.length ≤ 9223372036854775807 := hl
  refine ⟨xs.length + 1, (f211_raw _ xs t.1 t.2.1 t.2.2.1 t.2.2.2).trans ?_⟩
  refine idx_loop (p := Sp.outC t.2.1.length) (R := rI) xs (fun m k => f211_L0 (xs.length + 1) m xs t xs.length k) (fun m k hk => ?_) (fun m k h => ?_) xs.length 0 _ (Nat.zero_add _) (Nat.lt_succ_self _)
  · show f211_L0 _ _ _ _ _ _ = _
    rw [f211_L0_step, nat_ge hk, cond_false]
  · show f211_L0 _ _ _ _ _ _ = _
    rw [f211_L0_step, nat_lt h, cond_true, guard0, chkT, getD_nat xs k _ h, next64 h hl]
    rfl
theorem e211_ok : Valid PP Γ e211 := valid_len ok (vcons e1181_ok vnil) fun a _ hl => e211_core a.1 a.2 (hl _ (List.mem_cons_self) _ (List.mem_cons_self)).1
def Sp.newP (pre : List Int) (x : Int) : Bool := !Sp.anyW (Sp.eqN x) pre
def Sp.twice (xs : List Int) : Bool := !Sp.allP Sp.newP [] xs
noncomputable def e1180 : Ent := { f := n1180, ins := [Sh.one (cL tIn)], outs := [Sh.one cB], upd := [], pre := fun _ => true, spec := fun a => Sp.twice a, wrt := fun _ => () }
theorem e1180_core (xs : List Int) (hl : xs.length ≤ maxLen) : ∃ n, abody Γ (orc [e1197]) n n1180 [ZX (Ty.slice tIn) xs] = some (rBo (Sp.twice xs)) := by
  have hl : xs.length ≤ 9223372036854775807 := hl
  refine ⟨xs.length + 1, (f1180_raw _ xs).trans ?_⟩
  refine (allP_end (p := Sp.newP) (z := some (rBo false)) (F := some (rBo true)) xs (fun m k => f1180_L0 (xs.length + 1) m xs xs xs.length k) (fun m k hk => ?_) (fun m k h _ => ?_) _ (Nat.lt_succ_self _)).trans ?_
  · show f1180_L0 _ _ _ _ _ _ = _
    rw [f1180_L0_step, nat_ge hk, cond_false]
  · show f1180_L0 _ _ _ _ _ _ = _
    rw [f1180_L0_step, nat_lt h, cond_true, guard0, chkT, guardLe (Nat.le_of_lt h), chkT, getD_nat xs k _ h, next64 h hl, Int.toNat_natCast, Nat.sub_zero, List.drop_zero]
    show (bif decide (Sp.idx (Sp.eqN xs[k]) (xs.take k) (0 : Int) ≥ (0 : Int)) then _ else _) = (bif !!Sp.anyW (Sp.eqN xs[k]) (xs.take k) then _ else _)
    rw [idx_any _ _ _ (Int.le_refl 0), Bool.not_not]
  · unfold Sp.twice
    cases Sp.allP Sp.newP [] xs <;> rfl
theorem e1180_ok : Valid PP Γ e1180 := valid_len ok (vcons e1197_ok vnil) fun a _ hl => e1180_core a (hl _ (List.mem_cons_self) _ (List.mem_cons_self)).1
def Sp.f235 (x0 : ByteArray) (x1 : List (ByteArray × Int × Bool)) (x2 : Int) (x3 : List (ByteArray × List Int)) (x4 : ByteArray) := (Sp.idx (Sp.nmCo x4) x1 (0 : Int), ())
noncomputable def e235 : Ent := { f := 150, ins := [Sh.agg [C0.dat Ty.str, C0.dat (Ty.str.pair (Zi.pair Ty.bool)).slice, C0.dat Zi, C0.dat (Ty.str.pair Zi.slice).slice], Sh.one (C0.dat Ty.str)], outs := [Sh.one ZI], upd := [], pre := fun a => true, spec := fun a => (Sp.f235 a.1.1 a.1.2.1 a.1.2.2.1 a.1.2.2.2 a.2).1, wrt := fun a => (Sp.f235 a.1.1 a.1.2.1 a.1.2.2.1 a.1.2.2.2 a.2).2 }
def f235_g (v : denS [Sh.one ZI] × denS []) : Res := ⟨mkS [Sh.one ZI] v.1, mkU [] v.2⟩
theorem f235_form (x0 : ByteArray) (x1 : List (ByteArray × Int × Bool)) (x2 : Int) (x3 : List (ByteArray × List Int)) (x4 : ByteArray) : abody Γ (orc [e1179, e1178]) 0 150 [XV.mk true [ZC Ty.str x0, ZC (Ty.str.pair (Zi.pair Ty.bool)).slice x1, ZC Zi x2, ZC (Ty.str.pair Zi.slice).slice x3], ZX Ty.str x4] = some (f235_g (Sp.f235 x0 x1 x2 x3 x4)) := by
  refine Eq.trans (b := ZJ (Sp.idx (Sp.nmCo x4) x1 (0 : Int))) (by kernel_rfl) ?_
  unfold Sp.f235
  exact rfl
theorem e235_ok : Valid PP Γ e235 := valid_auto ok (vcons e1179_ok (vcons e1178_ok vnil)) fun a => f235_form a.1.1 a.1.2.1 a.1.2.2.1 a.1.2.2.2 a.2

def Sp.f1153 (x0 : ByteArray) (x1 : List (ByteArray × Int × Bool)) (x2 : Int) (x3 : List (ByteArray × List Int)) (x4 : ByteArray) := (Sp.idx (Sp.nmIx x4) x3 (0 : Int), ())
noncomputable def e1153 : Ent := { f := 152, ins := [Sh.agg [C0.dat Ty.str, C0.dat (Ty.str.pair (Zi.pair Ty.bool)).slice, C0.dat Zi, C0.dat (Ty.str.pair Zi.slice).slice], Sh.one (C0.dat Ty.str)], outs := [Sh.one ZI], upd := [], pre := fun a => true, spec := fun a => (Sp.f1153 a.1.1 a.1.2.1 a.1.2.2.1 a.1.2.2.2 a.2).1, wrt := fun a => (Sp.f1153 a.1.1 a.1.2.1 a.1.2.2.1 a.1.2.2.2 a.2).2 }
def f1153_g (v : denS [Sh.one ZI] × denS []) : Res := ⟨mkS [Sh.one ZI] v.1, mkU [] v.2⟩
theorem f1153_form (x0 : ByteArray) (x1 : List (ByteArray × Int × Bool)) (x2 : Int) (x3 : List (ByteArray × List Int)) (x4 : ByteArray) : abody Γ (orc [e1183, e1182]) 0 152 [XV.mk true [ZC Ty.str x0, ZC (Ty.str.pair (Zi.pair Ty.bool)).slice x1, ZC Zi x2, ZC (Ty.str.pair Zi.slice).slice x3], ZX Ty.str x4] = some (f1153_g (Sp.f1153 x0 x1 x2 x3 x4)) := by
  refine Eq.trans (b := ZJ (Sp.idx (Sp.nmIx x4) x3 (0 : Int))) (by kernel_rfl) ?_
  unfold Sp.f1153
  exact rfl
theorem e1153_ok : Valid PP Γ e1153 := valid_auto ok (vcons e1183_ok (vcons e1182_ok vnil)) fun a => f1153_form a.1.1 a.1.2.1 a.1.2.2.1 a.1.2.2.2 a.2

def Sp.f202 (x0 : List Int) (x1 : ByteArray) (x2 : List (ByteArray × Int × Bool)) (x3 : Int) (x4 : List (ByteArray × List Int)) := (decide (Sp.idx (Sp.outC x2.length) x0 (0 : Int) ≥ (0 : Int)), ())
noncomputable def e202 : Ent := { f := 173, ins := [Sh.one (C0.dat Zi.slice), Sh.one (C0.fn (174 : Nat) [Ty.str.pair ((Ty.str.pair (Zi.pair Ty.bool)).slice.pair (Zi.pair (Ty.str.pair Zi.slice).slice))])], outs := [Sh.one (C0.dat Ty.bool)], upd := [], pre := fun a => true, spec := fun a => (Sp.f202 a.1 a.2.1 a.2.2.1 a.2.2.2.1 a.2.2.2.2).1, wrt := fun a => (Sp.f202 a.1 a.2.1 a.2.2.1 a.2.2.2.1 a.2.2.2.2).2 }
def f202_g (v : denS [Sh.one (C0.dat Ty.bool)] × denS []) : Res := ⟨mkS [Sh.one (C0.dat Ty.bool)] v.1, mkU [] v.2⟩
theorem f202_form (x0 : List Int) (x1 : ByteArray) (x2 : List (ByteArray × Int × Bool)) (x3 : Int) (x4 : List (ByteArray × List Int)) : abody Γ (orc [e211, e1181]) 0 173 [ZX Zi.slice x0, XV.mk false [X.c (X0.fn (174 : Nat) [Sigma.mk (Ty.str.pair ((Ty.str.pair (Zi.pair Ty.bool)).slice.pair (Zi.pair (Ty.str.pair Zi.slice).slice))) (x1, x2, x3, x4)])]] = some (f202_g (Sp.f202 x0 x1 x2 x3 x4)) := by
  refine Eq.trans (b := ZB (decide (Sp.idx (Sp.outC x2.length) x0 (0 : Int) ≥ (0 : Int)))) (by kernel_rfl) ?_
  unfold Sp.f202
  exact rfl
theorem e202_ok : Valid PP Γ e202 := valid_auto ok (vcons e211_ok (vcons e1181_ok vnil)) fun a => f202_form a.1 a.2.1 a.2.2.1 a.2.2.2.1 a.2.2.2.2

def Sp.f1152_pre (x0 : ByteArray) (x1 : List (ByteArray × Int × Bool)) (x2 : Int) (x3 : List (ByteArray × List Int)) (x4 : ByteArray) (x5 : List Int) : Bool := (Sp.f1029_pre x4)
def Sp.f1152 (x0 : ByteArray) (x1 : List (ByteArray × Int × Bool)) (x2 : Int) (x3 : List (ByteArray × List Int)) (x4 : ByteArray) (x5 : List Int) := (bif (Sp.f1029 x4).1 then (bif decide ((↑x5.length : Int) > (0 : Int)) then (bif !Sp.twice x5 then (!(Sp.f202 x5 x0 x1 x2 x3).1, ()) else (false, ())) else (false, ())) else (false, ()))
noncomputable def e1152 : Ent := { f := 151, ins := [Sh.agg [C0.dat Ty.str, C0.dat (Ty.str.pair (Zi.pair Ty.bool)).slice, C0.dat Zi, C0.dat (Ty.str.pair Zi.slice).slice], Sh.agg [C0.dat Ty.str, C0.dat Zi.slice]], outs := [Sh.one (C0.dat Ty.bool)], upd := [], pre := fun a => Sp.f1152_pre a.1.1 a.1.2.1 a.1.2.2.1 a.1.2.2.2 a.2.1 a.2.2, spec := fun a => (Sp.f1152 a.1.1 a.1.2.1 a.1.2.2.1 a.1.2.2.2 a.2.1 a.2.2).1, wrt := fun a => (Sp.f1152 a.1.1 a.1.2.1 a.1.2.2.1 a.1.2.2.2 a.2.1 a.2.2).2 }
def f1152_g (v : denS [Sh.one (C0.dat Ty.bool)] × denS []) : Res := ⟨mkS [Sh.one (C0.dat Ty.bool)] v.1, mkU [] v.2⟩
theorem f1152_form (x0 : ByteArray) (x1 : List (ByteArray × Int × Bool)) (x2 : Int) (x3 : List (ByteArray × List Int)) (x4 : ByteArray) (x5 : List Int) : abody Γ (orc [e1029, e1180, e1181, e202]) 0 151 [XV.mk true [ZC Ty.str x0, ZC (Ty.str.pair (Zi.pair Ty.bool)).slice x1, ZC Zi x2, ZC (Ty.str.pair Zi.slice).slice x3], XV.mk true [ZC Ty.str x4, ZC Zi.slice x5]] = chk (Sp.f1152_pre x0 x1 x2 x3 x4 x5) (some (f1152_g (Sp.f1152 x0 x1 x2 x3 x4 x5))) := by
  refine Eq.trans (b := chk (Sp.f1029_pre x4) (bif (Sp.f1029 x4).1 then bif decide ((↑x5.length : Int) > (0 : Int)) then bif !Sp.twice x5 then some (Res.mk [XV.mk false [X.c (X0.dat Ty.bool !(Sp.f202 x5 x0 x1 x2 x3).1)]] []) else Zf else Zf else Zf)) (by kernel_rfl) ?_
  unfold Sp.f1152_pre Sp.f1152
  exact (chk_last ((cond_plain f1152_g ((cond_plain f1152_g ((cond_plain f1152_g (rfl) (rfl))) (rfl))) (rfl))))
theorem e1152_ok : Valid PP Γ e1152 := valid_auto ok (vcons e1029_ok (vcons e1180_ok (vcons e1181_ok (vcons e202_ok vnil)))) fun a => f1152_form a.1.1 a.1.2.1 a.1.2.2.1 a.1.2.2.2 a.2.1 a.2.2

noncomputable def f1115_L0 (n m0 : Nat) (y0 : List (ByteArray × Int × Bool)) (y1 y2 : Int) (y3 : ByteArray) (y4 : List (ByteArray × Int × Bool)) (y5 : Int) (y6 : List (ByteArray × List Int)) : Option Res := loopAt Γ (orc [e1029, e70, e1151, e235, e1152, e1153]) n (117 : Nat) (0 : Nat) [] [Pth.r, Pth.r, Pth.l, Pth.r, Pth.b] m0 (St.mk (Zn :: Slot.val (Val.one (Cell.ptr (0 : Nat) (0 : Nat))) :: ZN 32 (ZS (Ty.str.pair (Zi.pair Ty.bool)).slice y0 :: ZS Zi y1 :: ZS Zi y2 :: ZN 47 [])) [AObj.box (79 : Nat) [Cell.dat Ty.str y3, Cell.dat (Ty.str.pair (Zi.pair Ty.bool)).slice y4, Cell.dat Zi y5, Cell.dat (Ty.str.pair Zi.slice).slice y6]])
noncomputable def f1115_L1 (n m1 : Nat) (y0 : List (ByteArray × List Int)) (y1 y2 : Int) (y3 : ByteArray) (y4 : List (ByteArray × Int × Bool)) (y5 : Int) (y6 : List (ByteArray × List Int)) : Option Res := loopAt Γ (orc [e1029, e70, e1151, e235, e1152, e1153]) n (117 : Nat) (0 : Nat) [] [Pth.r, Pth.r, Pth.r, Pth.l, Pth.r, Pth.b] m1 (St.mk (Zn :: Slot.val (Val.one (Cell.ptr (0 : Nat) (0 : Nat))) :: ZN 62 (ZS (Ty.str.pair Zi.slice).slice y0 :: ZS Zi y1 :: ZS Zi y2 :: ZN 17 [])) [AObj.box (79 : Nat) [Cell.dat Ty.str y3, Cell.dat (Ty.str.pair (Zi.pair Ty.bool)).slice y4, Cell.dat Zi y5, Cell.dat (Ty.str.pair Zi.slice).slice y6]])
theorem f1115_L0_step (n m0 : Nat) (y0 : List (ByteArray × Int × Bool)) (y1 y2 : Int) (y3 : ByteArray) (y4 : List (ByteArray × Int × Bool)) (y5 : Int) (y6 : List (ByteArray × List Int)) : f1115_L0 n (m0 + 1) y0 y1 y2 y3 y4 y5 y6 = bif decide (y2 < y1) then chk (decide ((0 : Int) ≤ y2) && decide (y2 < (↑y0.length : Int))) (chk (Sp.f1151_pre (y0.getD y2.toNat (ByteArray.mk #[], (0 : Int), false)).1 (y0.getD y2.toNat (ByteArray.mk #[], (0 : Int), false)).2.1 (y0.getD y2.toNat (ByteArray.mk #[], (0 : Int), false)).2.2) (bif !(Sp.f1151 (y0.getD y2.toNat (ByteArray.mk #[], (0 : Int), false)).1 (y0.getD y2.toNat (ByteArray.mk #[], (0 : Int), false)).2.1 (y0.getD y2.toNat (ByteArray.mk #[], (0 : Int), false)).2.2).1 then Zf else bif (Sp.f235 y3 y4 y5 y6 (y0.getD y2.toNat (ByteArray.mk #[], (0 : Int), false)).1).1 != y2 then Zf else bif decide (y2 < y5) then bif (y0.getD y2.toNat (ByteArray.mk #[], (0 : Int), false)).2.2 then Zf else f1115_L0 n m0 y0 y1 (IntKind.i64.wrap (y2 + (1 : Int))) y3 y4 y5 y6 else f1115_L0 n m0 y0 y1 (IntKind.i64.wrap (y2 + (1 : Int))) y3 y4 y5 y6)) else f1115_L1 n n y6 (↑y6.length : Int) (0 : Int) y3 y4 y5 y6 := by kernel_rfl
theorem f1115_L1_step (n m1 : Nat) (y0 : List (ByteArray × List Int)) (y1 y2 : Int) (y3 : ByteArray) (y4 : List (ByteArray × Int × Bool)) (y5 : Int) (y6 : List (ByteArray × List Int)) : f1115_L1 n (m1 + 1) y0 y1 y2 y3 y4 y5 y6 = bif decide (y2 < y1) then chk (decide ((0 : Int) ≤ y2) && decide (y2 < (↑y0.length : Int))) (chk (Sp.f1152_pre y3 y4 y5 y6 (y0.getD y2.toNat (ByteArray.mk #[], [])).1 (y0.getD y2.toNat (ByteArray.mk #[], [])).2) (bif !(Sp.f1152 y3 y4 y5 y6 (y0.getD y2.toNat (ByteArray.mk #[], [])).1 (y0.getD y2.toNat (ByteArray.mk #[], [])).2).1 then Zf else bif (Sp.f1153 y3 y4 y5 y6 (y0.getD y2.toNat (ByteArray.mk #[], [])).1).1 != y2 then Zf else f1115_L1 n m1 y0 y1 (IntKind.i64.wrap (y2 + (1 : Int))) y3 y4 y5 y6)) else Zt := by kernel_rfl
theorem f1115_raw (n : Nat) (x0 : ByteArray) (x1 : List (ByteArray × Int × Bool)) (x2 : Int) (x3 : List (ByteArray × List Int)) : abody Γ (orc [e1029, e70, e1151, e235, e1152, e1153]) n 117 [XV.mk true [ZC Ty.str x0, ZC (Ty.str.pair (Zi.pair Ty.bool)).slice x1, ZC Zi x2, ZC (Ty.str.pair Zi.slice).slice x3]] = chk (Sp.f1029_pre x0) (bif !(Sp.f1029 x0).1 then Zf else bif !(Sp.f70 (↑x1.length : Int) (1 : Int) (8 : Int)).1 then Zf else bif !(Sp.f70 x2 (1 : Int) (↑x1.length : Int)).1 then Zf else bif decide ((↑x3.length : Int) > (4 : Int)) then Zf else f1115_L0 n n x1 (↑x1.length : Int) (0 : Int) x0 x1 x2 x3) := by kernel_rfl

end Go.Proofs.GR.T

set_option maxRecDepth 3000000
set_option maxHeartbeats 100000000
namespace Go.Proofs.GR.T
open Go Go.Proofs Go.Proofs.GR
theorem allW_cong {α : Type} {p q : α → Bool} : ∀ {xs : List α}, (∀ x ∈ xs, p x = q x) → Sp.allW p xs = Sp.allW q xs
  | [], _ => rfl
  | x :: r, h => by rw [Sp.allW, Sp.allW, h x List.mem_cons_self, allW_cong fun y hy => h y (List.mem_cons_of_mem _ hy)]
theorem anyW_false {α : Type} {p : α → Bool} : ∀ {xs : List α}, Sp.anyW p xs = false → ∀ x ∈ xs, p x = false
  | [], _, x, h => by cases h
  | y :: r, h, x, hx => by
    rw [Sp.anyW] at h
    cases hp : p y with
    | true => rw [hp] at h; cases h
    | false =>
      rw [hp, cond_false] at h
      rcases List.mem_cons.1 hx with rfl | hx
      · exact hp
      · exact anyW_false h x hx
theorem frees_eq (t : ByteArray) : (Sp.f1029 t).1 = Sp.isFreeS t := by
  unfold Sp.f1029 Sp.isFreeS
  have e : (Sp.f1031 Sp.f1037.1 t).1 = Sp.anyW (Sp.sameS t) Sp.f1037.1 := idx_any (Sp.sameS t) Sp.f1037.1 0 (Int.le_refl 0)
  rw [e, reserved_eq, anyW_all]
  cases Sp.isName (strBytes t) with
  | false => rfl
  | true =>
    show (!!Sp.allW (fun x => !Sp.sameS t x) Sp.f209.1) = Sp.allW (fun w : ByteArray => !(w.toList == t.toList)) Sp.f209.1
    rw [Bool.not_not]
    exact allW_cong fun w _ => by unfold Sp.sameS; rw [Bool.beq_comm]
theorem pigeon : ∀ (n : Nat) (cs : List Int), cs.Nodup → (∀ c ∈ cs, 0 ≤ c ∧ c < (n : Int)) → cs.length ≤ n
  | 0, [], _, _ => Nat.le_refl _
  | 0, c :: _, _, h => by have := h c List.mem_cons_self; omega
  | n + 1, cs, hd, h => by
    by_cases hm : (n : Int) ∈ cs
    · have := pigeon n (cs.erase (n : Int)) (hd.erase _) fun c hc => by
        have h1 := h c (List.mem_of_mem_erase hc)
        have h2 := (hd.mem_erase_iff.1 hc).1
        omega
      rw [List.length_erase_of_mem hm] at this
      omega
    · have := pigeon n cs hd fun c hc => by
        have h1 := h c hc
        have h2 : c ≠ (n : Int) := fun e => hm (e ▸ hc)
        omega
      omega
theorem newP_nodup : ∀ (cs pre : List Int), pre.Nodup → Sp.allP Sp.newP pre cs = true → (pre ++ cs).Nodup
  | [], pre, h, _ => by rw [List.append_nil]; exact h
  | x :: r, pre, h, hp => by
    rw [Sp.allP] at hp
    cases hn : Sp.newP pre x with
    | false => rw [hn] at hp; cases hp
    | true =>
      rw [hn, Bool.not_true, cond_false] at hp
      have hx : x ∉ pre := fun hx => by
        unfold Sp.newP at hn
        have ha : Sp.anyW (Sp.eqN x) pre = false := by cases ha : Sp.anyW (Sp.eqN x) pre with | false => rfl | true => rw [ha] at hn; cases hn
        have := anyW_false ha x hx
        unfold Sp.eqN at this
        rw [beq_self_eq_true] at this
        cases this
      have := newP_nodup r (pre ++ [x]) (List.nodup_append.2 ⟨h, by simp, fun a ha b hb e => by rw [List.mem_singleton] at hb; subst hb; subst e; exact hx ha⟩) hp
      rw [List.append_assoc, List.singleton_append] at this
      exact this
def Sp.inC (n : Nat) (c : Int) : Bool := (Sp.f79 c (0 : Int) (IntKind.i64.wrap ((n : Int) - (1 : Int)))).1
theorem ix_eq (x0 : ByteArray) (x1 : List VCo) (x2 : Int) (x3 : List VIx) (t : ByteArray) (cs : List Int) (h1 : x1.length ≤ 9223372036854775807) : (Sp.f1152 x0 x1 x2 x3 t cs).1 = Sp.ixOK x1.length t cs := by
  unfold Sp.f1152 Sp.ixOK
  rw [frees_eq]
  cases Sp.isFreeS t with
  | false => rfl
  | true =>
    rw [cond_true, Bool.not_true, cond_false]
    have e0 : decide ((cs.length : Int) > (0 : Int)) = !((cs.length : Int) == (0 : Int)) := by
      by_cases h : cs.length = 0
      · rw [h]; rfl
      · rw [decide_eq_true (show (cs.length : Int) > 0 by omega), show ((cs.length : Int) == 0) = false from beq_eq_false_iff_ne.2 (by omega)]; rfl
    rw [e0]
    cases (cs.length : Int) == (0 : Int) with
    | true => rfl
    | false =>
      rw [Bool.not_false, cond_true, cond_false]
      have e1 : Sp.allP (Sp.ixP x1.length) [] cs = (bif Sp.allW (Sp.inC x1.length) cs then Sp.allP Sp.newP [] cs else false) := by
        have := allP_and (p := fun _ c => Sp.inC x1.length c) (q := Sp.newP) cs []
        rw [allP_all] at this
        exact this
      have e2 : (Sp.f202 cs x0 x1 x2 x3).1 = !Sp.allW (Sp.inC x1.length) cs := by
        show decide (Sp.idx (Sp.outC x1.length) cs (0 : Int) ≥ (0 : Int)) = _
        rw [idx_any _ _ _ (Int.le_refl 0), anyW_all]
        exact congrArg _ (allW_cong fun c _ => Bool.not_not _)
      rw [e1]
      unfold Sp.twice
      show (bif !!Sp.allP Sp.newP [] cs then (!(Sp.f202 cs x0 x1 x2 x3).1, ()) else (false, ())).1 = _
      rw [e2, Bool.not_not, Bool.not_not]
      cases hw : Sp.allW (Sp.inC x1.length) cs with
      | false => cases Sp.allP Sp.newP [] cs <;> cases decide ((cs.length : Int) > (x1.length : Int)) <;> rfl
      | true =>
        cases hn : Sp.allP Sp.newP [] cs with
        | false => cases decide ((cs.length : Int) > (x1.length : Int)) <;> rfl
        | true =>
          have := pigeon x1.length cs (by have := newP_nodup cs [] List.nodup_nil hn; rw [List.nil_append] at this; exact this) fun c hc => by
            have := allW_mem.1 hw c hc
            unfold Sp.inC at this
            rw [f79_has h1] at this
            have := Bool.and_eq_true_iff.1 this
            exact ⟨of_decide_eq_true this.1, of_decide_eq_true this.2⟩
          rw [decide_eq_false (show ¬ (cs.length : Int) > (x1.length : Int) by omega)]
          rfl
theorem split_at {α : Type} {xs : List α} {k : Nat} (h : k < xs.length) : xs = xs.take k ++ xs[k] :: xs.drop (k + 1) := by
  rw [← List.drop_eq_getElem_cons h, List.take_append_drop]
theorem own_at {α : Type} {p : α → Bool} {xs : List α} {k : Nat} (h : k < xs.length) (hp : p xs[k] = true) : (Sp.idx p xs 0 != (k : Int)) = Sp.anyW p (xs.take k) := by
  have := idx_own (p := p) (xs.take k) xs[k] (xs.drop (k + 1)) 0 hp
  rw [← split_at h, List.length_take, Nat.min_eq_left (Nat.le_of_lt h), Int.zero_add] at this
  exact this
def Sp.fineCo (c : VCo) : Bool := Sp.f1029_pre c.1
def Sp.fineIx (c : VIx) : Bool := Sp.f1029_pre c.1
def Sp.fineT (x0 : ByteArray) (x1 : List VCo) (x3 : List VIx) : Bool := yes2 (Sp.f1029_pre x0) (yes2 (Sp.allW Sp.fineCo x1) (Sp.allW Sp.fineIx x3))
noncomputable def e1115 : Ent := { f := n1115, ins := [shTb], outs := [Sh.one cB], upd := [], pre := fun a => Sp.fineT a.1 a.2.1 a.2.2.2, spec := fun a => Sp.tbOK a.1 a.2.1 a.2.2.1 a.2.2.2, wrt := fun _ => () }
theorem e1115_core (x0 : ByteArray) (x1 : List VCo) (x2 : Int) (x3 : List VIx) (h1 : x1.length ≤ maxLen) (h3 : x3.length ≤ maxLen) (hf : Sp.fineT x0 x1 x3 = true) : ∃ n, abody Γ (orc [e1029, e70, e1151, e235, e1152, e1153]) n n1115 [XV.mk true [ZC Ty.str x0, ZC (Ty.slice tCo) x1, ZC Zi x2, ZC (Ty.slice tIx) x3]] = some (rBo (Sp.tbOK x0 x1 x2 x3)) := by
  have h1 : x1.length ≤ 9223372036854775807 := h1
  have h3 : x3.length ≤ 9223372036854775807 := h3
  obtain ⟨h0, hf⟩ := yes2_true hf
  obtain ⟨h1', h3'⟩ := yes2_true hf
  have h1' := allW_mem.1 h1'
  have h3' := allW_mem.1 h3'
  refine ⟨x1.length + x3.length + 1, (f1115_raw _ x0 x1 x2 x3).trans ?_⟩
  unfold Sp.tbOK
  rw [h0, chkT, frees_eq]
  cases Sp.isFreeS x0 with
  | false => rfl
  | true =>
  show (bif !(Sp.f79 (x1.length : Int) (1 : Int) (8 : Int)).1 then some (rBo false) else bif !(Sp.f79 x2 (1 : Int) (x1.length : Int)).1 then some (rBo false) else bif decide ((x3.length : Int) > (4 : Int)) then some (rBo false) else f1115_L0 (x1.length + x3.length + 1) (x1.length + x3.length + 1) x1 (x1.length : Int) (0 : Int) x0 x1 x2 x3) = _
  cases (Sp.f79 (x1.length : Int) (1 : Int) (8 : Int)).1 with
  | false => rfl
  | true =>
  cases (Sp.f79 x2 (1 : Int) (x1.length : Int)).1 with
  | false => rfl
  | true =>
  cases decide ((x3.length : Int) > (4 : Int)) with
  | true => rfl
  | false =>
    rw [Bool.not_true, cond_false, cond_false, cond_false, cond_false, cond_false, cond_false, cond_false]
    have L1 := allP_end (p := Sp.inP x1.length) (z := some (rBo true)) (F := some (rBo false)) x3 (fun m k => f1115_L1 (x1.length + x3.length + 1) m x3 x3.length k x0 x1 x2 x3) (fun m k hk => by
      show f1115_L1 _ _ _ _ _ _ _ _ _ = _
      rw [f1115_L1_step, nat_ge hk, cond_false]) (fun m k h _ => by
      show f1115_L1 _ _ _ _ _ _ _ _ _ = _
      have hp : Sp.f1152_pre x0 x1 x2 x3 x3[k].1 x3[k].2 = true := h3' _ (List.getElem_mem h)
      rw [f1115_L1_step, nat_lt h, cond_true, guard0, chkT, getD_nat x3 k _ h, hp, chkT, next64 h h3, ix_eq x0 x1 x2 x3 _ _ h1]
      show (bif !Sp.ixOK x1.length x3[k].1 x3[k].2 then _ else bif Sp.idx (Sp.nmIx x3[k].1) x3 0 != (k : Int) then _ else _) = _
      rw [own_at h (show (x3[k].1.toList == x3[k].1.toList) = true from beq_self_eq_true _)]
      unfold Sp.inP
      cases Sp.ixOK x1.length x3[k].1 x3[k].2 with
      | false => rfl
      | true => cases Sp.anyW (Sp.nmIx x3[k].1) (x3.take k) <;> rfl) (x1.length + x3.length + 1) (by omega)
    have L0 := allP_end (p := Sp.coP x2) (z := f1115_L1 (x1.length + x3.length + 1) (x1.length + x3.length + 1) x3 x3.length 0 x0 x1 x2 x3) (F := some (rBo false)) x1 (fun m k => f1115_L0 (x1.length + x3.length + 1) m x1 x1.length k x0 x1 x2 x3) (fun m k hk => by
      show f1115_L0 _ _ _ _ _ _ _ _ _ = _
      rw [f1115_L0_step, nat_ge hk, cond_false]) (fun m k h _ => by
      show f1115_L0 _ _ _ _ _ _ _ _ _ = _
      have hk : (x1.take k).length = k := by rw [List.length_take]; omega
      have hp : Sp.f1151_pre x1[k].1 x1[k].2.1 x1[k].2.2 = true := h1' _ (List.getElem_mem h)
      rw [f1115_L0_step, nat_lt h, cond_true, guard0, chkT, getD_nat x1 k _ h, hp, chkT, next64 h h1]
      have e1 : (Sp.f1151 x1[k].1 x1[k].2.1 x1[k].2.2).1 = (bif Sp.isFreeS x1[k].1 then (Sp.f79 x1[k].2.1 (1 : Int) (4 : Int)).1 else false) := by
        show (bif (Sp.f1029 x1[k].1).1 then ((Sp.f70 x1[k].2.1 (1 : Int) (4 : Int)).1, ()) else (false, ())).1 = _
        rw [frees_eq]
        cases Sp.isFreeS x1[k].1 <;> rfl
      rw [e1]
      show (bif !(bif Sp.isFreeS x1[k].1 then (Sp.f79 x1[k].2.1 (1 : Int) (4 : Int)).1 else false) then _ else bif Sp.idx (Sp.nmCo x1[k].1) x1 0 != (k : Int) then _ else _) = _
      rw [own_at h (show (x1[k].1.toList == x1[k].1.toList) = true from beq_self_eq_true _)]
      unfold Sp.coP
      rw [hk]
      cases Sp.isFreeS x1[k].1 with
      | false => rfl
      | true =>
        cases (Sp.f79 x1[k].2.1 (1 : Int) (4 : Int)).1 with
        | false => rfl
        | true => cases decide ((k : Int) < x2) <;> cases x1[k].2.2 <;> cases Sp.anyW (Sp.nmCo x1[k].1) (x1.take k) <;> rfl) (x1.length + x3.length + 1) (by omega)
    refine L0.trans ?_
    rw [show f1115_L1 (x1.length + x3.length + 1) (x1.length + x3.length + 1) x3 x3.length 0 x0 x1 x2 x3 = _ from L1]
    cases Sp.allP (Sp.coP x2) [] x1 with
    | false => rfl
    | true => cases Sp.allP (Sp.inP x1.length) [] x3 <;> rfl
theorem e1115_ok : Valid PP Γ e1115 := valid_len ok (vcons e1029_ok (vcons e70_ok (vcons e1151_ok (vcons e235_ok (vcons e1152_ok (vcons e1153_ok vnil)))))) fun a ha hl => e1115_core a.1 a.2.1 a.2.2.1 a.2.2.2 (hl _ (List.mem_cons_self) _ (List.mem_cons_of_mem _ List.mem_cons_self)).1 (hl _ (List.mem_cons_self) _ (List.mem_cons_of_mem _ (List.mem_cons_of_mem _ (List.mem_cons_of_mem _ List.mem_cons_self)))).1 ha
noncomputable def f1090_L0 (n m0 : Nat) (y0 y1 : List (ByteArray × List (ByteArray × Int × Bool) × Int × List (ByteArray × List Int))) (y2 y3 : Int) : Option Res := loopAt Γ (orc [e1115]) n (78 : Nat) (0 : Nat) [] [Pth.r, Pth.l, Pth.r, Pth.b] m0 (St.mk (ZS (Ty.str.pair ((Ty.str.pair (Zi.pair Ty.bool)).slice.pair (Zi.pair (Ty.str.pair Zi.slice).slice))).slice y0 :: ZN 4 (ZS (Ty.str.pair ((Ty.str.pair (Zi.pair Ty.bool)).slice.pair (Zi.pair (Ty.str.pair Zi.slice).slice))).slice y1 :: ZS Zi y2 :: ZS Zi y3 :: ZN 26 [])) [])
theorem f1090_L0_step (n m0 : Nat) (y0 y1 : List (ByteArray × List (ByteArray × Int × Bool) × Int × List (ByteArray × List Int))) (y2 y3 : Int) : f1090_L0 n (m0 + 1) y0 y1 y2 y3 = bif decide (y3 < y2) then chk (decide ((0 : Int) ≤ y3) && decide (y3 < (↑y1.length : Int))) (chk (Sp.fineT (y1.getD y3.toNat (ByteArray.mk #[], [], (0 : Int), [])).1 (y1.getD y3.toNat (ByteArray.mk #[], [], (0 : Int), [])).2.1 (y1.getD y3.toNat (ByteArray.mk #[], [], (0 : Int), [])).2.2.2) (bif !Sp.tbOK (y1.getD y3.toNat (ByteArray.mk #[], [], (0 : Int), [])).1 (y1.getD y3.toNat (ByteArray.mk #[], [], (0 : Int), [])).2.1 (y1.getD y3.toNat (ByteArray.mk #[], [], (0 : Int), [])).2.2.1 (y1.getD y3.toNat (ByteArray.mk #[], [], (0 : Int), [])).2.2.2 then Zf else bif decide (y3 > (0 : Int)) then chk (decide ((0 : Int) ≤ IntKind.i64.wrap (y3 - (1 : Int))) && decide (IntKind.i64.wrap (y3 - (1 : Int)) < (↑y0.length : Int))) (bif Op.bytesLess (y1.getD y3.toNat (ByteArray.mk #[], [], (0 : Int), [])).1.toList (y0.getD (IntKind.i64.wrap (y3 - (1 : Int))).toNat (ByteArray.mk #[], [], (0 : Int), [])).1.toList || (y1.getD y3.toNat (ByteArray.mk #[], [], (0 : Int), [])).1.toList == (y0.getD (IntKind.i64.wrap (y3 - (1 : Int))).toNat (ByteArray.mk #[], [], (0 : Int), [])).1.toList then Zf else f1090_L0 n m0 y0 y1 y2 (IntKind.i64.wrap (y3 + (1 : Int)))) else f1090_L0 n m0 y0 y1 y2 (IntKind.i64.wrap (y3 + (1 : Int))))) else ZB (decide ((↑y0.length : Int) ≤ (6 : Int))) := by kernel_rfl
theorem f1090_raw (n : Nat) (x0 : List (ByteArray × List (ByteArray × Int × Bool) × Int × List (ByteArray × List Int))) : abody Γ (orc [e1115]) n 78 [ZX (Ty.str.pair ((Ty.str.pair (Zi.pair Ty.bool)).slice.pair (Zi.pair (Ty.str.pair Zi.slice).slice))).slice x0] = f1090_L0 n n x0 x0 (↑x0.length : Int) (0 : Int) := by kernel_rfl

end Go.Proofs.GR.T

set_option maxRecDepth 3000000
set_option maxHeartbeats 100000000
namespace Go.Proofs.GR.T
open Go Go.Proofs Go.Proofs.GR
theorem less_le (x y : ByteArray) : (Op.bytesLess y.toList x.toList || y.toList == x.toList) = !Sp.lessS x y := by
  show (Sp.lessS y x || y.toList == x.toList) = !Sp.lessS x y
  cases h : Sp.lessS x y with
  | true =>
    rw [lessS_asymm h, Bool.false_or]
    cases he : y.toList == x.toList with
    | false => rfl
    | true => rw [lessS_congr' (c := x) (eq_of_beq he), lessS_irrefl] at h; cases h
  | false =>
    cases h2 : Sp.lessS y x with
    | true => rfl
    | false => rw [lessS_tri h2 h, beq_self_eq_true]; rfl
def Sp.fineTb (x : VTb) : Bool := Sp.fineT x.1 x.2.1 x.2.2.2
def Sp.fineTs (xs : List VTb) : Bool := Sp.allW Sp.fineTb xs
noncomputable def e1090 : Ent := { f := n1090, ins := [Sh.one (cL tTb)], outs := [Sh.one cB], upd := [], pre := fun a => Sp.fineTs a, spec := fun a => Sp.catOK a, wrt := fun _ => () }
theorem e1090_core (xs : List VTb) (ha : Sp.fineTs xs = true) (hl : xs.length ≤ maxLen) : ∃ n, abody Γ (orc [e1115]) n n1090 [ZX (Ty.slice tTb) xs] = some (rBo (Sp.catOK xs)) := by
  have hl : xs.length ≤ 9223372036854775807 := hl
  have ha := allW_mem.1 ha
  refine ⟨xs.length + 1, (f1090_raw _ xs).trans ?_⟩
  have L0 := allP_end (p := Sp.catP) (z := some (rBo (decide ((xs.length : Int) ≤ (6 : Int))))) (F := some (rBo false)) xs (fun m k => f1090_L0 (xs.length + 1) m xs xs xs.length k) (fun m k hk => by
    show f1090_L0 _ _ _ _ _ _ = _
    rw [f1090_L0_step, nat_ge hk, cond_false]) (fun m k h _ => by
    show f1090_L0 _ _ _ _ _ _ = _
    have hk : (xs.take k).length = k := by rw [List.length_take]; omega
    have hp : Sp.fineT xs[k].1 xs[k].2.1 xs[k].2.2.2 = true := ha _ (List.getElem_mem h)
    rw [f1090_L0_step, nat_lt h, cond_true, guard0, chkT, getD_nat xs k _ h, hp, chkT, next64 h hl]
    unfold Sp.catP
    rw [hk]
    show (bif !Sp.okT xs[k] then _ else _) = _
    cases Sp.okT xs[k] with
    | false => rfl
    | true =>
      rw [Bool.not_true, cond_false, cond_false]
      by_cases h0 : 0 < k
      · rw [decide_eq_true (show (k : Int) > 0 by omega), decide_eq_true h0, cond_true, cond_true, prevT_take h h0]
        have e : IntKind.i64.wrap ((k : Int) - 1) = ((k - 1 : Nat) : Int) := (wrap64 (by omega) (by omega)).trans (by omega)
        rw [e, guard2 (show k - 1 < xs.length by omega), chkT, Int.toNat_natCast, less_le]
      · rw [decide_eq_false (show ¬ (k : Int) > 0 by omega), decide_eq_false h0]
        rfl) _ (Nat.lt_succ_self _)
  refine L0.trans ?_
  unfold Sp.catOK
  by_cases h6 : (xs.length : Int) ≤ (6 : Int)
  · rw [decide_eq_true h6, decide_eq_false (show ¬ (xs.length : Int) > 4096 by omega), decide_eq_false (show ¬ (xs.length : Int) > 6 by omega), cond_false, cond_false]
    cases Sp.allP Sp.catP [] xs <;> rfl
  · rw [decide_eq_false h6, decide_eq_true (show (xs.length : Int) > 6 by omega)]
    cases Sp.allP Sp.catP [] xs <;> cases decide ((xs.length : Int) > (4096 : Int)) <;> rfl
theorem e1090_ok : Valid PP Γ e1090 := valid_len ok (vcons e1115_ok vnil) fun a ha hl => e1090_core a ha (hl _ (List.mem_cons_self) _ (List.mem_cons_self)).1
end Go.Proofs.GR.T

namespace Go.Proofs.GR.T
open Go Go.Proofs Go.Proofs.GR
theorem eqCo_self (x : VCo) : Sp.eqCo x x = true := by
  unfold Sp.eqCo Sp.f1155
  have h : eqB x.2.2 x.2.2 = true := by cases x.2.2 <;> rfl
  rw [beq_self_eq_true, h, show (x.2.1 != x.2.1) = false by simp]; rfl
theorem eqN_self (x : Int) : Sp.eqN x x = true := beq_self_eq_true x
theorem eqIx_self (x : VIx) : Sp.eqIx x x = true := by
  unfold Sp.eqIx Sp.f1156
  rw [beq_self_eq_true, eqW_self eqN_self]; rfl
theorem eqTb_self (x : VTb) : Sp.eqTb x x = true := by
  unfold Sp.eqTb Sp.f1094
  rw [beq_self_eq_true, eqW_self eqCo_self, eqW_self eqIx_self, show (x.2.2.1 != x.2.2.1) = false by simp]; rfl
def Sp.okTb1 (x : VTb) : Prop := x.1.size ≤ 9223372036854775807 ∧ (x.2.1.length ≤ 9223372036854775807 ∧ ∀ c ∈ x.2.1, c.1.size ≤ 9223372036854775807) ∧ (x.2.2.2.length ≤ 9223372036854775807 ∧ ∀ i ∈ x.2.2.2, i.1.size ≤ 9223372036854775807 ∧ i.2.length ≤ 9223372036854775807)
def Sp.okTbs (xs : List VTb) : Prop := xs.length ≤ 9223372036854775807 ∧ ∀ x ∈ xs, Sp.okTb1 x
def Sp.ctCo (x : VCo) : Nat := x.1.size
def Sp.ctIx (x : VIx) : Nat := x.1.size + x.2.length
def Sp.ctTb (x : VTb) : Nat := x.1.size + x.2.1.length + Sp.wtW Sp.ctCo x.2.1 + x.2.2.2.length + Sp.wtW Sp.ctIx x.2.2.2
theorem neg1 : ¬ (0 : Int) ≤ -1 := by decide
theorem szCo_wt {x : VCo} (h1 : x.1.size ≤ 9223372036854775807) (l : Int) (h0 : 0 ≤ l) (hl : l ≤ 1048576) (h : 0 ≤ Sp.szCo x l) : Sp.szCo x l + (Sp.ctCo x : Int) ≤ l := by
  unfold Sp.szCo Sp.f1147 at h ⊢
  rw [wrap64 (n := l - (x.1.size : Int)) (by omega) (by omega)] at h ⊢
  by_cases c1 : l - (x.1.size : Int) < 0
  · rw [decide_eq_true c1] at h; exact absurd h neg1
  · rw [decide_eq_false c1, cond_false]
    unfold Sp.ctCo
    show l - (x.1.size : Int) + _ ≤ l
    omega
theorem szIx_wt {x : VIx} (h1 : x.1.size ≤ 9223372036854775807) (h2 : x.2.length ≤ 9223372036854775807) (l : Int) (h0 : 0 ≤ l) (hl : l ≤ 1048576) (h : 0 ≤ Sp.szIx x l) : Sp.szIx x l + (Sp.ctIx x : Int) ≤ l := by
  unfold Sp.szIx Sp.f1148 at h ⊢
  rw [wrap64 (n := l - (x.1.size : Int)) (by omega) (by omega)] at h ⊢
  by_cases c1 : l - (x.1.size : Int) < 0
  · rw [decide_eq_true c1] at h; exact absurd h neg1
  · rw [decide_eq_false c1, cond_false] at h ⊢
    unfold Sp.f179 at h ⊢
    rw [wrap64 (n := l - (x.1.size : Int) - (x.2.length : Int)) (by omega) (by omega)] at h ⊢
    by_cases c2 : l - (x.1.size : Int) - (x.2.length : Int) < 0
    · rw [decide_eq_true c2] at h; exact absurd h neg1
    · rw [decide_eq_false c2]
      have c3 : decide (l - (x.1.size : Int) - (x.2.length : Int) < 0) = false := decide_eq_false c2
      unfold Sp.ctIx
      show (bif decide (l - (x.1.size : Int) - (x.2.length : Int) < 0) then ((-1 : Int), ()) else (l - (x.1.size : Int) - (x.2.length : Int), ())).1 + _ ≤ l
      rw [c3, cond_false, Int.natCast_add]
      show l - (x.1.size : Int) - (x.2.length : Int) + _ ≤ l
      omega
theorem szTb_wt {x : VTb} (hx : Sp.okTb1 x) (l : Int) (h0 : 0 ≤ l) (hl : l ≤ 1048576) (h : 0 ≤ Sp.szTb x l) : Sp.szTb x l + (Sp.ctTb x : Int) ≤ l := by
  obtain ⟨h1, ⟨h2, h2'⟩, h3, h3'⟩ := hx
  unfold Sp.szTb Sp.f1085 at h ⊢
  rw [wrap64 (n := l - (x.1.size : Int)) (by omega) (by omega)] at h ⊢
  by_cases c1 : l - (x.1.size : Int) < 0
  · rw [decide_eq_true c1] at h; exact absurd h neg1
  · rw [decide_eq_false c1, cond_false] at h ⊢
    by_cases c2 : Sp.szE Sp.szCo x.2.1 (l - (x.1.size : Int)) < 0
    · rw [decide_eq_true c2] at h; exact absurd h neg1
    · have w1 := szE_wt (f := Sp.szCo) (c := Sp.ctCo) (xs := x.2.1) (l := l - (x.1.size : Int)) h2 (fun y hy l a b d => szCo_wt (h2' y hy) l a b d) (by omega) (by omega) (by omega)
      rw [decide_eq_false c2, cond_false] at h ⊢
      by_cases c3 : Sp.szE Sp.szIx x.2.2.2 (Sp.szE Sp.szCo x.2.1 (l - (x.1.size : Int))) < 0
      · rw [decide_eq_true c3] at h; exact absurd h neg1
      · have w2 := szE_wt (f := Sp.szIx) (c := Sp.ctIx) (xs := x.2.2.2) (l := Sp.szE Sp.szCo x.2.1 (l - (x.1.size : Int))) h3 (fun y hy l a b d => szIx_wt (h3' y hy).1 (h3' y hy).2 l a b d) (by omega) (by omega) (by omega)
        rw [decide_eq_false c3, cond_false]
        show Sp.szE Sp.szIx x.2.2.2 (Sp.szE Sp.szCo x.2.1 (l - (x.1.size : Int))) + ((x.1.size + x.2.1.length + Sp.wtW Sp.ctCo x.2.1 + x.2.2.2.length + Sp.wtW Sp.ctIx x.2.2.2 : Nat) : Int) ≤ l
        omega
theorem wtW_one {α : Type} {w : α → Nat} : ∀ {xs : List α} {x : α}, x ∈ xs → w x ≤ Sp.wtW w xs
  | y :: r, x, h => by
    rw [Sp.wtW]
    rcases List.mem_cons.1 h with rfl | h
    · omega
    · have := wtW_one (w := w) h; omega
def Sp.smallTbs (xs : List VTb) : Prop := xs.length ≤ 1048576 ∧ ∀ x ∈ xs, Sp.ctTb x ≤ 1048576
theorem smallTb_of {xs : List VTb} (h : Sp.okTbs xs) {l : Int} (h0 : 0 ≤ l) (hl : l ≤ 1048576) (hs : ¬ Sp.szE Sp.szTb xs l < 0) : Sp.smallTbs xs := by
  have w := szE_wt (f := Sp.szTb) (c := Sp.ctTb) (xs := xs) (l := l) h.1 (fun x hx l a b c => szTb_wt (h.2 x hx) l a b c) h0 hl (by omega)
  refine ⟨by omega, fun x hx => ?_⟩
  have := wtW_one (w := Sp.ctTb) hx
  omega
theorem yes2_both {a b : Bool} (ha : a = true) (hb : b = true) : yes2 a b = true := by rw [ha, hb]; rfl
theorem fits_of {xs : List VTb} (h : Sp.smallTbs xs) : Sp.fits1068 xs = true := by
  refine yes2_both (fits32_mk (by have := h.1; omega)) (allW_mem.2 fun x hx => ?_)
  have h2 := h.2 x hx
  unfold Sp.ctTb at h2
  show (Sp.fits32 x.2.1 && Sp.fits1114 x.2.2.2) = true
  have a : Sp.fits32 x.2.1 = true := fits32_mk (by omega)
  have b : Sp.fits1114 x.2.2.2 = true := by
    refine yes2_both (fits32_mk (by omega)) (allW_mem.2 fun y hy => ?_)
    have h3 := wtW_one (w := Sp.ctIx) hy
    unfold Sp.ctIx at h3 h2
    exact fits32_mk (by omega)
  rw [a, b]; rfl
theorem fine_of {xs : List VTb} (h : Sp.okTbs xs) : Sp.fineTs xs = true := by
  refine allW_mem.2 fun x hx => ?_
  obtain ⟨h1, ⟨_, h2⟩, _, h3⟩ := h.2 x hx
  exact yes2_both (Nat.ble_eq_true_of_le h1) (yes2_both (allW_mem.2 fun c hc => Nat.ble_eq_true_of_le (h2 c hc)) (allW_mem.2 fun c hc => Nat.ble_eq_true_of_le (h3 c hc).1))
end Go.Proofs.GR.T

namespace Go.Proofs.GR.T
open Go Go.Proofs Go.Proofs.GR
end Go.Proofs.GR.T

namespace Go.Proofs.GR.T
open Go Go.Proofs Go.Proofs.GR
abbrev kSp : ByteArray := ByteArray.mk #[32]
abbrev kKey : ByteArray := ByteArray.mk #[107, 101, 121]
abbrev kFrom : ByteArray := ByteArray.mk #[32, 102, 114, 111, 109, 32]
abbrev kBelow : ByteArray := ByteArray.mk #[32, 98, 101, 108, 111, 119, 32]
abbrev kIx : ByteArray := ByteArray.mk #[105, 110, 100, 101, 120, 32]
theorem s7 : kBelow.size = 7 := rfl
theorem s6 : kFrom.size = 6 := rfl
theorem s1 : kSp.size = 1 := rfl
theorem s3 : kKey.size = 3 := rfl
end Go.Proofs.GR.T

