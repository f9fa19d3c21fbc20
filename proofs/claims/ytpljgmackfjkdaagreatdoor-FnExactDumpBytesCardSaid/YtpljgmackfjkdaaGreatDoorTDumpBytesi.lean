/-
  No statement is proved here: what the functions of the law answer, told as plain functions, and that the law's answer is always true.
  No condition.
-/
import Derived.Test.YtpljgmackfjkdaaGreatDoorTDumpBytesh
import Derived.Lib.Join
import Derived.Lib.ItoaNum
import Derived.Shelf.Strings.OnBuilder
import Derived.Shelf.Strconv.Itoa3
set_option maxRecDepth 3000000
set_option maxHeartbeats 100000000
namespace Go.Proofs.GR.T
open Go Go.Proofs Go.Proofs.GR
noncomputable def f1370_L0 (n m0 : Nat) (y0 : List (ByteArray × List (ByteArray × Int × Bool) × Int × List (ByteArray × List Int))) (y1 : List (ByteArray × List (List (Int × Int × ByteArray)))) (y2 y3 : Int) : Option Res := loopAt Γ (orc [e1090, e1378]) n (42 : Nat) (0 : Nat) [] [Pth.r, Pth.r, Pth.l, Pth.r, Pth.b] m0 (St.mk (ZS (Ty.str.pair ((Ty.str.pair (Zi.pair Ty.bool)).slice.pair (Zi.pair (Ty.str.pair Zi.slice).slice))).slice y0 :: ZN 16 (ZS (Ty.str.pair (Zi.pair (Zi.pair Ty.str)).slice.slice).slice y1 :: ZS Zi y2 :: ZS Zi y3 :: ZN 23 [])) [])
theorem f1370_L0_step (n m0 : Nat) (y0 : List (ByteArray × List (ByteArray × Int × Bool) × Int × List (ByteArray × List Int))) (y1 : List (ByteArray × List (List (Int × Int × ByteArray)))) (y2 y3 : Int) : f1370_L0 n (m0 + 1) y0 y1 y2 y3 = bif decide (y3 < y2) then chk (decide ((0 : Int) ≤ y3) && decide (y3 < (↑y1.length : Int))) (chk (decide ((0 : Int) ≤ y3) && decide (y3 < (↑y0.length : Int))) (bif !(y1.getD y3.toNat (ByteArray.mk #[], [])).1.toList == (y0.getD y3.toNat (ByteArray.mk #[], [], (0 : Int), [])).1.toList then Zf else chk (decide ((0 : Int) ≤ y3) && decide (y3 < (↑y0.length : Int))) (chk (Sp.rfP (y0.getD y3.toNat (ByteArray.mk #[], [], (0 : Int), [])).2.1 (y0.getD y3.toNat (ByteArray.mk #[], [], (0 : Int), [])).2.2.1 (y1.getD y3.toNat (ByteArray.mk #[], [])).2) (bif !Sp.rowsF (y0.getD y3.toNat (ByteArray.mk #[], [], (0 : Int), [])).2.1 (y0.getD y3.toNat (ByteArray.mk #[], [], (0 : Int), [])).2.2.1 (y1.getD y3.toNat (ByteArray.mk #[], [])).2 then Zf else f1370_L0 n m0 y0 y1 y2 (IntKind.i64.wrap (y3 + (1 : Int))))))) else Zt := by kernel_rfl
theorem f1370_raw (n : Nat) (x0 : List (ByteArray × List (ByteArray × Int × Bool) × Int × List (ByteArray × List Int))) (x1 : List (ByteArray × List (List (Int × Int × ByteArray)))) : abody Γ (orc [e1090, e1378]) n 42 [ZX (Ty.str.pair ((Ty.str.pair (Zi.pair Ty.bool)).slice.pair (Zi.pair (Ty.str.pair Zi.slice).slice))).slice x0, ZX (Ty.str.pair (Zi.pair (Zi.pair Ty.str)).slice.slice).slice x1] = chk (Sp.fineTs x0) (bif !Sp.catOK x0 then Zf else bif (↑x1.length : Int) != (↑x0.length : Int) then Zf else f1370_L0 n n x0 x1 (↑x1.length : Int) (0 : Int)) := by kernel_rfl

def Sp.datN (d : VDt) : Bool := Sp.allW (Sp.allW Sp.nN) d.2
def Sp.datP (ts : List VTb) (ds : List VDt) : Bool := yes2 (Sp.fineTs ts) (Sp.allW Sp.datN ds)
theorem f1370_loop (n : Nat) (ts : List VTb) (ds : List VDt) (he : ds.length = ts.length) (hl : ds.length ≤ 4096) (hc : ∀ t ∈ ts, Sp.inK t.2.1.length t.2.2.1 = true) (hn : ∀ d ∈ ds, Sp.datN d = true) : ∀ (d k m : Nat), k + d = ds.length → d < m → f1370_L0 n m ts ds ds.length k = some (rBo (Sp.all2 Sp.datG (ts.drop k) (ds.drop k))) := by
  intro d
  induction d with
  | zero =>
    intro k m hk hm
    obtain ⟨m, rfl⟩ := succ_of hm
    rw [f1370_L0_step, nat_ge (show ds.length ≤ k by omega), cond_false, List.drop_of_length_le (show ts.length ≤ k by omega)]
    rfl
  | succ d ih =>
    intro k m hk hm
    obtain ⟨m, rfl⟩ := succ_of hm
    have h : k < ds.length := by omega
    have h2 : k < ts.length := by omega
    have hp : Sp.rfP ts[k].2.1 ts[k].2.2.1 ds[k].2 = true := yes2Q (hc _ (List.getElem_mem h2)) (hn _ (List.getElem_mem h))
    rw [f1370_L0_step, nat_lt h, cond_true, guard0, chkT, guard2 h2, chkT, getD_nat ds k _ h, getD_nat ts k _ h2, List.drop_eq_getElem_cons h, List.drop_eq_getElem_cons h2, Sp.all2, hp, chkT, chkT, next64 h (by omega), ih (k + 1) m (by omega) (by omega)]
    unfold Sp.datG Sp.rowsF
    cases ds[k].1.toList == ts[k].1.toList with
    | false => rfl
    | true =>
    rw [Bool.not_true, cond_false, cond_false]
    by_cases q2 : (ds[k].2.length : Int) > 400
    · rw [decide_eq_true q2, decide_eq_false (show ¬ (ds[k].2.length : Int) ≤ 400 by omega)]
      cases Sp.allP (Sp.rowG ts[k].2.1 ts[k].2.2.1) [] ds[k].2 <;> rfl
    rw [decide_eq_false q2, decide_eq_true (show (ds[k].2.length : Int) ≤ 400 by omega)]
    cases Sp.allP (Sp.rowG ts[k].2.1 ts[k].2.2.1) [] ds[k].2 <;> rfl
noncomputable def e1370 : Ent := { f := n1370, ins := [Sh.one (cL tTb), Sh.one (cL tDt)], outs := [Sh.one cB], upd := [], pre := fun a => Sp.datP a.1 a.2, spec := fun a => Sp.dataOK a.1 a.2, wrt := fun _ => () }
theorem e1370_core (ts : List VTb) (ds : List VDt) (ha : Sp.datP ts ds = true) : ∃ n, abody Γ (orc [e1090, e1378]) n n1370 (e1370.args (ts, ds)) = some (rBo (Sp.dataOK ts ds)) := by
  obtain ⟨hf, hn⟩ := yes2_true ha
  refine ⟨ds.length + 1, (f1370_raw _ ts ds).trans ?_⟩
  unfold Sp.dataOK
  rw [hf, chkT]
  cases hc : Sp.catOK ts with
  | false =>
    rw [Bool.not_false, cond_true, cond_true]
    cases decide ((ts.length : Int) > 4096) <;> cases decide ((ds.length : Int) > 4096) <;> rfl
  | true =>
  have hl := (cat_each hc).1
  rw [decide_eq_false (show ¬ (ts.length : Int) > 4096 by omega), Bool.not_true, cond_false, cond_false, cond_false]
  by_cases he : ds.length = ts.length
  · rw [show ((ds.length : Int) != (ts.length : Int)) = false by simp [he], decide_eq_false (show ¬ (ds.length : Int) > 4096 by omega), cond_false, cond_false, cond_false]
    exact f1370_loop _ ts ds he (by omega) (fun t ht => (okT_is ((cat_each hc).2 t ht)).2.1) (allW_mem.1 hn) ds.length 0 _ (Nat.zero_add _) (Nat.lt_succ_self _)
  · rw [show ((ds.length : Int) != (ts.length : Int)) = true by simp; omega, cond_true, cond_true]
    cases decide ((ds.length : Int) > 4096) <;> rfl
theorem e1370_ok : Valid PP Γ e1370 := valid_of ok (vcons e1090_ok (vcons e1378_ok vnil)) fun a ha => e1370_core a.1 a.2 ha
end Go.Proofs.GR.T

set_option maxRecDepth 3000000
set_option maxHeartbeats 100000000
namespace Go.Proofs.GR.T
open Go Go.Proofs Go.Proofs.GR
def Sp.markI (_ : Int) (k : Int) : Int := k
noncomputable def f161_L0 (n m0 : Nat) (y0 y1 : Int) (y2 : List Int) : Option Res := loopAt Γ (orc []) n (19 : Nat) (1 : Nat) [(0 : Nat)] [Pth.r, Pth.l, Pth.r, Pth.b] m0 (St.mk (Slot.val (Val.one (Cell.own (0 : Nat))) :: ZS Zi y0 :: ZN 3 (ZS Zi y1 :: ZN 13 [])) [AObj.row Zi y2 true])
theorem f161_L0_step (n m0 : Nat) (y0 y1 : Int) (y2 : List Int) : f161_L0 n (m0 + 1) y0 y1 y2 = bif decide (y1 < (↑y2.length : Int)) then chk (decide ((0 : Int) ≤ y1) && decide (y1 < (↑y2.length : Int))) (f161_L0 n m0 (IntKind.i64.wrap (y0 + (1 : Int))) (IntKind.i64.wrap (y1 + (1 : Int))) (y2.set y1.toNat y0)) else some (Res.mk [ZX Zi y0] [X.c (X0.row Zi y2 true)]) := by kernel_rfl
theorem f161_raw (n : Nat) (x0 : List Int) (x1 : Int) : abody Γ (orc []) n 19 [XV.mk false [X.c (X0.row Zi x0 true)], ZX Zi x1] = f161_L0 n n x1 (0 : Int) x0 := by kernel_rfl

noncomputable def e161 : Ent := { f := n161, ins := [Sh.one (C0.row tIn), Sh.one cI], outs := [Sh.one cI], upd := [Sh.one (C0.row tIn)], pre := fun a => Sp.smallW (α := Int) 1 a.1 a.2, spec := fun a => Sp.addW (α := Int) 1 a.1 a.2, wrt := fun a => Sp.markW Sp.markI 1 a.1 a.2 }
theorem e161_core (xs : List Int) (v : Int) (ha : Sp.smallW 1 xs v = true) (hl : xs.length ≤ maxLen) : ∃ n, abody Γ (orc []) n n161 [XV.mk false [X.c (X0.row tIn xs true)], ZX Zi v] = some (rMk tIn (Sp.addW 1 xs v) (Sp.markW Sp.markI 1 xs v)) := by
  obtain ⟨h1, h2⟩ := smallW_of ha
  have hl : xs.length ≤ 9223372036854775807 := hl
  refine ⟨xs.length + 1, (f161_raw _ xs v).trans ?_⟩
  refine mark_loop (c := 1) (g := Sp.markI) (R := rMk tIn) (fun m v k acc => f161_L0 (xs.length + 1) m v k acc) (fun m v k acc hk => ?_) (fun m v k acc h hlen h0 h1 => ?_) xs.length 0 _ v xs (Nat.zero_add _) (Nat.lt_succ_self _) hl h1 h2
  · show f161_L0 _ _ _ _ _ = _
    rw [f161_L0_step, nat_ge hk, cond_false]
  · show f161_L0 _ _ _ _ _ = _
    have e1 : IntKind.i64.wrap (v + 1) = v + (1 : Nat) := wrap64 (by omega) (by omega)
    rw [f161_L0_step, nat_lt h, cond_true, guard0, chkT, e1, Int.toNat_natCast, next64 h hlen]
    rfl
theorem e161_ok : Valid PP Γ e161 := valid_len ok vnil fun a ha hl => e161_core a.1 a.2 ha (hl _ (List.mem_cons_self) _ (List.mem_cons_self)).1
def Sp.markCo (_ : VCo) (k : Int) : VCo := (Sp.mText k, k + 1, (k + 2).tmod 3 == 0)
noncomputable def f1311_L0 (n m0 : Nat) (y0 y1 : Int) (y2 : List (ByteArray × Int × Bool)) : Option Res := loopAt Γ (orc [e75]) n (48 : Nat) (1 : Nat) [(0 : Nat)] [Pth.r, Pth.l, Pth.r, Pth.b] m0 (St.mk (Slot.val (Val.one (Cell.own (0 : Nat))) :: ZS Zi y0 :: ZN 3 (ZS Zi y1 :: ZN 31 [])) [AObj.row (Ty.str.pair (Zi.pair Ty.bool)) y2 true])
theorem f1311_L0_step (n m0 : Nat) (y0 y1 : Int) (y2 : List (ByteArray × Int × Bool)) : f1311_L0 n (m0 + 1) y0 y1 y2 = bif decide (y1 < (↑y2.length : Int)) then chk (Sp.mOK y0) (chk (decide ((0 : Int) ≤ y1) && decide (y1 < (↑y2.length : Int))) (chk (decide ((0 : Int) ≤ y1) && decide (y1 < (↑(rowUpd (Ty.str.pair (Zi.pair Ty.bool)) y2 y1.toNat (0 : Nat) [Cell.dat Ty.str (Sp.mText y0)]).length : Int))) (chk (decide ((0 : Int) ≤ y1) && decide (y1 < (↑(rowUpd (Ty.str.pair (Zi.pair Ty.bool)) (rowUpd (Ty.str.pair (Zi.pair Ty.bool)) y2 y1.toNat (0 : Nat) [Cell.dat Ty.str (Sp.mText y0)]) y1.toNat (1 : Nat) [Cell.dat Zi (IntKind.i64.wrap (y0 + (1 : Int)))]).length : Int))) (f1311_L0 n m0 (IntKind.i64.wrap (IntKind.i64.wrap (IntKind.i64.wrap (y0 + (1 : Int)) + (1 : Int)) + (1 : Int))) (IntKind.i64.wrap (y1 + (1 : Int))) (rowUpd (Ty.str.pair (Zi.pair Ty.bool)) (rowUpd (Ty.str.pair (Zi.pair Ty.bool)) (rowUpd (Ty.str.pair (Zi.pair Ty.bool)) y2 y1.toNat (0 : Nat) [Cell.dat Ty.str (Sp.mText y0)]) y1.toNat (1 : Nat) [Cell.dat Zi (IntKind.i64.wrap (y0 + (1 : Int)))]) y1.toNat (2 : Nat) [Cell.dat Ty.bool ((IntKind.i64.wrap (IntKind.i64.wrap (y0 + (1 : Int)) + (1 : Int))).tmod (3 : Int) == (0 : Int))]))))) else some (Res.mk [ZX Zi y0] [X.c (X0.row (Ty.str.pair (Zi.pair Ty.bool)) y2 true)]) := by kernel_rfl
theorem f1311_raw (n : Nat) (x0 : List (ByteArray × Int × Bool)) (x1 : Int) : abody Γ (orc [e75]) n 48 [XV.mk false [X.c (X0.row (Ty.str.pair (Zi.pair Ty.bool)) x0 true)], ZX Zi x1] = f1311_L0 n n x1 (0 : Int) x0 := by kernel_rfl

noncomputable def e1311 : Ent := { f := n1311, ins := [Sh.one (C0.row tCo), Sh.one cI], outs := [Sh.one cI], upd := [Sh.one (C0.row tCo)], pre := fun a => Sp.smallW (α := VCo) 3 a.1 a.2, spec := fun a => Sp.addW (α := VCo) 3 a.1 a.2, wrt := fun a => Sp.markW Sp.markCo 3 a.1 a.2 }
theorem e1311_core (xs : List VCo) (v : Int) (ha : Sp.smallW 3 xs v = true) (hl : xs.length ≤ maxLen) : ∃ n, abody Γ (orc [e75]) n n1311 [XV.mk false [X.c (X0.row tCo xs true)], ZX Zi v] = some (rMk tCo (Sp.addW 3 xs v) (Sp.markW Sp.markCo 3 xs v)) := by
  obtain ⟨h1, h2⟩ := smallW_of ha
  have hl : xs.length ≤ 9223372036854775807 := hl
  refine ⟨xs.length + 1, (f1311_raw _ xs v).trans ?_⟩
  refine mark_loop (c := 3) (g := Sp.markCo) (R := rMk tCo) (fun m v k acc => f1311_L0 (xs.length + 1) m v k acc) (fun m v k acc hk => ?_) (fun m v k acc h hlen h0 h1 => ?_) xs.length 0 _ v xs (Nat.zero_add _) (Nat.lt_succ_self _) hl h1 h2
  · show f1311_L0 _ _ _ _ _ = _
    rw [f1311_L0_step, nat_ge hk, cond_false]
  · show f1311_L0 _ _ _ _ _ = _
    have e1 : IntKind.i64.wrap (v + 1) = v + 1 := wrap64 (by omega) (by omega)
    have e2 : IntKind.i64.wrap (v + 1 + 1) = v + 2 := (wrap64 (by omega) (by omega)).trans (by omega)
    have e3 : IntKind.i64.wrap (v + 2 + 1) = v + (3 : Nat) := (wrap64 (by omega) (by omega)).trans (by omega)
    rw [f1311_L0_step, nat_lt h, cond_true, e1, e2, e3, Int.toNat_natCast]
    obtain ⟨a0, a1, a2, hx⟩ : ∃ a0 a1 a2, acc[k] = (a0, a1, a2) := ⟨acc[k].1, acc[k].2.1, acc[k].2.2, rfl⟩
    generalize g0 : rowUpd tCo acc k 0 [Cell.dat .str (Sp.mText v)] = A0
    generalize g1 : rowUpd tCo A0 k 1 [Cell.dat (.int .i64) (v + 1)] = A1
    have u0 : A0 = acc.set k (Sp.mText v, a1, a2) := g0.symm.trans (rowUpd_at h hx rfl)
    have u1 : A1 = acc.set k (Sp.mText v, v + 1, a2) := g1.symm.trans (upd_next h u0 rfl)
    have u2 : rowUpd tCo A1 k 2 [Cell.dat .bool ((v + 2).tmod 3 == 0)] = acc.set k (Sp.mText v, v + 1, (v + 2).tmod 3 == 0) := upd_next h u1 rfl
    have l0 : List.length A0 = List.length acc := (congrArg List.length u0).trans (List.length_set ..)
    have l1 : List.length A1 = List.length acc := (congrArg List.length u1).trans (List.length_set ..)
    rw [l0, l1, nat_lt h, guard0, mOK_of (by omega), chkT, chkT, chkT, chkT, next64 h hlen]
    exact congrArg (fun z => f1311_L0 (xs.length + 1) m (v + (3 : Nat)) ((k + 1 : Nat) : Int) z) (u2.trans (congrArg (fun z => acc.set k z) (show (Sp.mText v, v + 1, (v + 2).tmod 3 == 0) = Sp.markCo acc[k] v from rfl)))
theorem e1311_ok : Valid PP Γ e1311 := valid_len ok (vcons e75_ok vnil) fun a ha hl => e1311_core a.1 a.2 ha (hl _ (List.mem_cons_self) _ (List.mem_cons_self)).1
def Sp.markRw (x : VRw) (k : Int) : VRw := Sp.markW Sp.markV 3 x k
def Sp.wtRw (x : VRw) : Nat := 3 * x.length
noncomputable def f1313_L0 (n m0 : Nat) (y0 y1 : Int) (y2 : List (List (Int × Int × ByteArray))) : Option Res := loopAt Γ (orc [e45]) n (50 : Nat) (1 : Nat) [(0 : Nat)] [Pth.r, Pth.l, Pth.r, Pth.b] m0 (St.mk (Slot.val (Val.one (Cell.own (0 : Nat))) :: ZS Zi y0 :: ZN 3 (ZS Zi y1 :: ZN 13 [])) [AObj.row (Zi.pair (Zi.pair Ty.str)).slice y2 true])
theorem f1313_L0_step (n m0 : Nat) (y0 y1 : Int) (y2 : List (List (Int × Int × ByteArray))) : f1313_L0 n (m0 + 1) y0 y1 y2 = bif decide (y1 < (↑y2.length : Int)) then chk (decide ((0 : Int) ≤ y1) && decide (y1 < (↑y2.length : Int))) (chk (Sp.smallW (3 : Nat) (y2.getD y1.toNat []) y0) (f1313_L0 n m0 (Sp.addW (3 : Int) (y2.getD y1.toNat []) y0) (IntKind.i64.wrap (y1 + (1 : Int))) (y2.set y1.toNat (Sp.markW Sp.markV (3 : Int) (y2.getD y1.toNat []) y0)))) else some (Res.mk [ZX Zi y0] [X.c (X0.row (Zi.pair (Zi.pair Ty.str)).slice y2 true)]) := by kernel_rfl
theorem f1313_raw (n : Nat) (x0 : List (List (Int × Int × ByteArray))) (x1 : Int) : abody Γ (orc [e45]) n 50 [XV.mk false [X.c (X0.row (Zi.pair (Zi.pair Ty.str)).slice x0 true)], ZX Zi x1] = f1313_L0 n n x1 (0 : Int) x0 := by kernel_rfl

noncomputable def e1313 : Ent := { f := n1313, ins := [Sh.one (C0.row tRw), Sh.one cI], outs := [Sh.one cI], upd := [Sh.one (C0.row tRw)], pre := fun a => Sp.smallU Sp.wtRw a.1 a.2, spec := fun a => Sp.addU Sp.wtRw a.1 a.2, wrt := fun a => Sp.markU Sp.markRw Sp.wtRw a.1 a.2 }
theorem e1313_core (xs : List VRw) (v : Int) (ha : Sp.smallU Sp.wtRw xs v = true) (hl : xs.length ≤ maxLen) : ∃ n, abody Γ (orc [e45]) n n1313 [XV.mk false [X.c (X0.row tRw xs true)], ZX Zi v] = some (rMk tRw (Sp.addU Sp.wtRw xs v) (Sp.markU Sp.markRw Sp.wtRw xs v)) := by
  obtain ⟨h1, h2⟩ := smallU_of ha
  have hl : xs.length ≤ 9223372036854775807 := hl
  refine ⟨xs.length + 1, (f1313_raw _ xs v).trans ?_⟩
  refine markU_loop (g := Sp.markRw) (w := Sp.wtRw) (R := rMk tRw) (fun m v k acc => f1313_L0 (xs.length + 1) m v k acc) (fun m v k acc hk => ?_) (fun m v k acc h hlen h0 h1 => ?_) xs.length 0 _ v xs (Nat.zero_add _) (Nat.lt_succ_self _) hl h1 h2
  · show f1313_L0 _ _ _ _ _ = _
    rw [f1313_L0_step, nat_ge hk, cond_false]
  · show f1313_L0 _ _ _ _ _ = _
    have hw : Sp.wtRw acc[k] = 3 * List.length acc[k] := rfl
    rw [hw] at h1 ⊢
    have g1 : Sp.smallW 3 acc[k] v = true := smallW_mk (by omega) (by omega)
    have e3 : Sp.addW 3 acc[k] v = v + ((3 * List.length acc[k] : Nat) : Int) := by unfold Sp.addW; omega
    rw [f1313_L0_step, nat_lt h, cond_true, guard0, chkT, getD_nat acc k _ h, g1, chkT, e3, Int.toNat_natCast, next64 h hlen]
    rfl
theorem e1313_ok : Valid PP Γ e1313 := valid_len ok (vcons e45_ok vnil) fun a ha hl => e1313_core a.1 a.2 ha (hl _ (List.mem_cons_self) _ (List.mem_cons_self)).1
def Sp.markIx (x : VIx) (k : Int) : VIx := (Sp.mText k, Sp.markW Sp.markI 1 x.2 (k + 1))
def Sp.wtIx (x : VIx) : Nat := 1 + x.2.length
noncomputable def f1312_L0 (n m0 : Nat) (y0 y1 : Int) (y2 : List (ByteArray × List Int)) : Option Res := loopAt Γ (orc [e75, e161]) n (49 : Nat) (1 : Nat) [(0 : Nat)] [Pth.r, Pth.l, Pth.r, Pth.b] m0 (St.mk (Slot.val (Val.one (Cell.own (0 : Nat))) :: ZS Zi y0 :: ZN 3 (ZS Zi y1 :: ZN 22 [])) [AObj.row (Ty.str.pair Zi.slice) y2 true])
theorem f1312_L0_step (n m0 : Nat) (y0 y1 : Int) (y2 : List (ByteArray × List Int)) : f1312_L0 n (m0 + 1) y0 y1 y2 = bif decide (y1 < (↑y2.length : Int)) then chk (Sp.mOK y0) (chk (decide ((0 : Int) ≤ y1) && decide (y1 < (↑y2.length : Int))) (chk (decide ((0 : Int) ≤ y1) && decide (y1 < (↑(rowUpd (Ty.str.pair Zi.slice) y2 y1.toNat (0 : Nat) [Cell.dat Ty.str (Sp.mText y0)]).length : Int))) (chk (Sp.smallW (1 : Nat) ((rowUpd (Ty.str.pair Zi.slice) y2 y1.toNat (0 : Nat) [Cell.dat Ty.str (Sp.mText y0)]).getD y1.toNat (ByteArray.mk #[], [])).2 (IntKind.i64.wrap (y0 + (1 : Int)))) (f1312_L0 n m0 (Sp.addW (1 : Int) ((rowUpd (Ty.str.pair Zi.slice) y2 y1.toNat (0 : Nat) [Cell.dat Ty.str (Sp.mText y0)]).getD y1.toNat (ByteArray.mk #[], [])).2 (IntKind.i64.wrap (y0 + (1 : Int)))) (IntKind.i64.wrap (y1 + (1 : Int))) (rowUpd (Ty.str.pair Zi.slice) (rowUpd (Ty.str.pair Zi.slice) y2 y1.toNat (0 : Nat) [Cell.dat Ty.str (Sp.mText y0)]) y1.toNat (1 : Nat) [Cell.dat Zi.slice (Sp.markW Sp.markI (1 : Int) ((rowUpd (Ty.str.pair Zi.slice) y2 y1.toNat (0 : Nat) [Cell.dat Ty.str (Sp.mText y0)]).getD y1.toNat (ByteArray.mk #[], [])).2 (IntKind.i64.wrap (y0 + (1 : Int))))]))))) else some (Res.mk [ZX Zi y0] [X.c (X0.row (Ty.str.pair Zi.slice) y2 true)]) := by kernel_rfl
theorem f1312_raw (n : Nat) (x0 : List (ByteArray × List Int)) (x1 : Int) : abody Γ (orc [e75, e161]) n 49 [XV.mk false [X.c (X0.row (Ty.str.pair Zi.slice) x0 true)], ZX Zi x1] = f1312_L0 n n x1 (0 : Int) x0 := by kernel_rfl

noncomputable def e1312 : Ent := { f := n1312, ins := [Sh.one (C0.row tIx), Sh.one cI], outs := [Sh.one cI], upd := [Sh.one (C0.row tIx)], pre := fun a => Sp.smallU Sp.wtIx a.1 a.2, spec := fun a => Sp.addU Sp.wtIx a.1 a.2, wrt := fun a => Sp.markU Sp.markIx Sp.wtIx a.1 a.2 }
theorem e1312_core (xs : List VIx) (v : Int) (ha : Sp.smallU Sp.wtIx xs v = true) (hl : xs.length ≤ maxLen) : ∃ n, abody Γ (orc [e75, e161]) n n1312 [XV.mk false [X.c (X0.row tIx xs true)], ZX Zi v] = some (rMk tIx (Sp.addU Sp.wtIx xs v) (Sp.markU Sp.markIx Sp.wtIx xs v)) := by
  obtain ⟨h1, h2⟩ := smallU_of ha
  have hl : xs.length ≤ 9223372036854775807 := hl
  refine ⟨xs.length + 1, (f1312_raw _ xs v).trans ?_⟩
  refine markU_loop (g := Sp.markIx) (w := Sp.wtIx) (R := rMk tIx) (fun m v k acc => f1312_L0 (xs.length + 1) m v k acc) (fun m v k acc hk => ?_) (fun m v k acc h hlen h0 h1 => ?_) xs.length 0 _ v xs (Nat.zero_add _) (Nat.lt_succ_self _) hl h1 h2
  · show f1312_L0 _ _ _ _ _ = _
    rw [f1312_L0_step, nat_ge hk, cond_false]
  · show f1312_L0 _ _ _ _ _ = _
    have hw : Sp.wtIx acc[k] = 1 + acc[k].2.length := rfl
    rw [hw] at h1
    have e1 : IntKind.i64.wrap (v + 1) = v + 1 := wrap64 (by omega) (by omega)
    have g1 : Sp.smallW 1 acc[k].2 (v + 1) = true := smallW_mk (by omega) (by omega)
    have e3 : Sp.addW 1 acc[k].2 (v + 1) = v + (Sp.wtIx acc[k] : Nat) := by rw [hw]; unfold Sp.addW; omega
    obtain ⟨a0, a1, hx⟩ : ∃ a0 a1, acc[k] = (a0, a1) := ⟨acc[k].1, acc[k].2, rfl⟩
    rw [f1312_L0_step, nat_lt h, cond_true, e1, Int.toNat_natCast]
    generalize q0 : rowUpd tIx acc k 0 [Cell.dat .str (Sp.mText v)] = A0
    have u0 : A0 = acc.set k (Sp.mText v, a1) := q0.symm.trans (rowUpd_at h hx rfl)
    have w0 : List.getD A0 k (ByteArray.mk #[], []) = (Sp.mText v, a1) := by rw [u0]; exact getD_set h
    have l0 : List.length A0 = List.length acc := (congrArg List.length u0).trans (List.length_set ..)
    rw [hx] at g1 e3
    have g1 : Sp.smallW 1 a1 (v + 1) = true := g1
    have e3 : Sp.addW 1 a1 (v + 1) = v + (Sp.wtIx (a0, a1) : Nat) := e3
    rw [w0, l0, nat_lt h, guard0, mOK_of (by omega), chkT, chkT, chkT, next64 h hlen, hx]
    show chk (Sp.smallW 1 a1 (v + 1)) (f1312_L0 (xs.length + 1) m (Sp.addW 1 a1 (v + 1)) ((k + 1 : Nat) : Int) (rowUpd tIx A0 k 1 [Cell.dat (.slice tIn) (Sp.markW Sp.markI 1 a1 (v + 1))])) = _
    rw [g1, chkT, e3]
    exact congrArg (fun z => f1312_L0 (xs.length + 1) m (v + (Sp.wtIx (a0, a1) : Nat)) ((k + 1 : Nat) : Int) z) (show rowUpd tIx A0 k 1 [Cell.dat (.slice tIn) (Sp.markW Sp.markI 1 a1 (v + 1))] = acc.set k (Sp.markIx (a0, a1) v) from upd_next (t := tIx) h u0 rfl)
theorem e1312_ok : Valid PP Γ e1312 := valid_len ok (vcons e75_ok (vcons e161_ok vnil)) fun a ha hl => e1312_core a.1 a.2 ha (hl _ (List.mem_cons_self) _ (List.mem_cons_self)).1
def Sp.markDt (x : VDt) (k : Int) : VDt := (Sp.mText k, Sp.markU Sp.markRw Sp.wtRw x.2 (k + 1))
def Sp.wtDt (x : VDt) : Nat := 1 + Sp.wtW Sp.wtRw x.2
noncomputable def f1278_L0 (n m0 : Nat) (y0 y1 : Int) (y2 : List (ByteArray × List (List (Int × Int × ByteArray)))) : Option Res := loopAt Γ (orc [e75, e1313]) n (18 : Nat) (1 : Nat) [(0 : Nat)] [Pth.r, Pth.l, Pth.r, Pth.b] m0 (St.mk (Slot.val (Val.one (Cell.own (0 : Nat))) :: ZS Zi y0 :: ZN 3 (ZS Zi y1 :: ZN 22 [])) [AObj.row (Ty.str.pair (Zi.pair (Zi.pair Ty.str)).slice.slice) y2 true])
theorem f1278_L0_step (n m0 : Nat) (y0 y1 : Int) (y2 : List (ByteArray × List (List (Int × Int × ByteArray)))) : f1278_L0 n (m0 + 1) y0 y1 y2 = bif decide (y1 < (↑y2.length : Int)) then chk (Sp.mOK y0) (chk (decide ((0 : Int) ≤ y1) && decide (y1 < (↑y2.length : Int))) (chk (decide ((0 : Int) ≤ y1) && decide (y1 < (↑(rowUpd (Ty.str.pair (Zi.pair (Zi.pair Ty.str)).slice.slice) y2 y1.toNat (0 : Nat) [Cell.dat Ty.str (Sp.mText y0)]).length : Int))) (chk (Sp.smallU Sp.wtRw ((rowUpd (Ty.str.pair (Zi.pair (Zi.pair Ty.str)).slice.slice) y2 y1.toNat (0 : Nat) [Cell.dat Ty.str (Sp.mText y0)]).getD y1.toNat (ByteArray.mk #[], [])).2 (IntKind.i64.wrap (y0 + (1 : Int)))) (f1278_L0 n m0 (Sp.addU Sp.wtRw ((rowUpd (Ty.str.pair (Zi.pair (Zi.pair Ty.str)).slice.slice) y2 y1.toNat (0 : Nat) [Cell.dat Ty.str (Sp.mText y0)]).getD y1.toNat (ByteArray.mk #[], [])).2 (IntKind.i64.wrap (y0 + (1 : Int)))) (IntKind.i64.wrap (y1 + (1 : Int))) (rowUpd (Ty.str.pair (Zi.pair (Zi.pair Ty.str)).slice.slice) (rowUpd (Ty.str.pair (Zi.pair (Zi.pair Ty.str)).slice.slice) y2 y1.toNat (0 : Nat) [Cell.dat Ty.str (Sp.mText y0)]) y1.toNat (1 : Nat) [Cell.dat (Zi.pair (Zi.pair Ty.str)).slice.slice (Sp.markU Sp.markRw Sp.wtRw ((rowUpd (Ty.str.pair (Zi.pair (Zi.pair Ty.str)).slice.slice) y2 y1.toNat (0 : Nat) [Cell.dat Ty.str (Sp.mText y0)]).getD y1.toNat (ByteArray.mk #[], [])).2 (IntKind.i64.wrap (y0 + (1 : Int))))]))))) else some (Res.mk [ZX Zi y0] [X.c (X0.row (Ty.str.pair (Zi.pair (Zi.pair Ty.str)).slice.slice) y2 true)]) := by kernel_rfl
theorem f1278_raw (n : Nat) (x0 : List (ByteArray × List (List (Int × Int × ByteArray)))) (x1 : Int) : abody Γ (orc [e75, e1313]) n 18 [XV.mk false [X.c (X0.row (Ty.str.pair (Zi.pair (Zi.pair Ty.str)).slice.slice) x0 true)], ZX Zi x1] = f1278_L0 n n x1 (0 : Int) x0 := by kernel_rfl

noncomputable def e1278 : Ent := { f := n1278, ins := [Sh.one (C0.row tDt), Sh.one cI], outs := [Sh.one cI], upd := [Sh.one (C0.row tDt)], pre := fun a => Sp.smallU Sp.wtDt a.1 a.2, spec := fun a => Sp.addU Sp.wtDt a.1 a.2, wrt := fun a => Sp.markU Sp.markDt Sp.wtDt a.1 a.2 }
theorem e1278_core (xs : List VDt) (v : Int) (ha : Sp.smallU Sp.wtDt xs v = true) (hl : xs.length ≤ maxLen) : ∃ n, abody Γ (orc [e75, e1313]) n n1278 [XV.mk false [X.c (X0.row tDt xs true)], ZX Zi v] = some (rMk tDt (Sp.addU Sp.wtDt xs v) (Sp.markU Sp.markDt Sp.wtDt xs v)) := by
  obtain ⟨h1, h2⟩ := smallU_of ha
  have hl : xs.length ≤ 9223372036854775807 := hl
  refine ⟨xs.length + 1, (f1278_raw _ xs v).trans ?_⟩
  refine markU_loop (g := Sp.markDt) (w := Sp.wtDt) (R := rMk tDt) (fun m v k acc => f1278_L0 (xs.length + 1) m v k acc) (fun m v k acc hk => ?_) (fun m v k acc h hlen h0 h1 => ?_) xs.length 0 _ v xs (Nat.zero_add _) (Nat.lt_succ_self _) hl h1 h2
  · show f1278_L0 _ _ _ _ _ = _
    rw [f1278_L0_step, nat_ge hk, cond_false]
  · show f1278_L0 _ _ _ _ _ = _
    have hw : Sp.wtDt acc[k] = 1 + Sp.wtW Sp.wtRw acc[k].2 := rfl
    rw [hw] at h1
    have e1 : IntKind.i64.wrap (v + 1) = v + 1 := wrap64 (by omega) (by omega)
    have g1 : Sp.smallU Sp.wtRw acc[k].2 (v + 1) = true := smallU_mk (by omega) (by omega)
    have e3 : Sp.addU Sp.wtRw acc[k].2 (v + 1) = v + (Sp.wtDt acc[k] : Nat) := by rw [hw]; unfold Sp.addU; omega
    obtain ⟨a0, a1, hx⟩ : ∃ a0 a1, acc[k] = (a0, a1) := ⟨acc[k].1, acc[k].2, rfl⟩
    rw [f1278_L0_step, nat_lt h, cond_true, e1, Int.toNat_natCast]
    generalize q0 : rowUpd tDt acc k 0 [Cell.dat .str (Sp.mText v)] = A0
    have u0 : A0 = acc.set k (Sp.mText v, a1) := q0.symm.trans (rowUpd_at h hx rfl)
    have w0 : List.getD A0 k (ByteArray.mk #[], []) = (Sp.mText v, a1) := by rw [u0]; exact getD_set h
    have l0 : List.length A0 = List.length acc := (congrArg List.length u0).trans (List.length_set ..)
    rw [hx] at g1 e3
    have g1 : Sp.smallU Sp.wtRw a1 (v + 1) = true := g1
    have e3 : Sp.addU Sp.wtRw a1 (v + 1) = v + (Sp.wtDt (a0, a1) : Nat) := e3
    rw [w0, l0, nat_lt h, guard0, mOK_of (by omega), chkT, chkT, chkT, next64 h hlen, hx]
    show chk (Sp.smallU Sp.wtRw a1 (v + 1)) (f1278_L0 (xs.length + 1) m (Sp.addU Sp.wtRw a1 (v + 1)) ((k + 1 : Nat) : Int) (rowUpd tDt A0 k 1 [Cell.dat (.slice tRw) (Sp.markU Sp.markRw Sp.wtRw a1 (v + 1))])) = _
    rw [g1, chkT, e3]
    exact congrArg (fun z => f1278_L0 (xs.length + 1) m (v + (Sp.wtDt (a0, a1) : Nat)) ((k + 1 : Nat) : Int) z) (show rowUpd tDt A0 k 1 [Cell.dat (.slice tRw) (Sp.markU Sp.markRw Sp.wtRw a1 (v + 1))] = acc.set k (Sp.markDt (a0, a1) v) from upd_next (t := tDt) h u0 rfl)
theorem e1278_ok : Valid PP Γ e1278 := valid_len ok (vcons e75_ok (vcons e1313_ok vnil)) fun a ha hl => e1278_core a.1 a.2 ha (hl _ (List.mem_cons_self) _ (List.mem_cons_self)).1
def Sp.markTb (x : VTb) (k : Int) : VTb := (Sp.mText k, Sp.markW Sp.markCo 3 x.2.1 (k + 1), Sp.addW 3 x.2.1 (k + 1), Sp.markU Sp.markIx Sp.wtIx x.2.2.2 (Sp.addW 3 x.2.1 (k + 1) + 1))
def Sp.wtTb (x : VTb) : Nat := 2 + 3 * x.2.1.length + Sp.wtW Sp.wtIx x.2.2.2
noncomputable def f1277_L0 (n m0 : Nat) (y0 y1 : Int) (y2 : List (ByteArray × List (ByteArray × Int × Bool) × Int × List (ByteArray × List Int))) : Option Res := loopAt Γ (orc [e75, e1311, e1312]) n (17 : Nat) (1 : Nat) [(0 : Nat)] [Pth.r, Pth.l, Pth.r, Pth.b] m0 (St.mk (Slot.val (Val.one (Cell.own (0 : Nat))) :: ZS Zi y0 :: ZN 3 (ZS Zi y1 :: ZN 36 [])) [AObj.row (Ty.str.pair ((Ty.str.pair (Zi.pair Ty.bool)).slice.pair (Zi.pair (Ty.str.pair Zi.slice).slice))) y2 true])
theorem f1277_L0_step (n m0 : Nat) (y0 y1 : Int) (y2 : List (ByteArray × List (ByteArray × Int × Bool) × Int × List (ByteArray × List Int))) : f1277_L0 n (m0 + 1) y0 y1 y2 = bif decide (y1 < (↑y2.length : Int)) then chk (Sp.mOK y0) (chk (decide ((0 : Int) ≤ y1) && decide (y1 < (↑y2.length : Int))) (chk (decide ((0 : Int) ≤ y1) && decide (y1 < (↑(rowUpd (Ty.str.pair ((Ty.str.pair (Zi.pair Ty.bool)).slice.pair (Zi.pair (Ty.str.pair Zi.slice).slice))) y2 y1.toNat (0 : Nat) [Cell.dat Ty.str (Sp.mText y0)]).length : Int))) (chk (Sp.smallW (3 : Nat) ((rowUpd (Ty.str.pair ((Ty.str.pair (Zi.pair Ty.bool)).slice.pair (Zi.pair (Ty.str.pair Zi.slice).slice))) y2 y1.toNat (0 : Nat) [Cell.dat Ty.str (Sp.mText y0)]).getD y1.toNat (ByteArray.mk #[], [], (0 : Int), [])).2.1 (IntKind.i64.wrap (y0 + (1 : Int)))) (chk (decide ((0 : Int) ≤ y1) && decide (y1 < (↑(rowUpd (Ty.str.pair ((Ty.str.pair (Zi.pair Ty.bool)).slice.pair (Zi.pair (Ty.str.pair Zi.slice).slice))) (rowUpd (Ty.str.pair ((Ty.str.pair (Zi.pair Ty.bool)).slice.pair (Zi.pair (Ty.str.pair Zi.slice).slice))) y2 y1.toNat (0 : Nat) [Cell.dat Ty.str (Sp.mText y0)]) y1.toNat (1 : Nat) [Cell.dat (Ty.str.pair (Zi.pair Ty.bool)).slice (Sp.markW Sp.markCo (3 : Int) ((rowUpd (Ty.str.pair ((Ty.str.pair (Zi.pair Ty.bool)).slice.pair (Zi.pair (Ty.str.pair Zi.slice).slice))) y2 y1.toNat (0 : Nat) [Cell.dat Ty.str (Sp.mText y0)]).getD y1.toNat (ByteArray.mk #[], [], (0 : Int), [])).2.1 (IntKind.i64.wrap (y0 + (1 : Int))))]).length : Int))) (chk (decide ((0 : Int) ≤ y1) && decide (y1 < (↑(rowUpd (Ty.str.pair ((Ty.str.pair (Zi.pair Ty.bool)).slice.pair (Zi.pair (Ty.str.pair Zi.slice).slice))) (rowUpd (Ty.str.pair ((Ty.str.pair (Zi.pair Ty.bool)).slice.pair (Zi.pair (Ty.str.pair Zi.slice).slice))) (rowUpd (Ty.str.pair ((Ty.str.pair (Zi.pair Ty.bool)).slice.pair (Zi.pair (Ty.str.pair Zi.slice).slice))) y2 y1.toNat (0 : Nat) [Cell.dat Ty.str (Sp.mText y0)]) y1.toNat (1 : Nat) [Cell.dat (Ty.str.pair (Zi.pair Ty.bool)).slice (Sp.markW Sp.markCo (3 : Int) ((rowUpd (Ty.str.pair ((Ty.str.pair (Zi.pair Ty.bool)).slice.pair (Zi.pair (Ty.str.pair Zi.slice).slice))) y2 y1.toNat (0 : Nat) [Cell.dat Ty.str (Sp.mText y0)]).getD y1.toNat (ByteArray.mk #[], [], (0 : Int), [])).2.1 (IntKind.i64.wrap (y0 + (1 : Int))))]) y1.toNat (2 : Nat) [Cell.dat Zi (Sp.addW (3 : Int) ((rowUpd (Ty.str.pair ((Ty.str.pair (Zi.pair Ty.bool)).slice.pair (Zi.pair (Ty.str.pair Zi.slice).slice))) y2 y1.toNat (0 : Nat) [Cell.dat Ty.str (Sp.mText y0)]).getD y1.toNat (ByteArray.mk #[], [], (0 : Int), [])).2.1 (IntKind.i64.wrap (y0 + (1 : Int))))]).length : Int))) (chk (Sp.smallU Sp.wtIx ((rowUpd (Ty.str.pair ((Ty.str.pair (Zi.pair Ty.bool)).slice.pair (Zi.pair (Ty.str.pair Zi.slice).slice))) (rowUpd (Ty.str.pair ((Ty.str.pair (Zi.pair Ty.bool)).slice.pair (Zi.pair (Ty.str.pair Zi.slice).slice))) (rowUpd (Ty.str.pair ((Ty.str.pair (Zi.pair Ty.bool)).slice.pair (Zi.pair (Ty.str.pair Zi.slice).slice))) y2 y1.toNat (0 : Nat) [Cell.dat Ty.str (Sp.mText y0)]) y1.toNat (1 : Nat) [Cell.dat (Ty.str.pair (Zi.pair Ty.bool)).slice (Sp.markW Sp.markCo (3 : Int) ((rowUpd (Ty.str.pair ((Ty.str.pair (Zi.pair Ty.bool)).slice.pair (Zi.pair (Ty.str.pair Zi.slice).slice))) y2 y1.toNat (0 : Nat) [Cell.dat Ty.str (Sp.mText y0)]).getD y1.toNat (ByteArray.mk #[], [], (0 : Int), [])).2.1 (IntKind.i64.wrap (y0 + (1 : Int))))]) y1.toNat (2 : Nat) [Cell.dat Zi (Sp.addW (3 : Int) ((rowUpd (Ty.str.pair ((Ty.str.pair (Zi.pair Ty.bool)).slice.pair (Zi.pair (Ty.str.pair Zi.slice).slice))) y2 y1.toNat (0 : Nat) [Cell.dat Ty.str (Sp.mText y0)]).getD y1.toNat (ByteArray.mk #[], [], (0 : Int), [])).2.1 (IntKind.i64.wrap (y0 + (1 : Int))))]).getD y1.toNat (ByteArray.mk #[], [], (0 : Int), [])).2.2.2 (IntKind.i64.wrap (Sp.addW (3 : Int) ((rowUpd (Ty.str.pair ((Ty.str.pair (Zi.pair Ty.bool)).slice.pair (Zi.pair (Ty.str.pair Zi.slice).slice))) y2 y1.toNat (0 : Nat) [Cell.dat Ty.str (Sp.mText y0)]).getD y1.toNat (ByteArray.mk #[], [], (0 : Int), [])).2.1 (IntKind.i64.wrap (y0 + (1 : Int))) + (1 : Int)))) (f1277_L0 n m0 (Sp.addU Sp.wtIx ((rowUpd (Ty.str.pair ((Ty.str.pair (Zi.pair Ty.bool)).slice.pair (Zi.pair (Ty.str.pair Zi.slice).slice))) (rowUpd (Ty.str.pair ((Ty.str.pair (Zi.pair Ty.bool)).slice.pair (Zi.pair (Ty.str.pair Zi.slice).slice))) (rowUpd (Ty.str.pair ((Ty.str.pair (Zi.pair Ty.bool)).slice.pair (Zi.pair (Ty.str.pair Zi.slice).slice))) y2 y1.toNat (0 : Nat) [Cell.dat Ty.str (Sp.mText y0)]) y1.toNat (1 : Nat) [Cell.dat (Ty.str.pair (Zi.pair Ty.bool)).slice (Sp.markW Sp.markCo (3 : Int) ((rowUpd (Ty.str.pair ((Ty.str.pair (Zi.pair Ty.bool)).slice.pair (Zi.pair (Ty.str.pair Zi.slice).slice))) y2 y1.toNat (0 : Nat) [Cell.dat Ty.str (Sp.mText y0)]).getD y1.toNat (ByteArray.mk #[], [], (0 : Int), [])).2.1 (IntKind.i64.wrap (y0 + (1 : Int))))]) y1.toNat (2 : Nat) [Cell.dat Zi (Sp.addW (3 : Int) ((rowUpd (Ty.str.pair ((Ty.str.pair (Zi.pair Ty.bool)).slice.pair (Zi.pair (Ty.str.pair Zi.slice).slice))) y2 y1.toNat (0 : Nat) [Cell.dat Ty.str (Sp.mText y0)]).getD y1.toNat (ByteArray.mk #[], [], (0 : Int), [])).2.1 (IntKind.i64.wrap (y0 + (1 : Int))))]).getD y1.toNat (ByteArray.mk #[], [], (0 : Int), [])).2.2.2 (IntKind.i64.wrap (Sp.addW (3 : Int) ((rowUpd (Ty.str.pair ((Ty.str.pair (Zi.pair Ty.bool)).slice.pair (Zi.pair (Ty.str.pair Zi.slice).slice))) y2 y1.toNat (0 : Nat) [Cell.dat Ty.str (Sp.mText y0)]).getD y1.toNat (ByteArray.mk #[], [], (0 : Int), [])).2.1 (IntKind.i64.wrap (y0 + (1 : Int))) + (1 : Int)))) (IntKind.i64.wrap (y1 + (1 : Int))) (rowUpd (Ty.str.pair ((Ty.str.pair (Zi.pair Ty.bool)).slice.pair (Zi.pair (Ty.str.pair Zi.slice).slice))) (rowUpd (Ty.str.pair ((Ty.str.pair (Zi.pair Ty.bool)).slice.pair (Zi.pair (Ty.str.pair Zi.slice).slice))) (rowUpd (Ty.str.pair ((Ty.str.pair (Zi.pair Ty.bool)).slice.pair (Zi.pair (Ty.str.pair Zi.slice).slice))) (rowUpd (Ty.str.pair ((Ty.str.pair (Zi.pair Ty.bool)).slice.pair (Zi.pair (Ty.str.pair Zi.slice).slice))) y2 y1.toNat (0 : Nat) [Cell.dat Ty.str (Sp.mText y0)]) y1.toNat (1 : Nat) [Cell.dat (Ty.str.pair (Zi.pair Ty.bool)).slice (Sp.markW Sp.markCo (3 : Int) ((rowUpd (Ty.str.pair ((Ty.str.pair (Zi.pair Ty.bool)).slice.pair (Zi.pair (Ty.str.pair Zi.slice).slice))) y2 y1.toNat (0 : Nat) [Cell.dat Ty.str (Sp.mText y0)]).getD y1.toNat (ByteArray.mk #[], [], (0 : Int), [])).2.1 (IntKind.i64.wrap (y0 + (1 : Int))))]) y1.toNat (2 : Nat) [Cell.dat Zi (Sp.addW (3 : Int) ((rowUpd (Ty.str.pair ((Ty.str.pair (Zi.pair Ty.bool)).slice.pair (Zi.pair (Ty.str.pair Zi.slice).slice))) y2 y1.toNat (0 : Nat) [Cell.dat Ty.str (Sp.mText y0)]).getD y1.toNat (ByteArray.mk #[], [], (0 : Int), [])).2.1 (IntKind.i64.wrap (y0 + (1 : Int))))]) y1.toNat (3 : Nat) [Cell.dat (Ty.str.pair Zi.slice).slice (Sp.markU Sp.markIx Sp.wtIx ((rowUpd (Ty.str.pair ((Ty.str.pair (Zi.pair Ty.bool)).slice.pair (Zi.pair (Ty.str.pair Zi.slice).slice))) (rowUpd (Ty.str.pair ((Ty.str.pair (Zi.pair Ty.bool)).slice.pair (Zi.pair (Ty.str.pair Zi.slice).slice))) (rowUpd (Ty.str.pair ((Ty.str.pair (Zi.pair Ty.bool)).slice.pair (Zi.pair (Ty.str.pair Zi.slice).slice))) y2 y1.toNat (0 : Nat) [Cell.dat Ty.str (Sp.mText y0)]) y1.toNat (1 : Nat) [Cell.dat (Ty.str.pair (Zi.pair Ty.bool)).slice (Sp.markW Sp.markCo (3 : Int) ((rowUpd (Ty.str.pair ((Ty.str.pair (Zi.pair Ty.bool)).slice.pair (Zi.pair (Ty.str.pair Zi.slice).slice))) y2 y1.toNat (0 : Nat) [Cell.dat Ty.str (Sp.mText y0)]).getD y1.toNat (ByteArray.mk #[], [], (0 : Int), [])).2.1 (IntKind.i64.wrap (y0 + (1 : Int))))]) y1.toNat (2 : Nat) [Cell.dat Zi (Sp.addW (3 : Int) ((rowUpd (Ty.str.pair ((Ty.str.pair (Zi.pair Ty.bool)).slice.pair (Zi.pair (Ty.str.pair Zi.slice).slice))) y2 y1.toNat (0 : Nat) [Cell.dat Ty.str (Sp.mText y0)]).getD y1.toNat (ByteArray.mk #[], [], (0 : Int), [])).2.1 (IntKind.i64.wrap (y0 + (1 : Int))))]).getD y1.toNat (ByteArray.mk #[], [], (0 : Int), [])).2.2.2 (IntKind.i64.wrap (Sp.addW (3 : Int) ((rowUpd (Ty.str.pair ((Ty.str.pair (Zi.pair Ty.bool)).slice.pair (Zi.pair (Ty.str.pair Zi.slice).slice))) y2 y1.toNat (0 : Nat) [Cell.dat Ty.str (Sp.mText y0)]).getD y1.toNat (ByteArray.mk #[], [], (0 : Int), [])).2.1 (IntKind.i64.wrap (y0 + (1 : Int))) + (1 : Int))))])))))))) else some (Res.mk [ZX Zi y0] [X.c (X0.row (Ty.str.pair ((Ty.str.pair (Zi.pair Ty.bool)).slice.pair (Zi.pair (Ty.str.pair Zi.slice).slice))) y2 true)]) := by kernel_rfl
theorem f1277_raw (n : Nat) (x0 : List (ByteArray × List (ByteArray × Int × Bool) × Int × List (ByteArray × List Int))) (x1 : Int) : abody Γ (orc [e75, e1311, e1312]) n 17 [XV.mk false [X.c (X0.row (Ty.str.pair ((Ty.str.pair (Zi.pair Ty.bool)).slice.pair (Zi.pair (Ty.str.pair Zi.slice).slice))) x0 true)], ZX Zi x1] = f1277_L0 n n x1 (0 : Int) x0 := by kernel_rfl

noncomputable def e1277 : Ent := { f := n1277, ins := [Sh.one (C0.row tTb), Sh.one cI], outs := [Sh.one cI], upd := [Sh.one (C0.row tTb)], pre := fun a => Sp.smallU Sp.wtTb a.1 a.2, spec := fun a => Sp.addU Sp.wtTb a.1 a.2, wrt := fun a => Sp.markU Sp.markTb Sp.wtTb a.1 a.2 }
theorem e1277_core (xs : List VTb) (v : Int) (ha : Sp.smallU Sp.wtTb xs v = true) (hl : xs.length ≤ maxLen) : ∃ n, abody Γ (orc [e75, e1311, e1312]) n n1277 [XV.mk false [X.c (X0.row tTb xs true)], ZX Zi v] = some (rMk tTb (Sp.addU Sp.wtTb xs v) (Sp.markU Sp.markTb Sp.wtTb xs v)) := by
  obtain ⟨h1, h2⟩ := smallU_of ha
  have hl : xs.length ≤ 9223372036854775807 := hl
  refine ⟨xs.length + 1, (f1277_raw _ xs v).trans ?_⟩
  refine markU_loop (g := Sp.markTb) (w := Sp.wtTb) (R := rMk tTb) (fun m v k acc => f1277_L0 (xs.length + 1) m v k acc) (fun m v k acc hk => ?_) (fun m v k acc h hlen h0 h1 => ?_) xs.length 0 _ v xs (Nat.zero_add _) (Nat.lt_succ_self _) hl h1 h2
  · show f1277_L0 _ _ _ _ _ = _
    rw [f1277_L0_step, nat_ge hk, cond_false]
  · show f1277_L0 _ _ _ _ _ = _
    obtain ⟨a0, a1, a2, a3, hx⟩ : ∃ a0 a1 a2 a3, acc[k] = (a0, a1, a2, a3) := ⟨acc[k].1, acc[k].2.1, acc[k].2.2.1, acc[k].2.2.2, rfl⟩
    rw [hx] at h1
    have hw : Sp.wtTb (a0, a1, a2, a3) = 2 + 3 * a1.length + Sp.wtW Sp.wtIx a3 := rfl
    rw [hw] at h1
    have e1 : IntKind.i64.wrap (v + 1) = v + 1 := wrap64 (by omega) (by omega)
    have ea : Sp.addW 3 a1 (v + 1) = v + 1 + 3 * (a1.length : Int) := rfl
    have e2 : IntKind.i64.wrap (Sp.addW 3 a1 (v + 1) + 1) = Sp.addW 3 a1 (v + 1) + 1 := wrap64 (by omega) (by omega)
    have g1 : Sp.smallW 3 a1 (v + 1) = true := smallW_mk (by omega) (by omega)
    have g2 : Sp.smallU Sp.wtIx a3 (Sp.addW 3 a1 (v + 1) + 1) = true := smallU_mk (by omega) (by omega)
    have e3 : Sp.addU Sp.wtIx a3 (Sp.addW 3 a1 (v + 1) + 1) = v + (Sp.wtTb (a0, a1, a2, a3) : Nat) := by rw [hw]; unfold Sp.addU; omega
    rw [f1277_L0_step, nat_lt h, cond_true, e1, Int.toNat_natCast]
    generalize q0 : rowUpd tTb acc k 0 [Cell.dat .str (Sp.mText v)] = A0
    have u0 : A0 = acc.set k (Sp.mText v, a1, a2, a3) := q0.symm.trans (rowUpd_at h hx rfl)
    have w0 : List.getD A0 k (ByteArray.mk #[], [], (0 : Int), []) = (Sp.mText v, a1, a2, a3) := by rw [u0]; exact getD_set h
    rw [w0, show ((Sp.mText v, a1, a2, a3) : VTb).2.1 = a1 from rfl]
    generalize q1 : rowUpd tTb A0 k 1 [Cell.dat (.slice tCo) (Sp.markW Sp.markCo 3 a1 (v + 1))] = A1
    have u1 : A1 = acc.set k (Sp.mText v, Sp.markW Sp.markCo 3 a1 (v + 1), a2, a3) := q1.symm.trans (upd_next h u0 rfl)
    generalize q2 : rowUpd tTb A1 k 2 [Cell.dat (.int .i64) (Sp.addW (α := tCo.den) 3 a1 (v + 1))] = A2
    have u2 : A2 = acc.set k (Sp.mText v, Sp.markW Sp.markCo 3 a1 (v + 1), Sp.addW 3 a1 (v + 1), a3) := q2.symm.trans (upd_next h u1 rfl)
    have w2 : List.getD A2 k (ByteArray.mk #[], [], (0 : Int), []) = (Sp.mText v, Sp.markW Sp.markCo 3 a1 (v + 1), Sp.addW 3 a1 (v + 1), a3) := by rw [u2]; exact getD_set h
    have l0 : List.length A0 = List.length acc := (congrArg List.length u0).trans (List.length_set ..)
    have l1 : List.length A1 = List.length acc := (congrArg List.length u1).trans (List.length_set ..)
    have l2 : List.length A2 = List.length acc := (congrArg List.length u2).trans (List.length_set ..)
    rw [w2, l0, l1, l2, nat_lt h, guard0, mOK_of (by omega), next64 h hlen, hx]
    show chk true (chk true (chk true (chk (Sp.smallW 3 a1 (v + 1)) (chk true (chk true (chk (Sp.smallU Sp.wtIx a3 (IntKind.i64.wrap (Sp.addW 3 a1 (v + 1) + 1))) (f1277_L0 (xs.length + 1) m (Sp.addU Sp.wtIx a3 (IntKind.i64.wrap (Sp.addW 3 a1 (v + 1) + 1))) ((k + 1 : Nat) : Int) (rowUpd tTb A2 k 3 [Cell.dat (.slice tIx) (Sp.markU Sp.markIx Sp.wtIx a3 (IntKind.i64.wrap (Sp.addW 3 a1 (v + 1) + 1)))]))))))))  = _
    rw [e2, g1, g2, e3]
    simp only [chkT]
    exact congrArg (fun z => f1277_L0 (xs.length + 1) m (v + (Sp.wtTb (a0, a1, a2, a3) : Nat)) ((k + 1 : Nat) : Int) z) (show rowUpd tTb A2 k 3 [Cell.dat (.slice tIx) (Sp.markU Sp.markIx Sp.wtIx a3 (Sp.addW 3 a1 (v + 1) + 1))] = acc.set k (Sp.markTb (a0, a1, a2, a3) v) from upd_next (t := tTb) h u2 rfl)
theorem e1277_ok : Valid PP Γ e1277 := valid_len ok (vcons e75_ok (vcons e1311_ok (vcons e1312_ok vnil))) fun a ha hl => e1277_core a.1 a.2 ha (hl _ (List.mem_cons_self) _ (List.mem_cons_self)).1
end Go.Proofs.GR.T

set_option maxRecDepth 1000000
set_option maxHeartbeats 100000000
namespace Go.Proofs.GR.T
open Go Go.Proofs Go.Proofs.GR
def Sp.okRow1 (x : VRw) : Prop := x.length ≤ 9223372036854775807 ∧ ∀ v ∈ x, Sp.nN v = true ∧ v.2.2.size ≤ 9223372036854775807
def Sp.okDt1 (x : VDt) : Prop := x.1.size ≤ 9223372036854775807 ∧ x.2.length ≤ 9223372036854775807 ∧ ∀ r ∈ x.2, Sp.okRow1 r
def Sp.okDts (xs : List VDt) : Prop := xs.length ≤ 9223372036854775807 ∧ ∀ x ∈ xs, Sp.okDt1 x
def Sp.ctDt (x : VDt) : Nat := x.1.size + x.2.length + Sp.wtW List.length x.2
theorem szRw_wt {x : VRw} (hx : Sp.okRow1 x) (l : Int) (h0 : 0 ≤ l) (hl : l ≤ 1048576) (h : 0 ≤ Sp.szRw x l) : Sp.szRw x l + (x.length : Int) ≤ l := by
  have h2 : 0 ≤ Sp.szE Sp.szV x l := h
  have := szE_wt (f := Sp.szV) (c := fun _ => 0) (xs := x) (l := l) hx.1 (fun v hv l a b _ => by have := szV_le (hx.2 v hv).2 l a b; omega) h0 hl h2
  show Sp.szE Sp.szV x l + (x.length : Int) ≤ l
  omega
theorem szDt_wt {x : VDt} (hx : Sp.okDt1 x) (l : Int) (h0 : 0 ≤ l) (hl : l ≤ 1048576) (h : 0 ≤ Sp.szDt x l) : Sp.szDt x l + (Sp.ctDt x : Int) ≤ l := by
  obtain ⟨h1, h2, h3⟩ := hx
  unfold Sp.szDt Sp.f1368 at h ⊢
  rw [wrap64 (n := l - (x.1.size : Int)) (by omega) (by omega)] at h ⊢
  by_cases c1 : l - (x.1.size : Int) < 0
  · rw [decide_eq_true c1] at h; exact absurd h neg1
  · rw [decide_eq_false c1, cond_false] at h ⊢
    by_cases c2 : Sp.szE Sp.szRw x.2 (l - (x.1.size : Int)) < 0
    · rw [decide_eq_true c2] at h; exact absurd h neg1
    · have w1 := szE_wt (f := Sp.szRw) (c := List.length) (xs := x.2) (l := l - (x.1.size : Int)) h2 (fun y hy l a b d => szRw_wt (h3 y hy) l a b d) (by omega) (by omega) (by omega)
      rw [decide_eq_false c2, cond_false]
      show Sp.szE Sp.szRw x.2 (l - (x.1.size : Int)) + ((x.1.size + x.2.length + Sp.wtW List.length x.2 : Nat) : Int) ≤ l
      omega
def Sp.smallDts (xs : List VDt) : Prop := xs.length + Sp.wtW Sp.ctDt xs ≤ 1048576
theorem smallDt_of {xs : List VDt} (h : Sp.okDts xs) {l : Int} (h0 : 0 ≤ l) (hl : l ≤ 1048576) (hs : ¬ Sp.szE Sp.szDt xs l < 0) : Sp.smallDts xs := by
  have w := szE_wt (f := Sp.szDt) (c := Sp.ctDt) (xs := xs) (l := l) h.1 (fun x hx l a b c => szDt_wt (h.2 x hx) l a b c) h0 hl (by omega)
  unfold Sp.smallDts
  omega
theorem fitsDt_of {xs : List VDt} (h : Sp.smallDts xs) : Sp.fits1363 xs = true := by
  unfold Sp.smallDts at h
  refine yes2_both (fits32_mk (by omega)) (allW_mem.2 fun x hx => ?_)
  have h2 := wtW_one (w := Sp.ctDt) hx
  unfold Sp.ctDt at h2 h
  show Sp.fits1103 x.2 = true
  refine yes2_both (fits32_mk (by omega)) (allW_mem.2 fun y hy => ?_)
  have h3 := wtW_one (w := List.length) hy
  exact fits32_mk (by omega)
theorem sumTb_of {xs : List VTb} (h : Sp.okTbs xs) {l : Int} (h0 : 0 ≤ l) (hl : l ≤ 1048576) (hs : ¬ Sp.szE Sp.szTb xs l < 0) : xs.length + Sp.wtW Sp.ctTb xs ≤ 1048576 ∧ Sp.szE Sp.szTb xs l ≤ l := by
  have w := szE_wt (f := Sp.szTb) (c := Sp.ctTb) (xs := xs) (l := l) h.1 (fun x hx l a b c => szTb_wt (h.2 x hx) l a b c) h0 hl (by omega)
  omega
theorem wtTb_le {xs : List VTb} : Sp.wtW Sp.wtTb xs ≤ 2 * xs.length + 3 * Sp.wtW Sp.ctTb xs := wtW_lin fun x _ => by
  have := wtW_lin (w := Sp.wtIx) (c := Sp.ctIx) (a := 1) (b := 1) (xs := x.2.2.2) fun y _ => by unfold Sp.wtIx Sp.ctIx; omega
  unfold Sp.wtTb Sp.ctTb
  omega
theorem wtDt_le {xs : List VDt} : Sp.wtW Sp.wtDt xs ≤ 1 * xs.length + 3 * Sp.wtW Sp.ctDt xs := wtW_lin fun x _ => by
  have := wtW_lin (w := Sp.wtRw) (c := List.length) (a := 0) (b := 3) (xs := x.2) fun y _ => by unfold Sp.wtRw; omega
  unfold Sp.wtDt Sp.ctDt
  omega
theorem eqRw_self (x : VRw) : Sp.eqRw x x = true := eqW_self eqV_self x
theorem eqDt_self (x : VDt) : Sp.eqDt x x = true := by
  unfold Sp.eqDt Sp.f1307
  rw [beq_self_eq_true, eqW_self eqRw_self]; rfl
theorem datN_of {ds : List VDt} (h : Sp.okDts ds) : Sp.allW Sp.datN ds = true := allW_mem.2 fun d hd => allW_mem.2 fun r hr => allW_mem.2 fun v hv => (((h.2 d hd).2.2 r hr).2 v hv).1
end Go.Proofs.GR.T

namespace Go.Proofs.GR.T
open Go Go.Proofs Go.Proofs.GR
def Sp.catS (sep : ByteArray) : List ByteArray → ByteArray
  | [] => ByteArray.mk #[]
  | x :: r => sep ++ (x ++ Sp.catS sep r)
def Sp.joinB (sep : ByteArray) : List ByteArray → ByteArray
  | [] => ByteArray.mk #[]
  | x :: r => x ++ Sp.catS sep r
def Sp.sumB : List ByteArray → Nat
  | [] => 0
  | x :: r => x.size + Sp.sumB r
theorem ba_list {a b : ByteArray} (h : a.data.toList = b.data.toList) : a = b := by
  cases a
  cases b
  exact congrArg ByteArray.mk (Array.toList_inj.1 h)
theorem ba_app (a b : ByteArray) : (a ++ b).data.toList = a.data.toList ++ b.data.toList := by
  rw [ByteArray.data_append, Array.toList_append]
theorem catS_list (sep : ByteArray) : ∀ r : List ByteArray, (Sp.catS sep r).data.toList = Lib.joinTail sep.data.toList (r.map (·.data.toList))
  | [] => rfl
  | x :: r => by
    rw [Sp.catS, ba_app, ba_app, catS_list sep r]
    unfold Lib.joinTail
    rw [List.map_cons, List.map_cons, List.flatten_cons, List.append_assoc]
theorem join_eq (sep : ByteArray) (xs : List ByteArray) : (⟨(Lib.join (xs.map (·.data.toList)) sep.data.toList).toArray⟩ : ByteArray) = Sp.joinB sep xs := by
  cases xs with
  | nil => rfl
  | cons x r =>
    refine ba_list ?_
    rw [Sp.joinB, ba_app, catS_list, List.map_cons, Lib.join_cons]
theorem catS_size (sep : ByteArray) : ∀ r : List ByteArray, (Sp.catS sep r).size = sep.size * r.length + Sp.sumB r
  | [] => rfl
  | x :: r => by
    rw [Sp.catS, ByteArray.size_append, ByteArray.size_append, catS_size sep r, Sp.sumB, List.length_cons, Nat.mul_add, Nat.mul_one]
    omega
theorem joinB_size (sep : ByteArray) (xs : List ByteArray) : (Sp.joinB sep xs).size ≤ sep.size * xs.length + Sp.sumB xs := by
  cases xs with
  | nil => exact Nat.zero_le _
  | cons x r =>
    rw [Sp.joinB, ByteArray.size_append, catS_size, Sp.sumB, List.length_cons, Nat.mul_add]
    omega
theorem join_len (sep : ByteArray) (xs : List ByteArray) : (Lib.join (xs.map (·.data.toList)) sep.data.toList).length ≤ sep.size * xs.length + Sp.sumB xs := by
  have h := congrArg ByteArray.size (join_eq sep xs)
  have h2 : (Lib.join (xs.map (·.data.toList)) sep.data.toList).length = (Sp.joinB sep xs).size := by
    rw [← h]
    show _ = (Lib.join (xs.map (·.data.toList)) sep.data.toList).toArray.size
    rw [List.size_toArray]
  rw [h2]
  exact joinB_size sep xs
theorem catS_snoc (sep x : ByteArray) : ∀ r : List ByteArray, Sp.catS sep (r ++ [x]) = Sp.catS sep r ++ (sep ++ x)
  | [] => ba_list (by simp [Sp.catS])
  | y :: r => by
    rw [List.cons_append, Sp.catS, Sp.catS, catS_snoc sep x r]
    refine ba_list ?_
    simp only [ba_app, List.append_assoc]
theorem joinB_snoc (sep x : ByteArray) (r : List ByteArray) : Sp.joinB sep (r ++ [x]) = bif r.isEmpty then x else Sp.joinB sep r ++ (sep ++ x) := by
  cases r with
  | nil => exact ba_list (by simp [Sp.joinB, Sp.catS])
  | cons y r =>
    show Sp.joinB sep (y :: (r ++ [x])) = Sp.joinB sep (y :: r) ++ (sep ++ x)
    rw [Sp.joinB, Sp.joinB, catS_snoc]
    exact ba_list (by simp only [ba_app, List.append_assoc])
theorem ba_assoc (a b c : ByteArray) : a ++ b ++ c = a ++ (b ++ c) := ba_list (by simp only [ba_app, List.append_assoc])
theorem ba_nil (a : ByteArray) : a ++ ByteArray.mk #[] = a := ba_list (by rw [ba_app]; exact List.append_nil _)
theorem joinS_loop {α ρ : Type} (sep : ByteArray) (f : α → ByteArray) (xs : List α) (pre : ByteArray) (B : Nat) (hf : ∀ x ∈ xs, (f x).size ≤ B) (L : Nat → Int → ByteArray → Option ρ) (z : ByteArray → Option ρ)
    (h0 : ∀ m (k : Nat) acc, xs.length ≤ k → L (m + 1) k acc = z acc)
    (h1 : ∀ m (k : Nat) (h : k < xs.length) acc, acc.size ≤ pre.size + k * (sep.size + B) → L (m + 1) k acc = L m ((k + 1 : Nat) : Int) ((bif decide (0 < k) then acc ++ sep else acc) ++ f xs[k])) :
    ∀ (d k m : Nat), k + d = xs.length → d < m → (pre ++ Sp.joinB sep ((xs.take k).map f)).size ≤ pre.size + k * (sep.size + B) → L m k (pre ++ Sp.joinB sep ((xs.take k).map f)) = z (pre ++ Sp.joinB sep (xs.map f)) := by
  intro d
  induction d with
  | zero =>
    intro k m hk hm _
    obtain ⟨m, rfl⟩ : ∃ j, m = j + 1 := ⟨m - 1, by omega⟩
    rw [h0 m k _ (by omega), List.take_of_length_le (by omega)]
  | succ d ih =>
    intro k m hk hm hs
    obtain ⟨m, rfl⟩ : ∃ j, m = j + 1 := ⟨m - 1, by omega⟩
    have h : k < xs.length := by omega
    have hb := hf _ (List.getElem_mem h)
    have e : (bif decide (0 < k) then pre ++ Sp.joinB sep ((xs.take k).map f) ++ sep else pre ++ Sp.joinB sep ((xs.take k).map f)) ++ f xs[k] = pre ++ Sp.joinB sep ((xs.take (k + 1)).map f) := by
      rw [List.take_succ_eq_append_getElem h, List.map_append]
      show _ = pre ++ Sp.joinB sep ((xs.take k).map f ++ [f xs[k]])
      rw [joinB_snoc]
      by_cases hk0 : 0 < k
      · have e1 : ((xs.take k).map f).isEmpty = false := by
          rw [List.isEmpty_eq_false_iff]
          intro q
          have := congrArg List.length q
          rw [List.length_map, List.length_take, List.length_nil] at this
          omega
        rw [decide_eq_true hk0, e1, cond_true, cond_false, ba_assoc, ba_assoc]
      · have : k = 0 := by omega
        subst this
        rw [decide_eq_false hk0, cond_false]
        show pre ++ Sp.joinB sep [] ++ f xs[0] = pre ++ (bif true then f xs[0] else _)
        rw [cond_true]
        show pre ++ ByteArray.mk #[] ++ f xs[0] = _
        rw [ba_nil]
    rw [h1 m k h _ hs, e]
    refine ih (k + 1) m (by omega) (by omega) ?_
    rw [← e, ByteArray.size_append, Nat.succ_mul]
    by_cases hk0 : 0 < k
    · rw [decide_eq_true hk0, cond_true, ByteArray.size_append]; omega
    · rw [decide_eq_false hk0, cond_false]; omega
theorem joinS_end {α ρ : Type} (sep : ByteArray) (f : α → ByteArray) (xs : List α) (pre : ByteArray) (B : Nat) (hf : ∀ x ∈ xs, (f x).size ≤ B) (L : Nat → Int → ByteArray → Option ρ) (z : ByteArray → Option ρ)
    (h0 : ∀ m (k : Nat) acc, xs.length ≤ k → L (m + 1) k acc = z acc)
    (h1 : ∀ m (k : Nat) (h : k < xs.length) acc, acc.size ≤ pre.size + k * (sep.size + B) → L (m + 1) k acc = L m ((k + 1 : Nat) : Int) ((bif decide (0 < k) then acc ++ sep else acc) ++ f xs[k])) :
    ∀ m : Nat, xs.length < m → L m ((0 : Nat) : Int) pre = z (pre ++ Sp.joinB sep (xs.map f)) := fun m hm => by
  have e : pre ++ Sp.joinB sep ((xs.take 0).map f) = pre := ba_nil pre
  have := joinS_loop sep f xs pre B hf L z h0 h1 xs.length 0 m (Nat.zero_add _) hm (by rw [e]; omega)
  rw [e] at this
  exact this
def Sp.cat1 : List ByteArray → ByteArray
  | [] => ByteArray.mk #[]
  | x :: r => x ++ Sp.cat1 r
theorem cat1_loop {α ρ : Type} (f : α → ByteArray) (xs : List α) (P B : Nat) (hf : ∀ x ∈ xs, (f x).size ≤ B) (L : Nat → Int → ByteArray → Option ρ) (z : ByteArray → Option ρ)
    (h0 : ∀ m (k : Nat) acc, xs.length ≤ k → L (m + 1) k acc = z acc)
    (h1 : ∀ m (k : Nat) (h : k < xs.length) acc, acc.size ≤ P + k * B → L (m + 1) k acc = L m ((k + 1 : Nat) : Int) (acc ++ f xs[k])) :
    ∀ (d k m : Nat) (acc : ByteArray), k + d = xs.length → d < m → acc.size ≤ P + k * B → L m k acc = z (acc ++ Sp.cat1 ((xs.drop k).map f)) := by
  intro d
  induction d with
  | zero =>
    intro k m acc hk hm _
    obtain ⟨m, rfl⟩ : ∃ j, m = j + 1 := ⟨m - 1, by omega⟩
    rw [h0 m k _ (by omega), List.drop_of_length_le (by omega)]
    show z acc = z (acc ++ ByteArray.mk #[])
    rw [ba_nil]
  | succ d ih =>
    intro k m acc hk hm hs
    obtain ⟨m, rfl⟩ : ∃ j, m = j + 1 := ⟨m - 1, by omega⟩
    have h : k < xs.length := by omega
    have hb := hf _ (List.getElem_mem h)
    rw [h1 m k h _ hs, ih (k + 1) m _ (by omega) (by omega) (by rw [ByteArray.size_append, Nat.succ_mul]; omega), List.drop_eq_getElem_cons h, List.map_cons, Sp.cat1, ba_assoc]
theorem mapA_loop {α β ρ : Type} (f : α → β) (xs : List α) (L : Nat → Int → List β → Option ρ) (z : List β → Option ρ)
    (h0 : ∀ m (k : Nat) acc, xs.length ≤ k → L (m + 1) k acc = z acc)
    (h1 : ∀ m (k : Nat) (h : k < xs.length) acc, acc.length ≤ k → L (m + 1) k acc = L m ((k + 1 : Nat) : Int) (acc ++ [f xs[k]])) :
    ∀ (d k m : Nat) (acc : List β), k + d = xs.length → d < m → acc.length ≤ k → L m k acc = z (acc ++ (xs.drop k).map f) := by
  intro d
  induction d with
  | zero =>
    intro k m acc hk hm _
    obtain ⟨m, rfl⟩ : ∃ j, m = j + 1 := ⟨m - 1, by omega⟩
    rw [h0 m k _ (by omega), List.drop_of_length_le (by omega), List.map_nil, List.append_nil]
  | succ d ih =>
    intro k m acc hk hm hs
    obtain ⟨m, rfl⟩ : ∃ j, m = j + 1 := ⟨m - 1, by omega⟩
    have h : k < xs.length := by omega
    rw [h1 m k h _ hs, ih (k + 1) m _ (by omega) (by omega) (by rw [List.length_append, List.length_singleton]; omega), List.drop_eq_getElem_cons h, List.map_cons, List.append_assoc, List.singleton_append]
def Sp.joinP (xs : List ByteArray) (sep : ByteArray) : Bool := yes2 (Nat.ble 1 xs.length) (Nat.ble (sep.size * xs.length + Sp.sumB xs + xs.length) 1048576)
def Sp.dig (n : Int) : ByteArray := ⟨(Lib.decDigits n.toNat).toArray⟩
def Sp.digP (n : Int) : Bool := yes2 (decide (0 ≤ n)) (decide (n < 100))
theorem digP_is {a : Int} (h : Sp.digP a = true) : 0 ≤ a ∧ a < 100 := by
  obtain ⟨h1, h2⟩ := yes2_true h
  exact ⟨of_decide_eq_true h1, of_decide_eq_true h2⟩
end Go.Proofs.GR.T

namespace Go.Proofs.GR.T
open Go Go.Proofs Go.Proofs.GR Go.Shelf
set_option maxRecDepth 100000
def ren1167 : Ren := ⟨fun k => if k = 156 then n1167 else if k = 165 then n1190 else if k = 166 then n1166 else if k = 169 then n1168 else if k = 240 then n1189 else if k = 241 then n1202 else if k = 276 then n1201 else if k = 277 then n1215 else k, fun k => if k = 31 then t40 else if k = 9 then t9 else if k = 3 then t3 else if k = 4 then t4 else if k = 0 then t0 else if k = 20 then t20 else if k = 72 then t1141 else if k = 76 then t1145 else if k = 70 then t1139 else if k = 37 then t33 else if k = 75 then t1144 else if k = 127 then t233 else if k = 164 then t267 else if k = 5 then t5 else if k = 80 then t166 else k, fun k => k⟩
theorem lays1167 : Lays.n156 PP ren1167 where
  mixed := by kernel_rfl
  f156 := by kernel_rfl
  f165 := by kernel_rfl
  f166 := by kernel_rfl
  f169 := by kernel_rfl
  f240 := by kernel_rfl
  f241 := by kernel_rfl
  f276 := by kernel_rfl
  f277 := by kernel_rfl
  t0 := by kernel_rfl
  a0 := fun _ => by kernel_rfl
  z0 := fun _ => by kernel_rfl
  v0 := fun _ => by kernel_rfl
  t3 := by kernel_rfl
  a3 := fun _ => by kernel_rfl
  z3 := fun _ => by kernel_rfl
  v3 := fun _ => by kernel_rfl
  t4 := by kernel_rfl
  a4 := fun _ => by kernel_rfl
  z4 := fun _ => by kernel_rfl
  v4 := fun _ => by kernel_rfl
  t9 := by kernel_rfl
  a9 := fun _ => by kernel_rfl
  z9 := fun _ => by kernel_rfl
  v9 := fun _ => by kernel_rfl
  t20 := by kernel_rfl
  a20 := fun _ => by kernel_rfl
  z20 := fun _ => by kernel_rfl
  v20 := fun _ => by kernel_rfl
  t31 := by kernel_rfl
  a31 := fun _ => by kernel_rfl
  z31 := fun _ => by kernel_rfl
  v31 := fun _ => by kernel_rfl
  t37 := by kernel_rfl
  a37 := fun _ => by kernel_rfl
  z37 := fun _ => by kernel_rfl
  v37 := fun _ => by kernel_rfl
  t70 := by kernel_rfl
  a70 := fun _ => by kernel_rfl
  z70 := fun _ => by kernel_rfl
  v70 := fun _ => by kernel_rfl
  t72 := by kernel_rfl
  a72 := fun _ => by kernel_rfl
  z72 := fun _ => by kernel_rfl
  v72 := fun _ => by kernel_rfl
  t75 := by kernel_rfl
  a75 := fun _ => by kernel_rfl
  z75 := fun _ => by kernel_rfl
  v75 := fun _ => by kernel_rfl
  t76 := by kernel_rfl
  a76 := fun _ => by kernel_rfl
  z76 := fun _ => by kernel_rfl
  v76 := fun _ => by kernel_rfl
  t127 := by kernel_rfl
  a127 := fun _ => by kernel_rfl
  z127 := fun _ => by kernel_rfl
  v127 := fun _ => by kernel_rfl
  t164 := by kernel_rfl
  a164 := fun _ => by kernel_rfl
  z164 := fun _ => by kernel_rfl
  v164 := fun _ => by kernel_rfl
theorem extra1167 : Builder.Extra PP ren1167 where
  sizeBuilder := by kernel_rfl
  liesBuilder := by kernel_rfl
  t5 := by kernel_rfl
  a5 := fun _ => by kernel_rfl
  z5 := fun _ => by kernel_rfl
  v5 := fun _ => by kernel_rfl
  infoByte := by kernel_rfl
  cellsByte := by kernel_rfl
  sizeByte := by kernel_rfl
  neB5 := by decide +kernel
noncomputable def e1167 : Ent := { f := n1167, ins := [Sh.one (C0.dat (.slice .str)), Sh.one (C0.dat .str)], outs := [Sh.one (C0.dat .str)], upd := [], pre := fun a => Sp.joinP a.1 a.2, spec := fun a => Sp.joinB a.2 a.1, wrt := fun _ => () }
theorem e1167_ok : Valid PP Γ e1167 := fun a ha => by
  obtain ⟨h1, h2⟩ := yes2_true ha
  have h1 := Nat.le_of_ble_eq_true h1
  have h2 := Nat.le_of_ble_eq_true h2
  have hne : a.1 ≠ [] := fun e => by rw [e] at h1; cases h1
  refine contract_join (f := n1167) (by kernel_rfl) hne fun w bk o c hcells hbk hc => ?_
  have hj := join_len a.2 a.1
  refine (Any.strings_Join lays1167 extra1167 bk o c a.1 a.2 w hcells hbk (by omega) hc (by omega)).mono fun e w' ⟨he, hb⟩ => ⟨?_, hb⟩
  rw [he]
  exact congrArg (fun q => Ending.returned (Value.string q)) (join_eq a.2 a.1)
end Go.Proofs.GR.T

namespace Go.Proofs.GR.T
open Go Go.Proofs Go.Proofs.GR Go.Shelf
set_option maxRecDepth 100000
def ren1164 : Ren := ⟨fun k => if k = 171 then n1164 else if k = 243 then n1186 else if k = 246 then n1198 else if k = 283 then n1210 else if k = 284 then n1211 else if k = 285 then n1212 else if k = 286 then n1213 else if k = 129 then n1219 else if k = 317 then n1218 else if k = 318 then n1220 else if k = 319 then n1221 else if k = 320 then n1222 else if k = 337 then n1225 else if k = 338 then n1226 else k, fun k => if k = 3 then t3 else if k = 9 then t9 else if k = 2 then t2 else if k = 4 then t4 else if k = 171 then t1168 else if k = 0 then t0 else if k = 53 then t105 else if k = 37 then t33 else if k = 5 then t5 else if k = 173 then t1171 else if k = 212 then t1180 else if k = 51 then t151 else if k = 20 then t20 else if k = 213 then t1181 else if k = 46 then t86 else if k = 232 then t1187 else if k = 233 then t1188 else k, fun k => if k = 17 then g6 else if k = 18 then g7 else if k = 19 then g8 else k⟩
theorem lays1164 : Lays.n171 PP ren1164 where
  mixed := by kernel_rfl
  f129 := by kernel_rfl
  f171 := by kernel_rfl
  f243 := by kernel_rfl
  f246 := by kernel_rfl
  f283 := by kernel_rfl
  f284 := by kernel_rfl
  f285 := by kernel_rfl
  f286 := by kernel_rfl
  f317 := by kernel_rfl
  f318 := by kernel_rfl
  f319 := by kernel_rfl
  f320 := by kernel_rfl
  f337 := by kernel_rfl
  f338 := by kernel_rfl
  t0 := by kernel_rfl
  a0 := fun _ => by kernel_rfl
  z0 := fun _ => by kernel_rfl
  v0 := fun _ => by kernel_rfl
  t2 := by kernel_rfl
  a2 := fun _ => by kernel_rfl
  z2 := fun _ => by kernel_rfl
  v2 := fun _ => by kernel_rfl
  t3 := by kernel_rfl
  a3 := fun _ => by kernel_rfl
  z3 := fun _ => by kernel_rfl
  v3 := fun _ => by kernel_rfl
  t4 := by kernel_rfl
  a4 := fun _ => by kernel_rfl
  z4 := fun _ => by kernel_rfl
  v4 := fun _ => by kernel_rfl
  t5 := by kernel_rfl
  a5 := fun _ => by kernel_rfl
  z5 := fun _ => by kernel_rfl
  v5 := fun _ => by kernel_rfl
  t9 := by kernel_rfl
  a9 := fun _ => by kernel_rfl
  z9 := fun _ => by kernel_rfl
  v9 := fun _ => by kernel_rfl
  t20 := by kernel_rfl
  a20 := fun _ => by kernel_rfl
  z20 := fun _ => by kernel_rfl
  v20 := fun _ => by kernel_rfl
  t37 := by kernel_rfl
  a37 := fun _ => by kernel_rfl
  z37 := fun _ => by kernel_rfl
  v37 := fun _ => by kernel_rfl
  t46 := by kernel_rfl
  a46 := fun _ => by kernel_rfl
  z46 := fun _ => by kernel_rfl
  v46 := fun _ => by kernel_rfl
  t51 := by kernel_rfl
  a51 := fun _ => by kernel_rfl
  z51 := fun _ => by kernel_rfl
  v51 := fun _ => by kernel_rfl
  t53 := by kernel_rfl
  a53 := fun _ => by kernel_rfl
  z53 := fun _ => by kernel_rfl
  v53 := fun _ => by kernel_rfl
  t171 := by kernel_rfl
  a171 := fun _ => by kernel_rfl
  z171 := fun _ => by kernel_rfl
  v171 := fun _ => by kernel_rfl
  t173 := by kernel_rfl
  a173 := fun _ => by kernel_rfl
  z173 := fun _ => by kernel_rfl
  v173 := fun _ => by kernel_rfl
  t212 := by kernel_rfl
  a212 := fun _ => by kernel_rfl
  z212 := fun _ => by kernel_rfl
  v212 := fun _ => by kernel_rfl
  t213 := by kernel_rfl
  a213 := fun _ => by kernel_rfl
  z213 := fun _ => by kernel_rfl
  t232 := by kernel_rfl
  a232 := fun _ => by kernel_rfl
  z232 := fun _ => by kernel_rfl
  v232 := fun _ => by kernel_rfl
  t233 := by kernel_rfl
  a233 := fun _ => by kernel_rfl
  z233 := fun _ => by kernel_rfl
  v233 := fun _ => by kernel_rfl
  g17 := by kernel_rfl
  g18 := by kernel_rfl
  g19 := by kernel_rfl
noncomputable def e1164 : Ent := { f := n1164, ins := [Sh.one (C0.dat (.int .i64))], outs := [Sh.one (C0.dat .str)], upd := [], pre := fun a => Sp.digP a, spec := fun a => Sp.dig a, wrt := fun _ => () }
theorem itoa1164 (a : Int) (h : Sp.digP a = true) : Contract PP Γ n1164 [⟨false, [.c (.dat (.int .i64) a)]⟩] ⟨[⟨false, [.c (.dat .str (Sp.dig a))]⟩], []⟩ := by
  obtain ⟨h1, h2⟩ := digP_is h
  refine contract_itoa (f := n1164) (by kernel_rfl) fun w => ?_
  have e : ((a.toNat : Nat) : Int) = a := by omega
  have h := Any.strconv_Itoa_small lays1164 a.toNat (by omega) w
  rw [e] at h
  exact h.mono fun e w' ⟨he, hw⟩ => ⟨he, hw ▸ RowKit.Below.refl _ _⟩
theorem e1164_ok : Valid PP Γ e1164 := fun a ha => itoa1164 a ha
end Go.Proofs.GR.T

