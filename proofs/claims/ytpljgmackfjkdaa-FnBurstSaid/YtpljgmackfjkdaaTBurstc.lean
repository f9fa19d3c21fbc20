/-
  No statement is proved here: what the functions of the law answer, told as plain functions, and that the law's answer is always true.
  No condition.
-/
import Derived.Test.YtpljgmackfjkdaaTBurstb
set_option maxRecDepth 3000000
set_option maxHeartbeats 100000000
namespace Go.Proofs.GR.T
open Go Go.Proofs Go.Proofs.GR
def Sp.ixP (n : Nat) (pre : List Int) (c : Int) : Bool := bif (Sp.f79 c (0 : Int) (IntKind.i64.wrap ((n : Int) - (1 : Int)))).1 then !Sp.anyW (Sp.eqN c) pre else false
def Sp.ixOK (n : Nat) (t : ByteArray) (cs : List Int) : Bool := bif !Sp.isFreeS t then false else bif (cs.length : Int) == (0 : Int) then false else bif decide ((cs.length : Int) > (n : Int)) then false else Sp.allP (Sp.ixP n) [] cs
theorem guardLe {k n : Nat} (h : k ≤ n) : (decide ((0 : Int) ≤ (k : Int)) && decide ((k : Int) ≤ (n : Int))) = true := by
  rw [decide_eq_true (show (0 : Int) ≤ k by omega), decide_eq_true (show (k : Int) ≤ n by omega)]; rfl
noncomputable def e196 : Ent := { f := n196, ins := [Sh.agg [C0.dat .str, C0.dat (.slice tCo), C0.dat (.int .i64), C0.dat (.slice tIx)], Sh.agg [C0.dat .str, C0.dat (.slice tIn)]], outs := [Sh.one cB], upd := [], pre := fun _ => true, spec := fun a => Sp.ixOK (List.length a.1.2.1) a.2.1 a.2.2, wrt := fun _ => () }
theorem e196_core (x0 : ByteArray) (x1 : List VCo) (x2 : Int) (x3 : List VIx) (x4 : ByteArray) (x5 : List Int) (hl : x5.length ≤ maxLen) : ∃ n, abody Γ (orc [e194, e79, e210]) n n196 [XV.mk true [ZC Ty.str x0, ZC (Ty.slice tCo) x1, ZC Zi x2, ZC (Ty.slice tIx) x3], XV.mk true [ZC Ty.str x4, ZC (Ty.slice tIn) x5]] = some (rBo (Sp.ixOK x1.length x4 x5)) := by
  have hl : x5.length ≤ 9223372036854775807 := hl
  refine ⟨x5.length + 1, (f196_raw _ x0 x1 x2 x3 x4 x5).trans ?_⟩
  unfold Sp.ixOK
  cases Sp.isFreeS x4 with
  | false => rfl
  | true =>
    rw [Bool.not_true, cond_false, cond_false]
    cases (x5.length : Int) == (0 : Int) with
    | true => rfl
    | false =>
      rw [cond_false, cond_false]
      cases decide ((x5.length : Int) > (x1.length : Int)) with
      | true => rfl
      | false =>
        rw [cond_false, cond_false]
        have := allP_end (p := Sp.ixP x1.length) (z := some (rBo true)) (F := some (rBo false)) x5 (fun m k => f196_L0 (x5.length + 1) m k x0 x1 x2 x3 x4 x5) (fun m k hk => by
          show f196_L0 _ _ _ _ _ _ _ _ _ = _
          rw [f196_L0_step, nat_ge hk, cond_false]) (fun m k h _ => by
          show f196_L0 _ _ _ _ _ _ _ _ _ = _
          rw [f196_L0_step, nat_lt h, cond_true, guard0, chkT, getD_nat x5 k _ h, guardLe (Nat.le_of_lt h), chkT, chkT, next64 h hl, Int.toNat_natCast, Nat.sub_zero, List.drop_zero]
          unfold Sp.ixP
          cases (Sp.f79 x5[k] (0 : Int) (IntKind.i64.wrap ((x1.length : Int) - (1 : Int)))).1 with
          | false => rfl
          | true => cases Sp.anyW (Sp.eqN x5[k]) (x5.take k) <;> rfl) _ (Nat.lt_succ_self _)
        refine this.trans ?_
        cases Sp.allP (Sp.ixP x1.length) [] x5 <;> rfl
theorem e196_ok : Valid PP Γ e196 := valid_len ok (vcons e194_ok (vcons e79_ok (vcons e210_ok vnil))) fun a _ hl => e196_core a.1.1 a.1.2.1 a.1.2.2.1 a.1.2.2.2 a.2.1 a.2.2 (hl _ (List.mem_cons_of_mem _ List.mem_cons_self) _ (List.mem_cons_of_mem _ List.mem_cons_self)).1
noncomputable def f173_L0 (n m0 : Nat) (y0 : Int) (y1 : ByteArray) (y2 : List (ByteArray × Int × Bool)) (y3 : Int) (y4 : List (ByteArray × List Int)) : Option Res := loopAt Γ (orc [e194, e79, e195, e196, e197]) n (115 : Nat) (0 : Nat) [] [Pth.r, Pth.r, Pth.l, Pth.r, Pth.b] m0 (St.mk (Zn :: Slot.val (Val.one (Cell.ptr (0 : Nat) (0 : Nat))) :: Zn :: ZS Zi y0 :: ZN 99 []) [AObj.box (82 : Nat) [Cell.dat Ty.str y1, Cell.dat (Ty.str.pair (Zi.pair Ty.bool)).slice y2, Cell.dat Zi y3, Cell.dat (Ty.str.pair Zi.slice).slice y4]])
noncomputable def f173_L1 (n m1 : Nat) (y0 : Int) (y1 : ByteArray) (y2 : List (ByteArray × Int × Bool)) (y3 : Int) (y4 : List (ByteArray × List Int)) : Option Res := loopAt Γ (orc [e194, e79, e195, e196, e197]) n (115 : Nat) (0 : Nat) [] [Pth.r, Pth.r, Pth.r, Pth.l, Pth.r, Pth.b] m1 (St.mk (Zn :: Slot.val (Val.one (Cell.ptr (0 : Nat) (0 : Nat))) :: ZN 3 (ZS Zi y0 :: ZN 97 [])) [AObj.box (82 : Nat) [Cell.dat Ty.str y1, Cell.dat (Ty.str.pair (Zi.pair Ty.bool)).slice y2, Cell.dat Zi y3, Cell.dat (Ty.str.pair Zi.slice).slice y4]])
theorem f173_L0_step (n m0 : Nat) (y0 : Int) (y1 : ByteArray) (y2 : List (ByteArray × Int × Bool)) (y3 : Int) (y4 : List (ByteArray × List Int)) : f173_L0 n (m0 + 1) y0 y1 y2 y3 y4 = bif decide (y0 < (↑y2.length : Int)) then chk (decide ((0 : Int) ≤ y0) && decide (y0 < (↑y2.length : Int))) (bif !Sp.isFreeS (y2.getD y0.toNat (ByteArray.mk #[], (0 : Int), false)).1 then Zf else bif !(Sp.f79 (y2.getD y0.toNat (ByteArray.mk #[], (0 : Int), false)).2.1 (1 : Int) (4 : Int)).1 then Zf else bif decide (y0 < y3) then bif (y2.getD y0.toNat (ByteArray.mk #[], (0 : Int), false)).2.2 then Zf else chk (decide ((0 : Int) ≤ y0) && decide (y0 ≤ (↑y2.length : Int))) (bif decide (Sp.idx (Sp.nmCo (y2.getD y0.toNat (ByteArray.mk #[], (0 : Int), false)).1) (List.take (y0.toNat - (0 : Nat)) (List.drop (0 : Nat) y2)) (0 : Int) ≥ (0 : Int)) then Zf else f173_L0 n m0 (IntKind.i64.wrap (y0 + (1 : Int))) y1 y2 y3 y4) else chk (decide ((0 : Int) ≤ y0) && decide (y0 ≤ (↑y2.length : Int))) (bif decide (Sp.idx (Sp.nmCo (y2.getD y0.toNat (ByteArray.mk #[], (0 : Int), false)).1) (List.take (y0.toNat - (0 : Nat)) (List.drop (0 : Nat) y2)) (0 : Int) ≥ (0 : Int)) then Zf else f173_L0 n m0 (IntKind.i64.wrap (y0 + (1 : Int))) y1 y2 y3 y4)) else f173_L1 n n (0 : Int) y1 y2 y3 y4 := by kernel_rfl
theorem f173_L1_step (n m1 : Nat) (y0 : Int) (y1 : ByteArray) (y2 : List (ByteArray × Int × Bool)) (y3 : Int) (y4 : List (ByteArray × List Int)) : f173_L1 n (m1 + 1) y0 y1 y2 y3 y4 = bif decide (y0 < (↑y4.length : Int)) then chk (decide ((0 : Int) ≤ y0) && decide (y0 < (↑y4.length : Int))) (bif !Sp.ixOK y2.length (y4.getD y0.toNat (ByteArray.mk #[], [])).1 (y4.getD y0.toNat (ByteArray.mk #[], [])).2 then Zf else chk (decide ((0 : Int) ≤ y0) && decide (y0 ≤ (↑y4.length : Int))) (chk (decide ((0 : Int) ≤ y0) && decide (y0 < (↑y4.length : Int))) (bif decide (Sp.idx (Sp.nmIx (y4.getD y0.toNat (ByteArray.mk #[], [])).1) (List.take (y0.toNat - (0 : Nat)) (List.drop (0 : Nat) y4)) (0 : Int) ≥ (0 : Int)) then Zf else f173_L1 n m1 (IntKind.i64.wrap (y0 + (1 : Int))) y1 y2 y3 y4))) else Zt := by kernel_rfl
theorem f173_raw (n : Nat) (x0 : ByteArray) (x1 : List (ByteArray × Int × Bool)) (x2 : Int) (x3 : List (ByteArray × List Int)) : abody Γ (orc [e194, e79, e195, e196, e197]) n 115 [XV.mk true [ZC Ty.str x0, ZC (Ty.str.pair (Zi.pair Ty.bool)).slice x1, ZC Zi x2, ZC (Ty.str.pair Zi.slice).slice x3]] = bif !Sp.isFreeS x0 then Zf else bif !(Sp.f79 (↑x1.length : Int) (1 : Int) (8 : Int)).1 then Zf else bif !(Sp.f79 x2 (1 : Int) (↑x1.length : Int)).1 then Zf else bif decide ((↑x3.length : Int) > (4 : Int)) then Zf else f173_L0 n n (0 : Int) x0 x1 x2 x3 := by kernel_rfl

end Go.Proofs.GR.T

set_option maxRecDepth 3000000
set_option maxHeartbeats 100000000
namespace Go.Proofs.GR.T
open Go Go.Proofs Go.Proofs.GR
def Sp.coP (key : Int) (pre : List VCo) (c : VCo) : Bool := bif !Sp.isFreeS c.1 then false else bif !(Sp.f79 c.2.1 (1 : Int) (4 : Int)).1 then false else bif (bif decide ((pre.length : Int) < key) then c.2.2 else false) then false else !Sp.anyW (Sp.nmCo c.1) pre
def Sp.inP (n : Nat) (pre : List VIx) (x : VIx) : Bool := bif !Sp.ixOK n x.1 x.2 then false else !Sp.anyW (Sp.nmIx x.1) pre
def Sp.tbOK (x0 : ByteArray) (x1 : List VCo) (x2 : Int) (x3 : List VIx) : Bool := bif !Sp.isFreeS x0 then false else bif !(Sp.f79 (x1.length : Int) (1 : Int) (8 : Int)).1 then false else bif !(Sp.f79 x2 (1 : Int) (x1.length : Int)).1 then false else bif decide ((x3.length : Int) > (4 : Int)) then false else bif Sp.allP (Sp.coP x2) [] x1 then Sp.allP (Sp.inP x1.length) [] x3 else false
abbrev shTb : Sh := Sh.agg [C0.dat .str, C0.dat (.slice tCo), C0.dat (.int .i64), C0.dat (.slice tIx)]
noncomputable def e173 : Ent := { f := n173, ins := [shTb], outs := [Sh.one cB], upd := [], pre := fun _ => true, spec := fun a => Sp.tbOK a.1 a.2.1 a.2.2.1 a.2.2.2, wrt := fun _ => () }
theorem e173_core (x0 : ByteArray) (x1 : List VCo) (x2 : Int) (x3 : List VIx) (h1 : x1.length ≤ maxLen) (h3 : x3.length ≤ maxLen) : ∃ n, abody Γ (orc [e194, e79, e195, e196, e197]) n n173 [XV.mk true [ZC Ty.str x0, ZC (Ty.slice tCo) x1, ZC Zi x2, ZC (Ty.slice tIx) x3]] = some (rBo (Sp.tbOK x0 x1 x2 x3)) := by
  have h1 : x1.length ≤ 9223372036854775807 := h1
  have h3 : x3.length ≤ 9223372036854775807 := h3
  refine ⟨x1.length + x3.length + 1, (f173_raw _ x0 x1 x2 x3).trans ?_⟩
  unfold Sp.tbOK
  cases Sp.isFreeS x0 with
  | false => rfl
  | true =>
  cases (Sp.f79 (x1.length : Int) (1 : Int) (8 : Int)).1 with
  | false => rfl
  | true =>
  cases (Sp.f79 x2 (1 : Int) (x1.length : Int)).1 with
  | false => rfl
  | true =>
  cases decide ((x3.length : Int) > (4 : Int)) with
  | true => rfl
  | false =>
    rw [Bool.not_true, cond_false, cond_false, cond_false, cond_false, cond_false, cond_false, cond_false, cond_false]
    have L1 := allP_end (p := Sp.inP x1.length) (z := some (rBo true)) (F := some (rBo false)) x3 (fun m k => f173_L1 (x1.length + x3.length + 1) m k x0 x1 x2 x3) (fun m k hk => by
      show f173_L1 _ _ _ _ _ _ _ = _
      rw [f173_L1_step, nat_ge hk, cond_false]) (fun m k h _ => by
      show f173_L1 _ _ _ _ _ _ _ = _
      rw [f173_L1_step, nat_lt h, cond_true, guard0, chkT, chkT, getD_nat x3 k _ h, guardLe (Nat.le_of_lt h), chkT, next64 h h3, Int.toNat_natCast, Nat.sub_zero, List.drop_zero, idx_any _ _ _ (Int.le_refl 0)]
      unfold Sp.inP
      cases Sp.ixOK x1.length x3[k].1 x3[k].2 with
      | false => rfl
      | true => cases Sp.anyW (Sp.nmIx x3[k].1) (x3.take k) <;> rfl) (x1.length + x3.length + 1) (by omega)
    have L0 := allP_end (p := Sp.coP x2) (z := f173_L1 (x1.length + x3.length + 1) (x1.length + x3.length + 1) 0 x0 x1 x2 x3) (F := some (rBo false)) x1 (fun m k => f173_L0 (x1.length + x3.length + 1) m k x0 x1 x2 x3) (fun m k hk => by
      show f173_L0 _ _ _ _ _ _ _ = _
      rw [f173_L0_step, nat_ge hk, cond_false]) (fun m k h _ => by
      show f173_L0 _ _ _ _ _ _ _ = _
      have hk : (x1.take k).length = k := by rw [List.length_take]; omega
      rw [f173_L0_step, nat_lt h, cond_true, guard0, chkT, getD_nat x1 k _ h, guardLe (Nat.le_of_lt h), chkT, next64 h h1, Int.toNat_natCast, Nat.sub_zero, List.drop_zero, idx_any _ _ _ (Int.le_refl 0)]
      unfold Sp.coP
      rw [hk]
      cases Sp.isFreeS x1[k].1 with
      | false => rfl
      | true =>
        cases (Sp.f79 x1[k].2.1 (1 : Int) (4 : Int)).1 with
        | false => rfl
        | true => cases decide ((k : Int) < x2) <;> cases x1[k].2.2 <;> cases Sp.anyW (Sp.nmCo x1[k].1) (x1.take k) <;> rfl) (x1.length + x3.length + 1) (by omega)
    refine L0.trans ?_
    rw [show f173_L1 (x1.length + x3.length + 1) (x1.length + x3.length + 1) 0 x0 x1 x2 x3 = _ from L1]
    cases Sp.allP (Sp.coP x2) [] x1 with
    | false => rfl
    | true => cases Sp.allP (Sp.inP x1.length) [] x3 <;> rfl
theorem e173_ok : Valid PP Γ e173 := valid_len ok (vcons e194_ok (vcons e79_ok (vcons e195_ok (vcons e196_ok (vcons e197_ok vnil))))) fun a _ hl => e173_core a.1 a.2.1 a.2.2.1 a.2.2.2 (hl _ (List.mem_cons_self) _ (List.mem_cons_of_mem _ List.mem_cons_self)).1 (hl _ (List.mem_cons_self) _ (List.mem_cons_of_mem _ (List.mem_cons_of_mem _ (List.mem_cons_of_mem _ List.mem_cons_self)))).1
noncomputable def f140_L0 (n m0 : Nat) (y0 : List (ByteArray × List (ByteArray × Int × Bool) × Int × List (ByteArray × List Int))) (y1 : Int) : Option Res := loopAt Γ (orc [e173]) n (80 : Nat) (0 : Nat) [] [Pth.r, Pth.r, Pth.r, Pth.l, Pth.r, Pth.b] m0 (St.mk (ZS (Ty.str.pair ((Ty.str.pair (Zi.pair Ty.bool)).slice.pair (Zi.pair (Ty.str.pair Zi.slice).slice))).slice y0 :: Zn :: Zn :: ZS Zi y1 :: ZN 36 []) [])
theorem f140_L0_step (n m0 : Nat) (y0 : List (ByteArray × List (ByteArray × Int × Bool) × Int × List (ByteArray × List Int))) (y1 : Int) : f140_L0 n (m0 + 1) y0 y1 = bif decide (y1 < (↑y0.length : Int)) then chk (decide ((0 : Int) ≤ y1) && decide (y1 < (↑y0.length : Int))) (bif !Sp.tbOK (y0.getD y1.toNat (ByteArray.mk #[], [], (0 : Int), [])).1 (y0.getD y1.toNat (ByteArray.mk #[], [], (0 : Int), [])).2.1 (y0.getD y1.toNat (ByteArray.mk #[], [], (0 : Int), [])).2.2.1 (y0.getD y1.toNat (ByteArray.mk #[], [], (0 : Int), [])).2.2.2 then Zf else bif decide (y1 > (0 : Int)) then chk (decide ((0 : Int) ≤ IntKind.i64.wrap (y1 - (1 : Int))) && decide (IntKind.i64.wrap (y1 - (1 : Int)) < (↑y0.length : Int))) (chk (decide ((0 : Int) ≤ y1) && decide (y1 < (↑y0.length : Int))) (bif !Op.bytesLess (y0.getD (IntKind.i64.wrap (y1 - (1 : Int))).toNat (ByteArray.mk #[], [], (0 : Int), [])).1.toList (y0.getD y1.toNat (ByteArray.mk #[], [], (0 : Int), [])).1.toList then Zf else f140_L0 n m0 y0 (IntKind.i64.wrap (y1 + (1 : Int))))) else f140_L0 n m0 y0 (IntKind.i64.wrap (y1 + (1 : Int)))) else Zt := by kernel_rfl
theorem f140_raw (n : Nat) (x0 : List (ByteArray × List (ByteArray × Int × Bool) × Int × List (ByteArray × List Int))) : abody Γ (orc [e173]) n 80 [ZX (Ty.str.pair ((Ty.str.pair (Zi.pair Ty.bool)).slice.pair (Zi.pair (Ty.str.pair Zi.slice).slice))).slice x0] = bif decide ((↑x0.length : Int) > (4096 : Int)) then Zf else bif decide ((↑x0.length : Int) > (6 : Int)) then Zf else f140_L0 n n x0 (0 : Int) := by kernel_rfl

end Go.Proofs.GR.T

set_option maxRecDepth 3000000
set_option maxHeartbeats 100000000
namespace Go.Proofs.GR.T
open Go Go.Proofs Go.Proofs.GR
def Sp.prevT (pre : List VTb) : ByteArray := (pre.getD (pre.length - 1) (ByteArray.mk #[], [], (0 : Int), [])).1
def Sp.okT (x : VTb) : Bool := Sp.tbOK x.1 x.2.1 x.2.2.1 x.2.2.2
def Sp.catP (pre : List VTb) (x : VTb) : Bool := bif !Sp.okT x then false else bif decide (0 < pre.length) then Sp.lessS (Sp.prevT pre) x.1 else true
def Sp.catOK (xs : List VTb) : Bool := bif decide ((xs.length : Int) > (4096 : Int)) then false else bif decide ((xs.length : Int) > (6 : Int)) then false else Sp.allP Sp.catP [] xs
theorem prevT_take {xs : List VTb} {k : Nat} (h : k < xs.length) (h0 : 0 < k) : Sp.prevT (xs.take k) = (xs.getD (k - 1) (ByteArray.mk #[], [], (0 : Int), [])).1 := by
  unfold Sp.prevT
  rw [List.length_take, Nat.min_eq_left (Nat.le_of_lt h), List.getD, List.getD, List.getElem?_take_of_lt (by omega)]
noncomputable def e140 : Ent := { f := n140, ins := [Sh.one (cL tTb)], outs := [Sh.one cB], upd := [], pre := fun _ => true, spec := fun a => Sp.catOK a, wrt := fun _ => () }
theorem e140_core (xs : List VTb) : ∃ n, abody Γ (orc [e173]) n n140 [ZX (Ty.slice tTb) xs] = some (rBo (Sp.catOK xs)) := by
  refine ⟨xs.length + 1, (f140_raw _ xs).trans ?_⟩
  unfold Sp.catOK
  cases decide ((xs.length : Int) > (4096 : Int)) with
  | true => rfl
  | false =>
  by_cases h6 : (xs.length : Int) > (6 : Int)
  · rw [decide_eq_true h6]; rfl
  rw [decide_eq_false h6, cond_false, cond_false, cond_false, cond_false]
  have L0 := allP_end (p := Sp.catP) (z := some (rBo true)) (F := some (rBo false)) xs (fun m k => f140_L0 (xs.length + 1) m xs k) (fun m k hk => by
    show f140_L0 _ _ _ _ = _
    rw [f140_L0_step, nat_ge hk, cond_false]) (fun m k h _ => by
    show f140_L0 _ _ _ _ = _
    have hk : (xs.take k).length = k := by rw [List.length_take]; omega
    rw [f140_L0_step, nat_lt h, cond_true, guard0, chkT, chkT, getD_nat xs k _ h, next64 h (by omega)]
    unfold Sp.catP
    rw [hk]
    show (bif !Sp.okT xs[k] then _ else _) = _
    cases Sp.okT xs[k] with
    | false => rfl
    | true =>
      rw [Bool.not_true, cond_false, cond_false]
      by_cases h0 : 0 < k
      · rw [decide_eq_true (show (k : Int) > 0 by omega), decide_eq_true h0, cond_true, cond_true, prevT_take h h0]
        have e : IntKind.i64.wrap ((k : Int) - 1) = ((k - 1 : Nat) : Int) := (wrap64 (by omega) (by omega)).trans (by omega)
        rw [e, guard2 (show k - 1 < xs.length by omega), chkT, Int.toNat_natCast]
        show (bif !Sp.lessS _ _ then _ else _) = _
        rfl
      · rw [decide_eq_false (show ¬ (k : Int) > 0 by omega), decide_eq_false h0]
        rfl) _ (Nat.lt_succ_self _)
  refine L0.trans ?_
  cases Sp.allP Sp.catP [] xs <;> rfl
theorem e140_ok : Valid PP Γ e140 := valid_of ok (vcons e173_ok vnil) fun a _ => e140_core a
end Go.Proofs.GR.T

set_option maxRecDepth 3000000
set_option maxHeartbeats 100000000
namespace Go.Proofs.GR.T
open Go Go.Proofs Go.Proofs.GR
def Sp.short (t : ByteArray) : Bool := Nat.ble t.size 1000000000000
abbrev rStr (t : ByteArray) : Res := Res.mk [ZX Ty.str t] []
end Go.Proofs.GR.T

set_option maxRecDepth 3000000
set_option maxHeartbeats 100000000
namespace Go.Proofs.GR.T
open Go Go.Proofs Go.Proofs.GR
end Go.Proofs.GR.T

set_option maxRecDepth 3000000
set_option maxHeartbeats 100000000
namespace Go.Proofs.GR.T
open Go Go.Proofs Go.Proofs.GR
end Go.Proofs.GR.T

set_option maxRecDepth 3000000
set_option maxHeartbeats 100000000
namespace Go.Proofs.GR.T
open Go Go.Proofs Go.Proofs.GR
end Go.Proofs.GR.T

set_option maxRecDepth 3000000
set_option maxHeartbeats 100000000
namespace Go.Proofs.GR.T
open Go Go.Proofs Go.Proofs.GR
end Go.Proofs.GR.T

set_option maxRecDepth 3000000
set_option maxHeartbeats 100000000
namespace Go.Proofs.GR.T
open Go Go.Proofs Go.Proofs.GR
end Go.Proofs.GR.T

set_option maxRecDepth 3000000
set_option maxHeartbeats 100000000
namespace Go.Proofs.GR.T
open Go Go.Proofs Go.Proofs.GR
end Go.Proofs.GR.T

namespace Go.Proofs.GR.T
open Go Go.Proofs Go.Proofs.GR
end Go.Proofs.GR.T

namespace Go.Proofs.GR.T
open Go Go.Proofs Go.Proofs.GR
end Go.Proofs.GR.T

namespace Go.Proofs.GR.T
open Go Go.Proofs Go.Proofs.GR
abbrev kSp : ByteArray := ByteArray.mk #[32]
abbrev kKey : ByteArray := ByteArray.mk #[107, 101, 121]
abbrev kIx : ByteArray := ByteArray.mk #[105, 110, 100, 101, 120, 32]
theorem s1 : kSp.size = 1 := rfl
theorem s3 : kKey.size = 3 := rfl
end Go.Proofs.GR.T

