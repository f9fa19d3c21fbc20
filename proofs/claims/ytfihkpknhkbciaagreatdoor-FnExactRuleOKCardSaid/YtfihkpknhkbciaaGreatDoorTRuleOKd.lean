/-
  No statement is proved here: what the functions of the law answer, told as plain functions, and that the law's answer is always true.
  No condition.
-/
import Derived.Test.YtfihkpknhkbciaaGreatDoorTRuleOKc
set_option maxRecDepth 3000000
set_option maxHeartbeats 100000000
namespace Go.Proofs.GR.T
open Go Go.Proofs Go.Proofs.GR
def Sp.ixP (n : Nat) (pre : List Int) (c : Int) : Bool := bif (Sp.f79 c (0 : Int) (IntKind.i64.wrap ((n : Int) - (1 : Int)))).1 then !Sp.anyW (Sp.eqN c) pre else false
def Sp.ixOK (n : Nat) (t : ByteArray) (cs : List Int) : Bool := bif !Sp.isFreeS t then false else bif (cs.length : Int) == (0 : Int) then false else bif decide ((cs.length : Int) > (n : Int)) then false else Sp.allP (Sp.ixP n) [] cs
theorem guardLe {k n : Nat} (h : k ≤ n) : (decide ((0 : Int) ≤ (k : Int)) && decide ((k : Int) ≤ (n : Int))) = true := by
  rw [decide_eq_true (show (0 : Int) ≤ k by omega), decide_eq_true (show (k : Int) ≤ n by omega)]; rfl
noncomputable def e196 : Ent := { f := n196, ins := [Sh.agg [C0.dat .str, C0.dat (.slice tCo), C0.dat (.int .i64), C0.dat (.slice tIx)], Sh.agg [C0.dat .str, C0.dat (.slice tIn)]], outs := [Sh.one cB], upd := [], pre := fun _ => true, spec := fun a => Sp.ixOK (List.length a.1.2.1) a.2.1 a.2.2, wrt := fun _ => () }
theorem e196_core (x0 : ByteArray) (x1 : List VCo) (x2 : Int) (x3 : List VIx) (x4 : ByteArray) (x5 : List Int) (hl : x5.length ≤ maxLen) : ∃ n, abody Γ (orc [e194, e79, e210]) n n196 [XV.mk true [ZC Ty.str x0, ZC (Ty.slice tCo) x1, ZC Zi x2, ZC (Ty.slice tIx) x3], XV.mk true [ZC Ty.str x4, ZC (Ty.slice tIn) x5]] = some (rBo (Sp.ixOK x1.length x4 x5)) := by
  have hl : x5.length ≤ 9223372036854775807 := hl
  refine ⟨x5.length + 1, (f196_raw _ x0 x1 x2 x3 x4 x5).trans ?_⟩
  unfold Sp.ixOK
  cases Sp.isFreeS x4 with
  | false => rfl
  | true =>
    rw [Bool.not_true, cond_false, cond_false]
    cases (x5.length : Int) == (0 : Int) with
    | true => rfl
    | false =>
      rw [cond_false, cond_false]
      cases decide ((x5.length : Int) > (x1.length : Int)) with
      | true => rfl
      | false =>
        rw [cond_false, cond_false]
        have := allP_end (p := Sp.ixP x1.length) (z := some (rBo true)) (F := some (rBo false)) x5 (fun m k => f196_L0 (x5.length + 1) m k x0 x1 x2 x3 x4 x5) (fun m k hk => by
          show f196_L0 _ _ _ _ _ _ _ _ _ = _
          rw [f196_L0_step, nat_ge hk, cond_false]) (fun m k h _ => by
          show f196_L0 _ _ _ _ _ _ _ _ _ = _
          rw [f196_L0_step, nat_lt h, cond_true, guard0, chkT, getD_nat x5 k _ h, guardLe (Nat.le_of_lt h), chkT, chkT, next64 h hl, Int.toNat_natCast, Nat.sub_zero, List.drop_zero]
          unfold Sp.ixP
          cases (Sp.f79 x5[k] (0 : Int) (IntKind.i64.wrap ((x1.length : Int) - (1 : Int)))).1 with
          | false => rfl
          | true => cases Sp.anyW (Sp.eqN x5[k]) (x5.take k) <;> rfl) _ (Nat.lt_succ_self _)
        refine this.trans ?_
        cases Sp.allP (Sp.ixP x1.length) [] x5 <;> rfl
theorem e196_ok : Valid PP Γ e196 := valid_len ok (vcons e194_ok (vcons e79_ok (vcons e210_ok vnil))) fun a _ hl => e196_core a.1.1 a.1.2.1 a.1.2.2.1 a.1.2.2.2 a.2.1 a.2.2 (hl _ (List.mem_cons_of_mem _ List.mem_cons_self) _ (List.mem_cons_of_mem _ List.mem_cons_self)).1
noncomputable def f173_L0 (n m0 : Nat) (y0 : Int) (y1 : ByteArray) (y2 : List (ByteArray × Int × Bool)) (y3 : Int) (y4 : List (ByteArray × List Int)) : Option Res := loopAt Γ (orc [e194, e79, e195, e196, e197]) n (117 : Nat) (0 : Nat) [] [Pth.r, Pth.r, Pth.l, Pth.r, Pth.b] m0 (St.mk (Zn :: Slot.val (Val.one (Cell.ptr (0 : Nat) (0 : Nat))) :: Zn :: ZS Zi y0 :: ZN 99 []) [AObj.box (109 : Nat) [Cell.dat Ty.str y1, Cell.dat (Ty.str.pair (Zi.pair Ty.bool)).slice y2, Cell.dat Zi y3, Cell.dat (Ty.str.pair Zi.slice).slice y4]])
noncomputable def f173_L1 (n m1 : Nat) (y0 : Int) (y1 : ByteArray) (y2 : List (ByteArray × Int × Bool)) (y3 : Int) (y4 : List (ByteArray × List Int)) : Option Res := loopAt Γ (orc [e194, e79, e195, e196, e197]) n (117 : Nat) (0 : Nat) [] [Pth.r, Pth.r, Pth.r, Pth.l, Pth.r, Pth.b] m1 (St.mk (Zn :: Slot.val (Val.one (Cell.ptr (0 : Nat) (0 : Nat))) :: ZN 3 (ZS Zi y0 :: ZN 97 [])) [AObj.box (109 : Nat) [Cell.dat Ty.str y1, Cell.dat (Ty.str.pair (Zi.pair Ty.bool)).slice y2, Cell.dat Zi y3, Cell.dat (Ty.str.pair Zi.slice).slice y4]])
theorem f173_L0_step (n m0 : Nat) (y0 : Int) (y1 : ByteArray) (y2 : List (ByteArray × Int × Bool)) (y3 : Int) (y4 : List (ByteArray × List Int)) : f173_L0 n (m0 + 1) y0 y1 y2 y3 y4 = bif decide (y0 < (↑y2.length : Int)) then chk (decide ((0 : Int) ≤ y0) && decide (y0 < (↑y2.length : Int))) (bif !Sp.isFreeS (y2.getD y0.toNat (ByteArray.mk #[], (0 : Int), false)).1 then Zf else bif !(Sp.f79 (y2.getD y0.toNat (ByteArray.mk #[], (0 : Int), false)).2.1 (1 : Int) (4 : Int)).1 then Zf else bif decide (y0 < y3) then bif (y2.getD y0.toNat (ByteArray.mk #[], (0 : Int), false)).2.2 then Zf else chk (decide ((0 : Int) ≤ y0) && decide (y0 ≤ (↑y2.length : Int))) (bif decide (Sp.idx (Sp.nmCo (y2.getD y0.toNat (ByteArray.mk #[], (0 : Int), false)).1) (List.take (y0.toNat - (0 : Nat)) (List.drop (0 : Nat) y2)) (0 : Int) ≥ (0 : Int)) then Zf else f173_L0 n m0 (IntKind.i64.wrap (y0 + (1 : Int))) y1 y2 y3 y4) else chk (decide ((0 : Int) ≤ y0) && decide (y0 ≤ (↑y2.length : Int))) (bif decide (Sp.idx (Sp.nmCo (y2.getD y0.toNat (ByteArray.mk #[], (0 : Int), false)).1) (List.take (y0.toNat - (0 : Nat)) (List.drop (0 : Nat) y2)) (0 : Int) ≥ (0 : Int)) then Zf else f173_L0 n m0 (IntKind.i64.wrap (y0 + (1 : Int))) y1 y2 y3 y4)) else f173_L1 n n (0 : Int) y1 y2 y3 y4 := by kernel_rfl
theorem f173_L1_step (n m1 : Nat) (y0 : Int) (y1 : ByteArray) (y2 : List (ByteArray × Int × Bool)) (y3 : Int) (y4 : List (ByteArray × List Int)) : f173_L1 n (m1 + 1) y0 y1 y2 y3 y4 = bif decide (y0 < (↑y4.length : Int)) then chk (decide ((0 : Int) ≤ y0) && decide (y0 < (↑y4.length : Int))) (bif !Sp.ixOK y2.length (y4.getD y0.toNat (ByteArray.mk #[], [])).1 (y4.getD y0.toNat (ByteArray.mk #[], [])).2 then Zf else chk (decide ((0 : Int) ≤ y0) && decide (y0 ≤ (↑y4.length : Int))) (chk (decide ((0 : Int) ≤ y0) && decide (y0 < (↑y4.length : Int))) (bif decide (Sp.idx (Sp.nmIx (y4.getD y0.toNat (ByteArray.mk #[], [])).1) (List.take (y0.toNat - (0 : Nat)) (List.drop (0 : Nat) y4)) (0 : Int) ≥ (0 : Int)) then Zf else f173_L1 n m1 (IntKind.i64.wrap (y0 + (1 : Int))) y1 y2 y3 y4))) else Zt := by kernel_rfl
theorem f173_raw (n : Nat) (x0 : ByteArray) (x1 : List (ByteArray × Int × Bool)) (x2 : Int) (x3 : List (ByteArray × List Int)) : abody Γ (orc [e194, e79, e195, e196, e197]) n 117 [XV.mk true [ZC Ty.str x0, ZC (Ty.str.pair (Zi.pair Ty.bool)).slice x1, ZC Zi x2, ZC (Ty.str.pair Zi.slice).slice x3]] = bif !Sp.isFreeS x0 then Zf else bif !(Sp.f79 (↑x1.length : Int) (1 : Int) (8 : Int)).1 then Zf else bif !(Sp.f79 x2 (1 : Int) (↑x1.length : Int)).1 then Zf else bif decide ((↑x3.length : Int) > (4 : Int)) then Zf else f173_L0 n n (0 : Int) x0 x1 x2 x3 := by kernel_rfl

end Go.Proofs.GR.T

