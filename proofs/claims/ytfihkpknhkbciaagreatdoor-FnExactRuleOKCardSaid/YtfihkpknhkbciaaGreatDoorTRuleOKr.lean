/-
  No statement is proved here: what the functions of the law answer, told as plain functions, and that the law's answer is always true.
  No condition.
-/
import Derived.Test.YtfihkpknhkbciaaGreatDoorTRuleOKq
set_option maxRecDepth 3000000
set_option maxHeartbeats 100000000
namespace Go.Proofs.GR.T
open Go Go.Proofs Go.Proofs.GR
def Sp.kid (l : List RT) (i : Nat) : RT := l.getD i ZR
def Sp.tyK (E : VTy) (l : List RT) (i : Nat) (g : Bool) (s : SC) : Int × SC := Sp.tyS E (Sp.mkT (Sp.unT (Sp.kid l i))) g s
def Sp.kidT (N : Nat) (l : List RT) (i : Nat) : Bool := Sp.arT (Sp.mkT (Sp.unT (Sp.kid l i))) && (Sp.rsz1 (Sp.kid l i).kids).blt N
end Go.Proofs.GR.T

set_option maxRecDepth 3000000
set_option maxHeartbeats 100000000
namespace Go.Proofs.GR.T
open Go Go.Proofs Go.Proofs.GR
noncomputable def f1464_L0 (n m0 : Nat) (y0 : List (ByteArray × ByteArray × Int)) (y1 : Int) : Option Res := loopAt Γ (orc [e194, e79]) n (181 : Nat) (0 : Nat) [] [Pth.r, Pth.r, Pth.l, Pth.r, Pth.b] m0 (St.mk (ZS ZF.slice y0 :: Zn :: Zn :: ZS Zi y1 :: ZN 42 []) [])
theorem f1464_L0_step (n m0 : Nat) (y0 : List (ByteArray × ByteArray × Int)) (y1 : Int) : f1464_L0 n (m0 + 1) y0 y1 = bif decide (y1 < (↑y0.length : Int)) then chk (decide ((0 : Int) ≤ y1) && decide (y1 < (↑y0.length : Int))) (bif !Sp.isFreeS (y0.getD y1.toNat (ByteArray.mk #[], ByteArray.mk #[], (0 : Int))).2.1 then Zf else chk (decide ((0 : Int) ≤ y1) && decide (y1 < (↑y0.length : Int))) (bif !(y0.getD y1.toNat (ByteArray.mk #[], ByteArray.mk #[], (0 : Int))).1.toList == (ByteArray.mk #[]).toList then chk (decide ((0 : Int) ≤ y1) && decide (y1 < (↑y0.length : Int))) (bif !Sp.isFreeS (y0.getD y1.toNat (ByteArray.mk #[], ByteArray.mk #[], (0 : Int))).1 then Zf else chk (decide ((0 : Int) ≤ y1) && decide (y1 < (↑y0.length : Int))) (bif !(Sp.f79 (y0.getD y1.toNat (ByteArray.mk #[], ByteArray.mk #[], (0 : Int))).2.2 (0 : Int) (4 : Int)).1 then Zf else f1464_L0 n m0 y0 (IntKind.i64.wrap (y1 + (1 : Int))))) else chk (decide ((0 : Int) ≤ y1) && decide (y1 < (↑y0.length : Int))) (bif !(Sp.f79 (y0.getD y1.toNat (ByteArray.mk #[], ByteArray.mk #[], (0 : Int))).2.2 (0 : Int) (4 : Int)).1 then Zf else f1464_L0 n m0 y0 (IntKind.i64.wrap (y1 + (1 : Int)))))) else Zt := by kernel_rfl
theorem f1464_raw (n : Nat) (x0 : List (ByteArray × ByteArray × Int)) : abody Γ (orc [e194, e79]) n 181 [ZX ZF.slice x0] = bif decide ((↑x0.length : Int) > (16 : Int)) then Zf else f1464_L0 n n x0 (0 : Int) := by kernel_rfl

def Sp.scS (f : VF) : Bool := bif Sp.isFreeS f.2.1 then (bif f.1.toList == (ByteArray.mk #[]).toList then (Sp.f79 f.2.2 0 4).1 else bif Sp.isFreeS f.1 then (Sp.f79 f.2.2 0 4).1 else false) else false
def Sp.scFS (xs : List VF) : Bool := bif decide ((xs.length : Int) > 16) then false else Sp.allW Sp.scS xs
noncomputable def e1464 : Ent := { f := n1464, ins := [Sh.one (cL tF)], outs := [Sh.one cB], upd := [], pre := fun _ => true, spec := fun a => Sp.scFS a, wrt := fun _ => () }
theorem e1464_core (xs : List VF) (hl : xs.length ≤ maxLen) : ∃ n, abody Γ (orc [e194, e79]) n n1464 [ZX (Ty.slice tF) xs] = some (rBo (Sp.scFS xs)) := by
  have hl : xs.length ≤ 9223372036854775807 := hl
  refine ⟨xs.length + 1, (f1464_raw _ xs).trans ?_⟩
  unfold Sp.scFS
  cases decide ((xs.length : Int) > 16) with
  | true => rfl
  | false =>
    rw [cond_false, cond_false]
    have := all_loop (p := Sp.scS) (R := rBo) xs (fun m k => f1464_L0 (xs.length + 1) m xs k) (fun m k hk => by
      show f1464_L0 _ _ _ _ = _
      rw [f1464_L0_step, nat_ge hk, cond_false]) (fun m k h => by
      show f1464_L0 _ _ _ _ = _
      rw [f1464_L0_step, nat_lt h, cond_true, guard0, chkT, chkT, chkT, chkT, getD_nat xs k _ h, next64 h hl]
      unfold Sp.scS
      cases Sp.isFreeS xs[k].2.1 <;> cases xs[k].1.toList == (ByteArray.mk #[]).toList <;> cases Sp.isFreeS xs[k].1 <;> cases (Sp.f79 xs[k].2.2 0 4).1 <;> rfl) xs.length 0 (xs.length + 1) (Nat.zero_add _) (Nat.lt_succ_self _)
    rw [List.drop_zero] at this
    exact this
theorem e1464_ok : Valid PP Γ e1464 := valid_len ok (vcons e194_ok (vcons e79_ok vnil)) fun a _ hl => e1464_core a (hl _ (List.mem_cons_self) _ (List.mem_cons_self)).1
noncomputable def e1441 : Ent := { f := n1441, ins := [Sh.agg aT], outs := [Sh.one cB], upd := [], pre := fun a => true, spec := fun a => Sp.aggT (Sp.mkT a), wrt := fun _ => () }
noncomputable def e1441n (N : Nat) : Ent := e1441.below (fun a => Sp.rsz1 a.2.2.2.2.2.2.2) N
noncomputable def f1441_L0 (n N m0 : Nat) (y0 y1 y2 : Int) (y3 y4 : ByteArray) (y5 y6 : Int) (y7 : ByteArray) (y8 : List ZT) : Option Res := loopAt Γ (orc [e1441n N]) n (121 : Nat) (0 : Nat) [] [Pth.r, Pth.r, Pth.l, Pth.r, Pth.b] m0 (St.mk (Zn :: Slot.val (Val.one (Cell.ptr (0 : Nat) (0 : Nat))) :: Zn :: ZS Zi y0 :: ZN 16 []) [AObj.box (58 : Nat) [Cell.dat Zi y1, Cell.dat Zi y2, Cell.dat Ty.str y3, Cell.dat Ty.str y4, Cell.dat Zi y5, Cell.dat Zi y6, Cell.dat Ty.str y7, Cell.dat ZA.rose.slice y8]])
theorem f1441_L0_step (n N m0 : Nat) (y0 y1 y2 : Int) (y3 y4 : ByteArray) (y5 y6 : Int) (y7 : ByteArray) (y8 : List ZT) : f1441_L0 n N (m0 + 1) y0 y1 y2 y3 y4 y5 y6 y7 y8 = bif decide (y0 < (↑y8.length : Int)) then chk (decide ((0 : Int) ≤ y0) && decide (y0 < (↑y8.length : Int))) (chk ((Sp.rsz1 (y8.getD y0.toNat ZR).kids).blt N) (bif Sp.aggT (Sp.mkT ((y8.getD y0.toNat ZR).a.1, (y8.getD y0.toNat ZR).a.2.1, (y8.getD y0.toNat ZR).a.2.2.1, (y8.getD y0.toNat ZR).a.2.2.2.1, (y8.getD y0.toNat ZR).a.2.2.2.2.1, (y8.getD y0.toNat ZR).a.2.2.2.2.2.1, (y8.getD y0.toNat ZR).a.2.2.2.2.2.2, (y8.getD y0.toNat ZR).kids)) then Zt else f1441_L0 n N m0 (IntKind.i64.wrap (y0 + (1 : Int))) y1 y2 y3 y4 y5 y6 y7 y8)) else Zf := by kernel_rfl
theorem f1441_raw (n N : Nat) (x0 x1 : Int) (x2 x3 : ByteArray) (x4 x5 : Int) (x6 : ByteArray) (x7 : List ZT) : abody Γ (orc [e1441n N]) n 121 [XV.mk true [ZC Zi x0, ZC Zi x1, ZC Ty.str x2, ZC Ty.str x3, ZC Zi x4, ZC Zi x5, ZC Ty.str x6, ZC ZA.rose.slice x7]] = bif x0 == (17 : Int) then Zt else f1441_L0 n N n (0 : Int) x0 x1 x2 x3 x4 x5 x6 x7 := by kernel_rfl

noncomputable abbrev recAh : List REnt := [⟨e1441, fun a => Sp.rsz1 a.2.2.2.2.2.2.2⟩]
theorem e1441_core (x0 x1 : Int) (x2 x3 : ByteArray) (x4 x5 : Int) (x6 : ByteArray) (x7 : List RT) (hl : x7.length ≤ maxLen) : ∃ n, abody Γ (orc (belows (Sp.rsz1 x7) recAh ++ [])) n n1441 (e1441.args (x0, x1, x2, x3, x4, x5, x6, x7)) = some (rBo (Sp.aggT (Sp.mkT (x0, x1, x2, x3, x4, x5, x6, x7)))) := by
  have hl : x7.length ≤ 9223372036854775807 := hl
  refine ⟨x7.length + 1, (f1441_raw _ _ x0 x1 x2 x3 x4 x5 x6 x7).trans ?_⟩
  have e : Sp.aggT (Rose.mk (x0, x1, x2, x3, x4, x5, x6) x7) = bif x0 == 17 then true else Sp.aggTs x7 := by rw [Sp.aggT]
  refine Eq.trans ?_ (congrArg (fun z => some (rBo z)) e.symm)
  cases x0 == 17 with
  | true => rfl
  | false =>
    rw [cond_false, cond_false, ← aggTs_any]
    refine any_loop (p := Sp.aggT) (R := rBo) x7 (fun m k => f1441_L0 (x7.length + 1) (Sp.rsz1 x7) m k x0 x1 x2 x3 x4 x5 x6 x7) (fun m k hk => ?_) (fun m k h => ?_) x7.length 0 _ (Nat.zero_add _) (Nat.lt_succ_self _)
    · show f1441_L0 _ _ _ _ _ _ _ _ _ _ _ _ = _
      rw [f1441_L0_step, nat_ge hk, cond_false]
    · show f1441_L0 _ _ _ _ _ _ _ _ _ _ _ _ = _
      have hN : (Sp.rsz1 x7[k].kids).blt (Sp.rsz1 x7) = true := blt_mk (by have := rsz1_mem (List.getElem_mem h); unfold Sp.rsz1 at this ⊢; omega)
      rw [f1441_L0_step, nat_lt h, cond_true, guard0, chkT, getD_nat x7 k _ h, next64 h hl, hN, chkT, mkT_flds]
theorem recAh_ok : ∀ r ∈ recAh, Valid PP Γ r.e :=
  valid_recs ok _ (rcons ⟨[], vnil, fun a _ hl => e1441_core a.1 a.2.1 a.2.2.1 a.2.2.2.1 a.2.2.2.2.1 a.2.2.2.2.2.1 a.2.2.2.2.2.2.1 a.2.2.2.2.2.2.2 (hl _ (List.mem_cons_self) _ (List.mem_cons_of_mem _ (List.mem_cons_of_mem _ (List.mem_cons_of_mem _ (List.mem_cons_of_mem _ (List.mem_cons_of_mem _ (List.mem_cons_of_mem _ (List.mem_cons_of_mem _ List.mem_cons_self)))))))).1⟩ rnil)
theorem e1441_ok : Valid PP Γ e1441 := recAh_ok _ (List.mem_cons_self)
end Go.Proofs.GR.T

