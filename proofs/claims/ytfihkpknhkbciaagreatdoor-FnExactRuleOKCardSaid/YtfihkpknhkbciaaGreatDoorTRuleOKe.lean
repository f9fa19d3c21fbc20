/-
  No statement is proved here: what the functions of the law answer, told as plain functions, and that the law's answer is always true.
  No condition.
-/
import Derived.Test.YtfihkpknhkbciaaGreatDoorTRuleOKd
set_option maxRecDepth 3000000
set_option maxHeartbeats 100000000
namespace Go.Proofs.GR.T
open Go Go.Proofs Go.Proofs.GR
def Sp.coP (key : Int) (pre : List VCo) (c : VCo) : Bool := bif !Sp.isFreeS c.1 then false else bif !(Sp.f79 c.2.1 (1 : Int) (4 : Int)).1 then false else bif (bif decide ((pre.length : Int) < key) then c.2.2 else false) then false else !Sp.anyW (Sp.nmCo c.1) pre
def Sp.inP (n : Nat) (pre : List VIx) (x : VIx) : Bool := bif !Sp.ixOK n x.1 x.2 then false else !Sp.anyW (Sp.nmIx x.1) pre
def Sp.tbOK (x0 : ByteArray) (x1 : List VCo) (x2 : Int) (x3 : List VIx) : Bool := bif !Sp.isFreeS x0 then false else bif !(Sp.f79 (x1.length : Int) (1 : Int) (8 : Int)).1 then false else bif !(Sp.f79 x2 (1 : Int) (x1.length : Int)).1 then false else bif decide ((x3.length : Int) > (4 : Int)) then false else bif Sp.allP (Sp.coP x2) [] x1 then Sp.allP (Sp.inP x1.length) [] x3 else false
abbrev shTb : Sh := Sh.agg [C0.dat .str, C0.dat (.slice tCo), C0.dat (.int .i64), C0.dat (.slice tIx)]
noncomputable def e173 : Ent := { f := n173, ins := [shTb], outs := [Sh.one cB], upd := [], pre := fun _ => true, spec := fun a => Sp.tbOK a.1 a.2.1 a.2.2.1 a.2.2.2, wrt := fun _ => () }
theorem e173_core (x0 : ByteArray) (x1 : List VCo) (x2 : Int) (x3 : List VIx) (h1 : x1.length ≤ maxLen) (h3 : x3.length ≤ maxLen) : ∃ n, abody Γ (orc [e194, e79, e195, e196, e197]) n n173 [XV.mk true [ZC Ty.str x0, ZC (Ty.slice tCo) x1, ZC Zi x2, ZC (Ty.slice tIx) x3]] = some (rBo (Sp.tbOK x0 x1 x2 x3)) := by
  have h1 : x1.length ≤ 9223372036854775807 := h1
  have h3 : x3.length ≤ 9223372036854775807 := h3
  refine ⟨x1.length + x3.length + 1, (f173_raw _ x0 x1 x2 x3).trans ?_⟩
  unfold Sp.tbOK
  cases Sp.isFreeS x0 with
  | false => rfl
  | true =>
  cases (Sp.f79 (x1.length : Int) (1 : Int) (8 : Int)).1 with
  | false => rfl
  | true =>
  cases (Sp.f79 x2 (1 : Int) (x1.length : Int)).1 with
  | false => rfl
  | true =>
  cases decide ((x3.length : Int) > (4 : Int)) with
  | true => rfl
  | false =>
    rw [Bool.not_true, cond_false, cond_false, cond_false, cond_false, cond_false, cond_false, cond_false, cond_false]
    have L1 := allP_end (p := Sp.inP x1.length) (z := some (rBo true)) (F := some (rBo false)) x3 (fun m k => f173_L1 (x1.length + x3.length + 1) m k x0 x1 x2 x3) (fun m k hk => by
      show f173_L1 _ _ _ _ _ _ _ = _
      rw [f173_L1_step, nat_ge hk, cond_false]) (fun m k h _ => by
      show f173_L1 _ _ _ _ _ _ _ = _
      rw [f173_L1_step, nat_lt h, cond_true, guard0, chkT, chkT, getD_nat x3 k _ h, guardLe (Nat.le_of_lt h), chkT, next64 h h3, Int.toNat_natCast, Nat.sub_zero, List.drop_zero, idx_any _ _ _ (Int.le_refl 0)]
      unfold Sp.inP
      cases Sp.ixOK x1.length x3[k].1 x3[k].2 with
      | false => rfl
      | true => cases Sp.anyW (Sp.nmIx x3[k].1) (x3.take k) <;> rfl) (x1.length + x3.length + 1) (by omega)
    have L0 := allP_end (p := Sp.coP x2) (z := f173_L1 (x1.length + x3.length + 1) (x1.length + x3.length + 1) 0 x0 x1 x2 x3) (F := some (rBo false)) x1 (fun m k => f173_L0 (x1.length + x3.length + 1) m k x0 x1 x2 x3) (fun m k hk => by
      show f173_L0 _ _ _ _ _ _ _ = _
      rw [f173_L0_step, nat_ge hk, cond_false]) (fun m k h _ => by
      show f173_L0 _ _ _ _ _ _ _ = _
      have hk : (x1.take k).length = k := by rw [List.length_take]; omega
      rw [f173_L0_step, nat_lt h, cond_true, guard0, chkT, getD_nat x1 k _ h, guardLe (Nat.le_of_lt h), chkT, next64 h h1, Int.toNat_natCast, Nat.sub_zero, List.drop_zero, idx_any _ _ _ (Int.le_refl 0)]
      unfold Sp.coP
      rw [hk]
      cases Sp.isFreeS x1[k].1 with
      | false => rfl
      | true =>
        cases (Sp.f79 x1[k].2.1 (1 : Int) (4 : Int)).1 with
        | false => rfl
        | true => cases decide ((k : Int) < x2) <;> cases x1[k].2.2 <;> cases Sp.anyW (Sp.nmCo x1[k].1) (x1.take k) <;> rfl) (x1.length + x3.length + 1) (by omega)
    refine L0.trans ?_
    rw [show f173_L1 (x1.length + x3.length + 1) (x1.length + x3.length + 1) 0 x0 x1 x2 x3 = _ from L1]
    cases Sp.allP (Sp.coP x2) [] x1 with
    | false => rfl
    | true => cases Sp.allP (Sp.inP x1.length) [] x3 <;> rfl
theorem e173_ok : Valid PP Γ e173 := valid_len ok (vcons e194_ok (vcons e79_ok (vcons e195_ok (vcons e196_ok (vcons e197_ok vnil))))) fun a _ hl => e173_core a.1 a.2.1 a.2.2.1 a.2.2.2 (hl _ (List.mem_cons_self) _ (List.mem_cons_of_mem _ List.mem_cons_self)).1 (hl _ (List.mem_cons_self) _ (List.mem_cons_of_mem _ (List.mem_cons_of_mem _ (List.mem_cons_of_mem _ List.mem_cons_self)))).1
noncomputable def f140_L0 (n m0 : Nat) (y0 : List (ByteArray × List (ByteArray × Int × Bool) × Int × List (ByteArray × List Int))) (y1 : Int) : Option Res := loopAt Γ (orc [e173]) n (66 : Nat) (0 : Nat) [] [Pth.r, Pth.r, Pth.r, Pth.l, Pth.r, Pth.b] m0 (St.mk (ZS (Ty.str.pair ((Ty.str.pair (Zi.pair Ty.bool)).slice.pair (Zi.pair (Ty.str.pair Zi.slice).slice))).slice y0 :: Zn :: Zn :: ZS Zi y1 :: ZN 36 []) [])
theorem f140_L0_step (n m0 : Nat) (y0 : List (ByteArray × List (ByteArray × Int × Bool) × Int × List (ByteArray × List Int))) (y1 : Int) : f140_L0 n (m0 + 1) y0 y1 = bif decide (y1 < (↑y0.length : Int)) then chk (decide ((0 : Int) ≤ y1) && decide (y1 < (↑y0.length : Int))) (bif !Sp.tbOK (y0.getD y1.toNat (ByteArray.mk #[], [], (0 : Int), [])).1 (y0.getD y1.toNat (ByteArray.mk #[], [], (0 : Int), [])).2.1 (y0.getD y1.toNat (ByteArray.mk #[], [], (0 : Int), [])).2.2.1 (y0.getD y1.toNat (ByteArray.mk #[], [], (0 : Int), [])).2.2.2 then Zf else bif decide (y1 > (0 : Int)) then chk (decide ((0 : Int) ≤ IntKind.i64.wrap (y1 - (1 : Int))) && decide (IntKind.i64.wrap (y1 - (1 : Int)) < (↑y0.length : Int))) (chk (decide ((0 : Int) ≤ y1) && decide (y1 < (↑y0.length : Int))) (bif !Op.bytesLess (y0.getD (IntKind.i64.wrap (y1 - (1 : Int))).toNat (ByteArray.mk #[], [], (0 : Int), [])).1.toList (y0.getD y1.toNat (ByteArray.mk #[], [], (0 : Int), [])).1.toList then Zf else f140_L0 n m0 y0 (IntKind.i64.wrap (y1 + (1 : Int))))) else f140_L0 n m0 y0 (IntKind.i64.wrap (y1 + (1 : Int)))) else Zt := by kernel_rfl
theorem f140_raw (n : Nat) (x0 : List (ByteArray × List (ByteArray × Int × Bool) × Int × List (ByteArray × List Int))) : abody Γ (orc [e173]) n 66 [ZX (Ty.str.pair ((Ty.str.pair (Zi.pair Ty.bool)).slice.pair (Zi.pair (Ty.str.pair Zi.slice).slice))).slice x0] = bif decide ((↑x0.length : Int) > (4096 : Int)) then Zf else bif decide ((↑x0.length : Int) > (6 : Int)) then Zf else f140_L0 n n x0 (0 : Int) := by kernel_rfl

end Go.Proofs.GR.T

