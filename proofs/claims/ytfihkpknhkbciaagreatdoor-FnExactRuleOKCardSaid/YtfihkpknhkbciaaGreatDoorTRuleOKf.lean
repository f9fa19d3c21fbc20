/-
  No statement is proved here: what the functions of the law answer, told as plain functions, and that the law's answer is always true.
  No condition.
-/
import Derived.Test.YtfihkpknhkbciaaGreatDoorTRuleOKe
set_option maxRecDepth 3000000
set_option maxHeartbeats 100000000
namespace Go.Proofs.GR.T
open Go Go.Proofs Go.Proofs.GR
def Sp.prevT (pre : List VTb) : ByteArray := (pre.getD (pre.length - 1) (ByteArray.mk #[], [], (0 : Int), [])).1
def Sp.okT (x : VTb) : Bool := Sp.tbOK x.1 x.2.1 x.2.2.1 x.2.2.2
def Sp.catP (pre : List VTb) (x : VTb) : Bool := bif !Sp.okT x then false else bif decide (0 < pre.length) then Sp.lessS (Sp.prevT pre) x.1 else true
def Sp.catOK (xs : List VTb) : Bool := bif decide ((xs.length : Int) > (4096 : Int)) then false else bif decide ((xs.length : Int) > (6 : Int)) then false else Sp.allP Sp.catP [] xs
theorem prevT_take {xs : List VTb} {k : Nat} (h : k < xs.length) (h0 : 0 < k) : Sp.prevT (xs.take k) = (xs.getD (k - 1) (ByteArray.mk #[], [], (0 : Int), [])).1 := by
  unfold Sp.prevT
  rw [List.length_take, Nat.min_eq_left (Nat.le_of_lt h), List.getD, List.getD, List.getElem?_take_of_lt (by omega)]
noncomputable def e140 : Ent := { f := n140, ins := [Sh.one (cL tTb)], outs := [Sh.one cB], upd := [], pre := fun _ => true, spec := fun a => Sp.catOK a, wrt := fun _ => () }
theorem e140_core (xs : List VTb) : ∃ n, abody Γ (orc [e173]) n n140 [ZX (Ty.slice tTb) xs] = some (rBo (Sp.catOK xs)) := by
  refine ⟨xs.length + 1, (f140_raw _ xs).trans ?_⟩
  unfold Sp.catOK
  cases decide ((xs.length : Int) > (4096 : Int)) with
  | true => rfl
  | false =>
  by_cases h6 : (xs.length : Int) > (6 : Int)
  · rw [decide_eq_true h6]; rfl
  rw [decide_eq_false h6, cond_false, cond_false, cond_false, cond_false]
  have L0 := allP_end (p := Sp.catP) (z := some (rBo true)) (F := some (rBo false)) xs (fun m k => f140_L0 (xs.length + 1) m xs k) (fun m k hk => by
    show f140_L0 _ _ _ _ = _
    rw [f140_L0_step, nat_ge hk, cond_false]) (fun m k h _ => by
    show f140_L0 _ _ _ _ = _
    have hk : (xs.take k).length = k := by rw [List.length_take]; omega
    rw [f140_L0_step, nat_lt h, cond_true, guard0, chkT, chkT, getD_nat xs k _ h, next64 h (by omega)]
    unfold Sp.catP
    rw [hk]
    show (bif !Sp.okT xs[k] then _ else _) = _
    cases Sp.okT xs[k] with
    | false => rfl
    | true =>
      rw [Bool.not_true, cond_false, cond_false]
      by_cases h0 : 0 < k
      · rw [decide_eq_true (show (k : Int) > 0 by omega), decide_eq_true h0, cond_true, cond_true, prevT_take h h0]
        have e : IntKind.i64.wrap ((k : Int) - 1) = ((k - 1 : Nat) : Int) := (wrap64 (by omega) (by omega)).trans (by omega)
        rw [e, guard2 (show k - 1 < xs.length by omega), chkT, Int.toNat_natCast]
        show (bif !Sp.lessS _ _ then _ else _) = _
        rfl
      · rw [decide_eq_false (show ¬ (k : Int) > 0 by omega), decide_eq_false h0]
        rfl) _ (Nat.lt_succ_self _)
  refine L0.trans ?_
  cases Sp.allP Sp.catP [] xs <;> rfl
theorem e140_ok : Valid PP Γ e140 := valid_of ok (vcons e173_ok vnil) fun a _ => e140_core a
end Go.Proofs.GR.T

set_option maxRecDepth 3000000
set_option maxHeartbeats 100000000
namespace Go.Proofs.GR.T
open Go Go.Proofs Go.Proofs.GR
def Sp.short (t : ByteArray) : Bool := Nat.ble t.size 1000000000000
end Go.Proofs.GR.T

