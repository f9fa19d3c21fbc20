/-
  No statement is proved here: what the functions of the law answer, told as plain functions, and that the law's answer is always true.
  No condition.
-/
import Derived.Test.YtfihkpknhkbciaaGreatDoorTRuleOKr
set_option maxRecDepth 3000000
set_option maxHeartbeats 100000000
namespace Go.Proofs.GR.T
open Go Go.Proofs Go.Proofs.GR
theorem tyK0 (E : VTy) (r : RT) (l : List RT) (g : Bool) (s : SC) : Sp.tyK E (r :: l) 0 g s = Sp.tyS E r g s := by
  unfold Sp.tyK
  rw [show Sp.kid (r :: l) 0 = r from rfl, mkT_un]
theorem tyK1 (E : VTy) (r q : RT) (l : List RT) (g : Bool) (s : SC) : Sp.tyK E (r :: q :: l) 1 g s = Sp.tyS E q g s := by
  unfold Sp.tyK
  rw [show Sp.kid (r :: q :: l) 1 = q from rfl, mkT_un]
theorem kidT0 {r : RT} {l : List RT} (h : Sp.arTs (r :: l) = true) : Sp.kidT (Sp.rsz1 (r :: l)) (r :: l) 0 = true := by
  unfold Sp.kidT
  have hm : Sp.rsz1 r.kids < Sp.rszs (r :: l) := rsz1_mem (List.mem_cons_self)
  rw [show Sp.kid (r :: l) 0 = r from rfl, mkT_un, blt_mk (show Sp.rsz1 r.kids < Sp.rsz1 (r :: l) by unfold Sp.rsz1 at hm ⊢; omega), Bool.and_true]
  rw [Sp.arTs] at h
  cases hr : Sp.arT r with
  | true => rfl
  | false => rw [hr] at h; cases h
theorem kidT1 {r q : RT} {l : List RT} (h : Sp.arTs (r :: q :: l) = true) : Sp.kidT (Sp.rsz1 (r :: q :: l)) (r :: q :: l) 1 = true := by
  unfold Sp.kidT
  have hm : Sp.rsz1 q.kids < Sp.rszs (r :: q :: l) := rsz1_mem (List.mem_cons_of_mem _ (List.mem_cons_self))
  rw [show Sp.kid (r :: q :: l) 1 = q from rfl, mkT_un, blt_mk (show Sp.rsz1 q.kids < Sp.rsz1 (r :: q :: l) by unfold Sp.rsz1 at hm ⊢; omega), Bool.and_true]
  rw [Sp.arTs, Sp.arTs] at h
  cases hr : Sp.arT r with
  | false => rw [hr] at h; cases h
  | true =>
    rw [hr, cond_true] at h
    cases hq : Sp.arT q with
    | true => rfl
    | false => rw [hq] at h; cases h
theorem lenC_pos {α : Type} (r : α) (l : List α) : decide ((0 : Int) < ((r :: l).length : Int)) = true := decide_eq_true (by rw [List.length_cons]; omega)
theorem lenC_one {α : Type} (r q : α) (l : List α) : decide ((1 : Int) < ((r :: q :: l).length : Int)) = true := decide_eq_true (by rw [List.length_cons, List.length_cons]; omega)
theorem lenC_ne {α : Type} (r : α) (l : List α) : (((r :: l).length : Int) == 0) = false := beq_false_of_ne (by rw [List.length_cons]; omega)
end Go.Proofs.GR.T

set_option maxRecDepth 3000000
set_option maxHeartbeats 100000000
namespace Go.Proofs.GR.T
open Go Go.Proofs Go.Proofs.GR
abbrev cTz : List C0 := [cL tF, C0.nilS, cB, cI, cI, cI]
abbrev bTz : Sh := Sh.box t1430 cTz
def Sp.f1487y (x0 : List (ByteArray × ByteArray × Int)) (x1 : Bool) (x2 x3 x4 x5 x6 : Int) := (bif x3 == (0 : Int) then ((), x0, (), x1, x2, x5, x6) else ((), x0, (), x1, x2, x3, x4))
noncomputable def e1487y : Ent := { f := 240, ins := [Sh.box (241 : Nat) [C0.dat ZF.slice, C0.nilS, C0.dat Ty.bool, C0.dat Zi, C0.dat Zi, C0.dat Zi], Sh.one ZI, Sh.one ZI], outs := [], upd := [Sh.box (241 : Nat) [C0.dat ZF.slice, C0.nilS, C0.dat Ty.bool, C0.dat Zi, C0.dat Zi, C0.dat Zi]], pre := fun a => true, spec := fun a => (Sp.f1487y a.1.1 a.1.2.2.1 a.1.2.2.2.1 a.1.2.2.2.2.1 a.1.2.2.2.2.2 a.2.1 a.2.2).1, wrt := fun a => (Sp.f1487y a.1.1 a.1.2.2.1 a.1.2.2.2.1 a.1.2.2.2.2.1 a.1.2.2.2.2.2 a.2.1 a.2.2).2 }
def f1487y_g (v : denS [] × denS [Sh.box (241 : Nat) [C0.dat ZF.slice, C0.nilS, C0.dat Ty.bool, C0.dat Zi, C0.dat Zi, C0.dat Zi]]) : Res := ⟨mkS [] v.1, mkU [Sh.box (241 : Nat) [C0.dat ZF.slice, C0.nilS, C0.dat Ty.bool, C0.dat Zi, C0.dat Zi, C0.dat Zi]] v.2⟩
theorem f1487y_form (x0 : List (ByteArray × ByteArray × Int)) (x1 : Bool) (x2 x3 x4 x5 x6 : Int) : abody Γ (orc []) 0 240 [XV.mk false [X.box (241 : Nat) [X0.dat ZF.slice x0, X0.nilS, X0.dat Ty.bool x1, X0.dat Zi x2, X0.dat Zi x3, X0.dat Zi x4]], ZX Zi x5, ZX Zi x6] = some (f1487y_g (Sp.f1487y x0 x1 x2 x3 x4 x5 x6)) := by
  refine Eq.trans (b := bif x3 == (0 : Int) then some (Res.mk [] [X.box (241 : Nat) [X0.dat ZF.slice x0, X0.nilS, X0.dat Ty.bool x1, X0.dat Zi x2, X0.dat Zi x5, X0.dat Zi x6]]) else some (Res.mk [] [X.box (241 : Nat) [X0.dat ZF.slice x0, X0.nilS, X0.dat Ty.bool x1, X0.dat Zi x2, X0.dat Zi x3, X0.dat Zi x4]])) (by kernel_rfl) ?_
  unfold Sp.f1487y
  exact (cond_plain f1487y_g (rfl) (rfl))
theorem e1487y_ok : Valid PP Γ e1487y := valid_auto ok vnil fun a => f1487y_form a.1.1 a.1.2.2.1 a.1.2.2.2.1 a.1.2.2.2.2.1 a.1.2.2.2.2.2 a.2.1 a.2.2

noncomputable def e1487a : Ent := { e1487y with pre := fun _ => true, spec := fun _ => (), wrt := fun a => (a.1.1, (), a.1.2.2.1, Sp.failS a.2.1 a.2.2 a.1.2.2.2) }
theorem f1487z_eq (x0 : List VF) (x2 : Bool) (x3 x4 x5 x6 x7 : Int) : Sp.f1487y x0 x2 x3 x4 x5 x6 x7 = ((), x0, (), x2, Sp.failS x6 x7 (x3, x4, x5)) := by
  unfold Sp.f1487y Sp.failS
  dsimp only
  cases x4 == 0 <;> rfl
theorem e1487a_ok : Valid PP Γ e1487a := fun a _ => by
  have h := e1487y_ok a rfl
  have e : e1487y.res a = e1487a.res a := by
    have e2 := f1487z_eq a.1.1 a.1.2.2.1 a.1.2.2.2.1 a.1.2.2.2.2.1 a.1.2.2.2.2.2 a.2.1 a.2.2
    show (⟨mkS e1487y.outs (Sp.f1487y a.1.1 a.1.2.2.1 a.1.2.2.2.1 a.1.2.2.2.2.1 a.1.2.2.2.2.2 a.2.1 a.2.2).1, mkU e1487y.upd (Sp.f1487y a.1.1 a.1.2.2.1 a.1.2.2.2.1 a.1.2.2.2.2.1 a.1.2.2.2.2.2 a.2.1 a.2.2).2⟩ : Res) = _
    rw [e2]
    rfl
  rw [e] at h
  exact h
def Sp.f1488y (x0 : List (ByteArray × ByteArray × Int)) (x1 : Bool) (x2 x3 x4 x5 x6 x7 : Int) := (bif x5 != (0 : Int) then (bif x6 != (0 : Int) then (bif x5 != x6 then ((), x0, (), x1, (Sp.failS (10 : Int) x7 (x2, x3, x4)).1, (Sp.failS (10 : Int) x7 (x2, x3, x4)).2.1, (Sp.failS (10 : Int) x7 (x2, x3, x4)).2.2) else ((), x0, (), x1, x2, x3, x4)) else ((), x0, (), x1, x2, x3, x4)) else ((), x0, (), x1, x2, x3, x4))
noncomputable def e1488y : Ent := { f := 241, ins := [Sh.box (241 : Nat) [C0.dat ZF.slice, C0.nilS, C0.dat Ty.bool, C0.dat Zi, C0.dat Zi, C0.dat Zi], Sh.one ZI, Sh.one ZI, Sh.one ZI], outs := [], upd := [Sh.box (241 : Nat) [C0.dat ZF.slice, C0.nilS, C0.dat Ty.bool, C0.dat Zi, C0.dat Zi, C0.dat Zi]], pre := fun a => true, spec := fun a => (Sp.f1488y a.1.1 a.1.2.2.1 a.1.2.2.2.1 a.1.2.2.2.2.1 a.1.2.2.2.2.2 a.2.1 a.2.2.1 a.2.2.2).1, wrt := fun a => (Sp.f1488y a.1.1 a.1.2.2.1 a.1.2.2.2.1 a.1.2.2.2.2.1 a.1.2.2.2.2.2 a.2.1 a.2.2.1 a.2.2.2).2 }
def f1488y_g (v : denS [] × denS [Sh.box (241 : Nat) [C0.dat ZF.slice, C0.nilS, C0.dat Ty.bool, C0.dat Zi, C0.dat Zi, C0.dat Zi]]) : Res := ⟨mkS [] v.1, mkU [Sh.box (241 : Nat) [C0.dat ZF.slice, C0.nilS, C0.dat Ty.bool, C0.dat Zi, C0.dat Zi, C0.dat Zi]] v.2⟩
theorem f1488y_form (x0 : List (ByteArray × ByteArray × Int)) (x1 : Bool) (x2 x3 x4 x5 x6 x7 : Int) : abody Γ (orc [e1487a]) 0 241 [XV.mk false [X.box (241 : Nat) [X0.dat ZF.slice x0, X0.nilS, X0.dat Ty.bool x1, X0.dat Zi x2, X0.dat Zi x3, X0.dat Zi x4]], ZX Zi x5, ZX Zi x6, ZX Zi x7] = some (f1488y_g (Sp.f1488y x0 x1 x2 x3 x4 x5 x6 x7)) := by
  refine Eq.trans (b := bif x5 != (0 : Int) then bif x6 != (0 : Int) then bif x5 != x6 then some (Res.mk [] [X.box (241 : Nat) [X0.dat ZF.slice x0, X0.nilS, X0.dat Ty.bool x1, X0.dat Zi (Sp.failS (10 : Int) x7 (x2, x3, x4)).1, X0.dat Zi (Sp.failS (10 : Int) x7 (x2, x3, x4)).2.1, X0.dat Zi (Sp.failS (10 : Int) x7 (x2, x3, x4)).2.2]]) else some (Res.mk [] [X.box (241 : Nat) [X0.dat ZF.slice x0, X0.nilS, X0.dat Ty.bool x1, X0.dat Zi x2, X0.dat Zi x3, X0.dat Zi x4]]) else some (Res.mk [] [X.box (241 : Nat) [X0.dat ZF.slice x0, X0.nilS, X0.dat Ty.bool x1, X0.dat Zi x2, X0.dat Zi x3, X0.dat Zi x4]]) else some (Res.mk [] [X.box (241 : Nat) [X0.dat ZF.slice x0, X0.nilS, X0.dat Ty.bool x1, X0.dat Zi x2, X0.dat Zi x3, X0.dat Zi x4]])) (by kernel_rfl) ?_
  unfold Sp.f1488y
  exact (cond_plain f1488y_g ((cond_plain f1488y_g ((cond_plain f1488y_g (rfl) (rfl))) (rfl))) (rfl))
theorem e1488y_ok : Valid PP Γ e1488y := valid_auto ok (vcons e1487a_ok vnil) fun a => f1488y_form a.1.1 a.1.2.2.1 a.1.2.2.2.1 a.1.2.2.2.2.1 a.1.2.2.2.2.2 a.2.1 a.2.2.1 a.2.2.2

noncomputable def e1488a : Ent := { e1488y with pre := fun _ => true, spec := fun _ => (), wrt := fun a => (a.1.1, (), a.1.2.2.1, Sp.wantS a.2.1 a.2.2.1 a.2.2.2 a.1.2.2.2) }
theorem f1488z_eq (x0 : List VF) (x2 : Bool) (x3 x4 x5 x6 x7 x8 : Int) : Sp.f1488y x0 x2 x3 x4 x5 x6 x7 x8 = ((), x0, (), x2, Sp.wantS x6 x7 x8 (x3, x4, x5)) := by
  unfold Sp.f1488y Sp.wantS
  cases x6 != 0 <;> cases x7 != 0 <;> cases x6 != x7 <;> rfl
theorem e1488a_ok : Valid PP Γ e1488a := fun a _ => by
  have h := e1488y_ok a rfl
  have e : e1488y.res a = e1488a.res a := by
    have e2 := f1488z_eq a.1.1 a.1.2.2.1 a.1.2.2.2.1 a.1.2.2.2.2.1 a.1.2.2.2.2.2 a.2.1 a.2.2.1 a.2.2.2
    show (⟨mkS e1488y.outs (Sp.f1488y a.1.1 a.1.2.2.1 a.1.2.2.2.1 a.1.2.2.2.2.1 a.1.2.2.2.2.2 a.2.1 a.2.2.1 a.2.2.2).1, mkU e1488y.upd (Sp.f1488y a.1.1 a.1.2.2.1 a.1.2.2.2.1 a.1.2.2.2.2.1 a.1.2.2.2.2.2 a.2.1 a.2.2.1 a.2.2.2).2⟩ : Res) = _
    rw [e2]
    rfl
  rw [e] at h
  exact h
def Sp.tzP (b : Bool) (r : RT) : Bool := yes2 (!b) (Sp.arT r)
noncomputable def e1465a : Ent := { f := n1465, ins := [bTz, Sh.agg aT, Sh.one cB], outs := [Sh.one cI], upd := [bTz], pre := fun a => Sp.tzP a.1.2.2.1 (Sp.mkT a.2.1), spec := fun a => (Sp.tyS (a.1.1, a.1.2.2.1, []) (Sp.mkT a.2.1) a.2.2 a.1.2.2.2).1, wrt := fun a => (a.1.1, (), a.1.2.2.1, (Sp.tyS (a.1.1, a.1.2.2.1, []) (Sp.mkT a.2.1) a.2.2 a.1.2.2.2).2) }
noncomputable def e1465an (N : Nat) : Ent := e1465a.below (fun a => Sp.rsz1 a.2.1.2.2.2.2.2.2.2) N
def Sp.kidTz (N : Nat) (b : Bool) (l : List RT) (i : Nat) : Bool := Sp.tzP b (Sp.mkT (Sp.unT (Sp.kid l i))) && (Sp.rsz1 (Sp.kid l i).kids).blt N
abbrev rBz (x0 : List VF) (x2 : Bool) (y : Int × SC) : Option Res := some (Res.mk [ZX Zi y.1] [X.box t1430 [X0.dat (Ty.slice tF) x0, X0.nilS, X0.dat Ty.bool x2, X0.dat Zi y.2.1, X0.dat Zi y.2.2.1, X0.dat Zi y.2.2.2]])
def Sp.col65z (x0 : List VF) (x2 : Bool) (q : Int × Int) (s : SC) (g : Bool) : Option Res :=
  bif q.2 != 0 then rBz x0 x2 (0, Sp.failS q.2 s.1 (Sp.stepS s))
  else bif x2 then (bif !g then none
    else chk (decide ((0 : Int) ≤ q.1) && decide (q.1 < (x0.length : Int))) (rBz x0 x2 ((x0.getD q.1.toNat (ByteArray.mk #[], ByteArray.mk #[], (0 : Int))).2.2, Sp.stepS s)))
  else chk (decide ((0 : Int) ≤ q.1) && decide (q.1 < (x0.length : Int))) (rBz x0 x2 ((x0.getD q.1.toNat (ByteArray.mk #[], ByteArray.mk #[], (0 : Int))).2.2, Sp.stepS s))
def Sp.agg65z (x0 : List VF) (x2 : Bool) (name : ByteArray) (y : Int × SC) (f : Int) : Option Res :=
  bif name.toList == (ByteArray.mk #[99, 111, 117, 110, 116]).toList then rBz x0 x2 (2, y.2)
  else bif name.toList == (ByteArray.mk #[115, 117, 109]).toList then rBz x0 x2 (2, Sp.wantS y.1 2 f y.2)
  else rBz x0 x2 y
def Sp.una65z (x0 : List VF) (x2 : Bool) (name : ByteArray) (y : Int × SC) (f : Int) : Option Res :=
  bif name.toList == (ByteArray.mk #[45]).toList then rBz x0 x2 (2, Sp.wantS y.1 2 f y.2)
  else bif name.toList == (ByteArray.mk #[110, 111, 116]).toList then rBz x0 x2 (1, Sp.wantS y.1 1 f y.2)
  else rBz x0 x2 (1, y.2)
def Sp.bin65z (x0 : List VF) (x2 : Bool) (l : Int) (y z : Int × SC) (f : Int) : Option Res :=
  bif l == 1 then (bif l == 1 then rBz x0 x2 (1, Sp.wantS z.1 1 y.2.1 (Sp.wantS y.1 1 f z.2)) else bif l == 4 then rBz x0 x2 (1, Sp.wantS z.1 y.1 y.2.1 z.2) else rBz x0 x2 (2, Sp.wantS z.1 2 y.2.1 (Sp.wantS y.1 2 f z.2)))
  else bif l == 2 then rBz x0 x2 (1, Sp.wantS z.1 1 y.2.1 (Sp.wantS y.1 1 f z.2))
  else bif l == 4 then rBz x0 x2 (1, Sp.wantS z.1 y.1 y.2.1 z.2)
  else rBz x0 x2 (2, Sp.wantS z.1 2 y.2.1 (Sp.wantS y.1 2 f z.2))
theorem f1465z_raw (N : Nat) (x0 : List VF) (x2 : Bool) (x3 x4 x5 x6 x7 : Int) (x8 x9 : ByteArray) (x10 x11 : Int) (x12 : ByteArray) (x13 : List RT) (x14 : Bool) :
    abody Γ (orc [e1465an N, e1486, e1487a, e1488a, e1023]) 0 n1465 [XV.mk false [X.box t1430 [X0.dat (Ty.slice tF) x0, X0.nilS, X0.dat Ty.bool x2, X0.dat Zi x3, X0.dat Zi x4, X0.dat Zi x5]],
      XV.mk true [ZC Zi x6, ZC Zi x7, ZC Ty.str x8, ZC Ty.str x9, ZC Zi x10, ZC Zi x11, ZC Ty.str x12, ZC (Ty.slice tT) x13], ZX Ty.bool x14] =
    bif x6 == (13 : Int) then rBz x0 x2 (x10, Sp.stepS (x3, x4, x5))
    else bif x6 == (14 : Int) then Sp.col65z x0 x2 (Sp.findF x0 x9 x8) (x3, x4, x5) x14
    else bif x6 == (17 : Int) then (bif (x13.length : Int) == (0 : Int) then rBz x0 x2 (2, Sp.stepS (x3, x4, x5))
      else chk (decide ((0 : Int) < (x13.length : Int))) (chk (Sp.kidTz N x2 x13 0) (Sp.agg65z x0 x2 x8 (Sp.tyK (x0, x2, []) x13 0 true (Sp.stepS (x3, x4, x5))) (Sp.succL x3))))
    else bif x6 == (15 : Int) then chk (decide ((0 : Int) < (x13.length : Int))) (chk (Sp.kidTz N x2 x13 0) (Sp.una65z x0 x2 x8 (Sp.tyK (x0, x2, []) x13 0 x14 (Sp.stepS (x3, x4, x5))) (Sp.succL x3)))
    else chk (decide ((0 : Int) < (x13.length : Int))) (chk (Sp.kidTz N x2 x13 0) (chk (decide ((1 : Int) < (x13.length : Int))) (chk (Sp.kidTz N x2 x13 1)
      (Sp.bin65z x0 x2 (Sp.f1023 x8).1 (Sp.tyK (x0, x2, []) x13 0 x14 (Sp.stepS (x3, x4, x5))) (Sp.tyK (x0, x2, []) x13 1 x14 (Sp.tyK (x0, x2, []) x13 0 x14 (Sp.stepS (x3, x4, x5))).2) (Sp.succL x3))))) := by kernel_rfl
theorem col65z_eq (x0 : List VF) (x2 : Bool) (of name : ByteArray) (s : SC) (g : Bool) (hb : x2 = false) : Sp.col65z x0 x2 (Sp.findF x0 of name) s g = rBz x0 x2 (Sp.colS (x0, x2, []) of name g s) := by
  subst hb
  unfold Sp.col65z Sp.colS Sp.hasI Sp.tyAt
  dsimp only
  by_cases h : (Sp.findF x0 of name).2 = 0
  · obtain ⟨h0, h1⟩ := findF_lt h
    rw [decide_eq_true h0, decide_eq_true h1, Bool.and_self, chkT]
    cases (Sp.findF x0 of name).2 != 0 <;> rfl
  · rw [show ((Sp.findF x0 of name).2 != 0) = true by rw [bne, beq_false_of_ne h]; rfl]
    rfl
theorem not_true {b : Bool} (h : (!b) = true) : b = false := by cases b with | true => cases h | false => rfl
theorem kidTz0 {r : RT} {l : List RT} {b : Bool} (hb : b = false) (h : Sp.arTs (r :: l) = true) : Sp.kidTz (Sp.rsz1 (r :: l)) b (r :: l) 0 = true := by
  subst hb
  exact kidT0 h
theorem kidTz1 {r q : RT} {l : List RT} {b : Bool} (hb : b = false) (h : Sp.arTs (r :: q :: l) = true) : Sp.kidTz (Sp.rsz1 (r :: q :: l)) b (r :: q :: l) 1 = true := by
  subst hb
  exact kidT1 h
noncomputable abbrev recTz : List REnt := [⟨e1465a, fun a => Sp.rsz1 a.2.1.2.2.2.2.2.2.2⟩]
theorem e1465a_core (x0 : List VF) (x2 : Bool) (x3 x4 x5 x6 x7 : Int) (x8 x9 : ByteArray) (x10 x11 : Int) (x12 : ByteArray) (x13 : List RT) (x14 : Bool) (hb : x2 = false) (h : Sp.arT (Sp.mkT (x6, x7, x8, x9, x10, x11, x12, x13)) = true) :
    abody Γ (orc (belows (Sp.rsz1 x13) recTz ++ [e1486, e1487a, e1488a, e1023])) 0 n1465 (e1465a.args ((x0, (), x2, x3, x4, x5), (x6, x7, x8, x9, x10, x11, x12, x13), x14)) = some (e1465a.res ((x0, (), x2, x3, x4, x5), (x6, x7, x8, x9, x10, x11, x12, x13), x14)) := by
  refine (f1465z_raw _ x0 x2 x3 x4 x5 x6 x7 x8 x9 x10 x11 x12 x13 x14).trans ?_
  have e : Sp.tyS (x0, x2, []) (Sp.mkT (x6, x7, x8, x9, x10, x11, x12, x13)) x14 (x3, x4, x5) = Sp.nodeS (x0, x2, []) (x6, x7, x8, x9, x10, x11, x12) (x13.map (Sp.tyS (x0, x2, []))) x14 (x3, x4, x5) := tyS_mk _ _ _ _ _
  show _ = rBz x0 x2 (Sp.tyS (x0, x2, []) (Sp.mkT (x6, x7, x8, x9, x10, x11, x12, x13)) x14 (x3, x4, x5))
  rw [e]
  clear e
  have hs : Sp.arTs x13 = true ∧ (bif x6 == 13 then true else bif x6 == 14 then true else bif x6 == 15 then Nat.ble 1 x13.length else bif x6 == 17 then (bif Sp.isW #[99, 111, 117, 110, 116] x8 then true else Nat.ble 1 x13.length) else Nat.ble 2 x13.length) = true := by
    unfold Sp.mkT at h
    rw [Sp.arT] at h
    cases hr : Sp.arTs x13 with
    | true => rw [hr, cond_true] at h; exact ⟨rfl, h⟩
    | false => rw [hr] at h; cases h
  obtain ⟨ht, har⟩ := hs
  clear h
  unfold Sp.nodeS
  dsimp only
  rw [col65z_eq _ _ _ _ _ _ hb]
  cases h3 : x6 == 13 with
  | true => rfl
  | false =>
  rw [h3, cond_false] at har
  cases h4 : x6 == 14 with
  | true => rfl
  | false =>
  rw [h4, cond_false] at har
  rw [cond_false, cond_false, cond_false, cond_false]
  cases h7 : x6 == 17 with
  | true =>
    rw [cond_true, cond_true]
    cases x13 with
    | nil => rfl
    | cons r l =>
      rw [List.length_map, lenC_ne, cond_false, cond_false, lenC_pos, chkT, kidTz0 hb ht, chkT, tyK0]
      unfold Sp.agg65z Sp.isW
      show _ = rBz x0 x2 (bif x8.toList == (ByteArray.mk #[99, 111, 117, 110, 116]).toList then (2, (Sp.tyS (x0, x2, []) r true (Sp.stepS (x3, x4, x5))).2) else bif x8.toList == (ByteArray.mk #[115, 117, 109]).toList then (2, Sp.wantS (Sp.tyS (x0, x2, []) r true (Sp.stepS (x3, x4, x5))).1 2 (Sp.stepS (x3, x4, x5)).1 (Sp.tyS (x0, x2, []) r true (Sp.stepS (x3, x4, x5))).2) else Sp.tyS (x0, x2, []) r true (Sp.stepS (x3, x4, x5)))
      cases x8.toList == (ByteArray.mk #[99, 111, 117, 110, 116]).toList <;> cases x8.toList == (ByteArray.mk #[115, 117, 109]).toList <;> rfl
  | false =>
  rw [h7] at har
  rw [cond_false, cond_false]
  cases h5 : x6 == 15 with
  | true =>
    rw [h5, cond_true] at har
    have h1 := Nat.le_of_ble_eq_true har
    rw [cond_true, cond_true]
    cases x13 with
    | nil => rw [List.length_nil] at h1; omega
    | cons r l =>
      rw [lenC_pos, chkT, kidTz0 hb ht, chkT, tyK0]
      unfold Sp.una65z Sp.isW
      show _ = rBz x0 x2 (bif x8.toList == (ByteArray.mk #[45]).toList then (2, Sp.wantS (Sp.tyS (x0, x2, []) r x14 (Sp.stepS (x3, x4, x5))).1 2 (Sp.stepS (x3, x4, x5)).1 (Sp.tyS (x0, x2, []) r x14 (Sp.stepS (x3, x4, x5))).2) else bif x8.toList == (ByteArray.mk #[110, 111, 116]).toList then (1, Sp.wantS (Sp.tyS (x0, x2, []) r x14 (Sp.stepS (x3, x4, x5))).1 1 (Sp.stepS (x3, x4, x5)).1 (Sp.tyS (x0, x2, []) r x14 (Sp.stepS (x3, x4, x5))).2) else (1, (Sp.tyS (x0, x2, []) r x14 (Sp.stepS (x3, x4, x5))).2))
      cases x8.toList == (ByteArray.mk #[45]).toList <;> cases x8.toList == (ByteArray.mk #[110, 111, 116]).toList <;> rfl
  | false =>
    rw [h5, cond_false, cond_false] at har
    have h1 := Nat.le_of_ble_eq_true har
    rw [cond_false, cond_false]
    match x13, h1, ht with
    | r :: q :: l, _, ht =>
      rw [lenC_pos, chkT, kidTz0 hb ht, chkT, lenC_one, chkT, kidTz1 hb ht, chkT, tyK0, tyK1]
      unfold Sp.bin65z
      show _ = rBz x0 x2 (bif (bif (Sp.f1023 x8).1 == 1 then true else (Sp.f1023 x8).1 == 2) then (1, Sp.wantS (Sp.tyS (x0, x2, []) q x14 (Sp.tyS (x0, x2, []) r x14 (Sp.stepS (x3, x4, x5))).2).1 1 (Sp.tyS (x0, x2, []) r x14 (Sp.stepS (x3, x4, x5))).2.1 (Sp.wantS (Sp.tyS (x0, x2, []) r x14 (Sp.stepS (x3, x4, x5))).1 1 (Sp.stepS (x3, x4, x5)).1 (Sp.tyS (x0, x2, []) q x14 (Sp.tyS (x0, x2, []) r x14 (Sp.stepS (x3, x4, x5))).2).2)) else bif (Sp.f1023 x8).1 == 4 then (1, Sp.wantS (Sp.tyS (x0, x2, []) q x14 (Sp.tyS (x0, x2, []) r x14 (Sp.stepS (x3, x4, x5))).2).1 (Sp.tyS (x0, x2, []) r x14 (Sp.stepS (x3, x4, x5))).1 (Sp.tyS (x0, x2, []) r x14 (Sp.stepS (x3, x4, x5))).2.1 (Sp.tyS (x0, x2, []) q x14 (Sp.tyS (x0, x2, []) r x14 (Sp.stepS (x3, x4, x5))).2).2) else (2, Sp.wantS (Sp.tyS (x0, x2, []) q x14 (Sp.tyS (x0, x2, []) r x14 (Sp.stepS (x3, x4, x5))).2).1 2 (Sp.tyS (x0, x2, []) r x14 (Sp.stepS (x3, x4, x5))).2.1 (Sp.wantS (Sp.tyS (x0, x2, []) r x14 (Sp.stepS (x3, x4, x5))).1 2 (Sp.stepS (x3, x4, x5)).1 (Sp.tyS (x0, x2, []) q x14 (Sp.tyS (x0, x2, []) r x14 (Sp.stepS (x3, x4, x5))).2).2)))
      generalize Sp.tyS (x0, x2, []) q x14 (Sp.tyS (x0, x2, []) r x14 (Sp.stepS (x3, x4, x5))).2 = z
      generalize Sp.tyS (x0, x2, []) r x14 (Sp.stepS (x3, x4, x5)) = y
      cases (Sp.f1023 x8).1 == 1 <;> cases (Sp.f1023 x8).1 == 2 <;> cases (Sp.f1023 x8).1 == 4 <;> rfl
    | [r], h1, _ => rw [List.length_cons, List.length_nil] at h1; omega
    | [], h1, _ => rw [List.length_nil] at h1; omega
theorem recTz_ok : ∀ r ∈ recTz, Valid PP Γ r.e :=
  valid_recs ok _ (rcons ⟨[e1486, e1487a, e1488a, e1023], vcons e1486_ok (vcons e1487a_ok (vcons e1488a_ok (vcons e1023_ok vnil))), fun a ha _ => ⟨0, e1465a_core a.1.1 a.1.2.2.1 a.1.2.2.2.1 a.1.2.2.2.2.1 a.1.2.2.2.2.2 a.2.1.1 a.2.1.2.1 a.2.1.2.2.1 a.2.1.2.2.2.1 a.2.1.2.2.2.2.1 a.2.1.2.2.2.2.2.1 a.2.1.2.2.2.2.2.2.1 a.2.1.2.2.2.2.2.2.2 a.2.2 (not_true (yes2_true ha).1) (yes2_true ha).2⟩⟩ rnil)
theorem e1465a_ok : Valid PP Γ e1465a := recTz_ok _ (List.mem_cons_self)
end Go.Proofs.GR.T

set_option maxRecDepth 3000000
set_option maxHeartbeats 100000000
namespace Go.Proofs.GR.T
open Go Go.Proofs Go.Proofs.GR
def Sp.f1442_pre (x0 x1 : Int) (x2 x3 : ByteArray) (x4 x5 : Int) (x6 : ByteArray) (x7 : List ZT) (x8 : List (ByteArray × ByteArray × Int)) : Bool := (bif decide ((↑x8.length : Int) > (4096 : Int)) then true else (bif !(Sp.f1012 x0 x1 x2 x3 x4 x5 x6 x7).1 then true else (bif !Sp.scFS x8 then true else (Sp.tzP false (Sp.mkT (x0, x1, x2, x3, x4, x5, x6, x7))))))
def Sp.f1442 (x0 x1 : Int) (x2 x3 : ByteArray) (x4 x5 : Int) (x6 : ByteArray) (x7 : List ZT) (x8 : List (ByteArray × ByteArray × Int)) := (bif decide ((↑x8.length : Int) > (4096 : Int)) then (((0 : Int), (2 : Int), (0 : Int)), ()) else (bif !(Sp.f1012 x0 x1 x2 x3 x4 x5 x6 x7).1 then (((0 : Int), (1 : Int), (0 : Int)), ()) else (bif !Sp.scFS x8 then (((0 : Int), (1 : Int), (0 : Int)), ()) else (bif (Sp.tyS (x8, false, []) (Sp.mkT (x0, x1, x2, x3, x4, x5, x6, x7)) false ((0 : Int), (0 : Int), (0 : Int))).2.2.1 != (0 : Int) then (((0 : Int), (Sp.tyS (x8, false, []) (Sp.mkT (x0, x1, x2, x3, x4, x5, x6, x7)) false ((0 : Int), (0 : Int), (0 : Int))).2.2.1, (Sp.tyS (x8, false, []) (Sp.mkT (x0, x1, x2, x3, x4, x5, x6, x7)) false ((0 : Int), (0 : Int), (0 : Int))).2.2.2), ()) else (((Sp.tyS (x8, false, []) (Sp.mkT (x0, x1, x2, x3, x4, x5, x6, x7)) false ((0 : Int), (0 : Int), (0 : Int))).1, (0 : Int), (0 : Int)), ())))))
noncomputable def e1442 : Ent := { f := 122, ins := [Sh.agg [C0.dat Zi, C0.dat Zi, C0.dat Ty.str, C0.dat Ty.str, C0.dat Zi, C0.dat Zi, C0.dat Ty.str, C0.dat ZA.rose.slice], Sh.one (C0.dat ZF.slice)], outs := [Sh.one ZI, Sh.one ZI, Sh.one ZI], upd := [], pre := fun a => Sp.f1442_pre a.1.1 a.1.2.1 a.1.2.2.1 a.1.2.2.2.1 a.1.2.2.2.2.1 a.1.2.2.2.2.2.1 a.1.2.2.2.2.2.2.1 a.1.2.2.2.2.2.2.2 a.2, spec := fun a => (Sp.f1442 a.1.1 a.1.2.1 a.1.2.2.1 a.1.2.2.2.1 a.1.2.2.2.2.1 a.1.2.2.2.2.2.1 a.1.2.2.2.2.2.2.1 a.1.2.2.2.2.2.2.2 a.2).1, wrt := fun a => (Sp.f1442 a.1.1 a.1.2.1 a.1.2.2.1 a.1.2.2.2.1 a.1.2.2.2.2.1 a.1.2.2.2.2.2.1 a.1.2.2.2.2.2.2.1 a.1.2.2.2.2.2.2.2 a.2).2 }
def f1442_g (v : denS [Sh.one ZI, Sh.one ZI, Sh.one ZI] × denS []) : Res := ⟨mkS [Sh.one ZI, Sh.one ZI, Sh.one ZI] v.1, mkU [] v.2⟩
theorem f1442_form (x0 x1 : Int) (x2 x3 : ByteArray) (x4 x5 : Int) (x6 : ByteArray) (x7 : List ZT) (x8 : List (ByteArray × ByteArray × Int)) : abody Γ (orc [e1012, e1464, e1465a]) 0 122 [XV.mk true [ZC Zi x0, ZC Zi x1, ZC Ty.str x2, ZC Ty.str x3, ZC Zi x4, ZC Zi x5, ZC Ty.str x6, ZC ZA.rose.slice x7], ZX ZF.slice x8] = chk (Sp.f1442_pre x0 x1 x2 x3 x4 x5 x6 x7 x8) (some (f1442_g (Sp.f1442 x0 x1 x2 x3 x4 x5 x6 x7 x8))) := by
  refine Eq.trans (b := bif decide ((↑x8.length : Int) > (4096 : Int)) then some (Res.mk [ZX Zi (0 : Int), ZX Zi (2 : Int), ZX Zi (0 : Int)] []) else bif !(Sp.f1012 x0 x1 x2 x3 x4 x5 x6 x7).1 then some (Res.mk [ZX Zi (0 : Int), ZX Zi (1 : Int), ZX Zi (0 : Int)] []) else bif !Sp.scFS x8 then some (Res.mk [ZX Zi (0 : Int), ZX Zi (1 : Int), ZX Zi (0 : Int)] []) else chk (Sp.tzP false (Sp.mkT (x0, x1, x2, x3, x4, x5, x6, x7))) (bif (Sp.tyS (x8, false, []) (Sp.mkT (x0, x1, x2, x3, x4, x5, x6, x7)) false ((0 : Int), (0 : Int), (0 : Int))).2.2.1 != (0 : Int) then some (Res.mk [ZX Zi (0 : Int), ZX Zi (Sp.tyS (x8, false, []) (Sp.mkT (x0, x1, x2, x3, x4, x5, x6, x7)) false ((0 : Int), (0 : Int), (0 : Int))).2.2.1, ZX Zi (Sp.tyS (x8, false, []) (Sp.mkT (x0, x1, x2, x3, x4, x5, x6, x7)) false ((0 : Int), (0 : Int), (0 : Int))).2.2.2] []) else some (Res.mk [ZX Zi (Sp.tyS (x8, false, []) (Sp.mkT (x0, x1, x2, x3, x4, x5, x6, x7)) false ((0 : Int), (0 : Int), (0 : Int))).1, ZX Zi (0 : Int), ZX Zi (0 : Int)] []))) (by kernel_rfl) ?_
  unfold Sp.f1442_pre Sp.f1442
  exact (cond_step f1442_g ((lift_plain (rfl))) ((cond_step f1442_g ((lift_plain (rfl))) ((cond_step f1442_g ((lift_plain (rfl))) ((chk_last ((cond_plain f1442_g (rfl) (rfl))))))))))
theorem e1442_ok : Valid PP Γ e1442 := valid_auto ok (vcons e1012_ok (vcons e1464_ok (vcons e1465a_ok vnil))) fun a => f1442_form a.1.1 a.1.2.1 a.1.2.2.1 a.1.2.2.2.1 a.1.2.2.2.2.1 a.1.2.2.2.2.2.1 a.1.2.2.2.2.2.2.1 a.1.2.2.2.2.2.2.2 a.2

def Sp.f1427_pre (x0 x1 : Int) (x2 x3 : ByteArray) (x4 x5 : Int) (x6 : ByteArray) (x7 : List ZT) (x8 : ByteArray) (x9 : List (ByteArray × Int × Bool)) (x10 : Int) (x11 : List (ByteArray × List Int)) (x12 : Int) : Bool := (bif !(Sp.f1012 x0 x1 x2 x3 x4 x5 x6 x7).1 then true else (bif Sp.aggT (Sp.mkT (x0, x1, x2, x3, x4, x5, x6, x7)) then true else (Sp.fits32 x9 && (Sp.f1442_pre x0 x1 x2 x3 x4 x5 x6 x7 (Sp.flds x9 x8)))))
def Sp.f1427 (x0 x1 : Int) (x2 x3 : ByteArray) (x4 x5 : Int) (x6 : ByteArray) (x7 : List ZT) (x8 : ByteArray) (x9 : List (ByteArray × Int × Bool)) (x10 : Int) (x11 : List (ByteArray × List Int)) (x12 : Int) := (bif !(Sp.f1012 x0 x1 x2 x3 x4 x5 x6 x7).1 then (false, ()) else (bif Sp.aggT (Sp.mkT (x0, x1, x2, x3, x4, x5, x6, x7)) then (false, ()) else (bif (Sp.f1442 x0 x1 x2 x3 x4 x5 x6 x7 (Sp.flds x9 x8)).1.2.1 == (0 : Int) then (bif (Sp.f1442 x0 x1 x2 x3 x4 x5 x6 x7 (Sp.flds x9 x8)).1.1 == x12 then (true, ()) else ((Sp.f1442 x0 x1 x2 x3 x4 x5 x6 x7 (Sp.flds x9 x8)).1.1 == (0 : Int), ())) else (false, ()))))
noncomputable def e1427 : Ent := { f := 69, ins := [Sh.agg [C0.dat Zi, C0.dat Zi, C0.dat Ty.str, C0.dat Ty.str, C0.dat Zi, C0.dat Zi, C0.dat Ty.str, C0.dat ZA.rose.slice], Sh.agg [C0.dat Ty.str, C0.dat (Ty.str.pair (Zi.pair Ty.bool)).slice, C0.dat Zi, C0.dat (Ty.str.pair Zi.slice).slice], Sh.one ZI], outs := [Sh.one (C0.dat Ty.bool)], upd := [], pre := fun a => Sp.f1427_pre a.1.1 a.1.2.1 a.1.2.2.1 a.1.2.2.2.1 a.1.2.2.2.2.1 a.1.2.2.2.2.2.1 a.1.2.2.2.2.2.2.1 a.1.2.2.2.2.2.2.2 a.2.1.1 a.2.1.2.1 a.2.1.2.2.1 a.2.1.2.2.2 a.2.2, spec := fun a => (Sp.f1427 a.1.1 a.1.2.1 a.1.2.2.1 a.1.2.2.2.1 a.1.2.2.2.2.1 a.1.2.2.2.2.2.1 a.1.2.2.2.2.2.2.1 a.1.2.2.2.2.2.2.2 a.2.1.1 a.2.1.2.1 a.2.1.2.2.1 a.2.1.2.2.2 a.2.2).1, wrt := fun a => (Sp.f1427 a.1.1 a.1.2.1 a.1.2.2.1 a.1.2.2.2.1 a.1.2.2.2.2.1 a.1.2.2.2.2.2.1 a.1.2.2.2.2.2.2.1 a.1.2.2.2.2.2.2.2 a.2.1.1 a.2.1.2.1 a.2.1.2.2.1 a.2.1.2.2.2 a.2.2).2 }
def f1427_g (v : denS [Sh.one (C0.dat Ty.bool)] × denS []) : Res := ⟨mkS [Sh.one (C0.dat Ty.bool)] v.1, mkU [] v.2⟩
theorem f1427_form (x0 x1 : Int) (x2 x3 : ByteArray) (x4 x5 : Int) (x6 : ByteArray) (x7 : List ZT) (x8 : ByteArray) (x9 : List (ByteArray × Int × Bool)) (x10 : Int) (x11 : List (ByteArray × List Int)) (x12 : Int) : abody Γ (orc [e1012, e1441, e1443, e1442]) 0 69 [XV.mk true [ZC Zi x0, ZC Zi x1, ZC Ty.str x2, ZC Ty.str x3, ZC Zi x4, ZC Zi x5, ZC Ty.str x6, ZC ZA.rose.slice x7], XV.mk true [ZC Ty.str x8, ZC (Ty.str.pair (Zi.pair Ty.bool)).slice x9, ZC Zi x10, ZC (Ty.str.pair Zi.slice).slice x11], ZX Zi x12] = chk (Sp.f1427_pre x0 x1 x2 x3 x4 x5 x6 x7 x8 x9 x10 x11 x12) (some (f1427_g (Sp.f1427 x0 x1 x2 x3 x4 x5 x6 x7 x8 x9 x10 x11 x12))) := by
  refine Eq.trans (b := bif !(Sp.f1012 x0 x1 x2 x3 x4 x5 x6 x7).1 then Zf else bif Sp.aggT (Sp.mkT (x0, x1, x2, x3, x4, x5, x6, x7)) then Zf else chk (Sp.fits32 x9) (chk (Sp.f1442_pre x0 x1 x2 x3 x4 x5 x6 x7 (Sp.flds x9 x8)) (bif (Sp.f1442 x0 x1 x2 x3 x4 x5 x6 x7 (Sp.flds x9 x8)).1.2.1 == (0 : Int) then bif (Sp.f1442 x0 x1 x2 x3 x4 x5 x6 x7 (Sp.flds x9 x8)).1.1 == x12 then Zt else ZB ((Sp.f1442 x0 x1 x2 x3 x4 x5 x6 x7 (Sp.flds x9 x8)).1.1 == (0 : Int)) else Zf))) (by kernel_rfl) ?_
  unfold Sp.f1427_pre Sp.f1427
  exact (cond_step f1427_g ((lift_plain (rfl))) ((cond_step f1427_g ((lift_plain (rfl))) ((chk_step ((chk_last ((cond_plain f1427_g ((cond_plain f1427_g (rfl) (rfl))) (rfl))))))))))
theorem e1427_ok : Valid PP Γ e1427 := valid_auto ok (vcons e1012_ok (vcons e1441_ok (vcons e1443_ok (vcons e1442_ok vnil)))) fun a => f1427_form a.1.1 a.1.2.1 a.1.2.2.1 a.1.2.2.2.1 a.1.2.2.2.2.1 a.1.2.2.2.2.2.1 a.1.2.2.2.2.2.2.1 a.1.2.2.2.2.2.2.2 a.2.1.1 a.2.1.2.1 a.2.1.2.2.1 a.2.1.2.2.2 a.2.2

end Go.Proofs.GR.T

