/-
  No statement is proved here: what the functions of the law answer, told as plain functions, and that the law's answer is always true.
  No condition.
-/
import Derived.Test.YtfihkpknhkbciaaDoorTTablesReadf
set_option maxRecDepth 3000000
set_option maxHeartbeats 100000000
namespace Go.Proofs.GR.T
open Go Go.Proofs Go.Proofs.GR
noncomputable def f1124_L0 (n m0 : Nat) (y0 : Bool) (y1 y2 y3 : Int) (y4 y5 : ByteArray) (y6 y7 : Int) (y8 : ByteArray) (y9 : List ZT) : Option Res := loopAt Γ (orc [e1158]) n (29 : Nat) (0 : Nat) [] [Pth.r, Pth.l, Pth.r, Pth.b] m0 (St.mk (Zn :: ZS Ty.bool y0 :: Slot.val (Val.one (Cell.ptr (0 : Nat) (0 : Nat))) :: Zn :: Zn :: ZS Zi y1 :: ZN 59 []) [AObj.box (34 : Nat) [Cell.dat Zi y2, Cell.dat Zi y3, Cell.dat Ty.str y4, Cell.dat Ty.str y5, Cell.dat Zi y6, Cell.dat Zi y7, Cell.dat Ty.str y8, Cell.dat ZA.rose.slice y9]])
theorem f1124_L0_step (n m0 : Nat) (y0 : Bool) (y1 y2 y3 : Int) (y4 y5 : ByteArray) (y6 y7 : Int) (y8 : ByteArray) (y9 : List ZT) : f1124_L0 n (m0 + 1) y0 y1 y2 y3 y4 y5 y6 y7 y8 y9 = bif decide (y1 < (↑y9.length : Int)) then chk (decide ((0 : Int) ≤ y1) && decide (y1 < (↑y9.length : Int))) (chk (decide ((0 : Int) ≤ y1) && decide (y1 < (↑y9.length : Int))) (bif !Sp.partR (Sp.mkT ((y9.getD y1.toNat ZR).a.1, (y9.getD y1.toNat ZR).a.2.1, (y9.getD y1.toNat ZR).a.2.2.1, (y9.getD y1.toNat ZR).a.2.2.2.1, (y9.getD y1.toNat ZR).a.2.2.2.2.1, (y9.getD y1.toNat ZR).a.2.2.2.2.2.1, (y9.getD y1.toNat ZR).a.2.2.2.2.2.2, (y9.getD y1.toNat ZR).kids)) then Zf else bif (y9.getD y1.toNat ZR).a.1 == (12 : Int) then bif y0 then f1124_L0 n m0 y0 (IntKind.i64.wrap (y1 + (1 : Int))) y2 y3 y4 y5 y6 y7 y8 y9 else bif (y9.getD y1.toNat ZR).a.1 == (8 : Int) then bif y1 == IntKind.i64.wrap ((↑y9.length : Int) - (1 : Int)) then bif decide (y1 > (0 : Int)) then f1124_L0 n m0 y0 (IntKind.i64.wrap (y1 + (1 : Int))) y2 y3 y4 y5 y6 y7 y8 y9 else bif !!y0 then Zf else f1124_L0 n m0 y0 (IntKind.i64.wrap (y1 + (1 : Int))) y2 y3 y4 y5 y6 y7 y8 y9 else Zf else Zf else bif (y9.getD y1.toNat ZR).a.1 == (8 : Int) then bif y1 == IntKind.i64.wrap ((↑y9.length : Int) - (1 : Int)) then bif decide (y1 > (0 : Int)) then f1124_L0 n m0 y0 (IntKind.i64.wrap (y1 + (1 : Int))) y2 y3 y4 y5 y6 y7 y8 y9 else bif !!y0 then Zf else f1124_L0 n m0 y0 (IntKind.i64.wrap (y1 + (1 : Int))) y2 y3 y4 y5 y6 y7 y8 y9 else Zf else Zf)) else bif !y0 then Zt else ZB (decide ((↑y9.length : Int) > (0 : Int))) := by kernel_rfl
theorem f1124_raw (n : Nat) (x0 x1 : Int) (x2 x3 : ByteArray) (x4 x5 : Int) (x6 : ByteArray) (x7 : List ZT) (x8 : Bool) : abody Γ (orc [e1158]) n 29 [XV.mk true [ZC Zi x0, ZC Zi x1, ZC Ty.str x2, ZC Ty.str x3, ZC Zi x4, ZC Zi x5, ZC Ty.str x6, ZC ZA.rose.slice x7], ZX Ty.bool x8] = f1124_L0 n n x8 (0 : Int) x0 x1 x2 x3 x4 x5 x6 x7 := by kernel_rfl

noncomputable def f1123_L0 (n m0 : Nat) (y0 y1 y2 y3 : Int) (y4 y5 : ByteArray) (y6 y7 : Int) (y8 : ByteArray) (y9 : List ZT) (y10 y11 : List Int) : Option Res := loopAt Γ (orc [e1158, e79]) n (26 : Nat) (0 : Nat) [] [Pth.r, Pth.r, Pth.r, Pth.r, Pth.l, Pth.r, Pth.b] m0 (St.mk (Zn :: Slot.val (Val.one (Cell.ptr (0 : Nat) (0 : Nat))) :: Zn :: Slot.val (Val.one (Cell.own (1 : Nat))) :: Slot.val (Val.one (Cell.own (2 : Nat))) :: ZS Zi y0 :: ZS Zi y1 :: ZN 87 []) [AObj.box (34 : Nat) [Cell.dat Zi y2, Cell.dat Zi y3, Cell.dat Ty.str y4, Cell.dat Ty.str y5, Cell.dat Zi y6, Cell.dat Zi y7, Cell.dat Ty.str y8, Cell.dat ZA.rose.slice y9], AObj.row Zi y10 true, AObj.row Zi y11 true])
noncomputable def f1123_L1 (n m0 m1 : Nat) (y0 y1 y2 y3 : Int) (y4 y5 : ByteArray) (y6 y7 : Int) (y8 : ByteArray) (y9 : List ZT) (y10 y11 : List Int) : Option Res := loopAt Γ (orc [e1158, e79]) n (26 : Nat) (0 : Nat) [] [Pth.r, Pth.r, Pth.r, Pth.r, Pth.l, Pth.r, Pth.b, Pth.p m0, Pth.r, Pth.l, Pth.b, Pth.l, Pth.b] m1 (St.mk (Zn :: Slot.val (Val.one (Cell.ptr (0 : Nat) (0 : Nat))) :: Zn :: Slot.val (Val.one (Cell.own (1 : Nat))) :: Slot.val (Val.one (Cell.own (2 : Nat))) :: ZS Zi y0 :: ZS Zi y1 :: ZN 87 []) [AObj.box (34 : Nat) [Cell.dat Zi y2, Cell.dat Zi y3, Cell.dat Ty.str y4, Cell.dat Ty.str y5, Cell.dat Zi y6, Cell.dat Zi y7, Cell.dat Ty.str y8, Cell.dat ZA.rose.slice y9], AObj.row Zi y10 true, AObj.row Zi y11 true])
theorem f1123_L0_step (n m0 : Nat) (y0 y1 y2 y3 : Int) (y4 y5 : ByteArray) (y6 y7 : Int) (y8 : ByteArray) (y9 : List ZT) (y10 y11 : List Int) : f1123_L0 n (m0 + 1) y0 y1 y2 y3 y4 y5 y6 y7 y8 y9 y10 y11 = bif decide (y1 < (↑y9.length : Int)) then f1123_L1 n m0 n y0 y1 y2 y3 y4 y5 y6 y7 y8 y9 y10 y11 else chk (decide ((0 : Int) < (↑y11.length : Int))) (bif decide (y11.getD (0 : Nat) (0 : Int) > (0 : Int)) then chk (decide ((1 : Int) < (↑y11.length : Int))) (bif (Sp.f79 (y11.getD (1 : Nat) (0 : Int)) (1 : Int) (2 : Int)).1 then chk (decide ((2 : Int) < (↑y11.length : Int))) (chk (decide ((1 : Int) < (↑y11.length : Int))) (bif y11.getD (2 : Nat) (0 : Int) == IntKind.i64.wrap (y11.getD (1 : Nat) (0 : Int) - (1 : Int)) then chk (decide ((3 : Int) < (↑y11.length : Int))) (bif decide (y11.getD (3 : Nat) (0 : Int) ≤ (1 : Int)) then chk (decide ((4 : Int) < (↑y11.length : Int))) (bif decide (y11.getD (4 : Nat) (0 : Int) ≤ (1 : Int)) then chk (decide ((6 : Int) < (↑y11.length : Int))) (ZB (decide (y11.getD (6 : Nat) (0 : Int) ≤ (1 : Int)))) else Zf) else Zf) else Zf)) else Zf) else Zf) := by kernel_rfl
theorem f1123_L1_step (n m0 m1 : Nat) (y0 y1 y2 y3 : Int) (y4 y5 : ByteArray) (y6 y7 : Int) (y8 : ByteArray) (y9 : List ZT) (y10 y11 : List Int) : f1123_L1 n m0 (m1 + 1) y0 y1 y2 y3 y4 y5 y6 y7 y8 y9 y10 y11 = bif decide (y0 < (↑y10.length : Int)) then chk (decide ((0 : Int) ≤ y0) && decide (y0 < (↑y10.length : Int))) (chk (decide ((0 : Int) ≤ y1) && decide (y1 < (↑y9.length : Int))) (bif y10.getD y0.toNat (0 : Int) != (y9.getD y1.toNat ZR).a.1 then f1123_L1 n m0 m1 (IntKind.i64.wrap (y0 + (1 : Int))) y1 y2 y3 y4 y5 y6 y7 y8 y9 y10 y11 else bif y0 == (↑y10.length : Int) then Zf else chk (decide ((0 : Int) ≤ y1) && decide (y1 < (↑y9.length : Int))) (bif !Sp.partR (Sp.mkT ((y9.getD y1.toNat ZR).a.1, (y9.getD y1.toNat ZR).a.2.1, (y9.getD y1.toNat ZR).a.2.2.1, (y9.getD y1.toNat ZR).a.2.2.2.1, (y9.getD y1.toNat ZR).a.2.2.2.2.1, (y9.getD y1.toNat ZR).a.2.2.2.2.2.1, (y9.getD y1.toNat ZR).a.2.2.2.2.2.2, (y9.getD y1.toNat ZR).kids)) then Zf else chk (decide ((0 : Int) ≤ y0) && decide (y0 < (↑y11.length : Int))) (chk (decide ((0 : Int) ≤ y0) && decide (y0 < (↑y11.length : Int))) (f1123_L0 n m0 y0 (IntKind.i64.wrap (y1 + (1 : Int))) y2 y3 y4 y5 y6 y7 y8 y9 y10 (y11.set y0.toNat (IntKind.i64.wrap (y11.getD y0.toNat (0 : Int) + (1 : Int))))))))) else bif y0 == (↑y10.length : Int) then Zf else chk (decide ((0 : Int) ≤ y1) && decide (y1 < (↑y9.length : Int))) (bif !Sp.partR (Sp.mkT ((y9.getD y1.toNat ZR).a.1, (y9.getD y1.toNat ZR).a.2.1, (y9.getD y1.toNat ZR).a.2.2.1, (y9.getD y1.toNat ZR).a.2.2.2.1, (y9.getD y1.toNat ZR).a.2.2.2.2.1, (y9.getD y1.toNat ZR).a.2.2.2.2.2.1, (y9.getD y1.toNat ZR).a.2.2.2.2.2.2, (y9.getD y1.toNat ZR).kids)) then Zf else chk (decide ((0 : Int) ≤ y0) && decide (y0 < (↑y11.length : Int))) (chk (decide ((0 : Int) ≤ y0) && decide (y0 < (↑y11.length : Int))) (f1123_L0 n m0 y0 (IntKind.i64.wrap (y1 + (1 : Int))) y2 y3 y4 y5 y6 y7 y8 y9 y10 (y11.set y0.toNat (IntKind.i64.wrap (y11.getD y0.toNat (0 : Int) + (1 : Int))))))) := by kernel_rfl
theorem f1123_raw (n : Nat) (x0 x1 : Int) (x2 x3 : ByteArray) (x4 x5 : Int) (x6 : ByteArray) (x7 : List ZT) : abody Γ (orc [e1158, e79]) n 26 [XV.mk true [ZC Zi x0, ZC Zi x1, ZC Ty.str x2, ZC Ty.str x3, ZC Zi x4, ZC Zi x5, ZC Ty.str x6, ZC ZA.rose.slice x7]] = f1123_L0 n n (0 : Int) (0 : Int) x0 x1 x2 x3 x4 x5 x6 x7 [(5 : Int), (6 : Int), (7 : Int), (8 : Int), (9 : Int), (10 : Int), (11 : Int)] (List.replicate (7 : Nat) (0 : Int)) := by kernel_rfl

end Go.Proofs.GR.T

set_option maxRecDepth 3000000
set_option maxHeartbeats 100000000
namespace Go.Proofs.GR.T
open Go Go.Proofs Go.Proofs.GR
def Sp.endsB (sets : Bool) : Bool → List RT → Bool
  | _, [] => true
  | first, r :: l => bif !Sp.partR r then false else bif r.a.1 == (12 : Int) then (bif sets then Sp.endsB sets false l else bif r.a.1 == (8 : Int) then bif l.isEmpty then bif !first then Sp.endsB sets false l else bif !!sets then false else Sp.endsB sets false l else false else false) else bif r.a.1 == (8 : Int) then bif l.isEmpty then bif !first then Sp.endsB sets false l else bif !!sets then false else Sp.endsB sets false l else false else false
def Sp.endsS (ks : List RT) (sets : Bool) : Bool := bif Sp.endsB sets true ks then (bif !sets then true else decide ((ks.length : Int) > (0 : Int))) else false
noncomputable def e1124 : Ent := { f := n1124, ins := [Sh.agg aT, Sh.one cB], outs := [Sh.one cB], upd := [], pre := fun _ => true, spec := fun a => Sp.endsS a.1.2.2.2.2.2.2.2 a.2, wrt := fun _ => () }
theorem ends_loop (n : Nat) (s : Bool) (x0 x1 : Int) (x2 x3 : ByteArray) (x4 x5 : Int) (x6 : ByteArray) (xs : List RT) (hl : xs.length ≤ 9223372036854775807) : ∀ (d k m : Nat), k + d = xs.length → d < m →
    f1124_L0 n m s k x0 x1 x2 x3 x4 x5 x6 xs = some (rBo (bif Sp.endsB s (Nat.beq k 0) (xs.drop k) then (bif !s then true else decide ((xs.length : Int) > (0 : Int))) else false)) := by
  intro d
  induction d with
  | zero =>
    intro k m hk hm
    obtain ⟨m, rfl⟩ := succ_of hm
    rw [f1124_L0_step, nat_ge (by omega), cond_false, List.drop_of_length_le (by omega), Sp.endsB, cond_true]
    cases s <;> rfl
  | succ d ih =>
    intro k m hk hm
    obtain ⟨m, rfl⟩ := succ_of hm
    have hlt : k < xs.length := by omega
    have ih2 := ih (k + 1) m (by omega) (by omega)
    have hb : Nat.beq (k + 1) 0 = false := rfl
    rw [hb] at ih2
    have e1 : ((k : Int) == IntKind.i64.wrap ((xs.length : Int) - 1)) = (xs.drop (k + 1)).isEmpty := by
      rw [wrap64 (by omega) (by omega)]
      by_cases hd : k + 1 = xs.length
      · rw [List.drop_of_length_le (by omega)]
        exact decide_eq_true (show (k : Int) = (xs.length : Int) - 1 by omega)
      · have h1 : ((k : Int) == (xs.length : Int) - 1) = false := decide_eq_false (show ¬(k : Int) = (xs.length : Int) - 1 by omega)
        rw [h1]
        have h2 : (xs.drop (k + 1)).length ≠ 0 := by rw [List.length_drop]; omega
        cases h3 : xs.drop (k + 1) with
        | nil => rw [h3] at h2; exact absurd rfl h2
        | cons a l => rfl
    have e2 : decide ((k : Int) > 0) = !Nat.beq k 0 := by
      cases k with
      | zero => rfl
      | succ k => exact decide_eq_true (by omega)
    rw [f1124_L0_step, nat_lt hlt, cond_true, guard0, chkT, chkT, getD_nat xs k _ hlt, next64 hlt hl, mkT_flds, e1, e2, ih2, List.drop_eq_getElem_cons hlt, Sp.endsB]
    cases Sp.partR xs[k] with
    | false => rfl
    | true =>
      cases xs[k].a.1 == (12 : Int) <;> cases xs[k].a.1 == (8 : Int) <;> cases s <;> cases (xs.drop (k + 1)).isEmpty <;> cases Nat.beq k 0 <;> rfl
theorem e1124_core (x0 x1 : Int) (x2 x3 : ByteArray) (x4 x5 : Int) (x6 : ByteArray) (x7 : List RT) (s : Bool) (hl : x7.length ≤ maxLen) : ∃ n, abody Γ (orc [e1158]) n n1124 (e1124.args ((x0, x1, x2, x3, x4, x5, x6, x7), s)) = some (e1124.res ((x0, x1, x2, x3, x4, x5, x6, x7), s)) := by
  have hl : x7.length ≤ 9223372036854775807 := hl
  refine ⟨x7.length + 1, (f1124_raw _ x0 x1 x2 x3 x4 x5 x6 x7 s).trans ?_⟩
  exact ends_loop _ s x0 x1 x2 x3 x4 x5 x6 x7 hl x7.length 0 _ (Nat.zero_add _) (Nat.lt_succ_self _)
theorem e1124_ok : Valid PP Γ e1124 := valid_len ok (vcons e1158_ok vnil) fun a _ hl => e1124_core a.1.1 a.1.2.1 a.1.2.2.1 a.1.2.2.2.1 a.1.2.2.2.2.1 a.1.2.2.2.2.2.1 a.1.2.2.2.2.2.2.1 a.1.2.2.2.2.2.2.2 a.2 (hl _ (List.mem_cons_self) _ (List.mem_cons_of_mem _ (List.mem_cons_of_mem _ (List.mem_cons_of_mem _ (List.mem_cons_of_mem _ (List.mem_cons_of_mem _ (List.mem_cons_of_mem _ (List.mem_cons_of_mem _ List.mem_cons_self)))))))).1
def Sp.cntK (k : Int) : List RT → Nat
  | [] => 0
  | r :: l => (bif r.a.1 == k then 1 else 0) + Sp.cntK k l
def Sp.ups : List RT → Int → Bool
  | [], _ => true
  | r :: l, p => bif decide (p ≤ r.a.1) && decide (r.a.1 ≤ (11 : Int)) then bif Sp.partR r then Sp.ups l r.a.1 else false else false
def Sp.fin7 (ks : List RT) : Bool := bif decide ((Sp.cntK 5 ks : Int) > (0 : Int)) then bif (Sp.f79 (Sp.cntK 6 ks : Int) (1 : Int) (2 : Int)).1 then bif (Sp.cntK 7 ks : Int) == IntKind.i64.wrap ((Sp.cntK 6 ks : Int) - (1 : Int)) then bif decide ((Sp.cntK 8 ks : Int) ≤ (1 : Int)) then bif decide ((Sp.cntK 9 ks : Int) ≤ (1 : Int)) then decide ((Sp.cntK 11 ks : Int) ≤ (1 : Int)) else false else false else false else false else false
def Sp.shapeB (ks : List RT) : Bool := bif Sp.ups ks (5 : Int) then Sp.fin7 ks else false
noncomputable def e1123 : Ent := { f := n1123, ins := [Sh.agg aT], outs := [Sh.one cB], upd := [], pre := fun _ => true, spec := fun a => Sp.shapeB a.2.2.2.2.2.2.2, wrt := fun _ => () }
abbrev ord7 : List Int := [(5 : Int), (6 : Int), (7 : Int), (8 : Int), (9 : Int), (10 : Int), (11 : Int)]
theorem cntK_app (k : Int) : ∀ a b : List RT, Sp.cntK k (a ++ b) = Sp.cntK k a + Sp.cntK k b
  | [], b => (Nat.zero_add _).symm
  | r :: a, b => by
    show (bif r.a.1 == k then 1 else 0) + Sp.cntK k (a ++ b) = (bif r.a.1 == k then 1 else 0) + Sp.cntK k a + Sp.cntK k b
    rw [cntK_app k a b, Nat.add_assoc]
theorem cntK_le (k : Int) : ∀ a : List RT, Sp.cntK k a ≤ a.length
  | [] => Nat.le_refl _
  | r :: a => by
    have := cntK_le k a
    show (bif r.a.1 == k then 1 else 0) + Sp.cntK k a ≤ a.length + 1
    cases r.a.1 == k
    · show 0 + Sp.cntK k a ≤ _; omega
    · show 1 + Sp.cntK k a ≤ _; omega
theorem ord7_at {p : Nat} (h : p < 7) (d : Int) : ord7.getD p d = (p : Int) + 5 := by
  match p, h with
  | 0, _ | 1, _ | 2, _ | 3, _ | 4, _ | 5, _ | 6, _ => rfl
def cntOK (cs : List Int) (done : List RT) : Prop := cs.length = 7 ∧ ∀ j : Nat, j < 7 → cs.getD j (0 : Int) = (Sp.cntK ((j : Int) + 5) done : Nat)
theorem cnt_next {cs : List Int} {done : List RT} {r : RT} {p : Nat} (h : cntOK cs done) (hp : p < 7) (hr : r.a.1 = (p : Int) + 5) (hl : done.length ≤ 9223372036854775806) : cntOK (cs.set p (IntKind.i64.wrap (cs.getD p (0 : Int) + 1))) (done ++ [r]) := by
  obtain ⟨h1, h2⟩ := h
  refine ⟨by rw [List.length_set]; exact h1, fun j hj => ?_⟩
  rw [cntK_app]
  have hc := cntK_le ((j : Int) + 5) done
  have e1 : Sp.cntK ((j : Int) + 5) [r] = bif r.a.1 == (j : Int) + 5 then 1 else 0 := Nat.add_zero _
  rw [e1]
  by_cases hjp : j = p
  · rw [← hjp] at hr ⊢
    have e2 : (r.a.1 == (j : Int) + 5) = true := decide_eq_true hr
    rw [e2, cond_true, h2 j hj, wrap64 (by omega) (by omega), List.getD_eq_getElem?_getD, List.getElem?_set_self (by omega)]
    exact (Int.natCast_succ _).symm
  · have e2 : (r.a.1 == (j : Int) + 5) = false := decide_eq_false (show ¬r.a.1 = (j : Int) + 5 by omega)
    rw [e2, cond_false, Nat.add_zero, ← h2 j hj, List.getD_eq_getElem?_getD, List.getElem?_set_ne (fun h => hjp h.symm), List.getD_eq_getElem?_getD]
theorem shape_L1 (n m0 : Nat) (x0 x1 : Int) (x2 x3 : ByteArray) (x4 x5 : Int) (x6 : ByteArray) (xs : List RT) (hl : xs.length ≤ 9223372036854775807) (k : Nat) (hk : k < xs.length) (cs : List Int) (hc : cs.length = 7) (F : Nat → Option Res)
    (hF : ∀ p : Nat, p < 7 → xs[k].a.1 = (p : Int) + 5 → f1123_L0 n m0 p ((k + 1 : Nat) : Int) x0 x1 x2 x3 x4 x5 x6 xs ord7 (cs.set p (IntKind.i64.wrap (cs.getD p (0 : Int) + 1))) = F p) : ∀ (d p m : Nat), p + d = 7 → d < m →
    f1123_L1 n m0 m p k x0 x1 x2 x3 x4 x5 x6 xs ord7 cs = bif decide ((p : Int) + 5 ≤ xs[k].a.1) && decide (xs[k].a.1 ≤ (11 : Int)) then bif Sp.partR xs[k] then F (xs[k].a.1 - 5).toNat else some (rBo false) else some (rBo false) := by
  have eo : ((ord7.length : Nat) : Int) = 7 := rfl
  intro d
  induction d with
  | zero =>
    intro p m hp hm
    obtain ⟨m, rfl⟩ := succ_of hm
    obtain rfl : p = 7 := by omega
    have e : (decide (((7 : Nat) : Int) + 5 ≤ xs[k].a.1) && decide (xs[k].a.1 ≤ (11 : Int))) = false := by
      rw [Bool.and_eq_false_iff, decide_eq_false_iff_not, decide_eq_false_iff_not]; omega
    rw [f1123_L1_step, e, eo]; rfl
  | succ d ih =>
    intro p m hp hm
    obtain ⟨m, rfl⟩ := succ_of hm
    have ih2 := ih (p + 1) m (by omega) (by omega)
    have h7 : p < 7 := by omega
    have hlt : decide ((p : Int) < 7) = true := decide_eq_true (by omega)
    have hw : IntKind.i64.wrap ((p : Int) + 1) = ((p + 1 : Nat) : Int) := by rw [wrap64 (by omega) (by omega)]; omega
    have hc2 : decide ((p : Int) < ((cs.length : Nat) : Int)) = true := decide_eq_true (by omega)
    have hne : ((p : Int) == (7 : Int)) = false := decide_eq_false (show ¬(p : Int) = 7 by omega)
    have ht : ((p : Int)).toNat = p := Int.toNat_natCast p
    rw [f1123_L1_step, eo, hlt, cond_true, guard0, chkT, nat_lt hk, guard0, chkT, getD_nat xs k _ hk, next64 hk hl, hw, ih2, hne, hc2, guard0, mkT_flds, ht, ord7_at h7]
    by_cases he : xs[k].a.1 = (p : Int) + 5
    · have e1 : ((p : Int) + 5 != xs[k].a.1) = false := by rw [he]; exact bne_self_eq_false _
      have e2 : (decide ((p : Int) + 5 ≤ xs[k].a.1) && decide (xs[k].a.1 ≤ (11 : Int))) = true := by
        rw [Bool.and_eq_true_iff, decide_eq_true_iff, decide_eq_true_iff]; omega
      rw [e1, e2, cond_false, cond_false, cond_true, chkT, chkT, chkT, hF p h7 he, show (xs[k].a.1 - 5).toNat = p by omega]
      cases Sp.partR xs[k] <;> rfl
    · have e1 : ((p : Int) + 5 != xs[k].a.1) = true := bne_iff_ne.2 fun h => he h.symm
      have e2 : decide ((p : Int) + 5 ≤ xs[k].a.1) = decide (((p + 1 : Nat) : Int) + 5 ≤ xs[k].a.1) := decide_eq_decide.2 (by omega)
      rw [e1, cond_true, e2]
theorem shape_loop (n : Nat) (hn : 7 < n) (x0 x1 : Int) (x2 x3 : ByteArray) (x4 x5 : Int) (x6 : ByteArray) (xs : List RT) (hl : xs.length ≤ 9223372036854775807) : ∀ (d k m p : Nat) (cs : List Int), k + d = xs.length → d < m → p < 7 → cntOK cs (xs.take k) →
    f1123_L0 n m p k x0 x1 x2 x3 x4 x5 x6 xs ord7 cs = some (rBo (bif Sp.ups (xs.drop k) ((p : Int) + 5) then Sp.fin7 xs else false)) := by
  intro d
  induction d with
  | zero =>
    intro k m p cs hk hm hp hc
    obtain ⟨m, rfl⟩ := succ_of hm
    obtain ⟨h1, h2⟩ := hc
    have l7 : ∀ j : Int, j < 7 → decide (j < ((cs.length : Nat) : Int)) = true := fun j hj => decide_eq_true (by omega)
    rw [List.take_of_length_le (by omega)] at h2
    have g0 : cs.getD 0 (0 : Int) = (Sp.cntK 5 xs : Nat) := h2 0 (by omega)
    have g1 : cs.getD 1 (0 : Int) = (Sp.cntK 6 xs : Nat) := h2 1 (by omega)
    have g2 : cs.getD 2 (0 : Int) = (Sp.cntK 7 xs : Nat) := h2 2 (by omega)
    have g3 : cs.getD 3 (0 : Int) = (Sp.cntK 8 xs : Nat) := h2 3 (by omega)
    have g4 : cs.getD 4 (0 : Int) = (Sp.cntK 9 xs : Nat) := h2 4 (by omega)
    have g6 : cs.getD 6 (0 : Int) = (Sp.cntK 11 xs : Nat) := h2 6 (by omega)
    rw [f1123_L0_step, nat_ge (by omega), cond_false, List.drop_of_length_le (by omega), Sp.ups, cond_true, l7 0 (by omega), l7 1 (by omega), l7 2 (by omega), l7 3 (by omega), l7 4 (by omega), l7 6 (by omega), g0, g1, g2, g3, g4, g6]
    simp only [chkT]
    unfold Sp.fin7
    cases decide (((Sp.cntK 5 xs : Nat) : Int) > 0) with
    | false => rfl
    | true =>
    cases (Sp.f79 ((Sp.cntK 6 xs : Nat) : Int) 1 2).1 with
    | false => rfl
    | true =>
    cases ((Sp.cntK 7 xs : Nat) : Int) == IntKind.i64.wrap (((Sp.cntK 6 xs : Nat) : Int) - 1) with
    | false => rfl
    | true =>
    cases decide (((Sp.cntK 8 xs : Nat) : Int) ≤ 1) with
    | false => rfl
    | true => cases decide (((Sp.cntK 9 xs : Nat) : Int) ≤ 1) <;> rfl
  | succ d ih =>
    intro k m p cs hk hm hp hc
    obtain ⟨m, rfl⟩ := succ_of hm
    have hlt : k < xs.length := by omega
    rw [f1123_L0_step, nat_lt hlt, cond_true, shape_L1 n m x0 x1 x2 x3 x4 x5 x6 xs hl k hlt cs hc.1 (fun q => some (rBo (bif Sp.ups (xs.drop (k + 1)) ((q : Int) + 5) then Sp.fin7 xs else false))) (fun q hq hr => by
      refine ih (k + 1) m q _ (by omega) (by omega) hq ?_
      rw [take_succ_get hlt]
      exact cnt_next hc hq hr (by rw [List.length_take]; omega)) (7 - p) p n (by omega) (by omega), List.drop_eq_getElem_cons hlt, Sp.ups]
    cases hb : decide ((p : Int) + 5 ≤ xs[k].a.1) && decide (xs[k].a.1 ≤ (11 : Int)) with
    | false => rfl
    | true =>
      rw [Bool.and_eq_true_iff, decide_eq_true_iff, decide_eq_true_iff] at hb
      show (bif Sp.partR xs[k] then some (rBo (bif Sp.ups (xs.drop (k + 1)) (((xs[k].a.1 - 5).toNat : Int) + 5) then Sp.fin7 xs else false)) else some (rBo false)) = _
      rw [show ((xs[k].a.1 - 5).toNat : Int) + 5 = xs[k].a.1 by omega]
      cases Sp.partR xs[k] <;> rfl
theorem e1123_core (x0 x1 : Int) (x2 x3 : ByteArray) (x4 x5 : Int) (x6 : ByteArray) (x7 : List RT) (hl : x7.length ≤ maxLen) : ∃ n, abody Γ (orc [e1158, e79]) n n1123 (e1123.args (x0, x1, x2, x3, x4, x5, x6, x7)) = some (e1123.res (x0, x1, x2, x3, x4, x5, x6, x7)) := by
  have hl : x7.length ≤ 9223372036854775807 := hl
  refine ⟨x7.length + 8, (f1123_raw _ x0 x1 x2 x3 x4 x5 x6 x7).trans ?_⟩
  refine shape_loop _ (by omega) x0 x1 x2 x3 x4 x5 x6 x7 hl x7.length 0 _ 0 _ (Nat.zero_add _) (by omega) (by omega) ⟨rfl, fun j hj => ?_⟩
  match j, hj with
  | 0, _ | 1, _ | 2, _ | 3, _ | 4, _ | 5, _ | 6, _ => rfl
theorem e1123_ok : Valid PP Γ e1123 := valid_len ok (vcons e1158_ok (vcons e79_ok vnil)) fun a _ hl => e1123_core a.1 a.2.1 a.2.2.1 a.2.2.2.1 a.2.2.2.2.1 a.2.2.2.2.2.1 a.2.2.2.2.2.2.1 a.2.2.2.2.2.2.2 (hl _ (List.mem_cons_self) _ (List.mem_cons_of_mem _ (List.mem_cons_of_mem _ (List.mem_cons_of_mem _ (List.mem_cons_of_mem _ (List.mem_cons_of_mem _ (List.mem_cons_of_mem _ (List.mem_cons_of_mem _ List.mem_cons_self)))))))).1
end Go.Proofs.GR.T

set_option maxRecDepth 3000000
set_option maxHeartbeats 100000000
namespace Go.Proofs.GR.T
open Go Go.Proofs Go.Proofs.GR
noncomputable def f1096_L0 (n m0 : Nat) (y0 y1 y2 : Int) (y3 y4 : ByteArray) (y5 y6 : Int) (y7 : ByteArray) (y8 : List ZT) : Option Res := loopAt Γ (orc [e1018, e1123, e194, e1019, e1124]) n (15 : Nat) (0 : Nat) [] [Pth.r, Pth.r, Pth.l, Pth.r, Pth.b, Pth.r, Pth.r, Pth.r, Pth.l, Pth.r, Pth.l, Pth.r, Pth.b] m0 (St.mk (Zn :: Slot.val (Val.one (Cell.ptr (0 : Nat) (0 : Nat))) :: Zn :: ZS Zi y0 :: ZN 74 []) [AObj.box (34 : Nat) [Cell.dat Zi y1, Cell.dat Zi y2, Cell.dat Ty.str y3, Cell.dat Ty.str y4, Cell.dat Zi y5, Cell.dat Zi y6, Cell.dat Ty.str y7, Cell.dat ZA.rose.slice y8]])
theorem f1096_L0_step (n m0 : Nat) (y0 y1 y2 : Int) (y3 y4 : ByteArray) (y5 y6 : Int) (y7 : ByteArray) (y8 : List ZT) : f1096_L0 n (m0 + 1) y0 y1 y2 y3 y4 y5 y6 y7 y8 = bif decide (y0 < (↑y8.length : Int)) then chk (decide ((0 : Int) ≤ y0) && decide (y0 < (↑y8.length : Int))) (bif !Sp.lT (Sp.mkT ((y8.getD y0.toNat ZR).a.1, (y8.getD y0.toNat ZR).a.2.1, (y8.getD y0.toNat ZR).a.2.2.1, (y8.getD y0.toNat ZR).a.2.2.2.1, (y8.getD y0.toNat ZR).a.2.2.2.2.1, (y8.getD y0.toNat ZR).a.2.2.2.2.2.1, (y8.getD y0.toNat ZR).a.2.2.2.2.2.2, (y8.getD y0.toNat ZR).kids)) false then Zf else f1096_L0 n m0 (IntKind.i64.wrap (y0 + (1 : Int))) y1 y2 y3 y4 y5 y6 y7 y8) else Zt := by kernel_rfl
theorem f1096_raw (n : Nat) (x0 x1 : Int) (x2 x3 : ByteArray) (x4 x5 : Int) (x6 : ByteArray) (x7 : List ZT) : abody Γ (orc [e1018, e1123, e194, e1019, e1124]) n 15 [XV.mk true [ZC Zi x0, ZC Zi x1, ZC Ty.str x2, ZC Ty.str x3, ZC Zi x4, ZC Zi x5, ZC Ty.str x6, ZC ZA.rose.slice x7]] = bif decide (Sp.leftT (Sp.mkT (x0, x1, x2, x3, x4, x5, x6, x7)) (120 : Int) (1 : Int) < (0 : Int)) then Zf else bif x1 != (0 : Int) then Zf else bif !x3.toList == (ByteArray.mk #[]).toList then Zf else bif !(Go.Proofs.GR.eqI x4 (0 : Int) && (Go.Proofs.GR.eqI x5 (0 : Int) && (Go.Proofs.GR.eqS x6 ByteArray.empty && true))) then Zf else bif x0 == (1 : Int) then bif x2.toList == (ByteArray.mk #[]).toList then ZB (Sp.shapeB x7) else Zf else bif x0 == (2 : Int) then bif !Sp.isFreeS x2 then Zf else bif (↑x7.length : Int) == (0 : Int) then Zf else f1096_L0 n n (0 : Int) x0 x1 x2 x3 x4 x5 x6 x7 else bif x0 == (3 : Int) then bif Sp.isFreeS x2 then ZB (Sp.endsS x7 true) else Zf else bif x0 == (4 : Int) then bif Sp.isFreeS x2 then ZB (Sp.endsS x7 false) else Zf else Zf := by kernel_rfl

def Sp.litS (r : RT) : Bool := Sp.lT r false
def Sp.sqlX (x0 x1 : Int) (x2 x3 : ByteArray) (x4 x5 : Int) (x6 : ByteArray) (x7 : List RT) : Bool :=
  bif decide (Sp.leftT (Sp.mkT (x0, x1, x2, x3, x4, x5, x6, x7)) (120 : Int) (1 : Int) < (0 : Int)) then false
  else bif x1 != (0 : Int) then false
  else bif !Sp.mtS x3 then false
  else bif !Sp.noVal x4 x5 x6 then false
  else bif x0 == (1 : Int) then bif Sp.mtS x2 then Sp.shapeB x7 else false
  else bif x0 == (2 : Int) then bif !Sp.isFreeS x2 then false else bif (x7.length : Int) == (0 : Int) then false else Sp.allW Sp.litS x7
  else bif x0 == (3 : Int) then bif Sp.isFreeS x2 then Sp.endsS x7 true else false
  else bif x0 == (4 : Int) then bif Sp.isFreeS x2 then Sp.endsS x7 false else false
  else false
def Sp.sqlR (r : RT) : Bool := Sp.sqlX r.a.1 r.a.2.1 r.a.2.2.1 r.a.2.2.2.1 r.a.2.2.2.2.1 r.a.2.2.2.2.2.1 r.a.2.2.2.2.2.2 r.kids
noncomputable def e1096 : Ent := { f := n1096, ins := [Sh.agg aT], outs := [Sh.one cB], upd := [], pre := fun _ => true, spec := fun a => Sp.sqlR (Sp.mkT a), wrt := fun _ => () }
theorem lit_loop (n : Nat) (x0 x1 : Int) (x2 x3 : ByteArray) (x4 x5 : Int) (x6 : ByteArray) (xs : List RT) (hl : xs.length ≤ 9223372036854775807) : f1096_L0 n (xs.length + 1) 0 x0 x1 x2 x3 x4 x5 x6 xs = some (rBo (Sp.allW Sp.litS xs)) := by
  have := all_loop (p := Sp.litS) (R := rBo) xs (fun m k => f1096_L0 n m k x0 x1 x2 x3 x4 x5 x6 xs) (fun m k hk => by
    show f1096_L0 _ _ _ _ _ _ _ _ _ _ _ = _
    rw [f1096_L0_step, nat_ge hk, cond_false]) (fun m k h => by
    show f1096_L0 _ _ _ _ _ _ _ _ _ _ _ = _
    rw [f1096_L0_step, nat_lt h, cond_true, guard0, chkT, getD_nat xs k _ h, next64 h hl, mkT_flds]
    unfold Sp.litS
    cases Sp.lT xs[k] false <;> rfl) xs.length 0 (xs.length + 1) (Nat.zero_add _) (Nat.lt_succ_self _)
  rw [List.drop_zero] at this
  exact this
theorem e1096_core (x0 x1 : Int) (x2 x3 : ByteArray) (x4 x5 : Int) (x6 : ByteArray) (x7 : List RT) (hl : x7.length ≤ maxLen) : ∃ n, abody Γ (orc [e1018, e1123, e194, e1019, e1124]) n n1096 (e1096.args (x0, x1, x2, x3, x4, x5, x6, x7)) = some (e1096.res (x0, x1, x2, x3, x4, x5, x6, x7)) := by
  have hl : x7.length ≤ 9223372036854775807 := hl
  refine ⟨x7.length + 1, (f1096_raw _ x0 x1 x2 x3 x4 x5 x6 x7).trans ?_⟩
  show _ = some (rBo (Sp.sqlX x0 x1 x2 x3 x4 x5 x6 x7))
  rw [lit_loop _ x0 x1 x2 x3 x4 x5 x6 x7 hl]
  unfold Sp.sqlX Sp.mtS Sp.noVal
  generalize decide (Sp.leftT (Sp.mkT (x0, x1, x2, x3, x4, x5, x6, x7)) (120 : Int) (1 : Int) < (0 : Int)) = b0
  generalize (x1 != (0 : Int)) = b1
  generalize (x3.toList == (ByteArray.mk #[]).toList) = b2
  generalize (Go.Proofs.GR.eqI x4 (0 : Int) && (Go.Proofs.GR.eqI x5 (0 : Int) && (Go.Proofs.GR.eqS x6 ByteArray.empty && true))) = b3
  generalize (x2.toList == (ByteArray.mk #[]).toList) = b4
  generalize Sp.isFreeS x2 = b5
  generalize ((x7.length : Int) == (0 : Int)) = b6
  cases b0 with
  | true => rfl
  | false =>
  cases b1 with
  | true => rfl
  | false =>
  cases b2 with
  | false => rfl
  | true =>
  cases b3 with
  | false => rfl
  | true =>
  cases x0 == (1 : Int) with
  | true => cases b4 <;> rfl
  | false =>
  cases x0 == (2 : Int) with
  | true => cases b5 <;> cases b6 <;> rfl
  | false =>
  cases x0 == (3 : Int) with
  | true => cases b5 <;> rfl
  | false =>
  cases x0 == (4 : Int) with
  | true => cases b5 <;> rfl
  | false => rfl
theorem e1096_ok : Valid PP Γ e1096 := valid_len ok (vcons e1018_ok (vcons e1123_ok (vcons e194_ok (vcons e1019_ok (vcons e1124_ok vnil))))) fun a _ hl => e1096_core a.1 a.2.1 a.2.2.1 a.2.2.2.1 a.2.2.2.2.1 a.2.2.2.2.2.1 a.2.2.2.2.2.2.1 a.2.2.2.2.2.2.2 (hl _ (List.mem_cons_self) _ (List.mem_cons_of_mem _ (List.mem_cons_of_mem _ (List.mem_cons_of_mem _ (List.mem_cons_of_mem _ (List.mem_cons_of_mem _ (List.mem_cons_of_mem _ (List.mem_cons_of_mem _ List.mem_cons_self)))))))).1
def Sp.f1073_pre (x0 x1 : Int) (x2 x3 : ByteArray) (x4 x5 : Int) (x6 : ByteArray) (x7 : List ZT) : Bool := (bif !Sp.sqlR (Sp.mkT (x0, x1, x2, x3, x4, x5, x6, x7)) then true else (Sp.cnt32 x7))
def Sp.f1073 (x0 x1 : Int) (x2 x3 : ByteArray) (x4 x5 : Int) (x6 : ByteArray) (x7 : List ZT) := (bif !Sp.sqlR (Sp.mkT (x0, x1, x2, x3, x4, x5, x6, x7)) then (([], (1 : Int)), ()) else ((Sp.readS x0 x2 x7, (0 : Int)), ()))
noncomputable def e1073 : Ent := { f := 5, ins := [Sh.agg [C0.dat Zi, C0.dat Zi, C0.dat Ty.str, C0.dat Ty.str, C0.dat Zi, C0.dat Zi, C0.dat Ty.str, C0.dat ZA.rose.slice]], outs := [Sh.one (C0.row Ty.str), Sh.one ZI], upd := [], pre := fun a => Sp.f1073_pre a.1 a.2.1 a.2.2.1 a.2.2.2.1 a.2.2.2.2.1 a.2.2.2.2.2.1 a.2.2.2.2.2.2.1 a.2.2.2.2.2.2.2, spec := fun a => (Sp.f1073 a.1 a.2.1 a.2.2.1 a.2.2.2.1 a.2.2.2.2.1 a.2.2.2.2.2.1 a.2.2.2.2.2.2.1 a.2.2.2.2.2.2.2).1, wrt := fun a => (Sp.f1073 a.1 a.2.1 a.2.2.1 a.2.2.2.1 a.2.2.2.2.1 a.2.2.2.2.2.1 a.2.2.2.2.2.2.1 a.2.2.2.2.2.2.2).2 }
def f1073_g (v : denS [Sh.one (C0.row Ty.str), Sh.one ZI] × denS []) : Res := ⟨mkS [Sh.one (C0.row Ty.str), Sh.one ZI] v.1, mkU [] v.2⟩
theorem f1073_form (x0 x1 : Int) (x2 x3 : ByteArray) (x4 x5 : Int) (x6 : ByteArray) (x7 : List ZT) : abody Γ (orc [e1096, e1097]) 0 5 [XV.mk true [ZC Zi x0, ZC Zi x1, ZC Ty.str x2, ZC Ty.str x3, ZC Zi x4, ZC Zi x5, ZC Ty.str x6, ZC ZA.rose.slice x7]] = chk (Sp.f1073_pre x0 x1 x2 x3 x4 x5 x6 x7) (some (f1073_g (Sp.f1073 x0 x1 x2 x3 x4 x5 x6 x7))) := by
  refine Eq.trans (b := bif !Sp.sqlR (Sp.mkT (x0, x1, x2, x3, x4, x5, x6, x7)) then some (Res.mk [XV.mk false [X.c (X0.row Ty.str [] true)], ZX Zi (1 : Int)] []) else chk (Sp.cnt32 x7) (some (Res.mk [XV.mk false [X.c (X0.row Ty.str (Sp.readS x0 x2 x7) true)], ZX Zi (0 : Int)] []))) (by kernel_rfl) ?_
  unfold Sp.f1073_pre Sp.f1073
  exact (cond_step f1073_g ((lift_plain (rfl))) ((chk_last (rfl))))
theorem e1073_ok : Valid PP Γ e1073 := valid_auto ok (vcons e1096_ok (vcons e1097_ok vnil)) fun a => f1073_form a.1 a.2.1 a.2.2.1 a.2.2.2.1 a.2.2.2.2.1 a.2.2.2.2.2.1 a.2.2.2.2.2.2.1 a.2.2.2.2.2.2.2

def Sp.f1061_pre (x0 x1 : Int) (x2 x3 : ByteArray) (x4 x5 : Int) (x6 : ByteArray) (x7 : List ZT) : Bool := (bif decide (Sp.szT (Sp.mkT (x0, x1, x2, x3, x4, x5, x6, x7)) (1048576 : Int) < (0 : Int)) then true else (Sp.fitTs x7 && (Sp.f1073_pre x0 x1 x2 x3 x4 x5 x6 x7 && (Sp.fitTs x7 && (Sp.f1074_pre x0 x1 x2 x3 x4 x5 x6 x7 && (bif !Sp.eqS (Sp.f1074 x0 x1 x2 x3 x4 x5 x6 x7).1.1 (Sp.f1073 x0 x1 x2 x3 x4 x5 x6 x7).1.1 then true else (bif (Sp.f1074 x0 x1 x2 x3 x4 x5 x6 x7).1.2 != (Sp.f1073 x0 x1 x2 x3 x4 x5 x6 x7).1.2 then true else (Sp.fitTs x7 && (bif !Sp.eqT (Sp.mkT (x0, x1, x2, x3, x4, x5, x6, x7)) (Sp.mkT (x0, x1, x2, x3, x4, x5, x6, x7)) then true else (Sp.f1008_pre x0 x1 x2 x3 x4 x5 x6 x7 (1 : Int) && (bif decide ((Sp.f1008 x0 x1 x2 x3 x4 x5 x6 x7 (1 : Int)).1 < (0 : Int)) then true else (bif !Sp.eqS (Sp.f1074 x0 x1 x2 x3 x4 x5 x6 x7).1.1 (Sp.f1073 x0 x1 x2 x3 x4 x5 x6 x7).1.1 then true else (bif (Sp.f1074 x0 x1 x2 x3 x4 x5 x6 x7).1.2 != (Sp.f1073 x0 x1 x2 x3 x4 x5 x6 x7).1.2 then true else (Sp.small (Sp.f1074 x0 x1 x2 x3 x4 x5 x6 x7).1.1 (1 : Int) && (Sp.small (Sp.markS (Sp.f1074 x0 x1 x2 x3 x4 x5 x6 x7).1.1 (1 : Int)) (1 : Int) && (bif decide (Sp.heldS (Sp.markS (Sp.f1074 x0 x1 x2 x3 x4 x5 x6 x7).1.1 (1 : Int)) (1 : Int) < (0 : Int)) then true else (bif Sp.heldS (Sp.markS (Sp.f1074 x0 x1 x2 x3 x4 x5 x6 x7).1.1 (1 : Int)) (1 : Int) != Sp.addLen (Sp.f1074 x0 x1 x2 x3 x4 x5 x6 x7).1.1 (1 : Int) then true else (Sp.fitTs x7 && (Sp.f1074_pre x0 x1 x2 x3 x4 x5 x6 x7 && (bif !Sp.eqS (Sp.f1074 x0 x1 x2 x3 x4 x5 x6 x7).1.1 (Sp.f1073 x0 x1 x2 x3 x4 x5 x6 x7).1.1 then true else (bif (Sp.f1074 x0 x1 x2 x3 x4 x5 x6 x7).1.2 != (Sp.f1073 x0 x1 x2 x3 x4 x5 x6 x7).1.2 then true else (Sp.small (Sp.markS (Sp.f1074 x0 x1 x2 x3 x4 x5 x6 x7).1.1 (1 : Int)) (1 : Int)))))))))))))))))))))))
def Sp.f1061 (x0 x1 : Int) (x2 x3 : ByteArray) (x4 x5 : Int) (x6 : ByteArray) (x7 : List ZT) := (bif decide (Sp.szT (Sp.mkT (x0, x1, x2, x3, x4, x5, x6, x7)) (1048576 : Int) < (0 : Int)) then (true, ()) else (bif !Sp.eqS (Sp.f1074 x0 x1 x2 x3 x4 x5 x6 x7).1.1 (Sp.f1073 x0 x1 x2 x3 x4 x5 x6 x7).1.1 then (false, ()) else (bif (Sp.f1074 x0 x1 x2 x3 x4 x5 x6 x7).1.2 != (Sp.f1073 x0 x1 x2 x3 x4 x5 x6 x7).1.2 then (false, ()) else (bif !Sp.eqT (Sp.mkT (x0, x1, x2, x3, x4, x5, x6, x7)) (Sp.mkT (x0, x1, x2, x3, x4, x5, x6, x7)) then (false, ()) else (bif decide ((Sp.f1008 x0 x1 x2 x3 x4 x5 x6 x7 (1 : Int)).1 < (0 : Int)) then (false, ()) else (bif !Sp.eqS (Sp.f1074 x0 x1 x2 x3 x4 x5 x6 x7).1.1 (Sp.f1073 x0 x1 x2 x3 x4 x5 x6 x7).1.1 then (false, ()) else (bif (Sp.f1074 x0 x1 x2 x3 x4 x5 x6 x7).1.2 != (Sp.f1073 x0 x1 x2 x3 x4 x5 x6 x7).1.2 then (false, ()) else (bif decide (Sp.heldS (Sp.markS (Sp.f1074 x0 x1 x2 x3 x4 x5 x6 x7).1.1 (1 : Int)) (1 : Int) < (0 : Int)) then (false, ()) else (bif Sp.heldS (Sp.markS (Sp.f1074 x0 x1 x2 x3 x4 x5 x6 x7).1.1 (1 : Int)) (1 : Int) != Sp.addLen (Sp.f1074 x0 x1 x2 x3 x4 x5 x6 x7).1.1 (1 : Int) then (false, ()) else (bif !Sp.eqS (Sp.f1074 x0 x1 x2 x3 x4 x5 x6 x7).1.1 (Sp.f1073 x0 x1 x2 x3 x4 x5 x6 x7).1.1 then (false, ()) else (bif (Sp.f1074 x0 x1 x2 x3 x4 x5 x6 x7).1.2 != (Sp.f1073 x0 x1 x2 x3 x4 x5 x6 x7).1.2 then (false, ()) else (bif decide (Sp.heldS (Sp.markS (Sp.f1074 x0 x1 x2 x3 x4 x5 x6 x7).1.1 (1 : Int)) (1 : Int) < (0 : Int)) then (false, ()) else (bif Sp.heldS (Sp.markS (Sp.f1074 x0 x1 x2 x3 x4 x5 x6 x7).1.1 (1 : Int)) (1 : Int) != Sp.addLen (Sp.f1074 x0 x1 x2 x3 x4 x5 x6 x7).1.1 (1 : Int) then (false, ()) else (true, ()))))))))))))))
noncomputable def e1061 : Ent := { f := 3, ins := [Sh.agg [C0.dat Zi, C0.dat Zi, C0.dat Ty.str, C0.dat Ty.str, C0.dat Zi, C0.dat Zi, C0.dat Ty.str, C0.dat ZA.rose.slice]], outs := [Sh.one (C0.dat Ty.bool)], upd := [], pre := fun a => Sp.f1061_pre a.1 a.2.1 a.2.2.1 a.2.2.2.1 a.2.2.2.2.1 a.2.2.2.2.2.1 a.2.2.2.2.2.2.1 a.2.2.2.2.2.2.2, spec := fun a => (Sp.f1061 a.1 a.2.1 a.2.2.1 a.2.2.2.1 a.2.2.2.2.1 a.2.2.2.2.2.1 a.2.2.2.2.2.2.1 a.2.2.2.2.2.2.2).1, wrt := fun a => (Sp.f1061 a.1 a.2.1 a.2.2.1 a.2.2.2.1 a.2.2.2.2.1 a.2.2.2.2.2.1 a.2.2.2.2.2.2.1 a.2.2.2.2.2.2.2).2 }
def f1061_g (v : denS [Sh.one (C0.dat Ty.bool)] × denS []) : Res := ⟨mkS [Sh.one (C0.dat Ty.bool)] v.1, mkU [] v.2⟩
theorem f1061_form (x0 x1 : Int) (x2 x3 : ByteArray) (x4 x5 : Int) (x6 : ByteArray) (x7 : List ZT) : abody Γ (orc [e1002, e1004, e1073, e1074, e29, e1007, e1008, e30, e31]) 0 3 [XV.mk true [ZC Zi x0, ZC Zi x1, ZC Ty.str x2, ZC Ty.str x3, ZC Zi x4, ZC Zi x5, ZC Ty.str x6, ZC ZA.rose.slice x7]] = chk (Sp.f1061_pre x0 x1 x2 x3 x4 x5 x6 x7) (some (f1061_g (Sp.f1061 x0 x1 x2 x3 x4 x5 x6 x7))) := by
  refine Eq.trans (b := bif decide (Sp.szT (Sp.mkT (x0, x1, x2, x3, x4, x5, x6, x7)) (1048576 : Int) < (0 : Int)) then Zt else chk (Sp.fitTs x7) (chk (Sp.f1073_pre x0 x1 x2 x3 x4 x5 x6 x7) (chk (Sp.fitTs x7) (chk (Sp.f1074_pre x0 x1 x2 x3 x4 x5 x6 x7) (bif !Sp.eqS (Sp.f1074 x0 x1 x2 x3 x4 x5 x6 x7).1.1 (Sp.f1073 x0 x1 x2 x3 x4 x5 x6 x7).1.1 then Zf else bif (Sp.f1074 x0 x1 x2 x3 x4 x5 x6 x7).1.2 != (Sp.f1073 x0 x1 x2 x3 x4 x5 x6 x7).1.2 then Zf else chk (Sp.fitTs x7) (bif !Sp.eqT (Sp.mkT (x0, x1, x2, x3, x4, x5, x6, x7)) (Sp.mkT (x0, x1, x2, x3, x4, x5, x6, x7)) then Zf else chk (Sp.f1008_pre x0 x1 x2 x3 x4 x5 x6 x7 (1 : Int)) (bif decide ((Sp.f1008 x0 x1 x2 x3 x4 x5 x6 x7 (1 : Int)).1 < (0 : Int)) then Zf else bif !Sp.eqS (Sp.f1074 x0 x1 x2 x3 x4 x5 x6 x7).1.1 (Sp.f1073 x0 x1 x2 x3 x4 x5 x6 x7).1.1 then Zf else bif (Sp.f1074 x0 x1 x2 x3 x4 x5 x6 x7).1.2 != (Sp.f1073 x0 x1 x2 x3 x4 x5 x6 x7).1.2 then Zf else chk (Sp.small (Sp.f1074 x0 x1 x2 x3 x4 x5 x6 x7).1.1 (1 : Int)) (chk (Sp.small (Sp.markS (Sp.f1074 x0 x1 x2 x3 x4 x5 x6 x7).1.1 (1 : Int)) (1 : Int)) (bif decide (Sp.heldS (Sp.markS (Sp.f1074 x0 x1 x2 x3 x4 x5 x6 x7).1.1 (1 : Int)) (1 : Int) < (0 : Int)) then Zf else bif Sp.heldS (Sp.markS (Sp.f1074 x0 x1 x2 x3 x4 x5 x6 x7).1.1 (1 : Int)) (1 : Int) != Sp.addLen (Sp.f1074 x0 x1 x2 x3 x4 x5 x6 x7).1.1 (1 : Int) then Zf else chk (Sp.fitTs x7) (chk (Sp.f1074_pre x0 x1 x2 x3 x4 x5 x6 x7) (bif !Sp.eqS (Sp.f1074 x0 x1 x2 x3 x4 x5 x6 x7).1.1 (Sp.f1073 x0 x1 x2 x3 x4 x5 x6 x7).1.1 then Zf else bif (Sp.f1074 x0 x1 x2 x3 x4 x5 x6 x7).1.2 != (Sp.f1073 x0 x1 x2 x3 x4 x5 x6 x7).1.2 then Zf else chk (Sp.small (Sp.markS (Sp.f1074 x0 x1 x2 x3 x4 x5 x6 x7).1.1 (1 : Int)) (1 : Int)) (bif decide (Sp.heldS (Sp.markS (Sp.f1074 x0 x1 x2 x3 x4 x5 x6 x7).1.1 (1 : Int)) (1 : Int) < (0 : Int)) then Zf else bif Sp.heldS (Sp.markS (Sp.f1074 x0 x1 x2 x3 x4 x5 x6 x7).1.1 (1 : Int)) (1 : Int) != Sp.addLen (Sp.f1074 x0 x1 x2 x3 x4 x5 x6 x7).1.1 (1 : Int) then Zf else Zt)))))))))))) (by kernel_rfl) ?_
  unfold Sp.f1061_pre Sp.f1061
  exact (cond_step f1061_g ((lift_plain (rfl))) ((chk_step ((chk_step ((chk_step ((chk_step ((cond_step f1061_g ((lift_plain (rfl))) ((cond_step f1061_g ((lift_plain (rfl))) ((chk_step ((cond_step f1061_g ((lift_plain (rfl))) ((chk_step ((cond_step f1061_g ((lift_plain (rfl))) ((cond_step f1061_g ((lift_plain (rfl))) ((cond_step f1061_g ((lift_plain (rfl))) ((chk_step ((chk_step ((cond_step f1061_g ((lift_plain (rfl))) ((cond_step f1061_g ((lift_plain (rfl))) ((chk_step ((chk_step ((cond_step f1061_g ((lift_plain (rfl))) ((cond_step f1061_g ((lift_plain (rfl))) ((chk_last ((cond_plain f1061_g (rfl) ((cond_plain f1061_g (rfl) (rfl))))))))))))))))))))))))))))))))))))))))))))))))
theorem e1061_ok : Valid PP Γ e1061 := valid_auto ok (vcons e1002_ok (vcons e1004_ok (vcons e1073_ok (vcons e1074_ok (vcons e29_ok (vcons e1007_ok (vcons e1008_ok (vcons e30_ok (vcons e31_ok vnil))))))))) fun a => f1061_form a.1 a.2.1 a.2.2.1 a.2.2.2.1 a.2.2.2.2.1 a.2.2.2.2.2.1 a.2.2.2.2.2.2.1 a.2.2.2.2.2.2.2

end Go.Proofs.GR.T

