/-
  No statement is proved here: what the functions of the law answer, told as plain functions, and that the law's answer is always true.
  No condition.
-/
import Derived.Test.YtpljgmackfjkdaaGreatDoorTPlanRowsf
set_option maxRecDepth 3000000
set_option maxHeartbeats 100000000
namespace Go.Proofs.GR.T
open Go Go.Proofs Go.Proofs.GR
abbrev rII74 (p : Int × Int) : Res := Res.mk [ZX Zi p.1, ZX Zi p.2] []
def Sp.fitC (c : VCo) (v : V3) : Int := (Sp.f236 c.1 c.2.1 c.2.2 v.1 v.2.1 v.2.2).1
def Sp.rowC : List VCo → List V3 → Int → Int × Int
  | c :: cs, v :: vs, i => bif Sp.fitC c v != 0 then (Sp.fitC c v, i) else Sp.rowC cs vs (i + 1)
  | [], _, _ => (0, 0)
  | _ :: _, [], _ => (0, 0)
def Sp.rowT (cs : List VCo) (vs : List V3) : Int × Int := bif (vs.length : Int) != (cs.length : Int) then (12, 0) else Sp.rowC cs vs 0
theorem rowC_loop (cs : List VCo) (vs : List V3) (L : Nat → Int → Option Res) (he : vs.length = cs.length)
    (h0 : ∀ m (k : Nat), cs.length ≤ k → L (m + 1) k = some (rII74 (0, 0)))
    (h1 : ∀ m (k : Nat) (h : k < cs.length) (h2 : k < vs.length), L (m + 1) k = bif Sp.fitC cs[k] vs[k] != 0 then some (rII74 (Sp.fitC cs[k] vs[k], (k : Int))) else L m ((k + 1 : Nat) : Int)) :
    ∀ (d k m : Nat), k + d = cs.length → d < m → L m k = some (rII74 (Sp.rowC (cs.drop k) (vs.drop k) k)) := by
  intro d
  induction d with
  | zero =>
    intro k m hk hm
    obtain ⟨m, rfl⟩ := succ_of hm
    rw [h0 m k (by omega), List.drop_of_length_le (show cs.length ≤ k by omega), Sp.rowC]
  | succ d ih =>
    intro k m hk hm
    obtain ⟨m, rfl⟩ := succ_of hm
    have a : k < cs.length := by omega
    have b : k < vs.length := by omega
    rw [h1 m k a b, ih (k + 1) m (by omega) (by omega), List.drop_eq_getElem_cons a, List.drop_eq_getElem_cons b, Sp.rowC, Int.natCast_add]
    cases Sp.fitC cs[k] vs[k] != 0 <;> rfl
noncomputable def f1384_L0 (n m0 : Nat) (y0 : List (Int × Int × ByteArray)) (y1 : List (ByteArray × Int × Bool)) (y2 y3 : Int) : Option Res := loopAt Γ (orc [e236]) n (98 : Nat) (0 : Nat) [] [Pth.r, Pth.r, Pth.l, Pth.r, Pth.b] m0 (St.mk (Zn :: ZS (Zi.pair (Zi.pair Ty.str)).slice y0 :: ZN 14 (ZS (Ty.str.pair (Zi.pair Ty.bool)).slice y1 :: ZS Zi y2 :: ZS Zi y3 :: ZN 15 [])) [])
theorem f1384_L0_step (n m0 : Nat) (y0 : List (Int × Int × ByteArray)) (y1 : List (ByteArray × Int × Bool)) (y2 y3 : Int) : f1384_L0 n (m0 + 1) y0 y1 y2 y3 = bif decide (y3 < y2) then chk (decide ((0 : Int) ≤ y3) && decide (y3 < (↑y1.length : Int))) (chk (decide ((0 : Int) ≤ y3) && decide (y3 < (↑y0.length : Int))) (bif (Sp.f236 (y1.getD y3.toNat (ByteArray.mk #[], (0 : Int), false)).1 (y1.getD y3.toNat (ByteArray.mk #[], (0 : Int), false)).2.1 (y1.getD y3.toNat (ByteArray.mk #[], (0 : Int), false)).2.2 (y0.getD y3.toNat ((0 : Int), (0 : Int), ByteArray.mk #[])).1 (y0.getD y3.toNat ((0 : Int), (0 : Int), ByteArray.mk #[])).2.1 (y0.getD y3.toNat ((0 : Int), (0 : Int), ByteArray.mk #[])).2.2).1 != (0 : Int) then some (Res.mk [ZX Zi (Sp.f236 (y1.getD y3.toNat (ByteArray.mk #[], (0 : Int), false)).1 (y1.getD y3.toNat (ByteArray.mk #[], (0 : Int), false)).2.1 (y1.getD y3.toNat (ByteArray.mk #[], (0 : Int), false)).2.2 (y0.getD y3.toNat ((0 : Int), (0 : Int), ByteArray.mk #[])).1 (y0.getD y3.toNat ((0 : Int), (0 : Int), ByteArray.mk #[])).2.1 (y0.getD y3.toNat ((0 : Int), (0 : Int), ByteArray.mk #[])).2.2).1, ZX Zi y3] []) else f1384_L0 n m0 y0 y1 y2 (IntKind.i64.wrap (y3 + (1 : Int))))) else some (Res.mk [ZX Zi (0 : Int), ZX Zi (0 : Int)] []) := by kernel_rfl
theorem f1384_raw (n : Nat) (x0 : ByteArray) (x1 : List (ByteArray × Int × Bool)) (x2 : Int) (x3 : List (ByteArray × List Int)) (x4 : List (Int × Int × ByteArray)) : abody Γ (orc [e236]) n 98 [XV.mk true [ZC Ty.str x0, ZC (Ty.str.pair (Zi.pair Ty.bool)).slice x1, ZC Zi x2, ZC (Ty.str.pair Zi.slice).slice x3], ZX (Zi.pair (Zi.pair Ty.str)).slice x4] = bif (↑x4.length : Int) != (↑x1.length : Int) then some (Res.mk [ZX Zi (12 : Int), ZX Zi (0 : Int)] []) else f1384_L0 n n x4 x1 (↑x1.length : Int) (0 : Int) := by kernel_rfl

noncomputable def e1384 : Ent := { f := n1384, ins := [shTb, Sh.one (cL tV)], outs := [Sh.one cI, Sh.one cI], upd := [], pre := fun _ => true, spec := fun a => Sp.rowT a.1.2.1 a.2, wrt := fun _ => () }
theorem e1384_core (x0 : ByteArray) (x1 : List VCo) (x2 : Int) (x3 : List VIx) (x4 : List V3) (h1 : x1.length ≤ maxLen) : ∃ n, abody Γ (orc [e236]) n n1384 (e1384.args ((x0, x1, x2, x3), x4)) = some (rII74 (Sp.rowT x1 x4)) := by
  have h1 : x1.length ≤ 9223372036854775807 := h1
  refine ⟨x1.length + 1, (f1384_raw _ x0 x1 x2 x3 x4).trans ?_⟩
  unfold Sp.rowT
  by_cases he : x4.length = x1.length
  · rw [show ((x4.length : Int) != (x1.length : Int)) = false by simp [he], cond_false, cond_false]
    refine rowC_loop x1 x4 (fun m k => f1384_L0 (x1.length + 1) m x4 x1 x1.length k) he (fun m k hk => ?_) (fun m k h h2 => ?_) x1.length 0 _ (Nat.zero_add _) (Nat.lt_succ_self _)
    · show f1384_L0 _ _ _ _ _ _ = _
      rw [f1384_L0_step, nat_ge hk, cond_false]
    · show f1384_L0 _ _ _ _ _ _ = _
      rw [f1384_L0_step, nat_lt h, cond_true, guard0, chkT, guard2 h2, chkT, getD_nat x1 k _ h, getD_nat x4 k _ h2, next64 h h1]
      rfl
  · rw [show ((x4.length : Int) != (x1.length : Int)) = true by simp; omega]
    rfl
theorem e1384_ok : Valid PP Γ e1384 := valid_len ok (vcons e236_ok vnil) fun a _ hl => e1384_core a.1.1 a.1.2.1 a.1.2.2.1 a.1.2.2.2 a.2 (hl _ (List.mem_cons_self) _ (List.mem_cons_of_mem _ List.mem_cons_self)).1
noncomputable def e141 : Ent := { f := n141, ins := [shTb, Sh.one (cL tV)], outs := [Sh.one cI, Sh.one cI], upd := [], pre := fun _ => true, spec := fun a => Sp.rowT a.1.2.1 a.2, wrt := fun _ => () }
theorem e141_core (x0 : ByteArray) (x1 : List VCo) (x2 : Int) (x3 : List VIx) (x4 : List V3) (h1 : x1.length ≤ maxLen) : ∃ n, abody Γ (orc [e174]) n n141 (e141.args ((x0, x1, x2, x3), x4)) = some (rII74 (Sp.rowT x1 x4)) := by
  have h1 : x1.length ≤ 9223372036854775807 := h1
  refine ⟨x1.length + 1, (f141_raw _ x0 x1 x2 x3 x4).trans ?_⟩
  unfold Sp.rowT
  by_cases he : x4.length = x1.length
  · rw [show ((x4.length : Int) != (x1.length : Int)) = false by simp [he], cond_false, cond_false]
    refine rowC_loop x1 x4 (fun m k => f141_L0 (x1.length + 1) m x4 k x0 x1 x2 x3) he (fun m k hk => ?_) (fun m k h h2 => ?_) x1.length 0 _ (Nat.zero_add _) (Nat.lt_succ_self _)
    · show f141_L0 _ _ _ _ _ _ _ _ = _
      rw [f141_L0_step, nat_ge (show x4.length ≤ k by omega), cond_false]
    · show f141_L0 _ _ _ _ _ _ _ _ = _
      rw [f141_L0_step, nat_lt h2, cond_true, guard2 h, chkT, guard0, chkT, getD_nat x1 k _ h, getD_nat x4 k _ h2, next64 h h1]
      rfl
  · rw [show ((x4.length : Int) != (x1.length : Int)) = true by simp; omega]
    rfl
theorem e141_ok : Valid PP Γ e141 := valid_len ok (vcons e174_ok vnil) fun a _ hl => e141_core a.1.1 a.1.2.1 a.1.2.2.1 a.1.2.2.2 a.2 (hl _ (List.mem_cons_self) _ (List.mem_cons_of_mem _ List.mem_cons_self)).1
abbrev zV3 : V3 := ((0 : Int), (0 : Int), ByteArray.mk #[])
def Sp.pick (row : List V3) : List Int → List V3
  | [] => []
  | c :: cs => row.getD c.toNat zV3 :: Sp.pick row cs
def Sp.inR (n : Nat) (c : Int) : Bool := (decide ((0 : Int) ≤ c) && decide (c < (n : Int)))
def Sp.inK (n : Nat) (c : Int) : Bool := (decide ((0 : Int) ≤ c) && decide (c ≤ (n : Int)))
def Sp.entP (key : Int) (cs : List Int) (row : List V3) : Bool := yes2 (Nat.ble cs.length 8) (yes2 (Nat.ble row.length 8) (yes2 (Sp.inK row.length key) (Sp.allW (Sp.inR row.length) cs)))
def Sp.ent (key : Int) (cs : List Int) (row : List V3) : List V3 := Sp.pick row cs ++ row.take key.toNat
theorem entP_is {key : Int} {cs : List Int} {row : List V3} (h : Sp.entP key cs row = true) : cs.length ≤ 8 ∧ row.length ≤ 8 ∧ Sp.inK row.length key = true ∧ ∀ c ∈ cs, Sp.inR row.length c = true := by
  obtain ⟨h1, h2⟩ := yes2_true h
  obtain ⟨h2, h3⟩ := yes2_true h2
  obtain ⟨h3, h4⟩ := yes2_true h3
  exact ⟨Nat.le_of_ble_eq_true h1, Nat.le_of_ble_eq_true h2, h3, allW_mem.1 h4⟩
theorem pick_len (row : List V3) : ∀ cs, (Sp.pick row cs).length = cs.length
  | [] => rfl
  | c :: cs => by rw [Sp.pick, List.length_cons, pick_len row cs, List.length_cons]
theorem pick_all {p : V3 → Prop} {row : List V3} (h : ∀ v ∈ row, p v) : ∀ cs : List Int, (∀ c ∈ cs, Sp.inR row.length c = true) → ∀ v ∈ Sp.pick row cs, p v
  | [], _, v, hv => by cases hv
  | c :: cs, hc, v, hv => by
    rw [Sp.pick] at hv
    rcases List.mem_cons.1 hv with rfl | hv
    · have h1 := hc c List.mem_cons_self
      unfold Sp.inR at h1
      simp only [Bool.and_eq_true, decide_eq_true_eq] at h1
      have h2 : c.toNat < row.length := by omega
      rw [List.getD, List.getElem?_eq_getElem h2, Option.getD_some]
      exact h _ (List.getElem_mem h2)
    · exact pick_all h cs (fun x hx => hc x (List.mem_cons_of_mem _ hx)) v hv
theorem room32 {n : Nat} (h : n ≤ 1000) : decide (n * 32 ≤ 140737488355328) = true := decide_eq_true (by omega)
noncomputable def f1438_L0 (n m0 : Nat) (y0 : List (Int × Int × ByteArray)) (y1 : Int) (y2 : ByteArray) (y3 : List (ByteArray × Int × Bool)) (y4 : Int) (y5 : List (ByteArray × List Int)) (y6 : ByteArray) (y7 : List Int) (y8 : List (Int × Int × ByteArray)) : Option Res := loopAt Γ (orc []) n (73 : Nat) (0 : Nat) [] [Pth.r, Pth.r, Pth.l, Pth.r, Pth.b] m0 (St.mk (Zn :: Zn :: ZS (Zi.pair (Zi.pair Ty.str)).slice y0 :: Slot.val (Val.one (Cell.ptr (0 : Nat) (0 : Nat))) :: Slot.val (Val.one (Cell.ptr (1 : Nat) (0 : Nat))) :: Zn :: Zn :: Slot.val (Val.one (Cell.own (2 : Nat))) :: ZS Zi y1 :: ZN 25 []) [AObj.box (79 : Nat) [Cell.dat Ty.str y2, Cell.dat (Ty.str.pair (Zi.pair Ty.bool)).slice y3, Cell.dat Zi y4, Cell.dat (Ty.str.pair Zi.slice).slice y5], AObj.box (115 : Nat) [Cell.dat Ty.str y6, Cell.dat Zi.slice y7], AObj.row (Zi.pair (Zi.pair Ty.str)) y8 true])
theorem f1438_L0_step (n m0 : Nat) (y0 : List (Int × Int × ByteArray)) (y1 : Int) (y2 : ByteArray) (y3 : List (ByteArray × Int × Bool)) (y4 : Int) (y5 : List (ByteArray × List Int)) (y6 : ByteArray) (y7 : List Int) (y8 : List (Int × Int × ByteArray)) : f1438_L0 n (m0 + 1) y0 y1 y2 y3 y4 y5 y6 y7 y8 = bif decide (y1 < (↑y7.length : Int)) then chk (decide ((0 : Int) ≤ y1) && decide (y1 < (↑y7.length : Int))) (chk (decide ((0 : Int) ≤ y7.getD y1.toNat (0 : Int)) && decide (y7.getD y1.toNat (0 : Int) < (↑y0.length : Int))) (chk (decide ((y8.length + [((y0.getD (y7.getD y1.toNat (0 : Int)).toNat ((0 : Int), (0 : Int), ByteArray.mk #[])).1, (y0.getD (y7.getD y1.toNat (0 : Int)).toNat ((0 : Int), (0 : Int), ByteArray.mk #[])).2.1, (y0.getD (y7.getD y1.toNat (0 : Int)).toNat ((0 : Int), (0 : Int), ByteArray.mk #[])).2.2)].length) * (32 : Nat) ≤ (140737488355328 : Nat))) (f1438_L0 n m0 y0 (IntKind.i64.wrap (y1 + (1 : Int))) y2 y3 y4 y5 y6 y7 (y8 ++ [((y0.getD (y7.getD y1.toNat (0 : Int)).toNat ((0 : Int), (0 : Int), ByteArray.mk #[])).1, (y0.getD (y7.getD y1.toNat (0 : Int)).toNat ((0 : Int), (0 : Int), ByteArray.mk #[])).2.1, (y0.getD (y7.getD y1.toNat (0 : Int)).toNat ((0 : Int), (0 : Int), ByteArray.mk #[])).2.2)])))) else chk (decide ((0 : Int) ≤ y4) && decide (y4 ≤ (↑y0.length : Int))) (chk (decide ((y8.length + (List.take (y4.toNat - (0 : Nat)) (List.drop (0 : Nat) y0)).length) * (32 : Nat) ≤ (140737488355328 : Nat))) (some (Res.mk [XV.mk false [X.c (X0.row (Zi.pair (Zi.pair Ty.str)) (y8 ++ List.take (y4.toNat - (0 : Nat)) (List.drop (0 : Nat) y0)) true)]] []))) := by kernel_rfl
theorem f1438_raw (n : Nat) (x0 : ByteArray) (x1 : List (ByteArray × Int × Bool)) (x2 : Int) (x3 : List (ByteArray × List Int)) (x4 : ByteArray) (x5 : List Int) (x6 : List (Int × Int × ByteArray)) : abody Γ (orc []) n 73 [XV.mk true [ZC Ty.str x0, ZC (Ty.str.pair (Zi.pair Ty.bool)).slice x1, ZC Zi x2, ZC (Ty.str.pair Zi.slice).slice x3], XV.mk true [ZC Ty.str x4, ZC Zi.slice x5], ZX (Zi.pair (Zi.pair Ty.str)).slice x6] = f1438_L0 n n x6 (0 : Int) x0 x1 x2 x3 x4 x5 [] := by kernel_rfl

theorem f1438_loop (n : Nat) (row : List V3) (x0 : ByteArray) (x1 : List VCo) (x2 : Int) (x3 : List VIx) (x4 : ByteArray) (cs : List Int) (hc : ∀ c ∈ cs, Sp.inR row.length c = true) (h1 : cs.length ≤ 8) (h2 : row.length ≤ 8) (h3 : Sp.inK row.length x2 = true) : ∀ (d k m : Nat) (acc : List V3), k + d = cs.length → d < m → acc.length ≤ k →
    f1438_L0 n m row k x0 x1 x2 x3 x4 cs acc = some (Res.mk [XV.mk false [X.c (X0.row tV (acc ++ (Sp.pick row (cs.drop k) ++ row.take x2.toNat)) true)]] []) := by
  intro d
  induction d with
  | zero =>
    intro k m acc hk hm ha
    obtain ⟨m, rfl⟩ := succ_of hm
    have e : (decide ((0 : Int) ≤ x2) && decide (x2 ≤ (row.length : Int))) = true := h3
    have g : decide ((acc.length + (List.take (x2.toNat - 0) (List.drop 0 row)).length) * 32 ≤ 140737488355328) = true := room32 (by rw [List.length_take, List.length_drop]; omega)
    rw [f1438_L0_step, nat_ge (show cs.length ≤ k by omega), cond_false, e, chkT, g, chkT, List.drop_of_length_le (show cs.length ≤ k by omega)]
    rfl
  | succ d ih =>
    intro k m acc hk hm ha
    obtain ⟨m, rfl⟩ := succ_of hm
    have h : k < cs.length := by omega
    have e : (decide ((0 : Int) ≤ cs[k]) && decide (cs[k] < (row.length : Int))) = true := hc _ (List.getElem_mem h)
    rw [f1438_L0_step, nat_lt h, cond_true, guard0, chkT, getD_nat cs k _ h, e, chkT, next64 h (by omega), List.drop_eq_getElem_cons h, Sp.pick]
    refine (chkQ (room32 (by simp only [List.length_cons, List.length_nil]; omega)) _).trans ?_
    have := ih (k + 1) m (acc ++ [row.getD cs[k].toNat zV3]) (by omega) (by omega) (by rw [List.length_append, List.length_singleton]; omega)
    rw [List.append_assoc] at this
    exact this
noncomputable def e1438 : Ent := { f := n1438, ins := [shTb, Sh.agg [cS, cL tIn], Sh.one (cL tV)], outs := [Sh.one (C0.row tV)], upd := [], pre := fun a => Sp.entP a.1.2.2.1 a.2.1.2 a.2.2, spec := fun a => Sp.ent a.1.2.2.1 a.2.1.2 a.2.2, wrt := fun _ => () }
theorem e1438_core (x0 : ByteArray) (x1 : List VCo) (x2 : Int) (x3 : List VIx) (x4 : ByteArray) (x5 : List Int) (x6 : List V3) (ha : Sp.entP x2 x5 x6 = true) : ∃ n, abody Γ (orc []) n n1438 (e1438.args ((x0, x1, x2, x3), (x4, x5), x6)) = some (Res.mk [XV.mk false [X.c (X0.row tV (Sp.ent x2 x5 x6) true)]] []) := by
  obtain ⟨h1, h2, h3, h4⟩ := entP_is ha
  refine ⟨x5.length + 1, (f1438_raw _ x0 x1 x2 x3 x4 x5 x6).trans ?_⟩
  exact f1438_loop _ x6 x0 x1 x2 x3 x4 x5 h4 h1 h2 h3 x5.length 0 _ [] (Nat.zero_add _) (Nat.lt_succ_self _) (Nat.zero_le _)
theorem e1438_ok : Valid PP Γ e1438 := valid_of ok vnil fun a ha => e1438_core a.1.1 a.1.2.1 a.1.2.2.1 a.1.2.2.2 a.2.1.1 a.2.1.2 a.2.2 ha
def Sp.f1391_pre (x0 : ByteArray) (x1 : List (ByteArray × Int × Bool)) (x2 : Int) (x3 : List (ByteArray × List Int)) (x4 : List (Int × Int × ByteArray)) : Bool := (decide ((0 : Int) ≤ x2) && decide (x2 ≤ (↑x4.length : Int)) && (Sp.kbP (List.take (x2.toNat - (0 : Nat)) (List.drop (0 : Nat) x4))))
def Sp.f1391 (x0 : ByteArray) (x1 : List (ByteArray × Int × Bool)) (x2 : Int) (x3 : List (ByteArray × List Int)) (x4 : List (Int × Int × ByteArray)) := (Sp.key (List.take (x2.toNat - (0 : Nat)) (List.drop (0 : Nat) x4)), ())
noncomputable def e1391 : Ent := { f := 82, ins := [Sh.agg [C0.dat Ty.str, C0.dat (Ty.str.pair (Zi.pair Ty.bool)).slice, C0.dat Zi, C0.dat (Ty.str.pair Zi.slice).slice], Sh.one (C0.dat (Zi.pair (Zi.pair Ty.str)).slice)], outs := [Sh.one (C0.row (Ty.int IntKind.u8))], upd := [], pre := fun a => Sp.f1391_pre a.1.1 a.1.2.1 a.1.2.2.1 a.1.2.2.2 a.2, spec := fun a => (Sp.f1391 a.1.1 a.1.2.1 a.1.2.2.1 a.1.2.2.2 a.2).1, wrt := fun a => (Sp.f1391 a.1.1 a.1.2.1 a.1.2.2.1 a.1.2.2.2 a.2).2 }
def f1391_g (v : denS [Sh.one (C0.row (Ty.int IntKind.u8))] × denS []) : Res := ⟨mkS [Sh.one (C0.row (Ty.int IntKind.u8))] v.1, mkU [] v.2⟩
theorem f1391_form (x0 : ByteArray) (x1 : List (ByteArray × Int × Bool)) (x2 : Int) (x3 : List (ByteArray × List Int)) (x4 : List (Int × Int × ByteArray)) : abody Γ (orc [e1400]) 0 82 [XV.mk true [ZC Ty.str x0, ZC (Ty.str.pair (Zi.pair Ty.bool)).slice x1, ZC Zi x2, ZC (Ty.str.pair Zi.slice).slice x3], ZX (Zi.pair (Zi.pair Ty.str)).slice x4] = chk (Sp.f1391_pre x0 x1 x2 x3 x4) (some (f1391_g (Sp.f1391 x0 x1 x2 x3 x4))) := by
  refine Eq.trans (b := chk (decide ((0 : Int) ≤ x2) && decide (x2 ≤ (↑x4.length : Int))) (chk (Sp.kbP (List.take (x2.toNat - (0 : Nat)) (List.drop (0 : Nat) x4))) (some (Res.mk [XV.mk false [X.c (X0.row (Ty.int IntKind.u8) (Sp.key (List.take (x2.toNat - (0 : Nat)) (List.drop (0 : Nat) x4))) true)]] [])))) (by kernel_rfl) ?_
  unfold Sp.f1391_pre Sp.f1391
  exact (chk_step ((chk_last (rfl))))
theorem e1391_ok : Valid PP Γ e1391 := valid_auto ok (vcons e1400_ok vnil) fun a => f1391_form a.1.1 a.1.2.1 a.1.2.2.1 a.1.2.2.2 a.2

theorem key_append : ∀ a b : List V3, Sp.key (a ++ b) = Sp.key a ++ Sp.key b
  | [], b => by rw [List.nil_append, show Sp.key [] = [] by rw [Sp.key], List.nil_append]
  | v :: a, b => by rw [List.cons_append, Sp.key, Sp.key, key_append a b, List.append_assoc]
theorem key_len : ∀ a : List V3, (∀ v ∈ a, Sp.vOK v = true) → (Sp.key a).length ≤ 200 * a.length
  | [], _ => by rw [Sp.key]; exact Nat.zero_le _
  | v :: a, h => by
    rw [Sp.key, List.length_append, List.length_cons]
    have := kvK_len (h v List.mem_cons_self)
    have := key_len a fun x hx => h x (List.mem_cons_of_mem _ hx)
    omega
theorem kbP_mk {a : List V3} (h : a.length ≤ 100) (h2 : ∀ v ∈ a, Sp.vN v = true) : Sp.kbP a = true := yes2Q (Nat.ble_eq_true_of_le h) (allW_mem.2 h2)
noncomputable def f1439_L0 (n m0 : Nat) (y0 : List (Int × Int × ByteArray)) (y1 : List Int) (y2 y3 : Int) (y4 : ByteArray) (y5 : List (ByteArray × Int × Bool)) (y6 : Int) (y7 : List (ByteArray × List Int)) (y8 : List (Int × Int × ByteArray)) : Option Res := loopAt Γ (orc [e1400, e1391]) n (83 : Nat) (0 : Nat) [] [Pth.r, Pth.r, Pth.l, Pth.r, Pth.b] m0 (St.mk (Zn :: Zn :: ZS (Zi.pair (Zi.pair Ty.str)).slice y0 :: Slot.val (Val.one (Cell.ptr (0 : Nat) (0 : Nat))) :: ZN 3 (Slot.val (Val.one (Cell.own (1 : Nat))) :: ZN 4 (ZS Zi.slice y1 :: ZS Zi y2 :: ZS Zi y3 :: ZN 17 []))) [AObj.box (79 : Nat) [Cell.dat Ty.str y4, Cell.dat (Ty.str.pair (Zi.pair Ty.bool)).slice y5, Cell.dat Zi y6, Cell.dat (Ty.str.pair Zi.slice).slice y7], AObj.row (Zi.pair (Zi.pair Ty.str)) y8 true])
theorem f1439_L0_step (n m0 : Nat) (y0 : List (Int × Int × ByteArray)) (y1 : List Int) (y2 y3 : Int) (y4 : ByteArray) (y5 : List (ByteArray × Int × Bool)) (y6 : Int) (y7 : List (ByteArray × List Int)) (y8 : List (Int × Int × ByteArray)) : f1439_L0 n (m0 + 1) y0 y1 y2 y3 y4 y5 y6 y7 y8 = bif decide (y3 < y2) then chk (decide ((0 : Int) ≤ y3) && decide (y3 < (↑y1.length : Int))) (chk (decide ((0 : Int) ≤ y1.getD y3.toNat (0 : Int)) && decide (y1.getD y3.toNat (0 : Int) < (↑y0.length : Int))) (chk (decide ((y8.length + [((y0.getD (y1.getD y3.toNat (0 : Int)).toNat ((0 : Int), (0 : Int), ByteArray.mk #[])).1, (y0.getD (y1.getD y3.toNat (0 : Int)).toNat ((0 : Int), (0 : Int), ByteArray.mk #[])).2.1, (y0.getD (y1.getD y3.toNat (0 : Int)).toNat ((0 : Int), (0 : Int), ByteArray.mk #[])).2.2)].length) * (32 : Nat) ≤ (140737488355328 : Nat))) (f1439_L0 n m0 y0 y1 y2 (IntKind.i64.wrap (y3 + (1 : Int))) y4 y5 y6 y7 (y8 ++ [((y0.getD (y1.getD y3.toNat (0 : Int)).toNat ((0 : Int), (0 : Int), ByteArray.mk #[])).1, (y0.getD (y1.getD y3.toNat (0 : Int)).toNat ((0 : Int), (0 : Int), ByteArray.mk #[])).2.1, (y0.getD (y1.getD y3.toNat (0 : Int)).toNat ((0 : Int), (0 : Int), ByteArray.mk #[])).2.2)])))) else chk (Sp.kbP y8) (chk (Sp.f1391_pre y4 y5 y6 y7 y0) (chk (decide (((Sp.key y8).length + (Sp.f1391 y4 y5 y6 y7 y0).1.length) * (1 : Nat) ≤ (140737488355328 : Nat))) (some (Res.mk [XV.mk false [X.c (X0.row (Ty.int IntKind.u8) (Sp.key y8 ++ (Sp.f1391 y4 y5 y6 y7 y0).1) true)]] [])))) := by kernel_rfl
theorem f1439_raw (n : Nat) (x0 : ByteArray) (x1 : List (ByteArray × Int × Bool)) (x2 : Int) (x3 : List (ByteArray × List Int)) (x4 : ByteArray) (x5 : List Int) (x6 : List (Int × Int × ByteArray)) : abody Γ (orc [e1400, e1391]) n 83 [XV.mk true [ZC Ty.str x0, ZC (Ty.str.pair (Zi.pair Ty.bool)).slice x1, ZC Zi x2, ZC (Ty.str.pair Zi.slice).slice x3], XV.mk true [ZC Ty.str x4, ZC Zi.slice x5], ZX (Zi.pair (Zi.pair Ty.str)).slice x6] = f1439_L0 n n x6 x5 (↑x5.length : Int) (0 : Int) x0 x1 x2 x3 [] := by kernel_rfl

def Sp.ixkP (key : Int) (cs : List Int) (row : List V3) : Bool := yes2 (Sp.entP key cs row) (Sp.allW Sp.vN row)
theorem take0 (row : List V3) (k : Nat) : List.take (k - 0) (List.drop 0 row) = row.take k := rfl
theorem f1439_loop (n : Nat) (row : List V3) (x0 : ByteArray) (x1 : List VCo) (x2 : Int) (x3 : List VIx) (cs : List Int) (hv : ∀ v ∈ row, Sp.vN v = true) (hc : ∀ c ∈ cs, Sp.inR row.length c = true) (h1 : cs.length ≤ 8) (h2 : row.length ≤ 8) (h3 : Sp.inK row.length x2 = true) : ∀ (d k m : Nat) (acc : List V3), k + d = cs.length → d < m → acc.length ≤ k → (∀ v ∈ acc, Sp.vN v = true) →
    f1439_L0 n m row cs cs.length k x0 x1 x2 x3 acc = some (rB (Sp.key (acc ++ (Sp.pick row (cs.drop k) ++ row.take x2.toNat)))) := by
  intro d
  induction d with
  | zero =>
    intro k m acc hk hm ha hav
    obtain ⟨m, rfl⟩ := succ_of hm
    have hp : Sp.kbP acc = true := kbP_mk (by omega) hav
    have ht : ∀ v ∈ row.take x2.toNat, Sp.vN v = true := fun v hv' => hv v (List.mem_of_mem_take hv')
    have hp2 : Sp.f1391_pre x0 x1 x2 x3 row = true := by
      unfold Sp.f1391_pre
      have e : (decide ((0 : Int) ≤ x2) && decide (x2 ≤ (row.length : Int))) = true := h3
      rw [take0, e, kbP_mk (by rw [List.length_take]; omega) ht]
      rfl
    have l1 := key_len acc fun v hv' => (vN_is (hav v hv')).1
    have l2 := key_len (row.take x2.toNat) fun v hv' => (vN_is (ht v hv')).1
    rw [List.length_take] at l2
    rw [f1439_L0_step, nat_ge (show cs.length ≤ k by omega), cond_false, hp, chkT, hp2, chkT, List.drop_of_length_le (show cs.length ≤ k by omega)]
    refine (chkQ (room (by show (Sp.key acc).length + (Sp.key (row.take x2.toNat)).length ≤ _; omega)) _).trans ?_
    rw [show Sp.pick row [] ++ row.take x2.toNat = row.take x2.toNat from rfl, key_append]
    rfl
  | succ d ih =>
    intro k m acc hk hm ha hav
    obtain ⟨m, rfl⟩ := succ_of hm
    have h : k < cs.length := by omega
    have e : (decide ((0 : Int) ≤ cs[k]) && decide (cs[k] < (row.length : Int))) = true := hc _ (List.getElem_mem h)
    have hn : Sp.vN (row.getD cs[k].toNat zV3) = true := by
      have := pick_all hv [cs[k]] (fun c h' => by rw [List.mem_singleton] at h'; rw [h']; exact e) (row.getD cs[k].toNat zV3) (by rw [Sp.pick]; exact List.mem_cons_self)
      exact this
    rw [f1439_L0_step, nat_lt h, cond_true, guard0, chkT, getD_nat cs k _ h, e, chkT, next64 h (by omega), List.drop_eq_getElem_cons h, Sp.pick]
    refine (chkQ (room32 (by simp only [List.length_cons, List.length_nil]; omega)) _).trans ?_
    have := ih (k + 1) m (acc ++ [row.getD cs[k].toNat zV3]) (by omega) (by omega) (by rw [List.length_append, List.length_singleton]; omega) (fun v hv' => by
      rcases List.mem_append.1 hv' with q | q
      · exact hav v q
      · rw [List.mem_singleton] at q; rw [q]; exact hn)
    rw [List.append_assoc] at this
    exact this
noncomputable def e1439 : Ent := { f := n1439, ins := [shTb, Sh.agg [cS, cL tIn], Sh.one (cL tV)], outs := [Sh.one (C0.row tB)], upd := [], pre := fun a => Sp.ixkP a.1.2.2.1 a.2.1.2 a.2.2, spec := fun a => Sp.key (Sp.ent a.1.2.2.1 a.2.1.2 a.2.2), wrt := fun _ => () }
theorem e1439_core (x0 : ByteArray) (x1 : List VCo) (x2 : Int) (x3 : List VIx) (x4 : ByteArray) (x5 : List Int) (x6 : List V3) (ha : Sp.ixkP x2 x5 x6 = true) : ∃ n, abody Γ (orc [e1400, e1391]) n n1439 (e1439.args ((x0, x1, x2, x3), (x4, x5), x6)) = some (rB (Sp.key (Sp.ent x2 x5 x6))) := by
  obtain ⟨ha, hv⟩ := yes2_true ha
  obtain ⟨h1, h2, h3, h4⟩ := entP_is ha
  refine ⟨x5.length + 1, (f1439_raw _ x0 x1 x2 x3 x4 x5 x6).trans ?_⟩
  exact f1439_loop _ x6 x0 x1 x2 x3 x5 (allW_mem.1 hv) h4 h1 h2 h3 x5.length 0 _ [] (Nat.zero_add _) (Nat.lt_succ_self _) (Nat.zero_le _) (fun v hv' => by cases hv')
theorem e1439_ok : Valid PP Γ e1439 := valid_of ok (vcons e1400_ok (vcons e1391_ok vnil)) fun a ha => e1439_core a.1.1 a.1.2.1 a.1.2.2.1 a.1.2.2.2 a.2.1.1 a.2.1.2 a.2.2 ha
def Sp.f1292 (x0 x1 x2 : ByteArray) := (bif !Op.bytesLess x0.toList x1.toList then (bif x2.toList == (ByteArray.mk #[]).toList then (true, ()) else (Op.bytesLess x0.toList x2.toList, ())) else (false, ()))
noncomputable def e1292 : Ent := { f := 84, ins := [Sh.one (C0.dat Ty.str), Sh.one (C0.dat Ty.str), Sh.one (C0.dat Ty.str)], outs := [Sh.one (C0.dat Ty.bool)], upd := [], pre := fun a => true, spec := fun a => (Sp.f1292 a.1 a.2.1 a.2.2).1, wrt := fun a => (Sp.f1292 a.1 a.2.1 a.2.2).2 }
def f1292_g (v : denS [Sh.one (C0.dat Ty.bool)] × denS []) : Res := ⟨mkS [Sh.one (C0.dat Ty.bool)] v.1, mkU [] v.2⟩
theorem f1292_form (x0 x1 x2 : ByteArray) : abody Γ (orc []) 0 84 [ZX Ty.str x0, ZX Ty.str x1, ZX Ty.str x2] = some (f1292_g (Sp.f1292 x0 x1 x2)) := by
  refine Eq.trans (b := bif !Op.bytesLess x0.toList x1.toList then bif x2.toList == (ByteArray.mk #[]).toList then Zt else ZB (Op.bytesLess x0.toList x2.toList) else Zf) (by kernel_rfl) ?_
  unfold Sp.f1292
  exact (cond_plain f1292_g ((cond_plain f1292_g (rfl) (rfl))) (rfl))
theorem e1292_ok : Valid PP Γ e1292 := valid_auto ok vnil fun a => f1292_form a.1 a.2.1 a.2.2

def Sp.f1297 (x0 x1 x2 : ByteArray) := (bif !Op.bytesLess x0.toList x1.toList then (bif x2.toList == (ByteArray.mk #[]).toList then (true, ()) else (Op.bytesLess x0.toList x2.toList, ())) else (false, ()))
noncomputable def e1297 : Ent := { f := 74, ins := [Sh.one (C0.dat Ty.str), Sh.one (C0.dat Ty.str), Sh.one (C0.dat Ty.str)], outs := [Sh.one (C0.dat Ty.bool)], upd := [], pre := fun a => true, spec := fun a => (Sp.f1297 a.1 a.2.1 a.2.2).1, wrt := fun a => (Sp.f1297 a.1 a.2.1 a.2.2).2 }
def f1297_g (v : denS [Sh.one (C0.dat Ty.bool)] × denS []) : Res := ⟨mkS [Sh.one (C0.dat Ty.bool)] v.1, mkU [] v.2⟩
theorem f1297_form (x0 x1 x2 : ByteArray) : abody Γ (orc []) 0 74 [ZX Ty.str x0, ZX Ty.str x1, ZX Ty.str x2] = some (f1297_g (Sp.f1297 x0 x1 x2)) := by
  refine Eq.trans (b := bif !Op.bytesLess x0.toList x1.toList then bif x2.toList == (ByteArray.mk #[]).toList then Zt else ZB (Op.bytesLess x0.toList x2.toList) else Zf) (by kernel_rfl) ?_
  unfold Sp.f1297
  exact (cond_plain f1297_g ((cond_plain f1297_g (rfl) (rfl))) (rfl))
theorem e1297_ok : Valid PP Γ e1297 := valid_auto ok vnil fun a => f1297_form a.1 a.2.1 a.2.2

def Sp.nmDt (t : ByteArray) (x : VDt) : Bool := x.1.toList == t.toList
def Sp.dataOf (t : ByteArray) : List VDt → List VRw
  | [] => []
  | x :: r => bif Sp.nmDt t x then x.2 else Sp.dataOf t r
noncomputable def f1424_L0 (n m0 : Nat) (y0 : List (ByteArray × List (List (Int × Int × ByteArray)))) (y1 : ByteArray) (y2 : Int) : Option Res := loopAt Γ (orc []) n (39 : Nat) (0 : Nat) [] [Pth.r, Pth.l, Pth.r, Pth.b] m0 (St.mk (ZS (Ty.str.pair (Zi.pair (Zi.pair Ty.str)).slice.slice).slice y0 :: ZS Ty.str y1 :: ZN 3 (ZS Zi y2 :: ZN 19 [])) [])
theorem f1424_L0_step (n m0 : Nat) (y0 : List (ByteArray × List (List (Int × Int × ByteArray)))) (y1 : ByteArray) (y2 : Int) : f1424_L0 n (m0 + 1) y0 y1 y2 = bif decide (y2 < (↑y0.length : Int)) then chk (decide ((0 : Int) ≤ y2) && decide (y2 < (↑y0.length : Int))) (bif (y0.getD y2.toNat (ByteArray.mk #[], [])).1.toList == y1.toList then chk (decide ((0 : Int) ≤ y2) && decide (y2 < (↑y0.length : Int))) (some (Res.mk [ZX (Zi.pair (Zi.pair Ty.str)).slice.slice (y0.getD y2.toNat (ByteArray.mk #[], [])).2] [])) else f1424_L0 n m0 y0 y1 (IntKind.i64.wrap (y2 + (1 : Int)))) else some (Res.mk [XV.mk false [X.c (X0.row (Zi.pair (Zi.pair Ty.str)).slice [] true)]] []) := by kernel_rfl
theorem f1424_raw (n : Nat) (x0 : List (ByteArray × List (List (Int × Int × ByteArray)))) (x1 : ByteArray) : abody Γ (orc []) n 39 [ZX (Ty.str.pair (Zi.pair (Zi.pair Ty.str)).slice.slice).slice x0, ZX Ty.str x1] = f1424_L0 n n x0 x1 (0 : Int) := by kernel_rfl

noncomputable def e1424 : Ent := { f := n1424, ins := [Sh.one (cL tDt), Sh.one cS], outs := [Sh.one (cL tRw)], upd := [], pre := fun a => Sp.anyW (Sp.nmDt a.2) a.1, spec := fun a => Sp.dataOf a.2 a.1, wrt := fun _ => () }
theorem f1424_loop (n : Nat) (xs : List VDt) (t : ByteArray) (hl : xs.length ≤ 9223372036854775807) : ∀ (d k m : Nat), k + d = xs.length → d < m → Sp.anyW (Sp.nmDt t) (xs.drop k) = true → f1424_L0 n m xs t k = some (Res.mk [ZX (.slice tRw) (Sp.dataOf t (xs.drop k))] []) := by
  intro d
  induction d with
  | zero =>
    intro k m hk _ ha
    rw [List.drop_of_length_le (show xs.length ≤ k by omega)] at ha
    cases ha
  | succ d ih =>
    intro k m hk hm ha
    obtain ⟨m, rfl⟩ := succ_of hm
    have h : k < xs.length := by omega
    rw [List.drop_eq_getElem_cons h, Sp.anyW] at ha
    rw [f1424_L0_step, nat_lt h, cond_true, guard0, chkT, getD_nat xs k _ h, next64 h hl, chkT, List.drop_eq_getElem_cons h, Sp.dataOf]
    unfold Sp.nmDt at ha ⊢
    cases hq : xs[k].1.toList == t.toList with
    | true => rfl
    | false =>
      rw [hq, cond_false] at ha
      exact ih (k + 1) m (by omega) (by omega) ha
theorem e1424_core (xs : List VDt) (t : ByteArray) (ha : Sp.anyW (Sp.nmDt t) xs = true) (hl : xs.length ≤ maxLen) : ∃ n, abody Γ (orc []) n n1424 (e1424.args (xs, t)) = some (Res.mk [ZX (.slice tRw) (Sp.dataOf t xs)] []) := by
  have hl : xs.length ≤ 9223372036854775807 := hl
  exact ⟨xs.length + 1, (f1424_raw _ xs t).trans (f1424_loop _ xs t hl xs.length 0 _ (Nat.zero_add _) (Nat.lt_succ_self _) ha)⟩
theorem e1424_ok : Valid PP Γ e1424 := valid_len ok vnil fun a ha hl => e1424_core a.1 a.2 ha (hl _ (List.mem_cons_self) _ (List.mem_cons_self)).1
end Go.Proofs.GR.T

