/-
  No statement is proved here: what the functions of the law answer, told as plain functions, and that the law's answer is always true.
  No condition.
-/
import Derived.Test.YtfihkpknhkbciaaDoorTTablesReadc
set_option maxRecDepth 3000000
set_option maxHeartbeats 100000000
namespace Go.Proofs.GR.T
open Go Go.Proofs Go.Proofs.GR
def Sp.f1177_pre (x0 x1 : ByteArray) : Bool := (bif decide ((↑x0.size : Int) ≥ (↑x1.size : Int)) then (decide ((0 : Int) ≤ (↑x1.size : Int)) && decide ((↑x1.size : Int) ≤ (↑x0.size : Int))) else true)
def Sp.f1177 (x0 x1 : ByteArray) := (bif decide ((↑x0.size : Int) ≥ (↑x1.size : Int)) then ((x0.extract (0 : Nat) (↑x1.size : Int).toNat).toList == x1.toList, ()) else (false, ()))
noncomputable def e1177 : Ent := { f := 71, ins := [Sh.one (C0.dat Ty.str), Sh.one (C0.dat Ty.str)], outs := [Sh.one (C0.dat Ty.bool)], upd := [], pre := fun a => Sp.f1177_pre a.1 a.2, spec := fun a => (Sp.f1177 a.1 a.2).1, wrt := fun a => (Sp.f1177 a.1 a.2).2 }
def f1177_g (v : denS [Sh.one (C0.dat Ty.bool)] × denS []) : Res := ⟨mkS [Sh.one (C0.dat Ty.bool)] v.1, mkU [] v.2⟩
theorem f1177_form (x0 x1 : ByteArray) : abody Γ (orc []) 0 71 [ZX Ty.str x0, ZX Ty.str x1] = chk (Sp.f1177_pre x0 x1) (some (f1177_g (Sp.f1177 x0 x1))) := by
  refine Eq.trans (b := bif decide ((↑x0.size : Int) ≥ (↑x1.size : Int)) then chk (decide ((0 : Int) ≤ (↑x1.size : Int)) && decide ((↑x1.size : Int) ≤ (↑x0.size : Int))) (ZB ((x0.extract (0 : Nat) (↑x1.size : Int).toNat).toList == x1.toList)) else Zf) (by kernel_rfl) ?_
  unfold Sp.f1177_pre Sp.f1177
  exact (cond_step f1177_g ((chk_last (rfl))) ((lift_plain (rfl))))
theorem e1177_ok : Valid PP Γ e1177 := valid_auto ok vnil fun a => f1177_form a.1 a.2

def Sp.f1146_pre (x0 x1 : ByteArray) : Bool := (Sp.f1177_pre x0 x1)
def Sp.f1146 (x0 x1 : ByteArray) := ((Sp.f1177 x0 x1).1, ())
noncomputable def e1146 : Ent := { f := 60, ins := [Sh.one (C0.dat Ty.str), Sh.one (C0.dat Ty.str)], outs := [Sh.one (C0.dat Ty.bool)], upd := [], pre := fun a => Sp.f1146_pre a.1 a.2, spec := fun a => (Sp.f1146 a.1 a.2).1, wrt := fun a => (Sp.f1146 a.1 a.2).2 }
def f1146_g (v : denS [Sh.one (C0.dat Ty.bool)] × denS []) : Res := ⟨mkS [Sh.one (C0.dat Ty.bool)] v.1, mkU [] v.2⟩
theorem f1146_form (x0 x1 : ByteArray) : abody Γ (orc [e1177]) 0 60 [ZX Ty.str x0, ZX Ty.str x1] = chk (Sp.f1146_pre x0 x1) (some (f1146_g (Sp.f1146 x0 x1))) := by
  refine Eq.trans (b := chk (Sp.f1177_pre x0 x1) (ZB (Sp.f1177 x0 x1).1)) (by kernel_rfl) ?_
  unfold Sp.f1146_pre Sp.f1146
  exact (chk_last (rfl))
theorem e1146_ok : Valid PP Γ e1146 := valid_auto ok (vcons e1177_ok vnil) fun a => f1146_form a.1 a.2

noncomputable def f1128_L0 (n m0 : Nat) (y0 y1 : ByteArray) (y2 y3 : Int) : Option Res := loopAt Γ (orc [e1146]) n (38 : Nat) (0 : Nat) [] [Pth.r, Pth.r, Pth.l, Pth.b] m0 (St.mk (ZS Ty.str y0 :: ZS Ty.str y1 :: ZS Zi y2 :: ZN 5 (ZS Zi y3 :: ZN 14 [])) [])
theorem f1128_L0_step (n m0 : Nat) (y0 y1 : ByteArray) (y2 y3 : Int) : f1128_L0 n (m0 + 1) y0 y1 y2 y3 = bif decide (y3 < y2) then chk (Sp.f1146_pre y0 y1) (bif (Sp.f1146 y0 y1).1 then chk (decide ((1 : Int) ≤ (↑y0.size : Int))) (f1128_L0 n m0 (y0.extract (1 : Nat) y0.size) y1 y2 (IntKind.i64.wrap (y3 + (1 : Int)))) else some (Res.mk [ZX Ty.str y0, ZX Zi y3] [])) else some (Res.mk [ZX Ty.str y0, ZX Zi y3] []) := by kernel_rfl
theorem f1128_raw (n : Nat) (x0 x1 : ByteArray) (x2 : Int) : abody Γ (orc [e1146]) n 38 [ZX Ty.str x0, ZX Ty.str x1, ZX Zi x2] = f1128_L0 n n x0 x1 x2 (0 : Int) := by kernel_rfl

noncomputable def f1160_L0 (n m0 : Nat) (y0 : Int) (y1 : List ZT) (y2 y3 : Int) : Option Res := loopAt Γ (orc [e1025]) n (62 : Nat) (0 : Nat) [] [Pth.r, Pth.r, Pth.l, Pth.r, Pth.b] m0 (St.mk (Zn :: ZS Zi y0 :: ZN 12 (ZS ZA.rose.slice y1 :: ZS Zi y2 :: ZS Zi y3 :: ZN 9 [])) [])
theorem f1160_L0_step (n m0 : Nat) (y0 : Int) (y1 : List ZT) (y2 y3 : Int) : f1160_L0 n (m0 + 1) y0 y1 y2 y3 = bif decide (y3 < y2) then chk (decide ((0 : Int) ≤ y3) && decide (y3 < (↑y1.length : Int))) (chk (Sp.cnt32 (y1.getD y3.toNat ZR).kids) (f1160_L0 n m0 (IntKind.i64.wrap (y0 + (↑((1 : Nat) + Sp.cntTs (y1.getD y3.toNat ZR).kids) : Int))) y1 y2 (IntKind.i64.wrap (y3 + (1 : Int))))) else ZJ y0 := by kernel_rfl
theorem f1160_raw (n : Nat) (x0 x1 : Int) (x2 x3 : ByteArray) (x4 x5 : Int) (x6 : ByteArray) (x7 : List ZT) (x8 x9 : Int) : abody Γ (orc [e1025]) n 62 [XV.mk true [ZC Zi x0, ZC Zi x1, ZC Ty.str x2, ZC Ty.str x3, ZC Zi x4, ZC Zi x5, ZC Ty.str x6, ZC ZA.rose.slice x7], ZX Zi x8, ZX Zi x9] = chk (decide ((0 : Int) ≤ x9) && decide (x9 ≤ (↑x7.length : Int))) (f1160_L0 n n (IntKind.i64.wrap (x8 + (1 : Int))) (List.take (x9.toNat - (0 : Nat)) (List.drop (0 : Nat) x7)) (↑(List.take (x9.toNat - (0 : Nat)) (List.drop (0 : Nat) x7)).length : Int) (0 : Int)) := by kernel_rfl

noncomputable def f1130_L0 (n m0 : Nat) (y0 : List ByteArray) (y1 y2 : Int) (y3 : List ByteArray) : Option Res := loopAt Γ (orc [e1031]) n (41 : Nat) (1 : Nat) [] [Pth.r, Pth.l, Pth.r, Pth.b] m0 (St.mk (Slot.val (Val.one (Cell.own (0 : Nat))) :: ZN 6 (ZS Ty.str.slice y0 :: ZS Zi y1 :: ZS Zi y2 :: ZN 17 [])) [AObj.row Ty.str y3 true])
noncomputable def f1130_L1 (n m0 : Nat) (y0 : List ByteArray) (y1 y2 : Int) (y3 : List ByteArray) : Option Res := loopAt Γ (orc [e1031]) n (41 : Nat) (1 : Nat) [] [Pth.r, Pth.l, Pth.r, Pth.b] m0 (St.mk (Slot.val (Val.one (Cell.own (1 : Nat))) :: ZN 6 (ZS Ty.str.slice y0 :: ZS Zi y1 :: ZS Zi y2 :: ZN 17 [])) [AObj.dead, AObj.row Ty.str y3 true])
theorem f1130_L0_step (n m0 : Nat) (y0 : List ByteArray) (y1 y2 : Int) (y3 : List ByteArray) : f1130_L0 n (m0 + 1) y0 y1 y2 y3 = bif decide (y2 < y1) then chk (decide ((0 : Int) ≤ y2) && decide (y2 < (↑y0.length : Int))) (bif !(y0.getD y2.toNat (ByteArray.mk #[])).toList == (ByteArray.mk #[]).toList then bif !(Sp.f1031 y3 (y0.getD y2.toNat (ByteArray.mk #[]))).1 then chk (decide ((y3.length + [y0.getD y2.toNat (ByteArray.mk #[])].length) * (16 : Nat) ≤ (140737488355328 : Nat))) (f1130_L1 n m0 y0 y1 (IntKind.i64.wrap (y2 + (1 : Int))) (y3 ++ [y0.getD y2.toNat (ByteArray.mk #[])])) else f1130_L0 n m0 y0 y1 (IntKind.i64.wrap (y2 + (1 : Int))) y3 else f1130_L0 n m0 y0 y1 (IntKind.i64.wrap (y2 + (1 : Int))) y3) else some (Res.mk [XV.mk false [X.c (X0.row Ty.str y3 true)]] []) := by kernel_rfl
theorem f1130_L1_step (n m0 : Nat) (y0 : List ByteArray) (y1 y2 : Int) (y3 : List ByteArray) : f1130_L1 n (m0 + 1) y0 y1 y2 y3 = bif decide (y2 < y1) then chk (decide ((0 : Int) ≤ y2) && decide (y2 < (↑y0.length : Int))) (bif !(y0.getD y2.toNat (ByteArray.mk #[])).toList == (ByteArray.mk #[]).toList then bif !(Sp.f1031 y3 (y0.getD y2.toNat (ByteArray.mk #[]))).1 then chk (decide ((y3.length + [y0.getD y2.toNat (ByteArray.mk #[])].length) * (16 : Nat) ≤ (140737488355328 : Nat))) (f1130_L1 n m0 y0 y1 (IntKind.i64.wrap (y2 + (1 : Int))) (y3 ++ [y0.getD y2.toNat (ByteArray.mk #[])])) else f1130_L1 n m0 y0 y1 (IntKind.i64.wrap (y2 + (1 : Int))) y3 else f1130_L1 n m0 y0 y1 (IntKind.i64.wrap (y2 + (1 : Int))) y3) else some (Res.mk [XV.mk false [X.c (X0.row Ty.str y3 true)]] []) := by kernel_rfl
theorem f1130_raw (n : Nat) (x0 x1 : List ByteArray) : abody Γ (orc [e1031]) n 41 [XV.mk false [X.c (X0.row Ty.str x0 true)], ZX Ty.str.slice x1] = f1130_L0 n n x1 (↑x1.length : Int) (0 : Int) x0 := by kernel_rfl

noncomputable def f1125_L0 (n m0 : Nat) (y0 : List ByteArray) (y1 : ByteArray) (y2 : Int) : Option Res := loopAt Γ (orc []) n (30 : Nat) (0 : Nat) [] [Pth.r, Pth.l, Pth.r, Pth.b] m0 (St.mk (ZS Ty.str.slice y0 :: ZS Ty.str y1 :: ZN 3 (ZS Zi y2 :: ZN 12 [])) [])
theorem f1125_L0_step (n m0 : Nat) (y0 : List ByteArray) (y1 : ByteArray) (y2 : Int) : f1125_L0 n (m0 + 1) y0 y1 y2 = bif decide (y2 < (↑y0.length : Int)) then chk (decide ((0 : Int) ≤ y2) && decide (y2 < (↑y0.length : Int))) (bif (y0.getD y2.toNat (ByteArray.mk #[])).toList == y1.toList then Zt else f1125_L0 n m0 y0 y1 (IntKind.i64.wrap (y2 + (1 : Int)))) else Zf := by kernel_rfl
theorem f1125_raw (n : Nat) (x0 : List ByteArray) (x1 : ByteArray) : abody Γ (orc []) n 30 [ZX Ty.str.slice x0, ZX Ty.str x1] = f1125_L0 n n x0 x1 (0 : Int) := by kernel_rfl

end Go.Proofs.GR.T

set_option maxRecDepth 3000000
set_option maxHeartbeats 100000000
namespace Go.Proofs.GR.T
open Go Go.Proofs Go.Proofs.GR
def Sp.isS (t w : ByteArray) : Bool := w.toList == t.toList
noncomputable def e1125 : Ent := { f := n1125, ins := [Sh.one (cL .str), Sh.one cS], outs := [Sh.one cB], upd := [], pre := fun _ => true, spec := fun a => Sp.anyW (Sp.isS a.2) a.1, wrt := fun _ => () }
theorem e1125_core (xs : List ByteArray) (t : ByteArray) (hl : xs.length ≤ maxLen) : ∃ n, abody Γ (orc []) n n1125 [ZX (Ty.slice .str) xs, ZX Ty.str t] = some (rBo (Sp.anyW (Sp.isS t) xs)) := by
  have hl : xs.length ≤ 9223372036854775807 := hl
  refine ⟨xs.length + 1, (f1125_raw _ xs t).trans ?_⟩
  refine any_loop (p := Sp.isS t) (R := rBo) xs (fun m k => f1125_L0 (xs.length + 1) m xs t k) (fun m k hk => ?_) (fun m k h => ?_) xs.length 0 _ (Nat.zero_add _) (Nat.lt_succ_self _)
  · show f1125_L0 _ _ _ _ _ = _
    rw [f1125_L0_step, nat_ge hk, cond_false]
  · show f1125_L0 _ _ _ _ _ = _
    rw [f1125_L0_step, nat_lt h, cond_true, guard0, chkT, getD_nat xs k _ h, next64 h hl]
    rfl
theorem e1125_ok : Valid PP Γ e1125 := valid_len ok vnil fun a _ hl => e1125_core a.1 a.2 (hl _ (List.mem_cons_self) _ (List.mem_cons_self)).1
def Sp.cutB (c : ByteArray) : Nat → ByteArray → ByteArray
  | 0, t => t
  | m + 1, t => bif (Sp.f1146 t c).1 then Sp.cutB c m (t.extract 1 t.size) else t
def Sp.cutN (c : ByteArray) : Nat → ByteArray → Nat
  | 0, _ => 0
  | m + 1, t => bif (Sp.f1146 t c).1 then Sp.cutN c m (t.extract 1 t.size) + 1 else 0
def Sp.cutP (c : ByteArray) (m : Int) : Bool := yes2 (Nat.ble 1 c.size) (Nat.ble m.toNat 1000)
def Sp.cut (t c : ByteArray) (m : Int) : ByteArray × Int := (Sp.cutB c m.toNat t, (Sp.cutN c m.toNat t : Nat))
abbrev rCut (p : ByteArray × Int) : Res := Res.mk [ZX Ty.str p.1, ZX Zi p.2] []
noncomputable def e1128 : Ent := { f := n1128, ins := [Sh.one cS, Sh.one cS, Sh.one cI], outs := [Sh.one cS, Sh.one cI], upd := [], pre := fun a => Sp.cutP a.2.1 a.2.2, spec := fun a => Sp.cut a.1 a.2.1 a.2.2, wrt := fun _ => () }
theorem pre_size {t c : ByteArray} (h : (Sp.f1146 t c).1 = true) : c.size ≤ t.size := by
  have h : (bif decide ((t.size : Int) ≥ (c.size : Int)) then ((t.extract 0 c.size).toList == c.toList, ()) else (false, ())).1 = true := h
  by_cases hc : (t.size : Int) ≥ (c.size : Int)
  · omega
  · rw [decide_eq_false hc] at h; cases h
theorem pre_ok (t c : ByteArray) : Sp.f1146_pre t c = true := by
  show (bif decide ((t.size : Int) ≥ (c.size : Int)) then decide ((0 : Int) ≤ (c.size : Int)) && decide ((c.size : Int) ≤ (t.size : Int)) else true) = true
  by_cases hc : (t.size : Int) ≥ (c.size : Int)
  · rw [decide_eq_true hc, cond_true, decide_eq_true (show (0 : Int) ≤ (c.size : Int) by omega)]; rfl
  · rw [decide_eq_false hc]; rfl
theorem cut_loop (n : Nat) (c : ByteArray) (h1 : 1 ≤ c.size) (most : Nat) (hm : most ≤ 1000) : ∀ (d k m : Nat) (t : ByteArray), k + d = most → d < m → f1128_L0 n m t c most k = some (rCut (Sp.cutB c d t, ((k + Sp.cutN c d t : Nat) : Int))) := by
  intro d
  induction d with
  | zero =>
    intro k m t hk hm
    obtain ⟨m, rfl⟩ := succ_of hm
    rw [f1128_L0_step, nat_ge (by omega), cond_false]
    rfl
  | succ d ih =>
    intro k m t hk hm
    obtain ⟨m, rfl⟩ := succ_of hm
    rw [f1128_L0_step, nat_lt (show k < most by omega), cond_true, pre_ok, chkT, Sp.cutB, Sp.cutN]
    cases hp : (Sp.f1146 t c).1 with
    | false => rfl
    | true =>
      have := pre_size hp
      rw [cond_true, cond_true, cond_true, decide_eq_true (show (1 : Int) ≤ (t.size : Int) by omega), chkT, next64 (show k < most by omega) (by omega), ih (k + 1) m _ (by omega) (by omega), show k + 1 + Sp.cutN c d (t.extract 1 t.size) = k + (Sp.cutN c d (t.extract 1 t.size) + 1) by omega]
theorem e1128_core (t c : ByteArray) (i : Int) (ha : Sp.cutP c i = true) : ∃ n, abody Γ (orc [e1146]) n n1128 [ZX Ty.str t, ZX Ty.str c, ZX Zi i] = some (rCut (Sp.cut t c i)) := by
  obtain ⟨h1, h2⟩ := yes2_true ha
  have h1 := Nat.le_of_ble_eq_true h1
  have h2 := Nat.le_of_ble_eq_true h2
  refine ⟨i.toNat + 1, (f1128_raw _ t c i).trans ?_⟩
  by_cases h0 : 0 ≤ i
  · have := cut_loop (i.toNat + 1) c h1 i.toNat h2 i.toNat 0 (i.toNat + 1) t (Nat.zero_add _) (Nat.lt_succ_self _)
    rw [Int.toNat_of_nonneg h0, Nat.zero_add] at this
    exact this
  · rw [f1128_L0_step, decide_eq_false (show ¬ (0 : Int) < i by omega), cond_false]
    unfold Sp.cut
    rw [show i.toNat = 0 by omega]
    rfl
theorem e1128_ok : Valid PP Γ e1128 := valid_of ok (vcons e1146_ok vnil) fun a ha => e1128_core a.1 a.2.1 a.2.2 ha
def Sp.kidAt (ks : List RT) (p i : Int) : Int := p + 1 + (Sp.cntTs (ks.take i.toNat) : Nat)
def Sp.kidP (ks : List RT) (p i : Int) : Bool := yes2 (Sp.cnt32 ks) (yes2 (decide (0 ≤ p)) (yes2 (decide (p ≤ 1000000000000)) (yes2 (decide (0 ≤ i)) (decide (i ≤ (ks.length : Int))))))
noncomputable def e1160 : Ent := { f := n1160, ins := [Sh.agg aT, Sh.one cI, Sh.one cI], outs := [Sh.one cI], upd := [], pre := fun a => Sp.kidP a.1.2.2.2.2.2.2.2 a.2.1 a.2.2, spec := fun a => Sp.kidAt a.1.2.2.2.2.2.2.2 a.2.1 a.2.2, wrt := fun _ => () }
theorem cntTs_cat : ∀ (a b : List RT), Sp.cntTs (a ++ b) = Sp.cntTs a + Sp.cntTs b
  | [], b => by rw [List.nil_append, show Sp.cntTs [] = 0 by rw [Sp.cntTs], Nat.zero_add]
  | r :: a, b => by rw [List.cons_append, Sp.cntTs, Sp.cntTs, cntTs_cat a b]; omega
theorem cntTs_len : ∀ l : List RT, l.length ≤ Sp.cntTs l
  | [] => Nat.zero_le _
  | r :: l => by
    rw [Sp.cntTs, List.length_cons]
    have := cntTs_len l
    cases r with | mk a ks => rw [Sp.cntT]; omega
theorem kid_loop (n : Nat) (xs : List RT) (h : Sp.cntTs xs ≤ 1000000000000) : ∀ (d k m : Nat) (v : Int), k + d = xs.length → d < m → 0 ≤ v → v + Sp.cntTs (xs.drop k) ≤ 3000000000000 → f1160_L0 n m v xs xs.length k = some (rI (v + (Sp.cntTs (xs.drop k) : Nat))) := by
  have hlen := cntTs_len xs
  intro d
  induction d with
  | zero =>
    intro k m v hk hm _ _
    obtain ⟨m, rfl⟩ := succ_of hm
    rw [f1160_L0_step, nat_ge (by omega), cond_false, List.drop_of_length_le (by omega), show Sp.cntTs [] = 0 by rw [Sp.cntTs]]
    show some (rI v) = _
    rw [show v + ((0 : Nat) : Int) = v by omega]
  | succ d ih =>
    intro k m v hk hm h0 hv
    obtain ⟨m, rfl⟩ := succ_of hm
    have hlt : k < xs.length := by omega
    have e0 : Sp.cntTs (xs.drop k) = Sp.cntT xs[k] + Sp.cntTs (xs.drop (k + 1)) := by rw [List.drop_eq_getElem_cons hlt, Sp.cntTs]
    have e1 : Sp.cntT xs[k] = 1 + Sp.cntTs xs[k].kids := by cases xs[k] with | mk a ks => rw [Sp.cntT]; rfl
    have hsub : Sp.cntTs (xs.take k) + Sp.cntTs (xs.drop k) = Sp.cntTs xs := by rw [← cntTs_cat, List.take_append_drop]
    rw [e0] at hv hsub ⊢
    have hk2 : Sp.cnt32 xs[k].kids = true := cnt32_mk (by omega)
    rw [f1160_L0_step, nat_lt hlt, cond_true, guard0, chkT, getD_nat xs k _ hlt, hk2, chkT, next64 hlt (by omega), ← e1, wrap64 (by omega) (by omega), ih (k + 1) m _ (by omega) (by omega) (by omega) (by omega), show v + ((Sp.cntT xs[k] : Nat) : Int) + ((Sp.cntTs (xs.drop (k + 1)) : Nat) : Int) = v + ((Sp.cntT xs[k] + Sp.cntTs (xs.drop (k + 1)) : Nat) : Int) by omega]
theorem e1160_core (x0 x1 : Int) (x2 x3 : ByteArray) (x4 x5 : Int) (x6 : ByteArray) (x7 : List RT) (p i : Int) (ha : Sp.kidP x7 p i = true) : ∃ n, abody Γ (orc [e1025]) n n1160 (e1160.args ((x0, x1, x2, x3, x4, x5, x6, x7), p, i)) = some (e1160.res ((x0, x1, x2, x3, x4, x5, x6, x7), p, i)) := by
  obtain ⟨hc, ha⟩ := yes2_true ha
  obtain ⟨h0, ha⟩ := yes2_true ha
  obtain ⟨h1, ha⟩ := yes2_true ha
  obtain ⟨h2, h3⟩ := yes2_true ha
  have hc := cnt32_of hc
  have h0 := of_decide_eq_true h0
  have h1 := of_decide_eq_true h1
  have h2 := of_decide_eq_true h2
  have h3 := of_decide_eq_true h3
  have hsp : Sp.cntTs (x7.take i.toNat) + Sp.cntTs (x7.drop i.toNat) = Sp.cntTs x7 := by rw [← cntTs_cat, List.take_append_drop]
  refine ⟨(x7.take i.toNat).length + 1, (f1160_raw _ x0 x1 x2 x3 x4 x5 x6 x7 p i).trans ?_⟩
  rw [decide_eq_true h2, decide_eq_true h3, Bool.and_self, chkT, Nat.sub_zero, List.drop_zero, wrap64 (n := p + 1) (by omega) (by omega)]
  have := kid_loop ((x7.take i.toNat).length + 1) (x7.take i.toNat) (by omega) (x7.take i.toNat).length 0 ((x7.take i.toNat).length + 1) (p + 1) (Nat.zero_add _) (Nat.lt_succ_self _) (by omega) (by rw [List.drop_zero]; omega)
  rw [List.drop_zero] at this
  exact this
theorem e1160_ok : Valid PP Γ e1160 := valid_of ok (vcons e1025_ok vnil) fun a ha => e1160_core a.1.1 a.1.2.1 a.1.2.2.1 a.1.2.2.2.1 a.1.2.2.2.2.1 a.1.2.2.2.2.2.1 a.1.2.2.2.2.2.2.1 a.1.2.2.2.2.2.2.2 a.2.1 a.2.2 ha
noncomputable def f1129_L0 (n m0 : Nat) (y0 : List ZT) (y1 y2 y3 y4 : Int) (y5 y6 : ByteArray) (y7 y8 : Int) (y9 : ByteArray) (y10 : List ZT) (y11 : List (ByteArray × ByteArray × Int)) : Option Res := loopAt Γ (orc [e1160]) n (40 : Nat) (0 : Nat) [] [Pth.r, Pth.r, Pth.r, Pth.l, Pth.r, Pth.b] m0 (St.mk (Zn :: Slot.val (Val.one (Cell.ptr (0 : Nat) (0 : Nat))) :: Zn :: Slot.val (Val.one (Cell.own (1 : Nat))) :: ZN 14 (ZS ZA.rose.slice y0 :: ZS Zi y1 :: ZS Zi y2 :: ZN 27 [])) [AObj.box (34 : Nat) [Cell.dat Zi y3, Cell.dat Zi y4, Cell.dat Ty.str y5, Cell.dat Ty.str y6, Cell.dat Zi y7, Cell.dat Zi y8, Cell.dat Ty.str y9, Cell.dat ZA.rose.slice y10], AObj.row ZF y11 true])
theorem f1129_L0_step (n m0 : Nat) (y0 : List ZT) (y1 y2 y3 y4 : Int) (y5 y6 : ByteArray) (y7 y8 : Int) (y9 : ByteArray) (y10 : List ZT) (y11 : List (ByteArray × ByteArray × Int)) : f1129_L0 n (m0 + 1) y0 y1 y2 y3 y4 y5 y6 y7 y8 y9 y10 y11 = bif decide (y2 < y1) then chk (decide ((0 : Int) ≤ y2) && decide (y2 < (↑y0.length : Int))) (bif (y0.getD y2.toNat ZR).a.1 != (6 : Int) then f1129_L0 n m0 y0 y1 (IntKind.i64.wrap (y2 + (1 : Int))) y3 y4 y5 y6 y7 y8 y9 y10 y11 else chk (Sp.kidP y10 (0 : Int) y2) (bif (y0.getD y2.toNat ZR).a.2.2.2.1.toList == (ByteArray.mk #[]).toList then chk (decide ((y11.length + [((y0.getD y2.toNat ZR).a.2.2.1, (y0.getD y2.toNat ZR).a.2.2.1, Sp.kidAt y10 (0 : Int) y2)].length) * (40 : Nat) ≤ (140737488355328 : Nat))) (f1129_L0 n m0 y0 y1 (IntKind.i64.wrap (y2 + (1 : Int))) y3 y4 y5 y6 y7 y8 y9 y10 (y11 ++ [((y0.getD y2.toNat ZR).a.2.2.1, (y0.getD y2.toNat ZR).a.2.2.1, Sp.kidAt y10 (0 : Int) y2)])) else chk (decide ((y11.length + [((y0.getD y2.toNat ZR).a.2.2.1, (y0.getD y2.toNat ZR).a.2.2.2.1, Sp.kidAt y10 (0 : Int) y2)].length) * (40 : Nat) ≤ (140737488355328 : Nat))) (f1129_L0 n m0 y0 y1 (IntKind.i64.wrap (y2 + (1 : Int))) y3 y4 y5 y6 y7 y8 y9 y10 (y11 ++ [((y0.getD y2.toNat ZR).a.2.2.1, (y0.getD y2.toNat ZR).a.2.2.2.1, Sp.kidAt y10 (0 : Int) y2)])))) else some (Res.mk [XV.mk false [X.c (X0.row ZF y11 true)]] []) := by kernel_rfl
theorem f1129_raw (n : Nat) (x0 x1 : Int) (x2 x3 : ByteArray) (x4 x5 : Int) (x6 : ByteArray) (x7 : List ZT) : abody Γ (orc [e1160]) n 40 [XV.mk true [ZC Zi x0, ZC Zi x1, ZC Ty.str x2, ZC Ty.str x3, ZC Zi x4, ZC Zi x5, ZC Ty.str x6, ZC ZA.rose.slice x7]] = bif x0 != (1 : Int) then some (Res.mk [XV.mk false [X.c (X0.row ZF [(x2, x2, (0 : Int))] true)]] []) else f1129_L0 n n x7 (↑x7.length : Int) (0 : Int) x0 x1 x2 x3 x4 x5 x6 x7 [] := by kernel_rfl

end Go.Proofs.GR.T

set_option maxRecDepth 3000000
set_option maxHeartbeats 100000000
namespace Go.Proofs.GR.T
open Go Go.Proofs Go.Proofs.GR
abbrev tSo : Ty := .pair .str (.pair .str (.int .i64))
abbrev VSo := ByteArray × ByteArray × Int
def Sp.srcOf (all : List RT) (r : RT) (k : Int) : VSo := (r.a.2.2.1, (bif r.a.2.2.2.1.toList == (ByteArray.mk #[]).toList then r.a.2.2.1 else r.a.2.2.2.1), Sp.kidAt all (0 : Int) k)
def Sp.srcW (all : List RT) : Int → List RT → List VSo
  | _, [] => []
  | k, r :: l => bif r.a.1 != (6 : Int) then Sp.srcW all (k + 1) l else Sp.srcOf all r k :: Sp.srcW all (k + 1) l
def Sp.srcs (x0 : Int) (x2 : ByteArray) (x7 : List RT) : List VSo := bif x0 != (1 : Int) then [(x2, x2, (0 : Int))] else Sp.srcW x7 0 x7
noncomputable def e1129 : Ent := { f := n1129, ins := [Sh.agg aT], outs := [Sh.one (C0.row tSo)], upd := [], pre := fun a => Sp.cnt32 a.2.2.2.2.2.2.2, spec := fun a => Sp.srcs a.1 a.2.2.1 a.2.2.2.2.2.2.2, wrt := fun _ => () }
abbrev rSo (l : List VSo) : Res := Res.mk [XV.mk false [X.c (X0.row tSo l true)]] []
theorem src_loop (n : Nat) (x0 x1 : Int) (x2 x3 : ByteArray) (x4 x5 : Int) (x6 : ByteArray) (xs : List RT) (h : Sp.cntTs xs ≤ 1000000000000) : ∀ (d k m : Nat) (acc : List VSo), k + d = xs.length → d < m → acc.length ≤ k → f1129_L0 n m xs xs.length k x0 x1 x2 x3 x4 x5 x6 xs acc = some (rSo (acc ++ Sp.srcW xs k (xs.drop k))) := by
  have hlen := cntTs_len xs
  intro d
  induction d with
  | zero =>
    intro k m acc hk hm _
    obtain ⟨m, rfl⟩ := succ_of hm
    rw [f1129_L0_step, nat_ge (by omega), cond_false, List.drop_of_length_le (by omega), Sp.srcW, List.append_nil]
  | succ d ih =>
    intro k m acc hk hm ha
    obtain ⟨m, rfl⟩ := succ_of hm
    have hlt : k < xs.length := by omega
    have hp : Sp.kidP xs (0 : Int) (k : Int) = true := by
      unfold Sp.kidP
      rw [cnt32_mk h, decide_eq_true (show (0 : Int) ≤ 0 by omega), decide_eq_true (show (0 : Int) ≤ 1000000000000 by omega), decide_eq_true (show (0 : Int) ≤ (k : Int) by omega), decide_eq_true (show (k : Int) ≤ (xs.length : Int) by omega)]; rfl
    rw [f1129_L0_step, nat_lt hlt, cond_true, guard0, chkT, getD_nat xs k _ hlt, hp, chkT, next64 hlt (by omega), List.drop_eq_getElem_cons hlt, Sp.srcW]
    cases xs[k].a.1 != (6 : Int) with
    | true =>
      rw [cond_true, cond_true, ih (k + 1) m acc (by omega) (by omega) (by omega)]
      rfl
    | false =>
      rw [cond_false, cond_false]
      have ih2 := fun y => ih (k + 1) m (acc ++ [y]) (by omega) (by omega) (by rw [List.length_append, List.length_singleton]; omega)
      have hc : ∀ y : VSo, decide ((acc.length + [y].length) * (40 : Nat) ≤ (140737488355328 : Nat)) = true := fun y => decide_eq_true (by rw [List.length_singleton]; omega)
      unfold Sp.srcOf
      cases xs[k].a.2.2.2.1.toList == (ByteArray.mk #[]).toList with
      | true =>
        rw [cond_true, cond_true, hc, chkT, ih2, List.append_assoc]
        rfl
      | false =>
        rw [cond_false, cond_false, hc, chkT, ih2, List.append_assoc]
        rfl
theorem e1129_core (x0 x1 : Int) (x2 x3 : ByteArray) (x4 x5 : Int) (x6 : ByteArray) (x7 : List RT) (h : Sp.cnt32 x7 = true) : ∃ n, abody Γ (orc [e1160]) n n1129 (e1129.args (x0, x1, x2, x3, x4, x5, x6, x7)) = some (e1129.res (x0, x1, x2, x3, x4, x5, x6, x7)) := by
  refine ⟨x7.length + 1, (f1129_raw _ x0 x1 x2 x3 x4 x5 x6 x7).trans ?_⟩
  show _ = some (rSo (Sp.srcs x0 x2 x7))
  unfold Sp.srcs
  cases x0 != (1 : Int) with
  | true => rfl
  | false =>
    rw [cond_false, cond_false]
    exact src_loop (x7.length + 1) x0 x1 x2 x3 x4 x5 x6 x7 (cnt32_of h) x7.length 0 _ [] (Nat.zero_add _) (Nat.lt_succ_self _) (Nat.zero_le _)
theorem e1129_ok : Valid PP Γ e1129 := valid_of ok (vcons e1160_ok vnil) fun a ha => e1129_core a.1 a.2.1 a.2.2.1 a.2.2.2.1 a.2.2.2.2.1 a.2.2.2.2.2.1 a.2.2.2.2.2.2.1 a.2.2.2.2.2.2.2 ha
def Sp.noteW : List ByteArray → List ByteArray → List ByteArray
  | l, [] => l
  | l, t :: r => bif !(t.toList == (ByteArray.mk #[]).toList) then (bif !(Sp.f1031 l t).1 then Sp.noteW (l ++ [t]) r else Sp.noteW l r) else Sp.noteW l r
def Sp.noteP (l xs : List ByteArray) : Bool := yes2 (Sp.fits32 l) (Sp.fits32 xs)
noncomputable def e1130 : Ent := { f := n1130, ins := [Sh.one (C0.row .str), Sh.one (cL .str)], outs := [Sh.one (C0.row .str)], upd := [], pre := fun a => Sp.noteP a.1 a.2, spec := fun a => Sp.noteW a.1 a.2, wrt := fun _ => () }
abbrev rNs (l : List ByteArray) : Res := Res.mk [XV.mk false [X.c (X0.row .str l true)]] []
theorem note_loop1 (n : Nat) (xs : List ByteArray) (hx : xs.length ≤ 1000000000000) : ∀ (d k m : Nat) (acc : List ByteArray), k + d = xs.length → d < m → acc.length ≤ 1000000000000 + k → f1130_L1 n m xs xs.length k acc = some (rNs (Sp.noteW acc (xs.drop k))) := by
  intro d
  induction d with
  | zero =>
    intro k m acc hk hm _
    obtain ⟨m, rfl⟩ := succ_of hm
    rw [f1130_L1_step, nat_ge (by omega), cond_false, List.drop_of_length_le (by omega), Sp.noteW]
  | succ d ih =>
    intro k m acc hk hm ha
    obtain ⟨m, rfl⟩ := succ_of hm
    have hlt : k < xs.length := by omega
    have ih2 := fun y => ih (k + 1) m (acc ++ [y]) (by omega) (by omega) (by rw [List.length_append, List.length_singleton]; omega)
    have hc : ∀ y : ByteArray, decide ((acc.length + [y].length) * (16 : Nat) ≤ (140737488355328 : Nat)) = true := fun y => decide_eq_true (by rw [List.length_singleton]; omega)
    rw [f1130_L1_step, nat_lt hlt, cond_true, guard0, chkT, getD_nat xs k _ hlt, next64 hlt (by omega), hc, chkT, ih2, ih (k + 1) m acc (by omega) (by omega) (by omega), List.drop_eq_getElem_cons hlt, Sp.noteW]
    cases xs[k].toList == (ByteArray.mk #[]).toList <;> cases (Sp.f1031 acc xs[k]).1 <;> rfl
theorem note_loop0 (n : Nat) (xs : List ByteArray) (hx : xs.length ≤ 1000000000000) : ∀ (d k m : Nat) (acc : List ByteArray), k + d = xs.length → d < m → acc.length ≤ 1000000000000 + k → f1130_L0 n m xs xs.length k acc = some (rNs (Sp.noteW acc (xs.drop k))) := by
  intro d
  induction d with
  | zero =>
    intro k m acc hk hm _
    obtain ⟨m, rfl⟩ := succ_of hm
    rw [f1130_L0_step, nat_ge (by omega), cond_false, List.drop_of_length_le (by omega), Sp.noteW]
  | succ d ih =>
    intro k m acc hk hm ha
    obtain ⟨m, rfl⟩ := succ_of hm
    have hlt : k < xs.length := by omega
    have ih2 := fun y => note_loop1 n xs hx d (k + 1) m (acc ++ [y]) (by omega) (by omega) (by rw [List.length_append, List.length_singleton]; omega)
    have hc : ∀ y : ByteArray, decide ((acc.length + [y].length) * (16 : Nat) ≤ (140737488355328 : Nat)) = true := fun y => decide_eq_true (by rw [List.length_singleton]; omega)
    rw [f1130_L0_step, nat_lt hlt, cond_true, guard0, chkT, getD_nat xs k _ hlt, next64 hlt (by omega), hc, chkT, ih2, ih (k + 1) m acc (by omega) (by omega) (by omega), List.drop_eq_getElem_cons hlt, Sp.noteW]
    cases xs[k].toList == (ByteArray.mk #[]).toList <;> cases (Sp.f1031 acc xs[k]).1 <;> rfl
theorem e1130_core (l xs : List ByteArray) (ha : Sp.noteP l xs = true) : ∃ n, abody Γ (orc [e1031]) n n1130 [XV.mk false [X.c (X0.row .str l true)], ZX (Ty.slice .str) xs] = some (rNs (Sp.noteW l xs)) := by
  obtain ⟨h1, h2⟩ := yes2_true ha
  have h1 := fits32_of h1
  refine ⟨xs.length + 1, (f1130_raw _ l xs).trans ?_⟩
  exact note_loop0 (xs.length + 1) xs (fits32_of h2) xs.length 0 _ l (Nat.zero_add _) (Nat.lt_succ_self _) (by omega)
theorem e1130_ok : Valid PP Γ e1130 := valid_of ok (vcons e1031_ok vnil) fun a ha => e1130_core a.1 a.2 ha
noncomputable def f1099_L0 (n m0 : Nat) (y0 y1 : Int) (y2 : List ByteArray) (y3 : List (ByteArray × ByteArray × Int)) : Option Res := loopAt Γ (orc [e1129, e1130]) n (20 : Nat) (0 : Nat) [] [Pth.r, Pth.r, Pth.l, Pth.r, Pth.b] m0 (St.mk (ZN 3 (Slot.val (Val.one (Cell.own (0 : Nat))) :: ZN 4 (Slot.val (Val.one (Cell.own (1 : Nat))) :: ZS Zi y0 :: ZS Zi y1 :: ZN 10 []))) [AObj.row Ty.str y2 true, AObj.row ZF y3 true])
theorem f1099_L0_step (n m0 : Nat) (y0 y1 : Int) (y2 : List ByteArray) (y3 : List (ByteArray × ByteArray × Int)) : f1099_L0 n (m0 + 1) y0 y1 y2 y3 = bif decide (y1 < y0) then chk (decide ((0 : Int) ≤ y1) && decide (y1 < (↑y3.length : Int))) (chk (Sp.noteP y2 [(y3.getD y1.toNat (ByteArray.mk #[], ByteArray.mk #[], (0 : Int))).1]) (f1099_L0 n m0 y0 (IntKind.i64.wrap (y1 + (1 : Int))) (Sp.noteW y2 [(y3.getD y1.toNat (ByteArray.mk #[], ByteArray.mk #[], (0 : Int))).1]) y3)) else some (Res.mk [XV.mk false [X.c (X0.row Ty.str y2 true)]] []) := by kernel_rfl
theorem f1099_raw (n : Nat) (x0 x1 : Int) (x2 x3 : ByteArray) (x4 x5 : Int) (x6 : ByteArray) (x7 : List ZT) : abody Γ (orc [e1129, e1130]) n 20 [XV.mk true [ZC Zi x0, ZC Zi x1, ZC Ty.str x2, ZC Ty.str x3, ZC Zi x4, ZC Zi x5, ZC Ty.str x6, ZC ZA.rose.slice x7]] = chk (Sp.cnt32 x7) (f1099_L0 n n (↑(Sp.srcs x0 x2 x7).length : Int) (0 : Int) [] (Sp.srcs x0 x2 x7)) := by kernel_rfl

noncomputable def f1097_L0 (n m0 : Nat) (y0 y1 y2 : Int) (y3 y4 : ByteArray) (y5 y6 : Int) (y7 : ByteArray) (y8 : List ZT) (y9 : List ByteArray) : Option Res := loopAt Γ (orc [e1125]) n (16 : Nat) (0 : Nat) [] [Pth.r, Pth.r, Pth.r, Pth.l, Pth.r, Pth.b] m0 (St.mk (Zn :: Slot.val (Val.one (Cell.ptr (0 : Nat) (0 : Nat))) :: Zn :: Slot.val (Val.one (Cell.own (1 : Nat))) :: ZS Zi y0 :: ZN 44 []) [AObj.box (34 : Nat) [Cell.dat Zi y1, Cell.dat Zi y2, Cell.dat Ty.str y3, Cell.dat Ty.str y4, Cell.dat Zi y5, Cell.dat Zi y6, Cell.dat Ty.str y7, Cell.dat ZA.rose.slice y8], AObj.row Ty.str y9 true])
theorem f1097_L0_step (n m0 : Nat) (y0 y1 y2 : Int) (y3 y4 : ByteArray) (y5 y6 : Int) (y7 : ByteArray) (y8 : List ZT) (y9 : List ByteArray) : f1097_L0 n (m0 + 1) y0 y1 y2 y3 y4 y5 y6 y7 y8 y9 = bif decide (y0 < (↑y8.length : Int)) then chk (decide ((0 : Int) ≤ y0) && decide (y0 < (↑y8.length : Int))) (bif (y8.getD y0.toNat ZR).a.1 == (6 : Int) then chk (decide ((0 : Int) ≤ y0) && decide (y0 < (↑y8.length : Int))) (bif !Sp.anyW (Sp.isS (y8.getD y0.toNat ZR).a.2.2.1) y9 then chk (decide ((0 : Int) ≤ y0) && decide (y0 < (↑y8.length : Int))) (chk (decide ((y9.length + [(y8.getD y0.toNat ZR).a.2.2.1].length) * (16 : Nat) ≤ (140737488355328 : Nat))) (f1097_L0 n m0 (IntKind.i64.wrap (y0 + (1 : Int))) y1 y2 y3 y4 y5 y6 y7 y8 (y9 ++ [(y8.getD y0.toNat ZR).a.2.2.1]))) else f1097_L0 n m0 (IntKind.i64.wrap (y0 + (1 : Int))) y1 y2 y3 y4 y5 y6 y7 y8 y9) else f1097_L0 n m0 (IntKind.i64.wrap (y0 + (1 : Int))) y1 y2 y3 y4 y5 y6 y7 y8 y9) else some (Res.mk [XV.mk false [X.c (X0.row Ty.str y9 true)]] []) := by kernel_rfl
theorem f1097_raw (n : Nat) (x0 x1 : Int) (x2 x3 : ByteArray) (x4 x5 : Int) (x6 : ByteArray) (x7 : List ZT) : abody Γ (orc [e1125]) n 16 [XV.mk true [ZC Zi x0, ZC Zi x1, ZC Ty.str x2, ZC Ty.str x3, ZC Zi x4, ZC Zi x5, ZC Ty.str x6, ZC ZA.rose.slice x7]] = bif x0 != (1 : Int) then chk (decide (((0 : Nat) + [x2].length) * (16 : Nat) ≤ (140737488355328 : Nat))) (some (Res.mk [XV.mk false [X.c (X0.row Ty.str ([] ++ [x2]) true)]] [])) else f1097_L0 n n (0 : Int) x0 x1 x2 x3 x4 x5 x6 x7 [] := by kernel_rfl

end Go.Proofs.GR.T

set_option maxRecDepth 3000000
set_option maxHeartbeats 100000000
namespace Go.Proofs.GR.T
open Go Go.Proofs Go.Proofs.GR
def Sp.readW : List ByteArray → List VSo → List ByteArray
  | l, [] => l
  | l, s :: r => Sp.readW (Sp.noteW l [s.1]) r
def Sp.readI (x0 : Int) (x2 : ByteArray) (x7 : List RT) : List ByteArray := Sp.readW [] (Sp.srcs x0 x2 x7)
theorem srcW_len (all : List RT) : ∀ (l : List RT) (k : Int), (Sp.srcW all k l).length ≤ l.length
  | [], _ => Nat.le_refl _
  | r :: l, k => by
    rw [Sp.srcW, List.length_cons]
    have := srcW_len all l (k + 1)
    cases r.a.1 != (6 : Int)
    · rw [cond_false, List.length_cons]; omega
    · rw [cond_true]; omega
theorem srcs_len (x0 : Int) (x2 : ByteArray) (x7 : List RT) : (Sp.srcs x0 x2 x7).length ≤ x7.length + 1 := by
  unfold Sp.srcs
  cases x0 != (1 : Int) with
  | true => rw [cond_true, List.length_singleton]; omega
  | false => have := srcW_len x7 x7 0; rw [cond_false]; omega
theorem noteW_one (l : List ByteArray) (t : ByteArray) : (Sp.noteW l [t]).length ≤ l.length + 1 := by
  rw [Sp.noteW]
  cases t.toList == (ByteArray.mk #[]).toList <;> cases (Sp.f1031 l t).1 <;> simp [Sp.noteW]
noncomputable def e1099 : Ent := { f := n1099, ins := [Sh.agg aT], outs := [Sh.one (C0.row .str)], upd := [], pre := fun a => Sp.cnt32 a.2.2.2.2.2.2.2, spec := fun a => Sp.readI a.1 a.2.2.1 a.2.2.2.2.2.2.2, wrt := fun _ => () }
theorem read_loop (n : Nat) (xs : List VSo) (hx : xs.length ≤ 1000000000000) : ∀ (d k m : Nat) (acc : List ByteArray), k + d = xs.length → d < m → acc.length ≤ k → f1099_L0 n m xs.length k acc xs = some (rNs (Sp.readW acc (xs.drop k))) := by
  intro d
  induction d with
  | zero =>
    intro k m acc hk hm _
    obtain ⟨m, rfl⟩ := succ_of hm
    rw [f1099_L0_step, nat_ge (by omega), cond_false, List.drop_of_length_le (by omega), Sp.readW]
  | succ d ih =>
    intro k m acc hk hm ha
    obtain ⟨m, rfl⟩ := succ_of hm
    have hlt : k < xs.length := by omega
    have hp : Sp.noteP acc [xs[k].1] = true := yes2_mk' (fits32_mk (by omega)) rfl
    have hn := noteW_one acc xs[k].1
    rw [f1099_L0_step, nat_lt hlt, cond_true, guard0, chkT, getD_nat xs k _ hlt, hp, chkT, next64 hlt (by omega), ih (k + 1) m _ (by omega) (by omega) (by omega), List.drop_eq_getElem_cons hlt, Sp.readW]
theorem e1099_core (x0 x1 : Int) (x2 x3 : ByteArray) (x4 x5 : Int) (x6 : ByteArray) (x7 : List RT) (h : Sp.cnt32 x7 = true) : ∃ n, abody Γ (orc [e1129, e1130]) n n1099 (e1099.args (x0, x1, x2, x3, x4, x5, x6, x7)) = some (e1099.res (x0, x1, x2, x3, x4, x5, x6, x7)) := by
  have h1 := srcs_len x0 x2 x7
  have h2 := cntTs_len x7
  have h3 := cnt32_of h
  refine ⟨(Sp.srcs x0 x2 x7).length + 1, (f1099_raw _ x0 x1 x2 x3 x4 x5 x6 x7).trans ?_⟩
  rw [h, chkT]
  by_cases hz : (Sp.srcs x0 x2 x7).length ≤ 1000000000000
  · exact read_loop _ (Sp.srcs x0 x2 x7) hz (Sp.srcs x0 x2 x7).length 0 _ [] (Nat.zero_add _) (Nat.lt_succ_self _) (Nat.zero_le _)
  · exfalso
    unfold Sp.srcs at hz
    cases hc : x0 != (1 : Int) with
    | true => rw [hc, cond_true, List.length_singleton] at hz; omega
    | false => have := srcW_len x7 x7 0; rw [hc, cond_false] at hz; omega
theorem e1099_ok : Valid PP Γ e1099 := valid_of ok (vcons e1129_ok (vcons e1130_ok vnil)) fun a ha => e1099_core a.1 a.2.1 a.2.2.1 a.2.2.2.1 a.2.2.2.2.1 a.2.2.2.2.2.1 a.2.2.2.2.2.2.1 a.2.2.2.2.2.2.2 ha
def Sp.tabsW : List ByteArray → List RT → List ByteArray
  | l, [] => l
  | l, r :: s => bif r.a.1 == (6 : Int) then (bif !Sp.anyW (Sp.isS r.a.2.2.1) l then Sp.tabsW (l ++ [r.a.2.2.1]) s else Sp.tabsW l s) else Sp.tabsW l s
def Sp.readS (x0 : Int) (x2 : ByteArray) (x7 : List RT) : List ByteArray := bif x0 != (1 : Int) then [x2] else Sp.tabsW [] x7
noncomputable def e1097 : Ent := { f := n1097, ins := [Sh.agg aT], outs := [Sh.one (C0.row .str)], upd := [], pre := fun a => Sp.cnt32 a.2.2.2.2.2.2.2, spec := fun a => Sp.readS a.1 a.2.2.1 a.2.2.2.2.2.2.2, wrt := fun _ => () }
theorem tabs_loop (n : Nat) (x0 x1 : Int) (x2 x3 : ByteArray) (x4 x5 : Int) (x6 : ByteArray) (xs : List RT) (hx : xs.length ≤ 1000000000000) : ∀ (d k m : Nat) (acc : List ByteArray), k + d = xs.length → d < m → acc.length ≤ k → f1097_L0 n m k x0 x1 x2 x3 x4 x5 x6 xs acc = some (rNs (Sp.tabsW acc (xs.drop k))) := by
  intro d
  induction d with
  | zero =>
    intro k m acc hk hm _
    obtain ⟨m, rfl⟩ := succ_of hm
    rw [f1097_L0_step, nat_ge (by omega), cond_false, List.drop_of_length_le (by omega), Sp.tabsW]
  | succ d ih =>
    intro k m acc hk hm ha
    obtain ⟨m, rfl⟩ := succ_of hm
    have hlt : k < xs.length := by omega
    have ih2 := fun y => ih (k + 1) m (acc ++ [y]) (by omega) (by omega) (by rw [List.length_append, List.length_singleton]; omega)
    have hc : ∀ y : ByteArray, decide ((acc.length + [y].length) * (16 : Nat) ≤ (140737488355328 : Nat)) = true := fun y => decide_eq_true (by rw [List.length_singleton]; omega)
    rw [f1097_L0_step, nat_lt hlt, cond_true, guard0, chkT, chkT, chkT, getD_nat xs k _ hlt, next64 hlt (by omega), hc, chkT, ih2, ih (k + 1) m acc (by omega) (by omega) (by omega), List.drop_eq_getElem_cons hlt, Sp.tabsW]
    cases xs[k].a.1 == (6 : Int) <;> cases Sp.anyW (Sp.isS xs[k].a.2.2.1) acc <;> rfl
theorem e1097_core (x0 x1 : Int) (x2 x3 : ByteArray) (x4 x5 : Int) (x6 : ByteArray) (x7 : List RT) (h : Sp.cnt32 x7 = true) : ∃ n, abody Γ (orc [e1125]) n n1097 (e1097.args (x0, x1, x2, x3, x4, x5, x6, x7)) = some (e1097.res (x0, x1, x2, x3, x4, x5, x6, x7)) := by
  have h2 := cntTs_len x7
  have h3 := cnt32_of h
  refine ⟨x7.length + 1, (f1097_raw _ x0 x1 x2 x3 x4 x5 x6 x7).trans ?_⟩
  show _ = some (rNs (Sp.readS x0 x2 x7))
  unfold Sp.readS
  cases x0 != (1 : Int) with
  | true => rfl
  | false =>
    rw [cond_false, cond_false]
    exact tabs_loop _ x0 x1 x2 x3 x4 x5 x6 x7 (by omega) x7.length 0 _ [] (Nat.zero_add _) (Nat.lt_succ_self _) (Nat.zero_le _)
theorem e1097_ok : Valid PP Γ e1097 := valid_of ok (vcons e1125_ok vnil) fun a ha => e1097_core a.1 a.2.1 a.2.2.1 a.2.2.2.1 a.2.2.2.2.1 a.2.2.2.2.2.1 a.2.2.2.2.2.2.1 a.2.2.2.2.2.2.2 ha
theorem isS_eq (l : List ByteArray) (t : ByteArray) : (Sp.f1031 l t).1 = Sp.anyW (Sp.isS t) l := by
  show decide (Sp.idx (Sp.sameS t) l 0 ≥ 0) = _
  rw [idx_any _ _ _ (Int.le_refl 0)]
  refine anyW_congr fun w _ => ?_
  unfold Sp.sameS Sp.isS
  rw [Bool.beq_comm]
def Sp.named (r : RT) : Bool := bif r.a.1 == (6 : Int) then !(r.a.2.2.1.toList == (ByteArray.mk #[]).toList) else true
theorem read_eq (all : List RT) : ∀ (l : List RT) (k : Int) (acc : List ByteArray), Sp.allW Sp.named l = true → Sp.readW acc (Sp.srcW all k l) = Sp.tabsW acc l
  | [], _, _, _ => rfl
  | r :: l, k, acc, h => by
    rw [Sp.allW] at h
    rw [Sp.srcW, Sp.tabsW]
    cases hn : Sp.named r with
    | false => rw [hn] at h; cases h
    | true =>
      rw [hn, Bool.not_true, cond_false] at h
      unfold Sp.named at hn
      rw [show (r.a.1 != (6 : Int)) = !(r.a.1 == (6 : Int)) from rfl]
      cases h6 : r.a.1 == (6 : Int) with
      | false => rw [Bool.not_false, cond_true, cond_false]; exact read_eq all l (k + 1) acc h
      | true =>
        rw [h6, cond_true] at hn
        rw [Bool.not_true, cond_false, cond_true, Sp.readW, Sp.noteW]
        have e : (Sp.srcOf all r k).1 = r.a.2.2.1 := rfl
        rw [e, hn, cond_true, isS_eq]
        cases Sp.anyW (Sp.isS r.a.2.2.1) acc with
        | true => rw [Bool.not_true, cond_false, cond_false, Sp.noteW]; exact read_eq all l (k + 1) acc h
        | false => rw [Bool.not_false, cond_true, cond_true, Sp.noteW]; exact read_eq all l (k + 1) _ h
end Go.Proofs.GR.T

set_option maxRecDepth 3000000
set_option maxHeartbeats 100000000
namespace Go.Proofs.GR.T
open Go Go.Proofs Go.Proofs.GR
def Sp.f1184_pre (x0 x1 : Int) (x2 x3 : ByteArray) (x4 x5 : Int) (x6 : ByteArray) (x7 : List ZT) : Bool := (bif x0 != (14 : Int) then true else (Sp.strT (Sp.mkT (x0, x1, x2, x3, x4, x5, x6, x7))))
def Sp.f1184 (x0 x1 : Int) (x2 x3 : ByteArray) (x4 x5 : Int) (x6 : ByteArray) (x7 : List ZT) := (bif x0 != (14 : Int) then (true, ()) else (!Sp.xOK (Sp.mkT (x0, x1, x2, x3, x4, x5, x6, x7)) false, ()))
noncomputable def e1184 : Ent := { f := 72, ins := [Sh.agg [C0.dat Zi, C0.dat Zi, C0.dat Ty.str, C0.dat Ty.str, C0.dat Zi, C0.dat Zi, C0.dat Ty.str, C0.dat ZA.rose.slice]], outs := [Sh.one (C0.dat Ty.bool)], upd := [], pre := fun a => Sp.f1184_pre a.1 a.2.1 a.2.2.1 a.2.2.2.1 a.2.2.2.2.1 a.2.2.2.2.2.1 a.2.2.2.2.2.2.1 a.2.2.2.2.2.2.2, spec := fun a => (Sp.f1184 a.1 a.2.1 a.2.2.1 a.2.2.2.1 a.2.2.2.2.1 a.2.2.2.2.2.1 a.2.2.2.2.2.2.1 a.2.2.2.2.2.2.2).1, wrt := fun a => (Sp.f1184 a.1 a.2.1 a.2.2.1 a.2.2.2.1 a.2.2.2.2.1 a.2.2.2.2.2.1 a.2.2.2.2.2.2.1 a.2.2.2.2.2.2.2).2 }
def f1184_g (v : denS [Sh.one (C0.dat Ty.bool)] × denS []) : Res := ⟨mkS [Sh.one (C0.dat Ty.bool)] v.1, mkU [] v.2⟩
theorem f1184_form (x0 x1 : Int) (x2 x3 : ByteArray) (x4 x5 : Int) (x6 : ByteArray) (x7 : List ZT) : abody Γ (orc [e1021]) 0 72 [XV.mk true [ZC Zi x0, ZC Zi x1, ZC Ty.str x2, ZC Ty.str x3, ZC Zi x4, ZC Zi x5, ZC Ty.str x6, ZC ZA.rose.slice x7]] = chk (Sp.f1184_pre x0 x1 x2 x3 x4 x5 x6 x7) (some (f1184_g (Sp.f1184 x0 x1 x2 x3 x4 x5 x6 x7))) := by
  refine Eq.trans (b := bif x0 != (14 : Int) then Zt else chk (Sp.strT (Sp.mkT (x0, x1, x2, x3, x4, x5, x6, x7))) (some (Res.mk [XV.mk false [X.c (X0.dat Ty.bool !Sp.xOK (Sp.mkT (x0, x1, x2, x3, x4, x5, x6, x7)) false)]] []))) (by kernel_rfl) ?_
  unfold Sp.f1184_pre Sp.f1184
  exact (cond_step f1184_g ((lift_plain (rfl))) ((chk_last (rfl))))
theorem e1184_ok : Valid PP Γ e1184 := valid_auto ok (vcons e1021_ok vnil) fun a => f1184_form a.1 a.2.1 a.2.2.1 a.2.2.2.1 a.2.2.2.2.1 a.2.2.2.2.2.1 a.2.2.2.2.2.2.1 a.2.2.2.2.2.2.2

def Sp.f1127_pre (x0 x1 : Int) (x2 x3 : ByteArray) (x4 x5 : Int) (x6 : ByteArray) (x7 : List ZT) : Bool := (Sp.strT (Sp.mkT (x0, x1, x2, x3, x4, x5, x6, x7)))
def Sp.f1127 (x0 x1 : Int) (x2 x3 : ByteArray) (x4 x5 : Int) (x6 : ByteArray) (x7 : List ZT) := (!Sp.xOK (Sp.mkT (x0, x1, x2, x3, x4, x5, x6, x7)) false, ())
noncomputable def e1127 : Ent := { f := 36, ins := [Sh.agg [C0.dat Zi, C0.dat Zi, C0.dat Ty.str, C0.dat Ty.str, C0.dat Zi, C0.dat Zi, C0.dat Ty.str, C0.dat ZA.rose.slice]], outs := [Sh.one (C0.dat Ty.bool)], upd := [], pre := fun a => Sp.f1127_pre a.1 a.2.1 a.2.2.1 a.2.2.2.1 a.2.2.2.2.1 a.2.2.2.2.2.1 a.2.2.2.2.2.2.1 a.2.2.2.2.2.2.2, spec := fun a => (Sp.f1127 a.1 a.2.1 a.2.2.1 a.2.2.2.1 a.2.2.2.2.1 a.2.2.2.2.2.1 a.2.2.2.2.2.2.1 a.2.2.2.2.2.2.2).1, wrt := fun a => (Sp.f1127 a.1 a.2.1 a.2.2.1 a.2.2.2.1 a.2.2.2.2.1 a.2.2.2.2.2.1 a.2.2.2.2.2.2.1 a.2.2.2.2.2.2.2).2 }
def f1127_g (v : denS [Sh.one (C0.dat Ty.bool)] × denS []) : Res := ⟨mkS [Sh.one (C0.dat Ty.bool)] v.1, mkU [] v.2⟩
theorem f1127_form (x0 x1 : Int) (x2 x3 : ByteArray) (x4 x5 : Int) (x6 : ByteArray) (x7 : List ZT) : abody Γ (orc [e1021]) 0 36 [XV.mk true [ZC Zi x0, ZC Zi x1, ZC Ty.str x2, ZC Ty.str x3, ZC Zi x4, ZC Zi x5, ZC Ty.str x6, ZC ZA.rose.slice x7]] = chk (Sp.f1127_pre x0 x1 x2 x3 x4 x5 x6 x7) (some (f1127_g (Sp.f1127 x0 x1 x2 x3 x4 x5 x6 x7))) := by
  refine Eq.trans (b := chk (Sp.strT (Sp.mkT (x0, x1, x2, x3, x4, x5, x6, x7))) (some (Res.mk [XV.mk false [X.c (X0.dat Ty.bool !Sp.xOK (Sp.mkT (x0, x1, x2, x3, x4, x5, x6, x7)) false)]] []))) (by kernel_rfl) ?_
  unfold Sp.f1127_pre Sp.f1127
  exact (chk_last (rfl))
theorem e1127_ok : Valid PP Γ e1127 := valid_auto ok (vcons e1021_ok vnil) fun a => f1127_form a.1 a.2.1 a.2.2.1 a.2.2.2.1 a.2.2.2.2.1 a.2.2.2.2.2.1 a.2.2.2.2.2.2.1 a.2.2.2.2.2.2.2

abbrev fPa : C0 := C0.fn n1184 []
abbrev fPb : C0 := C0.fn n1127 []
noncomputable def f1035a_L0 (n m0 : Nat) (y0 : List ZT) (y1 y2 : Int) : Option Res := loopAt Γ (orc [e1184]) n (53 : Nat) (0 : Nat) [] [Pth.r, Pth.l, Pth.r, Pth.b] m0 (St.mk (ZS ZA.rose.slice y0 :: Slot.val (Val.one (Cell.fn (72 : Nat) [])) :: ZN 5 (ZS Zi y1 :: ZS Zi y2 :: ZN 10 [])) [])
theorem f1035a_L0_step (n m0 : Nat) (y0 : List ZT) (y1 y2 : Int) : f1035a_L0 n (m0 + 1) y0 y1 y2 = bif decide (y2 < y1) then chk (decide ((0 : Int) ≤ y2) && decide (y2 < (↑y0.length : Int))) (chk (Sp.f1184_pre (y0.getD y2.toNat ZR).a.1 (y0.getD y2.toNat ZR).a.2.1 (y0.getD y2.toNat ZR).a.2.2.1 (y0.getD y2.toNat ZR).a.2.2.2.1 (y0.getD y2.toNat ZR).a.2.2.2.2.1 (y0.getD y2.toNat ZR).a.2.2.2.2.2.1 (y0.getD y2.toNat ZR).a.2.2.2.2.2.2 (y0.getD y2.toNat ZR).kids) (bif (Sp.f1184 (y0.getD y2.toNat ZR).a.1 (y0.getD y2.toNat ZR).a.2.1 (y0.getD y2.toNat ZR).a.2.2.1 (y0.getD y2.toNat ZR).a.2.2.2.1 (y0.getD y2.toNat ZR).a.2.2.2.2.1 (y0.getD y2.toNat ZR).a.2.2.2.2.2.1 (y0.getD y2.toNat ZR).a.2.2.2.2.2.2 (y0.getD y2.toNat ZR).kids).1 then ZJ y2 else f1035a_L0 n m0 y0 y1 (IntKind.i64.wrap (y2 + (1 : Int))))) else ZJ (-1 : Int) := by kernel_rfl
theorem f1035a_raw (n : Nat) (x0 : List ZT) : abody Γ (orc [e1184]) n 53 [ZX ZA.rose.slice x0, XV.mk false [X.c (X0.fn (72 : Nat) [])]] = f1035a_L0 n n x0 (↑x0.length : Int) (0 : Int) := by kernel_rfl

noncomputable def f1035b_L0 (n m0 : Nat) (y0 : List ZT) (y1 y2 : Int) : Option Res := loopAt Γ (orc [e1127]) n (53 : Nat) (0 : Nat) [] [Pth.r, Pth.l, Pth.r, Pth.b] m0 (St.mk (ZS ZA.rose.slice y0 :: Slot.val (Val.one (Cell.fn (36 : Nat) [])) :: ZN 5 (ZS Zi y1 :: ZS Zi y2 :: ZN 10 [])) [])
theorem f1035b_L0_step (n m0 : Nat) (y0 : List ZT) (y1 y2 : Int) : f1035b_L0 n (m0 + 1) y0 y1 y2 = bif decide (y2 < y1) then chk (decide ((0 : Int) ≤ y2) && decide (y2 < (↑y0.length : Int))) (chk (Sp.f1127_pre (y0.getD y2.toNat ZR).a.1 (y0.getD y2.toNat ZR).a.2.1 (y0.getD y2.toNat ZR).a.2.2.1 (y0.getD y2.toNat ZR).a.2.2.2.1 (y0.getD y2.toNat ZR).a.2.2.2.2.1 (y0.getD y2.toNat ZR).a.2.2.2.2.2.1 (y0.getD y2.toNat ZR).a.2.2.2.2.2.2 (y0.getD y2.toNat ZR).kids) (bif (Sp.f1127 (y0.getD y2.toNat ZR).a.1 (y0.getD y2.toNat ZR).a.2.1 (y0.getD y2.toNat ZR).a.2.2.1 (y0.getD y2.toNat ZR).a.2.2.2.1 (y0.getD y2.toNat ZR).a.2.2.2.2.1 (y0.getD y2.toNat ZR).a.2.2.2.2.2.1 (y0.getD y2.toNat ZR).a.2.2.2.2.2.2 (y0.getD y2.toNat ZR).kids).1 then ZJ y2 else f1035b_L0 n m0 y0 y1 (IntKind.i64.wrap (y2 + (1 : Int))))) else ZJ (-1 : Int) := by kernel_rfl
theorem f1035b_raw (n : Nat) (x0 : List ZT) : abody Γ (orc [e1127]) n 53 [ZX ZA.rose.slice x0, XV.mk false [X.c (X0.fn (36 : Nat) [])]] = f1035b_L0 n n x0 (↑x0.length : Int) (0 : Int) := by kernel_rfl

end Go.Proofs.GR.T

