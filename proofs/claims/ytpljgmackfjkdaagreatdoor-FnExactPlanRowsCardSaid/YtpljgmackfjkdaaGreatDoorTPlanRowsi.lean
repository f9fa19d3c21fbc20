/-
  No statement is proved here: what the functions of the law answer, told as plain functions, and that the law's answer is always true.
  No condition.
-/
import Derived.Test.YtpljgmackfjkdaaGreatDoorTPlanRowsh
set_option maxRecDepth 3000000
set_option maxHeartbeats 100000000
namespace Go.Proofs.GR.T
open Go Go.Proofs Go.Proofs.GR
noncomputable def f1370_L0 (n m0 : Nat) (y0 : List (ByteArray × List (ByteArray × Int × Bool) × Int × List (ByteArray × List Int))) (y1 : List (ByteArray × List (List (Int × Int × ByteArray)))) (y2 y3 : Int) : Option Res := loopAt Γ (orc [e1090, e1378]) n (42 : Nat) (0 : Nat) [] [Pth.r, Pth.r, Pth.l, Pth.r, Pth.b] m0 (St.mk (ZS (Ty.str.pair ((Ty.str.pair (Zi.pair Ty.bool)).slice.pair (Zi.pair (Ty.str.pair Zi.slice).slice))).slice y0 :: ZN 16 (ZS (Ty.str.pair (Zi.pair (Zi.pair Ty.str)).slice.slice).slice y1 :: ZS Zi y2 :: ZS Zi y3 :: ZN 23 [])) [])
theorem f1370_L0_step (n m0 : Nat) (y0 : List (ByteArray × List (ByteArray × Int × Bool) × Int × List (ByteArray × List Int))) (y1 : List (ByteArray × List (List (Int × Int × ByteArray)))) (y2 y3 : Int) : f1370_L0 n (m0 + 1) y0 y1 y2 y3 = bif decide (y3 < y2) then chk (decide ((0 : Int) ≤ y3) && decide (y3 < (↑y1.length : Int))) (chk (decide ((0 : Int) ≤ y3) && decide (y3 < (↑y0.length : Int))) (bif !(y1.getD y3.toNat (ByteArray.mk #[], [])).1.toList == (y0.getD y3.toNat (ByteArray.mk #[], [], (0 : Int), [])).1.toList then Zf else chk (decide ((0 : Int) ≤ y3) && decide (y3 < (↑y0.length : Int))) (chk (Sp.rfP (y0.getD y3.toNat (ByteArray.mk #[], [], (0 : Int), [])).2.1 (y0.getD y3.toNat (ByteArray.mk #[], [], (0 : Int), [])).2.2.1 (y1.getD y3.toNat (ByteArray.mk #[], [])).2) (bif !Sp.rowsF (y0.getD y3.toNat (ByteArray.mk #[], [], (0 : Int), [])).2.1 (y0.getD y3.toNat (ByteArray.mk #[], [], (0 : Int), [])).2.2.1 (y1.getD y3.toNat (ByteArray.mk #[], [])).2 then Zf else f1370_L0 n m0 y0 y1 y2 (IntKind.i64.wrap (y3 + (1 : Int))))))) else Zt := by kernel_rfl
theorem f1370_raw (n : Nat) (x0 : List (ByteArray × List (ByteArray × Int × Bool) × Int × List (ByteArray × List Int))) (x1 : List (ByteArray × List (List (Int × Int × ByteArray)))) : abody Γ (orc [e1090, e1378]) n 42 [ZX (Ty.str.pair ((Ty.str.pair (Zi.pair Ty.bool)).slice.pair (Zi.pair (Ty.str.pair Zi.slice).slice))).slice x0, ZX (Ty.str.pair (Zi.pair (Zi.pair Ty.str)).slice.slice).slice x1] = chk (Sp.fineTs x0) (bif !Sp.catOK x0 then Zf else bif (↑x1.length : Int) != (↑x0.length : Int) then Zf else f1370_L0 n n x0 x1 (↑x1.length : Int) (0 : Int)) := by kernel_rfl

def Sp.datN (d : VDt) : Bool := Sp.allW (Sp.allW Sp.nN) d.2
def Sp.datP (ts : List VTb) (ds : List VDt) : Bool := yes2 (Sp.fineTs ts) (Sp.allW Sp.datN ds)
theorem f1370_loop (n : Nat) (ts : List VTb) (ds : List VDt) (he : ds.length = ts.length) (hl : ds.length ≤ 4096) (hc : ∀ t ∈ ts, Sp.inK t.2.1.length t.2.2.1 = true) (hn : ∀ d ∈ ds, Sp.datN d = true) : ∀ (d k m : Nat), k + d = ds.length → d < m → f1370_L0 n m ts ds ds.length k = some (rBo (Sp.all2 Sp.datG (ts.drop k) (ds.drop k))) := by
  intro d
  induction d with
  | zero =>
    intro k m hk hm
    obtain ⟨m, rfl⟩ := succ_of hm
    rw [f1370_L0_step, nat_ge (show ds.length ≤ k by omega), cond_false, List.drop_of_length_le (show ts.length ≤ k by omega)]
    rfl
  | succ d ih =>
    intro k m hk hm
    obtain ⟨m, rfl⟩ := succ_of hm
    have h : k < ds.length := by omega
    have h2 : k < ts.length := by omega
    have hp : Sp.rfP ts[k].2.1 ts[k].2.2.1 ds[k].2 = true := yes2Q (hc _ (List.getElem_mem h2)) (hn _ (List.getElem_mem h))
    rw [f1370_L0_step, nat_lt h, cond_true, guard0, chkT, guard2 h2, chkT, getD_nat ds k _ h, getD_nat ts k _ h2, List.drop_eq_getElem_cons h, List.drop_eq_getElem_cons h2, Sp.all2, hp, chkT, chkT, next64 h (by omega), ih (k + 1) m (by omega) (by omega)]
    unfold Sp.datG Sp.rowsF
    cases ds[k].1.toList == ts[k].1.toList with
    | false => rfl
    | true =>
    rw [Bool.not_true, cond_false, cond_false]
    by_cases q2 : (ds[k].2.length : Int) > 400
    · rw [decide_eq_true q2, decide_eq_false (show ¬ (ds[k].2.length : Int) ≤ 400 by omega)]
      cases Sp.allP (Sp.rowG ts[k].2.1 ts[k].2.2.1) [] ds[k].2 <;> rfl
    rw [decide_eq_false q2, decide_eq_true (show (ds[k].2.length : Int) ≤ 400 by omega)]
    cases Sp.allP (Sp.rowG ts[k].2.1 ts[k].2.2.1) [] ds[k].2 <;> rfl
noncomputable def e1370 : Ent := { f := n1370, ins := [Sh.one (cL tTb), Sh.one (cL tDt)], outs := [Sh.one cB], upd := [], pre := fun a => Sp.datP a.1 a.2, spec := fun a => Sp.dataOK a.1 a.2, wrt := fun _ => () }
theorem e1370_core (ts : List VTb) (ds : List VDt) (ha : Sp.datP ts ds = true) : ∃ n, abody Γ (orc [e1090, e1378]) n n1370 (e1370.args (ts, ds)) = some (rBo (Sp.dataOK ts ds)) := by
  obtain ⟨hf, hn⟩ := yes2_true ha
  refine ⟨ds.length + 1, (f1370_raw _ ts ds).trans ?_⟩
  unfold Sp.dataOK
  rw [hf, chkT]
  cases hc : Sp.catOK ts with
  | false =>
    rw [Bool.not_false, cond_true, cond_true]
    cases decide ((ts.length : Int) > 4096) <;> cases decide ((ds.length : Int) > 4096) <;> rfl
  | true =>
  have hl := (cat_each hc).1
  rw [decide_eq_false (show ¬ (ts.length : Int) > 4096 by omega), Bool.not_true, cond_false, cond_false, cond_false]
  by_cases he : ds.length = ts.length
  · rw [show ((ds.length : Int) != (ts.length : Int)) = false by simp [he], decide_eq_false (show ¬ (ds.length : Int) > 4096 by omega), cond_false, cond_false, cond_false]
    exact f1370_loop _ ts ds he (by omega) (fun t ht => (okT_is ((cat_each hc).2 t ht)).2.1) (allW_mem.1 hn) ds.length 0 _ (Nat.zero_add _) (Nat.lt_succ_self _)
  · rw [show ((ds.length : Int) != (ts.length : Int)) = true by simp; omega, cond_true, cond_true]
    cases decide ((ds.length : Int) > 4096) <;> rfl
theorem e1370_ok : Valid PP Γ e1370 := valid_of ok (vcons e1090_ok (vcons e1378_ok vnil)) fun a ha => e1370_core a.1 a.2 ha
def Sp.row16 (xs : List V3) : Bool := yes2 (Nat.ble xs.length 16) (Sp.allW Sp.vOK xs)
noncomputable def e93w : Ent := { f := n93, ins := [Sh.one (C0.dat (.slice tV))], outs := [Sh.one (C0.row tB)], upd := [], pre := fun a => Sp.row16 a, spec := fun a => Sp.key a, wrt := fun _ => () }
theorem e93w_core (vs : List V3) (h : Sp.row16 vs = true) : ∃ n, abody Γ (orc [e137]) n n93 [ZX (Ty.slice tV) vs] = some (rB (Sp.key vs)) := by
  obtain ⟨h1, h2⟩ := yes2_true h
  have h1 := Nat.le_of_ble_eq_true h1
  refine ⟨1000, (f93_raw 1000 vs).trans ?_⟩
  have := f93_loop 1000 (Nat.le_refl _) vs (allW_mem.1 h2) h1 vs.length 0 1000 [] (Nat.zero_add _) (by omega) (Nat.le_refl _)
  rw [Int.natCast_zero, List.drop_zero, List.nil_append] at this
  exact this
theorem e93w_ok : Valid PP Γ e93w := valid_of ok (vcons e137_ok vnil) fun a ha => e93w_core a ha
def Sp.ixAt (ixs : List VIx) (ix : Int) : List Int := (ixs.getD ix.toNat (ByteArray.mk #[], [])).2
def Sp.keyL (ix key : Int) (ixs : List VIx) (row : VRw) : List Int := bif decide (ix ≥ 0) then Sp.key (Sp.ent key (Sp.ixAt ixs ix) row) else Sp.key (row.take key.toNat)
def Sp.hitR (ix : Int) (lo hi : ByteArray) (key : Int) (ixs : List VIx) (row : VRw) : Bool := (Sp.f1297 (bytesStr (Sp.keyL ix key ixs row)) lo hi).1
def Sp.placesW (p : VRw → Bool) : List VRw → Int → List Int
  | [], _ => []
  | r :: rs, i => (bif p r then [i] else []) ++ Sp.placesW p rs (i + 1)
def Sp.plrR (ix key : Int) (ixs : List VIx) (row : VRw) : Bool := yes2 (Nat.ble row.length 8) (yes2 (Sp.inK row.length key) (yes2 (Sp.allW Sp.vN row) (bif decide (ix ≥ 0) then Sp.entP key (Sp.ixAt ixs ix) row else true)))
def Sp.plrP (ix key : Int) (ixs : List VIx) (rows : List VRw) : Bool := yes2 (Nat.ble rows.length 400) (yes2 (bif decide (ix ≥ 0) then (decide ((0 : Int) ≤ ix) && decide (ix < (ixs.length : Int))) else true) (Sp.allW (Sp.plrR ix key ixs) rows))
theorem plrP_is {ix key : Int} {ixs : List VIx} {rows : List VRw} (h : Sp.plrP ix key ixs rows = true) : rows.length ≤ 400 ∧ (bif decide (ix ≥ 0) then (decide ((0 : Int) ≤ ix) && decide (ix < (ixs.length : Int))) else true) = true ∧ ∀ row ∈ rows, row.length ≤ 8 ∧ Sp.inK row.length key = true ∧ (∀ v ∈ row, Sp.vN v = true) ∧ (bif decide (ix ≥ 0) then Sp.entP key (Sp.ixAt ixs ix) row else true) = true := by
  obtain ⟨h1, h2⟩ := yes2_true h
  obtain ⟨h2, h3⟩ := yes2_true h2
  refine ⟨Nat.le_of_ble_eq_true h1, h2, fun row hr => ?_⟩
  obtain ⟨a, b⟩ := yes2_true (allW_mem.1 h3 row hr)
  obtain ⟨b, c⟩ := yes2_true b
  obtain ⟨c, d⟩ := yes2_true c
  exact ⟨Nat.le_of_ble_eq_true a, b, allW_mem.1 c, d⟩
theorem row16_mk {row : List V3} (h : row.length ≤ 16) (hv : ∀ v ∈ row, Sp.vN v = true) : Sp.row16 row = true := yes2Q (Nat.ble_eq_true_of_le h) (allW_mem.2 fun v h => (vN_is (hv v h)).1)
theorem ent_16 {key : Int} {cs : List Int} {row : VRw} (h : Sp.entP key cs row = true) (hv : ∀ v ∈ row, Sp.vN v = true) : Sp.row16 (Sp.ent key cs row) = true := by
  obtain ⟨h1, h2, _, h4⟩ := entP_is h
  unfold Sp.ent
  refine row16_mk (by rw [List.length_append, pick_len, List.length_take]; omega) fun v hm => ?_
  rcases List.mem_append.1 hm with q | q
  · exact pick_all hv cs h4 v q
  · exact hv v (List.mem_of_mem_take q)
theorem room8 {n : Nat} (h : n ≤ 1000000) : decide (n * 8 ≤ 140737488355328) = true := decide_eq_true (by omega)
abbrev rIs (l : List Int) : Res := Res.mk [XV.mk false [X.c (X0.row Zi l true)]] []
noncomputable def f1423_L0 (n m0 : Nat) (y0 : List (List (Int × Int × ByteArray))) (y1 : Int) (y2 : ByteArray) (y3 : Int) (y4 y5 : ByteArray) (y6 : Int) (y7 : ByteArray) (y8 : List (ByteArray × Int × Bool)) (y9 : Int) (y10 : List (ByteArray × List Int)) (y11 : List Int) : Option Res := loopAt Γ (orc [e93w, e1438, e1297]) n n1423 (0 : Nat) [] [Pth.r, Pth.r, Pth.l, Pth.r, Pth.b] m0 (St.mk (Zn :: Zn :: ZS (Zi.pair (Zi.pair Ty.str)).slice.slice y0 :: Slot.val (Val.one (Cell.ptr (0 : Nat) (0 : Nat))) :: Slot.val (Val.one (Cell.ptr (1 : Nat) (0 : Nat))) :: Zn :: Zn :: Slot.val (Val.one (Cell.own (2 : Nat))) :: ZS Zi y1 :: ZN 45 []) [AObj.box t1050 [Cell.dat Ty.str y2, Cell.dat Zi y3, Cell.dat Ty.str y4, Cell.dat Ty.str y5, Cell.dat Zi y6], AObj.box t173 [Cell.dat Ty.str y7, Cell.dat (Ty.str.pair (Zi.pair Ty.bool)).slice y8, Cell.dat Zi y9, Cell.dat (Ty.str.pair Zi.slice).slice y10], AObj.row Zi y11 true])
theorem f1423_L0_step (n m0 : Nat) (y0 : List (List (Int × Int × ByteArray))) (y1 : Int) (y2 : ByteArray) (y3 : Int) (y4 y5 : ByteArray) (y6 : Int) (y7 : ByteArray) (y8 : List (ByteArray × Int × Bool)) (y9 : Int) (y10 : List (ByteArray × List Int)) (y11 : List Int) : f1423_L0 n (m0 + 1) y0 y1 y2 y3 y4 y5 y6 y7 y8 y9 y10 y11 = bif decide (y1 < (↑y0.length : Int)) then chk (decide ((0 : Int) ≤ y1) && decide (y1 < (↑y0.length : Int))) (chk (decide ((0 : Int) ≤ y9) && decide (y9 ≤ (↑(y0.getD y1.toNat []).length : Int))) (chk (Sp.row16 (List.take (y9.toNat - (0 : Nat)) (List.drop (0 : Nat) (y0.getD y1.toNat [])))) (bif decide (y3 ≥ (0 : Int)) then chk (decide ((0 : Int) ≤ y3) && decide (y3 < (↑y10.length : Int))) (chk (decide ((0 : Int) ≤ y1) && decide (y1 < (↑y0.length : Int))) (chk (Sp.entP y9 (y10.getD y3.toNat (ByteArray.mk #[], [])).2 (y0.getD y1.toNat [])) (chk (Sp.row16 (Sp.ent y9 (y10.getD y3.toNat (ByteArray.mk #[], [])).2 (y0.getD y1.toNat []))) (bif (Sp.f1297 (bytesStr (Sp.key (Sp.ent y9 (y10.getD y3.toNat (ByteArray.mk #[], [])).2 (y0.getD y1.toNat [])))) y4 y5).1 then chk (decide ((y11.length + [y1].length) * (8 : Nat) ≤ (140737488355328 : Nat))) (f1423_L0 n m0 y0 (IntKind.i64.wrap (y1 + (1 : Int))) y2 y3 y4 y5 y6 y7 y8 y9 y10 (y11 ++ [y1])) else f1423_L0 n m0 y0 (IntKind.i64.wrap (y1 + (1 : Int))) y2 y3 y4 y5 y6 y7 y8 y9 y10 y11)))) else bif (Sp.f1297 (bytesStr (Sp.key (List.take (y9.toNat - (0 : Nat)) (List.drop (0 : Nat) (y0.getD y1.toNat []))))) y4 y5).1 then chk (decide ((y11.length + [y1].length) * (8 : Nat) ≤ (140737488355328 : Nat))) (f1423_L0 n m0 y0 (IntKind.i64.wrap (y1 + (1 : Int))) y2 y3 y4 y5 y6 y7 y8 y9 y10 (y11 ++ [y1])) else f1423_L0 n m0 y0 (IntKind.i64.wrap (y1 + (1 : Int))) y2 y3 y4 y5 y6 y7 y8 y9 y10 y11))) else some (Res.mk [XV.mk false [X.c (X0.row Zi y11 true)]] []) := by kernel_rfl
theorem f1423_raw (n : Nat) (x0 : ByteArray) (x1 : Int) (x2 x3 : ByteArray) (x4 : Int) (x5 : ByteArray) (x6 : List (ByteArray × Int × Bool)) (x7 : Int) (x8 : List (ByteArray × List Int)) (x9 : List (List (Int × Int × ByteArray))) : abody Γ (orc [e93w, e1438, e1297]) n n1423 [XV.mk true [ZC Ty.str x0, ZC Zi x1, ZC Ty.str x2, ZC Ty.str x3, ZC Zi x4], XV.mk true [ZC Ty.str x5, ZC (Ty.str.pair (Zi.pair Ty.bool)).slice x6, ZC Zi x7, ZC (Ty.str.pair Zi.slice).slice x8], ZX (Zi.pair (Zi.pair Ty.str)).slice.slice x9] = f1423_L0 n n x9 (0 : Int) x0 x1 x2 x3 x4 x5 x6 x7 x8 [] := by kernel_rfl
theorem f1423_loop (n : Nat) (rows : List VRw) (x0 : ByteArray) (ix : Int) (lo hi : ByteArray) (x4 : Int) (x5 : ByteArray) (x6 : List VCo) (key : Int) (ixs : List VIx) (ha : Sp.plrP ix key ixs rows = true) : ∀ (d k m : Nat) (acc : List Int), k + d = rows.length → d < m → acc.length ≤ k →
    f1423_L0 n m rows k x0 ix lo hi x4 x5 x6 key ixs acc = some (rIs (acc ++ Sp.placesW (Sp.hitR ix lo hi key ixs) (rows.drop k) k)) := by
  obtain ⟨hl, hi1, hr⟩ := plrP_is ha
  intro d
  induction d with
  | zero =>
    intro k m acc hk hm _
    obtain ⟨m, rfl⟩ := succ_of hm
    rw [f1423_L0_step, nat_ge (show rows.length ≤ k by omega), cond_false, List.drop_of_length_le (show rows.length ≤ k by omega), Sp.placesW, List.append_nil]
  | succ d ih =>
    intro k m acc hk hm hac
    obtain ⟨m, rfl⟩ := succ_of hm
    have h : k < rows.length := by omega
    obtain ⟨r1, r2, r3, r4⟩ := hr _ (List.getElem_mem h)
    have c1 : (decide ((0 : Int) ≤ key) && decide (key ≤ (rows[k].length : Int))) = true := r2
    have c2 : Sp.row16 (rows[k].take key.toNat) = true := row16_mk (by rw [List.length_take]; omega) (vN_take r3 _)
    have c3 : decide ((acc.length + [(k : Int)].length) * 8 ≤ 140737488355328) = true := room8 (by rw [List.length_singleton]; omega)
    have fin : ∀ b : Bool, b = Sp.hitR ix lo hi key ixs rows[k] → (bif b then f1423_L0 n m rows ((k + 1 : Nat) : Int) x0 ix lo hi x4 x5 x6 key ixs (acc ++ [(k : Int)]) else f1423_L0 n m rows ((k + 1 : Nat) : Int) x0 ix lo hi x4 x5 x6 key ixs acc) = some (rIs (acc ++ ((bif Sp.hitR ix lo hi key ixs rows[k] then [(k : Int)] else []) ++ Sp.placesW (Sp.hitR ix lo hi key ixs) (rows.drop (k + 1)) ((k : Int) + 1)))) := fun b hb => by
      rw [← hb]
      cases b with
      | true => rw [cond_true, cond_true, ih (k + 1) m _ (by omega) (by omega) (by rw [List.length_append, List.length_singleton]; omega), List.append_assoc]; rfl
      | false => rw [cond_false, cond_false, ih (k + 1) m _ (by omega) (by omega) (by omega)]; rfl
    rw [f1423_L0_step, nat_lt h, cond_true, guard0, chkT, getD_nat rows k _ h, c1, chkT, take0, c2, chkT, c3, chkT, chkT, next64 h (by omega), List.drop_eq_getElem_cons h, Sp.placesW]
    cases hx : decide (ix ≥ 0) with
    | true =>
      rw [hx, cond_true] at hi1 r4
      have c4 : Sp.entP key (ixs.getD ix.toNat (ByteArray.mk #[], [])).2 rows[k] = true := r4
      have c5 : Sp.row16 (Sp.ent key (ixs.getD ix.toNat (ByteArray.mk #[], [])).2 rows[k]) = true := ent_16 r4 r3
      rw [cond_true, hi1, chkT, c4, chkT, c5, chkT]
      refine fin _ ?_
      unfold Sp.hitR Sp.keyL
      rw [hx]
      rfl
    | false =>
      rw [cond_false]
      refine fin _ ?_
      unfold Sp.hitR Sp.keyL
      rw [hx]
      rfl
noncomputable def e1423 : Ent := { f := n1423, ins := [Sh.agg [cS, cI, cS, cS, cI], shTb, Sh.one (cL tRw)], outs := [Sh.one (C0.row (.int .i64))], upd := [], pre := fun a => Sp.plrP a.1.2.1 a.2.1.2.2.1 a.2.1.2.2.2 a.2.2, spec := fun a => Sp.placesW (Sp.hitR a.1.2.1 a.1.2.2.1 a.1.2.2.2.1 a.2.1.2.2.1 a.2.1.2.2.2) a.2.2 0, wrt := fun _ => () }
theorem e1423_core (x0 : ByteArray) (ix : Int) (lo hi : ByteArray) (x4 : Int) (x5 : ByteArray) (x6 : List VCo) (key : Int) (ixs : List VIx) (rows : List VRw) (ha : Sp.plrP ix key ixs rows = true) : ∃ n, abody Γ (orc [e93w, e1438, e1297]) n n1423 (e1423.args ((x0, ix, lo, hi, x4), (x5, x6, key, ixs), rows)) = some (rIs (Sp.placesW (Sp.hitR ix lo hi key ixs) rows 0)) :=
  ⟨rows.length + 1, (f1423_raw _ x0 ix lo hi x4 x5 x6 key ixs rows).trans (f1423_loop _ rows x0 ix lo hi x4 x5 x6 key ixs ha rows.length 0 _ [] (Nat.zero_add _) (Nat.lt_succ_self _) (Nat.zero_le _))⟩
theorem e1423_ok : Valid PP Γ e1423 := valid_of ok (vcons e93w_ok (vcons e1438_ok (vcons e1297_ok vnil))) fun a ha => e1423_core a.1.1 a.1.2.1 a.1.2.2.1 a.1.2.2.2.1 a.1.2.2.2.2 a.2.1.1 a.2.1.2.1 a.2.1.2.2.1 a.2.1.2.2.2 a.2.2 ha
noncomputable def f1425_L0 (n m0 : Nat) (y0 : List (List (Int × Int × ByteArray))) (y1 y2 : Int) (y3 : ByteArray) (y4 : Int) (y5 y6 : ByteArray) (y7 : Int) (y8 : ByteArray) (y9 : List (ByteArray × Int × Bool)) (y10 : Int) (y11 : List (ByteArray × List Int)) (y12 : List Int) : Option Res := loopAt Γ (orc [e1092, e1391, e1439, e1292]) n (44 : Nat) (0 : Nat) [] [Pth.r, Pth.r, Pth.r, Pth.r, Pth.l, Pth.r, Pth.b] m0 (St.mk (ZN 3 (Slot.val (Val.one (Cell.ptr (0 : Nat) (0 : Nat))) :: ZN 5 (Slot.val (Val.one (Cell.ptr (1 : Nat) (0 : Nat))) :: Slot.val (Val.one (Cell.own (2 : Nat))) :: ZN 19 (ZS (Zi.pair (Zi.pair Ty.str)).slice.slice y0 :: ZS Zi y1 :: ZS Zi y2 :: ZN 32 [])))) [AObj.box (32 : Nat) [Cell.dat Ty.str y3, Cell.dat Zi y4, Cell.dat Ty.str y5, Cell.dat Ty.str y6, Cell.dat Zi y7], AObj.box (79 : Nat) [Cell.dat Ty.str y8, Cell.dat (Ty.str.pair (Zi.pair Ty.bool)).slice y9, Cell.dat Zi y10, Cell.dat (Ty.str.pair Zi.slice).slice y11], AObj.row Zi y12 true])
theorem f1425_L0_step (n m0 : Nat) (y0 : List (List (Int × Int × ByteArray))) (y1 y2 : Int) (y3 : ByteArray) (y4 : Int) (y5 y6 : ByteArray) (y7 : Int) (y8 : ByteArray) (y9 : List (ByteArray × Int × Bool)) (y10 : Int) (y11 : List (ByteArray × List Int)) (y12 : List Int) : f1425_L0 n (m0 + 1) y0 y1 y2 y3 y4 y5 y6 y7 y8 y9 y10 y11 y12 = bif decide (y2 < y1) then chk (decide ((0 : Int) ≤ y2) && decide (y2 < (↑y0.length : Int))) (chk (Sp.f1391_pre y8 y9 y10 y11 (y0.getD y2.toNat [])) (bif decide (y4 ≥ (0 : Int)) then chk (decide ((0 : Int) ≤ y4) && decide (y4 < (↑y11.length : Int))) (chk (Sp.ixkP y10 (y11.getD y4.toNat (ByteArray.mk #[], [])).2 (y0.getD y2.toNat [])) (bif (Sp.f1292 (bytesStr (Sp.key (Sp.ent y10 (y11.getD y4.toNat (ByteArray.mk #[], [])).2 (y0.getD y2.toNat [])))) y5 y6).1 then chk (decide ((y12.length + [y2].length) * (8 : Nat) ≤ (140737488355328 : Nat))) (f1425_L0 n m0 y0 y1 (IntKind.i64.wrap (y2 + (1 : Int))) y3 y4 y5 y6 y7 y8 y9 y10 y11 (y12 ++ [y2])) else f1425_L0 n m0 y0 y1 (IntKind.i64.wrap (y2 + (1 : Int))) y3 y4 y5 y6 y7 y8 y9 y10 y11 y12)) else bif (Sp.f1292 (bytesStr (Sp.f1391 y8 y9 y10 y11 (y0.getD y2.toNat [])).1) y5 y6).1 then chk (decide ((y12.length + [y2].length) * (8 : Nat) ≤ (140737488355328 : Nat))) (f1425_L0 n m0 y0 y1 (IntKind.i64.wrap (y2 + (1 : Int))) y3 y4 y5 y6 y7 y8 y9 y10 y11 (y12 ++ [y2])) else f1425_L0 n m0 y0 y1 (IntKind.i64.wrap (y2 + (1 : Int))) y3 y4 y5 y6 y7 y8 y9 y10 y11 y12)) else some (Res.mk [XV.mk false [X.c (X0.row Zi y12 true)]] []) := by kernel_rfl
theorem f1425_raw (n : Nat) (x0 : ByteArray) (x1 : Int) (x2 x3 : ByteArray) (x4 : Int) (x5 : List (ByteArray × List (ByteArray × Int × Bool) × Int × List (ByteArray × List Int))) (x6 : List (ByteArray × List (List (Int × Int × ByteArray)))) : abody Γ (orc [e1092, e1391, e1439, e1292]) n 44 [XV.mk true [ZC Ty.str x0, ZC Zi x1, ZC Ty.str x2, ZC Ty.str x3, ZC Zi x4], ZX (Ty.str.pair ((Ty.str.pair (Zi.pair Ty.bool)).slice.pair (Zi.pair (Ty.str.pair Zi.slice).slice))).slice x5, ZX (Ty.str.pair (Zi.pair (Zi.pair Ty.str)).slice.slice).slice x6] = chk (Sp.f1092_pre x5 x0) (chk (decide ((0 : Int) ≤ (Sp.f1092 x5 x0).1.1) && decide ((Sp.f1092 x5 x0).1.1 < (↑x5.length : Int))) (chk (decide ((0 : Int) ≤ (Sp.f1092 x5 x0).1.1) && decide ((Sp.f1092 x5 x0).1.1 < (↑x6.length : Int))) (f1425_L0 n n (x6.getD (Sp.f1092 x5 x0).1.1.toNat (ByteArray.mk #[], [])).2 (↑(x6.getD (Sp.f1092 x5 x0).1.1.toNat (ByteArray.mk #[], [])).2.length : Int) (0 : Int) x0 x1 x2 x3 x4 (x5.getD (Sp.f1092 x5 x0).1.1.toNat (ByteArray.mk #[], [], (0 : Int), [])).1 (x5.getD (Sp.f1092 x5 x0).1.1.toNat (ByteArray.mk #[], [], (0 : Int), [])).2.1 (x5.getD (Sp.f1092 x5 x0).1.1.toNat (ByteArray.mk #[], [], (0 : Int), [])).2.2.1 (x5.getD (Sp.f1092 x5 x0).1.1.toNat (ByteArray.mk #[], [], (0 : Int), [])).2.2.2 []))) := by kernel_rfl

def Sp.atT (ts : List VTb) (t : ByteArray) : Int := (Sp.f1092 ts t).1.1
def Sp.dAt (ds : List VDt) (i : Int) : VDt := ds.getD i.toNat (ByteArray.mk #[], [])
def Sp.plsP (t : ByteArray) (ix : Int) (ts : List VTb) (ds : List VDt) : Bool := yes2 (Sp.f1092_pre ts t) (yes2 (decide ((0 : Int) ≤ Sp.atT ts t) && decide (Sp.atT ts t < (ts.length : Int))) (yes2 (decide ((0 : Int) ≤ Sp.atT ts t) && decide (Sp.atT ts t < (ds.length : Int))) (Sp.plrP ix (Sp.tAt ts (Sp.atT ts t)).2.2.1 (Sp.tAt ts (Sp.atT ts t)).2.2.2 (Sp.dAt ds (Sp.atT ts t)).2)))
def Sp.pls (t : ByteArray) (ix : Int) (lo hi : ByteArray) (ts : List VTb) (ds : List VDt) : List Int := Sp.placesW (Sp.hitR ix lo hi (Sp.tAt ts (Sp.atT ts t)).2.2.1 (Sp.tAt ts (Sp.atT ts t)).2.2.2) (Sp.dAt ds (Sp.atT ts t)).2 0
theorem f1425_loop (n : Nat) (rows : List VRw) (x0 : ByteArray) (ix : Int) (lo hi : ByteArray) (x4 : Int) (x5 : ByteArray) (x6 : List VCo) (key : Int) (ixs : List VIx) (ha : Sp.plrP ix key ixs rows = true) : ∀ (d k m : Nat) (acc : List Int), k + d = rows.length → d < m → acc.length ≤ k →
    f1425_L0 n m rows rows.length k x0 ix lo hi x4 x5 x6 key ixs acc = some (rIs (acc ++ Sp.placesW (Sp.hitR ix lo hi key ixs) (rows.drop k) k)) := by
  obtain ⟨hl, hi1, hr⟩ := plrP_is ha
  intro d
  induction d with
  | zero =>
    intro k m acc hk hm _
    obtain ⟨m, rfl⟩ := succ_of hm
    rw [f1425_L0_step, nat_ge (show rows.length ≤ k by omega), cond_false, List.drop_of_length_le (show rows.length ≤ k by omega), Sp.placesW, List.append_nil]
  | succ d ih =>
    intro k m acc hk hm hac
    obtain ⟨m, rfl⟩ := succ_of hm
    have h : k < rows.length := by omega
    obtain ⟨r1, r2, r3, r4⟩ := hr _ (List.getElem_mem h)
    have c1 : Sp.f1391_pre x5 x6 key ixs rows[k] = true := by
      unfold Sp.f1391_pre
      have e : (decide ((0 : Int) ≤ key) && decide (key ≤ (rows[k].length : Int))) = true := r2
      rw [take0, e, kbP_mk (by rw [List.length_take]; omega) (vN_take r3 _)]
      rfl
    have c3 : decide ((acc.length + [(k : Int)].length) * 8 ≤ 140737488355328) = true := room8 (by rw [List.length_singleton]; omega)
    have fin : ∀ b : Bool, b = Sp.hitR ix lo hi key ixs rows[k] → (bif b then f1425_L0 n m rows rows.length ((k + 1 : Nat) : Int) x0 ix lo hi x4 x5 x6 key ixs (acc ++ [(k : Int)]) else f1425_L0 n m rows rows.length ((k + 1 : Nat) : Int) x0 ix lo hi x4 x5 x6 key ixs acc) = some (rIs (acc ++ ((bif Sp.hitR ix lo hi key ixs rows[k] then [(k : Int)] else []) ++ Sp.placesW (Sp.hitR ix lo hi key ixs) (rows.drop (k + 1)) ((k : Int) + 1)))) := fun b hb => by
      rw [← hb]
      cases b with
      | true => rw [cond_true, cond_true, ih (k + 1) m _ (by omega) (by omega) (by rw [List.length_append, List.length_singleton]; omega), List.append_assoc]; rfl
      | false => rw [cond_false, cond_false, ih (k + 1) m _ (by omega) (by omega) (by omega)]; rfl
    rw [f1425_L0_step, nat_lt h, cond_true, guard0, chkT, getD_nat rows k _ h, c1, chkT, c3, chkT, next64 h (by omega), List.drop_eq_getElem_cons h, Sp.placesW]
    cases hx : decide (ix ≥ 0) with
    | true =>
      rw [hx, cond_true] at hi1 r4
      have c4 : Sp.ixkP key (ixs.getD ix.toNat (ByteArray.mk #[], [])).2 rows[k] = true := yes2Q r4 (allW_mem.2 r3)
      rw [cond_true, hi1, chkT, c4, chkT]
      refine fin _ ?_
      unfold Sp.hitR Sp.keyL
      rw [hx]
      rfl
    | false =>
      rw [cond_false]
      refine fin _ ?_
      unfold Sp.hitR Sp.keyL
      rw [hx]
      rfl
noncomputable def e1425 : Ent := { f := n1425, ins := [Sh.agg [cS, cI, cS, cS, cI], Sh.one (cL tTb), Sh.one (cL tDt)], outs := [Sh.one (C0.row (.int .i64))], upd := [], pre := fun a => Sp.plsP a.1.1 a.1.2.1 a.2.1 a.2.2, spec := fun a => Sp.pls a.1.1 a.1.2.1 a.1.2.2.1 a.1.2.2.2.1 a.2.1 a.2.2, wrt := fun _ => () }
theorem e1425_core (x0 : ByteArray) (ix : Int) (lo hi : ByteArray) (x4 : Int) (ts : List VTb) (ds : List VDt) (ha : Sp.plsP x0 ix ts ds = true) : ∃ n, abody Γ (orc [e1092, e1391, e1439, e1292]) n n1425 (e1425.args ((x0, ix, lo, hi, x4), ts, ds)) = some (rIs (Sp.pls x0 ix lo hi ts ds)) := by
  obtain ⟨h1, h2⟩ := yes2_true ha
  obtain ⟨h2, h3⟩ := yes2_true h2
  obtain ⟨h3, h4⟩ := yes2_true h3
  have h2 : (decide ((0 : Int) ≤ (Sp.f1092 ts x0).1.1) && decide ((Sp.f1092 ts x0).1.1 < (ts.length : Int))) = true := h2
  have h3 : (decide ((0 : Int) ≤ (Sp.f1092 ts x0).1.1) && decide ((Sp.f1092 ts x0).1.1 < (ds.length : Int))) = true := h3
  refine ⟨(Sp.dAt ds (Sp.atT ts x0)).2.length + 1, (f1425_raw _ x0 ix lo hi x4 ts ds).trans ?_⟩
  rw [h1, chkT, h2, chkT, h3, chkT]
  exact f1425_loop _ (Sp.dAt ds (Sp.atT ts x0)).2 x0 ix lo hi x4 (Sp.tAt ts (Sp.atT ts x0)).1 (Sp.tAt ts (Sp.atT ts x0)).2.1 (Sp.tAt ts (Sp.atT ts x0)).2.2.1 (Sp.tAt ts (Sp.atT ts x0)).2.2.2 h4 (Sp.dAt ds (Sp.atT ts x0)).2.length 0 _ [] (Nat.zero_add _) (Nat.lt_succ_self _) (Nat.zero_le _)
theorem e1425_ok : Valid PP Γ e1425 := valid_of ok (vcons e1092_ok (vcons e1391_ok (vcons e1439_ok (vcons e1292_ok vnil)))) fun a ha => e1425_core a.1.1 a.1.2.1 a.1.2.2.1 a.1.2.2.2.1 a.1.2.2.2.2 a.2.1 a.2.2 ha
end Go.Proofs.GR.T

