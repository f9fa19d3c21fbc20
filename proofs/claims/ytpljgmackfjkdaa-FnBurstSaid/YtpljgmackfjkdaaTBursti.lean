/-
  No statement is proved here: what the functions of the law answer, told as plain functions, and that the law's answer is always true.
  No condition.
-/
import Derived.Test.YtpljgmackfjkdaaTBursth
set_option maxRecDepth 3000000
set_option maxHeartbeats 100000000
namespace Go.Proofs.GR.T
open Go Go.Proofs Go.Proofs.GR
def Sp.two (n : Int) : List Int := [IntKind.u8.wrap (n.fdiv (256 : Int)), IntKind.u8.wrap n]
theorem two_eq {n : Nat} (h : n ≤ 1000000000) : [IntKind.u8.wrap (IntKind.i64.wrap ((n : Int).tdiv (256 : Int))), IntKind.u8.wrap ((n : Int).tmod (256 : Int))] = Sp.two n := by
  unfold Sp.two
  rw [Int.tdiv_eq_ediv_of_nonneg (by omega), Int.tmod_eq_emod_of_nonneg (by omega), Int.fdiv_eq_ediv_of_nonneg _ (by omega), wrap64 (by omega) (by omega), wrap8 ((n : Int) % 256), wrap8 (n : Int), Int.emod_emod]
def Sp.flatI {α : Type} (f : α → List Int) : List α → List Int
  | [] => []
  | x :: r => f x ++ Sp.flatI f r
theorem flatI_len {α : Type} {f : α → List Int} {B : Nat} : ∀ xs : List α, (∀ x ∈ xs, (f x).length ≤ B) → (Sp.flatI f xs).length ≤ B * xs.length
  | [], _ => Nat.zero_le _
  | x :: r, h => by
    have h1 := h x List.mem_cons_self
    have h2 := flatI_len r fun y hy => h y (List.mem_cons_of_mem _ hy)
    rw [Sp.flatI, List.length_append, List.length_cons, Nat.mul_succ]
    omega
theorem flatI_loop {α ρ : Type} (f : α → List Int) (xs : List α) (P B : Nat) (hf : ∀ x ∈ xs, (f x).length ≤ B) (L : Nat → Int → List Int → Option ρ) (z : List Int → Option ρ)
    (h0 : ∀ m (k : Nat) acc, xs.length ≤ k → L (m + 1) k acc = z acc)
    (h1 : ∀ m (k : Nat) (h : k < xs.length) acc, acc.length ≤ P + k * B → L (m + 1) k acc = L m ((k + 1 : Nat) : Int) (acc ++ f xs[k])) :
    ∀ (d k m : Nat) (acc : List Int), k + d = xs.length → d < m → acc.length ≤ P + k * B → L m k acc = z (acc ++ Sp.flatI f (xs.drop k)) := by
  intro d
  induction d with
  | zero =>
    intro k m acc hk hm _
    obtain ⟨m, rfl⟩ := succ_of hm
    rw [h0 m k _ (by omega), List.drop_of_length_le (by omega), Sp.flatI, List.append_nil]
  | succ d ih =>
    intro k m acc hk hm hs
    obtain ⟨m, rfl⟩ := succ_of hm
    have h : k < xs.length := by omega
    have hb := hf _ (List.getElem_mem h)
    rw [h1 m k h _ hs, ih (k + 1) m _ (by omega) (by omega) (by rw [List.length_append, Nat.succ_mul]; omega), List.drop_eq_getElem_cons h, Sp.flatI, List.append_assoc]
def Sp.dmp1 (t : VTb) (d : VDt) : List Int := Sp.two (Sp.tabT t).size ++ strBytes (Sp.tabT t) ++ Sp.two d.2.length ++ Sp.flatI Sp.rowBy d.2
def Sp.dmp : List VTb → List VDt → List Int
  | t :: ts, d :: ds => Sp.dmp1 t d ++ Sp.dmp ts ds
  | [], _ => []
  | _ :: _, [] => []
def Sp.dumpW (ts : List VTb) (ds : List VDt) : List Int := IntKind.u8.wrap (ts.length : Int) :: Sp.dmp ts ds
theorem tabT_size {t : VTb} (h : Sp.okT t = true) : (Sp.tabT t).size ≤ 4000 := by
  obtain ⟨o1, o2, o3⟩ := okT_is h
  obtain ⟨t1, t2, t3, t4, t5, t6, t7⟩ := okT_text h
  have hj := (join_le (B := 51) (n := 0) (xs := t.2.1.map Sp.coT) (fun y hy => by
    obtain ⟨c, hc, rfl⟩ := List.mem_map.1 hy
    exact coT_size (t6 c hc)) (by omega) (by rw [List.length_map]; exact o1)).1
  have hd := dig_size (n := t.2.2.1) (by omega) (by omega)
  have hc := cat1_size (B := 600) (t.2.2.2.map (Sp.ixT t.2.1)) (fun y hy => by
    obtain ⟨x, hx, rfl⟩ := List.mem_map.1 hy
    exact ixT_size t6 (t7 x hx).1 (o3 x hx).1)
  rw [List.length_map] at hc
  unfold Sp.tabT
  rw [ByteArray.size_append, ByteArray.size_append, ByteArray.size_append, ByteArray.size_append, ByteArray.size_append, sOpen, sKey]
  omega
theorem all2_atD {ts : List VTb} {ds : List VDt} : Sp.all2 Sp.datG ts ds = true → ∀ (i : Nat) (h : i < ts.length) (h2 : i < ds.length), Sp.datG ts[i] ds[i] = true := by
  induction ts generalizing ds with
  | nil => intro _ i h; cases h
  | cons x r ih =>
    intro hp i h h2
    cases ds with
    | nil => cases h2
    | cons d s =>
      rw [Sp.all2] at hp
      cases hg : Sp.datG x d with
      | false => rw [hg] at hp; cases hp
      | true =>
        rw [hg, cond_true] at hp
        cases i with
        | zero => exact hg
        | succ i => exact ih hp i (Nat.lt_of_succ_lt_succ h) (Nat.lt_of_succ_lt_succ h2)
theorem dataOKD_is {ts : List VTb} {ds : List VDt} (h : Sp.dataOK ts ds = true) : Sp.catOK ts = true ∧ ds.length = ts.length ∧ Sp.all2 Sp.datG ts ds = true := by
  unfold Sp.dataOK at h
  cases q1 : decide ((ts.length : Int) > 4096) with
  | true => rw [q1] at h; cases h
  | false =>
  cases q2 : decide ((ds.length : Int) > 4096) with
  | true => rw [q1, q2] at h; cases h
  | false =>
  cases q3 : Sp.catOK ts with
  | false => rw [q1, q2, q3] at h; cases h
  | true =>
  rw [q1, q2, q3] at h
  by_cases he : ds.length = ts.length
  · rw [show ((ds.length : Int) != (ts.length : Int)) = false by simp [he]] at h
    exact ⟨rfl, he, h⟩
  · rw [show ((ds.length : Int) != (ts.length : Int)) = true by simp; omega] at h
    cases h
def Sp.dmpP (ts : List VTb) (ds : List VDt) : Bool := yes2 (Sp.dataOK ts ds) (Sp.allW Sp.datN ds)
theorem dmpP_is {ts : List VTb} {ds : List VDt} (h : Sp.dmpP ts ds = true) : ts.length ≤ 6 ∧ ds.length = ts.length ∧ (∀ t ∈ ts, Sp.okT t = true) ∧ ∀ (i : Nat) (h : i < ts.length) (h2 : i < ds.length), ds[i].2.length ≤ 400 ∧ ∀ r ∈ ds[i].2, Sp.rwP r = true ∧ (Sp.rowBy r).length ≤ 801 := by
  obtain ⟨h1, h2⟩ := yes2_true h
  obtain ⟨c1, c2, c3⟩ := dataOKD_is h1
  obtain ⟨e1, e2⟩ := cat_each c1
  refine ⟨e1, c2, e2, fun i hi hd => ?_⟩
  have hg := all2_atD c3 i hi hd
  have hn := allW_mem.1 h2 _ (List.getElem_mem hd)
  generalize ds[i] = d at hg hn ⊢
  unfold Sp.datG at hg
  cases q1 : d.1.toList == ts[i].1.toList with
  | false => rw [q1] at hg; cases hg
  | true =>
  by_cases q2 : (d.2.length : Int) > 400
  · rw [q1, decide_eq_true q2] at hg; cases hg
  rw [q1, decide_eq_false q2] at hg
  have hg : Sp.allP (Sp.rowG ts[i].2.1 ts[i].2.2.1) [] d.2 = true := hg
  refine ⟨by omega, fun r hr => ?_⟩
  obtain ⟨q, g⟩ := allP_mem _ _ hg r hr
  obtain ⟨g1, g2⟩ := rowG_is g
  have g3 := rowOK_iff.1 g1
  have hv := vN_mk g1 (allW_mem.1 hn r hr)
  refine ⟨yes2Q (Nat.ble_eq_true_of_le (by omega)) (allW_mem.2 hv), ?_⟩
  have := rowBy_len fun v hx => (vN_is (hv v hx)).1
  omega
theorem dmp1_len {t : VTb} {d : VDt} (ho : Sp.okT t = true) (hl : d.2.length ≤ 400) (hr : ∀ r ∈ d.2, (Sp.rowBy r).length ≤ 801) : (Sp.dmp1 t d).length ≤ 4004 + 801 * d.2.length := by
  have h1 := tabT_size ho
  have h2 := strBytes_len (Sp.tabT t)
  have h3 := flatI_len (f := Sp.rowBy) d.2 hr
  unfold Sp.dmp1 Sp.two
  rw [List.length_append, List.length_append, List.length_append]
  simp only [List.length_cons, List.length_nil]
  omega
theorem dmp_loop (ts : List VTb) (ds : List VDt) (he : ds.length = ts.length) (hb : ∀ (i : Nat) (h : i < ts.length) (h2 : i < ds.length), (Sp.dmp1 ts[i] ds[i]).length ≤ 400000) (L : Nat → Int → List Int → Option Res)
    (h0 : ∀ m (k : Nat) acc, ts.length ≤ k → L (m + 1) k acc = some (rB acc))
    (h1 : ∀ m (k : Nat) (h : k < ts.length) (h2 : k < ds.length) acc, acc.length ≤ 1 + 400000 * k → L (m + 1) k acc = L m ((k + 1 : Nat) : Int) (acc ++ Sp.dmp1 ts[k] ds[k])) :
    ∀ (d k m : Nat) (acc : List Int), k + d = ts.length → d < m → acc.length ≤ 1 + 400000 * k → L m k acc = some (rB (acc ++ Sp.dmp (ts.drop k) (ds.drop k))) := by
  intro d
  induction d with
  | zero =>
    intro k m acc hk hm _
    obtain ⟨m, rfl⟩ := succ_of hm
    rw [h0 m k _ (by omega), List.drop_of_length_le (show ts.length ≤ k by omega), Sp.dmp, List.append_nil]
  | succ d ih =>
    intro k m acc hk hm ha
    obtain ⟨m, rfl⟩ := succ_of hm
    have h : k < ts.length := by omega
    have h2 : k < ds.length := by omega
    have hl := hb k h h2
    rw [h1 m k h h2 acc ha, ih (k + 1) m _ (by omega) (by omega) (by rw [List.length_append]; omega), List.drop_eq_getElem_cons h, List.drop_eq_getElem_cons h2, Sp.dmp, List.append_assoc]
theorem dmp1_at {ts : List VTb} {ds : List VDt} (h : Sp.dmpP ts ds = true) (i : Nat) (h1 : i < ts.length) (h2 : i < ds.length) : (Sp.dmp1 ts[i] ds[i]).length ≤ 400000 := by
  obtain ⟨d1, d2, d3, d4⟩ := dmpP_is h
  obtain ⟨r1, r2⟩ := d4 i h1 h2
  have := dmp1_len (d3 _ (List.getElem_mem h1)) r1 fun r hr => (r2 r hr).2
  omega
noncomputable def f97_L0 (n m0 : Nat) (y0 : List (ByteArray × List (ByteArray × Int × Bool) × Int × List (ByteArray × List Int))) (y1 : List (ByteArray × List (List (Int × Int × ByteArray)))) (y2 : Int) (y3 : List Int) : Option Res := loopAt Γ (orc [e142, e143]) n (47 : Nat) (0 : Nat) [] [Pth.r, Pth.r, Pth.l, Pth.r, Pth.b] m0 (St.mk (ZS (Ty.str.pair ((Ty.str.pair (Zi.pair Ty.bool)).slice.pair (Zi.pair (Ty.str.pair Zi.slice).slice))).slice y0 :: ZS (Ty.str.pair (Zi.pair (Zi.pair Ty.str)).slice.slice).slice y1 :: ZN 3 (Slot.val (Val.one (Cell.own (0 : Nat))) :: ZS Zi y2 :: ZN 61 [])) [AObj.row (Ty.int IntKind.u8) y3 true])
noncomputable def f97_L1 (n m0 m1 : Nat) (y0 : List (ByteArray × List (ByteArray × Int × Bool) × Int × List (ByteArray × List Int))) (y1 : List (ByteArray × List (List (Int × Int × ByteArray)))) (y2 : Int) (y3 : List (List (Int × Int × ByteArray))) (y4 : Int) (y5 : List Int) : Option Res := loopAt Γ (orc [e142, e143]) n (47 : Nat) (0 : Nat) [] [Pth.r, Pth.r, Pth.l, Pth.r, Pth.b, Pth.p m0, Pth.r, Pth.l, Pth.b, Pth.r, Pth.r, Pth.r, Pth.r, Pth.r, Pth.b] m1 (St.mk (ZS (Ty.str.pair ((Ty.str.pair (Zi.pair Ty.bool)).slice.pair (Zi.pair (Ty.str.pair Zi.slice).slice))).slice y0 :: ZS (Ty.str.pair (Zi.pair (Zi.pair Ty.str)).slice.slice).slice y1 :: ZN 3 (Slot.val (Val.one (Cell.own (0 : Nat))) :: ZS Zi y2 :: Zn :: ZS (Zi.pair (Zi.pair Ty.str)).slice.slice y3 :: ZS Zi y4 :: ZN 58 [])) [AObj.row (Ty.int IntKind.u8) y5 true])
theorem f97_L0_step (n m0 : Nat) (y0 : List (ByteArray × List (ByteArray × Int × Bool) × Int × List (ByteArray × List Int))) (y1 : List (ByteArray × List (List (Int × Int × ByteArray)))) (y2 : Int) (y3 : List Int) : f97_L0 n (m0 + 1) y0 y1 y2 y3 = bif decide (y2 < (↑y0.length : Int)) then chk (decide ((0 : Int) ≤ y2) && decide (y2 < (↑y0.length : Int))) (chk (Sp.okT ((y0.getD y2.toNat (ByteArray.mk #[], [], (0 : Int), [])).1, (y0.getD y2.toNat (ByteArray.mk #[], [], (0 : Int), [])).2.1, (y0.getD y2.toNat (ByteArray.mk #[], [], (0 : Int), [])).2.2.1, (y0.getD y2.toNat (ByteArray.mk #[], [], (0 : Int), [])).2.2.2)) (chk (decide ((y3.length + [IntKind.u8.wrap (IntKind.i64.wrap ((↑(Sp.tabT ((y0.getD y2.toNat (ByteArray.mk #[], [], (0 : Int), [])).1, (y0.getD y2.toNat (ByteArray.mk #[], [], (0 : Int), [])).2.1, (y0.getD y2.toNat (ByteArray.mk #[], [], (0 : Int), [])).2.2.1, (y0.getD y2.toNat (ByteArray.mk #[], [], (0 : Int), [])).2.2.2)).size : Int).tdiv (256 : Int))), IntKind.u8.wrap ((↑(Sp.tabT ((y0.getD y2.toNat (ByteArray.mk #[], [], (0 : Int), [])).1, (y0.getD y2.toNat (ByteArray.mk #[], [], (0 : Int), [])).2.1, (y0.getD y2.toNat (ByteArray.mk #[], [], (0 : Int), [])).2.2.1, (y0.getD y2.toNat (ByteArray.mk #[], [], (0 : Int), [])).2.2.2)).size : Int).tmod (256 : Int))].length) * (1 : Nat) ≤ (140737488355328 : Nat))) (chk (decide (((y3 ++ [IntKind.u8.wrap (IntKind.i64.wrap ((↑(Sp.tabT ((y0.getD y2.toNat (ByteArray.mk #[], [], (0 : Int), [])).1, (y0.getD y2.toNat (ByteArray.mk #[], [], (0 : Int), [])).2.1, (y0.getD y2.toNat (ByteArray.mk #[], [], (0 : Int), [])).2.2.1, (y0.getD y2.toNat (ByteArray.mk #[], [], (0 : Int), [])).2.2.2)).size : Int).tdiv (256 : Int))), IntKind.u8.wrap ((↑(Sp.tabT ((y0.getD y2.toNat (ByteArray.mk #[], [], (0 : Int), [])).1, (y0.getD y2.toNat (ByteArray.mk #[], [], (0 : Int), [])).2.1, (y0.getD y2.toNat (ByteArray.mk #[], [], (0 : Int), [])).2.2.1, (y0.getD y2.toNat (ByteArray.mk #[], [], (0 : Int), [])).2.2.2)).size : Int).tmod (256 : Int))]).length + (strBytes (Sp.tabT ((y0.getD y2.toNat (ByteArray.mk #[], [], (0 : Int), [])).1, (y0.getD y2.toNat (ByteArray.mk #[], [], (0 : Int), [])).2.1, (y0.getD y2.toNat (ByteArray.mk #[], [], (0 : Int), [])).2.2.1, (y0.getD y2.toNat (ByteArray.mk #[], [], (0 : Int), [])).2.2.2))).length) * (1 : Nat) ≤ (140737488355328 : Nat))) (chk (decide ((0 : Int) ≤ y2) && decide (y2 < (↑y1.length : Int))) (chk (decide (((y3 ++ [IntKind.u8.wrap (IntKind.i64.wrap ((↑(Sp.tabT ((y0.getD y2.toNat (ByteArray.mk #[], [], (0 : Int), [])).1, (y0.getD y2.toNat (ByteArray.mk #[], [], (0 : Int), [])).2.1, (y0.getD y2.toNat (ByteArray.mk #[], [], (0 : Int), [])).2.2.1, (y0.getD y2.toNat (ByteArray.mk #[], [], (0 : Int), [])).2.2.2)).size : Int).tdiv (256 : Int))), IntKind.u8.wrap ((↑(Sp.tabT ((y0.getD y2.toNat (ByteArray.mk #[], [], (0 : Int), [])).1, (y0.getD y2.toNat (ByteArray.mk #[], [], (0 : Int), [])).2.1, (y0.getD y2.toNat (ByteArray.mk #[], [], (0 : Int), [])).2.2.1, (y0.getD y2.toNat (ByteArray.mk #[], [], (0 : Int), [])).2.2.2)).size : Int).tmod (256 : Int))] ++ strBytes (Sp.tabT ((y0.getD y2.toNat (ByteArray.mk #[], [], (0 : Int), [])).1, (y0.getD y2.toNat (ByteArray.mk #[], [], (0 : Int), [])).2.1, (y0.getD y2.toNat (ByteArray.mk #[], [], (0 : Int), [])).2.2.1, (y0.getD y2.toNat (ByteArray.mk #[], [], (0 : Int), [])).2.2.2))).length + [IntKind.u8.wrap (IntKind.i64.wrap ((↑(y1.getD y2.toNat (ByteArray.mk #[], [])).2.length : Int).tdiv (256 : Int))), IntKind.u8.wrap ((↑(y1.getD y2.toNat (ByteArray.mk #[], [])).2.length : Int).tmod (256 : Int))].length) * (1 : Nat) ≤ (140737488355328 : Nat))) (f97_L1 n m0 n y0 y1 y2 (y1.getD y2.toNat (ByteArray.mk #[], [])).2 (0 : Int) (y3 ++ [IntKind.u8.wrap (IntKind.i64.wrap ((↑(Sp.tabT ((y0.getD y2.toNat (ByteArray.mk #[], [], (0 : Int), [])).1, (y0.getD y2.toNat (ByteArray.mk #[], [], (0 : Int), [])).2.1, (y0.getD y2.toNat (ByteArray.mk #[], [], (0 : Int), [])).2.2.1, (y0.getD y2.toNat (ByteArray.mk #[], [], (0 : Int), [])).2.2.2)).size : Int).tdiv (256 : Int))), IntKind.u8.wrap ((↑(Sp.tabT ((y0.getD y2.toNat (ByteArray.mk #[], [], (0 : Int), [])).1, (y0.getD y2.toNat (ByteArray.mk #[], [], (0 : Int), [])).2.1, (y0.getD y2.toNat (ByteArray.mk #[], [], (0 : Int), [])).2.2.1, (y0.getD y2.toNat (ByteArray.mk #[], [], (0 : Int), [])).2.2.2)).size : Int).tmod (256 : Int))] ++ strBytes (Sp.tabT ((y0.getD y2.toNat (ByteArray.mk #[], [], (0 : Int), [])).1, (y0.getD y2.toNat (ByteArray.mk #[], [], (0 : Int), [])).2.1, (y0.getD y2.toNat (ByteArray.mk #[], [], (0 : Int), [])).2.2.1, (y0.getD y2.toNat (ByteArray.mk #[], [], (0 : Int), [])).2.2.2)) ++ [IntKind.u8.wrap (IntKind.i64.wrap ((↑(y1.getD y2.toNat (ByteArray.mk #[], [])).2.length : Int).tdiv (256 : Int))), IntKind.u8.wrap ((↑(y1.getD y2.toNat (ByteArray.mk #[], [])).2.length : Int).tmod (256 : Int))]))))))) else some (Res.mk [XV.mk false [X.c (X0.row (Ty.int IntKind.u8) y3 true)]] []) := by kernel_rfl
theorem f97_L1_step (n m0 m1 : Nat) (y0 : List (ByteArray × List (ByteArray × Int × Bool) × Int × List (ByteArray × List Int))) (y1 : List (ByteArray × List (List (Int × Int × ByteArray)))) (y2 : Int) (y3 : List (List (Int × Int × ByteArray))) (y4 : Int) (y5 : List Int) : f97_L1 n m0 (m1 + 1) y0 y1 y2 y3 y4 y5 = bif decide (y4 < (↑y3.length : Int)) then chk (decide ((0 : Int) ≤ y4) && decide (y4 < (↑y3.length : Int))) (chk (Sp.rwP (y3.getD y4.toNat [])) (chk (decide ((y5.length + (Sp.rowBy (y3.getD y4.toNat [])).length) * (1 : Nat) ≤ (140737488355328 : Nat))) (f97_L1 n m0 m1 y0 y1 y2 y3 (IntKind.i64.wrap (y4 + (1 : Int))) (y5 ++ Sp.rowBy (y3.getD y4.toNat []))))) else f97_L0 n m0 y0 y1 (IntKind.i64.wrap (y2 + (1 : Int))) y5 := by kernel_rfl
theorem f97_raw (n : Nat) (x0 : List (ByteArray × List (ByteArray × Int × Bool) × Int × List (ByteArray × List Int))) (x1 : List (ByteArray × List (List (Int × Int × ByteArray)))) : abody Γ (orc [e142, e143]) n 47 [ZX (Ty.str.pair ((Ty.str.pair (Zi.pair Ty.bool)).slice.pair (Zi.pair (Ty.str.pair Zi.slice).slice))).slice x0, ZX (Ty.str.pair (Zi.pair (Zi.pair Ty.str)).slice.slice).slice x1] = f97_L0 n n x0 x1 (0 : Int) [IntKind.u8.wrap (↑x0.length : Int)] := by kernel_rfl

noncomputable def e97 : Ent := { f := n97, ins := [Sh.one (cL tTb), Sh.one (cL tDt)], outs := [Sh.one (C0.row tB)], upd := [], pre := fun a => Sp.dmpP a.1 a.2, spec := fun a => Sp.dumpW a.1 a.2, wrt := fun _ => () }
theorem e97_core (ts : List VTb) (ds : List VDt) (ha : Sp.dmpP ts ds = true) : ∃ n, abody Γ (orc [e142, e143]) n n97 (e97.args (ts, ds)) = some (rB (Sp.dumpW ts ds)) := by
  obtain ⟨d1, d2, d3, d4⟩ := dmpP_is ha
  refine ⟨ts.length + 401, (f97_raw _ ts ds).trans ?_⟩
  generalize hN : ts.length + 401 = N
  refine (dmp_loop ts ds d2 (dmp1_at ha) (fun m k acc => f97_L0 N m ts ds k acc) (fun m k acc hk => ?_) (fun m k h h2 acc hac => ?_) ts.length 0 N [IntKind.u8.wrap (ts.length : Int)] (Nat.zero_add _) (by omega) (by rw [List.length_singleton]; omega)).trans (by rw [List.drop_zero, List.drop_zero]; rfl)
  · show f97_L0 _ _ _ _ _ _ = _
    rw [f97_L0_step, nat_ge hk, cond_false]
  · show f97_L0 _ _ _ _ _ _ = f97_L0 _ _ _ _ _ _
    have ho := d3 _ (List.getElem_mem h)
    obtain ⟨r1, r2⟩ := d4 k h h2
    have hs := tabT_size ho
    have hb := strBytes_len (Sp.tabT ts[k])
    rw [f97_L0_step, nat_lt h, guard2 h2, cond_true, guard0, chkT, getD_nat ts k _ h, getD_nat ds k _ h2]
    refine (chkQ ho _).trans ?_
    have w1 := two_eq (n := (Sp.tabT ts[k]).size) (by omega)
    have w2 := two_eq (n := ds[k].2.length) (by omega)
    have e1 : (ts[k].1, ts[k].2.1, ts[k].2.2.1, ts[k].2.2.2) = ts[k] := rfl
    rw [e1, w1, w2]
    have l2 : ∀ x, (Sp.two x).length = 2 := fun _ => rfl
    refine (chkQ (room (by rw [l2]; omega)) _).trans ?_
    refine (chkQ (room (by rw [List.length_append, l2]; omega)) _).trans ?_
    refine (chkQ rfl _).trans ?_
    refine (chkQ (room (by rw [List.length_append, List.length_append, l2, l2]; omega)) _).trans ?_
    refine (flatI_loop Sp.rowBy ds[k].2 (acc.length + 4004) 801 (fun r hr => (r2 r hr).2) (fun m1 i a => f97_L1 N m m1 ts ds k ds[k].2 i a) (fun a => f97_L0 N m ts ds ((k + 1 : Nat) : Int) a) (fun m1 i a hi => ?_) (fun m1 i hi a ha1 => ?_) ds[k].2.length 0 N _ (Nat.zero_add _) (by omega) (by rw [List.length_append, List.length_append, List.length_append, l2, l2]; omega)).trans ?_
    · show f97_L1 _ _ _ _ _ _ _ _ _ = f97_L0 _ _ _ _ _ _
      rw [f97_L1_step, nat_ge hi, cond_false, next64 h (by omega)]
    · show f97_L1 _ _ _ _ _ _ _ _ _ = f97_L1 _ _ _ _ _ _ _ _ _
      obtain ⟨q1, q2⟩ := r2 _ (List.getElem_mem hi)
      rw [f97_L1_step, nat_lt hi, cond_true, guard0, chkT, getD_nat ds[k].2 i _ hi, next64 hi (by omega), q1, chkT]
      exact chkQ (room (by omega)) _
    · rw [List.drop_zero]
      unfold Sp.dmp1
      rw [List.append_assoc, List.append_assoc, List.append_assoc, List.append_assoc, List.append_assoc]
theorem e97_ok : Valid PP Γ e97 := valid_of ok (vcons e142_ok (vcons e143_ok vnil)) fun a ha => e97_core a.1 a.2 ha
def Sp.f58_pre (x0 : List (ByteArray × List (ByteArray × Int × Bool) × Int × List (ByteArray × List Int))) (x1 : List (ByteArray × List (List (Int × Int × ByteArray)))) : Bool := (bif decide ((↑x0.length : Int) > (4096 : Int)) then true else (bif decide ((↑x1.length : Int) > (4096 : Int)) then true else (bif !Sp.dataOK x0 x1 then true else (Sp.dmpP x0 x1))))
def Sp.f58 (x0 : List (ByteArray × List (ByteArray × Int × Bool) × Int × List (ByteArray × List Int))) (x1 : List (ByteArray × List (List (Int × Int × ByteArray)))) := (bif decide ((↑x0.length : Int) > (4096 : Int)) then (([], (2 : Int)), ()) else (bif decide ((↑x1.length : Int) > (4096 : Int)) then (([], (2 : Int)), ()) else (bif !Sp.dataOK x0 x1 then (([], (1 : Int)), ()) else ((Sp.dumpW x0 x1, (0 : Int)), ()))))
noncomputable def e58 : Ent := { f := 11, ins := [Sh.one (C0.dat (Ty.str.pair ((Ty.str.pair (Zi.pair Ty.bool)).slice.pair (Zi.pair (Ty.str.pair Zi.slice).slice))).slice), Sh.one (C0.dat (Ty.str.pair (Zi.pair (Zi.pair Ty.str)).slice.slice).slice)], outs := [Sh.one (C0.row (Ty.int IntKind.u8)), Sh.one ZI], upd := [], pre := fun a => Sp.f58_pre a.1 a.2, spec := fun a => (Sp.f58 a.1 a.2).1, wrt := fun a => (Sp.f58 a.1 a.2).2 }
def f58_g (v : denS [Sh.one (C0.row (Ty.int IntKind.u8)), Sh.one ZI] × denS []) : Res := ⟨mkS [Sh.one (C0.row (Ty.int IntKind.u8)), Sh.one ZI] v.1, mkU [] v.2⟩
theorem f58_form (x0 : List (ByteArray × List (ByteArray × Int × Bool) × Int × List (ByteArray × List Int))) (x1 : List (ByteArray × List (List (Int × Int × ByteArray)))) : abody Γ (orc [e96, e97]) 0 11 [ZX (Ty.str.pair ((Ty.str.pair (Zi.pair Ty.bool)).slice.pair (Zi.pair (Ty.str.pair Zi.slice).slice))).slice x0, ZX (Ty.str.pair (Zi.pair (Zi.pair Ty.str)).slice.slice).slice x1] = chk (Sp.f58_pre x0 x1) (some (f58_g (Sp.f58 x0 x1))) := by
  refine Eq.trans (b := bif decide ((↑x0.length : Int) > (4096 : Int)) then some (Res.mk [XV.mk false [X.c (X0.row (Ty.int IntKind.u8) [] true)], ZX Zi (2 : Int)] []) else bif decide ((↑x1.length : Int) > (4096 : Int)) then some (Res.mk [XV.mk false [X.c (X0.row (Ty.int IntKind.u8) [] true)], ZX Zi (2 : Int)] []) else bif !Sp.dataOK x0 x1 then some (Res.mk [XV.mk false [X.c (X0.row (Ty.int IntKind.u8) [] true)], ZX Zi (1 : Int)] []) else chk (Sp.dmpP x0 x1) (some (Res.mk [XV.mk false [X.c (X0.row (Ty.int IntKind.u8) (Sp.dumpW x0 x1) true)], ZX Zi (0 : Int)] []))) (by kernel_rfl) ?_
  unfold Sp.f58_pre Sp.f58
  exact (cond_step f58_g ((lift_plain (rfl))) ((cond_step f58_g ((lift_plain (rfl))) ((cond_step f58_g ((lift_plain (rfl))) ((chk_last (rfl))))))))
theorem e58_ok : Valid PP Γ e58 := valid_auto ok (vcons e96_ok (vcons e97_ok vnil)) fun a => f58_form a.1 a.2

end Go.Proofs.GR.T

