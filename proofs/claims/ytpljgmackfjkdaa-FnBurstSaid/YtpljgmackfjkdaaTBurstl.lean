/-
  No statement is proved here: what the functions of the law answer, told as plain functions, and that the law's answer is always true.
  No condition.
-/
import Derived.Test.YtpljgmackfjkdaaTBurstk
set_option maxRecDepth 3000000
set_option maxHeartbeats 100000000
namespace Go.Proofs.GR.T
open Go Go.Proofs Go.Proofs.GR
noncomputable def f98_L0 (b : Bool) (n m0 : Nat) (y0 : List (ByteArray × List (ByteArray × Int × Bool) × Int × List (ByteArray × List Int))) (y1 : Int) (y2 : List Int) (y3 y4 : Int) (y5 : List (ByteArray × List (List (Int × Int × ByteArray)))) : Option Res := loopAt Γ (orc [e145, e144, e147, e146]) n n98 (1 : Nat) [(0 : Nat)] [Pth.r, Pth.r, Pth.l, Pth.r, Pth.b] m0 (St.mk (Slot.val (Val.one (Cell.ptr (0 : Nat) (0 : Nat))) :: ZS (Ty.str.pair ((Ty.str.pair (Zi.pair Ty.bool)).slice.pair (Zi.pair (Ty.str.pair Zi.slice).slice))).slice y0 :: ZN 3 (Slot.val (Val.one (Cell.own (1 : Nat))) :: ZS Zi y1 :: ZN 51 [])) [AObj.box t169 [Cell.dat (Ty.int IntKind.u8).slice y2, Cell.dat Zi y3, Cell.dat Zi y4], AObj.row (Ty.str.pair (Zi.pair (Zi.pair Ty.str)).slice.slice) y5 b])
noncomputable def f98_L1h (b : Bool) (n m0 m1 : Nat) (y0 : List (ByteArray × List (ByteArray × Int × Bool) × Int × List (ByteArray × List Int))) (y1 y2 : Int) (y3 : List Int) (y4 y5 : Int) (y6 : List (ByteArray × List (List (Int × Int × ByteArray)))) (y7 : ByteArray) : Option Res := loopAt Γ (orc [e145, e144, e147, e146]) n n98 (1 : Nat) [(0 : Nat)] [Pth.r, Pth.r, Pth.l, Pth.r, Pth.b, Pth.p m0, Pth.r, Pth.l, Pth.b, Pth.r, Pth.l, Pth.r, Pth.b] m1 (St.mk (Slot.val (Val.one (Cell.ptr (0 : Nat) (0 : Nat))) :: ZS (Ty.str.pair ((Ty.str.pair (Zi.pair Ty.bool)).slice.pair (Zi.pair (Ty.str.pair Zi.slice).slice))).slice y0 :: ZN 3 (Slot.val (Val.one (Cell.own (1 : Nat))) :: ZS Zi y1 :: Slot.val (Val.one (Cell.ptr (2 : Nat) (0 : Nat))) :: ZS Zi y2 :: ZN 49 [])) [AObj.box t169 [Cell.dat (Ty.int IntKind.u8).slice y3, Cell.dat Zi y4, Cell.dat Zi y5], AObj.row (Ty.str.pair (Zi.pair (Zi.pair Ty.str)).slice.slice) y6 b, AObj.box t179 [Cell.dat Ty.str y7, Cell.own (3 : Nat)], AObj.row (Zi.pair (Zi.pair Ty.str)).slice [] true])
noncomputable def f98_L2h (b : Bool) (n m0 m1 : Nat) (y0 : List (ByteArray × List (ByteArray × Int × Bool) × Int × List (ByteArray × List Int))) (y1 y2 : Int) (y3 : List Int) (y4 y5 : Int) (y6 : List (ByteArray × List (List (Int × Int × ByteArray)))) (y7 : ByteArray) (y8 : List (List (Int × Int × ByteArray))) : Option Res := loopAt Γ (orc [e145, e144, e147, e146]) n n98 (1 : Nat) [(0 : Nat)] [Pth.r, Pth.r, Pth.l, Pth.r, Pth.b, Pth.p m0, Pth.r, Pth.l, Pth.b, Pth.r, Pth.l, Pth.r, Pth.b] m1 (St.mk (Slot.val (Val.one (Cell.ptr (0 : Nat) (0 : Nat))) :: ZS (Ty.str.pair ((Ty.str.pair (Zi.pair Ty.bool)).slice.pair (Zi.pair (Ty.str.pair Zi.slice).slice))).slice y0 :: ZN 3 (Slot.val (Val.one (Cell.own (1 : Nat))) :: ZS Zi y1 :: Slot.val (Val.one (Cell.ptr (2 : Nat) (0 : Nat))) :: ZS Zi y2 :: ZN 49 [])) [AObj.box t169 [Cell.dat (Ty.int IntKind.u8).slice y3, Cell.dat Zi y4, Cell.dat Zi y5], AObj.row (Ty.str.pair (Zi.pair (Zi.pair Ty.str)).slice.slice) y6 b, AObj.box t179 [Cell.dat Ty.str y7, Cell.dat (Zi.pair (Zi.pair Ty.str)).slice.slice y8]])
abbrev rDs (l : List VDt) (s : Src) : Res := Res.mk [ZX (Ty.slice tDt) l] [rSrc s]
abbrev zTb : VTb := (ByteArray.mk #[], [], (0 : Int), [])
def Sp.szD (s : Src) : Int := IntKind.i64.wrap ((Sp.f145 s.1 s.2.1 s.2.2 (8 : Int)).1 + (2 : Int))
theorem f98_raw (n : Nat) (s : Src) (ts : List VTb) : abody Γ (orc [e145, e144, e147, e146]) n n98 [XV.mk false [rSrc s], ZX (Ty.slice tTb) ts] = f98_L0 true n n ts 0 s.1 s.2.1 s.2.2 [] := by kernel_rfl
theorem f98_L0_at (b : Bool) (n m : Nat) (ts : List VTb) (i : Int) (s : Src) (out : List VDt) : f98_L0 b n (m + 1) ts i s.1 s.2.1 s.2.2 out = bif decide (i < (ts.length : Int)) then chk (decide ((0 : Int) ≤ i) && decide (i < (ts.length : Int))) (chk (Sp.nxP s (Sp.szD s)) (f98_L1h b n m n ts i (Sp.nx s (Sp.szD s)).1 (Sp.nx s (Sp.szD s)).2.1 (Sp.nx s (Sp.szD s)).2.2.1 (Sp.nx s (Sp.szD s)).2.2.2 out (ts.getD i.toNat zTb).1)) else some (rDs out s) := by cases b <;> kernel_rfl
theorem f98_L2_at (b : Bool) (n m0 m : Nat) (ts : List VTb) (i k : Int) (s : Src) (out : List VDt) (nm : ByteArray) (rs : List VRw) : f98_L2h b n m0 (m + 1) ts i k s.1 s.2.1 s.2.2 out nm rs = bif decide (k > (0 : Int)) then bif decide ((rs.length : Int) < (20 : Int)) then chk (decide ((0 : Int) ≤ i) && decide (i < (ts.length : Int))) (chk (Sp.rowVP s (ts.getD i.toNat zTb).2.1) (chk (decide ((0 : Int) ≤ i) && decide (i < (ts.length : Int))) (chk (Sp.insP rs (Sp.rowV s (ts.getD i.toNat zTb).2.1).1 (ts.getD i.toNat zTb).2.2.1) (f98_L2h b n m0 m ts i (IntKind.i64.wrap (k - 1)) (Sp.rowV s (ts.getD i.toNat zTb).2.1).2.1 (Sp.rowV s (ts.getD i.toNat zTb).2.1).2.2.1 (Sp.rowV s (ts.getD i.toNat zTb).2.1).2.2.2 out nm (Sp.insV rs (Sp.rowV s (ts.getD i.toNat zTb).2.1).1 (ts.getD i.toNat zTb).2.2.1))))) else chk (decide ((out.length + 1) * 40 ≤ 140737488355328)) (f98_L0 false n m0 ts (IntKind.i64.wrap (i + 1)) s.1 s.2.1 s.2.2 (out ++ [(nm, rs)])) else chk (decide ((out.length + 1) * 40 ≤ 140737488355328)) (f98_L0 false n m0 ts (IntKind.i64.wrap (i + 1)) s.1 s.2.1 s.2.2 (out ++ [(nm, rs)])) := by cases b <;> kernel_rfl
theorem f98_L1_at (b : Bool) (n m0 m : Nat) (ts : List VTb) (i k : Int) (s : Src) (out : List VDt) (nm : ByteArray) : f98_L1h b n m0 (m + 1) ts i k s.1 s.2.1 s.2.2 out nm = bif decide (k > (0 : Int)) then chk (decide ((0 : Int) ≤ i) && decide (i < (ts.length : Int))) (chk (Sp.rowVP s (ts.getD i.toNat zTb).2.1) (chk (decide ((0 : Int) ≤ i) && decide (i < (ts.length : Int))) (chk (Sp.insP [] (Sp.rowV s (ts.getD i.toNat zTb).2.1).1 (ts.getD i.toNat zTb).2.2.1) (f98_L2h b n m0 m ts i (IntKind.i64.wrap (k - 1)) (Sp.rowV s (ts.getD i.toNat zTb).2.1).2.1 (Sp.rowV s (ts.getD i.toNat zTb).2.1).2.2.1 (Sp.rowV s (ts.getD i.toNat zTb).2.1).2.2.2 out nm (Sp.insV [] (Sp.rowV s (ts.getD i.toNat zTb).2.1).1 (ts.getD i.toNat zTb).2.2.1))))) else chk (decide ((out.length + 1) * 40 ≤ 140737488355328)) (f98_L0 b n m0 ts (IntKind.i64.wrap (i + 1)) s.1 s.2.1 s.2.2 (out ++ [(nm, [])])) := by cases b <;> kernel_rfl
def Sp.rowsV : Nat → Src → VTb → List VRw → List VRw × Src
  | 0, s, _, rs => (rs, s)
  | k + 1, s, t, rs => bif decide ((rs.length : Int) < (20 : Int)) then Sp.rowsV k (Sp.rowV s t.2.1).2 t (Sp.insV rs (Sp.rowV s t.2.1).1 t.2.2.1) else (rs, s)
def Sp.tbK (t : VTb) : Bool := yes2 (Nat.ble t.2.1.length 8) (Sp.inK t.2.1.length t.2.2.1)
def Sp.okR (t : VTb) (rs : List VRw) : Prop := ∀ r ∈ rs, r.length = t.2.1.length ∧ ∀ v ∈ r, Sp.rng v.2.1 = true
theorem ins_ok {t : VTb} {s : Src} {rs : List VRw} {j : Nat} (hl : t.2.1.length ≤ 8) (hs : Sp.srcP (j + 48) s = true) (h : Sp.okR t rs) : Sp.srcP j (Sp.rowV s t.2.1).2 = true ∧ Sp.okR t (Sp.insV rs (Sp.rowV s t.2.1).1 t.2.2.1) ∧ (Sp.insV rs (Sp.rowV s t.2.1).1 t.2.2.1).length ≤ rs.length + 1 := by
  obtain ⟨a1, a2⟩ := rowV_is (j := j) t.2.1 s (srcP_le hs (by omega))
  obtain ⟨b1, b2⟩ := insAt_mem (rs := rs) (row := (Sp.rowV s t.2.1).1) (key := t.2.2.1) (k := Sp.pos13 t.2.2.1 (Sp.rowV s t.2.1).1 rs)
  refine ⟨a1, fun r hr => ?_, b2⟩
  rcases b1 r hr with q | rfl
  · exact h r q
  · exact ⟨rowV_len _ _, a2⟩
theorem insP_mk {t : VTb} {s : Src} {rs : List VRw} (ht : Sp.tbK t = true) (hl : rs.length ≤ 20) (h : Sp.okR t rs) : Sp.insP rs (Sp.rowV s t.2.1).1 t.2.2.1 = true := by
  obtain ⟨_, h2⟩ := yes2_true ht
  refine yes2Q (Nat.ble_eq_true_of_le (by omega)) (yes2Q (allW_mem.2 fun r hr => ?_) ?_)
  · unfold Sp.longR
    rw [(h r hr).1]
    exact h2
  · unfold Sp.longR
    rw [rowV_len]
    exact h2
theorem tbK_is {t : VTb} (h : Sp.tbK t = true) : t.2.1.length ≤ 8 := Nat.le_of_ble_eq_true (yes2_true h).1
theorem rowsV_is {j : Nat} {t : VTb} (ht : Sp.tbK t = true) : ∀ (k : Nat) (s : Src) (rs : List VRw), Sp.srcP (j + 48 * k) s = true → Sp.okR t rs → rs.length ≤ 20 → Sp.srcP j (Sp.rowsV k s t rs).2 = true ∧ Sp.okR t (Sp.rowsV k s t rs).1 ∧ (Sp.rowsV k s t rs).1.length ≤ 20
  | 0, _, _, h, ho, hl => ⟨h, ho, hl⟩
  | k + 1, s, rs, h, ho, hl => by
    rw [Sp.rowsV]
    by_cases hc : (rs.length : Int) < 20
    · rw [decide_eq_true hc, cond_true]
      obtain ⟨a, b, c⟩ := ins_ok (j := j + 48 * k) (tbK_is ht) (srcP_le h (by omega)) ho
      exact rowsV_is ht k _ _ a b (by omega)
    · rw [decide_eq_false hc, cond_false]
      exact ⟨srcP_le h (by omega), ho, hl⟩
theorem rowVP_mk {t : VTb} {s : Src} {k : Nat} (ht : Sp.tbK t = true) (h : Sp.srcP (600 + k) s = true) : Sp.rowVP s t.2.1 = true := yes2Q (Nat.ble_eq_true_of_le (by have := tbK_is ht; omega)) (srcP_le h (by omega))
theorem f98_L2_loop (b : Bool) (n m0 : Nat) (ts : List VTb) (i : Nat) (hi : i < ts.length) (hn : ts.length ≤ 10) (out : List VDt) (ho : out.length ≤ 100) (nm : ByteArray) (ht : Sp.tbK ts[i] = true) : ∀ (k m : Nat) (s : Src) (rs : List VRw), k < m → k ≤ 9 → Sp.okR ts[i] rs → rs.length ≤ 20 → Sp.srcP (600 + 48 * k) s = true →
    f98_L2h b n m0 m ts i k s.1 s.2.1 s.2.2 out nm rs = f98_L0 false n m0 ts ((i + 1 : Nat) : Int) (Sp.rowsV k s ts[i] rs).2.1 (Sp.rowsV k s ts[i] rs).2.2.1 (Sp.rowsV k s ts[i] rs).2.2.2 (out ++ [(nm, (Sp.rowsV k s ts[i] rs).1)]) := by
  intro k
  induction k with
  | zero =>
    intro m s rs hm _ _ _ _
    obtain ⟨m, rfl⟩ := succ_of hm
    rw [f98_L2_at, decide_eq_false (show ¬ ((0 : Nat) : Int) > 0 by omega), cond_false, decide_eq_true (show (out.length + 1) * 40 ≤ 140737488355328 by omega), chkT, next64 hi (by omega), Sp.rowsV]
  | succ k ih =>
    intro m s rs hm hk hr hl hs
    obtain ⟨m, rfl⟩ := succ_of hm
    obtain ⟨a, b', c⟩ := ins_ok (t := ts[i]) (j := 600 + 48 * k) (tbK_is ht) (srcP_le hs (by omega)) hr
    rw [f98_L2_at, decide_eq_true (show ((k + 1 : Nat) : Int) > 0 by omega), cond_true, decide_eq_true (show (out.length + 1) * 40 ≤ 140737488355328 by omega), chkT, next64 hi (by omega), guard2 hi, chkT, chkT, getD_nat ts i _ hi, rowVP_mk ht (k := 48 * (k + 1)) hs, chkT, insP_mk ht hl hr, chkT, prev64 (by omega), Sp.rowsV]
    by_cases hc : (rs.length : Int) < 20
    · rw [decide_eq_true hc, cond_true, cond_true]
      exact ih m _ _ (by omega) (by omega) b' (by omega) a
    · rw [decide_eq_false hc, cond_false, cond_false]
theorem f98_L1_run (b : Bool) (n m0 : Nat) (ts : List VTb) (i : Nat) (hi : i < ts.length) (hn : ts.length ≤ 10) (out : List VDt) (ho : out.length ≤ 100) (nm : ByteArray) (ht : Sp.tbK ts[i] = true) (k m : Nat) (s : Src) (hm : k < m) (hk : k ≤ 9) (hs : Sp.srcP (600 + 48 * k) s = true) :
    ∃ b' : Bool, f98_L1h b n m0 m ts i k s.1 s.2.1 s.2.2 out nm = f98_L0 b' n m0 ts ((i + 1 : Nat) : Int) (Sp.rowsV k s ts[i] []).2.1 (Sp.rowsV k s ts[i] []).2.2.1 (Sp.rowsV k s ts[i] []).2.2.2 (out ++ [(nm, (Sp.rowsV k s ts[i] []).1)]) := by
  obtain ⟨m, rfl⟩ := succ_of hm
  have hr : Sp.okR ts[i] [] := fun r hr => by cases hr
  cases k with
  | zero => exact ⟨b, by rw [f98_L1_at, decide_eq_false (show ¬ ((0 : Nat) : Int) > 0 by omega), cond_false, decide_eq_true (show (out.length + 1) * 40 ≤ 140737488355328 by omega), chkT, next64 hi (by omega), Sp.rowsV]⟩
  | succ k =>
    refine ⟨false, ?_⟩
    obtain ⟨a, b', c⟩ := ins_ok (t := ts[i]) (rs := []) (j := 600 + 48 * k) (tbK_is ht) (srcP_le hs (by omega)) hr
    rw [f98_L1_at, decide_eq_true (show ((k + 1 : Nat) : Int) > 0 by omega), cond_true, guard2 hi, chkT, chkT, getD_nat ts i _ hi, rowVP_mk ht (k := 48 * (k + 1)) hs, chkT, insP_mk ht (rs := []) (Nat.zero_le _) hr, chkT, prev64 (by omega), Sp.rowsV]
    rw [f98_L2_loop b n m0 ts i hi hn out ho nm ht k m _ _ (by omega) (by omega) b' (by rw [List.length_nil] at c; omega) a]
    rfl
theorem szD_is {s : Src} {k : Nat} (h : Sp.srcP k s = true) : 1 ≤ Sp.szD s ∧ Sp.szD s ≤ 10 := by
  obtain ⟨_, h2, _⟩ := srcP_is h
  unfold Sp.szD Sp.f145
  dsimp only
  have e : ((s.1.length : Int)).tdiv 12 = (s.1.length : Int) / 12 := Int.tdiv_eq_ediv_of_nonneg (by omega)
  rw [e, wrap64 (n := (s.1.length : Int) / 12) (by omega) (by omega), wrap64 (n := 1 + (s.1.length : Int) / 12) (by omega) (by omega)]
  have hm : 1 ≤ minI (1 + (s.1.length : Int) / 12) 8 ∧ minI (1 + (s.1.length : Int) / 12) 8 ≤ 8 := by
    unfold minI
    by_cases hq : (8 : Int) < 1 + (s.1.length : Int) / 12
    · rw [if_pos hq]; omega
    · rw [if_neg hq]; omega
  rw [wrap64 (by omega) (by omega)]
  omega
def Sp.dataV : List VTb → Src → List VDt × Src
  | [], s => ([], s)
  | t :: ts, s => ((t.1, (Sp.rowsV (Sp.nx s (Sp.szD s)).1.toNat (Sp.nx s (Sp.szD s)).2 t []).1) :: (Sp.dataV ts (Sp.rowsV (Sp.nx s (Sp.szD s)).1.toNat (Sp.nx s (Sp.szD s)).2 t []).2).1, (Sp.dataV ts (Sp.rowsV (Sp.nx s (Sp.szD s)).1.toNat (Sp.nx s (Sp.szD s)).2 t []).2).2)
theorem f98_loop (n : Nat) (ts : List VTb) (hn : ts.length ≤ 10) (h9 : 9 < n) (ht : ∀ t ∈ ts, Sp.tbK t = true) : ∀ (d i m : Nat) (b : Bool) (s : Src) (out : List VDt), i + d = ts.length → d < m → out.length ≤ i → Sp.srcP (600 + 500 * d) s = true →
    f98_L0 b n m ts i s.1 s.2.1 s.2.2 out = some (rDs (out ++ (Sp.dataV (ts.drop i) s).1) (Sp.dataV (ts.drop i) s).2) := by
  intro d
  induction d with
  | zero =>
    intro i m b s out hk hm _ _
    obtain ⟨m, rfl⟩ := succ_of hm
    rw [f98_L0_at, nat_ge (show ts.length ≤ i by omega), cond_false, List.drop_of_length_le (show ts.length ≤ i by omega), Sp.dataV, List.append_nil]
  | succ d ih =>
    intro i m b s out hk hm ho hs
    obtain ⟨m, rfl⟩ := succ_of hm
    have h : i < ts.length := by omega
    have hz := szD_is hs
    obtain ⟨a1, a2, a3⟩ := nx_is (k := 600 + 500 * d + 499) (s := s) (n := Sp.szD s) (srcP_le hs (by omega))
    have a3 := a3 hz.1
    have ht1 := ht _ (List.getElem_mem h)
    have e : (((Sp.nx s (Sp.szD s)).1.toNat : Nat) : Int) = (Sp.nx s (Sp.szD s)).1 := by omega
    obtain ⟨b', hb⟩ := f98_L1_run b n m ts i h hn out (by omega) ts[i].1 ht1 (Sp.nx s (Sp.szD s)).1.toNat n (Sp.nx s (Sp.szD s)).2 (by omega) (by omega) (srcP_le a1 (by omega))
    rw [e] at hb
    obtain ⟨c1, _, _⟩ := rowsV_is (j := 600 + 500 * d) ht1 (Sp.nx s (Sp.szD s)).1.toNat (Sp.nx s (Sp.szD s)).2 [] (srcP_le a1 (by omega)) (fun r hr => by cases hr) (Nat.zero_le _)
    rw [f98_L0_at, nat_lt h, cond_true, guard0, chkT, nxP_mk (srcP_le hs (by omega)) (show Sp.szD s ≤ 256 by omega), chkT, getD_nat ts i _ h, hb, ih (i + 1) m b' _ _ (by omega) (by omega) (by rw [List.length_append, List.length_singleton]; omega) c1, List.drop_eq_getElem_cons h, Sp.dataV, List.append_assoc, List.singleton_append]
def Sp.dataP (s : Src) (ts : List VTb) : Bool := yes2 (Nat.ble ts.length 10) (yes2 (Sp.allW Sp.tbK ts) (Sp.srcP 6000 s))
noncomputable def e98 : Ent := { f := n98, ins := [shSrc, Sh.one (cL tTb)], outs := [Sh.one (cL tDt)], upd := [shSrc], pre := fun a => Sp.dataP a.1 a.2, spec := fun a => (Sp.dataV a.2 a.1).1, wrt := fun a => (Sp.dataV a.2 a.1).2 }
theorem e98_core (s : Src) (ts : List VTb) (h : Sp.dataP s ts = true) : ∃ n, abody Γ (orc [e145, e144, e147, e146]) n n98 (e98.args (s, ts)) = some (rDs (Sp.dataV ts s).1 (Sp.dataV ts s).2) := by
  obtain ⟨h1, h2⟩ := yes2_true h
  obtain ⟨h2, h3⟩ := yes2_true h2
  have h1 := Nat.le_of_ble_eq_true h1
  exact ⟨ts.length + 10, (f98_raw _ s ts).trans (f98_loop _ ts h1 (by omega) (allW_mem.1 h2) ts.length 0 _ true s [] (Nat.zero_add _) (by omega) (Nat.le_refl _) (srcP_le h3 (by omega)))⟩
theorem e98_ok : Valid PP Γ e98 := valid_of ok (vcons e145_ok (vcons e144_ok (vcons e147_ok (vcons e146_ok vnil)))) fun a ha => e98_core a.1 a.2 ha
theorem dataV_is : ∀ (ts : List VTb) (s : Src), (∀ t ∈ ts, Sp.tbK t = true) → Sp.srcP (600 + 500 * ts.length) s = true → (Sp.dataV ts s).1.length = ts.length ∧ ∀ d ∈ (Sp.dataV ts s).1, d.2.length ≤ 20 ∧ Sp.datN d = true
  | [], _, _, _ => ⟨rfl, fun d hd => by cases hd⟩
  | t :: ts, s, ht, hs => by
    have hz := szD_is hs
    rw [List.length_cons] at hs
    obtain ⟨a1, a2, a3⟩ := nx_is (k := 600 + 500 * ts.length + 499) (s := s) (n := Sp.szD s) (srcP_le hs (by omega))
    have a3 := a3 hz.1
    obtain ⟨c1, c2, c3⟩ := rowsV_is (j := 600 + 500 * ts.length) (ht t List.mem_cons_self) (Sp.nx s (Sp.szD s)).1.toNat (Sp.nx s (Sp.szD s)).2 [] (srcP_le a1 (by omega)) (fun r hr => by cases hr) (Nat.zero_le _)
    obtain ⟨e1, e2⟩ := dataV_is ts _ (fun x hx => ht x (List.mem_cons_of_mem _ hx)) c1
    rw [Sp.dataV]
    refine ⟨by rw [List.length_cons, List.length_cons, e1], fun d hd => ?_⟩
    rcases List.mem_cons.1 hd with rfl | hd
    · exact ⟨c3, allW_mem.2 fun r hr => allW_mem.2 fun v hv => (c2 r hr).2 v hv⟩
    · exact e2 d hd
theorem tabV_K {j : Nat} {s : Src} (nm : ByteArray) (h : Sp.srcP (j + 18) s = true) : Sp.tbK (Sp.tabV s nm).1 = true := by
  obtain ⟨_, b, c, d⟩ := tabV_is nm h
  refine yes2Q (Nat.ble_eq_true_of_le (by omega)) ?_
  unfold Sp.inK
  rw [decide_eq_true (show (0 : Int) ≤ (Sp.tabV s nm).1.2.2.1 by omega), decide_eq_true d]; rfl
theorem catV_is {s : Src} (h : Sp.srcP 40 s = true) : (Sp.catV s).1.length ≤ 2 ∧ ∀ t ∈ (Sp.catV s).1, Sp.tbK t = true := by
  obtain ⟨a, _⟩ := tabV_is (j := 22) Sp.nCases h
  have b := ch_is (k := 21) (n := 2) a
  have k1 := tabV_K (j := 22) Sp.nCases h
  have k2 := tabV_K (j := 3) Sp.nNotes b
  unfold Sp.catV
  cases (Sp.ch (Sp.tabV s Sp.nCases).2 2).1 with
  | false =>
    rw [cond_false]
    exact ⟨Nat.le_succ _, fun t ht => by rw [List.mem_singleton] at ht; rw [ht]; exact k1⟩
  | true =>
    rw [cond_true]
    refine ⟨Nat.le_refl _, fun t ht => ?_⟩
    rcases List.mem_cons.1 ht with rfl | ht
    · exact k1
    · rw [List.mem_singleton] at ht; rw [ht]; exact k2
end Go.Proofs.GR.T

set_option maxRecDepth 3000000
set_option maxHeartbeats 100000000
namespace Go.Proofs.GR.T
open Go Go.Proofs Go.Proofs.GR
def Sp.f59_pre (x0 : List Int) (x1 : List (ByteArray × List (ByteArray × Int × Bool) × Int × List (ByteArray × List Int))) : Bool := (Sp.dataP ((Sp.f94 x0).1.1, (Sp.f94 x0).1.2.1, (Sp.f94 x0).1.2.2) x1)
def Sp.f59 (x0 : List Int) (x1 : List (ByteArray × List (ByteArray × Int × Bool) × Int × List (ByteArray × List Int))) := ((Sp.dataV x1 ((Sp.f94 x0).1.1, (Sp.f94 x0).1.2.1, (Sp.f94 x0).1.2.2)).1, ())
noncomputable def e59 : Ent := { f := 12, ins := [Sh.one (C0.dat (Ty.int IntKind.u8).slice), Sh.one (C0.dat (Ty.str.pair ((Ty.str.pair (Zi.pair Ty.bool)).slice.pair (Zi.pair (Ty.str.pair Zi.slice).slice))).slice)], outs := [Sh.one (C0.dat (Ty.str.pair (Zi.pair (Zi.pair Ty.str)).slice.slice).slice)], upd := [], pre := fun a => Sp.f59_pre a.1 a.2, spec := fun a => (Sp.f59 a.1 a.2).1, wrt := fun a => (Sp.f59 a.1 a.2).2 }
def f59_g (v : denS [Sh.one (C0.dat (Ty.str.pair (Zi.pair (Zi.pair Ty.str)).slice.slice).slice)] × denS []) : Res := ⟨mkS [Sh.one (C0.dat (Ty.str.pair (Zi.pair (Zi.pair Ty.str)).slice.slice).slice)] v.1, mkU [] v.2⟩
theorem f59_form (x0 : List Int) (x1 : List (ByteArray × List (ByteArray × Int × Bool) × Int × List (ByteArray × List Int))) : abody Γ (orc [e94, e98]) 0 12 [ZX (Ty.int IntKind.u8).slice x0, ZX (Ty.str.pair ((Ty.str.pair (Zi.pair Ty.bool)).slice.pair (Zi.pair (Ty.str.pair Zi.slice).slice))).slice x1] = chk (Sp.f59_pre x0 x1) (some (f59_g (Sp.f59 x0 x1))) := by
  refine Eq.trans (b := chk (Sp.dataP ((Sp.f94 x0).1.1, (Sp.f94 x0).1.2.1, (Sp.f94 x0).1.2.2) x1) (some (Res.mk [ZX (Ty.str.pair (Zi.pair (Zi.pair Ty.str)).slice.slice).slice (Sp.dataV x1 ((Sp.f94 x0).1.1, (Sp.f94 x0).1.2.1, (Sp.f94 x0).1.2.2)).1] []))) (by kernel_rfl) ?_
  unfold Sp.f59_pre Sp.f59
  exact (chk_last (rfl))
theorem e59_ok : Valid PP Γ e59 := valid_auto ok (vcons e94_ok (vcons e98_ok vnil)) fun a => f59_form a.1 a.2

def Sp.f60_pre (x0 : List Int) (x1 x2 : Int) : Bool := (bif decide (x2 ≤ (1 : Int)) then true else (bif (↑x0.length : Int) == (0 : Int) then (!x2 == (0 : Int)) else (!(↑x0.length : Int) == (0 : Int) && (decide ((0 : Int) ≤ x1.tmod (↑x0.length : Int)) && decide (x1.tmod (↑x0.length : Int) < (↑x0.length : Int)) && (!(↑x0.length : Int) == (0 : Int) && (decide ((0 : Int) ≤ (IntKind.i64.wrap (x1 + (1 : Int))).tmod (↑x0.length : Int)) && decide ((IntKind.i64.wrap (x1 + (1 : Int))).tmod (↑x0.length : Int) < (↑x0.length : Int)) && (!(↑x0.length : Int) == (0 : Int) && (!x2 == (0 : Int)))))))))
def Sp.f60 (x0 : List Int) (x1 x2 : Int) := (bif decide (x2 ≤ (1 : Int)) then ((0 : Int), ()) else (bif (↑x0.length : Int) == (0 : Int) then ((IntKind.i64.wrap (x1 * (7 : Int))).tmod x2, ()) else ((IntKind.i64.wrap (IntKind.i64.wrap (IntKind.i64.wrap (IntKind.i64.wrap (x0.getD (x1.tmod (↑x0.length : Int)).toNat (0 : Int)) * (31 : Int)) + IntKind.i64.wrap (x0.getD ((IntKind.i64.wrap (x1 + (1 : Int))).tmod (↑x0.length : Int)).toNat (0 : Int))) + IntKind.i64.wrap (x1.tdiv (↑x0.length : Int)))).tmod x2, ())))
noncomputable def e60 : Ent := { f := 16, ins := [Sh.one (C0.dat (Ty.int IntKind.u8).slice), Sh.one ZI, Sh.one ZI], outs := [Sh.one ZI], upd := [], pre := fun a => Sp.f60_pre a.1 a.2.1 a.2.2, spec := fun a => (Sp.f60 a.1 a.2.1 a.2.2).1, wrt := fun a => (Sp.f60 a.1 a.2.1 a.2.2).2 }
def f60_g (v : denS [Sh.one ZI] × denS []) : Res := ⟨mkS [Sh.one ZI] v.1, mkU [] v.2⟩
theorem f60_form (x0 : List Int) (x1 x2 : Int) : abody Γ (orc []) 0 16 [ZX (Ty.int IntKind.u8).slice x0, ZX Zi x1, ZX Zi x2] = chk (Sp.f60_pre x0 x1 x2) (some (f60_g (Sp.f60 x0 x1 x2))) := by
  refine Eq.trans (b := bif decide (x2 ≤ (1 : Int)) then ZJ (0 : Int) else bif (↑x0.length : Int) == (0 : Int) then chk (!x2 == (0 : Int)) (ZJ ((IntKind.i64.wrap (x1 * (7 : Int))).tmod x2)) else chk (!(↑x0.length : Int) == (0 : Int)) (chk (decide ((0 : Int) ≤ x1.tmod (↑x0.length : Int)) && decide (x1.tmod (↑x0.length : Int) < (↑x0.length : Int))) (chk (!(↑x0.length : Int) == (0 : Int)) (chk (decide ((0 : Int) ≤ (IntKind.i64.wrap (x1 + (1 : Int))).tmod (↑x0.length : Int)) && decide ((IntKind.i64.wrap (x1 + (1 : Int))).tmod (↑x0.length : Int) < (↑x0.length : Int))) (chk (!(↑x0.length : Int) == (0 : Int)) (chk (!x2 == (0 : Int)) (ZJ ((IntKind.i64.wrap (IntKind.i64.wrap (IntKind.i64.wrap (IntKind.i64.wrap (x0.getD (x1.tmod (↑x0.length : Int)).toNat (0 : Int)) * (31 : Int)) + IntKind.i64.wrap (x0.getD ((IntKind.i64.wrap (x1 + (1 : Int))).tmod (↑x0.length : Int)).toNat (0 : Int))) + IntKind.i64.wrap (x1.tdiv (↑x0.length : Int)))).tmod x2)))))))) (by kernel_rfl) ?_
  unfold Sp.f60_pre Sp.f60
  exact (cond_step f60_g ((lift_plain (rfl))) ((cond_step f60_g ((chk_last (rfl))) ((chk_step ((chk_step ((chk_step ((chk_step ((chk_step ((chk_last (rfl))))))))))))))))
theorem e60_ok : Valid PP Γ e60 := valid_auto ok vnil fun a => f60_form a.1 a.2.1 a.2.2

noncomputable def f12_L0 (n m0 : Nat) (y0 : List Int) (y1 y2 y3 : Int) (y4 : List Int) : Option Res := loopAt Γ (orc [e57, e59, e58, e23, e21, e60, e33, e32]) n (4 : Nat) (0 : Nat) [] [Pth.r, Pth.r, Pth.r, Pth.r, Pth.r, Pth.r, Pth.r, Pth.r, Pth.r, Pth.r, Pth.l, Pth.r, Pth.b] m0 (St.mk (Zn :: ZS (Ty.int IntKind.u8).slice y0 :: ZN 11 (ZS Zi y1 :: ZS Zi y2 :: Slot.val (Val.one (Cell.own (0 : Nat))) :: ZS Zi y3 :: ZN 109 [])) [AObj.row (Ty.int IntKind.u8) y4 true])
theorem f12_L0_step (n m0 : Nat) (y0 : List Int) (y1 y2 y3 : Int) (y4 : List Int) : f12_L0 n (m0 + 1) y0 y1 y2 y3 y4 = bif decide (y3 < (32 : Int)) then bif y3 == (0 : Int) then chk (decide ((0 : Int) ≤ IntKind.i64.wrap ((IntKind.i64.wrap (y2 + y3)).tdiv (8 : Int))) && decide (IntKind.i64.wrap ((IntKind.i64.wrap (y2 + y3)).tdiv (8 : Int)) < (↑y4.length : Int))) (chk (decide ((0 : Int) ≤ IntKind.u64.wrap ((IntKind.i64.wrap (y2 + y3)).tmod (8 : Int)))) (chk (decide ((0 : Int) ≤ IntKind.i64.wrap ((IntKind.i64.wrap (y2 + y3)).tdiv (8 : Int))) && decide (IntKind.i64.wrap ((IntKind.i64.wrap (y2 + y3)).tdiv (8 : Int)) < (↑y4.length : Int))) (f12_L0 n m0 y0 y1 y2 (IntKind.i64.wrap (y3 + (1 : Int))) (y4.set (IntKind.i64.wrap ((IntKind.i64.wrap (y2 + y3)).tdiv (8 : Int))).toNat (IntKind.u8.wrap (↑(BitVec.ofInt (8 : Nat) (y4.getD (IntKind.i64.wrap ((IntKind.i64.wrap (y2 + y3)).tdiv (8 : Int))).toNat (0 : Int)) ^^^ BitVec.ofInt (8 : Nat) (IntKind.u8.wrap ((1 : Int) * (2 : Int) ^ min (IntKind.u64.wrap ((IntKind.i64.wrap (y2 + y3)).tmod (8 : Int))).toNat (8 : Nat)))).toNat : Int)))))) else chk (Sp.f60_pre y0 (IntKind.i64.wrap (y3 + (2 : Int))) (2 : Int)) (bif (Sp.f60 y0 (IntKind.i64.wrap (y3 + (2 : Int))) (2 : Int)).1 == (1 : Int) then chk (decide ((0 : Int) ≤ IntKind.i64.wrap ((IntKind.i64.wrap (y2 + y3)).tdiv (8 : Int))) && decide (IntKind.i64.wrap ((IntKind.i64.wrap (y2 + y3)).tdiv (8 : Int)) < (↑y4.length : Int))) (chk (decide ((0 : Int) ≤ IntKind.u64.wrap ((IntKind.i64.wrap (y2 + y3)).tmod (8 : Int)))) (chk (decide ((0 : Int) ≤ IntKind.i64.wrap ((IntKind.i64.wrap (y2 + y3)).tdiv (8 : Int))) && decide (IntKind.i64.wrap ((IntKind.i64.wrap (y2 + y3)).tdiv (8 : Int)) < (↑y4.length : Int))) (f12_L0 n m0 y0 y1 y2 (IntKind.i64.wrap (y3 + (1 : Int))) (y4.set (IntKind.i64.wrap ((IntKind.i64.wrap (y2 + y3)).tdiv (8 : Int))).toNat (IntKind.u8.wrap (↑(BitVec.ofInt (8 : Nat) (y4.getD (IntKind.i64.wrap ((IntKind.i64.wrap (y2 + y3)).tdiv (8 : Int))).toNat (0 : Int)) ^^^ BitVec.ofInt (8 : Nat) (IntKind.u8.wrap ((1 : Int) * (2 : Int) ^ min (IntKind.u64.wrap ((IntKind.i64.wrap (y2 + y3)).tmod (8 : Int))).toNat (8 : Nat)))).toNat : Int)))))) else f12_L0 n m0 y0 y1 y2 (IntKind.i64.wrap (y3 + (1 : Int))) y4) else chk (Sp.f33_pre y4) (chk (Sp.f32_pre y4) (bif y1 == (3 : Int) then bif (Sp.f33 y4).1.2 == (Sp.f32 y4).1.2 then ZB ((Sp.f33 y4).1.2 != (0 : Int)) else Zf else Zf)) := by kernel_rfl
theorem f12_raw (n : Nat) (x0 x1 : List Int) : abody Γ (orc [e57, e59, e58, e23, e21, e60, e33, e32]) n 4 [ZX (Ty.int IntKind.u8).slice x0, ZX (Ty.int IntKind.u8).slice x1] = bif decide ((↑x0.length : Int) > (1048576 : Int)) then Zt else bif decide ((↑x1.length : Int) > (1048576 : Int)) then Zt else chk (Sp.f57_pre x0) (chk (Sp.f59_pre x1 (Sp.f57 x0).1) (chk (Sp.f58_pre (Sp.f57 x0).1 (Sp.f59 x1 (Sp.f57 x0).1).1) (chk (Sp.f23_pre (Sp.f58 (Sp.f57 x0).1 (Sp.f59 x1 (Sp.f57 x0).1).1).1.1) (chk (Sp.f21_pre (Sp.f58 (Sp.f57 x0).1 (Sp.f59 x1 (Sp.f57 x0).1).1).1.1) (bif (Sp.f23 (Sp.f58 (Sp.f57 x0).1 (Sp.f59 x1 (Sp.f57 x0).1).1).1.1).1.2 != (0 : Int) then Zf else bif !(bytesStr (Sp.f23 (Sp.f58 (Sp.f57 x0).1 (Sp.f59 x1 (Sp.f57 x0).1).1).1.1).1.1).toList == (bytesStr (Sp.f21 (Sp.f58 (Sp.f57 x0).1 (Sp.f59 x1 (Sp.f57 x0).1).1).1.1).1.1).toList then Zf else chk (Sp.f60_pre x1 (0 : Int) (↑(Sp.f23 (Sp.f58 (Sp.f57 x0).1 (Sp.f59 x1 (Sp.f57 x0).1).1).1.1).1.1.length : Int)) (chk (decide ((0 : Int) ≤ (Sp.f60 x1 (0 : Int) (↑(Sp.f23 (Sp.f58 (Sp.f57 x0).1 (Sp.f59 x1 (Sp.f57 x0).1).1).1.1).1.1.length : Int)).1) && decide ((Sp.f60 x1 (0 : Int) (↑(Sp.f23 (Sp.f58 (Sp.f57 x0).1 (Sp.f59 x1 (Sp.f57 x0).1).1).1.1).1.1.length : Int)).1 ≤ (↑(Sp.f23 (Sp.f58 (Sp.f57 x0).1 (Sp.f59 x1 (Sp.f57 x0).1).1).1.1).1.1.length : Int))) (chk (Sp.f33_pre (List.take ((Sp.f60 x1 (0 : Int) (↑(Sp.f23 (Sp.f58 (Sp.f57 x0).1 (Sp.f59 x1 (Sp.f57 x0).1).1).1.1).1.1.length : Int)).1.toNat - (0 : Nat)) (List.drop (0 : Nat) (Sp.f23 (Sp.f58 (Sp.f57 x0).1 (Sp.f59 x1 (Sp.f57 x0).1).1).1.1).1.1))) (chk (Sp.f60_pre x1 (1 : Int) (IntKind.i64.wrap (IntKind.i64.wrap ((8 : Int) * (↑(Sp.f23 (Sp.f58 (Sp.f57 x0).1 (Sp.f59 x1 (Sp.f57 x0).1).1).1.1).1.1.length : Int)) - (31 : Int)))) (chk (decide (((0 : Nat) + (Sp.f23 (Sp.f58 (Sp.f57 x0).1 (Sp.f59 x1 (Sp.f57 x0).1).1).1.1).1.1.length) * (1 : Nat) ≤ (140737488355328 : Nat))) (f12_L0 n n x1 (Sp.f33 (List.take ((Sp.f60 x1 (0 : Int) (↑(Sp.f23 (Sp.f58 (Sp.f57 x0).1 (Sp.f59 x1 (Sp.f57 x0).1).1).1.1).1.1.length : Int)).1.toNat - (0 : Nat)) (List.drop (0 : Nat) (Sp.f23 (Sp.f58 (Sp.f57 x0).1 (Sp.f59 x1 (Sp.f57 x0).1).1).1.1).1.1))).1.2 (Sp.f60 x1 (1 : Int) (IntKind.i64.wrap (IntKind.i64.wrap ((8 : Int) * (↑(Sp.f23 (Sp.f58 (Sp.f57 x0).1 (Sp.f59 x1 (Sp.f57 x0).1).1).1.1).1.1.length : Int)) - (31 : Int)))).1 (0 : Int) ([] ++ (Sp.f23 (Sp.f58 (Sp.f57 x0).1 (Sp.f59 x1 (Sp.f57 x0).1).1).1.1).1.1))))))))))) := by kernel_rfl

end Go.Proofs.GR.T

namespace Go.Proofs.GR.T
open Go Go.Proofs Go.Proofs.GR
theorem xor_half (a b : Nat) : (a ^^^ b) / 2 = a / 2 ^^^ b / 2 := Nat.eq_of_testBit_eq fun i => by
  rw [← Nat.testBit_add_one, Nat.testBit_xor, Nat.testBit_xor, Nat.testBit_add_one, Nat.testBit_add_one]
theorem xor_odd (a b : Nat) : decide ((a ^^^ b) % 2 = 1) = (decide (a % 2 = 1) ^^ decide (b % 2 = 1)) := by
  have h := Nat.testBit_xor a b 0
  rw [Nat.testBit_zero, Nat.testBit_zero, Nat.testBit_zero] at h
  exact h
theorem xor4 (a b p : Nat) : (a ^^^ p) ^^^ (b ^^^ p) = a ^^^ b := by
  rw [Nat.xor_assoc, Nat.xor_comm b p, ← Nat.xor_assoc p p b, Nat.xor_self, Nat.zero_xor]
theorem bit_xor (a b : Nat) : Sp.bit (a ^^^ b) = Sp.bit a ^^^ Sp.bit b := by
  have h := xor_odd a b
  unfold Sp.bit
  by_cases ha : a % 2 = 1 <;> by_cases hb : b % 2 = 1
  · rw [decide_eq_true ha, decide_eq_true hb] at h
    rw [if_pos ha, if_pos hb, if_neg (of_decide_eq_false h), xor_half, xor4]
  · rw [decide_eq_true ha, decide_eq_false hb] at h
    rw [if_pos ha, if_neg hb, if_pos (of_decide_eq_true h), xor_half, Nat.xor_assoc, Nat.xor_assoc, Nat.xor_comm (b / 2)]
  · rw [decide_eq_false ha, decide_eq_true hb] at h
    rw [if_neg ha, if_pos hb, if_pos (of_decide_eq_true h), xor_half, Nat.xor_assoc]
  · rw [decide_eq_false ha, decide_eq_false hb] at h
    rw [if_neg ha, if_neg hb, if_neg (of_decide_eq_false h), xor_half]
theorem bits_xor : ∀ (n a b : Nat), Sp.bits n (a ^^^ b) = Sp.bits n a ^^^ Sp.bits n b
  | 0, _, _ => rfl
  | n + 1, a, b => by rw [Sp.bits, bit_xor, bits_xor n]; rfl
theorem bits_add : ∀ (m n r : Nat), Sp.bits (m + n) r = Sp.bits n (Sp.bits m r)
  | 0, n, r => by rw [Nat.zero_add]; rfl
  | m + 1, n, r => by rw [show m + 1 + n = m + n + 1 by omega, Sp.bits, bits_add m n]; rfl
theorem bits_shift : ∀ (n m : Nat), Sp.bits n (2 ^ n * m) = m
  | 0, m => by rw [Nat.pow_zero, Nat.one_mul]; rfl
  | n + 1, m => by
    have e : Sp.bit (2 ^ (n + 1) * m) = 2 ^ n * m := by
      have e2 : 2 ^ (n + 1) * m = 2 * (2 ^ n * m) := by rw [Nat.pow_succ, Nat.mul_comm (2 ^ n) 2, Nat.mul_assoc]
      unfold Sp.bit
      rw [e2, if_neg (by omega)]
      omega
    rw [Sp.bits, e, bits_shift n m]
def Sp.lit : List Int → Nat
  | [] => 0
  | x :: l => x.toNat + 256 * Sp.lit l
theorem add_xor {x : Nat} (h : x < 256) (m : Nat) : x + 256 * m = x ^^^ 256 * m := Nat.eq_of_testBit_eq fun i => by
  have e : x + 256 * m = 2 ^ 8 * m + x := by omega
  rw [Nat.testBit_xor, e, Nat.testBit_two_pow_mul_add m (show x < 2 ^ 8 from h), show (256 : Nat) = 2 ^ 8 from rfl, Nat.testBit_two_pow_mul]
  by_cases hi : i < 8
  · rw [if_pos hi, decide_eq_false (show ¬ i ≥ 8 by omega), Bool.false_and, Bool.xor_false]
  · rw [if_neg hi, decide_eq_true (show i ≥ 8 by omega), Bool.true_and, Nat.testBit_lt_two_pow (Nat.lt_of_lt_of_le (show x < 2 ^ 8 from h) (Nat.pow_le_pow_right (by omega) (by omega))), Bool.false_xor]
theorem crc_nil (r : Nat) : Sp.crc r [] = r := by delta Sp.crc; rfl
theorem crc_cons (r : Nat) (x : Int) (l : List Int) : Sp.crc r (x :: l) = Sp.crc (Sp.bits 8 (r ^^^ x.toNat)) l := by delta Sp.crc; rfl
theorem crc_lit : ∀ (xs : List Int) (r : Nat), Sp.isBytes xs = true → Sp.crc r xs = Sp.bits (8 * xs.length) (r ^^^ Sp.lit xs)
  | [], r, _ => by
    rw [Sp.lit, Nat.xor_zero, List.length_nil, Nat.mul_zero, Sp.bits, crc_nil]
  | x :: l, r, h => by
    obtain ⟨⟨h1, h2⟩, h3⟩ := isBytes_cons.1 h
    rw [crc_cons, crc_lit l _ h3, Sp.lit, add_xor (show x.toNat < 256 by omega), List.length_cons, show 8 * (l.length + 1) = 8 + 8 * l.length by omega, bits_add, ← Nat.xor_assoc, bits_xor 8 (r ^^^ x.toNat), show 256 * Sp.lit l = 2 ^ 8 * Sp.lit l from rfl, bits_shift]
theorem bit_ne {r : Nat} (h : r ≠ 0) (h2 : r < 2 ^ 32) : Sp.bit r ≠ 0 := by
  unfold Sp.bit
  by_cases c : r % 2 = 1
  · rw [if_pos c]
    intro e
    have e2 : (r / 2 ^^^ 3988292384) ^^^ 3988292384 = 0 ^^^ 3988292384 := by rw [e]
    rw [Nat.xor_assoc, Nat.xor_self, Nat.xor_zero, Nat.zero_xor] at e2
    exact absurd e2 (Nat.ne_of_lt (show r / 2 < 3988292384 by omega))
  · rw [if_neg c]; omega
theorem bits_ne : ∀ (n : Nat) {r : Nat}, r ≠ 0 → r < 2 ^ 32 → Sp.bits n r ≠ 0
  | 0, _, h, _ => h
  | n + 1, _, h, h2 => bits_ne n (bit_ne h h2) (bit_lt h2)
theorem burst_ne {xs ys : List Int} (hx : Sp.isBytes xs = true) (hy : Sp.isBytes ys = true) (hl : xs.length = ys.length) {p B : Nat} (hB : B ≠ 0) (hB2 : B < 2 ^ 32) (hp : p ≤ 8 * xs.length) (h : Sp.lit xs ^^^ Sp.lit ys = 2 ^ p * B) (r : Nat) : Sp.crc r xs ≠ Sp.crc r ys := by
  intro e
  rw [crc_lit xs r hx, crc_lit ys r hy, ← hl] at e
  have h0 : Sp.bits (8 * xs.length) (2 ^ p * B) = 0 := by
    rw [← h, ← xor4 (Sp.lit xs) (Sp.lit ys) r, bits_xor, Nat.xor_comm (Sp.lit xs) r, Nat.xor_comm (Sp.lit ys) r, e, Nat.xor_self]
  rw [show 8 * xs.length = p + (8 * xs.length - p) by omega, bits_add, bits_shift] at h0
  exact bits_ne _ hB hB2 h0
theorem crc_app : ∀ (xs ys : List Int) (r : Nat), Sp.crc r (xs ++ ys) = Sp.crc (Sp.crc r xs) ys
  | [], _, _ => by rw [List.nil_append, crc_nil]
  | x :: xs, ys, r => by rw [List.cons_append, crc_cons, crc_app xs ys, crc_cons]
theorem crc_rest {xs : List Int} {c : List Int} (hc : Sp.isBytes c = true) (hl : c.length = 4) (h : Sp.lit c = Sp.crc 4294967295 xs ^^^ 4294967295) : Sp.crc 4294967295 (xs ++ c) = Sp.bits 32 4294967295 := by
  rw [crc_app, crc_lit c _ hc, hl, h, ← Nat.xor_assoc, Nat.xor_self, Nat.zero_xor]
theorem mul_xor (a b : Nat) : 256 * (a ^^^ b) = 256 * a ^^^ 256 * b := Nat.eq_of_testBit_eq fun i => by
  rw [show (256 : Nat) = 2 ^ 8 from rfl, Nat.testBit_xor, Nat.testBit_two_pow_mul, Nat.testBit_two_pow_mul, Nat.testBit_two_pow_mul, Nat.testBit_xor]
  cases decide (i ≥ 8) <;> rfl
theorem lit_set : ∀ (xs : List Int) (i j : Nat) (h : i < xs.length), Sp.isBytes xs = true → j < 8 → Sp.lit (xs.set i ((xs[i].toNat ^^^ 2 ^ j : Nat) : Int)) = Sp.lit xs ^^^ 2 ^ (8 * i + j)
  | [], _, _, h, _, _ => by cases h
  | x :: l, 0, j, _, hb, hj => by
    obtain ⟨⟨h1, h2⟩, h3⟩ := isBytes_cons.1 hb
    have h4 : x.toNat ^^^ 2 ^ j < 2 ^ 8 := Nat.xor_lt_two_pow (by omega) (Nat.pow_lt_pow_right (by omega) hj)
    rw [List.set_cons_zero, Sp.lit, Sp.lit, List.getElem_cons_zero, Int.toNat_natCast, add_xor h4, add_xor (show x.toNat < 256 by omega), Nat.mul_zero, Nat.zero_add, Nat.xor_assoc, Nat.xor_comm (2 ^ j), Nat.xor_assoc]
  | x :: l, i + 1, j, h, hb, hj => by
    obtain ⟨⟨h1, h2⟩, h3⟩ := isBytes_cons.1 hb
    rw [List.set_cons_succ, Sp.lit, Sp.lit, List.getElem_cons_succ, lit_set l i j (Nat.lt_of_succ_lt_succ h) h3 hj, add_xor (show x.toNat < 256 by omega), add_xor (show x.toNat < 256 by omega), mul_xor, Nat.xor_assoc, show 8 * (i + 1) + j = 8 + (8 * i + j) by omega, Nat.pow_add 2 8]
theorem pow_xor {p n B : Nat} (hB : B < 2 ^ n) : 2 ^ p * B ^^^ 2 ^ (p + n) = 2 ^ p * (B + 2 ^ n) := Nat.eq_of_testBit_eq fun i => by
  rw [Nat.pow_add, Nat.testBit_xor, Nat.testBit_two_pow_mul, Nat.testBit_two_pow_mul, Nat.testBit_two_pow_mul, show B + 2 ^ n = 2 ^ n * 1 + B by omega, Nat.testBit_two_pow_mul_add 1 hB]
  by_cases h : i ≥ p
  · rw [decide_eq_true h, Bool.true_and, Bool.true_and, Bool.true_and]
    by_cases h2 : i - p < n
    · rw [if_pos h2, Nat.testBit_two_pow, decide_eq_false (show ¬ n = i - p by omega), Bool.xor_false]
    · rw [if_neg h2, Nat.testBit_two_pow, Nat.testBit_lt_two_pow (Nat.lt_of_lt_of_le hB (Nat.pow_le_pow_right (by omega) (by omega))), Bool.false_xor, show (1 : Nat) = 2 ^ 0 from rfl, Nat.testBit_two_pow]
      exact decide_eq_decide.2 ⟨fun q => by omega, fun q => by omega⟩
  · rw [decide_eq_false h, Bool.false_and, Bool.false_and, Bool.false_and]; rfl
end Go.Proofs.GR.T

namespace Go.Proofs.GR.T
open Go Go.Proofs Go.Proofs.GR
theorem one_byte (n : Int) {l : List Int} (h : Sp.isBytes l = true) : Sp.isBytes (IntKind.u8.wrap n :: l) = true := isBytes_cons.2 ⟨wrap8_byte n, h⟩
theorem rv1_bytes (v : V3) : Sp.isBytes (Sp.rv1 v) = true := by
  unfold Sp.rv1
  refine one_byte _ ?_
  cases v.1 == 1 with
  | true => exact one_byte _ rfl
  | false =>
  rw [cond_false]
  cases v.1 == 2 with
  | true => exact isBytes_of (key8_in v.2.1)
  | false =>
  rw [cond_false]
  cases (bif v.1 == 3 then true else v.1 == 4) with
  | true => exact one_byte _ (strBytes_bytes _)
  | false => rfl
theorem rvs_bytes : ∀ xs : List V3, Sp.isBytes (Sp.rvs xs) = true
  | [] => rfl
  | v :: r => by rw [Sp.rvs]; exact isBytes_append (rv1_bytes v) (rvs_bytes r)
theorem flat_bytes : ∀ rs : List VRw, Sp.isBytes (Sp.flatI Sp.rowBy rs) = true
  | [] => rfl
  | r :: rs => by rw [Sp.flatI]; exact isBytes_append (one_byte _ (rvs_bytes r)) (flat_bytes rs)
theorem two_bytes (n : Int) : Sp.isBytes (Sp.two n) = true := one_byte _ (one_byte _ rfl)
theorem dmp_bytes : ∀ (ts : List VTb) (ds : List VDt), Sp.isBytes (Sp.dmp ts ds) = true
  | [], _ => by rw [Sp.dmp]; rfl
  | _ :: _, [] => by rw [Sp.dmp]; rfl
  | t :: ts, d :: ds => by
    rw [Sp.dmp]
    exact isBytes_append (isBytes_append (isBytes_append (isBytes_append (two_bytes _) (strBytes_bytes _)) (two_bytes _)) (flat_bytes _)) (dmp_bytes ts ds)
theorem dmp_few : ∀ (ts : List VTb) (ds : List VDt), (∀ t ∈ ts, Sp.okT t = true) → (∀ (i : Nat) (h : i < ts.length) (h2 : i < ds.length), ds[i].2.length ≤ 20 ∧ ∀ r ∈ ds[i].2, (Sp.rowBy r).length ≤ 801) → (Sp.dmp ts ds).length ≤ 20024 * ts.length
  | [], _, _, _ => by rw [Sp.dmp]; exact Nat.zero_le _
  | _ :: _, [], _, _ => by rw [Sp.dmp]; exact Nat.zero_le _
  | t :: ts, d :: ds, ho, h => by
    obtain ⟨h1, h2⟩ := h 0 (Nat.zero_lt_succ _) (Nat.zero_lt_succ _)
    have h1 : d.2.length ≤ 20 := h1
    have h3 := dmp1_len (ho t List.mem_cons_self) (show d.2.length ≤ 400 by omega) h2
    have h4 := dmp_few ts ds (fun x hx => ho x (List.mem_cons_of_mem _ hx)) fun i a b => h (i + 1) (Nat.succ_lt_succ a) (Nat.succ_lt_succ b)
    rw [Sp.dmp, List.length_append, List.length_cons]
    omega
theorem drawn_is {code more : List Int} (h1 : Sp.isBytes code = true) (h2 : code.length ≤ 1048576) (h3 : Sp.isBytes more = true) (h4 : more.length ≤ 1048576) : Sp.f57_pre code = true ∧ Sp.f59_pre more (Sp.f57 code).1 = true ∧ Sp.f58_pre (Sp.f57 code).1 (Sp.f59 more (Sp.f57 code).1).1 = true ∧ Sp.isBytes (Sp.f58 (Sp.f57 code).1 (Sp.f59 more (Sp.f57 code).1).1).1.1 = true ∧ (Sp.f58 (Sp.f57 code).1 (Sp.f59 more (Sp.f57 code).1).1).1.1.length ≤ 65526 := by
  have src : ∀ (l : List Int) (k : Nat), Sp.isBytes l = true → l.length ≤ 1048576 → k ≤ 10000 → Sp.srcP k ((Sp.f94 l).1.1, (Sp.f94 l).1.2.1, (Sp.f94 l).1.2.2) = true := fun l k a b c => by
    have e : ((l.length : Int)).tmod 1000 = (l.length : Int) % 1000 := Int.tmod_eq_emod_of_nonneg (by omega)
    refine srcP_mk (s := (l, 0, ((l.length : Int)).tmod 1000)) a b (Int.le_refl _) (show (0 : Int) + (k : Int) ≤ 2000000 by omega) (show 0 ≤ ((l.length : Int)).tmod 1000 by rw [e]; omega) (show ((l.length : Int)).tmod 1000 < 2147483648 by rw [e]; omega)
  have c1 := catV_is (src code 40 h1 h2 (by omega))
  have p1 : Sp.dataP ((Sp.f94 more).1.1, (Sp.f94 more).1.2.1, (Sp.f94 more).1.2.2) (Sp.f57 code).1 = true := yes2Q (Nat.ble_eq_true_of_le (Nat.le_trans c1.1 (by omega))) (yes2Q (allW_mem.2 c1.2) (src more 6000 h3 h4 (by omega)))
  have c2 := dataV_is (Sp.f57 code).1 ((Sp.f94 more).1.1, (Sp.f94 more).1.2.1, (Sp.f94 more).1.2.2) c1.2 (srcP_le (src more 6000 h3 h4 (by omega)) (by have : (Sp.f57 code).1.length ≤ 2 := c1.1; omega))
  refine ⟨src code 40 h1 h2 (by omega), p1, ?_⟩
  have c3 : (Sp.f57 code).1.length ≤ 2 := c1.1
  have c4 : ∀ d ∈ (Sp.f59 more (Sp.f57 code).1).1, d.2.length ≤ 20 ∧ Sp.datN d = true := c2.2
  generalize (Sp.f59 more (Sp.f57 code).1).1 = ds at c4 ⊢
  generalize (Sp.f57 code).1 = ts at c3 ⊢
  have hn : Sp.allW Sp.datN ds = true := allW_mem.2 fun d hd => (c4 d hd).2
  unfold Sp.f58_pre Sp.f58
  cases decide ((ts.length : Int) > (4096 : Int)) with
  | true => exact ⟨rfl, rfl, Nat.zero_le _⟩
  | false =>
  cases decide ((ds.length : Int) > (4096 : Int)) with
  | true => exact ⟨rfl, rfl, Nat.zero_le _⟩
  | false =>
  cases hd : Sp.dataOK ts ds with
  | false => exact ⟨rfl, rfl, Nat.zero_le _⟩
  | true =>
    have hp : Sp.dmpP ts ds = true := yes2Q hd hn
    obtain ⟨d1, d2, d3, d4⟩ := dmpP_is hp
    have h5 := dmp_few ts ds d3 fun i a b => ⟨(c4 _ (List.getElem_mem b)).1, fun r hr => ((d4 i a b).2 r hr).2⟩
    rw [hp]
    refine ⟨rfl, one_byte _ (dmp_bytes ts ds), ?_⟩
    show (IntKind.u8.wrap (ts.length : Int) :: Sp.dmp ts ds).length ≤ 65526
    rw [List.length_cons]
    omega
theorem lit_four {n : Nat} (h : n < 4294967296) : Sp.lit (Sp.f117 (n : Int)).1 = n := by
  unfold Sp.f117
  simp only [Sp.lit, wrap8]
  rw [Int.fdiv_eq_ediv_of_nonneg _ (by omega), Int.fdiv_eq_ediv_of_nonneg _ (by omega), Int.fdiv_eq_ediv_of_nonneg _ (by omega)]
  omega
theorem crc_sum {xs : List Int} (h : Sp.isBytes xs = true) : Sp.crc 4294967295 (xs ++ (Sp.f117 (Sp.sum xs)).1) = Sp.bits 32 4294967295 := by
  have h1 : Sp.crc 4294967295 xs ^^^ 4294967295 < 2 ^ 32 := Nat.xor_lt_two_pow (crc_lt xs 4294967295 (by omega) h) (by omega)
  exact crc_rest (low_bytes _) rfl (lit_four h1)
theorem open_crc {xs : List Int} (hb : Sp.isBytes xs = true) (h : (Sp.f32 xs).1.2 = 0) : Sp.crc 4294967295 xs = Sp.bits 32 4294967295 ∧ 10 ≤ xs.length := by
  unfold Sp.f32 at h
  by_cases c0 : (xs.length : Int) > 65536
  · rw [decide_eq_true c0] at h; cases h
  rw [decide_eq_false c0] at h
  have h : (Sp.f76 xs).1.2 = 0 := h
  unfold Sp.f76 at h
  by_cases c1 : (xs.length : Int) < 10
  · rw [decide_eq_true c1] at h; cases h
  have w : (IntKind.i64.wrap ((xs.length : Int) - 4)).toNat = xs.length - 4 := by rw [wrap64 (by omega) (by omega)]; omega
  rw [decide_eq_false c1, w, cond_false] at h
  cases c2 : (bytesStr (List.take (2 : Nat) (List.drop (0 : Nat) xs))).toList == (ByteArray.mk #[66, 75]).toList with
  | false => rw [c2] at h; cases h
  | true =>
  rw [c2, Bool.not_true, cond_false] at h
  cases c3 : ((Sp.num (0 : Nat) (strBytes (bytesStr (List.take (4 : Nat) (List.drop (2 : Nat) xs)))) : Int) != IntKind.i64.wrap ((xs.length : Int) - (10 : Int))) with
  | true => rw [c3] at h; cases h
  | false =>
  rw [c3, cond_false] at h
  cases c4 : (bytesStr (Sp.f117 (Sp.sum (List.take (xs.length - 4 - 0) (List.drop 0 xs)))).1).toList == (bytesStr (List.take (xs.length - (xs.length - 4)) (List.drop (xs.length - 4) xs))).toList with
  | false => rw [c4] at h; cases h
  | true =>
    have e1 : List.take (xs.length - 4 - 0) (List.drop 0 xs) = xs.take (xs.length - 4) := rfl
    have e2 : List.take (xs.length - (xs.length - 4)) (List.drop (xs.length - 4) xs) = xs.drop (xs.length - 4) := List.take_of_length_le (by rw [List.length_drop]; exact Nat.le_refl _)
    rw [e1, e2, beq_bytes (low_bytes _) (isBytes_drop hb _)] at c4
    have e3 := eqL_of c4
    have := crc_sum (isBytes_take hb (xs.length - 4))
    rw [e3, List.take_append_drop] at this
    exact ⟨this, by omega⟩
theorem seal_bytes {b : List Int} (hb : Sp.isBytes b = true) : Sp.isBytes ([(66 : Int), (75 : Int)] ++ (Sp.f116 (b.length : Int)).1 ++ b) = true := isBytes_append (isBytes_append head_bytes (four_bytes _)) hb
theorem seal_crc {b : List Int} (hb : Sp.isBytes b = true) : Sp.crc 4294967295 (Sp.f71 b).1 = Sp.bits 32 4294967295 := crc_sum (seal_bytes hb)
theorem seal_isB {b : List Int} (hb : Sp.isBytes b = true) : Sp.isBytes (Sp.f71 b).1 = true := isBytes_append (seal_bytes hb) (low_bytes _)
theorem num_four {n : Nat} (h : n < 4294967296) : Sp.num 0 (Sp.f116 (n : Int)).1 = n := by
  unfold Sp.f116
  simp only [Sp.num, wrap8]
  rw [Int.fdiv_eq_ediv_of_nonneg _ (by omega), Int.fdiv_eq_ediv_of_nonneg _ (by omega), Int.fdiv_eq_ediv_of_nonneg _ (by omega)]
  omega
theorem cut_form {b : List Int} (hb : Sp.isBytes b = true) (hl : b.length ≤ 65526) {k : Nat} (hk : k < b.length + 10) : (Sp.f32 ((Sp.f71 b).1.take k)).1.2 = 3 := by
  have hlen := f71_len b
  have hk2 : ((Sp.f71 b).1.take k).length = k := by rw [List.length_take]; omega
  have hB : Sp.isBytes ((Sp.f71 b).1.take k) = true := isBytes_take (seal_isB hb) k
  unfold Sp.f32
  rw [hk2, decide_eq_false (show ¬ (k : Int) > 65536 by omega), cond_false]
  show (Sp.f76 ((Sp.f71 b).1.take k)).1.2 = 3
  unfold Sp.f76
  rw [hk2]
  by_cases c1 : (k : Int) < 10
  · rw [decide_eq_true c1]; rfl
  rw [decide_eq_false c1, cond_false]
  cases (bytesStr (List.take (2 : Nat) (List.drop (0 : Nat) ((Sp.f71 b).1.take k)))).toList == (ByteArray.mk #[66, 75]).toList with
  | false => rfl
  | true =>
    have e : List.take 4 (List.drop 2 ((Sp.f71 b).1.take k)) = (Sp.f116 (b.length : Int)).1 := by
      rw [List.drop_take, List.take_take, Nat.min_eq_left (by omega)]
      rfl
    have n1 : ((Sp.num (0 : Nat) (strBytes (bytesStr (List.take (4 : Nat) (List.drop (2 : Nat) ((Sp.f71 b).1.take k))))) : Int) != IntKind.i64.wrap ((k : Int) - (10 : Int))) = true := by
      rw [e, strBytes_bytesStr (four_bytes _), num_four (by omega), wrap64 (by omega) (by omega)]
      simp
      omega
    rw [n1]
    rfl
theorem flip8 {x : Int} (h0 : 0 ≤ x) (h1 : x < 256) {j : Nat} (hj : j < 8) : IntKind.u8.wrap (((BitVec.ofInt 8 x ^^^ BitVec.ofInt 8 (IntKind.u8.wrap ((1 : Int) * (2 : Int) ^ min j 8))).toNat : Nat) : Int) = ((x.toNat ^^^ 2 ^ j : Nat) : Int) := by
  have hp : 2 ^ j < 2 ^ 8 := Nat.pow_lt_pow_right (by omega) hj
  have e1 : (2 : Int) ^ j = ((2 ^ j : Nat) : Int) := by rw [Int.natCast_pow]; rfl
  have e2 : x = ((x.toNat : Nat) : Int) := by omega
  have hx : x.toNat < 2 ^ 8 := by omega
  rw [Int.one_mul, Nat.min_eq_left (by omega), e1]
  generalize hq : 2 ^ j = q at hp ⊢
  rw [wrap8 (q : Int), show ((q : Int) % 256) = (q : Int) by omega, e2]
  generalize x.toNat = y at hx ⊢
  rw [BitVec.toNat_xor, ofInt_toNat, ofInt_toNat, Nat.mod_eq_of_lt hx, Nat.mod_eq_of_lt hp, Int.toNat_natCast]
  have := Nat.xor_lt_two_pow hx hp
  rw [wrap8]
  omega
theorem at_pre {more : List Int} (hl : more.length ≤ 1048576) {i n : Int} (h0 : 0 ≤ i) (hi : i ≤ 1000) : Sp.f60_pre more i n = true := by
  unfold Sp.f60_pre
  by_cases c : n ≤ 1
  · rw [decide_eq_true c]; rfl
  rw [decide_eq_false c, cond_false, show (n == (0 : Int)) = false from beq_false_of_ne (by omega)]
  by_cases c2 : more.length = 0
  · rw [c2]; rfl
  rw [show ((more.length : Int) == (0 : Int)) = false from beq_false_of_ne (by omega), cond_false, wrap64 (by omega) (by omega), Int.tmod_eq_emod_of_nonneg h0, Int.tmod_eq_emod_of_nonneg (show 0 ≤ i + 1 by omega)]
  have a1 := Int.emod_nonneg i (show (more.length : Int) ≠ 0 by omega)
  have a2 := Int.emod_lt_of_pos i (show 0 < (more.length : Int) by omega)
  have b1 := Int.emod_nonneg (i + 1) (show (more.length : Int) ≠ 0 by omega)
  have b2 := Int.emod_lt_of_pos (i + 1) (show 0 < (more.length : Int) by omega)
  rw [decide_eq_true a1, decide_eq_true a2, decide_eq_true b1, decide_eq_true b2]
  rfl
theorem at_in {more : List Int} (hb : Sp.isBytes more = true) (hl : more.length ≤ 1048576) {i n : Int} (h0 : 0 ≤ i) (hi : i ≤ 1000) (hn : 2 ≤ n) : 0 ≤ (Sp.f60 more i n).1 ∧ (Sp.f60 more i n).1 < n := by
  have key : ∀ v : Int, 0 ≤ v → 0 ≤ v.tmod n ∧ v.tmod n < n := fun v hv => by
    rw [Int.tmod_eq_emod_of_nonneg hv]
    exact ⟨Int.emod_nonneg _ (by omega), Int.emod_lt_of_pos _ (by omega)⟩
  have byt : ∀ j : Nat, 0 ≤ more.getD j 0 ∧ more.getD j 0 < 256 := fun j => by
    by_cases h : j < more.length
    · rw [List.getD, List.getElem?_eq_getElem h, Option.getD_some]
      exact isBytes_mem hb (List.getElem_mem h)
    · rw [List.getD, List.getElem?_eq_none (by omega)]
      exact ⟨Int.le_refl _, show (0 : Int) < 256 by omega⟩
  unfold Sp.f60
  rw [decide_eq_false (show ¬ n ≤ 1 by omega), cond_false]
  by_cases c2 : more.length = 0
  · rw [c2]
    show 0 ≤ (IntKind.i64.wrap (i * 7)).tmod n ∧ (IntKind.i64.wrap (i * 7)).tmod n < n
    rw [wrap64 (by omega) (by omega)]
    exact key _ (by omega)
  rw [show ((more.length : Int) == (0 : Int)) = false from beq_false_of_ne (by omega), cond_false]
  obtain ⟨a1, a2⟩ := byt (i.tmod (more.length : Int)).toNat
  obtain ⟨b1, b2⟩ := byt ((IntKind.i64.wrap (i + 1)).tmod (more.length : Int)).toNat
  have d : i.tdiv (more.length : Int) = i / (more.length : Int) := Int.tdiv_eq_ediv_of_nonneg h0
  have d1 : 0 ≤ i / (more.length : Int) := Int.ediv_nonneg h0 (by omega)
  have d2 : i / (more.length : Int) ≤ i := Int.ediv_le_self _ h0
  dsimp only
  rw [d]
  generalize more.getD (i.tmod (more.length : Int)).toNat 0 = u at a1 a2 ⊢
  generalize more.getD ((IntKind.i64.wrap (i + 1)).tmod (more.length : Int)).toNat 0 = v at b1 b2 ⊢
  generalize i / (more.length : Int) = q at d1 d2 ⊢
  rw [wrap64 (n := u) (by omega) (by omega), wrap64 (n := u * 31) (by omega) (by omega), wrap64 (n := v) (by omega) (by omega), wrap64 (n := q) (by omega) (by omega), wrap64 (n := u * 31 + v) (by omega) (by omega), wrap64 (n := u * 31 + v + q) (by omega) (by omega)]
  exact key _ (by omega)
structure Turn (S : List Int) (p k : Nat) (T : List Int) : Prop where
  byt : Sp.isBytes T = true
  len : T.length = S.length
  ex : ∃ B, Sp.lit T = Sp.lit S ^^^ 2 ^ p * B ∧ B < 2 ^ k ∧ (0 < k → B ≠ 0)
theorem turn_skip {S T : List Int} {p k : Nat} (h : Turn S p k T) (hk : 0 < k) : Turn S p (k + 1) T := by
  obtain ⟨B, e, h1, h2⟩ := h.ex
  exact ⟨h.byt, h.len, B, e, by rw [Nat.pow_succ]; omega, fun _ => h2 hk⟩
theorem turn_flip {S T : List Int} {p k : Nat} (h : Turn S p k T) (hp : p + k < 8 * S.length) : ∃ hi : (p + k) / 8 < T.length, Turn S p (k + 1) (T.set ((p + k) / 8) ((T[(p + k) / 8].toNat ^^^ 2 ^ ((p + k) % 8) : Nat) : Int)) := by
  have hi : (p + k) / 8 < T.length := by have := h.len; omega
  obtain ⟨B, e, h1, h2⟩ := h.ex
  obtain ⟨b1, b2⟩ := isBytes_mem h.byt (List.getElem_mem hi)
  have hx : T[(p + k) / 8].toNat ^^^ 2 ^ ((p + k) % 8) < 2 ^ 8 := Nat.xor_lt_two_pow (by omega) (Nat.pow_lt_pow_right (by omega) (by omega))
  refine ⟨hi, ⟨isBytes_of fun x hx2 => ?_, by rw [List.length_set]; exact h.len, B + 2 ^ k, ?_, by rw [Nat.pow_succ]; omega, fun _ => by have := Nat.two_pow_pos k; omega⟩⟩
  · rcases List.mem_or_eq_of_mem_set hx2 with q | rfl
    · exact isBytes_mem h.byt q
    · omega
  · rw [lit_set T _ _ hi h.byt (by omega), e, show 8 * ((p + k) / 8) + (p + k) % 8 = p + k by omega, Nat.xor_assoc, pow_xor h1]
theorem turned_shut {b T : List Int} (hb : Sp.isBytes b = true) {p : Nat} (hp : p ≤ 8 * (Sp.f71 b).1.length) (h : Turn (Sp.f71 b).1 p 32 T) : (Sp.f32 T).1.2 ≠ 0 := fun q => by
  obtain ⟨h1, _⟩ := open_crc h.byt q
  obtain ⟨B, e, h2, h3⟩ := h.ex
  refine burst_ne h.byt (seal_isB hb) h.len (h3 (by omega)) h2 (by rw [h.len]; exact hp) ?_ 4294967295 (h1.trans (seal_crc hb).symm)
  rw [e, Nat.xor_comm, ← Nat.xor_assoc, Nat.xor_self, Nat.zero_xor]
end Go.Proofs.GR.T

namespace Go.Proofs.GR.T
open Go Go.Proofs Go.Proofs.GR
theorem f32_pre_mk {xs : List Int} (hb : Sp.isBytes xs = true) : Sp.f32_pre xs = true := by
  unfold Sp.f32_pre
  by_cases c : (xs.length : Int) > 65536
  · rw [decide_eq_true c]; rfl
  · rw [decide_eq_false c, cond_false]; exact f76_pre hb (by omega)
theorem f12_end (n m : Nat) (more : List Int) {b T : List Int} (hb : Sp.isBytes b = true) {p : Nat} (hp : p ≤ 8 * (Sp.f71 b).1.length) (h : Turn (Sp.f71 b).1 p 32 T) : f12_L0 n (m + 1) more 3 p 32 T = some (rBo true) := by
  have hs := turned_shut hb hp h
  rw [f12_L0_step, decide_eq_false (show ¬ (32 : Int) < 32 by omega), cond_false, f33_pre h.byt, chkT, f32_pre_mk h.byt, chkT, f33_eq h.byt, show ((3 : Int) == (3 : Int)) = true from rfl, cond_true, show ((Sp.f32 T).1.2 == (Sp.f32 T).1.2) = true from beq_self_eq_true _, cond_true, show ((Sp.f32 T).1.2 != (0 : Int)) = true from bne_iff_ne.2 hs]
theorem f12_loop (n : Nat) {more b : List Int} (hl : more.length ≤ 1048576) (hb : Sp.isBytes b = true) {p : Nat} (hp : p + 31 < 8 * (Sp.f71 b).1.length) (h7 : (Sp.f71 b).1.length ≤ 65536) : ∀ (d k m : Nat) (T : List Int), k + d = 32 → d < m → Turn (Sp.f71 b).1 p k T → f12_L0 n m more 3 p k T = some (rBo true) := by
  intro d
  induction d with
  | zero =>
    intro k m T hk hm h
    obtain ⟨m, rfl⟩ := succ_of hm
    have e : k = 32 := by omega
    subst e
    exact f12_end n m more hb (by omega) h
  | succ d ih =>
    intro k m T hk hm h
    obtain ⟨m, rfl⟩ := succ_of hm
    obtain ⟨hi, hf⟩ := turn_flip h (show p + k < 8 * (Sp.f71 b).1.length by omega)
    have e1 : IntKind.i64.wrap ((p : Int) + (k : Int)) = ((p + k : Nat) : Int) := (wrap64 (by omega) (by omega)).trans (by omega)
    have e2 : IntKind.i64.wrap ((((p + k : Nat) : Int)).tdiv 8) = (((p + k) / 8 : Nat) : Int) := by
      rw [Int.tdiv_eq_ediv_of_nonneg (by omega), wrap64 (by omega) (by omega)]; omega
    have e3 : IntKind.u64.wrap ((((p + k : Nat) : Int)).tmod 8) = (((p + k) % 8 : Nat) : Int) := by
      rw [Int.tmod_eq_emod_of_nonneg (by omega), wrapu64 (by omega) (by omega)]; omega
    obtain ⟨b1, b2⟩ := isBytes_mem h.byt (List.getElem_mem hi)
    have i1 := ih (k + 1) m _ (by omega) (by omega) hf
    rw [f12_L0_step, decide_eq_true (show (k : Int) < 32 by omega), cond_true, e1, e2, e3, guard2 hi, chkT, chkT, decide_eq_true (show (0 : Int) ≤ (((p + k) % 8 : Nat) : Int) by omega), chkT, getD_nat T _ _ hi, Int.toNat_natCast, Int.toNat_natCast, flip8 b1 b2 (show (p + k) % 8 < 8 by omega), next64 (n := 32) (by omega) (by omega), i1]
    by_cases hk0 : k = 0
    · subst hk0; rfl
    · have w : IntKind.i64.wrap ((k : Int) + 2) = (k : Int) + 2 := wrap64 (by omega) (by omega)
      rw [show ((k : Int) == (0 : Int)) = false from beq_false_of_ne (by omega), cond_false, w, at_pre hl (show (0 : Int) ≤ (k : Int) + 2 by omega) (show (k : Int) + 2 ≤ 1000 by omega), chkT]
      cases (Sp.f60 more ((k : Int) + 2) 2).1 == (1 : Int) with
      | true => rfl
      | false => exact ih (k + 1) m T (by omega) (by omega) (turn_skip h (by omega))
theorem f21_is {b : List Int} (hl : b.length ≤ 65526) : Sp.f21 b = (((Sp.f71 b).1, 0), ()) := by
  unfold Sp.f21
  rw [decide_eq_false (show ¬ (b.length : Int) > 65526 by omega)]
  rfl
theorem seal_pres {b : List Int} (hb : Sp.isBytes b = true) (hl : b.length ≤ 65526) : Sp.f23_pre b = true ∧ Sp.f21_pre b = true := by
  unfold Sp.f23_pre Sp.f21_pre
  rw [decide_eq_false (show ¬ (b.length : Int) > 65526 by omega), cond_false, cond_false, f71_pre hb (by omega), f72_pre hb (by omega)]
  exact ⟨rfl, rfl⟩
def Sp.lawP (a c : List Int) : Bool := yes2 (Sp.isBytes a) (Sp.isBytes c)
noncomputable def e12 : Ent := { f := n12, ins := [Sh.one (cL tB), Sh.one (cL tB)], outs := [Sh.one cB], upd := [], pre := fun a => Sp.lawP a.1 a.2, spec := fun _ => true, wrt := fun _ => () }
theorem e12_core (code more : List Int) (h : Sp.lawP code more = true) : ∃ n, abody Γ (orc [e57, e59, e58, e23, e21, e60, e33, e32]) n n12 (e12.args (code, more)) = some (rBo true) := by
  obtain ⟨h1, h3⟩ := yes2_true h
  refine ⟨40, (f12_raw 40 code more).trans ?_⟩
  by_cases c1 : (code.length : Int) > 1048576
  · rw [decide_eq_true c1]; rfl
  by_cases c2 : (more.length : Int) > 1048576
  · rw [decide_eq_false c1, decide_eq_true c2]; rfl
  obtain ⟨p1, p2, p3, hb, hl⟩ := drawn_is h1 (show code.length ≤ 1048576 by omega) h3 (show more.length ≤ 1048576 by omega)
  rw [decide_eq_false c1, decide_eq_false c2, cond_false, cond_false, p1, chkT, p2, chkT, p3, chkT]
  generalize (Sp.f58 (Sp.f57 code).1 (Sp.f59 more (Sp.f57 code).1).1).1.1 = b at hb hl ⊢
  obtain ⟨q1, q2⟩ := seal_pres hb hl
  have hS := f71_len b
  have hB := seal_isB hb
  have hlm : more.length ≤ 1048576 := by omega
  rw [q1, chkT, q2, chkT, f23_eq hb, f21_is hl]
  dsimp only
  rw [show ((0 : Int) != (0 : Int)) = false from rfl, cond_false, show ((bytesStr (Sp.f71 b).1).toList == (bytesStr (Sp.f71 b).1).toList) = true from beq_self_eq_true _, Bool.not_true, cond_false, at_pre hlm (Int.le_refl 0) (by omega), chkT]
  obtain ⟨a1, a2⟩ := at_in h3 hlm (Int.le_refl 0) (show (0 : Int) ≤ 1000 by omega) (show 2 ≤ ((Sp.f71 b).1.length : Int) by omega)
  have w1 : IntKind.i64.wrap (8 * ((Sp.f71 b).1.length : Int)) = 8 * ((Sp.f71 b).1.length : Int) := wrap64 (by omega) (by omega)
  have w2 : IntKind.i64.wrap (8 * ((Sp.f71 b).1.length : Int) - 31) = 8 * ((Sp.f71 b).1.length : Int) - 31 := wrap64 (by omega) (by omega)
  rw [w1, w2]
  obtain ⟨b1, b2⟩ := at_in h3 hlm (show (0 : Int) ≤ 1 by omega) (show (1 : Int) ≤ 1000 by omega) (show 2 ≤ 8 * ((Sp.f71 b).1.length : Int) - 31 by omega)
  rw [at_pre hlm (show (0 : Int) ≤ 1 by omega) (by omega), chkT]
  generalize (Sp.f60 more 0 ((Sp.f71 b).1.length : Int)).1 = k0 at a1 a2 ⊢
  generalize (Sp.f60 more 1 (8 * ((Sp.f71 b).1.length : Int) - 31)).1 = p0 at b1 b2 ⊢
  have e1 : k0 = ((k0.toNat : Nat) : Int) := by omega
  have e2 : p0 = ((p0.toNat : Nat) : Int) := by omega
  rw [decide_eq_true a1, decide_eq_true (show k0 ≤ ((Sp.f71 b).1.length : Int) by omega), Bool.and_self, chkT]
  have e3 : List.take (k0.toNat - 0) (List.drop 0 (Sp.f71 b).1) = (Sp.f71 b).1.take k0.toNat := rfl
  rw [e3, f33_pre (isBytes_take hB _), chkT, f33_eq (isBytes_take hB _), cut_form hb hl (show k0.toNat < b.length + 10 by omega), decide_eq_true (show (0 + (Sp.f71 b).1.length) * 1 ≤ 140737488355328 by omega), chkT, List.nil_append, e2]
  exact f12_loop 40 hlm hb (show p0.toNat + 31 < 8 * (Sp.f71 b).1.length by omega) (by omega) 32 0 40 _ rfl (by omega) ⟨hB, rfl, 0, by rw [Nat.mul_zero, Nat.xor_zero], Nat.one_pos, fun q => absurd q (Nat.lt_irrefl 0)⟩
theorem e12_ok : Valid PP Γ e12 := valid_of ok (vcons e57_ok (vcons e59_ok (vcons e58_ok (vcons e23_ok (vcons e21_ok (vcons e60_ok (vcons e33_ok (vcons e32_ok vnil)))))))) fun a ha => e12_core a.1 a.2 ha
end Go.Proofs.GR.T

