/-
  No statement is proved here: what the functions of the law answer, told as plain functions, and that the law's answer is always true.
  No condition.
-/
import Derived.Test.YtpljgmackfjkdaaTBurstf
import Derived.Lib.Join
import Derived.Lib.ItoaNum
import Derived.Shelf.Strings.OnBuilder
import Derived.Shelf.Strconv.Itoa3
set_option maxRecDepth 3000000
set_option maxHeartbeats 100000000
namespace Go.Proofs.GR.T
open Go Go.Proofs Go.Proofs.GR
theorem key8_in (n : Int) : ∀ x ∈ Sp.key8 n, 0 ≤ x ∧ x < 256 := fun x hx => by
  unfold Sp.key8 at hx
  simp only [List.mem_cons, List.not_mem_nil, or_false] at hx
  rcases hx with rfl | rfl | rfl | rfl | rfl | rfl | rfl | rfl <;> exact wrap8_byte _
def Sp.lastR (pre : List VRw) : VRw := pre.getD (pre.length - 1) []
theorem lastR_take {xs : List VRw} {k : Nat} (h : k < xs.length) (h0 : 0 < k) : Sp.lastR (xs.take k) = xs[k - 1] := by
  unfold Sp.lastR
  have hk : (xs.take k).length = k := by rw [List.length_take]; omega
  rw [hk, List.getD, List.getElem?_take_of_lt (by omega), List.getElem?_eq_getElem (by omega)]
  rfl
def Sp.rowG (cs : List VCo) (key : Int) (pre : List VRw) (row : VRw) : Bool := bif !Sp.rowOK row then false else bif (Sp.rowT cs row).1 != 0 then false else bif decide (0 < pre.length) then !decide (Sp.rows ((Sp.lastR pre).take key.toNat) (row.take key.toNat) ≥ 0) else true
theorem rowG_is {cs : List VCo} {key : Int} {pre : List VRw} {row : VRw} (h : Sp.rowG cs key pre row = true) : Sp.rowOK row = true ∧ row.length = cs.length := by
  unfold Sp.rowG at h
  cases h1 : Sp.rowOK row with
  | false => rw [h1] at h; cases h
  | true =>
    rw [h1, Bool.not_true, cond_false] at h
    refine ⟨rfl, ?_⟩
    cases h2 : (Sp.rowT cs row).1 != 0 with
    | true => rw [h2] at h; cases h
    | false =>
      unfold Sp.rowT at h2
      by_cases he : row.length = cs.length
      · exact he
      · rw [show ((row.length : Int) != (cs.length : Int)) = true by simp; omega] at h2
        cases h2
theorem allP_mem {α : Type} {p : List α → α → Bool} : ∀ (xs pre : List α), Sp.allP p pre xs = true → ∀ x ∈ xs, ∃ q, p q x = true
  | [], _, _, x, hx => by cases hx
  | y :: r, pre, h, x, hx => by
    rw [Sp.allP] at h
    cases hy : p pre y with
    | false => rw [hy] at h; cases h
    | true =>
      rw [hy, Bool.not_true, cond_false] at h
      rcases List.mem_cons.1 hx with rfl | hx
      · exact ⟨pre, hy⟩
      · exact allP_mem r _ h x hx
def Sp.nN (v : V3) : Bool := yes2 (decide (-9223372036854775808 ≤ v.2.1)) (decide (v.2.1 < 9223372036854775808))
theorem vN_mk {row : VRw} (h : Sp.rowOK row = true) (hn : Sp.allW Sp.nN row = true) : ∀ v ∈ row, Sp.vN v = true := fun v hv => by
  have h1 := (rowOK_iff.1 h).2 v hv
  have h2 := allW_mem.1 hn v hv
  exact yes2Q h1 h2
theorem f79_is {i lo hi : Int} (h : (Sp.f79 i lo hi).1 = true) : lo ≤ i ∧ i ≤ hi := by
  have h : (bif decide (i ≥ lo) then (decide (i ≤ hi), ()) else (false, ())).1 = true := h
  by_cases h0 : i ≥ lo
  · rw [decide_eq_true h0, cond_true] at h
    exact ⟨h0, of_decide_eq_true h⟩
  · rw [decide_eq_false h0, cond_false] at h; cases h
theorem cat_each {ts : List VTb} (h : Sp.catOK ts = true) : ts.length ≤ 6 ∧ ∀ t ∈ ts, Sp.okT t = true := by
  unfold Sp.catOK at h
  by_cases h4 : (ts.length : Int) > 4096
  · rw [decide_eq_true h4] at h; cases h
  by_cases h6 : (ts.length : Int) > 6
  · rw [decide_eq_false h4, decide_eq_true h6] at h; cases h
  rw [decide_eq_false h4, decide_eq_false h6, cond_false, cond_false] at h
  refine ⟨by omega, fun t ht => ?_⟩
  obtain ⟨q, hq⟩ := allP_mem _ _ h t ht
  unfold Sp.catP at hq
  cases ho : Sp.okT t with
  | true => rfl
  | false => rw [ho] at hq; cases hq
theorem ixP_in {n : Nat} {p : List Int} {c : Int} (hn : n ≤ 8) (h : Sp.ixP n p c = true) : Sp.inR n c = true := by
  unfold Sp.ixP at h
  cases q : (Sp.f79 c (0 : Int) (IntKind.i64.wrap ((n : Int) - (1 : Int)))).1 with
  | false => rw [q] at h; cases h
  | true =>
    have b := f79_is q
    rw [wrap64 (by omega) (by omega)] at b
    unfold Sp.inR
    rw [decide_eq_true b.1, decide_eq_true (show c < (n : Int) by omega)]; rfl
theorem okT_is {t : VTb} (h : Sp.okT t = true) : t.2.1.length ≤ 8 ∧ Sp.inK t.2.1.length t.2.2.1 = true ∧ ∀ x ∈ t.2.2.2, x.2.length ≤ 8 ∧ ∀ c ∈ x.2, Sp.inR t.2.1.length c = true := by
  unfold Sp.okT Sp.tbOK at h
  cases q1 : Sp.isFreeS t.1 with
  | false => rw [q1] at h; cases h
  | true =>
  cases q2 : (Sp.f79 (t.2.1.length : Int) 1 8).1 with
  | false => rw [q1, q2] at h; cases h
  | true =>
  cases q3 : (Sp.f79 t.2.2.1 1 (t.2.1.length : Int)).1 with
  | false => rw [q1, q2, q3] at h; cases h
  | true =>
  cases q4 : decide ((t.2.2.2.length : Int) > 4) with
  | true => rw [q1, q2, q3, q4] at h; cases h
  | false =>
  rw [q1, q2, q3, q4] at h
  cases q5 : Sp.allP (Sp.coP t.2.2.1) [] t.2.1 with
  | false => rw [q5] at h; cases h
  | true =>
  rw [q5] at h
  have h : Sp.allP (Sp.inP t.2.1.length) [] t.2.2.2 = true := h
  have b2 := f79_is q2
  have b3 := f79_is q3
  refine ⟨by omega, ?_, fun x hx => ?_⟩
  · unfold Sp.inK
    rw [decide_eq_true (show (0 : Int) ≤ t.2.2.1 by omega), decide_eq_true b3.2]; rfl
  · obtain ⟨q, hq⟩ := allP_mem _ _ h x hx
    unfold Sp.inP at hq
    cases hi : Sp.ixOK t.2.1.length x.1 x.2 with
    | false => rw [hi] at hq; cases hq
    | true =>
      unfold Sp.ixOK at hi
      cases r1 : Sp.isFreeS x.1 with
      | false => rw [r1] at hi; cases hi
      | true =>
      cases r2 : ((x.2.length : Int) == 0) with
      | true => rw [r1, r2] at hi; cases hi
      | false =>
      by_cases r3 : (x.2.length : Int) > (t.2.1.length : Int)
      · rw [r1, r2, decide_eq_true r3] at hi; cases hi
      rw [r1, r2, decide_eq_false r3] at hi
      have hi : Sp.allP (Sp.ixP t.2.1.length) [] x.2 = true := hi
      refine ⟨by omega, fun c hc => ?_⟩
      obtain ⟨p, hp⟩ := allP_mem _ _ hi c hc
      exact ixP_in (by omega) hp
def Sp.datG (t : VTb) (d : VDt) : Bool := bif !(d.1.toList == t.1.toList) then false else bif decide ((d.2.length : Int) > 400) then false else Sp.allP (Sp.rowG t.2.1 t.2.2.1) [] d.2
def Sp.all2 {α β : Type} (p : α → β → Bool) : List α → List β → Bool
  | a :: r, b :: s => bif p a b then Sp.all2 p r s else false
  | [], _ => true
  | _ :: _, [] => true
def Sp.dataOK (ts : List VTb) (ds : List VDt) : Bool := bif decide ((ts.length : Int) > 4096) then false else bif decide ((ds.length : Int) > 4096) then false else bif !Sp.catOK ts then false else bif (ds.length : Int) != (ts.length : Int) then false else Sp.all2 Sp.datG ts ds
noncomputable def f96_L0 (n m0 : Nat) (y0 : List (ByteArray × List (ByteArray × Int × Bool) × Int × List (ByteArray × List Int))) (y1 : List (ByteArray × List (List (Int × Int × ByteArray)))) (y2 : Int) : Option Res := loopAt Γ (orc [e140, e92, e141, e88]) n (46 : Nat) (0 : Nat) [] [Pth.r, Pth.r, Pth.r, Pth.l, Pth.r, Pth.b] m0 (St.mk (ZS (Ty.str.pair ((Ty.str.pair (Zi.pair Ty.bool)).slice.pair (Zi.pair (Ty.str.pair Zi.slice).slice))).slice y0 :: ZS (Ty.str.pair (Zi.pair (Zi.pair Ty.str)).slice.slice).slice y1 :: ZN 3 (ZS Zi y2 :: ZN 108 [])) [])
noncomputable def f96_L1 (n m0 m1 : Nat) (y0 : List (ByteArray × List (ByteArray × Int × Bool) × Int × List (ByteArray × List Int))) (y1 : List (ByteArray × List (List (Int × Int × ByteArray)))) (y2 y3 : Int) : Option Res := loopAt Γ (orc [e140, e92, e141, e88]) n (46 : Nat) (0 : Nat) [] [Pth.r, Pth.r, Pth.r, Pth.l, Pth.r, Pth.b, Pth.p m0, Pth.r, Pth.l, Pth.b, Pth.r, Pth.r, Pth.b] m1 (St.mk (ZS (Ty.str.pair ((Ty.str.pair (Zi.pair Ty.bool)).slice.pair (Zi.pair (Ty.str.pair Zi.slice).slice))).slice y0 :: ZS (Ty.str.pair (Zi.pair (Zi.pair Ty.str)).slice.slice).slice y1 :: ZN 3 (ZS Zi y2 :: ZS Zi y3 :: ZN 107 [])) [])
theorem f96_L0_step (n m0 : Nat) (y0 : List (ByteArray × List (ByteArray × Int × Bool) × Int × List (ByteArray × List Int))) (y1 : List (ByteArray × List (List (Int × Int × ByteArray)))) (y2 : Int) : f96_L0 n (m0 + 1) y0 y1 y2 = bif decide (y2 < (↑y1.length : Int)) then chk (decide ((0 : Int) ≤ y2) && decide (y2 < (↑y1.length : Int))) (chk (decide ((0 : Int) ≤ y2) && decide (y2 < (↑y0.length : Int))) (bif !(y1.getD y2.toNat (ByteArray.mk #[], [])).1.toList == (y0.getD y2.toNat (ByteArray.mk #[], [], (0 : Int), [])).1.toList then Zf else chk (decide ((0 : Int) ≤ y2) && decide (y2 < (↑y1.length : Int))) (bif decide ((↑(y1.getD y2.toNat (ByteArray.mk #[], [])).2.length : Int) > (400 : Int)) then Zf else f96_L1 n m0 n y0 y1 y2 (0 : Int)))) else Zt := by kernel_rfl
theorem f96_L1_step (n m0 m1 : Nat) (y0 : List (ByteArray × List (ByteArray × Int × Bool) × Int × List (ByteArray × List Int))) (y1 : List (ByteArray × List (List (Int × Int × ByteArray)))) (y2 y3 : Int) : f96_L1 n m0 (m1 + 1) y0 y1 y2 y3 = chk (decide ((0 : Int) ≤ y2) && decide (y2 < (↑y1.length : Int))) (bif decide (y3 < (↑(y1.getD y2.toNat (ByteArray.mk #[], [])).2.length : Int)) then chk (decide ((0 : Int) ≤ y2) && decide (y2 < (↑y1.length : Int))) (chk (decide ((0 : Int) ≤ y3) && decide (y3 < (↑(y1.getD y2.toNat (ByteArray.mk #[], [])).2.length : Int))) (bif !Sp.rowOK ((y1.getD y2.toNat (ByteArray.mk #[], [])).2.getD y3.toNat []) then Zf else chk (decide ((0 : Int) ≤ y2) && decide (y2 < (↑y0.length : Int))) (bif (Sp.rowT (y0.getD y2.toNat (ByteArray.mk #[], [], (0 : Int), [])).2.1 ((y1.getD y2.toNat (ByteArray.mk #[], [])).2.getD y3.toNat [])).1 != (0 : Int) then Zf else bif decide (y3 > (0 : Int)) then chk (decide ((0 : Int) ≤ y2) && decide (y2 < (↑y1.length : Int))) (chk (decide ((0 : Int) ≤ IntKind.i64.wrap (y3 - (1 : Int))) && decide (IntKind.i64.wrap (y3 - (1 : Int)) < (↑(y1.getD y2.toNat (ByteArray.mk #[], [])).2.length : Int))) (chk (decide ((0 : Int) ≤ y2) && decide (y2 < (↑y0.length : Int))) (chk (decide ((0 : Int) ≤ (y0.getD y2.toNat (ByteArray.mk #[], [], (0 : Int), [])).2.2.1) && decide ((y0.getD y2.toNat (ByteArray.mk #[], [], (0 : Int), [])).2.2.1 ≤ (↑((y1.getD y2.toNat (ByteArray.mk #[], [])).2.getD (IntKind.i64.wrap (y3 - (1 : Int))).toNat []).length : Int))) (chk (decide ((0 : Int) ≤ y2) && decide (y2 < (↑y0.length : Int))) (chk (decide ((0 : Int) ≤ (y0.getD y2.toNat (ByteArray.mk #[], [], (0 : Int), [])).2.2.1) && decide ((y0.getD y2.toNat (ByteArray.mk #[], [], (0 : Int), [])).2.2.1 ≤ (↑((y1.getD y2.toNat (ByteArray.mk #[], [])).2.getD y3.toNat []).length : Int))) (bif decide (Sp.rows (List.take ((y0.getD y2.toNat (ByteArray.mk #[], [], (0 : Int), [])).2.2.1.toNat - (0 : Nat)) (List.drop (0 : Nat) ((y1.getD y2.toNat (ByteArray.mk #[], [])).2.getD (IntKind.i64.wrap (y3 - (1 : Int))).toNat []))) (List.take ((y0.getD y2.toNat (ByteArray.mk #[], [], (0 : Int), [])).2.2.1.toNat - (0 : Nat)) (List.drop (0 : Nat) ((y1.getD y2.toNat (ByteArray.mk #[], [])).2.getD y3.toNat []))) ≥ (0 : Int)) then Zf else f96_L1 n m0 m1 y0 y1 y2 (IntKind.i64.wrap (y3 + (1 : Int))))))))) else f96_L1 n m0 m1 y0 y1 y2 (IntKind.i64.wrap (y3 + (1 : Int)))))) else f96_L0 n m0 y0 y1 (IntKind.i64.wrap (y2 + (1 : Int)))) := by kernel_rfl
theorem f96_raw (n : Nat) (x0 : List (ByteArray × List (ByteArray × Int × Bool) × Int × List (ByteArray × List Int))) (x1 : List (ByteArray × List (List (Int × Int × ByteArray)))) : abody Γ (orc [e140, e92, e141, e88]) n 46 [ZX (Ty.str.pair ((Ty.str.pair (Zi.pair Ty.bool)).slice.pair (Zi.pair (Ty.str.pair Zi.slice).slice))).slice x0, ZX (Ty.str.pair (Zi.pair (Zi.pair Ty.str)).slice.slice).slice x1] = bif decide ((↑x0.length : Int) > (4096 : Int)) then Zf else bif decide ((↑x1.length : Int) > (4096 : Int)) then Zf else bif !Sp.catOK x0 then Zf else bif (↑x1.length : Int) != (↑x0.length : Int) then Zf else f96_L0 n n x0 x1 (0 : Int) := by kernel_rfl

theorem f96_in (n m : Nat) (ts : List VTb) (ds : List VDt) (k : Nat) (h : k < ds.length) (h2 : k < ts.length) (hk : Sp.inK ts[k].2.1.length ts[k].2.2.1 = true) (hr : ds[k].2.length ≤ 400) (hn : 401 ≤ n) (hl : ds.length ≤ 4096) :
    f96_L1 n m n ts ds k 0 = bif Sp.allP (Sp.rowG ts[k].2.1 ts[k].2.2.1) [] ds[k].2 then f96_L0 n m ts ds ((k + 1 : Nat) : Int) else some (rBo false) := by
  refine allP_end (p := Sp.rowG ts[k].2.1 ts[k].2.2.1) (z := f96_L0 n m ts ds ((k + 1 : Nat) : Int)) (F := some (rBo false)) ds[k].2 (fun m1 i => f96_L1 n m m1 ts ds k i) (fun m1 i hi => ?_) (fun m1 i hi hp => ?_) n (by omega)
  · show f96_L1 _ _ _ _ _ _ _ = _
    rw [f96_L1_step, guard2 h, chkT, getD_nat ds k _ h, nat_ge hi, cond_false, next64 h (by omega)]
  · show f96_L1 _ _ _ _ _ _ _ = _
    have hkl : (ds[k].2.take i).length = i := by rw [List.length_take]; omega
    rw [f96_L1_step, guard2 h, guard2 h2, chkT, chkT, chkT, chkT, chkT, chkT, getD_nat ds k _ h, getD_nat ts k _ h2, nat_lt hi, cond_true, guard0, chkT, getD_nat ds[k].2 i _ hi, next64 hi (by omega)]
    generalize hR : ds[k].2 = R at hi hp hkl hr ⊢
    generalize ts[k] = t at hk hp ⊢
    unfold Sp.rowG
    rw [hkl]
    cases h1 : Sp.rowOK R[i] with
    | false => rfl
    | true =>
    rw [Bool.not_true, cond_false, cond_false]
    cases h3 : (Sp.rowT t.2.1 R[i]).1 != 0 with
    | true => rfl
    | false =>
    rw [cond_false, cond_false]
    by_cases h0 : 0 < i
    · have g : Sp.rowG t.2.1 t.2.2.1 [] R[i] = true := by unfold Sp.rowG; rw [h1, h3]; rfl
      have g1 := (rowG_is g).2
      have hm : R[i - 1] ∈ R.take i := List.mem_take_iff_getElem.2 ⟨i - 1, by omega, rfl⟩
      obtain ⟨q, g2⟩ := allP_mem _ _ hp _ hm
      obtain ⟨g3, g4⟩ := rowG_is g2
      have e : IntKind.i64.wrap ((i : Int) - 1) = ((i - 1 : Nat) : Int) := (wrap64 (by omega) (by omega)).trans (by omega)
      have c1 : (decide ((0 : Int) ≤ t.2.2.1) && decide (t.2.2.1 ≤ (R[i - 1].length : Int))) = true := by rw [g4]; exact hk
      have c2 : (decide ((0 : Int) ≤ t.2.2.1) && decide (t.2.2.1 ≤ (R[i].length : Int))) = true := by rw [g1]; exact hk
      rw [decide_eq_true (show (i : Int) > 0 by omega), decide_eq_true h0, cond_true, cond_true, e, guard2 (show i - 1 < R.length by omega), chkT, getD_nat R (i - 1) _ (by omega), c1, chkT, c2, chkT, lastR_take hi h0, Bool.not_not, take0, take0]
    · rw [decide_eq_false (show ¬ (i : Int) > 0 by omega), decide_eq_false h0]
      rfl
theorem f96_loop (n : Nat) (hn : 401 ≤ n) (ts : List VTb) (ds : List VDt) (he : ds.length = ts.length) (hl : ds.length ≤ 4096) (hc : ∀ t ∈ ts, Sp.inK t.2.1.length t.2.2.1 = true) : ∀ (d k m : Nat), k + d = ds.length → d < m → f96_L0 n m ts ds k = some (rBo (Sp.all2 Sp.datG (ts.drop k) (ds.drop k))) := by
  intro d
  induction d with
  | zero =>
    intro k m hk hm
    obtain ⟨m, rfl⟩ := succ_of hm
    rw [f96_L0_step, nat_ge (show ds.length ≤ k by omega), cond_false, List.drop_of_length_le (show ts.length ≤ k by omega)]
    rfl
  | succ d ih =>
    intro k m hk hm
    obtain ⟨m, rfl⟩ := succ_of hm
    have h : k < ds.length := by omega
    have h2 : k < ts.length := by omega
    rw [f96_L0_step, nat_lt h, cond_true, guard0, chkT, guard2 h2, chkT, getD_nat ds k _ h, getD_nat ts k _ h2, List.drop_eq_getElem_cons h, List.drop_eq_getElem_cons h2, Sp.all2]
    unfold Sp.datG
    cases q1 : ds[k].1.toList == ts[k].1.toList with
    | false => rfl
    | true =>
    rw [Bool.not_true, cond_false, cond_false, chkT]
    by_cases q2 : (ds[k].2.length : Int) > 400
    · rw [decide_eq_true q2]; rfl
    rw [decide_eq_false q2, cond_false, cond_false, f96_in n m ts ds k h h2 (hc _ (List.getElem_mem h2)) (by omega) hn hl, ih (k + 1) m (by omega) (by omega)]
    cases Sp.allP (Sp.rowG ts[k].2.1 ts[k].2.2.1) [] ds[k].2 <;> rfl
noncomputable def e96 : Ent := { f := n96, ins := [Sh.one (cL tTb), Sh.one (cL tDt)], outs := [Sh.one cB], upd := [], pre := fun _ => true, spec := fun a => Sp.dataOK a.1 a.2, wrt := fun _ => () }
theorem e96_core (ts : List VTb) (ds : List VDt) : ∃ n, abody Γ (orc [e140, e92, e141, e88]) n n96 (e96.args (ts, ds)) = some (rBo (Sp.dataOK ts ds)) := by
  refine ⟨ds.length + 402, (f96_raw _ ts ds).trans ?_⟩
  unfold Sp.dataOK
  cases decide ((ts.length : Int) > 4096) with
  | true => rfl
  | false =>
  by_cases h4 : (ds.length : Int) > 4096
  · rw [decide_eq_true h4]; rfl
  rw [decide_eq_false h4, cond_false, cond_false, cond_false, cond_false]
  cases hc : Sp.catOK ts with
  | false => rfl
  | true =>
  by_cases he : ds.length = ts.length
  · rw [show ((ds.length : Int) != (ts.length : Int)) = false by simp [he], Bool.not_true, cond_false, cond_false, cond_false, cond_false]
    exact f96_loop _ (by omega) ts ds he (by omega) (fun t ht => (okT_is ((cat_each hc).2 t ht)).2.1) ds.length 0 _ (Nat.zero_add _) (by omega)
  · rw [show ((ds.length : Int) != (ts.length : Int)) = true by simp; omega, Bool.not_true, cond_false, cond_false, cond_true, cond_true]
theorem e96_ok : Valid PP Γ e96 := valid_of ok (vcons e140_ok (vcons e92_ok (vcons e141_ok (vcons e88_ok vnil)))) fun a _ => e96_core a.1 a.2
end Go.Proofs.GR.T

set_option maxRecDepth 3000000
set_option maxHeartbeats 100000000
namespace Go.Proofs.GR.T
open Go Go.Proofs Go.Proofs.GR
def Sp.datN (d : VDt) : Bool := Sp.allW (Sp.allW Sp.nN) d.2
end Go.Proofs.GR.T

namespace Go.Proofs.GR.T
open Go Go.Proofs Go.Proofs.GR
def Sp.catS (sep : ByteArray) : List ByteArray → ByteArray
  | [] => ByteArray.mk #[]
  | x :: r => sep ++ (x ++ Sp.catS sep r)
def Sp.joinB (sep : ByteArray) : List ByteArray → ByteArray
  | [] => ByteArray.mk #[]
  | x :: r => x ++ Sp.catS sep r
def Sp.sumB : List ByteArray → Nat
  | [] => 0
  | x :: r => x.size + Sp.sumB r
theorem ba_list {a b : ByteArray} (h : a.data.toList = b.data.toList) : a = b := by
  cases a
  cases b
  exact congrArg ByteArray.mk (Array.toList_inj.1 h)
theorem ba_app (a b : ByteArray) : (a ++ b).data.toList = a.data.toList ++ b.data.toList := by
  rw [ByteArray.data_append, Array.toList_append]
theorem catS_size (sep : ByteArray) : ∀ r : List ByteArray, (Sp.catS sep r).size = sep.size * r.length + Sp.sumB r
  | [] => rfl
  | x :: r => by
    rw [Sp.catS, ByteArray.size_append, ByteArray.size_append, catS_size sep r, Sp.sumB, List.length_cons, Nat.mul_add, Nat.mul_one]
    omega
theorem joinB_size (sep : ByteArray) (xs : List ByteArray) : (Sp.joinB sep xs).size ≤ sep.size * xs.length + Sp.sumB xs := by
  cases xs with
  | nil => exact Nat.zero_le _
  | cons x r =>
    rw [Sp.joinB, ByteArray.size_append, catS_size, Sp.sumB, List.length_cons, Nat.mul_add]
    omega
theorem catS_snoc (sep x : ByteArray) : ∀ r : List ByteArray, Sp.catS sep (r ++ [x]) = Sp.catS sep r ++ (sep ++ x)
  | [] => ba_list (by simp [Sp.catS])
  | y :: r => by
    rw [List.cons_append, Sp.catS, Sp.catS, catS_snoc sep x r]
    refine ba_list ?_
    simp only [ba_app, List.append_assoc]
theorem joinB_snoc (sep x : ByteArray) (r : List ByteArray) : Sp.joinB sep (r ++ [x]) = bif r.isEmpty then x else Sp.joinB sep r ++ (sep ++ x) := by
  cases r with
  | nil => exact ba_list (by simp [Sp.joinB, Sp.catS])
  | cons y r =>
    show Sp.joinB sep (y :: (r ++ [x])) = Sp.joinB sep (y :: r) ++ (sep ++ x)
    rw [Sp.joinB, Sp.joinB, catS_snoc]
    exact ba_list (by simp only [ba_app, List.append_assoc])
theorem ba_assoc (a b c : ByteArray) : a ++ b ++ c = a ++ (b ++ c) := ba_list (by simp only [ba_app, List.append_assoc])
theorem ba_nil (a : ByteArray) : a ++ ByteArray.mk #[] = a := ba_list (by rw [ba_app]; exact List.append_nil _)
theorem joinS_loop {α ρ : Type} (sep : ByteArray) (f : α → ByteArray) (xs : List α) (pre : ByteArray) (B : Nat) (hf : ∀ x ∈ xs, (f x).size ≤ B) (L : Nat → Int → ByteArray → Option ρ) (z : ByteArray → Option ρ)
    (h0 : ∀ m (k : Nat) acc, xs.length ≤ k → L (m + 1) k acc = z acc)
    (h1 : ∀ m (k : Nat) (h : k < xs.length) acc, acc.size ≤ pre.size + k * (sep.size + B) → L (m + 1) k acc = L m ((k + 1 : Nat) : Int) ((bif decide (0 < k) then acc ++ sep else acc) ++ f xs[k])) :
    ∀ (d k m : Nat), k + d = xs.length → d < m → (pre ++ Sp.joinB sep ((xs.take k).map f)).size ≤ pre.size + k * (sep.size + B) → L m k (pre ++ Sp.joinB sep ((xs.take k).map f)) = z (pre ++ Sp.joinB sep (xs.map f)) := by
  intro d
  induction d with
  | zero =>
    intro k m hk hm _
    obtain ⟨m, rfl⟩ : ∃ j, m = j + 1 := ⟨m - 1, by omega⟩
    rw [h0 m k _ (by omega), List.take_of_length_le (by omega)]
  | succ d ih =>
    intro k m hk hm hs
    obtain ⟨m, rfl⟩ : ∃ j, m = j + 1 := ⟨m - 1, by omega⟩
    have h : k < xs.length := by omega
    have hb := hf _ (List.getElem_mem h)
    have e : (bif decide (0 < k) then pre ++ Sp.joinB sep ((xs.take k).map f) ++ sep else pre ++ Sp.joinB sep ((xs.take k).map f)) ++ f xs[k] = pre ++ Sp.joinB sep ((xs.take (k + 1)).map f) := by
      rw [List.take_succ_eq_append_getElem h, List.map_append]
      show _ = pre ++ Sp.joinB sep ((xs.take k).map f ++ [f xs[k]])
      rw [joinB_snoc]
      by_cases hk0 : 0 < k
      · have e1 : ((xs.take k).map f).isEmpty = false := by
          rw [List.isEmpty_eq_false_iff]
          intro q
          have := congrArg List.length q
          rw [List.length_map, List.length_take, List.length_nil] at this
          omega
        rw [decide_eq_true hk0, e1, cond_true, cond_false, ba_assoc, ba_assoc]
      · have : k = 0 := by omega
        subst this
        rw [decide_eq_false hk0, cond_false]
        show pre ++ Sp.joinB sep [] ++ f xs[0] = pre ++ (bif true then f xs[0] else _)
        rw [cond_true]
        show pre ++ ByteArray.mk #[] ++ f xs[0] = _
        rw [ba_nil]
    rw [h1 m k h _ hs, e]
    refine ih (k + 1) m (by omega) (by omega) ?_
    rw [← e, ByteArray.size_append, Nat.succ_mul]
    by_cases hk0 : 0 < k
    · rw [decide_eq_true hk0, cond_true, ByteArray.size_append]; omega
    · rw [decide_eq_false hk0, cond_false]; omega
theorem joinS_end {α ρ : Type} (sep : ByteArray) (f : α → ByteArray) (xs : List α) (pre : ByteArray) (B : Nat) (hf : ∀ x ∈ xs, (f x).size ≤ B) (L : Nat → Int → ByteArray → Option ρ) (z : ByteArray → Option ρ)
    (h0 : ∀ m (k : Nat) acc, xs.length ≤ k → L (m + 1) k acc = z acc)
    (h1 : ∀ m (k : Nat) (h : k < xs.length) acc, acc.size ≤ pre.size + k * (sep.size + B) → L (m + 1) k acc = L m ((k + 1 : Nat) : Int) ((bif decide (0 < k) then acc ++ sep else acc) ++ f xs[k])) :
    ∀ m : Nat, xs.length < m → L m ((0 : Nat) : Int) pre = z (pre ++ Sp.joinB sep (xs.map f)) := fun m hm => by
  have e : pre ++ Sp.joinB sep ((xs.take 0).map f) = pre := ba_nil pre
  have := joinS_loop sep f xs pre B hf L z h0 h1 xs.length 0 m (Nat.zero_add _) hm (by rw [e]; omega)
  rw [e] at this
  exact this
def Sp.cat1 : List ByteArray → ByteArray
  | [] => ByteArray.mk #[]
  | x :: r => x ++ Sp.cat1 r
theorem cat1_loop {α ρ : Type} (f : α → ByteArray) (xs : List α) (P B : Nat) (hf : ∀ x ∈ xs, (f x).size ≤ B) (L : Nat → Int → ByteArray → Option ρ) (z : ByteArray → Option ρ)
    (h0 : ∀ m (k : Nat) acc, xs.length ≤ k → L (m + 1) k acc = z acc)
    (h1 : ∀ m (k : Nat) (h : k < xs.length) acc, acc.size ≤ P + k * B → L (m + 1) k acc = L m ((k + 1 : Nat) : Int) (acc ++ f xs[k])) :
    ∀ (d k m : Nat) (acc : ByteArray), k + d = xs.length → d < m → acc.size ≤ P + k * B → L m k acc = z (acc ++ Sp.cat1 ((xs.drop k).map f)) := by
  intro d
  induction d with
  | zero =>
    intro k m acc hk hm _
    obtain ⟨m, rfl⟩ : ∃ j, m = j + 1 := ⟨m - 1, by omega⟩
    rw [h0 m k _ (by omega), List.drop_of_length_le (by omega)]
    show z acc = z (acc ++ ByteArray.mk #[])
    rw [ba_nil]
  | succ d ih =>
    intro k m acc hk hm hs
    obtain ⟨m, rfl⟩ : ∃ j, m = j + 1 := ⟨m - 1, by omega⟩
    have h : k < xs.length := by omega
    have hb := hf _ (List.getElem_mem h)
    rw [h1 m k h _ hs, ih (k + 1) m _ (by omega) (by omega) (by rw [ByteArray.size_append, Nat.succ_mul]; omega), List.drop_eq_getElem_cons h, List.map_cons, Sp.cat1, ba_assoc]
def Sp.joinP (xs : List ByteArray) (sep : ByteArray) : Bool := yes2 (Nat.ble 1 xs.length) (Nat.ble (sep.size * xs.length + Sp.sumB xs + xs.length) 1048576)
def Sp.dig (n : Int) : ByteArray := ⟨(Lib.decDigits n.toNat).toArray⟩
end Go.Proofs.GR.T



