/-
  No statement is proved here: what the functions of the law answer, told as plain functions, and that the law's answer is always true.
  No condition.
-/
import Derived.Test.YtpljgmackfjkdaaTBurstg
set_option maxRecDepth 3000000
set_option maxHeartbeats 100000000
namespace Go.Proofs.GR.T
open Go Go.Proofs Go.Proofs.GR
def Sp.rv1 (v : V3) : List Int :=
  IntKind.u8.wrap v.1 :: (bif v.1 == 1 then [IntKind.u8.wrap v.2.1] else bif v.1 == 2 then Sp.key8 v.2.1
    else bif (bif v.1 == 3 then true else v.1 == 4) then IntKind.u8.wrap (v.2.2.size : Int) :: strBytes v.2.2 else [])
def Sp.rvs : List V3 → List Int
  | [] => []
  | v :: r => Sp.rv1 v ++ Sp.rvs r
def Sp.rowBy (row : List V3) : List Int := IntKind.u8.wrap (row.length : Int) :: Sp.rvs row
theorem rv1_len {v : V3} (h : Sp.vOK v = true) : (Sp.rv1 v).length ≤ 100 := by
  unfold Sp.rv1
  rcases vOK_is h with q | q | q | q
  · rw [q.1]; show ([IntKind.u8.wrap 0] : List Int).length ≤ 100; simp
  · rw [q.1]; show ([IntKind.u8.wrap 1, IntKind.u8.wrap v.2.1] : List Int).length ≤ 100; simp
  · rw [q.1]; show (IntKind.u8.wrap 2 :: Sp.key8 v.2.1).length ≤ 100; unfold Sp.key8; simp
  · have hs := size_60 h q.1
    have he := strBytes_len v.2.2
    rcases q.1 with k | k <;> rw [k]
    · show (IntKind.u8.wrap 3 :: IntKind.u8.wrap (v.2.2.size : Int) :: strBytes v.2.2).length ≤ 100
      rw [List.length_cons, List.length_cons]; omega
    · show (IntKind.u8.wrap 4 :: IntKind.u8.wrap (v.2.2.size : Int) :: strBytes v.2.2).length ≤ 100
      rw [List.length_cons, List.length_cons]; omega
theorem rvs_len : ∀ xs : List V3, (∀ v ∈ xs, Sp.vOK v = true) → (Sp.rvs xs).length ≤ 100 * xs.length
  | [], _ => Nat.le_refl _
  | v :: r, h => by
    have h1 := rv1_len (h v List.mem_cons_self)
    have h2 := rvs_len r fun x hx => h x (List.mem_cons_of_mem _ hx)
    rw [Sp.rvs, List.length_append, List.length_cons]
    omega
theorem rowBy_len {xs : List V3} (h : ∀ v ∈ xs, Sp.vOK v = true) : (Sp.rowBy xs).length ≤ 100 * xs.length + 1 := by
  have := rvs_len xs h
  unfold Sp.rowBy
  rw [List.length_cons]
  omega
theorem rvs_loop (xs : List V3) (hx : ∀ v ∈ xs, Sp.vOK v = true) (L : Nat → Int → List Int → Option Res)
    (h0 : ∀ m (k : Nat) acc, xs.length ≤ k → L (m + 1) k acc = some (rB acc))
    (h1 : ∀ m (k : Nat) (h : k < xs.length) acc, acc.length ≤ 100 * (k + 1) → L (m + 1) k acc = L m ((k + 1 : Nat) : Int) (acc ++ Sp.rv1 xs[k])) :
    ∀ (d k m : Nat) (acc : List Int), k + d = xs.length → d < m → acc.length ≤ 100 * (k + 1) → L m k acc = some (rB (acc ++ Sp.rvs (xs.drop k))) := by
  intro d
  induction d with
  | zero =>
    intro k m acc hk hm _
    obtain ⟨m, rfl⟩ := succ_of hm
    rw [h0 m k acc (by omega), List.drop_of_length_le (show xs.length ≤ k by omega), Sp.rvs, List.append_nil]
  | succ d ih =>
    intro k m acc hk hm ha
    obtain ⟨m, rfl⟩ := succ_of hm
    have h : k < xs.length := by omega
    have hl := rv1_len (hx _ (List.getElem_mem h))
    rw [h1 m k h acc ha, ih (k + 1) m _ (by omega) (by omega) (by rw [List.length_append]; omega), List.drop_eq_getElem_cons h, Sp.rvs, List.append_assoc]
noncomputable def f143_L0 (n m0 : Nat) (y0 : List (Int × Int × ByteArray)) (y1 : Int) (y2 : List Int) : Option Res := loopAt Γ (orc [e137]) n (85 : Nat) (0 : Nat) [] [Pth.r, Pth.r, Pth.l, Pth.r, Pth.b] m0 (St.mk (ZS (Zi.pair (Zi.pair Ty.str)).slice y0 :: Zn :: Zn :: Slot.val (Val.one (Cell.own (0 : Nat))) :: ZS Zi y1 :: ZN 52 []) [AObj.row (Ty.int IntKind.u8) y2 true])
theorem f143_L0_step (n m0 : Nat) (y0 : List (Int × Int × ByteArray)) (y1 : Int) (y2 : List Int) : f143_L0 n (m0 + 1) y0 y1 y2 = bif decide (y1 < (↑y0.length : Int)) then chk (decide ((0 : Int) ≤ y1) && decide (y1 < (↑y0.length : Int))) (chk (decide ((y2.length + [IntKind.u8.wrap (y0.getD y1.toNat ((0 : Int), (0 : Int), ByteArray.mk #[])).1].length) * (1 : Nat) ≤ (140737488355328 : Nat))) (bif (y0.getD y1.toNat ((0 : Int), (0 : Int), ByteArray.mk #[])).1 == (1 : Int) then chk (decide (((y2 ++ [IntKind.u8.wrap (y0.getD y1.toNat ((0 : Int), (0 : Int), ByteArray.mk #[])).1]).length + [IntKind.u8.wrap (y0.getD y1.toNat ((0 : Int), (0 : Int), ByteArray.mk #[])).2.1].length) * (1 : Nat) ≤ (140737488355328 : Nat))) (f143_L0 n m0 y0 (IntKind.i64.wrap (y1 + (1 : Int))) (y2 ++ [IntKind.u8.wrap (y0.getD y1.toNat ((0 : Int), (0 : Int), ByteArray.mk #[])).1] ++ [IntKind.u8.wrap (y0.getD y1.toNat ((0 : Int), (0 : Int), ByteArray.mk #[])).2.1])) else bif (y0.getD y1.toNat ((0 : Int), (0 : Int), ByteArray.mk #[])).1 == (2 : Int) then chk (decide (((y2 ++ [IntKind.u8.wrap (y0.getD y1.toNat ((0 : Int), (0 : Int), ByteArray.mk #[])).1]).length + (Sp.key8 (y0.getD y1.toNat ((0 : Int), (0 : Int), ByteArray.mk #[])).2.1).length) * (1 : Nat) ≤ (140737488355328 : Nat))) (f143_L0 n m0 y0 (IntKind.i64.wrap (y1 + (1 : Int))) (y2 ++ [IntKind.u8.wrap (y0.getD y1.toNat ((0 : Int), (0 : Int), ByteArray.mk #[])).1] ++ Sp.key8 (y0.getD y1.toNat ((0 : Int), (0 : Int), ByteArray.mk #[])).2.1)) else bif (y0.getD y1.toNat ((0 : Int), (0 : Int), ByteArray.mk #[])).1 == (3 : Int) then bif (y0.getD y1.toNat ((0 : Int), (0 : Int), ByteArray.mk #[])).1 == (3 : Int) then chk (decide (((y2 ++ [IntKind.u8.wrap (y0.getD y1.toNat ((0 : Int), (0 : Int), ByteArray.mk #[])).1]).length + [IntKind.u8.wrap (↑(y0.getD y1.toNat ((0 : Int), (0 : Int), ByteArray.mk #[])).2.2.size : Int)].length) * (1 : Nat) ≤ (140737488355328 : Nat))) (chk (decide (((y2 ++ [IntKind.u8.wrap (y0.getD y1.toNat ((0 : Int), (0 : Int), ByteArray.mk #[])).1] ++ [IntKind.u8.wrap (↑(y0.getD y1.toNat ((0 : Int), (0 : Int), ByteArray.mk #[])).2.2.size : Int)]).length + (strBytes (y0.getD y1.toNat ((0 : Int), (0 : Int), ByteArray.mk #[])).2.2).length) * (1 : Nat) ≤ (140737488355328 : Nat))) (f143_L0 n m0 y0 (IntKind.i64.wrap (y1 + (1 : Int))) (y2 ++ [IntKind.u8.wrap (y0.getD y1.toNat ((0 : Int), (0 : Int), ByteArray.mk #[])).1] ++ [IntKind.u8.wrap (↑(y0.getD y1.toNat ((0 : Int), (0 : Int), ByteArray.mk #[])).2.2.size : Int)] ++ strBytes (y0.getD y1.toNat ((0 : Int), (0 : Int), ByteArray.mk #[])).2.2))) else f143_L0 n m0 y0 (IntKind.i64.wrap (y1 + (1 : Int))) (y2 ++ [IntKind.u8.wrap (y0.getD y1.toNat ((0 : Int), (0 : Int), ByteArray.mk #[])).1]) else bif (y0.getD y1.toNat ((0 : Int), (0 : Int), ByteArray.mk #[])).1 == (4 : Int) then chk (decide (((y2 ++ [IntKind.u8.wrap (y0.getD y1.toNat ((0 : Int), (0 : Int), ByteArray.mk #[])).1]).length + [IntKind.u8.wrap (↑(y0.getD y1.toNat ((0 : Int), (0 : Int), ByteArray.mk #[])).2.2.size : Int)].length) * (1 : Nat) ≤ (140737488355328 : Nat))) (chk (decide (((y2 ++ [IntKind.u8.wrap (y0.getD y1.toNat ((0 : Int), (0 : Int), ByteArray.mk #[])).1] ++ [IntKind.u8.wrap (↑(y0.getD y1.toNat ((0 : Int), (0 : Int), ByteArray.mk #[])).2.2.size : Int)]).length + (strBytes (y0.getD y1.toNat ((0 : Int), (0 : Int), ByteArray.mk #[])).2.2).length) * (1 : Nat) ≤ (140737488355328 : Nat))) (f143_L0 n m0 y0 (IntKind.i64.wrap (y1 + (1 : Int))) (y2 ++ [IntKind.u8.wrap (y0.getD y1.toNat ((0 : Int), (0 : Int), ByteArray.mk #[])).1] ++ [IntKind.u8.wrap (↑(y0.getD y1.toNat ((0 : Int), (0 : Int), ByteArray.mk #[])).2.2.size : Int)] ++ strBytes (y0.getD y1.toNat ((0 : Int), (0 : Int), ByteArray.mk #[])).2.2))) else f143_L0 n m0 y0 (IntKind.i64.wrap (y1 + (1 : Int))) (y2 ++ [IntKind.u8.wrap (y0.getD y1.toNat ((0 : Int), (0 : Int), ByteArray.mk #[])).1]))) else some (Res.mk [XV.mk false [X.c (X0.row (Ty.int IntKind.u8) y2 true)]] []) := by kernel_rfl
theorem f143_raw (n : Nat) (x0 : List (Int × Int × ByteArray)) : abody Γ (orc [e137]) n 85 [ZX (Zi.pair (Zi.pair Ty.str)).slice x0] = f143_L0 n n x0 (0 : Int) [IntKind.u8.wrap (↑x0.length : Int)] := by kernel_rfl

def Sp.rwP (xs : List V3) : Bool := yes2 (Nat.ble xs.length 100) (Sp.allW Sp.vN xs)
theorem rwP_is {xs : List V3} (h : Sp.rwP xs = true) : xs.length ≤ 100 ∧ ∀ v ∈ xs, Sp.vOK v = true ∧ okN v := by
  obtain ⟨h1, h2⟩ := yes2_true h
  exact ⟨Nat.le_of_ble_eq_true h1, fun v hv => vN_is (allW_mem.1 h2 v hv)⟩
noncomputable def e143 : Ent := { f := n143, ins := [Sh.one (cL tV)], outs := [Sh.one (C0.row tB)], upd := [], pre := fun a => Sp.rwP a, spec := fun a => Sp.rowBy a, wrt := fun _ => () }
theorem e143_core (xs : List V3) (ha : Sp.rwP xs = true) : ∃ n, abody Γ (orc [e137]) n n143 (e143.args xs) = some (rB (Sp.rowBy xs)) := by
  obtain ⟨hl, hx⟩ := rwP_is ha
  refine ⟨xs.length + 1, (f143_raw _ xs).trans ?_⟩
  refine (rvs_loop xs (fun v hv => (hx v hv).1) (fun m k acc => f143_L0 (xs.length + 1) m xs k acc) (fun m k acc hk => ?_) (fun m k h acc hac => ?_) xs.length 0 _ [IntKind.u8.wrap (xs.length : Int)] (Nat.zero_add _) (Nat.lt_succ_self _) (by rw [List.length_singleton]; omega)).trans (by rw [List.drop_zero]; rfl)
  · show f143_L0 _ _ _ _ _ = _
    rw [f143_L0_step, nat_ge hk, cond_false]
  · show f143_L0 _ _ _ _ _ = f143_L0 _ _ _ _ _
    obtain ⟨hv, hn⟩ := hx xs[k] (List.getElem_mem h)
    rw [f143_L0_step, nat_lt h, cond_true, guard0, chkT, getD_nat xs k _ h, next64 h (by omega)]
    have fin : ∀ r, r = acc ++ Sp.rv1 xs[k] → f143_L0 (xs.length + 1) m xs ((k + 1 : Nat) : Int) r = f143_L0 (xs.length + 1) m xs ((k + 1 : Nat) : Int) (acc ++ Sp.rv1 xs[k]) := fun r e => by rw [e]
    generalize xs[k] = v at hv hn fin ⊢
    refine (chkQ (room (by rw [List.length_cons, List.length_nil]; omega)) _).trans ?_
    rcases vOK_is hv with q | q | q | q
    · rw [q.1]
      exact fin _ (by unfold Sp.rv1; rw [q.1]; rfl)
    · rw [q.1]
      refine (chkQ (room (by rw [List.length_append]; simp only [List.length_cons, List.length_nil]; omega)) _).trans ?_
      exact fin _ (by unfold Sp.rv1; rw [q.1, List.append_assoc]; rfl)
    · rw [q.1]
      refine (chkQ (room (by rw [List.length_append]; unfold Sp.key8; simp only [List.length_cons, List.length_nil]; omega)) _).trans ?_
      exact fin _ (by unfold Sp.rv1; rw [q.1, List.append_assoc]; rfl)
    · have hs := size_60 hv q.1
      have he := strBytes_len v.2.2
      have g1 : decide (((acc ++ [IntKind.u8.wrap v.1]).length + [IntKind.u8.wrap (v.2.2.size : Int)].length) * 1 ≤ 140737488355328) = true := room (by rw [List.length_append]; simp only [List.length_cons, List.length_nil]; omega)
      have g2 : decide (((acc ++ [IntKind.u8.wrap v.1] ++ [IntKind.u8.wrap (v.2.2.size : Int)]).length + (strBytes v.2.2).length) * 1 ≤ 140737488355328) = true := room (by rw [List.length_append, List.length_append]; simp only [List.length_cons, List.length_nil]; omega)
      rw [g1, g2, chkT, chkT]
      rcases q.1 with k3 | k4
      · rw [k3]
        exact fin _ (by unfold Sp.rv1; rw [k3, List.append_assoc, List.append_assoc]; rfl)
      · rw [k4]
        exact fin _ (by unfold Sp.rv1; rw [k4, List.append_assoc, List.append_assoc]; rfl)
theorem e143_ok : Valid PP Γ e143 := valid_of ok (vcons e137_ok vnil) fun a ha => e143_core a ha
end Go.Proofs.GR.T

set_option maxRecDepth 3000000
set_option maxHeartbeats 100000000
namespace Go.Proofs.GR.T
open Go Go.Proofs Go.Proofs.GR
theorem free_len {t : ByteArray} (h : Sp.isFreeS t = true) : t.size ≤ 40 := by
  unfold Sp.isFreeS at h
  cases q : Sp.isName (strBytes t) with
  | false => rw [q] at h; cases h
  | true =>
    have hl := strBytes_len t
    cases hb : strBytes t with
    | nil => rw [hb] at hl; have : 0 = t.size := hl; omega
    | cons b r =>
      rw [hb] at q hl
      have q : (bif decide (r.length + 1 > 40) then false else bif !(Sp.f217 b).1 then false else Sp.allW Sp.wordB r) = true := q
      by_cases hc : r.length + 1 > 40
      · rw [decide_eq_true hc] at q; cases q
      · rw [List.length_cons] at hl; omega
theorem okT_text {t : VTb} (h : Sp.okT t = true) : t.1.size ≤ 40 ∧ 1 ≤ t.2.1.length ∧ 1 ≤ t.2.2.1 ∧ t.2.2.1 ≤ 8 ∧ t.2.2.2.length ≤ 4 ∧ (∀ c ∈ t.2.1, c.1.size ≤ 40 ∧ 1 ≤ c.2.1 ∧ c.2.1 ≤ 4) ∧ ∀ x ∈ t.2.2.2, x.1.size ≤ 40 ∧ 1 ≤ x.2.length := by
  unfold Sp.okT Sp.tbOK at h
  cases q1 : Sp.isFreeS t.1 with
  | false => rw [q1] at h; cases h
  | true =>
  cases q2 : (Sp.f79 (t.2.1.length : Int) 1 8).1 with
  | false => rw [q1, q2] at h; cases h
  | true =>
  cases q3 : (Sp.f79 t.2.2.1 1 (t.2.1.length : Int)).1 with
  | false => rw [q1, q2, q3] at h; cases h
  | true =>
  cases q4 : decide ((t.2.2.2.length : Int) > 4) with
  | true => rw [q1, q2, q3, q4] at h; cases h
  | false =>
  rw [q1, q2, q3, q4] at h
  cases q5 : Sp.allP (Sp.coP t.2.2.1) [] t.2.1 with
  | false => rw [q5] at h; cases h
  | true =>
  rw [q5] at h
  have h : Sp.allP (Sp.inP t.2.1.length) [] t.2.2.2 = true := h
  have b2 := f79_is q2
  have b3 := f79_is q3
  have b4 := of_decide_eq_false q4
  refine ⟨free_len q1, by omega, by omega, by omega, by omega, fun c hc => ?_, fun x hx => ?_⟩
  · obtain ⟨q, hq⟩ := allP_mem _ _ q5 c hc
    unfold Sp.coP at hq
    cases r1 : Sp.isFreeS c.1 with
    | false => rw [r1] at hq; cases hq
    | true =>
    cases r2 : (Sp.f79 c.2.1 (1 : Int) (4 : Int)).1 with
    | false => rw [r1, r2] at hq; cases hq
    | true =>
    have b := f79_is r2
    exact ⟨free_len r1, b.1, b.2⟩
  · obtain ⟨q, hq⟩ := allP_mem _ _ h x hx
    unfold Sp.inP at hq
    cases hi : Sp.ixOK t.2.1.length x.1 x.2 with
    | false => rw [hi] at hq; cases hq
    | true =>
      unfold Sp.ixOK at hi
      cases r1 : Sp.isFreeS x.1 with
      | false => rw [r1] at hi; cases hi
      | true =>
      cases r2 : ((x.2.length : Int) == (0 : Int)) with
      | true => rw [r1, r2] at hi; cases hi
      | false =>
        have := ne_of_beq_false r2
        exact ⟨free_len r1, by omega⟩
def Sp.f175 := ([ByteArray.mk #[], ByteArray.mk #[98, 111, 111, 108], ByteArray.mk #[105, 110, 116], ByteArray.mk #[116, 101, 120, 116], ByteArray.mk #[98, 121, 116, 101, 115]], ())
noncomputable def e175 : Ent := { f := 120, ins := [], outs := [Sh.one (C0.row Ty.str)], upd := [], pre := fun a => true, spec := fun a => (Sp.f175).1, wrt := fun a => (Sp.f175).2 }
def f175_g (v : denS [Sh.one (C0.row Ty.str)] × denS []) : Res := ⟨mkS [Sh.one (C0.row Ty.str)] v.1, mkU [] v.2⟩
theorem f175_raw : abody Γ (orc []) 0 120 [] = some (Res.mk [XV.mk false [X.c (X0.row Ty.str [ByteArray.mk #[], ByteArray.mk #[98, 111, 111, 108], ByteArray.mk #[105, 110, 116], ByteArray.mk #[116, 101, 120, 116], ByteArray.mk #[98, 121, 116, 101, 115]] true)]] []) := by kernel_rfl
theorem f175_form : (some (Res.mk [XV.mk false [X.c (X0.row Ty.str [ByteArray.mk #[], ByteArray.mk #[98, 111, 111, 108], ByteArray.mk #[105, 110, 116], ByteArray.mk #[116, 101, 120, 116], ByteArray.mk #[98, 121, 116, 101, 115]] true)]] [])) = some (f175_g (Sp.f175)) := by
  unfold Sp.f175
  exact rfl
theorem e175_ok : Valid PP Γ e175 := valid_auto ok vnil fun a => (f175_raw ).trans (f175_form )

abbrev Sp.kSp : ByteArray := ByteArray.mk #[32]
abbrev Sp.kNull : ByteArray := ByteArray.mk #[32, 110, 117, 108, 108]
abbrev Sp.kOpen : ByteArray := ByteArray.mk #[40]
abbrev Sp.kShut : ByteArray := ByteArray.mk #[41]
abbrev Sp.kCom : ByteArray := ByteArray.mk #[44, 32]
abbrev Sp.kKey : ByteArray := ByteArray.mk #[41, 32, 107, 101, 121, 32]
abbrev Sp.kIx : ByteArray := ByteArray.mk #[32, 105, 110, 100, 101, 120, 32]
theorem sSp : Sp.kSp.size = 1 := rfl
theorem sNull : Sp.kNull.size = 5 := rfl
theorem sOpen : Sp.kOpen.size = 1 := rfl
theorem sShut : Sp.kShut.size = 1 := rfl
theorem sCom : Sp.kCom.size = 2 := rfl
theorem sKey : Sp.kKey.size = 6 := rfl
theorem sIx : Sp.kIx.size = 7 := rfl
def Sp.word (t : Int) : ByteArray := Sp.f175.1.getD t.toNat (ByteArray.mk #[])
theorem word_size {t : Int} (h0 : 0 ≤ t) (h : t < 5) : (Sp.word t).size ≤ 5 := by
  have e : t = 0 ∨ t = 1 ∨ t = 2 ∨ t = 3 ∨ t = 4 := by omega
  rcases e with rfl | rfl | rfl | rfl | rfl <;> exact Nat.le_of_ble_eq_true rfl
def Sp.coW (c : VCo) : ByteArray := c.1 ++ Sp.kSp ++ Sp.word c.2.1
def Sp.coT (c : VCo) : ByteArray := bif c.2.2 then Sp.coW c ++ Sp.kNull else Sp.coW c
abbrev zCo : VCo := (ByteArray.mk #[], (0 : Int), false)
def Sp.coN (cs : List VCo) (c : Int) : ByteArray := (cs.getD c.toNat zCo).1
def Sp.ixT (cs : List VCo) (x : VIx) : ByteArray := Sp.kIx ++ x.1 ++ Sp.kOpen ++ Sp.joinB Sp.kCom (x.2.map (Sp.coN cs)) ++ Sp.kShut
def Sp.tabT (t : VTb) : ByteArray := (t.1 ++ Sp.kOpen ++ Sp.joinB Sp.kCom (t.2.1.map Sp.coT) ++ Sp.kKey ++ Sp.dig t.2.2.1) ++ Sp.cat1 (t.2.2.2.map (Sp.ixT t.2.1))
theorem coW_size {c : VCo} (h : c.1.size ≤ 40 ∧ 1 ≤ c.2.1 ∧ c.2.1 ≤ 4) : (Sp.coW c).size ≤ 46 := by
  have := word_size (t := c.2.1) (by omega) (by omega)
  unfold Sp.coW
  rw [ByteArray.size_append, ByteArray.size_append, sSp]
  omega
theorem coT_size {c : VCo} (h : c.1.size ≤ 40 ∧ 1 ≤ c.2.1 ∧ c.2.1 ≤ 4) : (Sp.coT c).size ≤ 51 := by
  have := coW_size h
  unfold Sp.coT
  cases c.2.2 with
  | true => rw [cond_true, ByteArray.size_append, sNull]; omega
  | false => rw [cond_false]; omega
theorem sumB_le {B : Nat} : ∀ xs : List ByteArray, (∀ x ∈ xs, x.size ≤ B) → Sp.sumB xs ≤ B * xs.length
  | [], _ => Nat.le_refl _
  | x :: r, h => by
    have h1 := h x List.mem_cons_self
    have h2 := sumB_le r fun y hy => h y (List.mem_cons_of_mem _ hy)
    rw [Sp.sumB, List.length_cons, Nat.mul_succ]
    omega
theorem join_le {B n : Nat} {xs : List ByteArray} (h : ∀ x ∈ xs, x.size ≤ B) (hB : B ≤ 60) (hl : xs.length ≤ 8) : (Sp.joinB Sp.kCom xs).size ≤ 500 ∧ (1 ≤ xs.length → Sp.joinP xs Sp.kCom = true) := by
  have h1 := joinB_size Sp.kCom xs
  have h2 := sumB_le xs h
  have h3 : B * xs.length ≤ 60 * 8 := Nat.mul_le_mul hB hl
  rw [sCom] at h1
  refine ⟨by omega, fun h0 => yes2Q (Nat.ble_eq_true_of_le h0) (Nat.ble_eq_true_of_le ?_)⟩
  rw [sCom]
  omega
theorem dig_size {n : Int} (h0 : 0 ≤ n) (h : n < 10) : (Sp.dig n).size = 1 := by
  have e : n = 0 ∨ n = 1 ∨ n = 2 ∨ n = 3 ∨ n = 4 ∨ n = 5 ∨ n = 6 ∨ n = 7 ∨ n = 8 ∨ n = 9 := by omega
  rcases e with rfl | rfl | rfl | rfl | rfl | rfl | rfl | rfl | rfl | rfl <;> decide +kernel
theorem coN_size {cs : List VCo} (h : ∀ c ∈ cs, c.1.size ≤ 40 ∧ 1 ≤ c.2.1 ∧ c.2.1 ≤ 4) (c : Int) : (Sp.coN cs c).size ≤ 40 := by
  unfold Sp.coN
  by_cases hl : c.toNat < cs.length
  · rw [List.getD, List.getElem?_eq_getElem hl, Option.getD_some]
    exact (h _ (List.getElem_mem hl)).1
  · rw [List.getD, List.getElem?_eq_none (by omega)]
    exact Nat.zero_le _
theorem ixT_size {cs : List VCo} (h : ∀ c ∈ cs, c.1.size ≤ 40 ∧ 1 ≤ c.2.1 ∧ c.2.1 ≤ 4) {x : VIx} (h1 : x.1.size ≤ 40) (h2 : x.2.length ≤ 8) : (Sp.ixT cs x).size ≤ 600 := by
  have := (join_le (B := 40) (n := 0) (xs := x.2.map (Sp.coN cs)) (fun y hy => by
    obtain ⟨c, _, rfl⟩ := List.mem_map.1 hy
    exact coN_size h c) (by omega) (by rw [List.length_map]; exact h2)).1
  unfold Sp.ixT
  rw [ByteArray.size_append, ByteArray.size_append, ByteArray.size_append, ByteArray.size_append, sIx, sOpen, sShut]
  omega
theorem cat1_size {B : Nat} : ∀ xs : List ByteArray, (∀ x ∈ xs, x.size ≤ B) → (Sp.cat1 xs).size ≤ B * xs.length
  | [], _ => Nat.zero_le _
  | x :: r, h => by
    have h1 := h x List.mem_cons_self
    have h2 := cat1_size r fun y hy => h y (List.mem_cons_of_mem _ hy)
    rw [Sp.cat1, ByteArray.size_append, List.length_cons, Nat.mul_succ]
    omega
theorem roomB {n : Nat} (h : n ≤ 1000000) : decide (n ≤ 9223372036854775807) = true := decide_eq_true (by omega)
def Sp.d10 (n : Int) : Bool := yes2 (decide (0 ≤ n)) (decide (n < 10))
noncomputable def e172 : Ent := { f := n172, ins := [Sh.one cI], outs := [Sh.one cS], upd := [], pre := fun a => Sp.d10 a, spec := fun a => Sp.dig a, wrt := fun _ => () }
theorem e172_core (n : Int) (h0 : 0 ≤ n) (h : n < 10) : ∃ m, abody Γ (orc []) m n172 (e172.args n) = some (rStr (Sp.dig n)) := by
  have e : n = 0 ∨ n = 1 ∨ n = 2 ∨ n = 3 ∨ n = 4 ∨ n = 5 ∨ n = 6 ∨ n = 7 ∨ n = 8 ∨ n = 9 := by omega
  rcases e with rfl | rfl | rfl | rfl | rfl | rfl | rfl | rfl | rfl | rfl <;> exact ⟨9, by kernel_rfl⟩
theorem d10_is {n : Int} (h : Sp.d10 n = true) : 0 ≤ n ∧ n < 10 := by
  obtain ⟨h1, h2⟩ := yes2_true h
  exact ⟨of_decide_eq_true h1, of_decide_eq_true h2⟩
theorem e172_ok : Valid PP Γ e172 := valid_of ok vnil fun a ha => e172_core a (d10_is ha).1 (d10_is ha).2
noncomputable def f142_L0 (n m0 : Nat) (y0 : ByteArray) (y1 : Int) (y2 : ByteArray) (y3 : List (ByteArray × Int × Bool)) (y4 : Int) (y5 : List (ByteArray × List Int)) : Option Res := loopAt Γ (orc [e175, e172]) n (84 : Nat) (0 : Nat) [] [Pth.r, Pth.r, Pth.l, Pth.r, Pth.b] m0 (St.mk (Zn :: Slot.val (Val.one (Cell.ptr (0 : Nat) (0 : Nat))) :: Zn :: ZS Ty.str y0 :: ZS Zi y1 :: ZN 100 []) [AObj.box (82 : Nat) [Cell.dat Ty.str y2, Cell.dat (Ty.str.pair (Zi.pair Ty.bool)).slice y3, Cell.dat Zi y4, Cell.dat (Ty.str.pair Zi.slice).slice y5]])
noncomputable def f142_L1 (n m1 : Nat) (y0 : ByteArray) (y1 : Int) (y2 : ByteArray) (y3 : List (ByteArray × Int × Bool)) (y4 : Int) (y5 : List (ByteArray × List Int)) : Option Res := loopAt Γ (orc [e175, e172]) n (84 : Nat) (0 : Nat) [] [Pth.r, Pth.r, Pth.r, Pth.r, Pth.l, Pth.r, Pth.b] m1 (St.mk (Zn :: Slot.val (Val.one (Cell.ptr (0 : Nat) (0 : Nat))) :: Zn :: ZS Ty.str y0 :: Zn :: ZS Zi y1 :: ZN 99 []) [AObj.box (82 : Nat) [Cell.dat Ty.str y2, Cell.dat (Ty.str.pair (Zi.pair Ty.bool)).slice y3, Cell.dat Zi y4, Cell.dat (Ty.str.pair Zi.slice).slice y5]])
noncomputable def f142_L2 (n m1 m2 : Nat) (y0 : ByteArray) (y1 y2 : Int) (y3 : ByteArray) (y4 : List (ByteArray × Int × Bool)) (y5 : Int) (y6 : List (ByteArray × List Int)) : Option Res := loopAt Γ (orc [e175, e172]) n (84 : Nat) (0 : Nat) [] [Pth.r, Pth.r, Pth.r, Pth.r, Pth.l, Pth.r, Pth.b, Pth.p m1, Pth.r, Pth.l, Pth.b, Pth.r, Pth.l, Pth.r, Pth.b] m2 (St.mk (Zn :: Slot.val (Val.one (Cell.ptr (0 : Nat) (0 : Nat))) :: Zn :: ZS Ty.str y0 :: Zn :: ZS Zi y1 :: ZS Zi y2 :: ZN 98 []) [AObj.box (82 : Nat) [Cell.dat Ty.str y3, Cell.dat (Ty.str.pair (Zi.pair Ty.bool)).slice y4, Cell.dat Zi y5, Cell.dat (Ty.str.pair Zi.slice).slice y6]])
theorem f142_L0_step (n m0 : Nat) (y0 : ByteArray) (y1 : Int) (y2 : ByteArray) (y3 : List (ByteArray × Int × Bool)) (y4 : Int) (y5 : List (ByteArray × List Int)) : f142_L0 n (m0 + 1) y0 y1 y2 y3 y4 y5 = bif decide (y1 < (↑y3.length : Int)) then bif decide (y1 > (0 : Int)) then chk (decide (y0.size + (2 : Nat) ≤ (9223372036854775807 : Nat))) (chk (decide ((0 : Int) ≤ y1) && decide (y1 < (↑y3.length : Int))) (chk (decide ((y3.getD y1.toNat (ByteArray.mk #[], (0 : Int), false)).1.size + (1 : Nat) ≤ (9223372036854775807 : Nat))) (chk (decide ((0 : Int) ≤ y1) && decide (y1 < (↑y3.length : Int))) (chk (decide ((0 : Int) ≤ (y3.getD y1.toNat (ByteArray.mk #[], (0 : Int), false)).2.1) && decide ((y3.getD y1.toNat (ByteArray.mk #[], (0 : Int), false)).2.1 < (5 : Int))) (chk (decide (((y3.getD y1.toNat (ByteArray.mk #[], (0 : Int), false)).1 ++ ByteArray.mk #[32]).size + (Sp.f175.1.getD (y3.getD y1.toNat (ByteArray.mk #[], (0 : Int), false)).2.1.toNat (ByteArray.mk #[])).size ≤ (9223372036854775807 : Nat))) (chk (decide ((y0 ++ ByteArray.mk #[44, 32]).size + ((y3.getD y1.toNat (ByteArray.mk #[], (0 : Int), false)).1 ++ ByteArray.mk #[32] ++ Sp.f175.1.getD (y3.getD y1.toNat (ByteArray.mk #[], (0 : Int), false)).2.1.toNat (ByteArray.mk #[])).size ≤ (9223372036854775807 : Nat))) (chk (decide ((0 : Int) ≤ y1) && decide (y1 < (↑y3.length : Int))) (bif (y3.getD y1.toNat (ByteArray.mk #[], (0 : Int), false)).2.2 then chk (decide ((y0 ++ ByteArray.mk #[44, 32] ++ ((y3.getD y1.toNat (ByteArray.mk #[], (0 : Int), false)).1 ++ ByteArray.mk #[32] ++ Sp.f175.1.getD (y3.getD y1.toNat (ByteArray.mk #[], (0 : Int), false)).2.1.toNat (ByteArray.mk #[]))).size + (5 : Nat) ≤ (9223372036854775807 : Nat))) (f142_L0 n m0 (y0 ++ ByteArray.mk #[44, 32] ++ ((y3.getD y1.toNat (ByteArray.mk #[], (0 : Int), false)).1 ++ ByteArray.mk #[32] ++ Sp.f175.1.getD (y3.getD y1.toNat (ByteArray.mk #[], (0 : Int), false)).2.1.toNat (ByteArray.mk #[])) ++ ByteArray.mk #[32, 110, 117, 108, 108]) (IntKind.i64.wrap (y1 + (1 : Int))) y2 y3 y4 y5) else f142_L0 n m0 (y0 ++ ByteArray.mk #[44, 32] ++ ((y3.getD y1.toNat (ByteArray.mk #[], (0 : Int), false)).1 ++ ByteArray.mk #[32] ++ Sp.f175.1.getD (y3.getD y1.toNat (ByteArray.mk #[], (0 : Int), false)).2.1.toNat (ByteArray.mk #[]))) (IntKind.i64.wrap (y1 + (1 : Int))) y2 y3 y4 y5)))))))) else chk (decide ((0 : Int) ≤ y1) && decide (y1 < (↑y3.length : Int))) (chk (decide ((y3.getD y1.toNat (ByteArray.mk #[], (0 : Int), false)).1.size + (1 : Nat) ≤ (9223372036854775807 : Nat))) (chk (decide ((0 : Int) ≤ y1) && decide (y1 < (↑y3.length : Int))) (chk (decide ((0 : Int) ≤ (y3.getD y1.toNat (ByteArray.mk #[], (0 : Int), false)).2.1) && decide ((y3.getD y1.toNat (ByteArray.mk #[], (0 : Int), false)).2.1 < (5 : Int))) (chk (decide (((y3.getD y1.toNat (ByteArray.mk #[], (0 : Int), false)).1 ++ ByteArray.mk #[32]).size + (Sp.f175.1.getD (y3.getD y1.toNat (ByteArray.mk #[], (0 : Int), false)).2.1.toNat (ByteArray.mk #[])).size ≤ (9223372036854775807 : Nat))) (chk (decide (y0.size + ((y3.getD y1.toNat (ByteArray.mk #[], (0 : Int), false)).1 ++ ByteArray.mk #[32] ++ Sp.f175.1.getD (y3.getD y1.toNat (ByteArray.mk #[], (0 : Int), false)).2.1.toNat (ByteArray.mk #[])).size ≤ (9223372036854775807 : Nat))) (chk (decide ((0 : Int) ≤ y1) && decide (y1 < (↑y3.length : Int))) (bif (y3.getD y1.toNat (ByteArray.mk #[], (0 : Int), false)).2.2 then chk (decide ((y0 ++ ((y3.getD y1.toNat (ByteArray.mk #[], (0 : Int), false)).1 ++ ByteArray.mk #[32] ++ Sp.f175.1.getD (y3.getD y1.toNat (ByteArray.mk #[], (0 : Int), false)).2.1.toNat (ByteArray.mk #[]))).size + (5 : Nat) ≤ (9223372036854775807 : Nat))) (f142_L0 n m0 (y0 ++ ((y3.getD y1.toNat (ByteArray.mk #[], (0 : Int), false)).1 ++ ByteArray.mk #[32] ++ Sp.f175.1.getD (y3.getD y1.toNat (ByteArray.mk #[], (0 : Int), false)).2.1.toNat (ByteArray.mk #[])) ++ ByteArray.mk #[32, 110, 117, 108, 108]) (IntKind.i64.wrap (y1 + (1 : Int))) y2 y3 y4 y5) else f142_L0 n m0 (y0 ++ ((y3.getD y1.toNat (ByteArray.mk #[], (0 : Int), false)).1 ++ ByteArray.mk #[32] ++ Sp.f175.1.getD (y3.getD y1.toNat (ByteArray.mk #[], (0 : Int), false)).2.1.toNat (ByteArray.mk #[]))) (IntKind.i64.wrap (y1 + (1 : Int))) y2 y3 y4 y5))))))) else chk (Sp.d10 y4) (chk (decide ((6 : Nat) + (Sp.dig y4).size ≤ (9223372036854775807 : Nat))) (chk (decide (y0.size + (ByteArray.mk #[41, 32, 107, 101, 121, 32] ++ Sp.dig y4).size ≤ (9223372036854775807 : Nat))) (f142_L1 n n (y0 ++ (ByteArray.mk #[41, 32, 107, 101, 121, 32] ++ Sp.dig y4)) (0 : Int) y2 y3 y4 y5))) := by kernel_rfl
theorem f142_L1_step (n m1 : Nat) (y0 : ByteArray) (y1 : Int) (y2 : ByteArray) (y3 : List (ByteArray × Int × Bool)) (y4 : Int) (y5 : List (ByteArray × List Int)) : f142_L1 n (m1 + 1) y0 y1 y2 y3 y4 y5 = bif decide (y1 < (↑y5.length : Int)) then chk (decide ((0 : Int) ≤ y1) && decide (y1 < (↑y5.length : Int))) (chk (decide ((7 : Nat) + (y5.getD y1.toNat (ByteArray.mk #[], [])).1.size ≤ (9223372036854775807 : Nat))) (chk (decide ((ByteArray.mk #[32, 105, 110, 100, 101, 120, 32] ++ (y5.getD y1.toNat (ByteArray.mk #[], [])).1).size + (1 : Nat) ≤ (9223372036854775807 : Nat))) (chk (decide (y0.size + (ByteArray.mk #[32, 105, 110, 100, 101, 120, 32] ++ (y5.getD y1.toNat (ByteArray.mk #[], [])).1 ++ ByteArray.mk #[40]).size ≤ (9223372036854775807 : Nat))) (f142_L2 n m1 n (y0 ++ (ByteArray.mk #[32, 105, 110, 100, 101, 120, 32] ++ (y5.getD y1.toNat (ByteArray.mk #[], [])).1 ++ ByteArray.mk #[40])) y1 (0 : Int) y2 y3 y4 y5)))) else some (Res.mk [ZX Ty.str y0] []) := by kernel_rfl
theorem f142_L2_step (n m1 m2 : Nat) (y0 : ByteArray) (y1 y2 : Int) (y3 : ByteArray) (y4 : List (ByteArray × Int × Bool)) (y5 : Int) (y6 : List (ByteArray × List Int)) : f142_L2 n m1 (m2 + 1) y0 y1 y2 y3 y4 y5 y6 = chk (decide ((0 : Int) ≤ y1) && decide (y1 < (↑y6.length : Int))) (bif decide (y2 < (↑(y6.getD y1.toNat (ByteArray.mk #[], [])).2.length : Int)) then bif decide (y2 > (0 : Int)) then chk (decide (y0.size + (2 : Nat) ≤ (9223372036854775807 : Nat))) (chk (decide ((0 : Int) ≤ y1) && decide (y1 < (↑y6.length : Int))) (chk (decide ((0 : Int) ≤ y2) && decide (y2 < (↑(y6.getD y1.toNat (ByteArray.mk #[], [])).2.length : Int))) (chk (decide ((0 : Int) ≤ (y6.getD y1.toNat (ByteArray.mk #[], [])).2.getD y2.toNat (0 : Int)) && decide ((y6.getD y1.toNat (ByteArray.mk #[], [])).2.getD y2.toNat (0 : Int) < (↑y4.length : Int))) (chk (decide ((y0 ++ ByteArray.mk #[44, 32]).size + (y4.getD ((y6.getD y1.toNat (ByteArray.mk #[], [])).2.getD y2.toNat (0 : Int)).toNat (ByteArray.mk #[], (0 : Int), false)).1.size ≤ (9223372036854775807 : Nat))) (f142_L2 n m1 m2 (y0 ++ ByteArray.mk #[44, 32] ++ (y4.getD ((y6.getD y1.toNat (ByteArray.mk #[], [])).2.getD y2.toNat (0 : Int)).toNat (ByteArray.mk #[], (0 : Int), false)).1) y1 (IntKind.i64.wrap (y2 + (1 : Int))) y3 y4 y5 y6))))) else chk (decide ((0 : Int) ≤ y1) && decide (y1 < (↑y6.length : Int))) (chk (decide ((0 : Int) ≤ y2) && decide (y2 < (↑(y6.getD y1.toNat (ByteArray.mk #[], [])).2.length : Int))) (chk (decide ((0 : Int) ≤ (y6.getD y1.toNat (ByteArray.mk #[], [])).2.getD y2.toNat (0 : Int)) && decide ((y6.getD y1.toNat (ByteArray.mk #[], [])).2.getD y2.toNat (0 : Int) < (↑y4.length : Int))) (chk (decide (y0.size + (y4.getD ((y6.getD y1.toNat (ByteArray.mk #[], [])).2.getD y2.toNat (0 : Int)).toNat (ByteArray.mk #[], (0 : Int), false)).1.size ≤ (9223372036854775807 : Nat))) (f142_L2 n m1 m2 (y0 ++ (y4.getD ((y6.getD y1.toNat (ByteArray.mk #[], [])).2.getD y2.toNat (0 : Int)).toNat (ByteArray.mk #[], (0 : Int), false)).1) y1 (IntKind.i64.wrap (y2 + (1 : Int))) y3 y4 y5 y6)))) else chk (decide (y0.size + (1 : Nat) ≤ (9223372036854775807 : Nat))) (f142_L1 n m1 (y0 ++ ByteArray.mk #[41]) (IntKind.i64.wrap (y1 + (1 : Int))) y3 y4 y5 y6)) := by kernel_rfl
theorem f142_raw (n : Nat) (x0 : ByteArray) (x1 : List (ByteArray × Int × Bool)) (x2 : Int) (x3 : List (ByteArray × List Int)) : abody Γ (orc [e175, e172]) n 84 [XV.mk true [ZC Ty.str x0, ZC (Ty.str.pair (Zi.pair Ty.bool)).slice x1, ZC Zi x2, ZC (Ty.str.pair Zi.slice).slice x3]] = chk (decide (x0.size + (1 : Nat) ≤ (9223372036854775807 : Nat))) (f142_L0 n n (x0 ++ ByteArray.mk #[40]) (0 : Int) x0 x1 x2 x3) := by kernel_rfl

noncomputable def e142 : Ent := { f := n142, ins := [shTb], outs := [Sh.one cS], upd := [], pre := fun a => Sp.okT a, spec := fun a => Sp.tabT a, wrt := fun _ => () }
theorem e142_core (x0 : ByteArray) (x1 : List VCo) (x2 : Int) (x3 : List VIx) (ha : Sp.okT (x0, x1, x2, x3) = true) : ∃ n, abody Γ (orc [e175, e172]) n n142 (e142.args (x0, x1, x2, x3)) = some (rStr (Sp.tabT (x0, x1, x2, x3))) := by
  obtain ⟨o1, o2, o3⟩ := okT_is ha
  obtain ⟨t1, t2, t3, t4, t5, t6, t7⟩ := okT_text ha
  dsimp only at o1 o2 o3 t1 t2 t3 t4 t5 t6 t7
  have hj := (join_le (B := 51) (n := 0) (xs := x1.map Sp.coT) (fun y hy => by
    obtain ⟨c, hc, rfl⟩ := List.mem_map.1 hy
    exact coT_size (t6 c hc)) (by omega) (by rw [List.length_map]; exact o1)).1
  have hd := dig_size (n := x2) (by omega) (by omega)
  have hpre : (x0 ++ Sp.kOpen).size ≤ 41 := by rw [ByteArray.size_append, sOpen]; omega
  refine ⟨x1.length + x3.length + 9, (f142_raw _ x0 x1 x2 x3).trans ?_⟩
  generalize hN : x1.length + x3.length + 9 = N
  refine (chkQ (roomB (by omega)) _).trans ?_
  refine (joinS_end Sp.kCom Sp.coT x1 (x0 ++ Sp.kOpen) 51 (fun c hc => coT_size (t6 c hc)) (fun m k acc => f142_L0 N m acc k x0 x1 x2 x3) (fun acc => f142_L0 N 1 acc x1.length x0 x1 x2 x3) (fun m k acc hk => ?_) (fun m k h acc hac => ?_) N (by omega)).trans ?_
  · show f142_L0 _ _ _ _ _ _ _ _ = f142_L0 _ _ _ _ _ _ _ _
    rw [f142_L0_step, f142_L0_step, nat_ge hk, nat_ge (Nat.le_refl _), cond_false, cond_false]
  · show f142_L0 _ _ _ _ _ _ _ _ = f142_L0 _ _ _ _ _ _ _ _
    have hc := t6 _ (List.getElem_mem h)
    rw [sCom] at hac
    have hk8 : k * (2 + 51) ≤ 424 := by omega
    rw [f142_L0_step, nat_lt h, cond_true, guard0, getD_nat x1 k _ h, next64 h (by omega)]
    generalize x1[k] = c at hc ⊢
    have hw := coW_size hc
    have hw2 : (c.1 ++ ByteArray.mk #[32] ++ Sp.f175.1.getD c.2.1.toNat (ByteArray.mk #[])).size ≤ 46 := hw
    have hw5 : (Sp.f175.1.getD c.2.1.toNat (ByteArray.mk #[])).size ≤ 5 := word_size (t := c.2.1) (by omega) (by omega)
    have g5 : (decide ((0 : Int) ≤ c.2.1) && decide (c.2.1 < (5 : Int))) = true := by rw [decide_eq_true (show (0 : Int) ≤ c.2.1 by omega), decide_eq_true (show c.2.1 < (5 : Int) by omega)]; rfl
    have gs : decide ((c.1 ++ Sp.kSp).size + (Sp.f175.1.getD c.2.1.toNat (ByteArray.mk #[])).size ≤ 9223372036854775807) = true := roomB (by rw [ByteArray.size_append, sSp]; omega)
    by_cases hk0 : 0 < k
    · rw [decide_eq_true (show (k : Int) > 0 by omega), decide_eq_true hk0, cond_true, cond_true]
      refine (chkQ (roomB (by omega)) _).trans ?_
      refine (chkQ rfl _).trans ?_
      refine (chkQ (roomB (by omega)) _).trans ?_
      refine (chkQ rfl _).trans ?_
      refine (chkQ g5 _).trans ?_
      refine (chkQ gs _).trans ?_
      refine (chkQ (roomB (by rw [ByteArray.size_append (a := acc), sCom]; omega)) _).trans ?_
      refine (chkQ rfl _).trans ?_
      unfold Sp.coT
      cases c.2.2 with
      | true =>
        rw [cond_true, cond_true]
        refine (chkQ (roomB (by rw [ByteArray.size_append (a := acc ++ ByteArray.mk #[44, 32]), ByteArray.size_append (a := acc), sCom]; omega)) _).trans ?_
        exact congrArg (fun q => f142_L0 N m q ((k + 1 : Nat) : Int) x0 x1 x2 x3) (ba_assoc (acc ++ Sp.kCom) (Sp.coW c) Sp.kNull)
      | false =>
        rw [cond_false, cond_false]
        rfl
    · rw [decide_eq_false (show ¬ (k : Int) > 0 by omega), decide_eq_false hk0, cond_false, cond_false]
      refine (chkQ rfl _).trans ?_
      refine (chkQ (roomB (by omega)) _).trans ?_
      refine (chkQ rfl _).trans ?_
      refine (chkQ g5 _).trans ?_
      refine (chkQ gs _).trans ?_
      refine (chkQ (roomB (by omega)) _).trans ?_
      refine (chkQ rfl _).trans ?_
      unfold Sp.coT
      cases c.2.2 with
      | true =>
        rw [cond_true, cond_true]
        refine (chkQ (roomB (by rw [ByteArray.size_append (a := acc)]; omega)) _).trans ?_
        exact congrArg (fun q => f142_L0 N m q ((k + 1 : Nat) : Int) x0 x1 x2 x3) (ba_assoc acc (Sp.coW c) Sp.kNull)
      | false =>
        rw [cond_false, cond_false]
        rfl
  rw [f142_L0_step, nat_ge (Nat.le_refl _), cond_false]
  have hS : (x0 ++ Sp.kOpen ++ Sp.joinB Sp.kCom (x1.map Sp.coT)).size ≤ 541 := by rw [ByteArray.size_append]; omega
  have hD : Sp.d10 x2 = true := yes2Q (decide_eq_true (by omega)) (decide_eq_true (by omega))
  refine (chkQ hD _).trans ?_
  refine (chkQ (roomB (by omega)) _).trans ?_
  refine (chkQ (roomB (by rw [ByteArray.size_append (a := ByteArray.mk #[41, 32, 107, 101, 121, 32]), sKey]; omega)) _).trans ?_
  have hP : (x0 ++ Sp.kOpen ++ Sp.joinB Sp.kCom (x1.map Sp.coT) ++ (Sp.kKey ++ Sp.dig x2)).size ≤ 1000 + 0 * 600 := by
    rw [ByteArray.size_append, ByteArray.size_append (a := Sp.kKey), sKey]
    omega
  refine (cat1_loop (Sp.ixT x1) x3 1000 600 (fun x hx => ixT_size t6 (t7 x hx).1 (o3 x hx).1) (fun m k acc => f142_L1 N m acc k x0 x1 x2 x3) (fun acc => some (rStr acc)) (fun m k acc hk => ?_) (fun m k h acc hac => ?_) x3.length 0 N _ (Nat.zero_add _) (by omega) hP).trans ?_
  · show f142_L1 _ _ _ _ _ _ _ _ = _
    rw [f142_L1_step, nat_ge hk, cond_false]
  · show f142_L1 _ _ _ _ _ _ _ _ = f142_L1 _ _ _ _ _ _ _ _
    have hx := t7 _ (List.getElem_mem h)
    have hy := o3 _ (List.getElem_mem h)
    have hs := ixT_size (cs := x1) t6 hx.1 hy.1
    have hk600 : k * 600 ≤ 2400 := by omega
    have hI : (Sp.kIx ++ x3[k].1 ++ Sp.kOpen).size ≤ 48 := by rw [ByteArray.size_append, ByteArray.size_append, sIx, sOpen]; omega
    rw [f142_L1_step, nat_lt h, cond_true, guard0, chkT, getD_nat x3 k _ h]
    refine (chkQ (roomB (by omega)) _).trans ?_
    refine (chkQ (roomB (by rw [ByteArray.size_append (a := ByteArray.mk #[32, 105, 110, 100, 101, 120, 32]), sIx]; omega)) _).trans ?_
    refine (chkQ (roomB (Nat.le_trans (Nat.add_le_add_left hI _) (by omega))) _).trans ?_
    have hA : (acc ++ (Sp.kIx ++ x3[k].1 ++ Sp.kOpen)).size ≤ 4000 := by rw [ByteArray.size_append (a := acc)]; omega
    refine (joinS_end Sp.kCom (Sp.coN x1) x3[k].2 (acc ++ (Sp.kIx ++ x3[k].1 ++ Sp.kOpen)) 40 (fun c _ => coN_size t6 c) (fun m2 i a => f142_L2 N m m2 a k i x0 x1 x2 x3) (fun a => f142_L2 N m 1 a k x3[k].2.length x0 x1 x2 x3) (fun m2 i a hi => ?_) (fun m2 i hi a ha2 => ?_) N (by omega)).trans ?_
    · show f142_L2 _ _ _ _ _ _ _ _ _ _ = f142_L2 _ _ _ _ _ _ _ _ _ _
      rw [f142_L2_step, f142_L2_step, guard2 h, getD_nat x3 k _ h, nat_ge hi, nat_ge (Nat.le_refl _), cond_false, cond_false]
    · show f142_L2 _ _ _ _ _ _ _ _ _ _ = f142_L2 _ _ _ _ _ _ _ _ _ _
      have hc : (decide ((0 : Int) ≤ x3[k].2[i]) && decide (x3[k].2[i] < (x1.length : Int))) = true := hy.2 _ (List.getElem_mem hi)
      rw [sCom] at ha2
      have hk8 : i * (2 + 40) ≤ 336 := by omega
      have hn := coN_size t6 x3[k].2[i]
      have hn2 : (x1.getD x3[k].2[i].toNat (ByteArray.mk #[], (0 : Int), false)).1.size ≤ 40 := hn
      rw [f142_L2_step, guard2 h, chkT, getD_nat x3 k _ h, nat_lt hi, cond_true, guard0, getD_nat x3[k].2 i _ hi, hc, next64 hi (by omega)]
      by_cases hk0 : 0 < i
      · rw [decide_eq_true (show (i : Int) > 0 by omega), decide_eq_true hk0, cond_true, cond_true]
        refine (chkQ (roomB (by omega)) _).trans ?_
        refine (chkQ rfl _).trans ?_
        refine (chkQ rfl _).trans ?_
        refine (chkQ rfl _).trans ?_
        refine (chkQ (roomB (by rw [ByteArray.size_append (a := a), sCom]; omega)) _).trans ?_
        rfl
      · rw [decide_eq_false (show ¬ (i : Int) > 0 by omega), decide_eq_false hk0, cond_false, cond_false]
        refine (chkQ rfl _).trans ?_
        refine (chkQ rfl _).trans ?_
        refine (chkQ rfl _).trans ?_
        refine (chkQ (roomB (by omega)) _).trans ?_
        rfl
    · rw [f142_L2_step, guard2 h, chkT, getD_nat x3 k _ h, nat_ge (Nat.le_refl _), cond_false, next64 h (by omega)]
      have hn : ∀ y ∈ x3[k].2.map (Sp.coN x1), y.size ≤ 40 := fun y hy => by
        obtain ⟨c, _, rfl⟩ := List.mem_map.1 hy
        exact coN_size t6 c
      have hj := (join_le (B := 40) (n := 0) hn (by omega) (by rw [List.length_map]; exact hy.1)).1
      refine (chkQ (roomB (by rw [ByteArray.size_append]; omega)) _).trans ?_
      refine congrArg (fun q => f142_L1 N m q ((k + 1 : Nat) : Int) x0 x1 x2 x3) ?_
      unfold Sp.ixT
      rw [ba_assoc, ba_assoc, ba_assoc (Sp.kIx ++ x3[k].1 ++ Sp.kOpen)]
  refine congrArg (fun q => some (rStr q)) ?_
  unfold Sp.tabT
  rw [← ba_assoc (x0 ++ Sp.kOpen ++ Sp.joinB Sp.kCom (x1.map Sp.coT))]
  rfl
theorem e142_ok : Valid PP Γ e142 := valid_of ok (vcons e175_ok (vcons e172_ok vnil)) fun a ha => e142_core a.1 a.2.1 a.2.2.1 a.2.2.2 ha
end Go.Proofs.GR.T

