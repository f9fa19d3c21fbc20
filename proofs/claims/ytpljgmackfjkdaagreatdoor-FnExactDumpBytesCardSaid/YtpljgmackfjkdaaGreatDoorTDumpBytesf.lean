/-
  No statement is proved here: what the functions of the law answer, told as plain functions, and that the law's answer is always true.
  No condition.
-/
import Derived.Test.YtpljgmackfjkdaaGreatDoorTDumpBytese
set_option maxRecDepth 3000000
set_option maxHeartbeats 100000000
namespace Go.Proofs.GR.T
open Go Go.Proofs Go.Proofs.GR
theorem yes2Q {a b : Bool} (h : a = true) (h2 : b = true) : yes2 a b = true := by rw [h, h2]; rfl
theorem chkQ {ρ : Type} {b : Bool} (h : b = true) (k : Option ρ) : chk b k = k := by rw [h]; rfl
def Sp.replP (s old new : ByteArray) : Bool := yes2 (Nat.ble s.size 4294967280) (yes2 (Nat.ble 1 old.size) (Nat.ble (s.size + s.size * new.size) 140737488355328))
noncomputable def e1200 : Ent := { f := n1200, ins := [Sh.one cS, Sh.one cS, Sh.one cS], outs := [Sh.one cS], upd := [], pre := fun a => Sp.replP a.1 a.2.1 a.2.2, spec := fun a => Sp.repl a.1 a.2.1 a.2.2, wrt := fun _ => () }
theorem e1200_ok : Valid PP Γ e1200 := fun a ha => by
  obtain ⟨h1, h2⟩ := yes2_true ha
  obtain ⟨h2, h3⟩ := yes2_true h2
  have h1 := Nat.le_of_ble_eq_true h1
  have h2 := Nat.le_of_ble_eq_true h2
  have h3 := Nat.le_of_ble_eq_true h3
  have hc := Lib.countB_le a.2.1 h2 a.1.size a.1 (Nat.le_refl _)
  exact repl1200 a.1 a.2.1 a.2.2 (by omega) h2 (Nat.le_trans (Nat.add_le_add_left (Nat.mul_le_mul_right _ hc) _) h3)
noncomputable def f1400_L0 (n m0 : Nat) (y0 : List (Int × Int × ByteArray)) (y1 y2 : Int) (y3 : List Int) : Option Res := loopAt Γ (orc [e164, e167, e1200]) n (122 : Nat) (0 : Nat) [] [Pth.r, Pth.r, Pth.l, Pth.r, Pth.b] m0 (St.mk (ZN 3 (Slot.val (Val.one (Cell.own (0 : Nat))) :: ZN 3 (ZS (Zi.pair (Zi.pair Ty.str)).slice y0 :: ZS Zi y1 :: ZS Zi y2 :: ZN 44 []))) [AObj.row (Ty.int IntKind.u8) y3 true])
theorem f1400_L0_step (n m0 : Nat) (y0 : List (Int × Int × ByteArray)) (y1 y2 : Int) (y3 : List Int) : f1400_L0 n (m0 + 1) y0 y1 y2 y3 = bif decide (y2 < y1) then chk (decide ((0 : Int) ≤ y2) && decide (y2 < (↑y0.length : Int))) (chk (decide ((y3.length + [IntKind.u8.wrap (y0.getD y2.toNat ((0 : Int), (0 : Int), ByteArray.mk #[])).1].length) * (1 : Nat) ≤ (140737488355328 : Nat))) (bif (y0.getD y2.toNat ((0 : Int), (0 : Int), ByteArray.mk #[])).1 == (1 : Int) then chk (decide (((y3 ++ [IntKind.u8.wrap (y0.getD y2.toNat ((0 : Int), (0 : Int), ByteArray.mk #[])).1]).length + [IntKind.u8.wrap (y0.getD y2.toNat ((0 : Int), (0 : Int), ByteArray.mk #[])).2.1].length) * (1 : Nat) ≤ (140737488355328 : Nat))) (f1400_L0 n m0 y0 y1 (IntKind.i64.wrap (y2 + (1 : Int))) (y3 ++ [IntKind.u8.wrap (y0.getD y2.toNat ((0 : Int), (0 : Int), ByteArray.mk #[])).1] ++ [IntKind.u8.wrap (y0.getD y2.toNat ((0 : Int), (0 : Int), ByteArray.mk #[])).2.1])) else bif (y0.getD y2.toNat ((0 : Int), (0 : Int), ByteArray.mk #[])).1 == (2 : Int) then chk (Sp.few (8 : Int)) (chk (decide (((y3 ++ [IntKind.u8.wrap (y0.getD y2.toNat ((0 : Int), (0 : Int), ByteArray.mk #[])).1]).length + (Sp.high (IntKind.u64.wrap (↑(BitVec.ofInt (64 : Nat) (IntKind.u64.wrap (y0.getD y2.toNat ((0 : Int), (0 : Int), ByteArray.mk #[])).2.1) ^^^ BitVec.ofInt (64 : Nat) (9223372036854775808 : Int)).toNat : Int)) (8 : Int)).length) * (1 : Nat) ≤ (140737488355328 : Nat))) (f1400_L0 n m0 y0 y1 (IntKind.i64.wrap (y2 + (1 : Int))) (y3 ++ [IntKind.u8.wrap (y0.getD y2.toNat ((0 : Int), (0 : Int), ByteArray.mk #[])).1] ++ Sp.high (IntKind.u64.wrap (↑(BitVec.ofInt (64 : Nat) (IntKind.u64.wrap (y0.getD y2.toNat ((0 : Int), (0 : Int), ByteArray.mk #[])).2.1) ^^^ BitVec.ofInt (64 : Nat) (9223372036854775808 : Int)).toNat : Int)) (8 : Int)))) else bif (Sp.f167 (y0.getD y2.toNat ((0 : Int), (0 : Int), ByteArray.mk #[])).1).1 then chk (Sp.replP (y0.getD y2.toNat ((0 : Int), (0 : Int), ByteArray.mk #[])).2.2 (ByteArray.mk #[0]) (ByteArray.mk #[0, 255])) (chk (decide (((y3 ++ [IntKind.u8.wrap (y0.getD y2.toNat ((0 : Int), (0 : Int), ByteArray.mk #[])).1]).length + (strBytes (Sp.repl (y0.getD y2.toNat ((0 : Int), (0 : Int), ByteArray.mk #[])).2.2 (ByteArray.mk #[0]) (ByteArray.mk #[0, 255]))).length) * (1 : Nat) ≤ (140737488355328 : Nat))) (chk (decide (((y3 ++ [IntKind.u8.wrap (y0.getD y2.toNat ((0 : Int), (0 : Int), ByteArray.mk #[])).1] ++ strBytes (Sp.repl (y0.getD y2.toNat ((0 : Int), (0 : Int), ByteArray.mk #[])).2.2 (ByteArray.mk #[0]) (ByteArray.mk #[0, 255]))).length + (2 : Nat)) * (1 : Nat) ≤ (140737488355328 : Nat))) (f1400_L0 n m0 y0 y1 (IntKind.i64.wrap (y2 + (1 : Int))) (y3 ++ [IntKind.u8.wrap (y0.getD y2.toNat ((0 : Int), (0 : Int), ByteArray.mk #[])).1] ++ strBytes (Sp.repl (y0.getD y2.toNat ((0 : Int), (0 : Int), ByteArray.mk #[])).2.2 (ByteArray.mk #[0]) (ByteArray.mk #[0, 255])) ++ [(0 : Int), (1 : Int)])))) else f1400_L0 n m0 y0 y1 (IntKind.i64.wrap (y2 + (1 : Int))) (y3 ++ [IntKind.u8.wrap (y0.getD y2.toNat ((0 : Int), (0 : Int), ByteArray.mk #[])).1]))) else some (Res.mk [XV.mk false [X.c (X0.row (Ty.int IntKind.u8) y3 true)]] []) := by kernel_rfl
theorem f1400_raw (n : Nat) (x0 : List (Int × Int × ByteArray)) : abody Γ (orc [e164, e167, e1200]) n 122 [ZX (Zi.pair (Zi.pair Ty.str)).slice x0] = f1400_L0 n n x0 (↑x0.length : Int) (0 : Int) [] := by kernel_rfl

def Sp.vN (v : V3) : Bool := yes2 (Sp.vOK v) (yes2 (decide (-9223372036854775808 ≤ v.2.1)) (decide (v.2.1 < 9223372036854775808)))
def Sp.kbP (xs : List V3) : Bool := yes2 (Nat.ble xs.length 100) (Sp.allW Sp.vN xs)
theorem vN_is {v : V3} (h : Sp.vN v = true) : Sp.vOK v = true ∧ okN v := by
  obtain ⟨h1, h2⟩ := yes2_true h
  obtain ⟨h2, h3⟩ := yes2_true h2
  exact ⟨h1, of_decide_eq_true h2, of_decide_eq_true h3⟩
theorem size_60 {v : V3} (h : Sp.vOK v = true) (hk : v.1 = 3 ∨ v.1 = 4) : v.2.2.size ≤ 60 := by
  unfold Sp.vOK Sp.f136 at h
  rcases hk with hk | hk
  · rw [hk] at h
    cases hn : v.2.1 == 0 with
    | false => rw [hn] at h; cases h
    | true =>
      rw [hn] at h
      have : decide ((v.2.2.size : Int) ≤ 60) = true := h
      have := of_decide_eq_true this
      omega
  · rw [hk] at h
    cases hn : v.2.1 == 0 with
    | false => rw [hn] at h; cases h
    | true =>
      rw [hn] at h
      have : decide ((v.2.2.size : Int) ≤ 60) = true := h
      have := of_decide_eq_true this
      omega
theorem kvK_len {v : V3} (h : Sp.vOK v = true) : (Sp.kv1 v).length ≤ 200 := by
  unfold Sp.kv1
  rcases vOK_is h with q | q | q | q
  · rw [q.1]; show ([IntKind.u8.wrap 0] : List Int).length ≤ 200; simp
  · rw [q.1]; show ([IntKind.u8.wrap 1, IntKind.u8.wrap v.2.1] : List Int).length ≤ 200; simp
  · rw [q.1]; show (IntKind.u8.wrap 2 :: Sp.key8 v.2.1).length ≤ 200; unfold Sp.key8; simp
  · have hs := size_60 h q.1
    have he := esc_len (strBytes v.2.2)
    rw [strBytes_len] at he
    rcases q.1 with k | k <;> rw [k]
    · show (IntKind.u8.wrap 3 :: (Sp.esc (strBytes v.2.2) ++ [0, 1])).length ≤ 200
      rw [List.length_cons, List.length_append]
      show (Sp.esc (strBytes v.2.2)).length + 2 + 1 ≤ 200
      omega
    · show (IntKind.u8.wrap 4 :: (Sp.esc (strBytes v.2.2) ++ [0, 1])).length ≤ 200
      rw [List.length_cons, List.length_append]
      show (Sp.esc (strBytes v.2.2)).length + 2 + 1 ≤ 200
      omega
theorem room {n : Nat} (h : n ≤ 140737488355328) : decide (n * 1 ≤ 140737488355328) = true := decide_eq_true (by omega)
theorem f1400_loop (n : Nat) (xs : List V3) (hl : xs.length ≤ 100) (hx : ∀ v ∈ xs, Sp.vOK v = true ∧ okN v) : ∀ (d k m : Nat) (acc : List Int), k + d = xs.length → d < m → acc.length ≤ 200 * k → f1400_L0 n m xs xs.length k acc = some (rB (acc ++ Sp.key (xs.drop k))) := by
  intro d
  induction d with
  | zero =>
    intro k m acc hk hm _
    obtain ⟨m, rfl⟩ := succ_of hm
    rw [f1400_L0_step, nat_ge (show xs.length ≤ k by omega), cond_false, List.drop_eq_nil_of_le (by omega), show Sp.key [] = [] by rw [Sp.key], List.append_nil]
  | succ d ih =>
    intro k m acc hk hm ha
    obtain ⟨m, rfl⟩ := succ_of hm
    have h : k < xs.length := by omega
    obtain ⟨hv, hn⟩ := hx xs[k] (List.getElem_mem h)
    have hlen := kvK_len hv
    rw [f1400_L0_step, nat_lt h, cond_true, guard0, chkT, getD_nat xs k _ h, next64 h (by omega), List.drop_eq_getElem_cons h, show Sp.key (xs[k] :: xs.drop (k + 1)) = Sp.kv1 xs[k] ++ Sp.key (xs.drop (k + 1)) by rw [Sp.key], ← List.append_assoc]
    have fin : ∀ r, r = acc ++ Sp.kv1 xs[k] → f1400_L0 n m xs xs.length ((k + 1 : Nat) : Int) r = some (rB (acc ++ Sp.kv1 xs[k] ++ Sp.key (xs.drop (k + 1)))) := fun r e => by
      rw [e]
      exact ih (k + 1) m _ (by omega) (by omega) (by rw [List.length_append]; omega)
    generalize xs[k] = v at hv hn hlen fin ⊢
    have r1 : decide ((acc.length + [IntKind.u8.wrap v.1].length) * 1 ≤ 140737488355328) = true := room (by rw [List.length_cons, List.length_nil]; omega)
    rw [r1, chkT]
    rcases vOK_is hv with q | q | q | q
    · rw [q.1]
      exact fin _ (by unfold Sp.kv1; rw [q.1]; rfl)
    · rw [q.1]
      refine (chkQ (room (by rw [List.length_append]; simp only [List.length_cons, List.length_nil]; omega)) _).trans ?_
      exact fin _ (by unfold Sp.kv1; rw [q.1, List.append_assoc]; rfl)
    · rw [q.1]
      refine (chkQ (rfl : Sp.few 8 = true) _).trans ?_
      rw [high_key8 hn.1 hn.2]
      refine (chkQ (room (by rw [List.length_append]; unfold Sp.key8; simp only [List.length_cons, List.length_nil]; omega)) _).trans ?_
      exact fin _ (by unfold Sp.kv1; rw [q.1, List.append_assoc]; rfl)
    · have hs := size_60 hv q.1
      have he := esc_len (strBytes v.2.2)
      rw [strBytes_len] at he
      have hr : Sp.replP v.2.2 (ByteArray.mk #[0]) (ByteArray.mk #[0, 255]) = true := by
        unfold Sp.replP
        refine yes2Q (Nat.ble_eq_true_of_le (by omega)) (yes2Q rfl (Nat.ble_eq_true_of_le ?_))
        show v.2.2.size + v.2.2.size * 2 ≤ 140737488355328
        omega
      rw [hr, repl_esc, chkT]
      have g1 : decide (((acc ++ [IntKind.u8.wrap v.1]).length + (Sp.esc (strBytes v.2.2)).length) * 1 ≤ 140737488355328) = true := room (by rw [List.length_append]; simp only [List.length_cons, List.length_nil]; omega)
      have g2 : decide (((acc ++ [IntKind.u8.wrap v.1] ++ Sp.esc (strBytes v.2.2)).length + 2) * 1 ≤ 140737488355328) = true := room (by rw [List.length_append, List.length_append]; simp only [List.length_cons, List.length_nil]; omega)
      rw [g1, g2, chkT, chkT]
      rcases q.1 with k3 | k4
      · rw [k3]
        exact fin _ (by unfold Sp.kv1; rw [k3, List.append_assoc, List.append_assoc]; rfl)
      · rw [k4]
        exact fin _ (by unfold Sp.kv1; rw [k4, List.append_assoc, List.append_assoc]; rfl)
noncomputable def e1400 : Ent := { f := n1400, ins := [Sh.one (cL tV)], outs := [Sh.one (C0.row tB)], upd := [], pre := fun a => Sp.kbP a, spec := fun a => Sp.key a, wrt := fun _ => () }
theorem e1400_core (xs : List V3) (ha : Sp.kbP xs = true) : ∃ n, abody Γ (orc [e164, e167, e1200]) n n1400 (e1400.args xs) = some (rB (Sp.key xs)) := by
  obtain ⟨h1, h2⟩ := yes2_true ha
  have h1 := Nat.le_of_ble_eq_true h1
  have h2 := allW_mem.1 h2
  refine ⟨xs.length + 1, (f1400_raw _ xs).trans ?_⟩
  refine (f1400_loop _ xs h1 (fun v hv => vN_is (h2 v hv)) xs.length 0 _ [] (Nat.zero_add _) (Nat.lt_succ_self _) (Nat.zero_le _)).trans ?_
  rw [List.nil_append, List.drop_zero]
theorem e1400_ok : Valid PP Γ e1400 := valid_of ok (vcons e164_ok (vcons e167_ok (vcons e1200_ok vnil))) fun a ha => e1400_core a ha
end Go.Proofs.GR.T

