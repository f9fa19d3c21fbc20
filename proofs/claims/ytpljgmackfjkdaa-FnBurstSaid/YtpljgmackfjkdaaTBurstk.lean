/-
  No statement is proved here: what the functions of the law answer, told as plain functions, and that the law's answer is always true.
  No condition.
-/
import Derived.Test.YtpljgmackfjkdaaTBurstj
set_option maxRecDepth 3000000
set_option maxHeartbeats 100000000
namespace Go.Proofs.GR.T
open Go Go.Proofs Go.Proofs.GR
noncomputable def f146_L0 (n m0 : Nat) (y0 : List (List (Int × Int × ByteArray))) (y1 : List (Int × Int × ByteArray)) (y2 y3 : Int) : Option Res := loopAt Γ (orc [e88]) n (88 : Nat) (0 : Nat) [] [Pth.r, Pth.r, Pth.l, Pth.b] m0 (St.mk (ZS (Zi.pair (Zi.pair Ty.str)).slice.slice y0 :: ZS (Zi.pair (Zi.pair Ty.str)).slice y1 :: ZS Zi y2 :: ZN 4 (ZS Zi y3 :: ZN 49 [])) [])
theorem f146_raw (n : Nat) (x0 : List (List (Int × Int × ByteArray))) (x1 : List (Int × Int × ByteArray)) (x2 : Int) : abody Γ (orc [e88]) n 88 [ZX (Zi.pair (Zi.pair Ty.str)).slice.slice x0, ZX (Zi.pair (Zi.pair Ty.str)).slice x1, ZX Zi x2] = f146_L0 n n x0 x1 x2 (0 : Int) := by kernel_rfl

def Sp.keyS (key : Int) (r : VRw) : VRw := List.take (key.toNat - 0) (List.drop 0 r)
def Sp.pos13 (key : Int) (row : VRw) : List VRw → Nat
  | [] => 0
  | r :: rs => bif decide (Sp.rows (Sp.keyS key r) (Sp.keyS key row) < (0 : Int)) then Sp.pos13 key row rs + 1 else 0
def Sp.insAt (rs : List VRw) (row : VRw) (key : Int) (k : Nat) : List VRw := bif decide (k < rs.length) then (bif Sp.rows (Sp.keyS key (rs.getD k [])) (Sp.keyS key row) == (0 : Int) then rs else rs.take k ++ [row] ++ rs.drop k) else rs.take k ++ [row] ++ rs.drop k
def Sp.insV (rs : List VRw) (row : VRw) (key : Int) : List VRw := Sp.insAt rs row key (Sp.pos13 key row rs)
theorem insAt_mem {rs : List VRw} {row : VRw} {key : Int} {k : Nat} : (∀ x ∈ Sp.insAt rs row key k, x ∈ rs ∨ x = row) ∧ (Sp.insAt rs row key k).length ≤ rs.length + 1 := by
  have h2 : (∀ x ∈ rs.take k ++ [row] ++ rs.drop k, x ∈ rs ∨ x = row) ∧ (rs.take k ++ [row] ++ rs.drop k).length ≤ rs.length + 1 := by
    refine ⟨fun x hx => ?_, ?_⟩
    · rcases List.mem_append.1 hx with hx | hx
      · rcases List.mem_append.1 hx with hx | hx
        · exact .inl (List.mem_of_mem_take hx)
        · exact .inr (List.mem_singleton.1 hx)
      · exact .inl (List.mem_of_mem_drop hx)
    · rw [List.length_append, List.length_append, List.length_take, List.length_drop, List.length_singleton]; omega
  unfold Sp.insAt
  cases decide (k < rs.length) with
  | false => exact h2
  | true =>
    cases Sp.rows (Sp.keyS key (rs.getD k [])) (Sp.keyS key row) == (0 : Int) with
    | false => exact h2
    | true => exact ⟨fun x hx => .inl hx, Nat.le_succ _⟩
abbrev rRs (l : List VRw) : Res := Res.mk [ZX (Ty.slice tRw) l] []
noncomputable def Sp.insK (rs : List VRw) (row : VRw) (k : Int) : Option Res := chk (decide ((0 : Int) ≤ k) && decide (k ≤ (rs.length : Int))) (chk (decide (((0 : Nat) + (List.take (k.toNat - 0) (List.drop 0 rs)).length) * 24 ≤ 140737488355328)) (chk (decide ((([] ++ List.take (k.toNat - 0) (List.drop 0 rs)).length + 1) * 24 ≤ 140737488355328)) (chk (decide ((0 : Int) ≤ k) && decide (k ≤ (rs.length : Int))) (chk (decide ((([] ++ List.take (k.toNat - 0) (List.drop 0 rs) ++ [row]).length + (List.take (rs.length - k.toNat) (List.drop k.toNat rs)).length) * 24 ≤ 140737488355328)) (some (rRs ([] ++ List.take (k.toNat - 0) (List.drop 0 rs) ++ [row] ++ List.take (rs.length - k.toNat) (List.drop k.toNat rs))))))))
noncomputable def Sp.insL (rs : List VRw) (row : VRw) (key k : Int) : Option Res := bif decide (k < (rs.length : Int)) then chk (decide ((0 : Int) ≤ k) && decide (k < (rs.length : Int))) (chk (decide ((0 : Int) ≤ key) && decide (key ≤ ((rs.getD k.toNat []).length : Int))) (chk (decide ((0 : Int) ≤ key) && decide (key ≤ (row.length : Int))) (bif Sp.rows (Sp.keyS key (rs.getD k.toNat [])) (Sp.keyS key row) == (0 : Int) then some (rRs rs) else Sp.insK rs row k))) else Sp.insK rs row k
theorem f146_L0_at (n m : Nat) (rs : List VRw) (row : VRw) (key k : Int) : f146_L0 n (m + 1) rs row key k = bif decide (k < (rs.length : Int)) then chk (decide ((0 : Int) ≤ k) && decide (k < (rs.length : Int))) (chk (decide ((0 : Int) ≤ key) && decide (key ≤ ((rs.getD k.toNat []).length : Int))) (chk (decide ((0 : Int) ≤ key) && decide (key ≤ (row.length : Int))) (bif decide (Sp.rows (Sp.keyS key (rs.getD k.toNat [])) (Sp.keyS key row) < (0 : Int)) then f146_L0 n m rs row key (IntKind.i64.wrap (k + 1)) else Sp.insL rs row key k))) else Sp.insL rs row key k := by kernel_rfl
theorem insK_is {rs : List VRw} {row : VRw} {k : Nat} (hk : k ≤ rs.length) (hl : rs.length ≤ 1000) : Sp.insK rs row k = some (rRs (rs.take k ++ [row] ++ rs.drop k)) := by
  have g : (decide ((0 : Int) ≤ (k : Int)) && decide ((k : Int) ≤ (rs.length : Int))) = true := by rw [decide_eq_true (show (0 : Int) ≤ (k : Int) by omega), decide_eq_true (show (k : Int) ≤ (rs.length : Int) by omega)]; rfl
  have e1 : List.take ((k : Int).toNat - 0) (List.drop 0 rs) = rs.take k := rfl
  have e2 : List.take (rs.length - (k : Int).toNat) (List.drop (k : Int).toNat rs) = rs.drop k := List.take_of_length_le (by rw [List.length_drop]; exact Nat.le_refl _)
  have l1 : (rs.take k).length = k := by rw [List.length_take]; omega
  have l2 : (rs.drop k).length = rs.length - k := List.length_drop
  unfold Sp.insK
  rw [g, chkT, chkT, e1, e2]
  refine (chkQ (decide_eq_true (by omega)) _).trans ?_
  refine (chkQ (decide_eq_true (by rw [List.nil_append]; omega)) _).trans ?_
  refine (chkQ (decide_eq_true (by rw [List.nil_append, List.length_append, List.length_singleton]; omega)) _).trans ?_
  rfl
def Sp.longR (key : Int) (r : VRw) : Bool := (decide ((0 : Int) ≤ key) && decide (key ≤ (r.length : Int)))
theorem insL_is {rs : List VRw} {row : VRw} {key : Int} {k : Nat} (hk : k ≤ rs.length) (hl : rs.length ≤ 1000) (h1 : ∀ r ∈ rs, Sp.longR key r = true) (h2 : Sp.longR key row = true) : Sp.insL rs row key k = some (rRs (Sp.insAt rs row key k)) := by
  unfold Sp.insL Sp.insAt
  have h2 : (decide ((0 : Int) ≤ key) && decide (key ≤ (row.length : Int))) = true := h2
  by_cases h : k < rs.length
  · have h3 : (decide ((0 : Int) ≤ key) && decide (key ≤ (rs[k].length : Int))) = true := h1 _ (List.getElem_mem h)
    have e : rs.getD k [] = rs[k] := by rw [List.getD, List.getElem?_eq_getElem h, Option.getD_some]
    rw [nat_lt h, cond_true, guard0, chkT, getD_nat rs k _ h, h3, chkT, h2, chkT, decide_eq_true h, cond_true, e]
    cases Sp.rows (Sp.keyS key rs[k]) (Sp.keyS key row) == (0 : Int) with
    | true => rfl
    | false => rw [cond_false, cond_false]; exact insK_is hk hl
  · rw [nat_ge (show rs.length ≤ k by omega), cond_false, decide_eq_false h, cond_false]
    exact insK_is hk hl
theorem f146_loop (n : Nat) (rs : List VRw) (row : VRw) (key : Int) (hl : rs.length ≤ 1000) (h1 : ∀ r ∈ rs, Sp.longR key r = true) (h2 : Sp.longR key row = true) : ∀ (d k m : Nat), k + d = rs.length → d < m → f146_L0 n m rs row key k = some (rRs (Sp.insAt rs row key (k + Sp.pos13 key row (rs.drop k)))) := by
  intro d
  induction d with
  | zero =>
    intro k m hk hm
    obtain ⟨m, rfl⟩ := succ_of hm
    rw [f146_L0_at, nat_ge (show rs.length ≤ k by omega), cond_false, List.drop_of_length_le (show rs.length ≤ k by omega), Sp.pos13, insL_is (by omega) hl h1 h2]
    rfl
  | succ d ih =>
    intro k m hk hm
    obtain ⟨m, rfl⟩ := succ_of hm
    have h : k < rs.length := by omega
    have h3 : (decide ((0 : Int) ≤ key) && decide (key ≤ (rs[k].length : Int))) = true := h1 _ (List.getElem_mem h)
    have h4 : (decide ((0 : Int) ≤ key) && decide (key ≤ (row.length : Int))) = true := h2
    rw [f146_L0_at, nat_lt h, cond_true, guard0, chkT, getD_nat rs k _ h, h3, chkT, h4, chkT, next64 h (by omega), ih (k + 1) m (by omega) (by omega), List.drop_eq_getElem_cons h, Sp.pos13, insL_is (by omega) hl h1 h2]
    cases decide (Sp.rows (Sp.keyS key rs[k]) (Sp.keyS key row) < (0 : Int)) with
    | true => rw [cond_true, cond_true, show k + 1 + Sp.pos13 key row (rs.drop (k + 1)) = k + (Sp.pos13 key row (rs.drop (k + 1)) + 1) by omega]
    | false => rw [cond_false, cond_false, Nat.add_zero]
def Sp.insP (rs : List VRw) (row : VRw) (key : Int) : Bool := yes2 (Nat.ble rs.length 1000) (yes2 (Sp.allW (Sp.longR key) rs) (Sp.longR key row))
noncomputable def e146 : Ent := { f := n146, ins := [Sh.one (cL tRw), Sh.one (cL tV), Sh.one cI], outs := [Sh.one (cL tRw)], upd := [], pre := fun a => Sp.insP a.1 a.2.1 a.2.2, spec := fun a => Sp.insV a.1 a.2.1 a.2.2, wrt := fun _ => () }
theorem e146_core (rs : List VRw) (row : VRw) (key : Int) (h : Sp.insP rs row key = true) : ∃ n, abody Γ (orc [e88]) n n146 (e146.args (rs, row, key)) = some (rRs (Sp.insV rs row key)) := by
  obtain ⟨h1, h2⟩ := yes2_true h
  obtain ⟨h2, h3⟩ := yes2_true h2
  refine ⟨rs.length + 1, (f146_raw _ rs row key).trans ((f146_loop _ rs row key (Nat.le_of_ble_eq_true h1) (allW_mem.1 h2) h3 rs.length 0 _ (Nat.zero_add _) (Nat.lt_succ_self _)).trans ?_)⟩
  rw [Nat.zero_add, List.drop_zero]
  rfl
theorem e146_ok : Valid PP Γ e146 := valid_of ok (vcons e88_ok vnil) fun a ha => e146_core a.1 a.2.1 a.2.2 ha
end Go.Proofs.GR.T

