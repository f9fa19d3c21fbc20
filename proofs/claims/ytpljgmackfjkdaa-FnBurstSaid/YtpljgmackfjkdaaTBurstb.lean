/-
  No statement is proved here: what the functions of the law answer, told as plain functions, and that the law's answer is always true.
  No condition.
-/
import Derived.Test.YtpljgmackfjkdaaTBursta
set_option maxRecDepth 100000
set_option maxHeartbeats 100000000
namespace Go.Proofs.GR.T
open Go Go.Proofs Go.Proofs.GR
abbrev tCo : Ty := .pair .str (.pair (.int .i64) .bool)
abbrev VCo := ByteArray × Int × Bool
abbrev tIx : Ty := .pair .str (.slice (.int .i64))
abbrev VIx := ByteArray × List Int
abbrev tTb : Ty := .pair .str (.pair (.slice tCo) (.pair (.int .i64) (.slice tIx)))
abbrev VTb := ByteArray × List VCo × Int × List VIx
abbrev tIn : Ty := .int .i64
def Sp.eqN (x y : Int) : Bool := x == y
end Go.Proofs.GR.T

namespace Go.Proofs.GR.T
open Go Go.Proofs Go.Proofs.GR
theorem any_loop {α : Type} {ρ : Type} {p : α → Bool} {R : Bool → ρ} (xs : List α) (L : Nat → Int → Option ρ)
    (hend : ∀ m (k : Nat), xs.length ≤ k → L (m + 1) k = some (R false))
    (hstep : ∀ m (k : Nat) (h : k < xs.length), L (m + 1) k = bif p xs[k] then some (R true) else L m ((k + 1 : Nat) : Int)) :
    ∀ (d k m : Nat), k + d = xs.length → d < m → L m k = some (R (Sp.anyW p (xs.drop k))) := by
  intro d
  induction d with
  | zero =>
    intro k m hk hm
    obtain ⟨m, rfl⟩ := succ_of hm
    rw [hend m k (by omega), List.drop_of_length_le (by omega)]
    rfl
  | succ d ih =>
    intro k m hk hm
    obtain ⟨m, rfl⟩ := succ_of hm
    rw [hstep m k (by omega), ih (k + 1) m (by omega) (by omega), List.drop_eq_getElem_cons (show k < xs.length by omega)]
    rw [Sp.anyW]
    cases p xs[k] <;> rfl
def Sp.allP {α : Type} (p : List α → α → Bool) : List α → List α → Bool
  | _, [] => true
  | pre, x :: r => bif !p pre x then false else Sp.allP p (pre ++ [x]) r
theorem take_succ_get {α : Type} {xs : List α} {k : Nat} (h : k < xs.length) : xs.take (k + 1) = xs.take k ++ [xs[k]] := List.take_succ_eq_append_getElem h
theorem allP_loop {α : Type} {ρ : Type} {p : List α → α → Bool} {z : Option ρ} {F : Option ρ} (xs : List α) (L : Nat → Int → Option ρ)
    (hend : ∀ m (k : Nat), xs.length ≤ k → L (m + 1) k = z)
    (hstep : ∀ m (k : Nat) (h : k < xs.length), Sp.allP p [] (xs.take k) = true → L (m + 1) k = bif !p (xs.take k) xs[k] then F else L m ((k + 1 : Nat) : Int)) :
    ∀ (d k m : Nat), k + d = xs.length → d < m → Sp.allP p [] (xs.take k) = true → L m k = bif Sp.allP p (xs.take k) (xs.drop k) then z else F := by
  have happ : ∀ (r : List α) (pre : List α) (x : α), Sp.allP p pre (r ++ [x]) = (bif Sp.allP p pre r then p (pre ++ r) x else false) := by
    intro r
    induction r with
    | nil =>
      intro pre x
      show (bif !p pre x then false else true) = (bif true then p (pre ++ []) x else false)
      rw [List.append_nil, cond_true]
      cases p pre x <;> rfl
    | cons y r ih =>
      intro pre x
      rw [List.cons_append, Sp.allP, Sp.allP, ih, List.append_assoc, List.singleton_append]
      cases p pre y <;> rfl
  intro d
  induction d with
  | zero =>
    intro k m hk hm _
    obtain ⟨m, rfl⟩ := succ_of hm
    rw [hend m k (by omega), List.drop_of_length_le (by omega)]
    rfl
  | succ d ih =>
    intro k m hk hm hp
    obtain ⟨m, rfl⟩ := succ_of hm
    have h : k < xs.length := by omega
    rw [hstep m k h hp, List.drop_eq_getElem_cons h, Sp.allP]
    cases hc : p (xs.take k) xs[k] with
    | false => rfl
    | true =>
      rw [Bool.not_true, cond_false, cond_false, ih (k + 1) m (by omega) (by omega) (by rw [take_succ_get h, happ, hp, List.nil_append, hc]; rfl), take_succ_get h]
theorem allP_end {α : Type} {ρ : Type} {p : List α → α → Bool} {z : Option ρ} {F : Option ρ} (xs : List α) (L : Nat → Int → Option ρ)
    (hend : ∀ m (k : Nat), xs.length ≤ k → L (m + 1) k = z)
    (hstep : ∀ m (k : Nat) (h : k < xs.length), Sp.allP p [] (xs.take k) = true → L (m + 1) k = bif !p (xs.take k) xs[k] then F else L m ((k + 1 : Nat) : Int)) :
    ∀ m, xs.length < m → L m 0 = bif Sp.allP p [] xs then z else F := fun m hm => by
  have := allP_loop xs L hend hstep xs.length 0 m (Nat.zero_add _) hm rfl
  rw [List.take_zero, List.drop_zero] at this
  exact this
end Go.Proofs.GR.T

set_option maxRecDepth 100000
set_option maxHeartbeats 100000000
namespace Go.Proofs.GR.T
open Go Go.Proofs Go.Proofs.GR
def Sp.nmCo (t : ByteArray) (x : VCo) : Bool := x.1.toList == t.toList
def Sp.nmIx (t : ByteArray) (x : VIx) : Bool := x.1.toList == t.toList
noncomputable def f195_L0 (n m0 : Nat) (y0 : List (ByteArray × Int × Bool)) (y1 : ByteArray) (y2 : Int) : Option Res := loopAt Γ (orc []) n (137 : Nat) (0 : Nat) [] [Pth.r, Pth.l, Pth.r, Pth.b] m0 (St.mk (ZS (Ty.str.pair (Zi.pair Ty.bool)).slice y0 :: ZS Ty.str y1 :: ZN 3 (ZS Zi y2 :: ZN 14 [])) [])
theorem f195_L0_step (n m0 : Nat) (y0 : List (ByteArray × Int × Bool)) (y1 : ByteArray) (y2 : Int) : f195_L0 n (m0 + 1) y0 y1 y2 = bif decide (y2 < (↑y0.length : Int)) then chk (decide ((0 : Int) ≤ y2) && decide (y2 < (↑y0.length : Int))) (bif (y0.getD y2.toNat (ByteArray.mk #[], (0 : Int), false)).1.toList == y1.toList then ZJ y2 else f195_L0 n m0 y0 y1 (IntKind.i64.wrap (y2 + (1 : Int)))) else ZJ (-1 : Int) := by kernel_rfl
theorem f195_raw (n : Nat) (x0 : List (ByteArray × Int × Bool)) (x1 : ByteArray) : abody Γ (orc []) n 137 [ZX (Ty.str.pair (Zi.pair Ty.bool)).slice x0, ZX Ty.str x1] = f195_L0 n n x0 x1 (0 : Int) := by kernel_rfl

noncomputable def f197_L0 (n m0 : Nat) (y0 : List (ByteArray × List Int)) (y1 : ByteArray) (y2 : Int) : Option Res := loopAt Γ (orc []) n (139 : Nat) (0 : Nat) [] [Pth.r, Pth.l, Pth.r, Pth.b] m0 (St.mk (ZS (Ty.str.pair Zi.slice).slice y0 :: ZS Ty.str y1 :: ZN 3 (ZS Zi y2 :: ZN 14 [])) [])
theorem f197_L0_step (n m0 : Nat) (y0 : List (ByteArray × List Int)) (y1 : ByteArray) (y2 : Int) : f197_L0 n (m0 + 1) y0 y1 y2 = bif decide (y2 < (↑y0.length : Int)) then chk (decide ((0 : Int) ≤ y2) && decide (y2 < (↑y0.length : Int))) (bif (y0.getD y2.toNat (ByteArray.mk #[], [])).1.toList == y1.toList then ZJ y2 else f197_L0 n m0 y0 y1 (IntKind.i64.wrap (y2 + (1 : Int)))) else ZJ (-1 : Int) := by kernel_rfl
theorem f197_raw (n : Nat) (x0 : List (ByteArray × List Int)) (x1 : ByteArray) : abody Γ (orc []) n 139 [ZX (Ty.str.pair Zi.slice).slice x0, ZX Ty.str x1] = f197_L0 n n x0 x1 (0 : Int) := by kernel_rfl

noncomputable def f210_L0 (n m0 : Nat) (y0 : List Int) (y1 y2 : Int) : Option Res := loopAt Γ (orc []) n (146 : Nat) (0 : Nat) [] [Pth.r, Pth.l, Pth.r, Pth.b] m0 (St.mk (ZS Zi.slice y0 :: ZS Zi y1 :: ZN 3 (ZS Zi y2 :: ZN 12 [])) [])
theorem f210_L0_step (n m0 : Nat) (y0 : List Int) (y1 y2 : Int) : f210_L0 n (m0 + 1) y0 y1 y2 = bif decide (y2 < (↑y0.length : Int)) then chk (decide ((0 : Int) ≤ y2) && decide (y2 < (↑y0.length : Int))) (bif y0.getD y2.toNat (0 : Int) == y1 then Zt else f210_L0 n m0 y0 y1 (IntKind.i64.wrap (y2 + (1 : Int)))) else Zf := by kernel_rfl
theorem f210_raw (n : Nat) (x0 : List Int) (x1 : Int) : abody Γ (orc []) n 146 [ZX Zi.slice x0, ZX Zi x1] = f210_L0 n n x0 x1 (0 : Int) := by kernel_rfl

noncomputable def e195 : Ent := { f := n195, ins := [Sh.one (cL tCo), Sh.one cS], outs := [Sh.one cI], upd := [], pre := fun _ => true, spec := fun a => Sp.idx (Sp.nmCo a.2) a.1 0, wrt := fun _ => () }
theorem e195_core (xs : List VCo) (t : ByteArray) (hl : xs.length ≤ maxLen) : ∃ n, abody Γ (orc []) n n195 [ZX (Ty.slice tCo) xs, ZX Ty.str t] = some (rI (Sp.idx (Sp.nmCo t) xs 0)) := by
  have hl : xs.length ≤ 9223372036854775807 := hl
  refine ⟨xs.length + 1, (f195_raw _ xs t).trans ?_⟩
  refine idx_loop (p := Sp.nmCo t) (R := rI) xs (fun m k => f195_L0 (xs.length + 1) m xs t k) (fun m k hk => ?_) (fun m k h => ?_) xs.length 0 _ (Nat.zero_add _) (Nat.lt_succ_self _)
  · show f195_L0 _ _ _ _ _ = _
    rw [f195_L0_step, nat_ge hk, cond_false]
  · show f195_L0 _ _ _ _ _ = _
    rw [f195_L0_step, nat_lt h, cond_true, guard0, chkT, getD_nat xs k _ h, next64 h hl]
    rfl
theorem e195_ok : Valid PP Γ e195 := valid_len ok vnil fun a _ hl => e195_core a.1 a.2 (hl _ (List.mem_cons_self) _ (List.mem_cons_self)).1
noncomputable def e197 : Ent := { f := n197, ins := [Sh.one (cL tIx), Sh.one cS], outs := [Sh.one cI], upd := [], pre := fun _ => true, spec := fun a => Sp.idx (Sp.nmIx a.2) a.1 0, wrt := fun _ => () }
theorem e197_core (xs : List VIx) (t : ByteArray) (hl : xs.length ≤ maxLen) : ∃ n, abody Γ (orc []) n n197 [ZX (Ty.slice tIx) xs, ZX Ty.str t] = some (rI (Sp.idx (Sp.nmIx t) xs 0)) := by
  have hl : xs.length ≤ 9223372036854775807 := hl
  refine ⟨xs.length + 1, (f197_raw _ xs t).trans ?_⟩
  refine idx_loop (p := Sp.nmIx t) (R := rI) xs (fun m k => f197_L0 (xs.length + 1) m xs t k) (fun m k hk => ?_) (fun m k h => ?_) xs.length 0 _ (Nat.zero_add _) (Nat.lt_succ_self _)
  · show f197_L0 _ _ _ _ _ = _
    rw [f197_L0_step, nat_ge hk, cond_false]
  · show f197_L0 _ _ _ _ _ = _
    rw [f197_L0_step, nat_lt h, cond_true, guard0, chkT, getD_nat xs k _ h, next64 h hl]
    rfl
theorem e197_ok : Valid PP Γ e197 := valid_len ok vnil fun a _ hl => e197_core a.1 a.2 (hl _ (List.mem_cons_self) _ (List.mem_cons_self)).1
noncomputable def e210 : Ent := { f := n210, ins := [Sh.one (cL tIn), Sh.one cI], outs := [Sh.one cB], upd := [], pre := fun _ => true, spec := fun a => Sp.anyW (Sp.eqN a.2) a.1, wrt := fun _ => () }
theorem e210_core (xs : List Int) (t : Int) (hl : xs.length ≤ maxLen) : ∃ n, abody Γ (orc []) n n210 [ZX (Ty.slice tIn) xs, ZX tIn t] = some (rBo (Sp.anyW (Sp.eqN t) xs)) := by
  have hl : xs.length ≤ 9223372036854775807 := hl
  refine ⟨xs.length + 1, (f210_raw _ xs t).trans ?_⟩
  refine any_loop (p := Sp.eqN t) (R := rBo) xs (fun m k => f210_L0 (xs.length + 1) m xs t k) (fun m k hk => ?_) (fun m k h => ?_) xs.length 0 _ (Nat.zero_add _) (Nat.lt_succ_self _)
  · show f210_L0 _ _ _ _ _ = _
    rw [f210_L0_step, nat_ge hk, cond_false]
  · show f210_L0 _ _ _ _ _ = _
    rw [f210_L0_step, nat_lt h, cond_true, guard0, chkT, getD_nat xs k _ h, next64 h hl, show (xs[k] == t) = Sp.eqN t xs[k] from Bool.beq_comm ..]
theorem e210_ok : Valid PP Γ e210 := valid_len ok vnil fun a _ hl => e210_core a.1 a.2 (hl _ (List.mem_cons_self) _ (List.mem_cons_self)).1
noncomputable def f196_L0 (n m0 : Nat) (y0 : Int) (y1 : ByteArray) (y2 : List (ByteArray × Int × Bool)) (y3 : Int) (y4 : List (ByteArray × List Int)) (y5 : ByteArray) (y6 : List Int) : Option Res := loopAt Γ (orc [e194, e79, e210]) n (138 : Nat) (0 : Nat) [] [Pth.r, Pth.r, Pth.l, Pth.r, Pth.b] m0 (St.mk (Zn :: Zn :: Slot.val (Val.one (Cell.ptr (0 : Nat) (0 : Nat))) :: Slot.val (Val.one (Cell.ptr (1 : Nat) (0 : Nat))) :: Zn :: ZS Zi y0 :: ZN 49 []) [AObj.box (82 : Nat) [Cell.dat Ty.str y1, Cell.dat (Ty.str.pair (Zi.pair Ty.bool)).slice y2, Cell.dat Zi y3, Cell.dat (Ty.str.pair Zi.slice).slice y4], AObj.box (156 : Nat) [Cell.dat Ty.str y5, Cell.dat Zi.slice y6]])
theorem f196_L0_step (n m0 : Nat) (y0 : Int) (y1 : ByteArray) (y2 : List (ByteArray × Int × Bool)) (y3 : Int) (y4 : List (ByteArray × List Int)) (y5 : ByteArray) (y6 : List Int) : f196_L0 n (m0 + 1) y0 y1 y2 y3 y4 y5 y6 = bif decide (y0 < (↑y6.length : Int)) then chk (decide ((0 : Int) ≤ y0) && decide (y0 < (↑y6.length : Int))) (bif !(Sp.f79 (y6.getD y0.toNat (0 : Int)) (0 : Int) (IntKind.i64.wrap ((↑y2.length : Int) - (1 : Int)))).1 then Zf else chk (decide ((0 : Int) ≤ y0) && decide (y0 ≤ (↑y6.length : Int))) (chk (decide ((0 : Int) ≤ y0) && decide (y0 < (↑y6.length : Int))) (bif Sp.anyW (Sp.eqN (y6.getD y0.toNat (0 : Int))) (List.take (y0.toNat - (0 : Nat)) (List.drop (0 : Nat) y6)) then Zf else f196_L0 n m0 (IntKind.i64.wrap (y0 + (1 : Int))) y1 y2 y3 y4 y5 y6))) else Zt := by kernel_rfl
theorem f196_raw (n : Nat) (x0 : ByteArray) (x1 : List (ByteArray × Int × Bool)) (x2 : Int) (x3 : List (ByteArray × List Int)) (x4 : ByteArray) (x5 : List Int) : abody Γ (orc [e194, e79, e210]) n 138 [XV.mk true [ZC Ty.str x0, ZC (Ty.str.pair (Zi.pair Ty.bool)).slice x1, ZC Zi x2, ZC (Ty.str.pair Zi.slice).slice x3], XV.mk true [ZC Ty.str x4, ZC Zi.slice x5]] = bif !Sp.isFreeS x4 then Zf else bif (↑x5.length : Int) == (0 : Int) then Zf else bif decide ((↑x5.length : Int) > (↑x1.length : Int)) then Zf else f196_L0 n n (0 : Int) x0 x1 x2 x3 x4 x5 := by kernel_rfl

end Go.Proofs.GR.T

