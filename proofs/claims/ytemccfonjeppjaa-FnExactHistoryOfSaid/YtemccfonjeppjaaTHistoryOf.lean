/-
  No statement is proved here: what the functions of the law answer, told as plain functions, and that the law's answer is always true.
  No condition.
-/
import Derived.Test.YtemccfonjeppjaaRt
import Derived.Shelf.Strconv.Clone
namespace Go.Proofs.GR.T
abbrev cI : C0 := .dat (.int .i64)
abbrev cB : C0 := .dat .bool
abbrev cS : C0 := .dat .str
abbrev cL (t : Ty) : C0 := .dat (.slice t)
end Go.Proofs.GR.T

namespace Go.Proofs.GR.T
open Go Go.Proofs Go.Proofs.GR Go.Shelf
end Go.Proofs.GR.T

set_option maxRecDepth 100000
namespace Go.Proofs.GR.T
open Go Go.Proofs Go.Proofs.GR
def Sp.f14 (x0 : Int) (x1 : ByteArray) (x2 : Bool) (x3 : Int) := (bif decide (IntKind.i64.wrap (x3 - (↑x1.size : Int)) < (0 : Int)) then ((-1 : Int), ()) else (IntKind.i64.wrap (x3 - (↑x1.size : Int)), ()))
def Sp.f15 (x0 : Int) (x1 : ByteArray) (x2 : Bool) := (bif decide ((↑x1.size : Int) ≤ (65536 : Int)) then (bif x0 == (↑x1.size : Int) then (bif x2 then (true, ()) else (x0.tmod (64 : Int) == (0 : Int), ())) else (false, ())) else (false, ()))
def Sp.f16 (x0 : Int) (x1 : ByteArray) (x2 : Bool) := ((x0, x1, x2), ())
def Sp.f17 (x0 : Int) (x1 : ByteArray) (x2 : Bool) := (bif x0 == (↑x1.size : Int) then (bif decide (x0 ≤ (65536 : Int)) then (bif x2 then (true, ()) else (x0.tmod (64 : Int) == (0 : Int), ())) else (false, ())) else (false, ()))
def Sp.f20 (x0 : Int) (x1 : ByteArray) (x2 : Bool) (x3 : Int) (x4 : ByteArray) (x5 : Bool) := (bif x0 != x3 then (false, ()) else (bif !x1.toList == x4.toList then (false, ()) else (bif !eqB x2 x5 then (false, ()) else (true, ()))))
def Sp.f68_pre (x0 : Int) (x1 : ByteArray) (x2 : Bool) (x3 : ByteArray) : Bool := (bif x2 then true else (bif (↑x3.size : Int) == (0 : Int) then true else (bif decide ((↑x3.size : Int) > (64 : Int)) then true else (bif decide (IntKind.i64.wrap ((↑x1.size : Int) + (↑x3.size : Int)) > (65536 : Int)) then true else decide (x1.size + x3.size ≤ (9223372036854775807 : Nat))))))
def Sp.f68 (x0 : Int) (x1 : ByteArray) (x2 : Bool) (x3 : ByteArray) := (bif x2 then (((x0, x1, x2), (16 : Int)), ()) else (bif (↑x3.size : Int) == (0 : Int) then (((x0, x1, x2), (4 : Int)), ()) else (bif decide ((↑x3.size : Int) > (64 : Int)) then (((x0, x1, x2), (4 : Int)), ()) else (bif decide (IntKind.i64.wrap ((↑x1.size : Int) + (↑x3.size : Int)) > (65536 : Int)) then (((x0, x1, x2), (7 : Int)), ()) else ((((↑(x1 ++ x3).size : Int), x1 ++ x3, decide ((↑x3.size : Int) < (64 : Int))), (0 : Int)), ())))))
def Sp.f70 (x0 : Int) (x1 : Int) (x2 : Int) := (bif decide (x0 ≥ x1) then (decide (x0 ≤ x2), ()) else (false, ()))
noncomputable def e70 : Ent := { f := 70, ins := [Sh.one (C0.dat (Ty.int IntKind.i64)), Sh.one (C0.dat (Ty.int IntKind.i64)), Sh.one (C0.dat (Ty.int IntKind.i64))], outs := [Sh.one (C0.dat Ty.bool)], upd := [], pre := fun a => true, spec := fun a => (Sp.f70 a.1 a.2.1 a.2.2).1, wrt := fun a => (Sp.f70 a.1 a.2.1 a.2.2).2 }
def f70_g (v : denS [Sh.one (C0.dat Ty.bool)] × denS []) : Res := ⟨mkS [Sh.one (C0.dat Ty.bool)] v.1, mkU [] v.2⟩
theorem f70_raw (x0 : Int) (x1 : Int) (x2 : Int) : abody Γ (orc []) 0 70 [XV.mk false [X.c (X0.dat (Ty.int IntKind.i64) x0)], XV.mk false [X.c (X0.dat (Ty.int IntKind.i64) x1)], XV.mk false [X.c (X0.dat (Ty.int IntKind.i64) x2)]] = bif decide (x0 ≥ x1) then some (Res.mk [XV.mk false [X.c (X0.dat Ty.bool (decide (x0 ≤ x2)))]] []) else some (Res.mk [XV.mk false [X.c (X0.dat Ty.bool false)]] []) := by kernel_rfl
theorem f70_form (x0 : Int) (x1 : Int) (x2 : Int) : (bif decide (x0 ≥ x1) then some (Res.mk [XV.mk false [X.c (X0.dat Ty.bool (decide (x0 ≤ x2)))]] []) else some (Res.mk [XV.mk false [X.c (X0.dat Ty.bool false)]] [])) = some (f70_g (Sp.f70 x0 x1 x2)) := by
  unfold Sp.f70
  exact (cond_plain f70_g (rfl) (rfl))
theorem e70_ok : Valid Try.prog Γ e70 := valid_auto ok vnil fun a => (f70_raw a.1 a.2.1 a.2.2).trans (f70_form a.1 a.2.1 a.2.2)

def Sp.f115 (x0 : ByteArray) := (decide ((↑x0.size : Int) > (65536 : Int)), ())
noncomputable def e115 : Ent := { f := 115, ins := [Sh.one (C0.dat Ty.str)], outs := [Sh.one (C0.dat Ty.bool)], upd := [], pre := fun a => true, spec := fun a => (Sp.f115 a).1, wrt := fun a => (Sp.f115 a).2 }
def f115_g (v : denS [Sh.one (C0.dat Ty.bool)] × denS []) : Res := ⟨mkS [Sh.one (C0.dat Ty.bool)] v.1, mkU [] v.2⟩
theorem f115_raw (x0 : ByteArray) : abody Γ (orc []) 0 115 [XV.mk false [X.c (X0.dat Ty.str x0)]] = some (Res.mk [XV.mk false [X.c (X0.dat Ty.bool (decide ((↑x0.size : Int) > (65536 : Int))))]] []) := by kernel_rfl
theorem f115_form (x0 : ByteArray) : (some (Res.mk [XV.mk false [X.c (X0.dat Ty.bool (decide ((↑x0.size : Int) > (65536 : Int))))]] [])) = some (f115_g (Sp.f115 x0)) := by
  unfold Sp.f115
  exact rfl
theorem e115_ok : Valid Try.prog Γ e115 := valid_auto ok vnil fun a => (f115_raw a).trans (f115_form a)

def Sp.f18_pre (x0 : Int) (x1 : ByteArray) (x2 : Bool) (x3 : ByteArray) : Bool := (bif decide ((↑x3.size : Int) > (65536 : Int)) then true else (bif !(Sp.f15 x0 x1 x2).1 then true else Sp.f68_pre x0 x1 x2 x3))
def Sp.f18 (x0 : Int) (x1 : ByteArray) (x2 : Bool) (x3 : ByteArray) := (bif decide ((↑x3.size : Int) > (65536 : Int)) then ((((0 : Int), ByteArray.empty, false), (2 : Int)), ()) else (bif !(Sp.f15 x0 x1 x2).1 then ((((0 : Int), ByteArray.empty, false), (1 : Int)), ()) else ((((Sp.f68 x0 x1 x2 x3).1.1.1, (Sp.f68 x0 x1 x2 x3).1.1.2.1, (Sp.f68 x0 x1 x2 x3).1.1.2.2), (Sp.f68 x0 x1 x2 x3).1.2), ())))
noncomputable def f163_L0 (n m0 : Nat) (y0 : List ByteArray) (y1 : Int) (y2 : Int) : Option Res := loopAt Γ (orc [e115]) n (163 : Nat) (0 : Nat) [] [Pth.r, Pth.l, Pth.r, Pth.b] m0 (St.mk [Slot.val (Val.one (Cell.dat Ty.str.slice y0)), Slot.val (Val.one (Cell.fn (115 : Nat) [])), Slot.nix, Slot.nix, Slot.nix, Slot.nix, Slot.nix, Slot.val (Val.one (Cell.dat (Ty.int IntKind.i64) y1)), Slot.val (Val.one (Cell.dat (Ty.int IntKind.i64) y2)), Slot.nix, Slot.nix, Slot.nix, Slot.nix, Slot.nix, Slot.nix, Slot.nix, Slot.nix, Slot.nix, Slot.nix] [])
theorem f163_L0_step (n m0 : Nat) (y0 : List ByteArray) (y1 : Int) (y2 : Int) : f163_L0 n (m0 + 1) y0 y1 y2 = bif decide (y2 < y1) then chk (decide ((0 : Int) ≤ y2) && decide (y2 < (↑y0.length : Int))) (bif (Sp.f115 (y0.getD y2.toNat (ByteArray.mk #[]))).1 then some (Res.mk [XV.mk false [X.c (X0.dat (Ty.int IntKind.i64) y2)]] []) else f163_L0 n m0 y0 y1 (IntKind.i64.wrap (y2 + (1 : Int)))) else some (Res.mk [XV.mk false [X.c (X0.dat (Ty.int IntKind.i64) (-1 : Int))]] []) := by kernel_rfl
theorem f163_raw (n : Nat) (x0 : List ByteArray) : abody Γ (orc [e115]) n 163 [XV.mk false [X.c (X0.dat Ty.str.slice x0)], XV.mk false [X.c (X0.fn (115 : Nat) [])]] = f163_L0 n n x0 (↑x0.length : Int) (0 : Int) := by kernel_rfl

/-- The first place from 'i' on where something holds; else -1. -/
def Sp.idx {α : Type} (p : α → Bool) : List α → Int → Int
  | [], _ => -1
  | x :: r, i => bif p x then i else Sp.idx p r (i + 1)
noncomputable def e163 : Ent := { f := 163, ins := [Sh.one (C0.dat (.slice .str)), Sh.one (C0.fn 115 [])], outs := [Sh.one cI], upd := [], pre := fun _ => true, spec := fun a => Sp.idx (fun t => (Sp.f115 t).1) a.1 0, wrt := fun _ => () }
theorem f163_loop (n : Nat) (xs : List ByteArray) (hl : xs.length ≤ maxLen) : ∀ (d k m : Nat), k + d = xs.length → d < m →
    f163_L0 n m xs (↑xs.length : Int) (↑k : Int) = some (Res.mk [XV.mk false [X.c (X0.dat (Ty.int IntKind.i64) (Sp.idx (fun t => (Sp.f115 t).1) (xs.drop k) k))]] []) := by
  intro d
  induction d with
  | zero =>
    intro k m hk hm
    obtain ⟨m, rfl⟩ : ∃ q, m = q + 1 := ⟨m - 1, by omega⟩
    rw [f163_L0_step, decide_eq_false (by omega), List.drop_of_length_le (by omega)]
    rfl
  | succ d ih =>
    intro k m hk hm
    obtain ⟨m, rfl⟩ : ∃ q, m = q + 1 := ⟨m - 1, by omega⟩
    have hlt : k < xs.length := by omega
    have hm : (xs.length : Nat) ≤ 9223372036854775807 := hl
    rw [f163_L0_step, decide_eq_true (by omega), decide_eq_true (by omega), wrap64 (by omega) (by omega), List.drop_eq_getElem_cons hlt]
    simp only [cond_true, Bool.and_self, chk, Int.toNat_natCast, Sp.idx, List.getD, List.getElem?_eq_getElem hlt, Option.getD_some]
    cases (Sp.f115 xs[k]).1 with
    | true => rfl
    | false =>
      have := ih (k + 1) m (by omega) (by omega)
      simpa using this
theorem e163_ok : Valid Try.prog Γ e163 := valid_len ok (es := [e115]) (vcons e115_ok vnil) fun a _ hl => by
  have h := hl _ (List.mem_cons_self) _ (List.mem_cons_self)
  have h1 : List.length a.1 ≤ maxLen := h.1
  exact ⟨List.length a.1 + 1, (f163_raw _ a.1).trans (f163_loop _ a.1 h1 (List.length a.1) 0 _ (Nat.zero_add _) (Nat.lt_succ_self _))⟩
def Sp.f114 (x0 : List ByteArray) := (decide (Sp.idx (fun t ↦ (Sp.f115 t).fst) x0 (0 : Int) ≥ (0 : Int)), ())
noncomputable def e114 : Ent := { f := 114, ins := [Sh.one (C0.dat Ty.str.slice), Sh.one (C0.fn (115 : Nat) [])], outs := [Sh.one (C0.dat Ty.bool)], upd := [], pre := fun a => true, spec := fun a => (Sp.f114 a.1).1, wrt := fun a => (Sp.f114 a.1).2 }
def f114_g (v : denS [Sh.one (C0.dat Ty.bool)] × denS []) : Res := ⟨mkS [Sh.one (C0.dat Ty.bool)] v.1, mkU [] v.2⟩
theorem f114_raw (x0 : List ByteArray) : abody Γ (orc [e163, e115]) 0 114 [XV.mk false [X.c (X0.dat Ty.str.slice x0)], XV.mk false [X.c (X0.fn (115 : Nat) [])]] = some (Res.mk [XV.mk false [X.c (X0.dat Ty.bool (decide (Sp.idx (fun t ↦ (Sp.f115 t).fst) x0 (0 : Int) ≥ (0 : Int))))]] []) := by kernel_rfl
theorem f114_form (x0 : List ByteArray) : (some (Res.mk [XV.mk false [X.c (X0.dat Ty.bool (decide (Sp.idx (fun t ↦ (Sp.f115 t).fst) x0 (0 : Int) ≥ (0 : Int))))]] [])) = some (f114_g (Sp.f114 x0)) := by
  unfold Sp.f114
  exact rfl
theorem e114_ok : Valid Try.prog Γ e114 := valid_auto ok (vcons e163_ok (vcons e115_ok vnil)) fun a => (f114_raw a.1).trans (f114_form a.1)

def Sp.f69 (x0 : List ByteArray) := ((Sp.f114 x0).1, ())
noncomputable def e69 : Ent := { f := 69, ins := [Sh.one (C0.dat Ty.str.slice)], outs := [Sh.one (C0.dat Ty.bool)], upd := [], pre := fun a => true, spec := fun a => (Sp.f69 a).1, wrt := fun a => (Sp.f69 a).2 }
def f69_g (v : denS [Sh.one (C0.dat Ty.bool)] × denS []) : Res := ⟨mkS [Sh.one (C0.dat Ty.bool)] v.1, mkU [] v.2⟩
theorem f69_raw (x0 : List ByteArray) : abody Γ (orc [e114, e115]) 0 69 [XV.mk false [X.c (X0.dat Ty.str.slice x0)]] = some (Res.mk [XV.mk false [X.c (X0.dat Ty.bool (Sp.f114 x0).1)]] []) := by kernel_rfl
theorem f69_form (x0 : List ByteArray) : (some (Res.mk [XV.mk false [X.c (X0.dat Ty.bool (Sp.f114 x0).1)]] [])) = some (f69_g (Sp.f69 x0)) := by
  unfold Sp.f69
  exact rfl
theorem e69_ok : Valid Try.prog Γ e69 := valid_auto ok (vcons e114_ok (vcons e115_ok vnil)) fun a => (f69_raw a).trans (f69_form a)

def Sp.f19_pre (x0 : Int) (x1 : ByteArray) (x2 : Bool) (x3 : ByteArray) : Bool := (bif (Sp.f69 [x3]).1 then true else (bif !(Sp.f17 x0 x1 x2).1 then true else (bif x2 then true else (bif !(Sp.f70 (↑x3.size : Int) (1 : Int) (64 : Int)).1 then true else (bif decide (IntKind.i64.wrap (x0 + (↑x3.size : Int)) > (65536 : Int)) then true else decide (x1.size + x3.size ≤ (9223372036854775807 : Nat)))))))
def Sp.f19 (x0 : Int) (x1 : ByteArray) (x2 : Bool) (x3 : ByteArray) := (bif (Sp.f69 [x3]).1 then ((((0 : Int), ByteArray.empty, false), (2 : Int)), ()) else (bif !(Sp.f17 x0 x1 x2).1 then ((((0 : Int), ByteArray.empty, false), (1 : Int)), ()) else (bif x2 then (((x0, x1, x2), (16 : Int)), ()) else (bif !(Sp.f70 (↑x3.size : Int) (1 : Int) (64 : Int)).1 then (((x0, x1, x2), (4 : Int)), ()) else (bif decide (IntKind.i64.wrap (x0 + (↑x3.size : Int)) > (65536 : Int)) then (((x0, x1, x2), (7 : Int)), ()) else (((IntKind.i64.wrap (x0 + (↑x3.size : Int)), x1 ++ x3, decide ((↑x3.size : Int) < (64 : Int))), (0 : Int)), ()))))))
def Sp.f4_pre (x0 : Int) (x1 : ByteArray) (x2 : Bool) (x3 : ByteArray) : Bool := (bif decide ((↑x3.size : Int) > (1048576 : Int)) then true else (bif decide ((Sp.f14 x0 x1 x2 (1048576 : Int)).1 < (0 : Int)) then true else (Sp.f18_pre (Sp.f16 x0 x1 x2).1.1 (Sp.f16 x0 x1 x2).1.2.1 (Sp.f16 x0 x1 x2).1.2.2 x3 && Sp.f19_pre (Sp.f16 x0 x1 x2).1.1 (Sp.f16 x0 x1 x2).1.2.1 (Sp.f16 x0 x1 x2).1.2.2 x3)))
def Sp.f4 (x0 : Int) (x1 : ByteArray) (x2 : Bool) (x3 : ByteArray) := (bif decide ((↑x3.size : Int) > (1048576 : Int)) then (true, ()) else (bif decide ((Sp.f14 x0 x1 x2 (1048576 : Int)).1 < (0 : Int)) then (true, ()) else (bif !(Sp.f20 (Sp.f19 (Sp.f16 x0 x1 x2).1.1 (Sp.f16 x0 x1 x2).1.2.1 (Sp.f16 x0 x1 x2).1.2.2 x3).1.1.1 (Sp.f19 (Sp.f16 x0 x1 x2).1.1 (Sp.f16 x0 x1 x2).1.2.1 (Sp.f16 x0 x1 x2).1.2.2 x3).1.1.2.1 (Sp.f19 (Sp.f16 x0 x1 x2).1.1 (Sp.f16 x0 x1 x2).1.2.1 (Sp.f16 x0 x1 x2).1.2.2 x3).1.1.2.2 (Sp.f18 (Sp.f16 x0 x1 x2).1.1 (Sp.f16 x0 x1 x2).1.2.1 (Sp.f16 x0 x1 x2).1.2.2 x3).1.1.1 (Sp.f18 (Sp.f16 x0 x1 x2).1.1 (Sp.f16 x0 x1 x2).1.2.1 (Sp.f16 x0 x1 x2).1.2.2 x3).1.1.2.1 (Sp.f18 (Sp.f16 x0 x1 x2).1.1 (Sp.f16 x0 x1 x2).1.2.1 (Sp.f16 x0 x1 x2).1.2.2 x3).1.1.2.2).1 then (false, ()) else (bif (Sp.f19 (Sp.f16 x0 x1 x2).1.1 (Sp.f16 x0 x1 x2).1.2.1 (Sp.f16 x0 x1 x2).1.2.2 x3).1.2 != (Sp.f18 (Sp.f16 x0 x1 x2).1.1 (Sp.f16 x0 x1 x2).1.2.1 (Sp.f16 x0 x1 x2).1.2.2 x3).1.2 then (false, ()) else (true, ())))))
noncomputable def e4 : Ent := { f := 4, ins := [Sh.agg [C0.dat (Ty.int IntKind.i64), C0.dat Ty.str, C0.dat Ty.bool], Sh.one (C0.dat Ty.str)], outs := [Sh.one (C0.dat Ty.bool)], upd := [], pre := fun a => Sp.f4_pre a.1.1 a.1.2.1 a.1.2.2 a.2, spec := fun a => (Sp.f4 a.1.1 a.1.2.1 a.1.2.2 a.2).1, wrt := fun a => (Sp.f4 a.1.1 a.1.2.1 a.1.2.2 a.2).2 }
end Go.Proofs.GR.T

namespace Go.Proofs.GR.T
open Go Go.Proofs Go.Proofs.GR

theorem f69_one (t : ByteArray) : (Sp.f69 [t]).1 = decide ((t.size : Int) > 65536) := by
  simp only [Sp.f69, Sp.f114, Sp.idx, Sp.f115]
  by_cases h : (t.size : Int) > 65536
  · simp [h]
  · simp [h]
end Go.Proofs.GR.T

namespace Go.Proofs.GR.T
open Go Go.Proofs Go.Proofs.GR
namespace Sp
def bit (r : Nat) : Nat := if r % 2 = 1 then (r / 2) ^^^ 3988292384 else r / 2
def bits : Nat → Nat → Nat
  | 0, r => r
  | n + 1, r => bits n (bit r)
def crc (r : Nat) : List Int → Nat
  | [] => r
  | x :: l => crc (bits 8 (r ^^^ x.toNat)) l
def sum (xs : List Int) : Int := ((crc 4294967295 xs) ^^^ 4294967295 : Nat)
def isBytes (xs : List Int) : Bool := xs.all fun x => decide (0 ≤ x) && decide (x < 256)
def mark8 : List Int → Int → List Int
  | [], _ => []
  | _ :: r, k => IntKind.u8.wrap k :: mark8 r (k + 1)
def held8 : List Int → Int → Int
  | [], k => k
  | x :: r, k => bif x != IntKind.u8.wrap k then -1 else held8 r (k + 1)
def eqL {α : Type} [DecidableEq α] (xs ys : List α) : Bool := decide (xs = ys)
def small {α : Type} (xs : List α) (k : Int) : Bool := match k with
  | .ofNat n => decide (n + xs.length ≤ 4611686018427387904)
  | .negSucc _ => false
def addLen {α : Type} (xs : List α) (k : Int) : Int := k + (xs.length : Int)
def fits {α : Type} (xs : List α) : Bool := decide (xs.length ≤ 140737488355328)
end Sp
theorem small_of {α : Type} {xs : List α} {k : Int} (h : Sp.small xs k = true) : 0 ≤ k ∧ k + (xs.length : Int) ≤ 4611686018427387904 := by
  cases k with
  | ofNat n =>
    have h1 : n + xs.length ≤ 4611686018427387904 := of_decide_eq_true h
    exact ⟨Int.natCast_nonneg n, by show (n : Int) + (xs.length : Int) ≤ 4611686018427387904; omega⟩
  | negSucc n => cases h
theorem small_mk {α : Type} {xs : List α} {k : Int} (h1 : 0 ≤ k) (h2 : k + (xs.length : Int) ≤ 4611686018427387904) : Sp.small xs k = true := by
  cases k with
  | ofNat n =>
    have h3 : (n : Int) + (xs.length : Int) ≤ 4611686018427387904 := h2
    exact decide_eq_true (show n + xs.length ≤ 4611686018427387904 by omega)
  | negSucc n => exact absurd h1 (by omega)
theorem chkT {ρ : Type} (k : Option ρ) : chk true k = k := rfl
theorem wrap32 {n : Int} (h1 : 0 ≤ n) (h2 : n < 4294967296) : IntKind.u32.wrap n = n := by
  simp only [IntKind.wrap, IntKind.signed, IntKind.bits]
  simp
  omega
theorem wrapu64 {n : Int} (h1 : 0 ≤ n) (h2 : n < 18446744073709551616) : IntKind.u64.wrap n = n := by
  simp only [IntKind.wrap, IntKind.signed, IntKind.bits]
  simp
  omega
theorem wrap8 (n : Int) : IntKind.u8.wrap n = n % 256 := by
  simp only [IntKind.wrap, IntKind.signed, IntKind.bits]
  simp
theorem isBytes_mem {xs : List Int} (h : Sp.isBytes xs = true) {x : Int} (hx : x ∈ xs) : 0 ≤ x ∧ x < 256 := by
  have := List.all_eq_true.1 h x hx
  simpa using this
theorem isBytes_of {xs : List Int} (h : ∀ x ∈ xs, 0 ≤ x ∧ x < 256) : Sp.isBytes xs = true := by
  refine List.all_eq_true.2 fun x hx => ?_
  simpa using h x hx
theorem isBytes_append {xs ys : List Int} (h1 : Sp.isBytes xs = true) (h2 : Sp.isBytes ys = true) : Sp.isBytes (xs ++ ys) = true :=
  isBytes_of fun x hx => by
    rcases List.mem_append.1 hx with h | h
    · exact isBytes_mem h1 h
    · exact isBytes_mem h2 h
theorem wrap8_byte (n : Int) : 0 ≤ IntKind.u8.wrap n ∧ IntKind.u8.wrap n < 256 := by rw [wrap8]; omega
theorem strBytes_len (s : ByteArray) : (strBytes s).length = s.size := by unfold strBytes; rw [List.length_map, Array.length_toList]; rfl
theorem bytesStr_size (xs : List Int) : (bytesStr xs).size = xs.length := by
  show ((xs.map fun n => UInt8.ofNat n.toNat).toArray).size = _
  rw [List.size_toArray, List.length_map]
end Go.Proofs.GR.T

set_option maxRecDepth 100000
namespace Go.Proofs.GR.T
open Go Go.Proofs Go.Proofs.GR
abbrev rI (n : Int) : Res := Res.mk [XV.mk false [X.c (X0.dat (Ty.int IntKind.i64) n)]] []
abbrev rBo (b : Bool) : Res := Res.mk [XV.mk false [X.c (X0.dat Ty.bool b)]] []
theorem succ_of {d m : Nat} (h : d < m) : ∃ q, m = q + 1 := ⟨m - 1, by omega⟩
def Sp.f116 (x0 : Int) := ([IntKind.u8.wrap (x0.fdiv (16777216 : Int)), IntKind.u8.wrap (x0.fdiv (65536 : Int)), IntKind.u8.wrap (x0.fdiv (256 : Int)), IntKind.u8.wrap x0], ())
def Sp.f117 (x0 : Int) := ([IntKind.u8.wrap x0, IntKind.u8.wrap (x0.fdiv (256 : Int)), IntKind.u8.wrap (x0.fdiv (65536 : Int)), IntKind.u8.wrap (x0.fdiv (16777216 : Int))], ())
end Go.Proofs.GR.T

set_option maxRecDepth 100000
namespace Go.Proofs.GR.T
open Go Go.Proofs Go.Proofs.GR
/-- So many bytes of a number, the highest first. -/
def Sp.highAt (n : Int) (c i : Nat) : Int := IntKind.u8.wrap (n.fdiv ((2 : Int) ^ min (8 * (c - 1 - i)) 64))
def Sp.highN (n : Int) (c : Nat) : List Int := (List.range' 0 c).map (Sp.highAt n c)
def Sp.high (n c : Int) : List Int := Sp.highN n c.toNat
def Sp.few (c : Int) : Bool := match c with
  | .ofNat n => decide (n ≤ 1048576)
  | .negSucc _ => false
def Sp.shortS (s : ByteArray) : Bool := decide (s.size ≤ 9223372036854775807)
def Sp.f119_pre (x0 : Int) : Bool := Sp.few (4 : Int)
def Sp.f119 (x0 : Int) := (bytesStr (Sp.high (IntKind.u64.wrap (IntKind.u32.wrap x0)) (4 : Int)), ())
def Sp.f71_pre (x0 : List Int) : Bool := (decide (((2 : Nat) + (Sp.f116 (↑x0.length : Int)).1.length) * (1 : Nat) ≤ (140737488355328 : Nat)) && (decide ((([(66 : Int), (75 : Int)] ++ (Sp.f116 (↑x0.length : Int)).1).length + x0.length) * (1 : Nat) ≤ (140737488355328 : Nat)) && (Sp.isBytes ([(66 : Int), (75 : Int)] ++ (Sp.f116 (↑x0.length : Int)).1 ++ x0) && decide ((([(66 : Int), (75 : Int)] ++ (Sp.f116 (↑x0.length : Int)).1 ++ x0).length + (Sp.f117 (Sp.sum ([(66 : Int), (75 : Int)] ++ (Sp.f116 (↑x0.length : Int)).1 ++ x0))).1.length) * (1 : Nat) ≤ (140737488355328 : Nat)))))
def Sp.f71 (x0 : List Int) := ([(66 : Int), (75 : Int)] ++ (Sp.f116 (↑x0.length : Int)).1 ++ x0 ++ (Sp.f117 (Sp.sum ([(66 : Int), (75 : Int)] ++ (Sp.f116 (↑x0.length : Int)).1 ++ x0))).1, ())
def Sp.f72_pre (x0 : List Int) : Bool := (Sp.f119_pre (↑x0.length : Int) && (decide ((2 : Nat) + (Sp.f119 (↑x0.length : Int)).1.size ≤ (9223372036854775807 : Nat)) && (decide ((ByteArray.mk #[(66 : UInt8), (75 : UInt8)] ++ (Sp.f119 (↑x0.length : Int)).1).size ≤ (9223372036854775807 : Nat)) && (decide (((strBytes (ByteArray.mk #[(66 : UInt8), (75 : UInt8)] ++ (Sp.f119 (↑x0.length : Int)).1)).length + x0.length) * (1 : Nat) ≤ (140737488355328 : Nat)) && (Sp.shortS (bytesStr (strBytes (ByteArray.mk #[(66 : UInt8), (75 : UInt8)] ++ (Sp.f119 (↑x0.length : Int)).1) ++ x0)) && decide (((strBytes (ByteArray.mk #[(66 : UInt8), (75 : UInt8)] ++ (Sp.f119 (↑x0.length : Int)).1) ++ x0).length + [IntKind.u8.wrap (IntKind.u32.wrap (Sp.sum (strBytes (bytesStr (strBytes (ByteArray.mk #[(66 : UInt8), (75 : UInt8)] ++ (Sp.f119 (↑x0.length : Int)).1) ++ x0))))), IntKind.u8.wrap ((IntKind.u32.wrap (Sp.sum (strBytes (bytesStr (strBytes (ByteArray.mk #[(66 : UInt8), (75 : UInt8)] ++ (Sp.f119 (↑x0.length : Int)).1) ++ x0))))).fdiv (256 : Int)), IntKind.u8.wrap ((IntKind.u32.wrap (Sp.sum (strBytes (bytesStr (strBytes (ByteArray.mk #[(66 : UInt8), (75 : UInt8)] ++ (Sp.f119 (↑x0.length : Int)).1) ++ x0))))).fdiv (65536 : Int)), IntKind.u8.wrap ((IntKind.u32.wrap (Sp.sum (strBytes (bytesStr (strBytes (ByteArray.mk #[(66 : UInt8), (75 : UInt8)] ++ (Sp.f119 (↑x0.length : Int)).1) ++ x0))))).fdiv (16777216 : Int))].length) * (1 : Nat) ≤ (140737488355328 : Nat)))))))
def Sp.f72 (x0 : List Int) := (strBytes (ByteArray.mk #[(66 : UInt8), (75 : UInt8)] ++ (Sp.f119 (↑x0.length : Int)).1) ++ x0 ++ [IntKind.u8.wrap (IntKind.u32.wrap (Sp.sum (strBytes (bytesStr (strBytes (ByteArray.mk #[(66 : UInt8), (75 : UInt8)] ++ (Sp.f119 (↑x0.length : Int)).1) ++ x0))))), IntKind.u8.wrap ((IntKind.u32.wrap (Sp.sum (strBytes (bytesStr (strBytes (ByteArray.mk #[(66 : UInt8), (75 : UInt8)] ++ (Sp.f119 (↑x0.length : Int)).1) ++ x0))))).fdiv (256 : Int)), IntKind.u8.wrap ((IntKind.u32.wrap (Sp.sum (strBytes (bytesStr (strBytes (ByteArray.mk #[(66 : UInt8), (75 : UInt8)] ++ (Sp.f119 (↑x0.length : Int)).1) ++ x0))))).fdiv (65536 : Int)), IntKind.u8.wrap ((IntKind.u32.wrap (Sp.sum (strBytes (bytesStr (strBytes (ByteArray.mk #[(66 : UInt8), (75 : UInt8)] ++ (Sp.f119 (↑x0.length : Int)).1) ++ x0))))).fdiv (16777216 : Int))], ())
def Sp.f21_pre (x0 : List Int) : Bool := (bif decide ((↑x0.length : Int) > (65526 : Int)) then true else Sp.f71_pre x0)
def Sp.f21 (x0 : List Int) := (bif decide ((↑x0.length : Int) > (65526 : Int)) then (([], (2 : Int)), ()) else (((Sp.f71 x0).1, (0 : Int)), ()))
def Sp.f23_pre (x0 : List Int) : Bool := (bif decide ((↑x0.length : Int) > (65526 : Int)) then true else Sp.f72_pre x0)
def Sp.f23 (x0 : List Int) := (bif decide ((↑x0.length : Int) > (65526 : Int)) then (([], (2 : Int)), ()) else (((Sp.f72 x0).1, (0 : Int)), ()))
def Sp.f5_pre (x0 : List Int) : Bool := (bif decide ((↑x0.length : Int) > (1048576 : Int)) then true else (Sp.fits x0 && (Sp.f21_pre x0 && (Sp.fits x0 && (Sp.f23_pre x0 && (bif !Sp.eqL (Sp.f23 x0).1.1 (Sp.f21 x0).1.1 then true else (bif (Sp.f23 x0).1.2 != (Sp.f21 x0).1.2 then true else (Sp.fits x0 && (bif !Sp.eqL x0 x0 then true else (Sp.small x0 (1 : Int) && (bif decide (Sp.addLen x0 (1 : Int) < (0 : Int)) then true else (bif !Sp.eqL (Sp.f23 x0).1.1 (Sp.f21 x0).1.1 then true else (bif (Sp.f23 x0).1.2 != (Sp.f21 x0).1.2 then true else (Sp.small (Sp.f23 x0).1.1 (1 : Int) && (Sp.small (Sp.mark8 (Sp.f23 x0).1.1 (1 : Int)) (1 : Int) && (bif decide (Sp.held8 (Sp.mark8 (Sp.f23 x0).1.1 (1 : Int)) (1 : Int) < (0 : Int)) then true else (bif Sp.held8 (Sp.mark8 (Sp.f23 x0).1.1 (1 : Int)) (1 : Int) != Sp.addLen (Sp.f23 x0).1.1 (1 : Int) then true else (Sp.fits x0 && (Sp.f23_pre x0 && (bif !Sp.eqL (Sp.f23 x0).1.1 (Sp.f21 x0).1.1 then true else (bif (Sp.f23 x0).1.2 != (Sp.f21 x0).1.2 then true else Sp.small (Sp.mark8 (Sp.f23 x0).1.1 (1 : Int)) (1 : Int))))))))))))))))))))))
def Sp.f5 (x0 : List Int) := (bif decide ((↑x0.length : Int) > (1048576 : Int)) then (true, ()) else (bif !Sp.eqL (Sp.f23 x0).1.1 (Sp.f21 x0).1.1 then (false, ()) else (bif (Sp.f23 x0).1.2 != (Sp.f21 x0).1.2 then (false, ()) else (bif !Sp.eqL x0 x0 then (false, ()) else (bif decide (Sp.addLen x0 (1 : Int) < (0 : Int)) then (false, ()) else (bif !Sp.eqL (Sp.f23 x0).1.1 (Sp.f21 x0).1.1 then (false, ()) else (bif (Sp.f23 x0).1.2 != (Sp.f21 x0).1.2 then (false, ()) else (bif decide (Sp.held8 (Sp.mark8 (Sp.f23 x0).1.1 (1 : Int)) (1 : Int) < (0 : Int)) then (false, ()) else (bif Sp.held8 (Sp.mark8 (Sp.f23 x0).1.1 (1 : Int)) (1 : Int) != Sp.addLen (Sp.f23 x0).1.1 (1 : Int) then (false, ()) else (bif !Sp.eqL (Sp.f23 x0).1.1 (Sp.f21 x0).1.1 then (false, ()) else (bif (Sp.f23 x0).1.2 != (Sp.f21 x0).1.2 then (false, ()) else (bif decide (Sp.held8 (Sp.mark8 (Sp.f23 x0).1.1 (1 : Int)) (1 : Int) < (0 : Int)) then (false, ()) else (bif Sp.held8 (Sp.mark8 (Sp.f23 x0).1.1 (1 : Int)) (1 : Int) != Sp.addLen (Sp.f23 x0).1.1 (1 : Int) then (false, ()) else (true, ()))))))))))))))
noncomputable def e5 : Ent := { f := 5, ins := [Sh.one (C0.dat (Ty.int IntKind.u8).slice)], outs := [Sh.one (C0.dat Ty.bool)], upd := [], pre := fun a => Sp.f5_pre a, spec := fun a => (Sp.f5 a).1, wrt := fun a => (Sp.f5 a).2 }
end Go.Proofs.GR.T

namespace Go.Proofs.GR.T
open Go Go.Proofs Go.Proofs.GR
theorem high_four (n : Int) : Sp.high n 4 = [IntKind.u8.wrap (n.fdiv 16777216), IntKind.u8.wrap (n.fdiv 65536), IntKind.u8.wrap (n.fdiv 256), IntKind.u8.wrap n] := by
  show [IntKind.u8.wrap (n.fdiv (2 ^ 24)), IntKind.u8.wrap (n.fdiv (2 ^ 16)), IntKind.u8.wrap (n.fdiv (2 ^ 8)), IntKind.u8.wrap (n.fdiv (2 ^ 0))] = _
  rw [show (2 : Int) ^ 0 = 1 from rfl, Int.fdiv_one]
  rfl
theorem four_bytes (n : Int) : Sp.isBytes (Sp.f116 n).1 = true := isBytes_of fun x hx => by
  simp only [Sp.f116, List.mem_cons, List.not_mem_nil, or_false] at hx
  rcases hx with rfl | rfl | rfl | rfl <;> exact wrap8_byte _
theorem head_bytes : Sp.isBytes [(66 : Int), (75 : Int)] = true := by decide
theorem f71_pre {xs : List Int} (hb : Sp.isBytes xs = true) (hl : (xs.length : Int) ≤ 65526) : Sp.f71_pre xs = true := by
  have hB : Sp.isBytes ([(66 : Int), (75 : Int)] ++ (Sp.f116 (xs.length : Int)).1 ++ xs) = true := isBytes_append (isBytes_append head_bytes (four_bytes _)) hb
  unfold Sp.f71_pre
  rw [hB]
  simp [Sp.f116, Sp.f117]
  omega
theorem f72_pre {xs : List Int} (hb : Sp.isBytes xs = true) (hl : (xs.length : Int) ≤ 65526) : Sp.f72_pre xs = true := by
  have e : (Sp.f119 (xs.length : Int)).1.size = 4 := by
    unfold Sp.f119
    rw [wrap32 (by omega) (by omega), wrapu64 (by omega) (by omega), high_four, bytesStr_size]
    rfl
  have e2 : (ByteArray.mk #[(66 : UInt8), (75 : UInt8)] ++ (Sp.f119 (xs.length : Int)).1).size = 6 := by
    rw [ByteArray.size_append, e]; rfl
  unfold Sp.f72_pre
  rw [e, e2]
  have h1 : Sp.f119_pre (xs.length : Int) = true := rfl
  have h3 : Sp.shortS (bytesStr (strBytes (ByteArray.mk #[(66 : UInt8), (75 : UInt8)] ++ (Sp.f119 (xs.length : Int)).1) ++ xs)) = true := by
    refine decide_eq_true ?_
    rw [bytesStr_size, List.length_append, strBytes_len, e2]
    omega
  rw [h1, h3]
  simp [strBytes_len, e2]
  all_goals omega
end Go.Proofs.GR.T

set_option maxRecDepth 100000
namespace Go.Proofs.GR.T
open Go Go.Proofs Go.Proofs.GR
/-- The number of bytes, the highest first. -/
def Sp.num : Nat → List Int → Nat
  | r, [] => r
  | r, x :: l => Sp.num (r * 256 + x.toNat) l
def Sp.eight (xs : List Int) : Bool := yes2 (decide (xs.length ≤ 8)) (Sp.isBytes xs)
def Sp.f76 (x0 : List Int) := (bif decide ((↑x0.length : Int) < (10 : Int)) then (([], (3 : Int)), ()) else (bif !(bytesStr (List.take (2 : Nat) (List.drop (0 : Nat) x0))).toList == (ByteArray.mk #[(66 : UInt8), (75 : UInt8)]).toList then (([], (3 : Int)), ()) else (bif (↑(Sp.num (0 : Nat) (strBytes (bytesStr (List.take (4 : Nat) (List.drop (2 : Nat) x0))))) : Int) != IntKind.i64.wrap ((↑x0.length : Int) - (10 : Int)) then (([], (3 : Int)), ()) else (bif !(bytesStr (Sp.f117 (Sp.sum (List.take ((IntKind.i64.wrap ((↑x0.length : Int) - (4 : Int))).toNat - (0 : Nat)) (List.drop (0 : Nat) x0)))).1).toList == (bytesStr (List.take (x0.length - (IntKind.i64.wrap ((↑x0.length : Int) - (4 : Int))).toNat) (List.drop (IntKind.i64.wrap ((↑x0.length : Int) - (4 : Int))).toNat x0))).toList then (([], (8 : Int)), ()) else (([] ++ List.take ((IntKind.i64.wrap ((↑x0.length : Int) - (4 : Int))).toNat - (6 : Nat)) (List.drop (6 : Nat) x0), (0 : Int)), ())))))
def Sp.f32 (x0 : List Int) := (bif decide ((↑x0.length : Int) > (65536 : Int)) then (([], (2 : Int)), ()) else (((Sp.f76 x0).1.1, (Sp.f76 x0).1.2), ()))
def Sp.f33 (x0 : List Int) := (bif decide ((↑x0.length : Int) > (65536 : Int)) then (([], (2 : Int)), ()) else (bif decide ((↑x0.length : Int) < (10 : Int)) then (([], (3 : Int)), ()) else (bif !(bytesStr (List.take (2 : Nat) (List.drop (0 : Nat) x0))).toList == (ByteArray.mk #[(66 : UInt8), (75 : UInt8)]).toList then (([], (3 : Int)), ()) else (bif IntKind.i64.wrap (↑(Sp.num (0 : Nat) (List.take (4 : Nat) (List.drop (2 : Nat) x0))) : Int) != IntKind.i64.wrap ((↑x0.length : Int) - (10 : Int)) then (([], (3 : Int)), ()) else (bif !(bytesStr (Sp.f72 ([] ++ List.take ((IntKind.i64.wrap ((↑x0.length : Int) - (4 : Int))).toNat - (6 : Nat)) (List.drop (6 : Nat) x0))).1).toList == (bytesStr x0).toList then (([], (8 : Int)), ()) else (([] ++ List.take ((IntKind.i64.wrap ((↑x0.length : Int) - (4 : Int))).toNat - (6 : Nat)) (List.drop (6 : Nat) x0), (0 : Int)), ()))))))
def Sp.f7 (x0 : List Int) := (bif decide ((↑x0.length : Int) > (1048576 : Int)) then (true, ()) else (bif !Sp.eqL (Sp.f33 x0).1.1 (Sp.f32 x0).1.1 then (false, ()) else (bif (Sp.f33 x0).1.2 != (Sp.f32 x0).1.2 then (false, ()) else (bif !Sp.eqL x0 x0 then (false, ()) else (bif decide (Sp.addLen x0 (1 : Int) < (0 : Int)) then (false, ()) else (bif !Sp.eqL (Sp.f33 x0).1.1 (Sp.f32 x0).1.1 then (false, ()) else (bif (Sp.f33 x0).1.2 != (Sp.f32 x0).1.2 then (false, ()) else (bif decide (Sp.held8 (Sp.mark8 (Sp.f33 x0).1.1 (1 : Int)) (1 : Int) < (0 : Int)) then (false, ()) else (bif Sp.held8 (Sp.mark8 (Sp.f33 x0).1.1 (1 : Int)) (1 : Int) != Sp.addLen (Sp.f33 x0).1.1 (1 : Int) then (false, ()) else (bif !Sp.eqL (Sp.f33 x0).1.1 (Sp.f32 x0).1.1 then (false, ()) else (bif (Sp.f33 x0).1.2 != (Sp.f32 x0).1.2 then (false, ()) else (bif decide (Sp.held8 (Sp.mark8 (Sp.f33 x0).1.1 (1 : Int)) (1 : Int) < (0 : Int)) then (false, ()) else (bif Sp.held8 (Sp.mark8 (Sp.f33 x0).1.1 (1 : Int)) (1 : Int) != Sp.addLen (Sp.f33 x0).1.1 (1 : Int) then (false, ()) else (true, ()))))))))))))))
end Go.Proofs.GR.T

namespace Go.Proofs.GR.T
open Go Go.Proofs Go.Proofs.GR
end Go.Proofs.GR.T

namespace Go.Proofs.GR.T
open Go Go.Proofs Go.Proofs.GR
end Go.Proofs.GR.T

set_option maxRecDepth 100000
namespace Go.Proofs.GR.T
open Go Go.Proofs Go.Proofs.GR
def Sp.mdig : Nat → Int → ByteArray → ByteArray
  | 0, _, acc => acc
  | d + 1, r, acc => bif decide (r > 0) then Sp.mdig d (IntKind.i64.wrap (r.tdiv 10)) (bytesStr [IntKind.u8.wrap (IntKind.i64.wrap (48 + r.tmod 10))] ++ acc) else acc
def Sp.mText (k : Int) : ByteArray := bif decide (k ≤ 0) then ByteArray.mk #[109, 48] else ByteArray.mk #[109] ++ Sp.mdig 19 k (ByteArray.mk #[])
def Sp.mOK (k : Int) : Bool := decide (k.toNat ≤ 4611686018427387904)
noncomputable def f75_L0 (n m0 : Nat) (y0 : Int) (y1 : ByteArray) : Option Res := loopAt Γ (orc []) n (75 : Nat) (0 : Nat) [] [Pth.r, Pth.r, Pth.r, Pth.l, Pth.b] m0 (St.mk [Slot.val (Val.one (Cell.dat (Ty.int IntKind.i64) y0)), Slot.nix, Slot.nix, Slot.val (Val.one (Cell.dat Ty.str y1)), Slot.nix, Slot.nix, Slot.nix, Slot.nix, Slot.nix, Slot.nix, Slot.nix, Slot.nix, Slot.nix, Slot.nix, Slot.nix, Slot.nix, Slot.nix, Slot.nix, Slot.nix, Slot.nix] [])
theorem f75_L0_step (n m0 : Nat) (y0 : Int) (y1 : ByteArray) : f75_L0 n (m0 + 1) y0 y1 = bif decide (y0 > (0 : Int)) then chk (decide ((bytesStr [IntKind.u8.wrap (IntKind.i64.wrap ((48 : Int) + y0.tmod (10 : Int)))]).size + y1.size ≤ (9223372036854775807 : Nat))) (f75_L0 n m0 (IntKind.i64.wrap (y0.tdiv (10 : Int))) (bytesStr [IntKind.u8.wrap (IntKind.i64.wrap ((48 : Int) + y0.tmod (10 : Int)))] ++ y1)) else chk (decide ((1 : Nat) + y1.size ≤ (9223372036854775807 : Nat))) (some (Res.mk [XV.mk false [X.c (X0.dat Ty.str (ByteArray.mk #[(109 : UInt8)] ++ y1))]] [])) := by kernel_rfl
theorem f75_raw (n : Nat) (x0 : Int) : abody Γ (orc []) n 75 [XV.mk false [X.c (X0.dat (Ty.int IntKind.i64) x0)]] = bif decide (x0 ≤ (0 : Int)) then some (Res.mk [XV.mk false [X.c (X0.dat Ty.str (ByteArray.mk #[(109 : UInt8), (48 : UInt8)]))]] []) else f75_L0 n n x0 (ByteArray.mk #[]) := by kernel_rfl

noncomputable def e75 : Ent := { f := 75, ins := [Sh.one cI], outs := [Sh.one cS], upd := [], pre := fun a => Sp.mOK a, spec := fun a => Sp.mText a, wrt := fun _ => () }
abbrev rS (s : ByteArray) : Res := Res.mk [XV.mk false [X.c (X0.dat Ty.str s)]] []
theorem f75_loop (n : Nat) : ∀ (d m : Nat) (r : Int) (acc : ByteArray), r.toNat < 10 ^ d → r.toNat ≤ 4611686018427387904 → acc.size + d ≤ 19 → d < m →
    f75_L0 n m r acc = some (rS (ByteArray.mk #[109] ++ Sp.mdig d r acc)) := by
  intro d
  induction d with
  | zero =>
    intro m r acc hr hr2 ha hm
    obtain ⟨m, rfl⟩ := succ_of hm
    rw [f75_L0_step, decide_eq_false (by omega), decide_eq_true (show 1 + acc.size ≤ 9223372036854775807 by omega), cond_false, chkT, Sp.mdig]
  | succ d ih =>
    intro m r acc hr hr2 ha hm
    obtain ⟨m, rfl⟩ := succ_of hm
    rw [f75_L0_step]
    by_cases h0 : r > 0
    · have hsz : (bytesStr [IntKind.u8.wrap (IntKind.i64.wrap (48 + r.tmod 10))]).size = 1 := by rw [bytesStr_size]; rfl
      rw [decide_eq_true h0, hsz, decide_eq_true (show 1 + acc.size ≤ 9223372036854775807 by omega), cond_true, chkT, Sp.mdig, decide_eq_true h0, cond_true]
      have e : r.tdiv 10 = ((r.toNat / 10 : Nat) : Int) := by
        rw [Int.tdiv_eq_ediv_of_nonneg (by omega)]; omega
      have e2 : IntKind.i64.wrap (r.tdiv 10) = ((r.toNat / 10 : Nat) : Int) := by rw [e]; exact wrap64 (by omega) (by omega)
      rw [e2]
      refine ih m _ _ ?_ ?_ ?_ (by omega)
      · rw [Int.toNat_natCast]; rw [Nat.pow_succ] at hr; omega
      · rw [Int.toNat_natCast]; omega
      · rw [ByteArray.size_append, hsz]; omega
    · rw [decide_eq_false h0, decide_eq_true (show 1 + acc.size ≤ 9223372036854775807 by omega), Sp.mdig, decide_eq_false h0, cond_false, cond_false, chkT]
theorem e75_core (k : Int) (h : Sp.mOK k = true) : ∃ n, abody Γ (orc []) n 75 [XV.mk false [X.c (X0.dat (Ty.int IntKind.i64) k)]] = some (rS (Sp.mText k)) := by
  have h1 : k.toNat ≤ 4611686018427387904 := of_decide_eq_true h
  refine ⟨20, (f75_raw 20 k).trans ?_⟩
  unfold Sp.mText
  by_cases h0 : k ≤ 0
  · rw [decide_eq_true h0]; rfl
  · rw [decide_eq_false h0, cond_false, cond_false]
    exact f75_loop 20 19 20 k _ (by omega) h1 (by decide) (by omega)
theorem e75_ok : Valid Try.prog Γ e75 := valid_of ok vnil fun a ha => e75_core a ha
noncomputable def f29_L0 (n m0 : Nat) (y0 : List ByteArray) (y1 : List ByteArray) (y2 : Int) : Option Res := loopAt Γ (orc []) n (29 : Nat) (0 : Nat) [] [Pth.r, Pth.r, Pth.l, Pth.r, Pth.b] m0 (St.mk [Slot.val (Val.one (Cell.dat Ty.str.slice y0)), Slot.val (Val.one (Cell.dat Ty.str.slice y1)), Slot.nix, Slot.nix, Slot.nix, Slot.val (Val.one (Cell.dat (Ty.int IntKind.i64) y2)), Slot.nix, Slot.nix, Slot.nix, Slot.nix, Slot.nix, Slot.nix, Slot.nix, Slot.nix, Slot.nix, Slot.nix, Slot.nix, Slot.nix, Slot.nix, Slot.nix, Slot.nix, Slot.nix, Slot.nix, Slot.nix, Slot.nix, Slot.nix] [])
theorem f29_L0_step (n m0 : Nat) (y0 : List ByteArray) (y1 : List ByteArray) (y2 : Int) : f29_L0 n (m0 + 1) y0 y1 y2 = bif decide (y2 < (↑y0.length : Int)) then chk (decide ((0 : Int) ≤ y2) && decide (y2 < (↑y0.length : Int))) (chk (decide ((0 : Int) ≤ y2) && decide (y2 < (↑y1.length : Int))) (bif !(y0.getD y2.toNat (ByteArray.mk #[])).toList == (y1.getD y2.toNat (ByteArray.mk #[])).toList then some (Res.mk [XV.mk false [X.c (X0.dat Ty.bool false)]] []) else f29_L0 n m0 y0 y1 (IntKind.i64.wrap (y2 + (1 : Int))))) else some (Res.mk [XV.mk false [X.c (X0.dat Ty.bool true)]] []) := by kernel_rfl
theorem f29_raw (n : Nat) (x0 : List ByteArray) (x1 : List ByteArray) : abody Γ (orc []) n 29 [XV.mk false [X.c (X0.dat Ty.str.slice x0)], XV.mk false [X.c (X0.dat Ty.str.slice x1)]] = bif (↑x0.length : Int) != (↑x1.length : Int) then some (Res.mk [XV.mk false [X.c (X0.dat Ty.bool false)]] []) else f29_L0 n n x0 x1 (0 : Int) := by kernel_rfl

def Sp.eqS : List ByteArray → List ByteArray → Bool
  | [], [] => true
  | x :: r, y :: s => bif !(x.toList == y.toList) then false else Sp.eqS r s
  | _, _ => false
theorem eqS_len : ∀ {xs ys : List ByteArray}, xs.length ≠ ys.length → Sp.eqS xs ys = false
  | [], [], h => absurd rfl h
  | [], _ :: _, _ => rfl
  | _ :: _, [], _ => rfl
  | x :: r, y :: s, h => by
    unfold Sp.eqS
    rw [eqS_len (xs := r) (ys := s) (fun e => h (by simp [e]))]
    cases !(x.toList == y.toList) <;> rfl
noncomputable def e29 : Ent := { f := 29, ins := [Sh.one (cL Ty.str), Sh.one (cL Ty.str)], outs := [Sh.one cB], upd := [], pre := fun a => true, spec := fun a => Sp.eqS a.1 a.2, wrt := fun _ => () }
theorem f29_loop (n : Nat) (xs ys : List ByteArray) (hl : xs.length ≤ maxLen) (hy : xs.length = ys.length) : ∀ (d k m : Nat), k + d = xs.length → d < m →
    f29_L0 n m xs ys (↑k : Int) = some (rBo (Sp.eqS (xs.drop k) (ys.drop k))) := by
  have hm : (xs.length : Nat) ≤ 9223372036854775807 := hl
  intro d
  induction d with
  | zero =>
    intro k m hk hm
    obtain ⟨m, rfl⟩ := succ_of hm
    rw [f29_L0_step, decide_eq_false (by omega), List.drop_of_length_le (by omega), List.drop_of_length_le (by omega)]
    rfl
  | succ d ih =>
    intro k m hk hm
    obtain ⟨m, rfl⟩ := succ_of hm
    have hlt : k < xs.length := by omega
    have hlt2 : k < ys.length := by omega
    rw [f29_L0_step, decide_eq_true (show (k : Int) < xs.length by omega), decide_eq_true (show (0 : Int) ≤ k by omega), decide_eq_true (show (k : Int) < ys.length by omega), wrap64 (by omega) (by omega), List.drop_eq_getElem_cons hlt, List.drop_eq_getElem_cons hlt2]
    simp only [cond_true, Bool.and_self, chkT, Int.toNat_natCast, List.getD, List.getElem?_eq_getElem hlt, List.getElem?_eq_getElem hlt2, Option.getD_some]
    unfold Sp.eqS
    cases !(xs[k].toList == ys[k].toList) with
    | true => rfl
    | false =>
      rw [cond_false, cond_false]
      exact ih (k + 1) m (by omega) (by omega)
theorem e29_core (xs ys : List ByteArray) (h1 : xs.length ≤ maxLen) : ∃ n, abody Γ (orc []) n 29 [XV.mk false [X.c (X0.dat Ty.str.slice xs)], XV.mk false [X.c (X0.dat Ty.str.slice ys)]] = some (rBo (Sp.eqS xs ys)) := by
  refine ⟨xs.length + 1, (f29_raw _ xs ys).trans ?_⟩
  by_cases he : xs.length = ys.length
  · have h2 : ((xs.length : Int) != (ys.length : Int)) = false := by simp [he]
    rw [h2]
    simp only [cond_false]
    exact f29_loop _ xs ys h1 he xs.length 0 _ (Nat.zero_add _) (Nat.lt_succ_self _)
  · have h2 : ((xs.length : Int) != (ys.length : Int)) = true := by
      simp; omega
    rw [h2, eqS_len he]
    rfl
theorem e29_ok : Valid Try.prog Γ e29 := valid_len ok vnil fun a _ hl => e29_core a.1 a.2 (hl _ (List.mem_cons_self) _ (List.mem_cons_self)).1
noncomputable def f30_L0 (n m0 : Nat) (y0 : Int) (y1 : Int) (y2 : List ByteArray) : Option Res := loopAt Γ (orc [e75]) n (30 : Nat) (1 : Nat) [(0 : Nat)] [Pth.r, Pth.l, Pth.r, Pth.b] m0 (St.mk [Slot.val (Val.one (Cell.own (0 : Nat))), Slot.val (Val.one (Cell.dat (Ty.int IntKind.i64) y0)), Slot.nix, Slot.nix, Slot.nix, Slot.val (Val.one (Cell.dat (Ty.int IntKind.i64) y1)), Slot.nix, Slot.nix, Slot.nix, Slot.nix, Slot.nix, Slot.nix, Slot.nix, Slot.nix, Slot.nix, Slot.nix, Slot.nix, Slot.nix, Slot.nix, Slot.nix] [AObj.row Ty.str y2 true])
theorem f30_L0_step (n m0 : Nat) (y0 : Int) (y1 : Int) (y2 : List ByteArray) : f30_L0 n (m0 + 1) y0 y1 y2 = bif decide (y1 < (↑y2.length : Int)) then chk (Sp.mOK y0) (chk (decide ((0 : Int) ≤ y1) && decide (y1 < (↑y2.length : Int))) (f30_L0 n m0 (IntKind.i64.wrap (y0 + (1 : Int))) (IntKind.i64.wrap (y1 + (1 : Int))) (y2.set y1.toNat (Sp.mText y0)))) else some (Res.mk [XV.mk false [X.c (X0.dat (Ty.int IntKind.i64) y0)]] [X.c (X0.row Ty.str y2 true)]) := by kernel_rfl
theorem f30_raw (n : Nat) (x0 : List ByteArray) (x1 : Int) : abody Γ (orc [e75]) n 30 [XV.mk false [X.c (X0.row Ty.str x0 true)], XV.mk false [X.c (X0.dat (Ty.int IntKind.i64) x1)]] = f30_L0 n n x1 (0 : Int) x0 := by kernel_rfl

def Sp.markS : List ByteArray → Int → List ByteArray
  | [], _ => []
  | _ :: r, k => Sp.mText k :: Sp.markS r (k + 1)
def Sp.heldS : List ByteArray → Int → Int
  | [], k => k
  | x :: r, k => bif !(x.toList == (Sp.mText k).toList) then -1 else Sp.heldS r (k + 1)
noncomputable def e30 : Ent := { f := 30, ins := [Sh.one (C0.row Ty.str), Sh.one cI], outs := [Sh.one cI], upd := [Sh.one (C0.row Ty.str)], pre := fun a => Sp.small (α := ByteArray) a.1 a.2, spec := fun a => Sp.addLen (α := ByteArray) a.1 a.2, wrt := fun a => Sp.markS a.1 a.2 }
theorem f30_loop (n : Nat) : ∀ (d k m : Nat) (v : Int) (acc : List ByteArray), k + d = acc.length → d < m → 0 ≤ v → v + d ≤ 4611686018427387904 → k ≤ v + 4611686018427387904 → acc.length ≤ 4611686018427387904 →
    f30_L0 n m v (↑k : Int) acc = some (Res.mk [XV.mk false [X.c (X0.dat (Ty.int IntKind.i64) (v + (d : Int)))]] [X.c (X0.row Ty.str (acc.take k ++ Sp.markS (acc.drop k) v) true)]) := by
  intro d
  induction d with
  | zero =>
    intro k m v acc hk hm h0 h1 h2 h3
    obtain ⟨m, rfl⟩ := succ_of hm
    rw [f30_L0_step, decide_eq_false (by omega), List.drop_of_length_le (by omega), List.take_of_length_le (by omega)]
    simp [Sp.markS]
  | succ d ih =>
    intro k m v acc hk hm h0 h1 h2 h3
    obtain ⟨m, rfl⟩ := succ_of hm
    have hlt : k < acc.length := by omega
    have hok : Sp.mOK v = true := decide_eq_true (by omega)
    rw [f30_L0_step, hok, decide_eq_true (show (k : Int) < acc.length by omega), decide_eq_true (show (0 : Int) ≤ k by omega), wrap64 (by omega) (by omega), wrap64 (n := (k : Int) + 1) (by omega) (by omega)]
    simp only [cond_true, Bool.and_self, chkT, Int.toNat_natCast]
    have := ih (k + 1) m (v + 1) (acc.set k (Sp.mText v)) (by simpa using by omega) (by omega) (by omega) (by omega) (by omega) (by simpa using h3)
    refine this.trans ?_
    have e : (acc.set k (Sp.mText v)).take (k + 1) = acc.take k ++ [Sp.mText v] := by
      rw [List.take_set, List.take_succ_eq_append_getElem (by omega)]
      rw [List.set_append_right _ _ (by simp; omega)]
      simp [Nat.min_eq_left (show k ≤ acc.length by omega)]
    have e2 : (acc.set k (Sp.mText v)).drop (k + 1) = acc.drop (k + 1) := by rw [List.drop_set_of_lt (by omega)]
    rw [e, e2, List.append_assoc, List.drop_eq_getElem_cons hlt]
    simp only [Sp.markS, List.singleton_append]
    rw [show v + 1 + (d : Int) = v + ((d + 1 : Nat) : Int) by omega]
theorem e30_core (xs : List ByteArray) (v : Int) (ha : Sp.small xs v = true) : ∃ n, abody Γ (orc [e75]) n 30 [XV.mk false [X.c (X0.row Ty.str xs true)], XV.mk false [X.c (X0.dat (Ty.int IntKind.i64) v)]] = some (Res.mk [XV.mk false [X.c (X0.dat (Ty.int IntKind.i64) (Sp.addLen xs v))]] [X.c (X0.row Ty.str (Sp.markS xs v) true)]) := by
  obtain ⟨h1, h2⟩ := small_of ha
  refine ⟨xs.length + 1, (f30_raw _ xs v).trans ?_⟩
  exact f30_loop _ xs.length 0 _ v xs (Nat.zero_add _) (Nat.lt_succ_self _) h1 h2 (by omega) (by omega)
theorem e30_ok : Valid Try.prog Γ e30 := valid_of ok (vcons e75_ok vnil) fun a ha => e30_core a.1 a.2 ha
noncomputable def f31_L0 (n m0 : Nat) (y0 : List ByteArray) (y1 : Int) (y2 : Int) : Option Res := loopAt Γ (orc [e75]) n (31 : Nat) (0 : Nat) [] [Pth.r, Pth.l, Pth.r, Pth.b] m0 (St.mk [Slot.val (Val.one (Cell.dat Ty.str.slice y0)), Slot.val (Val.one (Cell.dat (Ty.int IntKind.i64) y1)), Slot.nix, Slot.nix, Slot.nix, Slot.val (Val.one (Cell.dat (Ty.int IntKind.i64) y2)), Slot.nix, Slot.nix, Slot.nix, Slot.nix, Slot.nix, Slot.nix, Slot.nix, Slot.nix, Slot.nix, Slot.nix, Slot.nix, Slot.nix, Slot.nix, Slot.nix, Slot.nix, Slot.nix] [])
theorem f31_L0_step (n m0 : Nat) (y0 : List ByteArray) (y1 : Int) (y2 : Int) : f31_L0 n (m0 + 1) y0 y1 y2 = bif decide (y2 < (↑y0.length : Int)) then chk (decide ((0 : Int) ≤ y2) && decide (y2 < (↑y0.length : Int))) (chk (Sp.mOK y1) (bif !(y0.getD y2.toNat (ByteArray.mk #[])).toList == (Sp.mText y1).toList then some (Res.mk [XV.mk false [X.c (X0.dat (Ty.int IntKind.i64) (-1 : Int))]] []) else f31_L0 n m0 y0 (IntKind.i64.wrap (y1 + (1 : Int))) (IntKind.i64.wrap (y2 + (1 : Int))))) else some (Res.mk [XV.mk false [X.c (X0.dat (Ty.int IntKind.i64) y1)]] []) := by kernel_rfl
theorem f31_raw (n : Nat) (x0 : List ByteArray) (x1 : Int) : abody Γ (orc [e75]) n 31 [XV.mk false [X.c (X0.dat Ty.str.slice x0)], XV.mk false [X.c (X0.dat (Ty.int IntKind.i64) x1)]] = f31_L0 n n x0 x1 (0 : Int) := by kernel_rfl

noncomputable def e31 : Ent := { f := 31, ins := [Sh.one (cL Ty.str), Sh.one cI], outs := [Sh.one cI], upd := [], pre := fun a => Sp.small (α := ByteArray) a.1 a.2, spec := fun a => Sp.heldS a.1 a.2, wrt := fun _ => () }
theorem f31_loop (n : Nat) (xs : List ByteArray) : ∀ (d k m : Nat) (v : Int), k + d = xs.length → d < m → 0 ≤ v → v + d ≤ 4611686018427387904 → xs.length ≤ 4611686018427387904 →
    f31_L0 n m xs v (↑k : Int) = some (rI (Sp.heldS (xs.drop k) v)) := by
  intro d
  induction d with
  | zero =>
    intro k m v hk hm h0 h1 h3
    obtain ⟨m, rfl⟩ := succ_of hm
    rw [f31_L0_step, decide_eq_false (by omega), List.drop_of_length_le (by omega)]
    rfl
  | succ d ih =>
    intro k m v hk hm h0 h1 h3
    obtain ⟨m, rfl⟩ := succ_of hm
    have hlt : k < xs.length := by omega
    have hok : Sp.mOK v = true := decide_eq_true (by omega)
    rw [f31_L0_step, hok, decide_eq_true (show (k : Int) < xs.length by omega), decide_eq_true (show (0 : Int) ≤ k by omega), wrap64 (by omega) (by omega), wrap64 (n := (k : Int) + 1) (by omega) (by omega), List.drop_eq_getElem_cons hlt]
    simp only [cond_true, Bool.and_self, chkT, Int.toNat_natCast, List.getD, List.getElem?_eq_getElem hlt, Option.getD_some, Sp.heldS]
    cases !(xs[k].toList == (Sp.mText v).toList) with
    | true => rfl
    | false =>
      simp only [cond_false]
      exact ih (k + 1) m (v + 1) (by omega) (by omega) (by omega) (by omega) h3
theorem e31_core (xs : List ByteArray) (v : Int) (ha : Sp.small xs v = true) : ∃ n, abody Γ (orc [e75]) n 31 [XV.mk false [X.c (X0.dat Ty.str.slice xs)], XV.mk false [X.c (X0.dat (Ty.int IntKind.i64) v)]] = some (rI (Sp.heldS xs v)) := by
  obtain ⟨h1, h2⟩ := small_of ha
  refine ⟨xs.length + 1, (f31_raw _ xs v).trans ?_⟩
  exact f31_loop _ xs xs.length 0 _ v (Nat.zero_add _) (Nat.lt_succ_self _) h1 h2 (by omega)
theorem e31_ok : Valid Try.prog Γ e31 := valid_of ok (vcons e75_ok vnil) fun a ha => e31_core a.1 a.2 ha
end Go.Proofs.GR.T

set_option maxRecDepth 100000
namespace Go.Proofs.GR.T
open Go Go.Proofs Go.Proofs.GR
def Sp.f121 (x0 : ByteArray) := (x0, ())
def Sp.chunks : Nat → List Int → List ByteArray
  | 0, _ => []
  | d + 1, xs => bif decide (xs.length = 0) then [] else bytesStr (xs.take 64) :: Sp.chunks d (xs.drop 64)
def Sp.f27 (x0 : List Int) := (bif decide ((↑x0.length : Int) > (65536 : Int)) then (([], (2 : Int)), ()) else ((Sp.chunks x0.length x0, (0 : Int)), ()))
def Sp.f28 (x0 : List Int) := (bif decide ((↑x0.length : Int) > (65536 : Int)) then (([], (2 : Int)), ()) else ((Sp.chunks (strBytes (bytesStr x0)).length (strBytes (bytesStr x0)), (0 : Int)), ()))
def Sp.f6 (x0 : List Int) := (bif decide ((↑x0.length : Int) > (1048576 : Int)) then (true, ()) else (bif !Sp.eqS (Sp.f28 x0).1.1 (Sp.f27 x0).1.1 then (false, ()) else (bif (Sp.f28 x0).1.2 != (Sp.f27 x0).1.2 then (false, ()) else (bif !Sp.eqL x0 x0 then (false, ()) else (bif decide (Sp.addLen x0 (1 : Int) < (0 : Int)) then (false, ()) else (bif !Sp.eqS (Sp.f28 x0).1.1 (Sp.f27 x0).1.1 then (false, ()) else (bif (Sp.f28 x0).1.2 != (Sp.f27 x0).1.2 then (false, ()) else (bif decide (Sp.heldS (Sp.markS (Sp.f28 x0).1.1 (1 : Int)) (1 : Int) < (0 : Int)) then (false, ()) else (bif Sp.heldS (Sp.markS (Sp.f28 x0).1.1 (1 : Int)) (1 : Int) != Sp.addLen (Sp.f28 x0).1.1 (1 : Int) then (false, ()) else (bif !Sp.eqS (Sp.f28 x0).1.1 (Sp.f27 x0).1.1 then (false, ()) else (bif (Sp.f28 x0).1.2 != (Sp.f27 x0).1.2 then (false, ()) else (bif decide (Sp.heldS (Sp.markS (Sp.f28 x0).1.1 (1 : Int)) (1 : Int) < (0 : Int)) then (false, ()) else (bif Sp.heldS (Sp.markS (Sp.f28 x0).1.1 (1 : Int)) (1 : Int) != Sp.addLen (Sp.f28 x0).1.1 (1 : Int) then (false, ()) else (true, ()))))))))))))))
end Go.Proofs.GR.T

namespace Go.Proofs.GR.T
open Go Go.Proofs Go.Proofs.GR
theorem eqS_self : ∀ xs : List ByteArray, Sp.eqS xs xs = true
  | [] => rfl
  | x :: r => by
    unfold Sp.eqS
    rw [beq_self_eq_true, eqS_self r]; rfl
theorem markS_len : ∀ (xs : List ByteArray) (k : Int), (Sp.markS xs k).length = xs.length
  | [], _ => rfl
  | x :: r, k => by rw [Sp.markS, List.length_cons, List.length_cons, markS_len r]
theorem heldS_mark : ∀ (xs : List ByteArray) (k : Int), Sp.heldS (Sp.markS xs k) k = k + xs.length
  | [], k => by simp [Sp.heldS, Sp.markS]
  | x :: r, k => by
    rw [Sp.markS, Sp.heldS, beq_self_eq_true, Bool.not_true, cond_false, heldS_mark r, List.length_cons]
    omega
end Go.Proofs.GR.T

set_option maxRecDepth 100000
namespace Go.Proofs.GR.T
open Go Go.Proofs Go.Proofs.GR
def Sp.f79 (x0 : Int) (x1 : Int) (x2 : Int) := (bif decide (x0 ≥ x1) then (decide (x0 ≤ x2), ()) else (false, ()))
noncomputable def e79 : Ent := { f := 79, ins := [Sh.one (C0.dat (Ty.int IntKind.i64)), Sh.one (C0.dat (Ty.int IntKind.i64)), Sh.one (C0.dat (Ty.int IntKind.i64))], outs := [Sh.one (C0.dat Ty.bool)], upd := [], pre := fun a => true, spec := fun a => (Sp.f79 a.1 a.2.1 a.2.2).1, wrt := fun a => (Sp.f79 a.1 a.2.1 a.2.2).2 }
def f79_g (v : denS [Sh.one (C0.dat Ty.bool)] × denS []) : Res := ⟨mkS [Sh.one (C0.dat Ty.bool)] v.1, mkU [] v.2⟩
theorem f79_raw (x0 : Int) (x1 : Int) (x2 : Int) : abody Γ (orc []) 0 79 [XV.mk false [X.c (X0.dat (Ty.int IntKind.i64) x0)], XV.mk false [X.c (X0.dat (Ty.int IntKind.i64) x1)], XV.mk false [X.c (X0.dat (Ty.int IntKind.i64) x2)]] = bif decide (x0 ≥ x1) then some (Res.mk [XV.mk false [X.c (X0.dat Ty.bool (decide (x0 ≤ x2)))]] []) else some (Res.mk [XV.mk false [X.c (X0.dat Ty.bool false)]] []) := by kernel_rfl
theorem f79_form (x0 : Int) (x1 : Int) (x2 : Int) : (bif decide (x0 ≥ x1) then some (Res.mk [XV.mk false [X.c (X0.dat Ty.bool (decide (x0 ≤ x2)))]] []) else some (Res.mk [XV.mk false [X.c (X0.dat Ty.bool false)]] [])) = some (f79_g (Sp.f79 x0 x1 x2)) := by
  unfold Sp.f79
  exact (cond_plain f79_g (rfl) (rfl))
theorem e79_ok : Valid Try.prog Γ e79 := valid_auto ok vnil fun a => (f79_raw a.1 a.2.1 a.2.2).trans (f79_form a.1 a.2.1 a.2.2)

def Sp.f136 (x0 : Int) (x1 : Int) (x2 : ByteArray) := (bif x0 == (0 : Int) then (bif x1 == (0 : Int) then (x2.toList == (ByteArray.mk #[]).toList, ()) else (false, ())) else (bif x0 == (1 : Int) then (bif (Sp.f79 x1 (0 : Int) (1 : Int)).1 then (x2.toList == (ByteArray.mk #[]).toList, ()) else (false, ())) else (bif x0 == (2 : Int) then (x2.toList == (ByteArray.mk #[]).toList, ()) else (bif x0 == (3 : Int) then (bif x0 == (3 : Int) then (bif x1 == (0 : Int) then (decide ((↑x2.size : Int) ≤ (60 : Int)), ()) else (false, ())) else (false, ())) else (bif x0 == (4 : Int) then (bif x1 == (0 : Int) then (decide ((↑x2.size : Int) ≤ (60 : Int)), ()) else (false, ())) else (false, ()))))))
def Sp.f167 (x0 : Int) := (bif x0 == (3 : Int) then (true, ()) else (x0 == (4 : Int), ()))
def Sp.f171 (x0 : Int) (x1 : Int) (x2 : ByteArray) := (bif x0 == (0 : Int) then (bif x1 == (0 : Int) then (x2.toList == (ByteArray.mk #[]).toList, ()) else (false, ())) else (bif x0 == (1 : Int) then (bif (Sp.f70 x1 (0 : Int) (1 : Int)).1 then (x2.toList == (ByteArray.mk #[]).toList, ()) else (false, ())) else (bif x0 == (2 : Int) then (x2.toList == (ByteArray.mk #[]).toList, ()) else (bif (Sp.f167 x0).1 then (bif x1 == (0 : Int) then (decide ((↑x2.size : Int) ≤ (60 : Int)), ()) else (false, ())) else (false, ())))))
def Sp.f170 (x0 : Int) (x1 : Int) (x2 : ByteArray) := (!(Sp.f171 x0 x1 x2).1, ())
def Sp.f86 (x0 : Int) (x1 : Int) (x2 : ByteArray) (x3 : Int) (x4 : Int) (x5 : ByteArray) := (bif x0 != x3 then (false, ()) else (bif x1 != x4 then (false, ()) else (bif !x2.toList == x5.toList then (false, ()) else (true, ()))))
noncomputable def e86 : Ent := { f := 86, ins := [Sh.agg [C0.dat (Ty.int IntKind.i64), C0.dat (Ty.int IntKind.i64), C0.dat Ty.str], Sh.agg [C0.dat (Ty.int IntKind.i64), C0.dat (Ty.int IntKind.i64), C0.dat Ty.str]], outs := [Sh.one (C0.dat Ty.bool)], upd := [], pre := fun a => true, spec := fun a => (Sp.f86 a.1.1 a.1.2.1 a.1.2.2 a.2.1 a.2.2.1 a.2.2.2).1, wrt := fun a => (Sp.f86 a.1.1 a.1.2.1 a.1.2.2 a.2.1 a.2.2.1 a.2.2.2).2 }
def f86_g (v : denS [Sh.one (C0.dat Ty.bool)] × denS []) : Res := ⟨mkS [Sh.one (C0.dat Ty.bool)] v.1, mkU [] v.2⟩
theorem f86_raw (x0 : Int) (x1 : Int) (x2 : ByteArray) (x3 : Int) (x4 : Int) (x5 : ByteArray) : abody Γ (orc []) 0 86 [XV.mk true [X.c (X0.dat (Ty.int IntKind.i64) x0), X.c (X0.dat (Ty.int IntKind.i64) x1), X.c (X0.dat Ty.str x2)], XV.mk true [X.c (X0.dat (Ty.int IntKind.i64) x3), X.c (X0.dat (Ty.int IntKind.i64) x4), X.c (X0.dat Ty.str x5)]] = bif x0 != x3 then some (Res.mk [XV.mk false [X.c (X0.dat Ty.bool false)]] []) else bif x1 != x4 then some (Res.mk [XV.mk false [X.c (X0.dat Ty.bool false)]] []) else bif !x2.toList == x5.toList then some (Res.mk [XV.mk false [X.c (X0.dat Ty.bool false)]] []) else some (Res.mk [XV.mk false [X.c (X0.dat Ty.bool true)]] []) := by kernel_rfl
theorem f86_form (x0 : Int) (x1 : Int) (x2 : ByteArray) (x3 : Int) (x4 : Int) (x5 : ByteArray) : (bif x0 != x3 then some (Res.mk [XV.mk false [X.c (X0.dat Ty.bool false)]] []) else bif x1 != x4 then some (Res.mk [XV.mk false [X.c (X0.dat Ty.bool false)]] []) else bif !x2.toList == x5.toList then some (Res.mk [XV.mk false [X.c (X0.dat Ty.bool false)]] []) else some (Res.mk [XV.mk false [X.c (X0.dat Ty.bool true)]] [])) = some (f86_g (Sp.f86 x0 x1 x2 x3 x4 x5)) := by
  unfold Sp.f86
  exact (cond_plain f86_g (rfl) ((cond_plain f86_g (rfl) ((cond_plain f86_g (rfl) (rfl))))))
theorem e86_ok : Valid Try.prog Γ e86 := valid_auto ok vnil fun a => (f86_raw a.1.1 a.1.2.1 a.1.2.2 a.2.1 a.2.2.1 a.2.2.2).trans (f86_form a.1.1 a.1.2.1 a.1.2.2 a.2.1 a.2.2.1 a.2.2.2)

def Sp.oneV (b : List Int) (a : Int) (bad : Bool) : Int := bif bad then 0 else bif decide (a ≥ (b.length : Int)) then 0 else b.getD a.toNat 0
def Sp.oneA (b : List Int) (a : Int) (bad : Bool) : Int := bif bad then a else bif decide (a ≥ (b.length : Int)) then a else a + 1
def Sp.oneB (b : List Int) (a : Int) (bad : Bool) : Bool := bif bad then true else decide (a ≥ (b.length : Int))
def Sp.takeB (b : List Int) (a : Int) (bad : Bool) (n : Int) : Bool := bif bad then true else bif decide (n < 0) then true else decide (a + n > (b.length : Int))
def Sp.takeV (b : List Int) (a : Int) (bad : Bool) (n : Int) : List Int := bif Sp.takeB b a bad n then List.replicate (maxI 0 (minI n 8)).toNat 0 else (b.drop a.toNat).take n.toNat
def Sp.takeA (b : List Int) (a : Int) (bad : Bool) (n : Int) : Int := bif Sp.takeB b a bad n then a else a + n
def Sp.of8 (xs : List Int) : Int := (Sp.num 0 (xs.take 8) : Int) - 9223372036854775808
end Go.Proofs.GR.T

set_option maxRecDepth 100000
namespace Go.Proofs.GR.T
open Go Go.Proofs Go.Proofs.GR
def Sp.kt : List Int → List Int → Int → ByteArray × Int
  | [], _, _ => (ByteArray.mk #[], 0)
  | [x], acc, i => (ByteArray.mk #[], 0)
  | x :: y :: r, acc, i => bif x != 0 then Sp.kt (y :: r) (acc ++ [x]) (i + 1) else bif y == 1 then (bytesStr acc, i + 2) else bif y != 255 then (ByteArray.mk #[], 0) else Sp.kt r (acc ++ [0]) (i + 2)
abbrev V3 := Int × Int × ByteArray
def Sp.zv : V3 := (0, 0, ByteArray.empty)
def Sp.cellC (x : Int) (r : List Int) (row : Bool) : V3 × Int :=
    bif x == 0 then ((0, 0, ByteArray.empty), 1)
    else bif x == 1 then (match r with | [] => (Sp.zv, 0) | y :: _ => ((1, y, ByteArray.empty), 2))
    else bif x == 2 then (bif Nat.ble 8 r.length then ((2, Sp.of8 r, ByteArray.empty), 9) else (Sp.zv, 0))
    else bif (Sp.f167 x).1 then
      bif !row then (bif decide ((Sp.kt r [] 0).2 > 0) then ((x, 0, (Sp.kt r [] 0).1), IntKind.i64.wrap ((Sp.kt r [] 0).2 + 1)) else (Sp.zv, 0))
      else (match r with | [] => (Sp.zv, 0) | y :: r' => bif Nat.ble y.toNat r'.length then ((x, 0, bytesStr (r'.take y.toNat)), 2 + y) else (Sp.zv, 0))
    else (Sp.zv, 0)
def Sp.cell : List Int → Bool → V3 × Int
  | [], _ => (Sp.zv, 0)
  | x :: r, row => Sp.cellC x r row
end Go.Proofs.GR.T

namespace Go.Proofs.GR.T
open Go Go.Proofs Go.Proofs.GR
namespace Sp
def eqW {α β : Type} (q : α → β → Bool) : List α → List β → Bool
  | [], [] => true
  | x :: r, y :: s => bif !q x y then false else eqW q r s
  | _, _ => false
def markW {α : Type} (g : α → Int → α) (c : Int) : List α → Int → List α
  | [], _ => []
  | x :: r, k => g x k :: markW g c r (k + c)
def heldW {α : Type} (p : α → Int → Bool) (c : Int) : List α → Int → Int
  | [], k => k
  | x :: r, k => bif p x k then heldW p c r (k + c) else -1
def smallW {α : Type} (c : Nat) (xs : List α) (k : Int) : Bool := match k with
  | .ofNat n => decide (n + c * xs.length ≤ 4611686018427387904)
  | .negSucc _ => false
def addW {α : Type} (c : Int) (xs : List α) (k : Int) : Int := k + c * (xs.length : Int)
def allW {α : Type} (p : α → Bool) : List α → Bool
  | [] => true
  | x :: r => bif !p x then false else allW p r
end Sp
theorem smallW_of {α : Type} {c : Nat} {xs : List α} {k : Int} (h : Sp.smallW c xs k = true) : 0 ≤ k ∧ k + c * (xs.length : Int) ≤ 4611686018427387904 := by
  cases k with
  | ofNat n =>
    have h1 : n + c * xs.length ≤ 4611686018427387904 := of_decide_eq_true h
    refine ⟨Int.natCast_nonneg n, ?_⟩
    show (n : Int) + c * (xs.length : Int) ≤ 4611686018427387904
    rw [← Int.natCast_mul]
    omega
  | negSucc n => cases h
theorem smallW_mk {α : Type} {c : Nat} {xs : List α} {k : Int} (h1 : 0 ≤ k) (h2 : k.toNat + c * xs.length ≤ 4611686018427387904) : Sp.smallW c xs k = true := by
  cases k with
  | ofNat n => exact decide_eq_true h2
  | negSucc n => exact absurd h1 (by omega)
theorem eqW_len {α β : Type} {q : α → β → Bool} : ∀ {xs : List α} {ys : List β}, xs.length ≠ ys.length → Sp.eqW q xs ys = false
  | [], [], h => absurd rfl h
  | [], _ :: _, _ => rfl
  | _ :: _, [], _ => rfl
  | x :: r, y :: s, h => by
    unfold Sp.eqW
    rw [eqW_len (xs := r) (ys := s) (fun e => h (by simp [e]))]
    cases !q x y <;> rfl
theorem eqW_self {α : Type} {q : α → α → Bool} (h : ∀ x, q x x = true) : ∀ xs : List α, Sp.eqW q xs xs = true
  | [] => rfl
  | x :: r => by unfold Sp.eqW; rw [h, eqW_self h r]; rfl
theorem allW_mem {α : Type} {p : α → Bool} : ∀ {xs : List α}, Sp.allW p xs = true ↔ ∀ x ∈ xs, p x = true
  | [] => by simp [Sp.allW]
  | x :: r => by
    unfold Sp.allW
    cases h : p x with
    | true => simp [h, allW_mem (xs := r)]
    | false => simp [h]
theorem eq_loop {α : Type} {ρ : Type} {q : α → α → Bool} {R : Bool → ρ} (xs ys : List α) (L : Nat → Int → Option ρ) (hy : xs.length = ys.length)
    (hend : ∀ m (k : Nat), xs.length ≤ k → L (m + 1) k = some (R true))
    (hstep : ∀ m (k : Nat) (h : k < xs.length) (h2 : k < ys.length), L (m + 1) k = bif !q xs[k] ys[k] then some (R false) else L m ((k + 1 : Nat) : Int)) :
    ∀ (d k m : Nat), k + d = xs.length → d < m → L m k = some (R (Sp.eqW q (xs.drop k) (ys.drop k))) := by
  intro d
  induction d with
  | zero =>
    intro k m hk hm
    obtain ⟨m, rfl⟩ := succ_of hm
    rw [hend m k (by omega), List.drop_of_length_le (by omega), List.drop_of_length_le (by omega)]
    rfl
  | succ d ih =>
    intro k m hk hm
    obtain ⟨m, rfl⟩ := succ_of hm
    rw [hstep m k (by omega) (by omega), ih (k + 1) m (by omega) (by omega), List.drop_eq_getElem_cons (show k < xs.length by omega), List.drop_eq_getElem_cons (show k < ys.length by omega)]
    rw [Sp.eqW]
    cases !q xs[k] ys[k] <;> rfl
theorem mark_loop {α : Type} {ρ : Type} {g : α → Int → α} {c : Nat} {R : Int → List α → ρ} (L : Nat → Int → Int → List α → Option ρ)
    (hend : ∀ m (v : Int) (k : Nat) acc, acc.length ≤ k → L (m + 1) v k acc = some (R v acc))
    (hstep : ∀ m (v : Int) (k : Nat) acc (h : k < acc.length), acc.length ≤ 9223372036854775807 → 0 ≤ v → v + c ≤ 4611686018427387904 → L (m + 1) v k acc = L m (v + c) ((k + 1 : Nat) : Int) (acc.set k (g acc[k] v))) :
    ∀ (d k m : Nat) (v : Int) (acc : List α), k + d = acc.length → d < m → acc.length ≤ 9223372036854775807 → 0 ≤ v → v + c * (d : Int) ≤ 4611686018427387904 →
      L m v k acc = some (R (v + c * (d : Int)) (acc.take k ++ Sp.markW g c (acc.drop k) v)) := by
  intro d
  induction d with
  | zero =>
    intro k m v acc hk hm hlen h0 h1
    obtain ⟨m, rfl⟩ := succ_of hm
    rw [hend m v k acc (by omega), List.drop_of_length_le (by omega), List.take_of_length_le (by omega)]
    simp [Sp.markW]
  | succ d ih =>
    intro k m v acc hk hm hlen h0 h1
    obtain ⟨m, rfl⟩ := succ_of hm
    rw [Int.natCast_add, Int.natCast_one, Int.mul_add, Int.mul_one] at h1
    have hp : (0 : Int) ≤ c * (d : Int) := Int.mul_nonneg (Int.natCast_nonneg _) (Int.natCast_nonneg _)
    have hc : (0 : Int) ≤ c := Int.natCast_nonneg _
    have hlt : k < acc.length := by omega
    rw [hstep m v k acc hlt hlen h0 (by omega), ih (k + 1) m (v + c) _ (by rw [List.length_set]; omega) (by omega) (by rw [List.length_set]; exact hlen) (by omega) (by omega)]
    have e : (acc.set k (g acc[k] v)).take (k + 1) = acc.take k ++ [g acc[k] v] := by
      rw [List.take_set, List.take_succ_eq_append_getElem (by omega)]
      rw [List.set_append_right _ _ (by simp; omega)]
      simp [Nat.min_eq_left (show k ≤ acc.length by omega)]
    have e2 : (acc.set k (g acc[k] v)).drop (k + 1) = acc.drop (k + 1) := by rw [List.drop_set_of_lt (by omega)]
    rw [e, e2, List.append_assoc, List.drop_eq_getElem_cons hlt]
    simp only [Sp.markW, List.singleton_append]
    rw [Int.natCast_add, Int.natCast_one, Int.mul_add, Int.mul_one, show v + c + c * (d : Int) = v + (c * (d : Int) + c) by omega]
theorem getD_nat {α : Type} (xs : List α) (k : Nat) (d : α) (h : k < xs.length) : xs.getD (k : Int).toNat d = xs[k] := by
  rw [Int.toNat_natCast, List.getD, List.getElem?_eq_getElem h, Option.getD_some]
theorem guard2 {k n : Nat} (h : k < n) : (decide ((0 : Int) ≤ (k : Int)) && decide ((k : Int) < (n : Int))) = true := by
  rw [decide_eq_true (show (0 : Int) ≤ k by omega), decide_eq_true (show (k : Int) < n by omega)]; rfl
theorem guard0 {k : Nat} : (decide ((0 : Int) ≤ (k : Int)) && true) = true := by
  rw [decide_eq_true (show (0 : Int) ≤ k by omega)]; rfl
theorem getD_set {α : Type} {l : List α} {k : Nat} {y d : α} (h : k < l.length) : (l.set k y).getD k d = y := by
  rw [List.getD, List.getElem?_set_self h, Option.getD_some]
theorem next64 {k n : Nat} (h : k < n) (h2 : n ≤ 9223372036854775807) : IntKind.i64.wrap ((k : Int) + 1) = ((k + 1 : Nat) : Int) := by
  rw [wrap64 (by omega) (by omega)]; omega
theorem nat_lt {k n : Nat} (h : k < n) : decide ((k : Int) < (n : Int)) = true := decide_eq_true (by omega)
theorem nat_ge {k n : Nat} (h : n ≤ k) : decide ((k : Int) < (n : Int)) = false := decide_eq_false (by omega)
end Go.Proofs.GR.T

set_option maxRecDepth 100000
namespace Go.Proofs.GR.T
open Go Go.Proofs Go.Proofs.GR
abbrev tV : Ty := .pair (.int .i64) (.pair (.int .i64) .str)
def Sp.eqV (x y : V3) : Bool := (Sp.f86 x.1 x.2.1 x.2.2 y.1 y.2.1 y.2.2).1
def Sp.markV (_ : V3) (k : Int) : V3 := (k, k + 1, Sp.mText (k + 2))
def Sp.heldV (x : V3) (k : Int) : Bool := bif x.1 != k then false else bif x.2.1 != k + 1 then false else x.2.2.toList == (Sp.mText (k + 2)).toList
noncomputable def f44_L0 (n m0 : Nat) (y0 : List (Int × Int × ByteArray)) (y1 : List (Int × Int × ByteArray)) (y2 : Int) : Option Res := loopAt Γ (orc [e86]) n (44 : Nat) (0 : Nat) [] [Pth.r, Pth.r, Pth.l, Pth.r, Pth.b] m0 (St.mk [Slot.val (Val.one (Cell.dat ((Ty.int IntKind.i64).pair ((Ty.int IntKind.i64).pair Ty.str)).slice y0)), Slot.val (Val.one (Cell.dat ((Ty.int IntKind.i64).pair ((Ty.int IntKind.i64).pair Ty.str)).slice y1)), Slot.nix, Slot.nix, Slot.nix, Slot.val (Val.one (Cell.dat (Ty.int IntKind.i64) y2)), Slot.nix, Slot.nix, Slot.nix, Slot.nix, Slot.nix, Slot.nix, Slot.nix, Slot.nix, Slot.nix, Slot.nix, Slot.nix, Slot.nix, Slot.nix, Slot.nix, Slot.nix, Slot.nix, Slot.nix, Slot.nix, Slot.nix, Slot.nix, Slot.nix] [])
theorem f44_L0_step (n m0 : Nat) (y0 : List (Int × Int × ByteArray)) (y1 : List (Int × Int × ByteArray)) (y2 : Int) : f44_L0 n (m0 + 1) y0 y1 y2 = bif decide (y2 < (↑y0.length : Int)) then chk (decide ((0 : Int) ≤ y2) && decide (y2 < (↑y0.length : Int))) (chk (decide ((0 : Int) ≤ y2) && decide (y2 < (↑y1.length : Int))) (bif !(Sp.f86 (y0.getD y2.toNat ((0 : Int), (0 : Int), ByteArray.mk #[])).1 (y0.getD y2.toNat ((0 : Int), (0 : Int), ByteArray.mk #[])).2.1 (y0.getD y2.toNat ((0 : Int), (0 : Int), ByteArray.mk #[])).2.2 (y1.getD y2.toNat ((0 : Int), (0 : Int), ByteArray.mk #[])).1 (y1.getD y2.toNat ((0 : Int), (0 : Int), ByteArray.mk #[])).2.1 (y1.getD y2.toNat ((0 : Int), (0 : Int), ByteArray.mk #[])).2.2).1 then some (Res.mk [XV.mk false [X.c (X0.dat Ty.bool false)]] []) else f44_L0 n m0 y0 y1 (IntKind.i64.wrap (y2 + (1 : Int))))) else some (Res.mk [XV.mk false [X.c (X0.dat Ty.bool true)]] []) := by kernel_rfl
theorem f44_raw (n : Nat) (x0 : List (Int × Int × ByteArray)) (x1 : List (Int × Int × ByteArray)) : abody Γ (orc [e86]) n 44 [XV.mk false [X.c (X0.dat ((Ty.int IntKind.i64).pair ((Ty.int IntKind.i64).pair Ty.str)).slice x0)], XV.mk false [X.c (X0.dat ((Ty.int IntKind.i64).pair ((Ty.int IntKind.i64).pair Ty.str)).slice x1)]] = bif (↑x0.length : Int) != (↑x1.length : Int) then some (Res.mk [XV.mk false [X.c (X0.dat Ty.bool false)]] []) else f44_L0 n n x0 x1 (0 : Int) := by kernel_rfl

noncomputable def e44 : Ent := { f := 44, ins := [Sh.one (C0.dat (.slice tV)), Sh.one (C0.dat (.slice tV))], outs := [Sh.one cB], upd := [], pre := fun a => true, spec := fun a => Sp.eqW Sp.eqV a.1 a.2, wrt := fun _ => () }
theorem e44_core (xs ys : List V3) (h1 : xs.length ≤ maxLen) : ∃ n, abody Γ (orc [e86]) n 44 [XV.mk false [X.c (X0.dat (Ty.slice tV) xs)], XV.mk false [X.c (X0.dat (Ty.slice tV) ys)]] = some (rBo (Sp.eqW Sp.eqV xs ys)) := by
  have h1 : xs.length ≤ 9223372036854775807 := h1
  refine ⟨xs.length + 1, (f44_raw _ xs ys).trans ?_⟩
  by_cases he : xs.length = ys.length
  · rw [show ((xs.length : Int) != (ys.length : Int)) = false by simp [he], cond_false]
    refine eq_loop xs ys (fun m k => f44_L0 _ m xs ys k) he (fun m k hk => ?_) (fun m k h h2 => ?_) xs.length 0 _ (Nat.zero_add _) (Nat.lt_succ_self _)
    · show f44_L0 _ _ _ _ _ = _
      rw [f44_L0_step, nat_ge hk, cond_false]
    · show f44_L0 _ _ _ _ _ = _
      rw [f44_L0_step, nat_lt h, cond_true, guard0, chkT, guard2 h2, chkT, getD_nat xs k _ h, getD_nat ys k _ h2, next64 h2 (by omega)]
      rfl
  · rw [show ((xs.length : Int) != (ys.length : Int)) = true by simp; omega, eqW_len he]
    rfl
theorem e44_ok : Valid Try.prog Γ e44 := valid_len ok (vcons e86_ok vnil) fun a _ hl => e44_core a.1 a.2 (hl _ (List.mem_cons_self) _ (List.mem_cons_self)).1
noncomputable def f45_L0 (n m0 : Nat) (y0 : Int) (y1 : Int) (y2 : List (Int × Int × ByteArray)) : Option Res := loopAt Γ (orc [e75]) n (45 : Nat) (1 : Nat) [(0 : Nat)] [Pth.r, Pth.l, Pth.r, Pth.b] m0 (St.mk [Slot.val (Val.one (Cell.own (0 : Nat))), Slot.val (Val.one (Cell.dat (Ty.int IntKind.i64) y0)), Slot.nix, Slot.nix, Slot.nix, Slot.val (Val.one (Cell.dat (Ty.int IntKind.i64) y1)), Slot.nix, Slot.nix, Slot.nix, Slot.nix, Slot.nix, Slot.nix, Slot.nix, Slot.nix, Slot.nix, Slot.nix, Slot.nix, Slot.nix, Slot.nix, Slot.nix, Slot.nix, Slot.nix, Slot.nix, Slot.nix, Slot.nix, Slot.nix, Slot.nix, Slot.nix, Slot.nix, Slot.nix, Slot.nix, Slot.nix, Slot.nix, Slot.nix, Slot.nix] [AObj.row ((Ty.int IntKind.i64).pair ((Ty.int IntKind.i64).pair Ty.str)) y2 true])
theorem f45_L0_step (n m0 : Nat) (y0 : Int) (y1 : Int) (y2 : List (Int × Int × ByteArray)) : f45_L0 n (m0 + 1) y0 y1 y2 = bif decide (y1 < (↑y2.length : Int)) then chk (decide ((0 : Int) ≤ y1) && decide (y1 < (↑y2.length : Int))) (chk (decide ((0 : Int) ≤ y1) && decide (y1 < (↑(y2.set y1.toNat (y0, (y2.getD y1.toNat ((0 : Int), (0 : Int), ByteArray.mk #[])).2)).length : Int))) (chk (Sp.mOK (IntKind.i64.wrap (IntKind.i64.wrap (y0 + (1 : Int)) + (1 : Int)))) (chk (decide ((0 : Int) ≤ y1) && decide (y1 < (↑((y2.set y1.toNat (y0, (y2.getD y1.toNat ((0 : Int), (0 : Int), ByteArray.mk #[])).2)).set y1.toNat (((y2.set y1.toNat (y0, (y2.getD y1.toNat ((0 : Int), (0 : Int), ByteArray.mk #[])).2)).getD y1.toNat ((0 : Int), (0 : Int), ByteArray.mk #[])).1, IntKind.i64.wrap (y0 + (1 : Int)), ((y2.set y1.toNat (y0, (y2.getD y1.toNat ((0 : Int), (0 : Int), ByteArray.mk #[])).2)).getD y1.toNat ((0 : Int), (0 : Int), ByteArray.mk #[])).2.2)).length : Int))) (f45_L0 n m0 (IntKind.i64.wrap (IntKind.i64.wrap (IntKind.i64.wrap (y0 + (1 : Int)) + (1 : Int)) + (1 : Int))) (IntKind.i64.wrap (y1 + (1 : Int))) (((y2.set y1.toNat (y0, (y2.getD y1.toNat ((0 : Int), (0 : Int), ByteArray.mk #[])).2)).set y1.toNat (((y2.set y1.toNat (y0, (y2.getD y1.toNat ((0 : Int), (0 : Int), ByteArray.mk #[])).2)).getD y1.toNat ((0 : Int), (0 : Int), ByteArray.mk #[])).1, IntKind.i64.wrap (y0 + (1 : Int)), ((y2.set y1.toNat (y0, (y2.getD y1.toNat ((0 : Int), (0 : Int), ByteArray.mk #[])).2)).getD y1.toNat ((0 : Int), (0 : Int), ByteArray.mk #[])).2.2)).set y1.toNat ((((y2.set y1.toNat (y0, (y2.getD y1.toNat ((0 : Int), (0 : Int), ByteArray.mk #[])).2)).set y1.toNat (((y2.set y1.toNat (y0, (y2.getD y1.toNat ((0 : Int), (0 : Int), ByteArray.mk #[])).2)).getD y1.toNat ((0 : Int), (0 : Int), ByteArray.mk #[])).1, IntKind.i64.wrap (y0 + (1 : Int)), ((y2.set y1.toNat (y0, (y2.getD y1.toNat ((0 : Int), (0 : Int), ByteArray.mk #[])).2)).getD y1.toNat ((0 : Int), (0 : Int), ByteArray.mk #[])).2.2)).getD y1.toNat ((0 : Int), (0 : Int), ByteArray.mk #[])).1, (((y2.set y1.toNat (y0, (y2.getD y1.toNat ((0 : Int), (0 : Int), ByteArray.mk #[])).2)).set y1.toNat (((y2.set y1.toNat (y0, (y2.getD y1.toNat ((0 : Int), (0 : Int), ByteArray.mk #[])).2)).getD y1.toNat ((0 : Int), (0 : Int), ByteArray.mk #[])).1, IntKind.i64.wrap (y0 + (1 : Int)), ((y2.set y1.toNat (y0, (y2.getD y1.toNat ((0 : Int), (0 : Int), ByteArray.mk #[])).2)).getD y1.toNat ((0 : Int), (0 : Int), ByteArray.mk #[])).2.2)).getD y1.toNat ((0 : Int), (0 : Int), ByteArray.mk #[])).2.1, Sp.mText (IntKind.i64.wrap (IntKind.i64.wrap (y0 + (1 : Int)) + (1 : Int))))))))) else some (Res.mk [XV.mk false [X.c (X0.dat (Ty.int IntKind.i64) y0)]] [X.c (X0.row ((Ty.int IntKind.i64).pair ((Ty.int IntKind.i64).pair Ty.str)) y2 true)]) := by kernel_rfl
theorem f45_raw (n : Nat) (x0 : List (Int × Int × ByteArray)) (x1 : Int) : abody Γ (orc [e75]) n 45 [XV.mk false [X.c (X0.row ((Ty.int IntKind.i64).pair ((Ty.int IntKind.i64).pair Ty.str)) x0 true)], XV.mk false [X.c (X0.dat (Ty.int IntKind.i64) x1)]] = f45_L0 n n x1 (0 : Int) x0 := by kernel_rfl

noncomputable def e45 : Ent := { f := 45, ins := [Sh.one (C0.row tV), Sh.one cI], outs := [Sh.one cI], upd := [Sh.one (C0.row tV)], pre := fun a => Sp.smallW (α := V3) 3 a.1 a.2, spec := fun a => Sp.addW (α := V3) 3 a.1 a.2, wrt := fun a => Sp.markW Sp.markV 3 a.1 a.2 }
abbrev rMk (τ : Ty) (v : Int) (xs : List τ.den) : Res := Res.mk [XV.mk false [X.c (X0.dat (Ty.int IntKind.i64) v)]] [X.c (X0.row τ xs true)]
theorem mOK_of {k : Int} (h : k ≤ 4611686018427387904) : Sp.mOK k = true := decide_eq_true (by omega)
theorem e45_core (xs : List V3) (v : Int) (ha : Sp.smallW 3 xs v = true) (hl : xs.length ≤ maxLen) : ∃ n, abody Γ (orc [e75]) n 45 [XV.mk false [X.c (X0.row tV xs true)], XV.mk false [X.c (X0.dat (Ty.int IntKind.i64) v)]] = some (rMk tV (Sp.addW 3 xs v) (Sp.markW Sp.markV 3 xs v)) := by
  obtain ⟨h1, h2⟩ := smallW_of ha
  have hl : xs.length ≤ 9223372036854775807 := hl
  refine ⟨xs.length + 1, (f45_raw _ xs v).trans ?_⟩
  refine mark_loop (c := 3) (g := Sp.markV) (R := rMk tV) (fun m v k acc => f45_L0 (xs.length + 1) m v k acc) (fun m v k acc hk => ?_) (fun m v k acc h hlen h0 h1 => ?_) xs.length 0 _ v xs (Nat.zero_add _) (Nat.lt_succ_self _) hl h1 h2
  · show f45_L0 _ _ _ _ _ = _
    rw [f45_L0_step, nat_ge hk, cond_false]
  · show f45_L0 _ _ _ _ _ = _
    have e1 : IntKind.i64.wrap (v + 1) = v + 1 := wrap64 (by omega) (by omega)
    have e2 : IntKind.i64.wrap (v + 1 + 1) = v + 2 := (wrap64 (by omega) (by omega)).trans (by omega)
    have e3 : IntKind.i64.wrap (v + 2 + 1) = v + (3 : Nat) := (wrap64 (by omega) (by omega)).trans (by omega)
    rw [f45_L0_step, List.length_set, List.length_set, List.length_set, nat_lt h, cond_true, guard0, chkT, chkT, e1, e2, e3, mOK_of (by omega), chkT, chkT, next64 h hlen]
    rw [Int.toNat_natCast]
    simp only [List.set_set]
    rw [getD_set h, getD_set h]
    rfl
theorem e45_ok : Valid Try.prog Γ e45 := valid_len ok (vcons e75_ok vnil) fun a ha hl => e45_core a.1 a.2 ha (hl _ (List.mem_cons_self) _ (List.mem_cons_self)).1
def Sp.vOK (x : V3) : Bool := (Sp.f136 x.1 x.2.1 x.2.2).1
def Sp.rowOK (xs : List V3) : Bool := bif decide ((xs.length : Int) > 8) then false else Sp.allW Sp.vOK xs
def Sp.badV (x : V3) : Bool := (Sp.f170 x.1 x.2.1 x.2.2).1
def Sp.f169 (x0 : List (Int × Int × ByteArray)) := (decide (Sp.idx Sp.badV x0 (0 : Int) ≥ (0 : Int)), ())
def Sp.f132 (x0 : List (Int × Int × ByteArray)) := (bif decide ((↑x0.length : Int) ≤ (8 : Int)) then (!(Sp.f169 x0).1, ()) else (false, ()))
end Go.Proofs.GR.T

set_option maxRecDepth 100000
namespace Go.Proofs.GR.T
open Go Go.Proofs Go.Proofs.GR
def Sp.rvV (b : List Int) (a : Int) (bad : Bool) : V3 :=
  bif Sp.oneV b a bad == 1 then (Sp.oneV b a bad, Sp.oneV b (Sp.oneA b a bad) (Sp.oneB b a bad), ByteArray.empty)
  else bif Sp.oneV b a bad == 2 then (Sp.oneV b a bad, Sp.of8 (Sp.takeV b (Sp.oneA b a bad) (Sp.oneB b a bad) 8), ByteArray.empty)
  else bif (bif Sp.oneV b a bad == 3 then true else Sp.oneV b a bad == 4) then (Sp.oneV b a bad, 0, bytesStr (Sp.takeV b (Sp.oneA b (Sp.oneA b a bad) (Sp.oneB b a bad)) (Sp.oneB b (Sp.oneA b a bad) (Sp.oneB b a bad)) (Sp.oneV b (Sp.oneA b a bad) (Sp.oneB b a bad))))
  else (Sp.oneV b a bad, 0, ByteArray.empty)
def Sp.rvA (b : List Int) (a : Int) (bad : Bool) : Int :=
  bif Sp.oneV b a bad == 1 then Sp.oneA b (Sp.oneA b a bad) (Sp.oneB b a bad)
  else bif Sp.oneV b a bad == 2 then Sp.takeA b (Sp.oneA b a bad) (Sp.oneB b a bad) 8
  else bif (bif Sp.oneV b a bad == 3 then true else Sp.oneV b a bad == 4) then Sp.takeA b (Sp.oneA b (Sp.oneA b a bad) (Sp.oneB b a bad)) (Sp.oneB b (Sp.oneA b a bad) (Sp.oneB b a bad)) (Sp.oneV b (Sp.oneA b a bad) (Sp.oneB b a bad))
  else Sp.oneA b a bad
def Sp.rvB (b : List Int) (a : Int) (bad : Bool) : Bool :=
  bif Sp.oneV b a bad == 1 then Sp.oneB b (Sp.oneA b a bad) (Sp.oneB b a bad)
  else bif Sp.oneV b a bad == 2 then Sp.takeB b (Sp.oneA b a bad) (Sp.oneB b a bad) 8
  else bif (bif Sp.oneV b a bad == 3 then true else Sp.oneV b a bad == 4) then Sp.takeB b (Sp.oneA b (Sp.oneA b a bad) (Sp.oneB b a bad)) (Sp.oneB b (Sp.oneA b a bad) (Sp.oneB b a bad)) (Sp.oneV b (Sp.oneA b a bad) (Sp.oneB b a bad))
  else Sp.oneB b a bad
def Sp.srow : Nat → List Int → Int → Bool → List V3 → List V3 × Int × Bool
  | 0, _, a, bad, out => (out, a, bad)
  | k + 1, b, a, bad, out => bif bad then (out, a, bad) else Sp.srow k b (Sp.rvA b a bad) (Sp.rvB b a bad) (out ++ [Sp.rvV b a bad])
def Sp.rowR (b : List Int) (a : Int) (bad : Bool) : List V3 × Int × Bool := Sp.srow (Sp.oneV b a bad).toNat b (Sp.oneA b a bad) (Sp.oneB b a bad) []
def Sp.rowB (b : List Int) (a : Int) (bad : Bool) : Bool := bif !Sp.rowOK (Sp.rowR b a bad).1 then true else (Sp.rowR b a bad).2.2
def Sp.f42 (x0 : List Int) := (bif decide ((↑x0.length : Int) > (65536 : Int)) then (([], (2 : Int)), ()) else (bif Sp.rowB x0 (0 : Int) false then (([], (3 : Int)), ()) else (bif (Sp.rowR x0 (0 : Int) false).2.1 != (↑x0.length : Int) then (([], (3 : Int)), ()) else (((Sp.rowR x0 (0 : Int) false).1, (0 : Int)), ()))))
def Sp.cells : Nat → List Int → Bool → List V3 → List V3 × Bool
  | 0, _, _, _ => ([], false)
  | d + 1, b, row, out => bif decide (b.length = 0) then (out, (Sp.f132 out).1)
    else bif (Sp.cell b row).2 == 0 then ([], false) else bif decide (out.length = 8) then ([], false)
    else Sp.cells d (b.drop (Sp.cell b row).2.toNat) row (out ++ [(Sp.cell b row).1])
def Sp.f43 (x0 : List Int) := (bif decide ((↑x0.length : Int) > (65536 : Int)) then (([], (2 : Int)), ()) else (bif (↑x0.length : Int) == (0 : Int) then (([], (3 : Int)), ()) else (bif !(Sp.cells ((List.take (x0.length - (1 : Nat)) (List.drop (1 : Nat) x0)).length + (1 : Nat)) (List.take (x0.length - (1 : Nat)) (List.drop (1 : Nat) x0)) true []).2 then (([], (3 : Int)), ()) else (bif (↑(Sp.cells ((List.take (x0.length - (1 : Nat)) (List.drop (1 : Nat) x0)).length + (1 : Nat)) (List.take (x0.length - (1 : Nat)) (List.drop (1 : Nat) x0)) true []).1.length : Int) != IntKind.i64.wrap (x0.getD (0 : Nat) (0 : Int)) then (([], (3 : Int)), ()) else (((Sp.cells ((List.take (x0.length - (1 : Nat)) (List.drop (1 : Nat) x0)).length + (1 : Nat)) (List.take (x0.length - (1 : Nat)) (List.drop (1 : Nat) x0)) true []).1, (0 : Int)), ())))))
def Sp.f9 (x0 : List Int) := (bif decide ((↑x0.length : Int) > (1048576 : Int)) then (true, ()) else (bif !Sp.eqW Sp.eqV (Sp.f43 x0).1.1 (Sp.f42 x0).1.1 then (false, ()) else (bif (Sp.f43 x0).1.2 != (Sp.f42 x0).1.2 then (false, ()) else (bif !Sp.eqL x0 x0 then (false, ()) else (bif decide (Sp.addLen x0 (1 : Int) < (0 : Int)) then (false, ()) else (bif !Sp.eqW Sp.eqV (Sp.f43 x0).1.1 (Sp.f42 x0).1.1 then (false, ()) else (bif (Sp.f43 x0).1.2 != (Sp.f42 x0).1.2 then (false, ()) else (bif decide (Sp.heldW Sp.heldV (3 : Int) (Sp.markW Sp.markV (3 : Int) (Sp.f43 x0).1.1 (1 : Int)) (1 : Int) < (0 : Int)) then (false, ()) else (bif Sp.heldW Sp.heldV (3 : Int) (Sp.markW Sp.markV (3 : Int) (Sp.f43 x0).1.1 (1 : Int)) (1 : Int) != Sp.addW (3 : Int) (Sp.f43 x0).1.1 (1 : Int) then (false, ()) else (bif !Sp.eqW Sp.eqV (Sp.f43 x0).1.1 (Sp.f42 x0).1.1 then (false, ()) else (bif (Sp.f43 x0).1.2 != (Sp.f42 x0).1.2 then (false, ()) else (bif decide (Sp.heldW Sp.heldV (3 : Int) (Sp.markW Sp.markV (3 : Int) (Sp.f43 x0).1.1 (1 : Int)) (1 : Int) < (0 : Int)) then (false, ()) else (bif Sp.heldW Sp.heldV (3 : Int) (Sp.markW Sp.markV (3 : Int) (Sp.f43 x0).1.1 (1 : Int)) (1 : Int) != Sp.addW (3 : Int) (Sp.f43 x0).1.1 (1 : Int) then (false, ()) else (true, ()))))))))))))))
end Go.Proofs.GR.T

namespace Go.Proofs.GR.T
open Go Go.Proofs Go.Proofs.GR
theorem eqV_self (x : V3) : Sp.eqV x x = true := by
  unfold Sp.eqV Sp.f86
  rw [show (x.1 != x.1) = false by simp, show (x.2.1 != x.2.1) = false by simp, beq_self_eq_true]
  rfl
end Go.Proofs.GR.T

set_option maxRecDepth 100000
namespace Go.Proofs.GR.T
open Go Go.Proofs Go.Proofs.GR
def Sp.hi (n j : Int) : Int := IntKind.u8.wrap (n.fdiv ((2 : Int) ^ min (IntKind.u64.wrap (IntKind.i64.wrap ((8 : Int) * j))).toNat (64 : Nat)))
def Sp.key8 (n : Int) : List Int := [IntKind.u8.wrap (((BitVec.ofInt (8 : Nat) (Sp.hi n 7) ^^^ BitVec.ofInt (8 : Nat) (128 : Int)).toNat : Nat) : Int), Sp.hi n 6, Sp.hi n 5, Sp.hi n 4, Sp.hi n 3, Sp.hi n 2, Sp.hi n 1, Sp.hi n 0]
def Sp.ktx : Nat → List Int → Int → Bool → List Int → List Int × Int × Bool
  | 0, _, a, bad, acc => (acc, a, bad)
  | d + 1, b, a, bad, acc => bif bad then (acc, a, bad) else
    bif decide (Sp.oneV b a bad > 0) then Sp.ktx d b (Sp.oneA b a bad) (Sp.oneB b a bad) (acc ++ [IntKind.u8.wrap (Sp.oneV b a bad)])
    else bif Sp.oneV b (Sp.oneA b a bad) (Sp.oneB b a bad) == 1 then (acc, Sp.oneA b (Sp.oneA b a bad) (Sp.oneB b a bad), Sp.oneB b (Sp.oneA b a bad) (Sp.oneB b a bad))
    else bif Sp.oneV b (Sp.oneA b a bad) (Sp.oneB b a bad) != 255 then Sp.ktx d b (Sp.oneA b (Sp.oneA b a bad) (Sp.oneB b a bad)) true (acc ++ [0])
    else Sp.ktx d b (Sp.oneA b (Sp.oneA b a bad) (Sp.oneB b a bad)) (Sp.oneB b (Sp.oneA b a bad) (Sp.oneB b a bad)) (acc ++ [0])
def Sp.left (b : List Int) (a : Int) (bad : Bool) : Nat := bif bad then 0 else (b.length - a.toNat) + 1
def Sp.keyT (b : List Int) (a : Int) (bad : Bool) : List Int × Int × Bool := Sp.ktx (b.length + 1) b a bad []
def Sp.kvV (b : List Int) (a : Int) (bad : Bool) : V3 :=
  bif Sp.oneV b a bad == 1 then (Sp.oneV b a bad, Sp.oneV b (Sp.oneA b a bad) (Sp.oneB b a bad), ByteArray.empty)
  else bif Sp.oneV b a bad == 2 then (Sp.oneV b a bad, Sp.of8 (Sp.takeV b (Sp.oneA b a bad) (Sp.oneB b a bad) 8), ByteArray.empty)
  else bif (bif Sp.oneV b a bad == 3 then true else Sp.oneV b a bad == 4) then (Sp.oneV b a bad, 0, bytesStr (Sp.keyT b (Sp.oneA b a bad) (Sp.oneB b a bad)).1)
  else (Sp.oneV b a bad, 0, ByteArray.empty)
def Sp.kvA (b : List Int) (a : Int) (bad : Bool) : Int :=
  bif Sp.oneV b a bad == 1 then Sp.oneA b (Sp.oneA b a bad) (Sp.oneB b a bad)
  else bif Sp.oneV b a bad == 2 then Sp.takeA b (Sp.oneA b a bad) (Sp.oneB b a bad) 8
  else bif (bif Sp.oneV b a bad == 3 then true else Sp.oneV b a bad == 4) then (Sp.keyT b (Sp.oneA b a bad) (Sp.oneB b a bad)).2.1
  else Sp.oneA b a bad
def Sp.kvB (b : List Int) (a : Int) (bad : Bool) : Bool :=
  bif Sp.oneV b a bad == 1 then Sp.oneB b (Sp.oneA b a bad) (Sp.oneB b a bad)
  else bif Sp.oneV b a bad == 2 then Sp.takeB b (Sp.oneA b a bad) (Sp.oneB b a bad) 8
  else bif (bif Sp.oneV b a bad == 3 then true else Sp.oneV b a bad == 4) then (Sp.keyT b (Sp.oneA b a bad) (Sp.oneB b a bad)).2.2
  else Sp.oneB b a bad
def Sp.esc : List Int → List Int
  | [] => []
  | x :: r => bif x == 0 then x :: 255 :: Sp.esc r else x :: Sp.esc r
def Sp.kv1 (v : V3) : List Int :=
  IntKind.u8.wrap v.1 :: (bif v.1 == 1 then [IntKind.u8.wrap v.2.1] else bif v.1 == 2 then Sp.key8 v.2.1
    else bif (bif v.1 == 3 then true else v.1 == 4) then Sp.esc (strBytes v.2.2) ++ [0, 1] else [])
def Sp.key : List V3 → List Int
  | [] => []
  | v :: r => Sp.kv1 v ++ Sp.key r
end Go.Proofs.GR.T

set_option maxRecDepth 100000
namespace Go.Proofs.GR.T
open Go Go.Proofs Go.Proofs.GR
def Sp.krun : Nat → List Int → Int → Bool → List V3 → List V3 × Int × Bool
  | 0, _, a, bad, out => (out, a, bad)
  | d + 1, b, a, bad, out => bif bad then (out, a, bad) else bif decide (a < (b.length : Int)) then Sp.krun d b (Sp.kvA b a bad) (Sp.kvB b a bad) (out ++ [Sp.kvV b a bad]) else (out, a, bad)
def Sp.kfin (b : List Int) (p : List V3 × Int × Bool) : List V3 × Int :=
  bif p.2.2 then ([], 3) else bif !Sp.rowOK p.1 then ([], 3) else bif !((bytesStr (Sp.key p.1)).toList == (bytesStr b).toList) then ([], 3) else (p.1, 0)
def Sp.readK (b : List Int) : List V3 × Int := bif decide ((b.length : Int) > 65536) then ([], 2) else Sp.kfin b (Sp.krun 9 b 0 false [])
def Sp.f56 (x0 : List Int) := (bif decide ((↑x0.length : Int) > (65536 : Int)) then (([], (2 : Int)), ()) else (bif !(Sp.cells (x0.length + (1 : Nat)) x0 false []).2 then (([], (3 : Int)), ()) else (((Sp.cells (x0.length + (1 : Nat)) x0 false []).1, (0 : Int)), ())))
def Sp.f11 (x0 : List Int) := (bif decide ((↑x0.length : Int) > (1048576 : Int)) then (true, ()) else (bif !Sp.eqW Sp.eqV (Sp.f56 x0).1.1 (Sp.readK x0).1 then (false, ()) else (bif (Sp.f56 x0).1.2 != (Sp.readK x0).2 then (false, ()) else (bif !Sp.eqL x0 x0 then (false, ()) else (bif decide (Sp.addLen x0 (1 : Int) < (0 : Int)) then (false, ()) else (bif !Sp.eqW Sp.eqV (Sp.f56 x0).1.1 (Sp.readK x0).1 then (false, ()) else (bif (Sp.f56 x0).1.2 != (Sp.readK x0).2 then (false, ()) else (bif decide (Sp.heldW Sp.heldV (3 : Int) (Sp.markW Sp.markV (3 : Int) (Sp.f56 x0).1.1 (1 : Int)) (1 : Int) < (0 : Int)) then (false, ()) else (bif Sp.heldW Sp.heldV (3 : Int) (Sp.markW Sp.markV (3 : Int) (Sp.f56 x0).1.1 (1 : Int)) (1 : Int) != Sp.addW (3 : Int) (Sp.f56 x0).1.1 (1 : Int) then (false, ()) else (bif !Sp.eqW Sp.eqV (Sp.f56 x0).1.1 (Sp.readK x0).1 then (false, ()) else (bif (Sp.f56 x0).1.2 != (Sp.readK x0).2 then (false, ()) else (bif decide (Sp.heldW Sp.heldV (3 : Int) (Sp.markW Sp.markV (3 : Int) (Sp.f56 x0).1.1 (1 : Int)) (1 : Int) < (0 : Int)) then (false, ()) else (bif Sp.heldW Sp.heldV (3 : Int) (Sp.markW Sp.markV (3 : Int) (Sp.f56 x0).1.1 (1 : Int)) (1 : Int) != Sp.addW (3 : Int) (Sp.f56 x0).1.1 (1 : Int) then (false, ()) else (true, ()))))))))))))))
end Go.Proofs.GR.T

namespace Go.Proofs.GR.T
open Go Go.Proofs Go.Proofs.GR
end Go.Proofs.GR.T

namespace Go.Proofs.GR.T
open Go Go.Proofs Go.Proofs.GR
namespace Sp
def szW {α : Type} (f : α → Int → Int) : List α → Int → Int
  | [], l => l
  | x :: r, l => bif decide (f x l < 0) then -1 else szW f r (f x l)
def szE {α : Type} (f : α → Int → Int) (xs : List α) (l : Int) : Int := bif decide (IntKind.i64.wrap (l - (xs.length : Int)) < 0) then -1 else szW f xs (IntKind.i64.wrap (l - (xs.length : Int)))
def fits32 {α : Type} (xs : List α) : Bool := Nat.ble xs.length 1000000000000
end Sp
theorem fits32_of {α : Type} {xs : List α} (h : Sp.fits32 xs = true) : xs.length ≤ 1000000000000 := Nat.le_of_ble_eq_true h
theorem fits32_mk {α : Type} {xs : List α} (h : xs.length ≤ 1000000000000) : Sp.fits32 xs = true := Nat.ble_eq_true_of_le h
theorem sz_loop {α : Type} {ρ : Type} {f : α → Int → Int} {R : Int → ρ} (xs : List α) (L : Nat → Int → Int → Option ρ)
    (hend : ∀ m (v : Int) (k : Nat), xs.length ≤ k → L (m + 1) v k = some (R v))
    (hstep : ∀ m (v : Int) (k : Nat) (h : k < xs.length), L (m + 1) v k = bif decide (f xs[k] v < 0) then some (R (-1)) else L m (f xs[k] v) ((k + 1 : Nat) : Int)) :
    ∀ (d k m : Nat) (v : Int), k + d = xs.length → d < m → L m v k = some (R (Sp.szW f (xs.drop k) v)) := by
  intro d
  induction d with
  | zero =>
    intro k m v hk hm
    obtain ⟨m, rfl⟩ := succ_of hm
    rw [hend m v k (by omega), List.drop_of_length_le (by omega)]
    rfl
  | succ d ih =>
    intro k m v hk hm
    obtain ⟨m, rfl⟩ := succ_of hm
    rw [hstep m v k (by omega), ih (k + 1) m _ (by omega) (by omega), List.drop_eq_getElem_cons (show k < xs.length by omega), Sp.szW]
    cases decide (f xs[k] v < 0) <;> rfl
theorem to_loop {α : Type} {ρ : Type} {R : List α → ρ} (xs : List α) (L : Nat → Int → List α → Option ρ)
    (hend : ∀ m (k : Nat) acc, xs.length ≤ k → L (m + 1) k acc = some (R acc))
    (hstep : ∀ m (k : Nat) acc (h : k < xs.length), acc.length = xs.length → L (m + 1) k acc = L m ((k + 1 : Nat) : Int) (acc.set k xs[k])) :
    ∀ (d k m : Nat) (acc : List α), k + d = xs.length → acc.length = xs.length → d < m → L m k acc = some (R (acc.take k ++ xs.drop k)) := by
  intro d
  induction d with
  | zero =>
    intro k m acc hk ha hm
    obtain ⟨m, rfl⟩ := succ_of hm
    rw [hend m k acc (by omega), List.drop_of_length_le (by omega), List.take_of_length_le (by omega), List.append_nil]
  | succ d ih =>
    intro k m acc hk ha hm
    obtain ⟨m, rfl⟩ := succ_of hm
    have hlt : k < xs.length := by omega
    rw [hstep m k acc hlt ha, ih (k + 1) m _ (by omega) (by rw [List.length_set]; exact ha) (by omega)]
    have e : (acc.set k xs[k]).take (k + 1) = acc.take k ++ [xs[k]] := by
      rw [List.take_set, List.take_succ_eq_append_getElem (by omega)]
      rw [List.set_append_right _ _ (by simp; omega)]
      simp [Nat.min_eq_left (show k ≤ acc.length by omega)]
    rw [e, List.append_assoc, List.drop_eq_getElem_cons hlt]
    rfl
theorem to_end {α : Type} {ρ : Type} {R : List α → ρ} (xs : List α) (L : Nat → Int → List α → Option ρ)
    (hend : ∀ m (k : Nat) acc, xs.length ≤ k → L (m + 1) k acc = some (R acc))
    (hstep : ∀ m (k : Nat) acc (h : k < xs.length), acc.length = xs.length → L (m + 1) k acc = L m ((k + 1 : Nat) : Int) (acc.set k xs[k])) (z : α) :
    L (xs.length + 1) 0 (List.replicate (xs.length : Int).toNat z) = some (R xs) := by
  have := to_loop xs L hend hstep xs.length 0 (xs.length + 1) (List.replicate (xs.length : Int).toNat z) (Nat.zero_add _) (by rw [List.length_replicate, Int.toNat_natCast]) (Nat.lt_succ_self _)
  rw [List.take_zero, List.drop_zero, List.nil_append, Int.natCast_zero] at this
  exact this
theorem make32 {n : Nat} (h : n ≤ 1000000000000) : (decide ((0 : Int) ≤ (n : Int)) && decide ((n : Int) ≤ (n : Int)) && decide ((n : Int) ≤ (140737488355328 : Int)) && decide ((32 : Int) * (n : Int) ≤ (140737488355328 : Int))) = true := by
  rw [decide_eq_true (show (0 : Int) ≤ n by omega), decide_eq_true (Int.le_refl (n : Int)), decide_eq_true (show (n : Int) ≤ 140737488355328 by omega), decide_eq_true (show 32 * (n : Int) ≤ 140737488355328 by omega)]
  rfl
end Go.Proofs.GR.T

set_option maxRecDepth 100000
namespace Go.Proofs.GR.T
open Go Go.Proofs Go.Proofs.GR
abbrev V2 := ByteArray × ByteArray
def Sp.f123 (x0 : ByteArray) (x1 : ByteArray) (x2 : Int) := (bif decide (IntKind.i64.wrap (x2 - (↑x0.size : Int)) < (0 : Int)) then ((-1 : Int), ()) else (bif decide (IntKind.i64.wrap (IntKind.i64.wrap (x2 - (↑x0.size : Int)) - (↑x1.size : Int)) < (0 : Int)) then ((-1 : Int), ()) else (IntKind.i64.wrap (IntKind.i64.wrap (x2 - (↑x0.size : Int)) - (↑x1.size : Int)), ())))
def Sp.f87 (x0 : Int) (x1 : Int) (x2 : ByteArray) (x3 : Int) := (bif decide (IntKind.i64.wrap (x3 - (↑x2.size : Int)) < (0 : Int)) then ((-1 : Int), ()) else (IntKind.i64.wrap (x3 - (↑x2.size : Int)), ()))
noncomputable def e87 : Ent := { f := 87, ins := [Sh.agg [C0.dat (Ty.int IntKind.i64), C0.dat (Ty.int IntKind.i64), C0.dat Ty.str], Sh.one (C0.dat (Ty.int IntKind.i64))], outs := [Sh.one (C0.dat (Ty.int IntKind.i64))], upd := [], pre := fun a => true, spec := fun a => (Sp.f87 a.1.1 a.1.2.1 a.1.2.2 a.2).1, wrt := fun a => (Sp.f87 a.1.1 a.1.2.1 a.1.2.2 a.2).2 }
def f87_g (v : denS [Sh.one (C0.dat (Ty.int IntKind.i64))] × denS []) : Res := ⟨mkS [Sh.one (C0.dat (Ty.int IntKind.i64))] v.1, mkU [] v.2⟩
theorem f87_raw (x0 : Int) (x1 : Int) (x2 : ByteArray) (x3 : Int) : abody Γ (orc []) 0 87 [XV.mk true [X.c (X0.dat (Ty.int IntKind.i64) x0), X.c (X0.dat (Ty.int IntKind.i64) x1), X.c (X0.dat Ty.str x2)], XV.mk false [X.c (X0.dat (Ty.int IntKind.i64) x3)]] = bif decide (IntKind.i64.wrap (x3 - (↑x2.size : Int)) < (0 : Int)) then some (Res.mk [XV.mk false [X.c (X0.dat (Ty.int IntKind.i64) (-1 : Int))]] []) else some (Res.mk [XV.mk false [X.c (X0.dat (Ty.int IntKind.i64) (IntKind.i64.wrap (x3 - (↑x2.size : Int))))]] []) := by kernel_rfl
theorem f87_form (x0 : Int) (x1 : Int) (x2 : ByteArray) (x3 : Int) : (bif decide (IntKind.i64.wrap (x3 - (↑x2.size : Int)) < (0 : Int)) then some (Res.mk [XV.mk false [X.c (X0.dat (Ty.int IntKind.i64) (-1 : Int))]] []) else some (Res.mk [XV.mk false [X.c (X0.dat (Ty.int IntKind.i64) (IntKind.i64.wrap (x3 - (↑x2.size : Int))))]] [])) = some (f87_g (Sp.f87 x0 x1 x2 x3)) := by
  unfold Sp.f87
  exact (cond_plain f87_g (rfl) (rfl))
theorem e87_ok : Valid Try.prog Γ e87 := valid_auto ok vnil fun a => (f87_raw a.1.1 a.1.2.1 a.1.2.2 a.2).trans (f87_form a.1.1 a.1.2.1 a.1.2.2 a.2)

def Sp.f124 (x0 : ByteArray) (x1 : ByteArray) := ((x0, x1), ())
def Sp.f89 (x0 : Int) (x1 : Int) (x2 : ByteArray) := ((x0, x1, x2), ())
noncomputable def e89 : Ent := { f := 89, ins := [Sh.agg [C0.dat (Ty.int IntKind.i64), C0.dat (Ty.int IntKind.i64), C0.dat Ty.str]], outs := [Sh.agg [C0.dat (Ty.int IntKind.i64), C0.dat (Ty.int IntKind.i64), C0.dat Ty.str]], upd := [], pre := fun a => true, spec := fun a => (Sp.f89 a.1 a.2.1 a.2.2).1, wrt := fun a => (Sp.f89 a.1 a.2.1 a.2.2).2 }
def f89_g (v : denS [Sh.agg [C0.dat (Ty.int IntKind.i64), C0.dat (Ty.int IntKind.i64), C0.dat Ty.str]] × denS []) : Res := ⟨mkS [Sh.agg [C0.dat (Ty.int IntKind.i64), C0.dat (Ty.int IntKind.i64), C0.dat Ty.str]] v.1, mkU [] v.2⟩
theorem f89_raw (x0 : Int) (x1 : Int) (x2 : ByteArray) : abody Γ (orc []) 0 89 [XV.mk true [X.c (X0.dat (Ty.int IntKind.i64) x0), X.c (X0.dat (Ty.int IntKind.i64) x1), X.c (X0.dat Ty.str x2)]] = some (Res.mk [XV.mk true [X.c (X0.dat (Ty.int IntKind.i64) x0), X.c (X0.dat (Ty.int IntKind.i64) x1), X.c (X0.dat Ty.str x2)]] []) := by kernel_rfl
theorem f89_form (x0 : Int) (x1 : Int) (x2 : ByteArray) : (some (Res.mk [XV.mk true [X.c (X0.dat (Ty.int IntKind.i64) x0), X.c (X0.dat (Ty.int IntKind.i64) x1), X.c (X0.dat Ty.str x2)]] [])) = some (f89_g (Sp.f89 x0 x1 x2)) := by
  unfold Sp.f89
  exact rfl
theorem e89_ok : Valid Try.prog Γ e89 := valid_auto ok vnil fun a => (f89_raw a.1 a.2.1 a.2.2).trans (f89_form a.1 a.2.1 a.2.2)

def Sp.f127 (x0 : ByteArray) (x1 : ByteArray) (x2 : ByteArray) (x3 : ByteArray) := (bif !x0.toList == x2.toList then (false, ()) else (bif !x1.toList == x3.toList then (false, ()) else (true, ())))
def Sp.szEn (x : V2) (l : Int) : Int := (Sp.f123 x.1 x.2 l).1
def Sp.szV (x : V3) (l : Int) : Int := (Sp.f87 x.1 x.2.1 x.2.2 l).1
def Sp.eqE (x y : V2) : Bool := (Sp.f127 x.1 x.2 y.1 y.2).1
noncomputable def f48_L0 (n m0 : Nat) (y0 : List (Int × Int × ByteArray)) (y1 : Int) (y2 : Int) : Option Res := loopAt Γ (orc [e87]) n (48 : Nat) (0 : Nat) [] [Pth.r, Pth.r, Pth.r, Pth.l, Pth.r, Pth.b] m0 (St.mk [Slot.val (Val.one (Cell.dat ((Ty.int IntKind.i64).pair ((Ty.int IntKind.i64).pair Ty.str)).slice y0)), Slot.val (Val.one (Cell.dat (Ty.int IntKind.i64) y1)), Slot.nix, Slot.nix, Slot.nix, Slot.val (Val.one (Cell.dat (Ty.int IntKind.i64) y2)), Slot.nix, Slot.nix, Slot.nix, Slot.nix, Slot.nix, Slot.nix, Slot.nix, Slot.nix, Slot.nix, Slot.nix, Slot.nix, Slot.nix, Slot.nix, Slot.nix, Slot.nix, Slot.nix, Slot.nix, Slot.nix, Slot.nix, Slot.nix, Slot.nix] [])
theorem f48_L0_step (n m0 : Nat) (y0 : List (Int × Int × ByteArray)) (y1 : Int) (y2 : Int) : f48_L0 n (m0 + 1) y0 y1 y2 = bif decide (y2 < (↑y0.length : Int)) then chk (decide ((0 : Int) ≤ y2) && decide (y2 < (↑y0.length : Int))) (bif decide ((Sp.f87 (y0.getD y2.toNat ((0 : Int), (0 : Int), ByteArray.mk #[])).1 (y0.getD y2.toNat ((0 : Int), (0 : Int), ByteArray.mk #[])).2.1 (y0.getD y2.toNat ((0 : Int), (0 : Int), ByteArray.mk #[])).2.2 y1).1 < (0 : Int)) then some (Res.mk [XV.mk false [X.c (X0.dat (Ty.int IntKind.i64) (-1 : Int))]] []) else f48_L0 n m0 y0 (Sp.f87 (y0.getD y2.toNat ((0 : Int), (0 : Int), ByteArray.mk #[])).1 (y0.getD y2.toNat ((0 : Int), (0 : Int), ByteArray.mk #[])).2.1 (y0.getD y2.toNat ((0 : Int), (0 : Int), ByteArray.mk #[])).2.2 y1).1 (IntKind.i64.wrap (y2 + (1 : Int)))) else some (Res.mk [XV.mk false [X.c (X0.dat (Ty.int IntKind.i64) y1)]] []) := by kernel_rfl
theorem f48_raw (n : Nat) (x0 : List (Int × Int × ByteArray)) (x1 : Int) : abody Γ (orc [e87]) n 48 [XV.mk false [X.c (X0.dat ((Ty.int IntKind.i64).pair ((Ty.int IntKind.i64).pair Ty.str)).slice x0)], XV.mk false [X.c (X0.dat (Ty.int IntKind.i64) x1)]] = bif decide (IntKind.i64.wrap (x1 - (↑x0.length : Int)) < (0 : Int)) then some (Res.mk [XV.mk false [X.c (X0.dat (Ty.int IntKind.i64) (-1 : Int))]] []) else f48_L0 n n x0 (IntKind.i64.wrap (x1 - (↑x0.length : Int))) (0 : Int) := by kernel_rfl

noncomputable def e48 : Ent := { f := 48, ins := [Sh.one (C0.dat (.slice tV)), Sh.one cI], outs := [Sh.one cI], upd := [], pre := fun a => true, spec := fun a => Sp.szE Sp.szV a.1 a.2, wrt := fun _ => () }
theorem e48_core (xs : List V3) (v : Int) (hl : xs.length ≤ maxLen) : ∃ n, abody Γ (orc [e87]) n 48 [XV.mk false [X.c (X0.dat (Ty.slice tV) xs)], XV.mk false [X.c (X0.dat (Ty.int IntKind.i64) v)]] = some (rI (Sp.szE Sp.szV xs v)) := by
  have hl : xs.length ≤ 9223372036854775807 := hl
  refine ⟨xs.length + 1, (f48_raw _ xs v).trans ?_⟩
  unfold Sp.szE
  cases decide (IntKind.i64.wrap (v - (xs.length : Int)) < 0) with
  | true => rfl
  | false =>
    rw [cond_false, cond_false]
    refine sz_loop (f := Sp.szV) (R := rI) xs (fun m v k => f48_L0 (xs.length + 1) m xs v k) (fun m v k hk => ?_) (fun m v k h => ?_) xs.length 0 _ _ (Nat.zero_add _) (Nat.lt_succ_self _)
    · show f48_L0 _ _ _ _ _ = _
      rw [f48_L0_step, nat_ge hk, cond_false]
    · show f48_L0 _ _ _ _ _ = _
      rw [f48_L0_step, nat_lt h, cond_true, guard0, chkT, getD_nat xs k _ h, next64 h hl]
      rfl
theorem e48_ok : Valid Try.prog Γ e48 := valid_len ok (vcons e87_ok vnil) fun a _ hl => e48_core a.1 a.2 (hl _ (List.mem_cons_self) _ (List.mem_cons_self)).1
noncomputable def f51_L0 (n m0 : Nat) (y0 : List (Int × Int × ByteArray)) (y1 : Int) (y2 : List (Int × Int × ByteArray)) : Option Res := loopAt Γ (orc [e89]) n (51 : Nat) (0 : Nat) [] [Pth.r, Pth.r, Pth.l, Pth.r, Pth.b] m0 (St.mk [Slot.val (Val.one (Cell.dat ((Ty.int IntKind.i64).pair ((Ty.int IntKind.i64).pair Ty.str)).slice y0)), Slot.nix, Slot.nix, Slot.val (Val.one (Cell.own (0 : Nat))), Slot.val (Val.one (Cell.dat (Ty.int IntKind.i64) y1)), Slot.nix, Slot.nix, Slot.nix, Slot.nix, Slot.nix, Slot.nix, Slot.nix, Slot.nix, Slot.nix, Slot.nix, Slot.nix, Slot.nix, Slot.nix, Slot.nix, Slot.nix, Slot.nix, Slot.nix, Slot.nix] [AObj.row ((Ty.int IntKind.i64).pair ((Ty.int IntKind.i64).pair Ty.str)) y2 true])
theorem f51_L0_step (n m0 : Nat) (y0 : List (Int × Int × ByteArray)) (y1 : Int) (y2 : List (Int × Int × ByteArray)) : f51_L0 n (m0 + 1) y0 y1 y2 = bif decide (y1 < (↑y0.length : Int)) then chk (decide ((0 : Int) ≤ y1) && decide (y1 < (↑y0.length : Int))) (chk (decide ((0 : Int) ≤ y1) && decide (y1 < (↑y2.length : Int))) (f51_L0 n m0 y0 (IntKind.i64.wrap (y1 + (1 : Int))) (y2.set y1.toNat ((Sp.f89 (y0.getD y1.toNat ((0 : Int), (0 : Int), ByteArray.mk #[])).1 (y0.getD y1.toNat ((0 : Int), (0 : Int), ByteArray.mk #[])).2.1 (y0.getD y1.toNat ((0 : Int), (0 : Int), ByteArray.mk #[])).2.2).1.1, (Sp.f89 (y0.getD y1.toNat ((0 : Int), (0 : Int), ByteArray.mk #[])).1 (y0.getD y1.toNat ((0 : Int), (0 : Int), ByteArray.mk #[])).2.1 (y0.getD y1.toNat ((0 : Int), (0 : Int), ByteArray.mk #[])).2.2).1.2.1, (Sp.f89 (y0.getD y1.toNat ((0 : Int), (0 : Int), ByteArray.mk #[])).1 (y0.getD y1.toNat ((0 : Int), (0 : Int), ByteArray.mk #[])).2.1 (y0.getD y1.toNat ((0 : Int), (0 : Int), ByteArray.mk #[])).2.2).1.2.2)))) else some (Res.mk [XV.mk false [X.c (X0.row ((Ty.int IntKind.i64).pair ((Ty.int IntKind.i64).pair Ty.str)) y2 true)]] []) := by kernel_rfl
theorem f51_raw (n : Nat) (x0 : List (Int × Int × ByteArray)) : abody Γ (orc [e89]) n 51 [XV.mk false [X.c (X0.dat ((Ty.int IntKind.i64).pair ((Ty.int IntKind.i64).pair Ty.str)).slice x0)]] = chk (decide ((0 : Int) ≤ (↑x0.length : Int)) && decide ((↑x0.length : Int) ≤ (↑x0.length : Int)) && decide ((↑x0.length : Int) ≤ (140737488355328 : Int)) && decide ((32 : Int) * (↑x0.length : Int) ≤ (140737488355328 : Int))) (f51_L0 n n x0 (0 : Int) (List.replicate (↑x0.length : Int).toNat ((0 : Int), (0 : Int), ByteArray.empty))) := by kernel_rfl

noncomputable def e51 : Ent := { f := 51, ins := [Sh.one (C0.dat (.slice tV))], outs := [Sh.one (C0.row tV)], upd := [], pre := fun a => Sp.fits32 (α := V3) a, spec := fun a => a, wrt := fun _ => () }
theorem e51_core (xs : List V3) (ha : Sp.fits32 xs = true) : ∃ n, abody Γ (orc [e89]) n 51 [XV.mk false [X.c (X0.dat (Ty.slice tV) xs)]] = some (Res.mk [XV.mk false [X.c (X0.row tV xs true)]] []) := by
  have h1 := fits32_of ha
  refine ⟨xs.length + 1, (f51_raw _ xs).trans ?_⟩
  rw [make32 h1, chkT]
  refine to_end (R := fun l : List V3 => Res.mk [XV.mk false [X.c (X0.row tV l true)]] []) xs (fun m k acc => f51_L0 (xs.length + 1) m xs k acc) (fun m k acc hk => ?_) (fun m k acc h ha => ?_) _
  · show f51_L0 _ _ _ _ _ = _
    rw [f51_L0_step, nat_ge hk, cond_false]
  · show f51_L0 _ _ _ _ _ = _
    rw [f51_L0_step, ha, nat_lt h, cond_true, guard0, chkT, chkT, getD_nat xs k _ h, next64 h (by omega), Int.toNat_natCast]
    rfl
theorem e51_ok : Valid Try.prog Γ e51 := valid_of ok (vcons e89_ok vnil) fun a ha => e51_core a ha
def Sp.f34 (x0 : ByteArray) (x1 : Int) (x2 : List (ByteArray × ByteArray)) (x3 : Int) := (bif decide (IntKind.i64.wrap (x3 - (↑x0.size : Int)) < (0 : Int)) then ((-1 : Int), ()) else (bif decide (Sp.szE Sp.szEn x2 (IntKind.i64.wrap (x3 - (↑x0.size : Int))) < (0 : Int)) then ((-1 : Int), ()) else (Sp.szE Sp.szEn x2 (IntKind.i64.wrap (x3 - (↑x0.size : Int))), ())))
def Sp.f35 (x0 : Int) (x1 : ByteArray) (x2 : List (Int × Int × ByteArray)) (x3 : List (Int × Int × ByteArray)) (x4 : Int) := (bif decide (IntKind.i64.wrap (x4 - (↑x1.size : Int)) < (0 : Int)) then ((-1 : Int), ()) else (bif decide (Sp.szE Sp.szV x2 (IntKind.i64.wrap (x4 - (↑x1.size : Int))) < (0 : Int)) then ((-1 : Int), ()) else (bif decide (Sp.szE Sp.szV x3 (Sp.szE Sp.szV x2 (IntKind.i64.wrap (x4 - (↑x1.size : Int)))) < (0 : Int)) then ((-1 : Int), ()) else (Sp.szE Sp.szV x3 (Sp.szE Sp.szV x2 (IntKind.i64.wrap (x4 - (↑x1.size : Int)))), ()))))
noncomputable def e35 : Ent := { f := 35, ins := [Sh.agg [C0.dat (Ty.int IntKind.i64), C0.dat Ty.str, C0.dat ((Ty.int IntKind.i64).pair ((Ty.int IntKind.i64).pair Ty.str)).slice, C0.dat ((Ty.int IntKind.i64).pair ((Ty.int IntKind.i64).pair Ty.str)).slice], Sh.one (C0.dat (Ty.int IntKind.i64))], outs := [Sh.one (C0.dat (Ty.int IntKind.i64))], upd := [], pre := fun a => true, spec := fun a => (Sp.f35 a.1.1 a.1.2.1 a.1.2.2.1 a.1.2.2.2 a.2).1, wrt := fun a => (Sp.f35 a.1.1 a.1.2.1 a.1.2.2.1 a.1.2.2.2 a.2).2 }
def f35_g (v : denS [Sh.one (C0.dat (Ty.int IntKind.i64))] × denS []) : Res := ⟨mkS [Sh.one (C0.dat (Ty.int IntKind.i64))] v.1, mkU [] v.2⟩
theorem f35_raw (x0 : Int) (x1 : ByteArray) (x2 : List (Int × Int × ByteArray)) (x3 : List (Int × Int × ByteArray)) (x4 : Int) : abody Γ (orc [e48]) 0 35 [XV.mk true [X.c (X0.dat (Ty.int IntKind.i64) x0), X.c (X0.dat Ty.str x1), X.c (X0.dat ((Ty.int IntKind.i64).pair ((Ty.int IntKind.i64).pair Ty.str)).slice x2), X.c (X0.dat ((Ty.int IntKind.i64).pair ((Ty.int IntKind.i64).pair Ty.str)).slice x3)], XV.mk false [X.c (X0.dat (Ty.int IntKind.i64) x4)]] = bif decide (IntKind.i64.wrap (x4 - (↑x1.size : Int)) < (0 : Int)) then some (Res.mk [XV.mk false [X.c (X0.dat (Ty.int IntKind.i64) (-1 : Int))]] []) else bif decide (Sp.szE Sp.szV x2 (IntKind.i64.wrap (x4 - (↑x1.size : Int))) < (0 : Int)) then some (Res.mk [XV.mk false [X.c (X0.dat (Ty.int IntKind.i64) (-1 : Int))]] []) else bif decide (Sp.szE Sp.szV x3 (Sp.szE Sp.szV x2 (IntKind.i64.wrap (x4 - (↑x1.size : Int)))) < (0 : Int)) then some (Res.mk [XV.mk false [X.c (X0.dat (Ty.int IntKind.i64) (-1 : Int))]] []) else some (Res.mk [XV.mk false [X.c (X0.dat (Ty.int IntKind.i64) (Sp.szE Sp.szV x3 (Sp.szE Sp.szV x2 (IntKind.i64.wrap (x4 - (↑x1.size : Int))))))]] []) := by kernel_rfl
theorem f35_form (x0 : Int) (x1 : ByteArray) (x2 : List (Int × Int × ByteArray)) (x3 : List (Int × Int × ByteArray)) (x4 : Int) : (bif decide (IntKind.i64.wrap (x4 - (↑x1.size : Int)) < (0 : Int)) then some (Res.mk [XV.mk false [X.c (X0.dat (Ty.int IntKind.i64) (-1 : Int))]] []) else bif decide (Sp.szE Sp.szV x2 (IntKind.i64.wrap (x4 - (↑x1.size : Int))) < (0 : Int)) then some (Res.mk [XV.mk false [X.c (X0.dat (Ty.int IntKind.i64) (-1 : Int))]] []) else bif decide (Sp.szE Sp.szV x3 (Sp.szE Sp.szV x2 (IntKind.i64.wrap (x4 - (↑x1.size : Int)))) < (0 : Int)) then some (Res.mk [XV.mk false [X.c (X0.dat (Ty.int IntKind.i64) (-1 : Int))]] []) else some (Res.mk [XV.mk false [X.c (X0.dat (Ty.int IntKind.i64) (Sp.szE Sp.szV x3 (Sp.szE Sp.szV x2 (IntKind.i64.wrap (x4 - (↑x1.size : Int))))))]] [])) = some (f35_g (Sp.f35 x0 x1 x2 x3 x4)) := by
  unfold Sp.f35
  exact (cond_plain f35_g (rfl) ((cond_plain f35_g (rfl) ((cond_plain f35_g (rfl) (rfl))))))
theorem e35_ok : Valid Try.prog Γ e35 := valid_auto ok (vcons e48_ok vnil) fun a => (f35_raw a.1.1 a.1.2.1 a.1.2.2.1 a.1.2.2.2 a.2).trans (f35_form a.1.1 a.1.2.1 a.1.2.2.1 a.1.2.2.2 a.2)

def Sp.f37 (x0 : ByteArray) (x1 : Int) (x2 : List (ByteArray × ByteArray)) := ((x0, x1, x2), ())
def Sp.f38_pre (x0 : Int) (x1 : ByteArray) (x2 : List (Int × Int × ByteArray)) (x3 : List (Int × Int × ByteArray)) : Bool := (Sp.fits32 x2 && Sp.fits32 x3)
def Sp.f38 (x0 : Int) (x1 : ByteArray) (x2 : List (Int × Int × ByteArray)) (x3 : List (Int × Int × ByteArray)) := ((x0, x1, x2, x3), ())
noncomputable def e38 : Ent := { f := 38, ins := [Sh.agg [C0.dat (Ty.int IntKind.i64), C0.dat Ty.str, C0.dat ((Ty.int IntKind.i64).pair ((Ty.int IntKind.i64).pair Ty.str)).slice, C0.dat ((Ty.int IntKind.i64).pair ((Ty.int IntKind.i64).pair Ty.str)).slice]], outs := [Sh.agg [C0.dat (Ty.int IntKind.i64), C0.dat Ty.str, C0.row ((Ty.int IntKind.i64).pair ((Ty.int IntKind.i64).pair Ty.str)), C0.row ((Ty.int IntKind.i64).pair ((Ty.int IntKind.i64).pair Ty.str))]], upd := [], pre := fun a => Sp.f38_pre a.1 a.2.1 a.2.2.1 a.2.2.2, spec := fun a => (Sp.f38 a.1 a.2.1 a.2.2.1 a.2.2.2).1, wrt := fun a => (Sp.f38 a.1 a.2.1 a.2.2.1 a.2.2.2).2 }
def f38_g (v : denS [Sh.agg [C0.dat (Ty.int IntKind.i64), C0.dat Ty.str, C0.row ((Ty.int IntKind.i64).pair ((Ty.int IntKind.i64).pair Ty.str)), C0.row ((Ty.int IntKind.i64).pair ((Ty.int IntKind.i64).pair Ty.str))]] × denS []) : Res := ⟨mkS [Sh.agg [C0.dat (Ty.int IntKind.i64), C0.dat Ty.str, C0.row ((Ty.int IntKind.i64).pair ((Ty.int IntKind.i64).pair Ty.str)), C0.row ((Ty.int IntKind.i64).pair ((Ty.int IntKind.i64).pair Ty.str))]] v.1, mkU [] v.2⟩
theorem f38_raw (x0 : Int) (x1 : ByteArray) (x2 : List (Int × Int × ByteArray)) (x3 : List (Int × Int × ByteArray)) : abody Γ (orc [e51]) 0 38 [XV.mk true [X.c (X0.dat (Ty.int IntKind.i64) x0), X.c (X0.dat Ty.str x1), X.c (X0.dat ((Ty.int IntKind.i64).pair ((Ty.int IntKind.i64).pair Ty.str)).slice x2), X.c (X0.dat ((Ty.int IntKind.i64).pair ((Ty.int IntKind.i64).pair Ty.str)).slice x3)]] = chk (Sp.fits32 x2) (chk (Sp.fits32 x3) (some (Res.mk [XV.mk true [X.c (X0.dat (Ty.int IntKind.i64) x0), X.c (X0.dat Ty.str x1), X.c (X0.row ((Ty.int IntKind.i64).pair ((Ty.int IntKind.i64).pair Ty.str)) x2 true), X.c (X0.row ((Ty.int IntKind.i64).pair ((Ty.int IntKind.i64).pair Ty.str)) x3 true)]] []))) := by kernel_rfl
theorem f38_form (x0 : Int) (x1 : ByteArray) (x2 : List (Int × Int × ByteArray)) (x3 : List (Int × Int × ByteArray)) : (chk (Sp.fits32 x2) (chk (Sp.fits32 x3) (some (Res.mk [XV.mk true [X.c (X0.dat (Ty.int IntKind.i64) x0), X.c (X0.dat Ty.str x1), X.c (X0.row ((Ty.int IntKind.i64).pair ((Ty.int IntKind.i64).pair Ty.str)) x2 true), X.c (X0.row ((Ty.int IntKind.i64).pair ((Ty.int IntKind.i64).pair Ty.str)) x3 true)]] [])))) = chk (Sp.f38_pre x0 x1 x2 x3) (some (f38_g (Sp.f38 x0 x1 x2 x3))) := by
  unfold Sp.f38_pre Sp.f38
  exact (chk_step ((chk_last (rfl))))
theorem e38_ok : Valid Try.prog Γ e38 := valid_auto ok (vcons e51_ok vnil) fun a => (f38_raw a.1 a.2.1 a.2.2.1 a.2.2.2).trans (f38_form a.1 a.2.1 a.2.2.1 a.2.2.2)

def Sp.f40 (x0 : ByteArray) (x1 : Int) (x2 : List (ByteArray × ByteArray)) (x3 : ByteArray) (x4 : Int) (x5 : List (ByteArray × ByteArray)) := (bif !x0.toList == x3.toList then (false, ()) else (bif x1 != x4 then (false, ()) else (bif !Sp.eqW Sp.eqE x2 x5 then (false, ()) else (true, ()))))
def Sp.f41 (x0 : Int) (x1 : ByteArray) (x2 : List (Int × Int × ByteArray)) (x3 : List (Int × Int × ByteArray)) (x4 : Int) (x5 : ByteArray) (x6 : List (Int × Int × ByteArray)) (x7 : List (Int × Int × ByteArray)) := (bif x0 != x4 then (false, ()) else (bif !x1.toList == x5.toList then (false, ()) else (bif !Sp.eqW Sp.eqV x2 x6 then (false, ()) else (bif !Sp.eqW Sp.eqV x3 x7 then (false, ()) else (true, ())))))
noncomputable def e41 : Ent := { f := 41, ins := [Sh.agg [C0.dat (Ty.int IntKind.i64), C0.dat Ty.str, C0.dat ((Ty.int IntKind.i64).pair ((Ty.int IntKind.i64).pair Ty.str)).slice, C0.dat ((Ty.int IntKind.i64).pair ((Ty.int IntKind.i64).pair Ty.str)).slice], Sh.agg [C0.dat (Ty.int IntKind.i64), C0.dat Ty.str, C0.dat ((Ty.int IntKind.i64).pair ((Ty.int IntKind.i64).pair Ty.str)).slice, C0.dat ((Ty.int IntKind.i64).pair ((Ty.int IntKind.i64).pair Ty.str)).slice]], outs := [Sh.one (C0.dat Ty.bool)], upd := [], pre := fun a => true, spec := fun a => (Sp.f41 a.1.1 a.1.2.1 a.1.2.2.1 a.1.2.2.2 a.2.1 a.2.2.1 a.2.2.2.1 a.2.2.2.2).1, wrt := fun a => (Sp.f41 a.1.1 a.1.2.1 a.1.2.2.1 a.1.2.2.2 a.2.1 a.2.2.1 a.2.2.2.1 a.2.2.2.2).2 }
def f41_g (v : denS [Sh.one (C0.dat Ty.bool)] × denS []) : Res := ⟨mkS [Sh.one (C0.dat Ty.bool)] v.1, mkU [] v.2⟩
theorem f41_raw (x0 : Int) (x1 : ByteArray) (x2 : List (Int × Int × ByteArray)) (x3 : List (Int × Int × ByteArray)) (x4 : Int) (x5 : ByteArray) (x6 : List (Int × Int × ByteArray)) (x7 : List (Int × Int × ByteArray)) : abody Γ (orc [e44]) 0 41 [XV.mk true [X.c (X0.dat (Ty.int IntKind.i64) x0), X.c (X0.dat Ty.str x1), X.c (X0.dat ((Ty.int IntKind.i64).pair ((Ty.int IntKind.i64).pair Ty.str)).slice x2), X.c (X0.dat ((Ty.int IntKind.i64).pair ((Ty.int IntKind.i64).pair Ty.str)).slice x3)], XV.mk true [X.c (X0.dat (Ty.int IntKind.i64) x4), X.c (X0.dat Ty.str x5), X.c (X0.dat ((Ty.int IntKind.i64).pair ((Ty.int IntKind.i64).pair Ty.str)).slice x6), X.c (X0.dat ((Ty.int IntKind.i64).pair ((Ty.int IntKind.i64).pair Ty.str)).slice x7)]] = bif x0 != x4 then some (Res.mk [XV.mk false [X.c (X0.dat Ty.bool false)]] []) else bif !x1.toList == x5.toList then some (Res.mk [XV.mk false [X.c (X0.dat Ty.bool false)]] []) else bif !Sp.eqW Sp.eqV x2 x6 then some (Res.mk [XV.mk false [X.c (X0.dat Ty.bool false)]] []) else bif !Sp.eqW Sp.eqV x3 x7 then some (Res.mk [XV.mk false [X.c (X0.dat Ty.bool false)]] []) else some (Res.mk [XV.mk false [X.c (X0.dat Ty.bool true)]] []) := by kernel_rfl
theorem f41_form (x0 : Int) (x1 : ByteArray) (x2 : List (Int × Int × ByteArray)) (x3 : List (Int × Int × ByteArray)) (x4 : Int) (x5 : ByteArray) (x6 : List (Int × Int × ByteArray)) (x7 : List (Int × Int × ByteArray)) : (bif x0 != x4 then some (Res.mk [XV.mk false [X.c (X0.dat Ty.bool false)]] []) else bif !x1.toList == x5.toList then some (Res.mk [XV.mk false [X.c (X0.dat Ty.bool false)]] []) else bif !Sp.eqW Sp.eqV x2 x6 then some (Res.mk [XV.mk false [X.c (X0.dat Ty.bool false)]] []) else bif !Sp.eqW Sp.eqV x3 x7 then some (Res.mk [XV.mk false [X.c (X0.dat Ty.bool false)]] []) else some (Res.mk [XV.mk false [X.c (X0.dat Ty.bool true)]] [])) = some (f41_g (Sp.f41 x0 x1 x2 x3 x4 x5 x6 x7)) := by
  unfold Sp.f41
  exact (cond_plain f41_g (rfl) ((cond_plain f41_g (rfl) ((cond_plain f41_g (rfl) ((cond_plain f41_g (rfl) (rfl))))))))
theorem e41_ok : Valid Try.prog Γ e41 := valid_auto ok (vcons e44_ok vnil) fun a => (f41_raw a.1.1 a.1.2.1 a.1.2.2.1 a.1.2.2.2 a.2.1 a.2.2.1 a.2.2.2.1 a.2.2.2.2).trans (f41_form a.1.1 a.1.2.1 a.1.2.2.1 a.1.2.2.2 a.2.1 a.2.2.1 a.2.2.2.1 a.2.2.2.2)

def Sp.may (a b : ByteArray) : List V2 → Bool
  | [] => false
  | x :: r => bif x.1.toList == a.toList then (bif x.2.toList == b.toList then true else Sp.may a b r) else Sp.may a b r
def Sp.txt (xs : List V3) (i : Int) : ByteArray := (xs.getD i.toNat ((0 : Int), (0 : Int), ByteArray.mk #[])).2.2
def Sp.has (xs : List V3) (i : Int) : Bool := bif decide (0 ≤ i) then decide (i < (xs.length : Int)) else false
def Sp.step (gt : ByteArray) (gc : Int) (gs : List V2) (ev : Int) (ct : ByteArray) (old new : List V3) : Bool :=
  bif !(ct.toList == gt.toList) then true else bif ev == 3 then true else bif ev == 2 then
    (bif (Sp.txt old gc).toList == (Sp.txt new gc).toList then true else Sp.may (Sp.txt old gc) (Sp.txt new gc) gs)
  else Sp.may (ByteArray.mk #[]) (Sp.txt new gc) gs
def Sp.stepOK (gt : ByteArray) (gc ev : Int) (ct : ByteArray) (old new : List V3) : Bool :=
  bif !(ct.toList == gt.toList) then true else bif ev == 3 then true else bif Sp.has new gc then (bif ev == 2 then Sp.has old gc else true) else false
theorem has_of {xs : List V3} {i : Int} (h : Sp.has xs i = true) : (decide ((0 : Int) ≤ i) && decide (i < (xs.length : Int))) = true := by
  unfold Sp.has at h
  cases h0 : decide (0 ≤ i) with
  | true => rw [h0] at h; rw [Bool.true_and]; exact h
  | false => rw [h0] at h; cases h
def Sp.f36 (x0 : ByteArray) (x1 : Int) (x2 : List (ByteArray × ByteArray)) (x3 : Int) (x4 : ByteArray) (x5 : List (Int × Int × ByteArray)) (x6 : List (Int × Int × ByteArray)) := (bif decide ((↑x5.length : Int) > (8 : Int)) then ((false, (1 : Int)), ()) else (bif decide ((↑x6.length : Int) > (8 : Int)) then ((false, (1 : Int)), ()) else (bif decide ((↑x2.length : Int) > (20 : Int)) then ((false, (1 : Int)), ()) else (bif x4.toList == x0.toList then (bif x3 != (3 : Int) then (bif !(Sp.f79 x1 (0 : Int) (IntKind.i64.wrap ((↑x6.length : Int) - (1 : Int)))).1 then ((false, (1 : Int)), ()) else (bif x3 == (2 : Int) then (bif !(Sp.f79 x1 (0 : Int) (IntKind.i64.wrap ((↑x5.length : Int) - (1 : Int)))).1 then ((false, (1 : Int)), ()) else ((Sp.step x0 x1 x2 x3 x4 x5 x6, (0 : Int)), ())) else ((Sp.step x0 x1 x2 x3 x4 x5 x6, (0 : Int)), ()))) else (bif x3 == (2 : Int) then (bif !(Sp.f79 x1 (0 : Int) (IntKind.i64.wrap ((↑x5.length : Int) - (1 : Int)))).1 then ((false, (1 : Int)), ()) else ((Sp.step x0 x1 x2 x3 x4 x5 x6, (0 : Int)), ())) else ((Sp.step x0 x1 x2 x3 x4 x5 x6, (0 : Int)), ()))) else ((Sp.step x0 x1 x2 x3 x4 x5 x6, (0 : Int)), ())))))
def Sp.sameE (a b : ByteArray) (x : V2) : Bool := Go.Proofs.GR.eqS a x.1 && (Go.Proofs.GR.eqS b x.2 && true)
def Sp.f125 (x0 : List (Int × Int × ByteArray)) (x1 : ByteArray) (x2 : Int) (x3 : List (ByteArray × ByteArray)) := ((Sp.f70 x2 (0 : Int) (IntKind.i64.wrap ((↑x0.length : Int) - (1 : Int)))).1, ())
def Sp.f126 (x0 : List (ByteArray × ByteArray)) (x1 : ByteArray) (x2 : ByteArray) := (decide (Sp.idx (Sp.sameE x1 x2) x0 (0 : Int) ≥ (0 : Int)), ())
def Sp.f82 (x0 : ByteArray) (x1 : Int) (x2 : List (ByteArray × ByteArray)) (x3 : Int) (x4 : ByteArray) (x5 : List (Int × Int × ByteArray)) (x6 : List (Int × Int × ByteArray)) := (bif !x4.toList == x0.toList then ((true, true), ()) else (bif x3 == (3 : Int) then ((true, true), ()) else (bif !(Sp.f125 x6 x0 x1 x2).1 then ((false, false), ()) else (bif x3 == (2 : Int) then (bif !(Sp.f125 x5 x0 x1 x2).1 then ((false, false), ()) else (bif x3 == (2 : Int) then (bif (x5.getD x1.toNat ((0 : Int), (0 : Int), ByteArray.mk #[])).2.2.toList == (x6.getD x1.toNat ((0 : Int), (0 : Int), ByteArray.mk #[])).2.2.toList then ((true, true), ()) else (((Sp.f126 x2 (x5.getD x1.toNat ((0 : Int), (0 : Int), ByteArray.mk #[])).2.2 (x6.getD x1.toNat ((0 : Int), (0 : Int), ByteArray.mk #[])).2.2).1, true), ())) else (((Sp.f126 x2 (ByteArray.mk #[]) (x6.getD x1.toNat ((0 : Int), (0 : Int), ByteArray.mk #[])).2.2).1, true), ()))) else (bif x3 == (2 : Int) then (bif (x5.getD x1.toNat ((0 : Int), (0 : Int), ByteArray.mk #[])).2.2.toList == (x6.getD x1.toNat ((0 : Int), (0 : Int), ByteArray.mk #[])).2.2.toList then ((true, true), ()) else (((Sp.f126 x2 (x5.getD x1.toNat ((0 : Int), (0 : Int), ByteArray.mk #[])).2.2 (x6.getD x1.toNat ((0 : Int), (0 : Int), ByteArray.mk #[])).2.2).1, true), ())) else (((Sp.f126 x2 (ByteArray.mk #[]) (x6.getD x1.toNat ((0 : Int), (0 : Int), ByteArray.mk #[])).2.2).1, true), ()))))))
def Sp.f39 (x0 : ByteArray) (x1 : Int) (x2 : List (ByteArray × ByteArray)) (x3 : Int) (x4 : ByteArray) (x5 : List (Int × Int × ByteArray)) (x6 : List (Int × Int × ByteArray)) := (bif decide ((↑x5.length : Int) > (8 : Int)) then ((false, (1 : Int)), ()) else (bif decide ((↑x6.length : Int) > (8 : Int)) then ((false, (1 : Int)), ()) else (bif decide ((↑x2.length : Int) > (20 : Int)) then ((false, (1 : Int)), ()) else (bif !(Sp.f82 x0 x1 x2 x3 x4 x5 x6).1.2 then ((false, (1 : Int)), ()) else (((Sp.f82 x0 x1 x2 x3 x4 x5 x6).1.1, (0 : Int)), ())))))
def Sp.f8 (x0 : ByteArray) (x1 : Int) (x2 : List (ByteArray × ByteArray)) (x3 : Int) (x4 : ByteArray) (x5 : List (Int × Int × ByteArray)) (x6 : List (Int × Int × ByteArray)) := (bif decide ((Sp.f34 x0 x1 x2 (1048576 : Int)).1 < (0 : Int)) then (true, ()) else (bif decide ((Sp.f35 x3 x4 x5 x6 (Sp.f34 x0 x1 x2 (1048576 : Int)).1).1 < (0 : Int)) then (true, ()) else (bif !eqB (Sp.f39 (Sp.f37 x0 x1 x2).1.1 (Sp.f37 x0 x1 x2).1.2.1 (Sp.f37 x0 x1 x2).1.2.2 (Sp.f38 x3 x4 x5 x6).1.1 (Sp.f38 x3 x4 x5 x6).1.2.1 (Sp.f38 x3 x4 x5 x6).1.2.2.1 (Sp.f38 x3 x4 x5 x6).1.2.2.2).1.1 (Sp.f36 (Sp.f37 x0 x1 x2).1.1 (Sp.f37 x0 x1 x2).1.2.1 (Sp.f37 x0 x1 x2).1.2.2 (Sp.f38 x3 x4 x5 x6).1.1 (Sp.f38 x3 x4 x5 x6).1.2.1 (Sp.f38 x3 x4 x5 x6).1.2.2.1 (Sp.f38 x3 x4 x5 x6).1.2.2.2).1.1 then (false, ()) else (bif (Sp.f39 (Sp.f37 x0 x1 x2).1.1 (Sp.f37 x0 x1 x2).1.2.1 (Sp.f37 x0 x1 x2).1.2.2 (Sp.f38 x3 x4 x5 x6).1.1 (Sp.f38 x3 x4 x5 x6).1.2.1 (Sp.f38 x3 x4 x5 x6).1.2.2.1 (Sp.f38 x3 x4 x5 x6).1.2.2.2).1.2 != (Sp.f36 (Sp.f37 x0 x1 x2).1.1 (Sp.f37 x0 x1 x2).1.2.1 (Sp.f37 x0 x1 x2).1.2.2 (Sp.f38 x3 x4 x5 x6).1.1 (Sp.f38 x3 x4 x5 x6).1.2.1 (Sp.f38 x3 x4 x5 x6).1.2.2.1 (Sp.f38 x3 x4 x5 x6).1.2.2.2).1.2 then (false, ()) else (bif !(Sp.f40 (Sp.f37 x0 x1 x2).1.1 (Sp.f37 x0 x1 x2).1.2.1 (Sp.f37 x0 x1 x2).1.2.2 (Sp.f37 x0 x1 x2).1.1 (Sp.f37 x0 x1 x2).1.2.1 (Sp.f37 x0 x1 x2).1.2.2).1 then (false, ()) else (bif !(Sp.f41 (Sp.f38 x3 x4 x5 x6).1.1 (Sp.f38 x3 x4 x5 x6).1.2.1 (Sp.f38 x3 x4 x5 x6).1.2.2.1 (Sp.f38 x3 x4 x5 x6).1.2.2.2 (Sp.f38 x3 x4 x5 x6).1.1 (Sp.f38 x3 x4 x5 x6).1.2.1 (Sp.f38 x3 x4 x5 x6).1.2.2.1 (Sp.f38 x3 x4 x5 x6).1.2.2.2).1 then (false, ()) else (true, ())))))))
end Go.Proofs.GR.T

namespace Go.Proofs.GR.T
open Go Go.Proofs Go.Proofs.GR
theorem szV_le {x : V3} (h1 : x.2.2.size ≤ 9223372036854775807) (l : Int) (h0 : 0 ≤ l) (hl : l ≤ 1048576) : Sp.szV x l ≤ l := by
  unfold Sp.szV Sp.f87
  rw [wrap64 (n := l - (x.2.2.size : Int)) (by omega) (by omega)]
  by_cases c1 : l - (x.2.2.size : Int) < 0
  · rw [decide_eq_true c1]; show (-1 : Int) ≤ l; omega
  · rw [decide_eq_false c1]; show l - (x.2.2.size : Int) ≤ l; omega
def Sp.okV (xs : List V3) : Prop := xs.length ≤ 9223372036854775807 ∧ ∀ x ∈ xs, x.2.2.size ≤ 9223372036854775807
theorem f41_self (ev : Int) (ct : ByteArray) (old new : List V3) : (Sp.f41 ev ct old new ev ct old new).1 = true := by
  unfold Sp.f41
  rw [beq_self_eq_true, show (ev != ev) = false by simp, eqW_self eqV_self, eqW_self eqV_self]
  rfl
end Go.Proofs.GR.T

namespace Go.Proofs.GR.T
open Go Go.Proofs Go.Proofs.GR
namespace Sp
def wtW {α : Type} (w : α → Nat) : List α → Nat
  | [] => 0
  | x :: r => w x + wtW w r
def markU {α : Type} (g : α → Int → α) (w : α → Nat) : List α → Int → List α
  | [], _ => []
  | x :: r, k => g x k :: markU g w r (k + (w x : Int))
def smallU {α : Type} (w : α → Nat) (xs : List α) (k : Int) : Bool := match k with
  | .ofNat n => Nat.ble (n + wtW w xs) 4611686018427387904
  | .negSucc _ => false
def addU {α : Type} (w : α → Nat) (xs : List α) (k : Int) : Int := k + (wtW w xs : Int)
end Sp
theorem smallU_of {α : Type} {w : α → Nat} {xs : List α} {k : Int} (h : Sp.smallU w xs k = true) : 0 ≤ k ∧ k + (Sp.wtW w xs : Int) ≤ 4611686018427387904 := by
  cases k with
  | ofNat n =>
    have h1 : n + Sp.wtW w xs ≤ 4611686018427387904 := Nat.le_of_ble_eq_true h
    refine ⟨Int.natCast_nonneg n, ?_⟩
    show (n : Int) + (Sp.wtW w xs : Int) ≤ 4611686018427387904
    omega
  | negSucc n => cases h
theorem smallU_mk {α : Type} {w : α → Nat} {xs : List α} {k : Int} (h1 : 0 ≤ k) (h2 : k.toNat + Sp.wtW w xs ≤ 4611686018427387904) : Sp.smallU w xs k = true := by
  cases k with
  | ofNat n => exact Nat.ble_eq_true_of_le h2
  | negSucc n => exact absurd h1 (by omega)
theorem wtW_lin {α : Type} {w c : α → Nat} {a b : Nat} : ∀ {xs : List α}, (∀ x ∈ xs, w x ≤ a + b * c x) → Sp.wtW w xs ≤ a * xs.length + b * Sp.wtW c xs
  | [], _ => Nat.zero_le _
  | x :: r, h => by
    have h1 := h x (List.mem_cons_self)
    have h2 := wtW_lin (xs := r) (fun y hy => h y (List.mem_cons_of_mem _ hy))
    rw [Sp.wtW, Sp.wtW, List.length_cons, Nat.mul_add, Nat.mul_add, Nat.mul_one]
    omega
theorem szW_wt {α : Type} {f : α → Int → Int} {c : α → Nat} : ∀ (xs : List α) (l : Int), (∀ x ∈ xs, ∀ l, 0 ≤ l → l ≤ 1048576 → 0 ≤ f x l → f x l + (c x : Int) ≤ l) → 0 ≤ l → l ≤ 1048576 → 0 ≤ Sp.szW f xs l → Sp.szW f xs l + (Sp.wtW c xs : Int) ≤ l
  | [], l, _, _, _, _ => by simp [Sp.szW, Sp.wtW]
  | x :: r, l, h, h0, h1, h2 => by
    rw [Sp.szW] at h2 ⊢
    by_cases hc : f x l < 0
    · rw [decide_eq_true hc, cond_true] at h2; omega
    · rw [decide_eq_false hc, cond_false] at h2 ⊢
      have h3 := h x (List.mem_cons_self) l h0 h1 (by omega)
      have := szW_wt r (f x l) (fun y hy => h y (List.mem_cons_of_mem _ hy)) (by omega) (by omega) h2
      rw [Sp.wtW, Int.natCast_add]
      omega
theorem szE_wt {α : Type} {f : α → Int → Int} {c : α → Nat} {xs : List α} {l : Int} (hl : xs.length ≤ 9223372036854775807) (h : ∀ x ∈ xs, ∀ l, 0 ≤ l → l ≤ 1048576 → 0 ≤ f x l → f x l + (c x : Int) ≤ l) (h0 : 0 ≤ l) (h1 : l ≤ 1048576) (h2 : 0 ≤ Sp.szE f xs l) : Sp.szE f xs l + (xs.length : Int) + (Sp.wtW c xs : Int) ≤ l := by
  unfold Sp.szE at h2 ⊢
  rw [wrap64 (by omega) (by omega)] at h2 ⊢
  by_cases hc : l - (xs.length : Int) < 0
  · rw [decide_eq_true hc, cond_true] at h2; omega
  · rw [decide_eq_false hc, cond_false] at h2 ⊢
    have := szW_wt xs (l - xs.length) h (by omega) (by omega) h2
    omega
theorem markU_loop {α : Type} {ρ : Type} {g : α → Int → α} {w : α → Nat} {R : Int → List α → ρ} (L : Nat → Int → Int → List α → Option ρ)
    (hend : ∀ m (v : Int) (k : Nat) acc, acc.length ≤ k → L (m + 1) v k acc = some (R v acc))
    (hstep : ∀ m (v : Int) (k : Nat) acc (h : k < acc.length), acc.length ≤ 9223372036854775807 → 0 ≤ v → v + (w acc[k] : Int) ≤ 4611686018427387904 → L (m + 1) v k acc = L m (v + (w acc[k] : Int)) ((k + 1 : Nat) : Int) (acc.set k (g acc[k] v))) :
    ∀ (d k m : Nat) (v : Int) (acc : List α), k + d = acc.length → d < m → acc.length ≤ 9223372036854775807 → 0 ≤ v → v + (Sp.wtW w (acc.drop k) : Int) ≤ 4611686018427387904 →
      L m v k acc = some (R (v + (Sp.wtW w (acc.drop k) : Int)) (acc.take k ++ Sp.markU g w (acc.drop k) v)) := by
  intro d
  induction d with
  | zero =>
    intro k m v acc hk hm hlen h0 h1
    obtain ⟨m, rfl⟩ := succ_of hm
    rw [hend m v k acc (by omega), List.drop_of_length_le (by omega), List.take_of_length_le (by omega)]
    simp [Sp.markU, Sp.wtW]
  | succ d ih =>
    intro k m v acc hk hm hlen h0 h1
    obtain ⟨m, rfl⟩ := succ_of hm
    have hlt : k < acc.length := by omega
    have e0 : acc.drop k = acc[k] :: acc.drop (k + 1) := List.drop_eq_getElem_cons hlt
    rw [e0] at h1 ⊢
    rw [Sp.wtW] at h1 ⊢
    rw [Int.natCast_add] at h1 ⊢
    have e2 : (acc.set k (g acc[k] v)).drop (k + 1) = acc.drop (k + 1) := by rw [List.drop_set_of_lt (by omega)]
    rw [hstep m v k acc hlt hlen h0 (by omega), ih (k + 1) m (v + (w acc[k] : Int)) _ (by rw [List.length_set]; omega) (by omega) (by rw [List.length_set]; exact hlen) (by omega) (by rw [e2]; omega)]
    have e : (acc.set k (g acc[k] v)).take (k + 1) = acc.take k ++ [g acc[k] v] := by
      rw [List.take_set, List.take_succ_eq_append_getElem (by omega)]
      rw [List.set_append_right _ _ (by simp; omega)]
      simp [Nat.min_eq_left (show k ≤ acc.length by omega)]
    rw [e, e2, List.append_assoc]
    simp only [Sp.markU, List.singleton_append]
    rw [show v + (w acc[k] : Int) + (Sp.wtW w (acc.drop (k + 1)) : Int) = v + ((w acc[k] : Int) + (Sp.wtW w (acc.drop (k + 1)) : Int)) by omega]
end Go.Proofs.GR.T

set_option maxRecDepth 100000
namespace Go.Proofs.GR.T
open Go Go.Proofs Go.Proofs.GR
abbrev tC : Ty := .pair (.int .i64) (.pair .str (.pair (.slice tV) (.slice tV)))
abbrev VC := Int × ByteArray × List V3 × List V3
def Sp.f134 (x0 : Bool) (x1 : Bool) := (bif x0 then ((-1 : Int), ()) else (bif x1 then ((0 : Int), ()) else ((1 : Int), ())))
noncomputable def e134 : Ent := { f := 134, ins := [Sh.one (C0.dat Ty.bool), Sh.one (C0.dat Ty.bool)], outs := [Sh.one (C0.dat (Ty.int IntKind.i64))], upd := [], pre := fun a => true, spec := fun a => (Sp.f134 a.1 a.2).1, wrt := fun a => (Sp.f134 a.1 a.2).2 }
def f134_g (v : denS [Sh.one (C0.dat (Ty.int IntKind.i64))] × denS []) : Res := ⟨mkS [Sh.one (C0.dat (Ty.int IntKind.i64))] v.1, mkU [] v.2⟩
theorem f134_raw (x0 : Bool) (x1 : Bool) : abody Γ (orc []) 0 134 [XV.mk false [X.c (X0.dat Ty.bool x0)], XV.mk false [X.c (X0.dat Ty.bool x1)]] = bif x0 then some (Res.mk [XV.mk false [X.c (X0.dat (Ty.int IntKind.i64) (-1 : Int))]] []) else bif x1 then some (Res.mk [XV.mk false [X.c (X0.dat (Ty.int IntKind.i64) (0 : Int))]] []) else some (Res.mk [XV.mk false [X.c (X0.dat (Ty.int IntKind.i64) (1 : Int))]] []) := by kernel_rfl
theorem f134_form (x0 : Bool) (x1 : Bool) : (bif x0 then some (Res.mk [XV.mk false [X.c (X0.dat (Ty.int IntKind.i64) (-1 : Int))]] []) else bif x1 then some (Res.mk [XV.mk false [X.c (X0.dat (Ty.int IntKind.i64) (0 : Int))]] []) else some (Res.mk [XV.mk false [X.c (X0.dat (Ty.int IntKind.i64) (1 : Int))]] [])) = some (f134_g (Sp.f134 x0 x1)) := by
  unfold Sp.f134
  exact (cond_plain f134_g (rfl) ((cond_plain f134_g (rfl) (rfl))))
theorem e134_ok : Valid Try.prog Γ e134 := valid_auto ok vnil fun a => (f134_raw a.1 a.2).trans (f134_form a.1 a.2)

def Sp.f133 (x0 : Int) (x1 : Int) (x2 : ByteArray) (x3 : Int) (x4 : Int) (x5 : ByteArray) := (bif x0 != x3 then ((Sp.f134 (decide (x0 < x3)) false).1, ()) else (bif x1 != x4 then ((Sp.f134 (decide (x1 < x4)) false).1, ()) else ((Sp.f134 (Op.bytesLess x2.toList x5.toList) (x2.toList == x5.toList)).1, ())))
noncomputable def e133 : Ent := { f := 133, ins := [Sh.agg [C0.dat (Ty.int IntKind.i64), C0.dat (Ty.int IntKind.i64), C0.dat Ty.str], Sh.agg [C0.dat (Ty.int IntKind.i64), C0.dat (Ty.int IntKind.i64), C0.dat Ty.str]], outs := [Sh.one (C0.dat (Ty.int IntKind.i64))], upd := [], pre := fun a => true, spec := fun a => (Sp.f133 a.1.1 a.1.2.1 a.1.2.2 a.2.1 a.2.2.1 a.2.2.2).1, wrt := fun a => (Sp.f133 a.1.1 a.1.2.1 a.1.2.2 a.2.1 a.2.2.1 a.2.2.2).2 }
def f133_g (v : denS [Sh.one (C0.dat (Ty.int IntKind.i64))] × denS []) : Res := ⟨mkS [Sh.one (C0.dat (Ty.int IntKind.i64))] v.1, mkU [] v.2⟩
theorem f133_raw (x0 : Int) (x1 : Int) (x2 : ByteArray) (x3 : Int) (x4 : Int) (x5 : ByteArray) : abody Γ (orc [e134]) 0 133 [XV.mk true [X.c (X0.dat (Ty.int IntKind.i64) x0), X.c (X0.dat (Ty.int IntKind.i64) x1), X.c (X0.dat Ty.str x2)], XV.mk true [X.c (X0.dat (Ty.int IntKind.i64) x3), X.c (X0.dat (Ty.int IntKind.i64) x4), X.c (X0.dat Ty.str x5)]] = bif x0 != x3 then some (Res.mk [XV.mk false [X.c (X0.dat (Ty.int IntKind.i64) (Sp.f134 (decide (x0 < x3)) false).1)]] []) else bif x1 != x4 then some (Res.mk [XV.mk false [X.c (X0.dat (Ty.int IntKind.i64) (Sp.f134 (decide (x1 < x4)) false).1)]] []) else some (Res.mk [XV.mk false [X.c (X0.dat (Ty.int IntKind.i64) (Sp.f134 (Op.bytesLess x2.toList x5.toList) (x2.toList == x5.toList)).1)]] []) := by kernel_rfl
theorem f133_form (x0 : Int) (x1 : Int) (x2 : ByteArray) (x3 : Int) (x4 : Int) (x5 : ByteArray) : (bif x0 != x3 then some (Res.mk [XV.mk false [X.c (X0.dat (Ty.int IntKind.i64) (Sp.f134 (decide (x0 < x3)) false).1)]] []) else bif x1 != x4 then some (Res.mk [XV.mk false [X.c (X0.dat (Ty.int IntKind.i64) (Sp.f134 (decide (x1 < x4)) false).1)]] []) else some (Res.mk [XV.mk false [X.c (X0.dat (Ty.int IntKind.i64) (Sp.f134 (Op.bytesLess x2.toList x5.toList) (x2.toList == x5.toList)).1)]] [])) = some (f133_g (Sp.f133 x0 x1 x2 x3 x4 x5)) := by
  unfold Sp.f133
  exact (cond_plain f133_g (rfl) ((cond_plain f133_g (rfl) (rfl))))
theorem e133_ok : Valid Try.prog Γ e133 := valid_auto ok (vcons e134_ok vnil) fun a => (f133_raw a.1.1 a.1.2.1 a.1.2.2 a.2.1 a.2.2.1 a.2.2.2).trans (f133_form a.1.1 a.1.2.1 a.1.2.2 a.2.1 a.2.2.1 a.2.2.2)

def Sp.sameV (x y : V3) : Bool := Go.Proofs.GR.eqI x.1 y.1 && (Go.Proofs.GR.eqI x.2.1 y.2.1 && (Go.Proofs.GR.eqS x.2.2 y.2.2 && true))
noncomputable def f90_L0 (n m0 : Nat) (y0 : List (Int × Int × ByteArray)) (y1 : List (Int × Int × ByteArray)) (y2 : Int) (y3 : Int) : Option Res := loopAt Γ (orc []) n (90 : Nat) (0 : Nat) [] [Pth.r, Pth.r, Pth.l, Pth.r, Pth.b] m0 (St.mk [Slot.val (Val.one (Cell.dat ((Ty.int IntKind.i64).pair ((Ty.int IntKind.i64).pair Ty.str)).slice y0)), Slot.val (Val.one (Cell.dat ((Ty.int IntKind.i64).pair ((Ty.int IntKind.i64).pair Ty.str)).slice y1)), Slot.nix, Slot.nix, Slot.nix, Slot.nix, Slot.nix, Slot.nix, Slot.nix, Slot.nix, Slot.nix, Slot.nix, Slot.val (Val.one (Cell.dat (Ty.int IntKind.i64) y2)), Slot.val (Val.one (Cell.dat (Ty.int IntKind.i64) y3)), Slot.nix, Slot.nix, Slot.nix, Slot.nix, Slot.nix, Slot.nix, Slot.nix, Slot.nix, Slot.nix, Slot.nix, Slot.nix, Slot.nix] [])
theorem f90_L0_step (n m0 : Nat) (y0 : List (Int × Int × ByteArray)) (y1 : List (Int × Int × ByteArray)) (y2 : Int) (y3 : Int) : f90_L0 n (m0 + 1) y0 y1 y2 y3 = bif decide (y3 < y2) then chk (decide ((0 : Int) ≤ y3) && decide (y3 < (↑y0.length : Int))) (chk (decide ((0 : Int) ≤ y3) && decide (y3 < (↑y1.length : Int))) (bif !(eqI (y0.getD y3.toNat ((0 : Int), (0 : Int), ByteArray.mk #[])).1 (y1.getD y3.toNat ((0 : Int), (0 : Int), ByteArray.mk #[])).1 && (eqI (y0.getD y3.toNat ((0 : Int), (0 : Int), ByteArray.mk #[])).2.1 (y1.getD y3.toNat ((0 : Int), (0 : Int), ByteArray.mk #[])).2.1 && (eqS (y0.getD y3.toNat ((0 : Int), (0 : Int), ByteArray.mk #[])).2.2 (y1.getD y3.toNat ((0 : Int), (0 : Int), ByteArray.mk #[])).2.2 && true))) then some (Res.mk [XV.mk false [X.c (X0.dat Ty.bool false)]] []) else f90_L0 n m0 y0 y1 y2 (IntKind.i64.wrap (y3 + (1 : Int))))) else some (Res.mk [XV.mk false [X.c (X0.dat Ty.bool true)]] []) := by kernel_rfl
theorem f90_raw (n : Nat) (x0 : List (Int × Int × ByteArray)) (x1 : List (Int × Int × ByteArray)) : abody Γ (orc []) n 90 [XV.mk false [X.c (X0.dat ((Ty.int IntKind.i64).pair ((Ty.int IntKind.i64).pair Ty.str)).slice x0)], XV.mk false [X.c (X0.dat ((Ty.int IntKind.i64).pair ((Ty.int IntKind.i64).pair Ty.str)).slice x1)]] = bif (↑x0.length : Int) != (↑x1.length : Int) then some (Res.mk [XV.mk false [X.c (X0.dat Ty.bool false)]] []) else f90_L0 n n x0 x1 (↑x0.length : Int) (0 : Int) := by kernel_rfl

noncomputable def e90 : Ent := { f := 90, ins := [Sh.one (C0.dat (.slice tV)), Sh.one (C0.dat (.slice tV))], outs := [Sh.one cB], upd := [], pre := fun a => true, spec := fun a => Sp.eqW Sp.sameV a.1 a.2, wrt := fun _ => () }
theorem e90_core (xs ys : List V3) (h1 : xs.length ≤ maxLen) : ∃ n, abody Γ (orc []) n 90 [XV.mk false [X.c (X0.dat (Ty.slice tV) xs)], XV.mk false [X.c (X0.dat (Ty.slice tV) ys)]] = some (rBo (Sp.eqW Sp.sameV xs ys)) := by
  have h1 : xs.length ≤ 9223372036854775807 := h1
  refine ⟨xs.length + 1, (f90_raw _ xs ys).trans ?_⟩
  by_cases he : xs.length = ys.length
  · rw [show ((xs.length : Int) != (ys.length : Int)) = false by simp [he], cond_false]
    refine eq_loop xs ys (fun m k => f90_L0 _ m xs ys xs.length k) he (fun m k hk => ?_) (fun m k h h2 => ?_) xs.length 0 _ (Nat.zero_add _) (Nat.lt_succ_self _)
    · show f90_L0 _ _ _ _ _ _ = _
      rw [f90_L0_step, nat_ge hk, cond_false]
    · show f90_L0 _ _ _ _ _ _ = _
      rw [f90_L0_step, nat_lt h, cond_true, guard0, chkT, guard2 h2, chkT, getD_nat xs k _ h, getD_nat ys k _ h2, next64 h2 (by omega)]
      rfl
  · rw [show ((xs.length : Int) != (ys.length : Int)) = true by simp; omega, eqW_len he]
    rfl
theorem e90_ok : Valid Try.prog Γ e90 := valid_len ok vnil fun a _ hl => e90_core a.1 a.2 (hl _ (List.mem_cons_self) _ (List.mem_cons_self)).1
def Sp.cmpV (x y : V3) : Int := (Sp.f133 x.1 x.2.1 x.2.2 y.1 y.2.1 y.2.2).1
def Sp.cmpN (n m : Nat) : Int := (Sp.f134 (decide ((n : Int) < (m : Int))) ((n : Int) == (m : Int))).1
def Sp.rows : List V3 → List V3 → Int
  | x :: r, y :: s => bif Sp.cmpV x y != 0 then Sp.cmpV x y else Sp.rows r s
  | a, b => Sp.cmpN a.length b.length
noncomputable def f88_L0 (n m0 : Nat) (y0 : List (Int × Int × ByteArray)) (y1 : List (Int × Int × ByteArray)) (y2 : Int) : Option Res := loopAt Γ (orc [e133, e134]) n (88 : Nat) (0 : Nat) [] [Pth.r, Pth.l, Pth.r, Pth.b] m0 (St.mk [Slot.val (Val.one (Cell.dat ((Ty.int IntKind.i64).pair ((Ty.int IntKind.i64).pair Ty.str)).slice y0)), Slot.val (Val.one (Cell.dat ((Ty.int IntKind.i64).pair ((Ty.int IntKind.i64).pair Ty.str)).slice y1)), Slot.nix, Slot.nix, Slot.nix, Slot.val (Val.one (Cell.dat (Ty.int IntKind.i64) y2)), Slot.nix, Slot.nix, Slot.nix, Slot.nix, Slot.nix, Slot.nix, Slot.nix, Slot.nix, Slot.nix, Slot.nix, Slot.nix, Slot.nix, Slot.nix, Slot.nix, Slot.nix, Slot.nix, Slot.nix, Slot.nix, Slot.nix, Slot.nix, Slot.nix, Slot.nix, Slot.nix, Slot.nix, Slot.nix, Slot.nix, Slot.nix, Slot.nix, Slot.nix, Slot.nix, Slot.nix, Slot.nix, Slot.nix, Slot.nix, Slot.nix, Slot.nix] [])
theorem f88_L0_step (n m0 : Nat) (y0 : List (Int × Int × ByteArray)) (y1 : List (Int × Int × ByteArray)) (y2 : Int) : f88_L0 n (m0 + 1) y0 y1 y2 = bif decide (y2 < (↑y0.length : Int)) then bif decide (y2 < (↑y1.length : Int)) then chk (decide ((0 : Int) ≤ y2) && decide (y2 < (↑y0.length : Int))) (chk (decide ((0 : Int) ≤ y2) && decide (y2 < (↑y1.length : Int))) (bif (Sp.f133 (y0.getD y2.toNat ((0 : Int), (0 : Int), ByteArray.mk #[])).1 (y0.getD y2.toNat ((0 : Int), (0 : Int), ByteArray.mk #[])).2.1 (y0.getD y2.toNat ((0 : Int), (0 : Int), ByteArray.mk #[])).2.2 (y1.getD y2.toNat ((0 : Int), (0 : Int), ByteArray.mk #[])).1 (y1.getD y2.toNat ((0 : Int), (0 : Int), ByteArray.mk #[])).2.1 (y1.getD y2.toNat ((0 : Int), (0 : Int), ByteArray.mk #[])).2.2).1 != (0 : Int) then some (Res.mk [XV.mk false [X.c (X0.dat (Ty.int IntKind.i64) (Sp.f133 (y0.getD y2.toNat ((0 : Int), (0 : Int), ByteArray.mk #[])).1 (y0.getD y2.toNat ((0 : Int), (0 : Int), ByteArray.mk #[])).2.1 (y0.getD y2.toNat ((0 : Int), (0 : Int), ByteArray.mk #[])).2.2 (y1.getD y2.toNat ((0 : Int), (0 : Int), ByteArray.mk #[])).1 (y1.getD y2.toNat ((0 : Int), (0 : Int), ByteArray.mk #[])).2.1 (y1.getD y2.toNat ((0 : Int), (0 : Int), ByteArray.mk #[])).2.2).1)]] []) else f88_L0 n m0 y0 y1 (IntKind.i64.wrap (y2 + (1 : Int))))) else some (Res.mk [XV.mk false [X.c (X0.dat (Ty.int IntKind.i64) (Sp.f134 (decide ((↑y0.length : Int) < (↑y1.length : Int))) ((↑y0.length : Int) == (↑y1.length : Int))).1)]] []) else some (Res.mk [XV.mk false [X.c (X0.dat (Ty.int IntKind.i64) (Sp.f134 (decide ((↑y0.length : Int) < (↑y1.length : Int))) ((↑y0.length : Int) == (↑y1.length : Int))).1)]] []) := by kernel_rfl
theorem f88_raw (n : Nat) (x0 : List (Int × Int × ByteArray)) (x1 : List (Int × Int × ByteArray)) : abody Γ (orc [e133, e134]) n 88 [XV.mk false [X.c (X0.dat ((Ty.int IntKind.i64).pair ((Ty.int IntKind.i64).pair Ty.str)).slice x0)], XV.mk false [X.c (X0.dat ((Ty.int IntKind.i64).pair ((Ty.int IntKind.i64).pair Ty.str)).slice x1)]] = f88_L0 n n x0 x1 (0 : Int) := by kernel_rfl

noncomputable def e88 : Ent := { f := 88, ins := [Sh.one (C0.dat (.slice tV)), Sh.one (C0.dat (.slice tV))], outs := [Sh.one cI], upd := [], pre := fun a => true, spec := fun a => Sp.rows a.1 a.2, wrt := fun _ => () }
theorem cmpN_shift (k a b : Nat) (ha : k ≤ a) (hb : k ≤ b) : Sp.cmpN (a - k) (b - k) = Sp.cmpN a b := by
  unfold Sp.cmpN
  rw [show decide (((a - k : Nat) : Int) < ((b - k : Nat) : Int)) = decide ((a : Int) < (b : Int)) from decide_eq_decide.2 ⟨fun h => by omega, fun h => by omega⟩]
  rw [show (((a - k : Nat) : Int) == ((b - k : Nat) : Int)) = ((a : Int) == (b : Int)) by
    rw [Bool.eq_iff_iff]; simp only [beq_iff_eq]; exact ⟨fun h => by omega, fun h => by omega⟩]
theorem f88_loop (n : Nat) (xs ys : List V3) (hl : xs.length ≤ 9223372036854775807) : ∀ (d k m : Nat), k + d = xs.length → k ≤ ys.length → d < m → f88_L0 n m xs ys k = some (rI (Sp.rows (xs.drop k) (ys.drop k))) := by
  intro d
  induction d with
  | zero =>
    intro k m hk hy hm
    obtain ⟨m, rfl⟩ := succ_of hm
    rw [f88_L0_step, nat_ge (by omega), cond_false, List.drop_of_length_le (show xs.length ≤ k by omega)]
    have e : Sp.rows [] (ys.drop k) = Sp.cmpN 0 (ys.drop k).length := by cases ys.drop k <;> rfl
    rw [e, List.length_drop, show (0 : Nat) = xs.length - k by omega, cmpN_shift k _ _ (by omega) hy]
    rfl
  | succ d ih =>
    intro k m hk hy hm
    obtain ⟨m, rfl⟩ := succ_of hm
    have h : k < xs.length := by omega
    rw [f88_L0_step, nat_lt h, cond_true]
    by_cases h2 : k < ys.length
    · rw [nat_lt h2, cond_true, guard0, chkT, chkT, getD_nat xs k _ h, getD_nat ys k _ h2, next64 h hl, ih (k + 1) m (by omega) (by omega) (by omega), List.drop_eq_getElem_cons h, List.drop_eq_getElem_cons h2, Sp.rows]
      show (bif Sp.cmpV xs[k] ys[k] != 0 then some (rI (Sp.cmpV xs[k] ys[k])) else _) = _
      cases Sp.cmpV xs[k] ys[k] != 0 <;> rfl
    · rw [nat_ge (show ys.length ≤ k by omega), cond_false, List.drop_of_length_le (show ys.length ≤ k by omega)]
      have e : Sp.rows (xs.drop k) [] = Sp.cmpN (xs.drop k).length 0 := by cases xs.drop k <;> rfl
      rw [e, List.length_drop, show (0 : Nat) = ys.length - k by omega, cmpN_shift k _ _ (by omega) hy]
      rfl
theorem e88_ok : Valid Try.prog Γ e88 := valid_len ok (vcons e133_ok (vcons e134_ok vnil)) fun a _ hl => ⟨List.length (α := V3) a.1 + 1, (f88_raw _ a.1 a.2).trans (f88_loop _ a.1 a.2 (hl _ (List.mem_cons_self) _ (List.mem_cons_self)).1 (List.length (α := V3) a.1) 0 _ (Nat.zero_add _) (Nat.zero_le _) (Nat.lt_succ_self _))⟩
def Sp.hist (q : List V3 → List V3 → Bool) (t : ByteArray) (col : Int) (key : List V3) : List VC → List ByteArray → List ByteArray × Int
  | [], out => (out, 0)
  | c :: r, out => bif !(c.2.1.toList == t.toList) then Sp.hist q t col key r out else bif decide ((c.2.2.2.length : Int) < (key.length : Int)) then Sp.hist q t col key r out else
    bif !q (c.2.2.2.take key.length) key then Sp.hist q t col key r out else bif !Sp.has c.2.2.2 col then ([], 4) else Sp.hist q t col key r (out ++ [Sp.txt c.2.2.2 col])
abbrev rH (p : List ByteArray × Int) : Res := Res.mk [XV.mk false [X.c (X0.row Ty.str p.1 true)], XV.mk false [X.c (X0.dat (Ty.int IntKind.i64) p.2)]] []
theorem hist_loop {q : List V3 → List V3 → Bool} (t : ByteArray) (col : Int) (key : List V3) (xs : List VC) (hx : xs.length ≤ 4096) (L : Nat → Int → List ByteArray → Option Res)
    (hend : ∀ m (k : Nat) out, xs.length ≤ k → L (m + 1) k out = some (rH (out, 0)))
    (hstep : ∀ m (k : Nat) out (h : k < xs.length), out.length ≤ 4096 → L (m + 1) k out = bif !(xs[k].2.1.toList == t.toList) then L m ((k + 1 : Nat) : Int) out else bif decide ((xs[k].2.2.2.length : Int) < (key.length : Int)) then L m ((k + 1 : Nat) : Int) out else
      bif !q (xs[k].2.2.2.take key.length) key then L m ((k + 1 : Nat) : Int) out else bif !Sp.has xs[k].2.2.2 col then some (rH ([], 4)) else L m ((k + 1 : Nat) : Int) (out ++ [Sp.txt xs[k].2.2.2 col])) :
    ∀ (d k m : Nat) (out : List ByteArray), k + d = xs.length → out.length ≤ k → d < m → L m k out = some (rH (Sp.hist q t col key (xs.drop k) out)) := by
  intro d
  induction d with
  | zero =>
    intro k m out hk ho hm
    obtain ⟨m, rfl⟩ := succ_of hm
    rw [hend m k out (by omega), List.drop_of_length_le (by omega)]
    rfl
  | succ d ih =>
    intro k m out hk ho hm
    obtain ⟨m, rfl⟩ := succ_of hm
    have h : k < xs.length := by omega
    rw [hstep m k out h (by omega), ih (k + 1) m out (by omega) (by omega) (by omega), ih (k + 1) m (out ++ [Sp.txt xs[k].2.2.2 col]) (by omega) (by rw [List.length_append, List.length_singleton]; omega) (by omega), List.drop_eq_getElem_cons h, Sp.hist]
    cases xs[k].2.1.toList == t.toList with
    | false => rfl
    | true =>
      rw [Bool.not_true, cond_false, cond_false]
      cases decide ((xs[k].2.2.2.length : Int) < (key.length : Int)) with
      | true => rfl
      | false =>
        rw [cond_false, cond_false]
        cases q (xs[k].2.2.2.take key.length) key with
        | false => rfl
        | true => cases Sp.has xs[k].2.2.2 col <;> rfl
theorem hist_step {ρ : Type} (c : VC) (t : ByteArray) (col : Int) (key : List V3) (out : List ByteArray) (Q W : Bool) (a b : Option ρ) (e : List ByteArray → Option ρ) (hw : c.2.2.2.length ≤ 9223372036854775807 → W = Sp.has c.2.2.2 col) (hc : c.2.2.2.length ≤ 9223372036854775807) (ho : out.length ≤ 4096) :
    (bif !(c.2.1.toList == t.toList) then a else bif decide ((c.2.2.2.length : Int) < (key.length : Int)) then a else chk (decide ((0 : Int) ≤ (key.length : Int)) && decide ((key.length : Int) ≤ (c.2.2.2.length : Int))) (bif Q then a else bif !W then b else
      chk (decide ((0 : Int) ≤ col) && decide (col < (c.2.2.2.length : Int))) (chk (decide ((out.length + [Sp.txt c.2.2.2 col].length) * (16 : Nat) ≤ (140737488355328 : Nat))) (e (out ++ [Sp.txt c.2.2.2 col])))))
    = bif !(c.2.1.toList == t.toList) then a else bif decide ((c.2.2.2.length : Int) < (key.length : Int)) then a else bif Q then a else bif !Sp.has c.2.2.2 col then b else e (out ++ [Sp.txt c.2.2.2 col]) := by
  rw [hw hc, List.length_singleton, decide_eq_true (show (out.length + 1) * 16 ≤ 140737488355328 by omega), chkT]
  cases c.2.1.toList == t.toList with
  | false => rfl
  | true =>
    rw [Bool.not_true, cond_false, cond_false]
    by_cases h1 : (c.2.2.2.length : Int) < (key.length : Int)
    · rw [decide_eq_true h1]; rfl
    · rw [decide_eq_false h1, cond_false, cond_false, decide_eq_true (show (0 : Int) ≤ (key.length : Int) by omega), decide_eq_true (show (key.length : Int) ≤ (c.2.2.2.length : Int) by omega), Bool.and_self, chkT]
      cases hh : Sp.has c.2.2.2 col with
      | false => rfl
      | true => rw [has_of hh, chkT]
theorem within_hasL {xs : List V3} (h : xs.length ≤ 9223372036854775807) (i : Int) : (bif decide (i ≥ (0 : Int)) then (decide (i ≤ IntKind.i64.wrap ((xs.length : Int) - 1)), ()) else (false, ())).1 = Sp.has xs i := by
  rw [wrap64 (by omega) (by omega)]
  unfold Sp.has
  by_cases h0 : 0 ≤ i
  · rw [decide_eq_true h0, cond_true, cond_true]
    exact decide_eq_decide.2 ⟨fun h => by omega, fun h => by omega⟩
  · rw [decide_eq_false h0]
    rfl
def Sp.sameR (a b : List V3) : Bool := !(Sp.rows a b != 0)
def Sp.h49 (xs : List VC) (t : ByteArray) (col : Int) (key : List V3) : List ByteArray × Int :=
  bif decide ((key.length : Int) > 4096) then ([], 2) else bif decide ((xs.length : Int) > 4096) then ([], 2) else bif decide ((t.size : Int) > 65536) then ([], 2) else Sp.hist Sp.sameR t col key xs []
def Sp.h52 (xs : List VC) (t : ByteArray) (col : Int) (key : List V3) : List ByteArray × Int :=
  bif decide ((xs.length : Int) > 4096) then ([], 2) else bif (Sp.f69 [t]).1 then ([], 2) else bif decide ((key.length : Int) > 4096) then ([], 2) else Sp.hist (Sp.eqW Sp.sameV) t col key xs []
noncomputable def f49_L0 (n m0 : Nat) (y0 : List (Int × ByteArray × List (Int × Int × ByteArray) × List (Int × Int × ByteArray))) (y1 : ByteArray) (y2 : Int) (y3 : List (Int × Int × ByteArray)) (y4 : Int) (y5 : List ByteArray) : Option Res := loopAt Γ (orc [e88, e79]) n (49 : Nat) (0 : Nat) [] [Pth.r, Pth.r, Pth.r, Pth.r, Pth.l, Pth.r, Pth.b] m0 (St.mk [Slot.val (Val.one (Cell.dat ((Ty.int IntKind.i64).pair (Ty.str.pair (((Ty.int IntKind.i64).pair ((Ty.int IntKind.i64).pair Ty.str)).slice.pair ((Ty.int IntKind.i64).pair ((Ty.int IntKind.i64).pair Ty.str)).slice))).slice y0)), Slot.val (Val.one (Cell.dat Ty.str y1)), Slot.val (Val.one (Cell.dat (Ty.int IntKind.i64) y2)), Slot.val (Val.one (Cell.dat ((Ty.int IntKind.i64).pair ((Ty.int IntKind.i64).pair Ty.str)).slice y3)), Slot.nix, Slot.nix, Slot.nix, Slot.nix, Slot.nix, Slot.nix, Slot.val (Val.one (Cell.own (0 : Nat))), Slot.val (Val.one (Cell.dat (Ty.int IntKind.i64) y4)), Slot.nix, Slot.nix, Slot.nix, Slot.nix, Slot.nix, Slot.nix, Slot.nix, Slot.nix, Slot.nix, Slot.nix, Slot.nix, Slot.nix, Slot.nix, Slot.nix, Slot.nix, Slot.nix, Slot.nix, Slot.nix, Slot.nix, Slot.nix, Slot.nix, Slot.nix, Slot.nix, Slot.nix, Slot.nix, Slot.nix, Slot.nix, Slot.nix, Slot.nix, Slot.nix, Slot.nix, Slot.nix, Slot.nix, Slot.nix, Slot.nix, Slot.nix, Slot.nix, Slot.nix, Slot.nix, Slot.nix, Slot.nix, Slot.nix, Slot.nix, Slot.nix, Slot.nix, Slot.nix, Slot.nix, Slot.nix, Slot.nix, Slot.nix, Slot.nix, Slot.nix, Slot.nix, Slot.nix, Slot.nix, Slot.nix, Slot.nix, Slot.nix, Slot.nix, Slot.nix, Slot.nix, Slot.nix, Slot.nix, Slot.nix, Slot.nix] [AObj.row Ty.str y5 true])
theorem f49_L0_step (n m0 : Nat) (y0 : List (Int × ByteArray × List (Int × Int × ByteArray) × List (Int × Int × ByteArray))) (y1 : ByteArray) (y2 : Int) (y3 : List (Int × Int × ByteArray)) (y4 : Int) (y5 : List ByteArray) : f49_L0 n (m0 + 1) y0 y1 y2 y3 y4 y5 = bif decide (y4 < (↑y0.length : Int)) then chk (decide ((0 : Int) ≤ y4) && decide (y4 < (↑y0.length : Int))) (bif !(y0.getD y4.toNat ((0 : Int), ByteArray.mk #[], [], [])).2.1.toList == y1.toList then f49_L0 n m0 y0 y1 y2 y3 (IntKind.i64.wrap (y4 + (1 : Int))) y5 else bif decide ((↑(y0.getD y4.toNat ((0 : Int), ByteArray.mk #[], [], [])).2.2.2.length : Int) < (↑y3.length : Int)) then f49_L0 n m0 y0 y1 y2 y3 (IntKind.i64.wrap (y4 + (1 : Int))) y5 else chk (decide ((0 : Int) ≤ (↑y3.length : Int)) && decide ((↑y3.length : Int) ≤ (↑(y0.getD y4.toNat ((0 : Int), ByteArray.mk #[], [], [])).2.2.2.length : Int))) (bif Sp.rows (List.take ((↑y3.length : Int).toNat - (0 : Nat)) (List.drop (0 : Nat) (y0.getD y4.toNat ((0 : Int), ByteArray.mk #[], [], [])).2.2.2)) y3 != (0 : Int) then f49_L0 n m0 y0 y1 y2 y3 (IntKind.i64.wrap (y4 + (1 : Int))) y5 else bif !(Sp.f79 y2 (0 : Int) (IntKind.i64.wrap ((↑(y0.getD y4.toNat ((0 : Int), ByteArray.mk #[], [], [])).2.2.2.length : Int) - (1 : Int)))).1 then some (Res.mk [XV.mk false [X.c (X0.row Ty.str [] true)], XV.mk false [X.c (X0.dat (Ty.int IntKind.i64) (4 : Int))]] []) else chk (decide ((0 : Int) ≤ y2) && decide (y2 < (↑(y0.getD y4.toNat ((0 : Int), ByteArray.mk #[], [], [])).2.2.2.length : Int))) (chk (decide ((y5.length + [((y0.getD y4.toNat ((0 : Int), ByteArray.mk #[], [], [])).2.2.2.getD y2.toNat ((0 : Int), (0 : Int), ByteArray.mk #[])).2.2].length) * (16 : Nat) ≤ (140737488355328 : Nat))) (f49_L0 n m0 y0 y1 y2 y3 (IntKind.i64.wrap (y4 + (1 : Int))) (y5 ++ [((y0.getD y4.toNat ((0 : Int), ByteArray.mk #[], [], [])).2.2.2.getD y2.toNat ((0 : Int), (0 : Int), ByteArray.mk #[])).2.2]))))) else some (Res.mk [XV.mk false [X.c (X0.row Ty.str y5 true)], XV.mk false [X.c (X0.dat (Ty.int IntKind.i64) (0 : Int))]] []) := by kernel_rfl
theorem f49_raw (n : Nat) (x0 : List (Int × ByteArray × List (Int × Int × ByteArray) × List (Int × Int × ByteArray))) (x1 : ByteArray) (x2 : Int) (x3 : List (Int × Int × ByteArray)) : abody Γ (orc [e88, e79]) n 49 [XV.mk false [X.c (X0.dat ((Ty.int IntKind.i64).pair (Ty.str.pair (((Ty.int IntKind.i64).pair ((Ty.int IntKind.i64).pair Ty.str)).slice.pair ((Ty.int IntKind.i64).pair ((Ty.int IntKind.i64).pair Ty.str)).slice))).slice x0)], XV.mk false [X.c (X0.dat Ty.str x1)], XV.mk false [X.c (X0.dat (Ty.int IntKind.i64) x2)], XV.mk false [X.c (X0.dat ((Ty.int IntKind.i64).pair ((Ty.int IntKind.i64).pair Ty.str)).slice x3)]] = bif decide ((↑x3.length : Int) > (4096 : Int)) then some (Res.mk [XV.mk false [X.c (X0.row Ty.str [] true)], XV.mk false [X.c (X0.dat (Ty.int IntKind.i64) (2 : Int))]] []) else bif decide ((↑x0.length : Int) > (4096 : Int)) then some (Res.mk [XV.mk false [X.c (X0.row Ty.str [] true)], XV.mk false [X.c (X0.dat (Ty.int IntKind.i64) (2 : Int))]] []) else bif decide ((↑x1.size : Int) > (65536 : Int)) then some (Res.mk [XV.mk false [X.c (X0.row Ty.str [] true)], XV.mk false [X.c (X0.dat (Ty.int IntKind.i64) (2 : Int))]] []) else f49_L0 n n x0 x1 x2 x3 (0 : Int) [] := by kernel_rfl

noncomputable def e49 : Ent := { f := 49, ins := [Sh.one (C0.dat (.slice tC)), Sh.one cS, Sh.one cI, Sh.one (C0.dat (.slice tV))], outs := [Sh.one (C0.row .str), Sh.one cI], upd := [], pre := fun a => true, spec := fun a => Sp.h49 a.1 a.2.1 a.2.2.1 a.2.2.2, wrt := fun _ => () }
theorem e49_core (xs : List VC) (t : ByteArray) (col : Int) (key : List V3) (hn : ∀ x ∈ xs, x.2.2.2.length ≤ 9223372036854775807) : ∃ n, abody Γ (orc [e88, e79]) n 49 [XV.mk false [X.c (X0.dat (Ty.slice tC) xs)], XV.mk false [X.c (X0.dat Ty.str t)], XV.mk false [X.c (X0.dat (Ty.int IntKind.i64) col)], XV.mk false [X.c (X0.dat (Ty.slice tV) key)]] = some (rH (Sp.h49 xs t col key)) := by
  refine ⟨xs.length + 1, (f49_raw _ xs t col key).trans ?_⟩
  unfold Sp.h49
  cases decide ((key.length : Int) > 4096) with
  | true => rfl
  | false =>
    by_cases h2 : (xs.length : Int) > 4096
    · rw [decide_eq_true h2]; rfl
    · rw [decide_eq_false h2, cond_false, cond_false, cond_false, cond_false]
      cases decide ((t.size : Int) > 65536) with
      | true => rfl
      | false =>
        rw [cond_false, cond_false]
        refine hist_loop (q := Sp.sameR) t col key xs (by omega) (fun m k out => f49_L0 (xs.length + 1) m xs t col key k out) (fun m k out hk => ?_) (fun m k out h ho => ?_) xs.length 0 _ [] (Nat.zero_add _) (Nat.zero_le _) (Nat.lt_succ_self _)
        · show f49_L0 _ _ _ _ _ _ _ _ = _
          rw [f49_L0_step, nat_ge hk, cond_false]
        · show f49_L0 _ _ _ _ _ _ _ _ = _
          rw [f49_L0_step, nat_lt h, cond_true, guard0, chkT, getD_nat xs k _ h, next64 h (by omega), Int.toNat_natCast, Nat.sub_zero, List.drop_zero]
          refine (hist_step xs[k] t col key out (Sp.rows (xs[k].2.2.2.take key.length) key != 0) _ _ _ (fun o => f49_L0 _ _ _ _ _ _ _ o) (fun h => within_hasL h col) (hn _ (List.getElem_mem h)) ho).trans ?_
          unfold Sp.sameR
          rw [Bool.not_not]
          rfl
theorem e49_ok : Valid Try.prog Γ e49 := valid_len ok (vcons e88_ok (vcons e79_ok vnil)) fun a _ hl => e49_core a.1 a.2.1 a.2.2.1 a.2.2.2 fun x hx => ((hl _ (List.mem_cons_self) _ (List.mem_cons_self)).2 x hx).2.2.2.1
noncomputable def f52_L0 (n m0 : Nat) (y0 : ByteArray) (y1 : Int) (y2 : List (Int × Int × ByteArray)) (y3 : List (Int × ByteArray × List (Int × Int × ByteArray) × List (Int × Int × ByteArray))) (y4 : Int) (y5 : Int) (y6 : List ByteArray) : Option Res := loopAt Γ (orc [e69, e90, e70]) n (52 : Nat) (0 : Nat) [] [Pth.r, Pth.r, Pth.r, Pth.l, Pth.r, Pth.b] m0 (St.mk [Slot.nix, Slot.val (Val.one (Cell.dat Ty.str y0)), Slot.val (Val.one (Cell.dat (Ty.int IntKind.i64) y1)), Slot.val (Val.one (Cell.dat ((Ty.int IntKind.i64).pair ((Ty.int IntKind.i64).pair Ty.str)).slice y2)), Slot.nix, Slot.nix, Slot.nix, Slot.nix, Slot.nix, Slot.nix, Slot.val (Val.one (Cell.own (0 : Nat))), Slot.nix, Slot.nix, Slot.nix, Slot.nix, Slot.nix, Slot.nix, Slot.nix, Slot.nix, Slot.nix, Slot.nix, Slot.nix, Slot.nix, Slot.nix, Slot.nix, Slot.nix, Slot.nix, Slot.val (Val.one (Cell.dat ((Ty.int IntKind.i64).pair (Ty.str.pair (((Ty.int IntKind.i64).pair ((Ty.int IntKind.i64).pair Ty.str)).slice.pair ((Ty.int IntKind.i64).pair ((Ty.int IntKind.i64).pair Ty.str)).slice))).slice y3)), Slot.val (Val.one (Cell.dat (Ty.int IntKind.i64) y4)), Slot.val (Val.one (Cell.dat (Ty.int IntKind.i64) y5)), Slot.nix, Slot.nix, Slot.nix, Slot.nix, Slot.nix, Slot.nix, Slot.nix, Slot.nix, Slot.nix, Slot.nix, Slot.nix, Slot.nix, Slot.nix, Slot.nix, Slot.nix, Slot.nix, Slot.nix, Slot.nix, Slot.nix, Slot.nix, Slot.nix, Slot.nix, Slot.nix, Slot.nix, Slot.nix, Slot.nix, Slot.nix, Slot.nix, Slot.nix, Slot.nix, Slot.nix, Slot.nix, Slot.nix, Slot.nix, Slot.nix, Slot.nix, Slot.nix, Slot.nix, Slot.nix, Slot.nix, Slot.nix, Slot.nix, Slot.nix] [AObj.row Ty.str y6 true])
theorem f52_L0_step (n m0 : Nat) (y0 : ByteArray) (y1 : Int) (y2 : List (Int × Int × ByteArray)) (y3 : List (Int × ByteArray × List (Int × Int × ByteArray) × List (Int × Int × ByteArray))) (y4 : Int) (y5 : Int) (y6 : List ByteArray) : f52_L0 n (m0 + 1) y0 y1 y2 y3 y4 y5 y6 = bif decide (y5 < y4) then chk (decide ((0 : Int) ≤ y5) && decide (y5 < (↑y3.length : Int))) (bif !(y3.getD y5.toNat ((0 : Int), ByteArray.mk #[], [], [])).2.1.toList == y0.toList then f52_L0 n m0 y0 y1 y2 y3 y4 (IntKind.i64.wrap (y5 + (1 : Int))) y6 else bif decide ((↑(y3.getD y5.toNat ((0 : Int), ByteArray.mk #[], [], [])).2.2.2.length : Int) < (↑y2.length : Int)) then f52_L0 n m0 y0 y1 y2 y3 y4 (IntKind.i64.wrap (y5 + (1 : Int))) y6 else chk (decide ((0 : Int) ≤ (↑y2.length : Int)) && decide ((↑y2.length : Int) ≤ (↑(y3.getD y5.toNat ((0 : Int), ByteArray.mk #[], [], [])).2.2.2.length : Int))) (bif !Sp.eqW Sp.sameV (List.take ((↑y2.length : Int).toNat - (0 : Nat)) (List.drop (0 : Nat) (y3.getD y5.toNat ((0 : Int), ByteArray.mk #[], [], [])).2.2.2)) y2 then f52_L0 n m0 y0 y1 y2 y3 y4 (IntKind.i64.wrap (y5 + (1 : Int))) y6 else bif !(Sp.f70 y1 (0 : Int) (IntKind.i64.wrap ((↑(y3.getD y5.toNat ((0 : Int), ByteArray.mk #[], [], [])).2.2.2.length : Int) - (1 : Int)))).1 then some (Res.mk [XV.mk false [X.c (X0.row Ty.str [] true)], XV.mk false [X.c (X0.dat (Ty.int IntKind.i64) (4 : Int))]] []) else chk (decide ((0 : Int) ≤ y1) && decide (y1 < (↑(y3.getD y5.toNat ((0 : Int), ByteArray.mk #[], [], [])).2.2.2.length : Int))) (chk (decide ((y6.length + [((y3.getD y5.toNat ((0 : Int), ByteArray.mk #[], [], [])).2.2.2.getD y1.toNat ((0 : Int), (0 : Int), ByteArray.mk #[])).2.2].length) * (16 : Nat) ≤ (140737488355328 : Nat))) (f52_L0 n m0 y0 y1 y2 y3 y4 (IntKind.i64.wrap (y5 + (1 : Int))) (y6 ++ [((y3.getD y5.toNat ((0 : Int), ByteArray.mk #[], [], [])).2.2.2.getD y1.toNat ((0 : Int), (0 : Int), ByteArray.mk #[])).2.2]))))) else some (Res.mk [XV.mk false [X.c (X0.row Ty.str y6 true)], XV.mk false [X.c (X0.dat (Ty.int IntKind.i64) (0 : Int))]] []) := by kernel_rfl
theorem f52_raw (n : Nat) (x0 : List (Int × ByteArray × List (Int × Int × ByteArray) × List (Int × Int × ByteArray))) (x1 : ByteArray) (x2 : Int) (x3 : List (Int × Int × ByteArray)) : abody Γ (orc [e69, e90, e70]) n 52 [XV.mk false [X.c (X0.dat ((Ty.int IntKind.i64).pair (Ty.str.pair (((Ty.int IntKind.i64).pair ((Ty.int IntKind.i64).pair Ty.str)).slice.pair ((Ty.int IntKind.i64).pair ((Ty.int IntKind.i64).pair Ty.str)).slice))).slice x0)], XV.mk false [X.c (X0.dat Ty.str x1)], XV.mk false [X.c (X0.dat (Ty.int IntKind.i64) x2)], XV.mk false [X.c (X0.dat ((Ty.int IntKind.i64).pair ((Ty.int IntKind.i64).pair Ty.str)).slice x3)]] = bif decide ((↑x0.length : Int) > (4096 : Int)) then some (Res.mk [XV.mk false [X.c (X0.row Ty.str [] true)], XV.mk false [X.c (X0.dat (Ty.int IntKind.i64) (2 : Int))]] []) else bif (Sp.f69 [x1]).1 then some (Res.mk [XV.mk false [X.c (X0.row Ty.str [] true)], XV.mk false [X.c (X0.dat (Ty.int IntKind.i64) (2 : Int))]] []) else bif decide ((↑x3.length : Int) > (4096 : Int)) then some (Res.mk [XV.mk false [X.c (X0.row Ty.str [] true)], XV.mk false [X.c (X0.dat (Ty.int IntKind.i64) (2 : Int))]] []) else f52_L0 n n x1 x2 x3 x0 (↑x0.length : Int) (0 : Int) [] := by kernel_rfl

noncomputable def e52 : Ent := { f := 52, ins := [Sh.one (C0.dat (.slice tC)), Sh.one cS, Sh.one cI, Sh.one (C0.dat (.slice tV))], outs := [Sh.one (C0.row .str), Sh.one cI], upd := [], pre := fun a => true, spec := fun a => Sp.h52 a.1 a.2.1 a.2.2.1 a.2.2.2, wrt := fun _ => () }
theorem e52_core (xs : List VC) (t : ByteArray) (col : Int) (key : List V3) (hn : ∀ x ∈ xs, x.2.2.2.length ≤ 9223372036854775807) : ∃ n, abody Γ (orc [e69, e90, e70]) n 52 [XV.mk false [X.c (X0.dat (Ty.slice tC) xs)], XV.mk false [X.c (X0.dat Ty.str t)], XV.mk false [X.c (X0.dat (Ty.int IntKind.i64) col)], XV.mk false [X.c (X0.dat (Ty.slice tV) key)]] = some (rH (Sp.h52 xs t col key)) := by
  refine ⟨xs.length + 1, (f52_raw _ xs t col key).trans ?_⟩
  unfold Sp.h52
  by_cases h2 : (xs.length : Int) > 4096
  · rw [decide_eq_true h2]; rfl
  · rw [decide_eq_false h2, cond_false, cond_false]
    show (bif (Sp.f69 [t]).1 then _ else _) = _
    cases (Sp.f69 [t]).1 with
    | true => rfl
    | false =>
      rw [cond_false, cond_false]
      cases decide ((key.length : Int) > 4096) with
      | true => rfl
      | false =>
        rw [cond_false, cond_false]
        refine hist_loop (q := Sp.eqW Sp.sameV) t col key xs (by omega) (fun m k out => f52_L0 (xs.length + 1) m t col key xs xs.length k out) (fun m k out hk => ?_) (fun m k out h ho => ?_) xs.length 0 _ [] (Nat.zero_add _) (Nat.zero_le _) (Nat.lt_succ_self _)
        · show f52_L0 _ _ _ _ _ _ _ _ _ = _
          rw [f52_L0_step, nat_ge hk, cond_false]
        · show f52_L0 _ _ _ _ _ _ _ _ _ = _
          rw [f52_L0_step, nat_lt h, cond_true, guard0, chkT, getD_nat xs k _ h, next64 h (by omega), Int.toNat_natCast, Nat.sub_zero, List.drop_zero]
          exact hist_step xs[k] t col key out (!Sp.eqW Sp.sameV (xs[k].2.2.2.take key.length) key) _ _ _ (fun o => f52_L0 _ _ _ _ _ _ _ _ o) (fun h => within_hasL h col) (hn _ (List.getElem_mem h)) ho
theorem e52_ok : Valid Try.prog Γ e52 := valid_len ok (vcons e69_ok (vcons e90_ok (vcons e70_ok vnil))) fun a _ hl => e52_core a.1 a.2.1 a.2.2.1 a.2.2.2 fun x hx => ((hl _ (List.mem_cons_self) _ (List.mem_cons_self)).2 x hx).2.2.2.1
def Sp.szC (x : VC) (l : Int) : Int := (Sp.f35 x.1 x.2.1 x.2.2.1 x.2.2.2 l).1
def Sp.eqC (x y : VC) : Bool := (Sp.f41 x.1 x.2.1 x.2.2.1 x.2.2.2 y.1 y.2.1 y.2.2.1 y.2.2.2).1
def Sp.okC (x : VC) : Bool := Sp.f38_pre x.1 x.2.1 x.2.2.1 x.2.2.2
noncomputable def f47_L0 (n m0 : Nat) (y0 : List (Int × ByteArray × List (Int × Int × ByteArray) × List (Int × Int × ByteArray))) (y1 : Int) (y2 : Int) : Option Res := loopAt Γ (orc [e35]) n (47 : Nat) (0 : Nat) [] [Pth.r, Pth.r, Pth.r, Pth.l, Pth.r, Pth.b] m0 (St.mk [Slot.val (Val.one (Cell.dat ((Ty.int IntKind.i64).pair (Ty.str.pair (((Ty.int IntKind.i64).pair ((Ty.int IntKind.i64).pair Ty.str)).slice.pair ((Ty.int IntKind.i64).pair ((Ty.int IntKind.i64).pair Ty.str)).slice))).slice y0)), Slot.val (Val.one (Cell.dat (Ty.int IntKind.i64) y1)), Slot.nix, Slot.nix, Slot.nix, Slot.val (Val.one (Cell.dat (Ty.int IntKind.i64) y2)), Slot.nix, Slot.nix, Slot.nix, Slot.nix, Slot.nix, Slot.nix, Slot.nix, Slot.nix, Slot.nix, Slot.nix, Slot.nix, Slot.nix, Slot.nix, Slot.nix, Slot.nix, Slot.nix, Slot.nix, Slot.nix, Slot.nix, Slot.nix, Slot.nix] [])
theorem f47_L0_step (n m0 : Nat) (y0 : List (Int × ByteArray × List (Int × Int × ByteArray) × List (Int × Int × ByteArray))) (y1 : Int) (y2 : Int) : f47_L0 n (m0 + 1) y0 y1 y2 = bif decide (y2 < (↑y0.length : Int)) then chk (decide ((0 : Int) ≤ y2) && decide (y2 < (↑y0.length : Int))) (bif decide ((Sp.f35 (y0.getD y2.toNat ((0 : Int), ByteArray.mk #[], [], [])).1 (y0.getD y2.toNat ((0 : Int), ByteArray.mk #[], [], [])).2.1 (y0.getD y2.toNat ((0 : Int), ByteArray.mk #[], [], [])).2.2.1 (y0.getD y2.toNat ((0 : Int), ByteArray.mk #[], [], [])).2.2.2 y1).1 < (0 : Int)) then some (Res.mk [XV.mk false [X.c (X0.dat (Ty.int IntKind.i64) (-1 : Int))]] []) else f47_L0 n m0 y0 (Sp.f35 (y0.getD y2.toNat ((0 : Int), ByteArray.mk #[], [], [])).1 (y0.getD y2.toNat ((0 : Int), ByteArray.mk #[], [], [])).2.1 (y0.getD y2.toNat ((0 : Int), ByteArray.mk #[], [], [])).2.2.1 (y0.getD y2.toNat ((0 : Int), ByteArray.mk #[], [], [])).2.2.2 y1).1 (IntKind.i64.wrap (y2 + (1 : Int)))) else some (Res.mk [XV.mk false [X.c (X0.dat (Ty.int IntKind.i64) y1)]] []) := by kernel_rfl
theorem f47_raw (n : Nat) (x0 : List (Int × ByteArray × List (Int × Int × ByteArray) × List (Int × Int × ByteArray))) (x1 : Int) : abody Γ (orc [e35]) n 47 [XV.mk false [X.c (X0.dat ((Ty.int IntKind.i64).pair (Ty.str.pair (((Ty.int IntKind.i64).pair ((Ty.int IntKind.i64).pair Ty.str)).slice.pair ((Ty.int IntKind.i64).pair ((Ty.int IntKind.i64).pair Ty.str)).slice))).slice x0)], XV.mk false [X.c (X0.dat (Ty.int IntKind.i64) x1)]] = bif decide (IntKind.i64.wrap (x1 - (↑x0.length : Int)) < (0 : Int)) then some (Res.mk [XV.mk false [X.c (X0.dat (Ty.int IntKind.i64) (-1 : Int))]] []) else f47_L0 n n x0 (IntKind.i64.wrap (x1 - (↑x0.length : Int))) (0 : Int) := by kernel_rfl

noncomputable def e47 : Ent := { f := 47, ins := [Sh.one (C0.dat (.slice tC)), Sh.one cI], outs := [Sh.one cI], upd := [], pre := fun a => true, spec := fun a => Sp.szE Sp.szC a.1 a.2, wrt := fun _ => () }
theorem e47_core (xs : List VC) (v : Int) (hl : xs.length ≤ maxLen) : ∃ n, abody Γ (orc [e35]) n 47 [XV.mk false [X.c (X0.dat (Ty.slice tC) xs)], XV.mk false [X.c (X0.dat (Ty.int IntKind.i64) v)]] = some (rI (Sp.szE Sp.szC xs v)) := by
  have hl : xs.length ≤ 9223372036854775807 := hl
  refine ⟨xs.length + 1, (f47_raw _ xs v).trans ?_⟩
  unfold Sp.szE
  cases decide (IntKind.i64.wrap (v - (xs.length : Int)) < 0) with
  | true => rfl
  | false =>
    rw [cond_false, cond_false]
    refine sz_loop (f := Sp.szC) (R := rI) xs (fun m v k => f47_L0 (xs.length + 1) m xs v k) (fun m v k hk => ?_) (fun m v k h => ?_) xs.length 0 _ _ (Nat.zero_add _) (Nat.lt_succ_self _)
    · show f47_L0 _ _ _ _ _ = _
      rw [f47_L0_step, nat_ge hk, cond_false]
    · show f47_L0 _ _ _ _ _ = _
      rw [f47_L0_step, nat_lt h, cond_true, guard0, chkT, getD_nat xs k _ h, next64 h hl]
      rfl
theorem e47_ok : Valid Try.prog Γ e47 := valid_len ok (vcons e35_ok vnil) fun a _ hl => e47_core a.1 a.2 (hl _ (List.mem_cons_self) _ (List.mem_cons_self)).1
def Sp.fitsC (xs : List VC) : Bool := yes2 (Sp.fits32 xs) (Sp.allW Sp.okC xs)
theorem make72 {n : Nat} (h : n ≤ 1000000000000) : (decide ((0 : Int) ≤ (n : Int)) && decide ((n : Int) ≤ (n : Int)) && decide ((n : Int) ≤ (140737488355328 : Int)) && decide ((72 : Int) * (n : Int) ≤ (140737488355328 : Int))) = true := by
  rw [decide_eq_true (show (0 : Int) ≤ n by omega), decide_eq_true (Int.le_refl (n : Int)), decide_eq_true (show (n : Int) ≤ 140737488355328 by omega), decide_eq_true (show 72 * (n : Int) ≤ 140737488355328 by omega)]
  rfl
noncomputable def f50_L0 (n m0 : Nat) (y0 : List (Int × ByteArray × List (Int × Int × ByteArray) × List (Int × Int × ByteArray))) (y1 : Int) (y2 : List (Int × ByteArray × List (Int × Int × ByteArray) × List (Int × Int × ByteArray))) : Option Res := loopAt Γ (orc [e38]) n (50 : Nat) (0 : Nat) [] [Pth.r, Pth.r, Pth.l, Pth.r, Pth.b] m0 (St.mk [Slot.val (Val.one (Cell.dat ((Ty.int IntKind.i64).pair (Ty.str.pair (((Ty.int IntKind.i64).pair ((Ty.int IntKind.i64).pair Ty.str)).slice.pair ((Ty.int IntKind.i64).pair ((Ty.int IntKind.i64).pair Ty.str)).slice))).slice y0)), Slot.nix, Slot.nix, Slot.val (Val.one (Cell.own (0 : Nat))), Slot.val (Val.one (Cell.dat (Ty.int IntKind.i64) y1)), Slot.nix, Slot.nix, Slot.nix, Slot.nix, Slot.nix, Slot.nix, Slot.nix, Slot.nix, Slot.nix, Slot.nix, Slot.nix, Slot.nix, Slot.nix, Slot.nix, Slot.nix, Slot.nix, Slot.nix, Slot.nix] [AObj.row ((Ty.int IntKind.i64).pair (Ty.str.pair (((Ty.int IntKind.i64).pair ((Ty.int IntKind.i64).pair Ty.str)).slice.pair ((Ty.int IntKind.i64).pair ((Ty.int IntKind.i64).pair Ty.str)).slice))) y2 true])
theorem f50_L0_step (n m0 : Nat) (y0 : List (Int × ByteArray × List (Int × Int × ByteArray) × List (Int × Int × ByteArray))) (y1 : Int) (y2 : List (Int × ByteArray × List (Int × Int × ByteArray) × List (Int × Int × ByteArray))) : f50_L0 n (m0 + 1) y0 y1 y2 = bif decide (y1 < (↑y0.length : Int)) then chk (decide ((0 : Int) ≤ y1) && decide (y1 < (↑y0.length : Int))) (chk (Sp.f38_pre (y0.getD y1.toNat ((0 : Int), ByteArray.mk #[], [], [])).1 (y0.getD y1.toNat ((0 : Int), ByteArray.mk #[], [], [])).2.1 (y0.getD y1.toNat ((0 : Int), ByteArray.mk #[], [], [])).2.2.1 (y0.getD y1.toNat ((0 : Int), ByteArray.mk #[], [], [])).2.2.2) (chk (decide ((0 : Int) ≤ y1) && decide (y1 < (↑y2.length : Int))) (f50_L0 n m0 y0 (IntKind.i64.wrap (y1 + (1 : Int))) (y2.set y1.toNat ((Sp.f38 (y0.getD y1.toNat ((0 : Int), ByteArray.mk #[], [], [])).1 (y0.getD y1.toNat ((0 : Int), ByteArray.mk #[], [], [])).2.1 (y0.getD y1.toNat ((0 : Int), ByteArray.mk #[], [], [])).2.2.1 (y0.getD y1.toNat ((0 : Int), ByteArray.mk #[], [], [])).2.2.2).1.1, (Sp.f38 (y0.getD y1.toNat ((0 : Int), ByteArray.mk #[], [], [])).1 (y0.getD y1.toNat ((0 : Int), ByteArray.mk #[], [], [])).2.1 (y0.getD y1.toNat ((0 : Int), ByteArray.mk #[], [], [])).2.2.1 (y0.getD y1.toNat ((0 : Int), ByteArray.mk #[], [], [])).2.2.2).1.2.1, (Sp.f38 (y0.getD y1.toNat ((0 : Int), ByteArray.mk #[], [], [])).1 (y0.getD y1.toNat ((0 : Int), ByteArray.mk #[], [], [])).2.1 (y0.getD y1.toNat ((0 : Int), ByteArray.mk #[], [], [])).2.2.1 (y0.getD y1.toNat ((0 : Int), ByteArray.mk #[], [], [])).2.2.2).1.2.2.1, (Sp.f38 (y0.getD y1.toNat ((0 : Int), ByteArray.mk #[], [], [])).1 (y0.getD y1.toNat ((0 : Int), ByteArray.mk #[], [], [])).2.1 (y0.getD y1.toNat ((0 : Int), ByteArray.mk #[], [], [])).2.2.1 (y0.getD y1.toNat ((0 : Int), ByteArray.mk #[], [], [])).2.2.2).1.2.2.2))))) else some (Res.mk [XV.mk false [X.c (X0.row ((Ty.int IntKind.i64).pair (Ty.str.pair (((Ty.int IntKind.i64).pair ((Ty.int IntKind.i64).pair Ty.str)).slice.pair ((Ty.int IntKind.i64).pair ((Ty.int IntKind.i64).pair Ty.str)).slice))) y2 true)]] []) := by kernel_rfl
theorem f50_raw (n : Nat) (x0 : List (Int × ByteArray × List (Int × Int × ByteArray) × List (Int × Int × ByteArray))) : abody Γ (orc [e38]) n 50 [XV.mk false [X.c (X0.dat ((Ty.int IntKind.i64).pair (Ty.str.pair (((Ty.int IntKind.i64).pair ((Ty.int IntKind.i64).pair Ty.str)).slice.pair ((Ty.int IntKind.i64).pair ((Ty.int IntKind.i64).pair Ty.str)).slice))).slice x0)]] = chk (decide ((0 : Int) ≤ (↑x0.length : Int)) && decide ((↑x0.length : Int) ≤ (↑x0.length : Int)) && decide ((↑x0.length : Int) ≤ (140737488355328 : Int)) && decide ((72 : Int) * (↑x0.length : Int) ≤ (140737488355328 : Int))) (f50_L0 n n x0 (0 : Int) (List.replicate (↑x0.length : Int).toNat ((0 : Int), ByteArray.empty, [], []))) := by kernel_rfl

noncomputable def e50 : Ent := { f := 50, ins := [Sh.one (C0.dat (.slice tC))], outs := [Sh.one (C0.row tC)], upd := [], pre := fun a => Sp.fitsC a, spec := fun a => a, wrt := fun _ => () }
theorem e50_core (xs : List VC) (ha : Sp.fitsC xs = true) : ∃ n, abody Γ (orc [e38]) n 50 [XV.mk false [X.c (X0.dat (Ty.slice tC) xs)]] = some (Res.mk [XV.mk false [X.c (X0.row tC xs true)]] []) := by
  obtain ⟨h1, h2⟩ := yes2_true ha
  have h1 := fits32_of h1
  have h2 := allW_mem.1 h2
  refine ⟨xs.length + 1, (f50_raw _ xs).trans ?_⟩
  rw [make72 h1, chkT]
  refine to_end (R := fun l : List VC => Res.mk [XV.mk false [X.c (X0.row tC l true)]] []) xs (fun m k acc => f50_L0 (xs.length + 1) m xs k acc) (fun m k acc hk => ?_) (fun m k acc h ha => ?_) _
  · show f50_L0 _ _ _ _ _ = _
    rw [f50_L0_step, nat_ge hk, cond_false]
  · show f50_L0 _ _ _ _ _ = _
    have h3 : Sp.f38_pre xs[k].1 xs[k].2.1 xs[k].2.2.1 xs[k].2.2.2 = true := h2 _ (List.getElem_mem h)
    rw [f50_L0_step, ha, nat_lt h, cond_true, guard0, chkT, getD_nat xs k _ h, h3, chkT, chkT, next64 h (by omega), Int.toNat_natCast]
    rfl
theorem e50_ok : Valid Try.prog Γ e50 := valid_of ok (vcons e38_ok vnil) fun a ha => e50_core a ha
noncomputable def f53_L0 (n m0 : Nat) (y0 : List (Int × ByteArray × List (Int × Int × ByteArray) × List (Int × Int × ByteArray))) (y1 : List (Int × ByteArray × List (Int × Int × ByteArray) × List (Int × Int × ByteArray))) (y2 : Int) : Option Res := loopAt Γ (orc [e41]) n (53 : Nat) (0 : Nat) [] [Pth.r, Pth.r, Pth.l, Pth.r, Pth.b] m0 (St.mk [Slot.val (Val.one (Cell.dat ((Ty.int IntKind.i64).pair (Ty.str.pair (((Ty.int IntKind.i64).pair ((Ty.int IntKind.i64).pair Ty.str)).slice.pair ((Ty.int IntKind.i64).pair ((Ty.int IntKind.i64).pair Ty.str)).slice))).slice y0)), Slot.val (Val.one (Cell.dat ((Ty.int IntKind.i64).pair (Ty.str.pair (((Ty.int IntKind.i64).pair ((Ty.int IntKind.i64).pair Ty.str)).slice.pair ((Ty.int IntKind.i64).pair ((Ty.int IntKind.i64).pair Ty.str)).slice))).slice y1)), Slot.nix, Slot.nix, Slot.nix, Slot.val (Val.one (Cell.dat (Ty.int IntKind.i64) y2)), Slot.nix, Slot.nix, Slot.nix, Slot.nix, Slot.nix, Slot.nix, Slot.nix, Slot.nix, Slot.nix, Slot.nix, Slot.nix, Slot.nix, Slot.nix, Slot.nix, Slot.nix, Slot.nix, Slot.nix, Slot.nix, Slot.nix, Slot.nix, Slot.nix] [])
theorem f53_L0_step (n m0 : Nat) (y0 : List (Int × ByteArray × List (Int × Int × ByteArray) × List (Int × Int × ByteArray))) (y1 : List (Int × ByteArray × List (Int × Int × ByteArray) × List (Int × Int × ByteArray))) (y2 : Int) : f53_L0 n (m0 + 1) y0 y1 y2 = bif decide (y2 < (↑y0.length : Int)) then chk (decide ((0 : Int) ≤ y2) && decide (y2 < (↑y0.length : Int))) (chk (decide ((0 : Int) ≤ y2) && decide (y2 < (↑y1.length : Int))) (bif !(Sp.f41 (y0.getD y2.toNat ((0 : Int), ByteArray.mk #[], [], [])).1 (y0.getD y2.toNat ((0 : Int), ByteArray.mk #[], [], [])).2.1 (y0.getD y2.toNat ((0 : Int), ByteArray.mk #[], [], [])).2.2.1 (y0.getD y2.toNat ((0 : Int), ByteArray.mk #[], [], [])).2.2.2 (y1.getD y2.toNat ((0 : Int), ByteArray.mk #[], [], [])).1 (y1.getD y2.toNat ((0 : Int), ByteArray.mk #[], [], [])).2.1 (y1.getD y2.toNat ((0 : Int), ByteArray.mk #[], [], [])).2.2.1 (y1.getD y2.toNat ((0 : Int), ByteArray.mk #[], [], [])).2.2.2).1 then some (Res.mk [XV.mk false [X.c (X0.dat Ty.bool false)]] []) else f53_L0 n m0 y0 y1 (IntKind.i64.wrap (y2 + (1 : Int))))) else some (Res.mk [XV.mk false [X.c (X0.dat Ty.bool true)]] []) := by kernel_rfl
theorem f53_raw (n : Nat) (x0 : List (Int × ByteArray × List (Int × Int × ByteArray) × List (Int × Int × ByteArray))) (x1 : List (Int × ByteArray × List (Int × Int × ByteArray) × List (Int × Int × ByteArray))) : abody Γ (orc [e41]) n 53 [XV.mk false [X.c (X0.dat ((Ty.int IntKind.i64).pair (Ty.str.pair (((Ty.int IntKind.i64).pair ((Ty.int IntKind.i64).pair Ty.str)).slice.pair ((Ty.int IntKind.i64).pair ((Ty.int IntKind.i64).pair Ty.str)).slice))).slice x0)], XV.mk false [X.c (X0.dat ((Ty.int IntKind.i64).pair (Ty.str.pair (((Ty.int IntKind.i64).pair ((Ty.int IntKind.i64).pair Ty.str)).slice.pair ((Ty.int IntKind.i64).pair ((Ty.int IntKind.i64).pair Ty.str)).slice))).slice x1)]] = bif (↑x0.length : Int) != (↑x1.length : Int) then some (Res.mk [XV.mk false [X.c (X0.dat Ty.bool false)]] []) else f53_L0 n n x0 x1 (0 : Int) := by kernel_rfl

noncomputable def e53 : Ent := { f := 53, ins := [Sh.one (C0.dat (.slice tC)), Sh.one (C0.dat (.slice tC))], outs := [Sh.one cB], upd := [], pre := fun a => true, spec := fun a => Sp.eqW Sp.eqC a.1 a.2, wrt := fun _ => () }
theorem e53_core (xs ys : List VC) (h1 : xs.length ≤ maxLen) : ∃ n, abody Γ (orc [e41]) n 53 [XV.mk false [X.c (X0.dat (Ty.slice tC) xs)], XV.mk false [X.c (X0.dat (Ty.slice tC) ys)]] = some (rBo (Sp.eqW Sp.eqC xs ys)) := by
  have h1 : xs.length ≤ 9223372036854775807 := h1
  refine ⟨xs.length + 1, (f53_raw _ xs ys).trans ?_⟩
  by_cases he : xs.length = ys.length
  · rw [show ((xs.length : Int) != (ys.length : Int)) = false by simp [he], cond_false]
    refine eq_loop xs ys (fun m k => f53_L0 _ m xs ys k) he (fun m k hk => ?_) (fun m k h h2 => ?_) xs.length 0 _ (Nat.zero_add _) (Nat.lt_succ_self _)
    · show f53_L0 _ _ _ _ _ = _
      rw [f53_L0_step, nat_ge hk, cond_false]
    · show f53_L0 _ _ _ _ _ = _
      rw [f53_L0_step, nat_lt h, cond_true, guard0, chkT, guard2 h2, chkT, getD_nat xs k _ h, getD_nat ys k _ h2, next64 h2 (by omega)]
      rfl
  · rw [show ((xs.length : Int) != (ys.length : Int)) = true by simp; omega, eqW_len he]
    rfl
theorem e53_ok : Valid Try.prog Γ e53 := valid_len ok (vcons e41_ok vnil) fun a _ hl => e53_core a.1 a.2 (hl _ (List.mem_cons_self) _ (List.mem_cons_self)).1
def Sp.markC (x : VC) (k : Int) : VC := (k, Sp.mText (k + 1), Sp.markW Sp.markV 3 x.2.2.1 (k + 2), Sp.markW Sp.markV 3 x.2.2.2 (Sp.addW 3 x.2.2.1 (k + 2)))
def Sp.wtC (x : VC) : Nat := 2 + 3 * (x.2.2.1.length + x.2.2.2.length)
noncomputable def f54_L0 (n m0 : Nat) (y0 : Int) (y1 : Int) (y2 : List (Int × ByteArray × List (Int × Int × ByteArray) × List (Int × Int × ByteArray))) : Option Res := loopAt Γ (orc [e75, e45]) n (54 : Nat) (1 : Nat) [(0 : Nat)] [Pth.r, Pth.l, Pth.r, Pth.b] m0 (St.mk [Slot.val (Val.one (Cell.own (0 : Nat))), Slot.val (Val.one (Cell.dat (Ty.int IntKind.i64) y0)), Slot.nix, Slot.nix, Slot.nix, Slot.val (Val.one (Cell.dat (Ty.int IntKind.i64) y1)), Slot.nix, Slot.nix, Slot.nix, Slot.nix, Slot.nix, Slot.nix, Slot.nix, Slot.nix, Slot.nix, Slot.nix, Slot.nix, Slot.nix, Slot.nix, Slot.nix, Slot.nix, Slot.nix, Slot.nix, Slot.nix, Slot.nix, Slot.nix, Slot.nix, Slot.nix, Slot.nix, Slot.nix, Slot.nix, Slot.nix, Slot.nix, Slot.nix, Slot.nix, Slot.nix, Slot.nix, Slot.nix, Slot.nix, Slot.nix, Slot.nix, Slot.nix] [AObj.row ((Ty.int IntKind.i64).pair (Ty.str.pair (((Ty.int IntKind.i64).pair ((Ty.int IntKind.i64).pair Ty.str)).slice.pair ((Ty.int IntKind.i64).pair ((Ty.int IntKind.i64).pair Ty.str)).slice))) y2 true])
theorem f54_L0_step (n m0 : Nat) (y0 : Int) (y1 : Int) (y2 : List (Int × ByteArray × List (Int × Int × ByteArray) × List (Int × Int × ByteArray))) : f54_L0 n (m0 + 1) y0 y1 y2 = bif decide (y1 < (↑y2.length : Int)) then chk (decide ((0 : Int) ≤ y1) && decide (y1 < (↑y2.length : Int))) (chk (Sp.mOK (IntKind.i64.wrap (y0 + (1 : Int)))) (chk (decide ((0 : Int) ≤ y1) && decide (y1 < (↑(y2.set y1.toNat (y0, (y2.getD y1.toNat ((0 : Int), ByteArray.mk #[], [], [])).2)).length : Int))) (chk (decide ((0 : Int) ≤ y1) && decide (y1 < (↑((y2.set y1.toNat (y0, (y2.getD y1.toNat ((0 : Int), ByteArray.mk #[], [], [])).2)).set y1.toNat (((y2.set y1.toNat (y0, (y2.getD y1.toNat ((0 : Int), ByteArray.mk #[], [], [])).2)).getD y1.toNat ((0 : Int), ByteArray.mk #[], [], [])).1, Sp.mText (IntKind.i64.wrap (y0 + (1 : Int))), ((y2.set y1.toNat (y0, (y2.getD y1.toNat ((0 : Int), ByteArray.mk #[], [], [])).2)).getD y1.toNat ((0 : Int), ByteArray.mk #[], [], [])).2.2)).length : Int))) (chk (Sp.smallW (3 : Nat) (((y2.set y1.toNat (y0, (y2.getD y1.toNat ((0 : Int), ByteArray.mk #[], [], [])).2)).set y1.toNat (((y2.set y1.toNat (y0, (y2.getD y1.toNat ((0 : Int), ByteArray.mk #[], [], [])).2)).getD y1.toNat ((0 : Int), ByteArray.mk #[], [], [])).1, Sp.mText (IntKind.i64.wrap (y0 + (1 : Int))), ((y2.set y1.toNat (y0, (y2.getD y1.toNat ((0 : Int), ByteArray.mk #[], [], [])).2)).getD y1.toNat ((0 : Int), ByteArray.mk #[], [], [])).2.2)).getD y1.toNat ((0 : Int), ByteArray.mk #[], [], [])).2.2.1 (IntKind.i64.wrap (IntKind.i64.wrap (y0 + (1 : Int)) + (1 : Int)))) (chk (decide ((0 : Int) ≤ y1) && decide (y1 < (↑(((y2.set y1.toNat (y0, (y2.getD y1.toNat ((0 : Int), ByteArray.mk #[], [], [])).2)).set y1.toNat (((y2.set y1.toNat (y0, (y2.getD y1.toNat ((0 : Int), ByteArray.mk #[], [], [])).2)).getD y1.toNat ((0 : Int), ByteArray.mk #[], [], [])).1, Sp.mText (IntKind.i64.wrap (y0 + (1 : Int))), ((y2.set y1.toNat (y0, (y2.getD y1.toNat ((0 : Int), ByteArray.mk #[], [], [])).2)).getD y1.toNat ((0 : Int), ByteArray.mk #[], [], [])).2.2)).set y1.toNat ((((y2.set y1.toNat (y0, (y2.getD y1.toNat ((0 : Int), ByteArray.mk #[], [], [])).2)).set y1.toNat (((y2.set y1.toNat (y0, (y2.getD y1.toNat ((0 : Int), ByteArray.mk #[], [], [])).2)).getD y1.toNat ((0 : Int), ByteArray.mk #[], [], [])).1, Sp.mText (IntKind.i64.wrap (y0 + (1 : Int))), ((y2.set y1.toNat (y0, (y2.getD y1.toNat ((0 : Int), ByteArray.mk #[], [], [])).2)).getD y1.toNat ((0 : Int), ByteArray.mk #[], [], [])).2.2)).getD y1.toNat ((0 : Int), ByteArray.mk #[], [], [])).1, (((y2.set y1.toNat (y0, (y2.getD y1.toNat ((0 : Int), ByteArray.mk #[], [], [])).2)).set y1.toNat (((y2.set y1.toNat (y0, (y2.getD y1.toNat ((0 : Int), ByteArray.mk #[], [], [])).2)).getD y1.toNat ((0 : Int), ByteArray.mk #[], [], [])).1, Sp.mText (IntKind.i64.wrap (y0 + (1 : Int))), ((y2.set y1.toNat (y0, (y2.getD y1.toNat ((0 : Int), ByteArray.mk #[], [], [])).2)).getD y1.toNat ((0 : Int), ByteArray.mk #[], [], [])).2.2)).getD y1.toNat ((0 : Int), ByteArray.mk #[], [], [])).2.1, Sp.markW Sp.markV (3 : Int) (((y2.set y1.toNat (y0, (y2.getD y1.toNat ((0 : Int), ByteArray.mk #[], [], [])).2)).set y1.toNat (((y2.set y1.toNat (y0, (y2.getD y1.toNat ((0 : Int), ByteArray.mk #[], [], [])).2)).getD y1.toNat ((0 : Int), ByteArray.mk #[], [], [])).1, Sp.mText (IntKind.i64.wrap (y0 + (1 : Int))), ((y2.set y1.toNat (y0, (y2.getD y1.toNat ((0 : Int), ByteArray.mk #[], [], [])).2)).getD y1.toNat ((0 : Int), ByteArray.mk #[], [], [])).2.2)).getD y1.toNat ((0 : Int), ByteArray.mk #[], [], [])).2.2.1 (IntKind.i64.wrap (IntKind.i64.wrap (y0 + (1 : Int)) + (1 : Int))), (((y2.set y1.toNat (y0, (y2.getD y1.toNat ((0 : Int), ByteArray.mk #[], [], [])).2)).set y1.toNat (((y2.set y1.toNat (y0, (y2.getD y1.toNat ((0 : Int), ByteArray.mk #[], [], [])).2)).getD y1.toNat ((0 : Int), ByteArray.mk #[], [], [])).1, Sp.mText (IntKind.i64.wrap (y0 + (1 : Int))), ((y2.set y1.toNat (y0, (y2.getD y1.toNat ((0 : Int), ByteArray.mk #[], [], [])).2)).getD y1.toNat ((0 : Int), ByteArray.mk #[], [], [])).2.2)).getD y1.toNat ((0 : Int), ByteArray.mk #[], [], [])).2.2.2)).length : Int))) (chk (Sp.smallW (3 : Nat) ((((y2.set y1.toNat (y0, (y2.getD y1.toNat ((0 : Int), ByteArray.mk #[], [], [])).2)).set y1.toNat (((y2.set y1.toNat (y0, (y2.getD y1.toNat ((0 : Int), ByteArray.mk #[], [], [])).2)).getD y1.toNat ((0 : Int), ByteArray.mk #[], [], [])).1, Sp.mText (IntKind.i64.wrap (y0 + (1 : Int))), ((y2.set y1.toNat (y0, (y2.getD y1.toNat ((0 : Int), ByteArray.mk #[], [], [])).2)).getD y1.toNat ((0 : Int), ByteArray.mk #[], [], [])).2.2)).set y1.toNat ((((y2.set y1.toNat (y0, (y2.getD y1.toNat ((0 : Int), ByteArray.mk #[], [], [])).2)).set y1.toNat (((y2.set y1.toNat (y0, (y2.getD y1.toNat ((0 : Int), ByteArray.mk #[], [], [])).2)).getD y1.toNat ((0 : Int), ByteArray.mk #[], [], [])).1, Sp.mText (IntKind.i64.wrap (y0 + (1 : Int))), ((y2.set y1.toNat (y0, (y2.getD y1.toNat ((0 : Int), ByteArray.mk #[], [], [])).2)).getD y1.toNat ((0 : Int), ByteArray.mk #[], [], [])).2.2)).getD y1.toNat ((0 : Int), ByteArray.mk #[], [], [])).1, (((y2.set y1.toNat (y0, (y2.getD y1.toNat ((0 : Int), ByteArray.mk #[], [], [])).2)).set y1.toNat (((y2.set y1.toNat (y0, (y2.getD y1.toNat ((0 : Int), ByteArray.mk #[], [], [])).2)).getD y1.toNat ((0 : Int), ByteArray.mk #[], [], [])).1, Sp.mText (IntKind.i64.wrap (y0 + (1 : Int))), ((y2.set y1.toNat (y0, (y2.getD y1.toNat ((0 : Int), ByteArray.mk #[], [], [])).2)).getD y1.toNat ((0 : Int), ByteArray.mk #[], [], [])).2.2)).getD y1.toNat ((0 : Int), ByteArray.mk #[], [], [])).2.1, Sp.markW Sp.markV (3 : Int) (((y2.set y1.toNat (y0, (y2.getD y1.toNat ((0 : Int), ByteArray.mk #[], [], [])).2)).set y1.toNat (((y2.set y1.toNat (y0, (y2.getD y1.toNat ((0 : Int), ByteArray.mk #[], [], [])).2)).getD y1.toNat ((0 : Int), ByteArray.mk #[], [], [])).1, Sp.mText (IntKind.i64.wrap (y0 + (1 : Int))), ((y2.set y1.toNat (y0, (y2.getD y1.toNat ((0 : Int), ByteArray.mk #[], [], [])).2)).getD y1.toNat ((0 : Int), ByteArray.mk #[], [], [])).2.2)).getD y1.toNat ((0 : Int), ByteArray.mk #[], [], [])).2.2.1 (IntKind.i64.wrap (IntKind.i64.wrap (y0 + (1 : Int)) + (1 : Int))), (((y2.set y1.toNat (y0, (y2.getD y1.toNat ((0 : Int), ByteArray.mk #[], [], [])).2)).set y1.toNat (((y2.set y1.toNat (y0, (y2.getD y1.toNat ((0 : Int), ByteArray.mk #[], [], [])).2)).getD y1.toNat ((0 : Int), ByteArray.mk #[], [], [])).1, Sp.mText (IntKind.i64.wrap (y0 + (1 : Int))), ((y2.set y1.toNat (y0, (y2.getD y1.toNat ((0 : Int), ByteArray.mk #[], [], [])).2)).getD y1.toNat ((0 : Int), ByteArray.mk #[], [], [])).2.2)).getD y1.toNat ((0 : Int), ByteArray.mk #[], [], [])).2.2.2)).getD y1.toNat ((0 : Int), ByteArray.mk #[], [], [])).2.2.2 (Sp.addW (3 : Int) (((y2.set y1.toNat (y0, (y2.getD y1.toNat ((0 : Int), ByteArray.mk #[], [], [])).2)).set y1.toNat (((y2.set y1.toNat (y0, (y2.getD y1.toNat ((0 : Int), ByteArray.mk #[], [], [])).2)).getD y1.toNat ((0 : Int), ByteArray.mk #[], [], [])).1, Sp.mText (IntKind.i64.wrap (y0 + (1 : Int))), ((y2.set y1.toNat (y0, (y2.getD y1.toNat ((0 : Int), ByteArray.mk #[], [], [])).2)).getD y1.toNat ((0 : Int), ByteArray.mk #[], [], [])).2.2)).getD y1.toNat ((0 : Int), ByteArray.mk #[], [], [])).2.2.1 (IntKind.i64.wrap (IntKind.i64.wrap (y0 + (1 : Int)) + (1 : Int))))) (f54_L0 n m0 (Sp.addW (3 : Int) ((((y2.set y1.toNat (y0, (y2.getD y1.toNat ((0 : Int), ByteArray.mk #[], [], [])).2)).set y1.toNat (((y2.set y1.toNat (y0, (y2.getD y1.toNat ((0 : Int), ByteArray.mk #[], [], [])).2)).getD y1.toNat ((0 : Int), ByteArray.mk #[], [], [])).1, Sp.mText (IntKind.i64.wrap (y0 + (1 : Int))), ((y2.set y1.toNat (y0, (y2.getD y1.toNat ((0 : Int), ByteArray.mk #[], [], [])).2)).getD y1.toNat ((0 : Int), ByteArray.mk #[], [], [])).2.2)).set y1.toNat ((((y2.set y1.toNat (y0, (y2.getD y1.toNat ((0 : Int), ByteArray.mk #[], [], [])).2)).set y1.toNat (((y2.set y1.toNat (y0, (y2.getD y1.toNat ((0 : Int), ByteArray.mk #[], [], [])).2)).getD y1.toNat ((0 : Int), ByteArray.mk #[], [], [])).1, Sp.mText (IntKind.i64.wrap (y0 + (1 : Int))), ((y2.set y1.toNat (y0, (y2.getD y1.toNat ((0 : Int), ByteArray.mk #[], [], [])).2)).getD y1.toNat ((0 : Int), ByteArray.mk #[], [], [])).2.2)).getD y1.toNat ((0 : Int), ByteArray.mk #[], [], [])).1, (((y2.set y1.toNat (y0, (y2.getD y1.toNat ((0 : Int), ByteArray.mk #[], [], [])).2)).set y1.toNat (((y2.set y1.toNat (y0, (y2.getD y1.toNat ((0 : Int), ByteArray.mk #[], [], [])).2)).getD y1.toNat ((0 : Int), ByteArray.mk #[], [], [])).1, Sp.mText (IntKind.i64.wrap (y0 + (1 : Int))), ((y2.set y1.toNat (y0, (y2.getD y1.toNat ((0 : Int), ByteArray.mk #[], [], [])).2)).getD y1.toNat ((0 : Int), ByteArray.mk #[], [], [])).2.2)).getD y1.toNat ((0 : Int), ByteArray.mk #[], [], [])).2.1, Sp.markW Sp.markV (3 : Int) (((y2.set y1.toNat (y0, (y2.getD y1.toNat ((0 : Int), ByteArray.mk #[], [], [])).2)).set y1.toNat (((y2.set y1.toNat (y0, (y2.getD y1.toNat ((0 : Int), ByteArray.mk #[], [], [])).2)).getD y1.toNat ((0 : Int), ByteArray.mk #[], [], [])).1, Sp.mText (IntKind.i64.wrap (y0 + (1 : Int))), ((y2.set y1.toNat (y0, (y2.getD y1.toNat ((0 : Int), ByteArray.mk #[], [], [])).2)).getD y1.toNat ((0 : Int), ByteArray.mk #[], [], [])).2.2)).getD y1.toNat ((0 : Int), ByteArray.mk #[], [], [])).2.2.1 (IntKind.i64.wrap (IntKind.i64.wrap (y0 + (1 : Int)) + (1 : Int))), (((y2.set y1.toNat (y0, (y2.getD y1.toNat ((0 : Int), ByteArray.mk #[], [], [])).2)).set y1.toNat (((y2.set y1.toNat (y0, (y2.getD y1.toNat ((0 : Int), ByteArray.mk #[], [], [])).2)).getD y1.toNat ((0 : Int), ByteArray.mk #[], [], [])).1, Sp.mText (IntKind.i64.wrap (y0 + (1 : Int))), ((y2.set y1.toNat (y0, (y2.getD y1.toNat ((0 : Int), ByteArray.mk #[], [], [])).2)).getD y1.toNat ((0 : Int), ByteArray.mk #[], [], [])).2.2)).getD y1.toNat ((0 : Int), ByteArray.mk #[], [], [])).2.2.2)).getD y1.toNat ((0 : Int), ByteArray.mk #[], [], [])).2.2.2 (Sp.addW (3 : Int) (((y2.set y1.toNat (y0, (y2.getD y1.toNat ((0 : Int), ByteArray.mk #[], [], [])).2)).set y1.toNat (((y2.set y1.toNat (y0, (y2.getD y1.toNat ((0 : Int), ByteArray.mk #[], [], [])).2)).getD y1.toNat ((0 : Int), ByteArray.mk #[], [], [])).1, Sp.mText (IntKind.i64.wrap (y0 + (1 : Int))), ((y2.set y1.toNat (y0, (y2.getD y1.toNat ((0 : Int), ByteArray.mk #[], [], [])).2)).getD y1.toNat ((0 : Int), ByteArray.mk #[], [], [])).2.2)).getD y1.toNat ((0 : Int), ByteArray.mk #[], [], [])).2.2.1 (IntKind.i64.wrap (IntKind.i64.wrap (y0 + (1 : Int)) + (1 : Int))))) (IntKind.i64.wrap (y1 + (1 : Int))) ((((y2.set y1.toNat (y0, (y2.getD y1.toNat ((0 : Int), ByteArray.mk #[], [], [])).2)).set y1.toNat (((y2.set y1.toNat (y0, (y2.getD y1.toNat ((0 : Int), ByteArray.mk #[], [], [])).2)).getD y1.toNat ((0 : Int), ByteArray.mk #[], [], [])).1, Sp.mText (IntKind.i64.wrap (y0 + (1 : Int))), ((y2.set y1.toNat (y0, (y2.getD y1.toNat ((0 : Int), ByteArray.mk #[], [], [])).2)).getD y1.toNat ((0 : Int), ByteArray.mk #[], [], [])).2.2)).set y1.toNat ((((y2.set y1.toNat (y0, (y2.getD y1.toNat ((0 : Int), ByteArray.mk #[], [], [])).2)).set y1.toNat (((y2.set y1.toNat (y0, (y2.getD y1.toNat ((0 : Int), ByteArray.mk #[], [], [])).2)).getD y1.toNat ((0 : Int), ByteArray.mk #[], [], [])).1, Sp.mText (IntKind.i64.wrap (y0 + (1 : Int))), ((y2.set y1.toNat (y0, (y2.getD y1.toNat ((0 : Int), ByteArray.mk #[], [], [])).2)).getD y1.toNat ((0 : Int), ByteArray.mk #[], [], [])).2.2)).getD y1.toNat ((0 : Int), ByteArray.mk #[], [], [])).1, (((y2.set y1.toNat (y0, (y2.getD y1.toNat ((0 : Int), ByteArray.mk #[], [], [])).2)).set y1.toNat (((y2.set y1.toNat (y0, (y2.getD y1.toNat ((0 : Int), ByteArray.mk #[], [], [])).2)).getD y1.toNat ((0 : Int), ByteArray.mk #[], [], [])).1, Sp.mText (IntKind.i64.wrap (y0 + (1 : Int))), ((y2.set y1.toNat (y0, (y2.getD y1.toNat ((0 : Int), ByteArray.mk #[], [], [])).2)).getD y1.toNat ((0 : Int), ByteArray.mk #[], [], [])).2.2)).getD y1.toNat ((0 : Int), ByteArray.mk #[], [], [])).2.1, Sp.markW Sp.markV (3 : Int) (((y2.set y1.toNat (y0, (y2.getD y1.toNat ((0 : Int), ByteArray.mk #[], [], [])).2)).set y1.toNat (((y2.set y1.toNat (y0, (y2.getD y1.toNat ((0 : Int), ByteArray.mk #[], [], [])).2)).getD y1.toNat ((0 : Int), ByteArray.mk #[], [], [])).1, Sp.mText (IntKind.i64.wrap (y0 + (1 : Int))), ((y2.set y1.toNat (y0, (y2.getD y1.toNat ((0 : Int), ByteArray.mk #[], [], [])).2)).getD y1.toNat ((0 : Int), ByteArray.mk #[], [], [])).2.2)).getD y1.toNat ((0 : Int), ByteArray.mk #[], [], [])).2.2.1 (IntKind.i64.wrap (IntKind.i64.wrap (y0 + (1 : Int)) + (1 : Int))), (((y2.set y1.toNat (y0, (y2.getD y1.toNat ((0 : Int), ByteArray.mk #[], [], [])).2)).set y1.toNat (((y2.set y1.toNat (y0, (y2.getD y1.toNat ((0 : Int), ByteArray.mk #[], [], [])).2)).getD y1.toNat ((0 : Int), ByteArray.mk #[], [], [])).1, Sp.mText (IntKind.i64.wrap (y0 + (1 : Int))), ((y2.set y1.toNat (y0, (y2.getD y1.toNat ((0 : Int), ByteArray.mk #[], [], [])).2)).getD y1.toNat ((0 : Int), ByteArray.mk #[], [], [])).2.2)).getD y1.toNat ((0 : Int), ByteArray.mk #[], [], [])).2.2.2)).set y1.toNat (((((y2.set y1.toNat (y0, (y2.getD y1.toNat ((0 : Int), ByteArray.mk #[], [], [])).2)).set y1.toNat (((y2.set y1.toNat (y0, (y2.getD y1.toNat ((0 : Int), ByteArray.mk #[], [], [])).2)).getD y1.toNat ((0 : Int), ByteArray.mk #[], [], [])).1, Sp.mText (IntKind.i64.wrap (y0 + (1 : Int))), ((y2.set y1.toNat (y0, (y2.getD y1.toNat ((0 : Int), ByteArray.mk #[], [], [])).2)).getD y1.toNat ((0 : Int), ByteArray.mk #[], [], [])).2.2)).set y1.toNat ((((y2.set y1.toNat (y0, (y2.getD y1.toNat ((0 : Int), ByteArray.mk #[], [], [])).2)).set y1.toNat (((y2.set y1.toNat (y0, (y2.getD y1.toNat ((0 : Int), ByteArray.mk #[], [], [])).2)).getD y1.toNat ((0 : Int), ByteArray.mk #[], [], [])).1, Sp.mText (IntKind.i64.wrap (y0 + (1 : Int))), ((y2.set y1.toNat (y0, (y2.getD y1.toNat ((0 : Int), ByteArray.mk #[], [], [])).2)).getD y1.toNat ((0 : Int), ByteArray.mk #[], [], [])).2.2)).getD y1.toNat ((0 : Int), ByteArray.mk #[], [], [])).1, (((y2.set y1.toNat (y0, (y2.getD y1.toNat ((0 : Int), ByteArray.mk #[], [], [])).2)).set y1.toNat (((y2.set y1.toNat (y0, (y2.getD y1.toNat ((0 : Int), ByteArray.mk #[], [], [])).2)).getD y1.toNat ((0 : Int), ByteArray.mk #[], [], [])).1, Sp.mText (IntKind.i64.wrap (y0 + (1 : Int))), ((y2.set y1.toNat (y0, (y2.getD y1.toNat ((0 : Int), ByteArray.mk #[], [], [])).2)).getD y1.toNat ((0 : Int), ByteArray.mk #[], [], [])).2.2)).getD y1.toNat ((0 : Int), ByteArray.mk #[], [], [])).2.1, Sp.markW Sp.markV (3 : Int) (((y2.set y1.toNat (y0, (y2.getD y1.toNat ((0 : Int), ByteArray.mk #[], [], [])).2)).set y1.toNat (((y2.set y1.toNat (y0, (y2.getD y1.toNat ((0 : Int), ByteArray.mk #[], [], [])).2)).getD y1.toNat ((0 : Int), ByteArray.mk #[], [], [])).1, Sp.mText (IntKind.i64.wrap (y0 + (1 : Int))), ((y2.set y1.toNat (y0, (y2.getD y1.toNat ((0 : Int), ByteArray.mk #[], [], [])).2)).getD y1.toNat ((0 : Int), ByteArray.mk #[], [], [])).2.2)).getD y1.toNat ((0 : Int), ByteArray.mk #[], [], [])).2.2.1 (IntKind.i64.wrap (IntKind.i64.wrap (y0 + (1 : Int)) + (1 : Int))), (((y2.set y1.toNat (y0, (y2.getD y1.toNat ((0 : Int), ByteArray.mk #[], [], [])).2)).set y1.toNat (((y2.set y1.toNat (y0, (y2.getD y1.toNat ((0 : Int), ByteArray.mk #[], [], [])).2)).getD y1.toNat ((0 : Int), ByteArray.mk #[], [], [])).1, Sp.mText (IntKind.i64.wrap (y0 + (1 : Int))), ((y2.set y1.toNat (y0, (y2.getD y1.toNat ((0 : Int), ByteArray.mk #[], [], [])).2)).getD y1.toNat ((0 : Int), ByteArray.mk #[], [], [])).2.2)).getD y1.toNat ((0 : Int), ByteArray.mk #[], [], [])).2.2.2)).getD y1.toNat ((0 : Int), ByteArray.mk #[], [], [])).1, ((((y2.set y1.toNat (y0, (y2.getD y1.toNat ((0 : Int), ByteArray.mk #[], [], [])).2)).set y1.toNat (((y2.set y1.toNat (y0, (y2.getD y1.toNat ((0 : Int), ByteArray.mk #[], [], [])).2)).getD y1.toNat ((0 : Int), ByteArray.mk #[], [], [])).1, Sp.mText (IntKind.i64.wrap (y0 + (1 : Int))), ((y2.set y1.toNat (y0, (y2.getD y1.toNat ((0 : Int), ByteArray.mk #[], [], [])).2)).getD y1.toNat ((0 : Int), ByteArray.mk #[], [], [])).2.2)).set y1.toNat ((((y2.set y1.toNat (y0, (y2.getD y1.toNat ((0 : Int), ByteArray.mk #[], [], [])).2)).set y1.toNat (((y2.set y1.toNat (y0, (y2.getD y1.toNat ((0 : Int), ByteArray.mk #[], [], [])).2)).getD y1.toNat ((0 : Int), ByteArray.mk #[], [], [])).1, Sp.mText (IntKind.i64.wrap (y0 + (1 : Int))), ((y2.set y1.toNat (y0, (y2.getD y1.toNat ((0 : Int), ByteArray.mk #[], [], [])).2)).getD y1.toNat ((0 : Int), ByteArray.mk #[], [], [])).2.2)).getD y1.toNat ((0 : Int), ByteArray.mk #[], [], [])).1, (((y2.set y1.toNat (y0, (y2.getD y1.toNat ((0 : Int), ByteArray.mk #[], [], [])).2)).set y1.toNat (((y2.set y1.toNat (y0, (y2.getD y1.toNat ((0 : Int), ByteArray.mk #[], [], [])).2)).getD y1.toNat ((0 : Int), ByteArray.mk #[], [], [])).1, Sp.mText (IntKind.i64.wrap (y0 + (1 : Int))), ((y2.set y1.toNat (y0, (y2.getD y1.toNat ((0 : Int), ByteArray.mk #[], [], [])).2)).getD y1.toNat ((0 : Int), ByteArray.mk #[], [], [])).2.2)).getD y1.toNat ((0 : Int), ByteArray.mk #[], [], [])).2.1, Sp.markW Sp.markV (3 : Int) (((y2.set y1.toNat (y0, (y2.getD y1.toNat ((0 : Int), ByteArray.mk #[], [], [])).2)).set y1.toNat (((y2.set y1.toNat (y0, (y2.getD y1.toNat ((0 : Int), ByteArray.mk #[], [], [])).2)).getD y1.toNat ((0 : Int), ByteArray.mk #[], [], [])).1, Sp.mText (IntKind.i64.wrap (y0 + (1 : Int))), ((y2.set y1.toNat (y0, (y2.getD y1.toNat ((0 : Int), ByteArray.mk #[], [], [])).2)).getD y1.toNat ((0 : Int), ByteArray.mk #[], [], [])).2.2)).getD y1.toNat ((0 : Int), ByteArray.mk #[], [], [])).2.2.1 (IntKind.i64.wrap (IntKind.i64.wrap (y0 + (1 : Int)) + (1 : Int))), (((y2.set y1.toNat (y0, (y2.getD y1.toNat ((0 : Int), ByteArray.mk #[], [], [])).2)).set y1.toNat (((y2.set y1.toNat (y0, (y2.getD y1.toNat ((0 : Int), ByteArray.mk #[], [], [])).2)).getD y1.toNat ((0 : Int), ByteArray.mk #[], [], [])).1, Sp.mText (IntKind.i64.wrap (y0 + (1 : Int))), ((y2.set y1.toNat (y0, (y2.getD y1.toNat ((0 : Int), ByteArray.mk #[], [], [])).2)).getD y1.toNat ((0 : Int), ByteArray.mk #[], [], [])).2.2)).getD y1.toNat ((0 : Int), ByteArray.mk #[], [], [])).2.2.2)).getD y1.toNat ((0 : Int), ByteArray.mk #[], [], [])).2.1, ((((y2.set y1.toNat (y0, (y2.getD y1.toNat ((0 : Int), ByteArray.mk #[], [], [])).2)).set y1.toNat (((y2.set y1.toNat (y0, (y2.getD y1.toNat ((0 : Int), ByteArray.mk #[], [], [])).2)).getD y1.toNat ((0 : Int), ByteArray.mk #[], [], [])).1, Sp.mText (IntKind.i64.wrap (y0 + (1 : Int))), ((y2.set y1.toNat (y0, (y2.getD y1.toNat ((0 : Int), ByteArray.mk #[], [], [])).2)).getD y1.toNat ((0 : Int), ByteArray.mk #[], [], [])).2.2)).set y1.toNat ((((y2.set y1.toNat (y0, (y2.getD y1.toNat ((0 : Int), ByteArray.mk #[], [], [])).2)).set y1.toNat (((y2.set y1.toNat (y0, (y2.getD y1.toNat ((0 : Int), ByteArray.mk #[], [], [])).2)).getD y1.toNat ((0 : Int), ByteArray.mk #[], [], [])).1, Sp.mText (IntKind.i64.wrap (y0 + (1 : Int))), ((y2.set y1.toNat (y0, (y2.getD y1.toNat ((0 : Int), ByteArray.mk #[], [], [])).2)).getD y1.toNat ((0 : Int), ByteArray.mk #[], [], [])).2.2)).getD y1.toNat ((0 : Int), ByteArray.mk #[], [], [])).1, (((y2.set y1.toNat (y0, (y2.getD y1.toNat ((0 : Int), ByteArray.mk #[], [], [])).2)).set y1.toNat (((y2.set y1.toNat (y0, (y2.getD y1.toNat ((0 : Int), ByteArray.mk #[], [], [])).2)).getD y1.toNat ((0 : Int), ByteArray.mk #[], [], [])).1, Sp.mText (IntKind.i64.wrap (y0 + (1 : Int))), ((y2.set y1.toNat (y0, (y2.getD y1.toNat ((0 : Int), ByteArray.mk #[], [], [])).2)).getD y1.toNat ((0 : Int), ByteArray.mk #[], [], [])).2.2)).getD y1.toNat ((0 : Int), ByteArray.mk #[], [], [])).2.1, Sp.markW Sp.markV (3 : Int) (((y2.set y1.toNat (y0, (y2.getD y1.toNat ((0 : Int), ByteArray.mk #[], [], [])).2)).set y1.toNat (((y2.set y1.toNat (y0, (y2.getD y1.toNat ((0 : Int), ByteArray.mk #[], [], [])).2)).getD y1.toNat ((0 : Int), ByteArray.mk #[], [], [])).1, Sp.mText (IntKind.i64.wrap (y0 + (1 : Int))), ((y2.set y1.toNat (y0, (y2.getD y1.toNat ((0 : Int), ByteArray.mk #[], [], [])).2)).getD y1.toNat ((0 : Int), ByteArray.mk #[], [], [])).2.2)).getD y1.toNat ((0 : Int), ByteArray.mk #[], [], [])).2.2.1 (IntKind.i64.wrap (IntKind.i64.wrap (y0 + (1 : Int)) + (1 : Int))), (((y2.set y1.toNat (y0, (y2.getD y1.toNat ((0 : Int), ByteArray.mk #[], [], [])).2)).set y1.toNat (((y2.set y1.toNat (y0, (y2.getD y1.toNat ((0 : Int), ByteArray.mk #[], [], [])).2)).getD y1.toNat ((0 : Int), ByteArray.mk #[], [], [])).1, Sp.mText (IntKind.i64.wrap (y0 + (1 : Int))), ((y2.set y1.toNat (y0, (y2.getD y1.toNat ((0 : Int), ByteArray.mk #[], [], [])).2)).getD y1.toNat ((0 : Int), ByteArray.mk #[], [], [])).2.2)).getD y1.toNat ((0 : Int), ByteArray.mk #[], [], [])).2.2.2)).getD y1.toNat ((0 : Int), ByteArray.mk #[], [], [])).2.2.1, Sp.markW Sp.markV (3 : Int) ((((y2.set y1.toNat (y0, (y2.getD y1.toNat ((0 : Int), ByteArray.mk #[], [], [])).2)).set y1.toNat (((y2.set y1.toNat (y0, (y2.getD y1.toNat ((0 : Int), ByteArray.mk #[], [], [])).2)).getD y1.toNat ((0 : Int), ByteArray.mk #[], [], [])).1, Sp.mText (IntKind.i64.wrap (y0 + (1 : Int))), ((y2.set y1.toNat (y0, (y2.getD y1.toNat ((0 : Int), ByteArray.mk #[], [], [])).2)).getD y1.toNat ((0 : Int), ByteArray.mk #[], [], [])).2.2)).set y1.toNat ((((y2.set y1.toNat (y0, (y2.getD y1.toNat ((0 : Int), ByteArray.mk #[], [], [])).2)).set y1.toNat (((y2.set y1.toNat (y0, (y2.getD y1.toNat ((0 : Int), ByteArray.mk #[], [], [])).2)).getD y1.toNat ((0 : Int), ByteArray.mk #[], [], [])).1, Sp.mText (IntKind.i64.wrap (y0 + (1 : Int))), ((y2.set y1.toNat (y0, (y2.getD y1.toNat ((0 : Int), ByteArray.mk #[], [], [])).2)).getD y1.toNat ((0 : Int), ByteArray.mk #[], [], [])).2.2)).getD y1.toNat ((0 : Int), ByteArray.mk #[], [], [])).1, (((y2.set y1.toNat (y0, (y2.getD y1.toNat ((0 : Int), ByteArray.mk #[], [], [])).2)).set y1.toNat (((y2.set y1.toNat (y0, (y2.getD y1.toNat ((0 : Int), ByteArray.mk #[], [], [])).2)).getD y1.toNat ((0 : Int), ByteArray.mk #[], [], [])).1, Sp.mText (IntKind.i64.wrap (y0 + (1 : Int))), ((y2.set y1.toNat (y0, (y2.getD y1.toNat ((0 : Int), ByteArray.mk #[], [], [])).2)).getD y1.toNat ((0 : Int), ByteArray.mk #[], [], [])).2.2)).getD y1.toNat ((0 : Int), ByteArray.mk #[], [], [])).2.1, Sp.markW Sp.markV (3 : Int) (((y2.set y1.toNat (y0, (y2.getD y1.toNat ((0 : Int), ByteArray.mk #[], [], [])).2)).set y1.toNat (((y2.set y1.toNat (y0, (y2.getD y1.toNat ((0 : Int), ByteArray.mk #[], [], [])).2)).getD y1.toNat ((0 : Int), ByteArray.mk #[], [], [])).1, Sp.mText (IntKind.i64.wrap (y0 + (1 : Int))), ((y2.set y1.toNat (y0, (y2.getD y1.toNat ((0 : Int), ByteArray.mk #[], [], [])).2)).getD y1.toNat ((0 : Int), ByteArray.mk #[], [], [])).2.2)).getD y1.toNat ((0 : Int), ByteArray.mk #[], [], [])).2.2.1 (IntKind.i64.wrap (IntKind.i64.wrap (y0 + (1 : Int)) + (1 : Int))), (((y2.set y1.toNat (y0, (y2.getD y1.toNat ((0 : Int), ByteArray.mk #[], [], [])).2)).set y1.toNat (((y2.set y1.toNat (y0, (y2.getD y1.toNat ((0 : Int), ByteArray.mk #[], [], [])).2)).getD y1.toNat ((0 : Int), ByteArray.mk #[], [], [])).1, Sp.mText (IntKind.i64.wrap (y0 + (1 : Int))), ((y2.set y1.toNat (y0, (y2.getD y1.toNat ((0 : Int), ByteArray.mk #[], [], [])).2)).getD y1.toNat ((0 : Int), ByteArray.mk #[], [], [])).2.2)).getD y1.toNat ((0 : Int), ByteArray.mk #[], [], [])).2.2.2)).getD y1.toNat ((0 : Int), ByteArray.mk #[], [], [])).2.2.2 (Sp.addW (3 : Int) (((y2.set y1.toNat (y0, (y2.getD y1.toNat ((0 : Int), ByteArray.mk #[], [], [])).2)).set y1.toNat (((y2.set y1.toNat (y0, (y2.getD y1.toNat ((0 : Int), ByteArray.mk #[], [], [])).2)).getD y1.toNat ((0 : Int), ByteArray.mk #[], [], [])).1, Sp.mText (IntKind.i64.wrap (y0 + (1 : Int))), ((y2.set y1.toNat (y0, (y2.getD y1.toNat ((0 : Int), ByteArray.mk #[], [], [])).2)).getD y1.toNat ((0 : Int), ByteArray.mk #[], [], [])).2.2)).getD y1.toNat ((0 : Int), ByteArray.mk #[], [], [])).2.2.1 (IntKind.i64.wrap (IntKind.i64.wrap (y0 + (1 : Int)) + (1 : Int))))))))))))) else some (Res.mk [XV.mk false [X.c (X0.dat (Ty.int IntKind.i64) y0)]] [X.c (X0.row ((Ty.int IntKind.i64).pair (Ty.str.pair (((Ty.int IntKind.i64).pair ((Ty.int IntKind.i64).pair Ty.str)).slice.pair ((Ty.int IntKind.i64).pair ((Ty.int IntKind.i64).pair Ty.str)).slice))) y2 true)]) := by kernel_rfl
theorem f54_raw (n : Nat) (x0 : List (Int × ByteArray × List (Int × Int × ByteArray) × List (Int × Int × ByteArray))) (x1 : Int) : abody Γ (orc [e75, e45]) n 54 [XV.mk false [X.c (X0.row ((Ty.int IntKind.i64).pair (Ty.str.pair (((Ty.int IntKind.i64).pair ((Ty.int IntKind.i64).pair Ty.str)).slice.pair ((Ty.int IntKind.i64).pair ((Ty.int IntKind.i64).pair Ty.str)).slice))) x0 true)], XV.mk false [X.c (X0.dat (Ty.int IntKind.i64) x1)]] = f54_L0 n n x1 (0 : Int) x0 := by kernel_rfl

noncomputable def e54 : Ent := { f := 54, ins := [Sh.one (C0.row tC), Sh.one cI], outs := [Sh.one cI], upd := [Sh.one (C0.row tC)], pre := fun a => Sp.smallU Sp.wtC a.1 a.2, spec := fun a => Sp.addU Sp.wtC a.1 a.2, wrt := fun a => Sp.markU Sp.markC Sp.wtC a.1 a.2 }
theorem e54_core (xs : List VC) (v : Int) (ha : Sp.smallU Sp.wtC xs v = true) (hl : xs.length ≤ maxLen) : ∃ n, abody Γ (orc [e75, e45]) n 54 [XV.mk false [X.c (X0.row tC xs true)], XV.mk false [X.c (X0.dat (Ty.int IntKind.i64) v)]] = some (rMk tC (Sp.addU Sp.wtC xs v) (Sp.markU Sp.markC Sp.wtC xs v)) := by
  obtain ⟨h1, h2⟩ := smallU_of ha
  have hl : xs.length ≤ 9223372036854775807 := hl
  refine ⟨xs.length + 1, (f54_raw _ xs v).trans ?_⟩
  refine markU_loop (g := Sp.markC) (w := Sp.wtC) (R := rMk tC) (fun m v k acc => f54_L0 (xs.length + 1) m v k acc) (fun m v k acc hk => ?_) (fun m v k acc h hlen h0 h1 => ?_) xs.length 0 _ v xs (Nat.zero_add _) (Nat.lt_succ_self _) hl h1 h2
  · show f54_L0 _ _ _ _ _ = _
    rw [f54_L0_step, nat_ge hk, cond_false]
  · show f54_L0 _ _ _ _ _ = _
    have hw : Sp.wtC acc[k] = 2 + 3 * (acc[k].2.2.1.length + acc[k].2.2.2.length) := rfl
    rw [hw] at h1
    have e1 : IntKind.i64.wrap (v + 1) = v + 1 := wrap64 (by omega) (by omega)
    have e2 : IntKind.i64.wrap (v + 1 + 1) = v + 2 := (wrap64 (by omega) (by omega)).trans (by omega)
    have g1 : Sp.smallW 3 acc[k].2.2.1 (v + 2) = true := smallW_mk (by omega) (by omega)
    have g2 : Sp.smallW 3 acc[k].2.2.2 (Sp.addW 3 acc[k].2.2.1 (v + 2)) = true := smallW_mk (by unfold Sp.addW; omega) (by unfold Sp.addW; omega)
    have e3 : Sp.addW 3 acc[k].2.2.2 (Sp.addW 3 acc[k].2.2.1 (v + 2)) = v + (Sp.wtC acc[k] : Nat) := by rw [hw]; unfold Sp.addW; omega
    have hk : ∀ z : VC, k < (acc.set k z).length := fun z => by rw [List.length_set]; exact h
    rw [f54_L0_step, nat_lt h, cond_true, guard0, chkT, e1, mOK_of (by omega), chkT]
    simp only [List.length_set, nat_lt h, guard0, chkT, Int.toNat_natCast, List.set_set, getD_set h, getD_set (hk _)]
    rw [List.getD, List.getElem?_eq_getElem h, Option.getD_some]
    rw [e2, g1, chkT, g2, chkT, e3, next64 h hlen]
    rfl
theorem e54_ok : Valid Try.prog Γ e54 := valid_len ok (vcons e75_ok (vcons e45_ok vnil)) fun a ha hl => e54_core a.1 a.2 ha (hl _ (List.mem_cons_self) _ (List.mem_cons_self)).1
def Sp.f10_pre (x0 : List (Int × ByteArray × List (Int × Int × ByteArray) × List (Int × Int × ByteArray))) (x1 : ByteArray) (x2 : Int) (x3 : List (Int × Int × ByteArray)) : Bool := (bif decide ((↑x1.size : Int) > (1048576 : Int)) then true else (bif decide (Sp.szE Sp.szC x0 (1048576 : Int) < (0 : Int)) then true else (bif decide (Sp.szE Sp.szV x3 (Sp.szE Sp.szC x0 (1048576 : Int)) < (0 : Int)) then true else (Sp.fitsC x0 && (Sp.fits32 x3 && (Sp.fitsC x0 && (Sp.fits32 x3 && (bif !Sp.eqS (Sp.h52 x0 x1 x2 x3).1 (Sp.h49 x0 x1 x2 x3).1 then true else (bif (Sp.h52 x0 x1 x2 x3).2 != (Sp.h49 x0 x1 x2 x3).2 then true else (Sp.fitsC x0 && (bif !Sp.eqW Sp.eqC x0 x0 then true else (Sp.fits32 x3 && (bif !Sp.eqW Sp.eqV x3 x3 then true else (Sp.smallU Sp.wtC x0 (1 : Int) && (Sp.smallW (3 : Nat) x3 (Sp.addU Sp.wtC x0 (1 : Int)) && (bif decide (Sp.addW (3 : Int) x3 (Sp.addU Sp.wtC x0 (1 : Int)) < (0 : Int)) then true else (bif !Sp.eqS (Sp.h52 x0 x1 x2 x3).1 (Sp.h49 x0 x1 x2 x3).1 then true else (bif (Sp.h52 x0 x1 x2 x3).2 != (Sp.h49 x0 x1 x2 x3).2 then true else (Sp.small (Sp.h52 x0 x1 x2 x3).1 (1 : Int) && (Sp.small (Sp.markS (Sp.h52 x0 x1 x2 x3).1 (1 : Int)) (1 : Int) && (bif decide (Sp.heldS (Sp.markS (Sp.h52 x0 x1 x2 x3).1 (1 : Int)) (1 : Int) < (0 : Int)) then true else (bif Sp.heldS (Sp.markS (Sp.h52 x0 x1 x2 x3).1 (1 : Int)) (1 : Int) != Sp.addLen (Sp.h52 x0 x1 x2 x3).1 (1 : Int) then true else (Sp.fitsC x0 && (Sp.fits32 x3 && (bif !Sp.eqS (Sp.h52 x0 x1 x2 x3).1 (Sp.h49 x0 x1 x2 x3).1 then true else (bif (Sp.h52 x0 x1 x2 x3).2 != (Sp.h49 x0 x1 x2 x3).2 then true else Sp.small (Sp.markS (Sp.h52 x0 x1 x2 x3).1 (1 : Int)) (1 : Int)))))))))))))))))))))))))))
def Sp.f10 (x0 : List (Int × ByteArray × List (Int × Int × ByteArray) × List (Int × Int × ByteArray))) (x1 : ByteArray) (x2 : Int) (x3 : List (Int × Int × ByteArray)) := (bif decide ((↑x1.size : Int) > (1048576 : Int)) then (true, ()) else (bif decide (Sp.szE Sp.szC x0 (1048576 : Int) < (0 : Int)) then (true, ()) else (bif decide (Sp.szE Sp.szV x3 (Sp.szE Sp.szC x0 (1048576 : Int)) < (0 : Int)) then (true, ()) else (bif !Sp.eqS (Sp.h52 x0 x1 x2 x3).1 (Sp.h49 x0 x1 x2 x3).1 then (false, ()) else (bif (Sp.h52 x0 x1 x2 x3).2 != (Sp.h49 x0 x1 x2 x3).2 then (false, ()) else (bif !Sp.eqW Sp.eqC x0 x0 then (false, ()) else (bif !Sp.eqW Sp.eqV x3 x3 then (false, ()) else (bif decide (Sp.addW (3 : Int) x3 (Sp.addU Sp.wtC x0 (1 : Int)) < (0 : Int)) then (false, ()) else (bif !Sp.eqS (Sp.h52 x0 x1 x2 x3).1 (Sp.h49 x0 x1 x2 x3).1 then (false, ()) else (bif (Sp.h52 x0 x1 x2 x3).2 != (Sp.h49 x0 x1 x2 x3).2 then (false, ()) else (bif decide (Sp.heldS (Sp.markS (Sp.h52 x0 x1 x2 x3).1 (1 : Int)) (1 : Int) < (0 : Int)) then (false, ()) else (bif Sp.heldS (Sp.markS (Sp.h52 x0 x1 x2 x3).1 (1 : Int)) (1 : Int) != Sp.addLen (Sp.h52 x0 x1 x2 x3).1 (1 : Int) then (false, ()) else (bif !Sp.eqS (Sp.h52 x0 x1 x2 x3).1 (Sp.h49 x0 x1 x2 x3).1 then (false, ()) else (bif (Sp.h52 x0 x1 x2 x3).2 != (Sp.h49 x0 x1 x2 x3).2 then (false, ()) else (bif decide (Sp.heldS (Sp.markS (Sp.h52 x0 x1 x2 x3).1 (1 : Int)) (1 : Int) < (0 : Int)) then (false, ()) else (bif Sp.heldS (Sp.markS (Sp.h52 x0 x1 x2 x3).1 (1 : Int)) (1 : Int) != Sp.addLen (Sp.h52 x0 x1 x2 x3).1 (1 : Int) then (false, ()) else (true, ())))))))))))))))))
noncomputable def e10 : Ent := { f := 10, ins := [Sh.one (C0.dat ((Ty.int IntKind.i64).pair (Ty.str.pair (((Ty.int IntKind.i64).pair ((Ty.int IntKind.i64).pair Ty.str)).slice.pair ((Ty.int IntKind.i64).pair ((Ty.int IntKind.i64).pair Ty.str)).slice))).slice), Sh.one (C0.dat Ty.str), Sh.one (C0.dat (Ty.int IntKind.i64)), Sh.one (C0.dat ((Ty.int IntKind.i64).pair ((Ty.int IntKind.i64).pair Ty.str)).slice)], outs := [Sh.one (C0.dat Ty.bool)], upd := [], pre := fun a => Sp.f10_pre a.1 a.2.1 a.2.2.1 a.2.2.2, spec := fun a => (Sp.f10 a.1 a.2.1 a.2.2.1 a.2.2.2).1, wrt := fun a => (Sp.f10 a.1 a.2.1 a.2.2.1 a.2.2.2).2 }
def f10_g (v : denS [Sh.one (C0.dat Ty.bool)] × denS []) : Res := ⟨mkS [Sh.one (C0.dat Ty.bool)] v.1, mkU [] v.2⟩
theorem f10_raw (x0 : List (Int × ByteArray × List (Int × Int × ByteArray) × List (Int × Int × ByteArray))) (x1 : ByteArray) (x2 : Int) (x3 : List (Int × Int × ByteArray)) : abody Γ (orc [e47, e48, e50, e51, e49, e52, e29, e53, e44, e54, e45, e30, e31]) 0 10 [XV.mk false [X.c (X0.dat ((Ty.int IntKind.i64).pair (Ty.str.pair (((Ty.int IntKind.i64).pair ((Ty.int IntKind.i64).pair Ty.str)).slice.pair ((Ty.int IntKind.i64).pair ((Ty.int IntKind.i64).pair Ty.str)).slice))).slice x0)], XV.mk false [X.c (X0.dat Ty.str x1)], XV.mk false [X.c (X0.dat (Ty.int IntKind.i64) x2)], XV.mk false [X.c (X0.dat ((Ty.int IntKind.i64).pair ((Ty.int IntKind.i64).pair Ty.str)).slice x3)]] = bif decide ((↑x1.size : Int) > (1048576 : Int)) then some (Res.mk [XV.mk false [X.c (X0.dat Ty.bool true)]] []) else bif decide (Sp.szE Sp.szC x0 (1048576 : Int) < (0 : Int)) then some (Res.mk [XV.mk false [X.c (X0.dat Ty.bool true)]] []) else bif decide (Sp.szE Sp.szV x3 (Sp.szE Sp.szC x0 (1048576 : Int)) < (0 : Int)) then some (Res.mk [XV.mk false [X.c (X0.dat Ty.bool true)]] []) else chk (Sp.fitsC x0) (chk (Sp.fits32 x3) (chk (Sp.fitsC x0) (chk (Sp.fits32 x3) (bif !Sp.eqS (Sp.h52 x0 x1 x2 x3).1 (Sp.h49 x0 x1 x2 x3).1 then some (Res.mk [XV.mk false [X.c (X0.dat Ty.bool false)]] []) else bif (Sp.h52 x0 x1 x2 x3).2 != (Sp.h49 x0 x1 x2 x3).2 then some (Res.mk [XV.mk false [X.c (X0.dat Ty.bool false)]] []) else chk (Sp.fitsC x0) (bif !Sp.eqW Sp.eqC x0 x0 then some (Res.mk [XV.mk false [X.c (X0.dat Ty.bool false)]] []) else chk (Sp.fits32 x3) (bif !Sp.eqW Sp.eqV x3 x3 then some (Res.mk [XV.mk false [X.c (X0.dat Ty.bool false)]] []) else chk (Sp.smallU Sp.wtC x0 (1 : Int)) (chk (Sp.smallW (3 : Nat) x3 (Sp.addU Sp.wtC x0 (1 : Int))) (bif decide (Sp.addW (3 : Int) x3 (Sp.addU Sp.wtC x0 (1 : Int)) < (0 : Int)) then some (Res.mk [XV.mk false [X.c (X0.dat Ty.bool false)]] []) else bif !Sp.eqS (Sp.h52 x0 x1 x2 x3).1 (Sp.h49 x0 x1 x2 x3).1 then some (Res.mk [XV.mk false [X.c (X0.dat Ty.bool false)]] []) else bif (Sp.h52 x0 x1 x2 x3).2 != (Sp.h49 x0 x1 x2 x3).2 then some (Res.mk [XV.mk false [X.c (X0.dat Ty.bool false)]] []) else chk (Sp.small (Sp.h52 x0 x1 x2 x3).1 (1 : Int)) (chk (Sp.small (Sp.markS (Sp.h52 x0 x1 x2 x3).1 (1 : Int)) (1 : Int)) (bif decide (Sp.heldS (Sp.markS (Sp.h52 x0 x1 x2 x3).1 (1 : Int)) (1 : Int) < (0 : Int)) then some (Res.mk [XV.mk false [X.c (X0.dat Ty.bool false)]] []) else bif Sp.heldS (Sp.markS (Sp.h52 x0 x1 x2 x3).1 (1 : Int)) (1 : Int) != Sp.addLen (Sp.h52 x0 x1 x2 x3).1 (1 : Int) then some (Res.mk [XV.mk false [X.c (X0.dat Ty.bool false)]] []) else chk (Sp.fitsC x0) (chk (Sp.fits32 x3) (bif !Sp.eqS (Sp.h52 x0 x1 x2 x3).1 (Sp.h49 x0 x1 x2 x3).1 then some (Res.mk [XV.mk false [X.c (X0.dat Ty.bool false)]] []) else bif (Sp.h52 x0 x1 x2 x3).2 != (Sp.h49 x0 x1 x2 x3).2 then some (Res.mk [XV.mk false [X.c (X0.dat Ty.bool false)]] []) else chk (Sp.small (Sp.markS (Sp.h52 x0 x1 x2 x3).1 (1 : Int)) (1 : Int)) (bif decide (Sp.heldS (Sp.markS (Sp.h52 x0 x1 x2 x3).1 (1 : Int)) (1 : Int) < (0 : Int)) then some (Res.mk [XV.mk false [X.c (X0.dat Ty.bool false)]] []) else bif Sp.heldS (Sp.markS (Sp.h52 x0 x1 x2 x3).1 (1 : Int)) (1 : Int) != Sp.addLen (Sp.h52 x0 x1 x2 x3).1 (1 : Int) then some (Res.mk [XV.mk false [X.c (X0.dat Ty.bool false)]] []) else some (Res.mk [XV.mk false [X.c (X0.dat Ty.bool true)]] [])))))))))))))) := by kernel_rfl
theorem f10_form (x0 : List (Int × ByteArray × List (Int × Int × ByteArray) × List (Int × Int × ByteArray))) (x1 : ByteArray) (x2 : Int) (x3 : List (Int × Int × ByteArray)) : (bif decide ((↑x1.size : Int) > (1048576 : Int)) then some (Res.mk [XV.mk false [X.c (X0.dat Ty.bool true)]] []) else bif decide (Sp.szE Sp.szC x0 (1048576 : Int) < (0 : Int)) then some (Res.mk [XV.mk false [X.c (X0.dat Ty.bool true)]] []) else bif decide (Sp.szE Sp.szV x3 (Sp.szE Sp.szC x0 (1048576 : Int)) < (0 : Int)) then some (Res.mk [XV.mk false [X.c (X0.dat Ty.bool true)]] []) else chk (Sp.fitsC x0) (chk (Sp.fits32 x3) (chk (Sp.fitsC x0) (chk (Sp.fits32 x3) (bif !Sp.eqS (Sp.h52 x0 x1 x2 x3).1 (Sp.h49 x0 x1 x2 x3).1 then some (Res.mk [XV.mk false [X.c (X0.dat Ty.bool false)]] []) else bif (Sp.h52 x0 x1 x2 x3).2 != (Sp.h49 x0 x1 x2 x3).2 then some (Res.mk [XV.mk false [X.c (X0.dat Ty.bool false)]] []) else chk (Sp.fitsC x0) (bif !Sp.eqW Sp.eqC x0 x0 then some (Res.mk [XV.mk false [X.c (X0.dat Ty.bool false)]] []) else chk (Sp.fits32 x3) (bif !Sp.eqW Sp.eqV x3 x3 then some (Res.mk [XV.mk false [X.c (X0.dat Ty.bool false)]] []) else chk (Sp.smallU Sp.wtC x0 (1 : Int)) (chk (Sp.smallW (3 : Nat) x3 (Sp.addU Sp.wtC x0 (1 : Int))) (bif decide (Sp.addW (3 : Int) x3 (Sp.addU Sp.wtC x0 (1 : Int)) < (0 : Int)) then some (Res.mk [XV.mk false [X.c (X0.dat Ty.bool false)]] []) else bif !Sp.eqS (Sp.h52 x0 x1 x2 x3).1 (Sp.h49 x0 x1 x2 x3).1 then some (Res.mk [XV.mk false [X.c (X0.dat Ty.bool false)]] []) else bif (Sp.h52 x0 x1 x2 x3).2 != (Sp.h49 x0 x1 x2 x3).2 then some (Res.mk [XV.mk false [X.c (X0.dat Ty.bool false)]] []) else chk (Sp.small (Sp.h52 x0 x1 x2 x3).1 (1 : Int)) (chk (Sp.small (Sp.markS (Sp.h52 x0 x1 x2 x3).1 (1 : Int)) (1 : Int)) (bif decide (Sp.heldS (Sp.markS (Sp.h52 x0 x1 x2 x3).1 (1 : Int)) (1 : Int) < (0 : Int)) then some (Res.mk [XV.mk false [X.c (X0.dat Ty.bool false)]] []) else bif Sp.heldS (Sp.markS (Sp.h52 x0 x1 x2 x3).1 (1 : Int)) (1 : Int) != Sp.addLen (Sp.h52 x0 x1 x2 x3).1 (1 : Int) then some (Res.mk [XV.mk false [X.c (X0.dat Ty.bool false)]] []) else chk (Sp.fitsC x0) (chk (Sp.fits32 x3) (bif !Sp.eqS (Sp.h52 x0 x1 x2 x3).1 (Sp.h49 x0 x1 x2 x3).1 then some (Res.mk [XV.mk false [X.c (X0.dat Ty.bool false)]] []) else bif (Sp.h52 x0 x1 x2 x3).2 != (Sp.h49 x0 x1 x2 x3).2 then some (Res.mk [XV.mk false [X.c (X0.dat Ty.bool false)]] []) else chk (Sp.small (Sp.markS (Sp.h52 x0 x1 x2 x3).1 (1 : Int)) (1 : Int)) (bif decide (Sp.heldS (Sp.markS (Sp.h52 x0 x1 x2 x3).1 (1 : Int)) (1 : Int) < (0 : Int)) then some (Res.mk [XV.mk false [X.c (X0.dat Ty.bool false)]] []) else bif Sp.heldS (Sp.markS (Sp.h52 x0 x1 x2 x3).1 (1 : Int)) (1 : Int) != Sp.addLen (Sp.h52 x0 x1 x2 x3).1 (1 : Int) then some (Res.mk [XV.mk false [X.c (X0.dat Ty.bool false)]] []) else some (Res.mk [XV.mk false [X.c (X0.dat Ty.bool true)]] []))))))))))))))) = chk (Sp.f10_pre x0 x1 x2 x3) (some (f10_g (Sp.f10 x0 x1 x2 x3))) := by
  unfold Sp.f10_pre Sp.f10
  exact (cond_step f10_g ((lift_plain (rfl))) ((cond_step f10_g ((lift_plain (rfl))) ((cond_step f10_g ((lift_plain (rfl))) ((chk_step ((chk_step ((chk_step ((chk_step ((cond_step f10_g ((lift_plain (rfl))) ((cond_step f10_g ((lift_plain (rfl))) ((chk_step ((cond_step f10_g ((lift_plain (rfl))) ((chk_step ((cond_step f10_g ((lift_plain (rfl))) ((chk_step ((chk_step ((cond_step f10_g ((lift_plain (rfl))) ((cond_step f10_g ((lift_plain (rfl))) ((cond_step f10_g ((lift_plain (rfl))) ((chk_step ((chk_step ((cond_step f10_g ((lift_plain (rfl))) ((cond_step f10_g ((lift_plain (rfl))) ((chk_step ((chk_step ((cond_step f10_g ((lift_plain (rfl))) ((cond_step f10_g ((lift_plain (rfl))) ((chk_last ((cond_plain f10_g (rfl) ((cond_plain f10_g (rfl) (rfl))))))))))))))))))))))))))))))))))))))))))))))))))))))))))
theorem e10_ok : Valid Try.prog Γ e10 := valid_auto ok (vcons e47_ok (vcons e48_ok (vcons e50_ok (vcons e51_ok (vcons e49_ok (vcons e52_ok (vcons e29_ok (vcons e53_ok (vcons e44_ok (vcons e54_ok (vcons e45_ok (vcons e30_ok (vcons e31_ok vnil))))))))))))) fun a => (f10_raw a.1 a.2.1 a.2.2.1 a.2.2.2).trans (f10_form a.1 a.2.1 a.2.2.1 a.2.2.2)

end Go.Proofs.GR.T

namespace Go.Proofs.GR.T
open Go Go.Proofs Go.Proofs.GR
theorem bytesLess_self : ∀ x : List UInt8, Op.bytesLess x x = false
  | [] => rfl
  | a :: x => by
    unfold Op.bytesLess
    rw [bytesLess_self x, Bool.and_false, Bool.or_false]
    exact decide_eq_false (UInt8.lt_irrefl a)
theorem f134_ne (b : Bool) : ((Sp.f134 b false).1 != 0) = true := by cases b <;> rfl
theorem cmpV_same (x y : V3) : (Sp.cmpV x y != 0) = !Sp.sameV x y := by
  unfold Sp.cmpV Sp.f133 Sp.sameV
  have e1 : Go.Proofs.GR.eqI x.1 y.1 = (x.1 == y.1) := rfl
  have e2 : Go.Proofs.GR.eqI x.2.1 y.2.1 = (x.2.1 == y.2.1) := rfl
  have e3 : Go.Proofs.GR.eqS x.2.2 y.2.2 = (x.2.2.toList == y.2.2.toList) := by
    unfold Go.Proofs.GR.eqS
    rw [beq_toListBytes]
  rw [e1, e2, e3, show (x.1 != y.1) = !(x.1 == y.1) from rfl, show (x.2.1 != y.2.1) = !(x.2.1 == y.2.1) from rfl]
  cases x.1 == y.1 with
  | false => exact f134_ne _
  | true =>
    cases x.2.1 == y.2.1 with
    | false => exact f134_ne _
    | true =>
      cases h : x.2.2.toList == y.2.2.toList with
      | false => exact f134_ne _
      | true =>
        rw [eq_of_beq h, bytesLess_self]
        rfl
theorem sameR_eq : ∀ {a b : List V3}, a.length = b.length → Sp.sameR a b = Sp.eqW Sp.sameV a b
  | [], [], _ => rfl
  | [], _ :: _, h => by cases h
  | _ :: _, [], h => by cases h
  | x :: r, y :: s, h => by
    have ih := sameR_eq (a := r) (b := s) (by simpa using h)
    unfold Sp.sameR at ih ⊢
    rw [Sp.rows, Sp.eqW, ← ih]
    have hc := cmpV_same x y
    cases hs : Sp.sameV x y with
    | true => rw [hs] at hc; rw [hc]; rfl
    | false => rw [hs] at hc; have hc : (Sp.cmpV x y != 0) = true := hc; rw [hc, cond_true, hc]; rfl
theorem hist_eq (t : ByteArray) (col : Int) (key : List V3) : ∀ (xs : List VC) (out : List ByteArray), Sp.hist Sp.sameR t col key xs out = Sp.hist (Sp.eqW Sp.sameV) t col key xs out
  | [], _ => rfl
  | c :: r, out => by
    rw [Sp.hist, Sp.hist, hist_eq t col key r out, hist_eq t col key r (out ++ [Sp.txt c.2.2.2 col])]
    by_cases h : (c.2.2.2.length : Int) < (key.length : Int)
    · rw [decide_eq_true h]; rfl
    · rw [sameR_eq (a := c.2.2.2.take key.length) (b := key) (by rw [List.length_take]; omega)]
theorem h52_eq (xs : List VC) (t : ByteArray) (col : Int) (key : List V3) : Sp.h52 xs t col key = Sp.h49 xs t col key := by
  unfold Sp.h52 Sp.h49
  rw [f69_one, hist_eq]
  cases decide ((key.length : Int) > 4096) <;> cases decide ((xs.length : Int) > 4096) <;> cases decide ((t.size : Int) > 65536) <;> rfl
theorem hist_len (q : List V3 → List V3 → Bool) (t : ByteArray) (col : Int) (key : List V3) : ∀ (xs : List VC) (out : List ByteArray), (Sp.hist q t col key xs out).1.length ≤ xs.length + out.length
  | [], out => by rw [Sp.hist]; simp
  | c :: r, out => by
    rw [Sp.hist]
    have h1 := hist_len q t col key r out
    have h2 := hist_len q t col key r (out ++ [Sp.txt c.2.2.2 col])
    rw [List.length_append, List.length_singleton] at h2
    rw [List.length_cons]
    cases c.2.1.toList == t.toList with
    | false => rw [Bool.not_false, cond_true]; omega
    | true =>
      rw [Bool.not_true, cond_false]
      cases decide ((c.2.2.2.length : Int) < (key.length : Int)) with
      | true => rw [cond_true]; omega
      | false =>
        rw [cond_false]
        cases q (c.2.2.2.take key.length) key with
        | false => rw [Bool.not_false, cond_true]; omega
        | true =>
          rw [Bool.not_true, cond_false]
          cases Sp.has c.2.2.2 col with
          | false => rw [Bool.not_false, cond_true]; exact Nat.zero_le _
          | true => rw [Bool.not_true, cond_false]; omega
theorem h49_len (xs : List VC) (t : ByteArray) (col : Int) (key : List V3) : (Sp.h49 xs t col key).1.length ≤ xs.length := by
  unfold Sp.h49
  cases decide ((key.length : Int) > 4096) with
  | true => exact Nat.zero_le _
  | false => cases decide ((xs.length : Int) > 4096) with
    | true => exact Nat.zero_le _
    | false => cases decide ((t.size : Int) > 65536) with
      | true => exact Nat.zero_le _
      | false => exact hist_len _ _ _ _ xs []
theorem eqC_self (x : VC) : Sp.eqC x x = true := f41_self _ _ _ _
def Sp.okL (xs : List VC) : Prop := xs.length ≤ 9223372036854775807 ∧ ∀ x ∈ xs, x.2.1.size ≤ 9223372036854775807 ∧ Sp.okV x.2.2.1 ∧ Sp.okV x.2.2.2
def Sp.ctC (x : VC) : Nat := x.2.2.1.length + x.2.2.2.length
theorem szC_wt {x : VC} (h1 : x.2.1.size ≤ 9223372036854775807) (h2 : Sp.okV x.2.2.1) (h3 : Sp.okV x.2.2.2) (l : Int) (h0 : 0 ≤ l) (hl : l ≤ 1048576) (h : 0 ≤ Sp.szC x l) : Sp.szC x l + (Sp.ctC x : Int) ≤ l := by
  unfold Sp.szC Sp.f35 at h ⊢
  rw [wrap64 (n := l - (x.2.1.size : Int)) (by omega) (by omega)] at h ⊢
  by_cases c1 : l - (x.2.1.size : Int) < 0
  · rw [decide_eq_true c1] at h; exact absurd h (show ¬ (0 : Int) ≤ -1 by decide)
  · rw [decide_eq_false c1, cond_false] at h ⊢
    by_cases c2 : Sp.szE Sp.szV x.2.2.1 (l - (x.2.1.size : Int)) < 0
    · rw [decide_eq_true c2] at h; exact absurd h (show ¬ (0 : Int) ≤ -1 by decide)
    · have w1 := szE_wt (f := Sp.szV) (c := fun _ => 0) (xs := x.2.2.1) (l := l - (x.2.1.size : Int)) h2.1 (fun y hy l a b _ => by have := szV_le (h2.2 y hy) l a b; simpa using this) (by omega) (by omega) (by omega)
      rw [decide_eq_false c2, cond_false] at h ⊢
      by_cases c3 : Sp.szE Sp.szV x.2.2.2 (Sp.szE Sp.szV x.2.2.1 (l - (x.2.1.size : Int))) < 0
      · rw [decide_eq_true c3] at h; exact absurd h (show ¬ (0 : Int) ≤ -1 by decide)
      · have w2 := szE_wt (f := Sp.szV) (c := fun _ => 0) (xs := x.2.2.2) (l := Sp.szE Sp.szV x.2.2.1 (l - (x.2.1.size : Int))) h3.1 (fun y hy l a b _ => by have := szV_le (h3.2 y hy) l a b; simpa using this) (by omega) (by omega) (by omega)
        rw [decide_eq_false c3, cond_false]
        show Sp.szE Sp.szV x.2.2.2 (Sp.szE Sp.szV x.2.2.1 (l - (x.2.1.size : Int))) + ((x.2.2.1.length + x.2.2.2.length : Nat) : Int) ≤ l
        rw [Int.natCast_add]
        omega
theorem wtC_le (xs : List VC) : Sp.wtW Sp.wtC xs ≤ 2 * xs.length + 3 * Sp.wtW Sp.ctC xs := wtW_lin fun _ _ => Nat.le_refl _
theorem wtW_mem {α : Type} {w : α → Nat} : ∀ {xs : List α} {x : α}, x ∈ xs → w x ≤ Sp.wtW w xs
  | y :: r, x, h => by
    rw [Sp.wtW]
    rcases List.mem_cons.1 h with rfl | h
    · omega
    · have := wtW_mem (w := w) h; omega
theorem yes2_mk {a b : Bool} (ha : a = true) (hb : b = true) : yes2 a b = true := by rw [ha, hb]; rfl
theorem okC_of {x : VC} (h1 : x.2.2.1.length ≤ 1048576) (h2 : x.2.2.2.length ≤ 1048576) : Sp.okC x = true := by
  show Sp.f38_pre x.1 x.2.1 x.2.2.1 x.2.2.2 = true
  unfold Sp.f38_pre
  rw [fits32_mk (by omega), fits32_mk (by omega)]; rfl
theorem law10_pre (xs : List VC) (t : ByteArray) (col : Int) (key : List V3) (h1 : Sp.okL xs) (h2 : Sp.okV key) : Sp.f10_pre xs t col key = true := by
  unfold Sp.f10_pre
  cases decide ((t.size : Int) > 1048576) with
  | true => rfl
  | false =>
  by_cases c1 : Sp.szE Sp.szC xs 1048576 < 0
  · rw [decide_eq_true c1]; rfl
  have w1 := szE_wt (f := Sp.szC) (c := Sp.ctC) (xs := xs) (l := 1048576) h1.1 (fun x hx l a b c => szC_wt (h1.2 x hx).1 (h1.2 x hx).2.1 (h1.2 x hx).2.2 l a b c) (by omega) (by omega) (by omega)
  by_cases c2 : Sp.szE Sp.szV key (Sp.szE Sp.szC xs 1048576) < 0
  · rw [decide_eq_false c1, decide_eq_true c2]; rfl
  have w2 := szE_wt (f := Sp.szV) (c := fun _ => 0) (xs := key) (l := Sp.szE Sp.szC xs 1048576) h2.1 (fun y hy l a b _ => by have := szV_le (h2.2 y hy) l a b; simpa using this) (by omega) (by omega) (by omega)
  rw [decide_eq_false c1, decide_eq_false c2, h52_eq]
  have w3 := wtC_le xs
  have p1 : Sp.fitsC xs = true := by
    refine yes2_mk (fits32_mk (by omega)) (allW_mem.2 fun x hx => ?_)
    have : x.2.2.1.length + x.2.2.2.length ≤ Sp.wtW Sp.ctC xs := wtW_mem (w := Sp.ctC) hx
    exact okC_of (by omega) (by omega)
  have p2 : Sp.fits32 key = true := fits32_mk (by omega)
  have p3 : Sp.smallU Sp.wtC xs 1 = true := smallU_mk (by omega) (by rw [show Int.toNat 1 = 1 from rfl]; omega)
  have p4 : Sp.smallW 3 key (Sp.addU Sp.wtC xs 1) = true := smallW_mk (by unfold Sp.addU; omega) (by unfold Sp.addU; omega)
  have hlen := h49_len xs t col key
  have hs2 : Sp.small (Sp.h49 xs t col key).1 1 = true := small_mk (by omega) (by omega)
  have hs3 : Sp.small (Sp.markS (Sp.h49 xs t col key).1 1) 1 = true := small_mk (by omega) (by rw [markS_len]; omega)
  rw [p1, p2, p3, p4, hs2, hs3]
  simp
theorem law10 (xs : List VC) (t : ByteArray) (col : Int) (key : List V3) : (Sp.f10 xs t col key).1 = true := by
  unfold Sp.f10
  rw [h52_eq, heldS_mark]
  have h1 : decide (Sp.addW 3 key (Sp.addU Sp.wtC xs 1) < 0) = false := decide_eq_false (by unfold Sp.addU Sp.addW; omega)
  have h2 : decide ((1 : Int) + ((Sp.h49 xs t col key).1.length : Int) < 0) = false := decide_eq_false (by omega)
  have h3 : ((1 : Int) + ((Sp.h49 xs t col key).1.length : Int) != Sp.addLen (Sp.h49 xs t col key).1 1) = false := by simp [Sp.addLen]
  have h4 : ((Sp.h49 xs t col key).2 != (Sp.h49 xs t col key).2) = false := by simp
  rw [h1, h2, h3, h4, eqS_self, eqW_self eqC_self, eqW_self eqV_self]
  cases decide ((t.size : Int) > 1048576) <;> cases decide (Sp.szE Sp.szC xs 1048576 < 0) <;> cases decide (Sp.szE Sp.szV key (Sp.szE Sp.szC xs 1048576) < 0) <;> rfl
end Go.Proofs.GR.T

