/-
  No statement is proved here: what the functions of the law answer, told as plain functions, and that the law's answer is always true.
  No condition.
-/
import Derived.Test.YtemccfonjeppjaaDoorRt
import Derived.Shelf.Strings.Split
import Derived.KernelRfl
namespace Go.Proofs.GR.T
abbrev n0 : Nat := 0
abbrev n1 : Nat := 1
abbrev n2 : Nat := 2
abbrev n1002 : Nat := 4
abbrev n1003 : Nat := 5
abbrev n1004 : Nat := 6
abbrev n1006 : Nat := 8
abbrev n1007 : Nat := 9
abbrev n1009 : Nat := 11
abbrev n1010 : Nat := 12
abbrev n1011 : Nat := 14
abbrev n1013 : Nat := 16
abbrev n1014 : Nat := 17
abbrev n1015 : Nat := 19
abbrev n1017 : Nat := 21
abbrev n75 : Nat := 23
abbrev n1018 : Nat := 24
abbrev n1019 : Nat := 25
abbrev n1021 : Nat := 27
abbrev n1022 : Nat := 28
abbrev n194 : Nat := 31
abbrev n1024 : Nat := 33
abbrev n1025 : Nat := 34
abbrev n1026 : Nat := 35
abbrev n1027 : Nat := 36
abbrev n1032 : Nat := 43
abbrev n1034 : Nat := 47
abbrev n1035 : Nat := 48
abbrev n1036 : Nat := 50
abbrev n156 : Nat := 52
abbrev n214 : Nat := 54
abbrev n1041 : Nat := 57
abbrev n1042 : Nat := 60
abbrev n1043 : Nat := 61
abbrev n1044 : Nat := 62
abbrev n1045 : Nat := 63
abbrev n1046 : Nat := 64
abbrev n1047 : Nat := 65
abbrev n1048 : Nat := 66
abbrev n1049 : Nat := 67
abbrev n1050 : Nat := 68
abbrev n1051 : Nat := 69
abbrev n1052 : Nat := 70
abbrev n1053 : Nat := 71
abbrev n1054 : Nat := 72
abbrev n1055 : Nat := 73
abbrev n1056 : Nat := 74
abbrev t0 : Nat := 0
abbrev t1 : Nat := 1
abbrev t2 : Nat := 2
abbrev t3 : Nat := 3
abbrev t4 : Nat := 4
abbrev t5 : Nat := 5
abbrev t6 : Nat := 6
abbrev t9 : Nat := 9
abbrev t21 : Nat := 21
abbrev t119 : Nat := 48
abbrev t33 : Nat := 52
abbrev t40 : Nat := 62
abbrev t1035 : Nat := 73
abbrev t86 : Nat := 77
abbrev t1038 : Nat := 78
abbrev t1040 : Nat := 80
abbrev t1041 : Nat := 81
abbrev t151 : Nat := 82
abbrev t1042 : Nat := 83
abbrev g1 : Nat := 0
abbrev g2 : Nat := 1
abbrev g3 : Nat := 2
end Go.Proofs.GR.T

namespace Go.Proofs.GR.T
noncomputable abbrev PP : Program := Tryd.prog
abbrev tI : Ty := .int .i64
abbrev cI : C0 := .dat (.int .i64)
abbrev cB : C0 := .dat .bool
abbrev cS : C0 := .dat .str
abbrev cL (t : Ty) : C0 := .dat (.slice t)
end Go.Proofs.GR.T


set_option maxRecDepth 100000
set_option maxHeartbeats 100000000
namespace Go.Proofs.GR.T
open Go Go.Proofs Go.Proofs.GR
def Sp.f70 (x0 : Int) (x1 : Int) (x2 : Int) := (bif decide (x0 ≥ x1) then (decide (x0 ≤ x2), ()) else (false, ()))
noncomputable def e70 : Ent := { f := 39, ins := [Sh.one (C0.dat (Ty.int IntKind.i64)), Sh.one (C0.dat (Ty.int IntKind.i64)), Sh.one (C0.dat (Ty.int IntKind.i64))], outs := [Sh.one (C0.dat Ty.bool)], upd := [], pre := fun a => true, spec := fun a => (Sp.f70 a.1 a.2.1 a.2.2).1, wrt := fun a => (Sp.f70 a.1 a.2.1 a.2.2).2 }
def f70_g (v : denS [Sh.one (C0.dat Ty.bool)] × denS []) : Res := ⟨mkS [Sh.one (C0.dat Ty.bool)] v.1, mkU [] v.2⟩
theorem f70_raw (x0 : Int) (x1 : Int) (x2 : Int) : abody Γ (orc []) 0 39 [XV.mk false [X.c (X0.dat (Ty.int IntKind.i64) x0)], XV.mk false [X.c (X0.dat (Ty.int IntKind.i64) x1)], XV.mk false [X.c (X0.dat (Ty.int IntKind.i64) x2)]] = bif decide (x0 ≥ x1) then some (Res.mk [XV.mk false [X.c (X0.dat Ty.bool (decide (x0 ≤ x2)))]] []) else some (Res.mk [XV.mk false [X.c (X0.dat Ty.bool false)]] []) := by kernel_rfl
theorem f70_form (x0 : Int) (x1 : Int) (x2 : Int) : (bif decide (x0 ≥ x1) then some (Res.mk [XV.mk false [X.c (X0.dat Ty.bool (decide (x0 ≤ x2)))]] []) else some (Res.mk [XV.mk false [X.c (X0.dat Ty.bool false)]] [])) = some (f70_g (Sp.f70 x0 x1 x2)) := by
  unfold Sp.f70
  exact (cond_plain f70_g (rfl) (rfl))
theorem e70_ok : Valid PP Γ e70 := valid_auto ok vnil fun a => (f70_raw a.1 a.2.1 a.2.2).trans (f70_form a.1 a.2.1 a.2.2)

/-- The first place from 'i' on where something holds; else -1. -/
def Sp.idx {α : Type} (p : α → Bool) : List α → Int → Int
  | [], _ => -1
  | x :: r, i => bif p x then i else Sp.idx p r (i + 1)
end Go.Proofs.GR.T

namespace Go.Proofs.GR.T
open Go Go.Proofs Go.Proofs.GR

end Go.Proofs.GR.T

namespace Go.Proofs.GR.T
open Go Go.Proofs Go.Proofs.GR
namespace Sp
def bit (r : Nat) : Nat := if r % 2 = 1 then (r / 2) ^^^ 3988292384 else r / 2
def bits : Nat → Nat → Nat
  | 0, r => r
  | n + 1, r => bits n (bit r)
def isBytes (xs : List Int) : Bool := xs.all fun x => decide (0 ≤ x) && decide (x < 256)
def eqL {α : Type} [DecidableEq α] (xs ys : List α) : Bool := decide (xs = ys)
def fits {α : Type} (xs : List α) : Bool := decide (xs.length ≤ 140737488355328)
end Sp
theorem chkT {ρ : Type} (k : Option ρ) : chk true k = k := rfl
theorem strBytes_len (s : ByteArray) : (strBytes s).length = s.size := by unfold strBytes; rw [List.length_map, Array.length_toList]; rfl
theorem bytesStr_size (xs : List Int) : (bytesStr xs).size = xs.length := by
  show ((xs.map fun n => UInt8.ofNat n.toNat).toArray).size = _
  rw [List.size_toArray, List.length_map]
end Go.Proofs.GR.T

set_option maxRecDepth 100000
set_option maxHeartbeats 100000000
namespace Go.Proofs.GR.T
open Go Go.Proofs Go.Proofs.GR
abbrev rI (n : Int) : Res := Res.mk [XV.mk false [X.c (X0.dat (Ty.int IntKind.i64) n)]] []
abbrev rBo (b : Bool) : Res := Res.mk [XV.mk false [X.c (X0.dat Ty.bool b)]] []
theorem succ_of {d m : Nat} (h : d < m) : ∃ q, m = q + 1 := ⟨m - 1, by omega⟩
end Go.Proofs.GR.T

set_option maxRecDepth 100000
set_option maxHeartbeats 100000000
namespace Go.Proofs.GR.T
open Go Go.Proofs Go.Proofs.GR
end Go.Proofs.GR.T

namespace Go.Proofs.GR.T
open Go Go.Proofs Go.Proofs.GR
end Go.Proofs.GR.T

set_option maxRecDepth 100000
set_option maxHeartbeats 100000000
namespace Go.Proofs.GR.T
open Go Go.Proofs Go.Proofs.GR
/-- The number of bytes, the highest first. -/
def Sp.num : Nat → List Int → Nat
  | r, [] => r
  | r, x :: l => Sp.num (r * 256 + x.toNat) l
def Sp.eight (xs : List Int) : Bool := yes2 (decide (xs.length ≤ 8)) (Sp.isBytes xs)
end Go.Proofs.GR.T

namespace Go.Proofs.GR.T
open Go Go.Proofs Go.Proofs.GR
end Go.Proofs.GR.T

namespace Go.Proofs.GR.T
open Go Go.Proofs Go.Proofs.GR
end Go.Proofs.GR.T

set_option maxRecDepth 100000
set_option maxHeartbeats 100000000
namespace Go.Proofs.GR.T
open Go Go.Proofs Go.Proofs.GR
def Sp.mdig : Nat → Int → ByteArray → ByteArray
  | 0, _, acc => acc
  | d + 1, r, acc => bif decide (r > 0) then Sp.mdig d (IntKind.i64.wrap (r.tdiv 10)) (bytesStr [IntKind.u8.wrap (IntKind.i64.wrap (48 + r.tmod 10))] ++ acc) else acc
def Sp.mText (k : Int) : ByteArray := bif decide (k ≤ 0) then ByteArray.mk #[109, 48] else ByteArray.mk #[109] ++ Sp.mdig 19 k (ByteArray.mk #[])
def Sp.mOK (k : Int) : Bool := decide (k.toNat ≤ 4611686018427387904)
noncomputable def f75_L0 (n m0 : Nat) (y0 : Int) (y1 : ByteArray) : Option Res := loopAt Γ (orc []) n (23 : Nat) (0 : Nat) [] [Pth.r, Pth.r, Pth.r, Pth.l, Pth.b] m0 (St.mk [Slot.val (Val.one (Cell.dat (Ty.int IntKind.i64) y0)), Slot.nix, Slot.nix, Slot.val (Val.one (Cell.dat Ty.str y1)), Slot.nix, Slot.nix, Slot.nix, Slot.nix, Slot.nix, Slot.nix, Slot.nix, Slot.nix, Slot.nix, Slot.nix, Slot.nix, Slot.nix, Slot.nix, Slot.nix, Slot.nix, Slot.nix] [])
theorem f75_L0_step (n m0 : Nat) (y0 : Int) (y1 : ByteArray) : f75_L0 n (m0 + 1) y0 y1 = bif decide (y0 > (0 : Int)) then chk (decide ((bytesStr [IntKind.u8.wrap (IntKind.i64.wrap ((48 : Int) + y0.tmod (10 : Int)))]).size + y1.size ≤ (9223372036854775807 : Nat))) (f75_L0 n m0 (IntKind.i64.wrap (y0.tdiv (10 : Int))) (bytesStr [IntKind.u8.wrap (IntKind.i64.wrap ((48 : Int) + y0.tmod (10 : Int)))] ++ y1)) else chk (decide ((1 : Nat) + y1.size ≤ (9223372036854775807 : Nat))) (some (Res.mk [XV.mk false [X.c (X0.dat Ty.str (ByteArray.mk #[(109 : UInt8)] ++ y1))]] [])) := by kernel_rfl
theorem f75_raw (n : Nat) (x0 : Int) : abody Γ (orc []) n 23 [XV.mk false [X.c (X0.dat (Ty.int IntKind.i64) x0)]] = bif decide (x0 ≤ (0 : Int)) then some (Res.mk [XV.mk false [X.c (X0.dat Ty.str (ByteArray.mk #[(109 : UInt8), (48 : UInt8)]))]] []) else f75_L0 n n x0 (ByteArray.mk #[]) := by kernel_rfl

noncomputable def e75 : Ent := { f := n75, ins := [Sh.one cI], outs := [Sh.one cS], upd := [], pre := fun a => Sp.mOK a, spec := fun a => Sp.mText a, wrt := fun _ => () }
abbrev rS (s : ByteArray) : Res := Res.mk [XV.mk false [X.c (X0.dat Ty.str s)]] []
theorem f75_loop (n : Nat) : ∀ (d m : Nat) (r : Int) (acc : ByteArray), r.toNat < 10 ^ d → r.toNat ≤ 4611686018427387904 → acc.size + d ≤ 19 → d < m →
    f75_L0 n m r acc = some (rS (ByteArray.mk #[109] ++ Sp.mdig d r acc)) := by
  intro d
  induction d with
  | zero =>
    intro m r acc hr hr2 ha hm
    obtain ⟨m, rfl⟩ := succ_of hm
    rw [f75_L0_step, decide_eq_false (by omega), decide_eq_true (show 1 + acc.size ≤ 9223372036854775807 by omega), cond_false, chkT, Sp.mdig]
  | succ d ih =>
    intro m r acc hr hr2 ha hm
    obtain ⟨m, rfl⟩ := succ_of hm
    rw [f75_L0_step]
    by_cases h0 : r > 0
    · have hsz : (bytesStr [IntKind.u8.wrap (IntKind.i64.wrap (48 + r.tmod 10))]).size = 1 := by rw [bytesStr_size]; rfl
      rw [decide_eq_true h0, hsz, decide_eq_true (show 1 + acc.size ≤ 9223372036854775807 by omega), cond_true, chkT, Sp.mdig, decide_eq_true h0, cond_true]
      have e : r.tdiv 10 = ((r.toNat / 10 : Nat) : Int) := by
        rw [Int.tdiv_eq_ediv_of_nonneg (by omega)]; omega
      have e2 : IntKind.i64.wrap (r.tdiv 10) = ((r.toNat / 10 : Nat) : Int) := by rw [e]; exact wrap64 (by omega) (by omega)
      rw [e2]
      refine ih m _ _ ?_ ?_ ?_ (by omega)
      · rw [Int.toNat_natCast]; rw [Nat.pow_succ] at hr; omega
      · rw [Int.toNat_natCast]; omega
      · rw [ByteArray.size_append, hsz]; omega
    · rw [decide_eq_false h0, decide_eq_true (show 1 + acc.size ≤ 9223372036854775807 by omega), Sp.mdig, decide_eq_false h0, cond_false, cond_false, chkT]
theorem e75_core (k : Int) (h : Sp.mOK k = true) : ∃ n, abody Γ (orc []) n n75 [XV.mk false [X.c (X0.dat (Ty.int IntKind.i64) k)]] = some (rS (Sp.mText k)) := by
  have h1 : k.toNat ≤ 4611686018427387904 := of_decide_eq_true h
  refine ⟨20, (f75_raw 20 k).trans ?_⟩
  unfold Sp.mText
  by_cases h0 : k ≤ 0
  · rw [decide_eq_true h0]; rfl
  · rw [decide_eq_false h0, cond_false, cond_false]
    exact f75_loop 20 19 20 k _ (by omega) h1 (by decide) (by omega)
theorem e75_ok : Valid PP Γ e75 := valid_of ok vnil fun a ha => e75_core a ha
def Sp.eqS : List ByteArray → List ByteArray → Bool
  | [], [] => true
  | x :: r, y :: s => bif !(x.toList == y.toList) then false else Sp.eqS r s
  | _, _ => false
end Go.Proofs.GR.T

set_option maxRecDepth 100000
set_option maxHeartbeats 100000000
namespace Go.Proofs.GR.T
open Go Go.Proofs Go.Proofs.GR
end Go.Proofs.GR.T

namespace Go.Proofs.GR.T
open Go Go.Proofs Go.Proofs.GR
end Go.Proofs.GR.T

set_option maxRecDepth 100000
set_option maxHeartbeats 100000000
namespace Go.Proofs.GR.T
open Go Go.Proofs Go.Proofs.GR
def Sp.f79 (x0 : Int) (x1 : Int) (x2 : Int) := (bif decide (x0 ≥ x1) then (decide (x0 ≤ x2), ()) else (false, ()))
noncomputable def e79 : Ent := { f := 30, ins := [Sh.one (C0.dat (Ty.int IntKind.i64)), Sh.one (C0.dat (Ty.int IntKind.i64)), Sh.one (C0.dat (Ty.int IntKind.i64))], outs := [Sh.one (C0.dat Ty.bool)], upd := [], pre := fun a => true, spec := fun a => (Sp.f79 a.1 a.2.1 a.2.2).1, wrt := fun a => (Sp.f79 a.1 a.2.1 a.2.2).2 }
def f79_g (v : denS [Sh.one (C0.dat Ty.bool)] × denS []) : Res := ⟨mkS [Sh.one (C0.dat Ty.bool)] v.1, mkU [] v.2⟩
theorem f79_raw (x0 : Int) (x1 : Int) (x2 : Int) : abody Γ (orc []) 0 30 [XV.mk false [X.c (X0.dat (Ty.int IntKind.i64) x0)], XV.mk false [X.c (X0.dat (Ty.int IntKind.i64) x1)], XV.mk false [X.c (X0.dat (Ty.int IntKind.i64) x2)]] = bif decide (x0 ≥ x1) then some (Res.mk [XV.mk false [X.c (X0.dat Ty.bool (decide (x0 ≤ x2)))]] []) else some (Res.mk [XV.mk false [X.c (X0.dat Ty.bool false)]] []) := by kernel_rfl
theorem f79_form (x0 : Int) (x1 : Int) (x2 : Int) : (bif decide (x0 ≥ x1) then some (Res.mk [XV.mk false [X.c (X0.dat Ty.bool (decide (x0 ≤ x2)))]] []) else some (Res.mk [XV.mk false [X.c (X0.dat Ty.bool false)]] [])) = some (f79_g (Sp.f79 x0 x1 x2)) := by
  unfold Sp.f79
  exact (cond_plain f79_g (rfl) (rfl))
theorem e79_ok : Valid PP Γ e79 := valid_auto ok vnil fun a => (f79_raw a.1 a.2.1 a.2.2).trans (f79_form a.1 a.2.1 a.2.2)

def Sp.f136 (x0 : Int) (x1 : Int) (x2 : ByteArray) := (bif x0 == (0 : Int) then (bif x1 == (0 : Int) then (x2.toList == (ByteArray.mk #[]).toList, ()) else (false, ())) else (bif x0 == (1 : Int) then (bif (Sp.f79 x1 (0 : Int) (1 : Int)).1 then (x2.toList == (ByteArray.mk #[]).toList, ()) else (false, ())) else (bif x0 == (2 : Int) then (x2.toList == (ByteArray.mk #[]).toList, ()) else (bif x0 == (3 : Int) then (bif x0 == (3 : Int) then (bif x1 == (0 : Int) then (decide ((↑x2.size : Int) ≤ (60 : Int)), ()) else (false, ())) else (false, ())) else (bif x0 == (4 : Int) then (bif x1 == (0 : Int) then (decide ((↑x2.size : Int) ≤ (60 : Int)), ()) else (false, ())) else (false, ()))))))
noncomputable def e136 : Ent := { f := 29, ins := [Sh.agg [C0.dat (Ty.int IntKind.i64), C0.dat (Ty.int IntKind.i64), C0.dat Ty.str]], outs := [Sh.one (C0.dat Ty.bool)], upd := [], pre := fun a => true, spec := fun a => (Sp.f136 a.1 a.2.1 a.2.2).1, wrt := fun a => (Sp.f136 a.1 a.2.1 a.2.2).2 }
def f136_g (v : denS [Sh.one (C0.dat Ty.bool)] × denS []) : Res := ⟨mkS [Sh.one (C0.dat Ty.bool)] v.1, mkU [] v.2⟩
theorem f136_raw (x0 : Int) (x1 : Int) (x2 : ByteArray) : abody Γ (orc [e79]) 0 29 [XV.mk true [X.c (X0.dat (Ty.int IntKind.i64) x0), X.c (X0.dat (Ty.int IntKind.i64) x1), X.c (X0.dat Ty.str x2)]] = bif x0 == (0 : Int) then bif x1 == (0 : Int) then some (Res.mk [XV.mk false [X.c (X0.dat Ty.bool (x2.toList == (ByteArray.mk #[]).toList))]] []) else some (Res.mk [XV.mk false [X.c (X0.dat Ty.bool false)]] []) else bif x0 == (1 : Int) then bif (Sp.f79 x1 (0 : Int) (1 : Int)).1 then some (Res.mk [XV.mk false [X.c (X0.dat Ty.bool (x2.toList == (ByteArray.mk #[]).toList))]] []) else some (Res.mk [XV.mk false [X.c (X0.dat Ty.bool false)]] []) else bif x0 == (2 : Int) then some (Res.mk [XV.mk false [X.c (X0.dat Ty.bool (x2.toList == (ByteArray.mk #[]).toList))]] []) else bif x0 == (3 : Int) then bif x0 == (3 : Int) then bif x1 == (0 : Int) then some (Res.mk [XV.mk false [X.c (X0.dat Ty.bool (decide ((↑x2.size : Int) ≤ (60 : Int))))]] []) else some (Res.mk [XV.mk false [X.c (X0.dat Ty.bool false)]] []) else some (Res.mk [XV.mk false [X.c (X0.dat Ty.bool false)]] []) else bif x0 == (4 : Int) then bif x1 == (0 : Int) then some (Res.mk [XV.mk false [X.c (X0.dat Ty.bool (decide ((↑x2.size : Int) ≤ (60 : Int))))]] []) else some (Res.mk [XV.mk false [X.c (X0.dat Ty.bool false)]] []) else some (Res.mk [XV.mk false [X.c (X0.dat Ty.bool false)]] []) := by kernel_rfl
theorem f136_form (x0 : Int) (x1 : Int) (x2 : ByteArray) : (bif x0 == (0 : Int) then bif x1 == (0 : Int) then some (Res.mk [XV.mk false [X.c (X0.dat Ty.bool (x2.toList == (ByteArray.mk #[]).toList))]] []) else some (Res.mk [XV.mk false [X.c (X0.dat Ty.bool false)]] []) else bif x0 == (1 : Int) then bif (Sp.f79 x1 (0 : Int) (1 : Int)).1 then some (Res.mk [XV.mk false [X.c (X0.dat Ty.bool (x2.toList == (ByteArray.mk #[]).toList))]] []) else some (Res.mk [XV.mk false [X.c (X0.dat Ty.bool false)]] []) else bif x0 == (2 : Int) then some (Res.mk [XV.mk false [X.c (X0.dat Ty.bool (x2.toList == (ByteArray.mk #[]).toList))]] []) else bif x0 == (3 : Int) then bif x0 == (3 : Int) then bif x1 == (0 : Int) then some (Res.mk [XV.mk false [X.c (X0.dat Ty.bool (decide ((↑x2.size : Int) ≤ (60 : Int))))]] []) else some (Res.mk [XV.mk false [X.c (X0.dat Ty.bool false)]] []) else some (Res.mk [XV.mk false [X.c (X0.dat Ty.bool false)]] []) else bif x0 == (4 : Int) then bif x1 == (0 : Int) then some (Res.mk [XV.mk false [X.c (X0.dat Ty.bool (decide ((↑x2.size : Int) ≤ (60 : Int))))]] []) else some (Res.mk [XV.mk false [X.c (X0.dat Ty.bool false)]] []) else some (Res.mk [XV.mk false [X.c (X0.dat Ty.bool false)]] [])) = some (f136_g (Sp.f136 x0 x1 x2)) := by
  unfold Sp.f136
  exact (cond_plain f136_g ((cond_plain f136_g (rfl) (rfl))) ((cond_plain f136_g ((cond_plain f136_g (rfl) (rfl))) ((cond_plain f136_g (rfl) ((cond_plain f136_g ((cond_plain f136_g ((cond_plain f136_g (rfl) (rfl))) (rfl))) ((cond_plain f136_g ((cond_plain f136_g (rfl) (rfl))) (rfl))))))))))
theorem e136_ok : Valid PP Γ e136 := valid_auto ok (vcons e79_ok vnil) fun a => (f136_raw a.1 a.2.1 a.2.2).trans (f136_form a.1 a.2.1 a.2.2)

def Sp.f167 (x0 : Int) := (bif x0 == (3 : Int) then (true, ()) else (x0 == (4 : Int), ()))
noncomputable def e167 : Ent := { f := 49, ins := [Sh.one (C0.dat (Ty.int IntKind.i64))], outs := [Sh.one (C0.dat Ty.bool)], upd := [], pre := fun a => true, spec := fun a => (Sp.f167 a).1, wrt := fun a => (Sp.f167 a).2 }
def f167_g (v : denS [Sh.one (C0.dat Ty.bool)] × denS []) : Res := ⟨mkS [Sh.one (C0.dat Ty.bool)] v.1, mkU [] v.2⟩
theorem f167_raw (x0 : Int) : abody Γ (orc []) 0 49 [XV.mk false [X.c (X0.dat (Ty.int IntKind.i64) x0)]] = bif x0 == (3 : Int) then some (Res.mk [XV.mk false [X.c (X0.dat Ty.bool true)]] []) else some (Res.mk [XV.mk false [X.c (X0.dat Ty.bool (x0 == (4 : Int)))]] []) := by kernel_rfl
theorem f167_form (x0 : Int) : (bif x0 == (3 : Int) then some (Res.mk [XV.mk false [X.c (X0.dat Ty.bool true)]] []) else some (Res.mk [XV.mk false [X.c (X0.dat Ty.bool (x0 == (4 : Int)))]] [])) = some (f167_g (Sp.f167 x0)) := by
  unfold Sp.f167
  exact (cond_plain f167_g (rfl) (rfl))
theorem e167_ok : Valid PP Γ e167 := valid_auto ok vnil fun a => (f167_raw a).trans (f167_form a)

def Sp.f171 (x0 : Int) (x1 : Int) (x2 : ByteArray) := (bif x0 == (0 : Int) then (bif x1 == (0 : Int) then (x2.toList == (ByteArray.mk #[]).toList, ()) else (false, ())) else (bif x0 == (1 : Int) then (bif (Sp.f70 x1 (0 : Int) (1 : Int)).1 then (x2.toList == (ByteArray.mk #[]).toList, ()) else (false, ())) else (bif x0 == (2 : Int) then (x2.toList == (ByteArray.mk #[]).toList, ()) else (bif (Sp.f167 x0).1 then (bif x1 == (0 : Int) then (decide ((↑x2.size : Int) ≤ (60 : Int)), ()) else (false, ())) else (false, ())))))
noncomputable def e171 : Ent := { f := 38, ins := [Sh.agg [C0.dat (Ty.int IntKind.i64), C0.dat (Ty.int IntKind.i64), C0.dat Ty.str]], outs := [Sh.one (C0.dat Ty.bool)], upd := [], pre := fun a => true, spec := fun a => (Sp.f171 a.1 a.2.1 a.2.2).1, wrt := fun a => (Sp.f171 a.1 a.2.1 a.2.2).2 }
def f171_g (v : denS [Sh.one (C0.dat Ty.bool)] × denS []) : Res := ⟨mkS [Sh.one (C0.dat Ty.bool)] v.1, mkU [] v.2⟩
theorem f171_raw (x0 : Int) (x1 : Int) (x2 : ByteArray) : abody Γ (orc [e70, e167]) 0 38 [XV.mk true [X.c (X0.dat (Ty.int IntKind.i64) x0), X.c (X0.dat (Ty.int IntKind.i64) x1), X.c (X0.dat Ty.str x2)]] = bif x0 == (0 : Int) then bif x1 == (0 : Int) then some (Res.mk [XV.mk false [X.c (X0.dat Ty.bool (x2.toList == (ByteArray.mk #[]).toList))]] []) else some (Res.mk [XV.mk false [X.c (X0.dat Ty.bool false)]] []) else bif x0 == (1 : Int) then bif (Sp.f70 x1 (0 : Int) (1 : Int)).1 then some (Res.mk [XV.mk false [X.c (X0.dat Ty.bool (x2.toList == (ByteArray.mk #[]).toList))]] []) else some (Res.mk [XV.mk false [X.c (X0.dat Ty.bool false)]] []) else bif x0 == (2 : Int) then some (Res.mk [XV.mk false [X.c (X0.dat Ty.bool (x2.toList == (ByteArray.mk #[]).toList))]] []) else bif (Sp.f167 x0).1 then bif x1 == (0 : Int) then some (Res.mk [XV.mk false [X.c (X0.dat Ty.bool (decide ((↑x2.size : Int) ≤ (60 : Int))))]] []) else some (Res.mk [XV.mk false [X.c (X0.dat Ty.bool false)]] []) else some (Res.mk [XV.mk false [X.c (X0.dat Ty.bool false)]] []) := by kernel_rfl
theorem f171_form (x0 : Int) (x1 : Int) (x2 : ByteArray) : (bif x0 == (0 : Int) then bif x1 == (0 : Int) then some (Res.mk [XV.mk false [X.c (X0.dat Ty.bool (x2.toList == (ByteArray.mk #[]).toList))]] []) else some (Res.mk [XV.mk false [X.c (X0.dat Ty.bool false)]] []) else bif x0 == (1 : Int) then bif (Sp.f70 x1 (0 : Int) (1 : Int)).1 then some (Res.mk [XV.mk false [X.c (X0.dat Ty.bool (x2.toList == (ByteArray.mk #[]).toList))]] []) else some (Res.mk [XV.mk false [X.c (X0.dat Ty.bool false)]] []) else bif x0 == (2 : Int) then some (Res.mk [XV.mk false [X.c (X0.dat Ty.bool (x2.toList == (ByteArray.mk #[]).toList))]] []) else bif (Sp.f167 x0).1 then bif x1 == (0 : Int) then some (Res.mk [XV.mk false [X.c (X0.dat Ty.bool (decide ((↑x2.size : Int) ≤ (60 : Int))))]] []) else some (Res.mk [XV.mk false [X.c (X0.dat Ty.bool false)]] []) else some (Res.mk [XV.mk false [X.c (X0.dat Ty.bool false)]] [])) = some (f171_g (Sp.f171 x0 x1 x2)) := by
  unfold Sp.f171
  exact (cond_plain f171_g ((cond_plain f171_g (rfl) (rfl))) ((cond_plain f171_g ((cond_plain f171_g (rfl) (rfl))) ((cond_plain f171_g (rfl) ((cond_plain f171_g ((cond_plain f171_g (rfl) (rfl))) (rfl))))))))
theorem e171_ok : Valid PP Γ e171 := valid_auto ok (vcons e70_ok (vcons e167_ok vnil)) fun a => (f171_raw a.1 a.2.1 a.2.2).trans (f171_form a.1 a.2.1 a.2.2)

def Sp.f86 (x0 : Int) (x1 : Int) (x2 : ByteArray) (x3 : Int) (x4 : Int) (x5 : ByteArray) := (bif x0 != x3 then (false, ()) else (bif x1 != x4 then (false, ()) else (bif !x2.toList == x5.toList then (false, ()) else (true, ()))))
noncomputable def e86 : Ent := { f := 22, ins := [Sh.agg [C0.dat (Ty.int IntKind.i64), C0.dat (Ty.int IntKind.i64), C0.dat Ty.str], Sh.agg [C0.dat (Ty.int IntKind.i64), C0.dat (Ty.int IntKind.i64), C0.dat Ty.str]], outs := [Sh.one (C0.dat Ty.bool)], upd := [], pre := fun a => true, spec := fun a => (Sp.f86 a.1.1 a.1.2.1 a.1.2.2 a.2.1 a.2.2.1 a.2.2.2).1, wrt := fun a => (Sp.f86 a.1.1 a.1.2.1 a.1.2.2 a.2.1 a.2.2.1 a.2.2.2).2 }
def f86_g (v : denS [Sh.one (C0.dat Ty.bool)] × denS []) : Res := ⟨mkS [Sh.one (C0.dat Ty.bool)] v.1, mkU [] v.2⟩
theorem f86_raw (x0 : Int) (x1 : Int) (x2 : ByteArray) (x3 : Int) (x4 : Int) (x5 : ByteArray) : abody Γ (orc []) 0 22 [XV.mk true [X.c (X0.dat (Ty.int IntKind.i64) x0), X.c (X0.dat (Ty.int IntKind.i64) x1), X.c (X0.dat Ty.str x2)], XV.mk true [X.c (X0.dat (Ty.int IntKind.i64) x3), X.c (X0.dat (Ty.int IntKind.i64) x4), X.c (X0.dat Ty.str x5)]] = bif x0 != x3 then some (Res.mk [XV.mk false [X.c (X0.dat Ty.bool false)]] []) else bif x1 != x4 then some (Res.mk [XV.mk false [X.c (X0.dat Ty.bool false)]] []) else bif !x2.toList == x5.toList then some (Res.mk [XV.mk false [X.c (X0.dat Ty.bool false)]] []) else some (Res.mk [XV.mk false [X.c (X0.dat Ty.bool true)]] []) := by kernel_rfl
theorem f86_form (x0 : Int) (x1 : Int) (x2 : ByteArray) (x3 : Int) (x4 : Int) (x5 : ByteArray) : (bif x0 != x3 then some (Res.mk [XV.mk false [X.c (X0.dat Ty.bool false)]] []) else bif x1 != x4 then some (Res.mk [XV.mk false [X.c (X0.dat Ty.bool false)]] []) else bif !x2.toList == x5.toList then some (Res.mk [XV.mk false [X.c (X0.dat Ty.bool false)]] []) else some (Res.mk [XV.mk false [X.c (X0.dat Ty.bool true)]] [])) = some (f86_g (Sp.f86 x0 x1 x2 x3 x4 x5)) := by
  unfold Sp.f86
  exact (cond_plain f86_g (rfl) ((cond_plain f86_g (rfl) ((cond_plain f86_g (rfl) (rfl))))))
theorem e86_ok : Valid PP Γ e86 := valid_auto ok vnil fun a => (f86_raw a.1.1 a.1.2.1 a.1.2.2 a.2.1 a.2.2.1 a.2.2.2).trans (f86_form a.1.1 a.1.2.1 a.1.2.2 a.2.1 a.2.2.1 a.2.2.2)

def Sp.takeB (b : List Int) (a : Int) (bad : Bool) (n : Int) : Bool := bif bad then true else bif decide (n < 0) then true else decide (a + n > (b.length : Int))
def Sp.takeV (b : List Int) (a : Int) (bad : Bool) (n : Int) : List Int := bif Sp.takeB b a bad n then List.replicate (maxI 0 (minI n 8)).toNat 0 else (b.drop a.toNat).take n.toNat
def Sp.of8 (xs : List Int) : Int := (Sp.num 0 (xs.take 8) : Int) - 9223372036854775808
end Go.Proofs.GR.T

set_option maxRecDepth 100000
set_option maxHeartbeats 100000000
namespace Go.Proofs.GR.T
open Go Go.Proofs Go.Proofs.GR
def Sp.kt : List Int → List Int → Int → ByteArray × Int
  | [], _, _ => (ByteArray.mk #[], 0)
  | [x], acc, i => (ByteArray.mk #[], 0)
  | x :: y :: r, acc, i => bif x != 0 then Sp.kt (y :: r) (acc ++ [x]) (i + 1) else bif y == 1 then (bytesStr acc, i + 2) else bif y != 255 then (ByteArray.mk #[], 0) else Sp.kt r (acc ++ [0]) (i + 2)
abbrev V3 := Int × Int × ByteArray
def Sp.zv : V3 := (0, 0, ByteArray.empty)
def Sp.cellC (x : Int) (r : List Int) (row : Bool) : V3 × Int :=
    bif x == 0 then ((0, 0, ByteArray.empty), 1)
    else bif x == 1 then (match r with | [] => (Sp.zv, 0) | y :: _ => ((1, y, ByteArray.empty), 2))
    else bif x == 2 then (bif Nat.ble 8 r.length then ((2, Sp.of8 r, ByteArray.empty), 9) else (Sp.zv, 0))
    else bif (Sp.f167 x).1 then
      bif !row then (bif decide ((Sp.kt r [] 0).2 > 0) then ((x, 0, (Sp.kt r [] 0).1), IntKind.i64.wrap ((Sp.kt r [] 0).2 + 1)) else (Sp.zv, 0))
      else (match r with | [] => (Sp.zv, 0) | y :: r' => bif Nat.ble y.toNat r'.length then ((x, 0, bytesStr (r'.take y.toNat)), 2 + y) else (Sp.zv, 0))
    else (Sp.zv, 0)
def Sp.cell : List Int → Bool → V3 × Int
  | [], _ => (Sp.zv, 0)
  | x :: r, row => Sp.cellC x r row
end Go.Proofs.GR.T

namespace Go.Proofs.GR.T
open Go Go.Proofs Go.Proofs.GR
namespace Sp
def eqW {α β : Type} (q : α → β → Bool) : List α → List β → Bool
  | [], [] => true
  | x :: r, y :: s => bif !q x y then false else eqW q r s
  | _, _ => false
def allW {α : Type} (p : α → Bool) : List α → Bool
  | [] => true
  | x :: r => bif !p x then false else allW p r
end Sp
theorem eqW_len {α β : Type} {q : α → β → Bool} : ∀ {xs : List α} {ys : List β}, xs.length ≠ ys.length → Sp.eqW q xs ys = false
  | [], [], h => absurd rfl h
  | [], _ :: _, _ => rfl
  | _ :: _, [], _ => rfl
  | x :: r, y :: s, h => by
    unfold Sp.eqW
    rw [eqW_len (xs := r) (ys := s) (fun e => h (by simp [e]))]
    cases !q x y <;> rfl
theorem eq_loop {α : Type} {ρ : Type} {q : α → α → Bool} {R : Bool → ρ} (xs ys : List α) (L : Nat → Int → Option ρ) (hy : xs.length = ys.length)
    (hend : ∀ m (k : Nat), xs.length ≤ k → L (m + 1) k = some (R true))
    (hstep : ∀ m (k : Nat) (h : k < xs.length) (h2 : k < ys.length), L (m + 1) k = bif !q xs[k] ys[k] then some (R false) else L m ((k + 1 : Nat) : Int)) :
    ∀ (d k m : Nat), k + d = xs.length → d < m → L m k = some (R (Sp.eqW q (xs.drop k) (ys.drop k))) := by
  intro d
  induction d with
  | zero =>
    intro k m hk hm
    obtain ⟨m, rfl⟩ := succ_of hm
    rw [hend m k (by omega), List.drop_of_length_le (by omega), List.drop_of_length_le (by omega)]
    rfl
  | succ d ih =>
    intro k m hk hm
    obtain ⟨m, rfl⟩ := succ_of hm
    rw [hstep m k (by omega) (by omega), ih (k + 1) m (by omega) (by omega), List.drop_eq_getElem_cons (show k < xs.length by omega), List.drop_eq_getElem_cons (show k < ys.length by omega)]
    rw [Sp.eqW]
    cases !q xs[k] ys[k] <;> rfl
theorem all_loop {α : Type} {ρ : Type} {p : α → Bool} {R : Bool → ρ} (xs : List α) (L : Nat → Int → Option ρ)
    (hend : ∀ m (k : Nat), xs.length ≤ k → L (m + 1) k = some (R true))
    (hstep : ∀ m (k : Nat) (h : k < xs.length), L (m + 1) k = bif !p xs[k] then some (R false) else L m ((k + 1 : Nat) : Int)) :
    ∀ (d k m : Nat), k + d = xs.length → d < m → L m k = some (R (Sp.allW p (xs.drop k))) := by
  intro d
  induction d with
  | zero =>
    intro k m hk hm
    obtain ⟨m, rfl⟩ := succ_of hm
    rw [hend m k (by omega), List.drop_of_length_le (by omega)]
    rfl
  | succ d ih =>
    intro k m hk hm
    obtain ⟨m, rfl⟩ := succ_of hm
    rw [hstep m k (by omega), ih (k + 1) m (by omega) (by omega), List.drop_eq_getElem_cons (show k < xs.length by omega)]
    rw [Sp.allW]
    cases !p xs[k] <;> rfl
theorem idx_loop {α : Type} {ρ : Type} {p : α → Bool} {R : Int → ρ} (xs : List α) (L : Nat → Int → Option ρ)
    (hend : ∀ m (k : Nat), xs.length ≤ k → L (m + 1) k = some (R (-1)))
    (hstep : ∀ m (k : Nat) (h : k < xs.length), L (m + 1) k = bif p xs[k] then some (R k) else L m ((k + 1 : Nat) : Int)) :
    ∀ (d k m : Nat), k + d = xs.length → d < m → L m k = some (R (Sp.idx p (xs.drop k) k)) := by
  intro d
  induction d with
  | zero =>
    intro k m hk hm
    obtain ⟨m, rfl⟩ := succ_of hm
    rw [hend m k (by omega), List.drop_of_length_le (by omega)]
    rfl
  | succ d ih =>
    intro k m hk hm
    obtain ⟨m, rfl⟩ := succ_of hm
    rw [hstep m k (by omega), ih (k + 1) m (by omega) (by omega), List.drop_eq_getElem_cons (show k < xs.length by omega)]
    rw [Sp.idx]
    rw [show ((k + 1 : Nat) : Int) = (k : Int) + 1 by omega]
    cases p xs[k] <;> rfl
theorem getD_nat {α : Type} (xs : List α) (k : Nat) (d : α) (h : k < xs.length) : xs.getD (k : Int).toNat d = xs[k] := by
  rw [Int.toNat_natCast, List.getD, List.getElem?_eq_getElem h, Option.getD_some]
theorem guard2 {k n : Nat} (h : k < n) : (decide ((0 : Int) ≤ (k : Int)) && decide ((k : Int) < (n : Int))) = true := by
  rw [decide_eq_true (show (0 : Int) ≤ k by omega), decide_eq_true (show (k : Int) < n by omega)]; rfl
theorem guard0 {k : Nat} : (decide ((0 : Int) ≤ (k : Int)) && true) = true := by
  rw [decide_eq_true (show (0 : Int) ≤ k by omega)]; rfl
theorem getD_set {α : Type} {l : List α} {k : Nat} {y d : α} (h : k < l.length) : (l.set k y).getD k d = y := by
  rw [List.getD, List.getElem?_set_self h, Option.getD_some]
theorem next64 {k n : Nat} (h : k < n) (h2 : n ≤ 9223372036854775807) : IntKind.i64.wrap ((k : Int) + 1) = ((k + 1 : Nat) : Int) := by
  rw [wrap64 (by omega) (by omega)]; omega
theorem nat_lt {k n : Nat} (h : k < n) : decide ((k : Int) < (n : Int)) = true := decide_eq_true (by omega)
theorem nat_ge {k n : Nat} (h : n ≤ k) : decide ((k : Int) < (n : Int)) = false := decide_eq_false (by omega)
end Go.Proofs.GR.T

set_option maxRecDepth 100000
set_option maxHeartbeats 100000000
namespace Go.Proofs.GR.T
open Go Go.Proofs Go.Proofs.GR
abbrev rMk (τ : Ty) (v : Int) (xs : List τ.den) : Res := Res.mk [XV.mk false [X.c (X0.dat (Ty.int IntKind.i64) v)]] [X.c (X0.row τ xs true)]
theorem mOK_of {k : Int} (h : k ≤ 4611686018427387904) : Sp.mOK k = true := decide_eq_true (by omega)
end Go.Proofs.GR.T

set_option maxRecDepth 100000
set_option maxHeartbeats 100000000
namespace Go.Proofs.GR.T
open Go Go.Proofs Go.Proofs.GR
end Go.Proofs.GR.T

namespace Go.Proofs.GR.T
open Go Go.Proofs Go.Proofs.GR
end Go.Proofs.GR.T

set_option maxRecDepth 100000
set_option maxHeartbeats 100000000
namespace Go.Proofs.GR.T
open Go Go.Proofs Go.Proofs.GR
def Sp.hi (n j : Int) : Int := IntKind.u8.wrap (n.fdiv ((2 : Int) ^ min (IntKind.u64.wrap (IntKind.i64.wrap ((8 : Int) * j))).toNat (64 : Nat)))
def Sp.key8 (n : Int) : List Int := [IntKind.u8.wrap (((BitVec.ofInt (8 : Nat) (Sp.hi n 7) ^^^ BitVec.ofInt (8 : Nat) (128 : Int)).toNat : Nat) : Int), Sp.hi n 6, Sp.hi n 5, Sp.hi n 4, Sp.hi n 3, Sp.hi n 2, Sp.hi n 1, Sp.hi n 0]
def Sp.left (b : List Int) (a : Int) (bad : Bool) : Nat := bif bad then 0 else (b.length - a.toNat) + 1
def Sp.esc : List Int → List Int
  | [] => []
  | x :: r => bif x == 0 then x :: 255 :: Sp.esc r else x :: Sp.esc r
def Sp.kv1 (v : V3) : List Int :=
  IntKind.u8.wrap v.1 :: (bif v.1 == 1 then [IntKind.u8.wrap v.2.1] else bif v.1 == 2 then Sp.key8 v.2.1
    else bif (bif v.1 == 3 then true else v.1 == 4) then Sp.esc (strBytes v.2.2) ++ [0, 1] else [])
def Sp.key : List V3 → List Int
  | [] => []
  | v :: r => Sp.kv1 v ++ Sp.key r
end Go.Proofs.GR.T

set_option maxRecDepth 100000
set_option maxHeartbeats 100000000
namespace Go.Proofs.GR.T
open Go Go.Proofs Go.Proofs.GR
end Go.Proofs.GR.T

namespace Go.Proofs.GR.T
open Go Go.Proofs Go.Proofs.GR
end Go.Proofs.GR.T

namespace Go.Proofs.GR.T
open Go Go.Proofs Go.Proofs.GR
namespace Sp
def szW {α : Type} (f : α → Int → Int) : List α → Int → Int
  | [], l => l
  | x :: r, l => bif decide (f x l < 0) then -1 else szW f r (f x l)
def szE {α : Type} (f : α → Int → Int) (xs : List α) (l : Int) : Int := bif decide (IntKind.i64.wrap (l - (xs.length : Int)) < 0) then -1 else szW f xs (IntKind.i64.wrap (l - (xs.length : Int)))
end Sp
theorem sz_loop {α : Type} {ρ : Type} {f : α → Int → Int} {R : Int → ρ} (xs : List α) (L : Nat → Int → Int → Option ρ)
    (hend : ∀ m (v : Int) (k : Nat), xs.length ≤ k → L (m + 1) v k = some (R v))
    (hstep : ∀ m (v : Int) (k : Nat) (h : k < xs.length), L (m + 1) v k = bif decide (f xs[k] v < 0) then some (R (-1)) else L m (f xs[k] v) ((k + 1 : Nat) : Int)) :
    ∀ (d k m : Nat) (v : Int), k + d = xs.length → d < m → L m v k = some (R (Sp.szW f (xs.drop k) v)) := by
  intro d
  induction d with
  | zero =>
    intro k m v hk hm
    obtain ⟨m, rfl⟩ := succ_of hm
    rw [hend m v k (by omega), List.drop_of_length_le (by omega)]
    rfl
  | succ d ih =>
    intro k m v hk hm
    obtain ⟨m, rfl⟩ := succ_of hm
    rw [hstep m v k (by omega), ih (k + 1) m _ (by omega) (by omega), List.drop_eq_getElem_cons (show k < xs.length by omega), Sp.szW]
    cases decide (f xs[k] v < 0) <;> rfl
theorem to_loop {α : Type} {ρ : Type} {R : List α → ρ} (xs : List α) (L : Nat → Int → List α → Option ρ)
    (hend : ∀ m (k : Nat) acc, xs.length ≤ k → L (m + 1) k acc = some (R acc))
    (hstep : ∀ m (k : Nat) acc (h : k < xs.length), acc.length = xs.length → L (m + 1) k acc = L m ((k + 1 : Nat) : Int) (acc.set k xs[k])) :
    ∀ (d k m : Nat) (acc : List α), k + d = xs.length → acc.length = xs.length → d < m → L m k acc = some (R (acc.take k ++ xs.drop k)) := by
  intro d
  induction d with
  | zero =>
    intro k m acc hk ha hm
    obtain ⟨m, rfl⟩ := succ_of hm
    rw [hend m k acc (by omega), List.drop_of_length_le (by omega), List.take_of_length_le (by omega), List.append_nil]
  | succ d ih =>
    intro k m acc hk ha hm
    obtain ⟨m, rfl⟩ := succ_of hm
    have hlt : k < xs.length := by omega
    rw [hstep m k acc hlt ha, ih (k + 1) m _ (by omega) (by rw [List.length_set]; exact ha) (by omega)]
    have e : (acc.set k xs[k]).take (k + 1) = acc.take k ++ [xs[k]] := by
      rw [List.take_set, List.take_succ_eq_append_getElem (by omega)]
      rw [List.set_append_right _ _ (by simp; omega)]
      simp [Nat.min_eq_left (show k ≤ acc.length by omega)]
    rw [e, List.append_assoc, List.drop_eq_getElem_cons hlt]
    rfl
theorem to_end {α : Type} {ρ : Type} {R : List α → ρ} (xs : List α) (L : Nat → Int → List α → Option ρ)
    (hend : ∀ m (k : Nat) acc, xs.length ≤ k → L (m + 1) k acc = some (R acc))
    (hstep : ∀ m (k : Nat) acc (h : k < xs.length), acc.length = xs.length → L (m + 1) k acc = L m ((k + 1 : Nat) : Int) (acc.set k xs[k])) (z : α) :
    L (xs.length + 1) 0 (List.replicate (xs.length : Int).toNat z) = some (R xs) := by
  have := to_loop xs L hend hstep xs.length 0 (xs.length + 1) (List.replicate (xs.length : Int).toNat z) (Nat.zero_add _) (by rw [List.length_replicate, Int.toNat_natCast]) (Nat.lt_succ_self _)
  rw [List.take_zero, List.drop_zero, List.nil_append, Int.natCast_zero] at this
  exact this
end Go.Proofs.GR.T

set_option maxRecDepth 100000
set_option maxHeartbeats 100000000
namespace Go.Proofs.GR.T
open Go Go.Proofs Go.Proofs.GR
abbrev V2 := ByteArray × ByteArray
def Sp.f87 (x0 : Int) (x1 : Int) (x2 : ByteArray) (x3 : Int) := (bif decide (IntKind.i64.wrap (x3 - (↑x2.size : Int)) < (0 : Int)) then ((-1 : Int), ()) else (IntKind.i64.wrap (x3 - (↑x2.size : Int)), ()))
noncomputable def e87 : Ent := { f := 13, ins := [Sh.agg [C0.dat (Ty.int IntKind.i64), C0.dat (Ty.int IntKind.i64), C0.dat Ty.str], Sh.one (C0.dat (Ty.int IntKind.i64))], outs := [Sh.one (C0.dat (Ty.int IntKind.i64))], upd := [], pre := fun a => true, spec := fun a => (Sp.f87 a.1.1 a.1.2.1 a.1.2.2 a.2).1, wrt := fun a => (Sp.f87 a.1.1 a.1.2.1 a.1.2.2 a.2).2 }
def f87_g (v : denS [Sh.one (C0.dat (Ty.int IntKind.i64))] × denS []) : Res := ⟨mkS [Sh.one (C0.dat (Ty.int IntKind.i64))] v.1, mkU [] v.2⟩
theorem f87_raw (x0 : Int) (x1 : Int) (x2 : ByteArray) (x3 : Int) : abody Γ (orc []) 0 13 [XV.mk true [X.c (X0.dat (Ty.int IntKind.i64) x0), X.c (X0.dat (Ty.int IntKind.i64) x1), X.c (X0.dat Ty.str x2)], XV.mk false [X.c (X0.dat (Ty.int IntKind.i64) x3)]] = bif decide (IntKind.i64.wrap (x3 - (↑x2.size : Int)) < (0 : Int)) then some (Res.mk [XV.mk false [X.c (X0.dat (Ty.int IntKind.i64) (-1 : Int))]] []) else some (Res.mk [XV.mk false [X.c (X0.dat (Ty.int IntKind.i64) (IntKind.i64.wrap (x3 - (↑x2.size : Int))))]] []) := by kernel_rfl
theorem f87_form (x0 : Int) (x1 : Int) (x2 : ByteArray) (x3 : Int) : (bif decide (IntKind.i64.wrap (x3 - (↑x2.size : Int)) < (0 : Int)) then some (Res.mk [XV.mk false [X.c (X0.dat (Ty.int IntKind.i64) (-1 : Int))]] []) else some (Res.mk [XV.mk false [X.c (X0.dat (Ty.int IntKind.i64) (IntKind.i64.wrap (x3 - (↑x2.size : Int))))]] [])) = some (f87_g (Sp.f87 x0 x1 x2 x3)) := by
  unfold Sp.f87
  exact (cond_plain f87_g (rfl) (rfl))
theorem e87_ok : Valid PP Γ e87 := valid_auto ok vnil fun a => (f87_raw a.1.1 a.1.2.1 a.1.2.2 a.2).trans (f87_form a.1.1 a.1.2.1 a.1.2.2 a.2)

def Sp.f89 (x0 : Int) (x1 : Int) (x2 : ByteArray) := ((x0, x1, x2), ())
noncomputable def e89 : Ent := { f := 18, ins := [Sh.agg [C0.dat (Ty.int IntKind.i64), C0.dat (Ty.int IntKind.i64), C0.dat Ty.str]], outs := [Sh.agg [C0.dat (Ty.int IntKind.i64), C0.dat (Ty.int IntKind.i64), C0.dat Ty.str]], upd := [], pre := fun a => true, spec := fun a => (Sp.f89 a.1 a.2.1 a.2.2).1, wrt := fun a => (Sp.f89 a.1 a.2.1 a.2.2).2 }
def f89_g (v : denS [Sh.agg [C0.dat (Ty.int IntKind.i64), C0.dat (Ty.int IntKind.i64), C0.dat Ty.str]] × denS []) : Res := ⟨mkS [Sh.agg [C0.dat (Ty.int IntKind.i64), C0.dat (Ty.int IntKind.i64), C0.dat Ty.str]] v.1, mkU [] v.2⟩
theorem f89_raw (x0 : Int) (x1 : Int) (x2 : ByteArray) : abody Γ (orc []) 0 18 [XV.mk true [X.c (X0.dat (Ty.int IntKind.i64) x0), X.c (X0.dat (Ty.int IntKind.i64) x1), X.c (X0.dat Ty.str x2)]] = some (Res.mk [XV.mk true [X.c (X0.dat (Ty.int IntKind.i64) x0), X.c (X0.dat (Ty.int IntKind.i64) x1), X.c (X0.dat Ty.str x2)]] []) := by kernel_rfl
theorem f89_form (x0 : Int) (x1 : Int) (x2 : ByteArray) : (some (Res.mk [XV.mk true [X.c (X0.dat (Ty.int IntKind.i64) x0), X.c (X0.dat (Ty.int IntKind.i64) x1), X.c (X0.dat Ty.str x2)]] [])) = some (f89_g (Sp.f89 x0 x1 x2)) := by
  unfold Sp.f89
  exact rfl
theorem e89_ok : Valid PP Γ e89 := valid_auto ok vnil fun a => (f89_raw a.1 a.2.1 a.2.2).trans (f89_form a.1 a.2.1 a.2.2)

def Sp.szV (x : V3) (l : Int) : Int := (Sp.f87 x.1 x.2.1 x.2.2 l).1
def Sp.may (a b : ByteArray) : List V2 → Bool
  | [] => false
  | x :: r => bif x.1.toList == a.toList then (bif x.2.toList == b.toList then true else Sp.may a b r) else Sp.may a b r
def Sp.txt (xs : List V3) (i : Int) : ByteArray := (xs.getD i.toNat ((0 : Int), (0 : Int), ByteArray.mk #[])).2.2
def Sp.has (xs : List V3) (i : Int) : Bool := bif decide (0 ≤ i) then decide (i < (xs.length : Int)) else false
def Sp.step (gt : ByteArray) (gc : Int) (gs : List V2) (ev : Int) (ct : ByteArray) (old new : List V3) : Bool :=
  bif !(ct.toList == gt.toList) then true else bif ev == 3 then true else bif ev == 2 then
    (bif (Sp.txt old gc).toList == (Sp.txt new gc).toList then true else Sp.may (Sp.txt old gc) (Sp.txt new gc) gs)
  else Sp.may (ByteArray.mk #[]) (Sp.txt new gc) gs
def Sp.stepOK (gt : ByteArray) (gc ev : Int) (ct : ByteArray) (old new : List V3) : Bool :=
  bif !(ct.toList == gt.toList) then true else bif ev == 3 then true else bif Sp.has new gc then (bif ev == 2 then Sp.has old gc else true) else false
end Go.Proofs.GR.T

namespace Go.Proofs.GR.T
open Go Go.Proofs Go.Proofs.GR
theorem szV_le {x : V3} (h1 : x.2.2.size ≤ 9223372036854775807) (l : Int) (h0 : 0 ≤ l) (hl : l ≤ 1048576) : Sp.szV x l ≤ l := by
  unfold Sp.szV Sp.f87
  rw [wrap64 (n := l - (x.2.2.size : Int)) (by omega) (by omega)]
  by_cases c1 : l - (x.2.2.size : Int) < 0
  · rw [decide_eq_true c1]; show (-1 : Int) ≤ l; omega
  · rw [decide_eq_false c1]; show l - (x.2.2.size : Int) ≤ l; omega
end Go.Proofs.GR.T

namespace Go.Proofs.GR.T
open Go Go.Proofs Go.Proofs.GR
namespace Sp
def wtW {α : Type} (w : α → Nat) : List α → Nat
  | [] => 0
  | x :: r => w x + wtW w r
def markU {α : Type} (g : α → Int → α) (w : α → Nat) : List α → Int → List α
  | [], _ => []
  | x :: r, k => g x k :: markU g w r (k + (w x : Int))
def smallU {α : Type} (w : α → Nat) (xs : List α) (k : Int) : Bool := match k with
  | .ofNat n => Nat.ble (n + wtW w xs) 4611686018427387904
  | .negSucc _ => false
end Sp
theorem smallU_of {α : Type} {w : α → Nat} {xs : List α} {k : Int} (h : Sp.smallU w xs k = true) : 0 ≤ k ∧ k + (Sp.wtW w xs : Int) ≤ 4611686018427387904 := by
  cases k with
  | ofNat n =>
    have h1 : n + Sp.wtW w xs ≤ 4611686018427387904 := Nat.le_of_ble_eq_true h
    refine ⟨Int.natCast_nonneg n, ?_⟩
    show (n : Int) + (Sp.wtW w xs : Int) ≤ 4611686018427387904
    omega
  | negSucc n => cases h
theorem smallU_mk {α : Type} {w : α → Nat} {xs : List α} {k : Int} (h1 : 0 ≤ k) (h2 : k.toNat + Sp.wtW w xs ≤ 4611686018427387904) : Sp.smallU w xs k = true := by
  cases k with
  | ofNat n => exact Nat.ble_eq_true_of_le h2
  | negSucc n => exact absurd h1 (by omega)
theorem szW_wt {α : Type} {f : α → Int → Int} {c : α → Nat} : ∀ (xs : List α) (l : Int), (∀ x ∈ xs, ∀ l, 0 ≤ l → l ≤ 1048576 → 0 ≤ f x l → f x l + (c x : Int) ≤ l) → 0 ≤ l → l ≤ 1048576 → 0 ≤ Sp.szW f xs l → Sp.szW f xs l + (Sp.wtW c xs : Int) ≤ l
  | [], l, _, _, _, _ => by simp [Sp.szW, Sp.wtW]
  | x :: r, l, h, h0, h1, h2 => by
    rw [Sp.szW] at h2 ⊢
    by_cases hc : f x l < 0
    · rw [decide_eq_true hc, cond_true] at h2; omega
    · rw [decide_eq_false hc, cond_false] at h2 ⊢
      have h3 := h x (List.mem_cons_self) l h0 h1 (by omega)
      have := szW_wt r (f x l) (fun y hy => h y (List.mem_cons_of_mem _ hy)) (by omega) (by omega) h2
      rw [Sp.wtW, Int.natCast_add]
      omega
theorem szE_wt {α : Type} {f : α → Int → Int} {c : α → Nat} {xs : List α} {l : Int} (hl : xs.length ≤ 9223372036854775807) (h : ∀ x ∈ xs, ∀ l, 0 ≤ l → l ≤ 1048576 → 0 ≤ f x l → f x l + (c x : Int) ≤ l) (h0 : 0 ≤ l) (h1 : l ≤ 1048576) (h2 : 0 ≤ Sp.szE f xs l) : Sp.szE f xs l + (xs.length : Int) + (Sp.wtW c xs : Int) ≤ l := by
  unfold Sp.szE at h2 ⊢
  rw [wrap64 (by omega) (by omega)] at h2 ⊢
  by_cases hc : l - (xs.length : Int) < 0
  · rw [decide_eq_true hc, cond_true] at h2; omega
  · rw [decide_eq_false hc, cond_false] at h2 ⊢
    have := szW_wt xs (l - xs.length) h (by omega) (by omega) h2
    omega
end Go.Proofs.GR.T

set_option maxRecDepth 100000
set_option maxHeartbeats 100000000
namespace Go.Proofs.GR.T
open Go Go.Proofs Go.Proofs.GR
end Go.Proofs.GR.T

namespace Go.Proofs.GR.T
open Go Go.Proofs Go.Proofs.GR Go.Shelf
def ren1041 : Ren := ⟨fun k => if k = 146 then n1041 else if k = 221 then n1042 else if k = 268 then n1043 else if k = 138 then n1044 else if k = 143 then n1045 else if k = 195 then n1046 else if k = 197 then n1047 else if k = 218 then n1048 else if k = 219 then n1049 else if k = 260 then n1050 else if k = 217 then n1051 else if k = 225 then n1052 else if k = 224 then n1053 else if k = 267 then n1054 else if k = 266 then n1055 else if k = 314 then n1056 else k, fun k => if k = 9 then t9 else if k = 31 then t40 else if k = 3 then t3 else if k = 4 then t4 else if k = 0 then t0 else if k = 105 then t1035 else if k = 21 then t21 else if k = 5 then t5 else if k = 46 then t86 else if k = 119 then t1038 else if k = 139 then t1041 else if k = 138 then t1040 else if k = 146 then t1042 else if k = 51 then t151 else k, fun k => if k = 1 then g1 else if k = 3 then g2 else if k = 4 then g3 else k⟩
theorem lays1041 : Lays.n146 PP ren1041 where
  mixed := by kernel_rfl
  f138 := by kernel_rfl
  f143 := by kernel_rfl
  f146 := by kernel_rfl
  f195 := by kernel_rfl
  f197 := by kernel_rfl
  f217 := by kernel_rfl
  f218 := by kernel_rfl
  f219 := by kernel_rfl
  f221 := by kernel_rfl
  f224 := by kernel_rfl
  f225 := by kernel_rfl
  f260 := by kernel_rfl
  f266 := by kernel_rfl
  f267 := by kernel_rfl
  f268 := by kernel_rfl
  f314 := by kernel_rfl
  t0 := by kernel_rfl
  a0 := fun _ => by kernel_rfl
  z0 := fun _ => by kernel_rfl
  v0 := fun _ => by kernel_rfl
  t3 := by kernel_rfl
  a3 := fun _ => by kernel_rfl
  z3 := fun _ => by kernel_rfl
  v3 := fun _ => by kernel_rfl
  t4 := by kernel_rfl
  a4 := fun _ => by kernel_rfl
  z4 := fun _ => by kernel_rfl
  v4 := fun _ => by kernel_rfl
  t5 := by kernel_rfl
  a5 := fun _ => by kernel_rfl
  z5 := fun _ => by kernel_rfl
  v5 := fun _ => by kernel_rfl
  t9 := by kernel_rfl
  a9 := fun _ => by kernel_rfl
  z9 := fun _ => by kernel_rfl
  v9 := fun _ => by kernel_rfl
  t21 := by kernel_rfl
  a21 := fun _ => by kernel_rfl
  z21 := fun _ => by kernel_rfl
  v21 := fun _ => by kernel_rfl
  t31 := by kernel_rfl
  a31 := fun _ => by kernel_rfl
  z31 := fun _ => by kernel_rfl
  v31 := fun _ => by kernel_rfl
  t46 := by kernel_rfl
  a46 := fun _ => by kernel_rfl
  z46 := fun _ => by kernel_rfl
  v46 := fun _ => by kernel_rfl
  t51 := by kernel_rfl
  a51 := fun _ => by kernel_rfl
  z51 := fun _ => by kernel_rfl
  v51 := fun _ => by kernel_rfl
  t105 := by kernel_rfl
  a105 := fun _ => by kernel_rfl
  z105 := fun _ => by kernel_rfl
  v105 := fun _ => by kernel_rfl
  t119 := by kernel_rfl
  a119 := fun _ => by kernel_rfl
  z119 := fun _ => by kernel_rfl
  t138 := by kernel_rfl
  a138 := fun _ => by kernel_rfl
  z138 := fun _ => by kernel_rfl
  v138 := fun _ => by kernel_rfl
  t139 := by kernel_rfl
  a139 := fun _ => by kernel_rfl
  z139 := fun _ => by kernel_rfl
  v139 := fun _ => by kernel_rfl
  t146 := by kernel_rfl
  a146 := fun _ => by kernel_rfl
  z146 := fun _ => by kernel_rfl
  v146 := fun _ => by kernel_rfl
  g1 := by kernel_rfl
  g3 := by kernel_rfl
  g4 := by kernel_rfl
theorem i1041 : (Tryd.prog.info? (ren1041.t 9)).map (fun i => (i.zero, i.size, i.bytes)) = some (some (Value.string ByteArray.empty), 1, 16) := by kernel_rfl
def Sp.split (s sep : ByteArray) : List ByteArray := Lib.splitB sep 0 (Lib.countB s sep) s
theorem gls1041 : ∀ w : World, (∀ p ∈ Γ.gls, p.1 < w.heap.size ∧ p.2 w.heap[p.1]?) → ∃ m, w.cell? ⟨g1, 0, none⟩ = some (.int .i64 m) := fun w h => intAt0_cell (h (g1, intAt0) (List.mem_cons_self)).2
theorem split1041 (s sep : ByteArray) (h : s.size < 4294967281) (h1 : 1 ≤ sep.size) : Contract PP Γ n1041 [⟨false, [.c (.dat .str s)]⟩, ⟨false, [.c (.dat .str sep)]⟩] ⟨[⟨false, [.c (.row .str (Sp.split s sep) true)]⟩], []⟩ := by
  have hlen : (Sp.split s sep).length = Lib.countB s sep + 1 := Lib.splitB_all sep h1 0 _ s rfl
  have hle := Lib.countB_le sep h1 s.size s (Nat.le_refl _)
  refine contract_row_str (t := ren1041.t 9) (by kernel_rfl) (by rw [hlen]; unfold maxLen; omega) fun w hw => ?_
  obtain ⟨m, hm⟩ := gls1041 w hw
  rw [hlen]
  exact Any.strings_Split lays1041 i1041 s sep m w h hm h1
end Go.Proofs.GR.T

namespace Go.Proofs.GR.T
open Go Go.Proofs Go.Proofs.GR
abbrev tA : Ty := .pair (.int .i64) (.pair (.int .i64) (.pair .str (.pair .str (.pair (.int .i64) (.pair (.int .i64) .str)))))
abbrev tT : Ty := .rose tA
abbrev VA := Int × Int × ByteArray × ByteArray × V3
abbrev RT := Rose VA
namespace Sp
def nsum : List Nat → Nat
  | [] => 0
  | n :: r => n + nsum r
/-- A measure: a tree's is above its kids'. -/
def rsz {α : Type} : Rose α → Nat := Rose.fold fun _ ns => 2 + nsum ns
def rszs {α : Type} (l : List (Rose α)) : Nat := 1 + nsum (l.map rsz)
def mkT (x : Int × Int × ByteArray × ByteArray × Int × Int × ByteArray × List RT) : RT := Rose.mk (x.1, x.2.1, x.2.2.1, x.2.2.2.1, (x.2.2.2.2.1, x.2.2.2.2.2.1, x.2.2.2.2.2.2.1)) x.2.2.2.2.2.2.2
def unT (r : RT) : Int × Int × ByteArray × ByteArray × Int × Int × ByteArray × List RT := (r.a.1, r.a.2.1, r.a.2.2.1, r.a.2.2.2.1, r.a.2.2.2.2.1, r.a.2.2.2.2.2.1, r.a.2.2.2.2.2.2, r.kids)
def rsz1 {α : Type} (l : List (Rose α)) : Nat := 1 + rszs l
end Sp
theorem mkT_un (r : RT) : Sp.mkT (Sp.unT r) = r := by cases r; rfl
theorem rsz_mk {α : Type} (a : α) (ks : List (Rose α)) : Sp.rsz (Rose.mk a ks) = 1 + Sp.rszs ks := by
  unfold Sp.rsz Sp.rszs
  rw [Rose.fold_mk]
  show 2 + _ = 1 + (1 + _)
  unfold Sp.rsz
  omega
theorem rsz_mem {α : Type} : ∀ {l : List (Rose α)} {r : Rose α}, r ∈ l → Sp.rsz r < Sp.rszs l
  | x :: l, r, h => by
    rcases List.mem_cons.1 h with rfl | h
    · show _ < 1 + (Sp.rsz _ + _); omega
    · have := rsz_mem h
      have e : Sp.rszs (x :: l) = 1 + (Sp.rsz x + Sp.nsum (l.map Sp.rsz)) := rfl
      have e2 : Sp.rszs l = 1 + Sp.nsum (l.map Sp.rsz) := rfl
      omega
theorem rsz1_eq {α : Type} (r : Rose α) : Sp.rsz1 r.kids = Sp.rsz r := by cases r with | mk a ks => exact (rsz_mk a ks).symm
theorem rsz1_mem {α : Type} {l : List (Rose α)} {r : Rose α} (h : r ∈ l) : Sp.rsz1 r.kids < Sp.rszs l := by rw [rsz1_eq]; exact rsz_mem h
theorem blt_mk {a b : Nat} (h : a < b) : Nat.blt a b = true := Nat.ble_eq_true_of_le h
theorem szW_map {α : Type} (f : α → Int → Int) : ∀ (xs : List α) (l : Int), Sp.szW (fun (g : Int → Int) l => g l) (xs.map f) l = Sp.szW f xs l
  | [], _ => rfl
  | x :: r, l => by rw [List.map_cons, Sp.szW, Sp.szW, szW_map f r]
theorem szE_map {α : Type} (f : α → Int → Int) (xs : List α) (l : Int) : Sp.szE (fun (g : Int → Int) l => g l) (xs.map f) l = Sp.szE f xs l := by
  unfold Sp.szE
  rw [List.length_map, szW_map]
theorem condI (c : Bool) (a b : Int) : some (rI (bif c then a else b)) = bif c then some (rI a) else some (rI b) := by cases c <;> rfl
theorem condB (c : Bool) (a b : Bool) : some (rBo (bif c then a else b)) = bif c then some (rBo a) else some (rBo b) := by cases c <;> rfl
/-- As 'markU_loop', where what is to come is known. -/
theorem markP_loop {α : Type} {ρ : Type} {g : α → Int → α} {w : α → Nat} {R : Int → List α → ρ} (P : α → Prop) (L : Nat → Int → Int → List α → Option ρ)
    (hend : ∀ m (v : Int) (k : Nat) acc, acc.length ≤ k → L (m + 1) v k acc = some (R v acc))
    (hstep : ∀ m (v : Int) (k : Nat) acc (h : k < acc.length), acc.length ≤ 9223372036854775807 → P acc[k] → 0 ≤ v → v + (w acc[k] : Int) ≤ 4611686018427387904 → L (m + 1) v k acc = L m (v + (w acc[k] : Int)) ((k + 1 : Nat) : Int) (acc.set k (g acc[k] v))) :
    ∀ (d k m : Nat) (v : Int) (acc : List α), k + d = acc.length → d < m → acc.length ≤ 9223372036854775807 → (∀ x ∈ acc.drop k, P x) → 0 ≤ v → v + (Sp.wtW w (acc.drop k) : Int) ≤ 4611686018427387904 →
      L m v k acc = some (R (v + (Sp.wtW w (acc.drop k) : Int)) (acc.take k ++ Sp.markU g w (acc.drop k) v)) := by
  intro d
  induction d with
  | zero =>
    intro k m v acc hk hm hlen hP h0 h1
    obtain ⟨m, rfl⟩ := succ_of hm
    rw [hend m v k acc (by omega), List.drop_of_length_le (by omega), List.take_of_length_le (by omega)]
    simp [Sp.markU, Sp.wtW]
  | succ d ih =>
    intro k m v acc hk hm hlen hP h0 h1
    obtain ⟨m, rfl⟩ := succ_of hm
    have hlt : k < acc.length := by omega
    have e0 : acc.drop k = acc[k] :: acc.drop (k + 1) := List.drop_eq_getElem_cons hlt
    rw [e0] at h1 hP ⊢
    rw [Sp.wtW, Int.natCast_add] at h1 ⊢
    have e2 : (acc.set k (g acc[k] v)).drop (k + 1) = acc.drop (k + 1) := by rw [List.drop_set_of_lt (by omega)]
    rw [hstep m v k acc hlt hlen (hP _ (List.mem_cons_self)) h0 (by omega), ih (k + 1) m (v + (w acc[k] : Int)) _ (by rw [List.length_set]; omega) (by omega) (by rw [List.length_set]; exact hlen) (by rw [e2]; exact fun x hx => hP x (List.mem_cons_of_mem _ hx)) (by omega) (by rw [e2]; omega)]
    have e : (acc.set k (g acc[k] v)).take (k + 1) = acc.take k ++ [g acc[k] v] := by
      rw [List.take_set, List.take_succ_eq_append_getElem (by omega)]
      rw [List.set_append_right _ _ (by simp; omega)]
      simp [Nat.min_eq_left (show k ≤ acc.length by omega)]
    rw [e, e2, List.append_assoc]
    simp only [Sp.markU, List.singleton_append]
    rw [show v + (w acc[k] : Int) + (Sp.wtW w (acc.drop (k + 1)) : Int) = v + ((w acc[k] : Int) + (Sp.wtW w (acc.drop (k + 1)) : Int)) by omega]
theorem rowUpd_at {t : Ty} {acc : List t.den} {k off : Nat} {cs : List Cell} {x z : t.den} (h : k < acc.length) (hx : acc[k] = x) (hz : t.putAt x off cs = some z) : rowUpd t acc k off cs = acc.set k z := by
  unfold rowUpd
  rw [List.getD, List.getElem?_eq_getElem h, Option.getD_some, hx, hz]
theorem rowUpd_set {t : Ty} {acc : List t.den} {k off : Nat} {cs : List Cell} {x z : t.den} (h : k < acc.length) (hz : t.putAt x off cs = some z) : rowUpd t (acc.set k x) k off cs = acc.set k z := by
  rw [rowUpd_at (x := x) (by rw [List.length_set]; exact h) (by simp) hz, List.set_set]
theorem upd_next {t : Ty} {acc A : List t.den} {k off : Nat} {cs : List Cell} {x z : t.den} (h : k < acc.length) (e : A = acc.set k x) (hz : t.putAt x off cs = some z) : rowUpd t A k off cs = acc.set k z := by
  rw [e]; exact rowUpd_set h hz
theorem getD_eq {α : Type} {A l : List α} {k : Nat} {y d : α} (h : k < l.length) (e : A = l.set k y) : A.getD k d = y := by rw [e]; exact getD_set h
end Go.Proofs.GR.T

set_option maxRecDepth 100000
set_option maxHeartbeats 100000000
namespace Go.Proofs.GR.T
open Go Go.Proofs Go.Proofs.GR
def Sp.szTf (a : VA) (g : Int → Int) (l : Int) : Int :=
  bif decide (IntKind.i64.wrap (l - (a.2.2.1.size : Int)) < 0) then -1 else bif decide (IntKind.i64.wrap (IntKind.i64.wrap (l - (a.2.2.1.size : Int)) - (a.2.2.2.1.size : Int)) < 0) then -1 else
  bif decide (Sp.szV a.2.2.2.2 (IntKind.i64.wrap (IntKind.i64.wrap (l - (a.2.2.1.size : Int)) - (a.2.2.2.1.size : Int))) < 0) then -1 else
  bif decide (g (Sp.szV a.2.2.2.2 (IntKind.i64.wrap (IntKind.i64.wrap (l - (a.2.2.1.size : Int)) - (a.2.2.2.1.size : Int)))) < 0) then -1 else g (Sp.szV a.2.2.2.2 (IntKind.i64.wrap (IntKind.i64.wrap (l - (a.2.2.1.size : Int)) - (a.2.2.2.1.size : Int))))
def Sp.szT : RT → Int → Int := Rose.fold fun a fs l => Sp.szTf a (fun l => Sp.szE (fun g l => g l) fs l) l
theorem szT_mk (a : VA) (ks : List RT) (l : Int) : Sp.szT (Rose.mk a ks) l = Sp.szTf a (Sp.szE Sp.szT ks) l := by
  unfold Sp.szT
  rw [Rose.fold_mk]
  exact congrArg (fun g => Sp.szTf a g l) (funext fun l => szE_map _ ks l)
noncomputable def e1002 : Ent := { f := n1002, ins := [Sh.agg [cI, cI, cS, cS, cI, cI, cS, cL tT], Sh.one cI], outs := [Sh.one cI], upd := [], pre := fun a => true, spec := fun a => Sp.szT (Sp.mkT a.1) a.2, wrt := fun _ => () }
noncomputable def e1011 : Ent := { f := n1011, ins := [Sh.one (cL tT), Sh.one cI], outs := [Sh.one cI], upd := [], pre := fun a => true, spec := fun a => Sp.szE Sp.szT a.1 a.2, wrt := fun _ => () }
noncomputable def e1002n (N : Nat) : Ent := e1002.below (fun a => Sp.rsz1 a.1.2.2.2.2.2.2.2) N
noncomputable def e1011n (N : Nat) : Ent := e1011.below (fun a => Sp.rszs a.1) N
theorem f1002_raw (N : Nat) (x0 : Int) (x1 : Int) (x2 : ByteArray) (x3 : ByteArray) (x4 : Int) (x5 : Int) (x6 : ByteArray) (x7 : List (Rose (Int × Int × ByteArray × ByteArray × Int × Int × ByteArray))) (x8 : Int) : abody Γ (orc [e1002n N, e1011n N, e87]) 0 4 [XV.mk true [X.c (X0.dat (Ty.int IntKind.i64) x0), X.c (X0.dat (Ty.int IntKind.i64) x1), X.c (X0.dat Ty.str x2), X.c (X0.dat Ty.str x3), X.c (X0.dat (Ty.int IntKind.i64) x4), X.c (X0.dat (Ty.int IntKind.i64) x5), X.c (X0.dat Ty.str x6), X.c (X0.dat ((Ty.int IntKind.i64).pair ((Ty.int IntKind.i64).pair (Ty.str.pair (Ty.str.pair ((Ty.int IntKind.i64).pair ((Ty.int IntKind.i64).pair Ty.str)))))).rose.slice x7)], XV.mk false [X.c (X0.dat (Ty.int IntKind.i64) x8)]] = bif decide (IntKind.i64.wrap (x8 - (↑x2.size : Int)) < (0 : Int)) then some (Res.mk [XV.mk false [X.c (X0.dat (Ty.int IntKind.i64) (-1 : Int))]] []) else bif decide (IntKind.i64.wrap (IntKind.i64.wrap (x8 - (↑x2.size : Int)) - (↑x3.size : Int)) < (0 : Int)) then some (Res.mk [XV.mk false [X.c (X0.dat (Ty.int IntKind.i64) (-1 : Int))]] []) else bif decide ((Sp.f87 x4 x5 x6 (IntKind.i64.wrap (IntKind.i64.wrap (x8 - (↑x2.size : Int)) - (↑x3.size : Int)))).1 < (0 : Int)) then some (Res.mk [XV.mk false [X.c (X0.dat (Ty.int IntKind.i64) (-1 : Int))]] []) else chk ((Sp.rszs x7).blt N) (bif decide (Sp.szE Sp.szT x7 (Sp.f87 x4 x5 x6 (IntKind.i64.wrap (IntKind.i64.wrap (x8 - (↑x2.size : Int)) - (↑x3.size : Int)))).1 < (0 : Int)) then some (Res.mk [XV.mk false [X.c (X0.dat (Ty.int IntKind.i64) (-1 : Int))]] []) else some (Res.mk [XV.mk false [X.c (X0.dat (Ty.int IntKind.i64) (Sp.szE Sp.szT x7 (Sp.f87 x4 x5 x6 (IntKind.i64.wrap (IntKind.i64.wrap (x8 - (↑x2.size : Int)) - (↑x3.size : Int)))).1))]] [])) := by kernel_rfl

noncomputable def f1011_L0 (n N m0 : Nat) (y0 : List (Rose (Int × Int × ByteArray × ByteArray × Int × Int × ByteArray))) (y1 : Int) (y2 : Int) : Option Res := loopAt Γ (orc [e1002n N, e1011n N]) n (14 : Nat) (0 : Nat) [] [Pth.r, Pth.r, Pth.r, Pth.l, Pth.r, Pth.b] m0 (St.mk [Slot.val (Val.one (Cell.dat ((Ty.int IntKind.i64).pair ((Ty.int IntKind.i64).pair (Ty.str.pair (Ty.str.pair ((Ty.int IntKind.i64).pair ((Ty.int IntKind.i64).pair Ty.str)))))).rose.slice y0)), Slot.val (Val.one (Cell.dat (Ty.int IntKind.i64) y1)), Slot.nix, Slot.nix, Slot.nix, Slot.val (Val.one (Cell.dat (Ty.int IntKind.i64) y2)), Slot.nix, Slot.nix, Slot.nix, Slot.nix, Slot.nix, Slot.nix, Slot.nix, Slot.nix, Slot.nix, Slot.nix, Slot.nix, Slot.nix, Slot.nix, Slot.nix, Slot.nix, Slot.nix, Slot.nix, Slot.nix, Slot.nix, Slot.nix, Slot.nix] [])
theorem f1011_L0_step (n N m0 : Nat) (y0 : List (Rose (Int × Int × ByteArray × ByteArray × Int × Int × ByteArray))) (y1 : Int) (y2 : Int) : f1011_L0 n N (m0 + 1) y0 y1 y2 = bif decide (y2 < (↑y0.length : Int)) then chk (decide ((0 : Int) ≤ y2) && decide (y2 < (↑y0.length : Int))) (chk ((Sp.rsz1 (y0.getD y2.toNat (Rose.mk ((0 : Int), (0 : Int), ByteArray.mk #[], ByteArray.mk #[], (0 : Int), (0 : Int), ByteArray.mk #[]) [])).kids).blt N) (bif decide (Sp.szT (Sp.mkT ((y0.getD y2.toNat (Rose.mk ((0 : Int), (0 : Int), ByteArray.mk #[], ByteArray.mk #[], (0 : Int), (0 : Int), ByteArray.mk #[]) [])).a.1, (y0.getD y2.toNat (Rose.mk ((0 : Int), (0 : Int), ByteArray.mk #[], ByteArray.mk #[], (0 : Int), (0 : Int), ByteArray.mk #[]) [])).a.2.1, (y0.getD y2.toNat (Rose.mk ((0 : Int), (0 : Int), ByteArray.mk #[], ByteArray.mk #[], (0 : Int), (0 : Int), ByteArray.mk #[]) [])).a.2.2.1, (y0.getD y2.toNat (Rose.mk ((0 : Int), (0 : Int), ByteArray.mk #[], ByteArray.mk #[], (0 : Int), (0 : Int), ByteArray.mk #[]) [])).a.2.2.2.1, (y0.getD y2.toNat (Rose.mk ((0 : Int), (0 : Int), ByteArray.mk #[], ByteArray.mk #[], (0 : Int), (0 : Int), ByteArray.mk #[]) [])).a.2.2.2.2.1, (y0.getD y2.toNat (Rose.mk ((0 : Int), (0 : Int), ByteArray.mk #[], ByteArray.mk #[], (0 : Int), (0 : Int), ByteArray.mk #[]) [])).a.2.2.2.2.2.1, (y0.getD y2.toNat (Rose.mk ((0 : Int), (0 : Int), ByteArray.mk #[], ByteArray.mk #[], (0 : Int), (0 : Int), ByteArray.mk #[]) [])).a.2.2.2.2.2.2, (y0.getD y2.toNat (Rose.mk ((0 : Int), (0 : Int), ByteArray.mk #[], ByteArray.mk #[], (0 : Int), (0 : Int), ByteArray.mk #[]) [])).kids)) y1 < (0 : Int)) then some (Res.mk [XV.mk false [X.c (X0.dat (Ty.int IntKind.i64) (-1 : Int))]] []) else f1011_L0 n N m0 y0 (Sp.szT (Sp.mkT ((y0.getD y2.toNat (Rose.mk ((0 : Int), (0 : Int), ByteArray.mk #[], ByteArray.mk #[], (0 : Int), (0 : Int), ByteArray.mk #[]) [])).a.1, (y0.getD y2.toNat (Rose.mk ((0 : Int), (0 : Int), ByteArray.mk #[], ByteArray.mk #[], (0 : Int), (0 : Int), ByteArray.mk #[]) [])).a.2.1, (y0.getD y2.toNat (Rose.mk ((0 : Int), (0 : Int), ByteArray.mk #[], ByteArray.mk #[], (0 : Int), (0 : Int), ByteArray.mk #[]) [])).a.2.2.1, (y0.getD y2.toNat (Rose.mk ((0 : Int), (0 : Int), ByteArray.mk #[], ByteArray.mk #[], (0 : Int), (0 : Int), ByteArray.mk #[]) [])).a.2.2.2.1, (y0.getD y2.toNat (Rose.mk ((0 : Int), (0 : Int), ByteArray.mk #[], ByteArray.mk #[], (0 : Int), (0 : Int), ByteArray.mk #[]) [])).a.2.2.2.2.1, (y0.getD y2.toNat (Rose.mk ((0 : Int), (0 : Int), ByteArray.mk #[], ByteArray.mk #[], (0 : Int), (0 : Int), ByteArray.mk #[]) [])).a.2.2.2.2.2.1, (y0.getD y2.toNat (Rose.mk ((0 : Int), (0 : Int), ByteArray.mk #[], ByteArray.mk #[], (0 : Int), (0 : Int), ByteArray.mk #[]) [])).a.2.2.2.2.2.2, (y0.getD y2.toNat (Rose.mk ((0 : Int), (0 : Int), ByteArray.mk #[], ByteArray.mk #[], (0 : Int), (0 : Int), ByteArray.mk #[]) [])).kids)) y1) (IntKind.i64.wrap (y2 + (1 : Int))))) else some (Res.mk [XV.mk false [X.c (X0.dat (Ty.int IntKind.i64) y1)]] []) := by kernel_rfl
theorem f1011_raw (n N : Nat) (x0 : List (Rose (Int × Int × ByteArray × ByteArray × Int × Int × ByteArray))) (x1 : Int) : abody Γ (orc [e1002n N, e1011n N]) n 14 [XV.mk false [X.c (X0.dat ((Ty.int IntKind.i64).pair ((Ty.int IntKind.i64).pair (Ty.str.pair (Ty.str.pair ((Ty.int IntKind.i64).pair ((Ty.int IntKind.i64).pair Ty.str)))))).rose.slice x0)], XV.mk false [X.c (X0.dat (Ty.int IntKind.i64) x1)]] = bif decide (IntKind.i64.wrap (x1 - (↑x0.length : Int)) < (0 : Int)) then some (Res.mk [XV.mk false [X.c (X0.dat (Ty.int IntKind.i64) (-1 : Int))]] []) else f1011_L0 n N n x0 (IntKind.i64.wrap (x1 - (↑x0.length : Int))) (0 : Int) := by kernel_rfl

theorem e1002_core (x0 x1 : Int) (x2 x3 : ByteArray) (x4 x5 : Int) (x6 : ByteArray) (x7 : List RT) (x8 : Int) : abody Γ (orc (belows (Sp.rsz1 x7) [⟨e1002, fun a => Sp.rsz1 a.1.2.2.2.2.2.2.2⟩, ⟨e1011, fun a => Sp.rszs a.1⟩] ++ [e87])) 0 n1002 (e1002.args ((x0, x1, x2, x3, x4, x5, x6, x7), x8)) = some (e1002.res ((x0, x1, x2, x3, x4, x5, x6, x7), x8)) := by
  refine (f1002_raw _ x0 x1 x2 x3 x4 x5 x6 x7 x8).trans ?_
  refine Eq.trans ?_ (congrArg (fun z => some (rI z)) (szT_mk (x0, x1, x2, x3, (x4, x5, x6)) x7 x8).symm)
  rw [blt_mk (show Sp.rszs x7 < Sp.rsz1 x7 by unfold Sp.rsz1; omega), chkT]
  unfold Sp.szTf
  rw [condI, condI, condI, condI]
  rfl
theorem e1011_core (xs : List RT) (v : Int) (hl : xs.length ≤ maxLen) : ∃ n, abody Γ (orc (belows (Sp.rszs xs) [⟨e1002, fun a => Sp.rsz1 a.1.2.2.2.2.2.2.2⟩, ⟨e1011, fun a => Sp.rszs a.1⟩] ++ [])) n n1011 (e1011.args (xs, v)) = some (e1011.res (xs, v)) := by
  have hl : xs.length ≤ 9223372036854775807 := hl
  refine ⟨xs.length + 1, (f1011_raw _ _ xs v).trans ?_⟩
  show _ = some (rI (Sp.szE Sp.szT xs v))
  unfold Sp.szE
  cases decide (IntKind.i64.wrap (v - (xs.length : Int)) < 0) with
  | true => rfl
  | false =>
    rw [cond_false, cond_false]
    refine sz_loop (f := Sp.szT) (R := rI) xs (fun m v k => f1011_L0 (xs.length + 1) (Sp.rszs xs) m xs v k) (fun m v k hk => ?_) (fun m v k h => ?_) xs.length 0 _ _ (Nat.zero_add _) (Nat.lt_succ_self _)
    · show f1011_L0 _ _ _ _ _ _ = _
      rw [f1011_L0_step, nat_ge hk, cond_false]
    · show f1011_L0 _ _ _ _ _ _ = _
      rw [f1011_L0_step, nat_lt h, cond_true, guard0, chkT, getD_nat xs k _ h, next64 h hl, blt_mk (rsz1_mem (List.getElem_mem h)), chkT]
      show (bif decide (Sp.szT (Sp.mkT (Sp.unT xs[k])) v < 0) then some (rI (-1)) else f1011_L0 _ _ _ _ (Sp.szT (Sp.mkT (Sp.unT xs[k])) v) _) = _
      rw [mkT_un]
theorem szT_oks : ∀ r ∈ ([⟨e1002, fun a => Sp.rsz1 a.1.2.2.2.2.2.2.2⟩, ⟨e1011, fun a => Sp.rszs a.1⟩] : List REnt), Valid PP Γ r.e :=
  valid_recs ok _ (rcons ⟨[e87], vcons e87_ok vnil, fun a _ _ => ⟨0, e1002_core a.1.1 a.1.2.1 a.1.2.2.1 a.1.2.2.2.1 a.1.2.2.2.2.1 a.1.2.2.2.2.2.1 a.1.2.2.2.2.2.2.1 a.1.2.2.2.2.2.2.2 a.2⟩⟩ (rcons ⟨[], vnil, fun a _ hl => e1011_core a.1 a.2 (hl _ (List.mem_cons_self) _ (List.mem_cons_self)).1⟩ rnil))
theorem e1002_ok : Valid PP Γ e1002 := szT_oks _ (List.mem_cons_self)
end Go.Proofs.GR.T

set_option maxRecDepth 100000
set_option maxHeartbeats 100000000
namespace Go.Proofs.GR.T
open Go Go.Proofs Go.Proofs.GR
abbrev aT : List C0 := [cI, cI, cS, cS, cI, cI, cS, cL tT]
abbrev oT : List C0 := [cI, cI, cS, cS, cI, cI, cS, C0.row tT]
mutual
def Sp.fitT : RT → Bool
  | .mk _ ks => Sp.fitTs ks
def Sp.fitTs : List RT → Bool
  | [] => true
  | r :: l => Nat.ble (r :: l).length 1000000000000 && (Sp.fitT r && Sp.fitTs l)
end
theorem fitTs_of : ∀ {l : List RT}, Sp.fitTs l = true → l.length ≤ 1000000000000 ∧ ∀ r ∈ l, Sp.fitTs r.kids = true
  | [], _ => ⟨Nat.zero_le _, fun r h => by cases h⟩
  | r :: l, h => by
    rw [Sp.fitTs, Bool.and_eq_true_iff, Bool.and_eq_true_iff] at h
    refine ⟨Nat.le_of_ble_eq_true h.1, fun s hs => ?_⟩
    rcases List.mem_cons.1 hs with rfl | hs
    · have h2 := h.2.1
      cases s with
      | mk a ks => rw [Sp.fitT] at h2; exact h2
    · exact (fitTs_of h.2.2).2 s hs
noncomputable def e1004 : Ent := { f := n1004, ins := [Sh.agg aT], outs := [Sh.agg oT], upd := [], pre := fun a => Sp.fitTs a.2.2.2.2.2.2.2, spec := fun a => a, wrt := fun _ => () }
noncomputable def e1015 : Ent := { f := n1015, ins := [Sh.one (cL tT)], outs := [Sh.one (C0.row tT)], upd := [], pre := fun a => Sp.fitTs a, spec := fun a => a, wrt := fun _ => () }
noncomputable def e1004n (N : Nat) : Ent := e1004.below (fun a => Sp.rsz1 a.2.2.2.2.2.2.2) N
noncomputable def e1015n (N : Nat) : Ent := e1015.below (fun a => Sp.rszs a) N
theorem f1004_raw (N : Nat) (x0 : Int) (x1 : Int) (x2 : ByteArray) (x3 : ByteArray) (x4 : Int) (x5 : Int) (x6 : ByteArray) (x7 : List (Rose (Int × Int × ByteArray × ByteArray × Int × Int × ByteArray))) : abody Γ (orc [e1004n N, e1015n N, e89]) 0 6 [XV.mk true [X.c (X0.dat (Ty.int IntKind.i64) x0), X.c (X0.dat (Ty.int IntKind.i64) x1), X.c (X0.dat Ty.str x2), X.c (X0.dat Ty.str x3), X.c (X0.dat (Ty.int IntKind.i64) x4), X.c (X0.dat (Ty.int IntKind.i64) x5), X.c (X0.dat Ty.str x6), X.c (X0.dat ((Ty.int IntKind.i64).pair ((Ty.int IntKind.i64).pair (Ty.str.pair (Ty.str.pair ((Ty.int IntKind.i64).pair ((Ty.int IntKind.i64).pair Ty.str)))))).rose.slice x7)]] = chk (Sp.fitTs x7 && (Sp.rszs x7).blt N) (some (Res.mk [XV.mk true [X.c (X0.dat (Ty.int IntKind.i64) x0), X.c (X0.dat (Ty.int IntKind.i64) x1), X.c (X0.dat Ty.str x2), X.c (X0.dat Ty.str x3), X.c (X0.dat (Ty.int IntKind.i64) (Sp.f89 x4 x5 x6).1.1), X.c (X0.dat (Ty.int IntKind.i64) (Sp.f89 x4 x5 x6).1.2.1), X.c (X0.dat Ty.str (Sp.f89 x4 x5 x6).1.2.2), X.c (X0.row ((Ty.int IntKind.i64).pair ((Ty.int IntKind.i64).pair (Ty.str.pair (Ty.str.pair ((Ty.int IntKind.i64).pair ((Ty.int IntKind.i64).pair Ty.str)))))).rose x7 true)]] [])) := by kernel_rfl

noncomputable def f1015_L0 (n N m0 : Nat) (y0 : List (Rose (Int × Int × ByteArray × ByteArray × Int × Int × ByteArray))) (y1 : Int) (y2 : List (Rose (Int × Int × ByteArray × ByteArray × Int × Int × ByteArray))) : Option Res := loopAt Γ (orc [e1004n N, e1015n N]) n (19 : Nat) (0 : Nat) [] [Pth.r, Pth.r, Pth.l, Pth.r, Pth.b] m0 (St.mk [Slot.val (Val.one (Cell.dat ((Ty.int IntKind.i64).pair ((Ty.int IntKind.i64).pair (Ty.str.pair (Ty.str.pair ((Ty.int IntKind.i64).pair ((Ty.int IntKind.i64).pair Ty.str)))))).rose.slice y0)), Slot.nix, Slot.nix, Slot.val (Val.one (Cell.own (0 : Nat))), Slot.val (Val.one (Cell.dat (Ty.int IntKind.i64) y1)), Slot.nix, Slot.nix, Slot.nix, Slot.nix, Slot.nix, Slot.nix, Slot.nix, Slot.nix, Slot.nix, Slot.nix, Slot.nix, Slot.nix, Slot.nix, Slot.nix, Slot.nix, Slot.nix, Slot.nix, Slot.nix] [AObj.row ((Ty.int IntKind.i64).pair ((Ty.int IntKind.i64).pair (Ty.str.pair (Ty.str.pair ((Ty.int IntKind.i64).pair ((Ty.int IntKind.i64).pair Ty.str)))))).rose y2 true])
theorem f1015_L0_step (n N m0 : Nat) (y0 : List (Rose (Int × Int × ByteArray × ByteArray × Int × Int × ByteArray))) (y1 : Int) (y2 : List (Rose (Int × Int × ByteArray × ByteArray × Int × Int × ByteArray))) : f1015_L0 n N (m0 + 1) y0 y1 y2 = bif decide (y1 < (↑y0.length : Int)) then chk (decide ((0 : Int) ≤ y1) && decide (y1 < (↑y0.length : Int))) (chk (Sp.fitTs (y0.getD y1.toNat (Rose.mk ((0 : Int), (0 : Int), ByteArray.mk #[], ByteArray.mk #[], (0 : Int), (0 : Int), ByteArray.mk #[]) [])).kids && (Sp.rsz1 (y0.getD y1.toNat (Rose.mk ((0 : Int), (0 : Int), ByteArray.mk #[], ByteArray.mk #[], (0 : Int), (0 : Int), ByteArray.mk #[]) [])).kids).blt N) (chk (decide ((0 : Int) ≤ y1) && decide (y1 < (↑y2.length : Int))) (f1015_L0 n N m0 y0 (IntKind.i64.wrap (y1 + (1 : Int))) (y2.set y1.toNat (Rose.mk ((y0.getD y1.toNat (Rose.mk ((0 : Int), (0 : Int), ByteArray.mk #[], ByteArray.mk #[], (0 : Int), (0 : Int), ByteArray.mk #[]) [])).a.1, (y0.getD y1.toNat (Rose.mk ((0 : Int), (0 : Int), ByteArray.mk #[], ByteArray.mk #[], (0 : Int), (0 : Int), ByteArray.mk #[]) [])).a.2.1, (y0.getD y1.toNat (Rose.mk ((0 : Int), (0 : Int), ByteArray.mk #[], ByteArray.mk #[], (0 : Int), (0 : Int), ByteArray.mk #[]) [])).a.2.2.1, (y0.getD y1.toNat (Rose.mk ((0 : Int), (0 : Int), ByteArray.mk #[], ByteArray.mk #[], (0 : Int), (0 : Int), ByteArray.mk #[]) [])).a.2.2.2.1, (y0.getD y1.toNat (Rose.mk ((0 : Int), (0 : Int), ByteArray.mk #[], ByteArray.mk #[], (0 : Int), (0 : Int), ByteArray.mk #[]) [])).a.2.2.2.2.1, (y0.getD y1.toNat (Rose.mk ((0 : Int), (0 : Int), ByteArray.mk #[], ByteArray.mk #[], (0 : Int), (0 : Int), ByteArray.mk #[]) [])).a.2.2.2.2.2.1, (y0.getD y1.toNat (Rose.mk ((0 : Int), (0 : Int), ByteArray.mk #[], ByteArray.mk #[], (0 : Int), (0 : Int), ByteArray.mk #[]) [])).a.2.2.2.2.2.2) (y0.getD y1.toNat (Rose.mk ((0 : Int), (0 : Int), ByteArray.mk #[], ByteArray.mk #[], (0 : Int), (0 : Int), ByteArray.mk #[]) [])).kids))))) else some (Res.mk [XV.mk false [X.c (X0.row ((Ty.int IntKind.i64).pair ((Ty.int IntKind.i64).pair (Ty.str.pair (Ty.str.pair ((Ty.int IntKind.i64).pair ((Ty.int IntKind.i64).pair Ty.str)))))).rose y2 true)]] []) := by kernel_rfl
theorem f1015_raw (n N : Nat) (x0 : List (Rose (Int × Int × ByteArray × ByteArray × Int × Int × ByteArray))) : abody Γ (orc [e1004n N, e1015n N]) n 19 [XV.mk false [X.c (X0.dat ((Ty.int IntKind.i64).pair ((Ty.int IntKind.i64).pair (Ty.str.pair (Ty.str.pair ((Ty.int IntKind.i64).pair ((Ty.int IntKind.i64).pair Ty.str)))))).rose.slice x0)]] = chk (decide ((0 : Int) ≤ (↑x0.length : Int)) && decide ((↑x0.length : Int) ≤ (↑x0.length : Int)) && decide ((↑x0.length : Int) ≤ (140737488355328 : Int)) && decide ((104 : Int) * (↑x0.length : Int) ≤ (140737488355328 : Int))) (f1015_L0 n N n x0 (0 : Int) (List.replicate (↑x0.length : Int).toNat (Rose.mk ((0 : Int), (0 : Int), ByteArray.empty, ByteArray.empty, (0 : Int), (0 : Int), ByteArray.empty) []))) := by kernel_rfl

noncomputable abbrev recTo : List REnt := [⟨e1004, fun a => Sp.rsz1 a.2.2.2.2.2.2.2⟩, ⟨e1015, fun a => Sp.rszs a⟩]
theorem make104 {n : Nat} (h : n ≤ 1000000000000) : (decide ((0 : Int) ≤ (n : Int)) && decide ((n : Int) ≤ (n : Int)) && decide ((n : Int) ≤ (140737488355328 : Int)) && decide ((104 : Int) * (n : Int) ≤ (140737488355328 : Int))) = true := by
  rw [decide_eq_true (show (0 : Int) ≤ n by omega), decide_eq_true (Int.le_refl (n : Int)), decide_eq_true (show (n : Int) ≤ 140737488355328 by omega), decide_eq_true (show 104 * (n : Int) ≤ 140737488355328 by omega)]
  rfl
theorem e1004_core (x0 x1 : Int) (x2 x3 : ByteArray) (x4 x5 : Int) (x6 : ByteArray) (x7 : List RT) (h : Sp.fitTs x7 = true) : abody Γ (orc (belows (Sp.rsz1 x7) recTo ++ [e89])) 0 n1004 (e1004.args (x0, x1, x2, x3, x4, x5, x6, x7)) = some (e1004.res (x0, x1, x2, x3, x4, x5, x6, x7)) := by
  refine (f1004_raw _ x0 x1 x2 x3 x4 x5 x6 x7).trans ?_
  rw [h, Bool.true_and, blt_mk (show Sp.rszs x7 < Sp.rsz1 x7 by unfold Sp.rsz1; omega), chkT]
  rfl
theorem e1015_core (xs : List RT) (h : Sp.fitTs xs = true) : ∃ n, abody Γ (orc (belows (Sp.rszs xs) recTo ++ [])) n n1015 (e1015.args xs) = some (e1015.res xs) := by
  obtain ⟨h1, h2⟩ := fitTs_of h
  refine ⟨xs.length + 1, (f1015_raw _ _ xs).trans ?_⟩
  rw [make104 h1, chkT]
  refine to_end (R := fun l : List RT => Res.mk [XV.mk false [X.c (X0.row tT l true)]] []) xs (fun m k acc => f1015_L0 (xs.length + 1) (Sp.rszs xs) m xs k acc) (fun m k acc hk => ?_) (fun m k acc h ha => ?_) _
  · show f1015_L0 _ _ _ _ _ _ = _
    rw [f1015_L0_step, nat_ge hk, cond_false]
  · show f1015_L0 _ _ _ _ _ _ = _
    rw [f1015_L0_step, ha, nat_lt h, cond_true, guard0, chkT, getD_nat xs k _ h, next64 h (by omega), h2 _ (List.getElem_mem h), Bool.true_and, blt_mk (rsz1_mem (List.getElem_mem h)), chkT, chkT, Int.toNat_natCast]
    show f1015_L0 _ _ _ _ _ (acc.set k (Sp.mkT (Sp.unT xs[k]))) = _
    rw [mkT_un]
theorem recTo_ok : ∀ r ∈ recTo, Valid PP Γ r.e :=
  valid_recs ok _ (rcons ⟨[e89], vcons e89_ok vnil, fun a ha _ => ⟨0, e1004_core a.1 a.2.1 a.2.2.1 a.2.2.2.1 a.2.2.2.2.1 a.2.2.2.2.2.1 a.2.2.2.2.2.2.1 a.2.2.2.2.2.2.2 ha⟩⟩ (rcons ⟨[], vnil, fun a ha _ => e1015_core a ha⟩ rnil))
theorem e1004_ok : Valid PP Γ e1004 := recTo_ok _ (List.mem_cons_self)
def Sp.eqVt (x y : V3) : Bool := (Sp.f86 x.1 x.2.1 x.2.2 y.1 y.2.1 y.2.2).1
def Sp.eqA (a b : VA) : Bool :=
  bif a.1 != b.1 then false else bif a.2.1 != b.2.1 then false else bif !(a.2.2.1.toList == b.2.2.1.toList) then false else bif !(a.2.2.2.1.toList == b.2.2.2.1.toList) then false else bif !Sp.eqVt a.2.2.2.2 b.2.2.2.2 then false else true
mutual
def Sp.eqT : RT → RT → Bool
  | .mk a ks, .mk b js => bif !Sp.eqA a b then false else Sp.eqTs ks js
def Sp.eqTs : List RT → List RT → Bool
  | [], [] => true
  | r :: l, s :: m => bif !Sp.eqT r s then false else Sp.eqTs l m
  | _, _ => false
end
theorem eqTs_eq : ∀ (l m : List RT), Sp.eqW Sp.eqT l m = Sp.eqTs l m
  | [], [] => by rw [Sp.eqTs]; rfl
  | r :: l, s :: m => by rw [Sp.eqTs, Sp.eqW, eqTs_eq l m]
  | [], s :: m => by rw [Sp.eqTs]; rfl; all_goals simp
  | r :: l, [] => by rw [Sp.eqTs]; rfl; all_goals simp
noncomputable def e1006 : Ent := { f := n1006, ins := [Sh.one (cL tT), Sh.one (cL tT)], outs := [Sh.one cB], upd := [], pre := fun a => true, spec := fun a => Sp.eqTs a.1 a.2, wrt := fun _ => () }
noncomputable def e1007 : Ent := { f := n1007, ins := [Sh.agg aT, Sh.agg aT], outs := [Sh.one cB], upd := [], pre := fun a => true, spec := fun a => Sp.eqT (Sp.mkT a.1) (Sp.mkT a.2), wrt := fun _ => () }
noncomputable def e1006n (N : Nat) : Ent := e1006.below (fun a => Sp.rszs a.1) N
noncomputable def e1007n (N : Nat) : Ent := e1007.below (fun a => Sp.rsz1 a.1.2.2.2.2.2.2.2) N
noncomputable def f1006_L0 (n N m0 : Nat) (y0 : List (Rose (Int × Int × ByteArray × ByteArray × Int × Int × ByteArray))) (y1 : List (Rose (Int × Int × ByteArray × ByteArray × Int × Int × ByteArray))) (y2 : Int) : Option Res := loopAt Γ (orc [e1006n N, e1007n N]) n (8 : Nat) (0 : Nat) [] [Pth.r, Pth.r, Pth.l, Pth.r, Pth.b] m0 (St.mk [Slot.val (Val.one (Cell.dat ((Ty.int IntKind.i64).pair ((Ty.int IntKind.i64).pair (Ty.str.pair (Ty.str.pair ((Ty.int IntKind.i64).pair ((Ty.int IntKind.i64).pair Ty.str)))))).rose.slice y0)), Slot.val (Val.one (Cell.dat ((Ty.int IntKind.i64).pair ((Ty.int IntKind.i64).pair (Ty.str.pair (Ty.str.pair ((Ty.int IntKind.i64).pair ((Ty.int IntKind.i64).pair Ty.str)))))).rose.slice y1)), Slot.nix, Slot.nix, Slot.nix, Slot.val (Val.one (Cell.dat (Ty.int IntKind.i64) y2)), Slot.nix, Slot.nix, Slot.nix, Slot.nix, Slot.nix, Slot.nix, Slot.nix, Slot.nix, Slot.nix, Slot.nix, Slot.nix, Slot.nix, Slot.nix, Slot.nix, Slot.nix, Slot.nix, Slot.nix, Slot.nix, Slot.nix, Slot.nix, Slot.nix] [])
theorem f1006_L0_step (n N m0 : Nat) (y0 : List (Rose (Int × Int × ByteArray × ByteArray × Int × Int × ByteArray))) (y1 : List (Rose (Int × Int × ByteArray × ByteArray × Int × Int × ByteArray))) (y2 : Int) : f1006_L0 n N (m0 + 1) y0 y1 y2 = bif decide (y2 < (↑y0.length : Int)) then chk (decide ((0 : Int) ≤ y2) && decide (y2 < (↑y0.length : Int))) (chk (decide ((0 : Int) ≤ y2) && decide (y2 < (↑y1.length : Int))) (chk ((Sp.rsz1 (y0.getD y2.toNat (Rose.mk ((0 : Int), (0 : Int), ByteArray.mk #[], ByteArray.mk #[], (0 : Int), (0 : Int), ByteArray.mk #[]) [])).kids).blt N) (bif !Sp.eqT (Sp.mkT ((y0.getD y2.toNat (Rose.mk ((0 : Int), (0 : Int), ByteArray.mk #[], ByteArray.mk #[], (0 : Int), (0 : Int), ByteArray.mk #[]) [])).a.1, (y0.getD y2.toNat (Rose.mk ((0 : Int), (0 : Int), ByteArray.mk #[], ByteArray.mk #[], (0 : Int), (0 : Int), ByteArray.mk #[]) [])).a.2.1, (y0.getD y2.toNat (Rose.mk ((0 : Int), (0 : Int), ByteArray.mk #[], ByteArray.mk #[], (0 : Int), (0 : Int), ByteArray.mk #[]) [])).a.2.2.1, (y0.getD y2.toNat (Rose.mk ((0 : Int), (0 : Int), ByteArray.mk #[], ByteArray.mk #[], (0 : Int), (0 : Int), ByteArray.mk #[]) [])).a.2.2.2.1, (y0.getD y2.toNat (Rose.mk ((0 : Int), (0 : Int), ByteArray.mk #[], ByteArray.mk #[], (0 : Int), (0 : Int), ByteArray.mk #[]) [])).a.2.2.2.2.1, (y0.getD y2.toNat (Rose.mk ((0 : Int), (0 : Int), ByteArray.mk #[], ByteArray.mk #[], (0 : Int), (0 : Int), ByteArray.mk #[]) [])).a.2.2.2.2.2.1, (y0.getD y2.toNat (Rose.mk ((0 : Int), (0 : Int), ByteArray.mk #[], ByteArray.mk #[], (0 : Int), (0 : Int), ByteArray.mk #[]) [])).a.2.2.2.2.2.2, (y0.getD y2.toNat (Rose.mk ((0 : Int), (0 : Int), ByteArray.mk #[], ByteArray.mk #[], (0 : Int), (0 : Int), ByteArray.mk #[]) [])).kids)) (Sp.mkT ((y1.getD y2.toNat (Rose.mk ((0 : Int), (0 : Int), ByteArray.mk #[], ByteArray.mk #[], (0 : Int), (0 : Int), ByteArray.mk #[]) [])).a.1, (y1.getD y2.toNat (Rose.mk ((0 : Int), (0 : Int), ByteArray.mk #[], ByteArray.mk #[], (0 : Int), (0 : Int), ByteArray.mk #[]) [])).a.2.1, (y1.getD y2.toNat (Rose.mk ((0 : Int), (0 : Int), ByteArray.mk #[], ByteArray.mk #[], (0 : Int), (0 : Int), ByteArray.mk #[]) [])).a.2.2.1, (y1.getD y2.toNat (Rose.mk ((0 : Int), (0 : Int), ByteArray.mk #[], ByteArray.mk #[], (0 : Int), (0 : Int), ByteArray.mk #[]) [])).a.2.2.2.1, (y1.getD y2.toNat (Rose.mk ((0 : Int), (0 : Int), ByteArray.mk #[], ByteArray.mk #[], (0 : Int), (0 : Int), ByteArray.mk #[]) [])).a.2.2.2.2.1, (y1.getD y2.toNat (Rose.mk ((0 : Int), (0 : Int), ByteArray.mk #[], ByteArray.mk #[], (0 : Int), (0 : Int), ByteArray.mk #[]) [])).a.2.2.2.2.2.1, (y1.getD y2.toNat (Rose.mk ((0 : Int), (0 : Int), ByteArray.mk #[], ByteArray.mk #[], (0 : Int), (0 : Int), ByteArray.mk #[]) [])).a.2.2.2.2.2.2, (y1.getD y2.toNat (Rose.mk ((0 : Int), (0 : Int), ByteArray.mk #[], ByteArray.mk #[], (0 : Int), (0 : Int), ByteArray.mk #[]) [])).kids)) then some (Res.mk [XV.mk false [X.c (X0.dat Ty.bool false)]] []) else f1006_L0 n N m0 y0 y1 (IntKind.i64.wrap (y2 + (1 : Int)))))) else some (Res.mk [XV.mk false [X.c (X0.dat Ty.bool true)]] []) := by kernel_rfl
theorem f1006_raw (n N : Nat) (x0 : List (Rose (Int × Int × ByteArray × ByteArray × Int × Int × ByteArray))) (x1 : List (Rose (Int × Int × ByteArray × ByteArray × Int × Int × ByteArray))) : abody Γ (orc [e1006n N, e1007n N]) n 8 [XV.mk false [X.c (X0.dat ((Ty.int IntKind.i64).pair ((Ty.int IntKind.i64).pair (Ty.str.pair (Ty.str.pair ((Ty.int IntKind.i64).pair ((Ty.int IntKind.i64).pair Ty.str)))))).rose.slice x0)], XV.mk false [X.c (X0.dat ((Ty.int IntKind.i64).pair ((Ty.int IntKind.i64).pair (Ty.str.pair (Ty.str.pair ((Ty.int IntKind.i64).pair ((Ty.int IntKind.i64).pair Ty.str)))))).rose.slice x1)]] = bif (↑x0.length : Int) != (↑x1.length : Int) then some (Res.mk [XV.mk false [X.c (X0.dat Ty.bool false)]] []) else f1006_L0 n N n x0 x1 (0 : Int) := by kernel_rfl

theorem f1007_raw (N : Nat) (x0 : Int) (x1 : Int) (x2 : ByteArray) (x3 : ByteArray) (x4 : Int) (x5 : Int) (x6 : ByteArray) (x7 : List (Rose (Int × Int × ByteArray × ByteArray × Int × Int × ByteArray))) (x8 : Int) (x9 : Int) (x10 : ByteArray) (x11 : ByteArray) (x12 : Int) (x13 : Int) (x14 : ByteArray) (x15 : List (Rose (Int × Int × ByteArray × ByteArray × Int × Int × ByteArray))) : abody Γ (orc [e1006n N, e1007n N, e86]) 0 9 [XV.mk true [X.c (X0.dat (Ty.int IntKind.i64) x0), X.c (X0.dat (Ty.int IntKind.i64) x1), X.c (X0.dat Ty.str x2), X.c (X0.dat Ty.str x3), X.c (X0.dat (Ty.int IntKind.i64) x4), X.c (X0.dat (Ty.int IntKind.i64) x5), X.c (X0.dat Ty.str x6), X.c (X0.dat ((Ty.int IntKind.i64).pair ((Ty.int IntKind.i64).pair (Ty.str.pair (Ty.str.pair ((Ty.int IntKind.i64).pair ((Ty.int IntKind.i64).pair Ty.str)))))).rose.slice x7)], XV.mk true [X.c (X0.dat (Ty.int IntKind.i64) x8), X.c (X0.dat (Ty.int IntKind.i64) x9), X.c (X0.dat Ty.str x10), X.c (X0.dat Ty.str x11), X.c (X0.dat (Ty.int IntKind.i64) x12), X.c (X0.dat (Ty.int IntKind.i64) x13), X.c (X0.dat Ty.str x14), X.c (X0.dat ((Ty.int IntKind.i64).pair ((Ty.int IntKind.i64).pair (Ty.str.pair (Ty.str.pair ((Ty.int IntKind.i64).pair ((Ty.int IntKind.i64).pair Ty.str)))))).rose.slice x15)]] = bif x0 != x8 then some (Res.mk [XV.mk false [X.c (X0.dat Ty.bool false)]] []) else bif x1 != x9 then some (Res.mk [XV.mk false [X.c (X0.dat Ty.bool false)]] []) else bif !x2.toList == x10.toList then some (Res.mk [XV.mk false [X.c (X0.dat Ty.bool false)]] []) else bif !x3.toList == x11.toList then some (Res.mk [XV.mk false [X.c (X0.dat Ty.bool false)]] []) else bif !(Sp.f86 x4 x5 x6 x12 x13 x14).1 then some (Res.mk [XV.mk false [X.c (X0.dat Ty.bool false)]] []) else chk ((Sp.rszs x7).blt N) (bif !Sp.eqTs x7 x15 then some (Res.mk [XV.mk false [X.c (X0.dat Ty.bool false)]] []) else some (Res.mk [XV.mk false [X.c (X0.dat Ty.bool true)]] [])) := by kernel_rfl

noncomputable abbrev recEq : List REnt := [⟨e1006, fun a => Sp.rszs a.1⟩, ⟨e1007, fun a => Sp.rsz1 a.1.2.2.2.2.2.2.2⟩]
theorem e1006_core (xs ys : List RT) (hl : xs.length ≤ maxLen) : ∃ n, abody Γ (orc (belows (Sp.rszs xs) recEq ++ [])) n n1006 (e1006.args (xs, ys)) = some (e1006.res (xs, ys)) := by
  have hl : xs.length ≤ 9223372036854775807 := hl
  refine ⟨xs.length + 1, (f1006_raw _ _ xs ys).trans ?_⟩
  show _ = some (rBo (Sp.eqTs xs ys))
  rw [← eqTs_eq]
  by_cases he : xs.length = ys.length
  · rw [show ((xs.length : Int) != (ys.length : Int)) = false by simp [he], cond_false]
    refine eq_loop xs ys (fun m k => f1006_L0 _ (Sp.rszs xs) m xs ys k) he (fun m k hk => ?_) (fun m k h h2 => ?_) xs.length 0 _ (Nat.zero_add _) (Nat.lt_succ_self _)
    · show f1006_L0 _ _ _ _ _ _ = _
      rw [f1006_L0_step, nat_ge hk, cond_false]
    · show f1006_L0 _ _ _ _ _ _ = _
      rw [f1006_L0_step, nat_lt h, cond_true, guard0, chkT, guard2 h2, chkT, getD_nat xs k _ h, getD_nat ys k _ h2, next64 h2 (by omega), blt_mk (rsz1_mem (List.getElem_mem h)), chkT]
      show (bif !Sp.eqT (Sp.mkT (Sp.unT xs[k])) (Sp.mkT (Sp.unT ys[k])) then _ else _) = _
      rw [mkT_un, mkT_un]
  · rw [show ((xs.length : Int) != (ys.length : Int)) = true by simp; omega, eqW_len he]
    rfl
theorem e1007_core (x0 x1 : Int) (x2 x3 : ByteArray) (x4 x5 : Int) (x6 : ByteArray) (x7 : List RT) (y0 y1 : Int) (y2 y3 : ByteArray) (y4 y5 : Int) (y6 : ByteArray) (y7 : List RT) : abody Γ (orc (belows (Sp.rsz1 x7) recEq ++ [e86])) 0 n1007 (e1007.args ((x0, x1, x2, x3, x4, x5, x6, x7), (y0, y1, y2, y3, y4, y5, y6, y7))) = some (e1007.res ((x0, x1, x2, x3, x4, x5, x6, x7), (y0, y1, y2, y3, y4, y5, y6, y7))) := by
  refine (f1007_raw _ x0 x1 x2 x3 x4 x5 x6 x7 y0 y1 y2 y3 y4 y5 y6 y7).trans ?_
  have e : Sp.eqT (Rose.mk (x0, x1, x2, x3, (x4, x5, x6)) x7) (Rose.mk (y0, y1, y2, y3, (y4, y5, y6)) y7) = bif !Sp.eqA (x0, x1, x2, x3, (x4, x5, x6)) (y0, y1, y2, y3, (y4, y5, y6)) then false else Sp.eqTs x7 y7 := by rw [Sp.eqT]
  refine Eq.trans ?_ (congrArg (fun z => some (rBo z)) e.symm)
  rw [blt_mk (show Sp.rszs x7 < Sp.rsz1 x7 by unfold Sp.rsz1; omega), chkT, condB]
  unfold Sp.eqA
  show (bif x0 != y0 then _ else bif x1 != y1 then _ else bif !(x2.toList == y2.toList) then _ else bif !(x3.toList == y3.toList) then _ else bif !Sp.eqVt (x4, x5, x6) (y4, y5, y6) then _ else _) = _
  cases h0 : x0 != y0 <;> cases h1 : x1 != y1 <;> cases h2 : x2.toList == y2.toList <;> cases h3 : x3.toList == y3.toList <;> cases h4 : Sp.eqVt (x4, x5, x6) (y4, y5, y6) <;> simp only [h0, h1, h2, h3, h4, cond_true, cond_false, Bool.not_true, Bool.not_false] <;> cases Sp.eqTs x7 y7 <;> rfl
theorem recEq_ok : ∀ r ∈ recEq, Valid PP Γ r.e :=
  valid_recs ok _ (rcons ⟨[], vnil, fun a _ hl => e1006_core a.1 a.2 (hl _ (List.mem_cons_self) _ (List.mem_cons_self)).1⟩ (rcons ⟨[e86], vcons e86_ok vnil, fun a _ _ => ⟨0, e1007_core a.1.1 a.1.2.1 a.1.2.2.1 a.1.2.2.2.1 a.1.2.2.2.2.1 a.1.2.2.2.2.2.1 a.1.2.2.2.2.2.2.1 a.1.2.2.2.2.2.2.2 a.2.1 a.2.2.1 a.2.2.2.1 a.2.2.2.2.1 a.2.2.2.2.2.1 a.2.2.2.2.2.2.1 a.2.2.2.2.2.2.2.1 a.2.2.2.2.2.2.2.2⟩⟩ rnil))
theorem e1006_ok : Valid PP Γ e1006 := recEq_ok _ (List.mem_cons_self)
theorem e1007_ok : Valid PP Γ e1007 := recEq_ok _ (List.mem_cons_of_mem _ (List.mem_cons_self))
end Go.Proofs.GR.T

set_option maxRecDepth 100000
set_option maxHeartbeats 100000000
namespace Go.Proofs.GR.T
open Go Go.Proofs Go.Proofs.GR
mutual
def Sp.wT : RT → Nat
  | .mk _ ks => 7 + Sp.wTs ks
def Sp.wTs : List RT → Nat
  | [] => 0
  | r :: l => Sp.wT r + Sp.wTs l
end
def Sp.markA (k : Int) : VA := (k, k + 1, Sp.mText (k + 2), Sp.mText (k + 3), (k + 4, k + 5, Sp.mText (k + 6)))
mutual
def Sp.markT : RT → Int → RT
  | .mk _ ks, k => .mk (Sp.markA k) (Sp.markTs ks (k + 7))
def Sp.markTs : List RT → Int → List RT
  | [], _ => []
  | r :: l, k => Sp.markT r k :: Sp.markTs l (k + (Sp.wT r : Int))
end
theorem wTs_eq : ∀ l : List RT, Sp.wTs l = Sp.wtW Sp.wT l
  | [] => by rw [Sp.wTs]; rfl
  | r :: l => by rw [Sp.wTs, Sp.wtW, wTs_eq l]
theorem markTs_eq : ∀ (l : List RT) (k : Int), Sp.markTs l k = Sp.markU Sp.markT Sp.wT l k
  | [], k => by rw [Sp.markTs]; rfl
  | r :: l, k => by rw [Sp.markTs, Sp.markU, markTs_eq l]
def Sp.smallTs (xs : List RT) (k : Int) : Bool := Sp.smallU Sp.wT xs k
def Sp.addTs (xs : List RT) (k : Int) : Int := k + (Sp.wTs xs : Int)
noncomputable def e1009 : Ent := { f := n1009, ins := [Sh.one (C0.row tT), Sh.one cI], outs := [Sh.one cI], upd := [Sh.one (C0.row tT)], pre := fun a => Sp.smallTs a.1 a.2, spec := fun a => Sp.addTs a.1 a.2, wrt := fun a => Sp.markTs a.1 a.2 }
noncomputable def e1009n (N : Nat) : Ent := e1009.below (fun a => Sp.rszs a.1) N
noncomputable def f1009_L0 (n N m0 : Nat) (y0 : Int) (y1 : Int) (y2 : List (Rose (Int × Int × ByteArray × ByteArray × Int × Int × ByteArray))) : Option Res := loopAt Γ (orc [e1009n N, e75]) n (11 : Nat) (1 : Nat) [(0 : Nat)] [Pth.r, Pth.l, Pth.r, Pth.b] m0 (St.mk [Slot.val (Val.one (Cell.own (0 : Nat))), Slot.val (Val.one (Cell.dat (Ty.int IntKind.i64) y0)), Slot.nix, Slot.nix, Slot.nix, Slot.val (Val.one (Cell.dat (Ty.int IntKind.i64) y1)), Slot.nix, Slot.nix, Slot.nix, Slot.nix, Slot.nix, Slot.nix, Slot.nix, Slot.nix, Slot.nix, Slot.nix, Slot.nix, Slot.nix, Slot.nix, Slot.nix, Slot.nix, Slot.nix, Slot.nix, Slot.nix, Slot.nix, Slot.nix, Slot.nix, Slot.nix, Slot.nix, Slot.nix, Slot.nix, Slot.nix, Slot.nix, Slot.nix, Slot.nix, Slot.nix, Slot.nix, Slot.nix, Slot.nix, Slot.nix, Slot.nix, Slot.nix, Slot.nix, Slot.nix, Slot.nix, Slot.nix, Slot.nix, Slot.nix, Slot.nix, Slot.nix, Slot.nix, Slot.nix, Slot.nix, Slot.nix, Slot.nix, Slot.nix, Slot.nix, Slot.nix, Slot.nix, Slot.nix, Slot.nix, Slot.nix, Slot.nix, Slot.nix, Slot.nix, Slot.nix, Slot.nix, Slot.nix, Slot.nix, Slot.nix, Slot.nix, Slot.nix, Slot.nix, Slot.nix, Slot.nix] [AObj.row ((Ty.int IntKind.i64).pair ((Ty.int IntKind.i64).pair (Ty.str.pair (Ty.str.pair ((Ty.int IntKind.i64).pair ((Ty.int IntKind.i64).pair Ty.str)))))).rose y2 true])
theorem f1009_L0_step (n N m0 : Nat) (y0 : Int) (y1 : Int) (y2 : List (Rose (Int × Int × ByteArray × ByteArray × Int × Int × ByteArray))) : f1009_L0 n N (m0 + 1) y0 y1 y2 = bif decide (y1 < (↑y2.length : Int)) then chk (decide ((0 : Int) ≤ y1) && decide (y1 < (↑y2.length : Int))) (chk (decide ((0 : Int) ≤ y1) && decide (y1 < (↑(rowUpd ((Ty.int IntKind.i64).pair ((Ty.int IntKind.i64).pair (Ty.str.pair (Ty.str.pair ((Ty.int IntKind.i64).pair ((Ty.int IntKind.i64).pair Ty.str)))))).rose y2 y1.toNat (0 : Nat) [Cell.dat (Ty.int IntKind.i64) y0]).length : Int))) (chk (Sp.mOK (IntKind.i64.wrap (IntKind.i64.wrap (y0 + (1 : Int)) + (1 : Int)))) (chk (decide ((0 : Int) ≤ y1) && decide (y1 < (↑(rowUpd ((Ty.int IntKind.i64).pair ((Ty.int IntKind.i64).pair (Ty.str.pair (Ty.str.pair ((Ty.int IntKind.i64).pair ((Ty.int IntKind.i64).pair Ty.str)))))).rose (rowUpd ((Ty.int IntKind.i64).pair ((Ty.int IntKind.i64).pair (Ty.str.pair (Ty.str.pair ((Ty.int IntKind.i64).pair ((Ty.int IntKind.i64).pair Ty.str)))))).rose y2 y1.toNat (0 : Nat) [Cell.dat (Ty.int IntKind.i64) y0]) y1.toNat (1 : Nat) [Cell.dat (Ty.int IntKind.i64) (IntKind.i64.wrap (y0 + (1 : Int)))]).length : Int))) (chk (Sp.mOK (IntKind.i64.wrap (IntKind.i64.wrap (IntKind.i64.wrap (y0 + (1 : Int)) + (1 : Int)) + (1 : Int)))) (chk (decide ((0 : Int) ≤ y1) && decide (y1 < (↑(rowUpd ((Ty.int IntKind.i64).pair ((Ty.int IntKind.i64).pair (Ty.str.pair (Ty.str.pair ((Ty.int IntKind.i64).pair ((Ty.int IntKind.i64).pair Ty.str)))))).rose (rowUpd ((Ty.int IntKind.i64).pair ((Ty.int IntKind.i64).pair (Ty.str.pair (Ty.str.pair ((Ty.int IntKind.i64).pair ((Ty.int IntKind.i64).pair Ty.str)))))).rose (rowUpd ((Ty.int IntKind.i64).pair ((Ty.int IntKind.i64).pair (Ty.str.pair (Ty.str.pair ((Ty.int IntKind.i64).pair ((Ty.int IntKind.i64).pair Ty.str)))))).rose y2 y1.toNat (0 : Nat) [Cell.dat (Ty.int IntKind.i64) y0]) y1.toNat (1 : Nat) [Cell.dat (Ty.int IntKind.i64) (IntKind.i64.wrap (y0 + (1 : Int)))]) y1.toNat (2 : Nat) [Cell.dat Ty.str (Sp.mText (IntKind.i64.wrap (IntKind.i64.wrap (y0 + (1 : Int)) + (1 : Int))))]).length : Int))) (chk (decide ((0 : Int) ≤ y1) && decide (y1 < (↑(rowUpd ((Ty.int IntKind.i64).pair ((Ty.int IntKind.i64).pair (Ty.str.pair (Ty.str.pair ((Ty.int IntKind.i64).pair ((Ty.int IntKind.i64).pair Ty.str)))))).rose (rowUpd ((Ty.int IntKind.i64).pair ((Ty.int IntKind.i64).pair (Ty.str.pair (Ty.str.pair ((Ty.int IntKind.i64).pair ((Ty.int IntKind.i64).pair Ty.str)))))).rose (rowUpd ((Ty.int IntKind.i64).pair ((Ty.int IntKind.i64).pair (Ty.str.pair (Ty.str.pair ((Ty.int IntKind.i64).pair ((Ty.int IntKind.i64).pair Ty.str)))))).rose (rowUpd ((Ty.int IntKind.i64).pair ((Ty.int IntKind.i64).pair (Ty.str.pair (Ty.str.pair ((Ty.int IntKind.i64).pair ((Ty.int IntKind.i64).pair Ty.str)))))).rose y2 y1.toNat (0 : Nat) [Cell.dat (Ty.int IntKind.i64) y0]) y1.toNat (1 : Nat) [Cell.dat (Ty.int IntKind.i64) (IntKind.i64.wrap (y0 + (1 : Int)))]) y1.toNat (2 : Nat) [Cell.dat Ty.str (Sp.mText (IntKind.i64.wrap (IntKind.i64.wrap (y0 + (1 : Int)) + (1 : Int))))]) y1.toNat (3 : Nat) [Cell.dat Ty.str (Sp.mText (IntKind.i64.wrap (IntKind.i64.wrap (IntKind.i64.wrap (y0 + (1 : Int)) + (1 : Int)) + (1 : Int))))]).length : Int))) (chk (decide ((0 : Int) ≤ y1) && decide (y1 < (↑(rowUpd ((Ty.int IntKind.i64).pair ((Ty.int IntKind.i64).pair (Ty.str.pair (Ty.str.pair ((Ty.int IntKind.i64).pair ((Ty.int IntKind.i64).pair Ty.str)))))).rose (rowUpd ((Ty.int IntKind.i64).pair ((Ty.int IntKind.i64).pair (Ty.str.pair (Ty.str.pair ((Ty.int IntKind.i64).pair ((Ty.int IntKind.i64).pair Ty.str)))))).rose (rowUpd ((Ty.int IntKind.i64).pair ((Ty.int IntKind.i64).pair (Ty.str.pair (Ty.str.pair ((Ty.int IntKind.i64).pair ((Ty.int IntKind.i64).pair Ty.str)))))).rose (rowUpd ((Ty.int IntKind.i64).pair ((Ty.int IntKind.i64).pair (Ty.str.pair (Ty.str.pair ((Ty.int IntKind.i64).pair ((Ty.int IntKind.i64).pair Ty.str)))))).rose (rowUpd ((Ty.int IntKind.i64).pair ((Ty.int IntKind.i64).pair (Ty.str.pair (Ty.str.pair ((Ty.int IntKind.i64).pair ((Ty.int IntKind.i64).pair Ty.str)))))).rose y2 y1.toNat (0 : Nat) [Cell.dat (Ty.int IntKind.i64) y0]) y1.toNat (1 : Nat) [Cell.dat (Ty.int IntKind.i64) (IntKind.i64.wrap (y0 + (1 : Int)))]) y1.toNat (2 : Nat) [Cell.dat Ty.str (Sp.mText (IntKind.i64.wrap (IntKind.i64.wrap (y0 + (1 : Int)) + (1 : Int))))]) y1.toNat (3 : Nat) [Cell.dat Ty.str (Sp.mText (IntKind.i64.wrap (IntKind.i64.wrap (IntKind.i64.wrap (y0 + (1 : Int)) + (1 : Int)) + (1 : Int))))]) y1.toNat (4 : Nat) [Cell.dat (Ty.int IntKind.i64) (IntKind.i64.wrap (IntKind.i64.wrap (IntKind.i64.wrap (IntKind.i64.wrap (y0 + (1 : Int)) + (1 : Int)) + (1 : Int)) + (1 : Int)))]).length : Int))) (chk (Sp.mOK (IntKind.i64.wrap (IntKind.i64.wrap (IntKind.i64.wrap (IntKind.i64.wrap (IntKind.i64.wrap (IntKind.i64.wrap (y0 + (1 : Int)) + (1 : Int)) + (1 : Int)) + (1 : Int)) + (1 : Int)) + (1 : Int)))) (chk (decide ((0 : Int) ≤ y1) && decide (y1 < (↑(rowUpd ((Ty.int IntKind.i64).pair ((Ty.int IntKind.i64).pair (Ty.str.pair (Ty.str.pair ((Ty.int IntKind.i64).pair ((Ty.int IntKind.i64).pair Ty.str)))))).rose (rowUpd ((Ty.int IntKind.i64).pair ((Ty.int IntKind.i64).pair (Ty.str.pair (Ty.str.pair ((Ty.int IntKind.i64).pair ((Ty.int IntKind.i64).pair Ty.str)))))).rose (rowUpd ((Ty.int IntKind.i64).pair ((Ty.int IntKind.i64).pair (Ty.str.pair (Ty.str.pair ((Ty.int IntKind.i64).pair ((Ty.int IntKind.i64).pair Ty.str)))))).rose (rowUpd ((Ty.int IntKind.i64).pair ((Ty.int IntKind.i64).pair (Ty.str.pair (Ty.str.pair ((Ty.int IntKind.i64).pair ((Ty.int IntKind.i64).pair Ty.str)))))).rose (rowUpd ((Ty.int IntKind.i64).pair ((Ty.int IntKind.i64).pair (Ty.str.pair (Ty.str.pair ((Ty.int IntKind.i64).pair ((Ty.int IntKind.i64).pair Ty.str)))))).rose (rowUpd ((Ty.int IntKind.i64).pair ((Ty.int IntKind.i64).pair (Ty.str.pair (Ty.str.pair ((Ty.int IntKind.i64).pair ((Ty.int IntKind.i64).pair Ty.str)))))).rose y2 y1.toNat (0 : Nat) [Cell.dat (Ty.int IntKind.i64) y0]) y1.toNat (1 : Nat) [Cell.dat (Ty.int IntKind.i64) (IntKind.i64.wrap (y0 + (1 : Int)))]) y1.toNat (2 : Nat) [Cell.dat Ty.str (Sp.mText (IntKind.i64.wrap (IntKind.i64.wrap (y0 + (1 : Int)) + (1 : Int))))]) y1.toNat (3 : Nat) [Cell.dat Ty.str (Sp.mText (IntKind.i64.wrap (IntKind.i64.wrap (IntKind.i64.wrap (y0 + (1 : Int)) + (1 : Int)) + (1 : Int))))]) y1.toNat (4 : Nat) [Cell.dat (Ty.int IntKind.i64) (IntKind.i64.wrap (IntKind.i64.wrap (IntKind.i64.wrap (IntKind.i64.wrap (y0 + (1 : Int)) + (1 : Int)) + (1 : Int)) + (1 : Int)))]) y1.toNat (5 : Nat) [Cell.dat (Ty.int IntKind.i64) (IntKind.i64.wrap (IntKind.i64.wrap (IntKind.i64.wrap (IntKind.i64.wrap (IntKind.i64.wrap (y0 + (1 : Int)) + (1 : Int)) + (1 : Int)) + (1 : Int)) + (1 : Int)))]).length : Int))) (chk (decide ((0 : Int) ≤ y1) && decide (y1 < (↑(rowUpd ((Ty.int IntKind.i64).pair ((Ty.int IntKind.i64).pair (Ty.str.pair (Ty.str.pair ((Ty.int IntKind.i64).pair ((Ty.int IntKind.i64).pair Ty.str)))))).rose (rowUpd ((Ty.int IntKind.i64).pair ((Ty.int IntKind.i64).pair (Ty.str.pair (Ty.str.pair ((Ty.int IntKind.i64).pair ((Ty.int IntKind.i64).pair Ty.str)))))).rose (rowUpd ((Ty.int IntKind.i64).pair ((Ty.int IntKind.i64).pair (Ty.str.pair (Ty.str.pair ((Ty.int IntKind.i64).pair ((Ty.int IntKind.i64).pair Ty.str)))))).rose (rowUpd ((Ty.int IntKind.i64).pair ((Ty.int IntKind.i64).pair (Ty.str.pair (Ty.str.pair ((Ty.int IntKind.i64).pair ((Ty.int IntKind.i64).pair Ty.str)))))).rose (rowUpd ((Ty.int IntKind.i64).pair ((Ty.int IntKind.i64).pair (Ty.str.pair (Ty.str.pair ((Ty.int IntKind.i64).pair ((Ty.int IntKind.i64).pair Ty.str)))))).rose (rowUpd ((Ty.int IntKind.i64).pair ((Ty.int IntKind.i64).pair (Ty.str.pair (Ty.str.pair ((Ty.int IntKind.i64).pair ((Ty.int IntKind.i64).pair Ty.str)))))).rose (rowUpd ((Ty.int IntKind.i64).pair ((Ty.int IntKind.i64).pair (Ty.str.pair (Ty.str.pair ((Ty.int IntKind.i64).pair ((Ty.int IntKind.i64).pair Ty.str)))))).rose y2 y1.toNat (0 : Nat) [Cell.dat (Ty.int IntKind.i64) y0]) y1.toNat (1 : Nat) [Cell.dat (Ty.int IntKind.i64) (IntKind.i64.wrap (y0 + (1 : Int)))]) y1.toNat (2 : Nat) [Cell.dat Ty.str (Sp.mText (IntKind.i64.wrap (IntKind.i64.wrap (y0 + (1 : Int)) + (1 : Int))))]) y1.toNat (3 : Nat) [Cell.dat Ty.str (Sp.mText (IntKind.i64.wrap (IntKind.i64.wrap (IntKind.i64.wrap (y0 + (1 : Int)) + (1 : Int)) + (1 : Int))))]) y1.toNat (4 : Nat) [Cell.dat (Ty.int IntKind.i64) (IntKind.i64.wrap (IntKind.i64.wrap (IntKind.i64.wrap (IntKind.i64.wrap (y0 + (1 : Int)) + (1 : Int)) + (1 : Int)) + (1 : Int)))]) y1.toNat (5 : Nat) [Cell.dat (Ty.int IntKind.i64) (IntKind.i64.wrap (IntKind.i64.wrap (IntKind.i64.wrap (IntKind.i64.wrap (IntKind.i64.wrap (y0 + (1 : Int)) + (1 : Int)) + (1 : Int)) + (1 : Int)) + (1 : Int)))]) y1.toNat (6 : Nat) [Cell.dat Ty.str (Sp.mText (IntKind.i64.wrap (IntKind.i64.wrap (IntKind.i64.wrap (IntKind.i64.wrap (IntKind.i64.wrap (IntKind.i64.wrap (y0 + (1 : Int)) + (1 : Int)) + (1 : Int)) + (1 : Int)) + (1 : Int)) + (1 : Int))))]).length : Int))) (chk (Sp.smallTs ((rowUpd ((Ty.int IntKind.i64).pair ((Ty.int IntKind.i64).pair (Ty.str.pair (Ty.str.pair ((Ty.int IntKind.i64).pair ((Ty.int IntKind.i64).pair Ty.str)))))).rose (rowUpd ((Ty.int IntKind.i64).pair ((Ty.int IntKind.i64).pair (Ty.str.pair (Ty.str.pair ((Ty.int IntKind.i64).pair ((Ty.int IntKind.i64).pair Ty.str)))))).rose (rowUpd ((Ty.int IntKind.i64).pair ((Ty.int IntKind.i64).pair (Ty.str.pair (Ty.str.pair ((Ty.int IntKind.i64).pair ((Ty.int IntKind.i64).pair Ty.str)))))).rose (rowUpd ((Ty.int IntKind.i64).pair ((Ty.int IntKind.i64).pair (Ty.str.pair (Ty.str.pair ((Ty.int IntKind.i64).pair ((Ty.int IntKind.i64).pair Ty.str)))))).rose (rowUpd ((Ty.int IntKind.i64).pair ((Ty.int IntKind.i64).pair (Ty.str.pair (Ty.str.pair ((Ty.int IntKind.i64).pair ((Ty.int IntKind.i64).pair Ty.str)))))).rose (rowUpd ((Ty.int IntKind.i64).pair ((Ty.int IntKind.i64).pair (Ty.str.pair (Ty.str.pair ((Ty.int IntKind.i64).pair ((Ty.int IntKind.i64).pair Ty.str)))))).rose (rowUpd ((Ty.int IntKind.i64).pair ((Ty.int IntKind.i64).pair (Ty.str.pair (Ty.str.pair ((Ty.int IntKind.i64).pair ((Ty.int IntKind.i64).pair Ty.str)))))).rose y2 y1.toNat (0 : Nat) [Cell.dat (Ty.int IntKind.i64) y0]) y1.toNat (1 : Nat) [Cell.dat (Ty.int IntKind.i64) (IntKind.i64.wrap (y0 + (1 : Int)))]) y1.toNat (2 : Nat) [Cell.dat Ty.str (Sp.mText (IntKind.i64.wrap (IntKind.i64.wrap (y0 + (1 : Int)) + (1 : Int))))]) y1.toNat (3 : Nat) [Cell.dat Ty.str (Sp.mText (IntKind.i64.wrap (IntKind.i64.wrap (IntKind.i64.wrap (y0 + (1 : Int)) + (1 : Int)) + (1 : Int))))]) y1.toNat (4 : Nat) [Cell.dat (Ty.int IntKind.i64) (IntKind.i64.wrap (IntKind.i64.wrap (IntKind.i64.wrap (IntKind.i64.wrap (y0 + (1 : Int)) + (1 : Int)) + (1 : Int)) + (1 : Int)))]) y1.toNat (5 : Nat) [Cell.dat (Ty.int IntKind.i64) (IntKind.i64.wrap (IntKind.i64.wrap (IntKind.i64.wrap (IntKind.i64.wrap (IntKind.i64.wrap (y0 + (1 : Int)) + (1 : Int)) + (1 : Int)) + (1 : Int)) + (1 : Int)))]) y1.toNat (6 : Nat) [Cell.dat Ty.str (Sp.mText (IntKind.i64.wrap (IntKind.i64.wrap (IntKind.i64.wrap (IntKind.i64.wrap (IntKind.i64.wrap (IntKind.i64.wrap (y0 + (1 : Int)) + (1 : Int)) + (1 : Int)) + (1 : Int)) + (1 : Int)) + (1 : Int))))]).getD y1.toNat (Rose.mk ((0 : Int), (0 : Int), ByteArray.mk #[], ByteArray.mk #[], (0 : Int), (0 : Int), ByteArray.mk #[]) [])).kids (IntKind.i64.wrap (IntKind.i64.wrap (IntKind.i64.wrap (IntKind.i64.wrap (IntKind.i64.wrap (IntKind.i64.wrap (IntKind.i64.wrap (y0 + (1 : Int)) + (1 : Int)) + (1 : Int)) + (1 : Int)) + (1 : Int)) + (1 : Int)) + (1 : Int))) && (Sp.rszs ((rowUpd ((Ty.int IntKind.i64).pair ((Ty.int IntKind.i64).pair (Ty.str.pair (Ty.str.pair ((Ty.int IntKind.i64).pair ((Ty.int IntKind.i64).pair Ty.str)))))).rose (rowUpd ((Ty.int IntKind.i64).pair ((Ty.int IntKind.i64).pair (Ty.str.pair (Ty.str.pair ((Ty.int IntKind.i64).pair ((Ty.int IntKind.i64).pair Ty.str)))))).rose (rowUpd ((Ty.int IntKind.i64).pair ((Ty.int IntKind.i64).pair (Ty.str.pair (Ty.str.pair ((Ty.int IntKind.i64).pair ((Ty.int IntKind.i64).pair Ty.str)))))).rose (rowUpd ((Ty.int IntKind.i64).pair ((Ty.int IntKind.i64).pair (Ty.str.pair (Ty.str.pair ((Ty.int IntKind.i64).pair ((Ty.int IntKind.i64).pair Ty.str)))))).rose (rowUpd ((Ty.int IntKind.i64).pair ((Ty.int IntKind.i64).pair (Ty.str.pair (Ty.str.pair ((Ty.int IntKind.i64).pair ((Ty.int IntKind.i64).pair Ty.str)))))).rose (rowUpd ((Ty.int IntKind.i64).pair ((Ty.int IntKind.i64).pair (Ty.str.pair (Ty.str.pair ((Ty.int IntKind.i64).pair ((Ty.int IntKind.i64).pair Ty.str)))))).rose (rowUpd ((Ty.int IntKind.i64).pair ((Ty.int IntKind.i64).pair (Ty.str.pair (Ty.str.pair ((Ty.int IntKind.i64).pair ((Ty.int IntKind.i64).pair Ty.str)))))).rose y2 y1.toNat (0 : Nat) [Cell.dat (Ty.int IntKind.i64) y0]) y1.toNat (1 : Nat) [Cell.dat (Ty.int IntKind.i64) (IntKind.i64.wrap (y0 + (1 : Int)))]) y1.toNat (2 : Nat) [Cell.dat Ty.str (Sp.mText (IntKind.i64.wrap (IntKind.i64.wrap (y0 + (1 : Int)) + (1 : Int))))]) y1.toNat (3 : Nat) [Cell.dat Ty.str (Sp.mText (IntKind.i64.wrap (IntKind.i64.wrap (IntKind.i64.wrap (y0 + (1 : Int)) + (1 : Int)) + (1 : Int))))]) y1.toNat (4 : Nat) [Cell.dat (Ty.int IntKind.i64) (IntKind.i64.wrap (IntKind.i64.wrap (IntKind.i64.wrap (IntKind.i64.wrap (y0 + (1 : Int)) + (1 : Int)) + (1 : Int)) + (1 : Int)))]) y1.toNat (5 : Nat) [Cell.dat (Ty.int IntKind.i64) (IntKind.i64.wrap (IntKind.i64.wrap (IntKind.i64.wrap (IntKind.i64.wrap (IntKind.i64.wrap (y0 + (1 : Int)) + (1 : Int)) + (1 : Int)) + (1 : Int)) + (1 : Int)))]) y1.toNat (6 : Nat) [Cell.dat Ty.str (Sp.mText (IntKind.i64.wrap (IntKind.i64.wrap (IntKind.i64.wrap (IntKind.i64.wrap (IntKind.i64.wrap (IntKind.i64.wrap (y0 + (1 : Int)) + (1 : Int)) + (1 : Int)) + (1 : Int)) + (1 : Int)) + (1 : Int))))]).getD y1.toNat (Rose.mk ((0 : Int), (0 : Int), ByteArray.mk #[], ByteArray.mk #[], (0 : Int), (0 : Int), ByteArray.mk #[]) [])).kids).blt N) (f1009_L0 n N m0 (Sp.addTs ((rowUpd ((Ty.int IntKind.i64).pair ((Ty.int IntKind.i64).pair (Ty.str.pair (Ty.str.pair ((Ty.int IntKind.i64).pair ((Ty.int IntKind.i64).pair Ty.str)))))).rose (rowUpd ((Ty.int IntKind.i64).pair ((Ty.int IntKind.i64).pair (Ty.str.pair (Ty.str.pair ((Ty.int IntKind.i64).pair ((Ty.int IntKind.i64).pair Ty.str)))))).rose (rowUpd ((Ty.int IntKind.i64).pair ((Ty.int IntKind.i64).pair (Ty.str.pair (Ty.str.pair ((Ty.int IntKind.i64).pair ((Ty.int IntKind.i64).pair Ty.str)))))).rose (rowUpd ((Ty.int IntKind.i64).pair ((Ty.int IntKind.i64).pair (Ty.str.pair (Ty.str.pair ((Ty.int IntKind.i64).pair ((Ty.int IntKind.i64).pair Ty.str)))))).rose (rowUpd ((Ty.int IntKind.i64).pair ((Ty.int IntKind.i64).pair (Ty.str.pair (Ty.str.pair ((Ty.int IntKind.i64).pair ((Ty.int IntKind.i64).pair Ty.str)))))).rose (rowUpd ((Ty.int IntKind.i64).pair ((Ty.int IntKind.i64).pair (Ty.str.pair (Ty.str.pair ((Ty.int IntKind.i64).pair ((Ty.int IntKind.i64).pair Ty.str)))))).rose (rowUpd ((Ty.int IntKind.i64).pair ((Ty.int IntKind.i64).pair (Ty.str.pair (Ty.str.pair ((Ty.int IntKind.i64).pair ((Ty.int IntKind.i64).pair Ty.str)))))).rose y2 y1.toNat (0 : Nat) [Cell.dat (Ty.int IntKind.i64) y0]) y1.toNat (1 : Nat) [Cell.dat (Ty.int IntKind.i64) (IntKind.i64.wrap (y0 + (1 : Int)))]) y1.toNat (2 : Nat) [Cell.dat Ty.str (Sp.mText (IntKind.i64.wrap (IntKind.i64.wrap (y0 + (1 : Int)) + (1 : Int))))]) y1.toNat (3 : Nat) [Cell.dat Ty.str (Sp.mText (IntKind.i64.wrap (IntKind.i64.wrap (IntKind.i64.wrap (y0 + (1 : Int)) + (1 : Int)) + (1 : Int))))]) y1.toNat (4 : Nat) [Cell.dat (Ty.int IntKind.i64) (IntKind.i64.wrap (IntKind.i64.wrap (IntKind.i64.wrap (IntKind.i64.wrap (y0 + (1 : Int)) + (1 : Int)) + (1 : Int)) + (1 : Int)))]) y1.toNat (5 : Nat) [Cell.dat (Ty.int IntKind.i64) (IntKind.i64.wrap (IntKind.i64.wrap (IntKind.i64.wrap (IntKind.i64.wrap (IntKind.i64.wrap (y0 + (1 : Int)) + (1 : Int)) + (1 : Int)) + (1 : Int)) + (1 : Int)))]) y1.toNat (6 : Nat) [Cell.dat Ty.str (Sp.mText (IntKind.i64.wrap (IntKind.i64.wrap (IntKind.i64.wrap (IntKind.i64.wrap (IntKind.i64.wrap (IntKind.i64.wrap (y0 + (1 : Int)) + (1 : Int)) + (1 : Int)) + (1 : Int)) + (1 : Int)) + (1 : Int))))]).getD y1.toNat (Rose.mk ((0 : Int), (0 : Int), ByteArray.mk #[], ByteArray.mk #[], (0 : Int), (0 : Int), ByteArray.mk #[]) [])).kids (IntKind.i64.wrap (IntKind.i64.wrap (IntKind.i64.wrap (IntKind.i64.wrap (IntKind.i64.wrap (IntKind.i64.wrap (IntKind.i64.wrap (y0 + (1 : Int)) + (1 : Int)) + (1 : Int)) + (1 : Int)) + (1 : Int)) + (1 : Int)) + (1 : Int)))) (IntKind.i64.wrap (y1 + (1 : Int))) (rowUpd ((Ty.int IntKind.i64).pair ((Ty.int IntKind.i64).pair (Ty.str.pair (Ty.str.pair ((Ty.int IntKind.i64).pair ((Ty.int IntKind.i64).pair Ty.str)))))).rose (rowUpd ((Ty.int IntKind.i64).pair ((Ty.int IntKind.i64).pair (Ty.str.pair (Ty.str.pair ((Ty.int IntKind.i64).pair ((Ty.int IntKind.i64).pair Ty.str)))))).rose (rowUpd ((Ty.int IntKind.i64).pair ((Ty.int IntKind.i64).pair (Ty.str.pair (Ty.str.pair ((Ty.int IntKind.i64).pair ((Ty.int IntKind.i64).pair Ty.str)))))).rose (rowUpd ((Ty.int IntKind.i64).pair ((Ty.int IntKind.i64).pair (Ty.str.pair (Ty.str.pair ((Ty.int IntKind.i64).pair ((Ty.int IntKind.i64).pair Ty.str)))))).rose (rowUpd ((Ty.int IntKind.i64).pair ((Ty.int IntKind.i64).pair (Ty.str.pair (Ty.str.pair ((Ty.int IntKind.i64).pair ((Ty.int IntKind.i64).pair Ty.str)))))).rose (rowUpd ((Ty.int IntKind.i64).pair ((Ty.int IntKind.i64).pair (Ty.str.pair (Ty.str.pair ((Ty.int IntKind.i64).pair ((Ty.int IntKind.i64).pair Ty.str)))))).rose (rowUpd ((Ty.int IntKind.i64).pair ((Ty.int IntKind.i64).pair (Ty.str.pair (Ty.str.pair ((Ty.int IntKind.i64).pair ((Ty.int IntKind.i64).pair Ty.str)))))).rose (rowUpd ((Ty.int IntKind.i64).pair ((Ty.int IntKind.i64).pair (Ty.str.pair (Ty.str.pair ((Ty.int IntKind.i64).pair ((Ty.int IntKind.i64).pair Ty.str)))))).rose y2 y1.toNat (0 : Nat) [Cell.dat (Ty.int IntKind.i64) y0]) y1.toNat (1 : Nat) [Cell.dat (Ty.int IntKind.i64) (IntKind.i64.wrap (y0 + (1 : Int)))]) y1.toNat (2 : Nat) [Cell.dat Ty.str (Sp.mText (IntKind.i64.wrap (IntKind.i64.wrap (y0 + (1 : Int)) + (1 : Int))))]) y1.toNat (3 : Nat) [Cell.dat Ty.str (Sp.mText (IntKind.i64.wrap (IntKind.i64.wrap (IntKind.i64.wrap (y0 + (1 : Int)) + (1 : Int)) + (1 : Int))))]) y1.toNat (4 : Nat) [Cell.dat (Ty.int IntKind.i64) (IntKind.i64.wrap (IntKind.i64.wrap (IntKind.i64.wrap (IntKind.i64.wrap (y0 + (1 : Int)) + (1 : Int)) + (1 : Int)) + (1 : Int)))]) y1.toNat (5 : Nat) [Cell.dat (Ty.int IntKind.i64) (IntKind.i64.wrap (IntKind.i64.wrap (IntKind.i64.wrap (IntKind.i64.wrap (IntKind.i64.wrap (y0 + (1 : Int)) + (1 : Int)) + (1 : Int)) + (1 : Int)) + (1 : Int)))]) y1.toNat (6 : Nat) [Cell.dat Ty.str (Sp.mText (IntKind.i64.wrap (IntKind.i64.wrap (IntKind.i64.wrap (IntKind.i64.wrap (IntKind.i64.wrap (IntKind.i64.wrap (y0 + (1 : Int)) + (1 : Int)) + (1 : Int)) + (1 : Int)) + (1 : Int)) + (1 : Int))))]) y1.toNat (7 : Nat) [Cell.dat ((Ty.int IntKind.i64).pair ((Ty.int IntKind.i64).pair (Ty.str.pair (Ty.str.pair ((Ty.int IntKind.i64).pair ((Ty.int IntKind.i64).pair Ty.str)))))).rose.slice (Sp.markTs ((rowUpd ((Ty.int IntKind.i64).pair ((Ty.int IntKind.i64).pair (Ty.str.pair (Ty.str.pair ((Ty.int IntKind.i64).pair ((Ty.int IntKind.i64).pair Ty.str)))))).rose (rowUpd ((Ty.int IntKind.i64).pair ((Ty.int IntKind.i64).pair (Ty.str.pair (Ty.str.pair ((Ty.int IntKind.i64).pair ((Ty.int IntKind.i64).pair Ty.str)))))).rose (rowUpd ((Ty.int IntKind.i64).pair ((Ty.int IntKind.i64).pair (Ty.str.pair (Ty.str.pair ((Ty.int IntKind.i64).pair ((Ty.int IntKind.i64).pair Ty.str)))))).rose (rowUpd ((Ty.int IntKind.i64).pair ((Ty.int IntKind.i64).pair (Ty.str.pair (Ty.str.pair ((Ty.int IntKind.i64).pair ((Ty.int IntKind.i64).pair Ty.str)))))).rose (rowUpd ((Ty.int IntKind.i64).pair ((Ty.int IntKind.i64).pair (Ty.str.pair (Ty.str.pair ((Ty.int IntKind.i64).pair ((Ty.int IntKind.i64).pair Ty.str)))))).rose (rowUpd ((Ty.int IntKind.i64).pair ((Ty.int IntKind.i64).pair (Ty.str.pair (Ty.str.pair ((Ty.int IntKind.i64).pair ((Ty.int IntKind.i64).pair Ty.str)))))).rose (rowUpd ((Ty.int IntKind.i64).pair ((Ty.int IntKind.i64).pair (Ty.str.pair (Ty.str.pair ((Ty.int IntKind.i64).pair ((Ty.int IntKind.i64).pair Ty.str)))))).rose y2 y1.toNat (0 : Nat) [Cell.dat (Ty.int IntKind.i64) y0]) y1.toNat (1 : Nat) [Cell.dat (Ty.int IntKind.i64) (IntKind.i64.wrap (y0 + (1 : Int)))]) y1.toNat (2 : Nat) [Cell.dat Ty.str (Sp.mText (IntKind.i64.wrap (IntKind.i64.wrap (y0 + (1 : Int)) + (1 : Int))))]) y1.toNat (3 : Nat) [Cell.dat Ty.str (Sp.mText (IntKind.i64.wrap (IntKind.i64.wrap (IntKind.i64.wrap (y0 + (1 : Int)) + (1 : Int)) + (1 : Int))))]) y1.toNat (4 : Nat) [Cell.dat (Ty.int IntKind.i64) (IntKind.i64.wrap (IntKind.i64.wrap (IntKind.i64.wrap (IntKind.i64.wrap (y0 + (1 : Int)) + (1 : Int)) + (1 : Int)) + (1 : Int)))]) y1.toNat (5 : Nat) [Cell.dat (Ty.int IntKind.i64) (IntKind.i64.wrap (IntKind.i64.wrap (IntKind.i64.wrap (IntKind.i64.wrap (IntKind.i64.wrap (y0 + (1 : Int)) + (1 : Int)) + (1 : Int)) + (1 : Int)) + (1 : Int)))]) y1.toNat (6 : Nat) [Cell.dat Ty.str (Sp.mText (IntKind.i64.wrap (IntKind.i64.wrap (IntKind.i64.wrap (IntKind.i64.wrap (IntKind.i64.wrap (IntKind.i64.wrap (y0 + (1 : Int)) + (1 : Int)) + (1 : Int)) + (1 : Int)) + (1 : Int)) + (1 : Int))))]).getD y1.toNat (Rose.mk ((0 : Int), (0 : Int), ByteArray.mk #[], ByteArray.mk #[], (0 : Int), (0 : Int), ByteArray.mk #[]) [])).kids (IntKind.i64.wrap (IntKind.i64.wrap (IntKind.i64.wrap (IntKind.i64.wrap (IntKind.i64.wrap (IntKind.i64.wrap (IntKind.i64.wrap (y0 + (1 : Int)) + (1 : Int)) + (1 : Int)) + (1 : Int)) + (1 : Int)) + (1 : Int)) + (1 : Int))))]))))))))))))) else some (Res.mk [XV.mk false [X.c (X0.dat (Ty.int IntKind.i64) y0)]] [X.c (X0.row ((Ty.int IntKind.i64).pair ((Ty.int IntKind.i64).pair (Ty.str.pair (Ty.str.pair ((Ty.int IntKind.i64).pair ((Ty.int IntKind.i64).pair Ty.str)))))).rose y2 true)]) := by kernel_rfl
theorem f1009_raw (n N : Nat) (x0 : List (Rose (Int × Int × ByteArray × ByteArray × Int × Int × ByteArray))) (x1 : Int) : abody Γ (orc [e1009n N, e75]) n 11 [XV.mk false [X.c (X0.row ((Ty.int IntKind.i64).pair ((Ty.int IntKind.i64).pair (Ty.str.pair (Ty.str.pair ((Ty.int IntKind.i64).pair ((Ty.int IntKind.i64).pair Ty.str)))))).rose x0 true)], XV.mk false [X.c (X0.dat (Ty.int IntKind.i64) x1)]] = f1009_L0 n N n x1 (0 : Int) x0 := by kernel_rfl

noncomputable abbrev recMk : List REnt := [⟨e1009, fun a => Sp.rszs a.1⟩]
theorem smallTs_at {x : RT} {v : Int} (h0 : 0 ≤ v) (h1 : v + (Sp.wT x : Int) ≤ 4611686018427387904) : Sp.smallTs x.kids (v + 7) = true ∧ Sp.addTs x.kids (v + 7) = v + (Sp.wT x : Int) ∧ v + 7 ≤ 4611686018427387904 := by
  cases x with
  | mk a ks =>
    rw [Sp.wT] at h1 ⊢
    rw [Int.natCast_add] at h1 ⊢
    have hc : (0 : Int) ≤ (Sp.wTs ks : Int) := Int.natCast_nonneg _
    have e7 : ((7 : Nat) : Int) = 7 := rfl
    rw [e7] at h1 ⊢
    refine ⟨smallU_mk (by omega) ?_, ?_, by omega⟩
    · show (v + 7).toNat + Sp.wtW Sp.wT ks ≤ _
      rw [← wTs_eq]
      omega
    · show v + 7 + (Sp.wTs ks : Int) = _
      omega
theorem e1009_core (xs : List RT) (v : Int) (ha : Sp.smallTs xs v = true) (hl : xs.length ≤ maxLen) : ∃ n, abody Γ (orc (belows (Sp.rszs xs) recMk ++ [e75])) n n1009 (e1009.args (xs, v)) = some (e1009.res (xs, v)) := by
  obtain ⟨h1, h2⟩ := smallU_of ha
  have hl : xs.length ≤ 9223372036854775807 := hl
  refine ⟨xs.length + 1, (f1009_raw _ _ xs v).trans ?_⟩
  show _ = some (rMk tT (v + (Sp.wTs xs : Int)) (Sp.markTs xs v))
  rw [wTs_eq, markTs_eq]
  refine markP_loop (g := Sp.markT) (w := Sp.wT) (R := rMk tT) (fun r => Sp.rszs r.kids < Sp.rszs xs) (fun m v k acc => f1009_L0 (xs.length + 1) (Sp.rszs xs) m v k acc) (fun m v k acc hk => ?_) (fun m w k acc h hlen hb h0 h1 => ?_) xs.length 0 _ v xs (Nat.zero_add _) (Nat.lt_succ_self _) hl (fun r hr => ?_) h1 h2
  · show f1009_L0 _ _ _ _ _ _ = _
    rw [f1009_L0_step, nat_ge hk, cond_false]
  · show f1009_L0 _ _ _ _ _ _ = _
    have h7 : w + 7 ≤ 4611686018427387904 := (smallTs_at h0 h1).2.2
    have s1 := (smallTs_at h0 h1).1
    have s2 := (smallTs_at h0 h1).2.1
    have e1 : IntKind.i64.wrap (w + 1) = w + 1 := wrap64 (by omega) (by omega)
    have e2 : IntKind.i64.wrap (w + 1 + 1) = w + 2 := (wrap64 (by omega) (by omega)).trans (by omega)
    have e3 : IntKind.i64.wrap (w + 2 + 1) = w + 3 := (wrap64 (by omega) (by omega)).trans (by omega)
    have e4 : IntKind.i64.wrap (w + 3 + 1) = w + 4 := (wrap64 (by omega) (by omega)).trans (by omega)
    have e5 : IntKind.i64.wrap (w + 4 + 1) = w + 5 := (wrap64 (by omega) (by omega)).trans (by omega)
    have e6 : IntKind.i64.wrap (w + 5 + 1) = w + 6 := (wrap64 (by omega) (by omega)).trans (by omega)
    have e7 : IntKind.i64.wrap (w + 6 + 1) = w + 7 := (wrap64 (by omega) (by omega)).trans (by omega)
    rw [f1009_L0_step, nat_lt h, cond_true, e1, e2, e3, e4, e5, e6, e7, Int.toNat_natCast]
    cases hx : acc[k] with
    | mk a ks =>
      obtain ⟨a0, a1, a2, a3, a4, a5, a6⟩ := a
      rw [hx] at hb s1 s2
      generalize g0 : rowUpd tT acc k 0 [Cell.dat (.int .i64) w] = A0
      generalize g1 : rowUpd tT A0 k 1 [Cell.dat (.int .i64) (w + 1)] = A1
      generalize g2 : rowUpd tT A1 k 2 [Cell.dat .str (Sp.mText (w + 2))] = A2
      generalize g3 : rowUpd tT A2 k 3 [Cell.dat .str (Sp.mText (w + 3))] = A3
      generalize g4 : rowUpd tT A3 k 4 [Cell.dat (.int .i64) (w + 4)] = A4
      generalize g5 : rowUpd tT A4 k 5 [Cell.dat (.int .i64) (w + 5)] = A5
      generalize g6 : rowUpd tT A5 k 6 [Cell.dat .str (Sp.mText (w + 6))] = A6
      have u0 : A0 = acc.set k (Rose.mk (w, a1, a2, a3, a4, a5, a6) ks) := g0.symm.trans (rowUpd_at h hx rfl)
      have u1 : A1 = acc.set k (Rose.mk (w, w + 1, a2, a3, a4, a5, a6) ks) := g1.symm.trans (upd_next h u0 rfl)
      have u2 : A2 = acc.set k (Rose.mk (w, w + 1, Sp.mText (w + 2), a3, a4, a5, a6) ks) := g2.symm.trans (upd_next h u1 rfl)
      have u3 : A3 = acc.set k (Rose.mk (w, w + 1, Sp.mText (w + 2), Sp.mText (w + 3), a4, a5, a6) ks) := g3.symm.trans (upd_next h u2 rfl)
      have u4 : A4 = acc.set k (Rose.mk (w, w + 1, Sp.mText (w + 2), Sp.mText (w + 3), w + 4, a5, a6) ks) := g4.symm.trans (upd_next h u3 rfl)
      have u5 : A5 = acc.set k (Rose.mk (w, w + 1, Sp.mText (w + 2), Sp.mText (w + 3), w + 4, w + 5, a6) ks) := g5.symm.trans (upd_next h u4 rfl)
      have u6 : A6 = acc.set k (Rose.mk (w, w + 1, Sp.mText (w + 2), Sp.mText (w + 3), w + 4, w + 5, Sp.mText (w + 6)) ks) := g6.symm.trans (upd_next h u5 rfl)
      have l0 : List.length A0 = List.length acc := (congrArg List.length u0).trans (List.length_set ..)
      have l1 : List.length A1 = List.length acc := (congrArg List.length u1).trans (List.length_set ..)
      have l2 : List.length A2 = List.length acc := (congrArg List.length u2).trans (List.length_set ..)
      have l3 : List.length A3 = List.length acc := (congrArg List.length u3).trans (List.length_set ..)
      have l4 : List.length A4 = List.length acc := (congrArg List.length u4).trans (List.length_set ..)
      have l5 : List.length A5 = List.length acc := (congrArg List.length u5).trans (List.length_set ..)
      have l6 : List.length A6 = List.length acc := (congrArg List.length u6).trans (List.length_set ..)
      have gd : List.getD A6 k (Rose.mk ((0 : Int), (0 : Int), ByteArray.mk #[], ByteArray.mk #[], (0 : Int), (0 : Int), ByteArray.mk #[]) []) = Rose.mk (Sp.markA w) ks := getD_eq h u6
      have s1 : Sp.smallTs ks (w + 7) = true := s1
      have s2 : Sp.addTs ks (w + 7) = w + (Sp.wT (Rose.mk (a0, a1, a2, a3, a4, a5, a6) ks) : Int) := s2
      have hb : Sp.rszs ks < Sp.rszs xs := hb
      rw [l0, l1, l2, l3, l4, l5, l6, nat_lt h, guard0, gd]
      simp only [chkT]
      rw [mOK_of (show w + 2 ≤ _ by omega), mOK_of (show w + 3 ≤ _ by omega), mOK_of (show w + 6 ≤ _ by omega)]
      show chk true (chk true (chk true (chk (Sp.smallTs ks (w + 7) && (Sp.rszs ks).blt (Sp.rszs xs)) (f1009_L0 _ _ _ (Sp.addTs ks (w + 7)) _ (rowUpd tT A6 k 7 [Cell.dat (.slice tT) (Sp.markTs ks (w + 7))]))))) = _
      rw [show rowUpd tT A6 k 7 [Cell.dat (.slice tT) (Sp.markTs ks (w + 7))] = acc.set k (Rose.mk (Sp.markA w) (Sp.markTs ks (w + 7))) from upd_next h u6 rfl, s1, blt_mk hb, s2, next64 h hlen, Sp.markT]
      rfl
  · have := rsz1_mem (l := xs) hr
    unfold Sp.rsz1 at this
    omega
theorem recMk_ok : ∀ r ∈ recMk, Valid PP Γ r.e := valid_recs ok _ (rcons ⟨[e75], vcons e75_ok vnil, fun a ha hl => e1009_core a.1 a.2 ha (hl _ (List.mem_cons_self) _ (List.mem_cons_self)).1⟩ rnil)
theorem e1009_ok : Valid PP Γ e1009 := recMk_ok _ (List.mem_cons_self)
end Go.Proofs.GR.T

set_option maxRecDepth 100000
set_option maxHeartbeats 100000000
namespace Go.Proofs.GR.T
open Go Go.Proofs Go.Proofs.GR
def Sp.heldA (a : VA) (k : Int) : Bool :=
  bif a.1 != k then false else bif a.2.1 != k + 1 then false else bif !(a.2.2.1.toList == (Sp.mText (k + 2)).toList) then false else bif !(a.2.2.2.1.toList == (Sp.mText (k + 3)).toList) then false else
  bif a.2.2.2.2.1 != k + 4 then false else bif a.2.2.2.2.2.1 != k + 5 then false else bif !(a.2.2.2.2.2.2.toList == (Sp.mText (k + 6)).toList) then false else true
mutual
def Sp.heldT : RT → Int → Int
  | .mk a ks, k => bif Sp.heldA a k then Sp.heldTs ks (k + 7) else -1
def Sp.heldTs : List RT → Int → Int
  | [], k => k
  | r :: l, k => bif decide (Sp.heldT r k < 0) then -1 else Sp.heldTs l (Sp.heldT r k)
end
theorem heldTs_list {l : List RT} (h : ∀ r ∈ l, ∀ k, Sp.heldT r k = -1 ∨ Sp.heldT r k = k + (Sp.wT r : Int)) : ∀ k, Sp.heldTs l k = -1 ∨ Sp.heldTs l k = k + (Sp.wTs l : Int) := by
  induction l with
  | nil => intro k; rw [Sp.heldTs, Sp.wTs]; right; simp
  | cons r l ih =>
    intro k
    rw [Sp.heldTs, Sp.wTs]
    by_cases hc : Sp.heldT r k < 0
    · rw [decide_eq_true hc]; exact .inl rfl
    · rw [decide_eq_false hc, cond_false]
      rcases h r (List.mem_cons_self) k with h1 | h1
      · omega
      · rw [h1]
        rcases ih (fun s hs => h s (List.mem_cons_of_mem _ hs)) (k + (Sp.wT r : Int)) with h2 | h2
        · exact .inl h2
        · right; rw [h2, Int.natCast_add]; omega
theorem heldT_val : ∀ (r : RT) (k : Int), Sp.heldT r k = -1 ∨ Sp.heldT r k = k + (Sp.wT r : Int) :=
  Rose.ind fun a ks ih k => by
    rw [Sp.heldT, Sp.wT]
    cases Sp.heldA a k with
    | false => exact .inl rfl
    | true =>
      rw [cond_true]
      rcases heldTs_list ih (k + 7) with h | h
      · exact .inl h
      · right; rw [h, Int.natCast_add]; omega
theorem heldA_mark (k : Int) : Sp.heldA (Sp.markA k) k = true := by
  unfold Sp.heldA Sp.markA
  simp
theorem heldTs_marks {l : List RT} (h : ∀ r ∈ l, ∀ k, 0 ≤ k → Sp.heldT (Sp.markT r k) k = k + (Sp.wT r : Int)) : ∀ k, 0 ≤ k → Sp.heldTs (Sp.markTs l k) k = Sp.addTs l k := by
  unfold Sp.addTs
  induction l with
  | nil => intro k _; rw [Sp.markTs, Sp.heldTs, Sp.wTs]; simp
  | cons r l ih =>
    intro k hk
    have h1 := h r (List.mem_cons_self) k hk
    have hw : (0 : Int) ≤ (Sp.wT r : Int) := Int.natCast_nonneg _
    rw [Sp.markTs, Sp.heldTs, h1, decide_eq_false (by omega), cond_false, ih (fun s hs => h s (List.mem_cons_of_mem _ hs)) _ (by omega), Sp.wTs, Int.natCast_add]
    omega
theorem heldT_mark : ∀ (r : RT) (k : Int), 0 ≤ k → Sp.heldT (Sp.markT r k) k = k + (Sp.wT r : Int) :=
  Rose.ind fun a ks ih k hk => by
    rw [Sp.markT, Sp.heldT, heldA_mark, cond_true, heldTs_marks ih (k + 7) (by omega), Sp.wT, Int.natCast_add]
    unfold Sp.addTs
    omega
theorem heldTs_mark (l : List RT) (k : Int) (hk : 0 ≤ k) : Sp.heldTs (Sp.markTs l k) k = Sp.addTs l k := heldTs_marks (fun r _ => heldT_mark r) k hk
noncomputable def e1010 : Ent := { f := n1010, ins := [Sh.one (cL tT), Sh.one cI], outs := [Sh.one cI], upd := [], pre := fun a => Sp.smallTs a.1 a.2, spec := fun a => Sp.heldTs a.1 a.2, wrt := fun _ => () }
noncomputable def e1010n (N : Nat) : Ent := e1010.below (fun a => Sp.rszs a.1) N
noncomputable def f1010_L0 (n N m0 : Nat) (y0 : List (Rose (Int × Int × ByteArray × ByteArray × Int × Int × ByteArray))) (y1 : Int) (y2 : Int) : Option Res := loopAt Γ (orc [e1010n N, e75]) n (12 : Nat) (0 : Nat) [] [Pth.r, Pth.l, Pth.r, Pth.b] m0 (St.mk [Slot.val (Val.one (Cell.dat ((Ty.int IntKind.i64).pair ((Ty.int IntKind.i64).pair (Ty.str.pair (Ty.str.pair ((Ty.int IntKind.i64).pair ((Ty.int IntKind.i64).pair Ty.str)))))).rose.slice y0)), Slot.val (Val.one (Cell.dat (Ty.int IntKind.i64) y1)), Slot.nix, Slot.nix, Slot.nix, Slot.val (Val.one (Cell.dat (Ty.int IntKind.i64) y2)), Slot.nix, Slot.nix, Slot.nix, Slot.nix, Slot.nix, Slot.nix, Slot.nix, Slot.nix, Slot.nix, Slot.nix, Slot.nix, Slot.nix, Slot.nix, Slot.nix, Slot.nix, Slot.nix, Slot.nix, Slot.nix, Slot.nix, Slot.nix, Slot.nix, Slot.nix, Slot.nix, Slot.nix, Slot.nix, Slot.nix, Slot.nix, Slot.nix, Slot.nix, Slot.nix, Slot.nix, Slot.nix, Slot.nix, Slot.nix, Slot.nix, Slot.nix, Slot.nix, Slot.nix, Slot.nix, Slot.nix, Slot.nix, Slot.nix, Slot.nix, Slot.nix, Slot.nix, Slot.nix, Slot.nix, Slot.nix, Slot.nix, Slot.nix, Slot.nix, Slot.nix, Slot.nix, Slot.nix, Slot.nix, Slot.nix, Slot.nix, Slot.nix, Slot.nix, Slot.nix, Slot.nix, Slot.nix, Slot.nix, Slot.nix, Slot.nix, Slot.nix, Slot.nix, Slot.nix, Slot.nix, Slot.nix, Slot.nix, Slot.nix, Slot.nix, Slot.nix, Slot.nix, Slot.nix, Slot.nix, Slot.nix, Slot.nix, Slot.nix, Slot.nix, Slot.nix, Slot.nix, Slot.nix, Slot.nix] [])
theorem f1010_L0_step (n N m0 : Nat) (y0 : List (Rose (Int × Int × ByteArray × ByteArray × Int × Int × ByteArray))) (y1 : Int) (y2 : Int) : f1010_L0 n N (m0 + 1) y0 y1 y2 = bif decide (y2 < (↑y0.length : Int)) then chk (decide ((0 : Int) ≤ y2) && decide (y2 < (↑y0.length : Int))) (bif (y0.getD y2.toNat (Rose.mk ((0 : Int), (0 : Int), ByteArray.mk #[], ByteArray.mk #[], (0 : Int), (0 : Int), ByteArray.mk #[]) [])).a.1 != y1 then some (Res.mk [XV.mk false [X.c (X0.dat (Ty.int IntKind.i64) (-1 : Int))]] []) else chk (decide ((0 : Int) ≤ y2) && decide (y2 < (↑y0.length : Int))) (bif (y0.getD y2.toNat (Rose.mk ((0 : Int), (0 : Int), ByteArray.mk #[], ByteArray.mk #[], (0 : Int), (0 : Int), ByteArray.mk #[]) [])).a.2.1 != IntKind.i64.wrap (y1 + (1 : Int)) then some (Res.mk [XV.mk false [X.c (X0.dat (Ty.int IntKind.i64) (-1 : Int))]] []) else chk (decide ((0 : Int) ≤ y2) && decide (y2 < (↑y0.length : Int))) (chk (Sp.mOK (IntKind.i64.wrap (IntKind.i64.wrap (y1 + (1 : Int)) + (1 : Int)))) (bif !(y0.getD y2.toNat (Rose.mk ((0 : Int), (0 : Int), ByteArray.mk #[], ByteArray.mk #[], (0 : Int), (0 : Int), ByteArray.mk #[]) [])).a.2.2.1.toList == (Sp.mText (IntKind.i64.wrap (IntKind.i64.wrap (y1 + (1 : Int)) + (1 : Int)))).toList then some (Res.mk [XV.mk false [X.c (X0.dat (Ty.int IntKind.i64) (-1 : Int))]] []) else chk (decide ((0 : Int) ≤ y2) && decide (y2 < (↑y0.length : Int))) (chk (Sp.mOK (IntKind.i64.wrap (IntKind.i64.wrap (IntKind.i64.wrap (y1 + (1 : Int)) + (1 : Int)) + (1 : Int)))) (bif !(y0.getD y2.toNat (Rose.mk ((0 : Int), (0 : Int), ByteArray.mk #[], ByteArray.mk #[], (0 : Int), (0 : Int), ByteArray.mk #[]) [])).a.2.2.2.1.toList == (Sp.mText (IntKind.i64.wrap (IntKind.i64.wrap (IntKind.i64.wrap (y1 + (1 : Int)) + (1 : Int)) + (1 : Int)))).toList then some (Res.mk [XV.mk false [X.c (X0.dat (Ty.int IntKind.i64) (-1 : Int))]] []) else chk (decide ((0 : Int) ≤ y2) && decide (y2 < (↑y0.length : Int))) (bif (y0.getD y2.toNat (Rose.mk ((0 : Int), (0 : Int), ByteArray.mk #[], ByteArray.mk #[], (0 : Int), (0 : Int), ByteArray.mk #[]) [])).a.2.2.2.2.1 != IntKind.i64.wrap (IntKind.i64.wrap (IntKind.i64.wrap (IntKind.i64.wrap (y1 + (1 : Int)) + (1 : Int)) + (1 : Int)) + (1 : Int)) then some (Res.mk [XV.mk false [X.c (X0.dat (Ty.int IntKind.i64) (-1 : Int))]] []) else chk (decide ((0 : Int) ≤ y2) && decide (y2 < (↑y0.length : Int))) (bif (y0.getD y2.toNat (Rose.mk ((0 : Int), (0 : Int), ByteArray.mk #[], ByteArray.mk #[], (0 : Int), (0 : Int), ByteArray.mk #[]) [])).a.2.2.2.2.2.1 != IntKind.i64.wrap (IntKind.i64.wrap (IntKind.i64.wrap (IntKind.i64.wrap (IntKind.i64.wrap (y1 + (1 : Int)) + (1 : Int)) + (1 : Int)) + (1 : Int)) + (1 : Int)) then some (Res.mk [XV.mk false [X.c (X0.dat (Ty.int IntKind.i64) (-1 : Int))]] []) else chk (decide ((0 : Int) ≤ y2) && decide (y2 < (↑y0.length : Int))) (chk (Sp.mOK (IntKind.i64.wrap (IntKind.i64.wrap (IntKind.i64.wrap (IntKind.i64.wrap (IntKind.i64.wrap (IntKind.i64.wrap (y1 + (1 : Int)) + (1 : Int)) + (1 : Int)) + (1 : Int)) + (1 : Int)) + (1 : Int)))) (bif !(y0.getD y2.toNat (Rose.mk ((0 : Int), (0 : Int), ByteArray.mk #[], ByteArray.mk #[], (0 : Int), (0 : Int), ByteArray.mk #[]) [])).a.2.2.2.2.2.2.toList == (Sp.mText (IntKind.i64.wrap (IntKind.i64.wrap (IntKind.i64.wrap (IntKind.i64.wrap (IntKind.i64.wrap (IntKind.i64.wrap (y1 + (1 : Int)) + (1 : Int)) + (1 : Int)) + (1 : Int)) + (1 : Int)) + (1 : Int)))).toList then some (Res.mk [XV.mk false [X.c (X0.dat (Ty.int IntKind.i64) (-1 : Int))]] []) else chk (decide ((0 : Int) ≤ y2) && decide (y2 < (↑y0.length : Int))) (chk (Sp.smallTs (y0.getD y2.toNat (Rose.mk ((0 : Int), (0 : Int), ByteArray.mk #[], ByteArray.mk #[], (0 : Int), (0 : Int), ByteArray.mk #[]) [])).kids (IntKind.i64.wrap (IntKind.i64.wrap (IntKind.i64.wrap (IntKind.i64.wrap (IntKind.i64.wrap (IntKind.i64.wrap (IntKind.i64.wrap (y1 + (1 : Int)) + (1 : Int)) + (1 : Int)) + (1 : Int)) + (1 : Int)) + (1 : Int)) + (1 : Int))) && (Sp.rszs (y0.getD y2.toNat (Rose.mk ((0 : Int), (0 : Int), ByteArray.mk #[], ByteArray.mk #[], (0 : Int), (0 : Int), ByteArray.mk #[]) [])).kids).blt N) (bif decide (Sp.heldTs (y0.getD y2.toNat (Rose.mk ((0 : Int), (0 : Int), ByteArray.mk #[], ByteArray.mk #[], (0 : Int), (0 : Int), ByteArray.mk #[]) [])).kids (IntKind.i64.wrap (IntKind.i64.wrap (IntKind.i64.wrap (IntKind.i64.wrap (IntKind.i64.wrap (IntKind.i64.wrap (IntKind.i64.wrap (y1 + (1 : Int)) + (1 : Int)) + (1 : Int)) + (1 : Int)) + (1 : Int)) + (1 : Int)) + (1 : Int))) < (0 : Int)) then some (Res.mk [XV.mk false [X.c (X0.dat (Ty.int IntKind.i64) (-1 : Int))]] []) else f1010_L0 n N m0 y0 (Sp.heldTs (y0.getD y2.toNat (Rose.mk ((0 : Int), (0 : Int), ByteArray.mk #[], ByteArray.mk #[], (0 : Int), (0 : Int), ByteArray.mk #[]) [])).kids (IntKind.i64.wrap (IntKind.i64.wrap (IntKind.i64.wrap (IntKind.i64.wrap (IntKind.i64.wrap (IntKind.i64.wrap (IntKind.i64.wrap (y1 + (1 : Int)) + (1 : Int)) + (1 : Int)) + (1 : Int)) + (1 : Int)) + (1 : Int)) + (1 : Int)))) (IntKind.i64.wrap (y2 + (1 : Int))))))))))))))) else some (Res.mk [XV.mk false [X.c (X0.dat (Ty.int IntKind.i64) y1)]] []) := by kernel_rfl
theorem f1010_raw (n N : Nat) (x0 : List (Rose (Int × Int × ByteArray × ByteArray × Int × Int × ByteArray))) (x1 : Int) : abody Γ (orc [e1010n N, e75]) n 12 [XV.mk false [X.c (X0.dat ((Ty.int IntKind.i64).pair ((Ty.int IntKind.i64).pair (Ty.str.pair (Ty.str.pair ((Ty.int IntKind.i64).pair ((Ty.int IntKind.i64).pair Ty.str)))))).rose.slice x0)], XV.mk false [X.c (X0.dat (Ty.int IntKind.i64) x1)]] = f1010_L0 n N n x0 x1 (0 : Int) := by kernel_rfl

noncomputable abbrev recHd : List REnt := [⟨e1010, fun a => Sp.rszs a.1⟩]
theorem held7 {α : Type} (c0 c1 c2 c3 c4 c5 c6 : Bool) (F Z : α) : (bif c0 then F else bif c1 then F else bif c2 then F else bif c3 then F else bif c4 then F else bif c5 then F else bif c6 then F else Z) =
    bif (bif c0 then false else bif c1 then false else bif c2 then false else bif c3 then false else bif c4 then false else bif c5 then false else bif c6 then false else true) then Z else F := by
  cases c0 with
  | true => rfl
  | false => cases c1 with
    | true => rfl
    | false => cases c2 with
      | true => rfl
      | false => cases c3 with
        | true => rfl
        | false => cases c4 with
          | true => rfl
          | false => cases c5 with
            | true => rfl
            | false => cases c6 <;> rfl
theorem f1010_loop (xs : List RT) (hl : xs.length ≤ 9223372036854775807) : ∀ (d k m : Nat) (w : Int), k + d = xs.length → d < m → 0 ≤ w → w + (Sp.wTs (xs.drop k) : Int) ≤ 4611686018427387904 → f1010_L0 (xs.length + 1) (Sp.rszs xs) m xs w k = some (rI (Sp.heldTs (xs.drop k) w)) := by
  intro d
  induction d with
  | zero =>
    intro k m w hk hm h0 h1
    obtain ⟨m, rfl⟩ := succ_of hm
    rw [f1010_L0_step, nat_ge (by omega), cond_false, List.drop_of_length_le (by omega), Sp.heldTs]
  | succ d ih =>
    intro k m w hk hm h0 h1
    obtain ⟨m, rfl⟩ := succ_of hm
    have h : k < xs.length := by omega
    have hb := rsz1_mem (List.getElem_mem h)
    have hd : xs.drop k = xs[k] :: xs.drop (k + 1) := List.drop_eq_getElem_cons h
    rw [hd] at h1 ⊢
    rw [Sp.wTs, Int.natCast_add] at h1
    have hw0 : (0 : Int) ≤ (Sp.wTs (xs.drop (k + 1)) : Int) := Int.natCast_nonneg _
    have h7 : w + 7 ≤ 4611686018427387904 := (smallTs_at (x := xs[k]) h0 (by omega)).2.2
    have s1 := (smallTs_at (x := xs[k]) h0 (by omega)).1
    have hv := heldT_val xs[k] w
    have e1 : IntKind.i64.wrap (w + 1) = w + 1 := wrap64 (by omega) (by omega)
    have e2 : IntKind.i64.wrap (w + 1 + 1) = w + 2 := (wrap64 (by omega) (by omega)).trans (by omega)
    have e3 : IntKind.i64.wrap (w + 2 + 1) = w + 3 := (wrap64 (by omega) (by omega)).trans (by omega)
    have e4 : IntKind.i64.wrap (w + 3 + 1) = w + 4 := (wrap64 (by omega) (by omega)).trans (by omega)
    have e5 : IntKind.i64.wrap (w + 4 + 1) = w + 5 := (wrap64 (by omega) (by omega)).trans (by omega)
    have e6 : IntKind.i64.wrap (w + 5 + 1) = w + 6 := (wrap64 (by omega) (by omega)).trans (by omega)
    have e7 : IntKind.i64.wrap (w + 6 + 1) = w + 7 := (wrap64 (by omega) (by omega)).trans (by omega)
    have hb2 : Sp.rszs xs[k].kids < Sp.rszs xs := by unfold Sp.rsz1 at hb; omega
    rw [f1010_L0_step, nat_lt h, cond_true, guard0, chkT, e1, e2, e3, e4, e5, e6, e7, getD_nat xs k _ h, mOK_of (show w + 2 ≤ _ by omega), mOK_of (show w + 3 ≤ _ by omega), mOK_of (show w + 6 ≤ _ by omega), s1, blt_mk hb2, next64 h hl]
    simp only [chkT, Bool.and_self]
    rw [held7]
    rw [Sp.heldTs]
    have ih1 := ih (k + 1) m (w + (Sp.wT xs[k] : Int)) (by omega) (by omega) (by omega) (by omega)
    cases hx : xs[k] with
    | mk a ks =>
      rw [hx] at hv ih1
      rw [Sp.heldT] at hv ⊢
      show (bif Sp.heldA a w then bif decide (Sp.heldTs ks (w + 7) < 0) then some (rI (-1)) else f1010_L0 _ _ _ _ (Sp.heldTs ks (w + 7)) _ else some (rI (-1))) = _
      cases hA : Sp.heldA a w with
      | false => rfl
      | true =>
        rw [hA, cond_true] at hv
        rw [cond_true, cond_true]
        rcases hv with hv | hv
        · rw [hv]; rfl
        · rw [hv, decide_eq_false (by have : (0 : Int) ≤ (Sp.wT (Rose.mk a ks) : Int) := Int.natCast_nonneg _; omega), cond_false, cond_false]
          exact ih1
theorem e1010_core (xs : List RT) (v : Int) (ha : Sp.smallTs xs v = true) (hl : xs.length ≤ maxLen) : ∃ n, abody Γ (orc (belows (Sp.rszs xs) recHd ++ [e75])) n n1010 (e1010.args (xs, v)) = some (e1010.res (xs, v)) := by
  obtain ⟨h1, h2⟩ := smallU_of ha
  refine ⟨xs.length + 1, (f1010_raw _ _ xs v).trans ?_⟩
  exact f1010_loop xs hl xs.length 0 _ v (Nat.zero_add _) (Nat.lt_succ_self _) h1 (by rw [List.drop_zero, wTs_eq]; exact h2)
theorem recHd_ok : ∀ r ∈ recHd, Valid PP Γ r.e := valid_recs ok _ (rcons ⟨[e75], vcons e75_ok vnil, fun a ha hl => e1010_core a.1 a.2 ha (hl _ (List.mem_cons_self) _ (List.mem_cons_self)).1⟩ rnil)
theorem e1010_ok : Valid PP Γ e1010 := recHd_ok _ (List.mem_cons_self)
def Sp.f1008_pre (x0 : Int) (x1 : Int) (x2 : ByteArray) (x3 : ByteArray) (x4 : Int) (x5 : Int) (x6 : ByteArray) (x7 : List (Rose (Int × Int × ByteArray × ByteArray × Int × Int × ByteArray))) (x8 : Int) : Bool := Sp.smallTs x7 x8
def Sp.f1008 (x0 : Int) (x1 : Int) (x2 : ByteArray) (x3 : ByteArray) (x4 : Int) (x5 : Int) (x6 : ByteArray) (x7 : List (Rose (Int × Int × ByteArray × ByteArray × Int × Int × ByteArray))) (x8 : Int) := (Sp.addTs x7 x8, Sp.markTs x7 x8)
noncomputable def e1008 : Ent := { f := 10, ins := [Sh.agg [C0.dat (Ty.int IntKind.i64), C0.dat (Ty.int IntKind.i64), C0.dat Ty.str, C0.dat Ty.str, C0.dat (Ty.int IntKind.i64), C0.dat (Ty.int IntKind.i64), C0.dat Ty.str, C0.row ((Ty.int IntKind.i64).pair ((Ty.int IntKind.i64).pair (Ty.str.pair (Ty.str.pair ((Ty.int IntKind.i64).pair ((Ty.int IntKind.i64).pair Ty.str)))))).rose], Sh.one (C0.dat (Ty.int IntKind.i64))], outs := [Sh.one (C0.dat (Ty.int IntKind.i64))], upd := [Sh.one (C0.row ((Ty.int IntKind.i64).pair ((Ty.int IntKind.i64).pair (Ty.str.pair (Ty.str.pair ((Ty.int IntKind.i64).pair ((Ty.int IntKind.i64).pair Ty.str)))))).rose)], pre := fun a => Sp.f1008_pre a.1.1 a.1.2.1 a.1.2.2.1 a.1.2.2.2.1 a.1.2.2.2.2.1 a.1.2.2.2.2.2.1 a.1.2.2.2.2.2.2.1 a.1.2.2.2.2.2.2.2 a.2, spec := fun a => (Sp.f1008 a.1.1 a.1.2.1 a.1.2.2.1 a.1.2.2.2.1 a.1.2.2.2.2.1 a.1.2.2.2.2.2.1 a.1.2.2.2.2.2.2.1 a.1.2.2.2.2.2.2.2 a.2).1, wrt := fun a => (Sp.f1008 a.1.1 a.1.2.1 a.1.2.2.1 a.1.2.2.2.1 a.1.2.2.2.2.1 a.1.2.2.2.2.2.1 a.1.2.2.2.2.2.2.1 a.1.2.2.2.2.2.2.2 a.2).2 }
def f1008_g (v : denS [Sh.one (C0.dat (Ty.int IntKind.i64))] × denS [Sh.one (C0.row ((Ty.int IntKind.i64).pair ((Ty.int IntKind.i64).pair (Ty.str.pair (Ty.str.pair ((Ty.int IntKind.i64).pair ((Ty.int IntKind.i64).pair Ty.str)))))).rose)]) : Res := ⟨mkS [Sh.one (C0.dat (Ty.int IntKind.i64))] v.1, mkU [Sh.one (C0.row ((Ty.int IntKind.i64).pair ((Ty.int IntKind.i64).pair (Ty.str.pair (Ty.str.pair ((Ty.int IntKind.i64).pair ((Ty.int IntKind.i64).pair Ty.str)))))).rose)] v.2⟩
theorem f1008_raw (x0 : Int) (x1 : Int) (x2 : ByteArray) (x3 : ByteArray) (x4 : Int) (x5 : Int) (x6 : ByteArray) (x7 : List (Rose (Int × Int × ByteArray × ByteArray × Int × Int × ByteArray))) (x8 : Int) : abody Γ (orc [e1009]) 0 10 [XV.mk true [X.c (X0.dat (Ty.int IntKind.i64) x0), X.c (X0.dat (Ty.int IntKind.i64) x1), X.c (X0.dat Ty.str x2), X.c (X0.dat Ty.str x3), X.c (X0.dat (Ty.int IntKind.i64) x4), X.c (X0.dat (Ty.int IntKind.i64) x5), X.c (X0.dat Ty.str x6), X.c (X0.row ((Ty.int IntKind.i64).pair ((Ty.int IntKind.i64).pair (Ty.str.pair (Ty.str.pair ((Ty.int IntKind.i64).pair ((Ty.int IntKind.i64).pair Ty.str)))))).rose x7 true)], XV.mk false [X.c (X0.dat (Ty.int IntKind.i64) x8)]] = chk (Sp.smallTs x7 x8) (some (Res.mk [XV.mk false [X.c (X0.dat (Ty.int IntKind.i64) (Sp.addTs x7 x8))]] [X.c (X0.row ((Ty.int IntKind.i64).pair ((Ty.int IntKind.i64).pair (Ty.str.pair (Ty.str.pair ((Ty.int IntKind.i64).pair ((Ty.int IntKind.i64).pair Ty.str)))))).rose (Sp.markTs x7 x8) true)])) := by kernel_rfl
theorem f1008_form (x0 : Int) (x1 : Int) (x2 : ByteArray) (x3 : ByteArray) (x4 : Int) (x5 : Int) (x6 : ByteArray) (x7 : List (Rose (Int × Int × ByteArray × ByteArray × Int × Int × ByteArray))) (x8 : Int) : (chk (Sp.smallTs x7 x8) (some (Res.mk [XV.mk false [X.c (X0.dat (Ty.int IntKind.i64) (Sp.addTs x7 x8))]] [X.c (X0.row ((Ty.int IntKind.i64).pair ((Ty.int IntKind.i64).pair (Ty.str.pair (Ty.str.pair ((Ty.int IntKind.i64).pair ((Ty.int IntKind.i64).pair Ty.str)))))).rose (Sp.markTs x7 x8) true)]))) = chk (Sp.f1008_pre x0 x1 x2 x3 x4 x5 x6 x7 x8) (some (f1008_g (Sp.f1008 x0 x1 x2 x3 x4 x5 x6 x7 x8))) := by
  unfold Sp.f1008_pre Sp.f1008
  exact (chk_last (rfl))
theorem e1008_ok : Valid PP Γ e1008 := valid_auto ok (vcons e1009_ok vnil) fun a => (f1008_raw a.1.1 a.1.2.1 a.1.2.2.1 a.1.2.2.2.1 a.1.2.2.2.2.1 a.1.2.2.2.2.2.1 a.1.2.2.2.2.2.2.1 a.1.2.2.2.2.2.2.2 a.2).trans (f1008_form a.1.1 a.1.2.1 a.1.2.2.1 a.1.2.2.2.1 a.1.2.2.2.2.1 a.1.2.2.2.2.2.1 a.1.2.2.2.2.2.2.1 a.1.2.2.2.2.2.2.2 a.2)

end Go.Proofs.GR.T

set_option maxRecDepth 100000
set_option maxHeartbeats 100000000
namespace Go.Proofs.GR.T
open Go Go.Proofs Go.Proofs.GR
noncomputable def e1041 : Ent := { f := n1041, ins := [Sh.one cS, Sh.one cS], outs := [Sh.one (C0.row .str)], upd := [], pre := fun a => Nat.blt (ByteArray.size a.1) 4294967281 && Nat.ble 1 (ByteArray.size a.2), spec := fun a => Sp.split a.1 a.2, wrt := fun _ => () }
theorem e1041_ok : Valid PP Γ e1041 := fun a ha => by
  obtain ⟨h1, h2⟩ := Bool.and_eq_true_iff.1 ha
  exact split1041 a.1 a.2 (Nat.le_of_ble_eq_true h1) (Nat.le_of_ble_eq_true h2)
def Sp.f217 (x0 : Int) := (bif decide (x0 ≥ (97 : Int)) then (bif decide (x0 ≤ (122 : Int)) then (true, ()) else (bif decide (x0 ≥ (65 : Int)) then (bif decide (x0 ≤ (90 : Int)) then (true, ()) else (x0 == (95 : Int), ())) else (x0 == (95 : Int), ()))) else (bif decide (x0 ≥ (65 : Int)) then (bif decide (x0 ≤ (90 : Int)) then (true, ()) else (x0 == (95 : Int), ())) else (x0 == (95 : Int), ())))
noncomputable def e217 : Ent := { f := 58, ins := [Sh.one (C0.dat (Ty.int IntKind.u8))], outs := [Sh.one (C0.dat Ty.bool)], upd := [], pre := fun a => true, spec := fun a => (Sp.f217 a).1, wrt := fun a => (Sp.f217 a).2 }
def f217_g (v : denS [Sh.one (C0.dat Ty.bool)] × denS []) : Res := ⟨mkS [Sh.one (C0.dat Ty.bool)] v.1, mkU [] v.2⟩
theorem f217_raw (x0 : Int) : abody Γ (orc []) 0 58 [XV.mk false [X.c (X0.dat (Ty.int IntKind.u8) x0)]] = bif decide (x0 ≥ (97 : Int)) then bif decide (x0 ≤ (122 : Int)) then some (Res.mk [XV.mk false [X.c (X0.dat Ty.bool true)]] []) else bif decide (x0 ≥ (65 : Int)) then bif decide (x0 ≤ (90 : Int)) then some (Res.mk [XV.mk false [X.c (X0.dat Ty.bool true)]] []) else some (Res.mk [XV.mk false [X.c (X0.dat Ty.bool (x0 == (95 : Int)))]] []) else some (Res.mk [XV.mk false [X.c (X0.dat Ty.bool (x0 == (95 : Int)))]] []) else bif decide (x0 ≥ (65 : Int)) then bif decide (x0 ≤ (90 : Int)) then some (Res.mk [XV.mk false [X.c (X0.dat Ty.bool true)]] []) else some (Res.mk [XV.mk false [X.c (X0.dat Ty.bool (x0 == (95 : Int)))]] []) else some (Res.mk [XV.mk false [X.c (X0.dat Ty.bool (x0 == (95 : Int)))]] []) := by kernel_rfl
theorem f217_form (x0 : Int) : (bif decide (x0 ≥ (97 : Int)) then bif decide (x0 ≤ (122 : Int)) then some (Res.mk [XV.mk false [X.c (X0.dat Ty.bool true)]] []) else bif decide (x0 ≥ (65 : Int)) then bif decide (x0 ≤ (90 : Int)) then some (Res.mk [XV.mk false [X.c (X0.dat Ty.bool true)]] []) else some (Res.mk [XV.mk false [X.c (X0.dat Ty.bool (x0 == (95 : Int)))]] []) else some (Res.mk [XV.mk false [X.c (X0.dat Ty.bool (x0 == (95 : Int)))]] []) else bif decide (x0 ≥ (65 : Int)) then bif decide (x0 ≤ (90 : Int)) then some (Res.mk [XV.mk false [X.c (X0.dat Ty.bool true)]] []) else some (Res.mk [XV.mk false [X.c (X0.dat Ty.bool (x0 == (95 : Int)))]] []) else some (Res.mk [XV.mk false [X.c (X0.dat Ty.bool (x0 == (95 : Int)))]] [])) = some (f217_g (Sp.f217 x0)) := by
  unfold Sp.f217
  exact (cond_plain f217_g ((cond_plain f217_g (rfl) ((cond_plain f217_g ((cond_plain f217_g (rfl) (rfl))) (rfl))))) ((cond_plain f217_g ((cond_plain f217_g (rfl) (rfl))) (rfl))))
theorem e217_ok : Valid PP Γ e217 := valid_auto ok vnil fun a => (f217_raw a).trans (f217_form a)

def Sp.f218 (x0 : Int) := (bif decide (x0 ≥ (48 : Int)) then (decide (x0 ≤ (57 : Int)), ()) else (false, ()))
noncomputable def e218 : Ent := { f := 59, ins := [Sh.one (C0.dat (Ty.int IntKind.u8))], outs := [Sh.one (C0.dat Ty.bool)], upd := [], pre := fun a => true, spec := fun a => (Sp.f218 a).1, wrt := fun a => (Sp.f218 a).2 }
def f218_g (v : denS [Sh.one (C0.dat Ty.bool)] × denS []) : Res := ⟨mkS [Sh.one (C0.dat Ty.bool)] v.1, mkU [] v.2⟩
theorem f218_raw (x0 : Int) : abody Γ (orc []) 0 59 [XV.mk false [X.c (X0.dat (Ty.int IntKind.u8) x0)]] = bif decide (x0 ≥ (48 : Int)) then some (Res.mk [XV.mk false [X.c (X0.dat Ty.bool (decide (x0 ≤ (57 : Int))))]] []) else some (Res.mk [XV.mk false [X.c (X0.dat Ty.bool false)]] []) := by kernel_rfl
theorem f218_form (x0 : Int) : (bif decide (x0 ≥ (48 : Int)) then some (Res.mk [XV.mk false [X.c (X0.dat Ty.bool (decide (x0 ≤ (57 : Int))))]] []) else some (Res.mk [XV.mk false [X.c (X0.dat Ty.bool false)]] [])) = some (f218_g (Sp.f218 x0)) := by
  unfold Sp.f218
  exact (cond_plain f218_g (rfl) (rfl))
theorem e218_ok : Valid PP Γ e218 := valid_auto ok vnil fun a => (f218_raw a).trans (f218_form a)

def Sp.wordB (b : Int) : Bool := bif !(Sp.f217 b).1 then (Sp.f218 b).1 else true
def Sp.isName : List Int → Bool
  | [] => false
  | b :: r => bif decide (r.length + 1 > 40) then false else bif !(Sp.f217 b).1 then false else Sp.allW Sp.wordB r
noncomputable def f214_L0 (n m0 : Nat) (y0 : ByteArray) (y1 : Int) : Option Res := loopAt Γ (orc [e217, e218]) n (54 : Nat) (0 : Nat) [] [Pth.r, Pth.r, Pth.l, Pth.r, Pth.b] m0 (St.mk [Slot.val (Val.one (Cell.dat Ty.str y0)), Slot.nix, Slot.nix, Slot.val (Val.one (Cell.dat (Ty.int IntKind.i64) y1)), Slot.nix, Slot.nix, Slot.nix, Slot.nix, Slot.nix, Slot.nix, Slot.nix, Slot.nix, Slot.nix, Slot.nix, Slot.nix, Slot.nix, Slot.nix, Slot.nix, Slot.nix, Slot.nix, Slot.nix, Slot.nix, Slot.nix, Slot.nix, Slot.nix, Slot.nix, Slot.nix, Slot.nix, Slot.nix, Slot.nix, Slot.nix, Slot.nix, Slot.nix, Slot.nix, Slot.nix, Slot.nix] [])
theorem f214_L0_step (n m0 : Nat) (y0 : ByteArray) (y1 : Int) : f214_L0 n (m0 + 1) y0 y1 = bif decide (y1 < (↑y0.size : Int)) then chk (decide ((0 : Int) ≤ y1) && decide (y1 < (↑y0.size : Int))) (bif !(Sp.f217 ((strBytes y0).getD y1.toNat (0 : Int))).1 then chk (decide ((0 : Int) ≤ y1) && decide (y1 < (↑y0.size : Int))) (bif !(Sp.f218 ((strBytes y0).getD y1.toNat (0 : Int))).1 then some (Res.mk [XV.mk false [X.c (X0.dat Ty.bool false)]] []) else f214_L0 n m0 y0 (IntKind.i64.wrap (y1 + (1 : Int)))) else f214_L0 n m0 y0 (IntKind.i64.wrap (y1 + (1 : Int)))) else some (Res.mk [XV.mk false [X.c (X0.dat Ty.bool true)]] []) := by kernel_rfl
theorem f214_raw (n : Nat) (x0 : ByteArray) : abody Γ (orc [e217, e218]) n 54 [XV.mk false [X.c (X0.dat Ty.str x0)]] = bif decide ((↑x0.size : Int) < (1 : Int)) then some (Res.mk [XV.mk false [X.c (X0.dat Ty.bool false)]] []) else bif decide ((↑x0.size : Int) > (40 : Int)) then some (Res.mk [XV.mk false [X.c (X0.dat Ty.bool false)]] []) else chk (decide ((0 : Int) < (↑x0.size : Int))) (bif !(Sp.f217 ((strBytes x0).getD (0 : Nat) (0 : Int))).1 then some (Res.mk [XV.mk false [X.c (X0.dat Ty.bool false)]] []) else f214_L0 n n x0 (1 : Int)) := by kernel_rfl

noncomputable def e214 : Ent := { f := n214, ins := [Sh.one cS], outs := [Sh.one cB], upd := [], pre := fun _ => true, spec := fun a => Sp.isName (strBytes a), wrt := fun _ => () }
theorem e214_core (t : ByteArray) : ∃ n, abody Γ (orc [e217, e218]) n n214 [XV.mk false [X.c (X0.dat Ty.str t)]] = some (rBo (Sp.isName (strBytes t))) := by
  refine ⟨41, (f214_raw _ t).trans ?_⟩
  have hs := strBytes_len t
  cases hb : strBytes t with
  | nil =>
    rw [hb] at hs
    have hs : 0 = t.size := hs
    rw [decide_eq_true (show (t.size : Int) < 1 by omega)]
    rfl
  | cons b r =>
    rw [hb, List.length_cons] at hs
    rw [decide_eq_false (show ¬ (t.size : Int) < 1 by omega), cond_false, decide_eq_true (show (0 : Int) < t.size by omega), chkT]
    show _ = some (rBo (bif decide (r.length + 1 > 40) then false else bif !(Sp.f217 b).1 then false else Sp.allW Sp.wordB r))
    rw [condB, condB]
    by_cases hc : (t.size : Int) > 40
    · rw [decide_eq_true hc, decide_eq_true (show r.length + 1 > 40 by omega)]; rfl
    · rw [decide_eq_false hc, decide_eq_false (show ¬ r.length + 1 > 40 by omega), cond_false, cond_false, List.getD_cons_zero]
      cases (Sp.f217 b).1 with
      | false => rfl
      | true =>
        rw [Bool.not_true, cond_false, cond_false]
        have := all_loop (p := Sp.wordB) (R := rBo) (b :: r) (fun m k => f214_L0 41 m t k) (fun m k hk => by
          show f214_L0 _ _ _ _ = _
          rw [f214_L0_step, ← hs, nat_ge (by simpa using hk), cond_false]) (fun m k h => by
          show f214_L0 _ _ _ _ = _
          have h' : k < r.length + 1 := by simpa using h
          rw [f214_L0_step, ← hs, nat_lt h', cond_true, guard0, chkT, chkT, hb, getD_nat (b :: r) k _ h, next64 h' (by omega)]
          unfold Sp.wordB
          cases (Sp.f217 (b :: r)[k]).1 <;> cases (Sp.f218 (b :: r)[k]).1 <;> rfl) r.length 1 41 (by simp; omega) (by omega)
        exact this
theorem e214_ok : Valid PP Γ e214 := valid_of ok (vcons e217_ok (vcons e218_ok vnil)) fun a _ => e214_core a
def Sp.f208 (x0 : ByteArray) := (Sp.isName (strBytes x0), ())
noncomputable def e208 : Ent := { f := 45, ins := [Sh.one (C0.dat Ty.str)], outs := [Sh.one (C0.dat Ty.bool)], upd := [], pre := fun a => true, spec := fun a => (Sp.f208 a).1, wrt := fun a => (Sp.f208 a).2 }
def f208_g (v : denS [Sh.one (C0.dat Ty.bool)] × denS []) : Res := ⟨mkS [Sh.one (C0.dat Ty.bool)] v.1, mkU [] v.2⟩
theorem f208_raw (x0 : ByteArray) : abody Γ (orc [e214]) 0 45 [XV.mk false [X.c (X0.dat Ty.str x0)]] = some (Res.mk [XV.mk false [X.c (X0.dat Ty.bool (Sp.isName (strBytes x0)))]] []) := by kernel_rfl
theorem f208_form (x0 : ByteArray) : (some (Res.mk [XV.mk false [X.c (X0.dat Ty.bool (Sp.isName (strBytes x0)))]] [])) = some (f208_g (Sp.f208 x0)) := by
  unfold Sp.f208
  exact rfl
theorem e208_ok : Valid PP Γ e208 := valid_auto ok (vcons e214_ok vnil) fun a => (f208_raw a).trans (f208_form a)

def Sp.f209 := ([ByteArray.mk #[(115 : UInt8), (101 : UInt8), (108 : UInt8), (101 : UInt8), (99 : UInt8), (116 : UInt8)], ByteArray.mk #[(102 : UInt8), (114 : UInt8), (111 : UInt8), (109 : UInt8)], ByteArray.mk #[(106 : UInt8), (111 : UInt8), (105 : UInt8), (110 : UInt8)], ByteArray.mk #[(111 : UInt8), (110 : UInt8)], ByteArray.mk #[(119 : UInt8), (104 : UInt8), (101 : UInt8), (114 : UInt8), (101 : UInt8)], ByteArray.mk #[(103 : UInt8), (114 : UInt8), (111 : UInt8), (117 : UInt8), (112 : UInt8)], ByteArray.mk #[(98 : UInt8), (121 : UInt8)], ByteArray.mk #[(111 : UInt8), (114 : UInt8), (100 : UInt8), (101 : UInt8), (114 : UInt8)], ByteArray.mk #[(108 : UInt8), (105 : UInt8), (109 : UInt8), (105 : UInt8), (116 : UInt8)], ByteArray.mk #[(100 : UInt8), (101 : UInt8), (115 : UInt8), (99 : UInt8)], ByteArray.mk #[(105 : UInt8), (110 : UInt8), (115 : UInt8), (101 : UInt8), (114 : UInt8), (116 : UInt8)], ByteArray.mk #[(105 : UInt8), (110 : UInt8), (116 : UInt8), (111 : UInt8)], ByteArray.mk #[(118 : UInt8), (97 : UInt8), (108 : UInt8), (117 : UInt8), (101 : UInt8), (115 : UInt8)], ByteArray.mk #[(117 : UInt8), (112 : UInt8), (100 : UInt8), (97 : UInt8), (116 : UInt8), (101 : UInt8)], ByteArray.mk #[(115 : UInt8), (101 : UInt8), (116 : UInt8)], ByteArray.mk #[(100 : UInt8), (101 : UInt8), (108 : UInt8), (101 : UInt8), (116 : UInt8), (101 : UInt8)], ByteArray.mk #[(97 : UInt8), (110 : UInt8), (100 : UInt8)], ByteArray.mk #[(111 : UInt8), (114 : UInt8)], ByteArray.mk #[(110 : UInt8), (111 : UInt8), (116 : UInt8)], ByteArray.mk #[(105 : UInt8), (115 : UInt8)], ByteArray.mk #[(110 : UInt8), (117 : UInt8), (108 : UInt8), (108 : UInt8)], ByteArray.mk #[(116 : UInt8), (114 : UInt8), (117 : UInt8), (101 : UInt8)], ByteArray.mk #[(102 : UInt8), (97 : UInt8), (108 : UInt8), (115 : UInt8), (101 : UInt8)], ByteArray.mk #[(99 : UInt8), (111 : UInt8), (117 : UInt8), (110 : UInt8), (116 : UInt8)], ByteArray.mk #[(115 : UInt8), (117 : UInt8), (109 : UInt8)], ByteArray.mk #[(109 : UInt8), (105 : UInt8), (110 : UInt8)], ByteArray.mk #[(109 : UInt8), (97 : UInt8), (120 : UInt8)], ByteArray.mk #[(97 : UInt8), (115 : UInt8)]], ())
noncomputable def e209 : Ent := { f := 46, ins := [], outs := [Sh.one (C0.row Ty.str)], upd := [], pre := fun a => true, spec := fun a => (Sp.f209).1, wrt := fun a => (Sp.f209).2 }
def f209_g (v : denS [Sh.one (C0.row Ty.str)] × denS []) : Res := ⟨mkS [Sh.one (C0.row Ty.str)] v.1, mkU [] v.2⟩
theorem f209_raw : abody Γ (orc []) 0 46 [] = some (Res.mk [XV.mk false [X.c (X0.row Ty.str [ByteArray.mk #[(115 : UInt8), (101 : UInt8), (108 : UInt8), (101 : UInt8), (99 : UInt8), (116 : UInt8)], ByteArray.mk #[(102 : UInt8), (114 : UInt8), (111 : UInt8), (109 : UInt8)], ByteArray.mk #[(106 : UInt8), (111 : UInt8), (105 : UInt8), (110 : UInt8)], ByteArray.mk #[(111 : UInt8), (110 : UInt8)], ByteArray.mk #[(119 : UInt8), (104 : UInt8), (101 : UInt8), (114 : UInt8), (101 : UInt8)], ByteArray.mk #[(103 : UInt8), (114 : UInt8), (111 : UInt8), (117 : UInt8), (112 : UInt8)], ByteArray.mk #[(98 : UInt8), (121 : UInt8)], ByteArray.mk #[(111 : UInt8), (114 : UInt8), (100 : UInt8), (101 : UInt8), (114 : UInt8)], ByteArray.mk #[(108 : UInt8), (105 : UInt8), (109 : UInt8), (105 : UInt8), (116 : UInt8)], ByteArray.mk #[(100 : UInt8), (101 : UInt8), (115 : UInt8), (99 : UInt8)], ByteArray.mk #[(105 : UInt8), (110 : UInt8), (115 : UInt8), (101 : UInt8), (114 : UInt8), (116 : UInt8)], ByteArray.mk #[(105 : UInt8), (110 : UInt8), (116 : UInt8), (111 : UInt8)], ByteArray.mk #[(118 : UInt8), (97 : UInt8), (108 : UInt8), (117 : UInt8), (101 : UInt8), (115 : UInt8)], ByteArray.mk #[(117 : UInt8), (112 : UInt8), (100 : UInt8), (97 : UInt8), (116 : UInt8), (101 : UInt8)], ByteArray.mk #[(115 : UInt8), (101 : UInt8), (116 : UInt8)], ByteArray.mk #[(100 : UInt8), (101 : UInt8), (108 : UInt8), (101 : UInt8), (116 : UInt8), (101 : UInt8)], ByteArray.mk #[(97 : UInt8), (110 : UInt8), (100 : UInt8)], ByteArray.mk #[(111 : UInt8), (114 : UInt8)], ByteArray.mk #[(110 : UInt8), (111 : UInt8), (116 : UInt8)], ByteArray.mk #[(105 : UInt8), (115 : UInt8)], ByteArray.mk #[(110 : UInt8), (117 : UInt8), (108 : UInt8), (108 : UInt8)], ByteArray.mk #[(116 : UInt8), (114 : UInt8), (117 : UInt8), (101 : UInt8)], ByteArray.mk #[(102 : UInt8), (97 : UInt8), (108 : UInt8), (115 : UInt8), (101 : UInt8)], ByteArray.mk #[(99 : UInt8), (111 : UInt8), (117 : UInt8), (110 : UInt8), (116 : UInt8)], ByteArray.mk #[(115 : UInt8), (117 : UInt8), (109 : UInt8)], ByteArray.mk #[(109 : UInt8), (105 : UInt8), (110 : UInt8)], ByteArray.mk #[(109 : UInt8), (97 : UInt8), (120 : UInt8)], ByteArray.mk #[(97 : UInt8), (115 : UInt8)]] true)]] []) := by kernel_rfl
theorem f209_form : (some (Res.mk [XV.mk false [X.c (X0.row Ty.str [ByteArray.mk #[(115 : UInt8), (101 : UInt8), (108 : UInt8), (101 : UInt8), (99 : UInt8), (116 : UInt8)], ByteArray.mk #[(102 : UInt8), (114 : UInt8), (111 : UInt8), (109 : UInt8)], ByteArray.mk #[(106 : UInt8), (111 : UInt8), (105 : UInt8), (110 : UInt8)], ByteArray.mk #[(111 : UInt8), (110 : UInt8)], ByteArray.mk #[(119 : UInt8), (104 : UInt8), (101 : UInt8), (114 : UInt8), (101 : UInt8)], ByteArray.mk #[(103 : UInt8), (114 : UInt8), (111 : UInt8), (117 : UInt8), (112 : UInt8)], ByteArray.mk #[(98 : UInt8), (121 : UInt8)], ByteArray.mk #[(111 : UInt8), (114 : UInt8), (100 : UInt8), (101 : UInt8), (114 : UInt8)], ByteArray.mk #[(108 : UInt8), (105 : UInt8), (109 : UInt8), (105 : UInt8), (116 : UInt8)], ByteArray.mk #[(100 : UInt8), (101 : UInt8), (115 : UInt8), (99 : UInt8)], ByteArray.mk #[(105 : UInt8), (110 : UInt8), (115 : UInt8), (101 : UInt8), (114 : UInt8), (116 : UInt8)], ByteArray.mk #[(105 : UInt8), (110 : UInt8), (116 : UInt8), (111 : UInt8)], ByteArray.mk #[(118 : UInt8), (97 : UInt8), (108 : UInt8), (117 : UInt8), (101 : UInt8), (115 : UInt8)], ByteArray.mk #[(117 : UInt8), (112 : UInt8), (100 : UInt8), (97 : UInt8), (116 : UInt8), (101 : UInt8)], ByteArray.mk #[(115 : UInt8), (101 : UInt8), (116 : UInt8)], ByteArray.mk #[(100 : UInt8), (101 : UInt8), (108 : UInt8), (101 : UInt8), (116 : UInt8), (101 : UInt8)], ByteArray.mk #[(97 : UInt8), (110 : UInt8), (100 : UInt8)], ByteArray.mk #[(111 : UInt8), (114 : UInt8)], ByteArray.mk #[(110 : UInt8), (111 : UInt8), (116 : UInt8)], ByteArray.mk #[(105 : UInt8), (115 : UInt8)], ByteArray.mk #[(110 : UInt8), (117 : UInt8), (108 : UInt8), (108 : UInt8)], ByteArray.mk #[(116 : UInt8), (114 : UInt8), (117 : UInt8), (101 : UInt8)], ByteArray.mk #[(102 : UInt8), (97 : UInt8), (108 : UInt8), (115 : UInt8), (101 : UInt8)], ByteArray.mk #[(99 : UInt8), (111 : UInt8), (117 : UInt8), (110 : UInt8), (116 : UInt8)], ByteArray.mk #[(115 : UInt8), (117 : UInt8), (109 : UInt8)], ByteArray.mk #[(109 : UInt8), (105 : UInt8), (110 : UInt8)], ByteArray.mk #[(109 : UInt8), (97 : UInt8), (120 : UInt8)], ByteArray.mk #[(97 : UInt8), (115 : UInt8)]] true)]] [])) = some (f209_g (Sp.f209)) := by
  unfold Sp.f209
  exact rfl
theorem e209_ok : Valid PP Γ e209 := valid_auto ok vnil fun a => (f209_raw ).trans (f209_form )

noncomputable def f194_L0 (n m0 : Nat) (y0 : ByteArray) (y1 : Int) : Option Res := loopAt Γ (orc [e208, e209]) n (31 : Nat) (0 : Nat) [] [Pth.r, Pth.r, Pth.l, Pth.r, Pth.b] m0 (St.mk [Slot.val (Val.one (Cell.dat Ty.str y0)), Slot.nix, Slot.nix, Slot.val (Val.one (Cell.dat (Ty.int IntKind.i64) y1)), Slot.nix, Slot.nix, Slot.nix, Slot.nix, Slot.nix, Slot.nix, Slot.nix, Slot.nix, Slot.nix, Slot.nix, Slot.nix, Slot.nix, Slot.nix, Slot.nix, Slot.nix] [])
theorem f194_L0_step (n m0 : Nat) (y0 : ByteArray) (y1 : Int) : f194_L0 n (m0 + 1) y0 y1 = bif decide (y1 < (28 : Int)) then chk (decide ((0 : Int) ≤ y1) && decide (y1 < (28 : Int))) (bif (Sp.f209.1.getD y1.toNat (ByteArray.mk #[])).toList == y0.toList then some (Res.mk [XV.mk false [X.c (X0.dat Ty.bool false)]] []) else f194_L0 n m0 y0 (IntKind.i64.wrap (y1 + (1 : Int)))) else some (Res.mk [XV.mk false [X.c (X0.dat Ty.bool true)]] []) := by kernel_rfl
theorem f194_raw (n : Nat) (x0 : ByteArray) : abody Γ (orc [e208, e209]) n 31 [XV.mk false [X.c (X0.dat Ty.str x0)]] = bif !(Sp.f208 x0).1 then some (Res.mk [XV.mk false [X.c (X0.dat Ty.bool false)]] []) else f194_L0 n n x0 (0 : Int) := by kernel_rfl

def Sp.isFreeS (t : ByteArray) : Bool := bif !(Sp.isName (strBytes t)) then false else Sp.allW (fun w : ByteArray => !(w.toList == t.toList)) Sp.f209.1
noncomputable def e194 : Ent := { f := n194, ins := [Sh.one cS], outs := [Sh.one cB], upd := [], pre := fun _ => true, spec := fun a => Sp.isFreeS a, wrt := fun _ => () }
theorem words_len : List.length Sp.f209.1 = 28 := rfl
theorem e194_core (t : ByteArray) : ∃ n, abody Γ (orc [e208, e209]) n n194 [XV.mk false [X.c (X0.dat Ty.str t)]] = some (rBo (Sp.isFreeS t)) := by
  refine ⟨29, (f194_raw _ t).trans ?_⟩
  unfold Sp.isFreeS
  rw [condB]
  show (bif !(Sp.isName (strBytes t)) then _ else _) = _
  have st := fun m k => f194_L0_step 29 m t k
  have hl := words_len
  revert st hl
  generalize Sp.f209.1 = ws
  intro st hl
  cases Sp.isName (strBytes t) with
  | false => rfl
  | true =>
    have := all_loop (p := fun w : ByteArray => !(w.toList == t.toList)) (R := rBo) ws (fun m k => f194_L0 29 m t k) (fun m k hk => by
      show f194_L0 _ _ _ _ = _
      rw [st, decide_eq_false (show ¬ (k : Int) < 28 by omega), cond_false]) (fun m k h => by
      show f194_L0 _ _ _ _ = _
      have h' : k < 28 := by omega
      rw [st, decide_eq_true (show (k : Int) < 28 by omega), cond_true, guard0, chkT, getD_nat ws k _ h, next64 h' (by omega), Bool.not_not]) 28 0 29 (by omega) (by omega)
    rw [List.drop_zero] at this
    rw [Bool.not_true, cond_false, cond_false]
    exact this
theorem e194_ok : Valid PP Γ e194 := valid_of ok (vcons e208_ok (vcons e209_ok vnil)) fun a _ => e194_core a
def Sp.f1039 (x0 : Int) := (bif decide (x0 ≥ (97 : Int)) then (bif decide (x0 ≤ (122 : Int)) then (true, ()) else (bif decide (x0 ≥ (65 : Int)) then (bif decide (x0 ≤ (90 : Int)) then (true, ()) else (x0 == (95 : Int), ())) else (x0 == (95 : Int), ()))) else (bif decide (x0 ≥ (65 : Int)) then (bif decide (x0 ≤ (90 : Int)) then (true, ()) else (x0 == (95 : Int), ())) else (x0 == (95 : Int), ())))
noncomputable def e1039 : Ent := { f := 55, ins := [Sh.one (C0.dat (Ty.int IntKind.u8))], outs := [Sh.one (C0.dat Ty.bool)], upd := [], pre := fun a => true, spec := fun a => (Sp.f1039 a).1, wrt := fun a => (Sp.f1039 a).2 }
def f1039_g (v : denS [Sh.one (C0.dat Ty.bool)] × denS []) : Res := ⟨mkS [Sh.one (C0.dat Ty.bool)] v.1, mkU [] v.2⟩
theorem f1039_raw (x0 : Int) : abody Γ (orc []) 0 55 [XV.mk false [X.c (X0.dat (Ty.int IntKind.u8) x0)]] = bif decide (x0 ≥ (97 : Int)) then bif decide (x0 ≤ (122 : Int)) then some (Res.mk [XV.mk false [X.c (X0.dat Ty.bool true)]] []) else bif decide (x0 ≥ (65 : Int)) then bif decide (x0 ≤ (90 : Int)) then some (Res.mk [XV.mk false [X.c (X0.dat Ty.bool true)]] []) else some (Res.mk [XV.mk false [X.c (X0.dat Ty.bool (x0 == (95 : Int)))]] []) else some (Res.mk [XV.mk false [X.c (X0.dat Ty.bool (x0 == (95 : Int)))]] []) else bif decide (x0 ≥ (65 : Int)) then bif decide (x0 ≤ (90 : Int)) then some (Res.mk [XV.mk false [X.c (X0.dat Ty.bool true)]] []) else some (Res.mk [XV.mk false [X.c (X0.dat Ty.bool (x0 == (95 : Int)))]] []) else some (Res.mk [XV.mk false [X.c (X0.dat Ty.bool (x0 == (95 : Int)))]] []) := by kernel_rfl
theorem f1039_form (x0 : Int) : (bif decide (x0 ≥ (97 : Int)) then bif decide (x0 ≤ (122 : Int)) then some (Res.mk [XV.mk false [X.c (X0.dat Ty.bool true)]] []) else bif decide (x0 ≥ (65 : Int)) then bif decide (x0 ≤ (90 : Int)) then some (Res.mk [XV.mk false [X.c (X0.dat Ty.bool true)]] []) else some (Res.mk [XV.mk false [X.c (X0.dat Ty.bool (x0 == (95 : Int)))]] []) else some (Res.mk [XV.mk false [X.c (X0.dat Ty.bool (x0 == (95 : Int)))]] []) else bif decide (x0 ≥ (65 : Int)) then bif decide (x0 ≤ (90 : Int)) then some (Res.mk [XV.mk false [X.c (X0.dat Ty.bool true)]] []) else some (Res.mk [XV.mk false [X.c (X0.dat Ty.bool (x0 == (95 : Int)))]] []) else some (Res.mk [XV.mk false [X.c (X0.dat Ty.bool (x0 == (95 : Int)))]] [])) = some (f1039_g (Sp.f1039 x0)) := by
  unfold Sp.f1039
  exact (cond_plain f1039_g ((cond_plain f1039_g (rfl) ((cond_plain f1039_g ((cond_plain f1039_g (rfl) (rfl))) (rfl))))) ((cond_plain f1039_g ((cond_plain f1039_g (rfl) (rfl))) (rfl))))
theorem e1039_ok : Valid PP Γ e1039 := valid_auto ok vnil fun a => (f1039_raw a).trans (f1039_form a)

def Sp.f1040 (x0 : Int) := (bif decide (x0 ≥ (48 : Int)) then (decide (x0 ≤ (57 : Int)), ()) else (false, ()))
noncomputable def e1040 : Ent := { f := 56, ins := [Sh.one (C0.dat (Ty.int IntKind.u8))], outs := [Sh.one (C0.dat Ty.bool)], upd := [], pre := fun a => true, spec := fun a => (Sp.f1040 a).1, wrt := fun a => (Sp.f1040 a).2 }
def f1040_g (v : denS [Sh.one (C0.dat Ty.bool)] × denS []) : Res := ⟨mkS [Sh.one (C0.dat Ty.bool)] v.1, mkU [] v.2⟩
theorem f1040_raw (x0 : Int) : abody Γ (orc []) 0 56 [XV.mk false [X.c (X0.dat (Ty.int IntKind.u8) x0)]] = bif decide (x0 ≥ (48 : Int)) then some (Res.mk [XV.mk false [X.c (X0.dat Ty.bool (decide (x0 ≤ (57 : Int))))]] []) else some (Res.mk [XV.mk false [X.c (X0.dat Ty.bool false)]] []) := by kernel_rfl
theorem f1040_form (x0 : Int) : (bif decide (x0 ≥ (48 : Int)) then some (Res.mk [XV.mk false [X.c (X0.dat Ty.bool (decide (x0 ≤ (57 : Int))))]] []) else some (Res.mk [XV.mk false [X.c (X0.dat Ty.bool false)]] [])) = some (f1040_g (Sp.f1040 x0)) := by
  unfold Sp.f1040
  exact (cond_plain f1040_g (rfl) (rfl))
theorem e1040_ok : Valid PP Γ e1040 := valid_auto ok vnil fun a => (f1040_raw a).trans (f1040_form a)

noncomputable def f1036_L0 (n m0 : Nat) (y0 : ByteArray) (y1 : Int) (y2 : Int) : Option Res := loopAt Γ (orc [e1039, e1040, e70]) n (50 : Nat) (0 : Nat) [] [Pth.r, Pth.l, Pth.r, Pth.b] m0 (St.mk [Slot.val (Val.one (Cell.dat Ty.str y0)), Slot.nix, Slot.nix, Slot.nix, Slot.nix, Slot.val (Val.one (Cell.dat (Ty.int IntKind.i64) y1)), Slot.val (Val.one (Cell.dat (Ty.int IntKind.i64) y2)), Slot.nix, Slot.nix, Slot.nix, Slot.nix, Slot.nix, Slot.nix, Slot.nix, Slot.nix, Slot.nix, Slot.nix, Slot.nix, Slot.nix, Slot.nix, Slot.nix, Slot.nix, Slot.nix, Slot.nix, Slot.nix, Slot.nix, Slot.nix, Slot.nix, Slot.nix] [])
theorem f1036_L0_step (n m0 : Nat) (y0 : ByteArray) (y1 : Int) (y2 : Int) : f1036_L0 n (m0 + 1) y0 y1 y2 = bif decide (y2 < y1) then chk (decide ((0 : Int) ≤ y2) && decide (y2 < (↑y0.size : Int))) (bif !(Sp.f1039 ((strBytes y0).getD y2.toNat (0 : Int))).1 then bif y2 == (0 : Int) then some (Res.mk [XV.mk false [X.c (X0.dat Ty.bool false)]] []) else chk (decide ((0 : Int) ≤ y2) && decide (y2 < (↑y0.size : Int))) (bif !(Sp.f1040 ((strBytes y0).getD y2.toNat (0 : Int))).1 then some (Res.mk [XV.mk false [X.c (X0.dat Ty.bool false)]] []) else f1036_L0 n m0 y0 y1 (IntKind.i64.wrap (y2 + (1 : Int)))) else f1036_L0 n m0 y0 y1 (IntKind.i64.wrap (y2 + (1 : Int)))) else some (Res.mk [XV.mk false [X.c (X0.dat Ty.bool (Sp.f70 (↑y0.size : Int) (1 : Int) (40 : Int)).1)]] []) := by kernel_rfl
theorem f1036_raw (n : Nat) (x0 : ByteArray) : abody Γ (orc [e1039, e1040, e70]) n 50 [XV.mk false [X.c (X0.dat Ty.str x0)]] = f1036_L0 n n x0 (↑x0.size : Int) (0 : Int) := by kernel_rfl

theorem f1039_eq : Sp.f1039 = Sp.f217 := rfl
theorem f1040_eq : Sp.f1040 = Sp.f218 := rfl
noncomputable def e1036 : Ent := { f := n1036, ins := [Sh.one cS], outs := [Sh.one cB], upd := [], pre := fun a => Nat.ble (ByteArray.size a) 9223372036854775807, spec := fun a => Sp.isName (strBytes a), wrt := fun _ => () }
theorem f1036_step (n m : Nat) (t : ByteArray) (b : Int) (k : Nat) (h : k < t.size) (hb : (strBytes t).getD k 0 = b) (h0 : k ≠ 0) (hs : t.size ≤ 9223372036854775807) : f1036_L0 n (m + 1) t t.size k = bif !Sp.wordB b then some (rBo false) else f1036_L0 n m t t.size ((k + 1 : Nat) : Int) := by
  have e0 : ((k : Int) == 0) = false := by simp; omega
  rw [f1036_L0_step, nat_lt h, cond_true, guard0, chkT, chkT, next64 h hs, Int.toNat_natCast, hb, e0, f1039_eq, f1040_eq]
  unfold Sp.wordB
  cases (Sp.f217 b).1 <;> cases (Sp.f218 b).1 <;> rfl
theorem e1036_core (t : ByteArray) (hs : t.size ≤ 9223372036854775807) : ∃ n, abody Γ (orc [e1039, e1040, e70]) n n1036 [XV.mk false [X.c (X0.dat Ty.str t)]] = some (rBo (Sp.isName (strBytes t))) := by
  have hl := strBytes_len t
  refine ⟨t.size + 1, (f1036_raw _ t).trans ?_⟩
  cases hb : strBytes t with
  | nil =>
    rw [hb] at hl
    have hl : 0 = t.size := hl
    rw [f1036_L0_step, ← hl]
    rfl
  | cons b r =>
    rw [hb, List.length_cons] at hl
    show _ = some (rBo (bif decide (r.length + 1 > 40) then false else bif !(Sp.f217 b).1 then false else Sp.allW Sp.wordB r))
    have hend : (Sp.f70 (t.size : Int) 1 40).1 = !decide (r.length + 1 > 40) := by
      show (bif decide ((t.size : Int) ≥ 1) then (decide ((t.size : Int) ≤ 40), ()) else (false, ())).1 = _
      rw [decide_eq_true (show (t.size : Int) ≥ 1 by omega), cond_true]
      by_cases hc : r.length + 1 > 40
      · rw [decide_eq_true hc]; exact decide_eq_false (by omega)
      · rw [decide_eq_false hc]; exact decide_eq_true (by omega)
    have lp2 : ∀ (d k m : Nat), 0 < k → k + d = r.length + 1 → d < m → f1036_L0 (t.size + 1) m t t.size k = some (bif Sp.allW Sp.wordB ((b :: r).drop k) then rBo (!decide (r.length + 1 > 40)) else rBo false) := by
      intro d
      induction d with
      | zero =>
        intro k m h0 hk hm
        obtain ⟨m, rfl⟩ := succ_of hm
        rw [f1036_L0_step, nat_ge (by omega), cond_false, hend, List.drop_of_length_le (by rw [List.length_cons]; omega)]
        rfl
      | succ d ih =>
        intro k m h0 hk hm
        obtain ⟨m, rfl⟩ := succ_of hm
        have hk2 : k < (b :: r).length := by rw [List.length_cons]; omega
        rw [f1036_step _ _ t (b :: r)[k] k (by omega) (by rw [hb, List.getD, List.getElem?_eq_getElem hk2, Option.getD_some]) (by omega) hs, ih (k + 1) m (by omega) (by omega) (by omega), List.drop_eq_getElem_cons hk2, Sp.allW]
        cases Sp.wordB (b :: r)[k] <;> rfl
    have h1 : (0 : Nat) < t.size := by omega
    have st := f1036_L0_step (t.size + 1) t.size t t.size 0
    rw [decide_eq_true (show (0 : Int) < (t.size : Int) by omega), decide_eq_true (show (0 : Int) ≤ 0 by omega), Bool.and_self, cond_true, chkT, chkT, wrap64 (n := 0 + 1) (by omega) (by omega), hb, show ((0 : Int) == 0) = true from rfl, cond_true, f1039_eq] at st
    have st : f1036_L0 (t.size + 1) (t.size + 1) t t.size 0 = bif !(Sp.f217 b).1 then some (rBo false) else f1036_L0 (t.size + 1) t.size t t.size ((0 + 1 : Nat) : Int) := st
    rw [st, lp2 r.length 1 t.size (by omega) (by omega) (by omega), condB, condB]
    show (bif !(Sp.f217 b).1 then _ else some (bif Sp.allW Sp.wordB r then _ else _)) = _
    cases decide (r.length + 1 > 40) <;> cases (Sp.f217 b).1 <;> cases Sp.allW Sp.wordB r <;> rfl
theorem e1036_ok : Valid PP Γ e1036 := valid_of ok (vcons e1039_ok (vcons e1040_ok (vcons e70_ok vnil))) fun a ha => e1036_core a (Nat.le_of_ble_eq_true ha)
def Sp.f1037 := (Sp.split (ByteArray.mk (([(115 : UInt8), (101 : UInt8), (108 : UInt8), (101 : UInt8), (99 : UInt8), (116 : UInt8), (32 : UInt8), (102 : UInt8), (114 : UInt8), (111 : UInt8), (109 : UInt8), (32 : UInt8), (106 : UInt8), (111 : UInt8), (105 : UInt8), (110 : UInt8), (32 : UInt8), (111 : UInt8), (110 : UInt8), (32 : UInt8), (119 : UInt8), (104 : UInt8), (101 : UInt8), (114 : UInt8), (101 : UInt8), (32 : UInt8), (103 : UInt8), (114 : UInt8), (111 : UInt8), (117 : UInt8), (112 : UInt8), (32 : UInt8), (98 : UInt8), (121 : UInt8)].append [(32 : UInt8), (111 : UInt8), (114 : UInt8), (100 : UInt8), (101 : UInt8), (114 : UInt8), (32 : UInt8), (108 : UInt8), (105 : UInt8), (109 : UInt8), (105 : UInt8), (116 : UInt8), (32 : UInt8), (100 : UInt8), (101 : UInt8), (115 : UInt8), (99 : UInt8), (32 : UInt8), (105 : UInt8), (110 : UInt8), (115 : UInt8), (101 : UInt8), (114 : UInt8), (116 : UInt8), (32 : UInt8), (105 : UInt8), (110 : UInt8), (116 : UInt8), (111 : UInt8), (32 : UInt8), (118 : UInt8), (97 : UInt8), (108 : UInt8), (117 : UInt8), (101 : UInt8)]).append ([(115 : UInt8), (32 : UInt8), (117 : UInt8), (112 : UInt8), (100 : UInt8), (97 : UInt8), (116 : UInt8), (101 : UInt8), (32 : UInt8), (115 : UInt8), (101 : UInt8), (116 : UInt8), (32 : UInt8), (100 : UInt8), (101 : UInt8), (108 : UInt8), (101 : UInt8), (116 : UInt8), (101 : UInt8), (32 : UInt8), (97 : UInt8), (110 : UInt8), (100 : UInt8), (32 : UInt8), (111 : UInt8), (114 : UInt8), (32 : UInt8), (110 : UInt8), (111 : UInt8), (116 : UInt8), (32 : UInt8), (105 : UInt8), (115 : UInt8), (32 : UInt8), (110 : UInt8)].append [(117 : UInt8), (108 : UInt8), (108 : UInt8), (32 : UInt8), (116 : UInt8), (114 : UInt8), (117 : UInt8), (101 : UInt8), (32 : UInt8), (102 : UInt8), (97 : UInt8), (108 : UInt8), (115 : UInt8), (101 : UInt8), (32 : UInt8), (99 : UInt8), (111 : UInt8), (117 : UInt8), (110 : UInt8), (116 : UInt8), (32 : UInt8), (115 : UInt8), (117 : UInt8), (109 : UInt8), (32 : UInt8), (109 : UInt8), (105 : UInt8), (110 : UInt8), (32 : UInt8), (109 : UInt8), (97 : UInt8), (120 : UInt8), (32 : UInt8), (97 : UInt8), (115 : UInt8)])).toArray) (ByteArray.mk #[(32 : UInt8)]), ())
noncomputable def e1037 : Ent := { f := 51, ins := [], outs := [Sh.one (C0.row Ty.str)], upd := [], pre := fun a => true, spec := fun a => (Sp.f1037).1, wrt := fun a => (Sp.f1037).2 }
def f1037_g (v : denS [Sh.one (C0.row Ty.str)] × denS []) : Res := ⟨mkS [Sh.one (C0.row Ty.str)] v.1, mkU [] v.2⟩
theorem f1037_raw : abody Γ (orc [e1041]) 0 51 [] = some (Res.mk [XV.mk false [X.c (X0.row Ty.str (Sp.split (ByteArray.mk (([(115 : UInt8), (101 : UInt8), (108 : UInt8), (101 : UInt8), (99 : UInt8), (116 : UInt8), (32 : UInt8), (102 : UInt8), (114 : UInt8), (111 : UInt8), (109 : UInt8), (32 : UInt8), (106 : UInt8), (111 : UInt8), (105 : UInt8), (110 : UInt8), (32 : UInt8), (111 : UInt8), (110 : UInt8), (32 : UInt8), (119 : UInt8), (104 : UInt8), (101 : UInt8), (114 : UInt8), (101 : UInt8), (32 : UInt8), (103 : UInt8), (114 : UInt8), (111 : UInt8), (117 : UInt8), (112 : UInt8), (32 : UInt8), (98 : UInt8), (121 : UInt8)].append [(32 : UInt8), (111 : UInt8), (114 : UInt8), (100 : UInt8), (101 : UInt8), (114 : UInt8), (32 : UInt8), (108 : UInt8), (105 : UInt8), (109 : UInt8), (105 : UInt8), (116 : UInt8), (32 : UInt8), (100 : UInt8), (101 : UInt8), (115 : UInt8), (99 : UInt8), (32 : UInt8), (105 : UInt8), (110 : UInt8), (115 : UInt8), (101 : UInt8), (114 : UInt8), (116 : UInt8), (32 : UInt8), (105 : UInt8), (110 : UInt8), (116 : UInt8), (111 : UInt8), (32 : UInt8), (118 : UInt8), (97 : UInt8), (108 : UInt8), (117 : UInt8), (101 : UInt8)]).append ([(115 : UInt8), (32 : UInt8), (117 : UInt8), (112 : UInt8), (100 : UInt8), (97 : UInt8), (116 : UInt8), (101 : UInt8), (32 : UInt8), (115 : UInt8), (101 : UInt8), (116 : UInt8), (32 : UInt8), (100 : UInt8), (101 : UInt8), (108 : UInt8), (101 : UInt8), (116 : UInt8), (101 : UInt8), (32 : UInt8), (97 : UInt8), (110 : UInt8), (100 : UInt8), (32 : UInt8), (111 : UInt8), (114 : UInt8), (32 : UInt8), (110 : UInt8), (111 : UInt8), (116 : UInt8), (32 : UInt8), (105 : UInt8), (115 : UInt8), (32 : UInt8), (110 : UInt8)].append [(117 : UInt8), (108 : UInt8), (108 : UInt8), (32 : UInt8), (116 : UInt8), (114 : UInt8), (117 : UInt8), (101 : UInt8), (32 : UInt8), (102 : UInt8), (97 : UInt8), (108 : UInt8), (115 : UInt8), (101 : UInt8), (32 : UInt8), (99 : UInt8), (111 : UInt8), (117 : UInt8), (110 : UInt8), (116 : UInt8), (32 : UInt8), (115 : UInt8), (117 : UInt8), (109 : UInt8), (32 : UInt8), (109 : UInt8), (105 : UInt8), (110 : UInt8), (32 : UInt8), (109 : UInt8), (97 : UInt8), (120 : UInt8), (32 : UInt8), (97 : UInt8), (115 : UInt8)])).toArray) (ByteArray.mk #[(32 : UInt8)])) true)]] []) := by kernel_rfl
theorem f1037_form : (some (Res.mk [XV.mk false [X.c (X0.row Ty.str (Sp.split (ByteArray.mk (([(115 : UInt8), (101 : UInt8), (108 : UInt8), (101 : UInt8), (99 : UInt8), (116 : UInt8), (32 : UInt8), (102 : UInt8), (114 : UInt8), (111 : UInt8), (109 : UInt8), (32 : UInt8), (106 : UInt8), (111 : UInt8), (105 : UInt8), (110 : UInt8), (32 : UInt8), (111 : UInt8), (110 : UInt8), (32 : UInt8), (119 : UInt8), (104 : UInt8), (101 : UInt8), (114 : UInt8), (101 : UInt8), (32 : UInt8), (103 : UInt8), (114 : UInt8), (111 : UInt8), (117 : UInt8), (112 : UInt8), (32 : UInt8), (98 : UInt8), (121 : UInt8)].append [(32 : UInt8), (111 : UInt8), (114 : UInt8), (100 : UInt8), (101 : UInt8), (114 : UInt8), (32 : UInt8), (108 : UInt8), (105 : UInt8), (109 : UInt8), (105 : UInt8), (116 : UInt8), (32 : UInt8), (100 : UInt8), (101 : UInt8), (115 : UInt8), (99 : UInt8), (32 : UInt8), (105 : UInt8), (110 : UInt8), (115 : UInt8), (101 : UInt8), (114 : UInt8), (116 : UInt8), (32 : UInt8), (105 : UInt8), (110 : UInt8), (116 : UInt8), (111 : UInt8), (32 : UInt8), (118 : UInt8), (97 : UInt8), (108 : UInt8), (117 : UInt8), (101 : UInt8)]).append ([(115 : UInt8), (32 : UInt8), (117 : UInt8), (112 : UInt8), (100 : UInt8), (97 : UInt8), (116 : UInt8), (101 : UInt8), (32 : UInt8), (115 : UInt8), (101 : UInt8), (116 : UInt8), (32 : UInt8), (100 : UInt8), (101 : UInt8), (108 : UInt8), (101 : UInt8), (116 : UInt8), (101 : UInt8), (32 : UInt8), (97 : UInt8), (110 : UInt8), (100 : UInt8), (32 : UInt8), (111 : UInt8), (114 : UInt8), (32 : UInt8), (110 : UInt8), (111 : UInt8), (116 : UInt8), (32 : UInt8), (105 : UInt8), (115 : UInt8), (32 : UInt8), (110 : UInt8)].append [(117 : UInt8), (108 : UInt8), (108 : UInt8), (32 : UInt8), (116 : UInt8), (114 : UInt8), (117 : UInt8), (101 : UInt8), (32 : UInt8), (102 : UInt8), (97 : UInt8), (108 : UInt8), (115 : UInt8), (101 : UInt8), (32 : UInt8), (99 : UInt8), (111 : UInt8), (117 : UInt8), (110 : UInt8), (116 : UInt8), (32 : UInt8), (115 : UInt8), (117 : UInt8), (109 : UInt8), (32 : UInt8), (109 : UInt8), (105 : UInt8), (110 : UInt8), (32 : UInt8), (109 : UInt8), (97 : UInt8), (120 : UInt8), (32 : UInt8), (97 : UInt8), (115 : UInt8)])).toArray) (ByteArray.mk #[(32 : UInt8)])) true)]] [])) = some (f1037_g (Sp.f1037)) := by
  unfold Sp.f1037
  exact rfl
theorem e1037_ok : Valid PP Γ e1037 := valid_auto ok (vcons e1041_ok vnil) fun a => (f1037_raw ).trans (f1037_form )

noncomputable def f156_L0 (n m0 : Nat) (y0 : List ByteArray) (y1 : ByteArray) (y2 : Int) (y3 : Int) : Option Res := loopAt Γ (orc []) n (52 : Nat) (0 : Nat) [] [Pth.r, Pth.l, Pth.r, Pth.b] m0 (St.mk [Slot.val (Val.one (Cell.dat Ty.str.slice y0)), Slot.val (Val.one (Cell.dat Ty.str y1)), Slot.nix, Slot.nix, Slot.nix, Slot.nix, Slot.nix, Slot.val (Val.one (Cell.dat (Ty.int IntKind.i64) y2)), Slot.val (Val.one (Cell.dat (Ty.int IntKind.i64) y3)), Slot.nix, Slot.nix, Slot.nix, Slot.nix, Slot.nix, Slot.nix, Slot.nix, Slot.nix, Slot.nix, Slot.nix] [])
theorem f156_L0_step (n m0 : Nat) (y0 : List ByteArray) (y1 : ByteArray) (y2 : Int) (y3 : Int) : f156_L0 n (m0 + 1) y0 y1 y2 y3 = bif decide (y3 < y2) then chk (decide ((0 : Int) ≤ y3) && decide (y3 < (↑y0.length : Int))) (bif y1.toList == (y0.getD y3.toNat (ByteArray.mk #[])).toList then some (Res.mk [XV.mk false [X.c (X0.dat (Ty.int IntKind.i64) y3)]] []) else f156_L0 n m0 y0 y1 y2 (IntKind.i64.wrap (y3 + (1 : Int)))) else some (Res.mk [XV.mk false [X.c (X0.dat (Ty.int IntKind.i64) (-1 : Int))]] []) := by kernel_rfl
theorem f156_raw (n : Nat) (x0 : List ByteArray) (x1 : ByteArray) : abody Γ (orc []) n 52 [XV.mk false [X.c (X0.dat Ty.str.slice x0)], XV.mk false [X.c (X0.dat Ty.str x1)]] = f156_L0 n n x0 x1 (↑x0.length : Int) (0 : Int) := by kernel_rfl

def Sp.sameS (t w : ByteArray) : Bool := t.toList == w.toList
noncomputable def e156 : Ent := { f := n156, ins := [Sh.one (cL .str), Sh.one cS], outs := [Sh.one cI], upd := [], pre := fun _ => true, spec := fun a => Sp.idx (Sp.sameS a.2) a.1 0, wrt := fun _ => () }
theorem e156_core (xs : List ByteArray) (t : ByteArray) (hl : xs.length ≤ maxLen) : ∃ n, abody Γ (orc []) n n156 [XV.mk false [X.c (X0.dat (Ty.slice .str) xs)], XV.mk false [X.c (X0.dat Ty.str t)]] = some (rI (Sp.idx (Sp.sameS t) xs 0)) := by
  have hl : xs.length ≤ 9223372036854775807 := hl
  refine ⟨xs.length + 1, (f156_raw _ xs t).trans ?_⟩
  refine idx_loop (p := Sp.sameS t) (R := rI) xs (fun m k => f156_L0 (xs.length + 1) m xs t xs.length k) (fun m k hk => ?_) (fun m k h => ?_) xs.length 0 _ (Nat.zero_add _) (Nat.lt_succ_self _)
  · show f156_L0 _ _ _ _ _ _ = _
    rw [f156_L0_step, nat_ge hk, cond_false]
  · show f156_L0 _ _ _ _ _ _ = _
    rw [f156_L0_step, nat_lt h, cond_true, guard0, chkT, getD_nat xs k _ h, next64 h hl]
    rfl
theorem e156_ok : Valid PP Γ e156 := valid_len ok vnil fun a _ hl => e156_core a.1 a.2 (hl _ (List.mem_cons_self) _ (List.mem_cons_self)).1
def Sp.f1031 (x0 : List ByteArray) (x1 : ByteArray) := (decide (Sp.idx (Sp.sameS x1) x0 (0 : Int) ≥ (0 : Int)), ())
noncomputable def e1031 : Ent := { f := 42, ins := [Sh.one (C0.dat Ty.str.slice), Sh.one (C0.dat Ty.str)], outs := [Sh.one (C0.dat Ty.bool)], upd := [], pre := fun a => true, spec := fun a => (Sp.f1031 a.1 a.2).1, wrt := fun a => (Sp.f1031 a.1 a.2).2 }
def f1031_g (v : denS [Sh.one (C0.dat Ty.bool)] × denS []) : Res := ⟨mkS [Sh.one (C0.dat Ty.bool)] v.1, mkU [] v.2⟩
theorem f1031_raw (x0 : List ByteArray) (x1 : ByteArray) : abody Γ (orc [e156]) 0 42 [XV.mk false [X.c (X0.dat Ty.str.slice x0)], XV.mk false [X.c (X0.dat Ty.str x1)]] = some (Res.mk [XV.mk false [X.c (X0.dat Ty.bool (decide (Sp.idx (Sp.sameS x1) x0 (0 : Int) ≥ (0 : Int))))]] []) := by kernel_rfl
theorem f1031_form (x0 : List ByteArray) (x1 : ByteArray) : (some (Res.mk [XV.mk false [X.c (X0.dat Ty.bool (decide (Sp.idx (Sp.sameS x1) x0 (0 : Int) ≥ (0 : Int))))]] [])) = some (f1031_g (Sp.f1031 x0 x1)) := by
  unfold Sp.f1031
  exact rfl
theorem e1031_ok : Valid PP Γ e1031 := valid_auto ok (vcons e156_ok vnil) fun a => (f1031_raw a.1 a.2).trans (f1031_form a.1 a.2)

def Sp.f1023 (x0 : ByteArray) := (bif x0.toList == (ByteArray.mk #[(111 : UInt8), (114 : UInt8)]).toList then ((1 : Int), ()) else (bif x0.toList == (ByteArray.mk #[(97 : UInt8), (110 : UInt8), (100 : UInt8)]).toList then ((2 : Int), ()) else (bif x0.toList == (ByteArray.mk #[(61 : UInt8)]).toList then (bif x0.toList == (ByteArray.mk #[(61 : UInt8)]).toList then ((4 : Int), ()) else (bif x0.toList == (ByteArray.mk #[(43 : UInt8)]).toList then (bif x0.toList == (ByteArray.mk #[(43 : UInt8)]).toList then ((5 : Int), ()) else (bif x0.toList == (ByteArray.mk #[(42 : UInt8)]).toList then (bif x0.toList == (ByteArray.mk #[(42 : UInt8)]).toList then ((6 : Int), ()) else ((0 : Int), ())) else (bif x0.toList == (ByteArray.mk #[(47 : UInt8)]).toList then (bif x0.toList == (ByteArray.mk #[(47 : UInt8)]).toList then ((6 : Int), ()) else ((0 : Int), ())) else (bif x0.toList == (ByteArray.mk #[(37 : UInt8)]).toList then ((6 : Int), ()) else ((0 : Int), ()))))) else (bif x0.toList == (ByteArray.mk #[(45 : UInt8)]).toList then ((5 : Int), ()) else (bif x0.toList == (ByteArray.mk #[(42 : UInt8)]).toList then (bif x0.toList == (ByteArray.mk #[(42 : UInt8)]).toList then ((6 : Int), ()) else ((0 : Int), ())) else (bif x0.toList == (ByteArray.mk #[(47 : UInt8)]).toList then (bif x0.toList == (ByteArray.mk #[(47 : UInt8)]).toList then ((6 : Int), ()) else ((0 : Int), ())) else (bif x0.toList == (ByteArray.mk #[(37 : UInt8)]).toList then ((6 : Int), ()) else ((0 : Int), ()))))))) else (bif x0.toList == (ByteArray.mk #[(60 : UInt8), (62 : UInt8)]).toList then (bif x0.toList == (ByteArray.mk #[(60 : UInt8), (62 : UInt8)]).toList then ((4 : Int), ()) else (bif x0.toList == (ByteArray.mk #[(43 : UInt8)]).toList then (bif x0.toList == (ByteArray.mk #[(43 : UInt8)]).toList then ((5 : Int), ()) else (bif x0.toList == (ByteArray.mk #[(42 : UInt8)]).toList then (bif x0.toList == (ByteArray.mk #[(42 : UInt8)]).toList then ((6 : Int), ()) else ((0 : Int), ())) else (bif x0.toList == (ByteArray.mk #[(47 : UInt8)]).toList then (bif x0.toList == (ByteArray.mk #[(47 : UInt8)]).toList then ((6 : Int), ()) else ((0 : Int), ())) else (bif x0.toList == (ByteArray.mk #[(37 : UInt8)]).toList then ((6 : Int), ()) else ((0 : Int), ()))))) else (bif x0.toList == (ByteArray.mk #[(45 : UInt8)]).toList then ((5 : Int), ()) else (bif x0.toList == (ByteArray.mk #[(42 : UInt8)]).toList then (bif x0.toList == (ByteArray.mk #[(42 : UInt8)]).toList then ((6 : Int), ()) else ((0 : Int), ())) else (bif x0.toList == (ByteArray.mk #[(47 : UInt8)]).toList then (bif x0.toList == (ByteArray.mk #[(47 : UInt8)]).toList then ((6 : Int), ()) else ((0 : Int), ())) else (bif x0.toList == (ByteArray.mk #[(37 : UInt8)]).toList then ((6 : Int), ()) else ((0 : Int), ()))))))) else (bif x0.toList == (ByteArray.mk #[(60 : UInt8)]).toList then (bif x0.toList == (ByteArray.mk #[(60 : UInt8)]).toList then ((4 : Int), ()) else (bif x0.toList == (ByteArray.mk #[(43 : UInt8)]).toList then (bif x0.toList == (ByteArray.mk #[(43 : UInt8)]).toList then ((5 : Int), ()) else (bif x0.toList == (ByteArray.mk #[(42 : UInt8)]).toList then (bif x0.toList == (ByteArray.mk #[(42 : UInt8)]).toList then ((6 : Int), ()) else ((0 : Int), ())) else (bif x0.toList == (ByteArray.mk #[(47 : UInt8)]).toList then (bif x0.toList == (ByteArray.mk #[(47 : UInt8)]).toList then ((6 : Int), ()) else ((0 : Int), ())) else (bif x0.toList == (ByteArray.mk #[(37 : UInt8)]).toList then ((6 : Int), ()) else ((0 : Int), ()))))) else (bif x0.toList == (ByteArray.mk #[(45 : UInt8)]).toList then ((5 : Int), ()) else (bif x0.toList == (ByteArray.mk #[(42 : UInt8)]).toList then (bif x0.toList == (ByteArray.mk #[(42 : UInt8)]).toList then ((6 : Int), ()) else ((0 : Int), ())) else (bif x0.toList == (ByteArray.mk #[(47 : UInt8)]).toList then (bif x0.toList == (ByteArray.mk #[(47 : UInt8)]).toList then ((6 : Int), ()) else ((0 : Int), ())) else (bif x0.toList == (ByteArray.mk #[(37 : UInt8)]).toList then ((6 : Int), ()) else ((0 : Int), ()))))))) else (bif x0.toList == (ByteArray.mk #[(60 : UInt8), (61 : UInt8)]).toList then (bif x0.toList == (ByteArray.mk #[(60 : UInt8), (61 : UInt8)]).toList then ((4 : Int), ()) else (bif x0.toList == (ByteArray.mk #[(43 : UInt8)]).toList then (bif x0.toList == (ByteArray.mk #[(43 : UInt8)]).toList then ((5 : Int), ()) else (bif x0.toList == (ByteArray.mk #[(42 : UInt8)]).toList then (bif x0.toList == (ByteArray.mk #[(42 : UInt8)]).toList then ((6 : Int), ()) else ((0 : Int), ())) else (bif x0.toList == (ByteArray.mk #[(47 : UInt8)]).toList then (bif x0.toList == (ByteArray.mk #[(47 : UInt8)]).toList then ((6 : Int), ()) else ((0 : Int), ())) else (bif x0.toList == (ByteArray.mk #[(37 : UInt8)]).toList then ((6 : Int), ()) else ((0 : Int), ()))))) else (bif x0.toList == (ByteArray.mk #[(45 : UInt8)]).toList then ((5 : Int), ()) else (bif x0.toList == (ByteArray.mk #[(42 : UInt8)]).toList then (bif x0.toList == (ByteArray.mk #[(42 : UInt8)]).toList then ((6 : Int), ()) else ((0 : Int), ())) else (bif x0.toList == (ByteArray.mk #[(47 : UInt8)]).toList then (bif x0.toList == (ByteArray.mk #[(47 : UInt8)]).toList then ((6 : Int), ()) else ((0 : Int), ())) else (bif x0.toList == (ByteArray.mk #[(37 : UInt8)]).toList then ((6 : Int), ()) else ((0 : Int), ()))))))) else (bif x0.toList == (ByteArray.mk #[(62 : UInt8)]).toList then (bif x0.toList == (ByteArray.mk #[(62 : UInt8)]).toList then ((4 : Int), ()) else (bif x0.toList == (ByteArray.mk #[(43 : UInt8)]).toList then (bif x0.toList == (ByteArray.mk #[(43 : UInt8)]).toList then ((5 : Int), ()) else (bif x0.toList == (ByteArray.mk #[(42 : UInt8)]).toList then (bif x0.toList == (ByteArray.mk #[(42 : UInt8)]).toList then ((6 : Int), ()) else ((0 : Int), ())) else (bif x0.toList == (ByteArray.mk #[(47 : UInt8)]).toList then (bif x0.toList == (ByteArray.mk #[(47 : UInt8)]).toList then ((6 : Int), ()) else ((0 : Int), ())) else (bif x0.toList == (ByteArray.mk #[(37 : UInt8)]).toList then ((6 : Int), ()) else ((0 : Int), ()))))) else (bif x0.toList == (ByteArray.mk #[(45 : UInt8)]).toList then ((5 : Int), ()) else (bif x0.toList == (ByteArray.mk #[(42 : UInt8)]).toList then (bif x0.toList == (ByteArray.mk #[(42 : UInt8)]).toList then ((6 : Int), ()) else ((0 : Int), ())) else (bif x0.toList == (ByteArray.mk #[(47 : UInt8)]).toList then (bif x0.toList == (ByteArray.mk #[(47 : UInt8)]).toList then ((6 : Int), ()) else ((0 : Int), ())) else (bif x0.toList == (ByteArray.mk #[(37 : UInt8)]).toList then ((6 : Int), ()) else ((0 : Int), ()))))))) else (bif x0.toList == (ByteArray.mk #[(62 : UInt8), (61 : UInt8)]).toList then ((4 : Int), ()) else (bif x0.toList == (ByteArray.mk #[(43 : UInt8)]).toList then (bif x0.toList == (ByteArray.mk #[(43 : UInt8)]).toList then ((5 : Int), ()) else (bif x0.toList == (ByteArray.mk #[(42 : UInt8)]).toList then (bif x0.toList == (ByteArray.mk #[(42 : UInt8)]).toList then ((6 : Int), ()) else ((0 : Int), ())) else (bif x0.toList == (ByteArray.mk #[(47 : UInt8)]).toList then (bif x0.toList == (ByteArray.mk #[(47 : UInt8)]).toList then ((6 : Int), ()) else ((0 : Int), ())) else (bif x0.toList == (ByteArray.mk #[(37 : UInt8)]).toList then ((6 : Int), ()) else ((0 : Int), ()))))) else (bif x0.toList == (ByteArray.mk #[(45 : UInt8)]).toList then ((5 : Int), ()) else (bif x0.toList == (ByteArray.mk #[(42 : UInt8)]).toList then (bif x0.toList == (ByteArray.mk #[(42 : UInt8)]).toList then ((6 : Int), ()) else ((0 : Int), ())) else (bif x0.toList == (ByteArray.mk #[(47 : UInt8)]).toList then (bif x0.toList == (ByteArray.mk #[(47 : UInt8)]).toList then ((6 : Int), ()) else ((0 : Int), ())) else (bif x0.toList == (ByteArray.mk #[(37 : UInt8)]).toList then ((6 : Int), ()) else ((0 : Int), ()))))))))))))))
noncomputable def e1023 : Ent := { f := 32, ins := [Sh.one (C0.dat Ty.str)], outs := [Sh.one (C0.dat (Ty.int IntKind.i64))], upd := [], pre := fun a => true, spec := fun a => (Sp.f1023 a).1, wrt := fun a => (Sp.f1023 a).2 }
def f1023_g (v : denS [Sh.one (C0.dat (Ty.int IntKind.i64))] × denS []) : Res := ⟨mkS [Sh.one (C0.dat (Ty.int IntKind.i64))] v.1, mkU [] v.2⟩
theorem f1023_raw (x0 : ByteArray) : abody Γ (orc []) 0 32 [XV.mk false [X.c (X0.dat Ty.str x0)]] = bif x0.toList == (ByteArray.mk #[(111 : UInt8), (114 : UInt8)]).toList then some (Res.mk [XV.mk false [X.c (X0.dat (Ty.int IntKind.i64) (1 : Int))]] []) else bif x0.toList == (ByteArray.mk #[(97 : UInt8), (110 : UInt8), (100 : UInt8)]).toList then some (Res.mk [XV.mk false [X.c (X0.dat (Ty.int IntKind.i64) (2 : Int))]] []) else bif x0.toList == (ByteArray.mk #[(61 : UInt8)]).toList then bif x0.toList == (ByteArray.mk #[(61 : UInt8)]).toList then some (Res.mk [XV.mk false [X.c (X0.dat (Ty.int IntKind.i64) (4 : Int))]] []) else bif x0.toList == (ByteArray.mk #[(43 : UInt8)]).toList then bif x0.toList == (ByteArray.mk #[(43 : UInt8)]).toList then some (Res.mk [XV.mk false [X.c (X0.dat (Ty.int IntKind.i64) (5 : Int))]] []) else bif x0.toList == (ByteArray.mk #[(42 : UInt8)]).toList then bif x0.toList == (ByteArray.mk #[(42 : UInt8)]).toList then some (Res.mk [XV.mk false [X.c (X0.dat (Ty.int IntKind.i64) (6 : Int))]] []) else some (Res.mk [XV.mk false [X.c (X0.dat (Ty.int IntKind.i64) (0 : Int))]] []) else bif x0.toList == (ByteArray.mk #[(47 : UInt8)]).toList then bif x0.toList == (ByteArray.mk #[(47 : UInt8)]).toList then some (Res.mk [XV.mk false [X.c (X0.dat (Ty.int IntKind.i64) (6 : Int))]] []) else some (Res.mk [XV.mk false [X.c (X0.dat (Ty.int IntKind.i64) (0 : Int))]] []) else bif x0.toList == (ByteArray.mk #[(37 : UInt8)]).toList then some (Res.mk [XV.mk false [X.c (X0.dat (Ty.int IntKind.i64) (6 : Int))]] []) else some (Res.mk [XV.mk false [X.c (X0.dat (Ty.int IntKind.i64) (0 : Int))]] []) else bif x0.toList == (ByteArray.mk #[(45 : UInt8)]).toList then some (Res.mk [XV.mk false [X.c (X0.dat (Ty.int IntKind.i64) (5 : Int))]] []) else bif x0.toList == (ByteArray.mk #[(42 : UInt8)]).toList then bif x0.toList == (ByteArray.mk #[(42 : UInt8)]).toList then some (Res.mk [XV.mk false [X.c (X0.dat (Ty.int IntKind.i64) (6 : Int))]] []) else some (Res.mk [XV.mk false [X.c (X0.dat (Ty.int IntKind.i64) (0 : Int))]] []) else bif x0.toList == (ByteArray.mk #[(47 : UInt8)]).toList then bif x0.toList == (ByteArray.mk #[(47 : UInt8)]).toList then some (Res.mk [XV.mk false [X.c (X0.dat (Ty.int IntKind.i64) (6 : Int))]] []) else some (Res.mk [XV.mk false [X.c (X0.dat (Ty.int IntKind.i64) (0 : Int))]] []) else bif x0.toList == (ByteArray.mk #[(37 : UInt8)]).toList then some (Res.mk [XV.mk false [X.c (X0.dat (Ty.int IntKind.i64) (6 : Int))]] []) else some (Res.mk [XV.mk false [X.c (X0.dat (Ty.int IntKind.i64) (0 : Int))]] []) else bif x0.toList == (ByteArray.mk #[(60 : UInt8), (62 : UInt8)]).toList then bif x0.toList == (ByteArray.mk #[(60 : UInt8), (62 : UInt8)]).toList then some (Res.mk [XV.mk false [X.c (X0.dat (Ty.int IntKind.i64) (4 : Int))]] []) else bif x0.toList == (ByteArray.mk #[(43 : UInt8)]).toList then bif x0.toList == (ByteArray.mk #[(43 : UInt8)]).toList then some (Res.mk [XV.mk false [X.c (X0.dat (Ty.int IntKind.i64) (5 : Int))]] []) else bif x0.toList == (ByteArray.mk #[(42 : UInt8)]).toList then bif x0.toList == (ByteArray.mk #[(42 : UInt8)]).toList then some (Res.mk [XV.mk false [X.c (X0.dat (Ty.int IntKind.i64) (6 : Int))]] []) else some (Res.mk [XV.mk false [X.c (X0.dat (Ty.int IntKind.i64) (0 : Int))]] []) else bif x0.toList == (ByteArray.mk #[(47 : UInt8)]).toList then bif x0.toList == (ByteArray.mk #[(47 : UInt8)]).toList then some (Res.mk [XV.mk false [X.c (X0.dat (Ty.int IntKind.i64) (6 : Int))]] []) else some (Res.mk [XV.mk false [X.c (X0.dat (Ty.int IntKind.i64) (0 : Int))]] []) else bif x0.toList == (ByteArray.mk #[(37 : UInt8)]).toList then some (Res.mk [XV.mk false [X.c (X0.dat (Ty.int IntKind.i64) (6 : Int))]] []) else some (Res.mk [XV.mk false [X.c (X0.dat (Ty.int IntKind.i64) (0 : Int))]] []) else bif x0.toList == (ByteArray.mk #[(45 : UInt8)]).toList then some (Res.mk [XV.mk false [X.c (X0.dat (Ty.int IntKind.i64) (5 : Int))]] []) else bif x0.toList == (ByteArray.mk #[(42 : UInt8)]).toList then bif x0.toList == (ByteArray.mk #[(42 : UInt8)]).toList then some (Res.mk [XV.mk false [X.c (X0.dat (Ty.int IntKind.i64) (6 : Int))]] []) else some (Res.mk [XV.mk false [X.c (X0.dat (Ty.int IntKind.i64) (0 : Int))]] []) else bif x0.toList == (ByteArray.mk #[(47 : UInt8)]).toList then bif x0.toList == (ByteArray.mk #[(47 : UInt8)]).toList then some (Res.mk [XV.mk false [X.c (X0.dat (Ty.int IntKind.i64) (6 : Int))]] []) else some (Res.mk [XV.mk false [X.c (X0.dat (Ty.int IntKind.i64) (0 : Int))]] []) else bif x0.toList == (ByteArray.mk #[(37 : UInt8)]).toList then some (Res.mk [XV.mk false [X.c (X0.dat (Ty.int IntKind.i64) (6 : Int))]] []) else some (Res.mk [XV.mk false [X.c (X0.dat (Ty.int IntKind.i64) (0 : Int))]] []) else bif x0.toList == (ByteArray.mk #[(60 : UInt8)]).toList then bif x0.toList == (ByteArray.mk #[(60 : UInt8)]).toList then some (Res.mk [XV.mk false [X.c (X0.dat (Ty.int IntKind.i64) (4 : Int))]] []) else bif x0.toList == (ByteArray.mk #[(43 : UInt8)]).toList then bif x0.toList == (ByteArray.mk #[(43 : UInt8)]).toList then some (Res.mk [XV.mk false [X.c (X0.dat (Ty.int IntKind.i64) (5 : Int))]] []) else bif x0.toList == (ByteArray.mk #[(42 : UInt8)]).toList then bif x0.toList == (ByteArray.mk #[(42 : UInt8)]).toList then some (Res.mk [XV.mk false [X.c (X0.dat (Ty.int IntKind.i64) (6 : Int))]] []) else some (Res.mk [XV.mk false [X.c (X0.dat (Ty.int IntKind.i64) (0 : Int))]] []) else bif x0.toList == (ByteArray.mk #[(47 : UInt8)]).toList then bif x0.toList == (ByteArray.mk #[(47 : UInt8)]).toList then some (Res.mk [XV.mk false [X.c (X0.dat (Ty.int IntKind.i64) (6 : Int))]] []) else some (Res.mk [XV.mk false [X.c (X0.dat (Ty.int IntKind.i64) (0 : Int))]] []) else bif x0.toList == (ByteArray.mk #[(37 : UInt8)]).toList then some (Res.mk [XV.mk false [X.c (X0.dat (Ty.int IntKind.i64) (6 : Int))]] []) else some (Res.mk [XV.mk false [X.c (X0.dat (Ty.int IntKind.i64) (0 : Int))]] []) else bif x0.toList == (ByteArray.mk #[(45 : UInt8)]).toList then some (Res.mk [XV.mk false [X.c (X0.dat (Ty.int IntKind.i64) (5 : Int))]] []) else bif x0.toList == (ByteArray.mk #[(42 : UInt8)]).toList then bif x0.toList == (ByteArray.mk #[(42 : UInt8)]).toList then some (Res.mk [XV.mk false [X.c (X0.dat (Ty.int IntKind.i64) (6 : Int))]] []) else some (Res.mk [XV.mk false [X.c (X0.dat (Ty.int IntKind.i64) (0 : Int))]] []) else bif x0.toList == (ByteArray.mk #[(47 : UInt8)]).toList then bif x0.toList == (ByteArray.mk #[(47 : UInt8)]).toList then some (Res.mk [XV.mk false [X.c (X0.dat (Ty.int IntKind.i64) (6 : Int))]] []) else some (Res.mk [XV.mk false [X.c (X0.dat (Ty.int IntKind.i64) (0 : Int))]] []) else bif x0.toList == (ByteArray.mk #[(37 : UInt8)]).toList then some (Res.mk [XV.mk false [X.c (X0.dat (Ty.int IntKind.i64) (6 : Int))]] []) else some (Res.mk [XV.mk false [X.c (X0.dat (Ty.int IntKind.i64) (0 : Int))]] []) else bif x0.toList == (ByteArray.mk #[(60 : UInt8), (61 : UInt8)]).toList then bif x0.toList == (ByteArray.mk #[(60 : UInt8), (61 : UInt8)]).toList then some (Res.mk [XV.mk false [X.c (X0.dat (Ty.int IntKind.i64) (4 : Int))]] []) else bif x0.toList == (ByteArray.mk #[(43 : UInt8)]).toList then bif x0.toList == (ByteArray.mk #[(43 : UInt8)]).toList then some (Res.mk [XV.mk false [X.c (X0.dat (Ty.int IntKind.i64) (5 : Int))]] []) else bif x0.toList == (ByteArray.mk #[(42 : UInt8)]).toList then bif x0.toList == (ByteArray.mk #[(42 : UInt8)]).toList then some (Res.mk [XV.mk false [X.c (X0.dat (Ty.int IntKind.i64) (6 : Int))]] []) else some (Res.mk [XV.mk false [X.c (X0.dat (Ty.int IntKind.i64) (0 : Int))]] []) else bif x0.toList == (ByteArray.mk #[(47 : UInt8)]).toList then bif x0.toList == (ByteArray.mk #[(47 : UInt8)]).toList then some (Res.mk [XV.mk false [X.c (X0.dat (Ty.int IntKind.i64) (6 : Int))]] []) else some (Res.mk [XV.mk false [X.c (X0.dat (Ty.int IntKind.i64) (0 : Int))]] []) else bif x0.toList == (ByteArray.mk #[(37 : UInt8)]).toList then some (Res.mk [XV.mk false [X.c (X0.dat (Ty.int IntKind.i64) (6 : Int))]] []) else some (Res.mk [XV.mk false [X.c (X0.dat (Ty.int IntKind.i64) (0 : Int))]] []) else bif x0.toList == (ByteArray.mk #[(45 : UInt8)]).toList then some (Res.mk [XV.mk false [X.c (X0.dat (Ty.int IntKind.i64) (5 : Int))]] []) else bif x0.toList == (ByteArray.mk #[(42 : UInt8)]).toList then bif x0.toList == (ByteArray.mk #[(42 : UInt8)]).toList then some (Res.mk [XV.mk false [X.c (X0.dat (Ty.int IntKind.i64) (6 : Int))]] []) else some (Res.mk [XV.mk false [X.c (X0.dat (Ty.int IntKind.i64) (0 : Int))]] []) else bif x0.toList == (ByteArray.mk #[(47 : UInt8)]).toList then bif x0.toList == (ByteArray.mk #[(47 : UInt8)]).toList then some (Res.mk [XV.mk false [X.c (X0.dat (Ty.int IntKind.i64) (6 : Int))]] []) else some (Res.mk [XV.mk false [X.c (X0.dat (Ty.int IntKind.i64) (0 : Int))]] []) else bif x0.toList == (ByteArray.mk #[(37 : UInt8)]).toList then some (Res.mk [XV.mk false [X.c (X0.dat (Ty.int IntKind.i64) (6 : Int))]] []) else some (Res.mk [XV.mk false [X.c (X0.dat (Ty.int IntKind.i64) (0 : Int))]] []) else bif x0.toList == (ByteArray.mk #[(62 : UInt8)]).toList then bif x0.toList == (ByteArray.mk #[(62 : UInt8)]).toList then some (Res.mk [XV.mk false [X.c (X0.dat (Ty.int IntKind.i64) (4 : Int))]] []) else bif x0.toList == (ByteArray.mk #[(43 : UInt8)]).toList then bif x0.toList == (ByteArray.mk #[(43 : UInt8)]).toList then some (Res.mk [XV.mk false [X.c (X0.dat (Ty.int IntKind.i64) (5 : Int))]] []) else bif x0.toList == (ByteArray.mk #[(42 : UInt8)]).toList then bif x0.toList == (ByteArray.mk #[(42 : UInt8)]).toList then some (Res.mk [XV.mk false [X.c (X0.dat (Ty.int IntKind.i64) (6 : Int))]] []) else some (Res.mk [XV.mk false [X.c (X0.dat (Ty.int IntKind.i64) (0 : Int))]] []) else bif x0.toList == (ByteArray.mk #[(47 : UInt8)]).toList then bif x0.toList == (ByteArray.mk #[(47 : UInt8)]).toList then some (Res.mk [XV.mk false [X.c (X0.dat (Ty.int IntKind.i64) (6 : Int))]] []) else some (Res.mk [XV.mk false [X.c (X0.dat (Ty.int IntKind.i64) (0 : Int))]] []) else bif x0.toList == (ByteArray.mk #[(37 : UInt8)]).toList then some (Res.mk [XV.mk false [X.c (X0.dat (Ty.int IntKind.i64) (6 : Int))]] []) else some (Res.mk [XV.mk false [X.c (X0.dat (Ty.int IntKind.i64) (0 : Int))]] []) else bif x0.toList == (ByteArray.mk #[(45 : UInt8)]).toList then some (Res.mk [XV.mk false [X.c (X0.dat (Ty.int IntKind.i64) (5 : Int))]] []) else bif x0.toList == (ByteArray.mk #[(42 : UInt8)]).toList then bif x0.toList == (ByteArray.mk #[(42 : UInt8)]).toList then some (Res.mk [XV.mk false [X.c (X0.dat (Ty.int IntKind.i64) (6 : Int))]] []) else some (Res.mk [XV.mk false [X.c (X0.dat (Ty.int IntKind.i64) (0 : Int))]] []) else bif x0.toList == (ByteArray.mk #[(47 : UInt8)]).toList then bif x0.toList == (ByteArray.mk #[(47 : UInt8)]).toList then some (Res.mk [XV.mk false [X.c (X0.dat (Ty.int IntKind.i64) (6 : Int))]] []) else some (Res.mk [XV.mk false [X.c (X0.dat (Ty.int IntKind.i64) (0 : Int))]] []) else bif x0.toList == (ByteArray.mk #[(37 : UInt8)]).toList then some (Res.mk [XV.mk false [X.c (X0.dat (Ty.int IntKind.i64) (6 : Int))]] []) else some (Res.mk [XV.mk false [X.c (X0.dat (Ty.int IntKind.i64) (0 : Int))]] []) else bif x0.toList == (ByteArray.mk #[(62 : UInt8), (61 : UInt8)]).toList then some (Res.mk [XV.mk false [X.c (X0.dat (Ty.int IntKind.i64) (4 : Int))]] []) else bif x0.toList == (ByteArray.mk #[(43 : UInt8)]).toList then bif x0.toList == (ByteArray.mk #[(43 : UInt8)]).toList then some (Res.mk [XV.mk false [X.c (X0.dat (Ty.int IntKind.i64) (5 : Int))]] []) else bif x0.toList == (ByteArray.mk #[(42 : UInt8)]).toList then bif x0.toList == (ByteArray.mk #[(42 : UInt8)]).toList then some (Res.mk [XV.mk false [X.c (X0.dat (Ty.int IntKind.i64) (6 : Int))]] []) else some (Res.mk [XV.mk false [X.c (X0.dat (Ty.int IntKind.i64) (0 : Int))]] []) else bif x0.toList == (ByteArray.mk #[(47 : UInt8)]).toList then bif x0.toList == (ByteArray.mk #[(47 : UInt8)]).toList then some (Res.mk [XV.mk false [X.c (X0.dat (Ty.int IntKind.i64) (6 : Int))]] []) else some (Res.mk [XV.mk false [X.c (X0.dat (Ty.int IntKind.i64) (0 : Int))]] []) else bif x0.toList == (ByteArray.mk #[(37 : UInt8)]).toList then some (Res.mk [XV.mk false [X.c (X0.dat (Ty.int IntKind.i64) (6 : Int))]] []) else some (Res.mk [XV.mk false [X.c (X0.dat (Ty.int IntKind.i64) (0 : Int))]] []) else bif x0.toList == (ByteArray.mk #[(45 : UInt8)]).toList then some (Res.mk [XV.mk false [X.c (X0.dat (Ty.int IntKind.i64) (5 : Int))]] []) else bif x0.toList == (ByteArray.mk #[(42 : UInt8)]).toList then bif x0.toList == (ByteArray.mk #[(42 : UInt8)]).toList then some (Res.mk [XV.mk false [X.c (X0.dat (Ty.int IntKind.i64) (6 : Int))]] []) else some (Res.mk [XV.mk false [X.c (X0.dat (Ty.int IntKind.i64) (0 : Int))]] []) else bif x0.toList == (ByteArray.mk #[(47 : UInt8)]).toList then bif x0.toList == (ByteArray.mk #[(47 : UInt8)]).toList then some (Res.mk [XV.mk false [X.c (X0.dat (Ty.int IntKind.i64) (6 : Int))]] []) else some (Res.mk [XV.mk false [X.c (X0.dat (Ty.int IntKind.i64) (0 : Int))]] []) else bif x0.toList == (ByteArray.mk #[(37 : UInt8)]).toList then some (Res.mk [XV.mk false [X.c (X0.dat (Ty.int IntKind.i64) (6 : Int))]] []) else some (Res.mk [XV.mk false [X.c (X0.dat (Ty.int IntKind.i64) (0 : Int))]] []) := by kernel_rfl
theorem f1023_form (x0 : ByteArray) : (bif x0.toList == (ByteArray.mk #[(111 : UInt8), (114 : UInt8)]).toList then some (Res.mk [XV.mk false [X.c (X0.dat (Ty.int IntKind.i64) (1 : Int))]] []) else bif x0.toList == (ByteArray.mk #[(97 : UInt8), (110 : UInt8), (100 : UInt8)]).toList then some (Res.mk [XV.mk false [X.c (X0.dat (Ty.int IntKind.i64) (2 : Int))]] []) else bif x0.toList == (ByteArray.mk #[(61 : UInt8)]).toList then bif x0.toList == (ByteArray.mk #[(61 : UInt8)]).toList then some (Res.mk [XV.mk false [X.c (X0.dat (Ty.int IntKind.i64) (4 : Int))]] []) else bif x0.toList == (ByteArray.mk #[(43 : UInt8)]).toList then bif x0.toList == (ByteArray.mk #[(43 : UInt8)]).toList then some (Res.mk [XV.mk false [X.c (X0.dat (Ty.int IntKind.i64) (5 : Int))]] []) else bif x0.toList == (ByteArray.mk #[(42 : UInt8)]).toList then bif x0.toList == (ByteArray.mk #[(42 : UInt8)]).toList then some (Res.mk [XV.mk false [X.c (X0.dat (Ty.int IntKind.i64) (6 : Int))]] []) else some (Res.mk [XV.mk false [X.c (X0.dat (Ty.int IntKind.i64) (0 : Int))]] []) else bif x0.toList == (ByteArray.mk #[(47 : UInt8)]).toList then bif x0.toList == (ByteArray.mk #[(47 : UInt8)]).toList then some (Res.mk [XV.mk false [X.c (X0.dat (Ty.int IntKind.i64) (6 : Int))]] []) else some (Res.mk [XV.mk false [X.c (X0.dat (Ty.int IntKind.i64) (0 : Int))]] []) else bif x0.toList == (ByteArray.mk #[(37 : UInt8)]).toList then some (Res.mk [XV.mk false [X.c (X0.dat (Ty.int IntKind.i64) (6 : Int))]] []) else some (Res.mk [XV.mk false [X.c (X0.dat (Ty.int IntKind.i64) (0 : Int))]] []) else bif x0.toList == (ByteArray.mk #[(45 : UInt8)]).toList then some (Res.mk [XV.mk false [X.c (X0.dat (Ty.int IntKind.i64) (5 : Int))]] []) else bif x0.toList == (ByteArray.mk #[(42 : UInt8)]).toList then bif x0.toList == (ByteArray.mk #[(42 : UInt8)]).toList then some (Res.mk [XV.mk false [X.c (X0.dat (Ty.int IntKind.i64) (6 : Int))]] []) else some (Res.mk [XV.mk false [X.c (X0.dat (Ty.int IntKind.i64) (0 : Int))]] []) else bif x0.toList == (ByteArray.mk #[(47 : UInt8)]).toList then bif x0.toList == (ByteArray.mk #[(47 : UInt8)]).toList then some (Res.mk [XV.mk false [X.c (X0.dat (Ty.int IntKind.i64) (6 : Int))]] []) else some (Res.mk [XV.mk false [X.c (X0.dat (Ty.int IntKind.i64) (0 : Int))]] []) else bif x0.toList == (ByteArray.mk #[(37 : UInt8)]).toList then some (Res.mk [XV.mk false [X.c (X0.dat (Ty.int IntKind.i64) (6 : Int))]] []) else some (Res.mk [XV.mk false [X.c (X0.dat (Ty.int IntKind.i64) (0 : Int))]] []) else bif x0.toList == (ByteArray.mk #[(60 : UInt8), (62 : UInt8)]).toList then bif x0.toList == (ByteArray.mk #[(60 : UInt8), (62 : UInt8)]).toList then some (Res.mk [XV.mk false [X.c (X0.dat (Ty.int IntKind.i64) (4 : Int))]] []) else bif x0.toList == (ByteArray.mk #[(43 : UInt8)]).toList then bif x0.toList == (ByteArray.mk #[(43 : UInt8)]).toList then some (Res.mk [XV.mk false [X.c (X0.dat (Ty.int IntKind.i64) (5 : Int))]] []) else bif x0.toList == (ByteArray.mk #[(42 : UInt8)]).toList then bif x0.toList == (ByteArray.mk #[(42 : UInt8)]).toList then some (Res.mk [XV.mk false [X.c (X0.dat (Ty.int IntKind.i64) (6 : Int))]] []) else some (Res.mk [XV.mk false [X.c (X0.dat (Ty.int IntKind.i64) (0 : Int))]] []) else bif x0.toList == (ByteArray.mk #[(47 : UInt8)]).toList then bif x0.toList == (ByteArray.mk #[(47 : UInt8)]).toList then some (Res.mk [XV.mk false [X.c (X0.dat (Ty.int IntKind.i64) (6 : Int))]] []) else some (Res.mk [XV.mk false [X.c (X0.dat (Ty.int IntKind.i64) (0 : Int))]] []) else bif x0.toList == (ByteArray.mk #[(37 : UInt8)]).toList then some (Res.mk [XV.mk false [X.c (X0.dat (Ty.int IntKind.i64) (6 : Int))]] []) else some (Res.mk [XV.mk false [X.c (X0.dat (Ty.int IntKind.i64) (0 : Int))]] []) else bif x0.toList == (ByteArray.mk #[(45 : UInt8)]).toList then some (Res.mk [XV.mk false [X.c (X0.dat (Ty.int IntKind.i64) (5 : Int))]] []) else bif x0.toList == (ByteArray.mk #[(42 : UInt8)]).toList then bif x0.toList == (ByteArray.mk #[(42 : UInt8)]).toList then some (Res.mk [XV.mk false [X.c (X0.dat (Ty.int IntKind.i64) (6 : Int))]] []) else some (Res.mk [XV.mk false [X.c (X0.dat (Ty.int IntKind.i64) (0 : Int))]] []) else bif x0.toList == (ByteArray.mk #[(47 : UInt8)]).toList then bif x0.toList == (ByteArray.mk #[(47 : UInt8)]).toList then some (Res.mk [XV.mk false [X.c (X0.dat (Ty.int IntKind.i64) (6 : Int))]] []) else some (Res.mk [XV.mk false [X.c (X0.dat (Ty.int IntKind.i64) (0 : Int))]] []) else bif x0.toList == (ByteArray.mk #[(37 : UInt8)]).toList then some (Res.mk [XV.mk false [X.c (X0.dat (Ty.int IntKind.i64) (6 : Int))]] []) else some (Res.mk [XV.mk false [X.c (X0.dat (Ty.int IntKind.i64) (0 : Int))]] []) else bif x0.toList == (ByteArray.mk #[(60 : UInt8)]).toList then bif x0.toList == (ByteArray.mk #[(60 : UInt8)]).toList then some (Res.mk [XV.mk false [X.c (X0.dat (Ty.int IntKind.i64) (4 : Int))]] []) else bif x0.toList == (ByteArray.mk #[(43 : UInt8)]).toList then bif x0.toList == (ByteArray.mk #[(43 : UInt8)]).toList then some (Res.mk [XV.mk false [X.c (X0.dat (Ty.int IntKind.i64) (5 : Int))]] []) else bif x0.toList == (ByteArray.mk #[(42 : UInt8)]).toList then bif x0.toList == (ByteArray.mk #[(42 : UInt8)]).toList then some (Res.mk [XV.mk false [X.c (X0.dat (Ty.int IntKind.i64) (6 : Int))]] []) else some (Res.mk [XV.mk false [X.c (X0.dat (Ty.int IntKind.i64) (0 : Int))]] []) else bif x0.toList == (ByteArray.mk #[(47 : UInt8)]).toList then bif x0.toList == (ByteArray.mk #[(47 : UInt8)]).toList then some (Res.mk [XV.mk false [X.c (X0.dat (Ty.int IntKind.i64) (6 : Int))]] []) else some (Res.mk [XV.mk false [X.c (X0.dat (Ty.int IntKind.i64) (0 : Int))]] []) else bif x0.toList == (ByteArray.mk #[(37 : UInt8)]).toList then some (Res.mk [XV.mk false [X.c (X0.dat (Ty.int IntKind.i64) (6 : Int))]] []) else some (Res.mk [XV.mk false [X.c (X0.dat (Ty.int IntKind.i64) (0 : Int))]] []) else bif x0.toList == (ByteArray.mk #[(45 : UInt8)]).toList then some (Res.mk [XV.mk false [X.c (X0.dat (Ty.int IntKind.i64) (5 : Int))]] []) else bif x0.toList == (ByteArray.mk #[(42 : UInt8)]).toList then bif x0.toList == (ByteArray.mk #[(42 : UInt8)]).toList then some (Res.mk [XV.mk false [X.c (X0.dat (Ty.int IntKind.i64) (6 : Int))]] []) else some (Res.mk [XV.mk false [X.c (X0.dat (Ty.int IntKind.i64) (0 : Int))]] []) else bif x0.toList == (ByteArray.mk #[(47 : UInt8)]).toList then bif x0.toList == (ByteArray.mk #[(47 : UInt8)]).toList then some (Res.mk [XV.mk false [X.c (X0.dat (Ty.int IntKind.i64) (6 : Int))]] []) else some (Res.mk [XV.mk false [X.c (X0.dat (Ty.int IntKind.i64) (0 : Int))]] []) else bif x0.toList == (ByteArray.mk #[(37 : UInt8)]).toList then some (Res.mk [XV.mk false [X.c (X0.dat (Ty.int IntKind.i64) (6 : Int))]] []) else some (Res.mk [XV.mk false [X.c (X0.dat (Ty.int IntKind.i64) (0 : Int))]] []) else bif x0.toList == (ByteArray.mk #[(60 : UInt8), (61 : UInt8)]).toList then bif x0.toList == (ByteArray.mk #[(60 : UInt8), (61 : UInt8)]).toList then some (Res.mk [XV.mk false [X.c (X0.dat (Ty.int IntKind.i64) (4 : Int))]] []) else bif x0.toList == (ByteArray.mk #[(43 : UInt8)]).toList then bif x0.toList == (ByteArray.mk #[(43 : UInt8)]).toList then some (Res.mk [XV.mk false [X.c (X0.dat (Ty.int IntKind.i64) (5 : Int))]] []) else bif x0.toList == (ByteArray.mk #[(42 : UInt8)]).toList then bif x0.toList == (ByteArray.mk #[(42 : UInt8)]).toList then some (Res.mk [XV.mk false [X.c (X0.dat (Ty.int IntKind.i64) (6 : Int))]] []) else some (Res.mk [XV.mk false [X.c (X0.dat (Ty.int IntKind.i64) (0 : Int))]] []) else bif x0.toList == (ByteArray.mk #[(47 : UInt8)]).toList then bif x0.toList == (ByteArray.mk #[(47 : UInt8)]).toList then some (Res.mk [XV.mk false [X.c (X0.dat (Ty.int IntKind.i64) (6 : Int))]] []) else some (Res.mk [XV.mk false [X.c (X0.dat (Ty.int IntKind.i64) (0 : Int))]] []) else bif x0.toList == (ByteArray.mk #[(37 : UInt8)]).toList then some (Res.mk [XV.mk false [X.c (X0.dat (Ty.int IntKind.i64) (6 : Int))]] []) else some (Res.mk [XV.mk false [X.c (X0.dat (Ty.int IntKind.i64) (0 : Int))]] []) else bif x0.toList == (ByteArray.mk #[(45 : UInt8)]).toList then some (Res.mk [XV.mk false [X.c (X0.dat (Ty.int IntKind.i64) (5 : Int))]] []) else bif x0.toList == (ByteArray.mk #[(42 : UInt8)]).toList then bif x0.toList == (ByteArray.mk #[(42 : UInt8)]).toList then some (Res.mk [XV.mk false [X.c (X0.dat (Ty.int IntKind.i64) (6 : Int))]] []) else some (Res.mk [XV.mk false [X.c (X0.dat (Ty.int IntKind.i64) (0 : Int))]] []) else bif x0.toList == (ByteArray.mk #[(47 : UInt8)]).toList then bif x0.toList == (ByteArray.mk #[(47 : UInt8)]).toList then some (Res.mk [XV.mk false [X.c (X0.dat (Ty.int IntKind.i64) (6 : Int))]] []) else some (Res.mk [XV.mk false [X.c (X0.dat (Ty.int IntKind.i64) (0 : Int))]] []) else bif x0.toList == (ByteArray.mk #[(37 : UInt8)]).toList then some (Res.mk [XV.mk false [X.c (X0.dat (Ty.int IntKind.i64) (6 : Int))]] []) else some (Res.mk [XV.mk false [X.c (X0.dat (Ty.int IntKind.i64) (0 : Int))]] []) else bif x0.toList == (ByteArray.mk #[(62 : UInt8)]).toList then bif x0.toList == (ByteArray.mk #[(62 : UInt8)]).toList then some (Res.mk [XV.mk false [X.c (X0.dat (Ty.int IntKind.i64) (4 : Int))]] []) else bif x0.toList == (ByteArray.mk #[(43 : UInt8)]).toList then bif x0.toList == (ByteArray.mk #[(43 : UInt8)]).toList then some (Res.mk [XV.mk false [X.c (X0.dat (Ty.int IntKind.i64) (5 : Int))]] []) else bif x0.toList == (ByteArray.mk #[(42 : UInt8)]).toList then bif x0.toList == (ByteArray.mk #[(42 : UInt8)]).toList then some (Res.mk [XV.mk false [X.c (X0.dat (Ty.int IntKind.i64) (6 : Int))]] []) else some (Res.mk [XV.mk false [X.c (X0.dat (Ty.int IntKind.i64) (0 : Int))]] []) else bif x0.toList == (ByteArray.mk #[(47 : UInt8)]).toList then bif x0.toList == (ByteArray.mk #[(47 : UInt8)]).toList then some (Res.mk [XV.mk false [X.c (X0.dat (Ty.int IntKind.i64) (6 : Int))]] []) else some (Res.mk [XV.mk false [X.c (X0.dat (Ty.int IntKind.i64) (0 : Int))]] []) else bif x0.toList == (ByteArray.mk #[(37 : UInt8)]).toList then some (Res.mk [XV.mk false [X.c (X0.dat (Ty.int IntKind.i64) (6 : Int))]] []) else some (Res.mk [XV.mk false [X.c (X0.dat (Ty.int IntKind.i64) (0 : Int))]] []) else bif x0.toList == (ByteArray.mk #[(45 : UInt8)]).toList then some (Res.mk [XV.mk false [X.c (X0.dat (Ty.int IntKind.i64) (5 : Int))]] []) else bif x0.toList == (ByteArray.mk #[(42 : UInt8)]).toList then bif x0.toList == (ByteArray.mk #[(42 : UInt8)]).toList then some (Res.mk [XV.mk false [X.c (X0.dat (Ty.int IntKind.i64) (6 : Int))]] []) else some (Res.mk [XV.mk false [X.c (X0.dat (Ty.int IntKind.i64) (0 : Int))]] []) else bif x0.toList == (ByteArray.mk #[(47 : UInt8)]).toList then bif x0.toList == (ByteArray.mk #[(47 : UInt8)]).toList then some (Res.mk [XV.mk false [X.c (X0.dat (Ty.int IntKind.i64) (6 : Int))]] []) else some (Res.mk [XV.mk false [X.c (X0.dat (Ty.int IntKind.i64) (0 : Int))]] []) else bif x0.toList == (ByteArray.mk #[(37 : UInt8)]).toList then some (Res.mk [XV.mk false [X.c (X0.dat (Ty.int IntKind.i64) (6 : Int))]] []) else some (Res.mk [XV.mk false [X.c (X0.dat (Ty.int IntKind.i64) (0 : Int))]] []) else bif x0.toList == (ByteArray.mk #[(62 : UInt8), (61 : UInt8)]).toList then some (Res.mk [XV.mk false [X.c (X0.dat (Ty.int IntKind.i64) (4 : Int))]] []) else bif x0.toList == (ByteArray.mk #[(43 : UInt8)]).toList then bif x0.toList == (ByteArray.mk #[(43 : UInt8)]).toList then some (Res.mk [XV.mk false [X.c (X0.dat (Ty.int IntKind.i64) (5 : Int))]] []) else bif x0.toList == (ByteArray.mk #[(42 : UInt8)]).toList then bif x0.toList == (ByteArray.mk #[(42 : UInt8)]).toList then some (Res.mk [XV.mk false [X.c (X0.dat (Ty.int IntKind.i64) (6 : Int))]] []) else some (Res.mk [XV.mk false [X.c (X0.dat (Ty.int IntKind.i64) (0 : Int))]] []) else bif x0.toList == (ByteArray.mk #[(47 : UInt8)]).toList then bif x0.toList == (ByteArray.mk #[(47 : UInt8)]).toList then some (Res.mk [XV.mk false [X.c (X0.dat (Ty.int IntKind.i64) (6 : Int))]] []) else some (Res.mk [XV.mk false [X.c (X0.dat (Ty.int IntKind.i64) (0 : Int))]] []) else bif x0.toList == (ByteArray.mk #[(37 : UInt8)]).toList then some (Res.mk [XV.mk false [X.c (X0.dat (Ty.int IntKind.i64) (6 : Int))]] []) else some (Res.mk [XV.mk false [X.c (X0.dat (Ty.int IntKind.i64) (0 : Int))]] []) else bif x0.toList == (ByteArray.mk #[(45 : UInt8)]).toList then some (Res.mk [XV.mk false [X.c (X0.dat (Ty.int IntKind.i64) (5 : Int))]] []) else bif x0.toList == (ByteArray.mk #[(42 : UInt8)]).toList then bif x0.toList == (ByteArray.mk #[(42 : UInt8)]).toList then some (Res.mk [XV.mk false [X.c (X0.dat (Ty.int IntKind.i64) (6 : Int))]] []) else some (Res.mk [XV.mk false [X.c (X0.dat (Ty.int IntKind.i64) (0 : Int))]] []) else bif x0.toList == (ByteArray.mk #[(47 : UInt8)]).toList then bif x0.toList == (ByteArray.mk #[(47 : UInt8)]).toList then some (Res.mk [XV.mk false [X.c (X0.dat (Ty.int IntKind.i64) (6 : Int))]] []) else some (Res.mk [XV.mk false [X.c (X0.dat (Ty.int IntKind.i64) (0 : Int))]] []) else bif x0.toList == (ByteArray.mk #[(37 : UInt8)]).toList then some (Res.mk [XV.mk false [X.c (X0.dat (Ty.int IntKind.i64) (6 : Int))]] []) else some (Res.mk [XV.mk false [X.c (X0.dat (Ty.int IntKind.i64) (0 : Int))]] [])) = some (f1023_g (Sp.f1023 x0)) := by
  unfold Sp.f1023
  exact (cond_plain f1023_g (rfl) ((cond_plain f1023_g (rfl) ((cond_plain f1023_g ((cond_plain f1023_g (rfl) ((cond_plain f1023_g ((cond_plain f1023_g (rfl) ((cond_plain f1023_g ((cond_plain f1023_g (rfl) (rfl))) ((cond_plain f1023_g ((cond_plain f1023_g (rfl) (rfl))) ((cond_plain f1023_g (rfl) (rfl))))))))) ((cond_plain f1023_g (rfl) ((cond_plain f1023_g ((cond_plain f1023_g (rfl) (rfl))) ((cond_plain f1023_g ((cond_plain f1023_g (rfl) (rfl))) ((cond_plain f1023_g (rfl) (rfl))))))))))))) ((cond_plain f1023_g ((cond_plain f1023_g (rfl) ((cond_plain f1023_g ((cond_plain f1023_g (rfl) ((cond_plain f1023_g ((cond_plain f1023_g (rfl) (rfl))) ((cond_plain f1023_g ((cond_plain f1023_g (rfl) (rfl))) ((cond_plain f1023_g (rfl) (rfl))))))))) ((cond_plain f1023_g (rfl) ((cond_plain f1023_g ((cond_plain f1023_g (rfl) (rfl))) ((cond_plain f1023_g ((cond_plain f1023_g (rfl) (rfl))) ((cond_plain f1023_g (rfl) (rfl))))))))))))) ((cond_plain f1023_g ((cond_plain f1023_g (rfl) ((cond_plain f1023_g ((cond_plain f1023_g (rfl) ((cond_plain f1023_g ((cond_plain f1023_g (rfl) (rfl))) ((cond_plain f1023_g ((cond_plain f1023_g (rfl) (rfl))) ((cond_plain f1023_g (rfl) (rfl))))))))) ((cond_plain f1023_g (rfl) ((cond_plain f1023_g ((cond_plain f1023_g (rfl) (rfl))) ((cond_plain f1023_g ((cond_plain f1023_g (rfl) (rfl))) ((cond_plain f1023_g (rfl) (rfl))))))))))))) ((cond_plain f1023_g ((cond_plain f1023_g (rfl) ((cond_plain f1023_g ((cond_plain f1023_g (rfl) ((cond_plain f1023_g ((cond_plain f1023_g (rfl) (rfl))) ((cond_plain f1023_g ((cond_plain f1023_g (rfl) (rfl))) ((cond_plain f1023_g (rfl) (rfl))))))))) ((cond_plain f1023_g (rfl) ((cond_plain f1023_g ((cond_plain f1023_g (rfl) (rfl))) ((cond_plain f1023_g ((cond_plain f1023_g (rfl) (rfl))) ((cond_plain f1023_g (rfl) (rfl))))))))))))) ((cond_plain f1023_g ((cond_plain f1023_g (rfl) ((cond_plain f1023_g ((cond_plain f1023_g (rfl) ((cond_plain f1023_g ((cond_plain f1023_g (rfl) (rfl))) ((cond_plain f1023_g ((cond_plain f1023_g (rfl) (rfl))) ((cond_plain f1023_g (rfl) (rfl))))))))) ((cond_plain f1023_g (rfl) ((cond_plain f1023_g ((cond_plain f1023_g (rfl) (rfl))) ((cond_plain f1023_g ((cond_plain f1023_g (rfl) (rfl))) ((cond_plain f1023_g (rfl) (rfl))))))))))))) ((cond_plain f1023_g (rfl) ((cond_plain f1023_g ((cond_plain f1023_g (rfl) ((cond_plain f1023_g ((cond_plain f1023_g (rfl) (rfl))) ((cond_plain f1023_g ((cond_plain f1023_g (rfl) (rfl))) ((cond_plain f1023_g (rfl) (rfl))))))))) ((cond_plain f1023_g (rfl) ((cond_plain f1023_g ((cond_plain f1023_g (rfl) (rfl))) ((cond_plain f1023_g ((cond_plain f1023_g (rfl) (rfl))) ((cond_plain f1023_g (rfl) (rfl))))))))))))))))))))))))))
theorem e1023_ok : Valid PP Γ e1023 := valid_auto ok vnil fun a => (f1023_raw a).trans (f1023_form a)

end Go.Proofs.GR.T

namespace Go.Proofs.GR.T
open Go Go.Proofs Go.Proofs.GR
def Sp.anyW {α : Type} (p : α → Bool) : List α → Bool
  | [] => false
  | x :: r => bif p x then true else Sp.anyW p r
theorem idx_any {α : Type} (p : α → Bool) : ∀ (xs : List α) (k : Int), 0 ≤ k → decide (Sp.idx p xs k ≥ 0) = Sp.anyW p xs
  | [], k, _ => rfl
  | x :: r, k, h => by
    rw [Sp.idx, Sp.anyW]
    cases p x with
    | true => exact decide_eq_true h
    | false => exact idx_any p r (k + 1) (by omega)
theorem anyW_all {α : Type} (p : α → Bool) : ∀ xs : List α, Sp.anyW p xs = !Sp.allW (fun x => !p x) xs
  | [] => rfl
  | x :: r => by rw [Sp.anyW, Sp.allW, anyW_all p r]; cases p x <;> rfl
theorem anyW_congr {α : Type} {p q : α → Bool} : ∀ {xs : List α}, (∀ x ∈ xs, p x = q x) → Sp.anyW p xs = Sp.anyW q xs
  | [], _ => rfl
  | x :: r, h => by rw [Sp.anyW, Sp.anyW, h x (List.mem_cons_self), anyW_congr fun y hy => h y (List.mem_cons_of_mem _ hy)]
theorem reserved_eq : Sp.f1037.1 = Sp.f209.1 := by kernel_rfl
end Go.Proofs.GR.T

set_option maxRecDepth 100000
set_option maxHeartbeats 100000000
namespace Go.Proofs.GR.T
open Go Go.Proofs Go.Proofs.GR
def Sp.predL (l : Int) : Int := IntKind.i64.wrap (l - 1)
mutual
def Sp.deepT : RT → Int → Bool
  | .mk _ ks, l => bif l == 0 then true else Sp.deepTs ks l
def Sp.deepTs : List RT → Int → Bool
  | [], _ => false
  | r :: k, l => bif Sp.deepT r (Sp.predL l) then true else Sp.deepTs k l
end
def Sp.idxD (xs : List RT) (l : Int) : Int := Sp.idx (fun r => Sp.deepT r (Sp.predL l)) xs 0
abbrev fD : C0 := C0.fn n1034 [.int .i64]
noncomputable def e1024 : Ent := { f := n1024, ins := [Sh.agg aT, Sh.one cI], outs := [Sh.one cB], upd := [], pre := fun a => true, spec := fun a => Sp.deepT (Sp.mkT a.1) a.2, wrt := fun _ => () }
noncomputable def e1034 : Ent := { f := n1034, ins := [Sh.agg aT, Sh.one (C0.rptr (.int .i64))], outs := [Sh.one cB], upd := [], pre := fun a => true, spec := fun a => Sp.deepT (Sp.mkT a.1) (Sp.predL a.2), wrt := fun _ => () }
noncomputable def e1026d : Ent := { f := n1026, ins := [Sh.one (cL tT), Sh.one fD], outs := [Sh.one cB], upd := [], pre := fun a => true, spec := fun a => Sp.deepTs a.1 a.2, wrt := fun _ => () }
noncomputable def e1035d : Ent := { f := n1035, ins := [Sh.one (cL tT), Sh.one fD], outs := [Sh.one cI], upd := [], pre := fun a => true, spec := fun a => Sp.idxD a.1 a.2, wrt := fun _ => () }
def Sp.m4 (k : Nat) (l : List RT) : Nat := 4 * Sp.rszs l + k
def Sp.m1 (k : Nat) (l : List RT) : Nat := 4 * Sp.rsz1 l + k
noncomputable def e1024n (N : Nat) : Ent := e1024.below (fun a => Sp.m1 0 a.1.2.2.2.2.2.2.2) N
noncomputable def e1034n (N : Nat) : Ent := e1034.below (fun a => Sp.m1 1 a.1.2.2.2.2.2.2.2) N
noncomputable def e1026dn (N : Nat) : Ent := e1026d.below (fun a => Sp.m4 2 a.1) N
noncomputable def e1035dn (N : Nat) : Ent := e1035d.below (fun a => Sp.m4 1 a.1) N
theorem f1024_raw (N : Nat) (x0 : Int) (x1 : Int) (x2 : ByteArray) (x3 : ByteArray) (x4 : Int) (x5 : Int) (x6 : ByteArray) (x7 : List (Rose (Int × Int × ByteArray × ByteArray × Int × Int × ByteArray))) (x8 : Int) : abody Γ (orc [e1024n N, e1034n N, e1026dn N, e1035dn N]) 0 33 [XV.mk true [X.c (X0.dat (Ty.int IntKind.i64) x0), X.c (X0.dat (Ty.int IntKind.i64) x1), X.c (X0.dat Ty.str x2), X.c (X0.dat Ty.str x3), X.c (X0.dat (Ty.int IntKind.i64) x4), X.c (X0.dat (Ty.int IntKind.i64) x5), X.c (X0.dat Ty.str x6), X.c (X0.dat ((Ty.int IntKind.i64).pair ((Ty.int IntKind.i64).pair (Ty.str.pair (Ty.str.pair ((Ty.int IntKind.i64).pair ((Ty.int IntKind.i64).pair Ty.str)))))).rose.slice x7)], XV.mk false [X.c (X0.dat (Ty.int IntKind.i64) x8)]] = bif x8 == (0 : Int) then some (Res.mk [XV.mk false [X.c (X0.dat Ty.bool true)]] []) else chk ((Sp.m4 (2 : Nat) x7).blt N) (some (Res.mk [XV.mk false [X.c (X0.dat Ty.bool (Sp.deepTs x7 x8))]] [])) := by kernel_rfl

theorem f1034_raw (N : Nat) (x0 : Int) (x1 : Int) (x2 : ByteArray) (x3 : ByteArray) (x4 : Int) (x5 : Int) (x6 : ByteArray) (x7 : List (Rose (Int × Int × ByteArray × ByteArray × Int × Int × ByteArray))) (x8 : Int) : abody Γ (orc [e1024n N, e1034n N, e1026dn N, e1035dn N]) 0 47 [XV.mk true [X.c (X0.dat (Ty.int IntKind.i64) x0), X.c (X0.dat (Ty.int IntKind.i64) x1), X.c (X0.dat Ty.str x2), X.c (X0.dat Ty.str x3), X.c (X0.dat (Ty.int IntKind.i64) x4), X.c (X0.dat (Ty.int IntKind.i64) x5), X.c (X0.dat Ty.str x6), X.c (X0.dat ((Ty.int IntKind.i64).pair ((Ty.int IntKind.i64).pair (Ty.str.pair (Ty.str.pair ((Ty.int IntKind.i64).pair ((Ty.int IntKind.i64).pair Ty.str)))))).rose.slice x7)], XV.mk false [X.c (X0.rptr (Ty.int IntKind.i64) x8)]] = chk ((Sp.m1 (0 : Nat) x7).blt N) (some (Res.mk [XV.mk false [X.c (X0.dat Ty.bool (Sp.deepT (Sp.mkT (x0, x1, x2, x3, x4, x5, x6, x7)) (IntKind.i64.wrap (x8 - (1 : Int)))))]] [])) := by kernel_rfl

theorem f1026d_raw (N : Nat) (x0 : List (Rose (Int × Int × ByteArray × ByteArray × Int × Int × ByteArray))) (x1 : Int) : abody Γ (orc [e1024n N, e1034n N, e1026dn N, e1035dn N]) 0 35 [XV.mk false [X.c (X0.dat ((Ty.int IntKind.i64).pair ((Ty.int IntKind.i64).pair (Ty.str.pair (Ty.str.pair ((Ty.int IntKind.i64).pair ((Ty.int IntKind.i64).pair Ty.str)))))).rose.slice x0)], XV.mk false [X.c (X0.fn (47 : Nat) [Sigma.mk (Ty.int IntKind.i64) x1])]] = chk ((Sp.m4 (1 : Nat) x0).blt N) (some (Res.mk [XV.mk false [X.c (X0.dat Ty.bool (decide (Sp.idxD x0 x1 ≥ (0 : Int))))]] [])) := by kernel_rfl

noncomputable def f1035d_L0 (n N m0 : Nat) (y0 : List (Rose (Int × Int × ByteArray × ByteArray × Int × Int × ByteArray))) (y1 : Int) (y2 : Int) (y3 : Int) : Option Res := loopAt Γ (orc [e1024n N, e1034n N, e1026dn N, e1035dn N]) n (48 : Nat) (0 : Nat) [] [Pth.r, Pth.l, Pth.r, Pth.b] m0 (St.mk [Slot.val (Val.one (Cell.dat ((Ty.int IntKind.i64).pair ((Ty.int IntKind.i64).pair (Ty.str.pair (Ty.str.pair ((Ty.int IntKind.i64).pair ((Ty.int IntKind.i64).pair Ty.str)))))).rose.slice y0)), Slot.val (Val.one (Cell.fn (47 : Nat) [Sigma.mk (Ty.int IntKind.i64) y1])), Slot.nix, Slot.nix, Slot.nix, Slot.nix, Slot.nix, Slot.val (Val.one (Cell.dat (Ty.int IntKind.i64) y2)), Slot.val (Val.one (Cell.dat (Ty.int IntKind.i64) y3)), Slot.nix, Slot.nix, Slot.nix, Slot.nix, Slot.nix, Slot.nix, Slot.nix, Slot.nix, Slot.nix, Slot.nix] [])
theorem f1035d_L0_step (n N m0 : Nat) (y0 : List (Rose (Int × Int × ByteArray × ByteArray × Int × Int × ByteArray))) (y1 : Int) (y2 : Int) (y3 : Int) : f1035d_L0 n N (m0 + 1) y0 y1 y2 y3 = bif decide (y3 < y2) then chk (decide ((0 : Int) ≤ y3) && decide (y3 < (↑y0.length : Int))) (chk ((Sp.m1 (1 : Nat) (y0.getD y3.toNat (Rose.mk ((0 : Int), (0 : Int), ByteArray.mk #[], ByteArray.mk #[], (0 : Int), (0 : Int), ByteArray.mk #[]) [])).kids).blt N) (bif Sp.deepT (Sp.mkT ((y0.getD y3.toNat (Rose.mk ((0 : Int), (0 : Int), ByteArray.mk #[], ByteArray.mk #[], (0 : Int), (0 : Int), ByteArray.mk #[]) [])).a.1, (y0.getD y3.toNat (Rose.mk ((0 : Int), (0 : Int), ByteArray.mk #[], ByteArray.mk #[], (0 : Int), (0 : Int), ByteArray.mk #[]) [])).a.2.1, (y0.getD y3.toNat (Rose.mk ((0 : Int), (0 : Int), ByteArray.mk #[], ByteArray.mk #[], (0 : Int), (0 : Int), ByteArray.mk #[]) [])).a.2.2.1, (y0.getD y3.toNat (Rose.mk ((0 : Int), (0 : Int), ByteArray.mk #[], ByteArray.mk #[], (0 : Int), (0 : Int), ByteArray.mk #[]) [])).a.2.2.2.1, (y0.getD y3.toNat (Rose.mk ((0 : Int), (0 : Int), ByteArray.mk #[], ByteArray.mk #[], (0 : Int), (0 : Int), ByteArray.mk #[]) [])).a.2.2.2.2.1, (y0.getD y3.toNat (Rose.mk ((0 : Int), (0 : Int), ByteArray.mk #[], ByteArray.mk #[], (0 : Int), (0 : Int), ByteArray.mk #[]) [])).a.2.2.2.2.2.1, (y0.getD y3.toNat (Rose.mk ((0 : Int), (0 : Int), ByteArray.mk #[], ByteArray.mk #[], (0 : Int), (0 : Int), ByteArray.mk #[]) [])).a.2.2.2.2.2.2, (y0.getD y3.toNat (Rose.mk ((0 : Int), (0 : Int), ByteArray.mk #[], ByteArray.mk #[], (0 : Int), (0 : Int), ByteArray.mk #[]) [])).kids)) (Sp.predL y1) then some (Res.mk [XV.mk false [X.c (X0.dat (Ty.int IntKind.i64) y3)]] []) else f1035d_L0 n N m0 y0 y1 y2 (IntKind.i64.wrap (y3 + (1 : Int))))) else some (Res.mk [XV.mk false [X.c (X0.dat (Ty.int IntKind.i64) (-1 : Int))]] []) := by kernel_rfl
theorem f1035d_raw (n N : Nat) (x0 : List (Rose (Int × Int × ByteArray × ByteArray × Int × Int × ByteArray))) (x1 : Int) : abody Γ (orc [e1024n N, e1034n N, e1026dn N, e1035dn N]) n 48 [XV.mk false [X.c (X0.dat ((Ty.int IntKind.i64).pair ((Ty.int IntKind.i64).pair (Ty.str.pair (Ty.str.pair ((Ty.int IntKind.i64).pair ((Ty.int IntKind.i64).pair Ty.str)))))).rose.slice x0)], XV.mk false [X.c (X0.fn (47 : Nat) [Sigma.mk (Ty.int IntKind.i64) x1])]] = f1035d_L0 n N n x0 x1 (↑x0.length : Int) (0 : Int) := by kernel_rfl

theorem deepTs_any (l : Int) : ∀ ks : List RT, Sp.anyW (fun r => Sp.deepT r (Sp.predL l)) ks = Sp.deepTs ks l
  | [] => by rw [Sp.deepTs]; rfl
  | r :: k => by rw [Sp.deepTs, Sp.anyW, deepTs_any l k]
noncomputable abbrev recDp : List REnt := [⟨e1024, fun a => Sp.m1 0 a.1.2.2.2.2.2.2.2⟩, ⟨e1034, fun a => Sp.m1 1 a.1.2.2.2.2.2.2.2⟩, ⟨e1026d, fun a => Sp.m4 2 a.1⟩, ⟨e1035d, fun a => Sp.m4 1 a.1⟩]
theorem e1024_core (x0 x1 : Int) (x2 x3 : ByteArray) (x4 x5 : Int) (x6 : ByteArray) (x7 : List RT) (x8 : Int) : abody Γ (orc (belows (Sp.m1 0 x7) recDp ++ [])) 0 n1024 (e1024.args ((x0, x1, x2, x3, x4, x5, x6, x7), x8)) = some (e1024.res ((x0, x1, x2, x3, x4, x5, x6, x7), x8)) := by
  refine (f1024_raw _ x0 x1 x2 x3 x4 x5 x6 x7 x8).trans ?_
  have e : Sp.deepT (Rose.mk (x0, x1, x2, x3, (x4, x5, x6)) x7) x8 = bif x8 == 0 then true else Sp.deepTs x7 x8 := by rw [Sp.deepT]
  refine Eq.trans ?_ (congrArg (fun z => some (rBo z)) e.symm)
  rw [condB, blt_mk (show Sp.m4 2 x7 < Sp.m1 0 x7 by unfold Sp.m4 Sp.m1 Sp.rsz1; omega), chkT]
theorem e1034_core (x0 x1 : Int) (x2 x3 : ByteArray) (x4 x5 : Int) (x6 : ByteArray) (x7 : List RT) (x8 : Int) : abody Γ (orc (belows (Sp.m1 1 x7) recDp ++ [])) 0 n1034 (e1034.args ((x0, x1, x2, x3, x4, x5, x6, x7), x8)) = some (e1034.res ((x0, x1, x2, x3, x4, x5, x6, x7), x8)) := by
  refine (f1034_raw _ x0 x1 x2 x3 x4 x5 x6 x7 x8).trans ?_
  rw [blt_mk (show Sp.m1 0 x7 < Sp.m1 1 x7 by unfold Sp.m1; omega), chkT]
  rfl
theorem e1026d_core (xs : List RT) (l : Int) : abody Γ (orc (belows (Sp.m4 2 xs) recDp ++ [])) 0 n1026 (e1026d.args (xs, l)) = some (e1026d.res (xs, l)) := by
  refine (f1026d_raw _ xs l).trans ?_
  rw [blt_mk (show Sp.m4 1 xs < Sp.m4 2 xs by unfold Sp.m4; omega), chkT]
  have e : decide (Sp.idxD xs l ≥ 0) = Sp.deepTs xs l := by
    rw [← deepTs_any]
    exact idx_any _ xs 0 (Int.le_refl 0)
  exact congrArg (fun z => some (rBo z)) e
theorem e1035d_core (xs : List RT) (l : Int) (hl : xs.length ≤ maxLen) : ∃ n, abody Γ (orc (belows (Sp.m4 1 xs) recDp ++ [])) n n1035 (e1035d.args (xs, l)) = some (e1035d.res (xs, l)) := by
  have hl : xs.length ≤ 9223372036854775807 := hl
  refine ⟨xs.length + 1, (f1035d_raw _ _ xs l).trans ?_⟩
  refine idx_loop (p := fun r => Sp.deepT r (Sp.predL l)) (R := rI) xs (fun m k => f1035d_L0 (xs.length + 1) (Sp.m4 1 xs) m xs l xs.length k) (fun m k hk => ?_) (fun m k h => ?_) xs.length 0 _ (Nat.zero_add _) (Nat.lt_succ_self _)
  · show f1035d_L0 _ _ _ _ _ _ _ = _
    rw [f1035d_L0_step, nat_ge hk, cond_false]
  · show f1035d_L0 _ _ _ _ _ _ _ = _
    have hb := rsz1_mem (List.getElem_mem h)
    rw [f1035d_L0_step, nat_lt h, cond_true, guard0, chkT, getD_nat xs k _ h, next64 h hl, blt_mk (show Sp.m1 1 xs[k].kids < Sp.m4 1 xs by unfold Sp.m1 Sp.m4; omega), chkT]
    show (bif Sp.deepT (Sp.mkT (Sp.unT xs[k])) (Sp.predL l) then _ else _) = _
    rw [mkT_un]
theorem recDp_ok : ∀ r ∈ recDp, Valid PP Γ r.e :=
  valid_recs ok _ (rcons ⟨[], vnil, fun a _ _ => ⟨0, e1024_core a.1.1 a.1.2.1 a.1.2.2.1 a.1.2.2.2.1 a.1.2.2.2.2.1 a.1.2.2.2.2.2.1 a.1.2.2.2.2.2.2.1 a.1.2.2.2.2.2.2.2 a.2⟩⟩
    (rcons ⟨[], vnil, fun a _ _ => ⟨0, e1034_core a.1.1 a.1.2.1 a.1.2.2.1 a.1.2.2.2.1 a.1.2.2.2.2.1 a.1.2.2.2.2.2.1 a.1.2.2.2.2.2.2.1 a.1.2.2.2.2.2.2.2 a.2⟩⟩
    (rcons ⟨[], vnil, fun a _ _ => ⟨0, e1026d_core a.1 a.2⟩⟩ (rcons ⟨[], vnil, fun a _ hl => e1035d_core a.1 a.2 (hl _ (List.mem_cons_self) _ (List.mem_cons_self)).1⟩ rnil))))
theorem e1024_ok : Valid PP Γ e1024 := recDp_ok _ (List.mem_cons_self)
mutual
def Sp.cntT : RT → Nat
  | .mk _ ks => 1 + Sp.cntTs ks
def Sp.cntTs : List RT → Nat
  | [] => 0
  | r :: l => Sp.cntT r + Sp.cntTs l
end
def Sp.cnt32 (l : List RT) : Bool := Nat.ble (Sp.cntTs l) 1000000000000
noncomputable def e1025 : Ent := { f := n1025, ins := [Sh.agg aT], outs := [Sh.one cI], upd := [], pre := fun a => Sp.cnt32 a.2.2.2.2.2.2.2, spec := fun a => ((1 + Sp.cntTs a.2.2.2.2.2.2.2 : Nat) : Int), wrt := fun _ => () }
noncomputable def e1025n (N : Nat) : Ent := e1025.below (fun a => Sp.rsz1 a.2.2.2.2.2.2.2) N
noncomputable def f1025_L0 (n N m0 : Nat) (y0 : Int) (y1 : List (Rose (Int × Int × ByteArray × ByteArray × Int × Int × ByteArray))) (y2 : Int) (y3 : Int) : Option Res := loopAt Γ (orc [e1025n N]) n (34 : Nat) (0 : Nat) [] [Pth.r, Pth.r, Pth.l, Pth.r, Pth.b] m0 (St.mk [Slot.nix, Slot.nix, Slot.nix, Slot.val (Val.one (Cell.dat (Ty.int IntKind.i64) y0)), Slot.nix, Slot.nix, Slot.nix, Slot.val (Val.one (Cell.dat ((Ty.int IntKind.i64).pair ((Ty.int IntKind.i64).pair (Ty.str.pair (Ty.str.pair ((Ty.int IntKind.i64).pair ((Ty.int IntKind.i64).pair Ty.str)))))).rose.slice y1)), Slot.val (Val.one (Cell.dat (Ty.int IntKind.i64) y2)), Slot.val (Val.one (Cell.dat (Ty.int IntKind.i64) y3)), Slot.nix, Slot.nix, Slot.nix, Slot.nix, Slot.nix, Slot.nix, Slot.nix, Slot.nix, Slot.nix] [])
theorem f1025_L0_step (n N m0 : Nat) (y0 : Int) (y1 : List (Rose (Int × Int × ByteArray × ByteArray × Int × Int × ByteArray))) (y2 : Int) (y3 : Int) : f1025_L0 n N (m0 + 1) y0 y1 y2 y3 = bif decide (y3 < y2) then chk (decide ((0 : Int) ≤ y3) && decide (y3 < (↑y1.length : Int))) (chk (Sp.cnt32 (y1.getD y3.toNat (Rose.mk ((0 : Int), (0 : Int), ByteArray.mk #[], ByteArray.mk #[], (0 : Int), (0 : Int), ByteArray.mk #[]) [])).kids && (Sp.rsz1 (y1.getD y3.toNat (Rose.mk ((0 : Int), (0 : Int), ByteArray.mk #[], ByteArray.mk #[], (0 : Int), (0 : Int), ByteArray.mk #[]) [])).kids).blt N) (f1025_L0 n N m0 (IntKind.i64.wrap (y0 + (↑((1 : Nat) + Sp.cntTs (y1.getD y3.toNat (Rose.mk ((0 : Int), (0 : Int), ByteArray.mk #[], ByteArray.mk #[], (0 : Int), (0 : Int), ByteArray.mk #[]) [])).kids) : Int))) y1 y2 (IntKind.i64.wrap (y3 + (1 : Int))))) else some (Res.mk [XV.mk false [X.c (X0.dat (Ty.int IntKind.i64) y0)]] []) := by kernel_rfl
theorem f1025_raw (n N : Nat) (x0 : Int) (x1 : Int) (x2 : ByteArray) (x3 : ByteArray) (x4 : Int) (x5 : Int) (x6 : ByteArray) (x7 : List (Rose (Int × Int × ByteArray × ByteArray × Int × Int × ByteArray))) : abody Γ (orc [e1025n N]) n 34 [XV.mk true [X.c (X0.dat (Ty.int IntKind.i64) x0), X.c (X0.dat (Ty.int IntKind.i64) x1), X.c (X0.dat Ty.str x2), X.c (X0.dat Ty.str x3), X.c (X0.dat (Ty.int IntKind.i64) x4), X.c (X0.dat (Ty.int IntKind.i64) x5), X.c (X0.dat Ty.str x6), X.c (X0.dat ((Ty.int IntKind.i64).pair ((Ty.int IntKind.i64).pair (Ty.str.pair (Ty.str.pair ((Ty.int IntKind.i64).pair ((Ty.int IntKind.i64).pair Ty.str)))))).rose.slice x7)]] = f1025_L0 n N n (1 : Int) x7 (↑x7.length : Int) (0 : Int) := by kernel_rfl

def Sp.succL (l : Int) : Int := IntKind.i64.wrap (l + 1)
mutual
def Sp.leftT : RT → Int → Int → Int
  | .mk _ ks, l, d => bif decide (d > 20) then -1 else Sp.leftTs ks (Sp.predL l) d
def Sp.leftTs : List RT → Int → Int → Int
  | [], l, _ => l
  | r :: k, l, d => bif decide (l ≥ 0) then Sp.leftTs k (Sp.leftT r l (Sp.succL d)) d else l
end
noncomputable def e1018 : Ent := { f := n1018, ins := [Sh.agg aT, Sh.one cI, Sh.one cI], outs := [Sh.one cI], upd := [], pre := fun a => true, spec := fun a => Sp.leftT (Sp.mkT a.1) a.2.1 a.2.2, wrt := fun _ => () }
noncomputable def e1018n (N : Nat) : Ent := e1018.below (fun a => Sp.rsz1 a.1.2.2.2.2.2.2.2) N
noncomputable def f1018_L0 (n N m0 : Nat) (y0 : Int) (y1 : Int) (y2 : Int) (y3 : Int) (y4 : Int) (y5 : ByteArray) (y6 : ByteArray) (y7 : Int) (y8 : Int) (y9 : ByteArray) (y10 : List (Rose (Int × Int × ByteArray × ByteArray × Int × Int × ByteArray))) : Option Res := loopAt Γ (orc [e1018n N]) n (24 : Nat) (0 : Nat) [] [Pth.r, Pth.r, Pth.r, Pth.l, Pth.r, Pth.b] m0 (St.mk [Slot.nix, Slot.val (Val.one (Cell.dat (Ty.int IntKind.i64) y0)), Slot.val (Val.one (Cell.dat (Ty.int IntKind.i64) y1)), Slot.val (Val.one (Cell.ptr (0 : Nat) (0 : Nat))), Slot.nix, Slot.nix, Slot.nix, Slot.val (Val.one (Cell.dat (Ty.int IntKind.i64) y2)), Slot.nix, Slot.nix, Slot.nix, Slot.nix, Slot.nix, Slot.nix, Slot.nix, Slot.nix, Slot.nix, Slot.nix, Slot.nix, Slot.nix, Slot.nix, Slot.nix, Slot.nix, Slot.nix, Slot.nix, Slot.nix, Slot.nix, Slot.nix, Slot.nix, Slot.nix, Slot.nix, Slot.nix, Slot.nix] [AObj.box (33 : Nat) [Cell.dat (Ty.int IntKind.i64) y3, Cell.dat (Ty.int IntKind.i64) y4, Cell.dat Ty.str y5, Cell.dat Ty.str y6, Cell.dat (Ty.int IntKind.i64) y7, Cell.dat (Ty.int IntKind.i64) y8, Cell.dat Ty.str y9, Cell.dat ((Ty.int IntKind.i64).pair ((Ty.int IntKind.i64).pair (Ty.str.pair (Ty.str.pair ((Ty.int IntKind.i64).pair ((Ty.int IntKind.i64).pair Ty.str)))))).rose.slice y10]])
theorem f1018_L0_step (n N m0 : Nat) (y0 : Int) (y1 : Int) (y2 : Int) (y3 : Int) (y4 : Int) (y5 : ByteArray) (y6 : ByteArray) (y7 : Int) (y8 : Int) (y9 : ByteArray) (y10 : List (Rose (Int × Int × ByteArray × ByteArray × Int × Int × ByteArray))) : f1018_L0 n N (m0 + 1) y0 y1 y2 y3 y4 y5 y6 y7 y8 y9 y10 = bif decide (y2 < (↑y10.length : Int)) then bif decide (y0 ≥ (0 : Int)) then chk (decide ((0 : Int) ≤ y2) && decide (y2 < (↑y10.length : Int))) (chk ((Sp.rsz1 (y10.getD y2.toNat (Rose.mk ((0 : Int), (0 : Int), ByteArray.mk #[], ByteArray.mk #[], (0 : Int), (0 : Int), ByteArray.mk #[]) [])).kids).blt N) (f1018_L0 n N m0 (Sp.leftT (Sp.mkT ((y10.getD y2.toNat (Rose.mk ((0 : Int), (0 : Int), ByteArray.mk #[], ByteArray.mk #[], (0 : Int), (0 : Int), ByteArray.mk #[]) [])).a.1, (y10.getD y2.toNat (Rose.mk ((0 : Int), (0 : Int), ByteArray.mk #[], ByteArray.mk #[], (0 : Int), (0 : Int), ByteArray.mk #[]) [])).a.2.1, (y10.getD y2.toNat (Rose.mk ((0 : Int), (0 : Int), ByteArray.mk #[], ByteArray.mk #[], (0 : Int), (0 : Int), ByteArray.mk #[]) [])).a.2.2.1, (y10.getD y2.toNat (Rose.mk ((0 : Int), (0 : Int), ByteArray.mk #[], ByteArray.mk #[], (0 : Int), (0 : Int), ByteArray.mk #[]) [])).a.2.2.2.1, (y10.getD y2.toNat (Rose.mk ((0 : Int), (0 : Int), ByteArray.mk #[], ByteArray.mk #[], (0 : Int), (0 : Int), ByteArray.mk #[]) [])).a.2.2.2.2.1, (y10.getD y2.toNat (Rose.mk ((0 : Int), (0 : Int), ByteArray.mk #[], ByteArray.mk #[], (0 : Int), (0 : Int), ByteArray.mk #[]) [])).a.2.2.2.2.2.1, (y10.getD y2.toNat (Rose.mk ((0 : Int), (0 : Int), ByteArray.mk #[], ByteArray.mk #[], (0 : Int), (0 : Int), ByteArray.mk #[]) [])).a.2.2.2.2.2.2, (y10.getD y2.toNat (Rose.mk ((0 : Int), (0 : Int), ByteArray.mk #[], ByteArray.mk #[], (0 : Int), (0 : Int), ByteArray.mk #[]) [])).kids)) y0 (IntKind.i64.wrap (y1 + (1 : Int)))) y1 (IntKind.i64.wrap (y2 + (1 : Int))) y3 y4 y5 y6 y7 y8 y9 y10)) else some (Res.mk [XV.mk false [X.c (X0.dat (Ty.int IntKind.i64) y0)]] []) else some (Res.mk [XV.mk false [X.c (X0.dat (Ty.int IntKind.i64) y0)]] []) := by kernel_rfl
theorem f1018_raw (n N : Nat) (x0 : Int) (x1 : Int) (x2 : ByteArray) (x3 : ByteArray) (x4 : Int) (x5 : Int) (x6 : ByteArray) (x7 : List (Rose (Int × Int × ByteArray × ByteArray × Int × Int × ByteArray))) (x8 : Int) (x9 : Int) : abody Γ (orc [e1018n N]) n 24 [XV.mk true [X.c (X0.dat (Ty.int IntKind.i64) x0), X.c (X0.dat (Ty.int IntKind.i64) x1), X.c (X0.dat Ty.str x2), X.c (X0.dat Ty.str x3), X.c (X0.dat (Ty.int IntKind.i64) x4), X.c (X0.dat (Ty.int IntKind.i64) x5), X.c (X0.dat Ty.str x6), X.c (X0.dat ((Ty.int IntKind.i64).pair ((Ty.int IntKind.i64).pair (Ty.str.pair (Ty.str.pair ((Ty.int IntKind.i64).pair ((Ty.int IntKind.i64).pair Ty.str)))))).rose.slice x7)], XV.mk false [X.c (X0.dat (Ty.int IntKind.i64) x8)], XV.mk false [X.c (X0.dat (Ty.int IntKind.i64) x9)]] = bif decide (x9 > (20 : Int)) then some (Res.mk [XV.mk false [X.c (X0.dat (Ty.int IntKind.i64) (-1 : Int))]] []) else f1018_L0 n N n (IntKind.i64.wrap (x8 - (1 : Int))) x9 (0 : Int) x0 x1 x2 x3 x4 x5 x6 x7 := by kernel_rfl

noncomputable def e1022 : Ent := { f := n1022, ins := [Sh.agg aT], outs := [Sh.agg oT], upd := [], pre := fun a => Sp.fitTs a.2.2.2.2.2.2.2, spec := fun a => a, wrt := fun _ => () }
noncomputable def e1022n (N : Nat) : Ent := e1022.below (fun a => Sp.rsz1 a.2.2.2.2.2.2.2) N
noncomputable def f1022_L0 (n N m0 : Nat) (y0 : List (Rose (Int × Int × ByteArray × ByteArray × Int × Int × ByteArray))) (y1 : Int) (y2 : Int) (y3 : Int) (y4 : Int) (y5 : ByteArray) (y6 : ByteArray) (y7 : Int) (y8 : Int) (y9 : ByteArray) (y10 : List (Rose (Int × Int × ByteArray × ByteArray × Int × Int × ByteArray))) (y11 : Int) (y12 : Int) (y13 : ByteArray) (y14 : ByteArray) (y15 : Int) (y16 : Int) (y17 : ByteArray) (y18 : List (Rose (Int × Int × ByteArray × ByteArray × Int × Int × ByteArray))) : Option Res := loopAt Γ (orc [e1022n N]) n (28 : Nat) (0 : Nat) [] [Pth.r, Pth.r, Pth.l, Pth.r, Pth.b] m0 (St.mk [Slot.nix, Slot.val (Val.one (Cell.ptr (0 : Nat) (0 : Nat))), Slot.val (Val.one (Cell.ptr (1 : Nat) (0 : Nat))), Slot.val (Val.one (Cell.own (2 : Nat))), Slot.nix, Slot.nix, Slot.nix, Slot.nix, Slot.val (Val.one (Cell.dat ((Ty.int IntKind.i64).pair ((Ty.int IntKind.i64).pair (Ty.str.pair (Ty.str.pair ((Ty.int IntKind.i64).pair ((Ty.int IntKind.i64).pair Ty.str)))))).rose.slice y0)), Slot.val (Val.one (Cell.dat (Ty.int IntKind.i64) y1)), Slot.val (Val.one (Cell.dat (Ty.int IntKind.i64) y2)), Slot.nix, Slot.nix, Slot.nix, Slot.nix, Slot.nix, Slot.nix, Slot.nix, Slot.nix, Slot.nix, Slot.nix, Slot.nix, Slot.nix] [AObj.box (33 : Nat) [Cell.dat (Ty.int IntKind.i64) y3, Cell.dat (Ty.int IntKind.i64) y4, Cell.dat Ty.str y5, Cell.dat Ty.str y6, Cell.dat (Ty.int IntKind.i64) y7, Cell.dat (Ty.int IntKind.i64) y8, Cell.dat Ty.str y9, Cell.dat ((Ty.int IntKind.i64).pair ((Ty.int IntKind.i64).pair (Ty.str.pair (Ty.str.pair ((Ty.int IntKind.i64).pair ((Ty.int IntKind.i64).pair Ty.str)))))).rose.slice y10], AObj.box (33 : Nat) [Cell.dat (Ty.int IntKind.i64) y11, Cell.dat (Ty.int IntKind.i64) y12, Cell.dat Ty.str y13, Cell.dat Ty.str y14, Cell.dat (Ty.int IntKind.i64) y15, Cell.dat (Ty.int IntKind.i64) y16, Cell.dat Ty.str y17, Cell.nilS], AObj.row ((Ty.int IntKind.i64).pair ((Ty.int IntKind.i64).pair (Ty.str.pair (Ty.str.pair ((Ty.int IntKind.i64).pair ((Ty.int IntKind.i64).pair Ty.str)))))).rose y18 true])
theorem f1022_L0_step (n N m0 : Nat) (y0 : List (Rose (Int × Int × ByteArray × ByteArray × Int × Int × ByteArray))) (y1 : Int) (y2 : Int) (y3 : Int) (y4 : Int) (y5 : ByteArray) (y6 : ByteArray) (y7 : Int) (y8 : Int) (y9 : ByteArray) (y10 : List (Rose (Int × Int × ByteArray × ByteArray × Int × Int × ByteArray))) (y11 : Int) (y12 : Int) (y13 : ByteArray) (y14 : ByteArray) (y15 : Int) (y16 : Int) (y17 : ByteArray) (y18 : List (Rose (Int × Int × ByteArray × ByteArray × Int × Int × ByteArray))) : f1022_L0 n N (m0 + 1) y0 y1 y2 y3 y4 y5 y6 y7 y8 y9 y10 y11 y12 y13 y14 y15 y16 y17 y18 = bif decide (y2 < y1) then chk (decide ((0 : Int) ≤ y2) && decide (y2 < (↑y0.length : Int))) (chk (Sp.fitTs (y0.getD y2.toNat (Rose.mk ((0 : Int), (0 : Int), ByteArray.mk #[], ByteArray.mk #[], (0 : Int), (0 : Int), ByteArray.mk #[]) [])).kids && (Sp.rsz1 (y0.getD y2.toNat (Rose.mk ((0 : Int), (0 : Int), ByteArray.mk #[], ByteArray.mk #[], (0 : Int), (0 : Int), ByteArray.mk #[]) [])).kids).blt N) (chk (decide ((y18.length + [Rose.mk ((y0.getD y2.toNat (Rose.mk ((0 : Int), (0 : Int), ByteArray.mk #[], ByteArray.mk #[], (0 : Int), (0 : Int), ByteArray.mk #[]) [])).a.1, (y0.getD y2.toNat (Rose.mk ((0 : Int), (0 : Int), ByteArray.mk #[], ByteArray.mk #[], (0 : Int), (0 : Int), ByteArray.mk #[]) [])).a.2.1, (y0.getD y2.toNat (Rose.mk ((0 : Int), (0 : Int), ByteArray.mk #[], ByteArray.mk #[], (0 : Int), (0 : Int), ByteArray.mk #[]) [])).a.2.2.1, (y0.getD y2.toNat (Rose.mk ((0 : Int), (0 : Int), ByteArray.mk #[], ByteArray.mk #[], (0 : Int), (0 : Int), ByteArray.mk #[]) [])).a.2.2.2.1, (y0.getD y2.toNat (Rose.mk ((0 : Int), (0 : Int), ByteArray.mk #[], ByteArray.mk #[], (0 : Int), (0 : Int), ByteArray.mk #[]) [])).a.2.2.2.2.1, (y0.getD y2.toNat (Rose.mk ((0 : Int), (0 : Int), ByteArray.mk #[], ByteArray.mk #[], (0 : Int), (0 : Int), ByteArray.mk #[]) [])).a.2.2.2.2.2.1, (y0.getD y2.toNat (Rose.mk ((0 : Int), (0 : Int), ByteArray.mk #[], ByteArray.mk #[], (0 : Int), (0 : Int), ByteArray.mk #[]) [])).a.2.2.2.2.2.2) (y0.getD y2.toNat (Rose.mk ((0 : Int), (0 : Int), ByteArray.mk #[], ByteArray.mk #[], (0 : Int), (0 : Int), ByteArray.mk #[]) [])).kids].length) * (104 : Nat) ≤ (140737488355328 : Nat))) (f1022_L0 n N m0 y0 y1 (IntKind.i64.wrap (y2 + (1 : Int))) y3 y4 y5 y6 y7 y8 y9 y10 y11 y12 y13 y14 y15 y16 y17 (y18 ++ [Rose.mk ((y0.getD y2.toNat (Rose.mk ((0 : Int), (0 : Int), ByteArray.mk #[], ByteArray.mk #[], (0 : Int), (0 : Int), ByteArray.mk #[]) [])).a.1, (y0.getD y2.toNat (Rose.mk ((0 : Int), (0 : Int), ByteArray.mk #[], ByteArray.mk #[], (0 : Int), (0 : Int), ByteArray.mk #[]) [])).a.2.1, (y0.getD y2.toNat (Rose.mk ((0 : Int), (0 : Int), ByteArray.mk #[], ByteArray.mk #[], (0 : Int), (0 : Int), ByteArray.mk #[]) [])).a.2.2.1, (y0.getD y2.toNat (Rose.mk ((0 : Int), (0 : Int), ByteArray.mk #[], ByteArray.mk #[], (0 : Int), (0 : Int), ByteArray.mk #[]) [])).a.2.2.2.1, (y0.getD y2.toNat (Rose.mk ((0 : Int), (0 : Int), ByteArray.mk #[], ByteArray.mk #[], (0 : Int), (0 : Int), ByteArray.mk #[]) [])).a.2.2.2.2.1, (y0.getD y2.toNat (Rose.mk ((0 : Int), (0 : Int), ByteArray.mk #[], ByteArray.mk #[], (0 : Int), (0 : Int), ByteArray.mk #[]) [])).a.2.2.2.2.2.1, (y0.getD y2.toNat (Rose.mk ((0 : Int), (0 : Int), ByteArray.mk #[], ByteArray.mk #[], (0 : Int), (0 : Int), ByteArray.mk #[]) [])).a.2.2.2.2.2.2) (y0.getD y2.toNat (Rose.mk ((0 : Int), (0 : Int), ByteArray.mk #[], ByteArray.mk #[], (0 : Int), (0 : Int), ByteArray.mk #[]) [])).kids])))) else some (Res.mk [XV.mk true [X.c (X0.dat (Ty.int IntKind.i64) y3), X.c (X0.dat (Ty.int IntKind.i64) y4), X.c (X0.dat Ty.str y5), X.c (X0.dat Ty.str y6), X.c (X0.dat (Ty.int IntKind.i64) y7), X.c (X0.dat (Ty.int IntKind.i64) y8), X.c (X0.dat Ty.str y9), X.c (X0.row ((Ty.int IntKind.i64).pair ((Ty.int IntKind.i64).pair (Ty.str.pair (Ty.str.pair ((Ty.int IntKind.i64).pair ((Ty.int IntKind.i64).pair Ty.str)))))).rose y18 true)]] []) := by kernel_rfl
theorem f1022_raw (n N : Nat) (x0 : Int) (x1 : Int) (x2 : ByteArray) (x3 : ByteArray) (x4 : Int) (x5 : Int) (x6 : ByteArray) (x7 : List (Rose (Int × Int × ByteArray × ByteArray × Int × Int × ByteArray))) : abody Γ (orc [e1022n N]) n 28 [XV.mk true [X.c (X0.dat (Ty.int IntKind.i64) x0), X.c (X0.dat (Ty.int IntKind.i64) x1), X.c (X0.dat Ty.str x2), X.c (X0.dat Ty.str x3), X.c (X0.dat (Ty.int IntKind.i64) x4), X.c (X0.dat (Ty.int IntKind.i64) x5), X.c (X0.dat Ty.str x6), X.c (X0.dat ((Ty.int IntKind.i64).pair ((Ty.int IntKind.i64).pair (Ty.str.pair (Ty.str.pair ((Ty.int IntKind.i64).pair ((Ty.int IntKind.i64).pair Ty.str)))))).rose.slice x7)]] = f1022_L0 n N n x7 (↑x7.length : Int) (0 : Int) x0 x1 x2 x3 x4 x5 x6 x7 (0 : Int) (0 : Int) ByteArray.empty ByteArray.empty (0 : Int) (0 : Int) ByteArray.empty [] := by kernel_rfl

noncomputable def e1014 : Ent := { f := n1014, ins := [Sh.agg aT], outs := [Sh.agg oT], upd := [], pre := fun a => Sp.fitTs a.2.2.2.2.2.2.2, spec := fun a => a, wrt := fun _ => () }
noncomputable def e1014n (N : Nat) : Ent := e1014.below (fun a => Sp.rsz1 a.2.2.2.2.2.2.2) N
noncomputable def f1014_L0 (n N m0 : Nat) (y0 : Int) (y1 : Int) (y2 : Int) (y3 : ByteArray) (y4 : ByteArray) (y5 : Int) (y6 : Int) (y7 : ByteArray) (y8 : List (Rose (Int × Int × ByteArray × ByteArray × Int × Int × ByteArray))) (y9 : Int) (y10 : Int) (y11 : ByteArray) (y12 : ByteArray) (y13 : Int) (y14 : Int) (y15 : ByteArray) (y16 : Int) (y17 : Int) (y18 : ByteArray) (y19 : ByteArray) (y20 : Int) (y21 : Int) (y22 : ByteArray) : Option Res := loopAt Γ (orc [e1014n N]) n (17 : Nat) (0 : Nat) [] [Pth.r, Pth.r, Pth.r, Pth.l, Pth.r, Pth.b] m0 (St.mk [Slot.nix, Slot.val (Val.one (Cell.ptr (0 : Nat) (0 : Nat))), Slot.val (Val.one (Cell.ptr (1 : Nat) (0 : Nat))), Slot.val (Val.one (Cell.ptr (2 : Nat) (0 : Nat))), Slot.val (Val.one (Cell.dat (Ty.int IntKind.i64) y0)), Slot.nix, Slot.nix, Slot.nix, Slot.nix, Slot.nix, Slot.nix, Slot.nix, Slot.nix, Slot.nix, Slot.nix, Slot.nix, Slot.nix, Slot.nix, Slot.nix, Slot.nix, Slot.nix, Slot.nix, Slot.nix, Slot.nix, Slot.nix, Slot.nix] [AObj.box (33 : Nat) [Cell.dat (Ty.int IntKind.i64) y1, Cell.dat (Ty.int IntKind.i64) y2, Cell.dat Ty.str y3, Cell.dat Ty.str y4, Cell.dat (Ty.int IntKind.i64) y5, Cell.dat (Ty.int IntKind.i64) y6, Cell.dat Ty.str y7, Cell.dat ((Ty.int IntKind.i64).pair ((Ty.int IntKind.i64).pair (Ty.str.pair (Ty.str.pair ((Ty.int IntKind.i64).pair ((Ty.int IntKind.i64).pair Ty.str)))))).rose.slice y8], AObj.box (33 : Nat) [Cell.dat (Ty.int IntKind.i64) y9, Cell.dat (Ty.int IntKind.i64) y10, Cell.dat Ty.str y11, Cell.dat Ty.str y12, Cell.dat (Ty.int IntKind.i64) y13, Cell.dat (Ty.int IntKind.i64) y14, Cell.dat Ty.str y15, Cell.nilS], AObj.box (33 : Nat) [Cell.dat (Ty.int IntKind.i64) y16, Cell.dat (Ty.int IntKind.i64) y17, Cell.dat Ty.str y18, Cell.dat Ty.str y19, Cell.dat (Ty.int IntKind.i64) y20, Cell.dat (Ty.int IntKind.i64) y21, Cell.dat Ty.str y22, Cell.nilS]])
noncomputable def f1014_L1 (n N m0 : Nat) (y0 : Int) (y1 : Int) (y2 : Int) (y3 : ByteArray) (y4 : ByteArray) (y5 : Int) (y6 : Int) (y7 : ByteArray) (y8 : List (Rose (Int × Int × ByteArray × ByteArray × Int × Int × ByteArray))) (y9 : Int) (y10 : Int) (y11 : ByteArray) (y12 : ByteArray) (y13 : Int) (y14 : Int) (y15 : ByteArray) (y16 : Int) (y17 : Int) (y18 : ByteArray) (y19 : ByteArray) (y20 : Int) (y21 : Int) (y22 : ByteArray) (y23 : List (Rose (Int × Int × ByteArray × ByteArray × Int × Int × ByteArray))) : Option Res := loopAt Γ (orc [e1014n N]) n (17 : Nat) (0 : Nat) [] [Pth.r, Pth.r, Pth.r, Pth.l, Pth.r, Pth.b] m0 (St.mk [Slot.nix, Slot.val (Val.one (Cell.ptr (0 : Nat) (0 : Nat))), Slot.val (Val.one (Cell.ptr (1 : Nat) (0 : Nat))), Slot.val (Val.one (Cell.ptr (2 : Nat) (0 : Nat))), Slot.val (Val.one (Cell.dat (Ty.int IntKind.i64) y0)), Slot.nix, Slot.nix, Slot.nix, Slot.nix, Slot.nix, Slot.nix, Slot.nix, Slot.nix, Slot.nix, Slot.nix, Slot.nix, Slot.nix, Slot.nix, Slot.nix, Slot.nix, Slot.nix, Slot.nix, Slot.nix, Slot.nix, Slot.nix, Slot.nix] [AObj.box (33 : Nat) [Cell.dat (Ty.int IntKind.i64) y1, Cell.dat (Ty.int IntKind.i64) y2, Cell.dat Ty.str y3, Cell.dat Ty.str y4, Cell.dat (Ty.int IntKind.i64) y5, Cell.dat (Ty.int IntKind.i64) y6, Cell.dat Ty.str y7, Cell.dat ((Ty.int IntKind.i64).pair ((Ty.int IntKind.i64).pair (Ty.str.pair (Ty.str.pair ((Ty.int IntKind.i64).pair ((Ty.int IntKind.i64).pair Ty.str)))))).rose.slice y8], AObj.box (33 : Nat) [Cell.dat (Ty.int IntKind.i64) y9, Cell.dat (Ty.int IntKind.i64) y10, Cell.dat Ty.str y11, Cell.dat Ty.str y12, Cell.dat (Ty.int IntKind.i64) y13, Cell.dat (Ty.int IntKind.i64) y14, Cell.dat Ty.str y15, Cell.nilS], AObj.box (33 : Nat) [Cell.dat (Ty.int IntKind.i64) y16, Cell.dat (Ty.int IntKind.i64) y17, Cell.dat Ty.str y18, Cell.dat Ty.str y19, Cell.dat (Ty.int IntKind.i64) y20, Cell.dat (Ty.int IntKind.i64) y21, Cell.dat Ty.str y22, Cell.own (3 : Nat)], AObj.row ((Ty.int IntKind.i64).pair ((Ty.int IntKind.i64).pair (Ty.str.pair (Ty.str.pair ((Ty.int IntKind.i64).pair ((Ty.int IntKind.i64).pair Ty.str)))))).rose y23 true])
theorem f1014_L0_step (n N m0 : Nat) (y0 : Int) (y1 : Int) (y2 : Int) (y3 : ByteArray) (y4 : ByteArray) (y5 : Int) (y6 : Int) (y7 : ByteArray) (y8 : List (Rose (Int × Int × ByteArray × ByteArray × Int × Int × ByteArray))) (y9 : Int) (y10 : Int) (y11 : ByteArray) (y12 : ByteArray) (y13 : Int) (y14 : Int) (y15 : ByteArray) (y16 : Int) (y17 : Int) (y18 : ByteArray) (y19 : ByteArray) (y20 : Int) (y21 : Int) (y22 : ByteArray) : f1014_L0 n N (m0 + 1) y0 y1 y2 y3 y4 y5 y6 y7 y8 y9 y10 y11 y12 y13 y14 y15 y16 y17 y18 y19 y20 y21 y22 = bif decide (y0 < (↑y8.length : Int)) then chk (decide ((0 : Int) ≤ y0) && decide (y0 < (↑y8.length : Int))) (chk (Sp.fitTs (y8.getD y0.toNat (Rose.mk ((0 : Int), (0 : Int), ByteArray.mk #[], ByteArray.mk #[], (0 : Int), (0 : Int), ByteArray.mk #[]) [])).kids && (Sp.rsz1 (y8.getD y0.toNat (Rose.mk ((0 : Int), (0 : Int), ByteArray.mk #[], ByteArray.mk #[], (0 : Int), (0 : Int), ByteArray.mk #[]) [])).kids).blt N) (chk (decide (((0 : Nat) + [Rose.mk ((y8.getD y0.toNat (Rose.mk ((0 : Int), (0 : Int), ByteArray.mk #[], ByteArray.mk #[], (0 : Int), (0 : Int), ByteArray.mk #[]) [])).a.1, (y8.getD y0.toNat (Rose.mk ((0 : Int), (0 : Int), ByteArray.mk #[], ByteArray.mk #[], (0 : Int), (0 : Int), ByteArray.mk #[]) [])).a.2.1, (y8.getD y0.toNat (Rose.mk ((0 : Int), (0 : Int), ByteArray.mk #[], ByteArray.mk #[], (0 : Int), (0 : Int), ByteArray.mk #[]) [])).a.2.2.1, (y8.getD y0.toNat (Rose.mk ((0 : Int), (0 : Int), ByteArray.mk #[], ByteArray.mk #[], (0 : Int), (0 : Int), ByteArray.mk #[]) [])).a.2.2.2.1, (y8.getD y0.toNat (Rose.mk ((0 : Int), (0 : Int), ByteArray.mk #[], ByteArray.mk #[], (0 : Int), (0 : Int), ByteArray.mk #[]) [])).a.2.2.2.2.1, (y8.getD y0.toNat (Rose.mk ((0 : Int), (0 : Int), ByteArray.mk #[], ByteArray.mk #[], (0 : Int), (0 : Int), ByteArray.mk #[]) [])).a.2.2.2.2.2.1, (y8.getD y0.toNat (Rose.mk ((0 : Int), (0 : Int), ByteArray.mk #[], ByteArray.mk #[], (0 : Int), (0 : Int), ByteArray.mk #[]) [])).a.2.2.2.2.2.2) (y8.getD y0.toNat (Rose.mk ((0 : Int), (0 : Int), ByteArray.mk #[], ByteArray.mk #[], (0 : Int), (0 : Int), ByteArray.mk #[]) [])).kids].length) * (104 : Nat) ≤ (140737488355328 : Nat))) (f1014_L1 n N m0 (IntKind.i64.wrap (y0 + (1 : Int))) y1 y2 y3 y4 y5 y6 y7 y8 y9 y10 y11 y12 y13 y14 y15 y16 y17 y18 y19 y20 y21 y22 ([] ++ [Rose.mk ((y8.getD y0.toNat (Rose.mk ((0 : Int), (0 : Int), ByteArray.mk #[], ByteArray.mk #[], (0 : Int), (0 : Int), ByteArray.mk #[]) [])).a.1, (y8.getD y0.toNat (Rose.mk ((0 : Int), (0 : Int), ByteArray.mk #[], ByteArray.mk #[], (0 : Int), (0 : Int), ByteArray.mk #[]) [])).a.2.1, (y8.getD y0.toNat (Rose.mk ((0 : Int), (0 : Int), ByteArray.mk #[], ByteArray.mk #[], (0 : Int), (0 : Int), ByteArray.mk #[]) [])).a.2.2.1, (y8.getD y0.toNat (Rose.mk ((0 : Int), (0 : Int), ByteArray.mk #[], ByteArray.mk #[], (0 : Int), (0 : Int), ByteArray.mk #[]) [])).a.2.2.2.1, (y8.getD y0.toNat (Rose.mk ((0 : Int), (0 : Int), ByteArray.mk #[], ByteArray.mk #[], (0 : Int), (0 : Int), ByteArray.mk #[]) [])).a.2.2.2.2.1, (y8.getD y0.toNat (Rose.mk ((0 : Int), (0 : Int), ByteArray.mk #[], ByteArray.mk #[], (0 : Int), (0 : Int), ByteArray.mk #[]) [])).a.2.2.2.2.2.1, (y8.getD y0.toNat (Rose.mk ((0 : Int), (0 : Int), ByteArray.mk #[], ByteArray.mk #[], (0 : Int), (0 : Int), ByteArray.mk #[]) [])).a.2.2.2.2.2.2) (y8.getD y0.toNat (Rose.mk ((0 : Int), (0 : Int), ByteArray.mk #[], ByteArray.mk #[], (0 : Int), (0 : Int), ByteArray.mk #[]) [])).kids])))) else some (Res.mk [XV.mk true [X.c (X0.dat (Ty.int IntKind.i64) y16), X.c (X0.dat (Ty.int IntKind.i64) y17), X.c (X0.dat Ty.str y18), X.c (X0.dat Ty.str y19), X.c (X0.dat (Ty.int IntKind.i64) y20), X.c (X0.dat (Ty.int IntKind.i64) y21), X.c (X0.dat Ty.str y22), X.c (X0.row ((Ty.int IntKind.i64).pair ((Ty.int IntKind.i64).pair (Ty.str.pair (Ty.str.pair ((Ty.int IntKind.i64).pair ((Ty.int IntKind.i64).pair Ty.str)))))).rose [] true)]] []) := by kernel_rfl
theorem f1014_L1_step (n N m0 : Nat) (y0 : Int) (y1 : Int) (y2 : Int) (y3 : ByteArray) (y4 : ByteArray) (y5 : Int) (y6 : Int) (y7 : ByteArray) (y8 : List (Rose (Int × Int × ByteArray × ByteArray × Int × Int × ByteArray))) (y9 : Int) (y10 : Int) (y11 : ByteArray) (y12 : ByteArray) (y13 : Int) (y14 : Int) (y15 : ByteArray) (y16 : Int) (y17 : Int) (y18 : ByteArray) (y19 : ByteArray) (y20 : Int) (y21 : Int) (y22 : ByteArray) (y23 : List (Rose (Int × Int × ByteArray × ByteArray × Int × Int × ByteArray))) : f1014_L1 n N (m0 + 1) y0 y1 y2 y3 y4 y5 y6 y7 y8 y9 y10 y11 y12 y13 y14 y15 y16 y17 y18 y19 y20 y21 y22 y23 = bif decide (y0 < (↑y8.length : Int)) then chk (decide ((0 : Int) ≤ y0) && decide (y0 < (↑y8.length : Int))) (chk (Sp.fitTs (y8.getD y0.toNat (Rose.mk ((0 : Int), (0 : Int), ByteArray.mk #[], ByteArray.mk #[], (0 : Int), (0 : Int), ByteArray.mk #[]) [])).kids && (Sp.rsz1 (y8.getD y0.toNat (Rose.mk ((0 : Int), (0 : Int), ByteArray.mk #[], ByteArray.mk #[], (0 : Int), (0 : Int), ByteArray.mk #[]) [])).kids).blt N) (chk (decide ((y23.length + [Rose.mk ((y8.getD y0.toNat (Rose.mk ((0 : Int), (0 : Int), ByteArray.mk #[], ByteArray.mk #[], (0 : Int), (0 : Int), ByteArray.mk #[]) [])).a.1, (y8.getD y0.toNat (Rose.mk ((0 : Int), (0 : Int), ByteArray.mk #[], ByteArray.mk #[], (0 : Int), (0 : Int), ByteArray.mk #[]) [])).a.2.1, (y8.getD y0.toNat (Rose.mk ((0 : Int), (0 : Int), ByteArray.mk #[], ByteArray.mk #[], (0 : Int), (0 : Int), ByteArray.mk #[]) [])).a.2.2.1, (y8.getD y0.toNat (Rose.mk ((0 : Int), (0 : Int), ByteArray.mk #[], ByteArray.mk #[], (0 : Int), (0 : Int), ByteArray.mk #[]) [])).a.2.2.2.1, (y8.getD y0.toNat (Rose.mk ((0 : Int), (0 : Int), ByteArray.mk #[], ByteArray.mk #[], (0 : Int), (0 : Int), ByteArray.mk #[]) [])).a.2.2.2.2.1, (y8.getD y0.toNat (Rose.mk ((0 : Int), (0 : Int), ByteArray.mk #[], ByteArray.mk #[], (0 : Int), (0 : Int), ByteArray.mk #[]) [])).a.2.2.2.2.2.1, (y8.getD y0.toNat (Rose.mk ((0 : Int), (0 : Int), ByteArray.mk #[], ByteArray.mk #[], (0 : Int), (0 : Int), ByteArray.mk #[]) [])).a.2.2.2.2.2.2) (y8.getD y0.toNat (Rose.mk ((0 : Int), (0 : Int), ByteArray.mk #[], ByteArray.mk #[], (0 : Int), (0 : Int), ByteArray.mk #[]) [])).kids].length) * (104 : Nat) ≤ (140737488355328 : Nat))) (f1014_L1 n N m0 (IntKind.i64.wrap (y0 + (1 : Int))) y1 y2 y3 y4 y5 y6 y7 y8 y9 y10 y11 y12 y13 y14 y15 y16 y17 y18 y19 y20 y21 y22 (y23 ++ [Rose.mk ((y8.getD y0.toNat (Rose.mk ((0 : Int), (0 : Int), ByteArray.mk #[], ByteArray.mk #[], (0 : Int), (0 : Int), ByteArray.mk #[]) [])).a.1, (y8.getD y0.toNat (Rose.mk ((0 : Int), (0 : Int), ByteArray.mk #[], ByteArray.mk #[], (0 : Int), (0 : Int), ByteArray.mk #[]) [])).a.2.1, (y8.getD y0.toNat (Rose.mk ((0 : Int), (0 : Int), ByteArray.mk #[], ByteArray.mk #[], (0 : Int), (0 : Int), ByteArray.mk #[]) [])).a.2.2.1, (y8.getD y0.toNat (Rose.mk ((0 : Int), (0 : Int), ByteArray.mk #[], ByteArray.mk #[], (0 : Int), (0 : Int), ByteArray.mk #[]) [])).a.2.2.2.1, (y8.getD y0.toNat (Rose.mk ((0 : Int), (0 : Int), ByteArray.mk #[], ByteArray.mk #[], (0 : Int), (0 : Int), ByteArray.mk #[]) [])).a.2.2.2.2.1, (y8.getD y0.toNat (Rose.mk ((0 : Int), (0 : Int), ByteArray.mk #[], ByteArray.mk #[], (0 : Int), (0 : Int), ByteArray.mk #[]) [])).a.2.2.2.2.2.1, (y8.getD y0.toNat (Rose.mk ((0 : Int), (0 : Int), ByteArray.mk #[], ByteArray.mk #[], (0 : Int), (0 : Int), ByteArray.mk #[]) [])).a.2.2.2.2.2.2) (y8.getD y0.toNat (Rose.mk ((0 : Int), (0 : Int), ByteArray.mk #[], ByteArray.mk #[], (0 : Int), (0 : Int), ByteArray.mk #[]) [])).kids])))) else some (Res.mk [XV.mk true [X.c (X0.dat (Ty.int IntKind.i64) y16), X.c (X0.dat (Ty.int IntKind.i64) y17), X.c (X0.dat Ty.str y18), X.c (X0.dat Ty.str y19), X.c (X0.dat (Ty.int IntKind.i64) y20), X.c (X0.dat (Ty.int IntKind.i64) y21), X.c (X0.dat Ty.str y22), X.c (X0.row ((Ty.int IntKind.i64).pair ((Ty.int IntKind.i64).pair (Ty.str.pair (Ty.str.pair ((Ty.int IntKind.i64).pair ((Ty.int IntKind.i64).pair Ty.str)))))).rose y23 true)]] []) := by kernel_rfl
theorem f1014_raw (n N : Nat) (x0 : Int) (x1 : Int) (x2 : ByteArray) (x3 : ByteArray) (x4 : Int) (x5 : Int) (x6 : ByteArray) (x7 : List (Rose (Int × Int × ByteArray × ByteArray × Int × Int × ByteArray))) : abody Γ (orc [e1014n N]) n 17 [XV.mk true [X.c (X0.dat (Ty.int IntKind.i64) x0), X.c (X0.dat (Ty.int IntKind.i64) x1), X.c (X0.dat Ty.str x2), X.c (X0.dat Ty.str x3), X.c (X0.dat (Ty.int IntKind.i64) x4), X.c (X0.dat (Ty.int IntKind.i64) x5), X.c (X0.dat Ty.str x6), X.c (X0.dat ((Ty.int IntKind.i64).pair ((Ty.int IntKind.i64).pair (Ty.str.pair (Ty.str.pair ((Ty.int IntKind.i64).pair ((Ty.int IntKind.i64).pair Ty.str)))))).rose.slice x7)]] = f1014_L0 n N n (0 : Int) x0 x1 x2 x3 x4 x5 x6 x7 (0 : Int) (0 : Int) ByteArray.empty ByteArray.empty (0 : Int) (0 : Int) ByteArray.empty x0 x1 x2 x3 x4 x5 x6 := by kernel_rfl

end Go.Proofs.GR.T

set_option maxRecDepth 100000
set_option maxHeartbeats 100000000
namespace Go.Proofs.GR.T
open Go Go.Proofs Go.Proofs.GR
theorem cnt_kids (r : RT) : 1 + Sp.cntTs r.kids = Sp.cntT r := by cases r with | mk a ks => rw [Sp.cntT]; rfl
theorem cnt_mem : ∀ {l : List RT} {r : RT}, r ∈ l → Sp.cntT r ≤ Sp.cntTs l
  | x :: l, r, h => by
    rw [Sp.cntTs]
    rcases List.mem_cons.1 h with rfl | h
    · omega
    · have := cnt_mem h; omega
theorem cnt32_of {l : List RT} (h : Sp.cnt32 l = true) : Sp.cntTs l ≤ 1000000000000 := Nat.le_of_ble_eq_true h
theorem cnt32_mk {l : List RT} (h : Sp.cntTs l ≤ 1000000000000) : Sp.cnt32 l = true := Nat.ble_eq_true_of_le h
theorem cnt_len : ∀ l : List RT, l.length ≤ Sp.cntTs l
  | [] => Nat.zero_le _
  | r :: l => by rw [Sp.cntTs, List.length_cons, ← cnt_kids]; have := cnt_len l; omega
noncomputable abbrev recSz : List REnt := [⟨e1025, fun a => Sp.rsz1 a.2.2.2.2.2.2.2⟩]
theorem f1025_loop (n : Nat) (xs : List RT) (hc : Sp.cntTs xs ≤ 1000000000000) : ∀ (d k m : Nat) (v : Nat), k + d = xs.length → d < m → v + Sp.cntTs (xs.drop k) ≤ 2000000000000 → f1025_L0 n (Sp.rsz1 xs) m v xs xs.length k = some (rI ((v + Sp.cntTs (xs.drop k) : Nat) : Int)) := by
  have hl := cnt_len xs
  intro d
  induction d with
  | zero =>
    intro k m v hk hm h1
    obtain ⟨m, rfl⟩ := succ_of hm
    rw [f1025_L0_step, nat_ge (by omega), cond_false, List.drop_of_length_le (by omega), Sp.cntTs]
    rfl
  | succ d ih =>
    intro k m v hk hm h1
    obtain ⟨m, rfl⟩ := succ_of hm
    have h : k < xs.length := by omega
    have hb := rsz1_mem (List.getElem_mem h)
    have hm2 := cnt_mem (List.getElem_mem h)
    have hk2 := cnt_kids xs[k]
    rw [List.drop_eq_getElem_cons h, Sp.cntTs] at h1
    rw [f1025_L0_step, nat_lt h, cond_true, guard0, chkT, getD_nat xs k _ h, next64 h (by omega), cnt32_mk (by omega), blt_mk (show Sp.rsz1 xs[k].kids < Sp.rsz1 xs by unfold Sp.rsz1 at hb ⊢; omega), Bool.and_self, chkT, hk2, wrap64 (n := (v : Int) + (Sp.cntT xs[k] : Int)) (by omega) (by omega)]
    have := ih (k + 1) m (v + Sp.cntT xs[k]) (by omega) (by omega) (by omega)
    rw [Int.natCast_add] at this
    rw [this, List.drop_eq_getElem_cons h, Sp.cntTs]
    exact congrArg (fun z => some (rI z)) (by omega)
theorem e1025_core (x0 x1 : Int) (x2 x3 : ByteArray) (x4 x5 : Int) (x6 : ByteArray) (x7 : List RT) (h : Sp.cnt32 x7 = true) : ∃ n, abody Γ (orc (belows (Sp.rsz1 x7) recSz ++ [])) n n1025 (e1025.args (x0, x1, x2, x3, x4, x5, x6, x7)) = some (e1025.res (x0, x1, x2, x3, x4, x5, x6, x7)) := by
  have hc := cnt32_of h
  refine ⟨x7.length + 1, (f1025_raw _ _ x0 x1 x2 x3 x4 x5 x6 x7).trans ?_⟩
  exact f1025_loop _ x7 hc x7.length 0 _ 1 (Nat.zero_add _) (Nat.lt_succ_self _) (by rw [List.drop_zero]; omega)
theorem e1025_ok : Valid PP Γ e1025 := valid_recs ok recSz (rcons ⟨[], vnil, fun a ha _ => e1025_core a.1 a.2.1 a.2.2.1 a.2.2.2.1 a.2.2.2.2.1 a.2.2.2.2.2.1 a.2.2.2.2.2.2.1 a.2.2.2.2.2.2.2 ha⟩ rnil) _ (List.mem_cons_self)
noncomputable abbrev recLf : List REnt := [⟨e1018, fun a => Sp.rsz1 a.1.2.2.2.2.2.2.2⟩]
theorem f1018_loop (n : Nat) (xs : List RT) (hl : xs.length ≤ 9223372036854775807) (dp y3 y4 : Int) (y5 y6 : ByteArray) (y7 y8 : Int) (y9 : ByteArray) : ∀ (d k m : Nat) (v : Int), k + d = xs.length → d < m → f1018_L0 n (Sp.rsz1 xs) m v dp k y3 y4 y5 y6 y7 y8 y9 xs = some (rI (Sp.leftTs (xs.drop k) v dp)) := by
  intro d
  induction d with
  | zero =>
    intro k m v hk hm
    obtain ⟨m, rfl⟩ := succ_of hm
    rw [f1018_L0_step, nat_ge (by omega), cond_false, List.drop_of_length_le (by omega), Sp.leftTs]
  | succ d ih =>
    intro k m v hk hm
    obtain ⟨m, rfl⟩ := succ_of hm
    have h : k < xs.length := by omega
    have hb := rsz1_mem (List.getElem_mem h)
    rw [f1018_L0_step, nat_lt h, cond_true, List.drop_eq_getElem_cons h, Sp.leftTs, guard0, chkT, getD_nat xs k _ h, next64 h hl, blt_mk (show Sp.rsz1 xs[k].kids < Sp.rsz1 xs by unfold Sp.rsz1 at hb ⊢; omega), chkT]
    show (bif decide (v ≥ 0) then f1018_L0 _ _ _ (Sp.leftT (Sp.mkT (Sp.unT xs[k])) v (Sp.succL dp)) _ _ _ _ _ _ _ _ _ _ else _) = _
    rw [mkT_un, ih (k + 1) m _ (by omega) (by omega), condI]
theorem e1018_core (x0 x1 : Int) (x2 x3 : ByteArray) (x4 x5 : Int) (x6 : ByteArray) (x7 : List RT) (x8 x9 : Int) (hl : x7.length ≤ maxLen) : ∃ n, abody Γ (orc (belows (Sp.rsz1 x7) recLf ++ [])) n n1018 (e1018.args ((x0, x1, x2, x3, x4, x5, x6, x7), x8, x9)) = some (e1018.res ((x0, x1, x2, x3, x4, x5, x6, x7), x8, x9)) := by
  refine ⟨x7.length + 1, (f1018_raw _ _ x0 x1 x2 x3 x4 x5 x6 x7 x8 x9).trans ?_⟩
  have e : Sp.leftT (Rose.mk (x0, x1, x2, x3, (x4, x5, x6)) x7) x8 x9 = bif decide (x9 > 20) then -1 else Sp.leftTs x7 (Sp.predL x8) x9 := by rw [Sp.leftT]
  refine Eq.trans ?_ (congrArg (fun z => some (rI z)) e.symm)
  rw [condI]
  have := f1018_loop (x7.length + 1) x7 hl x9 x0 x1 x2 x3 x4 x5 x6 x7.length 0 (x7.length + 1) (Sp.predL x8) (Nat.zero_add _) (Nat.lt_succ_self _)
  rw [List.drop_zero] at this
  rw [← this]
  rfl
theorem e1018_ok : Valid PP Γ e1018 := valid_recs ok recLf (rcons ⟨[], vnil, fun a _ hl => e1018_core a.1.1 a.1.2.1 a.1.2.2.1 a.1.2.2.2.1 a.1.2.2.2.2.1 a.1.2.2.2.2.2.1 a.1.2.2.2.2.2.2.1 a.1.2.2.2.2.2.2.2 a.2.1 a.2.2 (hl _ (List.mem_cons_self) _ (List.mem_cons_of_mem _ (List.mem_cons_of_mem _ (List.mem_cons_of_mem _ (List.mem_cons_of_mem _ (List.mem_cons_of_mem _ (List.mem_cons_of_mem _ (List.mem_cons_of_mem _ (List.mem_cons_self))))))))).1⟩ rnil) _ (List.mem_cons_self)
noncomputable abbrev recCp : List REnt := [⟨e1022, fun a => Sp.rsz1 a.2.2.2.2.2.2.2⟩]
noncomputable abbrev recCq : List REnt := [⟨e1014, fun a => Sp.rsz1 a.2.2.2.2.2.2.2⟩]
abbrev rT (x0 x1 : Int) (x2 x3 : ByteArray) (x4 x5 : Int) (x6 : ByteArray) (ks : List RT) : Res := Res.mk [XV.mk true [X.c (X0.dat tI x0), X.c (X0.dat tI x1), X.c (X0.dat Ty.str x2), X.c (X0.dat Ty.str x3), X.c (X0.dat tI x4), X.c (X0.dat tI x5), X.c (X0.dat Ty.str x6), X.c (X0.row tT ks true)]] []
/-- Loops that hand a list's elements on. -/
theorem cat_loop {α : Type} {ρ : Type} {R : List α → ρ} (xs : List α) (L : Nat → Int → List α → Option ρ)
    (hend : ∀ m (k : Nat) acc, xs.length ≤ k → L (m + 1) k acc = some (R acc))
    (hstep : ∀ m (k : Nat) acc (h : k < xs.length), acc.length = k → L (m + 1) k acc = L m ((k + 1 : Nat) : Int) (acc ++ [xs[k]])) :
    ∀ (d k m : Nat) (acc : List α), k + d = xs.length → acc.length = k → d < m → L m k acc = some (R (acc ++ xs.drop k)) := by
  intro d
  induction d with
  | zero =>
    intro k m acc hk ha hm
    obtain ⟨m, rfl⟩ := succ_of hm
    rw [hend m k acc (by omega), List.drop_of_length_le (by omega), List.append_nil]
  | succ d ih =>
    intro k m acc hk ha hm
    obtain ⟨m, rfl⟩ := succ_of hm
    have h : k < xs.length := by omega
    rw [hstep m k acc h ha, ih (k + 1) m _ (by omega) (by rw [List.length_append, List.length_singleton, ha]) (by omega), List.drop_eq_getElem_cons h, List.append_assoc]
    rfl
theorem room104 {n : Nat} (h : n < 1000000000000) : decide ((n + 1) * 104 ≤ 140737488355328) = true := decide_eq_true (by omega)
theorem e1022_core (x0 x1 : Int) (x2 x3 : ByteArray) (x4 x5 : Int) (x6 : ByteArray) (x7 : List RT) (h : Sp.fitTs x7 = true) : ∃ n, abody Γ (orc (belows (Sp.rsz1 x7) recCp ++ [])) n n1022 (e1022.args (x0, x1, x2, x3, x4, x5, x6, x7)) = some (e1022.res (x0, x1, x2, x3, x4, x5, x6, x7)) := by
  obtain ⟨h1, h2⟩ := fitTs_of h
  refine ⟨x7.length + 1, (f1022_raw _ _ x0 x1 x2 x3 x4 x5 x6 x7).trans ?_⟩
  have := cat_loop (R := rT x0 x1 x2 x3 x4 x5 x6) x7 (fun m k acc => f1022_L0 (x7.length + 1) (Sp.rsz1 x7) m x7 x7.length k x0 x1 x2 x3 x4 x5 x6 x7 0 0 ByteArray.empty ByteArray.empty 0 0 ByteArray.empty acc) (fun m k acc hk => by
    show f1022_L0 _ _ _ _ _ _ _ _ _ _ _ _ _ _ _ _ _ _ _ _ _ _ = _
    rw [f1022_L0_step, nat_ge hk, cond_false]) (fun m k acc hk ha => by
    show f1022_L0 _ _ _ _ _ _ _ _ _ _ _ _ _ _ _ _ _ _ _ _ _ _ = _
    have hb := rsz1_mem (List.getElem_mem hk)
    rw [f1022_L0_step, nat_lt hk, cond_true, guard0, chkT, getD_nat x7 k _ hk, next64 hk (by omega), h2 _ (List.getElem_mem hk), Bool.true_and, blt_mk (show Sp.rsz1 x7[k].kids < Sp.rsz1 x7 by unfold Sp.rsz1 at hb ⊢; omega), chkT, List.length_singleton, ha, room104 (by omega), chkT]
    show f1022_L0 _ _ _ _ _ _ _ _ _ _ _ _ _ _ _ _ _ _ _ _ _ (acc ++ [Sp.mkT (Sp.unT x7[k])]) = _
    rw [mkT_un]) x7.length 0 (x7.length + 1) [] (Nat.zero_add _) rfl (Nat.lt_succ_self _)
  exact this
theorem e1022_ok : Valid PP Γ e1022 := valid_recs ok recCp (rcons ⟨[], vnil, fun a ha _ => e1022_core a.1 a.2.1 a.2.2.1 a.2.2.2.1 a.2.2.2.2.1 a.2.2.2.2.2.1 a.2.2.2.2.2.2.1 a.2.2.2.2.2.2.2 ha⟩ rnil) _ (List.mem_cons_self)
theorem e1014_core (x0 x1 : Int) (x2 x3 : ByteArray) (x4 x5 : Int) (x6 : ByteArray) (x7 : List RT) (h : Sp.fitTs x7 = true) : ∃ n, abody Γ (orc (belows (Sp.rsz1 x7) recCq ++ [])) n n1014 (e1014.args (x0, x1, x2, x3, x4, x5, x6, x7)) = some (e1014.res (x0, x1, x2, x3, x4, x5, x6, x7)) := by
  obtain ⟨h1, h2⟩ := fitTs_of h
  refine ⟨x7.length + 1, (f1014_raw _ _ x0 x1 x2 x3 x4 x5 x6 x7).trans ?_⟩
  have lp := cat_loop (R := rT x0 x1 x2 x3 x4 x5 x6) x7 (fun m k acc => f1014_L1 (x7.length + 1) (Sp.rsz1 x7) m k x0 x1 x2 x3 x4 x5 x6 x7 0 0 ByteArray.empty ByteArray.empty 0 0 ByteArray.empty x0 x1 x2 x3 x4 x5 x6 acc) (fun m k acc hk => by
    show f1014_L1 _ _ _ _ _ _ _ _ _ _ _ _ _ _ _ _ _ _ _ _ _ _ _ _ _ _ _ = _
    rw [f1014_L1_step, nat_ge hk, cond_false]) (fun m k acc hk ha => by
    show f1014_L1 _ _ _ _ _ _ _ _ _ _ _ _ _ _ _ _ _ _ _ _ _ _ _ _ _ _ _ = _
    have hb := rsz1_mem (List.getElem_mem hk)
    rw [f1014_L1_step, nat_lt hk, cond_true, guard0, chkT, getD_nat x7 k _ hk, next64 hk (by omega), h2 _ (List.getElem_mem hk), Bool.true_and, blt_mk (show Sp.rsz1 x7[k].kids < Sp.rsz1 x7 by unfold Sp.rsz1 at hb ⊢; omega), chkT, List.length_singleton, ha, room104 (by omega), chkT]
    show f1014_L1 _ _ _ _ _ _ _ _ _ _ _ _ _ _ _ _ _ _ _ _ _ _ _ _ _ _ (acc ++ [Sp.mkT (Sp.unT x7[k])]) = _
    rw [mkT_un])
  show f1014_L0 _ _ _ _ _ _ _ _ _ _ _ _ _ _ _ _ _ _ _ _ _ _ _ _ _ _ = some (rT x0 x1 x2 x3 x4 x5 x6 x7)
  by_cases hc : 0 < x7.length
  · have hb := rsz1_mem (List.getElem_mem hc)
    have st := f1014_L0_step (x7.length + 1) (Sp.rsz1 x7) x7.length 0 x0 x1 x2 x3 x4 x5 x6 x7 0 0 ByteArray.empty ByteArray.empty 0 0 ByteArray.empty x0 x1 x2 x3 x4 x5 x6
    rw [st, decide_eq_true (show (0 : Int) < (x7.length : Int) by omega), cond_true, decide_eq_true (show (0 : Int) ≤ 0 by omega), Bool.and_self, chkT, show x7.getD (Int.toNat 0) (Rose.mk ((0 : Int), (0 : Int), ByteArray.mk #[], ByteArray.mk #[], (0 : Int), (0 : Int), ByteArray.mk #[]) []) = x7[0] from getD_nat x7 0 _ hc, h2 _ (List.getElem_mem hc), Bool.true_and, blt_mk (show Sp.rsz1 x7[0].kids < Sp.rsz1 x7 by unfold Sp.rsz1 at hb ⊢; omega), chkT, List.length_singleton, room104 (n := 0) (by omega), chkT, wrap64 (n := 0 + 1) (by omega) (by omega)]
    have := lp (x7.length - 1) 1 x7.length [x7[0]] (by omega) rfl (by omega)
    have e0 : [x7[0]] ++ x7.drop 1 = x7 := by
      have := List.drop_eq_getElem_cons hc
      rw [List.drop_zero] at this
      exact this.symm
    rw [e0] at this
    refine Eq.trans ?_ this
    show f1014_L1 _ _ _ _ _ _ _ _ _ _ _ _ _ _ _ _ _ _ _ _ _ _ _ _ _ _ ([] ++ [Sp.mkT (Sp.unT x7[0])]) = _
    rw [mkT_un]
    rfl
  · have hx : x7 = [] := List.eq_nil_of_length_eq_zero (by omega)
    subst hx
    rw [f1014_L0_step]
    rfl
theorem e1014_ok : Valid PP Γ e1014 := valid_recs ok recCq (rcons ⟨[], vnil, fun a ha _ => e1014_core a.1 a.2.1 a.2.2.1 a.2.2.2.1 a.2.2.2.2.1 a.2.2.2.2.2.1 a.2.2.2.2.2.2.1 a.2.2.2.2.2.2.2 ha⟩ rnil) _ (List.mem_cons_self)
def Sp.f1020_pre (x0 : Int) (x1 : Int) (x2 : ByteArray) (x3 : ByteArray) (x4 : Int) (x5 : Int) (x6 : ByteArray) (x7 : List (Rose (Int × Int × ByteArray × ByteArray × Int × Int × ByteArray))) : Bool := (bif !Sp.deepT (Sp.mkT (x0, x1, x2, x3, x4, x5, x6, x7)) (20 : Int) then Sp.cnt32 x7 else true)
def Sp.f1020 (x0 : Int) (x1 : Int) (x2 : ByteArray) (x3 : ByteArray) (x4 : Int) (x5 : Int) (x6 : ByteArray) (x7 : List (Rose (Int × Int × ByteArray × ByteArray × Int × Int × ByteArray))) := (bif !Sp.deepT (Sp.mkT (x0, x1, x2, x3, x4, x5, x6, x7)) (20 : Int) then (decide ((↑((1 : Nat) + Sp.cntTs x7) : Int) ≤ (120 : Int)), ()) else (false, ()))
noncomputable def e1020 : Ent := { f := 26, ins := [Sh.agg [C0.dat (Ty.int IntKind.i64), C0.dat (Ty.int IntKind.i64), C0.dat Ty.str, C0.dat Ty.str, C0.dat (Ty.int IntKind.i64), C0.dat (Ty.int IntKind.i64), C0.dat Ty.str, C0.dat ((Ty.int IntKind.i64).pair ((Ty.int IntKind.i64).pair (Ty.str.pair (Ty.str.pair ((Ty.int IntKind.i64).pair ((Ty.int IntKind.i64).pair Ty.str)))))).rose.slice]], outs := [Sh.one (C0.dat Ty.bool)], upd := [], pre := fun a => Sp.f1020_pre a.1 a.2.1 a.2.2.1 a.2.2.2.1 a.2.2.2.2.1 a.2.2.2.2.2.1 a.2.2.2.2.2.2.1 a.2.2.2.2.2.2.2, spec := fun a => (Sp.f1020 a.1 a.2.1 a.2.2.1 a.2.2.2.1 a.2.2.2.2.1 a.2.2.2.2.2.1 a.2.2.2.2.2.2.1 a.2.2.2.2.2.2.2).1, wrt := fun a => (Sp.f1020 a.1 a.2.1 a.2.2.1 a.2.2.2.1 a.2.2.2.2.1 a.2.2.2.2.2.1 a.2.2.2.2.2.2.1 a.2.2.2.2.2.2.2).2 }
def f1020_g (v : denS [Sh.one (C0.dat Ty.bool)] × denS []) : Res := ⟨mkS [Sh.one (C0.dat Ty.bool)] v.1, mkU [] v.2⟩
theorem f1020_raw (x0 : Int) (x1 : Int) (x2 : ByteArray) (x3 : ByteArray) (x4 : Int) (x5 : Int) (x6 : ByteArray) (x7 : List (Rose (Int × Int × ByteArray × ByteArray × Int × Int × ByteArray))) : abody Γ (orc [e1024, e1025]) 0 26 [XV.mk true [X.c (X0.dat (Ty.int IntKind.i64) x0), X.c (X0.dat (Ty.int IntKind.i64) x1), X.c (X0.dat Ty.str x2), X.c (X0.dat Ty.str x3), X.c (X0.dat (Ty.int IntKind.i64) x4), X.c (X0.dat (Ty.int IntKind.i64) x5), X.c (X0.dat Ty.str x6), X.c (X0.dat ((Ty.int IntKind.i64).pair ((Ty.int IntKind.i64).pair (Ty.str.pair (Ty.str.pair ((Ty.int IntKind.i64).pair ((Ty.int IntKind.i64).pair Ty.str)))))).rose.slice x7)]] = bif !Sp.deepT (Sp.mkT (x0, x1, x2, x3, x4, x5, x6, x7)) (20 : Int) then chk (Sp.cnt32 x7) (some (Res.mk [XV.mk false [X.c (X0.dat Ty.bool (decide ((↑((1 : Nat) + Sp.cntTs x7) : Int) ≤ (120 : Int))))]] [])) else some (Res.mk [XV.mk false [X.c (X0.dat Ty.bool false)]] []) := by kernel_rfl
theorem f1020_form (x0 : Int) (x1 : Int) (x2 : ByteArray) (x3 : ByteArray) (x4 : Int) (x5 : Int) (x6 : ByteArray) (x7 : List (Rose (Int × Int × ByteArray × ByteArray × Int × Int × ByteArray))) : (bif !Sp.deepT (Sp.mkT (x0, x1, x2, x3, x4, x5, x6, x7)) (20 : Int) then chk (Sp.cnt32 x7) (some (Res.mk [XV.mk false [X.c (X0.dat Ty.bool (decide ((↑((1 : Nat) + Sp.cntTs x7) : Int) ≤ (120 : Int))))]] [])) else some (Res.mk [XV.mk false [X.c (X0.dat Ty.bool false)]] [])) = chk (Sp.f1020_pre x0 x1 x2 x3 x4 x5 x6 x7) (some (f1020_g (Sp.f1020 x0 x1 x2 x3 x4 x5 x6 x7))) := by
  unfold Sp.f1020_pre Sp.f1020
  exact (cond_step f1020_g ((chk_last (rfl))) ((lift_plain (rfl))))
theorem e1020_ok : Valid PP Γ e1020 := valid_auto ok (vcons e1024_ok (vcons e1025_ok vnil)) fun a => (f1020_raw a.1 a.2.1 a.2.2.1 a.2.2.2.1 a.2.2.2.2.1 a.2.2.2.2.2.1 a.2.2.2.2.2.2.1 a.2.2.2.2.2.2.2).trans (f1020_form a.1 a.2.1 a.2.2.1 a.2.2.2.1 a.2.2.2.2.1 a.2.2.2.2.2.1 a.2.2.2.2.2.2.1 a.2.2.2.2.2.2.2)

end Go.Proofs.GR.T

