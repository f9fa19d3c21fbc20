/-
  No statement is proved here: what the functions of the law answer, told as plain functions, and that the law's answer is always true.
  No condition.
-/
import Derived.Test.YtkkibaihacgliaaDoorRt
import Derived.Shelf.Strconv.Clone
import Derived.Shelf.Strings.Split
import Derived.KernelRfl
namespace Go.Proofs.GR.T
abbrev n0 : Nat := 0
abbrev n1 : Nat := 1
abbrev n2 : Nat := 2
abbrev n1065 : Nat := 9
abbrev n1068 : Nat := 12
abbrev n1070 : Nat := 14
abbrev n140 : Nat := 40
abbrev n1087 : Nat := 42
abbrev n1088 : Nat := 43
abbrev n1090 : Nat := 45
abbrev n1093 : Nat := 48
abbrev n1036 : Nat := 78
abbrev n1111 : Nat := 85
abbrev n1112 : Nat := 86
abbrev n173 : Nat := 87
abbrev n1113 : Nat := 88
abbrev n1114 : Nat := 89
abbrev n1115 : Nat := 90
abbrev n1116 : Nat := 91
abbrev n1117 : Nat := 92
abbrev n1119 : Nat := 94
abbrev n1120 : Nat := 95
abbrev n194 : Nat := 103
abbrev n214 : Nat := 120
abbrev n195 : Nat := 148
abbrev n196 : Nat := 149
abbrev n197 : Nat := 150
abbrev n1041 : Nat := 195
abbrev n210 : Nat := 198
abbrev n185 : Nat := 199
abbrev n1178 : Nat := 200
abbrev n1179 : Nat := 201
abbrev n1180 : Nat := 202
abbrev n1181 : Nat := 204
abbrev n1182 : Nat := 205
abbrev n1183 : Nat := 206
abbrev n192 : Nat := 207
abbrev n156 : Nat := 209
abbrev n1042 : Nat := 224
abbrev n211 : Nat := 226
abbrev n1043 : Nat := 238
abbrev n1044 : Nat := 239
abbrev n1045 : Nat := 240
abbrev n1209 : Nat := 241
abbrev n1046 : Nat := 251
abbrev n1047 : Nat := 252
abbrev n1048 : Nat := 253
abbrev n1049 : Nat := 254
abbrev n1050 : Nat := 262
abbrev n1051 : Nat := 263
abbrev n1052 : Nat := 264
abbrev n1053 : Nat := 265
abbrev n1054 : Nat := 266
abbrev n1055 : Nat := 269
abbrev n1056 : Nat := 270
abbrev t0 : Nat := 0
abbrev t1 : Nat := 1
abbrev t2 : Nat := 2
abbrev t3 : Nat := 3
abbrev t4 : Nat := 4
abbrev t5 : Nat := 5
abbrev t6 : Nat := 6
abbrev t9 : Nat := 9
abbrev t21 : Nat := 21
abbrev t46 : Nat := 36
abbrev t47 : Nat := 37
abbrev t51 : Nat := 38
abbrev t55 : Nat := 40
abbrev t56 : Nat := 41
abbrev t58 : Nat := 43
abbrev t40 : Nat := 52
abbrev t171 : Nat := 91
abbrev t215 : Nat := 97
abbrev t107 : Nat := 102
abbrev t213 : Nat := 105
abbrev t119 : Nat := 116
abbrev t86 : Nat := 142
abbrev t166 : Nat := 158
abbrev t72 : Nat := 164
abbrev t48 : Nat := 165
abbrev t76 : Nat := 172
abbrev t142 : Nat := 186
abbrev t239 : Nat := 233
abbrev t105 : Nat := 256
abbrev t1035 : Nat := 268
abbrev t151 : Nat := 274
abbrev t1038 : Nat := 281
abbrev t1040 : Nat := 283
abbrev t1041 : Nat := 284
abbrev t1042 : Nat := 285
abbrev t256 : Nat := 291
abbrev g4 : Nat := 0
abbrev g5 : Nat := 1
abbrev g6 : Nat := 2
abbrev g1 : Nat := 3
abbrev g2 : Nat := 4
abbrev g3 : Nat := 5
abbrev g7 : Nat := 6
end Go.Proofs.GR.T

namespace Go.Proofs.GR.T
noncomputable abbrev PP : Program := Tryd.prog
abbrev cI : C0 := .dat (.int .i64)
abbrev cB : C0 := .dat .bool
abbrev cS : C0 := .dat .str
abbrev cL (t : Ty) : C0 := .dat (.slice t)
end Go.Proofs.GR.T

namespace Go.Proofs.GR.T
open Go Go.Proofs Go.Proofs.GR Go.Shelf
end Go.Proofs.GR.T

namespace Go.Proofs.GR.T
open Go Go.Proofs Go.Proofs.GR
end Go.Proofs.GR.T

set_option maxRecDepth 100000
set_option maxHeartbeats 100000000
namespace Go.Proofs.GR.T
open Go Go.Proofs Go.Proofs.GR
def Sp.f70 (x0 : Int) (x1 : Int) (x2 : Int) := (bif decide (x0 ≥ x1) then (decide (x0 ≤ x2), ()) else (false, ()))
noncomputable def e70 : Ent := { f := 74, ins := [Sh.one (C0.dat (Ty.int IntKind.i64)), Sh.one (C0.dat (Ty.int IntKind.i64)), Sh.one (C0.dat (Ty.int IntKind.i64))], outs := [Sh.one (C0.dat Ty.bool)], upd := [], pre := fun a => true, spec := fun a => (Sp.f70 a.1 a.2.1 a.2.2).1, wrt := fun a => (Sp.f70 a.1 a.2.1 a.2.2).2 }
def f70_g (v : denS [Sh.one (C0.dat Ty.bool)] × denS []) : Res := ⟨mkS [Sh.one (C0.dat Ty.bool)] v.1, mkU [] v.2⟩
theorem f70_raw (x0 : Int) (x1 : Int) (x2 : Int) : abody Γ (orc []) 0 74 [XV.mk false [X.c (X0.dat (Ty.int IntKind.i64) x0)], XV.mk false [X.c (X0.dat (Ty.int IntKind.i64) x1)], XV.mk false [X.c (X0.dat (Ty.int IntKind.i64) x2)]] = bif decide (x0 ≥ x1) then some (Res.mk [XV.mk false [X.c (X0.dat Ty.bool (decide (x0 ≤ x2)))]] []) else some (Res.mk [XV.mk false [X.c (X0.dat Ty.bool false)]] []) := by kernel_rfl
theorem f70_form (x0 : Int) (x1 : Int) (x2 : Int) : (bif decide (x0 ≥ x1) then some (Res.mk [XV.mk false [X.c (X0.dat Ty.bool (decide (x0 ≤ x2)))]] []) else some (Res.mk [XV.mk false [X.c (X0.dat Ty.bool false)]] [])) = some (f70_g (Sp.f70 x0 x1 x2)) := by
  unfold Sp.f70
  exact (cond_plain f70_g (rfl) (rfl))
theorem e70_ok : Valid PP Γ e70 := valid_auto ok vnil fun a => (f70_raw a.1 a.2.1 a.2.2).trans (f70_form a.1 a.2.1 a.2.2)

def Sp.f115 (x0 : ByteArray) := (decide ((↑x0.size : Int) > (65536 : Int)), ())
/-- The first place from 'i' on where something holds; else -1. -/
def Sp.idx {α : Type} (p : α → Bool) : List α → Int → Int
  | [], _ => -1
  | x :: r, i => bif p x then i else Sp.idx p r (i + 1)
def Sp.f114 (x0 : List ByteArray) := (decide (Sp.idx (fun t ↦ (Sp.f115 t).fst) x0 (0 : Int) ≥ (0 : Int)), ())
def Sp.f69 (x0 : List ByteArray) := ((Sp.f114 x0).1, ())
end Go.Proofs.GR.T

namespace Go.Proofs.GR.T
open Go Go.Proofs Go.Proofs.GR

end Go.Proofs.GR.T

namespace Go.Proofs.GR.T
open Go Go.Proofs Go.Proofs.GR
namespace Sp
def bit (r : Nat) : Nat := if r % 2 = 1 then (r / 2) ^^^ 3988292384 else r / 2
def bits : Nat → Nat → Nat
  | 0, r => r
  | n + 1, r => bits n (bit r)
def isBytes (xs : List Int) : Bool := xs.all fun x => decide (0 ≤ x) && decide (x < 256)
def eqL {α : Type} [DecidableEq α] (xs ys : List α) : Bool := decide (xs = ys)
def fits {α : Type} (xs : List α) : Bool := decide (xs.length ≤ 140737488355328)
end Sp
theorem chkT {ρ : Type} (k : Option ρ) : chk true k = k := rfl
theorem wrapu64 {n : Int} (h1 : 0 ≤ n) (h2 : n < 18446744073709551616) : IntKind.u64.wrap n = n := by
  simp only [IntKind.wrap, IntKind.signed, IntKind.bits]
  simp
  omega
theorem strBytes_len (s : ByteArray) : (strBytes s).length = s.size := by unfold strBytes; rw [List.length_map, Array.length_toList]; rfl
theorem bytesStr_size (xs : List Int) : (bytesStr xs).size = xs.length := by
  show ((xs.map fun n => UInt8.ofNat n.toNat).toArray).size = _
  rw [List.size_toArray, List.length_map]
end Go.Proofs.GR.T

set_option maxRecDepth 100000
set_option maxHeartbeats 100000000
namespace Go.Proofs.GR.T
open Go Go.Proofs Go.Proofs.GR
abbrev rI (n : Int) : Res := Res.mk [XV.mk false [X.c (X0.dat (Ty.int IntKind.i64) n)]] []
abbrev rBo (b : Bool) : Res := Res.mk [XV.mk false [X.c (X0.dat Ty.bool b)]] []
theorem succ_of {d m : Nat} (h : d < m) : ∃ q, m = q + 1 := ⟨m - 1, by omega⟩
end Go.Proofs.GR.T

set_option maxRecDepth 100000
set_option maxHeartbeats 100000000
namespace Go.Proofs.GR.T
open Go Go.Proofs Go.Proofs.GR
end Go.Proofs.GR.T

namespace Go.Proofs.GR.T
open Go Go.Proofs Go.Proofs.GR
end Go.Proofs.GR.T

set_option maxRecDepth 100000
set_option maxHeartbeats 100000000
namespace Go.Proofs.GR.T
open Go Go.Proofs Go.Proofs.GR
/-- The number of bytes, the highest first. -/
def Sp.num : Nat → List Int → Nat
  | r, [] => r
  | r, x :: l => Sp.num (r * 256 + x.toNat) l
def Sp.eight (xs : List Int) : Bool := yes2 (decide (xs.length ≤ 8)) (Sp.isBytes xs)
end Go.Proofs.GR.T

namespace Go.Proofs.GR.T
open Go Go.Proofs Go.Proofs.GR
end Go.Proofs.GR.T

namespace Go.Proofs.GR.T
open Go Go.Proofs Go.Proofs.GR
end Go.Proofs.GR.T

set_option maxRecDepth 100000
set_option maxHeartbeats 100000000
namespace Go.Proofs.GR.T
open Go Go.Proofs Go.Proofs.GR
def Sp.mdig : Nat → Int → ByteArray → ByteArray
  | 0, _, acc => acc
  | d + 1, r, acc => bif decide (r > 0) then Sp.mdig d (IntKind.i64.wrap (r.tdiv 10)) (bytesStr [IntKind.u8.wrap (IntKind.i64.wrap (48 + r.tmod 10))] ++ acc) else acc
def Sp.mText (k : Int) : ByteArray := bif decide (k ≤ 0) then ByteArray.mk #[109, 48] else ByteArray.mk #[109] ++ Sp.mdig 19 k (ByteArray.mk #[])
def Sp.eqS : List ByteArray → List ByteArray → Bool
  | [], [] => true
  | x :: r, y :: s => bif !(x.toList == y.toList) then false else Sp.eqS r s
  | _, _ => false
end Go.Proofs.GR.T

set_option maxRecDepth 100000
set_option maxHeartbeats 100000000
namespace Go.Proofs.GR.T
open Go Go.Proofs Go.Proofs.GR
end Go.Proofs.GR.T

namespace Go.Proofs.GR.T
open Go Go.Proofs Go.Proofs.GR
end Go.Proofs.GR.T

set_option maxRecDepth 100000
set_option maxHeartbeats 100000000
namespace Go.Proofs.GR.T
open Go Go.Proofs Go.Proofs.GR
def Sp.f79 (x0 : Int) (x1 : Int) (x2 : Int) := (bif decide (x0 ≥ x1) then (decide (x0 ≤ x2), ()) else (false, ()))
noncomputable def e79 : Ent := { f := 51, ins := [Sh.one (C0.dat (Ty.int IntKind.i64)), Sh.one (C0.dat (Ty.int IntKind.i64)), Sh.one (C0.dat (Ty.int IntKind.i64))], outs := [Sh.one (C0.dat Ty.bool)], upd := [], pre := fun a => true, spec := fun a => (Sp.f79 a.1 a.2.1 a.2.2).1, wrt := fun a => (Sp.f79 a.1 a.2.1 a.2.2).2 }
def f79_g (v : denS [Sh.one (C0.dat Ty.bool)] × denS []) : Res := ⟨mkS [Sh.one (C0.dat Ty.bool)] v.1, mkU [] v.2⟩
theorem f79_raw (x0 : Int) (x1 : Int) (x2 : Int) : abody Γ (orc []) 0 51 [XV.mk false [X.c (X0.dat (Ty.int IntKind.i64) x0)], XV.mk false [X.c (X0.dat (Ty.int IntKind.i64) x1)], XV.mk false [X.c (X0.dat (Ty.int IntKind.i64) x2)]] = bif decide (x0 ≥ x1) then some (Res.mk [XV.mk false [X.c (X0.dat Ty.bool (decide (x0 ≤ x2)))]] []) else some (Res.mk [XV.mk false [X.c (X0.dat Ty.bool false)]] []) := by kernel_rfl
theorem f79_form (x0 : Int) (x1 : Int) (x2 : Int) : (bif decide (x0 ≥ x1) then some (Res.mk [XV.mk false [X.c (X0.dat Ty.bool (decide (x0 ≤ x2)))]] []) else some (Res.mk [XV.mk false [X.c (X0.dat Ty.bool false)]] [])) = some (f79_g (Sp.f79 x0 x1 x2)) := by
  unfold Sp.f79
  exact (cond_plain f79_g (rfl) (rfl))
theorem e79_ok : Valid PP Γ e79 := valid_auto ok vnil fun a => (f79_raw a.1 a.2.1 a.2.2).trans (f79_form a.1 a.2.1 a.2.2)

def Sp.f136 (x0 : Int) (x1 : Int) (x2 : ByteArray) := (bif x0 == (0 : Int) then (bif x1 == (0 : Int) then (x2.toList == (ByteArray.mk #[]).toList, ()) else (false, ())) else (bif x0 == (1 : Int) then (bif (Sp.f79 x1 (0 : Int) (1 : Int)).1 then (x2.toList == (ByteArray.mk #[]).toList, ()) else (false, ())) else (bif x0 == (2 : Int) then (x2.toList == (ByteArray.mk #[]).toList, ()) else (bif x0 == (3 : Int) then (bif x0 == (3 : Int) then (bif x1 == (0 : Int) then (decide ((↑x2.size : Int) ≤ (60 : Int)), ()) else (false, ())) else (false, ())) else (bif x0 == (4 : Int) then (bif x1 == (0 : Int) then (decide ((↑x2.size : Int) ≤ (60 : Int)), ()) else (false, ())) else (false, ()))))))
def Sp.f167 (x0 : Int) := (bif x0 == (3 : Int) then (true, ()) else (x0 == (4 : Int), ()))
def Sp.f171 (x0 : Int) (x1 : Int) (x2 : ByteArray) := (bif x0 == (0 : Int) then (bif x1 == (0 : Int) then (x2.toList == (ByteArray.mk #[]).toList, ()) else (false, ())) else (bif x0 == (1 : Int) then (bif (Sp.f70 x1 (0 : Int) (1 : Int)).1 then (x2.toList == (ByteArray.mk #[]).toList, ()) else (false, ())) else (bif x0 == (2 : Int) then (x2.toList == (ByteArray.mk #[]).toList, ()) else (bif (Sp.f167 x0).1 then (bif x1 == (0 : Int) then (decide ((↑x2.size : Int) ≤ (60 : Int)), ()) else (false, ())) else (false, ())))))
def Sp.f86 (x0 : Int) (x1 : Int) (x2 : ByteArray) (x3 : Int) (x4 : Int) (x5 : ByteArray) := (bif x0 != x3 then (false, ()) else (bif x1 != x4 then (false, ()) else (bif !x2.toList == x5.toList then (false, ()) else (true, ()))))
def Sp.takeB (b : List Int) (a : Int) (bad : Bool) (n : Int) : Bool := bif bad then true else bif decide (n < 0) then true else decide (a + n > (b.length : Int))
def Sp.takeV (b : List Int) (a : Int) (bad : Bool) (n : Int) : List Int := bif Sp.takeB b a bad n then List.replicate (maxI 0 (minI n 8)).toNat 0 else (b.drop a.toNat).take n.toNat
def Sp.of8 (xs : List Int) : Int := (Sp.num 0 (xs.take 8) : Int) - 9223372036854775808
end Go.Proofs.GR.T

set_option maxRecDepth 100000
set_option maxHeartbeats 100000000
namespace Go.Proofs.GR.T
open Go Go.Proofs Go.Proofs.GR
def Sp.kt : List Int → List Int → Int → ByteArray × Int
  | [], _, _ => (ByteArray.mk #[], 0)
  | [x], acc, i => (ByteArray.mk #[], 0)
  | x :: y :: r, acc, i => bif x != 0 then Sp.kt (y :: r) (acc ++ [x]) (i + 1) else bif y == 1 then (bytesStr acc, i + 2) else bif y != 255 then (ByteArray.mk #[], 0) else Sp.kt r (acc ++ [0]) (i + 2)
abbrev V3 := Int × Int × ByteArray
def Sp.zv : V3 := (0, 0, ByteArray.empty)
def Sp.cellC (x : Int) (r : List Int) (row : Bool) : V3 × Int :=
    bif x == 0 then ((0, 0, ByteArray.empty), 1)
    else bif x == 1 then (match r with | [] => (Sp.zv, 0) | y :: _ => ((1, y, ByteArray.empty), 2))
    else bif x == 2 then (bif Nat.ble 8 r.length then ((2, Sp.of8 r, ByteArray.empty), 9) else (Sp.zv, 0))
    else bif (Sp.f167 x).1 then
      bif !row then (bif decide ((Sp.kt r [] 0).2 > 0) then ((x, 0, (Sp.kt r [] 0).1), IntKind.i64.wrap ((Sp.kt r [] 0).2 + 1)) else (Sp.zv, 0))
      else (match r with | [] => (Sp.zv, 0) | y :: r' => bif Nat.ble y.toNat r'.length then ((x, 0, bytesStr (r'.take y.toNat)), 2 + y) else (Sp.zv, 0))
    else (Sp.zv, 0)
def Sp.cell : List Int → Bool → V3 × Int
  | [], _ => (Sp.zv, 0)
  | x :: r, row => Sp.cellC x r row
end Go.Proofs.GR.T

namespace Go.Proofs.GR.T
open Go Go.Proofs Go.Proofs.GR
namespace Sp
def eqW {α β : Type} (q : α → β → Bool) : List α → List β → Bool
  | [], [] => true
  | x :: r, y :: s => bif !q x y then false else eqW q r s
  | _, _ => false
def allW {α : Type} (p : α → Bool) : List α → Bool
  | [] => true
  | x :: r => bif !p x then false else allW p r
end Sp
theorem eqW_len {α β : Type} {q : α → β → Bool} : ∀ {xs : List α} {ys : List β}, xs.length ≠ ys.length → Sp.eqW q xs ys = false
  | [], [], h => absurd rfl h
  | [], _ :: _, _ => rfl
  | _ :: _, [], _ => rfl
  | x :: r, y :: s, h => by
    unfold Sp.eqW
    rw [eqW_len (xs := r) (ys := s) (fun e => h (by simp [e]))]
    cases !q x y <;> rfl
theorem eqW_self {α : Type} {q : α → α → Bool} (h : ∀ x, q x x = true) : ∀ xs : List α, Sp.eqW q xs xs = true
  | [] => rfl
  | x :: r => by unfold Sp.eqW; rw [h, eqW_self h r]; rfl
theorem allW_mem {α : Type} {p : α → Bool} : ∀ {xs : List α}, Sp.allW p xs = true ↔ ∀ x ∈ xs, p x = true
  | [] => by simp [Sp.allW]
  | x :: r => by
    unfold Sp.allW
    cases h : p x with
    | true => simp [h, allW_mem (xs := r)]
    | false => simp [h]
theorem eq_loop {α : Type} {ρ : Type} {q : α → α → Bool} {R : Bool → ρ} (xs ys : List α) (L : Nat → Int → Option ρ) (hy : xs.length = ys.length)
    (hend : ∀ m (k : Nat), xs.length ≤ k → L (m + 1) k = some (R true))
    (hstep : ∀ m (k : Nat) (h : k < xs.length) (h2 : k < ys.length), L (m + 1) k = bif !q xs[k] ys[k] then some (R false) else L m ((k + 1 : Nat) : Int)) :
    ∀ (d k m : Nat), k + d = xs.length → d < m → L m k = some (R (Sp.eqW q (xs.drop k) (ys.drop k))) := by
  intro d
  induction d with
  | zero =>
    intro k m hk hm
    obtain ⟨m, rfl⟩ := succ_of hm
    rw [hend m k (by omega), List.drop_of_length_le (by omega), List.drop_of_length_le (by omega)]
    rfl
  | succ d ih =>
    intro k m hk hm
    obtain ⟨m, rfl⟩ := succ_of hm
    rw [hstep m k (by omega) (by omega), ih (k + 1) m (by omega) (by omega), List.drop_eq_getElem_cons (show k < xs.length by omega), List.drop_eq_getElem_cons (show k < ys.length by omega)]
    rw [Sp.eqW]
    cases !q xs[k] ys[k] <;> rfl
theorem all_loop {α : Type} {ρ : Type} {p : α → Bool} {R : Bool → ρ} (xs : List α) (L : Nat → Int → Option ρ)
    (hend : ∀ m (k : Nat), xs.length ≤ k → L (m + 1) k = some (R true))
    (hstep : ∀ m (k : Nat) (h : k < xs.length), L (m + 1) k = bif !p xs[k] then some (R false) else L m ((k + 1 : Nat) : Int)) :
    ∀ (d k m : Nat), k + d = xs.length → d < m → L m k = some (R (Sp.allW p (xs.drop k))) := by
  intro d
  induction d with
  | zero =>
    intro k m hk hm
    obtain ⟨m, rfl⟩ := succ_of hm
    rw [hend m k (by omega), List.drop_of_length_le (by omega)]
    rfl
  | succ d ih =>
    intro k m hk hm
    obtain ⟨m, rfl⟩ := succ_of hm
    rw [hstep m k (by omega), ih (k + 1) m (by omega) (by omega), List.drop_eq_getElem_cons (show k < xs.length by omega)]
    rw [Sp.allW]
    cases !p xs[k] <;> rfl
theorem idx_loop {α : Type} {ρ : Type} {p : α → Bool} {R : Int → ρ} (xs : List α) (L : Nat → Int → Option ρ)
    (hend : ∀ m (k : Nat), xs.length ≤ k → L (m + 1) k = some (R (-1)))
    (hstep : ∀ m (k : Nat) (h : k < xs.length), L (m + 1) k = bif p xs[k] then some (R k) else L m ((k + 1 : Nat) : Int)) :
    ∀ (d k m : Nat), k + d = xs.length → d < m → L m k = some (R (Sp.idx p (xs.drop k) k)) := by
  intro d
  induction d with
  | zero =>
    intro k m hk hm
    obtain ⟨m, rfl⟩ := succ_of hm
    rw [hend m k (by omega), List.drop_of_length_le (by omega)]
    rfl
  | succ d ih =>
    intro k m hk hm
    obtain ⟨m, rfl⟩ := succ_of hm
    rw [hstep m k (by omega), ih (k + 1) m (by omega) (by omega), List.drop_eq_getElem_cons (show k < xs.length by omega)]
    rw [Sp.idx]
    rw [show ((k + 1 : Nat) : Int) = (k : Int) + 1 by omega]
    cases p xs[k] <;> rfl
theorem getD_nat {α : Type} (xs : List α) (k : Nat) (d : α) (h : k < xs.length) : xs.getD (k : Int).toNat d = xs[k] := by
  rw [Int.toNat_natCast, List.getD, List.getElem?_eq_getElem h, Option.getD_some]
theorem guard2 {k n : Nat} (h : k < n) : (decide ((0 : Int) ≤ (k : Int)) && decide ((k : Int) < (n : Int))) = true := by
  rw [decide_eq_true (show (0 : Int) ≤ k by omega), decide_eq_true (show (k : Int) < n by omega)]; rfl
theorem guard0 {k : Nat} : (decide ((0 : Int) ≤ (k : Int)) && true) = true := by
  rw [decide_eq_true (show (0 : Int) ≤ k by omega)]; rfl
theorem next64 {k n : Nat} (h : k < n) (h2 : n ≤ 9223372036854775807) : IntKind.i64.wrap ((k : Int) + 1) = ((k + 1 : Nat) : Int) := by
  rw [wrap64 (by omega) (by omega)]; omega
theorem nat_lt {k n : Nat} (h : k < n) : decide ((k : Int) < (n : Int)) = true := decide_eq_true (by omega)
theorem nat_ge {k n : Nat} (h : n ≤ k) : decide ((k : Int) < (n : Int)) = false := decide_eq_false (by omega)
end Go.Proofs.GR.T

set_option maxRecDepth 100000
set_option maxHeartbeats 100000000
namespace Go.Proofs.GR.T
open Go Go.Proofs Go.Proofs.GR
end Go.Proofs.GR.T

set_option maxRecDepth 100000
set_option maxHeartbeats 100000000
namespace Go.Proofs.GR.T
open Go Go.Proofs Go.Proofs.GR
end Go.Proofs.GR.T

namespace Go.Proofs.GR.T
open Go Go.Proofs Go.Proofs.GR
end Go.Proofs.GR.T

set_option maxRecDepth 100000
set_option maxHeartbeats 100000000
namespace Go.Proofs.GR.T
open Go Go.Proofs Go.Proofs.GR
def Sp.hi (n j : Int) : Int := IntKind.u8.wrap (n.fdiv ((2 : Int) ^ min (IntKind.u64.wrap (IntKind.i64.wrap ((8 : Int) * j))).toNat (64 : Nat)))
def Sp.key8 (n : Int) : List Int := [IntKind.u8.wrap (((BitVec.ofInt (8 : Nat) (Sp.hi n 7) ^^^ BitVec.ofInt (8 : Nat) (128 : Int)).toNat : Nat) : Int), Sp.hi n 6, Sp.hi n 5, Sp.hi n 4, Sp.hi n 3, Sp.hi n 2, Sp.hi n 1, Sp.hi n 0]
def Sp.left (b : List Int) (a : Int) (bad : Bool) : Nat := bif bad then 0 else (b.length - a.toNat) + 1
def Sp.esc : List Int → List Int
  | [] => []
  | x :: r => bif x == 0 then x :: 255 :: Sp.esc r else x :: Sp.esc r
def Sp.kv1 (v : V3) : List Int :=
  IntKind.u8.wrap v.1 :: (bif v.1 == 1 then [IntKind.u8.wrap v.2.1] else bif v.1 == 2 then Sp.key8 v.2.1
    else bif (bif v.1 == 3 then true else v.1 == 4) then Sp.esc (strBytes v.2.2) ++ [0, 1] else [])
def Sp.key : List V3 → List Int
  | [] => []
  | v :: r => Sp.kv1 v ++ Sp.key r
end Go.Proofs.GR.T

set_option maxRecDepth 100000
set_option maxHeartbeats 100000000
namespace Go.Proofs.GR.T
open Go Go.Proofs Go.Proofs.GR
end Go.Proofs.GR.T

namespace Go.Proofs.GR.T
open Go Go.Proofs Go.Proofs.GR
end Go.Proofs.GR.T

namespace Go.Proofs.GR.T
open Go Go.Proofs Go.Proofs.GR
namespace Sp
def szW {α : Type} (f : α → Int → Int) : List α → Int → Int
  | [], l => l
  | x :: r, l => bif decide (f x l < 0) then -1 else szW f r (f x l)
def szE {α : Type} (f : α → Int → Int) (xs : List α) (l : Int) : Int := bif decide (IntKind.i64.wrap (l - (xs.length : Int)) < 0) then -1 else szW f xs (IntKind.i64.wrap (l - (xs.length : Int)))
def fits32 {α : Type} (xs : List α) : Bool := Nat.ble xs.length 1000000000000
end Sp
theorem fits32_of {α : Type} {xs : List α} (h : Sp.fits32 xs = true) : xs.length ≤ 1000000000000 := Nat.le_of_ble_eq_true h
theorem fits32_mk {α : Type} {xs : List α} (h : xs.length ≤ 1000000000000) : Sp.fits32 xs = true := Nat.ble_eq_true_of_le h
theorem sz_loop {α : Type} {ρ : Type} {f : α → Int → Int} {R : Int → ρ} (xs : List α) (L : Nat → Int → Int → Option ρ)
    (hend : ∀ m (v : Int) (k : Nat), xs.length ≤ k → L (m + 1) v k = some (R v))
    (hstep : ∀ m (v : Int) (k : Nat) (h : k < xs.length), L (m + 1) v k = bif decide (f xs[k] v < 0) then some (R (-1)) else L m (f xs[k] v) ((k + 1 : Nat) : Int)) :
    ∀ (d k m : Nat) (v : Int), k + d = xs.length → d < m → L m v k = some (R (Sp.szW f (xs.drop k) v)) := by
  intro d
  induction d with
  | zero =>
    intro k m v hk hm
    obtain ⟨m, rfl⟩ := succ_of hm
    rw [hend m v k (by omega), List.drop_of_length_le (by omega)]
    rfl
  | succ d ih =>
    intro k m v hk hm
    obtain ⟨m, rfl⟩ := succ_of hm
    rw [hstep m v k (by omega), ih (k + 1) m _ (by omega) (by omega), List.drop_eq_getElem_cons (show k < xs.length by omega), Sp.szW]
    cases decide (f xs[k] v < 0) <;> rfl
theorem to_loop {α : Type} {ρ : Type} {R : List α → ρ} (xs : List α) (L : Nat → Int → List α → Option ρ)
    (hend : ∀ m (k : Nat) acc, xs.length ≤ k → L (m + 1) k acc = some (R acc))
    (hstep : ∀ m (k : Nat) acc (h : k < xs.length), acc.length = xs.length → L (m + 1) k acc = L m ((k + 1 : Nat) : Int) (acc.set k xs[k])) :
    ∀ (d k m : Nat) (acc : List α), k + d = xs.length → acc.length = xs.length → d < m → L m k acc = some (R (acc.take k ++ xs.drop k)) := by
  intro d
  induction d with
  | zero =>
    intro k m acc hk ha hm
    obtain ⟨m, rfl⟩ := succ_of hm
    rw [hend m k acc (by omega), List.drop_of_length_le (by omega), List.take_of_length_le (by omega), List.append_nil]
  | succ d ih =>
    intro k m acc hk ha hm
    obtain ⟨m, rfl⟩ := succ_of hm
    have hlt : k < xs.length := by omega
    rw [hstep m k acc hlt ha, ih (k + 1) m _ (by omega) (by rw [List.length_set]; exact ha) (by omega)]
    have e : (acc.set k xs[k]).take (k + 1) = acc.take k ++ [xs[k]] := by
      rw [List.take_set, List.take_succ_eq_append_getElem (by omega)]
      rw [List.set_append_right _ _ (by simp; omega)]
      simp [Nat.min_eq_left (show k ≤ acc.length by omega)]
    rw [e, List.append_assoc, List.drop_eq_getElem_cons hlt]
    rfl
theorem to_end {α : Type} {ρ : Type} {R : List α → ρ} (xs : List α) (L : Nat → Int → List α → Option ρ)
    (hend : ∀ m (k : Nat) acc, xs.length ≤ k → L (m + 1) k acc = some (R acc))
    (hstep : ∀ m (k : Nat) acc (h : k < xs.length), acc.length = xs.length → L (m + 1) k acc = L m ((k + 1 : Nat) : Int) (acc.set k xs[k])) (z : α) :
    L (xs.length + 1) 0 (List.replicate (xs.length : Int).toNat z) = some (R xs) := by
  have := to_loop xs L hend hstep xs.length 0 (xs.length + 1) (List.replicate (xs.length : Int).toNat z) (Nat.zero_add _) (by rw [List.length_replicate, Int.toNat_natCast]) (Nat.lt_succ_self _)
  rw [List.take_zero, List.drop_zero, List.nil_append, Int.natCast_zero] at this
  exact this
theorem make32 {n : Nat} (h : n ≤ 1000000000000) : (decide ((0 : Int) ≤ (n : Int)) && decide ((n : Int) ≤ (n : Int)) && decide ((n : Int) ≤ (140737488355328 : Int)) && decide ((32 : Int) * (n : Int) ≤ (140737488355328 : Int))) = true := by
  rw [decide_eq_true (show (0 : Int) ≤ n by omega), decide_eq_true (Int.le_refl (n : Int)), decide_eq_true (show (n : Int) ≤ 140737488355328 by omega), decide_eq_true (show 32 * (n : Int) ≤ 140737488355328 by omega)]
  rfl
end Go.Proofs.GR.T

namespace Go.Proofs.GR.T
open Go Go.Proofs Go.Proofs.GR
theorem bytesLess_dec : ∀ (x y : List UInt8), Op.bytesLess x y = decide (x < y)
  | _, [] => by
    rw [decide_eq_false (List.not_lt_nil _)]
    cases ‹List UInt8› <;> rfl
  | [], _ :: _ => (decide_eq_true (List.nil_lt_cons _ _)).symm
  | a :: x, b :: y => by
    unfold Op.bytesLess
    rw [bytesLess_dec x y]
    by_cases h1 : a < b
    · rw [decide_eq_true h1, decide_eq_true (List.cons_lt_cons_iff.2 (.inl h1)), Bool.true_or]
    · rw [decide_eq_false h1, Bool.false_or]
      by_cases h2 : a = b
      · subst h2
        rw [beq_self_eq_true, Bool.true_and]
        exact decide_eq_decide.2 ⟨fun h => List.cons_lt_cons_iff.2 (.inr ⟨rfl, h⟩), fun h => (List.cons_lt_cons_iff.1 h).elim (fun h => absurd h h1) (fun h => h.2)⟩
      · rw [show (a == b) = false by simp [h2], Bool.false_and]
        exact (decide_eq_false fun h => (List.cons_lt_cons_iff.1 h).elim h1 fun h => h2 h.1).symm
def Sp.lessS (a b : ByteArray) : Bool := Op.bytesLess a.toList b.toList
theorem lessS_trans {a b c : ByteArray} (h1 : Sp.lessS a b = true) (h2 : Sp.lessS b c = true) : Sp.lessS a c = true := by
  unfold Sp.lessS at h1 h2 ⊢
  rw [bytesLess_dec] at h1 h2 ⊢
  exact decide_eq_true (List.lt_trans (of_decide_eq_true h1) (of_decide_eq_true h2))
theorem lessS_irrefl (a : ByteArray) : Sp.lessS a a = false := by
  unfold Sp.lessS
  rw [bytesLess_dec]
  exact decide_eq_false (List.lt_irrefl _)
theorem lessS_asymm {a b : ByteArray} (h : Sp.lessS a b = true) : Sp.lessS b a = false := by
  cases h2 : Sp.lessS b a with
  | false => rfl
  | true => have := lessS_trans h h2; rw [lessS_irrefl] at this; cases this
theorem lessS_tri {a b : ByteArray} (h1 : Sp.lessS a b = false) (h2 : Sp.lessS b a = false) : a.toList = b.toList := by
  unfold Sp.lessS at h1 h2
  rw [bytesLess_dec] at h1 h2
  have h1 := of_decide_eq_false h1
  have h2 := of_decide_eq_false h2
  exact List.le_antisymm (List.not_lt.1 h2) (List.not_lt.1 h1)
theorem lessS_congr {a b c : ByteArray} (h : a.toList = b.toList) : Sp.lessS a c = Sp.lessS b c := by unfold Sp.lessS; rw [h]
theorem lessS_congr' {a b c : ByteArray} (h : a.toList = b.toList) : Sp.lessS c a = Sp.lessS c b := by unfold Sp.lessS; rw [h]
def Sp.risesW {α : Type} (key : α → ByteArray) : List α → Bool
  | [] => true
  | [_] => true
  | x :: y :: r => bif Sp.lessS (key x) (key y) then Sp.risesW key (y :: r) else false
def Sp.lowW {α : Type} (p : α → Bool) : List α → Nat
  | [] => 0
  | x :: r => bif p x then Sp.lowW p r + 1 else 0
theorem lowW_le {α : Type} (p : α → Bool) : ∀ xs : List α, Sp.lowW p xs ≤ xs.length
  | [] => Nat.le_refl _
  | x :: r => by
    rw [Sp.lowW, List.length_cons]
    have := lowW_le p r
    cases p x
    · exact Nat.zero_le _
    · exact Nat.succ_le_succ this
theorem lowW_before {α : Type} {p : α → Bool} : ∀ {xs : List α} {k : Nat} (h : k < xs.length), k < Sp.lowW p xs → p xs[k] = true
  | x :: r, k, h, hk => by
    rw [Sp.lowW] at hk
    cases hp : p x with
    | false => rw [hp] at hk; exact absurd hk (Nat.not_lt_zero _)
    | true =>
      rw [hp] at hk
      cases k with
      | zero => exact hp
      | succ k =>
        have hk : k + 1 < Sp.lowW p r + 1 := hk
        exact lowW_before (xs := r) (k := k) (by simpa using h) (by omega)
theorem rises_tail {α : Type} {key : α → ByteArray} {x : α} {r : List α} (h : Sp.risesW key (x :: r) = true) : Sp.risesW key r = true := by
  cases r with
  | nil => rfl
  | cons y r => rw [Sp.risesW] at h; exact (yes2_true h).2
theorem rises_all {α : Type} {key : α → ByteArray} : ∀ {r : List α} {x : α}, Sp.risesW key (x :: r) = true → ∀ y ∈ r, Sp.lessS (key x) (key y) = true
  | [], _, _, y, hy => by cases hy
  | z :: r, x, h, y, hy => by
    have h2 := rises_tail h
    rw [Sp.risesW] at h
    have h1 : Sp.lessS (key x) (key z) = true := (yes2_true h).1
    rcases List.mem_cons.1 hy with rfl | hy
    · exact h1
    · exact lessS_trans h1 (rises_all h2 y hy)
/-- Behind the first that is not less none is. -/
theorem lowW_behind {α : Type} {key : α → ByteArray} {t : ByteArray} : ∀ {xs : List α} {k : Nat} (h : k < xs.length), Sp.risesW key xs = true → Sp.lowW (fun x => Sp.lessS (key x) t) xs ≤ k → Sp.lessS (key xs[k]) t = false
  | x :: r, k, h, hr, hk => by
    rw [Sp.lowW] at hk
    cases hp : Sp.lessS (key x) t with
    | true =>
      rw [hp, cond_true] at hk
      cases k with
      | zero => exact absurd hk (by omega)
      | succ k => exact lowW_behind (xs := r) (k := k) (by simpa using h) (rises_tail hr) (by omega)
    | false =>
      cases k with
      | zero => exact hp
      | succ k =>
        have h' : k < r.length := by simpa using h
        have h1 := rises_all hr r[k] (List.getElem_mem h')
        show Sp.lessS (key r[k]) t = false
        cases h2 : Sp.lessS (key r[k]) t with
        | false => rfl
        | true => have := lessS_trans h1 h2; rw [hp] at this; cases this
/-- A search by halves ends at the first that is not less. -/
theorem bs_loop {α : Type} {ρ : Type} {p : α → Bool} {R : Int → ρ} (xs : List α) (L : Nat → Int → Int → Option ρ)
    (hbeh : ∀ (k : Nat) (h : k < xs.length), Sp.lowW p xs ≤ k → p xs[k] = false)
    (hend : ∀ m (i j : Nat), j ≤ i → L (m + 1) i j = some (R i))
    (hstep : ∀ m (i j : Nat) (_ : i < j) (_ : j ≤ xs.length) (h : (i + j) / 2 < xs.length), L (m + 1) i j = bif p xs[(i + j) / 2] then L m (((i + j) / 2 + 1 : Nat) : Int) j else L m i (((i + j) / 2 : Nat) : Int)) :
    ∀ (d i j m : Nat), j ≤ i + d → d < m → i ≤ Sp.lowW p xs → Sp.lowW p xs ≤ j → j ≤ xs.length → L m i j = some (R (Sp.lowW p xs : Nat)) := by
  intro d
  induction d with
  | zero =>
    intro i j m hd hm h1 h2 h3
    obtain ⟨m, rfl⟩ := succ_of hm
    rw [hend m i j (by omega), show i = Sp.lowW p xs by omega]
  | succ d ih =>
    intro i j m hd hm h1 h2 h3
    obtain ⟨m, rfl⟩ := succ_of hm
    by_cases hij : i < j
    · have hh : (i + j) / 2 < xs.length := by omega
      rw [hstep m i j hij h3 hh]
      by_cases hl : (i + j) / 2 < Sp.lowW p xs
      · rw [lowW_before hh hl, cond_true]
        exact ih _ _ _ (by omega) (by omega) (by omega) h2 h3
      · rw [hbeh _ hh (by omega), cond_false]
        exact ih _ _ _ (by omega) (by omega) h1 (by omega) (by omega)
    · rw [hend m i j (by omega), show i = Sp.lowW p xs by omega]
/-- A search from the front finds the same. -/
theorem idx_low {α : Type} {key : α → ByteArray} {t : ByteArray} : ∀ {xs : List α} (n : Int), Sp.risesW key xs = true → Sp.idx (fun x => (key x).toList == t.toList) xs n = bif (match xs[Sp.lowW (fun x => Sp.lessS (key x) t) xs]? with | some x => (key x).toList == t.toList | none => false) then n + (Sp.lowW (fun x => Sp.lessS (key x) t) xs : Nat) else -1
  | [], n, _ => rfl
  | x :: r, n, h => by
    rw [Sp.idx, Sp.lowW]
    cases hp : Sp.lessS (key x) t with
    | true =>
      have hne : ((key x).toList == t.toList) = false := by
        cases he : (key x).toList == t.toList with
        | false => rfl
        | true => rw [lessS_congr (eq_of_beq he), lessS_irrefl] at hp; cases hp
      rw [hne, cond_false, cond_true, idx_low (n + 1) (rises_tail h), List.getElem?_cons_succ, show n + 1 + ((Sp.lowW (fun x => Sp.lessS (key x) t) r : Nat) : Int) = n + ((Sp.lowW (fun x => Sp.lessS (key x) t) r + 1 : Nat) : Int) by omega]
    | false =>
      rw [cond_false, List.getElem?_cons_zero]
      cases he : (key x).toList == t.toList with
      | true => simp [he]
      | false =>
        rw [cond_false]
        show _ = (bif (key x).toList == t.toList then _ else (-1 : Int))
        rw [he, cond_false]
        have hall := rises_all h
        have hx : Sp.lessS t (key x) = true := by
          cases h2 : Sp.lessS t (key x) with
          | true => rfl
          | false => have := lessS_tri hp h2; rw [this, beq_self_eq_true] at he; cases he
        have : ∀ (r : List α) (n : Int), (∀ y ∈ r, Sp.lessS (key x) (key y) = true) → Sp.idx (fun x => (key x).toList == t.toList) r n = -1 := by
          intro r
          induction r with
          | nil => intro n _; rfl
          | cons y r ih =>
            intro n hy
            have h3 := lessS_trans hx (hy y List.mem_cons_self)
            rw [Sp.idx]
            cases h4 : (key y).toList == t.toList with
            | true => rw [← lessS_congr (eq_of_beq h4), lessS_irrefl] at h3; cases h3
            | false => rw [cond_false]; exact ih (n + 1) fun z hz => hy z (List.mem_cons_of_mem _ hz)
        exact this r (n + 1) hall
end Go.Proofs.GR.T

set_option maxRecDepth 100000
set_option maxHeartbeats 100000000
namespace Go.Proofs.GR.T
open Go Go.Proofs Go.Proofs.GR
abbrev V2 := ByteArray × ByteArray
def Sp.f123 (x0 : ByteArray) (x1 : ByteArray) (x2 : Int) := (bif decide (IntKind.i64.wrap (x2 - (↑x0.size : Int)) < (0 : Int)) then ((-1 : Int), ()) else (bif decide (IntKind.i64.wrap (IntKind.i64.wrap (x2 - (↑x0.size : Int)) - (↑x1.size : Int)) < (0 : Int)) then ((-1 : Int), ()) else (IntKind.i64.wrap (IntKind.i64.wrap (x2 - (↑x0.size : Int)) - (↑x1.size : Int)), ())))
def Sp.f87 (x0 : Int) (x1 : Int) (x2 : ByteArray) (x3 : Int) := (bif decide (IntKind.i64.wrap (x3 - (↑x2.size : Int)) < (0 : Int)) then ((-1 : Int), ()) else (IntKind.i64.wrap (x3 - (↑x2.size : Int)), ()))
def Sp.f124 (x0 : ByteArray) (x1 : ByteArray) := ((x0, x1), ())
def Sp.f89 (x0 : Int) (x1 : Int) (x2 : ByteArray) := ((x0, x1, x2), ())
def Sp.f127 (x0 : ByteArray) (x1 : ByteArray) (x2 : ByteArray) (x3 : ByteArray) := (bif !x0.toList == x2.toList then (false, ()) else (bif !x1.toList == x3.toList then (false, ()) else (true, ())))
def Sp.szEn (x : V2) (l : Int) : Int := (Sp.f123 x.1 x.2 l).1
def Sp.eqE (x y : V2) : Bool := (Sp.f127 x.1 x.2 y.1 y.2).1
def Sp.f34 (x0 : ByteArray) (x1 : Int) (x2 : List (ByteArray × ByteArray)) (x3 : Int) := (bif decide (IntKind.i64.wrap (x3 - (↑x0.size : Int)) < (0 : Int)) then ((-1 : Int), ()) else (bif decide (Sp.szE Sp.szEn x2 (IntKind.i64.wrap (x3 - (↑x0.size : Int))) < (0 : Int)) then ((-1 : Int), ()) else (Sp.szE Sp.szEn x2 (IntKind.i64.wrap (x3 - (↑x0.size : Int))), ())))
def Sp.f37 (x0 : ByteArray) (x1 : Int) (x2 : List (ByteArray × ByteArray)) := ((x0, x1, x2), ())
def Sp.f40 (x0 : ByteArray) (x1 : Int) (x2 : List (ByteArray × ByteArray)) (x3 : ByteArray) (x4 : Int) (x5 : List (ByteArray × ByteArray)) := (bif !x0.toList == x3.toList then (false, ()) else (bif x1 != x4 then (false, ()) else (bif !Sp.eqW Sp.eqE x2 x5 then (false, ()) else (true, ()))))
def Sp.may (a b : ByteArray) : List V2 → Bool
  | [] => false
  | x :: r => bif x.1.toList == a.toList then (bif x.2.toList == b.toList then true else Sp.may a b r) else Sp.may a b r
def Sp.txt (xs : List V3) (i : Int) : ByteArray := (xs.getD i.toNat ((0 : Int), (0 : Int), ByteArray.mk #[])).2.2
def Sp.has (xs : List V3) (i : Int) : Bool := bif decide (0 ≤ i) then decide (i < (xs.length : Int)) else false
def Sp.step (gt : ByteArray) (gc : Int) (gs : List V2) (ev : Int) (ct : ByteArray) (old new : List V3) : Bool :=
  bif !(ct.toList == gt.toList) then true else bif ev == 3 then true else bif ev == 2 then
    (bif (Sp.txt old gc).toList == (Sp.txt new gc).toList then true else Sp.may (Sp.txt old gc) (Sp.txt new gc) gs)
  else Sp.may (ByteArray.mk #[]) (Sp.txt new gc) gs
def Sp.stepOK (gt : ByteArray) (gc ev : Int) (ct : ByteArray) (old new : List V3) : Bool :=
  bif !(ct.toList == gt.toList) then true else bif ev == 3 then true else bif Sp.has new gc then (bif ev == 2 then Sp.has old gc else true) else false
end Go.Proofs.GR.T

namespace Go.Proofs.GR.T
open Go Go.Proofs Go.Proofs.GR
end Go.Proofs.GR.T

namespace Go.Proofs.GR.T
open Go Go.Proofs Go.Proofs.GR
namespace Sp
def wtW {α : Type} (w : α → Nat) : List α → Nat
  | [] => 0
  | x :: r => w x + wtW w r
end Sp
theorem szW_wt {α : Type} {f : α → Int → Int} {c : α → Nat} : ∀ (xs : List α) (l : Int), (∀ x ∈ xs, ∀ l, 0 ≤ l → l ≤ 1048576 → 0 ≤ f x l → f x l + (c x : Int) ≤ l) → 0 ≤ l → l ≤ 1048576 → 0 ≤ Sp.szW f xs l → Sp.szW f xs l + (Sp.wtW c xs : Int) ≤ l
  | [], l, _, _, _, _ => by simp [Sp.szW, Sp.wtW]
  | x :: r, l, h, h0, h1, h2 => by
    rw [Sp.szW] at h2 ⊢
    by_cases hc : f x l < 0
    · rw [decide_eq_true hc, cond_true] at h2; omega
    · rw [decide_eq_false hc, cond_false] at h2 ⊢
      have h3 := h x (List.mem_cons_self) l h0 h1 (by omega)
      have := szW_wt r (f x l) (fun y hy => h y (List.mem_cons_of_mem _ hy)) (by omega) (by omega) h2
      rw [Sp.wtW, Int.natCast_add]
      omega
theorem szE_wt {α : Type} {f : α → Int → Int} {c : α → Nat} {xs : List α} {l : Int} (hl : xs.length ≤ 9223372036854775807) (h : ∀ x ∈ xs, ∀ l, 0 ≤ l → l ≤ 1048576 → 0 ≤ f x l → f x l + (c x : Int) ≤ l) (h0 : 0 ≤ l) (h1 : l ≤ 1048576) (h2 : 0 ≤ Sp.szE f xs l) : Sp.szE f xs l + (xs.length : Int) + (Sp.wtW c xs : Int) ≤ l := by
  unfold Sp.szE at h2 ⊢
  rw [wrap64 (by omega) (by omega)] at h2 ⊢
  by_cases hc : l - (xs.length : Int) < 0
  · rw [decide_eq_true hc, cond_true] at h2; omega
  · rw [decide_eq_false hc, cond_false] at h2 ⊢
    have := szW_wt xs (l - xs.length) h (by omega) (by omega) h2
    omega
end Go.Proofs.GR.T

set_option maxRecDepth 100000
set_option maxHeartbeats 100000000
namespace Go.Proofs.GR.T
open Go Go.Proofs Go.Proofs.GR
theorem make72 {n : Nat} (h : n ≤ 1000000000000) : (decide ((0 : Int) ≤ (n : Int)) && decide ((n : Int) ≤ (n : Int)) && decide ((n : Int) ≤ (140737488355328 : Int)) && decide ((72 : Int) * (n : Int) ≤ (140737488355328 : Int))) = true := by
  rw [decide_eq_true (show (0 : Int) ≤ n by omega), decide_eq_true (Int.le_refl (n : Int)), decide_eq_true (show (n : Int) ≤ 140737488355328 by omega), decide_eq_true (show 72 * (n : Int) ≤ 140737488355328 by omega)]
  rfl
end Go.Proofs.GR.T

namespace Go.Proofs.GR.T
open Go Go.Proofs Go.Proofs.GR Go.Shelf
def ren1041 : Ren := ⟨fun k => if k = 146 then n1041 else if k = 221 then n1042 else if k = 268 then n1043 else if k = 138 then n1044 else if k = 143 then n1045 else if k = 195 then n1046 else if k = 197 then n1047 else if k = 218 then n1048 else if k = 219 then n1049 else if k = 260 then n1050 else if k = 217 then n1051 else if k = 225 then n1052 else if k = 224 then n1053 else if k = 267 then n1054 else if k = 266 then n1055 else if k = 314 then n1056 else k, fun k => if k = 9 then t9 else if k = 31 then t40 else if k = 3 then t3 else if k = 4 then t4 else if k = 0 then t0 else if k = 105 then t1035 else if k = 21 then t21 else if k = 5 then t5 else if k = 46 then t86 else if k = 119 then t1038 else if k = 139 then t1041 else if k = 138 then t1040 else if k = 146 then t1042 else if k = 51 then t151 else k, fun k => if k = 1 then g1 else if k = 3 then g2 else if k = 4 then g3 else k⟩
theorem lays1041 : Lays.n146 PP ren1041 where
  mixed := by kernel_rfl
  f138 := by kernel_rfl
  f143 := by kernel_rfl
  f146 := by kernel_rfl
  f195 := by kernel_rfl
  f197 := by kernel_rfl
  f217 := by kernel_rfl
  f218 := by kernel_rfl
  f219 := by kernel_rfl
  f221 := by kernel_rfl
  f224 := by kernel_rfl
  f225 := by kernel_rfl
  f260 := by kernel_rfl
  f266 := by kernel_rfl
  f267 := by kernel_rfl
  f268 := by kernel_rfl
  f314 := by kernel_rfl
  t0 := by kernel_rfl
  a0 := fun _ => by kernel_rfl
  z0 := fun _ => by kernel_rfl
  v0 := fun _ => by kernel_rfl
  t3 := by kernel_rfl
  a3 := fun _ => by kernel_rfl
  z3 := fun _ => by kernel_rfl
  v3 := fun _ => by kernel_rfl
  t4 := by kernel_rfl
  a4 := fun _ => by kernel_rfl
  z4 := fun _ => by kernel_rfl
  v4 := fun _ => by kernel_rfl
  t5 := by kernel_rfl
  a5 := fun _ => by kernel_rfl
  z5 := fun _ => by kernel_rfl
  v5 := fun _ => by kernel_rfl
  t9 := by kernel_rfl
  a9 := fun _ => by kernel_rfl
  z9 := fun _ => by kernel_rfl
  v9 := fun _ => by kernel_rfl
  t21 := by kernel_rfl
  a21 := fun _ => by kernel_rfl
  z21 := fun _ => by kernel_rfl
  v21 := fun _ => by kernel_rfl
  t31 := by kernel_rfl
  a31 := fun _ => by kernel_rfl
  z31 := fun _ => by kernel_rfl
  v31 := fun _ => by kernel_rfl
  t46 := by kernel_rfl
  a46 := fun _ => by kernel_rfl
  z46 := fun _ => by kernel_rfl
  v46 := fun _ => by kernel_rfl
  t51 := by kernel_rfl
  a51 := fun _ => by kernel_rfl
  z51 := fun _ => by kernel_rfl
  v51 := fun _ => by kernel_rfl
  t105 := by kernel_rfl
  a105 := fun _ => by kernel_rfl
  z105 := fun _ => by kernel_rfl
  v105 := fun _ => by kernel_rfl
  t119 := by kernel_rfl
  a119 := fun _ => by kernel_rfl
  z119 := fun _ => by kernel_rfl
  t138 := by kernel_rfl
  a138 := fun _ => by kernel_rfl
  z138 := fun _ => by kernel_rfl
  v138 := fun _ => by kernel_rfl
  t139 := by kernel_rfl
  a139 := fun _ => by kernel_rfl
  z139 := fun _ => by kernel_rfl
  v139 := fun _ => by kernel_rfl
  t146 := by kernel_rfl
  a146 := fun _ => by kernel_rfl
  z146 := fun _ => by kernel_rfl
  v146 := fun _ => by kernel_rfl
  g1 := by kernel_rfl
  g3 := by kernel_rfl
  g4 := by kernel_rfl
theorem i1041 : (Tryd.prog.info? (ren1041.t 9)).map (fun i => (i.zero, i.size, i.bytes)) = some (some (Value.string ByteArray.empty), 1, 16) := by kernel_rfl
def Sp.split (s sep : ByteArray) : List ByteArray := Lib.splitB sep 0 (Lib.countB s sep) s
theorem gls1041 : ∀ w : World, (∀ p ∈ Γ.gls, p.1 < w.heap.size ∧ p.2 w.heap[p.1]?) → ∃ m, w.cell? ⟨g1, 0, none⟩ = some (.int .i64 m) := fun w h => intAt0_cell (h (g1, intAt0) (List.mem_cons_self)).2
theorem split1041 (s sep : ByteArray) (h : s.size < 4294967281) (h1 : 1 ≤ sep.size) : Contract PP Γ n1041 [⟨false, [.c (.dat .str s)]⟩, ⟨false, [.c (.dat .str sep)]⟩] ⟨[⟨false, [.c (.row .str (Sp.split s sep) true)]⟩], []⟩ := by
  have hlen : (Sp.split s sep).length = Lib.countB s sep + 1 := Lib.splitB_all sep h1 0 _ s rfl
  have hle := Lib.countB_le sep h1 s.size s (Nat.le_refl _)
  refine contract_row_str (t := ren1041.t 9) (by kernel_rfl) (by rw [hlen]; unfold maxLen; omega) fun w hw => ?_
  obtain ⟨m, hm⟩ := gls1041 w hw
  rw [hlen]
  exact Any.strings_Split lays1041 i1041 s sep m w h hm h1
end Go.Proofs.GR.T

namespace Go.Proofs.GR.T
open Go Go.Proofs Go.Proofs.GR
abbrev VA := Int × Int × ByteArray × ByteArray × V3
abbrev RT := Rose VA
namespace Sp
end Sp
theorem condB (c : Bool) (a b : Bool) : some (rBo (bif c then a else b)) = bif c then some (rBo a) else some (rBo b) := by cases c <;> rfl
end Go.Proofs.GR.T

set_option maxRecDepth 100000
set_option maxHeartbeats 100000000
namespace Go.Proofs.GR.T
open Go Go.Proofs Go.Proofs.GR
end Go.Proofs.GR.T

set_option maxRecDepth 100000
set_option maxHeartbeats 100000000
namespace Go.Proofs.GR.T
open Go Go.Proofs Go.Proofs.GR
mutual
def Sp.fitT : RT → Bool
  | .mk _ ks => Sp.fitTs ks
def Sp.fitTs : List RT → Bool
  | [] => true
  | r :: l => Nat.ble (r :: l).length 1000000000000 && (Sp.fitT r && Sp.fitTs l)
end
def Sp.eqVt (x y : V3) : Bool := (Sp.f86 x.1 x.2.1 x.2.2 y.1 y.2.1 y.2.2).1
def Sp.eqA (a b : VA) : Bool :=
  bif a.1 != b.1 then false else bif a.2.1 != b.2.1 then false else bif !(a.2.2.1.toList == b.2.2.1.toList) then false else bif !(a.2.2.2.1.toList == b.2.2.2.1.toList) then false else bif !Sp.eqVt a.2.2.2.2 b.2.2.2.2 then false else true
mutual
def Sp.eqT : RT → RT → Bool
  | .mk a ks, .mk b js => bif !Sp.eqA a b then false else Sp.eqTs ks js
def Sp.eqTs : List RT → List RT → Bool
  | [], [] => true
  | r :: l, s :: m => bif !Sp.eqT r s then false else Sp.eqTs l m
  | _, _ => false
end
end Go.Proofs.GR.T

set_option maxRecDepth 100000
set_option maxHeartbeats 100000000
namespace Go.Proofs.GR.T
open Go Go.Proofs Go.Proofs.GR
mutual
def Sp.wT : RT → Nat
  | .mk _ ks => 7 + Sp.wTs ks
def Sp.wTs : List RT → Nat
  | [] => 0
  | r :: l => Sp.wT r + Sp.wTs l
end
def Sp.markA (k : Int) : VA := (k, k + 1, Sp.mText (k + 2), Sp.mText (k + 3), (k + 4, k + 5, Sp.mText (k + 6)))
mutual
def Sp.markT : RT → Int → RT
  | .mk _ ks, k => .mk (Sp.markA k) (Sp.markTs ks (k + 7))
def Sp.markTs : List RT → Int → List RT
  | [], _ => []
  | r :: l, k => Sp.markT r k :: Sp.markTs l (k + (Sp.wT r : Int))
end
end Go.Proofs.GR.T

set_option maxRecDepth 100000
set_option maxHeartbeats 100000000
namespace Go.Proofs.GR.T
open Go Go.Proofs Go.Proofs.GR
def Sp.heldA (a : VA) (k : Int) : Bool :=
  bif a.1 != k then false else bif a.2.1 != k + 1 then false else bif !(a.2.2.1.toList == (Sp.mText (k + 2)).toList) then false else bif !(a.2.2.2.1.toList == (Sp.mText (k + 3)).toList) then false else
  bif a.2.2.2.2.1 != k + 4 then false else bif a.2.2.2.2.2.1 != k + 5 then false else bif !(a.2.2.2.2.2.2.toList == (Sp.mText (k + 6)).toList) then false else true
mutual
def Sp.heldT : RT → Int → Int
  | .mk a ks, k => bif Sp.heldA a k then Sp.heldTs ks (k + 7) else -1
def Sp.heldTs : List RT → Int → Int
  | [], k => k
  | r :: l, k => bif decide (Sp.heldT r k < 0) then -1 else Sp.heldTs l (Sp.heldT r k)
end
end Go.Proofs.GR.T

set_option maxRecDepth 100000
set_option maxHeartbeats 100000000
namespace Go.Proofs.GR.T
open Go Go.Proofs Go.Proofs.GR
noncomputable def e1041 : Ent := { f := n1041, ins := [Sh.one cS, Sh.one cS], outs := [Sh.one (C0.row .str)], upd := [], pre := fun a => Nat.blt (ByteArray.size a.1) 4294967281 && Nat.ble 1 (ByteArray.size a.2), spec := fun a => Sp.split a.1 a.2, wrt := fun _ => () }
theorem e1041_ok : Valid PP Γ e1041 := fun a ha => by
  obtain ⟨h1, h2⟩ := Bool.and_eq_true_iff.1 ha
  exact split1041 a.1 a.2 (Nat.le_of_ble_eq_true h1) (Nat.le_of_ble_eq_true h2)
def Sp.f217 (x0 : Int) := (bif decide (x0 ≥ (97 : Int)) then (bif decide (x0 ≤ (122 : Int)) then (true, ()) else (bif decide (x0 ≥ (65 : Int)) then (bif decide (x0 ≤ (90 : Int)) then (true, ()) else (x0 == (95 : Int), ())) else (x0 == (95 : Int), ()))) else (bif decide (x0 ≥ (65 : Int)) then (bif decide (x0 ≤ (90 : Int)) then (true, ()) else (x0 == (95 : Int), ())) else (x0 == (95 : Int), ())))
noncomputable def e217 : Ent := { f := 175, ins := [Sh.one (C0.dat (Ty.int IntKind.u8))], outs := [Sh.one (C0.dat Ty.bool)], upd := [], pre := fun a => true, spec := fun a => (Sp.f217 a).1, wrt := fun a => (Sp.f217 a).2 }
def f217_g (v : denS [Sh.one (C0.dat Ty.bool)] × denS []) : Res := ⟨mkS [Sh.one (C0.dat Ty.bool)] v.1, mkU [] v.2⟩
theorem f217_raw (x0 : Int) : abody Γ (orc []) 0 175 [XV.mk false [X.c (X0.dat (Ty.int IntKind.u8) x0)]] = bif decide (x0 ≥ (97 : Int)) then bif decide (x0 ≤ (122 : Int)) then some (Res.mk [XV.mk false [X.c (X0.dat Ty.bool true)]] []) else bif decide (x0 ≥ (65 : Int)) then bif decide (x0 ≤ (90 : Int)) then some (Res.mk [XV.mk false [X.c (X0.dat Ty.bool true)]] []) else some (Res.mk [XV.mk false [X.c (X0.dat Ty.bool (x0 == (95 : Int)))]] []) else some (Res.mk [XV.mk false [X.c (X0.dat Ty.bool (x0 == (95 : Int)))]] []) else bif decide (x0 ≥ (65 : Int)) then bif decide (x0 ≤ (90 : Int)) then some (Res.mk [XV.mk false [X.c (X0.dat Ty.bool true)]] []) else some (Res.mk [XV.mk false [X.c (X0.dat Ty.bool (x0 == (95 : Int)))]] []) else some (Res.mk [XV.mk false [X.c (X0.dat Ty.bool (x0 == (95 : Int)))]] []) := by kernel_rfl
theorem f217_form (x0 : Int) : (bif decide (x0 ≥ (97 : Int)) then bif decide (x0 ≤ (122 : Int)) then some (Res.mk [XV.mk false [X.c (X0.dat Ty.bool true)]] []) else bif decide (x0 ≥ (65 : Int)) then bif decide (x0 ≤ (90 : Int)) then some (Res.mk [XV.mk false [X.c (X0.dat Ty.bool true)]] []) else some (Res.mk [XV.mk false [X.c (X0.dat Ty.bool (x0 == (95 : Int)))]] []) else some (Res.mk [XV.mk false [X.c (X0.dat Ty.bool (x0 == (95 : Int)))]] []) else bif decide (x0 ≥ (65 : Int)) then bif decide (x0 ≤ (90 : Int)) then some (Res.mk [XV.mk false [X.c (X0.dat Ty.bool true)]] []) else some (Res.mk [XV.mk false [X.c (X0.dat Ty.bool (x0 == (95 : Int)))]] []) else some (Res.mk [XV.mk false [X.c (X0.dat Ty.bool (x0 == (95 : Int)))]] [])) = some (f217_g (Sp.f217 x0)) := by
  unfold Sp.f217
  exact (cond_plain f217_g ((cond_plain f217_g (rfl) ((cond_plain f217_g ((cond_plain f217_g (rfl) (rfl))) (rfl))))) ((cond_plain f217_g ((cond_plain f217_g (rfl) (rfl))) (rfl))))
theorem e217_ok : Valid PP Γ e217 := valid_auto ok vnil fun a => (f217_raw a).trans (f217_form a)

def Sp.f218 (x0 : Int) := (bif decide (x0 ≥ (48 : Int)) then (decide (x0 ≤ (57 : Int)), ()) else (false, ()))
noncomputable def e218 : Ent := { f := 176, ins := [Sh.one (C0.dat (Ty.int IntKind.u8))], outs := [Sh.one (C0.dat Ty.bool)], upd := [], pre := fun a => true, spec := fun a => (Sp.f218 a).1, wrt := fun a => (Sp.f218 a).2 }
def f218_g (v : denS [Sh.one (C0.dat Ty.bool)] × denS []) : Res := ⟨mkS [Sh.one (C0.dat Ty.bool)] v.1, mkU [] v.2⟩
theorem f218_raw (x0 : Int) : abody Γ (orc []) 0 176 [XV.mk false [X.c (X0.dat (Ty.int IntKind.u8) x0)]] = bif decide (x0 ≥ (48 : Int)) then some (Res.mk [XV.mk false [X.c (X0.dat Ty.bool (decide (x0 ≤ (57 : Int))))]] []) else some (Res.mk [XV.mk false [X.c (X0.dat Ty.bool false)]] []) := by kernel_rfl
theorem f218_form (x0 : Int) : (bif decide (x0 ≥ (48 : Int)) then some (Res.mk [XV.mk false [X.c (X0.dat Ty.bool (decide (x0 ≤ (57 : Int))))]] []) else some (Res.mk [XV.mk false [X.c (X0.dat Ty.bool false)]] [])) = some (f218_g (Sp.f218 x0)) := by
  unfold Sp.f218
  exact (cond_plain f218_g (rfl) (rfl))
theorem e218_ok : Valid PP Γ e218 := valid_auto ok vnil fun a => (f218_raw a).trans (f218_form a)

def Sp.wordB (b : Int) : Bool := bif !(Sp.f217 b).1 then (Sp.f218 b).1 else true
def Sp.isName : List Int → Bool
  | [] => false
  | b :: r => bif decide (r.length + 1 > 40) then false else bif !(Sp.f217 b).1 then false else Sp.allW Sp.wordB r
noncomputable def f214_L0 (n m0 : Nat) (y0 : ByteArray) (y1 : Int) : Option Res := loopAt Γ (orc [e217, e218]) n (120 : Nat) (0 : Nat) [] [Pth.r, Pth.r, Pth.l, Pth.r, Pth.b] m0 (St.mk [Slot.val (Val.one (Cell.dat Ty.str y0)), Slot.nix, Slot.nix, Slot.val (Val.one (Cell.dat (Ty.int IntKind.i64) y1)), Slot.nix, Slot.nix, Slot.nix, Slot.nix, Slot.nix, Slot.nix, Slot.nix, Slot.nix, Slot.nix, Slot.nix, Slot.nix, Slot.nix, Slot.nix, Slot.nix, Slot.nix, Slot.nix, Slot.nix, Slot.nix, Slot.nix, Slot.nix, Slot.nix, Slot.nix, Slot.nix, Slot.nix, Slot.nix, Slot.nix, Slot.nix, Slot.nix, Slot.nix, Slot.nix, Slot.nix, Slot.nix] [])
theorem f214_L0_step (n m0 : Nat) (y0 : ByteArray) (y1 : Int) : f214_L0 n (m0 + 1) y0 y1 = bif decide (y1 < (↑y0.size : Int)) then chk (decide ((0 : Int) ≤ y1) && decide (y1 < (↑y0.size : Int))) (bif !(Sp.f217 ((strBytes y0).getD y1.toNat (0 : Int))).1 then chk (decide ((0 : Int) ≤ y1) && decide (y1 < (↑y0.size : Int))) (bif !(Sp.f218 ((strBytes y0).getD y1.toNat (0 : Int))).1 then some (Res.mk [XV.mk false [X.c (X0.dat Ty.bool false)]] []) else f214_L0 n m0 y0 (IntKind.i64.wrap (y1 + (1 : Int)))) else f214_L0 n m0 y0 (IntKind.i64.wrap (y1 + (1 : Int)))) else some (Res.mk [XV.mk false [X.c (X0.dat Ty.bool true)]] []) := by kernel_rfl
theorem f214_raw (n : Nat) (x0 : ByteArray) : abody Γ (orc [e217, e218]) n 120 [XV.mk false [X.c (X0.dat Ty.str x0)]] = bif decide ((↑x0.size : Int) < (1 : Int)) then some (Res.mk [XV.mk false [X.c (X0.dat Ty.bool false)]] []) else bif decide ((↑x0.size : Int) > (40 : Int)) then some (Res.mk [XV.mk false [X.c (X0.dat Ty.bool false)]] []) else chk (decide ((0 : Int) < (↑x0.size : Int))) (bif !(Sp.f217 ((strBytes x0).getD (0 : Nat) (0 : Int))).1 then some (Res.mk [XV.mk false [X.c (X0.dat Ty.bool false)]] []) else f214_L0 n n x0 (1 : Int)) := by kernel_rfl

noncomputable def e214 : Ent := { f := n214, ins := [Sh.one cS], outs := [Sh.one cB], upd := [], pre := fun _ => true, spec := fun a => Sp.isName (strBytes a), wrt := fun _ => () }
theorem e214_core (t : ByteArray) : ∃ n, abody Γ (orc [e217, e218]) n n214 [XV.mk false [X.c (X0.dat Ty.str t)]] = some (rBo (Sp.isName (strBytes t))) := by
  refine ⟨41, (f214_raw _ t).trans ?_⟩
  have hs := strBytes_len t
  cases hb : strBytes t with
  | nil =>
    rw [hb] at hs
    have hs : 0 = t.size := hs
    rw [decide_eq_true (show (t.size : Int) < 1 by omega)]
    rfl
  | cons b r =>
    rw [hb, List.length_cons] at hs
    rw [decide_eq_false (show ¬ (t.size : Int) < 1 by omega), cond_false, decide_eq_true (show (0 : Int) < t.size by omega), chkT]
    show _ = some (rBo (bif decide (r.length + 1 > 40) then false else bif !(Sp.f217 b).1 then false else Sp.allW Sp.wordB r))
    rw [condB, condB]
    by_cases hc : (t.size : Int) > 40
    · rw [decide_eq_true hc, decide_eq_true (show r.length + 1 > 40 by omega)]; rfl
    · rw [decide_eq_false hc, decide_eq_false (show ¬ r.length + 1 > 40 by omega), cond_false, cond_false, List.getD_cons_zero]
      cases (Sp.f217 b).1 with
      | false => rfl
      | true =>
        rw [Bool.not_true, cond_false, cond_false]
        have := all_loop (p := Sp.wordB) (R := rBo) (b :: r) (fun m k => f214_L0 41 m t k) (fun m k hk => by
          show f214_L0 _ _ _ _ = _
          rw [f214_L0_step, ← hs, nat_ge (by simpa using hk), cond_false]) (fun m k h => by
          show f214_L0 _ _ _ _ = _
          have h' : k < r.length + 1 := by simpa using h
          rw [f214_L0_step, ← hs, nat_lt h', cond_true, guard0, chkT, chkT, hb, getD_nat (b :: r) k _ h, next64 h' (by omega)]
          unfold Sp.wordB
          cases (Sp.f217 (b :: r)[k]).1 <;> cases (Sp.f218 (b :: r)[k]).1 <;> rfl) r.length 1 41 (by simp; omega) (by omega)
        exact this
theorem e214_ok : Valid PP Γ e214 := valid_of ok (vcons e217_ok (vcons e218_ok vnil)) fun a _ => e214_core a
def Sp.f208 (x0 : ByteArray) := (Sp.isName (strBytes x0), ())
noncomputable def e208 : Ent := { f := 70, ins := [Sh.one (C0.dat Ty.str)], outs := [Sh.one (C0.dat Ty.bool)], upd := [], pre := fun a => true, spec := fun a => (Sp.f208 a).1, wrt := fun a => (Sp.f208 a).2 }
def f208_g (v : denS [Sh.one (C0.dat Ty.bool)] × denS []) : Res := ⟨mkS [Sh.one (C0.dat Ty.bool)] v.1, mkU [] v.2⟩
theorem f208_raw (x0 : ByteArray) : abody Γ (orc [e214]) 0 70 [XV.mk false [X.c (X0.dat Ty.str x0)]] = some (Res.mk [XV.mk false [X.c (X0.dat Ty.bool (Sp.isName (strBytes x0)))]] []) := by kernel_rfl
theorem f208_form (x0 : ByteArray) : (some (Res.mk [XV.mk false [X.c (X0.dat Ty.bool (Sp.isName (strBytes x0)))]] [])) = some (f208_g (Sp.f208 x0)) := by
  unfold Sp.f208
  exact rfl
theorem e208_ok : Valid PP Γ e208 := valid_auto ok (vcons e214_ok vnil) fun a => (f208_raw a).trans (f208_form a)

def Sp.f209 := ([ByteArray.mk #[(115 : UInt8), (101 : UInt8), (108 : UInt8), (101 : UInt8), (99 : UInt8), (116 : UInt8)], ByteArray.mk #[(102 : UInt8), (114 : UInt8), (111 : UInt8), (109 : UInt8)], ByteArray.mk #[(106 : UInt8), (111 : UInt8), (105 : UInt8), (110 : UInt8)], ByteArray.mk #[(111 : UInt8), (110 : UInt8)], ByteArray.mk #[(119 : UInt8), (104 : UInt8), (101 : UInt8), (114 : UInt8), (101 : UInt8)], ByteArray.mk #[(103 : UInt8), (114 : UInt8), (111 : UInt8), (117 : UInt8), (112 : UInt8)], ByteArray.mk #[(98 : UInt8), (121 : UInt8)], ByteArray.mk #[(111 : UInt8), (114 : UInt8), (100 : UInt8), (101 : UInt8), (114 : UInt8)], ByteArray.mk #[(108 : UInt8), (105 : UInt8), (109 : UInt8), (105 : UInt8), (116 : UInt8)], ByteArray.mk #[(100 : UInt8), (101 : UInt8), (115 : UInt8), (99 : UInt8)], ByteArray.mk #[(105 : UInt8), (110 : UInt8), (115 : UInt8), (101 : UInt8), (114 : UInt8), (116 : UInt8)], ByteArray.mk #[(105 : UInt8), (110 : UInt8), (116 : UInt8), (111 : UInt8)], ByteArray.mk #[(118 : UInt8), (97 : UInt8), (108 : UInt8), (117 : UInt8), (101 : UInt8), (115 : UInt8)], ByteArray.mk #[(117 : UInt8), (112 : UInt8), (100 : UInt8), (97 : UInt8), (116 : UInt8), (101 : UInt8)], ByteArray.mk #[(115 : UInt8), (101 : UInt8), (116 : UInt8)], ByteArray.mk #[(100 : UInt8), (101 : UInt8), (108 : UInt8), (101 : UInt8), (116 : UInt8), (101 : UInt8)], ByteArray.mk #[(97 : UInt8), (110 : UInt8), (100 : UInt8)], ByteArray.mk #[(111 : UInt8), (114 : UInt8)], ByteArray.mk #[(110 : UInt8), (111 : UInt8), (116 : UInt8)], ByteArray.mk #[(105 : UInt8), (115 : UInt8)], ByteArray.mk #[(110 : UInt8), (117 : UInt8), (108 : UInt8), (108 : UInt8)], ByteArray.mk #[(116 : UInt8), (114 : UInt8), (117 : UInt8), (101 : UInt8)], ByteArray.mk #[(102 : UInt8), (97 : UInt8), (108 : UInt8), (115 : UInt8), (101 : UInt8)], ByteArray.mk #[(99 : UInt8), (111 : UInt8), (117 : UInt8), (110 : UInt8), (116 : UInt8)], ByteArray.mk #[(115 : UInt8), (117 : UInt8), (109 : UInt8)], ByteArray.mk #[(109 : UInt8), (105 : UInt8), (110 : UInt8)], ByteArray.mk #[(109 : UInt8), (97 : UInt8), (120 : UInt8)], ByteArray.mk #[(97 : UInt8), (115 : UInt8)]], ())
noncomputable def e209 : Ent := { f := 162, ins := [], outs := [Sh.one (C0.row Ty.str)], upd := [], pre := fun a => true, spec := fun a => (Sp.f209).1, wrt := fun a => (Sp.f209).2 }
def f209_g (v : denS [Sh.one (C0.row Ty.str)] × denS []) : Res := ⟨mkS [Sh.one (C0.row Ty.str)] v.1, mkU [] v.2⟩
theorem f209_raw : abody Γ (orc []) 0 162 [] = some (Res.mk [XV.mk false [X.c (X0.row Ty.str [ByteArray.mk #[(115 : UInt8), (101 : UInt8), (108 : UInt8), (101 : UInt8), (99 : UInt8), (116 : UInt8)], ByteArray.mk #[(102 : UInt8), (114 : UInt8), (111 : UInt8), (109 : UInt8)], ByteArray.mk #[(106 : UInt8), (111 : UInt8), (105 : UInt8), (110 : UInt8)], ByteArray.mk #[(111 : UInt8), (110 : UInt8)], ByteArray.mk #[(119 : UInt8), (104 : UInt8), (101 : UInt8), (114 : UInt8), (101 : UInt8)], ByteArray.mk #[(103 : UInt8), (114 : UInt8), (111 : UInt8), (117 : UInt8), (112 : UInt8)], ByteArray.mk #[(98 : UInt8), (121 : UInt8)], ByteArray.mk #[(111 : UInt8), (114 : UInt8), (100 : UInt8), (101 : UInt8), (114 : UInt8)], ByteArray.mk #[(108 : UInt8), (105 : UInt8), (109 : UInt8), (105 : UInt8), (116 : UInt8)], ByteArray.mk #[(100 : UInt8), (101 : UInt8), (115 : UInt8), (99 : UInt8)], ByteArray.mk #[(105 : UInt8), (110 : UInt8), (115 : UInt8), (101 : UInt8), (114 : UInt8), (116 : UInt8)], ByteArray.mk #[(105 : UInt8), (110 : UInt8), (116 : UInt8), (111 : UInt8)], ByteArray.mk #[(118 : UInt8), (97 : UInt8), (108 : UInt8), (117 : UInt8), (101 : UInt8), (115 : UInt8)], ByteArray.mk #[(117 : UInt8), (112 : UInt8), (100 : UInt8), (97 : UInt8), (116 : UInt8), (101 : UInt8)], ByteArray.mk #[(115 : UInt8), (101 : UInt8), (116 : UInt8)], ByteArray.mk #[(100 : UInt8), (101 : UInt8), (108 : UInt8), (101 : UInt8), (116 : UInt8), (101 : UInt8)], ByteArray.mk #[(97 : UInt8), (110 : UInt8), (100 : UInt8)], ByteArray.mk #[(111 : UInt8), (114 : UInt8)], ByteArray.mk #[(110 : UInt8), (111 : UInt8), (116 : UInt8)], ByteArray.mk #[(105 : UInt8), (115 : UInt8)], ByteArray.mk #[(110 : UInt8), (117 : UInt8), (108 : UInt8), (108 : UInt8)], ByteArray.mk #[(116 : UInt8), (114 : UInt8), (117 : UInt8), (101 : UInt8)], ByteArray.mk #[(102 : UInt8), (97 : UInt8), (108 : UInt8), (115 : UInt8), (101 : UInt8)], ByteArray.mk #[(99 : UInt8), (111 : UInt8), (117 : UInt8), (110 : UInt8), (116 : UInt8)], ByteArray.mk #[(115 : UInt8), (117 : UInt8), (109 : UInt8)], ByteArray.mk #[(109 : UInt8), (105 : UInt8), (110 : UInt8)], ByteArray.mk #[(109 : UInt8), (97 : UInt8), (120 : UInt8)], ByteArray.mk #[(97 : UInt8), (115 : UInt8)]] true)]] []) := by kernel_rfl
theorem f209_form : (some (Res.mk [XV.mk false [X.c (X0.row Ty.str [ByteArray.mk #[(115 : UInt8), (101 : UInt8), (108 : UInt8), (101 : UInt8), (99 : UInt8), (116 : UInt8)], ByteArray.mk #[(102 : UInt8), (114 : UInt8), (111 : UInt8), (109 : UInt8)], ByteArray.mk #[(106 : UInt8), (111 : UInt8), (105 : UInt8), (110 : UInt8)], ByteArray.mk #[(111 : UInt8), (110 : UInt8)], ByteArray.mk #[(119 : UInt8), (104 : UInt8), (101 : UInt8), (114 : UInt8), (101 : UInt8)], ByteArray.mk #[(103 : UInt8), (114 : UInt8), (111 : UInt8), (117 : UInt8), (112 : UInt8)], ByteArray.mk #[(98 : UInt8), (121 : UInt8)], ByteArray.mk #[(111 : UInt8), (114 : UInt8), (100 : UInt8), (101 : UInt8), (114 : UInt8)], ByteArray.mk #[(108 : UInt8), (105 : UInt8), (109 : UInt8), (105 : UInt8), (116 : UInt8)], ByteArray.mk #[(100 : UInt8), (101 : UInt8), (115 : UInt8), (99 : UInt8)], ByteArray.mk #[(105 : UInt8), (110 : UInt8), (115 : UInt8), (101 : UInt8), (114 : UInt8), (116 : UInt8)], ByteArray.mk #[(105 : UInt8), (110 : UInt8), (116 : UInt8), (111 : UInt8)], ByteArray.mk #[(118 : UInt8), (97 : UInt8), (108 : UInt8), (117 : UInt8), (101 : UInt8), (115 : UInt8)], ByteArray.mk #[(117 : UInt8), (112 : UInt8), (100 : UInt8), (97 : UInt8), (116 : UInt8), (101 : UInt8)], ByteArray.mk #[(115 : UInt8), (101 : UInt8), (116 : UInt8)], ByteArray.mk #[(100 : UInt8), (101 : UInt8), (108 : UInt8), (101 : UInt8), (116 : UInt8), (101 : UInt8)], ByteArray.mk #[(97 : UInt8), (110 : UInt8), (100 : UInt8)], ByteArray.mk #[(111 : UInt8), (114 : UInt8)], ByteArray.mk #[(110 : UInt8), (111 : UInt8), (116 : UInt8)], ByteArray.mk #[(105 : UInt8), (115 : UInt8)], ByteArray.mk #[(110 : UInt8), (117 : UInt8), (108 : UInt8), (108 : UInt8)], ByteArray.mk #[(116 : UInt8), (114 : UInt8), (117 : UInt8), (101 : UInt8)], ByteArray.mk #[(102 : UInt8), (97 : UInt8), (108 : UInt8), (115 : UInt8), (101 : UInt8)], ByteArray.mk #[(99 : UInt8), (111 : UInt8), (117 : UInt8), (110 : UInt8), (116 : UInt8)], ByteArray.mk #[(115 : UInt8), (117 : UInt8), (109 : UInt8)], ByteArray.mk #[(109 : UInt8), (105 : UInt8), (110 : UInt8)], ByteArray.mk #[(109 : UInt8), (97 : UInt8), (120 : UInt8)], ByteArray.mk #[(97 : UInt8), (115 : UInt8)]] true)]] [])) = some (f209_g (Sp.f209)) := by
  unfold Sp.f209
  exact rfl
theorem e209_ok : Valid PP Γ e209 := valid_auto ok vnil fun a => (f209_raw ).trans (f209_form )

noncomputable def f194_L0 (n m0 : Nat) (y0 : ByteArray) (y1 : Int) : Option Res := loopAt Γ (orc [e208, e209]) n (103 : Nat) (0 : Nat) [] [Pth.r, Pth.r, Pth.l, Pth.r, Pth.b] m0 (St.mk [Slot.val (Val.one (Cell.dat Ty.str y0)), Slot.nix, Slot.nix, Slot.val (Val.one (Cell.dat (Ty.int IntKind.i64) y1)), Slot.nix, Slot.nix, Slot.nix, Slot.nix, Slot.nix, Slot.nix, Slot.nix, Slot.nix, Slot.nix, Slot.nix, Slot.nix, Slot.nix, Slot.nix, Slot.nix, Slot.nix] [])
theorem f194_L0_step (n m0 : Nat) (y0 : ByteArray) (y1 : Int) : f194_L0 n (m0 + 1) y0 y1 = bif decide (y1 < (28 : Int)) then chk (decide ((0 : Int) ≤ y1) && decide (y1 < (28 : Int))) (bif (Sp.f209.1.getD y1.toNat (ByteArray.mk #[])).toList == y0.toList then some (Res.mk [XV.mk false [X.c (X0.dat Ty.bool false)]] []) else f194_L0 n m0 y0 (IntKind.i64.wrap (y1 + (1 : Int)))) else some (Res.mk [XV.mk false [X.c (X0.dat Ty.bool true)]] []) := by kernel_rfl
theorem f194_raw (n : Nat) (x0 : ByteArray) : abody Γ (orc [e208, e209]) n 103 [XV.mk false [X.c (X0.dat Ty.str x0)]] = bif !(Sp.f208 x0).1 then some (Res.mk [XV.mk false [X.c (X0.dat Ty.bool false)]] []) else f194_L0 n n x0 (0 : Int) := by kernel_rfl

def Sp.isFreeS (t : ByteArray) : Bool := bif !(Sp.isName (strBytes t)) then false else Sp.allW (fun w : ByteArray => !(w.toList == t.toList)) Sp.f209.1
noncomputable def e194 : Ent := { f := n194, ins := [Sh.one cS], outs := [Sh.one cB], upd := [], pre := fun _ => true, spec := fun a => Sp.isFreeS a, wrt := fun _ => () }
theorem words_len : List.length Sp.f209.1 = 28 := rfl
theorem e194_core (t : ByteArray) : ∃ n, abody Γ (orc [e208, e209]) n n194 [XV.mk false [X.c (X0.dat Ty.str t)]] = some (rBo (Sp.isFreeS t)) := by
  refine ⟨29, (f194_raw _ t).trans ?_⟩
  unfold Sp.isFreeS
  rw [condB]
  show (bif !(Sp.isName (strBytes t)) then _ else _) = _
  have st := fun m k => f194_L0_step 29 m t k
  have hl := words_len
  revert st hl
  generalize Sp.f209.1 = ws
  intro st hl
  cases Sp.isName (strBytes t) with
  | false => rfl
  | true =>
    have := all_loop (p := fun w : ByteArray => !(w.toList == t.toList)) (R := rBo) ws (fun m k => f194_L0 29 m t k) (fun m k hk => by
      show f194_L0 _ _ _ _ = _
      rw [st, decide_eq_false (show ¬ (k : Int) < 28 by omega), cond_false]) (fun m k h => by
      show f194_L0 _ _ _ _ = _
      have h' : k < 28 := by omega
      rw [st, decide_eq_true (show (k : Int) < 28 by omega), cond_true, guard0, chkT, getD_nat ws k _ h, next64 h' (by omega), Bool.not_not]) 28 0 29 (by omega) (by omega)
    rw [List.drop_zero] at this
    rw [Bool.not_true, cond_false, cond_false]
    exact this
theorem e194_ok : Valid PP Γ e194 := valid_of ok (vcons e208_ok (vcons e209_ok vnil)) fun a _ => e194_core a
def Sp.f1039 (x0 : Int) := (bif decide (x0 ≥ (97 : Int)) then (bif decide (x0 ≤ (122 : Int)) then (true, ()) else (bif decide (x0 ≥ (65 : Int)) then (bif decide (x0 ≤ (90 : Int)) then (true, ()) else (x0 == (95 : Int), ())) else (x0 == (95 : Int), ()))) else (bif decide (x0 ≥ (65 : Int)) then (bif decide (x0 ≤ (90 : Int)) then (true, ()) else (x0 == (95 : Int), ())) else (x0 == (95 : Int), ())))
noncomputable def e1039 : Ent := { f := 131, ins := [Sh.one (C0.dat (Ty.int IntKind.u8))], outs := [Sh.one (C0.dat Ty.bool)], upd := [], pre := fun a => true, spec := fun a => (Sp.f1039 a).1, wrt := fun a => (Sp.f1039 a).2 }
def f1039_g (v : denS [Sh.one (C0.dat Ty.bool)] × denS []) : Res := ⟨mkS [Sh.one (C0.dat Ty.bool)] v.1, mkU [] v.2⟩
theorem f1039_raw (x0 : Int) : abody Γ (orc []) 0 131 [XV.mk false [X.c (X0.dat (Ty.int IntKind.u8) x0)]] = bif decide (x0 ≥ (97 : Int)) then bif decide (x0 ≤ (122 : Int)) then some (Res.mk [XV.mk false [X.c (X0.dat Ty.bool true)]] []) else bif decide (x0 ≥ (65 : Int)) then bif decide (x0 ≤ (90 : Int)) then some (Res.mk [XV.mk false [X.c (X0.dat Ty.bool true)]] []) else some (Res.mk [XV.mk false [X.c (X0.dat Ty.bool (x0 == (95 : Int)))]] []) else some (Res.mk [XV.mk false [X.c (X0.dat Ty.bool (x0 == (95 : Int)))]] []) else bif decide (x0 ≥ (65 : Int)) then bif decide (x0 ≤ (90 : Int)) then some (Res.mk [XV.mk false [X.c (X0.dat Ty.bool true)]] []) else some (Res.mk [XV.mk false [X.c (X0.dat Ty.bool (x0 == (95 : Int)))]] []) else some (Res.mk [XV.mk false [X.c (X0.dat Ty.bool (x0 == (95 : Int)))]] []) := by kernel_rfl
theorem f1039_form (x0 : Int) : (bif decide (x0 ≥ (97 : Int)) then bif decide (x0 ≤ (122 : Int)) then some (Res.mk [XV.mk false [X.c (X0.dat Ty.bool true)]] []) else bif decide (x0 ≥ (65 : Int)) then bif decide (x0 ≤ (90 : Int)) then some (Res.mk [XV.mk false [X.c (X0.dat Ty.bool true)]] []) else some (Res.mk [XV.mk false [X.c (X0.dat Ty.bool (x0 == (95 : Int)))]] []) else some (Res.mk [XV.mk false [X.c (X0.dat Ty.bool (x0 == (95 : Int)))]] []) else bif decide (x0 ≥ (65 : Int)) then bif decide (x0 ≤ (90 : Int)) then some (Res.mk [XV.mk false [X.c (X0.dat Ty.bool true)]] []) else some (Res.mk [XV.mk false [X.c (X0.dat Ty.bool (x0 == (95 : Int)))]] []) else some (Res.mk [XV.mk false [X.c (X0.dat Ty.bool (x0 == (95 : Int)))]] [])) = some (f1039_g (Sp.f1039 x0)) := by
  unfold Sp.f1039
  exact (cond_plain f1039_g ((cond_plain f1039_g (rfl) ((cond_plain f1039_g ((cond_plain f1039_g (rfl) (rfl))) (rfl))))) ((cond_plain f1039_g ((cond_plain f1039_g (rfl) (rfl))) (rfl))))
theorem e1039_ok : Valid PP Γ e1039 := valid_auto ok vnil fun a => (f1039_raw a).trans (f1039_form a)

def Sp.f1040 (x0 : Int) := (bif decide (x0 ≥ (48 : Int)) then (decide (x0 ≤ (57 : Int)), ()) else (false, ()))
noncomputable def e1040 : Ent := { f := 132, ins := [Sh.one (C0.dat (Ty.int IntKind.u8))], outs := [Sh.one (C0.dat Ty.bool)], upd := [], pre := fun a => true, spec := fun a => (Sp.f1040 a).1, wrt := fun a => (Sp.f1040 a).2 }
def f1040_g (v : denS [Sh.one (C0.dat Ty.bool)] × denS []) : Res := ⟨mkS [Sh.one (C0.dat Ty.bool)] v.1, mkU [] v.2⟩
theorem f1040_raw (x0 : Int) : abody Γ (orc []) 0 132 [XV.mk false [X.c (X0.dat (Ty.int IntKind.u8) x0)]] = bif decide (x0 ≥ (48 : Int)) then some (Res.mk [XV.mk false [X.c (X0.dat Ty.bool (decide (x0 ≤ (57 : Int))))]] []) else some (Res.mk [XV.mk false [X.c (X0.dat Ty.bool false)]] []) := by kernel_rfl
theorem f1040_form (x0 : Int) : (bif decide (x0 ≥ (48 : Int)) then some (Res.mk [XV.mk false [X.c (X0.dat Ty.bool (decide (x0 ≤ (57 : Int))))]] []) else some (Res.mk [XV.mk false [X.c (X0.dat Ty.bool false)]] [])) = some (f1040_g (Sp.f1040 x0)) := by
  unfold Sp.f1040
  exact (cond_plain f1040_g (rfl) (rfl))
theorem e1040_ok : Valid PP Γ e1040 := valid_auto ok vnil fun a => (f1040_raw a).trans (f1040_form a)

noncomputable def f1036_L0 (n m0 : Nat) (y0 : ByteArray) (y1 : Int) (y2 : Int) : Option Res := loopAt Γ (orc [e1039, e1040, e70]) n (78 : Nat) (0 : Nat) [] [Pth.r, Pth.l, Pth.r, Pth.b] m0 (St.mk [Slot.val (Val.one (Cell.dat Ty.str y0)), Slot.nix, Slot.nix, Slot.nix, Slot.nix, Slot.val (Val.one (Cell.dat (Ty.int IntKind.i64) y1)), Slot.val (Val.one (Cell.dat (Ty.int IntKind.i64) y2)), Slot.nix, Slot.nix, Slot.nix, Slot.nix, Slot.nix, Slot.nix, Slot.nix, Slot.nix, Slot.nix, Slot.nix, Slot.nix, Slot.nix, Slot.nix, Slot.nix, Slot.nix, Slot.nix, Slot.nix, Slot.nix, Slot.nix, Slot.nix, Slot.nix, Slot.nix] [])
theorem f1036_L0_step (n m0 : Nat) (y0 : ByteArray) (y1 : Int) (y2 : Int) : f1036_L0 n (m0 + 1) y0 y1 y2 = bif decide (y2 < y1) then chk (decide ((0 : Int) ≤ y2) && decide (y2 < (↑y0.size : Int))) (bif !(Sp.f1039 ((strBytes y0).getD y2.toNat (0 : Int))).1 then bif y2 == (0 : Int) then some (Res.mk [XV.mk false [X.c (X0.dat Ty.bool false)]] []) else chk (decide ((0 : Int) ≤ y2) && decide (y2 < (↑y0.size : Int))) (bif !(Sp.f1040 ((strBytes y0).getD y2.toNat (0 : Int))).1 then some (Res.mk [XV.mk false [X.c (X0.dat Ty.bool false)]] []) else f1036_L0 n m0 y0 y1 (IntKind.i64.wrap (y2 + (1 : Int)))) else f1036_L0 n m0 y0 y1 (IntKind.i64.wrap (y2 + (1 : Int)))) else some (Res.mk [XV.mk false [X.c (X0.dat Ty.bool (Sp.f70 (↑y0.size : Int) (1 : Int) (40 : Int)).1)]] []) := by kernel_rfl
theorem f1036_raw (n : Nat) (x0 : ByteArray) : abody Γ (orc [e1039, e1040, e70]) n 78 [XV.mk false [X.c (X0.dat Ty.str x0)]] = f1036_L0 n n x0 (↑x0.size : Int) (0 : Int) := by kernel_rfl

theorem f1039_eq : Sp.f1039 = Sp.f217 := rfl
theorem f1040_eq : Sp.f1040 = Sp.f218 := rfl
noncomputable def e1036 : Ent := { f := n1036, ins := [Sh.one cS], outs := [Sh.one cB], upd := [], pre := fun a => Nat.ble (ByteArray.size a) 9223372036854775807, spec := fun a => Sp.isName (strBytes a), wrt := fun _ => () }
theorem f1036_step (n m : Nat) (t : ByteArray) (b : Int) (k : Nat) (h : k < t.size) (hb : (strBytes t).getD k 0 = b) (h0 : k ≠ 0) (hs : t.size ≤ 9223372036854775807) : f1036_L0 n (m + 1) t t.size k = bif !Sp.wordB b then some (rBo false) else f1036_L0 n m t t.size ((k + 1 : Nat) : Int) := by
  have e0 : ((k : Int) == 0) = false := by simp; omega
  rw [f1036_L0_step, nat_lt h, cond_true, guard0, chkT, chkT, next64 h hs, Int.toNat_natCast, hb, e0, f1039_eq, f1040_eq]
  unfold Sp.wordB
  cases (Sp.f217 b).1 <;> cases (Sp.f218 b).1 <;> rfl
theorem e1036_core (t : ByteArray) (hs : t.size ≤ 9223372036854775807) : ∃ n, abody Γ (orc [e1039, e1040, e70]) n n1036 [XV.mk false [X.c (X0.dat Ty.str t)]] = some (rBo (Sp.isName (strBytes t))) := by
  have hl := strBytes_len t
  refine ⟨t.size + 1, (f1036_raw _ t).trans ?_⟩
  cases hb : strBytes t with
  | nil =>
    rw [hb] at hl
    have hl : 0 = t.size := hl
    rw [f1036_L0_step, ← hl]
    rfl
  | cons b r =>
    rw [hb, List.length_cons] at hl
    show _ = some (rBo (bif decide (r.length + 1 > 40) then false else bif !(Sp.f217 b).1 then false else Sp.allW Sp.wordB r))
    have hend : (Sp.f70 (t.size : Int) 1 40).1 = !decide (r.length + 1 > 40) := by
      show (bif decide ((t.size : Int) ≥ 1) then (decide ((t.size : Int) ≤ 40), ()) else (false, ())).1 = _
      rw [decide_eq_true (show (t.size : Int) ≥ 1 by omega), cond_true]
      by_cases hc : r.length + 1 > 40
      · rw [decide_eq_true hc]; exact decide_eq_false (by omega)
      · rw [decide_eq_false hc]; exact decide_eq_true (by omega)
    have lp2 : ∀ (d k m : Nat), 0 < k → k + d = r.length + 1 → d < m → f1036_L0 (t.size + 1) m t t.size k = some (bif Sp.allW Sp.wordB ((b :: r).drop k) then rBo (!decide (r.length + 1 > 40)) else rBo false) := by
      intro d
      induction d with
      | zero =>
        intro k m h0 hk hm
        obtain ⟨m, rfl⟩ := succ_of hm
        rw [f1036_L0_step, nat_ge (by omega), cond_false, hend, List.drop_of_length_le (by rw [List.length_cons]; omega)]
        rfl
      | succ d ih =>
        intro k m h0 hk hm
        obtain ⟨m, rfl⟩ := succ_of hm
        have hk2 : k < (b :: r).length := by rw [List.length_cons]; omega
        rw [f1036_step _ _ t (b :: r)[k] k (by omega) (by rw [hb, List.getD, List.getElem?_eq_getElem hk2, Option.getD_some]) (by omega) hs, ih (k + 1) m (by omega) (by omega) (by omega), List.drop_eq_getElem_cons hk2, Sp.allW]
        cases Sp.wordB (b :: r)[k] <;> rfl
    have h1 : (0 : Nat) < t.size := by omega
    have st := f1036_L0_step (t.size + 1) t.size t t.size 0
    rw [decide_eq_true (show (0 : Int) < (t.size : Int) by omega), decide_eq_true (show (0 : Int) ≤ 0 by omega), Bool.and_self, cond_true, chkT, chkT, wrap64 (n := 0 + 1) (by omega) (by omega), hb, show ((0 : Int) == 0) = true from rfl, cond_true, f1039_eq] at st
    have st : f1036_L0 (t.size + 1) (t.size + 1) t t.size 0 = bif !(Sp.f217 b).1 then some (rBo false) else f1036_L0 (t.size + 1) t.size t t.size ((0 + 1 : Nat) : Int) := st
    rw [st, lp2 r.length 1 t.size (by omega) (by omega) (by omega), condB, condB]
    show (bif !(Sp.f217 b).1 then _ else some (bif Sp.allW Sp.wordB r then _ else _)) = _
    cases decide (r.length + 1 > 40) <;> cases (Sp.f217 b).1 <;> cases Sp.allW Sp.wordB r <;> rfl
theorem e1036_ok : Valid PP Γ e1036 := valid_of ok (vcons e1039_ok (vcons e1040_ok (vcons e70_ok vnil))) fun a ha => e1036_core a (Nat.le_of_ble_eq_true ha)
def Sp.f1037 := (Sp.split (ByteArray.mk (([(115 : UInt8), (101 : UInt8), (108 : UInt8), (101 : UInt8), (99 : UInt8), (116 : UInt8), (32 : UInt8), (102 : UInt8), (114 : UInt8), (111 : UInt8), (109 : UInt8), (32 : UInt8), (106 : UInt8), (111 : UInt8), (105 : UInt8), (110 : UInt8), (32 : UInt8), (111 : UInt8), (110 : UInt8), (32 : UInt8), (119 : UInt8), (104 : UInt8), (101 : UInt8), (114 : UInt8), (101 : UInt8), (32 : UInt8), (103 : UInt8), (114 : UInt8), (111 : UInt8), (117 : UInt8), (112 : UInt8), (32 : UInt8), (98 : UInt8), (121 : UInt8)].append [(32 : UInt8), (111 : UInt8), (114 : UInt8), (100 : UInt8), (101 : UInt8), (114 : UInt8), (32 : UInt8), (108 : UInt8), (105 : UInt8), (109 : UInt8), (105 : UInt8), (116 : UInt8), (32 : UInt8), (100 : UInt8), (101 : UInt8), (115 : UInt8), (99 : UInt8), (32 : UInt8), (105 : UInt8), (110 : UInt8), (115 : UInt8), (101 : UInt8), (114 : UInt8), (116 : UInt8), (32 : UInt8), (105 : UInt8), (110 : UInt8), (116 : UInt8), (111 : UInt8), (32 : UInt8), (118 : UInt8), (97 : UInt8), (108 : UInt8), (117 : UInt8), (101 : UInt8)]).append ([(115 : UInt8), (32 : UInt8), (117 : UInt8), (112 : UInt8), (100 : UInt8), (97 : UInt8), (116 : UInt8), (101 : UInt8), (32 : UInt8), (115 : UInt8), (101 : UInt8), (116 : UInt8), (32 : UInt8), (100 : UInt8), (101 : UInt8), (108 : UInt8), (101 : UInt8), (116 : UInt8), (101 : UInt8), (32 : UInt8), (97 : UInt8), (110 : UInt8), (100 : UInt8), (32 : UInt8), (111 : UInt8), (114 : UInt8), (32 : UInt8), (110 : UInt8), (111 : UInt8), (116 : UInt8), (32 : UInt8), (105 : UInt8), (115 : UInt8), (32 : UInt8), (110 : UInt8)].append [(117 : UInt8), (108 : UInt8), (108 : UInt8), (32 : UInt8), (116 : UInt8), (114 : UInt8), (117 : UInt8), (101 : UInt8), (32 : UInt8), (102 : UInt8), (97 : UInt8), (108 : UInt8), (115 : UInt8), (101 : UInt8), (32 : UInt8), (99 : UInt8), (111 : UInt8), (117 : UInt8), (110 : UInt8), (116 : UInt8), (32 : UInt8), (115 : UInt8), (117 : UInt8), (109 : UInt8), (32 : UInt8), (109 : UInt8), (105 : UInt8), (110 : UInt8), (32 : UInt8), (109 : UInt8), (97 : UInt8), (120 : UInt8), (32 : UInt8), (97 : UInt8), (115 : UInt8)])).toArray) (ByteArray.mk #[(32 : UInt8)]), ())
noncomputable def e1037 : Ent := { f := 167, ins := [], outs := [Sh.one (C0.row Ty.str)], upd := [], pre := fun a => true, spec := fun a => (Sp.f1037).1, wrt := fun a => (Sp.f1037).2 }
def f1037_g (v : denS [Sh.one (C0.row Ty.str)] × denS []) : Res := ⟨mkS [Sh.one (C0.row Ty.str)] v.1, mkU [] v.2⟩
theorem f1037_raw : abody Γ (orc [e1041]) 0 167 [] = some (Res.mk [XV.mk false [X.c (X0.row Ty.str (Sp.split (ByteArray.mk (([(115 : UInt8), (101 : UInt8), (108 : UInt8), (101 : UInt8), (99 : UInt8), (116 : UInt8), (32 : UInt8), (102 : UInt8), (114 : UInt8), (111 : UInt8), (109 : UInt8), (32 : UInt8), (106 : UInt8), (111 : UInt8), (105 : UInt8), (110 : UInt8), (32 : UInt8), (111 : UInt8), (110 : UInt8), (32 : UInt8), (119 : UInt8), (104 : UInt8), (101 : UInt8), (114 : UInt8), (101 : UInt8), (32 : UInt8), (103 : UInt8), (114 : UInt8), (111 : UInt8), (117 : UInt8), (112 : UInt8), (32 : UInt8), (98 : UInt8), (121 : UInt8)].append [(32 : UInt8), (111 : UInt8), (114 : UInt8), (100 : UInt8), (101 : UInt8), (114 : UInt8), (32 : UInt8), (108 : UInt8), (105 : UInt8), (109 : UInt8), (105 : UInt8), (116 : UInt8), (32 : UInt8), (100 : UInt8), (101 : UInt8), (115 : UInt8), (99 : UInt8), (32 : UInt8), (105 : UInt8), (110 : UInt8), (115 : UInt8), (101 : UInt8), (114 : UInt8), (116 : UInt8), (32 : UInt8), (105 : UInt8), (110 : UInt8), (116 : UInt8), (111 : UInt8), (32 : UInt8), (118 : UInt8), (97 : UInt8), (108 : UInt8), (117 : UInt8), (101 : UInt8)]).append ([(115 : UInt8), (32 : UInt8), (117 : UInt8), (112 : UInt8), (100 : UInt8), (97 : UInt8), (116 : UInt8), (101 : UInt8), (32 : UInt8), (115 : UInt8), (101 : UInt8), (116 : UInt8), (32 : UInt8), (100 : UInt8), (101 : UInt8), (108 : UInt8), (101 : UInt8), (116 : UInt8), (101 : UInt8), (32 : UInt8), (97 : UInt8), (110 : UInt8), (100 : UInt8), (32 : UInt8), (111 : UInt8), (114 : UInt8), (32 : UInt8), (110 : UInt8), (111 : UInt8), (116 : UInt8), (32 : UInt8), (105 : UInt8), (115 : UInt8), (32 : UInt8), (110 : UInt8)].append [(117 : UInt8), (108 : UInt8), (108 : UInt8), (32 : UInt8), (116 : UInt8), (114 : UInt8), (117 : UInt8), (101 : UInt8), (32 : UInt8), (102 : UInt8), (97 : UInt8), (108 : UInt8), (115 : UInt8), (101 : UInt8), (32 : UInt8), (99 : UInt8), (111 : UInt8), (117 : UInt8), (110 : UInt8), (116 : UInt8), (32 : UInt8), (115 : UInt8), (117 : UInt8), (109 : UInt8), (32 : UInt8), (109 : UInt8), (105 : UInt8), (110 : UInt8), (32 : UInt8), (109 : UInt8), (97 : UInt8), (120 : UInt8), (32 : UInt8), (97 : UInt8), (115 : UInt8)])).toArray) (ByteArray.mk #[(32 : UInt8)])) true)]] []) := by kernel_rfl
theorem f1037_form : (some (Res.mk [XV.mk false [X.c (X0.row Ty.str (Sp.split (ByteArray.mk (([(115 : UInt8), (101 : UInt8), (108 : UInt8), (101 : UInt8), (99 : UInt8), (116 : UInt8), (32 : UInt8), (102 : UInt8), (114 : UInt8), (111 : UInt8), (109 : UInt8), (32 : UInt8), (106 : UInt8), (111 : UInt8), (105 : UInt8), (110 : UInt8), (32 : UInt8), (111 : UInt8), (110 : UInt8), (32 : UInt8), (119 : UInt8), (104 : UInt8), (101 : UInt8), (114 : UInt8), (101 : UInt8), (32 : UInt8), (103 : UInt8), (114 : UInt8), (111 : UInt8), (117 : UInt8), (112 : UInt8), (32 : UInt8), (98 : UInt8), (121 : UInt8)].append [(32 : UInt8), (111 : UInt8), (114 : UInt8), (100 : UInt8), (101 : UInt8), (114 : UInt8), (32 : UInt8), (108 : UInt8), (105 : UInt8), (109 : UInt8), (105 : UInt8), (116 : UInt8), (32 : UInt8), (100 : UInt8), (101 : UInt8), (115 : UInt8), (99 : UInt8), (32 : UInt8), (105 : UInt8), (110 : UInt8), (115 : UInt8), (101 : UInt8), (114 : UInt8), (116 : UInt8), (32 : UInt8), (105 : UInt8), (110 : UInt8), (116 : UInt8), (111 : UInt8), (32 : UInt8), (118 : UInt8), (97 : UInt8), (108 : UInt8), (117 : UInt8), (101 : UInt8)]).append ([(115 : UInt8), (32 : UInt8), (117 : UInt8), (112 : UInt8), (100 : UInt8), (97 : UInt8), (116 : UInt8), (101 : UInt8), (32 : UInt8), (115 : UInt8), (101 : UInt8), (116 : UInt8), (32 : UInt8), (100 : UInt8), (101 : UInt8), (108 : UInt8), (101 : UInt8), (116 : UInt8), (101 : UInt8), (32 : UInt8), (97 : UInt8), (110 : UInt8), (100 : UInt8), (32 : UInt8), (111 : UInt8), (114 : UInt8), (32 : UInt8), (110 : UInt8), (111 : UInt8), (116 : UInt8), (32 : UInt8), (105 : UInt8), (115 : UInt8), (32 : UInt8), (110 : UInt8)].append [(117 : UInt8), (108 : UInt8), (108 : UInt8), (32 : UInt8), (116 : UInt8), (114 : UInt8), (117 : UInt8), (101 : UInt8), (32 : UInt8), (102 : UInt8), (97 : UInt8), (108 : UInt8), (115 : UInt8), (101 : UInt8), (32 : UInt8), (99 : UInt8), (111 : UInt8), (117 : UInt8), (110 : UInt8), (116 : UInt8), (32 : UInt8), (115 : UInt8), (117 : UInt8), (109 : UInt8), (32 : UInt8), (109 : UInt8), (105 : UInt8), (110 : UInt8), (32 : UInt8), (109 : UInt8), (97 : UInt8), (120 : UInt8), (32 : UInt8), (97 : UInt8), (115 : UInt8)])).toArray) (ByteArray.mk #[(32 : UInt8)])) true)]] [])) = some (f1037_g (Sp.f1037)) := by
  unfold Sp.f1037
  exact rfl
theorem e1037_ok : Valid PP Γ e1037 := valid_auto ok (vcons e1041_ok vnil) fun a => (f1037_raw ).trans (f1037_form )

noncomputable def f156_L0 (n m0 : Nat) (y0 : List ByteArray) (y1 : ByteArray) (y2 : Int) (y3 : Int) : Option Res := loopAt Γ (orc []) n (209 : Nat) (0 : Nat) [] [Pth.r, Pth.l, Pth.r, Pth.b] m0 (St.mk [Slot.val (Val.one (Cell.dat Ty.str.slice y0)), Slot.val (Val.one (Cell.dat Ty.str y1)), Slot.nix, Slot.nix, Slot.nix, Slot.nix, Slot.nix, Slot.val (Val.one (Cell.dat (Ty.int IntKind.i64) y2)), Slot.val (Val.one (Cell.dat (Ty.int IntKind.i64) y3)), Slot.nix, Slot.nix, Slot.nix, Slot.nix, Slot.nix, Slot.nix, Slot.nix, Slot.nix, Slot.nix, Slot.nix] [])
theorem f156_L0_step (n m0 : Nat) (y0 : List ByteArray) (y1 : ByteArray) (y2 : Int) (y3 : Int) : f156_L0 n (m0 + 1) y0 y1 y2 y3 = bif decide (y3 < y2) then chk (decide ((0 : Int) ≤ y3) && decide (y3 < (↑y0.length : Int))) (bif y1.toList == (y0.getD y3.toNat (ByteArray.mk #[])).toList then some (Res.mk [XV.mk false [X.c (X0.dat (Ty.int IntKind.i64) y3)]] []) else f156_L0 n m0 y0 y1 y2 (IntKind.i64.wrap (y3 + (1 : Int)))) else some (Res.mk [XV.mk false [X.c (X0.dat (Ty.int IntKind.i64) (-1 : Int))]] []) := by kernel_rfl
theorem f156_raw (n : Nat) (x0 : List ByteArray) (x1 : ByteArray) : abody Γ (orc []) n 209 [XV.mk false [X.c (X0.dat Ty.str.slice x0)], XV.mk false [X.c (X0.dat Ty.str x1)]] = f156_L0 n n x0 x1 (↑x0.length : Int) (0 : Int) := by kernel_rfl

def Sp.sameS (t w : ByteArray) : Bool := t.toList == w.toList
noncomputable def e156 : Ent := { f := n156, ins := [Sh.one (cL .str), Sh.one cS], outs := [Sh.one cI], upd := [], pre := fun _ => true, spec := fun a => Sp.idx (Sp.sameS a.2) a.1 0, wrt := fun _ => () }
theorem e156_core (xs : List ByteArray) (t : ByteArray) (hl : xs.length ≤ maxLen) : ∃ n, abody Γ (orc []) n n156 [XV.mk false [X.c (X0.dat (Ty.slice .str) xs)], XV.mk false [X.c (X0.dat Ty.str t)]] = some (rI (Sp.idx (Sp.sameS t) xs 0)) := by
  have hl : xs.length ≤ 9223372036854775807 := hl
  refine ⟨xs.length + 1, (f156_raw _ xs t).trans ?_⟩
  refine idx_loop (p := Sp.sameS t) (R := rI) xs (fun m k => f156_L0 (xs.length + 1) m xs t xs.length k) (fun m k hk => ?_) (fun m k h => ?_) xs.length 0 _ (Nat.zero_add _) (Nat.lt_succ_self _)
  · show f156_L0 _ _ _ _ _ _ = _
    rw [f156_L0_step, nat_ge hk, cond_false]
  · show f156_L0 _ _ _ _ _ _ = _
    rw [f156_L0_step, nat_lt h, cond_true, guard0, chkT, getD_nat xs k _ h, next64 h hl]
    rfl
theorem e156_ok : Valid PP Γ e156 := valid_len ok vnil fun a _ hl => e156_core a.1 a.2 (hl _ (List.mem_cons_self) _ (List.mem_cons_self)).1
def Sp.f1031 (x0 : List ByteArray) (x1 : ByteArray) := (decide (Sp.idx (Sp.sameS x1) x0 (0 : Int) ≥ (0 : Int)), ())
noncomputable def e1031 : Ent := { f := 166, ins := [Sh.one (C0.dat Ty.str.slice), Sh.one (C0.dat Ty.str)], outs := [Sh.one (C0.dat Ty.bool)], upd := [], pre := fun a => true, spec := fun a => (Sp.f1031 a.1 a.2).1, wrt := fun a => (Sp.f1031 a.1 a.2).2 }
def f1031_g (v : denS [Sh.one (C0.dat Ty.bool)] × denS []) : Res := ⟨mkS [Sh.one (C0.dat Ty.bool)] v.1, mkU [] v.2⟩
theorem f1031_raw (x0 : List ByteArray) (x1 : ByteArray) : abody Γ (orc [e156]) 0 166 [XV.mk false [X.c (X0.dat Ty.str.slice x0)], XV.mk false [X.c (X0.dat Ty.str x1)]] = some (Res.mk [XV.mk false [X.c (X0.dat Ty.bool (decide (Sp.idx (Sp.sameS x1) x0 (0 : Int) ≥ (0 : Int))))]] []) := by kernel_rfl
theorem f1031_form (x0 : List ByteArray) (x1 : ByteArray) : (some (Res.mk [XV.mk false [X.c (X0.dat Ty.bool (decide (Sp.idx (Sp.sameS x1) x0 (0 : Int) ≥ (0 : Int))))]] [])) = some (f1031_g (Sp.f1031 x0 x1)) := by
  unfold Sp.f1031
  exact rfl
theorem e1031_ok : Valid PP Γ e1031 := valid_auto ok (vcons e156_ok vnil) fun a => (f1031_raw a.1 a.2).trans (f1031_form a.1 a.2)

end Go.Proofs.GR.T

namespace Go.Proofs.GR.T
open Go Go.Proofs Go.Proofs.GR
def Sp.anyW {α : Type} (p : α → Bool) : List α → Bool
  | [] => false
  | x :: r => bif p x then true else Sp.anyW p r
theorem idx_any {α : Type} (p : α → Bool) : ∀ (xs : List α) (k : Int), 0 ≤ k → decide (Sp.idx p xs k ≥ 0) = Sp.anyW p xs
  | [], k, _ => rfl
  | x :: r, k, h => by
    rw [Sp.idx, Sp.anyW]
    cases p x with
    | true => exact decide_eq_true h
    | false => exact idx_any p r (k + 1) (by omega)
theorem anyW_all {α : Type} (p : α → Bool) : ∀ xs : List α, Sp.anyW p xs = !Sp.allW (fun x => !p x) xs
  | [] => rfl
  | x :: r => by rw [Sp.anyW, Sp.allW, anyW_all p r]; cases p x <;> rfl
theorem reserved_eq : Sp.f1037.1 = Sp.f209.1 := by kernel_rfl
end Go.Proofs.GR.T

set_option maxRecDepth 100000
set_option maxHeartbeats 100000000
namespace Go.Proofs.GR.T
open Go Go.Proofs Go.Proofs.GR
abbrev tCo : Ty := .pair .str (.pair (.int .i64) .bool)
abbrev VCo := ByteArray × Int × Bool
abbrev tIx : Ty := .pair .str (.slice (.int .i64))
abbrev VIx := ByteArray × List Int
abbrev tTb : Ty := .pair .str (.pair (.slice tCo) (.pair (.int .i64) (.slice tIx)))
abbrev VTb := ByteArray × List VCo × Int × List VIx
abbrev tIn : Ty := .int .i64
theorem make8 {n : Nat} (h : n ≤ 1000000000000) : (decide ((0 : Int) ≤ (n : Int)) && decide ((n : Int) ≤ (n : Int)) && decide ((n : Int) ≤ (140737488355328 : Int)) && decide ((8 : Int) * (n : Int) ≤ (140737488355328 : Int))) = true := by
  rw [decide_eq_true (show (0 : Int) ≤ n by omega), decide_eq_true (Int.le_refl (n : Int)), decide_eq_true (show (n : Int) ≤ 140737488355328 by omega), decide_eq_true (show 8 * (n : Int) ≤ 140737488355328 by omega)]
  rfl
theorem make40 {n : Nat} (h : n ≤ 1000000000000) : (decide ((0 : Int) ≤ (n : Int)) && decide ((n : Int) ≤ (n : Int)) && decide ((n : Int) ≤ (140737488355328 : Int)) && decide ((40 : Int) * (n : Int) ≤ (140737488355328 : Int))) = true := by
  rw [decide_eq_true (show (0 : Int) ≤ n by omega), decide_eq_true (Int.le_refl (n : Int)), decide_eq_true (show (n : Int) ≤ 140737488355328 by omega), decide_eq_true (show 40 * (n : Int) ≤ 140737488355328 by omega)]
  rfl
def Sp.f1147 (x0 : ByteArray) (x1 : Int) (x2 : Bool) (x3 : Int) := (bif decide (IntKind.i64.wrap (x3 - (↑x0.size : Int)) < (0 : Int)) then ((-1 : Int), ()) else (IntKind.i64.wrap (x3 - (↑x0.size : Int)), ()))
noncomputable def e1147 : Ent := { f := 146, ins := [Sh.agg [C0.dat Ty.str, C0.dat (Ty.int IntKind.i64), C0.dat Ty.bool], Sh.one (C0.dat (Ty.int IntKind.i64))], outs := [Sh.one (C0.dat (Ty.int IntKind.i64))], upd := [], pre := fun a => true, spec := fun a => (Sp.f1147 a.1.1 a.1.2.1 a.1.2.2 a.2).1, wrt := fun a => (Sp.f1147 a.1.1 a.1.2.1 a.1.2.2 a.2).2 }
def f1147_g (v : denS [Sh.one (C0.dat (Ty.int IntKind.i64))] × denS []) : Res := ⟨mkS [Sh.one (C0.dat (Ty.int IntKind.i64))] v.1, mkU [] v.2⟩
theorem f1147_raw (x0 : ByteArray) (x1 : Int) (x2 : Bool) (x3 : Int) : abody Γ (orc []) 0 146 [XV.mk true [X.c (X0.dat Ty.str x0), X.c (X0.dat (Ty.int IntKind.i64) x1), X.c (X0.dat Ty.bool x2)], XV.mk false [X.c (X0.dat (Ty.int IntKind.i64) x3)]] = bif decide (IntKind.i64.wrap (x3 - (↑x0.size : Int)) < (0 : Int)) then some (Res.mk [XV.mk false [X.c (X0.dat (Ty.int IntKind.i64) (-1 : Int))]] []) else some (Res.mk [XV.mk false [X.c (X0.dat (Ty.int IntKind.i64) (IntKind.i64.wrap (x3 - (↑x0.size : Int))))]] []) := by kernel_rfl
theorem f1147_form (x0 : ByteArray) (x1 : Int) (x2 : Bool) (x3 : Int) : (bif decide (IntKind.i64.wrap (x3 - (↑x0.size : Int)) < (0 : Int)) then some (Res.mk [XV.mk false [X.c (X0.dat (Ty.int IntKind.i64) (-1 : Int))]] []) else some (Res.mk [XV.mk false [X.c (X0.dat (Ty.int IntKind.i64) (IntKind.i64.wrap (x3 - (↑x0.size : Int))))]] [])) = some (f1147_g (Sp.f1147 x0 x1 x2 x3)) := by
  unfold Sp.f1147
  exact (cond_plain f1147_g (rfl) (rfl))
theorem e1147_ok : Valid PP Γ e1147 := valid_auto ok vnil fun a => (f1147_raw a.1.1 a.1.2.1 a.1.2.2 a.2).trans (f1147_form a.1.1 a.1.2.1 a.1.2.2 a.2)

def Sp.f1149 (x0 : ByteArray) (x1 : Int) (x2 : Bool) := ((x0, x1, x2), ())
noncomputable def e1149 : Ent := { f := 151, ins := [Sh.agg [C0.dat Ty.str, C0.dat (Ty.int IntKind.i64), C0.dat Ty.bool]], outs := [Sh.agg [C0.dat Ty.str, C0.dat (Ty.int IntKind.i64), C0.dat Ty.bool]], upd := [], pre := fun a => true, spec := fun a => (Sp.f1149 a.1 a.2.1 a.2.2).1, wrt := fun a => (Sp.f1149 a.1 a.2.1 a.2.2).2 }
def f1149_g (v : denS [Sh.agg [C0.dat Ty.str, C0.dat (Ty.int IntKind.i64), C0.dat Ty.bool]] × denS []) : Res := ⟨mkS [Sh.agg [C0.dat Ty.str, C0.dat (Ty.int IntKind.i64), C0.dat Ty.bool]] v.1, mkU [] v.2⟩
theorem f1149_raw (x0 : ByteArray) (x1 : Int) (x2 : Bool) : abody Γ (orc []) 0 151 [XV.mk true [X.c (X0.dat Ty.str x0), X.c (X0.dat (Ty.int IntKind.i64) x1), X.c (X0.dat Ty.bool x2)]] = some (Res.mk [XV.mk true [X.c (X0.dat Ty.str x0), X.c (X0.dat (Ty.int IntKind.i64) x1), X.c (X0.dat Ty.bool x2)]] []) := by kernel_rfl
theorem f1149_form (x0 : ByteArray) (x1 : Int) (x2 : Bool) : (some (Res.mk [XV.mk true [X.c (X0.dat Ty.str x0), X.c (X0.dat (Ty.int IntKind.i64) x1), X.c (X0.dat Ty.bool x2)]] [])) = some (f1149_g (Sp.f1149 x0 x1 x2)) := by
  unfold Sp.f1149
  exact rfl
theorem e1149_ok : Valid PP Γ e1149 := valid_auto ok vnil fun a => (f1149_raw a.1 a.2.1 a.2.2).trans (f1149_form a.1 a.2.1 a.2.2)

def Sp.f1155 (x0 : ByteArray) (x1 : Int) (x2 : Bool) (x3 : ByteArray) (x4 : Int) (x5 : Bool) := (bif !x0.toList == x3.toList then (false, ()) else (bif x1 != x4 then (false, ()) else (bif !eqB x2 x5 then (false, ()) else (true, ()))))
noncomputable def e1155 : Ent := { f := 158, ins := [Sh.agg [C0.dat Ty.str, C0.dat (Ty.int IntKind.i64), C0.dat Ty.bool], Sh.agg [C0.dat Ty.str, C0.dat (Ty.int IntKind.i64), C0.dat Ty.bool]], outs := [Sh.one (C0.dat Ty.bool)], upd := [], pre := fun a => true, spec := fun a => (Sp.f1155 a.1.1 a.1.2.1 a.1.2.2 a.2.1 a.2.2.1 a.2.2.2).1, wrt := fun a => (Sp.f1155 a.1.1 a.1.2.1 a.1.2.2 a.2.1 a.2.2.1 a.2.2.2).2 }
def f1155_g (v : denS [Sh.one (C0.dat Ty.bool)] × denS []) : Res := ⟨mkS [Sh.one (C0.dat Ty.bool)] v.1, mkU [] v.2⟩
theorem f1155_raw (x0 : ByteArray) (x1 : Int) (x2 : Bool) (x3 : ByteArray) (x4 : Int) (x5 : Bool) : abody Γ (orc []) 0 158 [XV.mk true [X.c (X0.dat Ty.str x0), X.c (X0.dat (Ty.int IntKind.i64) x1), X.c (X0.dat Ty.bool x2)], XV.mk true [X.c (X0.dat Ty.str x3), X.c (X0.dat (Ty.int IntKind.i64) x4), X.c (X0.dat Ty.bool x5)]] = bif !x0.toList == x3.toList then some (Res.mk [XV.mk false [X.c (X0.dat Ty.bool false)]] []) else bif x1 != x4 then some (Res.mk [XV.mk false [X.c (X0.dat Ty.bool false)]] []) else bif !eqB x2 x5 then some (Res.mk [XV.mk false [X.c (X0.dat Ty.bool false)]] []) else some (Res.mk [XV.mk false [X.c (X0.dat Ty.bool true)]] []) := by kernel_rfl
theorem f1155_form (x0 : ByteArray) (x1 : Int) (x2 : Bool) (x3 : ByteArray) (x4 : Int) (x5 : Bool) : (bif !x0.toList == x3.toList then some (Res.mk [XV.mk false [X.c (X0.dat Ty.bool false)]] []) else bif x1 != x4 then some (Res.mk [XV.mk false [X.c (X0.dat Ty.bool false)]] []) else bif !eqB x2 x5 then some (Res.mk [XV.mk false [X.c (X0.dat Ty.bool false)]] []) else some (Res.mk [XV.mk false [X.c (X0.dat Ty.bool true)]] [])) = some (f1155_g (Sp.f1155 x0 x1 x2 x3 x4 x5)) := by
  unfold Sp.f1155
  exact (cond_plain f1155_g (rfl) ((cond_plain f1155_g (rfl) ((cond_plain f1155_g (rfl) (rfl))))))
theorem e1155_ok : Valid PP Γ e1155 := valid_auto ok vnil fun a => (f1155_raw a.1.1 a.1.2.1 a.1.2.2 a.2.1 a.2.2.1 a.2.2.2).trans (f1155_form a.1.1 a.1.2.1 a.1.2.2 a.2.1 a.2.2.1 a.2.2.2)

def Sp.szCo (x : VCo) (l : Int) : Int := (Sp.f1147 x.1 x.2.1 x.2.2 l).1
def Sp.eqCo (x y : VCo) : Bool := (Sp.f1155 x.1 x.2.1 x.2.2 y.1 y.2.1 y.2.2).1
noncomputable def f1111_L0 (n m0 : Nat) (y0 : List (ByteArray × Int × Bool)) (y1 : Int) (y2 : Int) : Option Res := loopAt Γ (orc [e1147]) n (85 : Nat) (0 : Nat) [] [Pth.r, Pth.r, Pth.r, Pth.l, Pth.r, Pth.b] m0 (St.mk [Slot.val (Val.one (Cell.dat (Ty.str.pair ((Ty.int IntKind.i64).pair Ty.bool)).slice y0)), Slot.val (Val.one (Cell.dat (Ty.int IntKind.i64) y1)), Slot.nix, Slot.nix, Slot.nix, Slot.val (Val.one (Cell.dat (Ty.int IntKind.i64) y2)), Slot.nix, Slot.nix, Slot.nix, Slot.nix, Slot.nix, Slot.nix, Slot.nix, Slot.nix, Slot.nix, Slot.nix, Slot.nix, Slot.nix, Slot.nix, Slot.nix, Slot.nix, Slot.nix, Slot.nix, Slot.nix, Slot.nix, Slot.nix, Slot.nix] [])
theorem f1111_L0_step (n m0 : Nat) (y0 : List (ByteArray × Int × Bool)) (y1 : Int) (y2 : Int) : f1111_L0 n (m0 + 1) y0 y1 y2 = bif decide (y2 < (↑y0.length : Int)) then chk (decide ((0 : Int) ≤ y2) && decide (y2 < (↑y0.length : Int))) (bif decide ((Sp.f1147 (y0.getD y2.toNat (ByteArray.mk #[], (0 : Int), false)).1 (y0.getD y2.toNat (ByteArray.mk #[], (0 : Int), false)).2.1 (y0.getD y2.toNat (ByteArray.mk #[], (0 : Int), false)).2.2 y1).1 < (0 : Int)) then some (Res.mk [XV.mk false [X.c (X0.dat (Ty.int IntKind.i64) (-1 : Int))]] []) else f1111_L0 n m0 y0 (Sp.f1147 (y0.getD y2.toNat (ByteArray.mk #[], (0 : Int), false)).1 (y0.getD y2.toNat (ByteArray.mk #[], (0 : Int), false)).2.1 (y0.getD y2.toNat (ByteArray.mk #[], (0 : Int), false)).2.2 y1).1 (IntKind.i64.wrap (y2 + (1 : Int)))) else some (Res.mk [XV.mk false [X.c (X0.dat (Ty.int IntKind.i64) y1)]] []) := by kernel_rfl
theorem f1111_raw (n : Nat) (x0 : List (ByteArray × Int × Bool)) (x1 : Int) : abody Γ (orc [e1147]) n 85 [XV.mk false [X.c (X0.dat (Ty.str.pair ((Ty.int IntKind.i64).pair Ty.bool)).slice x0)], XV.mk false [X.c (X0.dat (Ty.int IntKind.i64) x1)]] = bif decide (IntKind.i64.wrap (x1 - (↑x0.length : Int)) < (0 : Int)) then some (Res.mk [XV.mk false [X.c (X0.dat (Ty.int IntKind.i64) (-1 : Int))]] []) else f1111_L0 n n x0 (IntKind.i64.wrap (x1 - (↑x0.length : Int))) (0 : Int) := by kernel_rfl

noncomputable def f1113_L0 (n m0 : Nat) (y0 : List (ByteArray × Int × Bool)) (y1 : Int) (y2 : List (ByteArray × Int × Bool)) : Option Res := loopAt Γ (orc [e1149]) n (88 : Nat) (0 : Nat) [] [Pth.r, Pth.r, Pth.l, Pth.r, Pth.b] m0 (St.mk [Slot.val (Val.one (Cell.dat (Ty.str.pair ((Ty.int IntKind.i64).pair Ty.bool)).slice y0)), Slot.nix, Slot.nix, Slot.val (Val.one (Cell.own (0 : Nat))), Slot.val (Val.one (Cell.dat (Ty.int IntKind.i64) y1)), Slot.nix, Slot.nix, Slot.nix, Slot.nix, Slot.nix, Slot.nix, Slot.nix, Slot.nix, Slot.nix, Slot.nix, Slot.nix, Slot.nix, Slot.nix, Slot.nix, Slot.nix, Slot.nix, Slot.nix, Slot.nix] [AObj.row (Ty.str.pair ((Ty.int IntKind.i64).pair Ty.bool)) y2 true])
theorem f1113_L0_step (n m0 : Nat) (y0 : List (ByteArray × Int × Bool)) (y1 : Int) (y2 : List (ByteArray × Int × Bool)) : f1113_L0 n (m0 + 1) y0 y1 y2 = bif decide (y1 < (↑y0.length : Int)) then chk (decide ((0 : Int) ≤ y1) && decide (y1 < (↑y0.length : Int))) (chk (decide ((0 : Int) ≤ y1) && decide (y1 < (↑y2.length : Int))) (f1113_L0 n m0 y0 (IntKind.i64.wrap (y1 + (1 : Int))) (y2.set y1.toNat ((Sp.f1149 (y0.getD y1.toNat (ByteArray.mk #[], (0 : Int), false)).1 (y0.getD y1.toNat (ByteArray.mk #[], (0 : Int), false)).2.1 (y0.getD y1.toNat (ByteArray.mk #[], (0 : Int), false)).2.2).1.1, (Sp.f1149 (y0.getD y1.toNat (ByteArray.mk #[], (0 : Int), false)).1 (y0.getD y1.toNat (ByteArray.mk #[], (0 : Int), false)).2.1 (y0.getD y1.toNat (ByteArray.mk #[], (0 : Int), false)).2.2).1.2.1, (Sp.f1149 (y0.getD y1.toNat (ByteArray.mk #[], (0 : Int), false)).1 (y0.getD y1.toNat (ByteArray.mk #[], (0 : Int), false)).2.1 (y0.getD y1.toNat (ByteArray.mk #[], (0 : Int), false)).2.2).1.2.2)))) else some (Res.mk [XV.mk false [X.c (X0.row (Ty.str.pair ((Ty.int IntKind.i64).pair Ty.bool)) y2 true)]] []) := by kernel_rfl
theorem f1113_raw (n : Nat) (x0 : List (ByteArray × Int × Bool)) : abody Γ (orc [e1149]) n 88 [XV.mk false [X.c (X0.dat (Ty.str.pair ((Ty.int IntKind.i64).pair Ty.bool)).slice x0)]] = chk (decide ((0 : Int) ≤ (↑x0.length : Int)) && decide ((↑x0.length : Int) ≤ (↑x0.length : Int)) && decide ((↑x0.length : Int) ≤ (140737488355328 : Int)) && decide ((32 : Int) * (↑x0.length : Int) ≤ (140737488355328 : Int))) (f1113_L0 n n x0 (0 : Int) (List.replicate (↑x0.length : Int).toNat (ByteArray.empty, (0 : Int), false))) := by kernel_rfl

noncomputable def f1119_L0 (n m0 : Nat) (y0 : List (ByteArray × Int × Bool)) (y1 : List (ByteArray × Int × Bool)) (y2 : Int) : Option Res := loopAt Γ (orc [e1155]) n (94 : Nat) (0 : Nat) [] [Pth.r, Pth.r, Pth.l, Pth.r, Pth.b] m0 (St.mk [Slot.val (Val.one (Cell.dat (Ty.str.pair ((Ty.int IntKind.i64).pair Ty.bool)).slice y0)), Slot.val (Val.one (Cell.dat (Ty.str.pair ((Ty.int IntKind.i64).pair Ty.bool)).slice y1)), Slot.nix, Slot.nix, Slot.nix, Slot.val (Val.one (Cell.dat (Ty.int IntKind.i64) y2)), Slot.nix, Slot.nix, Slot.nix, Slot.nix, Slot.nix, Slot.nix, Slot.nix, Slot.nix, Slot.nix, Slot.nix, Slot.nix, Slot.nix, Slot.nix, Slot.nix, Slot.nix, Slot.nix, Slot.nix, Slot.nix, Slot.nix, Slot.nix, Slot.nix] [])
theorem f1119_L0_step (n m0 : Nat) (y0 : List (ByteArray × Int × Bool)) (y1 : List (ByteArray × Int × Bool)) (y2 : Int) : f1119_L0 n (m0 + 1) y0 y1 y2 = bif decide (y2 < (↑y0.length : Int)) then chk (decide ((0 : Int) ≤ y2) && decide (y2 < (↑y0.length : Int))) (chk (decide ((0 : Int) ≤ y2) && decide (y2 < (↑y1.length : Int))) (bif !(Sp.f1155 (y0.getD y2.toNat (ByteArray.mk #[], (0 : Int), false)).1 (y0.getD y2.toNat (ByteArray.mk #[], (0 : Int), false)).2.1 (y0.getD y2.toNat (ByteArray.mk #[], (0 : Int), false)).2.2 (y1.getD y2.toNat (ByteArray.mk #[], (0 : Int), false)).1 (y1.getD y2.toNat (ByteArray.mk #[], (0 : Int), false)).2.1 (y1.getD y2.toNat (ByteArray.mk #[], (0 : Int), false)).2.2).1 then some (Res.mk [XV.mk false [X.c (X0.dat Ty.bool false)]] []) else f1119_L0 n m0 y0 y1 (IntKind.i64.wrap (y2 + (1 : Int))))) else some (Res.mk [XV.mk false [X.c (X0.dat Ty.bool true)]] []) := by kernel_rfl
theorem f1119_raw (n : Nat) (x0 : List (ByteArray × Int × Bool)) (x1 : List (ByteArray × Int × Bool)) : abody Γ (orc [e1155]) n 94 [XV.mk false [X.c (X0.dat (Ty.str.pair ((Ty.int IntKind.i64).pair Ty.bool)).slice x0)], XV.mk false [X.c (X0.dat (Ty.str.pair ((Ty.int IntKind.i64).pair Ty.bool)).slice x1)]] = bif (↑x0.length : Int) != (↑x1.length : Int) then some (Res.mk [XV.mk false [X.c (X0.dat Ty.bool false)]] []) else f1119_L0 n n x0 x1 (0 : Int) := by kernel_rfl

noncomputable def e1111 : Ent := { f := n1111, ins := [Sh.one (C0.dat (.slice tCo)), Sh.one cI], outs := [Sh.one cI], upd := [], pre := fun a => true, spec := fun a => Sp.szE Sp.szCo a.1 a.2, wrt := fun _ => () }
theorem e1111_core (xs : List VCo) (v : Int) (hl : xs.length ≤ maxLen) : ∃ n, abody Γ (orc [e1147]) n n1111 [XV.mk false [X.c (X0.dat (Ty.slice tCo) xs)], XV.mk false [X.c (X0.dat (Ty.int IntKind.i64) v)]] = some (rI (Sp.szE Sp.szCo xs v)) := by
  have hl : xs.length ≤ 9223372036854775807 := hl
  refine ⟨xs.length + 1, (f1111_raw _ xs v).trans ?_⟩
  unfold Sp.szE
  cases decide (IntKind.i64.wrap (v - (xs.length : Int)) < 0) with
  | true => rfl
  | false =>
    rw [cond_false, cond_false]
    refine sz_loop (f := Sp.szCo) (R := rI) xs (fun m v k => f1111_L0 (xs.length + 1) m xs v k) (fun m v k hk => ?_) (fun m v k h => ?_) xs.length 0 _ _ (Nat.zero_add _) (Nat.lt_succ_self _)
    · show f1111_L0 _ _ _ _ _ = _
      rw [f1111_L0_step, nat_ge hk, cond_false]
    · show f1111_L0 _ _ _ _ _ = _
      rw [f1111_L0_step, nat_lt h, cond_true, guard0, chkT, getD_nat xs k _ h, next64 h hl]
      rfl
theorem e1111_ok : Valid PP Γ e1111 := valid_len ok (vcons e1147_ok vnil) fun a _ hl => e1111_core a.1 a.2 (hl _ (List.mem_cons_self) _ (List.mem_cons_self)).1
noncomputable def e1113 : Ent := { f := n1113, ins := [Sh.one (C0.dat (.slice tCo))], outs := [Sh.one (C0.row tCo)], upd := [], pre := fun a => Sp.fits32 (α := VCo) a, spec := fun a => a, wrt := fun _ => () }
theorem e1113_core (xs : List VCo) (ha : Sp.fits32 xs = true) : ∃ n, abody Γ (orc [e1149]) n n1113 [XV.mk false [X.c (X0.dat (Ty.slice tCo) xs)]] = some (Res.mk [XV.mk false [X.c (X0.row tCo xs true)]] []) := by
  have h1 := fits32_of ha
  refine ⟨xs.length + 1, (f1113_raw _ xs).trans ?_⟩
  rw [make32 h1, chkT]
  refine to_end (R := fun l : List VCo => Res.mk [XV.mk false [X.c (X0.row tCo l true)]] []) xs (fun m k acc => f1113_L0 (xs.length + 1) m xs k acc) (fun m k acc hk => ?_) (fun m k acc h ha => ?_) _
  · show f1113_L0 _ _ _ _ _ = _
    rw [f1113_L0_step, nat_ge hk, cond_false]
  · show f1113_L0 _ _ _ _ _ = _
    rw [f1113_L0_step, ha, nat_lt h, cond_true, guard0, chkT, chkT, getD_nat xs k _ h, next64 h (by omega), Int.toNat_natCast]
    rfl
theorem e1113_ok : Valid PP Γ e1113 := valid_of ok (vcons e1149_ok vnil) fun a ha => e1113_core a ha
noncomputable def e1119 : Ent := { f := n1119, ins := [Sh.one (C0.dat (.slice tCo)), Sh.one (C0.dat (.slice tCo))], outs := [Sh.one cB], upd := [], pre := fun a => true, spec := fun a => Sp.eqW Sp.eqCo a.1 a.2, wrt := fun _ => () }
theorem e1119_core (xs ys : List VCo) (h1 : xs.length ≤ maxLen) : ∃ n, abody Γ (orc [e1155]) n n1119 [XV.mk false [X.c (X0.dat (Ty.slice tCo) xs)], XV.mk false [X.c (X0.dat (Ty.slice tCo) ys)]] = some (rBo (Sp.eqW Sp.eqCo xs ys)) := by
  have h1 : xs.length ≤ 9223372036854775807 := h1
  refine ⟨xs.length + 1, (f1119_raw _ xs ys).trans ?_⟩
  by_cases he : xs.length = ys.length
  · rw [show ((xs.length : Int) != (ys.length : Int)) = false by simp [he], cond_false]
    refine eq_loop xs ys (fun m k => f1119_L0 _ m xs ys k) he (fun m k hk => ?_) (fun m k h h2 => ?_) xs.length 0 _ (Nat.zero_add _) (Nat.lt_succ_self _)
    · show f1119_L0 _ _ _ _ _ = _
      rw [f1119_L0_step, nat_ge hk, cond_false]
    · show f1119_L0 _ _ _ _ _ = _
      rw [f1119_L0_step, nat_lt h, cond_true, guard0, chkT, guard2 h2, chkT, getD_nat xs k _ h, getD_nat ys k _ h2, next64 h2 (by omega)]
      rfl
  · rw [show ((xs.length : Int) != (ys.length : Int)) = true by simp; omega, eqW_len he]
    rfl
theorem e1119_ok : Valid PP Γ e1119 := valid_len ok (vcons e1155_ok vnil) fun a _ hl => e1119_core a.1 a.2 (hl _ (List.mem_cons_self) _ (List.mem_cons_self)).1
def Sp.f179 (x0 : List Int) (x1 : Int) := (bif decide (IntKind.i64.wrap (x1 - (↑x0.length : Int)) < (0 : Int)) then ((-1 : Int), ()) else (IntKind.i64.wrap (x1 - (↑x0.length : Int)), ()))
noncomputable def e179 : Ent := { f := 197, ins := [Sh.one (C0.dat (Ty.int IntKind.i64).slice), Sh.one (C0.dat (Ty.int IntKind.i64))], outs := [Sh.one (C0.dat (Ty.int IntKind.i64))], upd := [], pre := fun a => true, spec := fun a => (Sp.f179 a.1 a.2).1, wrt := fun a => (Sp.f179 a.1 a.2).2 }
def f179_g (v : denS [Sh.one (C0.dat (Ty.int IntKind.i64))] × denS []) : Res := ⟨mkS [Sh.one (C0.dat (Ty.int IntKind.i64))] v.1, mkU [] v.2⟩
theorem f179_raw (x0 : List Int) (x1 : Int) : abody Γ (orc []) 0 197 [XV.mk false [X.c (X0.dat (Ty.int IntKind.i64).slice x0)], XV.mk false [X.c (X0.dat (Ty.int IntKind.i64) x1)]] = bif decide (IntKind.i64.wrap (x1 - (↑x0.length : Int)) < (0 : Int)) then some (Res.mk [XV.mk false [X.c (X0.dat (Ty.int IntKind.i64) (-1 : Int))]] []) else some (Res.mk [XV.mk false [X.c (X0.dat (Ty.int IntKind.i64) (IntKind.i64.wrap (x1 - (↑x0.length : Int))))]] []) := by kernel_rfl
theorem f179_form (x0 : List Int) (x1 : Int) : (bif decide (IntKind.i64.wrap (x1 - (↑x0.length : Int)) < (0 : Int)) then some (Res.mk [XV.mk false [X.c (X0.dat (Ty.int IntKind.i64) (-1 : Int))]] []) else some (Res.mk [XV.mk false [X.c (X0.dat (Ty.int IntKind.i64) (IntKind.i64.wrap (x1 - (↑x0.length : Int))))]] [])) = some (f179_g (Sp.f179 x0 x1)) := by
  unfold Sp.f179
  exact (cond_plain f179_g (rfl) (rfl))
theorem e179_ok : Valid PP Γ e179 := valid_auto ok vnil fun a => (f179_raw a.1 a.2).trans (f179_form a.1 a.2)

noncomputable def f185_L0 (n m0 : Nat) (y0 : List Int) (y1 : Int) (y2 : List Int) : Option Res := loopAt Γ (orc []) n (199 : Nat) (0 : Nat) [] [Pth.r, Pth.r, Pth.l, Pth.r, Pth.b] m0 (St.mk [Slot.val (Val.one (Cell.dat (Ty.int IntKind.i64).slice y0)), Slot.nix, Slot.nix, Slot.val (Val.one (Cell.own (0 : Nat))), Slot.val (Val.one (Cell.dat (Ty.int IntKind.i64) y1)), Slot.nix, Slot.nix, Slot.nix, Slot.nix, Slot.nix, Slot.nix, Slot.nix, Slot.nix, Slot.nix, Slot.nix, Slot.nix, Slot.nix, Slot.nix, Slot.nix, Slot.nix, Slot.nix, Slot.nix] [AObj.row (Ty.int IntKind.i64) y2 true])
theorem f185_L0_step (n m0 : Nat) (y0 : List Int) (y1 : Int) (y2 : List Int) : f185_L0 n (m0 + 1) y0 y1 y2 = bif decide (y1 < (↑y0.length : Int)) then chk (decide ((0 : Int) ≤ y1) && decide (y1 < (↑y0.length : Int))) (chk (decide ((0 : Int) ≤ y1) && decide (y1 < (↑y2.length : Int))) (f185_L0 n m0 y0 (IntKind.i64.wrap (y1 + (1 : Int))) (y2.set y1.toNat (y0.getD y1.toNat (0 : Int))))) else some (Res.mk [XV.mk false [X.c (X0.row (Ty.int IntKind.i64) y2 true)]] []) := by kernel_rfl
theorem f185_raw (n : Nat) (x0 : List Int) : abody Γ (orc []) n 199 [XV.mk false [X.c (X0.dat (Ty.int IntKind.i64).slice x0)]] = chk (decide ((0 : Int) ≤ (↑x0.length : Int)) && decide ((↑x0.length : Int) ≤ (↑x0.length : Int)) && decide ((↑x0.length : Int) ≤ (140737488355328 : Int)) && decide ((8 : Int) * (↑x0.length : Int) ≤ (140737488355328 : Int))) (f185_L0 n n x0 (0 : Int) (List.replicate (↑x0.length : Int).toNat (0 : Int))) := by kernel_rfl

noncomputable def f192_L0 (n m0 : Nat) (y0 : List Int) (y1 : List Int) (y2 : Int) : Option Res := loopAt Γ (orc []) n (207 : Nat) (0 : Nat) [] [Pth.r, Pth.r, Pth.l, Pth.r, Pth.b] m0 (St.mk [Slot.val (Val.one (Cell.dat (Ty.int IntKind.i64).slice y0)), Slot.val (Val.one (Cell.dat (Ty.int IntKind.i64).slice y1)), Slot.nix, Slot.nix, Slot.nix, Slot.val (Val.one (Cell.dat (Ty.int IntKind.i64) y2)), Slot.nix, Slot.nix, Slot.nix, Slot.nix, Slot.nix, Slot.nix, Slot.nix, Slot.nix, Slot.nix, Slot.nix, Slot.nix, Slot.nix, Slot.nix, Slot.nix, Slot.nix, Slot.nix, Slot.nix, Slot.nix, Slot.nix, Slot.nix] [])
theorem f192_L0_step (n m0 : Nat) (y0 : List Int) (y1 : List Int) (y2 : Int) : f192_L0 n (m0 + 1) y0 y1 y2 = bif decide (y2 < (↑y0.length : Int)) then chk (decide ((0 : Int) ≤ y2) && decide (y2 < (↑y0.length : Int))) (chk (decide ((0 : Int) ≤ y2) && decide (y2 < (↑y1.length : Int))) (bif y0.getD y2.toNat (0 : Int) != y1.getD y2.toNat (0 : Int) then some (Res.mk [XV.mk false [X.c (X0.dat Ty.bool false)]] []) else f192_L0 n m0 y0 y1 (IntKind.i64.wrap (y2 + (1 : Int))))) else some (Res.mk [XV.mk false [X.c (X0.dat Ty.bool true)]] []) := by kernel_rfl
theorem f192_raw (n : Nat) (x0 : List Int) (x1 : List Int) : abody Γ (orc []) n 207 [XV.mk false [X.c (X0.dat (Ty.int IntKind.i64).slice x0)], XV.mk false [X.c (X0.dat (Ty.int IntKind.i64).slice x1)]] = bif (↑x0.length : Int) != (↑x1.length : Int) then some (Res.mk [XV.mk false [X.c (X0.dat Ty.bool false)]] []) else f192_L0 n n x0 x1 (0 : Int) := by kernel_rfl

def Sp.eqN (x y : Int) : Bool := x == y
noncomputable def e185 : Ent := { f := n185, ins := [Sh.one (C0.dat (.slice tIn))], outs := [Sh.one (C0.row tIn)], upd := [], pre := fun a => Sp.fits32 (α := Int) a, spec := fun a => a, wrt := fun _ => () }
theorem e185_core (xs : List Int) (ha : Sp.fits32 xs = true) : ∃ n, abody Γ (orc []) n n185 [XV.mk false [X.c (X0.dat (Ty.slice tIn) xs)]] = some (Res.mk [XV.mk false [X.c (X0.row tIn xs true)]] []) := by
  have h1 := fits32_of ha
  refine ⟨xs.length + 1, (f185_raw _ xs).trans ?_⟩
  rw [make8 h1, chkT]
  refine to_end (R := fun l : List Int => Res.mk [XV.mk false [X.c (X0.row tIn l true)]] []) xs (fun m k acc => f185_L0 (xs.length + 1) m xs k acc) (fun m k acc hk => ?_) (fun m k acc h ha => ?_) _
  · show f185_L0 _ _ _ _ _ = _
    rw [f185_L0_step, nat_ge hk, cond_false]
  · show f185_L0 _ _ _ _ _ = _
    rw [f185_L0_step, ha, nat_lt h, cond_true, guard0, chkT, chkT, getD_nat xs k _ h, next64 h (by omega), Int.toNat_natCast]
theorem e185_ok : Valid PP Γ e185 := valid_of ok vnil fun a ha => e185_core a ha
noncomputable def e192 : Ent := { f := n192, ins := [Sh.one (C0.dat (.slice tIn)), Sh.one (C0.dat (.slice tIn))], outs := [Sh.one cB], upd := [], pre := fun a => true, spec := fun a => Sp.eqW Sp.eqN a.1 a.2, wrt := fun _ => () }
theorem e192_core (xs ys : List Int) (h1 : xs.length ≤ maxLen) : ∃ n, abody Γ (orc []) n n192 [XV.mk false [X.c (X0.dat (Ty.slice tIn) xs)], XV.mk false [X.c (X0.dat (Ty.slice tIn) ys)]] = some (rBo (Sp.eqW Sp.eqN xs ys)) := by
  have h1 : xs.length ≤ 9223372036854775807 := h1
  refine ⟨xs.length + 1, (f192_raw _ xs ys).trans ?_⟩
  by_cases he : xs.length = ys.length
  · rw [show ((xs.length : Int) != (ys.length : Int)) = false by simp [he], cond_false]
    refine eq_loop xs ys (fun m k => f192_L0 _ m xs ys k) he (fun m k hk => ?_) (fun m k h h2 => ?_) xs.length 0 _ (Nat.zero_add _) (Nat.lt_succ_self _)
    · show f192_L0 _ _ _ _ _ = _
      rw [f192_L0_step, nat_ge hk, cond_false]
    · show f192_L0 _ _ _ _ _ = _
      rw [f192_L0_step, nat_lt h, cond_true, guard0, chkT, guard2 h2, chkT, getD_nat xs k _ h, getD_nat ys k _ h2, next64 h2 (by omega)]
      rfl
  · rw [show ((xs.length : Int) != (ys.length : Int)) = true by simp; omega, eqW_len he]
    rfl
theorem e192_ok : Valid PP Γ e192 := valid_len ok vnil fun a _ hl => e192_core a.1 a.2 (hl _ (List.mem_cons_self) _ (List.mem_cons_self)).1
def Sp.f1148 (x0 : ByteArray) (x1 : List Int) (x2 : Int) := (bif decide (IntKind.i64.wrap (x2 - (↑x0.size : Int)) < (0 : Int)) then ((-1 : Int), ()) else (bif decide ((Sp.f179 x1 (IntKind.i64.wrap (x2 - (↑x0.size : Int)))).1 < (0 : Int)) then ((-1 : Int), ()) else ((Sp.f179 x1 (IntKind.i64.wrap (x2 - (↑x0.size : Int)))).1, ())))
noncomputable def e1148 : Ent := { f := 147, ins := [Sh.agg [C0.dat Ty.str, C0.dat (Ty.int IntKind.i64).slice], Sh.one (C0.dat (Ty.int IntKind.i64))], outs := [Sh.one (C0.dat (Ty.int IntKind.i64))], upd := [], pre := fun a => true, spec := fun a => (Sp.f1148 a.1.1 a.1.2 a.2).1, wrt := fun a => (Sp.f1148 a.1.1 a.1.2 a.2).2 }
def f1148_g (v : denS [Sh.one (C0.dat (Ty.int IntKind.i64))] × denS []) : Res := ⟨mkS [Sh.one (C0.dat (Ty.int IntKind.i64))] v.1, mkU [] v.2⟩
theorem f1148_raw (x0 : ByteArray) (x1 : List Int) (x2 : Int) : abody Γ (orc [e179]) 0 147 [XV.mk true [X.c (X0.dat Ty.str x0), X.c (X0.dat (Ty.int IntKind.i64).slice x1)], XV.mk false [X.c (X0.dat (Ty.int IntKind.i64) x2)]] = bif decide (IntKind.i64.wrap (x2 - (↑x0.size : Int)) < (0 : Int)) then some (Res.mk [XV.mk false [X.c (X0.dat (Ty.int IntKind.i64) (-1 : Int))]] []) else bif decide ((Sp.f179 x1 (IntKind.i64.wrap (x2 - (↑x0.size : Int)))).1 < (0 : Int)) then some (Res.mk [XV.mk false [X.c (X0.dat (Ty.int IntKind.i64) (-1 : Int))]] []) else some (Res.mk [XV.mk false [X.c (X0.dat (Ty.int IntKind.i64) (Sp.f179 x1 (IntKind.i64.wrap (x2 - (↑x0.size : Int)))).1)]] []) := by kernel_rfl
theorem f1148_form (x0 : ByteArray) (x1 : List Int) (x2 : Int) : (bif decide (IntKind.i64.wrap (x2 - (↑x0.size : Int)) < (0 : Int)) then some (Res.mk [XV.mk false [X.c (X0.dat (Ty.int IntKind.i64) (-1 : Int))]] []) else bif decide ((Sp.f179 x1 (IntKind.i64.wrap (x2 - (↑x0.size : Int)))).1 < (0 : Int)) then some (Res.mk [XV.mk false [X.c (X0.dat (Ty.int IntKind.i64) (-1 : Int))]] []) else some (Res.mk [XV.mk false [X.c (X0.dat (Ty.int IntKind.i64) (Sp.f179 x1 (IntKind.i64.wrap (x2 - (↑x0.size : Int)))).1)]] [])) = some (f1148_g (Sp.f1148 x0 x1 x2)) := by
  unfold Sp.f1148
  exact (cond_plain f1148_g (rfl) ((cond_plain f1148_g (rfl) (rfl))))
theorem e1148_ok : Valid PP Γ e1148 := valid_auto ok (vcons e179_ok vnil) fun a => (f1148_raw a.1.1 a.1.2 a.2).trans (f1148_form a.1.1 a.1.2 a.2)

def Sp.f1150_pre (x0 : ByteArray) (x1 : List Int) : Bool := Sp.fits32 x1
def Sp.f1150 (x0 : ByteArray) (x1 : List Int) := ((x0, x1), ())
noncomputable def e1150 : Ent := { f := 152, ins := [Sh.agg [C0.dat Ty.str, C0.dat (Ty.int IntKind.i64).slice]], outs := [Sh.agg [C0.dat Ty.str, C0.row (Ty.int IntKind.i64)]], upd := [], pre := fun a => Sp.f1150_pre a.1 a.2, spec := fun a => (Sp.f1150 a.1 a.2).1, wrt := fun a => (Sp.f1150 a.1 a.2).2 }
def f1150_g (v : denS [Sh.agg [C0.dat Ty.str, C0.row (Ty.int IntKind.i64)]] × denS []) : Res := ⟨mkS [Sh.agg [C0.dat Ty.str, C0.row (Ty.int IntKind.i64)]] v.1, mkU [] v.2⟩
theorem f1150_raw (x0 : ByteArray) (x1 : List Int) : abody Γ (orc [e185]) 0 152 [XV.mk true [X.c (X0.dat Ty.str x0), X.c (X0.dat (Ty.int IntKind.i64).slice x1)]] = chk (Sp.fits32 x1) (some (Res.mk [XV.mk true [X.c (X0.dat Ty.str x0), X.c (X0.row (Ty.int IntKind.i64) x1 true)]] [])) := by kernel_rfl
theorem f1150_form (x0 : ByteArray) (x1 : List Int) : (chk (Sp.fits32 x1) (some (Res.mk [XV.mk true [X.c (X0.dat Ty.str x0), X.c (X0.row (Ty.int IntKind.i64) x1 true)]] []))) = chk (Sp.f1150_pre x0 x1) (some (f1150_g (Sp.f1150 x0 x1))) := by
  unfold Sp.f1150_pre Sp.f1150
  exact (chk_last (rfl))
theorem e1150_ok : Valid PP Γ e1150 := valid_auto ok (vcons e185_ok vnil) fun a => (f1150_raw a.1 a.2).trans (f1150_form a.1 a.2)

def Sp.f1156 (x0 : ByteArray) (x1 : List Int) (x2 : ByteArray) (x3 : List Int) := (bif !x0.toList == x2.toList then (false, ()) else (bif !Sp.eqW Sp.eqN x1 x3 then (false, ()) else (true, ())))
noncomputable def e1156 : Ent := { f := 159, ins := [Sh.agg [C0.dat Ty.str, C0.dat (Ty.int IntKind.i64).slice], Sh.agg [C0.dat Ty.str, C0.dat (Ty.int IntKind.i64).slice]], outs := [Sh.one (C0.dat Ty.bool)], upd := [], pre := fun a => true, spec := fun a => (Sp.f1156 a.1.1 a.1.2 a.2.1 a.2.2).1, wrt := fun a => (Sp.f1156 a.1.1 a.1.2 a.2.1 a.2.2).2 }
def f1156_g (v : denS [Sh.one (C0.dat Ty.bool)] × denS []) : Res := ⟨mkS [Sh.one (C0.dat Ty.bool)] v.1, mkU [] v.2⟩
theorem f1156_raw (x0 : ByteArray) (x1 : List Int) (x2 : ByteArray) (x3 : List Int) : abody Γ (orc [e192]) 0 159 [XV.mk true [X.c (X0.dat Ty.str x0), X.c (X0.dat (Ty.int IntKind.i64).slice x1)], XV.mk true [X.c (X0.dat Ty.str x2), X.c (X0.dat (Ty.int IntKind.i64).slice x3)]] = bif !x0.toList == x2.toList then some (Res.mk [XV.mk false [X.c (X0.dat Ty.bool false)]] []) else bif !Sp.eqW Sp.eqN x1 x3 then some (Res.mk [XV.mk false [X.c (X0.dat Ty.bool false)]] []) else some (Res.mk [XV.mk false [X.c (X0.dat Ty.bool true)]] []) := by kernel_rfl
theorem f1156_form (x0 : ByteArray) (x1 : List Int) (x2 : ByteArray) (x3 : List Int) : (bif !x0.toList == x2.toList then some (Res.mk [XV.mk false [X.c (X0.dat Ty.bool false)]] []) else bif !Sp.eqW Sp.eqN x1 x3 then some (Res.mk [XV.mk false [X.c (X0.dat Ty.bool false)]] []) else some (Res.mk [XV.mk false [X.c (X0.dat Ty.bool true)]] [])) = some (f1156_g (Sp.f1156 x0 x1 x2 x3)) := by
  unfold Sp.f1156
  exact (cond_plain f1156_g (rfl) ((cond_plain f1156_g (rfl) (rfl))))
theorem e1156_ok : Valid PP Γ e1156 := valid_auto ok (vcons e192_ok vnil) fun a => (f1156_raw a.1.1 a.1.2 a.2.1 a.2.2).trans (f1156_form a.1.1 a.1.2 a.2.1 a.2.2)

def Sp.szIx (x : VIx) (l : Int) : Int := (Sp.f1148 x.1 x.2 l).1
def Sp.eqIx (x y : VIx) : Bool := (Sp.f1156 x.1 x.2 y.1 y.2).1
def Sp.okIx (x : VIx) : Bool := Sp.f1150_pre x.1 x.2
noncomputable def f1112_L0 (n m0 : Nat) (y0 : List (ByteArray × List Int)) (y1 : Int) (y2 : Int) : Option Res := loopAt Γ (orc [e1148]) n (86 : Nat) (0 : Nat) [] [Pth.r, Pth.r, Pth.r, Pth.l, Pth.r, Pth.b] m0 (St.mk [Slot.val (Val.one (Cell.dat (Ty.str.pair (Ty.int IntKind.i64).slice).slice y0)), Slot.val (Val.one (Cell.dat (Ty.int IntKind.i64) y1)), Slot.nix, Slot.nix, Slot.nix, Slot.val (Val.one (Cell.dat (Ty.int IntKind.i64) y2)), Slot.nix, Slot.nix, Slot.nix, Slot.nix, Slot.nix, Slot.nix, Slot.nix, Slot.nix, Slot.nix, Slot.nix, Slot.nix, Slot.nix, Slot.nix, Slot.nix, Slot.nix, Slot.nix, Slot.nix, Slot.nix, Slot.nix, Slot.nix, Slot.nix] [])
theorem f1112_L0_step (n m0 : Nat) (y0 : List (ByteArray × List Int)) (y1 : Int) (y2 : Int) : f1112_L0 n (m0 + 1) y0 y1 y2 = bif decide (y2 < (↑y0.length : Int)) then chk (decide ((0 : Int) ≤ y2) && decide (y2 < (↑y0.length : Int))) (bif decide ((Sp.f1148 (y0.getD y2.toNat (ByteArray.mk #[], [])).1 (y0.getD y2.toNat (ByteArray.mk #[], [])).2 y1).1 < (0 : Int)) then some (Res.mk [XV.mk false [X.c (X0.dat (Ty.int IntKind.i64) (-1 : Int))]] []) else f1112_L0 n m0 y0 (Sp.f1148 (y0.getD y2.toNat (ByteArray.mk #[], [])).1 (y0.getD y2.toNat (ByteArray.mk #[], [])).2 y1).1 (IntKind.i64.wrap (y2 + (1 : Int)))) else some (Res.mk [XV.mk false [X.c (X0.dat (Ty.int IntKind.i64) y1)]] []) := by kernel_rfl
theorem f1112_raw (n : Nat) (x0 : List (ByteArray × List Int)) (x1 : Int) : abody Γ (orc [e1148]) n 86 [XV.mk false [X.c (X0.dat (Ty.str.pair (Ty.int IntKind.i64).slice).slice x0)], XV.mk false [X.c (X0.dat (Ty.int IntKind.i64) x1)]] = bif decide (IntKind.i64.wrap (x1 - (↑x0.length : Int)) < (0 : Int)) then some (Res.mk [XV.mk false [X.c (X0.dat (Ty.int IntKind.i64) (-1 : Int))]] []) else f1112_L0 n n x0 (IntKind.i64.wrap (x1 - (↑x0.length : Int))) (0 : Int) := by kernel_rfl

noncomputable def f1114_L0 (n m0 : Nat) (y0 : List (ByteArray × List Int)) (y1 : Int) (y2 : List (ByteArray × List Int)) : Option Res := loopAt Γ (orc [e1150]) n (89 : Nat) (0 : Nat) [] [Pth.r, Pth.r, Pth.l, Pth.r, Pth.b] m0 (St.mk [Slot.val (Val.one (Cell.dat (Ty.str.pair (Ty.int IntKind.i64).slice).slice y0)), Slot.nix, Slot.nix, Slot.val (Val.one (Cell.own (0 : Nat))), Slot.val (Val.one (Cell.dat (Ty.int IntKind.i64) y1)), Slot.nix, Slot.nix, Slot.nix, Slot.nix, Slot.nix, Slot.nix, Slot.nix, Slot.nix, Slot.nix, Slot.nix, Slot.nix, Slot.nix, Slot.nix, Slot.nix, Slot.nix, Slot.nix, Slot.nix, Slot.nix] [AObj.row (Ty.str.pair (Ty.int IntKind.i64).slice) y2 true])
theorem f1114_L0_step (n m0 : Nat) (y0 : List (ByteArray × List Int)) (y1 : Int) (y2 : List (ByteArray × List Int)) : f1114_L0 n (m0 + 1) y0 y1 y2 = bif decide (y1 < (↑y0.length : Int)) then chk (decide ((0 : Int) ≤ y1) && decide (y1 < (↑y0.length : Int))) (chk (Sp.f1150_pre (y0.getD y1.toNat (ByteArray.mk #[], [])).1 (y0.getD y1.toNat (ByteArray.mk #[], [])).2) (chk (decide ((0 : Int) ≤ y1) && decide (y1 < (↑y2.length : Int))) (f1114_L0 n m0 y0 (IntKind.i64.wrap (y1 + (1 : Int))) (y2.set y1.toNat ((Sp.f1150 (y0.getD y1.toNat (ByteArray.mk #[], [])).1 (y0.getD y1.toNat (ByteArray.mk #[], [])).2).1.1, (Sp.f1150 (y0.getD y1.toNat (ByteArray.mk #[], [])).1 (y0.getD y1.toNat (ByteArray.mk #[], [])).2).1.2))))) else some (Res.mk [XV.mk false [X.c (X0.row (Ty.str.pair (Ty.int IntKind.i64).slice) y2 true)]] []) := by kernel_rfl
theorem f1114_raw (n : Nat) (x0 : List (ByteArray × List Int)) : abody Γ (orc [e1150]) n 89 [XV.mk false [X.c (X0.dat (Ty.str.pair (Ty.int IntKind.i64).slice).slice x0)]] = chk (decide ((0 : Int) ≤ (↑x0.length : Int)) && decide ((↑x0.length : Int) ≤ (↑x0.length : Int)) && decide ((↑x0.length : Int) ≤ (140737488355328 : Int)) && decide ((40 : Int) * (↑x0.length : Int) ≤ (140737488355328 : Int))) (f1114_L0 n n x0 (0 : Int) (List.replicate (↑x0.length : Int).toNat (ByteArray.empty, []))) := by kernel_rfl

noncomputable def f1120_L0 (n m0 : Nat) (y0 : List (ByteArray × List Int)) (y1 : List (ByteArray × List Int)) (y2 : Int) : Option Res := loopAt Γ (orc [e1156]) n (95 : Nat) (0 : Nat) [] [Pth.r, Pth.r, Pth.l, Pth.r, Pth.b] m0 (St.mk [Slot.val (Val.one (Cell.dat (Ty.str.pair (Ty.int IntKind.i64).slice).slice y0)), Slot.val (Val.one (Cell.dat (Ty.str.pair (Ty.int IntKind.i64).slice).slice y1)), Slot.nix, Slot.nix, Slot.nix, Slot.val (Val.one (Cell.dat (Ty.int IntKind.i64) y2)), Slot.nix, Slot.nix, Slot.nix, Slot.nix, Slot.nix, Slot.nix, Slot.nix, Slot.nix, Slot.nix, Slot.nix, Slot.nix, Slot.nix, Slot.nix, Slot.nix, Slot.nix, Slot.nix, Slot.nix, Slot.nix, Slot.nix, Slot.nix, Slot.nix] [])
theorem f1120_L0_step (n m0 : Nat) (y0 : List (ByteArray × List Int)) (y1 : List (ByteArray × List Int)) (y2 : Int) : f1120_L0 n (m0 + 1) y0 y1 y2 = bif decide (y2 < (↑y0.length : Int)) then chk (decide ((0 : Int) ≤ y2) && decide (y2 < (↑y0.length : Int))) (chk (decide ((0 : Int) ≤ y2) && decide (y2 < (↑y1.length : Int))) (bif !(Sp.f1156 (y0.getD y2.toNat (ByteArray.mk #[], [])).1 (y0.getD y2.toNat (ByteArray.mk #[], [])).2 (y1.getD y2.toNat (ByteArray.mk #[], [])).1 (y1.getD y2.toNat (ByteArray.mk #[], [])).2).1 then some (Res.mk [XV.mk false [X.c (X0.dat Ty.bool false)]] []) else f1120_L0 n m0 y0 y1 (IntKind.i64.wrap (y2 + (1 : Int))))) else some (Res.mk [XV.mk false [X.c (X0.dat Ty.bool true)]] []) := by kernel_rfl
theorem f1120_raw (n : Nat) (x0 : List (ByteArray × List Int)) (x1 : List (ByteArray × List Int)) : abody Γ (orc [e1156]) n 95 [XV.mk false [X.c (X0.dat (Ty.str.pair (Ty.int IntKind.i64).slice).slice x0)], XV.mk false [X.c (X0.dat (Ty.str.pair (Ty.int IntKind.i64).slice).slice x1)]] = bif (↑x0.length : Int) != (↑x1.length : Int) then some (Res.mk [XV.mk false [X.c (X0.dat Ty.bool false)]] []) else f1120_L0 n n x0 x1 (0 : Int) := by kernel_rfl

noncomputable def e1112 : Ent := { f := n1112, ins := [Sh.one (C0.dat (.slice tIx)), Sh.one cI], outs := [Sh.one cI], upd := [], pre := fun a => true, spec := fun a => Sp.szE Sp.szIx a.1 a.2, wrt := fun _ => () }
theorem e1112_core (xs : List VIx) (v : Int) (hl : xs.length ≤ maxLen) : ∃ n, abody Γ (orc [e1148]) n n1112 [XV.mk false [X.c (X0.dat (Ty.slice tIx) xs)], XV.mk false [X.c (X0.dat (Ty.int IntKind.i64) v)]] = some (rI (Sp.szE Sp.szIx xs v)) := by
  have hl : xs.length ≤ 9223372036854775807 := hl
  refine ⟨xs.length + 1, (f1112_raw _ xs v).trans ?_⟩
  unfold Sp.szE
  cases decide (IntKind.i64.wrap (v - (xs.length : Int)) < 0) with
  | true => rfl
  | false =>
    rw [cond_false, cond_false]
    refine sz_loop (f := Sp.szIx) (R := rI) xs (fun m v k => f1112_L0 (xs.length + 1) m xs v k) (fun m v k hk => ?_) (fun m v k h => ?_) xs.length 0 _ _ (Nat.zero_add _) (Nat.lt_succ_self _)
    · show f1112_L0 _ _ _ _ _ = _
      rw [f1112_L0_step, nat_ge hk, cond_false]
    · show f1112_L0 _ _ _ _ _ = _
      rw [f1112_L0_step, nat_lt h, cond_true, guard0, chkT, getD_nat xs k _ h, next64 h hl]
      rfl
theorem e1112_ok : Valid PP Γ e1112 := valid_len ok (vcons e1148_ok vnil) fun a _ hl => e1112_core a.1 a.2 (hl _ (List.mem_cons_self) _ (List.mem_cons_self)).1
def Sp.fits1114 (xs : List VIx) : Bool := yes2 (Sp.fits32 xs) (Sp.allW Sp.okIx xs)
noncomputable def e1114 : Ent := { f := n1114, ins := [Sh.one (C0.dat (.slice tIx))], outs := [Sh.one (C0.row tIx)], upd := [], pre := fun a => Sp.fits1114 a, spec := fun a => a, wrt := fun _ => () }
theorem e1114_core (xs : List VIx) (ha : Sp.fits1114 xs = true) : ∃ n, abody Γ (orc [e1150]) n n1114 [XV.mk false [X.c (X0.dat (Ty.slice tIx) xs)]] = some (Res.mk [XV.mk false [X.c (X0.row tIx xs true)]] []) := by
  obtain ⟨h1, h2⟩ := yes2_true ha
  have h1 := fits32_of h1
  have h2 := allW_mem.1 h2
  refine ⟨xs.length + 1, (f1114_raw _ xs).trans ?_⟩
  rw [make40 h1, chkT]
  refine to_end (R := fun l : List VIx => Res.mk [XV.mk false [X.c (X0.row tIx l true)]] []) xs (fun m k acc => f1114_L0 (xs.length + 1) m xs k acc) (fun m k acc hk => ?_) (fun m k acc h ha => ?_) _
  · show f1114_L0 _ _ _ _ _ = _
    rw [f1114_L0_step, nat_ge hk, cond_false]
  · show f1114_L0 _ _ _ _ _ = _
    have h3 : Sp.f1150_pre xs[k].1 xs[k].2 = true := h2 _ (List.getElem_mem h)
    rw [f1114_L0_step, ha, nat_lt h, cond_true, guard0, chkT, getD_nat xs k _ h, h3, chkT, chkT, next64 h (by omega), Int.toNat_natCast]
    rfl
theorem e1114_ok : Valid PP Γ e1114 := valid_of ok (vcons e1150_ok vnil) fun a ha => e1114_core a ha
noncomputable def e1120 : Ent := { f := n1120, ins := [Sh.one (C0.dat (.slice tIx)), Sh.one (C0.dat (.slice tIx))], outs := [Sh.one cB], upd := [], pre := fun a => true, spec := fun a => Sp.eqW Sp.eqIx a.1 a.2, wrt := fun _ => () }
theorem e1120_core (xs ys : List VIx) (h1 : xs.length ≤ maxLen) : ∃ n, abody Γ (orc [e1156]) n n1120 [XV.mk false [X.c (X0.dat (Ty.slice tIx) xs)], XV.mk false [X.c (X0.dat (Ty.slice tIx) ys)]] = some (rBo (Sp.eqW Sp.eqIx xs ys)) := by
  have h1 : xs.length ≤ 9223372036854775807 := h1
  refine ⟨xs.length + 1, (f1120_raw _ xs ys).trans ?_⟩
  by_cases he : xs.length = ys.length
  · rw [show ((xs.length : Int) != (ys.length : Int)) = false by simp [he], cond_false]
    refine eq_loop xs ys (fun m k => f1120_L0 _ m xs ys k) he (fun m k hk => ?_) (fun m k h h2 => ?_) xs.length 0 _ (Nat.zero_add _) (Nat.lt_succ_self _)
    · show f1120_L0 _ _ _ _ _ = _
      rw [f1120_L0_step, nat_ge hk, cond_false]
    · show f1120_L0 _ _ _ _ _ = _
      rw [f1120_L0_step, nat_lt h, cond_true, guard0, chkT, guard2 h2, chkT, getD_nat xs k _ h, getD_nat ys k _ h2, next64 h2 (by omega)]
      rfl
  · rw [show ((xs.length : Int) != (ys.length : Int)) = true by simp; omega, eqW_len he]
    rfl
theorem e1120_ok : Valid PP Γ e1120 := valid_len ok (vcons e1156_ok vnil) fun a _ hl => e1120_core a.1 a.2 (hl _ (List.mem_cons_self) _ (List.mem_cons_self)).1
def Sp.f1085 (x0 : ByteArray) (x1 : List (ByteArray × Int × Bool)) (x2 : Int) (x3 : List (ByteArray × List Int)) (x4 : Int) := (bif decide (IntKind.i64.wrap (x4 - (↑x0.size : Int)) < (0 : Int)) then ((-1 : Int), ()) else (bif decide (Sp.szE Sp.szCo x1 (IntKind.i64.wrap (x4 - (↑x0.size : Int))) < (0 : Int)) then ((-1 : Int), ()) else (bif decide (Sp.szE Sp.szIx x3 (Sp.szE Sp.szCo x1 (IntKind.i64.wrap (x4 - (↑x0.size : Int)))) < (0 : Int)) then ((-1 : Int), ()) else (Sp.szE Sp.szIx x3 (Sp.szE Sp.szCo x1 (IntKind.i64.wrap (x4 - (↑x0.size : Int)))), ()))))
noncomputable def e1085 : Ent := { f := 39, ins := [Sh.agg [C0.dat Ty.str, C0.dat (Ty.str.pair ((Ty.int IntKind.i64).pair Ty.bool)).slice, C0.dat (Ty.int IntKind.i64), C0.dat (Ty.str.pair (Ty.int IntKind.i64).slice).slice], Sh.one (C0.dat (Ty.int IntKind.i64))], outs := [Sh.one (C0.dat (Ty.int IntKind.i64))], upd := [], pre := fun a => true, spec := fun a => (Sp.f1085 a.1.1 a.1.2.1 a.1.2.2.1 a.1.2.2.2 a.2).1, wrt := fun a => (Sp.f1085 a.1.1 a.1.2.1 a.1.2.2.1 a.1.2.2.2 a.2).2 }
def f1085_g (v : denS [Sh.one (C0.dat (Ty.int IntKind.i64))] × denS []) : Res := ⟨mkS [Sh.one (C0.dat (Ty.int IntKind.i64))] v.1, mkU [] v.2⟩
theorem f1085_raw (x0 : ByteArray) (x1 : List (ByteArray × Int × Bool)) (x2 : Int) (x3 : List (ByteArray × List Int)) (x4 : Int) : abody Γ (orc [e1111, e1112]) 0 39 [XV.mk true [X.c (X0.dat Ty.str x0), X.c (X0.dat (Ty.str.pair ((Ty.int IntKind.i64).pair Ty.bool)).slice x1), X.c (X0.dat (Ty.int IntKind.i64) x2), X.c (X0.dat (Ty.str.pair (Ty.int IntKind.i64).slice).slice x3)], XV.mk false [X.c (X0.dat (Ty.int IntKind.i64) x4)]] = bif decide (IntKind.i64.wrap (x4 - (↑x0.size : Int)) < (0 : Int)) then some (Res.mk [XV.mk false [X.c (X0.dat (Ty.int IntKind.i64) (-1 : Int))]] []) else bif decide (Sp.szE Sp.szCo x1 (IntKind.i64.wrap (x4 - (↑x0.size : Int))) < (0 : Int)) then some (Res.mk [XV.mk false [X.c (X0.dat (Ty.int IntKind.i64) (-1 : Int))]] []) else bif decide (Sp.szE Sp.szIx x3 (Sp.szE Sp.szCo x1 (IntKind.i64.wrap (x4 - (↑x0.size : Int)))) < (0 : Int)) then some (Res.mk [XV.mk false [X.c (X0.dat (Ty.int IntKind.i64) (-1 : Int))]] []) else some (Res.mk [XV.mk false [X.c (X0.dat (Ty.int IntKind.i64) (Sp.szE Sp.szIx x3 (Sp.szE Sp.szCo x1 (IntKind.i64.wrap (x4 - (↑x0.size : Int))))))]] []) := by kernel_rfl
theorem f1085_form (x0 : ByteArray) (x1 : List (ByteArray × Int × Bool)) (x2 : Int) (x3 : List (ByteArray × List Int)) (x4 : Int) : (bif decide (IntKind.i64.wrap (x4 - (↑x0.size : Int)) < (0 : Int)) then some (Res.mk [XV.mk false [X.c (X0.dat (Ty.int IntKind.i64) (-1 : Int))]] []) else bif decide (Sp.szE Sp.szCo x1 (IntKind.i64.wrap (x4 - (↑x0.size : Int))) < (0 : Int)) then some (Res.mk [XV.mk false [X.c (X0.dat (Ty.int IntKind.i64) (-1 : Int))]] []) else bif decide (Sp.szE Sp.szIx x3 (Sp.szE Sp.szCo x1 (IntKind.i64.wrap (x4 - (↑x0.size : Int)))) < (0 : Int)) then some (Res.mk [XV.mk false [X.c (X0.dat (Ty.int IntKind.i64) (-1 : Int))]] []) else some (Res.mk [XV.mk false [X.c (X0.dat (Ty.int IntKind.i64) (Sp.szE Sp.szIx x3 (Sp.szE Sp.szCo x1 (IntKind.i64.wrap (x4 - (↑x0.size : Int))))))]] [])) = some (f1085_g (Sp.f1085 x0 x1 x2 x3 x4)) := by
  unfold Sp.f1085
  exact (cond_plain f1085_g (rfl) ((cond_plain f1085_g (rfl) ((cond_plain f1085_g (rfl) (rfl))))))
theorem e1085_ok : Valid PP Γ e1085 := valid_auto ok (vcons e1111_ok (vcons e1112_ok vnil)) fun a => (f1085_raw a.1.1 a.1.2.1 a.1.2.2.1 a.1.2.2.2 a.2).trans (f1085_form a.1.1 a.1.2.1 a.1.2.2.1 a.1.2.2.2 a.2)

def Sp.f1089_pre (x0 : ByteArray) (x1 : List (ByteArray × Int × Bool)) (x2 : Int) (x3 : List (ByteArray × List Int)) : Bool := (Sp.fits32 x1 && Sp.fits1114 x3)
def Sp.f1089 (x0 : ByteArray) (x1 : List (ByteArray × Int × Bool)) (x2 : Int) (x3 : List (ByteArray × List Int)) := ((x0, x1, x2, x3), ())
noncomputable def e1089 : Ent := { f := 44, ins := [Sh.agg [C0.dat Ty.str, C0.dat (Ty.str.pair ((Ty.int IntKind.i64).pair Ty.bool)).slice, C0.dat (Ty.int IntKind.i64), C0.dat (Ty.str.pair (Ty.int IntKind.i64).slice).slice]], outs := [Sh.agg [C0.dat Ty.str, C0.row (Ty.str.pair ((Ty.int IntKind.i64).pair Ty.bool)), C0.dat (Ty.int IntKind.i64), C0.row (Ty.str.pair (Ty.int IntKind.i64).slice)]], upd := [], pre := fun a => Sp.f1089_pre a.1 a.2.1 a.2.2.1 a.2.2.2, spec := fun a => (Sp.f1089 a.1 a.2.1 a.2.2.1 a.2.2.2).1, wrt := fun a => (Sp.f1089 a.1 a.2.1 a.2.2.1 a.2.2.2).2 }
def f1089_g (v : denS [Sh.agg [C0.dat Ty.str, C0.row (Ty.str.pair ((Ty.int IntKind.i64).pair Ty.bool)), C0.dat (Ty.int IntKind.i64), C0.row (Ty.str.pair (Ty.int IntKind.i64).slice)]] × denS []) : Res := ⟨mkS [Sh.agg [C0.dat Ty.str, C0.row (Ty.str.pair ((Ty.int IntKind.i64).pair Ty.bool)), C0.dat (Ty.int IntKind.i64), C0.row (Ty.str.pair (Ty.int IntKind.i64).slice)]] v.1, mkU [] v.2⟩
theorem f1089_raw (x0 : ByteArray) (x1 : List (ByteArray × Int × Bool)) (x2 : Int) (x3 : List (ByteArray × List Int)) : abody Γ (orc [e1113, e1114]) 0 44 [XV.mk true [X.c (X0.dat Ty.str x0), X.c (X0.dat (Ty.str.pair ((Ty.int IntKind.i64).pair Ty.bool)).slice x1), X.c (X0.dat (Ty.int IntKind.i64) x2), X.c (X0.dat (Ty.str.pair (Ty.int IntKind.i64).slice).slice x3)]] = chk (Sp.fits32 x1) (chk (Sp.fits1114 x3) (some (Res.mk [XV.mk true [X.c (X0.dat Ty.str x0), X.c (X0.row (Ty.str.pair ((Ty.int IntKind.i64).pair Ty.bool)) x1 true), X.c (X0.dat (Ty.int IntKind.i64) x2), X.c (X0.row (Ty.str.pair (Ty.int IntKind.i64).slice) x3 true)]] []))) := by kernel_rfl
theorem f1089_form (x0 : ByteArray) (x1 : List (ByteArray × Int × Bool)) (x2 : Int) (x3 : List (ByteArray × List Int)) : (chk (Sp.fits32 x1) (chk (Sp.fits1114 x3) (some (Res.mk [XV.mk true [X.c (X0.dat Ty.str x0), X.c (X0.row (Ty.str.pair ((Ty.int IntKind.i64).pair Ty.bool)) x1 true), X.c (X0.dat (Ty.int IntKind.i64) x2), X.c (X0.row (Ty.str.pair (Ty.int IntKind.i64).slice) x3 true)]] [])))) = chk (Sp.f1089_pre x0 x1 x2 x3) (some (f1089_g (Sp.f1089 x0 x1 x2 x3))) := by
  unfold Sp.f1089_pre Sp.f1089
  exact (chk_step ((chk_last (rfl))))
theorem e1089_ok : Valid PP Γ e1089 := valid_auto ok (vcons e1113_ok (vcons e1114_ok vnil)) fun a => (f1089_raw a.1 a.2.1 a.2.2.1 a.2.2.2).trans (f1089_form a.1 a.2.1 a.2.2.1 a.2.2.2)

def Sp.f1094 (x0 : ByteArray) (x1 : List (ByteArray × Int × Bool)) (x2 : Int) (x3 : List (ByteArray × List Int)) (x4 : ByteArray) (x5 : List (ByteArray × Int × Bool)) (x6 : Int) (x7 : List (ByteArray × List Int)) := (bif !x0.toList == x4.toList then (false, ()) else (bif !Sp.eqW Sp.eqCo x1 x5 then (false, ()) else (bif x2 != x6 then (false, ()) else (bif !Sp.eqW Sp.eqIx x3 x7 then (false, ()) else (true, ())))))
noncomputable def e1094 : Ent := { f := 49, ins := [Sh.agg [C0.dat Ty.str, C0.dat (Ty.str.pair ((Ty.int IntKind.i64).pair Ty.bool)).slice, C0.dat (Ty.int IntKind.i64), C0.dat (Ty.str.pair (Ty.int IntKind.i64).slice).slice], Sh.agg [C0.dat Ty.str, C0.dat (Ty.str.pair ((Ty.int IntKind.i64).pair Ty.bool)).slice, C0.dat (Ty.int IntKind.i64), C0.dat (Ty.str.pair (Ty.int IntKind.i64).slice).slice]], outs := [Sh.one (C0.dat Ty.bool)], upd := [], pre := fun a => true, spec := fun a => (Sp.f1094 a.1.1 a.1.2.1 a.1.2.2.1 a.1.2.2.2 a.2.1 a.2.2.1 a.2.2.2.1 a.2.2.2.2).1, wrt := fun a => (Sp.f1094 a.1.1 a.1.2.1 a.1.2.2.1 a.1.2.2.2 a.2.1 a.2.2.1 a.2.2.2.1 a.2.2.2.2).2 }
def f1094_g (v : denS [Sh.one (C0.dat Ty.bool)] × denS []) : Res := ⟨mkS [Sh.one (C0.dat Ty.bool)] v.1, mkU [] v.2⟩
theorem f1094_raw (x0 : ByteArray) (x1 : List (ByteArray × Int × Bool)) (x2 : Int) (x3 : List (ByteArray × List Int)) (x4 : ByteArray) (x5 : List (ByteArray × Int × Bool)) (x6 : Int) (x7 : List (ByteArray × List Int)) : abody Γ (orc [e1119, e1120]) 0 49 [XV.mk true [X.c (X0.dat Ty.str x0), X.c (X0.dat (Ty.str.pair ((Ty.int IntKind.i64).pair Ty.bool)).slice x1), X.c (X0.dat (Ty.int IntKind.i64) x2), X.c (X0.dat (Ty.str.pair (Ty.int IntKind.i64).slice).slice x3)], XV.mk true [X.c (X0.dat Ty.str x4), X.c (X0.dat (Ty.str.pair ((Ty.int IntKind.i64).pair Ty.bool)).slice x5), X.c (X0.dat (Ty.int IntKind.i64) x6), X.c (X0.dat (Ty.str.pair (Ty.int IntKind.i64).slice).slice x7)]] = bif !x0.toList == x4.toList then some (Res.mk [XV.mk false [X.c (X0.dat Ty.bool false)]] []) else bif !Sp.eqW Sp.eqCo x1 x5 then some (Res.mk [XV.mk false [X.c (X0.dat Ty.bool false)]] []) else bif x2 != x6 then some (Res.mk [XV.mk false [X.c (X0.dat Ty.bool false)]] []) else bif !Sp.eqW Sp.eqIx x3 x7 then some (Res.mk [XV.mk false [X.c (X0.dat Ty.bool false)]] []) else some (Res.mk [XV.mk false [X.c (X0.dat Ty.bool true)]] []) := by kernel_rfl
theorem f1094_form (x0 : ByteArray) (x1 : List (ByteArray × Int × Bool)) (x2 : Int) (x3 : List (ByteArray × List Int)) (x4 : ByteArray) (x5 : List (ByteArray × Int × Bool)) (x6 : Int) (x7 : List (ByteArray × List Int)) : (bif !x0.toList == x4.toList then some (Res.mk [XV.mk false [X.c (X0.dat Ty.bool false)]] []) else bif !Sp.eqW Sp.eqCo x1 x5 then some (Res.mk [XV.mk false [X.c (X0.dat Ty.bool false)]] []) else bif x2 != x6 then some (Res.mk [XV.mk false [X.c (X0.dat Ty.bool false)]] []) else bif !Sp.eqW Sp.eqIx x3 x7 then some (Res.mk [XV.mk false [X.c (X0.dat Ty.bool false)]] []) else some (Res.mk [XV.mk false [X.c (X0.dat Ty.bool true)]] [])) = some (f1094_g (Sp.f1094 x0 x1 x2 x3 x4 x5 x6 x7)) := by
  unfold Sp.f1094
  exact (cond_plain f1094_g (rfl) ((cond_plain f1094_g (rfl) ((cond_plain f1094_g (rfl) ((cond_plain f1094_g (rfl) (rfl))))))))
theorem e1094_ok : Valid PP Γ e1094 := valid_auto ok (vcons e1119_ok (vcons e1120_ok vnil)) fun a => (f1094_raw a.1.1 a.1.2.1 a.1.2.2.1 a.1.2.2.2 a.2.1 a.2.2.1 a.2.2.2.1 a.2.2.2.2).trans (f1094_form a.1.1 a.1.2.1 a.1.2.2.1 a.1.2.2.2 a.2.1 a.2.2.1 a.2.2.2.1 a.2.2.2.2)

def Sp.szTb (x : VTb) (l : Int) : Int := (Sp.f1085 x.1 x.2.1 x.2.2.1 x.2.2.2 l).1
def Sp.eqTb (x y : VTb) : Bool := (Sp.f1094 x.1 x.2.1 x.2.2.1 x.2.2.2 y.1 y.2.1 y.2.2.1 y.2.2.2).1
def Sp.okTb (x : VTb) : Bool := Sp.f1089_pre x.1 x.2.1 x.2.2.1 x.2.2.2
noncomputable def f1065_L0 (n m0 : Nat) (y0 : List (ByteArray × List (ByteArray × Int × Bool) × Int × List (ByteArray × List Int))) (y1 : Int) (y2 : Int) : Option Res := loopAt Γ (orc [e1085]) n (9 : Nat) (0 : Nat) [] [Pth.r, Pth.r, Pth.r, Pth.l, Pth.r, Pth.b] m0 (St.mk [Slot.val (Val.one (Cell.dat (Ty.str.pair ((Ty.str.pair ((Ty.int IntKind.i64).pair Ty.bool)).slice.pair ((Ty.int IntKind.i64).pair (Ty.str.pair (Ty.int IntKind.i64).slice).slice))).slice y0)), Slot.val (Val.one (Cell.dat (Ty.int IntKind.i64) y1)), Slot.nix, Slot.nix, Slot.nix, Slot.val (Val.one (Cell.dat (Ty.int IntKind.i64) y2)), Slot.nix, Slot.nix, Slot.nix, Slot.nix, Slot.nix, Slot.nix, Slot.nix, Slot.nix, Slot.nix, Slot.nix, Slot.nix, Slot.nix, Slot.nix, Slot.nix, Slot.nix, Slot.nix, Slot.nix, Slot.nix, Slot.nix, Slot.nix, Slot.nix] [])
theorem f1065_L0_step (n m0 : Nat) (y0 : List (ByteArray × List (ByteArray × Int × Bool) × Int × List (ByteArray × List Int))) (y1 : Int) (y2 : Int) : f1065_L0 n (m0 + 1) y0 y1 y2 = bif decide (y2 < (↑y0.length : Int)) then chk (decide ((0 : Int) ≤ y2) && decide (y2 < (↑y0.length : Int))) (bif decide ((Sp.f1085 (y0.getD y2.toNat (ByteArray.mk #[], [], (0 : Int), [])).1 (y0.getD y2.toNat (ByteArray.mk #[], [], (0 : Int), [])).2.1 (y0.getD y2.toNat (ByteArray.mk #[], [], (0 : Int), [])).2.2.1 (y0.getD y2.toNat (ByteArray.mk #[], [], (0 : Int), [])).2.2.2 y1).1 < (0 : Int)) then some (Res.mk [XV.mk false [X.c (X0.dat (Ty.int IntKind.i64) (-1 : Int))]] []) else f1065_L0 n m0 y0 (Sp.f1085 (y0.getD y2.toNat (ByteArray.mk #[], [], (0 : Int), [])).1 (y0.getD y2.toNat (ByteArray.mk #[], [], (0 : Int), [])).2.1 (y0.getD y2.toNat (ByteArray.mk #[], [], (0 : Int), [])).2.2.1 (y0.getD y2.toNat (ByteArray.mk #[], [], (0 : Int), [])).2.2.2 y1).1 (IntKind.i64.wrap (y2 + (1 : Int)))) else some (Res.mk [XV.mk false [X.c (X0.dat (Ty.int IntKind.i64) y1)]] []) := by kernel_rfl
theorem f1065_raw (n : Nat) (x0 : List (ByteArray × List (ByteArray × Int × Bool) × Int × List (ByteArray × List Int))) (x1 : Int) : abody Γ (orc [e1085]) n 9 [XV.mk false [X.c (X0.dat (Ty.str.pair ((Ty.str.pair ((Ty.int IntKind.i64).pair Ty.bool)).slice.pair ((Ty.int IntKind.i64).pair (Ty.str.pair (Ty.int IntKind.i64).slice).slice))).slice x0)], XV.mk false [X.c (X0.dat (Ty.int IntKind.i64) x1)]] = bif decide (IntKind.i64.wrap (x1 - (↑x0.length : Int)) < (0 : Int)) then some (Res.mk [XV.mk false [X.c (X0.dat (Ty.int IntKind.i64) (-1 : Int))]] []) else f1065_L0 n n x0 (IntKind.i64.wrap (x1 - (↑x0.length : Int))) (0 : Int) := by kernel_rfl

noncomputable def f1068_L0 (n m0 : Nat) (y0 : List (ByteArray × List (ByteArray × Int × Bool) × Int × List (ByteArray × List Int))) (y1 : Int) (y2 : List (ByteArray × List (ByteArray × Int × Bool) × Int × List (ByteArray × List Int))) : Option Res := loopAt Γ (orc [e1089]) n (12 : Nat) (0 : Nat) [] [Pth.r, Pth.r, Pth.l, Pth.r, Pth.b] m0 (St.mk [Slot.val (Val.one (Cell.dat (Ty.str.pair ((Ty.str.pair ((Ty.int IntKind.i64).pair Ty.bool)).slice.pair ((Ty.int IntKind.i64).pair (Ty.str.pair (Ty.int IntKind.i64).slice).slice))).slice y0)), Slot.nix, Slot.nix, Slot.val (Val.one (Cell.own (0 : Nat))), Slot.val (Val.one (Cell.dat (Ty.int IntKind.i64) y1)), Slot.nix, Slot.nix, Slot.nix, Slot.nix, Slot.nix, Slot.nix, Slot.nix, Slot.nix, Slot.nix, Slot.nix, Slot.nix, Slot.nix, Slot.nix, Slot.nix, Slot.nix, Slot.nix, Slot.nix, Slot.nix] [AObj.row (Ty.str.pair ((Ty.str.pair ((Ty.int IntKind.i64).pair Ty.bool)).slice.pair ((Ty.int IntKind.i64).pair (Ty.str.pair (Ty.int IntKind.i64).slice).slice))) y2 true])
theorem f1068_L0_step (n m0 : Nat) (y0 : List (ByteArray × List (ByteArray × Int × Bool) × Int × List (ByteArray × List Int))) (y1 : Int) (y2 : List (ByteArray × List (ByteArray × Int × Bool) × Int × List (ByteArray × List Int))) : f1068_L0 n (m0 + 1) y0 y1 y2 = bif decide (y1 < (↑y0.length : Int)) then chk (decide ((0 : Int) ≤ y1) && decide (y1 < (↑y0.length : Int))) (chk (Sp.f1089_pre (y0.getD y1.toNat (ByteArray.mk #[], [], (0 : Int), [])).1 (y0.getD y1.toNat (ByteArray.mk #[], [], (0 : Int), [])).2.1 (y0.getD y1.toNat (ByteArray.mk #[], [], (0 : Int), [])).2.2.1 (y0.getD y1.toNat (ByteArray.mk #[], [], (0 : Int), [])).2.2.2) (chk (decide ((0 : Int) ≤ y1) && decide (y1 < (↑y2.length : Int))) (f1068_L0 n m0 y0 (IntKind.i64.wrap (y1 + (1 : Int))) (y2.set y1.toNat ((Sp.f1089 (y0.getD y1.toNat (ByteArray.mk #[], [], (0 : Int), [])).1 (y0.getD y1.toNat (ByteArray.mk #[], [], (0 : Int), [])).2.1 (y0.getD y1.toNat (ByteArray.mk #[], [], (0 : Int), [])).2.2.1 (y0.getD y1.toNat (ByteArray.mk #[], [], (0 : Int), [])).2.2.2).1.1, (Sp.f1089 (y0.getD y1.toNat (ByteArray.mk #[], [], (0 : Int), [])).1 (y0.getD y1.toNat (ByteArray.mk #[], [], (0 : Int), [])).2.1 (y0.getD y1.toNat (ByteArray.mk #[], [], (0 : Int), [])).2.2.1 (y0.getD y1.toNat (ByteArray.mk #[], [], (0 : Int), [])).2.2.2).1.2.1, (Sp.f1089 (y0.getD y1.toNat (ByteArray.mk #[], [], (0 : Int), [])).1 (y0.getD y1.toNat (ByteArray.mk #[], [], (0 : Int), [])).2.1 (y0.getD y1.toNat (ByteArray.mk #[], [], (0 : Int), [])).2.2.1 (y0.getD y1.toNat (ByteArray.mk #[], [], (0 : Int), [])).2.2.2).1.2.2.1, (Sp.f1089 (y0.getD y1.toNat (ByteArray.mk #[], [], (0 : Int), [])).1 (y0.getD y1.toNat (ByteArray.mk #[], [], (0 : Int), [])).2.1 (y0.getD y1.toNat (ByteArray.mk #[], [], (0 : Int), [])).2.2.1 (y0.getD y1.toNat (ByteArray.mk #[], [], (0 : Int), [])).2.2.2).1.2.2.2))))) else some (Res.mk [XV.mk false [X.c (X0.row (Ty.str.pair ((Ty.str.pair ((Ty.int IntKind.i64).pair Ty.bool)).slice.pair ((Ty.int IntKind.i64).pair (Ty.str.pair (Ty.int IntKind.i64).slice).slice))) y2 true)]] []) := by kernel_rfl
theorem f1068_raw (n : Nat) (x0 : List (ByteArray × List (ByteArray × Int × Bool) × Int × List (ByteArray × List Int))) : abody Γ (orc [e1089]) n 12 [XV.mk false [X.c (X0.dat (Ty.str.pair ((Ty.str.pair ((Ty.int IntKind.i64).pair Ty.bool)).slice.pair ((Ty.int IntKind.i64).pair (Ty.str.pair (Ty.int IntKind.i64).slice).slice))).slice x0)]] = chk (decide ((0 : Int) ≤ (↑x0.length : Int)) && decide ((↑x0.length : Int) ≤ (↑x0.length : Int)) && decide ((↑x0.length : Int) ≤ (140737488355328 : Int)) && decide ((72 : Int) * (↑x0.length : Int) ≤ (140737488355328 : Int))) (f1068_L0 n n x0 (0 : Int) (List.replicate (↑x0.length : Int).toNat (ByteArray.empty, [], (0 : Int), []))) := by kernel_rfl

noncomputable def f1070_L0 (n m0 : Nat) (y0 : List (ByteArray × List (ByteArray × Int × Bool) × Int × List (ByteArray × List Int))) (y1 : List (ByteArray × List (ByteArray × Int × Bool) × Int × List (ByteArray × List Int))) (y2 : Int) : Option Res := loopAt Γ (orc [e1094]) n (14 : Nat) (0 : Nat) [] [Pth.r, Pth.r, Pth.l, Pth.r, Pth.b] m0 (St.mk [Slot.val (Val.one (Cell.dat (Ty.str.pair ((Ty.str.pair ((Ty.int IntKind.i64).pair Ty.bool)).slice.pair ((Ty.int IntKind.i64).pair (Ty.str.pair (Ty.int IntKind.i64).slice).slice))).slice y0)), Slot.val (Val.one (Cell.dat (Ty.str.pair ((Ty.str.pair ((Ty.int IntKind.i64).pair Ty.bool)).slice.pair ((Ty.int IntKind.i64).pair (Ty.str.pair (Ty.int IntKind.i64).slice).slice))).slice y1)), Slot.nix, Slot.nix, Slot.nix, Slot.val (Val.one (Cell.dat (Ty.int IntKind.i64) y2)), Slot.nix, Slot.nix, Slot.nix, Slot.nix, Slot.nix, Slot.nix, Slot.nix, Slot.nix, Slot.nix, Slot.nix, Slot.nix, Slot.nix, Slot.nix, Slot.nix, Slot.nix, Slot.nix, Slot.nix, Slot.nix, Slot.nix, Slot.nix, Slot.nix] [])
theorem f1070_L0_step (n m0 : Nat) (y0 : List (ByteArray × List (ByteArray × Int × Bool) × Int × List (ByteArray × List Int))) (y1 : List (ByteArray × List (ByteArray × Int × Bool) × Int × List (ByteArray × List Int))) (y2 : Int) : f1070_L0 n (m0 + 1) y0 y1 y2 = bif decide (y2 < (↑y0.length : Int)) then chk (decide ((0 : Int) ≤ y2) && decide (y2 < (↑y0.length : Int))) (chk (decide ((0 : Int) ≤ y2) && decide (y2 < (↑y1.length : Int))) (bif !(Sp.f1094 (y0.getD y2.toNat (ByteArray.mk #[], [], (0 : Int), [])).1 (y0.getD y2.toNat (ByteArray.mk #[], [], (0 : Int), [])).2.1 (y0.getD y2.toNat (ByteArray.mk #[], [], (0 : Int), [])).2.2.1 (y0.getD y2.toNat (ByteArray.mk #[], [], (0 : Int), [])).2.2.2 (y1.getD y2.toNat (ByteArray.mk #[], [], (0 : Int), [])).1 (y1.getD y2.toNat (ByteArray.mk #[], [], (0 : Int), [])).2.1 (y1.getD y2.toNat (ByteArray.mk #[], [], (0 : Int), [])).2.2.1 (y1.getD y2.toNat (ByteArray.mk #[], [], (0 : Int), [])).2.2.2).1 then some (Res.mk [XV.mk false [X.c (X0.dat Ty.bool false)]] []) else f1070_L0 n m0 y0 y1 (IntKind.i64.wrap (y2 + (1 : Int))))) else some (Res.mk [XV.mk false [X.c (X0.dat Ty.bool true)]] []) := by kernel_rfl
theorem f1070_raw (n : Nat) (x0 : List (ByteArray × List (ByteArray × Int × Bool) × Int × List (ByteArray × List Int))) (x1 : List (ByteArray × List (ByteArray × Int × Bool) × Int × List (ByteArray × List Int))) : abody Γ (orc [e1094]) n 14 [XV.mk false [X.c (X0.dat (Ty.str.pair ((Ty.str.pair ((Ty.int IntKind.i64).pair Ty.bool)).slice.pair ((Ty.int IntKind.i64).pair (Ty.str.pair (Ty.int IntKind.i64).slice).slice))).slice x0)], XV.mk false [X.c (X0.dat (Ty.str.pair ((Ty.str.pair ((Ty.int IntKind.i64).pair Ty.bool)).slice.pair ((Ty.int IntKind.i64).pair (Ty.str.pair (Ty.int IntKind.i64).slice).slice))).slice x1)]] = bif (↑x0.length : Int) != (↑x1.length : Int) then some (Res.mk [XV.mk false [X.c (X0.dat Ty.bool false)]] []) else f1070_L0 n n x0 x1 (0 : Int) := by kernel_rfl

noncomputable def e1065 : Ent := { f := n1065, ins := [Sh.one (C0.dat (.slice tTb)), Sh.one cI], outs := [Sh.one cI], upd := [], pre := fun a => true, spec := fun a => Sp.szE Sp.szTb a.1 a.2, wrt := fun _ => () }
theorem e1065_core (xs : List VTb) (v : Int) (hl : xs.length ≤ maxLen) : ∃ n, abody Γ (orc [e1085]) n n1065 [XV.mk false [X.c (X0.dat (Ty.slice tTb) xs)], XV.mk false [X.c (X0.dat (Ty.int IntKind.i64) v)]] = some (rI (Sp.szE Sp.szTb xs v)) := by
  have hl : xs.length ≤ 9223372036854775807 := hl
  refine ⟨xs.length + 1, (f1065_raw _ xs v).trans ?_⟩
  unfold Sp.szE
  cases decide (IntKind.i64.wrap (v - (xs.length : Int)) < 0) with
  | true => rfl
  | false =>
    rw [cond_false, cond_false]
    refine sz_loop (f := Sp.szTb) (R := rI) xs (fun m v k => f1065_L0 (xs.length + 1) m xs v k) (fun m v k hk => ?_) (fun m v k h => ?_) xs.length 0 _ _ (Nat.zero_add _) (Nat.lt_succ_self _)
    · show f1065_L0 _ _ _ _ _ = _
      rw [f1065_L0_step, nat_ge hk, cond_false]
    · show f1065_L0 _ _ _ _ _ = _
      rw [f1065_L0_step, nat_lt h, cond_true, guard0, chkT, getD_nat xs k _ h, next64 h hl]
      rfl
theorem e1065_ok : Valid PP Γ e1065 := valid_len ok (vcons e1085_ok vnil) fun a _ hl => e1065_core a.1 a.2 (hl _ (List.mem_cons_self) _ (List.mem_cons_self)).1
def Sp.fits1068 (xs : List VTb) : Bool := yes2 (Sp.fits32 xs) (Sp.allW Sp.okTb xs)
noncomputable def e1068 : Ent := { f := n1068, ins := [Sh.one (C0.dat (.slice tTb))], outs := [Sh.one (C0.row tTb)], upd := [], pre := fun a => Sp.fits1068 a, spec := fun a => a, wrt := fun _ => () }
theorem e1068_core (xs : List VTb) (ha : Sp.fits1068 xs = true) : ∃ n, abody Γ (orc [e1089]) n n1068 [XV.mk false [X.c (X0.dat (Ty.slice tTb) xs)]] = some (Res.mk [XV.mk false [X.c (X0.row tTb xs true)]] []) := by
  obtain ⟨h1, h2⟩ := yes2_true ha
  have h1 := fits32_of h1
  have h2 := allW_mem.1 h2
  refine ⟨xs.length + 1, (f1068_raw _ xs).trans ?_⟩
  rw [make72 h1, chkT]
  refine to_end (R := fun l : List VTb => Res.mk [XV.mk false [X.c (X0.row tTb l true)]] []) xs (fun m k acc => f1068_L0 (xs.length + 1) m xs k acc) (fun m k acc hk => ?_) (fun m k acc h ha => ?_) _
  · show f1068_L0 _ _ _ _ _ = _
    rw [f1068_L0_step, nat_ge hk, cond_false]
  · show f1068_L0 _ _ _ _ _ = _
    have h3 : Sp.f1089_pre xs[k].1 xs[k].2.1 xs[k].2.2.1 xs[k].2.2.2 = true := h2 _ (List.getElem_mem h)
    rw [f1068_L0_step, ha, nat_lt h, cond_true, guard0, chkT, getD_nat xs k _ h, h3, chkT, chkT, next64 h (by omega), Int.toNat_natCast]
    rfl
theorem e1068_ok : Valid PP Γ e1068 := valid_of ok (vcons e1089_ok vnil) fun a ha => e1068_core a ha
noncomputable def e1070 : Ent := { f := n1070, ins := [Sh.one (C0.dat (.slice tTb)), Sh.one (C0.dat (.slice tTb))], outs := [Sh.one cB], upd := [], pre := fun a => true, spec := fun a => Sp.eqW Sp.eqTb a.1 a.2, wrt := fun _ => () }
theorem e1070_core (xs ys : List VTb) (h1 : xs.length ≤ maxLen) : ∃ n, abody Γ (orc [e1094]) n n1070 [XV.mk false [X.c (X0.dat (Ty.slice tTb) xs)], XV.mk false [X.c (X0.dat (Ty.slice tTb) ys)]] = some (rBo (Sp.eqW Sp.eqTb xs ys)) := by
  have h1 : xs.length ≤ 9223372036854775807 := h1
  refine ⟨xs.length + 1, (f1070_raw _ xs ys).trans ?_⟩
  by_cases he : xs.length = ys.length
  · rw [show ((xs.length : Int) != (ys.length : Int)) = false by simp [he], cond_false]
    refine eq_loop xs ys (fun m k => f1070_L0 _ m xs ys k) he (fun m k hk => ?_) (fun m k h h2 => ?_) xs.length 0 _ (Nat.zero_add _) (Nat.lt_succ_self _)
    · show f1070_L0 _ _ _ _ _ = _
      rw [f1070_L0_step, nat_ge hk, cond_false]
    · show f1070_L0 _ _ _ _ _ = _
      rw [f1070_L0_step, nat_lt h, cond_true, guard0, chkT, guard2 h2, chkT, getD_nat xs k _ h, getD_nat ys k _ h2, next64 h2 (by omega)]
      rfl
  · rw [show ((xs.length : Int) != (ys.length : Int)) = true by simp; omega, eqW_len he]
    rfl
theorem e1070_ok : Valid PP Γ e1070 := valid_len ok (vcons e1094_ok vnil) fun a _ hl => e1070_core a.1 a.2 (hl _ (List.mem_cons_self) _ (List.mem_cons_self)).1
def Sp.f1064 (x0 : ByteArray) (x1 : Int) (x2 : ByteArray) (x3 : ByteArray) (x4 : Int) (x5 : Int) := (bif decide (IntKind.i64.wrap (x5 - (↑x0.size : Int)) < (0 : Int)) then ((-1 : Int), ()) else (bif decide (IntKind.i64.wrap (IntKind.i64.wrap (x5 - (↑x0.size : Int)) - (↑x2.size : Int)) < (0 : Int)) then ((-1 : Int), ()) else (bif decide (IntKind.i64.wrap (IntKind.i64.wrap (IntKind.i64.wrap (x5 - (↑x0.size : Int)) - (↑x2.size : Int)) - (↑x3.size : Int)) < (0 : Int)) then ((-1 : Int), ()) else (IntKind.i64.wrap (IntKind.i64.wrap (IntKind.i64.wrap (x5 - (↑x0.size : Int)) - (↑x2.size : Int)) - (↑x3.size : Int)), ()))))
noncomputable def e1064 : Ent := { f := 8, ins := [Sh.agg [C0.dat Ty.str, C0.dat (Ty.int IntKind.i64), C0.dat Ty.str, C0.dat Ty.str, C0.dat (Ty.int IntKind.i64)], Sh.one (C0.dat (Ty.int IntKind.i64))], outs := [Sh.one (C0.dat (Ty.int IntKind.i64))], upd := [], pre := fun a => true, spec := fun a => (Sp.f1064 a.1.1 a.1.2.1 a.1.2.2.1 a.1.2.2.2.1 a.1.2.2.2.2 a.2).1, wrt := fun a => (Sp.f1064 a.1.1 a.1.2.1 a.1.2.2.1 a.1.2.2.2.1 a.1.2.2.2.2 a.2).2 }
def f1064_g (v : denS [Sh.one (C0.dat (Ty.int IntKind.i64))] × denS []) : Res := ⟨mkS [Sh.one (C0.dat (Ty.int IntKind.i64))] v.1, mkU [] v.2⟩
theorem f1064_raw (x0 : ByteArray) (x1 : Int) (x2 : ByteArray) (x3 : ByteArray) (x4 : Int) (x5 : Int) : abody Γ (orc []) 0 8 [XV.mk true [X.c (X0.dat Ty.str x0), X.c (X0.dat (Ty.int IntKind.i64) x1), X.c (X0.dat Ty.str x2), X.c (X0.dat Ty.str x3), X.c (X0.dat (Ty.int IntKind.i64) x4)], XV.mk false [X.c (X0.dat (Ty.int IntKind.i64) x5)]] = bif decide (IntKind.i64.wrap (x5 - (↑x0.size : Int)) < (0 : Int)) then some (Res.mk [XV.mk false [X.c (X0.dat (Ty.int IntKind.i64) (-1 : Int))]] []) else bif decide (IntKind.i64.wrap (IntKind.i64.wrap (x5 - (↑x0.size : Int)) - (↑x2.size : Int)) < (0 : Int)) then some (Res.mk [XV.mk false [X.c (X0.dat (Ty.int IntKind.i64) (-1 : Int))]] []) else bif decide (IntKind.i64.wrap (IntKind.i64.wrap (IntKind.i64.wrap (x5 - (↑x0.size : Int)) - (↑x2.size : Int)) - (↑x3.size : Int)) < (0 : Int)) then some (Res.mk [XV.mk false [X.c (X0.dat (Ty.int IntKind.i64) (-1 : Int))]] []) else some (Res.mk [XV.mk false [X.c (X0.dat (Ty.int IntKind.i64) (IntKind.i64.wrap (IntKind.i64.wrap (IntKind.i64.wrap (x5 - (↑x0.size : Int)) - (↑x2.size : Int)) - (↑x3.size : Int))))]] []) := by kernel_rfl
theorem f1064_form (x0 : ByteArray) (x1 : Int) (x2 : ByteArray) (x3 : ByteArray) (x4 : Int) (x5 : Int) : (bif decide (IntKind.i64.wrap (x5 - (↑x0.size : Int)) < (0 : Int)) then some (Res.mk [XV.mk false [X.c (X0.dat (Ty.int IntKind.i64) (-1 : Int))]] []) else bif decide (IntKind.i64.wrap (IntKind.i64.wrap (x5 - (↑x0.size : Int)) - (↑x2.size : Int)) < (0 : Int)) then some (Res.mk [XV.mk false [X.c (X0.dat (Ty.int IntKind.i64) (-1 : Int))]] []) else bif decide (IntKind.i64.wrap (IntKind.i64.wrap (IntKind.i64.wrap (x5 - (↑x0.size : Int)) - (↑x2.size : Int)) - (↑x3.size : Int)) < (0 : Int)) then some (Res.mk [XV.mk false [X.c (X0.dat (Ty.int IntKind.i64) (-1 : Int))]] []) else some (Res.mk [XV.mk false [X.c (X0.dat (Ty.int IntKind.i64) (IntKind.i64.wrap (IntKind.i64.wrap (IntKind.i64.wrap (x5 - (↑x0.size : Int)) - (↑x2.size : Int)) - (↑x3.size : Int))))]] [])) = some (f1064_g (Sp.f1064 x0 x1 x2 x3 x4 x5)) := by
  unfold Sp.f1064
  exact (cond_plain f1064_g (rfl) ((cond_plain f1064_g (rfl) ((cond_plain f1064_g (rfl) (rfl))))))
theorem e1064_ok : Valid PP Γ e1064 := valid_auto ok vnil fun a => (f1064_raw a.1.1 a.1.2.1 a.1.2.2.1 a.1.2.2.2.1 a.1.2.2.2.2 a.2).trans (f1064_form a.1.1 a.1.2.1 a.1.2.2.1 a.1.2.2.2.1 a.1.2.2.2.2 a.2)

def Sp.f1067 (x0 : ByteArray) (x1 : Int) (x2 : ByteArray) (x3 : ByteArray) (x4 : Int) := ((x0, x1, x2, x3, x4), ())
noncomputable def e1067 : Ent := { f := 11, ins := [Sh.agg [C0.dat Ty.str, C0.dat (Ty.int IntKind.i64), C0.dat Ty.str, C0.dat Ty.str, C0.dat (Ty.int IntKind.i64)]], outs := [Sh.agg [C0.dat Ty.str, C0.dat (Ty.int IntKind.i64), C0.dat Ty.str, C0.dat Ty.str, C0.dat (Ty.int IntKind.i64)]], upd := [], pre := fun a => true, spec := fun a => (Sp.f1067 a.1 a.2.1 a.2.2.1 a.2.2.2.1 a.2.2.2.2).1, wrt := fun a => (Sp.f1067 a.1 a.2.1 a.2.2.1 a.2.2.2.1 a.2.2.2.2).2 }
def f1067_g (v : denS [Sh.agg [C0.dat Ty.str, C0.dat (Ty.int IntKind.i64), C0.dat Ty.str, C0.dat Ty.str, C0.dat (Ty.int IntKind.i64)]] × denS []) : Res := ⟨mkS [Sh.agg [C0.dat Ty.str, C0.dat (Ty.int IntKind.i64), C0.dat Ty.str, C0.dat Ty.str, C0.dat (Ty.int IntKind.i64)]] v.1, mkU [] v.2⟩
theorem f1067_raw (x0 : ByteArray) (x1 : Int) (x2 : ByteArray) (x3 : ByteArray) (x4 : Int) : abody Γ (orc []) 0 11 [XV.mk true [X.c (X0.dat Ty.str x0), X.c (X0.dat (Ty.int IntKind.i64) x1), X.c (X0.dat Ty.str x2), X.c (X0.dat Ty.str x3), X.c (X0.dat (Ty.int IntKind.i64) x4)]] = some (Res.mk [XV.mk true [X.c (X0.dat Ty.str x0), X.c (X0.dat (Ty.int IntKind.i64) x1), X.c (X0.dat Ty.str x2), X.c (X0.dat Ty.str x3), X.c (X0.dat (Ty.int IntKind.i64) x4)]] []) := by kernel_rfl
theorem f1067_form (x0 : ByteArray) (x1 : Int) (x2 : ByteArray) (x3 : ByteArray) (x4 : Int) : (some (Res.mk [XV.mk true [X.c (X0.dat Ty.str x0), X.c (X0.dat (Ty.int IntKind.i64) x1), X.c (X0.dat Ty.str x2), X.c (X0.dat Ty.str x3), X.c (X0.dat (Ty.int IntKind.i64) x4)]] [])) = some (f1067_g (Sp.f1067 x0 x1 x2 x3 x4)) := by
  unfold Sp.f1067
  exact rfl
theorem e1067_ok : Valid PP Γ e1067 := valid_auto ok vnil fun a => (f1067_raw a.1 a.2.1 a.2.2.1 a.2.2.2.1 a.2.2.2.2).trans (f1067_form a.1 a.2.1 a.2.2.1 a.2.2.2.1 a.2.2.2.2)

end Go.Proofs.GR.T

namespace Go.Proofs.GR.T
open Go Go.Proofs Go.Proofs.GR
theorem any_loop {α : Type} {ρ : Type} {p : α → Bool} {R : Bool → ρ} (xs : List α) (L : Nat → Int → Option ρ)
    (hend : ∀ m (k : Nat), xs.length ≤ k → L (m + 1) k = some (R false))
    (hstep : ∀ m (k : Nat) (h : k < xs.length), L (m + 1) k = bif p xs[k] then some (R true) else L m ((k + 1 : Nat) : Int)) :
    ∀ (d k m : Nat), k + d = xs.length → d < m → L m k = some (R (Sp.anyW p (xs.drop k))) := by
  intro d
  induction d with
  | zero =>
    intro k m hk hm
    obtain ⟨m, rfl⟩ := succ_of hm
    rw [hend m k (by omega), List.drop_of_length_le (by omega)]
    rfl
  | succ d ih =>
    intro k m hk hm
    obtain ⟨m, rfl⟩ := succ_of hm
    rw [hstep m k (by omega), ih (k + 1) m (by omega) (by omega), List.drop_eq_getElem_cons (show k < xs.length by omega)]
    rw [Sp.anyW]
    cases p xs[k] <;> rfl
/-- Each holds beside those ahead of it. -/
def Sp.allP {α : Type} (p : List α → α → Bool) : List α → List α → Bool
  | _, [] => true
  | pre, x :: r => bif !p pre x then false else Sp.allP p (pre ++ [x]) r
theorem take_succ_get {α : Type} {xs : List α} {k : Nat} (h : k < xs.length) : xs.take (k + 1) = xs.take k ++ [xs[k]] := List.take_succ_eq_append_getElem h
theorem allP_loop {α : Type} {ρ : Type} {p : List α → α → Bool} {z : Option ρ} {F : Option ρ} (xs : List α) (L : Nat → Int → Option ρ)
    (hend : ∀ m (k : Nat), xs.length ≤ k → L (m + 1) k = z)
    (hstep : ∀ m (k : Nat) (h : k < xs.length), Sp.allP p [] (xs.take k) = true → L (m + 1) k = bif !p (xs.take k) xs[k] then F else L m ((k + 1 : Nat) : Int)) :
    ∀ (d k m : Nat), k + d = xs.length → d < m → Sp.allP p [] (xs.take k) = true → L m k = bif Sp.allP p (xs.take k) (xs.drop k) then z else F := by
  have happ : ∀ (r : List α) (pre : List α) (x : α), Sp.allP p pre (r ++ [x]) = (bif Sp.allP p pre r then p (pre ++ r) x else false) := by
    intro r
    induction r with
    | nil =>
      intro pre x
      show (bif !p pre x then false else true) = (bif true then p (pre ++ []) x else false)
      rw [List.append_nil, cond_true]
      cases p pre x <;> rfl
    | cons y r ih =>
      intro pre x
      rw [List.cons_append, Sp.allP, Sp.allP, ih, List.append_assoc, List.singleton_append]
      cases p pre y <;> rfl
  intro d
  induction d with
  | zero =>
    intro k m hk hm _
    obtain ⟨m, rfl⟩ := succ_of hm
    rw [hend m k (by omega), List.drop_of_length_le (by omega)]
    rfl
  | succ d ih =>
    intro k m hk hm hp
    obtain ⟨m, rfl⟩ := succ_of hm
    have h : k < xs.length := by omega
    rw [hstep m k h hp, List.drop_eq_getElem_cons h, Sp.allP]
    cases hc : p (xs.take k) xs[k] with
    | false => rfl
    | true =>
      rw [Bool.not_true, cond_false, cond_false, ih (k + 1) m (by omega) (by omega) (by rw [take_succ_get h, happ, hp, List.nil_append, hc]; rfl), take_succ_get h]
/-- As it is, from the front. -/
theorem allP_end {α : Type} {ρ : Type} {p : List α → α → Bool} {z : Option ρ} {F : Option ρ} (xs : List α) (L : Nat → Int → Option ρ)
    (hend : ∀ m (k : Nat), xs.length ≤ k → L (m + 1) k = z)
    (hstep : ∀ m (k : Nat) (h : k < xs.length), Sp.allP p [] (xs.take k) = true → L (m + 1) k = bif !p (xs.take k) xs[k] then F else L m ((k + 1 : Nat) : Int)) :
    ∀ m, xs.length < m → L m 0 = bif Sp.allP p [] xs then z else F := fun m hm => by
  have := allP_loop xs L hend hstep xs.length 0 m (Nat.zero_add _) hm rfl
  rw [List.take_zero, List.drop_zero] at this
  exact this
theorem allP_and {α : Type} {p q : List α → α → Bool} : ∀ (xs pre : List α), Sp.allP (fun a x => bif p a x then q a x else false) pre xs = (bif Sp.allP p pre xs then Sp.allP q pre xs else false)
  | [], _ => rfl
  | x :: r, pre => by
    rw [Sp.allP, Sp.allP, Sp.allP, allP_and r]
    cases p pre x <;> cases q pre x <;> cases Sp.allP p (pre ++ [x]) r <;> rfl
theorem allP_all {α : Type} {p : α → Bool} : ∀ (xs pre : List α), Sp.allP (fun _ x => p x) pre xs = Sp.allW p xs
  | [], _ => rfl
  | x :: r, pre => by rw [Sp.allP, Sp.allW, allP_all r]
/-- Where the first with a word stands: at its own place just if none ahead has it. -/
theorem idx_own {α : Type} {p : α → Bool} : ∀ (a : List α) (x : α) (b : List α) (n : Int), p x = true → (Sp.idx p (a ++ x :: b) n != n + (a.length : Int)) = Sp.anyW p a
  | [], x, b, n, h => by
    rw [List.nil_append, Sp.idx, h, cond_true]
    show (n != n + 0) = false
    simp
  | y :: a, x, b, n, h => by
    rw [List.cons_append, Sp.idx, Sp.anyW]
    cases p y with
    | true =>
      rw [cond_true, cond_true]
      show (n != n + ((a.length + 1 : Nat) : Int)) = true
      simp
      omega
    | false =>
      rw [cond_false, cond_false, ← idx_own a x b (n + 1) h, show n + 1 + (a.length : Int) = n + ((y :: a).length : Int) by rw [List.length_cons]; omega]
end Go.Proofs.GR.T

set_option maxRecDepth 100000
set_option maxHeartbeats 100000000
namespace Go.Proofs.GR.T
open Go Go.Proofs Go.Proofs.GR
def Sp.nmCo (t : ByteArray) (x : VCo) : Bool := x.1.toList == t.toList
def Sp.nmIx (t : ByteArray) (x : VIx) : Bool := x.1.toList == t.toList
def Sp.nmTb (t : ByteArray) (x : VTb) : Bool := x.1.toList == t.toList
noncomputable def f195_L0 (n m0 : Nat) (y0 : List (ByteArray × Int × Bool)) (y1 : ByteArray) (y2 : Int) : Option Res := loopAt Γ (orc []) n (148 : Nat) (0 : Nat) [] [Pth.r, Pth.l, Pth.r, Pth.b] m0 (St.mk [Slot.val (Val.one (Cell.dat (Ty.str.pair ((Ty.int IntKind.i64).pair Ty.bool)).slice y0)), Slot.val (Val.one (Cell.dat Ty.str y1)), Slot.nix, Slot.nix, Slot.nix, Slot.val (Val.one (Cell.dat (Ty.int IntKind.i64) y2)), Slot.nix, Slot.nix, Slot.nix, Slot.nix, Slot.nix, Slot.nix, Slot.nix, Slot.nix, Slot.nix, Slot.nix, Slot.nix, Slot.nix, Slot.nix, Slot.nix] [])
theorem f195_L0_step (n m0 : Nat) (y0 : List (ByteArray × Int × Bool)) (y1 : ByteArray) (y2 : Int) : f195_L0 n (m0 + 1) y0 y1 y2 = bif decide (y2 < (↑y0.length : Int)) then chk (decide ((0 : Int) ≤ y2) && decide (y2 < (↑y0.length : Int))) (bif (y0.getD y2.toNat (ByteArray.mk #[], (0 : Int), false)).1.toList == y1.toList then some (Res.mk [XV.mk false [X.c (X0.dat (Ty.int IntKind.i64) y2)]] []) else f195_L0 n m0 y0 y1 (IntKind.i64.wrap (y2 + (1 : Int)))) else some (Res.mk [XV.mk false [X.c (X0.dat (Ty.int IntKind.i64) (-1 : Int))]] []) := by kernel_rfl
theorem f195_raw (n : Nat) (x0 : List (ByteArray × Int × Bool)) (x1 : ByteArray) : abody Γ (orc []) n 148 [XV.mk false [X.c (X0.dat (Ty.str.pair ((Ty.int IntKind.i64).pair Ty.bool)).slice x0)], XV.mk false [X.c (X0.dat Ty.str x1)]] = f195_L0 n n x0 x1 (0 : Int) := by kernel_rfl

noncomputable def f197_L0 (n m0 : Nat) (y0 : List (ByteArray × List Int)) (y1 : ByteArray) (y2 : Int) : Option Res := loopAt Γ (orc []) n (150 : Nat) (0 : Nat) [] [Pth.r, Pth.l, Pth.r, Pth.b] m0 (St.mk [Slot.val (Val.one (Cell.dat (Ty.str.pair (Ty.int IntKind.i64).slice).slice y0)), Slot.val (Val.one (Cell.dat Ty.str y1)), Slot.nix, Slot.nix, Slot.nix, Slot.val (Val.one (Cell.dat (Ty.int IntKind.i64) y2)), Slot.nix, Slot.nix, Slot.nix, Slot.nix, Slot.nix, Slot.nix, Slot.nix, Slot.nix, Slot.nix, Slot.nix, Slot.nix, Slot.nix, Slot.nix, Slot.nix] [])
theorem f197_L0_step (n m0 : Nat) (y0 : List (ByteArray × List Int)) (y1 : ByteArray) (y2 : Int) : f197_L0 n (m0 + 1) y0 y1 y2 = bif decide (y2 < (↑y0.length : Int)) then chk (decide ((0 : Int) ≤ y2) && decide (y2 < (↑y0.length : Int))) (bif (y0.getD y2.toNat (ByteArray.mk #[], [])).1.toList == y1.toList then some (Res.mk [XV.mk false [X.c (X0.dat (Ty.int IntKind.i64) y2)]] []) else f197_L0 n m0 y0 y1 (IntKind.i64.wrap (y2 + (1 : Int)))) else some (Res.mk [XV.mk false [X.c (X0.dat (Ty.int IntKind.i64) (-1 : Int))]] []) := by kernel_rfl
theorem f197_raw (n : Nat) (x0 : List (ByteArray × List Int)) (x1 : ByteArray) : abody Γ (orc []) n 150 [XV.mk false [X.c (X0.dat (Ty.str.pair (Ty.int IntKind.i64).slice).slice x0)], XV.mk false [X.c (X0.dat Ty.str x1)]] = f197_L0 n n x0 x1 (0 : Int) := by kernel_rfl

noncomputable def f210_L0 (n m0 : Nat) (y0 : List Int) (y1 : Int) (y2 : Int) : Option Res := loopAt Γ (orc []) n (198 : Nat) (0 : Nat) [] [Pth.r, Pth.l, Pth.r, Pth.b] m0 (St.mk [Slot.val (Val.one (Cell.dat (Ty.int IntKind.i64).slice y0)), Slot.val (Val.one (Cell.dat (Ty.int IntKind.i64) y1)), Slot.nix, Slot.nix, Slot.nix, Slot.val (Val.one (Cell.dat (Ty.int IntKind.i64) y2)), Slot.nix, Slot.nix, Slot.nix, Slot.nix, Slot.nix, Slot.nix, Slot.nix, Slot.nix, Slot.nix, Slot.nix, Slot.nix, Slot.nix] [])
theorem f210_L0_step (n m0 : Nat) (y0 : List Int) (y1 : Int) (y2 : Int) : f210_L0 n (m0 + 1) y0 y1 y2 = bif decide (y2 < (↑y0.length : Int)) then chk (decide ((0 : Int) ≤ y2) && decide (y2 < (↑y0.length : Int))) (bif y0.getD y2.toNat (0 : Int) == y1 then some (Res.mk [XV.mk false [X.c (X0.dat Ty.bool true)]] []) else f210_L0 n m0 y0 y1 (IntKind.i64.wrap (y2 + (1 : Int)))) else some (Res.mk [XV.mk false [X.c (X0.dat Ty.bool false)]] []) := by kernel_rfl
theorem f210_raw (n : Nat) (x0 : List Int) (x1 : Int) : abody Γ (orc []) n 198 [XV.mk false [X.c (X0.dat (Ty.int IntKind.i64).slice x0)], XV.mk false [X.c (X0.dat (Ty.int IntKind.i64) x1)]] = f210_L0 n n x0 x1 (0 : Int) := by kernel_rfl

noncomputable def f1088_L0 (n m0 : Nat) (y0 : List (ByteArray × List (ByteArray × Int × Bool) × Int × List (ByteArray × List Int))) (y1 : ByteArray) (y2 : Int) : Option Res := loopAt Γ (orc []) n (43 : Nat) (0 : Nat) [] [Pth.r, Pth.l, Pth.r, Pth.b] m0 (St.mk [Slot.val (Val.one (Cell.dat (Ty.str.pair ((Ty.str.pair ((Ty.int IntKind.i64).pair Ty.bool)).slice.pair ((Ty.int IntKind.i64).pair (Ty.str.pair (Ty.int IntKind.i64).slice).slice))).slice y0)), Slot.val (Val.one (Cell.dat Ty.str y1)), Slot.nix, Slot.nix, Slot.nix, Slot.val (Val.one (Cell.dat (Ty.int IntKind.i64) y2)), Slot.nix, Slot.nix, Slot.nix, Slot.nix, Slot.nix, Slot.nix, Slot.nix, Slot.nix, Slot.nix, Slot.nix, Slot.nix, Slot.nix, Slot.nix, Slot.nix] [])
theorem f1088_L0_step (n m0 : Nat) (y0 : List (ByteArray × List (ByteArray × Int × Bool) × Int × List (ByteArray × List Int))) (y1 : ByteArray) (y2 : Int) : f1088_L0 n (m0 + 1) y0 y1 y2 = bif decide (y2 < (↑y0.length : Int)) then chk (decide ((0 : Int) ≤ y2) && decide (y2 < (↑y0.length : Int))) (bif (y0.getD y2.toNat (ByteArray.mk #[], [], (0 : Int), [])).1.toList == y1.toList then some (Res.mk [XV.mk false [X.c (X0.dat (Ty.int IntKind.i64) y2)]] []) else f1088_L0 n m0 y0 y1 (IntKind.i64.wrap (y2 + (1 : Int)))) else some (Res.mk [XV.mk false [X.c (X0.dat (Ty.int IntKind.i64) (-1 : Int))]] []) := by kernel_rfl
theorem f1088_raw (n : Nat) (x0 : List (ByteArray × List (ByteArray × Int × Bool) × Int × List (ByteArray × List Int))) (x1 : ByteArray) : abody Γ (orc []) n 43 [XV.mk false [X.c (X0.dat (Ty.str.pair ((Ty.str.pair ((Ty.int IntKind.i64).pair Ty.bool)).slice.pair ((Ty.int IntKind.i64).pair (Ty.str.pair (Ty.int IntKind.i64).slice).slice))).slice x0)], XV.mk false [X.c (X0.dat Ty.str x1)]] = f1088_L0 n n x0 x1 (0 : Int) := by kernel_rfl

noncomputable def e195 : Ent := { f := n195, ins := [Sh.one (cL tCo), Sh.one cS], outs := [Sh.one cI], upd := [], pre := fun _ => true, spec := fun a => Sp.idx (Sp.nmCo a.2) a.1 0, wrt := fun _ => () }
theorem e195_core (xs : List VCo) (t : ByteArray) (hl : xs.length ≤ maxLen) : ∃ n, abody Γ (orc []) n n195 [XV.mk false [X.c (X0.dat (Ty.slice tCo) xs)], XV.mk false [X.c (X0.dat Ty.str t)]] = some (rI (Sp.idx (Sp.nmCo t) xs 0)) := by
  have hl : xs.length ≤ 9223372036854775807 := hl
  refine ⟨xs.length + 1, (f195_raw _ xs t).trans ?_⟩
  refine idx_loop (p := Sp.nmCo t) (R := rI) xs (fun m k => f195_L0 (xs.length + 1) m xs t k) (fun m k hk => ?_) (fun m k h => ?_) xs.length 0 _ (Nat.zero_add _) (Nat.lt_succ_self _)
  · show f195_L0 _ _ _ _ _ = _
    rw [f195_L0_step, nat_ge hk, cond_false]
  · show f195_L0 _ _ _ _ _ = _
    rw [f195_L0_step, nat_lt h, cond_true, guard0, chkT, getD_nat xs k _ h, next64 h hl]
    rfl
theorem e195_ok : Valid PP Γ e195 := valid_len ok vnil fun a _ hl => e195_core a.1 a.2 (hl _ (List.mem_cons_self) _ (List.mem_cons_self)).1
noncomputable def e197 : Ent := { f := n197, ins := [Sh.one (cL tIx), Sh.one cS], outs := [Sh.one cI], upd := [], pre := fun _ => true, spec := fun a => Sp.idx (Sp.nmIx a.2) a.1 0, wrt := fun _ => () }
theorem e197_core (xs : List VIx) (t : ByteArray) (hl : xs.length ≤ maxLen) : ∃ n, abody Γ (orc []) n n197 [XV.mk false [X.c (X0.dat (Ty.slice tIx) xs)], XV.mk false [X.c (X0.dat Ty.str t)]] = some (rI (Sp.idx (Sp.nmIx t) xs 0)) := by
  have hl : xs.length ≤ 9223372036854775807 := hl
  refine ⟨xs.length + 1, (f197_raw _ xs t).trans ?_⟩
  refine idx_loop (p := Sp.nmIx t) (R := rI) xs (fun m k => f197_L0 (xs.length + 1) m xs t k) (fun m k hk => ?_) (fun m k h => ?_) xs.length 0 _ (Nat.zero_add _) (Nat.lt_succ_self _)
  · show f197_L0 _ _ _ _ _ = _
    rw [f197_L0_step, nat_ge hk, cond_false]
  · show f197_L0 _ _ _ _ _ = _
    rw [f197_L0_step, nat_lt h, cond_true, guard0, chkT, getD_nat xs k _ h, next64 h hl]
    rfl
theorem e197_ok : Valid PP Γ e197 := valid_len ok vnil fun a _ hl => e197_core a.1 a.2 (hl _ (List.mem_cons_self) _ (List.mem_cons_self)).1
noncomputable def e1088 : Ent := { f := n1088, ins := [Sh.one (cL tTb), Sh.one cS], outs := [Sh.one cI], upd := [], pre := fun _ => true, spec := fun a => Sp.idx (Sp.nmTb a.2) a.1 0, wrt := fun _ => () }
theorem e1088_core (xs : List VTb) (t : ByteArray) (hl : xs.length ≤ maxLen) : ∃ n, abody Γ (orc []) n n1088 [XV.mk false [X.c (X0.dat (Ty.slice tTb) xs)], XV.mk false [X.c (X0.dat Ty.str t)]] = some (rI (Sp.idx (Sp.nmTb t) xs 0)) := by
  have hl : xs.length ≤ 9223372036854775807 := hl
  refine ⟨xs.length + 1, (f1088_raw _ xs t).trans ?_⟩
  refine idx_loop (p := Sp.nmTb t) (R := rI) xs (fun m k => f1088_L0 (xs.length + 1) m xs t k) (fun m k hk => ?_) (fun m k h => ?_) xs.length 0 _ (Nat.zero_add _) (Nat.lt_succ_self _)
  · show f1088_L0 _ _ _ _ _ = _
    rw [f1088_L0_step, nat_ge hk, cond_false]
  · show f1088_L0 _ _ _ _ _ = _
    rw [f1088_L0_step, nat_lt h, cond_true, guard0, chkT, getD_nat xs k _ h, next64 h hl]
    rfl
theorem e1088_ok : Valid PP Γ e1088 := valid_len ok vnil fun a _ hl => e1088_core a.1 a.2 (hl _ (List.mem_cons_self) _ (List.mem_cons_self)).1
noncomputable def e210 : Ent := { f := n210, ins := [Sh.one (cL tIn), Sh.one cI], outs := [Sh.one cB], upd := [], pre := fun _ => true, spec := fun a => Sp.anyW (Sp.eqN a.2) a.1, wrt := fun _ => () }
theorem e210_core (xs : List Int) (t : Int) (hl : xs.length ≤ maxLen) : ∃ n, abody Γ (orc []) n n210 [XV.mk false [X.c (X0.dat (Ty.slice tIn) xs)], XV.mk false [X.c (X0.dat tIn t)]] = some (rBo (Sp.anyW (Sp.eqN t) xs)) := by
  have hl : xs.length ≤ 9223372036854775807 := hl
  refine ⟨xs.length + 1, (f210_raw _ xs t).trans ?_⟩
  refine any_loop (p := Sp.eqN t) (R := rBo) xs (fun m k => f210_L0 (xs.length + 1) m xs t k) (fun m k hk => ?_) (fun m k h => ?_) xs.length 0 _ (Nat.zero_add _) (Nat.lt_succ_self _)
  · show f210_L0 _ _ _ _ _ = _
    rw [f210_L0_step, nat_ge hk, cond_false]
  · show f210_L0 _ _ _ _ _ = _
    rw [f210_L0_step, nat_lt h, cond_true, guard0, chkT, getD_nat xs k _ h, next64 h hl, show (xs[k] == t) = Sp.eqN t xs[k] from Bool.beq_comm ..]
theorem e210_ok : Valid PP Γ e210 := valid_len ok vnil fun a _ hl => e210_core a.1 a.2 (hl _ (List.mem_cons_self) _ (List.mem_cons_self)).1
noncomputable def f196_L0 (n m0 : Nat) (y0 : Int) (y1 : ByteArray) (y2 : List (ByteArray × Int × Bool)) (y3 : Int) (y4 : List (ByteArray × List Int)) (y5 : ByteArray) (y6 : List Int) : Option Res := loopAt Γ (orc [e194, e79, e210]) n (149 : Nat) (0 : Nat) [] [Pth.r, Pth.r, Pth.l, Pth.r, Pth.b] m0 (St.mk [Slot.nix, Slot.nix, Slot.val (Val.one (Cell.ptr (0 : Nat) (0 : Nat))), Slot.val (Val.one (Cell.ptr (1 : Nat) (0 : Nat))), Slot.nix, Slot.val (Val.one (Cell.dat (Ty.int IntKind.i64) y0)), Slot.nix, Slot.nix, Slot.nix, Slot.nix, Slot.nix, Slot.nix, Slot.nix, Slot.nix, Slot.nix, Slot.nix, Slot.nix, Slot.nix, Slot.nix, Slot.nix, Slot.nix, Slot.nix, Slot.nix, Slot.nix, Slot.nix, Slot.nix, Slot.nix, Slot.nix, Slot.nix, Slot.nix, Slot.nix, Slot.nix, Slot.nix, Slot.nix, Slot.nix, Slot.nix, Slot.nix, Slot.nix, Slot.nix, Slot.nix, Slot.nix, Slot.nix, Slot.nix, Slot.nix, Slot.nix, Slot.nix, Slot.nix, Slot.nix, Slot.nix, Slot.nix, Slot.nix, Slot.nix, Slot.nix, Slot.nix, Slot.nix] [AObj.box (93 : Nat) [Cell.dat Ty.str y1, Cell.dat (Ty.str.pair ((Ty.int IntKind.i64).pair Ty.bool)).slice y2, Cell.dat (Ty.int IntKind.i64) y3, Cell.dat (Ty.str.pair (Ty.int IntKind.i64).slice).slice y4], AObj.box (97 : Nat) [Cell.dat Ty.str y5, Cell.dat (Ty.int IntKind.i64).slice y6]])
theorem f196_L0_step (n m0 : Nat) (y0 : Int) (y1 : ByteArray) (y2 : List (ByteArray × Int × Bool)) (y3 : Int) (y4 : List (ByteArray × List Int)) (y5 : ByteArray) (y6 : List Int) : f196_L0 n (m0 + 1) y0 y1 y2 y3 y4 y5 y6 = bif decide (y0 < (↑y6.length : Int)) then chk (decide ((0 : Int) ≤ y0) && decide (y0 < (↑y6.length : Int))) (bif !(Sp.f79 (y6.getD y0.toNat (0 : Int)) (0 : Int) (IntKind.i64.wrap ((↑y2.length : Int) - (1 : Int)))).1 then some (Res.mk [XV.mk false [X.c (X0.dat Ty.bool false)]] []) else chk (decide ((0 : Int) ≤ y0) && decide (y0 ≤ (↑y6.length : Int))) (chk (decide ((0 : Int) ≤ y0) && decide (y0 < (↑y6.length : Int))) (bif Sp.anyW (Sp.eqN (y6.getD y0.toNat (0 : Int))) (List.take (y0.toNat - (0 : Nat)) (List.drop (0 : Nat) y6)) then some (Res.mk [XV.mk false [X.c (X0.dat Ty.bool false)]] []) else f196_L0 n m0 (IntKind.i64.wrap (y0 + (1 : Int))) y1 y2 y3 y4 y5 y6))) else some (Res.mk [XV.mk false [X.c (X0.dat Ty.bool true)]] []) := by kernel_rfl
theorem f196_raw (n : Nat) (x0 : ByteArray) (x1 : List (ByteArray × Int × Bool)) (x2 : Int) (x3 : List (ByteArray × List Int)) (x4 : ByteArray) (x5 : List Int) : abody Γ (orc [e194, e79, e210]) n 149 [XV.mk true [X.c (X0.dat Ty.str x0), X.c (X0.dat (Ty.str.pair ((Ty.int IntKind.i64).pair Ty.bool)).slice x1), X.c (X0.dat (Ty.int IntKind.i64) x2), X.c (X0.dat (Ty.str.pair (Ty.int IntKind.i64).slice).slice x3)], XV.mk true [X.c (X0.dat Ty.str x4), X.c (X0.dat (Ty.int IntKind.i64).slice x5)]] = bif !Sp.isFreeS x4 then some (Res.mk [XV.mk false [X.c (X0.dat Ty.bool false)]] []) else bif (↑x5.length : Int) == (0 : Int) then some (Res.mk [XV.mk false [X.c (X0.dat Ty.bool false)]] []) else bif decide ((↑x5.length : Int) > (↑x1.length : Int)) then some (Res.mk [XV.mk false [X.c (X0.dat Ty.bool false)]] []) else f196_L0 n n (0 : Int) x0 x1 x2 x3 x4 x5 := by kernel_rfl

end Go.Proofs.GR.T

set_option maxRecDepth 3000000
set_option maxHeartbeats 100000000
namespace Go.Proofs.GR.T
open Go Go.Proofs Go.Proofs.GR
def Sp.ixP (n : Nat) (pre : List Int) (c : Int) : Bool := bif (Sp.f79 c (0 : Int) (IntKind.i64.wrap ((n : Int) - (1 : Int)))).1 then !Sp.anyW (Sp.eqN c) pre else false
def Sp.ixOK (n : Nat) (t : ByteArray) (cs : List Int) : Bool := bif !Sp.isFreeS t then false else bif (cs.length : Int) == (0 : Int) then false else bif decide ((cs.length : Int) > (n : Int)) then false else Sp.allP (Sp.ixP n) [] cs
theorem guardLe {k n : Nat} (h : k ≤ n) : (decide ((0 : Int) ≤ (k : Int)) && decide ((k : Int) ≤ (n : Int))) = true := by
  rw [decide_eq_true (show (0 : Int) ≤ k by omega), decide_eq_true (show (k : Int) ≤ n by omega)]; rfl
noncomputable def e196 : Ent := { f := n196, ins := [Sh.agg [C0.dat .str, C0.dat (.slice tCo), C0.dat (.int .i64), C0.dat (.slice tIx)], Sh.agg [C0.dat .str, C0.dat (.slice tIn)]], outs := [Sh.one cB], upd := [], pre := fun _ => true, spec := fun a => Sp.ixOK (List.length a.1.2.1) a.2.1 a.2.2, wrt := fun _ => () }
theorem e196_core (x0 : ByteArray) (x1 : List VCo) (x2 : Int) (x3 : List VIx) (x4 : ByteArray) (x5 : List Int) (hl : x5.length ≤ maxLen) : ∃ n, abody Γ (orc [e194, e79, e210]) n n196 [XV.mk true [X.c (X0.dat Ty.str x0), X.c (X0.dat (Ty.slice tCo) x1), X.c (X0.dat (Ty.int IntKind.i64) x2), X.c (X0.dat (Ty.slice tIx) x3)], XV.mk true [X.c (X0.dat Ty.str x4), X.c (X0.dat (Ty.slice tIn) x5)]] = some (rBo (Sp.ixOK x1.length x4 x5)) := by
  have hl : x5.length ≤ 9223372036854775807 := hl
  refine ⟨x5.length + 1, (f196_raw _ x0 x1 x2 x3 x4 x5).trans ?_⟩
  unfold Sp.ixOK
  cases Sp.isFreeS x4 with
  | false => rfl
  | true =>
    rw [Bool.not_true, cond_false, cond_false]
    cases (x5.length : Int) == (0 : Int) with
    | true => rfl
    | false =>
      rw [cond_false, cond_false]
      cases decide ((x5.length : Int) > (x1.length : Int)) with
      | true => rfl
      | false =>
        rw [cond_false, cond_false]
        have := allP_end (p := Sp.ixP x1.length) (z := some (rBo true)) (F := some (rBo false)) x5 (fun m k => f196_L0 (x5.length + 1) m k x0 x1 x2 x3 x4 x5) (fun m k hk => by
          show f196_L0 _ _ _ _ _ _ _ _ _ = _
          rw [f196_L0_step, nat_ge hk, cond_false]) (fun m k h _ => by
          show f196_L0 _ _ _ _ _ _ _ _ _ = _
          rw [f196_L0_step, nat_lt h, cond_true, guard0, chkT, getD_nat x5 k _ h, guardLe (Nat.le_of_lt h), chkT, chkT, next64 h hl, Int.toNat_natCast, Nat.sub_zero, List.drop_zero]
          unfold Sp.ixP
          cases (Sp.f79 x5[k] (0 : Int) (IntKind.i64.wrap ((x1.length : Int) - (1 : Int)))).1 with
          | false => rfl
          | true => cases Sp.anyW (Sp.eqN x5[k]) (x5.take k) <;> rfl) _ (Nat.lt_succ_self _)
        refine this.trans ?_
        cases Sp.allP (Sp.ixP x1.length) [] x5 <;> rfl
theorem e196_ok : Valid PP Γ e196 := valid_len ok (vcons e194_ok (vcons e79_ok (vcons e210_ok vnil))) fun a _ hl => e196_core a.1.1 a.1.2.1 a.1.2.2.1 a.1.2.2.2 a.2.1 a.2.2 (hl _ (List.mem_cons_of_mem _ List.mem_cons_self) _ (List.mem_cons_of_mem _ List.mem_cons_self)).1
noncomputable def f173_L0 (n m0 : Nat) (y0 : Int) (y1 : ByteArray) (y2 : List (ByteArray × Int × Bool)) (y3 : Int) (y4 : List (ByteArray × List Int)) : Option Res := loopAt Γ (orc [e194, e79, e195, e196, e197]) n (87 : Nat) (0 : Nat) [] [Pth.r, Pth.r, Pth.l, Pth.r, Pth.b] m0 (St.mk [Slot.nix, Slot.val (Val.one (Cell.ptr (0 : Nat) (0 : Nat))), Slot.nix, Slot.val (Val.one (Cell.dat (Ty.int IntKind.i64) y0)), Slot.nix, Slot.nix, Slot.nix, Slot.nix, Slot.nix, Slot.nix, Slot.nix, Slot.nix, Slot.nix, Slot.nix, Slot.nix, Slot.nix, Slot.nix, Slot.nix, Slot.nix, Slot.nix, Slot.nix, Slot.nix, Slot.nix, Slot.nix, Slot.nix, Slot.nix, Slot.nix, Slot.nix, Slot.nix, Slot.nix, Slot.nix, Slot.nix, Slot.nix, Slot.nix, Slot.nix, Slot.nix, Slot.nix, Slot.nix, Slot.nix, Slot.nix, Slot.nix, Slot.nix, Slot.nix, Slot.nix, Slot.nix, Slot.nix, Slot.nix, Slot.nix, Slot.nix, Slot.nix, Slot.nix, Slot.nix, Slot.nix, Slot.nix, Slot.nix, Slot.nix, Slot.nix, Slot.nix, Slot.nix, Slot.nix, Slot.nix, Slot.nix, Slot.nix, Slot.nix, Slot.nix, Slot.nix, Slot.nix, Slot.nix, Slot.nix, Slot.nix, Slot.nix, Slot.nix, Slot.nix, Slot.nix, Slot.nix, Slot.nix, Slot.nix, Slot.nix, Slot.nix, Slot.nix, Slot.nix, Slot.nix, Slot.nix, Slot.nix, Slot.nix, Slot.nix, Slot.nix, Slot.nix, Slot.nix, Slot.nix, Slot.nix, Slot.nix, Slot.nix, Slot.nix, Slot.nix, Slot.nix, Slot.nix, Slot.nix, Slot.nix, Slot.nix, Slot.nix, Slot.nix, Slot.nix] [AObj.box (93 : Nat) [Cell.dat Ty.str y1, Cell.dat (Ty.str.pair ((Ty.int IntKind.i64).pair Ty.bool)).slice y2, Cell.dat (Ty.int IntKind.i64) y3, Cell.dat (Ty.str.pair (Ty.int IntKind.i64).slice).slice y4]])
noncomputable def f173_L1 (n m1 : Nat) (y0 : Int) (y1 : ByteArray) (y2 : List (ByteArray × Int × Bool)) (y3 : Int) (y4 : List (ByteArray × List Int)) : Option Res := loopAt Γ (orc [e194, e79, e195, e196, e197]) n (87 : Nat) (0 : Nat) [] [Pth.r, Pth.r, Pth.r, Pth.l, Pth.r, Pth.b] m1 (St.mk [Slot.nix, Slot.val (Val.one (Cell.ptr (0 : Nat) (0 : Nat))), Slot.nix, Slot.nix, Slot.nix, Slot.val (Val.one (Cell.dat (Ty.int IntKind.i64) y0)), Slot.nix, Slot.nix, Slot.nix, Slot.nix, Slot.nix, Slot.nix, Slot.nix, Slot.nix, Slot.nix, Slot.nix, Slot.nix, Slot.nix, Slot.nix, Slot.nix, Slot.nix, Slot.nix, Slot.nix, Slot.nix, Slot.nix, Slot.nix, Slot.nix, Slot.nix, Slot.nix, Slot.nix, Slot.nix, Slot.nix, Slot.nix, Slot.nix, Slot.nix, Slot.nix, Slot.nix, Slot.nix, Slot.nix, Slot.nix, Slot.nix, Slot.nix, Slot.nix, Slot.nix, Slot.nix, Slot.nix, Slot.nix, Slot.nix, Slot.nix, Slot.nix, Slot.nix, Slot.nix, Slot.nix, Slot.nix, Slot.nix, Slot.nix, Slot.nix, Slot.nix, Slot.nix, Slot.nix, Slot.nix, Slot.nix, Slot.nix, Slot.nix, Slot.nix, Slot.nix, Slot.nix, Slot.nix, Slot.nix, Slot.nix, Slot.nix, Slot.nix, Slot.nix, Slot.nix, Slot.nix, Slot.nix, Slot.nix, Slot.nix, Slot.nix, Slot.nix, Slot.nix, Slot.nix, Slot.nix, Slot.nix, Slot.nix, Slot.nix, Slot.nix, Slot.nix, Slot.nix, Slot.nix, Slot.nix, Slot.nix, Slot.nix, Slot.nix, Slot.nix, Slot.nix, Slot.nix, Slot.nix, Slot.nix, Slot.nix, Slot.nix, Slot.nix, Slot.nix] [AObj.box (93 : Nat) [Cell.dat Ty.str y1, Cell.dat (Ty.str.pair ((Ty.int IntKind.i64).pair Ty.bool)).slice y2, Cell.dat (Ty.int IntKind.i64) y3, Cell.dat (Ty.str.pair (Ty.int IntKind.i64).slice).slice y4]])
theorem f173_L0_step (n m0 : Nat) (y0 : Int) (y1 : ByteArray) (y2 : List (ByteArray × Int × Bool)) (y3 : Int) (y4 : List (ByteArray × List Int)) : f173_L0 n (m0 + 1) y0 y1 y2 y3 y4 = bif decide (y0 < (↑y2.length : Int)) then chk (decide ((0 : Int) ≤ y0) && decide (y0 < (↑y2.length : Int))) (bif !Sp.isFreeS (y2.getD y0.toNat (ByteArray.mk #[], (0 : Int), false)).1 then some (Res.mk [XV.mk false [X.c (X0.dat Ty.bool false)]] []) else bif !(Sp.f79 (y2.getD y0.toNat (ByteArray.mk #[], (0 : Int), false)).2.1 (1 : Int) (4 : Int)).1 then some (Res.mk [XV.mk false [X.c (X0.dat Ty.bool false)]] []) else bif decide (y0 < y3) then bif (y2.getD y0.toNat (ByteArray.mk #[], (0 : Int), false)).2.2 then some (Res.mk [XV.mk false [X.c (X0.dat Ty.bool false)]] []) else chk (decide ((0 : Int) ≤ y0) && decide (y0 ≤ (↑y2.length : Int))) (bif decide (Sp.idx (Sp.nmCo (y2.getD y0.toNat (ByteArray.mk #[], (0 : Int), false)).1) (List.take (y0.toNat - (0 : Nat)) (List.drop (0 : Nat) y2)) (0 : Int) ≥ (0 : Int)) then some (Res.mk [XV.mk false [X.c (X0.dat Ty.bool false)]] []) else f173_L0 n m0 (IntKind.i64.wrap (y0 + (1 : Int))) y1 y2 y3 y4) else chk (decide ((0 : Int) ≤ y0) && decide (y0 ≤ (↑y2.length : Int))) (bif decide (Sp.idx (Sp.nmCo (y2.getD y0.toNat (ByteArray.mk #[], (0 : Int), false)).1) (List.take (y0.toNat - (0 : Nat)) (List.drop (0 : Nat) y2)) (0 : Int) ≥ (0 : Int)) then some (Res.mk [XV.mk false [X.c (X0.dat Ty.bool false)]] []) else f173_L0 n m0 (IntKind.i64.wrap (y0 + (1 : Int))) y1 y2 y3 y4)) else f173_L1 n n (0 : Int) y1 y2 y3 y4 := by kernel_rfl
theorem f173_L1_step (n m1 : Nat) (y0 : Int) (y1 : ByteArray) (y2 : List (ByteArray × Int × Bool)) (y3 : Int) (y4 : List (ByteArray × List Int)) : f173_L1 n (m1 + 1) y0 y1 y2 y3 y4 = bif decide (y0 < (↑y4.length : Int)) then chk (decide ((0 : Int) ≤ y0) && decide (y0 < (↑y4.length : Int))) (bif !Sp.ixOK y2.length (y4.getD y0.toNat (ByteArray.mk #[], [])).1 (y4.getD y0.toNat (ByteArray.mk #[], [])).2 then some (Res.mk [XV.mk false [X.c (X0.dat Ty.bool false)]] []) else chk (decide ((0 : Int) ≤ y0) && decide (y0 ≤ (↑y4.length : Int))) (chk (decide ((0 : Int) ≤ y0) && decide (y0 < (↑y4.length : Int))) (bif decide (Sp.idx (Sp.nmIx (y4.getD y0.toNat (ByteArray.mk #[], [])).1) (List.take (y0.toNat - (0 : Nat)) (List.drop (0 : Nat) y4)) (0 : Int) ≥ (0 : Int)) then some (Res.mk [XV.mk false [X.c (X0.dat Ty.bool false)]] []) else f173_L1 n m1 (IntKind.i64.wrap (y0 + (1 : Int))) y1 y2 y3 y4))) else some (Res.mk [XV.mk false [X.c (X0.dat Ty.bool true)]] []) := by kernel_rfl
theorem f173_raw (n : Nat) (x0 : ByteArray) (x1 : List (ByteArray × Int × Bool)) (x2 : Int) (x3 : List (ByteArray × List Int)) : abody Γ (orc [e194, e79, e195, e196, e197]) n 87 [XV.mk true [X.c (X0.dat Ty.str x0), X.c (X0.dat (Ty.str.pair ((Ty.int IntKind.i64).pair Ty.bool)).slice x1), X.c (X0.dat (Ty.int IntKind.i64) x2), X.c (X0.dat (Ty.str.pair (Ty.int IntKind.i64).slice).slice x3)]] = bif !Sp.isFreeS x0 then some (Res.mk [XV.mk false [X.c (X0.dat Ty.bool false)]] []) else bif !(Sp.f79 (↑x1.length : Int) (1 : Int) (8 : Int)).1 then some (Res.mk [XV.mk false [X.c (X0.dat Ty.bool false)]] []) else bif !(Sp.f79 x2 (1 : Int) (↑x1.length : Int)).1 then some (Res.mk [XV.mk false [X.c (X0.dat Ty.bool false)]] []) else bif decide ((↑x3.length : Int) > (4 : Int)) then some (Res.mk [XV.mk false [X.c (X0.dat Ty.bool false)]] []) else f173_L0 n n (0 : Int) x0 x1 x2 x3 := by kernel_rfl

end Go.Proofs.GR.T

set_option maxRecDepth 3000000
set_option maxHeartbeats 100000000
namespace Go.Proofs.GR.T
open Go Go.Proofs Go.Proofs.GR
def Sp.coP (key : Int) (pre : List VCo) (c : VCo) : Bool := bif !Sp.isFreeS c.1 then false else bif !(Sp.f79 c.2.1 (1 : Int) (4 : Int)).1 then false else bif (bif decide ((pre.length : Int) < key) then c.2.2 else false) then false else !Sp.anyW (Sp.nmCo c.1) pre
def Sp.inP (n : Nat) (pre : List VIx) (x : VIx) : Bool := bif !Sp.ixOK n x.1 x.2 then false else !Sp.anyW (Sp.nmIx x.1) pre
def Sp.tbOK (x0 : ByteArray) (x1 : List VCo) (x2 : Int) (x3 : List VIx) : Bool := bif !Sp.isFreeS x0 then false else bif !(Sp.f79 (x1.length : Int) (1 : Int) (8 : Int)).1 then false else bif !(Sp.f79 x2 (1 : Int) (x1.length : Int)).1 then false else bif decide ((x3.length : Int) > (4 : Int)) then false else bif Sp.allP (Sp.coP x2) [] x1 then Sp.allP (Sp.inP x1.length) [] x3 else false
abbrev shTb : Sh := Sh.agg [C0.dat .str, C0.dat (.slice tCo), C0.dat (.int .i64), C0.dat (.slice tIx)]
noncomputable def e173 : Ent := { f := n173, ins := [shTb], outs := [Sh.one cB], upd := [], pre := fun _ => true, spec := fun a => Sp.tbOK a.1 a.2.1 a.2.2.1 a.2.2.2, wrt := fun _ => () }
theorem e173_core (x0 : ByteArray) (x1 : List VCo) (x2 : Int) (x3 : List VIx) (h1 : x1.length ≤ maxLen) (h3 : x3.length ≤ maxLen) : ∃ n, abody Γ (orc [e194, e79, e195, e196, e197]) n n173 [XV.mk true [X.c (X0.dat Ty.str x0), X.c (X0.dat (Ty.slice tCo) x1), X.c (X0.dat (Ty.int IntKind.i64) x2), X.c (X0.dat (Ty.slice tIx) x3)]] = some (rBo (Sp.tbOK x0 x1 x2 x3)) := by
  have h1 : x1.length ≤ 9223372036854775807 := h1
  have h3 : x3.length ≤ 9223372036854775807 := h3
  refine ⟨x1.length + x3.length + 1, (f173_raw _ x0 x1 x2 x3).trans ?_⟩
  unfold Sp.tbOK
  cases Sp.isFreeS x0 with
  | false => rfl
  | true =>
  cases (Sp.f79 (x1.length : Int) (1 : Int) (8 : Int)).1 with
  | false => rfl
  | true =>
  cases (Sp.f79 x2 (1 : Int) (x1.length : Int)).1 with
  | false => rfl
  | true =>
  cases decide ((x3.length : Int) > (4 : Int)) with
  | true => rfl
  | false =>
    rw [Bool.not_true, cond_false, cond_false, cond_false, cond_false, cond_false, cond_false, cond_false, cond_false]
    have L1 := allP_end (p := Sp.inP x1.length) (z := some (rBo true)) (F := some (rBo false)) x3 (fun m k => f173_L1 (x1.length + x3.length + 1) m k x0 x1 x2 x3) (fun m k hk => by
      show f173_L1 _ _ _ _ _ _ _ = _
      rw [f173_L1_step, nat_ge hk, cond_false]) (fun m k h _ => by
      show f173_L1 _ _ _ _ _ _ _ = _
      rw [f173_L1_step, nat_lt h, cond_true, guard0, chkT, chkT, getD_nat x3 k _ h, guardLe (Nat.le_of_lt h), chkT, next64 h h3, Int.toNat_natCast, Nat.sub_zero, List.drop_zero, idx_any _ _ _ (Int.le_refl 0)]
      unfold Sp.inP
      cases Sp.ixOK x1.length x3[k].1 x3[k].2 with
      | false => rfl
      | true => cases Sp.anyW (Sp.nmIx x3[k].1) (x3.take k) <;> rfl) (x1.length + x3.length + 1) (by omega)
    have L0 := allP_end (p := Sp.coP x2) (z := f173_L1 (x1.length + x3.length + 1) (x1.length + x3.length + 1) 0 x0 x1 x2 x3) (F := some (rBo false)) x1 (fun m k => f173_L0 (x1.length + x3.length + 1) m k x0 x1 x2 x3) (fun m k hk => by
      show f173_L0 _ _ _ _ _ _ _ = _
      rw [f173_L0_step, nat_ge hk, cond_false]) (fun m k h _ => by
      show f173_L0 _ _ _ _ _ _ _ = _
      have hk : (x1.take k).length = k := by rw [List.length_take]; omega
      rw [f173_L0_step, nat_lt h, cond_true, guard0, chkT, getD_nat x1 k _ h, guardLe (Nat.le_of_lt h), chkT, next64 h h1, Int.toNat_natCast, Nat.sub_zero, List.drop_zero, idx_any _ _ _ (Int.le_refl 0)]
      unfold Sp.coP
      rw [hk]
      cases Sp.isFreeS x1[k].1 with
      | false => rfl
      | true =>
        cases (Sp.f79 x1[k].2.1 (1 : Int) (4 : Int)).1 with
        | false => rfl
        | true => cases decide ((k : Int) < x2) <;> cases x1[k].2.2 <;> cases Sp.anyW (Sp.nmCo x1[k].1) (x1.take k) <;> rfl) (x1.length + x3.length + 1) (by omega)
    refine L0.trans ?_
    rw [show f173_L1 (x1.length + x3.length + 1) (x1.length + x3.length + 1) 0 x0 x1 x2 x3 = _ from L1]
    cases Sp.allP (Sp.coP x2) [] x1 with
    | false => rfl
    | true => cases Sp.allP (Sp.inP x1.length) [] x3 <;> rfl
theorem e173_ok : Valid PP Γ e173 := valid_len ok (vcons e194_ok (vcons e79_ok (vcons e195_ok (vcons e196_ok (vcons e197_ok vnil))))) fun a _ hl => e173_core a.1 a.2.1 a.2.2.1 a.2.2.2 (hl _ (List.mem_cons_self) _ (List.mem_cons_of_mem _ List.mem_cons_self)).1 (hl _ (List.mem_cons_self) _ (List.mem_cons_of_mem _ (List.mem_cons_of_mem _ (List.mem_cons_of_mem _ List.mem_cons_self)))).1
noncomputable def f140_L0 (n m0 : Nat) (y0 : List (ByteArray × List (ByteArray × Int × Bool) × Int × List (ByteArray × List Int))) (y1 : Int) : Option Res := loopAt Γ (orc [e173]) n (40 : Nat) (0 : Nat) [] [Pth.r, Pth.r, Pth.r, Pth.l, Pth.r, Pth.b] m0 (St.mk [Slot.val (Val.one (Cell.dat (Ty.str.pair ((Ty.str.pair ((Ty.int IntKind.i64).pair Ty.bool)).slice.pair ((Ty.int IntKind.i64).pair (Ty.str.pair (Ty.int IntKind.i64).slice).slice))).slice y0)), Slot.nix, Slot.nix, Slot.val (Val.one (Cell.dat (Ty.int IntKind.i64) y1)), Slot.nix, Slot.nix, Slot.nix, Slot.nix, Slot.nix, Slot.nix, Slot.nix, Slot.nix, Slot.nix, Slot.nix, Slot.nix, Slot.nix, Slot.nix, Slot.nix, Slot.nix, Slot.nix, Slot.nix, Slot.nix, Slot.nix, Slot.nix, Slot.nix, Slot.nix, Slot.nix, Slot.nix, Slot.nix, Slot.nix, Slot.nix, Slot.nix, Slot.nix, Slot.nix, Slot.nix, Slot.nix, Slot.nix, Slot.nix, Slot.nix, Slot.nix] [])
theorem f140_L0_step (n m0 : Nat) (y0 : List (ByteArray × List (ByteArray × Int × Bool) × Int × List (ByteArray × List Int))) (y1 : Int) : f140_L0 n (m0 + 1) y0 y1 = bif decide (y1 < (↑y0.length : Int)) then chk (decide ((0 : Int) ≤ y1) && decide (y1 < (↑y0.length : Int))) (bif !Sp.tbOK (y0.getD y1.toNat (ByteArray.mk #[], [], (0 : Int), [])).1 (y0.getD y1.toNat (ByteArray.mk #[], [], (0 : Int), [])).2.1 (y0.getD y1.toNat (ByteArray.mk #[], [], (0 : Int), [])).2.2.1 (y0.getD y1.toNat (ByteArray.mk #[], [], (0 : Int), [])).2.2.2 then some (Res.mk [XV.mk false [X.c (X0.dat Ty.bool false)]] []) else bif decide (y1 > (0 : Int)) then chk (decide ((0 : Int) ≤ IntKind.i64.wrap (y1 - (1 : Int))) && decide (IntKind.i64.wrap (y1 - (1 : Int)) < (↑y0.length : Int))) (chk (decide ((0 : Int) ≤ y1) && decide (y1 < (↑y0.length : Int))) (bif !Op.bytesLess (y0.getD (IntKind.i64.wrap (y1 - (1 : Int))).toNat (ByteArray.mk #[], [], (0 : Int), [])).1.toList (y0.getD y1.toNat (ByteArray.mk #[], [], (0 : Int), [])).1.toList then some (Res.mk [XV.mk false [X.c (X0.dat Ty.bool false)]] []) else f140_L0 n m0 y0 (IntKind.i64.wrap (y1 + (1 : Int))))) else f140_L0 n m0 y0 (IntKind.i64.wrap (y1 + (1 : Int)))) else some (Res.mk [XV.mk false [X.c (X0.dat Ty.bool true)]] []) := by kernel_rfl
theorem f140_raw (n : Nat) (x0 : List (ByteArray × List (ByteArray × Int × Bool) × Int × List (ByteArray × List Int))) : abody Γ (orc [e173]) n 40 [XV.mk false [X.c (X0.dat (Ty.str.pair ((Ty.str.pair ((Ty.int IntKind.i64).pair Ty.bool)).slice.pair ((Ty.int IntKind.i64).pair (Ty.str.pair (Ty.int IntKind.i64).slice).slice))).slice x0)]] = bif decide ((↑x0.length : Int) > (4096 : Int)) then some (Res.mk [XV.mk false [X.c (X0.dat Ty.bool false)]] []) else bif decide ((↑x0.length : Int) > (6 : Int)) then some (Res.mk [XV.mk false [X.c (X0.dat Ty.bool false)]] []) else f140_L0 n n x0 (0 : Int) := by kernel_rfl

end Go.Proofs.GR.T

