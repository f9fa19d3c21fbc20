/-
  No statement is proved here: what the functions of the law answer, told as plain functions, and that the law's answer is always true.
  No condition.
-/
import Derived.Test.YtfihkpknhkbciaaDoorQTablesReadt
import Derived.Shelf.Strings.Split
import Derived.KernelRfl
set_option maxHeartbeats 100000000
namespace Go.Proofs.GR.T
open Go Go.Proofs Go.Proofs.GR
abbrev ZR : Rose (Int × Int × ByteArray × ByteArray × Int × Int × ByteArray) := Rose.mk ((0 : Int), (0 : Int), ByteArray.mk #[], ByteArray.mk #[], (0 : Int), (0 : Int), ByteArray.mk #[]) []
abbrev ZT : Type := Rose (Int × Int × ByteArray × ByteArray × Int × Int × ByteArray)
abbrev ZA : Ty := (Ty.int IntKind.i64).pair ((Ty.int IntKind.i64).pair (Ty.str.pair (Ty.str.pair ((Ty.int IntKind.i64).pair ((Ty.int IntKind.i64).pair Ty.str)))))
abbrev ZF : Ty := Ty.str.pair (Ty.str.pair (Ty.int IntKind.i64))
abbrev Zf : Option Res := some (Res.mk [XV.mk false [X.c (X0.dat Ty.bool false)]] [])
abbrev Zt : Option Res := some (Res.mk [XV.mk false [X.c (X0.dat Ty.bool true)]] [])
abbrev Zi : Ty := Ty.int IntKind.i64
abbrev Zn : Slot := Slot.nix
abbrev ZX (t : Ty) (v : t.den) : XV := XV.mk false [X.c (X0.dat t v)]
abbrev ZC (t : Ty) (v : t.den) : X := X.c (X0.dat t v)
abbrev ZS (t : Ty) (v : t.den) : Slot := Slot.val (Val.one (Cell.dat t v))
abbrev ZI : C0 := C0.dat (Ty.int IntKind.i64)
def ZN : Nat → List Slot → List Slot
  | 0, l => l
  | n + 1, l => Slot.nix :: ZN n l
abbrev ZB (b : Bool) : Option Res := some (Res.mk [XV.mk false [X.c (X0.dat Ty.bool b)]] [])
abbrev ZJ (n : Int) : Option Res := some (Res.mk [XV.mk false [X.c (X0.dat (Ty.int IntKind.i64) n)]] [])
end Go.Proofs.GR.T
namespace Go.Proofs.GR.T
abbrev n0 : Nat := 0
abbrev n1 : Nat := 1
abbrev n2 : Nat := 2
abbrev n1002 : Nat := 4
abbrev n1004 : Nat := 6
abbrev n29 : Nat := 8
abbrev n1007 : Nat := 9
abbrev n30 : Nat := 11
abbrev n31 : Nat := 12
abbrev n1011 : Nat := 14
abbrev n1096 : Nat := 15
abbrev n1097 : Nat := 16
abbrev n1015 : Nat := 18
abbrev n1099 : Nat := 20
abbrev n1006 : Nat := 22
abbrev n1009 : Nat := 23
abbrev n75 : Nat := 24
abbrev n1018 : Nat := 25
abbrev n1123 : Nat := 26
abbrev n194 : Nat := 27
abbrev n1019 : Nat := 28
abbrev n1124 : Nat := 29
abbrev n1125 : Nat := 30
abbrev n1026 : Nat := 35
abbrev n1127 : Nat := 36
abbrev n1021 : Nat := 37
abbrev n1128 : Nat := 38
abbrev n1057 : Nat := 39
abbrev n1129 : Nat := 40
abbrev n1130 : Nat := 41
abbrev n1158 : Nat := 42
abbrev n1024 : Nat := 48
abbrev n1025 : Nat := 49
abbrev n1036 : Nat := 50
abbrev n1035 : Nat := 53
abbrev n1027 : Nat := 54
abbrev n1032 : Nat := 58
abbrev n1160 : Nat := 62
abbrev n214 : Nat := 63
abbrev n1034 : Nat := 64
abbrev n156 : Nat := 67
abbrev n1041 : Nat := 68
abbrev n1184 : Nat := 72
abbrev n1042 : Nat := 75
abbrev n1043 : Nat := 76
abbrev n1044 : Nat := 77
abbrev n1045 : Nat := 78
abbrev n1046 : Nat := 79
abbrev n1047 : Nat := 80
abbrev n1048 : Nat := 81
abbrev n1049 : Nat := 82
abbrev n1050 : Nat := 83
abbrev n1051 : Nat := 84
abbrev n1052 : Nat := 85
abbrev n1053 : Nat := 86
abbrev n1054 : Nat := 87
abbrev n1055 : Nat := 88
abbrev n1056 : Nat := 89
abbrev t0 : Nat := 0
abbrev t1 : Nat := 1
abbrev t2 : Nat := 2
abbrev t3 : Nat := 3
abbrev t4 : Nat := 4
abbrev t5 : Nat := 5
abbrev t6 : Nat := 6
abbrev t9 : Nat := 9
abbrev t21 : Nat := 21
abbrev t40 : Nat := 28
abbrev t119 : Nat := 47
abbrev t1035 : Nat := 85
abbrev t86 : Nat := 89
abbrev t1038 : Nat := 90
abbrev t1040 : Nat := 92
abbrev t1041 : Nat := 93
abbrev t151 : Nat := 94
abbrev t1042 : Nat := 95
abbrev g1 : Nat := 0
abbrev g2 : Nat := 1
abbrev g3 : Nat := 2
end Go.Proofs.GR.T

namespace Go.Proofs.GR.T
noncomputable abbrev PP : Program := Tryd.prog
abbrev cI : C0 := .dat (.int .i64)
abbrev cB : C0 := .dat .bool
abbrev cS : C0 := .dat .str
abbrev cL (t : Ty) : C0 := .dat (.slice t)
end Go.Proofs.GR.T


namespace Go.Proofs.GR.T
open Go Go.Proofs Go.Proofs.GR
theorem rowUpd_at {t : Ty} {acc : List t.den} {k off : Nat} {cs : List Cell} {x z : t.den} (h : k < acc.length) (hx : acc[k] = x) (hz : t.putAt x off cs = some z) : rowUpd t acc k off cs = acc.set k z := by
  unfold rowUpd
  rw [List.getD, List.getElem?_eq_getElem h, Option.getD_some, hx, hz]
theorem rowUpd_set {t : Ty} {acc : List t.den} {k off : Nat} {cs : List Cell} {x z : t.den} (h : k < acc.length) (hz : t.putAt x off cs = some z) : rowUpd t (acc.set k x) k off cs = acc.set k z := by
  rw [rowUpd_at (x := x) (by rw [List.length_set]; exact h) (by simp) hz, List.set_set]
theorem upd_next {t : Ty} {acc A : List t.den} {k off : Nat} {cs : List Cell} {x z : t.den} (h : k < acc.length) (e : A = acc.set k x) (hz : t.putAt x off cs = some z) : rowUpd t A k off cs = acc.set k z := by
  rw [e]; exact rowUpd_set h hz
end Go.Proofs.GR.T

set_option maxRecDepth 100000
set_option maxHeartbeats 100000000
namespace Go.Proofs.GR.T
open Go Go.Proofs Go.Proofs.GR
def Sp.f70 (x0 x1 x2 : Int) := (bif decide (x0 ≥ x1) then (decide (x0 ≤ x2), ()) else (false, ()))
noncomputable def e70 : Ent := { f := 56, ins := [Sh.one ZI, Sh.one ZI, Sh.one ZI], outs := [Sh.one (C0.dat Ty.bool)], upd := [], pre := fun a => true, spec := fun a => (Sp.f70 a.1 a.2.1 a.2.2).1, wrt := fun a => (Sp.f70 a.1 a.2.1 a.2.2).2 }
def f70_g (v : denS [Sh.one (C0.dat Ty.bool)] × denS []) : Res := ⟨mkS [Sh.one (C0.dat Ty.bool)] v.1, mkU [] v.2⟩
theorem f70_form (x0 x1 x2 : Int) : abody Γ (orc []) 0 56 [ZX Zi x0, ZX Zi x1, ZX Zi x2] = some (f70_g (Sp.f70 x0 x1 x2)) := by
  refine Eq.trans (b := bif decide (x0 ≥ x1) then ZB (decide (x0 ≤ x2)) else Zf) (by kernel_rfl) ?_
  unfold Sp.f70
  exact (cond_plain f70_g (rfl) (rfl))
theorem e70_ok : Valid PP Γ e70 := valid_auto ok vnil fun a => f70_form a.1 a.2.1 a.2.2

def Sp.idx {α : Type} (p : α → Bool) : List α → Int → Int
  | [], _ => -1
  | x :: r, i => bif p x then i else Sp.idx p r (i + 1)
end Go.Proofs.GR.T

namespace Go.Proofs.GR.T
open Go Go.Proofs Go.Proofs.GR

end Go.Proofs.GR.T

namespace Go.Proofs.GR.T
open Go Go.Proofs Go.Proofs.GR
namespace Sp
def bit (r : Nat) : Nat := if r % 2 = 1 then (r / 2) ^^^ 3988292384 else r / 2
def bits : Nat → Nat → Nat
  | 0, r => r
  | n + 1, r => bits n (bit r)
def isBytes (xs : List Int) : Bool := xs.all fun x => decide (0 ≤ x) && decide (x < 256)
def eqL {α : Type} [DecidableEq α] (xs ys : List α) : Bool := decide (xs = ys)
def small {α : Type} (xs : List α) (k : Int) : Bool := match k with
  | .ofNat n => decide (n + xs.length ≤ 4611686018427387904)
  | .negSucc _ => false
def addLen {α : Type} (xs : List α) (k : Int) : Int := k + (xs.length : Int)
def fits {α : Type} (xs : List α) : Bool := decide (xs.length ≤ 140737488355328)
end Sp
theorem small_of {α : Type} {xs : List α} {k : Int} (h : Sp.small xs k = true) : 0 ≤ k ∧ k + (xs.length : Int) ≤ 4611686018427387904 := by
  cases k with
  | ofNat n =>
    have h1 : n + xs.length ≤ 4611686018427387904 := of_decide_eq_true h
    exact ⟨Int.natCast_nonneg n, by show (n : Int) + (xs.length : Int) ≤ 4611686018427387904; omega⟩
  | negSucc n => cases h
theorem small_mk {α : Type} {xs : List α} {k : Int} (h1 : 0 ≤ k) (h2 : k + (xs.length : Int) ≤ 4611686018427387904) : Sp.small xs k = true := by
  cases k with
  | ofNat n =>
    have h3 : (n : Int) + (xs.length : Int) ≤ 4611686018427387904 := h2
    exact decide_eq_true (show n + xs.length ≤ 4611686018427387904 by omega)
  | negSucc n => exact absurd h1 (by omega)
theorem chkT {ρ : Type} (k : Option ρ) : chk true k = k := rfl
theorem eqL_self {α : Type} [DecidableEq α] (xs : List α) : Sp.eqL xs xs = true := decide_eq_true rfl
theorem isBytes_cons {x : Int} {r : List Int} : Sp.isBytes (x :: r) = true ↔ (0 ≤ x ∧ x < 256) ∧ Sp.isBytes r = true := by
  simp [Sp.isBytes, List.all_cons]
theorem isBytes_mem {xs : List Int} (h : Sp.isBytes xs = true) {x : Int} (hx : x ∈ xs) : 0 ≤ x ∧ x < 256 := by
  have := List.all_eq_true.1 h x hx
  simpa using this
theorem isBytes_of {xs : List Int} (h : ∀ x ∈ xs, 0 ≤ x ∧ x < 256) : Sp.isBytes xs = true := by
  refine List.all_eq_true.2 fun x hx => ?_
  simpa using h x hx
theorem strBytes_len (s : ByteArray) : (strBytes s).length = s.size := by unfold strBytes; rw [List.length_map, Array.length_toList]; rfl
theorem strBytes_bytesStr {xs : List Int} (h : Sp.isBytes xs = true) : strBytes (bytesStr xs) = xs := by
  simp only [strBytes, bytesStr, List.map_map]
  conv => rhs; rw [← List.map_id xs]
  refine List.map_congr_left fun x hx => ?_
  have := isBytes_mem h hx
  simp only [Function.comp, id, UInt8.toNat_ofNat']
  omega
theorem bytesStr_strBytes (s : ByteArray) : bytesStr (strBytes s) = s := by
  have : (strBytes s).map (fun n => UInt8.ofNat n.toNat) = s.data.toList := by
    simp only [strBytes, List.map_map]
    conv => rhs; rw [← List.map_id s.data.toList]
    refine List.map_congr_left fun x _ => ?_
    simp
  unfold bytesStr
  rw [this]
theorem bytesStr_size (xs : List Int) : (bytesStr xs).size = xs.length := by
  show ((xs.map fun n => UInt8.ofNat n.toNat).toArray).size = _
  rw [List.size_toArray, List.length_map]
end Go.Proofs.GR.T

set_option maxRecDepth 100000
set_option maxHeartbeats 100000000
namespace Go.Proofs.GR.T
open Go Go.Proofs Go.Proofs.GR
abbrev rI (n : Int) : Res := Res.mk [ZX Zi n] []
abbrev rBo (b : Bool) : Res := Res.mk [ZX Ty.bool b] []
theorem succ_of {d m : Nat} (h : d < m) : ∃ q, m = q + 1 := ⟨m - 1, by omega⟩
end Go.Proofs.GR.T

set_option maxRecDepth 100000
set_option maxHeartbeats 100000000
namespace Go.Proofs.GR.T
open Go Go.Proofs Go.Proofs.GR
end Go.Proofs.GR.T

namespace Go.Proofs.GR.T
open Go Go.Proofs Go.Proofs.GR
end Go.Proofs.GR.T

set_option maxRecDepth 100000
set_option maxHeartbeats 100000000
namespace Go.Proofs.GR.T
open Go Go.Proofs Go.Proofs.GR
def Sp.num : Nat → List Int → Nat
  | r, [] => r
  | r, x :: l => Sp.num (r * 256 + x.toNat) l
def Sp.eight (xs : List Int) : Bool := yes2 (decide (xs.length ≤ 8)) (Sp.isBytes xs)
end Go.Proofs.GR.T

namespace Go.Proofs.GR.T
open Go Go.Proofs Go.Proofs.GR
theorem toList_loop (s : ByteArray) : ∀ (d i : Nat) (r : List UInt8), i + d = s.size → ByteArray.toList.loop s i r = r.reverse ++ s.data.toList.drop i := by
  intro d
  have hs : s.size = s.data.toList.length := by rw [Array.length_toList]; rfl
  induction d with
  | zero =>
    intro i r h
    unfold ByteArray.toList.loop
    rw [if_neg (by omega), List.drop_of_length_le (by omega), List.append_nil]
  | succ d ih =>
    intro i r h
    unfold ByteArray.toList.loop
    rw [if_pos (by omega), ih (i + 1) _ (by omega)]
    have hlt : i < s.data.toList.length := by omega
    have hlt2 : i < s.data.size := by rw [Array.length_toList] at hlt; exact hlt
    have hg : s.get! i = s.data.toList[i] := by
      show s.data[i]! = _
      rw [getElem!_pos s.data i hlt2, Array.getElem_toList]
    rw [List.drop_eq_getElem_cons hlt, hg]
    simp
theorem toList_eq (s : ByteArray) : s.toList = s.data.toList := by
  unfold ByteArray.toList
  rw [toList_loop s s.size 0 [] (Nat.zero_add _)]
  rfl
theorem beq_strBytes (s t : ByteArray) : (s.toList == t.toList) = Sp.eqL (strBytes s) (strBytes t) := by
  rw [toList_eq, toList_eq]
  by_cases h : s.data.toList = t.data.toList
  · rw [h, beq_self_eq_true]
    have e : strBytes s = strBytes t := by unfold strBytes; rw [h]
    rw [e, eqL_self]
  · rw [beq_false_of_ne h]
    refine (decide_eq_false fun e => h ?_).symm
    have e2 : bytesStr (strBytes s) = bytesStr (strBytes t) := by rw [e]
    rw [bytesStr_strBytes, bytesStr_strBytes] at e2
    rw [e2]
theorem beq_bytes {a b : List Int} (ha : Sp.isBytes a = true) (hb : Sp.isBytes b = true) : ((bytesStr a).toList == (bytesStr b).toList) = Sp.eqL a b := by
  rw [beq_strBytes, strBytes_bytesStr ha, strBytes_bytesStr hb]
end Go.Proofs.GR.T

namespace Go.Proofs.GR.T
open Go Go.Proofs Go.Proofs.GR
end Go.Proofs.GR.T

set_option maxRecDepth 100000
set_option maxHeartbeats 100000000
namespace Go.Proofs.GR.T
open Go Go.Proofs Go.Proofs.GR
def Sp.mdig : Nat → Int → ByteArray → ByteArray
  | 0, _, acc => acc
  | d + 1, r, acc => bif decide (r > 0) then Sp.mdig d (IntKind.i64.wrap (r.tdiv 10)) (bytesStr [IntKind.u8.wrap (IntKind.i64.wrap (48 + r.tmod 10))] ++ acc) else acc
def Sp.mText (k : Int) : ByteArray := bif decide (k ≤ 0) then ByteArray.mk #[109, 48] else ByteArray.mk #[109] ++ Sp.mdig 19 k (ByteArray.mk #[])
def Sp.mOK (k : Int) : Bool := decide (k.toNat ≤ 4611686018427387904)
noncomputable def f75_L0 (n m0 : Nat) (y0 : Int) (y1 : ByteArray) : Option Res := loopAt Γ (orc []) n (24 : Nat) (0 : Nat) [] [Pth.r, Pth.r, Pth.r, Pth.l, Pth.b] m0 (St.mk (ZS Zi y0 :: Zn :: Zn :: ZS Ty.str y1 :: ZN 16 []) [])
theorem f75_L0_step (n m0 : Nat) (y0 : Int) (y1 : ByteArray) : f75_L0 n (m0 + 1) y0 y1 = bif decide (y0 > (0 : Int)) then chk (decide ((bytesStr [IntKind.u8.wrap (IntKind.i64.wrap ((48 : Int) + y0.tmod (10 : Int)))]).size + y1.size ≤ (9223372036854775807 : Nat))) (f75_L0 n m0 (IntKind.i64.wrap (y0.tdiv (10 : Int))) (bytesStr [IntKind.u8.wrap (IntKind.i64.wrap ((48 : Int) + y0.tmod (10 : Int)))] ++ y1)) else chk (decide ((1 : Nat) + y1.size ≤ (9223372036854775807 : Nat))) (some (Res.mk [ZX Ty.str (ByteArray.mk #[109] ++ y1)] [])) := by kernel_rfl
theorem f75_raw (n : Nat) (x0 : Int) : abody Γ (orc []) n 24 [ZX Zi x0] = bif decide (x0 ≤ (0 : Int)) then some (Res.mk [ZX Ty.str (ByteArray.mk #[109, 48])] []) else f75_L0 n n x0 (ByteArray.mk #[]) := by kernel_rfl

noncomputable def e75 : Ent := { f := n75, ins := [Sh.one cI], outs := [Sh.one cS], upd := [], pre := fun a => Sp.mOK a, spec := fun a => Sp.mText a, wrt := fun _ => () }
abbrev rS (s : ByteArray) : Res := Res.mk [ZX Ty.str s] []
theorem f75_loop (n : Nat) : ∀ (d m : Nat) (r : Int) (acc : ByteArray), r.toNat < 10 ^ d → r.toNat ≤ 4611686018427387904 → acc.size + d ≤ 19 → d < m →
    f75_L0 n m r acc = some (rS (ByteArray.mk #[109] ++ Sp.mdig d r acc)) := by
  intro d
  induction d with
  | zero =>
    intro m r acc hr hr2 ha hm
    obtain ⟨m, rfl⟩ := succ_of hm
    rw [f75_L0_step, decide_eq_false (by omega), decide_eq_true (show 1 + acc.size ≤ 9223372036854775807 by omega), cond_false, chkT, Sp.mdig]
  | succ d ih =>
    intro m r acc hr hr2 ha hm
    obtain ⟨m, rfl⟩ := succ_of hm
    rw [f75_L0_step]
    by_cases h0 : r > 0
    · have hsz : (bytesStr [IntKind.u8.wrap (IntKind.i64.wrap (48 + r.tmod 10))]).size = 1 := by rw [bytesStr_size]; rfl
      rw [decide_eq_true h0, hsz, decide_eq_true (show 1 + acc.size ≤ 9223372036854775807 by omega), cond_true, chkT, Sp.mdig, decide_eq_true h0, cond_true]
      have e : r.tdiv 10 = ((r.toNat / 10 : Nat) : Int) := by
        rw [Int.tdiv_eq_ediv_of_nonneg (by omega)]; omega
      have e2 : IntKind.i64.wrap (r.tdiv 10) = ((r.toNat / 10 : Nat) : Int) := by rw [e]; exact wrap64 (by omega) (by omega)
      rw [e2]
      refine ih m _ _ ?_ ?_ ?_ (by omega)
      · rw [Int.toNat_natCast]; rw [Nat.pow_succ] at hr; omega
      · rw [Int.toNat_natCast]; omega
      · rw [ByteArray.size_append, hsz]; omega
    · rw [decide_eq_false h0, decide_eq_true (show 1 + acc.size ≤ 9223372036854775807 by omega), Sp.mdig, decide_eq_false h0, cond_false, cond_false, chkT]
theorem e75_core (k : Int) (h : Sp.mOK k = true) : ∃ n, abody Γ (orc []) n n75 [ZX Zi k] = some (rS (Sp.mText k)) := by
  have h1 : k.toNat ≤ 4611686018427387904 := of_decide_eq_true h
  refine ⟨20, (f75_raw 20 k).trans ?_⟩
  unfold Sp.mText
  by_cases h0 : k ≤ 0
  · rw [decide_eq_true h0]; rfl
  · rw [decide_eq_false h0, cond_false, cond_false]
    exact f75_loop 20 19 20 k _ (by omega) h1 (by decide) (by omega)
theorem e75_ok : Valid PP Γ e75 := valid_of ok vnil fun a ha => e75_core a ha
noncomputable def f29_L0 (n m0 : Nat) (y0 y1 : List ByteArray) (y2 : Int) : Option Res := loopAt Γ (orc []) n (8 : Nat) (0 : Nat) [] [Pth.r, Pth.r, Pth.l, Pth.r, Pth.b] m0 (St.mk (ZS Ty.str.slice y0 :: ZS Ty.str.slice y1 :: ZN 3 (ZS Zi y2 :: ZN 20 [])) [])
theorem f29_L0_step (n m0 : Nat) (y0 y1 : List ByteArray) (y2 : Int) : f29_L0 n (m0 + 1) y0 y1 y2 = bif decide (y2 < (↑y0.length : Int)) then chk (decide ((0 : Int) ≤ y2) && decide (y2 < (↑y0.length : Int))) (chk (decide ((0 : Int) ≤ y2) && decide (y2 < (↑y1.length : Int))) (bif !(y0.getD y2.toNat (ByteArray.mk #[])).toList == (y1.getD y2.toNat (ByteArray.mk #[])).toList then Zf else f29_L0 n m0 y0 y1 (IntKind.i64.wrap (y2 + (1 : Int))))) else Zt := by kernel_rfl
theorem f29_raw (n : Nat) (x0 x1 : List ByteArray) : abody Γ (orc []) n 8 [ZX Ty.str.slice x0, ZX Ty.str.slice x1] = bif (↑x0.length : Int) != (↑x1.length : Int) then Zf else f29_L0 n n x0 x1 (0 : Int) := by kernel_rfl

def Sp.eqS : List ByteArray → List ByteArray → Bool
  | [], [] => true
  | x :: r, y :: s => bif !(x.toList == y.toList) then false else Sp.eqS r s
  | _, _ => false
theorem eqS_len : ∀ {xs ys : List ByteArray}, xs.length ≠ ys.length → Sp.eqS xs ys = false
  | [], [], h => absurd rfl h
  | [], _ :: _, _ => rfl
  | _ :: _, [], _ => rfl
  | x :: r, y :: s, h => by
    unfold Sp.eqS
    rw [eqS_len (xs := r) (ys := s) (fun e => h (by simp [e]))]
    cases !(x.toList == y.toList) <;> rfl
noncomputable def e29 : Ent := { f := n29, ins := [Sh.one (cL Ty.str), Sh.one (cL Ty.str)], outs := [Sh.one cB], upd := [], pre := fun a => true, spec := fun a => Sp.eqS a.1 a.2, wrt := fun _ => () }
theorem f29_loop (n : Nat) (xs ys : List ByteArray) (hl : xs.length ≤ maxLen) (hy : xs.length = ys.length) : ∀ (d k m : Nat), k + d = xs.length → d < m →
    f29_L0 n m xs ys (↑k : Int) = some (rBo (Sp.eqS (xs.drop k) (ys.drop k))) := by
  have hm : (xs.length : Nat) ≤ 9223372036854775807 := hl
  intro d
  induction d with
  | zero =>
    intro k m hk hm
    obtain ⟨m, rfl⟩ := succ_of hm
    rw [f29_L0_step, decide_eq_false (by omega), List.drop_of_length_le (by omega), List.drop_of_length_le (by omega)]
    rfl
  | succ d ih =>
    intro k m hk hm
    obtain ⟨m, rfl⟩ := succ_of hm
    have hlt : k < xs.length := by omega
    have hlt2 : k < ys.length := by omega
    rw [f29_L0_step, decide_eq_true (show (k : Int) < xs.length by omega), decide_eq_true (show (0 : Int) ≤ k by omega), decide_eq_true (show (k : Int) < ys.length by omega), wrap64 (by omega) (by omega), List.drop_eq_getElem_cons hlt, List.drop_eq_getElem_cons hlt2]
    simp only [cond_true, Bool.and_self, chkT, Int.toNat_natCast, List.getD, List.getElem?_eq_getElem hlt, List.getElem?_eq_getElem hlt2, Option.getD_some]
    unfold Sp.eqS
    cases !(xs[k].toList == ys[k].toList) with
    | true => rfl
    | false =>
      rw [cond_false, cond_false]
      exact ih (k + 1) m (by omega) (by omega)
theorem e29_core (xs ys : List ByteArray) (h1 : xs.length ≤ maxLen) : ∃ n, abody Γ (orc []) n n29 [ZX Ty.str.slice xs, ZX Ty.str.slice ys] = some (rBo (Sp.eqS xs ys)) := by
  refine ⟨xs.length + 1, (f29_raw _ xs ys).trans ?_⟩
  by_cases he : xs.length = ys.length
  · have h2 : ((xs.length : Int) != (ys.length : Int)) = false := by simp [he]
    rw [h2]
    simp only [cond_false]
    exact f29_loop _ xs ys h1 he xs.length 0 _ (Nat.zero_add _) (Nat.lt_succ_self _)
  · have h2 : ((xs.length : Int) != (ys.length : Int)) = true := by
      simp; omega
    rw [h2, eqS_len he]
    rfl
theorem e29_ok : Valid PP Γ e29 := valid_len ok vnil fun a _ hl => e29_core a.1 a.2 (hl _ (List.mem_cons_self) _ (List.mem_cons_self)).1
noncomputable def f30_L0 (n m0 : Nat) (y0 y1 : Int) (y2 : List ByteArray) : Option Res := loopAt Γ (orc [e75]) n (11 : Nat) (1 : Nat) [(0 : Nat)] [Pth.r, Pth.l, Pth.r, Pth.b] m0 (St.mk (Slot.val (Val.one (Cell.own (0 : Nat))) :: ZS Zi y0 :: ZN 3 (ZS Zi y1 :: ZN 14 [])) [AObj.row Ty.str y2 true])
theorem f30_L0_step (n m0 : Nat) (y0 y1 : Int) (y2 : List ByteArray) : f30_L0 n (m0 + 1) y0 y1 y2 = bif decide (y1 < (↑y2.length : Int)) then chk (Sp.mOK y0) (chk (decide ((0 : Int) ≤ y1) && decide (y1 < (↑y2.length : Int))) (f30_L0 n m0 (IntKind.i64.wrap (y0 + (1 : Int))) (IntKind.i64.wrap (y1 + (1 : Int))) (y2.set y1.toNat (Sp.mText y0)))) else some (Res.mk [ZX Zi y0] [X.c (X0.row Ty.str y2 true)]) := by kernel_rfl
theorem f30_raw (n : Nat) (x0 : List ByteArray) (x1 : Int) : abody Γ (orc [e75]) n 11 [XV.mk false [X.c (X0.row Ty.str x0 true)], ZX Zi x1] = f30_L0 n n x1 (0 : Int) x0 := by kernel_rfl

def Sp.markS : List ByteArray → Int → List ByteArray
  | [], _ => []
  | _ :: r, k => Sp.mText k :: Sp.markS r (k + 1)
def Sp.heldS : List ByteArray → Int → Int
  | [], k => k
  | x :: r, k => bif !(x.toList == (Sp.mText k).toList) then -1 else Sp.heldS r (k + 1)
noncomputable def e30 : Ent := { f := n30, ins := [Sh.one (C0.row Ty.str), Sh.one cI], outs := [Sh.one cI], upd := [Sh.one (C0.row Ty.str)], pre := fun a => Sp.small (α := ByteArray) a.1 a.2, spec := fun a => Sp.addLen (α := ByteArray) a.1 a.2, wrt := fun a => Sp.markS a.1 a.2 }
theorem f30_loop (n : Nat) : ∀ (d k m : Nat) (v : Int) (acc : List ByteArray), k + d = acc.length → d < m → 0 ≤ v → v + d ≤ 4611686018427387904 → k ≤ v + 4611686018427387904 → acc.length ≤ 4611686018427387904 →
    f30_L0 n m v (↑k : Int) acc = some (Res.mk [ZX Zi (v + (d : Int))] [X.c (X0.row Ty.str (acc.take k ++ Sp.markS (acc.drop k) v) true)]) := by
  intro d
  induction d with
  | zero =>
    intro k m v acc hk hm h0 h1 h2 h3
    obtain ⟨m, rfl⟩ := succ_of hm
    rw [f30_L0_step, decide_eq_false (by omega), List.drop_of_length_le (by omega), List.take_of_length_le (by omega)]
    simp [Sp.markS]
  | succ d ih =>
    intro k m v acc hk hm h0 h1 h2 h3
    obtain ⟨m, rfl⟩ := succ_of hm
    have hlt : k < acc.length := by omega
    have hok : Sp.mOK v = true := decide_eq_true (by omega)
    rw [f30_L0_step, hok, decide_eq_true (show (k : Int) < acc.length by omega), decide_eq_true (show (0 : Int) ≤ k by omega), wrap64 (by omega) (by omega), wrap64 (n := (k : Int) + 1) (by omega) (by omega)]
    simp only [cond_true, Bool.and_self, chkT, Int.toNat_natCast]
    have := ih (k + 1) m (v + 1) (acc.set k (Sp.mText v)) (by simpa using by omega) (by omega) (by omega) (by omega) (by omega) (by simpa using h3)
    refine this.trans ?_
    have e : (acc.set k (Sp.mText v)).take (k + 1) = acc.take k ++ [Sp.mText v] := by
      rw [List.take_set, List.take_succ_eq_append_getElem (by omega)]
      rw [List.set_append_right _ _ (by simp; omega)]
      simp [Nat.min_eq_left (show k ≤ acc.length by omega)]
    have e2 : (acc.set k (Sp.mText v)).drop (k + 1) = acc.drop (k + 1) := by rw [List.drop_set_of_lt (by omega)]
    rw [e, e2, List.append_assoc, List.drop_eq_getElem_cons hlt]
    simp only [Sp.markS, List.singleton_append]
    rw [show v + 1 + (d : Int) = v + ((d + 1 : Nat) : Int) by omega]
theorem e30_core (xs : List ByteArray) (v : Int) (ha : Sp.small xs v = true) : ∃ n, abody Γ (orc [e75]) n n30 [XV.mk false [X.c (X0.row Ty.str xs true)], ZX Zi v] = some (Res.mk [ZX Zi (Sp.addLen xs v)] [X.c (X0.row Ty.str (Sp.markS xs v) true)]) := by
  obtain ⟨h1, h2⟩ := small_of ha
  refine ⟨xs.length + 1, (f30_raw _ xs v).trans ?_⟩
  exact f30_loop _ xs.length 0 _ v xs (Nat.zero_add _) (Nat.lt_succ_self _) h1 h2 (by omega) (by omega)
theorem e30_ok : Valid PP Γ e30 := valid_of ok (vcons e75_ok vnil) fun a ha => e30_core a.1 a.2 ha
noncomputable def f31_L0 (n m0 : Nat) (y0 : List ByteArray) (y1 y2 : Int) : Option Res := loopAt Γ (orc [e75]) n (12 : Nat) (0 : Nat) [] [Pth.r, Pth.l, Pth.r, Pth.b] m0 (St.mk (ZS Ty.str.slice y0 :: ZS Zi y1 :: ZN 3 (ZS Zi y2 :: ZN 16 [])) [])
theorem f31_L0_step (n m0 : Nat) (y0 : List ByteArray) (y1 y2 : Int) : f31_L0 n (m0 + 1) y0 y1 y2 = bif decide (y2 < (↑y0.length : Int)) then chk (decide ((0 : Int) ≤ y2) && decide (y2 < (↑y0.length : Int))) (chk (Sp.mOK y1) (bif !(y0.getD y2.toNat (ByteArray.mk #[])).toList == (Sp.mText y1).toList then ZJ (-1 : Int) else f31_L0 n m0 y0 (IntKind.i64.wrap (y1 + (1 : Int))) (IntKind.i64.wrap (y2 + (1 : Int))))) else ZJ y1 := by kernel_rfl
theorem f31_raw (n : Nat) (x0 : List ByteArray) (x1 : Int) : abody Γ (orc [e75]) n 12 [ZX Ty.str.slice x0, ZX Zi x1] = f31_L0 n n x0 x1 (0 : Int) := by kernel_rfl

noncomputable def e31 : Ent := { f := n31, ins := [Sh.one (cL Ty.str), Sh.one cI], outs := [Sh.one cI], upd := [], pre := fun a => Sp.small (α := ByteArray) a.1 a.2, spec := fun a => Sp.heldS a.1 a.2, wrt := fun _ => () }
theorem f31_loop (n : Nat) (xs : List ByteArray) : ∀ (d k m : Nat) (v : Int), k + d = xs.length → d < m → 0 ≤ v → v + d ≤ 4611686018427387904 → xs.length ≤ 4611686018427387904 →
    f31_L0 n m xs v (↑k : Int) = some (rI (Sp.heldS (xs.drop k) v)) := by
  intro d
  induction d with
  | zero =>
    intro k m v hk hm h0 h1 h3
    obtain ⟨m, rfl⟩ := succ_of hm
    rw [f31_L0_step, decide_eq_false (by omega), List.drop_of_length_le (by omega)]
    rfl
  | succ d ih =>
    intro k m v hk hm h0 h1 h3
    obtain ⟨m, rfl⟩ := succ_of hm
    have hlt : k < xs.length := by omega
    have hok : Sp.mOK v = true := decide_eq_true (by omega)
    rw [f31_L0_step, hok, decide_eq_true (show (k : Int) < xs.length by omega), decide_eq_true (show (0 : Int) ≤ k by omega), wrap64 (by omega) (by omega), wrap64 (n := (k : Int) + 1) (by omega) (by omega), List.drop_eq_getElem_cons hlt]
    simp only [cond_true, Bool.and_self, chkT, Int.toNat_natCast, List.getD, List.getElem?_eq_getElem hlt, Option.getD_some, Sp.heldS]
    cases !(xs[k].toList == (Sp.mText v).toList) with
    | true => rfl
    | false =>
      simp only [cond_false]
      exact ih (k + 1) m (v + 1) (by omega) (by omega) (by omega) (by omega) h3
theorem e31_core (xs : List ByteArray) (v : Int) (ha : Sp.small xs v = true) : ∃ n, abody Γ (orc [e75]) n n31 [ZX Ty.str.slice xs, ZX Zi v] = some (rI (Sp.heldS xs v)) := by
  obtain ⟨h1, h2⟩ := small_of ha
  refine ⟨xs.length + 1, (f31_raw _ xs v).trans ?_⟩
  exact f31_loop _ xs xs.length 0 _ v (Nat.zero_add _) (Nat.lt_succ_self _) h1 h2 (by omega)
theorem e31_ok : Valid PP Γ e31 := valid_of ok (vcons e75_ok vnil) fun a ha => e31_core a.1 a.2 ha
end Go.Proofs.GR.T

set_option maxRecDepth 100000
set_option maxHeartbeats 100000000
namespace Go.Proofs.GR.T
open Go Go.Proofs Go.Proofs.GR
theorem strBytes_extract (s : ByteArray) (a b : Nat) : strBytes (s.extract a b) = ((strBytes s).drop a).take (b - a) := by
  have : (s.extract a b).data.toList = (s.data.toList.drop a).take (b - a) := by
    rw [ByteArray.data_extract, Array.toList_extract]
  unfold strBytes
  rw [this, List.map_take, List.map_drop]
theorem extract_eq (s : ByteArray) (a b : Nat) : s.extract a b = bytesStr (((strBytes s).drop a).take (b - a)) := by rw [← strBytes_extract, bytesStr_strBytes]
end Go.Proofs.GR.T

namespace Go.Proofs.GR.T
open Go Go.Proofs Go.Proofs.GR
theorem eqS_self : ∀ xs : List ByteArray, Sp.eqS xs xs = true
  | [] => rfl
  | x :: r => by
    unfold Sp.eqS
    rw [beq_self_eq_true, eqS_self r]; rfl
theorem markS_len : ∀ (xs : List ByteArray) (k : Int), (Sp.markS xs k).length = xs.length
  | [], _ => rfl
  | x :: r, k => by rw [Sp.markS, List.length_cons, List.length_cons, markS_len r]
theorem heldS_mark : ∀ (xs : List ByteArray) (k : Int), Sp.heldS (Sp.markS xs k) k = k + xs.length
  | [], k => by simp [Sp.heldS, Sp.markS]
  | x :: r, k => by
    rw [Sp.markS, Sp.heldS, beq_self_eq_true, Bool.not_true, cond_false, heldS_mark r, List.length_cons]
    omega
end Go.Proofs.GR.T

set_option maxRecDepth 100000
set_option maxHeartbeats 100000000
namespace Go.Proofs.GR.T
open Go Go.Proofs Go.Proofs.GR
def Sp.f79 (x0 x1 x2 : Int) := (bif decide (x0 ≥ x1) then (decide (x0 ≤ x2), ()) else (false, ()))
noncomputable def e79 : Ent := { f := 43, ins := [Sh.one ZI, Sh.one ZI, Sh.one ZI], outs := [Sh.one (C0.dat Ty.bool)], upd := [], pre := fun a => true, spec := fun a => (Sp.f79 a.1 a.2.1 a.2.2).1, wrt := fun a => (Sp.f79 a.1 a.2.1 a.2.2).2 }
def f79_g (v : denS [Sh.one (C0.dat Ty.bool)] × denS []) : Res := ⟨mkS [Sh.one (C0.dat Ty.bool)] v.1, mkU [] v.2⟩
theorem f79_form (x0 x1 x2 : Int) : abody Γ (orc []) 0 43 [ZX Zi x0, ZX Zi x1, ZX Zi x2] = some (f79_g (Sp.f79 x0 x1 x2)) := by
  refine Eq.trans (b := bif decide (x0 ≥ x1) then ZB (decide (x0 ≤ x2)) else Zf) (by kernel_rfl) ?_
  unfold Sp.f79
  exact (cond_plain f79_g (rfl) (rfl))
theorem e79_ok : Valid PP Γ e79 := valid_auto ok vnil fun a => f79_form a.1 a.2.1 a.2.2

def Sp.f136 (x0 x1 : Int) (x2 : ByteArray) := (bif x0 == (0 : Int) then (bif x1 == (0 : Int) then (x2.toList == (ByteArray.mk #[]).toList, ()) else (false, ())) else (bif x0 == (1 : Int) then (bif (Sp.f79 x1 (0 : Int) (1 : Int)).1 then (x2.toList == (ByteArray.mk #[]).toList, ()) else (false, ())) else (bif x0 == (2 : Int) then (x2.toList == (ByteArray.mk #[]).toList, ()) else (bif x0 == (3 : Int) then (bif x0 == (3 : Int) then (bif x1 == (0 : Int) then (decide ((↑x2.size : Int) ≤ (60 : Int)), ()) else (false, ())) else (false, ())) else (bif x0 == (4 : Int) then (bif x1 == (0 : Int) then (decide ((↑x2.size : Int) ≤ (60 : Int)), ()) else (false, ())) else (false, ()))))))
noncomputable def e136 : Ent := { f := 46, ins := [Sh.agg [C0.dat Zi, C0.dat Zi, C0.dat Ty.str]], outs := [Sh.one (C0.dat Ty.bool)], upd := [], pre := fun a => true, spec := fun a => (Sp.f136 a.1 a.2.1 a.2.2).1, wrt := fun a => (Sp.f136 a.1 a.2.1 a.2.2).2 }
def f136_g (v : denS [Sh.one (C0.dat Ty.bool)] × denS []) : Res := ⟨mkS [Sh.one (C0.dat Ty.bool)] v.1, mkU [] v.2⟩
theorem f136_form (x0 x1 : Int) (x2 : ByteArray) : abody Γ (orc [e79]) 0 46 [XV.mk true [ZC Zi x0, ZC Zi x1, ZC Ty.str x2]] = some (f136_g (Sp.f136 x0 x1 x2)) := by
  refine Eq.trans (b := bif x0 == (0 : Int) then bif x1 == (0 : Int) then ZB (x2.toList == (ByteArray.mk #[]).toList) else Zf else bif x0 == (1 : Int) then bif (Sp.f79 x1 (0 : Int) (1 : Int)).1 then ZB (x2.toList == (ByteArray.mk #[]).toList) else Zf else bif x0 == (2 : Int) then ZB (x2.toList == (ByteArray.mk #[]).toList) else bif x0 == (3 : Int) then bif x0 == (3 : Int) then bif x1 == (0 : Int) then ZB (decide ((↑x2.size : Int) ≤ (60 : Int))) else Zf else Zf else bif x0 == (4 : Int) then bif x1 == (0 : Int) then ZB (decide ((↑x2.size : Int) ≤ (60 : Int))) else Zf else Zf) (by kernel_rfl) ?_
  unfold Sp.f136
  exact (cond_plain f136_g ((cond_plain f136_g (rfl) (rfl))) ((cond_plain f136_g ((cond_plain f136_g (rfl) (rfl))) ((cond_plain f136_g (rfl) ((cond_plain f136_g ((cond_plain f136_g ((cond_plain f136_g (rfl) (rfl))) (rfl))) ((cond_plain f136_g ((cond_plain f136_g (rfl) (rfl))) (rfl))))))))))
theorem e136_ok : Valid PP Γ e136 := valid_auto ok (vcons e79_ok vnil) fun a => f136_form a.1 a.2.1 a.2.2

def Sp.f167 (x0 : Int) := (bif x0 == (3 : Int) then (true, ()) else (x0 == (4 : Int), ()))
noncomputable def e167 : Ent := { f := 69, ins := [Sh.one ZI], outs := [Sh.one (C0.dat Ty.bool)], upd := [], pre := fun a => true, spec := fun a => (Sp.f167 a).1, wrt := fun a => (Sp.f167 a).2 }
def f167_g (v : denS [Sh.one (C0.dat Ty.bool)] × denS []) : Res := ⟨mkS [Sh.one (C0.dat Ty.bool)] v.1, mkU [] v.2⟩
theorem f167_form (x0 : Int) : abody Γ (orc []) 0 69 [ZX Zi x0] = some (f167_g (Sp.f167 x0)) := by
  refine Eq.trans (b := bif x0 == (3 : Int) then Zt else ZB (x0 == (4 : Int))) (by kernel_rfl) ?_
  unfold Sp.f167
  exact (cond_plain f167_g (rfl) (rfl))
theorem e167_ok : Valid PP Γ e167 := valid_auto ok vnil fun a => f167_form a

def Sp.f171 (x0 x1 : Int) (x2 : ByteArray) := (bif x0 == (0 : Int) then (bif x1 == (0 : Int) then (x2.toList == (ByteArray.mk #[]).toList, ()) else (false, ())) else (bif x0 == (1 : Int) then (bif (Sp.f70 x1 (0 : Int) (1 : Int)).1 then (x2.toList == (ByteArray.mk #[]).toList, ()) else (false, ())) else (bif x0 == (2 : Int) then (x2.toList == (ByteArray.mk #[]).toList, ()) else (bif (Sp.f167 x0).1 then (bif x1 == (0 : Int) then (decide ((↑x2.size : Int) ≤ (60 : Int)), ()) else (false, ())) else (false, ())))))
noncomputable def e171 : Ent := { f := 55, ins := [Sh.agg [C0.dat Zi, C0.dat Zi, C0.dat Ty.str]], outs := [Sh.one (C0.dat Ty.bool)], upd := [], pre := fun a => true, spec := fun a => (Sp.f171 a.1 a.2.1 a.2.2).1, wrt := fun a => (Sp.f171 a.1 a.2.1 a.2.2).2 }
def f171_g (v : denS [Sh.one (C0.dat Ty.bool)] × denS []) : Res := ⟨mkS [Sh.one (C0.dat Ty.bool)] v.1, mkU [] v.2⟩
theorem f171_form (x0 x1 : Int) (x2 : ByteArray) : abody Γ (orc [e70, e167]) 0 55 [XV.mk true [ZC Zi x0, ZC Zi x1, ZC Ty.str x2]] = some (f171_g (Sp.f171 x0 x1 x2)) := by
  refine Eq.trans (b := bif x0 == (0 : Int) then bif x1 == (0 : Int) then ZB (x2.toList == (ByteArray.mk #[]).toList) else Zf else bif x0 == (1 : Int) then bif (Sp.f70 x1 (0 : Int) (1 : Int)).1 then ZB (x2.toList == (ByteArray.mk #[]).toList) else Zf else bif x0 == (2 : Int) then ZB (x2.toList == (ByteArray.mk #[]).toList) else bif (Sp.f167 x0).1 then bif x1 == (0 : Int) then ZB (decide ((↑x2.size : Int) ≤ (60 : Int))) else Zf else Zf) (by kernel_rfl) ?_
  unfold Sp.f171
  exact (cond_plain f171_g ((cond_plain f171_g (rfl) (rfl))) ((cond_plain f171_g ((cond_plain f171_g (rfl) (rfl))) ((cond_plain f171_g (rfl) ((cond_plain f171_g ((cond_plain f171_g (rfl) (rfl))) (rfl))))))))
theorem e171_ok : Valid PP Γ e171 := valid_auto ok (vcons e70_ok (vcons e167_ok vnil)) fun a => f171_form a.1 a.2.1 a.2.2

def Sp.f86 (x0 x1 : Int) (x2 : ByteArray) (x3 x4 : Int) (x5 : ByteArray) := (bif x0 != x3 then (false, ()) else (bif x1 != x4 then (false, ()) else (bif !x2.toList == x5.toList then (false, ()) else (true, ()))))
noncomputable def e86 : Ent := { f := 21, ins := [Sh.agg [C0.dat Zi, C0.dat Zi, C0.dat Ty.str], Sh.agg [C0.dat Zi, C0.dat Zi, C0.dat Ty.str]], outs := [Sh.one (C0.dat Ty.bool)], upd := [], pre := fun a => true, spec := fun a => (Sp.f86 a.1.1 a.1.2.1 a.1.2.2 a.2.1 a.2.2.1 a.2.2.2).1, wrt := fun a => (Sp.f86 a.1.1 a.1.2.1 a.1.2.2 a.2.1 a.2.2.1 a.2.2.2).2 }
def f86_g (v : denS [Sh.one (C0.dat Ty.bool)] × denS []) : Res := ⟨mkS [Sh.one (C0.dat Ty.bool)] v.1, mkU [] v.2⟩
theorem f86_form (x0 x1 : Int) (x2 : ByteArray) (x3 x4 : Int) (x5 : ByteArray) : abody Γ (orc []) 0 21 [XV.mk true [ZC Zi x0, ZC Zi x1, ZC Ty.str x2], XV.mk true [ZC Zi x3, ZC Zi x4, ZC Ty.str x5]] = some (f86_g (Sp.f86 x0 x1 x2 x3 x4 x5)) := by
  refine Eq.trans (b := bif x0 != x3 then Zf else bif x1 != x4 then Zf else bif !x2.toList == x5.toList then Zf else Zt) (by kernel_rfl) ?_
  unfold Sp.f86
  exact (cond_plain f86_g (rfl) ((cond_plain f86_g (rfl) ((cond_plain f86_g (rfl) (rfl))))))
theorem e86_ok : Valid PP Γ e86 := valid_auto ok vnil fun a => f86_form a.1.1 a.1.2.1 a.1.2.2 a.2.1 a.2.2.1 a.2.2.2

def Sp.takeB (b : List Int) (a : Int) (bad : Bool) (n : Int) : Bool := bif bad then true else bif decide (n < 0) then true else decide (a + n > (b.length : Int))
def Sp.takeV (b : List Int) (a : Int) (bad : Bool) (n : Int) : List Int := bif Sp.takeB b a bad n then List.replicate (maxI 0 (minI n 8)).toNat 0 else (b.drop a.toNat).take n.toNat
def Sp.of8 (xs : List Int) : Int := (Sp.num 0 (xs.take 8) : Int) - 9223372036854775808
theorem p7 : 256 ^ 7 = 72057594037927936 := by decide +kernel
end Go.Proofs.GR.T

set_option maxRecDepth 100000
set_option maxHeartbeats 100000000
namespace Go.Proofs.GR.T
open Go Go.Proofs Go.Proofs.GR
def Sp.kt : List Int → List Int → Int → ByteArray × Int
  | [], _, _ => (ByteArray.mk #[], 0)
  | [x], acc, i => (ByteArray.mk #[], 0)
  | x :: y :: r, acc, i => bif x != 0 then Sp.kt (y :: r) (acc ++ [x]) (i + 1) else bif y == 1 then (bytesStr acc, i + 2) else bif y != 255 then (ByteArray.mk #[], 0) else Sp.kt r (acc ++ [0]) (i + 2)
abbrev V3 := Int × Int × ByteArray
def Sp.zv : V3 := (0, 0, ByteArray.empty)
def Sp.cellC (x : Int) (r : List Int) (row : Bool) : V3 × Int :=
    bif x == 0 then ((0, 0, ByteArray.empty), 1)
    else bif x == 1 then (match r with | [] => (Sp.zv, 0) | y :: _ => ((1, y, ByteArray.empty), 2))
    else bif x == 2 then (bif Nat.ble 8 r.length then ((2, Sp.of8 r, ByteArray.empty), 9) else (Sp.zv, 0))
    else bif (Sp.f167 x).1 then
      bif !row then (bif decide ((Sp.kt r [] 0).2 > 0) then ((x, 0, (Sp.kt r [] 0).1), IntKind.i64.wrap ((Sp.kt r [] 0).2 + 1)) else (Sp.zv, 0))
      else (match r with | [] => (Sp.zv, 0) | y :: r' => bif Nat.ble y.toNat r'.length then ((x, 0, bytesStr (r'.take y.toNat)), 2 + y) else (Sp.zv, 0))
    else (Sp.zv, 0)
def Sp.cell : List Int → Bool → V3 × Int
  | [], _ => (Sp.zv, 0)
  | x :: r, row => Sp.cellC x r row
end Go.Proofs.GR.T

namespace Go.Proofs.GR.T
open Go Go.Proofs Go.Proofs.GR
namespace Sp
def eqW {α β : Type} (q : α → β → Bool) : List α → List β → Bool
  | [], [] => true
  | x :: r, y :: s => bif !q x y then false else eqW q r s
  | _, _ => false
def allW {α : Type} (p : α → Bool) : List α → Bool
  | [] => true
  | x :: r => bif !p x then false else allW p r
end Sp
theorem eqW_len {α β : Type} {q : α → β → Bool} : ∀ {xs : List α} {ys : List β}, xs.length ≠ ys.length → Sp.eqW q xs ys = false
  | [], [], h => absurd rfl h
  | [], _ :: _, _ => rfl
  | _ :: _, [], _ => rfl
  | x :: r, y :: s, h => by
    unfold Sp.eqW
    rw [eqW_len (xs := r) (ys := s) (fun e => h (by simp [e]))]
    cases !q x y <;> rfl
theorem eq_loop {α : Type} {ρ : Type} {q : α → α → Bool} {R : Bool → ρ} (xs ys : List α) (L : Nat → Int → Option ρ) (hy : xs.length = ys.length)
    (hend : ∀ m (k : Nat), xs.length ≤ k → L (m + 1) k = some (R true))
    (hstep : ∀ m (k : Nat) (h : k < xs.length) (h2 : k < ys.length), L (m + 1) k = bif !q xs[k] ys[k] then some (R false) else L m ((k + 1 : Nat) : Int)) :
    ∀ (d k m : Nat), k + d = xs.length → d < m → L m k = some (R (Sp.eqW q (xs.drop k) (ys.drop k))) := by
  intro d
  induction d with
  | zero =>
    intro k m hk hm
    obtain ⟨m, rfl⟩ := succ_of hm
    rw [hend m k (by omega), List.drop_of_length_le (by omega), List.drop_of_length_le (by omega)]
    rfl
  | succ d ih =>
    intro k m hk hm
    obtain ⟨m, rfl⟩ := succ_of hm
    rw [hstep m k (by omega) (by omega), ih (k + 1) m (by omega) (by omega), List.drop_eq_getElem_cons (show k < xs.length by omega), List.drop_eq_getElem_cons (show k < ys.length by omega)]
    rw [Sp.eqW]
    cases !q xs[k] ys[k] <;> rfl
theorem all_loop {α : Type} {ρ : Type} {p : α → Bool} {R : Bool → ρ} (xs : List α) (L : Nat → Int → Option ρ)
    (hend : ∀ m (k : Nat), xs.length ≤ k → L (m + 1) k = some (R true))
    (hstep : ∀ m (k : Nat) (h : k < xs.length), L (m + 1) k = bif !p xs[k] then some (R false) else L m ((k + 1 : Nat) : Int)) :
    ∀ (d k m : Nat), k + d = xs.length → d < m → L m k = some (R (Sp.allW p (xs.drop k))) := by
  intro d
  induction d with
  | zero =>
    intro k m hk hm
    obtain ⟨m, rfl⟩ := succ_of hm
    rw [hend m k (by omega), List.drop_of_length_le (by omega)]
    rfl
  | succ d ih =>
    intro k m hk hm
    obtain ⟨m, rfl⟩ := succ_of hm
    rw [hstep m k (by omega), ih (k + 1) m (by omega) (by omega), List.drop_eq_getElem_cons (show k < xs.length by omega)]
    rw [Sp.allW]
    cases !p xs[k] <;> rfl
theorem idx_loop {α : Type} {ρ : Type} {p : α → Bool} {R : Int → ρ} (xs : List α) (L : Nat → Int → Option ρ)
    (hend : ∀ m (k : Nat), xs.length ≤ k → L (m + 1) k = some (R (-1)))
    (hstep : ∀ m (k : Nat) (h : k < xs.length), L (m + 1) k = bif p xs[k] then some (R k) else L m ((k + 1 : Nat) : Int)) :
    ∀ (d k m : Nat), k + d = xs.length → d < m → L m k = some (R (Sp.idx p (xs.drop k) k)) := by
  intro d
  induction d with
  | zero =>
    intro k m hk hm
    obtain ⟨m, rfl⟩ := succ_of hm
    rw [hend m k (by omega), List.drop_of_length_le (by omega)]
    rfl
  | succ d ih =>
    intro k m hk hm
    obtain ⟨m, rfl⟩ := succ_of hm
    rw [hstep m k (by omega), ih (k + 1) m (by omega) (by omega), List.drop_eq_getElem_cons (show k < xs.length by omega)]
    rw [Sp.idx]
    rw [show ((k + 1 : Nat) : Int) = (k : Int) + 1 by omega]
    cases p xs[k] <;> rfl
theorem getD_nat {α : Type} (xs : List α) (k : Nat) (d : α) (h : k < xs.length) : xs.getD (k : Int).toNat d = xs[k] := by
  rw [Int.toNat_natCast, List.getD, List.getElem?_eq_getElem h, Option.getD_some]
theorem guard2 {k n : Nat} (h : k < n) : (decide ((0 : Int) ≤ (k : Int)) && decide ((k : Int) < (n : Int))) = true := by
  rw [decide_eq_true (show (0 : Int) ≤ k by omega), decide_eq_true (show (k : Int) < n by omega)]; rfl
theorem guard0 {k : Nat} : (decide ((0 : Int) ≤ (k : Int)) && true) = true := by
  rw [decide_eq_true (show (0 : Int) ≤ k by omega)]; rfl
theorem getD_set {α : Type} {l : List α} {k : Nat} {y d : α} (h : k < l.length) : (l.set k y).getD k d = y := by
  rw [List.getD, List.getElem?_set_self h, Option.getD_some]
theorem next64 {k n : Nat} (h : k < n) (h2 : n ≤ 9223372036854775807) : IntKind.i64.wrap ((k : Int) + 1) = ((k + 1 : Nat) : Int) := by
  rw [wrap64 (by omega) (by omega)]; omega
theorem nat_lt {k n : Nat} (h : k < n) : decide ((k : Int) < (n : Int)) = true := decide_eq_true (by omega)
theorem nat_ge {k n : Nat} (h : n ≤ k) : decide ((k : Int) < (n : Int)) = false := decide_eq_false (by omega)
end Go.Proofs.GR.T

set_option maxRecDepth 100000
set_option maxHeartbeats 100000000
namespace Go.Proofs.GR.T
open Go Go.Proofs Go.Proofs.GR
abbrev rMk (τ : Ty) (v : Int) (xs : List τ.den) : Res := Res.mk [ZX Zi v] [X.c (X0.row τ xs true)]
theorem mOK_of {k : Int} (h : k ≤ 4611686018427387904) : Sp.mOK k = true := decide_eq_true (by omega)
end Go.Proofs.GR.T

set_option maxRecDepth 100000
set_option maxHeartbeats 100000000
namespace Go.Proofs.GR.T
open Go Go.Proofs Go.Proofs.GR
end Go.Proofs.GR.T

namespace Go.Proofs.GR.T
open Go Go.Proofs Go.Proofs.GR
end Go.Proofs.GR.T

set_option maxRecDepth 100000
set_option maxHeartbeats 100000000
namespace Go.Proofs.GR.T
open Go Go.Proofs Go.Proofs.GR
def Sp.hi (n j : Int) : Int := IntKind.u8.wrap (n.fdiv ((2 : Int) ^ min (IntKind.u64.wrap (IntKind.i64.wrap ((8 : Int) * j))).toNat (64 : Nat)))
def Sp.key8 (n : Int) : List Int := [IntKind.u8.wrap (((BitVec.ofInt (8 : Nat) (Sp.hi n 7) ^^^ BitVec.ofInt (8 : Nat) (128 : Int)).toNat : Nat) : Int), Sp.hi n 6, Sp.hi n 5, Sp.hi n 4, Sp.hi n 3, Sp.hi n 2, Sp.hi n 1, Sp.hi n 0]
def Sp.left (b : List Int) (a : Int) (bad : Bool) : Nat := bif bad then 0 else (b.length - a.toNat) + 1
def Sp.esc : List Int → List Int
  | [] => []
  | x :: r => bif x == 0 then x :: 255 :: Sp.esc r else x :: Sp.esc r
def Sp.kv1 (v : V3) : List Int :=
  IntKind.u8.wrap v.1 :: (bif v.1 == 1 then [IntKind.u8.wrap v.2.1] else bif v.1 == 2 then Sp.key8 v.2.1
    else bif (bif v.1 == 3 then true else v.1 == 4) then Sp.esc (strBytes v.2.2) ++ [0, 1] else [])
def Sp.key : List V3 → List Int
  | [] => []
  | v :: r => Sp.kv1 v ++ Sp.key r
end Go.Proofs.GR.T

set_option maxRecDepth 100000
set_option maxHeartbeats 100000000
namespace Go.Proofs.GR.T
open Go Go.Proofs Go.Proofs.GR
end Go.Proofs.GR.T

namespace Go.Proofs.GR.T
open Go Go.Proofs Go.Proofs.GR
end Go.Proofs.GR.T

namespace Go.Proofs.GR.T
open Go Go.Proofs Go.Proofs.GR
namespace Sp
def szW {α : Type} (f : α → Int → Int) : List α → Int → Int
  | [], l => l
  | x :: r, l => bif decide (f x l < 0) then -1 else szW f r (f x l)
def szE {α : Type} (f : α → Int → Int) (xs : List α) (l : Int) : Int := bif decide (IntKind.i64.wrap (l - (xs.length : Int)) < 0) then -1 else szW f xs (IntKind.i64.wrap (l - (xs.length : Int)))
def fits32 {α : Type} (xs : List α) : Bool := Nat.ble xs.length 1000000000000
end Sp
theorem fits32_of {α : Type} {xs : List α} (h : Sp.fits32 xs = true) : xs.length ≤ 1000000000000 := Nat.le_of_ble_eq_true h
theorem fits32_mk {α : Type} {xs : List α} (h : xs.length ≤ 1000000000000) : Sp.fits32 xs = true := Nat.ble_eq_true_of_le h
theorem sz_loop {α : Type} {ρ : Type} {f : α → Int → Int} {R : Int → ρ} (xs : List α) (L : Nat → Int → Int → Option ρ)
    (hend : ∀ m (v : Int) (k : Nat), xs.length ≤ k → L (m + 1) v k = some (R v))
    (hstep : ∀ m (v : Int) (k : Nat) (h : k < xs.length), L (m + 1) v k = bif decide (f xs[k] v < 0) then some (R (-1)) else L m (f xs[k] v) ((k + 1 : Nat) : Int)) :
    ∀ (d k m : Nat) (v : Int), k + d = xs.length → d < m → L m v k = some (R (Sp.szW f (xs.drop k) v)) := by
  intro d
  induction d with
  | zero =>
    intro k m v hk hm
    obtain ⟨m, rfl⟩ := succ_of hm
    rw [hend m v k (by omega), List.drop_of_length_le (by omega)]
    rfl
  | succ d ih =>
    intro k m v hk hm
    obtain ⟨m, rfl⟩ := succ_of hm
    rw [hstep m v k (by omega), ih (k + 1) m _ (by omega) (by omega), List.drop_eq_getElem_cons (show k < xs.length by omega), Sp.szW]
    cases decide (f xs[k] v < 0) <;> rfl
theorem to_loop {α : Type} {ρ : Type} {R : List α → ρ} (xs : List α) (L : Nat → Int → List α → Option ρ)
    (hend : ∀ m (k : Nat) acc, xs.length ≤ k → L (m + 1) k acc = some (R acc))
    (hstep : ∀ m (k : Nat) acc (h : k < xs.length), acc.length = xs.length → L (m + 1) k acc = L m ((k + 1 : Nat) : Int) (acc.set k xs[k])) :
    ∀ (d k m : Nat) (acc : List α), k + d = xs.length → acc.length = xs.length → d < m → L m k acc = some (R (acc.take k ++ xs.drop k)) := by
  intro d
  induction d with
  | zero =>
    intro k m acc hk ha hm
    obtain ⟨m, rfl⟩ := succ_of hm
    rw [hend m k acc (by omega), List.drop_of_length_le (by omega), List.take_of_length_le (by omega), List.append_nil]
  | succ d ih =>
    intro k m acc hk ha hm
    obtain ⟨m, rfl⟩ := succ_of hm
    have hlt : k < xs.length := by omega
    rw [hstep m k acc hlt ha, ih (k + 1) m _ (by omega) (by rw [List.length_set]; exact ha) (by omega)]
    have e : (acc.set k xs[k]).take (k + 1) = acc.take k ++ [xs[k]] := by
      rw [List.take_set, List.take_succ_eq_append_getElem (by omega)]
      rw [List.set_append_right _ _ (by simp; omega)]
      simp [Nat.min_eq_left (show k ≤ acc.length by omega)]
    rw [e, List.append_assoc, List.drop_eq_getElem_cons hlt]
    rfl
theorem to_end {α : Type} {ρ : Type} {R : List α → ρ} (xs : List α) (L : Nat → Int → List α → Option ρ)
    (hend : ∀ m (k : Nat) acc, xs.length ≤ k → L (m + 1) k acc = some (R acc))
    (hstep : ∀ m (k : Nat) acc (h : k < xs.length), acc.length = xs.length → L (m + 1) k acc = L m ((k + 1 : Nat) : Int) (acc.set k xs[k])) (z : α) :
    L (xs.length + 1) 0 (List.replicate (xs.length : Int).toNat z) = some (R xs) := by
  have := to_loop xs L hend hstep xs.length 0 (xs.length + 1) (List.replicate (xs.length : Int).toNat z) (Nat.zero_add _) (by rw [List.length_replicate, Int.toNat_natCast]) (Nat.lt_succ_self _)
  rw [List.take_zero, List.drop_zero, List.nil_append, Int.natCast_zero] at this
  exact this
end Go.Proofs.GR.T

namespace Go.Proofs.GR.T
open Go Go.Proofs Go.Proofs.GR
end Go.Proofs.GR.T

set_option maxRecDepth 100000
set_option maxHeartbeats 100000000
namespace Go.Proofs.GR.T
open Go Go.Proofs Go.Proofs.GR
abbrev V2 := ByteArray × ByteArray
def Sp.f87 (x0 x1 : Int) (x2 : ByteArray) (x3 : Int) := (bif decide (IntKind.i64.wrap (x3 - (↑x2.size : Int)) < (0 : Int)) then ((-1 : Int), ()) else (IntKind.i64.wrap (x3 - (↑x2.size : Int)), ()))
noncomputable def e87 : Ent := { f := 13, ins := [Sh.agg [C0.dat Zi, C0.dat Zi, C0.dat Ty.str], Sh.one ZI], outs := [Sh.one ZI], upd := [], pre := fun a => true, spec := fun a => (Sp.f87 a.1.1 a.1.2.1 a.1.2.2 a.2).1, wrt := fun a => (Sp.f87 a.1.1 a.1.2.1 a.1.2.2 a.2).2 }
def f87_g (v : denS [Sh.one ZI] × denS []) : Res := ⟨mkS [Sh.one ZI] v.1, mkU [] v.2⟩
theorem f87_form (x0 x1 : Int) (x2 : ByteArray) (x3 : Int) : abody Γ (orc []) 0 13 [XV.mk true [ZC Zi x0, ZC Zi x1, ZC Ty.str x2], ZX Zi x3] = some (f87_g (Sp.f87 x0 x1 x2 x3)) := by
  refine Eq.trans (b := bif decide (IntKind.i64.wrap (x3 - (↑x2.size : Int)) < (0 : Int)) then ZJ (-1 : Int) else ZJ (IntKind.i64.wrap (x3 - (↑x2.size : Int)))) (by kernel_rfl) ?_
  unfold Sp.f87
  exact (cond_plain f87_g (rfl) (rfl))
theorem e87_ok : Valid PP Γ e87 := valid_auto ok vnil fun a => f87_form a.1.1 a.1.2.1 a.1.2.2 a.2

def Sp.f89 (x0 x1 : Int) (x2 : ByteArray) := ((x0, x1, x2), ())
noncomputable def e89 : Ent := { f := 17, ins := [Sh.agg [C0.dat Zi, C0.dat Zi, C0.dat Ty.str]], outs := [Sh.agg [C0.dat Zi, C0.dat Zi, C0.dat Ty.str]], upd := [], pre := fun a => true, spec := fun a => (Sp.f89 a.1 a.2.1 a.2.2).1, wrt := fun a => (Sp.f89 a.1 a.2.1 a.2.2).2 }
def f89_g (v : denS [Sh.agg [C0.dat Zi, C0.dat Zi, C0.dat Ty.str]] × denS []) : Res := ⟨mkS [Sh.agg [C0.dat Zi, C0.dat Zi, C0.dat Ty.str]] v.1, mkU [] v.2⟩
theorem f89_form (x0 x1 : Int) (x2 : ByteArray) : abody Γ (orc []) 0 17 [XV.mk true [ZC Zi x0, ZC Zi x1, ZC Ty.str x2]] = some (f89_g (Sp.f89 x0 x1 x2)) := by
  refine Eq.trans (b := some (Res.mk [XV.mk true [ZC Zi x0, ZC Zi x1, ZC Ty.str x2]] [])) (by kernel_rfl) ?_
  unfold Sp.f89
  exact rfl
theorem e89_ok : Valid PP Γ e89 := valid_auto ok vnil fun a => f89_form a.1 a.2.1 a.2.2

def Sp.szV (x : V3) (l : Int) : Int := (Sp.f87 x.1 x.2.1 x.2.2 l).1
def Sp.may (a b : ByteArray) : List V2 → Bool
  | [] => false
  | x :: r => bif x.1.toList == a.toList then (bif x.2.toList == b.toList then true else Sp.may a b r) else Sp.may a b r
def Sp.txt (xs : List V3) (i : Int) : ByteArray := (xs.getD i.toNat ((0 : Int), (0 : Int), ByteArray.mk #[])).2.2
def Sp.has (xs : List V3) (i : Int) : Bool := bif decide (0 ≤ i) then decide (i < (xs.length : Int)) else false
def Sp.step (gt : ByteArray) (gc : Int) (gs : List V2) (ev : Int) (ct : ByteArray) (old new : List V3) : Bool :=
  bif !(ct.toList == gt.toList) then true else bif ev == 3 then true else bif ev == 2 then
    (bif (Sp.txt old gc).toList == (Sp.txt new gc).toList then true else Sp.may (Sp.txt old gc) (Sp.txt new gc) gs)
  else Sp.may (ByteArray.mk #[]) (Sp.txt new gc) gs
def Sp.stepOK (gt : ByteArray) (gc ev : Int) (ct : ByteArray) (old new : List V3) : Bool :=
  bif !(ct.toList == gt.toList) then true else bif ev == 3 then true else bif Sp.has new gc then (bif ev == 2 then Sp.has old gc else true) else false
end Go.Proofs.GR.T

namespace Go.Proofs.GR.T
open Go Go.Proofs Go.Proofs.GR
theorem szV_le {x : V3} (h1 : x.2.2.size ≤ 9223372036854775807) (l : Int) (h0 : 0 ≤ l) (hl : l ≤ 1048576) : Sp.szV x l ≤ l := by
  unfold Sp.szV Sp.f87
  rw [wrap64 (n := l - (x.2.2.size : Int)) (by omega) (by omega)]
  by_cases c1 : l - (x.2.2.size : Int) < 0
  · rw [decide_eq_true c1]; show (-1 : Int) ≤ l; omega
  · rw [decide_eq_false c1]; show l - (x.2.2.size : Int) ≤ l; omega
end Go.Proofs.GR.T

namespace Go.Proofs.GR.T
open Go Go.Proofs Go.Proofs.GR
namespace Sp
def wtW {α : Type} (w : α → Nat) : List α → Nat
  | [] => 0
  | x :: r => w x + wtW w r
def markU {α : Type} (g : α → Int → α) (w : α → Nat) : List α → Int → List α
  | [], _ => []
  | x :: r, k => g x k :: markU g w r (k + (w x : Int))
def smallU {α : Type} (w : α → Nat) (xs : List α) (k : Int) : Bool := match k with
  | .ofNat n => Nat.ble (n + wtW w xs) 4611686018427387904
  | .negSucc _ => false
end Sp
theorem smallU_of {α : Type} {w : α → Nat} {xs : List α} {k : Int} (h : Sp.smallU w xs k = true) : 0 ≤ k ∧ k + (Sp.wtW w xs : Int) ≤ 4611686018427387904 := by
  cases k with
  | ofNat n =>
    have h1 : n + Sp.wtW w xs ≤ 4611686018427387904 := Nat.le_of_ble_eq_true h
    refine ⟨Int.natCast_nonneg n, ?_⟩
    show (n : Int) + (Sp.wtW w xs : Int) ≤ 4611686018427387904
    omega
  | negSucc n => cases h
theorem smallU_mk {α : Type} {w : α → Nat} {xs : List α} {k : Int} (h1 : 0 ≤ k) (h2 : k.toNat + Sp.wtW w xs ≤ 4611686018427387904) : Sp.smallU w xs k = true := by
  cases k with
  | ofNat n => exact Nat.ble_eq_true_of_le h2
  | negSucc n => exact absurd h1 (by omega)
theorem szW_wt {α : Type} {f : α → Int → Int} {c : α → Nat} : ∀ (xs : List α) (l : Int), (∀ x ∈ xs, ∀ l, 0 ≤ l → l ≤ 1048576 → 0 ≤ f x l → f x l + (c x : Int) ≤ l) → 0 ≤ l → l ≤ 1048576 → 0 ≤ Sp.szW f xs l → Sp.szW f xs l + (Sp.wtW c xs : Int) ≤ l
  | [], l, _, _, _, _ => by simp [Sp.szW, Sp.wtW]
  | x :: r, l, h, h0, h1, h2 => by
    rw [Sp.szW] at h2 ⊢
    by_cases hc : f x l < 0
    · rw [decide_eq_true hc, cond_true] at h2; omega
    · rw [decide_eq_false hc, cond_false] at h2 ⊢
      have h3 := h x (List.mem_cons_self) l h0 h1 (by omega)
      have := szW_wt r (f x l) (fun y hy => h y (List.mem_cons_of_mem _ hy)) (by omega) (by omega) h2
      rw [Sp.wtW, Int.natCast_add]
      omega
theorem szE_wt {α : Type} {f : α → Int → Int} {c : α → Nat} {xs : List α} {l : Int} (hl : xs.length ≤ 9223372036854775807) (h : ∀ x ∈ xs, ∀ l, 0 ≤ l → l ≤ 1048576 → 0 ≤ f x l → f x l + (c x : Int) ≤ l) (h0 : 0 ≤ l) (h1 : l ≤ 1048576) (h2 : 0 ≤ Sp.szE f xs l) : Sp.szE f xs l + (xs.length : Int) + (Sp.wtW c xs : Int) ≤ l := by
  unfold Sp.szE at h2 ⊢
  rw [wrap64 (by omega) (by omega)] at h2 ⊢
  by_cases hc : l - (xs.length : Int) < 0
  · rw [decide_eq_true hc, cond_true] at h2; omega
  · rw [decide_eq_false hc, cond_false] at h2 ⊢
    have := szW_wt xs (l - xs.length) h (by omega) (by omega) h2
    omega
end Go.Proofs.GR.T

set_option maxRecDepth 100000
set_option maxHeartbeats 100000000
namespace Go.Proofs.GR.T
open Go Go.Proofs Go.Proofs.GR
end Go.Proofs.GR.T

namespace Go.Proofs.GR.T
open Go Go.Proofs Go.Proofs.GR Go.Shelf
def ren1041 : Ren := ⟨fun k => if k = 146 then n1041 else if k = 221 then n1042 else if k = 268 then n1043 else if k = 138 then n1044 else if k = 143 then n1045 else if k = 195 then n1046 else if k = 197 then n1047 else if k = 218 then n1048 else if k = 219 then n1049 else if k = 260 then n1050 else if k = 217 then n1051 else if k = 225 then n1052 else if k = 224 then n1053 else if k = 267 then n1054 else if k = 266 then n1055 else if k = 314 then n1056 else k, fun k => if k = 9 then t9 else if k = 31 then t40 else if k = 3 then t3 else if k = 4 then t4 else if k = 0 then t0 else if k = 105 then t1035 else if k = 21 then t21 else if k = 5 then t5 else if k = 46 then t86 else if k = 119 then t1038 else if k = 139 then t1041 else if k = 138 then t1040 else if k = 146 then t1042 else if k = 51 then t151 else k, fun k => if k = 1 then g1 else if k = 3 then g2 else if k = 4 then g3 else k⟩
theorem lays1041 : Lays.n146 PP ren1041 where
  mixed := by kernel_rfl
  f138 := by kernel_rfl
  f143 := by kernel_rfl
  f146 := by kernel_rfl
  f195 := by kernel_rfl
  f197 := by kernel_rfl
  f217 := by kernel_rfl
  f218 := by kernel_rfl
  f219 := by kernel_rfl
  f221 := by kernel_rfl
  f224 := by kernel_rfl
  f225 := by kernel_rfl
  f260 := by kernel_rfl
  f266 := by kernel_rfl
  f267 := by kernel_rfl
  f268 := by kernel_rfl
  f314 := by kernel_rfl
  t0 := by kernel_rfl
  a0 := fun _ => by kernel_rfl
  z0 := fun _ => by kernel_rfl
  v0 := fun _ => by kernel_rfl
  t3 := by kernel_rfl
  a3 := fun _ => by kernel_rfl
  z3 := fun _ => by kernel_rfl
  v3 := fun _ => by kernel_rfl
  t4 := by kernel_rfl
  a4 := fun _ => by kernel_rfl
  z4 := fun _ => by kernel_rfl
  v4 := fun _ => by kernel_rfl
  t5 := by kernel_rfl
  a5 := fun _ => by kernel_rfl
  z5 := fun _ => by kernel_rfl
  v5 := fun _ => by kernel_rfl
  t9 := by kernel_rfl
  a9 := fun _ => by kernel_rfl
  z9 := fun _ => by kernel_rfl
  v9 := fun _ => by kernel_rfl
  t21 := by kernel_rfl
  a21 := fun _ => by kernel_rfl
  z21 := fun _ => by kernel_rfl
  v21 := fun _ => by kernel_rfl
  t31 := by kernel_rfl
  a31 := fun _ => by kernel_rfl
  z31 := fun _ => by kernel_rfl
  v31 := fun _ => by kernel_rfl
  t46 := by kernel_rfl
  a46 := fun _ => by kernel_rfl
  z46 := fun _ => by kernel_rfl
  v46 := fun _ => by kernel_rfl
  t51 := by kernel_rfl
  a51 := fun _ => by kernel_rfl
  z51 := fun _ => by kernel_rfl
  v51 := fun _ => by kernel_rfl
  t105 := by kernel_rfl
  a105 := fun _ => by kernel_rfl
  z105 := fun _ => by kernel_rfl
  v105 := fun _ => by kernel_rfl
  t119 := by kernel_rfl
  a119 := fun _ => by kernel_rfl
  z119 := fun _ => by kernel_rfl
  t138 := by kernel_rfl
  a138 := fun _ => by kernel_rfl
  z138 := fun _ => by kernel_rfl
  v138 := fun _ => by kernel_rfl
  t139 := by kernel_rfl
  a139 := fun _ => by kernel_rfl
  z139 := fun _ => by kernel_rfl
  v139 := fun _ => by kernel_rfl
  t146 := by kernel_rfl
  a146 := fun _ => by kernel_rfl
  z146 := fun _ => by kernel_rfl
  v146 := fun _ => by kernel_rfl
  g1 := by kernel_rfl
  g3 := by kernel_rfl
  g4 := by kernel_rfl
theorem i1041 : (Tryd.prog.info? (ren1041.t 9)).map (fun i => (i.zero, i.size, i.bytes)) = some (some (Value.string ByteArray.empty), 1, 16) := by kernel_rfl
def Sp.split (s sep : ByteArray) : List ByteArray := Lib.splitB sep 0 (Lib.countB s sep) s
theorem gls1041 : ∀ w : World, (∀ p ∈ Γ.gls, p.1 < w.heap.size ∧ p.2 w.heap[p.1]?) → ∃ m, w.cell? ⟨g1, 0, none⟩ = some (.int .i64 m) := fun w h => intAt0_cell (h (g1, intAt0) (List.mem_cons_self)).2
theorem split1041 (s sep : ByteArray) (h : s.size < 4294967281) (h1 : 1 ≤ sep.size) : Contract PP Γ n1041 [⟨false, [.c (.dat .str s)]⟩, ⟨false, [.c (.dat .str sep)]⟩] ⟨[⟨false, [.c (.row .str (Sp.split s sep) true)]⟩], []⟩ := by
  have hlen : (Sp.split s sep).length = Lib.countB s sep + 1 := Lib.splitB_all sep h1 0 _ s rfl
  have hle := Lib.countB_le sep h1 s.size s (Nat.le_refl _)
  refine contract_row_str (t := ren1041.t 9) (by kernel_rfl) (by rw [hlen]; unfold maxLen; omega) fun w hw => ?_
  obtain ⟨m, hm⟩ := gls1041 w hw
  rw [hlen]
  exact Any.strings_Split lays1041 i1041 s sep m w h hm h1
end Go.Proofs.GR.T

namespace Go.Proofs.GR.T
open Go Go.Proofs Go.Proofs.GR
abbrev tA : Ty := .pair (.int .i64) (.pair (.int .i64) (.pair .str (.pair .str (.pair (.int .i64) (.pair (.int .i64) .str)))))
abbrev tT : Ty := .rose tA
abbrev VA := Int × Int × ByteArray × ByteArray × V3
abbrev RT := Rose VA
namespace Sp
def nsum : List Nat → Nat
  | [] => 0
  | n :: r => n + nsum r
def rsz {α : Type} : Rose α → Nat := Rose.fold fun _ ns => 2 + nsum ns
def rszs {α : Type} (l : List (Rose α)) : Nat := 1 + nsum (l.map rsz)
def mkT (x : Int × Int × ByteArray × ByteArray × Int × Int × ByteArray × List RT) : RT := Rose.mk (x.1, x.2.1, x.2.2.1, x.2.2.2.1, (x.2.2.2.2.1, x.2.2.2.2.2.1, x.2.2.2.2.2.2.1)) x.2.2.2.2.2.2.2
def unT (r : RT) : Int × Int × ByteArray × ByteArray × Int × Int × ByteArray × List RT := (r.a.1, r.a.2.1, r.a.2.2.1, r.a.2.2.2.1, r.a.2.2.2.2.1, r.a.2.2.2.2.2.1, r.a.2.2.2.2.2.2, r.kids)
def rsz1 {α : Type} (l : List (Rose α)) : Nat := 1 + rszs l
end Sp
theorem mkT_un (r : RT) : Sp.mkT (Sp.unT r) = r := by cases r; rfl
theorem rsz_mk {α : Type} (a : α) (ks : List (Rose α)) : Sp.rsz (Rose.mk a ks) = 1 + Sp.rszs ks := by
  unfold Sp.rsz Sp.rszs
  rw [Rose.fold_mk]
  show 2 + _ = 1 + (1 + _)
  unfold Sp.rsz
  omega
theorem rsz_mem {α : Type} : ∀ {l : List (Rose α)} {r : Rose α}, r ∈ l → Sp.rsz r < Sp.rszs l
  | x :: l, r, h => by
    rcases List.mem_cons.1 h with rfl | h
    · show _ < 1 + (Sp.rsz _ + _); omega
    · have := rsz_mem h
      have e : Sp.rszs (x :: l) = 1 + (Sp.rsz x + Sp.nsum (l.map Sp.rsz)) := rfl
      have e2 : Sp.rszs l = 1 + Sp.nsum (l.map Sp.rsz) := rfl
      omega
theorem rsz1_eq {α : Type} (r : Rose α) : Sp.rsz1 r.kids = Sp.rsz r := by cases r with | mk a ks => exact (rsz_mk a ks).symm
theorem rsz1_mem {α : Type} {l : List (Rose α)} {r : Rose α} (h : r ∈ l) : Sp.rsz1 r.kids < Sp.rszs l := by rw [rsz1_eq]; exact rsz_mem h
theorem blt_mk {a b : Nat} (h : a < b) : Nat.blt a b = true := Nat.ble_eq_true_of_le h
theorem szW_map {α : Type} (f : α → Int → Int) : ∀ (xs : List α) (l : Int), Sp.szW (fun (g : Int → Int) l => g l) (xs.map f) l = Sp.szW f xs l
  | [], _ => rfl
  | x :: r, l => by rw [List.map_cons, Sp.szW, Sp.szW, szW_map f r]
theorem szE_map {α : Type} (f : α → Int → Int) (xs : List α) (l : Int) : Sp.szE (fun (g : Int → Int) l => g l) (xs.map f) l = Sp.szE f xs l := by
  unfold Sp.szE
  rw [List.length_map, szW_map]
theorem condI (c : Bool) (a b : Int) : some (rI (bif c then a else b)) = bif c then some (rI a) else some (rI b) := by cases c <;> rfl
theorem condB (c a b : Bool) : some (rBo (bif c then a else b)) = bif c then some (rBo a) else some (rBo b) := by cases c <;> rfl
theorem markP_loop {α : Type} {ρ : Type} {g : α → Int → α} {w : α → Nat} {R : Int → List α → ρ} (P : α → Prop) (L : Nat → Int → Int → List α → Option ρ)
    (hend : ∀ m (v : Int) (k : Nat) acc, acc.length ≤ k → L (m + 1) v k acc = some (R v acc))
    (hstep : ∀ m (v : Int) (k : Nat) acc (h : k < acc.length), acc.length ≤ 9223372036854775807 → P acc[k] → 0 ≤ v → v + (w acc[k] : Int) ≤ 4611686018427387904 → L (m + 1) v k acc = L m (v + (w acc[k] : Int)) ((k + 1 : Nat) : Int) (acc.set k (g acc[k] v))) :
    ∀ (d k m : Nat) (v : Int) (acc : List α), k + d = acc.length → d < m → acc.length ≤ 9223372036854775807 → (∀ x ∈ acc.drop k, P x) → 0 ≤ v → v + (Sp.wtW w (acc.drop k) : Int) ≤ 4611686018427387904 →
      L m v k acc = some (R (v + (Sp.wtW w (acc.drop k) : Int)) (acc.take k ++ Sp.markU g w (acc.drop k) v)) := by
  intro d
  induction d with
  | zero =>
    intro k m v acc hk hm hlen hP h0 h1
    obtain ⟨m, rfl⟩ := succ_of hm
    rw [hend m v k acc (by omega), List.drop_of_length_le (by omega), List.take_of_length_le (by omega)]
    simp [Sp.markU, Sp.wtW]
  | succ d ih =>
    intro k m v acc hk hm hlen hP h0 h1
    obtain ⟨m, rfl⟩ := succ_of hm
    have hlt : k < acc.length := by omega
    have e0 : acc.drop k = acc[k] :: acc.drop (k + 1) := List.drop_eq_getElem_cons hlt
    rw [e0] at h1 hP ⊢
    rw [Sp.wtW, Int.natCast_add] at h1 ⊢
    have e2 : (acc.set k (g acc[k] v)).drop (k + 1) = acc.drop (k + 1) := by rw [List.drop_set_of_lt (by omega)]
    rw [hstep m v k acc hlt hlen (hP _ (List.mem_cons_self)) h0 (by omega), ih (k + 1) m (v + (w acc[k] : Int)) _ (by rw [List.length_set]; omega) (by omega) (by rw [List.length_set]; exact hlen) (by rw [e2]; exact fun x hx => hP x (List.mem_cons_of_mem _ hx)) (by omega) (by rw [e2]; omega)]
    have e : (acc.set k (g acc[k] v)).take (k + 1) = acc.take k ++ [g acc[k] v] := by
      rw [List.take_set, List.take_succ_eq_append_getElem (by omega)]
      rw [List.set_append_right _ _ (by simp; omega)]
      simp [Nat.min_eq_left (show k ≤ acc.length by omega)]
    rw [e, e2, List.append_assoc]
    simp only [Sp.markU, List.singleton_append]
    rw [show v + (w acc[k] : Int) + (Sp.wtW w (acc.drop (k + 1)) : Int) = v + ((w acc[k] : Int) + (Sp.wtW w (acc.drop (k + 1)) : Int)) by omega]
theorem getD_eq {α : Type} {A l : List α} {k : Nat} {y d : α} (h : k < l.length) (e : A = l.set k y) : A.getD k d = y := by rw [e]; exact getD_set h
theorem yes2_mk' {a b : Bool} (ha : a = true) (hb : b = true) : yes2 a b = true := by rw [ha, hb]; rfl
end Go.Proofs.GR.T

set_option maxRecDepth 100000
set_option maxHeartbeats 100000000
namespace Go.Proofs.GR.T
open Go Go.Proofs Go.Proofs.GR
def Sp.szTf (a : VA) (g : Int → Int) (l : Int) : Int :=
  bif decide (IntKind.i64.wrap (l - (a.2.2.1.size : Int)) < 0) then -1 else bif decide (IntKind.i64.wrap (IntKind.i64.wrap (l - (a.2.2.1.size : Int)) - (a.2.2.2.1.size : Int)) < 0) then -1 else
  bif decide (Sp.szV a.2.2.2.2 (IntKind.i64.wrap (IntKind.i64.wrap (l - (a.2.2.1.size : Int)) - (a.2.2.2.1.size : Int))) < 0) then -1 else
  bif decide (g (Sp.szV a.2.2.2.2 (IntKind.i64.wrap (IntKind.i64.wrap (l - (a.2.2.1.size : Int)) - (a.2.2.2.1.size : Int)))) < 0) then -1 else g (Sp.szV a.2.2.2.2 (IntKind.i64.wrap (IntKind.i64.wrap (l - (a.2.2.1.size : Int)) - (a.2.2.2.1.size : Int))))
def Sp.szT : RT → Int → Int := Rose.fold fun a fs l => Sp.szTf a (fun l => Sp.szE (fun g l => g l) fs l) l
theorem szT_mk (a : VA) (ks : List RT) (l : Int) : Sp.szT (Rose.mk a ks) l = Sp.szTf a (Sp.szE Sp.szT ks) l := by
  unfold Sp.szT
  rw [Rose.fold_mk]
  exact congrArg (fun g => Sp.szTf a g l) (funext fun l => szE_map _ ks l)
noncomputable def e1002 : Ent := { f := n1002, ins := [Sh.agg [cI, cI, cS, cS, cI, cI, cS, cL tT], Sh.one cI], outs := [Sh.one cI], upd := [], pre := fun a => true, spec := fun a => Sp.szT (Sp.mkT a.1) a.2, wrt := fun _ => () }
noncomputable def e1011 : Ent := { f := n1011, ins := [Sh.one (cL tT), Sh.one cI], outs := [Sh.one cI], upd := [], pre := fun a => true, spec := fun a => Sp.szE Sp.szT a.1 a.2, wrt := fun _ => () }
noncomputable def e1002n (N : Nat) : Ent := e1002.below (fun a => Sp.rsz1 a.1.2.2.2.2.2.2.2) N
noncomputable def e1011n (N : Nat) : Ent := e1011.below (fun a => Sp.rszs a.1) N
theorem f1002_raw (N : Nat) (x0 x1 : Int) (x2 x3 : ByteArray) (x4 x5 : Int) (x6 : ByteArray) (x7 : List ZT) (x8 : Int) : abody Γ (orc [e1002n N, e1011n N, e87]) 0 4 [XV.mk true [ZC Zi x0, ZC Zi x1, ZC Ty.str x2, ZC Ty.str x3, ZC Zi x4, ZC Zi x5, ZC Ty.str x6, ZC ZA.rose.slice x7], ZX Zi x8] = bif decide (IntKind.i64.wrap (x8 - (↑x2.size : Int)) < (0 : Int)) then ZJ (-1 : Int) else bif decide (IntKind.i64.wrap (IntKind.i64.wrap (x8 - (↑x2.size : Int)) - (↑x3.size : Int)) < (0 : Int)) then ZJ (-1 : Int) else bif decide ((Sp.f87 x4 x5 x6 (IntKind.i64.wrap (IntKind.i64.wrap (x8 - (↑x2.size : Int)) - (↑x3.size : Int)))).1 < (0 : Int)) then ZJ (-1 : Int) else chk ((Sp.rszs x7).blt N) (bif decide (Sp.szE Sp.szT x7 (Sp.f87 x4 x5 x6 (IntKind.i64.wrap (IntKind.i64.wrap (x8 - (↑x2.size : Int)) - (↑x3.size : Int)))).1 < (0 : Int)) then ZJ (-1 : Int) else ZJ (Sp.szE Sp.szT x7 (Sp.f87 x4 x5 x6 (IntKind.i64.wrap (IntKind.i64.wrap (x8 - (↑x2.size : Int)) - (↑x3.size : Int)))).1)) := by kernel_rfl

noncomputable def f1011_L0 (n N m0 : Nat) (y0 : List ZT) (y1 y2 : Int) : Option Res := loopAt Γ (orc [e1002n N, e1011n N]) n (14 : Nat) (0 : Nat) [] [Pth.r, Pth.r, Pth.r, Pth.l, Pth.r, Pth.b] m0 (St.mk (ZS ZA.rose.slice y0 :: ZS Zi y1 :: ZN 3 (ZS Zi y2 :: ZN 21 [])) [])
theorem f1011_L0_step (n N m0 : Nat) (y0 : List ZT) (y1 y2 : Int) : f1011_L0 n N (m0 + 1) y0 y1 y2 = bif decide (y2 < (↑y0.length : Int)) then chk (decide ((0 : Int) ≤ y2) && decide (y2 < (↑y0.length : Int))) (chk ((Sp.rsz1 (y0.getD y2.toNat ZR).kids).blt N) (bif decide (Sp.szT (Sp.mkT ((y0.getD y2.toNat ZR).a.1, (y0.getD y2.toNat ZR).a.2.1, (y0.getD y2.toNat ZR).a.2.2.1, (y0.getD y2.toNat ZR).a.2.2.2.1, (y0.getD y2.toNat ZR).a.2.2.2.2.1, (y0.getD y2.toNat ZR).a.2.2.2.2.2.1, (y0.getD y2.toNat ZR).a.2.2.2.2.2.2, (y0.getD y2.toNat ZR).kids)) y1 < (0 : Int)) then ZJ (-1 : Int) else f1011_L0 n N m0 y0 (Sp.szT (Sp.mkT ((y0.getD y2.toNat ZR).a.1, (y0.getD y2.toNat ZR).a.2.1, (y0.getD y2.toNat ZR).a.2.2.1, (y0.getD y2.toNat ZR).a.2.2.2.1, (y0.getD y2.toNat ZR).a.2.2.2.2.1, (y0.getD y2.toNat ZR).a.2.2.2.2.2.1, (y0.getD y2.toNat ZR).a.2.2.2.2.2.2, (y0.getD y2.toNat ZR).kids)) y1) (IntKind.i64.wrap (y2 + (1 : Int))))) else ZJ y1 := by kernel_rfl
theorem f1011_raw (n N : Nat) (x0 : List ZT) (x1 : Int) : abody Γ (orc [e1002n N, e1011n N]) n 14 [ZX ZA.rose.slice x0, ZX Zi x1] = bif decide (IntKind.i64.wrap (x1 - (↑x0.length : Int)) < (0 : Int)) then ZJ (-1 : Int) else f1011_L0 n N n x0 (IntKind.i64.wrap (x1 - (↑x0.length : Int))) (0 : Int) := by kernel_rfl

theorem e1002_core (x0 x1 : Int) (x2 x3 : ByteArray) (x4 x5 : Int) (x6 : ByteArray) (x7 : List RT) (x8 : Int) : abody Γ (orc (belows (Sp.rsz1 x7) [⟨e1002, fun a => Sp.rsz1 a.1.2.2.2.2.2.2.2⟩, ⟨e1011, fun a => Sp.rszs a.1⟩] ++ [e87])) 0 n1002 (e1002.args ((x0, x1, x2, x3, x4, x5, x6, x7), x8)) = some (e1002.res ((x0, x1, x2, x3, x4, x5, x6, x7), x8)) := by
  refine (f1002_raw _ x0 x1 x2 x3 x4 x5 x6 x7 x8).trans ?_
  refine Eq.trans ?_ (congrArg (fun z => some (rI z)) (szT_mk (x0, x1, x2, x3, (x4, x5, x6)) x7 x8).symm)
  rw [blt_mk (show Sp.rszs x7 < Sp.rsz1 x7 by unfold Sp.rsz1; omega), chkT]
  unfold Sp.szTf
  rw [condI, condI, condI, condI]
  rfl
theorem e1011_core (xs : List RT) (v : Int) (hl : xs.length ≤ maxLen) : ∃ n, abody Γ (orc (belows (Sp.rszs xs) [⟨e1002, fun a => Sp.rsz1 a.1.2.2.2.2.2.2.2⟩, ⟨e1011, fun a => Sp.rszs a.1⟩] ++ [])) n n1011 (e1011.args (xs, v)) = some (e1011.res (xs, v)) := by
  have hl : xs.length ≤ 9223372036854775807 := hl
  refine ⟨xs.length + 1, (f1011_raw _ _ xs v).trans ?_⟩
  show _ = some (rI (Sp.szE Sp.szT xs v))
  unfold Sp.szE
  cases decide (IntKind.i64.wrap (v - (xs.length : Int)) < 0) with
  | true => rfl
  | false =>
    rw [cond_false, cond_false]
    refine sz_loop (f := Sp.szT) (R := rI) xs (fun m v k => f1011_L0 (xs.length + 1) (Sp.rszs xs) m xs v k) (fun m v k hk => ?_) (fun m v k h => ?_) xs.length 0 _ _ (Nat.zero_add _) (Nat.lt_succ_self _)
    · show f1011_L0 _ _ _ _ _ _ = _
      rw [f1011_L0_step, nat_ge hk, cond_false]
    · show f1011_L0 _ _ _ _ _ _ = _
      rw [f1011_L0_step, nat_lt h, cond_true, guard0, chkT, getD_nat xs k _ h, next64 h hl, blt_mk (rsz1_mem (List.getElem_mem h)), chkT]
      show (bif decide (Sp.szT (Sp.mkT (Sp.unT xs[k])) v < 0) then some (rI (-1)) else f1011_L0 _ _ _ _ (Sp.szT (Sp.mkT (Sp.unT xs[k])) v) _) = _
      rw [mkT_un]
theorem szT_oks : ∀ r ∈ ([⟨e1002, fun a => Sp.rsz1 a.1.2.2.2.2.2.2.2⟩, ⟨e1011, fun a => Sp.rszs a.1⟩] : List REnt), Valid PP Γ r.e :=
  valid_recs ok _ (rcons ⟨[e87], vcons e87_ok vnil, fun a _ _ => ⟨0, e1002_core a.1.1 a.1.2.1 a.1.2.2.1 a.1.2.2.2.1 a.1.2.2.2.2.1 a.1.2.2.2.2.2.1 a.1.2.2.2.2.2.2.1 a.1.2.2.2.2.2.2.2 a.2⟩⟩ (rcons ⟨[], vnil, fun a _ hl => e1011_core a.1 a.2 (hl _ (List.mem_cons_self) _ (List.mem_cons_self)).1⟩ rnil))
theorem e1002_ok : Valid PP Γ e1002 := szT_oks _ (List.mem_cons_self)
end Go.Proofs.GR.T

set_option maxRecDepth 100000
set_option maxHeartbeats 100000000
namespace Go.Proofs.GR.T
open Go Go.Proofs Go.Proofs.GR
abbrev aT : List C0 := [cI, cI, cS, cS, cI, cI, cS, cL tT]
abbrev oT : List C0 := [cI, cI, cS, cS, cI, cI, cS, C0.row tT]
mutual
def Sp.fitT : RT → Bool
  | .mk _ ks => Sp.fitTs ks
def Sp.fitTs : List RT → Bool
  | [] => true
  | r :: l => Nat.ble (r :: l).length 1000000000000 && (Sp.fitT r && Sp.fitTs l)
end
theorem fitTs_of : ∀ {l : List RT}, Sp.fitTs l = true → l.length ≤ 1000000000000 ∧ ∀ r ∈ l, Sp.fitTs r.kids = true
  | [], _ => ⟨Nat.zero_le _, fun r h => by cases h⟩
  | r :: l, h => by
    rw [Sp.fitTs, Bool.and_eq_true_iff, Bool.and_eq_true_iff] at h
    refine ⟨Nat.le_of_ble_eq_true h.1, fun s hs => ?_⟩
    rcases List.mem_cons.1 hs with rfl | hs
    · have h2 := h.2.1
      cases s with
      | mk a ks => rw [Sp.fitT] at h2; exact h2
    · exact (fitTs_of h.2.2).2 s hs
noncomputable def e1004 : Ent := { f := n1004, ins := [Sh.agg aT], outs := [Sh.agg oT], upd := [], pre := fun a => Sp.fitTs a.2.2.2.2.2.2.2, spec := fun a => a, wrt := fun _ => () }
noncomputable def e1015 : Ent := { f := n1015, ins := [Sh.one (cL tT)], outs := [Sh.one (C0.row tT)], upd := [], pre := fun a => Sp.fitTs a, spec := fun a => a, wrt := fun _ => () }
noncomputable def e1004n (N : Nat) : Ent := e1004.below (fun a => Sp.rsz1 a.2.2.2.2.2.2.2) N
noncomputable def e1015n (N : Nat) : Ent := e1015.below (fun a => Sp.rszs a) N
theorem f1004_raw (N : Nat) (x0 x1 : Int) (x2 x3 : ByteArray) (x4 x5 : Int) (x6 : ByteArray) (x7 : List ZT) : abody Γ (orc [e1004n N, e1015n N, e89]) 0 6 [XV.mk true [ZC Zi x0, ZC Zi x1, ZC Ty.str x2, ZC Ty.str x3, ZC Zi x4, ZC Zi x5, ZC Ty.str x6, ZC ZA.rose.slice x7]] = chk (Sp.fitTs x7 && (Sp.rszs x7).blt N) (some (Res.mk [XV.mk true [ZC Zi x0, ZC Zi x1, ZC Ty.str x2, ZC Ty.str x3, ZC Zi (Sp.f89 x4 x5 x6).1.1, ZC Zi (Sp.f89 x4 x5 x6).1.2.1, ZC Ty.str (Sp.f89 x4 x5 x6).1.2.2, X.c (X0.row ZA.rose x7 true)]] [])) := by kernel_rfl

noncomputable def f1015_L0 (n N m0 : Nat) (y0 : List ZT) (y1 : Int) (y2 : List ZT) : Option Res := loopAt Γ (orc [e1004n N, e1015n N]) n (18 : Nat) (0 : Nat) [] [Pth.r, Pth.r, Pth.l, Pth.r, Pth.b] m0 (St.mk (ZS ZA.rose.slice y0 :: Zn :: Zn :: Slot.val (Val.one (Cell.own (0 : Nat))) :: ZS Zi y1 :: ZN 18 []) [AObj.row ZA.rose y2 true])
theorem f1015_L0_step (n N m0 : Nat) (y0 : List ZT) (y1 : Int) (y2 : List ZT) : f1015_L0 n N (m0 + 1) y0 y1 y2 = bif decide (y1 < (↑y0.length : Int)) then chk (decide ((0 : Int) ≤ y1) && decide (y1 < (↑y0.length : Int))) (chk (Sp.fitTs (y0.getD y1.toNat ZR).kids && (Sp.rsz1 (y0.getD y1.toNat ZR).kids).blt N) (chk (decide ((0 : Int) ≤ y1) && decide (y1 < (↑y2.length : Int))) (f1015_L0 n N m0 y0 (IntKind.i64.wrap (y1 + (1 : Int))) (y2.set y1.toNat (Rose.mk ((y0.getD y1.toNat ZR).a.1, (y0.getD y1.toNat ZR).a.2.1, (y0.getD y1.toNat ZR).a.2.2.1, (y0.getD y1.toNat ZR).a.2.2.2.1, (y0.getD y1.toNat ZR).a.2.2.2.2.1, (y0.getD y1.toNat ZR).a.2.2.2.2.2.1, (y0.getD y1.toNat ZR).a.2.2.2.2.2.2) (y0.getD y1.toNat ZR).kids))))) else some (Res.mk [XV.mk false [X.c (X0.row ZA.rose y2 true)]] []) := by kernel_rfl
theorem f1015_raw (n N : Nat) (x0 : List ZT) : abody Γ (orc [e1004n N, e1015n N]) n 18 [ZX ZA.rose.slice x0] = chk (decide ((0 : Int) ≤ (↑x0.length : Int)) && decide ((↑x0.length : Int) ≤ (↑x0.length : Int)) && decide ((↑x0.length : Int) ≤ (140737488355328 : Int)) && decide ((104 : Int) * (↑x0.length : Int) ≤ (140737488355328 : Int))) (f1015_L0 n N n x0 (0 : Int) (List.replicate (↑x0.length : Int).toNat (Rose.mk ((0 : Int), (0 : Int), ByteArray.empty, ByteArray.empty, (0 : Int), (0 : Int), ByteArray.empty) []))) := by kernel_rfl

noncomputable abbrev recTo : List REnt := [⟨e1004, fun a => Sp.rsz1 a.2.2.2.2.2.2.2⟩, ⟨e1015, fun a => Sp.rszs a⟩]
theorem make104 {n : Nat} (h : n ≤ 1000000000000) : (decide ((0 : Int) ≤ (n : Int)) && decide ((n : Int) ≤ (n : Int)) && decide ((n : Int) ≤ (140737488355328 : Int)) && decide ((104 : Int) * (n : Int) ≤ (140737488355328 : Int))) = true := by
  rw [decide_eq_true (show (0 : Int) ≤ n by omega), decide_eq_true (Int.le_refl (n : Int)), decide_eq_true (show (n : Int) ≤ 140737488355328 by omega), decide_eq_true (show 104 * (n : Int) ≤ 140737488355328 by omega)]
  rfl
theorem e1004_core (x0 x1 : Int) (x2 x3 : ByteArray) (x4 x5 : Int) (x6 : ByteArray) (x7 : List RT) (h : Sp.fitTs x7 = true) : abody Γ (orc (belows (Sp.rsz1 x7) recTo ++ [e89])) 0 n1004 (e1004.args (x0, x1, x2, x3, x4, x5, x6, x7)) = some (e1004.res (x0, x1, x2, x3, x4, x5, x6, x7)) := by
  refine (f1004_raw _ x0 x1 x2 x3 x4 x5 x6 x7).trans ?_
  rw [h, Bool.true_and, blt_mk (show Sp.rszs x7 < Sp.rsz1 x7 by unfold Sp.rsz1; omega), chkT]
  rfl
theorem e1015_core (xs : List RT) (h : Sp.fitTs xs = true) : ∃ n, abody Γ (orc (belows (Sp.rszs xs) recTo ++ [])) n n1015 (e1015.args xs) = some (e1015.res xs) := by
  obtain ⟨h1, h2⟩ := fitTs_of h
  refine ⟨xs.length + 1, (f1015_raw _ _ xs).trans ?_⟩
  rw [make104 h1, chkT]
  refine to_end (R := fun l : List RT => Res.mk [XV.mk false [X.c (X0.row tT l true)]] []) xs (fun m k acc => f1015_L0 (xs.length + 1) (Sp.rszs xs) m xs k acc) (fun m k acc hk => ?_) (fun m k acc h ha => ?_) _
  · show f1015_L0 _ _ _ _ _ _ = _
    rw [f1015_L0_step, nat_ge hk, cond_false]
  · show f1015_L0 _ _ _ _ _ _ = _
    rw [f1015_L0_step, ha, nat_lt h, cond_true, guard0, chkT, getD_nat xs k _ h, next64 h (by omega), h2 _ (List.getElem_mem h), Bool.true_and, blt_mk (rsz1_mem (List.getElem_mem h)), chkT, chkT, Int.toNat_natCast]
    show f1015_L0 _ _ _ _ _ (acc.set k (Sp.mkT (Sp.unT xs[k]))) = _
    rw [mkT_un]
theorem recTo_ok : ∀ r ∈ recTo, Valid PP Γ r.e :=
  valid_recs ok _ (rcons ⟨[e89], vcons e89_ok vnil, fun a ha _ => ⟨0, e1004_core a.1 a.2.1 a.2.2.1 a.2.2.2.1 a.2.2.2.2.1 a.2.2.2.2.2.1 a.2.2.2.2.2.2.1 a.2.2.2.2.2.2.2 ha⟩⟩ (rcons ⟨[], vnil, fun a ha _ => e1015_core a ha⟩ rnil))
theorem e1004_ok : Valid PP Γ e1004 := recTo_ok _ (List.mem_cons_self)
def Sp.eqVt (x y : V3) : Bool := (Sp.f86 x.1 x.2.1 x.2.2 y.1 y.2.1 y.2.2).1
def Sp.eqA (a b : VA) : Bool :=
  bif a.1 != b.1 then false else bif a.2.1 != b.2.1 then false else bif !(a.2.2.1.toList == b.2.2.1.toList) then false else bif !(a.2.2.2.1.toList == b.2.2.2.1.toList) then false else bif !Sp.eqVt a.2.2.2.2 b.2.2.2.2 then false else true
mutual
def Sp.eqT : RT → RT → Bool
  | .mk a ks, .mk b js => bif !Sp.eqA a b then false else Sp.eqTs ks js
def Sp.eqTs : List RT → List RT → Bool
  | [], [] => true
  | r :: l, s :: m => bif !Sp.eqT r s then false else Sp.eqTs l m
  | _, _ => false
end
theorem eqTs_eq : ∀ (l m : List RT), Sp.eqW Sp.eqT l m = Sp.eqTs l m
  | [], [] => by rw [Sp.eqTs]; rfl
  | r :: l, s :: m => by rw [Sp.eqTs, Sp.eqW, eqTs_eq l m]
  | [], s :: m => by rw [Sp.eqTs]; rfl; all_goals simp
  | r :: l, [] => by rw [Sp.eqTs]; rfl; all_goals simp
noncomputable def e1006 : Ent := { f := n1006, ins := [Sh.one (cL tT), Sh.one (cL tT)], outs := [Sh.one cB], upd := [], pre := fun a => true, spec := fun a => Sp.eqTs a.1 a.2, wrt := fun _ => () }
noncomputable def e1007 : Ent := { f := n1007, ins := [Sh.agg aT, Sh.agg aT], outs := [Sh.one cB], upd := [], pre := fun a => true, spec := fun a => Sp.eqT (Sp.mkT a.1) (Sp.mkT a.2), wrt := fun _ => () }
noncomputable def e1006n (N : Nat) : Ent := e1006.below (fun a => Sp.rszs a.1) N
noncomputable def e1007n (N : Nat) : Ent := e1007.below (fun a => Sp.rsz1 a.1.2.2.2.2.2.2.2) N
noncomputable def f1006_L0 (n N m0 : Nat) (y0 y1 : List ZT) (y2 : Int) : Option Res := loopAt Γ (orc [e1006n N, e1007n N]) n (22 : Nat) (0 : Nat) [] [Pth.r, Pth.r, Pth.l, Pth.r, Pth.b] m0 (St.mk (ZS ZA.rose.slice y0 :: ZS ZA.rose.slice y1 :: ZN 3 (ZS Zi y2 :: ZN 21 [])) [])
theorem f1006_L0_step (n N m0 : Nat) (y0 y1 : List ZT) (y2 : Int) : f1006_L0 n N (m0 + 1) y0 y1 y2 = bif decide (y2 < (↑y0.length : Int)) then chk (decide ((0 : Int) ≤ y2) && decide (y2 < (↑y0.length : Int))) (chk (decide ((0 : Int) ≤ y2) && decide (y2 < (↑y1.length : Int))) (chk ((Sp.rsz1 (y0.getD y2.toNat ZR).kids).blt N) (bif !Sp.eqT (Sp.mkT ((y0.getD y2.toNat ZR).a.1, (y0.getD y2.toNat ZR).a.2.1, (y0.getD y2.toNat ZR).a.2.2.1, (y0.getD y2.toNat ZR).a.2.2.2.1, (y0.getD y2.toNat ZR).a.2.2.2.2.1, (y0.getD y2.toNat ZR).a.2.2.2.2.2.1, (y0.getD y2.toNat ZR).a.2.2.2.2.2.2, (y0.getD y2.toNat ZR).kids)) (Sp.mkT ((y1.getD y2.toNat ZR).a.1, (y1.getD y2.toNat ZR).a.2.1, (y1.getD y2.toNat ZR).a.2.2.1, (y1.getD y2.toNat ZR).a.2.2.2.1, (y1.getD y2.toNat ZR).a.2.2.2.2.1, (y1.getD y2.toNat ZR).a.2.2.2.2.2.1, (y1.getD y2.toNat ZR).a.2.2.2.2.2.2, (y1.getD y2.toNat ZR).kids)) then Zf else f1006_L0 n N m0 y0 y1 (IntKind.i64.wrap (y2 + (1 : Int)))))) else Zt := by kernel_rfl
theorem f1006_raw (n N : Nat) (x0 x1 : List ZT) : abody Γ (orc [e1006n N, e1007n N]) n 22 [ZX ZA.rose.slice x0, ZX ZA.rose.slice x1] = bif (↑x0.length : Int) != (↑x1.length : Int) then Zf else f1006_L0 n N n x0 x1 (0 : Int) := by kernel_rfl

theorem f1007_raw (N : Nat) (x0 x1 : Int) (x2 x3 : ByteArray) (x4 x5 : Int) (x6 : ByteArray) (x7 : List ZT) (x8 x9 : Int) (x10 x11 : ByteArray) (x12 x13 : Int) (x14 : ByteArray) (x15 : List ZT) : abody Γ (orc [e1006n N, e1007n N, e86]) 0 9 [XV.mk true [ZC Zi x0, ZC Zi x1, ZC Ty.str x2, ZC Ty.str x3, ZC Zi x4, ZC Zi x5, ZC Ty.str x6, ZC ZA.rose.slice x7], XV.mk true [ZC Zi x8, ZC Zi x9, ZC Ty.str x10, ZC Ty.str x11, ZC Zi x12, ZC Zi x13, ZC Ty.str x14, ZC ZA.rose.slice x15]] = bif x0 != x8 then Zf else bif x1 != x9 then Zf else bif !x2.toList == x10.toList then Zf else bif !x3.toList == x11.toList then Zf else bif !(Sp.f86 x4 x5 x6 x12 x13 x14).1 then Zf else chk ((Sp.rszs x7).blt N) (bif !Sp.eqTs x7 x15 then Zf else Zt) := by kernel_rfl

noncomputable abbrev recEq : List REnt := [⟨e1006, fun a => Sp.rszs a.1⟩, ⟨e1007, fun a => Sp.rsz1 a.1.2.2.2.2.2.2.2⟩]
theorem e1006_core (xs ys : List RT) (hl : xs.length ≤ maxLen) : ∃ n, abody Γ (orc (belows (Sp.rszs xs) recEq ++ [])) n n1006 (e1006.args (xs, ys)) = some (e1006.res (xs, ys)) := by
  have hl : xs.length ≤ 9223372036854775807 := hl
  refine ⟨xs.length + 1, (f1006_raw _ _ xs ys).trans ?_⟩
  show _ = some (rBo (Sp.eqTs xs ys))
  rw [← eqTs_eq]
  by_cases he : xs.length = ys.length
  · rw [show ((xs.length : Int) != (ys.length : Int)) = false by simp [he], cond_false]
    refine eq_loop xs ys (fun m k => f1006_L0 _ (Sp.rszs xs) m xs ys k) he (fun m k hk => ?_) (fun m k h h2 => ?_) xs.length 0 _ (Nat.zero_add _) (Nat.lt_succ_self _)
    · show f1006_L0 _ _ _ _ _ _ = _
      rw [f1006_L0_step, nat_ge hk, cond_false]
    · show f1006_L0 _ _ _ _ _ _ = _
      rw [f1006_L0_step, nat_lt h, cond_true, guard0, chkT, guard2 h2, chkT, getD_nat xs k _ h, getD_nat ys k _ h2, next64 h2 (by omega), blt_mk (rsz1_mem (List.getElem_mem h)), chkT]
      show (bif !Sp.eqT (Sp.mkT (Sp.unT xs[k])) (Sp.mkT (Sp.unT ys[k])) then _ else _) = _
      rw [mkT_un, mkT_un]
  · rw [show ((xs.length : Int) != (ys.length : Int)) = true by simp; omega, eqW_len he]
    rfl
theorem e1007_core (x0 x1 : Int) (x2 x3 : ByteArray) (x4 x5 : Int) (x6 : ByteArray) (x7 : List RT) (y0 y1 : Int) (y2 y3 : ByteArray) (y4 y5 : Int) (y6 : ByteArray) (y7 : List RT) : abody Γ (orc (belows (Sp.rsz1 x7) recEq ++ [e86])) 0 n1007 (e1007.args ((x0, x1, x2, x3, x4, x5, x6, x7), (y0, y1, y2, y3, y4, y5, y6, y7))) = some (e1007.res ((x0, x1, x2, x3, x4, x5, x6, x7), (y0, y1, y2, y3, y4, y5, y6, y7))) := by
  refine (f1007_raw _ x0 x1 x2 x3 x4 x5 x6 x7 y0 y1 y2 y3 y4 y5 y6 y7).trans ?_
  have e : Sp.eqT (Rose.mk (x0, x1, x2, x3, (x4, x5, x6)) x7) (Rose.mk (y0, y1, y2, y3, (y4, y5, y6)) y7) = bif !Sp.eqA (x0, x1, x2, x3, (x4, x5, x6)) (y0, y1, y2, y3, (y4, y5, y6)) then false else Sp.eqTs x7 y7 := by rw [Sp.eqT]
  refine Eq.trans ?_ (congrArg (fun z => some (rBo z)) e.symm)
  rw [blt_mk (show Sp.rszs x7 < Sp.rsz1 x7 by unfold Sp.rsz1; omega), chkT, condB]
  unfold Sp.eqA
  show (bif x0 != y0 then _ else bif x1 != y1 then _ else bif !(x2.toList == y2.toList) then _ else bif !(x3.toList == y3.toList) then _ else bif !Sp.eqVt (x4, x5, x6) (y4, y5, y6) then _ else _) = _
  cases h0 : x0 != y0 <;> cases h1 : x1 != y1 <;> cases h2 : x2.toList == y2.toList <;> cases h3 : x3.toList == y3.toList <;> cases h4 : Sp.eqVt (x4, x5, x6) (y4, y5, y6) <;> simp only [h0, h1, h2, h3, h4, cond_true, cond_false, Bool.not_true, Bool.not_false] <;> cases Sp.eqTs x7 y7 <;> rfl
theorem recEq_ok : ∀ r ∈ recEq, Valid PP Γ r.e :=
  valid_recs ok _ (rcons ⟨[], vnil, fun a _ hl => e1006_core a.1 a.2 (hl _ (List.mem_cons_self) _ (List.mem_cons_self)).1⟩ (rcons ⟨[e86], vcons e86_ok vnil, fun a _ _ => ⟨0, e1007_core a.1.1 a.1.2.1 a.1.2.2.1 a.1.2.2.2.1 a.1.2.2.2.2.1 a.1.2.2.2.2.2.1 a.1.2.2.2.2.2.2.1 a.1.2.2.2.2.2.2.2 a.2.1 a.2.2.1 a.2.2.2.1 a.2.2.2.2.1 a.2.2.2.2.2.1 a.2.2.2.2.2.2.1 a.2.2.2.2.2.2.2.1 a.2.2.2.2.2.2.2.2⟩⟩ rnil))
theorem e1007_ok : Valid PP Γ e1007 := recEq_ok _ (List.mem_cons_of_mem _ (List.mem_cons_self))
end Go.Proofs.GR.T

set_option maxRecDepth 100000
set_option maxHeartbeats 100000000
namespace Go.Proofs.GR.T
open Go Go.Proofs Go.Proofs.GR
mutual
def Sp.wT : RT → Nat
  | .mk _ ks => 7 + Sp.wTs ks
def Sp.wTs : List RT → Nat
  | [] => 0
  | r :: l => Sp.wT r + Sp.wTs l
end
def Sp.markA (k : Int) : VA := (k, k + 1, Sp.mText (k + 2), Sp.mText (k + 3), (k + 4, k + 5, Sp.mText (k + 6)))
mutual
def Sp.markT : RT → Int → RT
  | .mk _ ks, k => .mk (Sp.markA k) (Sp.markTs ks (k + 7))
def Sp.markTs : List RT → Int → List RT
  | [], _ => []
  | r :: l, k => Sp.markT r k :: Sp.markTs l (k + (Sp.wT r : Int))
end
theorem wTs_eq : ∀ l : List RT, Sp.wTs l = Sp.wtW Sp.wT l
  | [] => by rw [Sp.wTs]; rfl
  | r :: l => by rw [Sp.wTs, Sp.wtW, wTs_eq l]
theorem markTs_eq : ∀ (l : List RT) (k : Int), Sp.markTs l k = Sp.markU Sp.markT Sp.wT l k
  | [], k => by rw [Sp.markTs]; rfl
  | r :: l, k => by rw [Sp.markTs, Sp.markU, markTs_eq l]
def Sp.smallTs (xs : List RT) (k : Int) : Bool := Sp.smallU Sp.wT xs k
def Sp.addTs (xs : List RT) (k : Int) : Int := k + (Sp.wTs xs : Int)
noncomputable def e1009 : Ent := { f := n1009, ins := [Sh.one (C0.row tT), Sh.one cI], outs := [Sh.one cI], upd := [Sh.one (C0.row tT)], pre := fun a => Sp.smallTs a.1 a.2, spec := fun a => Sp.addTs a.1 a.2, wrt := fun a => Sp.markTs a.1 a.2 }
noncomputable def e1009n (N : Nat) : Ent := e1009.below (fun a => Sp.rszs a.1) N
noncomputable def f1009_L0 (n N m0 : Nat) (y0 y1 : Int) (y2 : List ZT) : Option Res := loopAt Γ (orc [e1009n N, e75]) n (23 : Nat) (1 : Nat) [(0 : Nat)] [Pth.r, Pth.l, Pth.r, Pth.b] m0 (St.mk (Slot.val (Val.one (Cell.own (0 : Nat))) :: ZS Zi y0 :: ZN 3 (ZS Zi y1 :: ZN 69 [])) [AObj.row ZA.rose y2 true])
theorem f1009_L0_step (n N m0 : Nat) (y0 y1 : Int) (y2 : List ZT) : f1009_L0 n N (m0 + 1) y0 y1 y2 = bif decide (y1 < (↑y2.length : Int)) then chk (decide ((0 : Int) ≤ y1) && decide (y1 < (↑y2.length : Int))) (chk (decide ((0 : Int) ≤ y1) && decide (y1 < (↑(rowUpd ZA.rose y2 y1.toNat (0 : Nat) [Cell.dat Zi y0]).length : Int))) (chk (Sp.mOK (IntKind.i64.wrap (IntKind.i64.wrap (y0 + (1 : Int)) + (1 : Int)))) (chk (decide ((0 : Int) ≤ y1) && decide (y1 < (↑(rowUpd ZA.rose (rowUpd ZA.rose y2 y1.toNat (0 : Nat) [Cell.dat Zi y0]) y1.toNat (1 : Nat) [Cell.dat Zi (IntKind.i64.wrap (y0 + (1 : Int)))]).length : Int))) (chk (Sp.mOK (IntKind.i64.wrap (IntKind.i64.wrap (IntKind.i64.wrap (y0 + (1 : Int)) + (1 : Int)) + (1 : Int)))) (chk (decide ((0 : Int) ≤ y1) && decide (y1 < (↑(rowUpd ZA.rose (rowUpd ZA.rose (rowUpd ZA.rose y2 y1.toNat (0 : Nat) [Cell.dat Zi y0]) y1.toNat (1 : Nat) [Cell.dat Zi (IntKind.i64.wrap (y0 + (1 : Int)))]) y1.toNat (2 : Nat) [Cell.dat Ty.str (Sp.mText (IntKind.i64.wrap (IntKind.i64.wrap (y0 + (1 : Int)) + (1 : Int))))]).length : Int))) (chk (decide ((0 : Int) ≤ y1) && decide (y1 < (↑(rowUpd ZA.rose (rowUpd ZA.rose (rowUpd ZA.rose (rowUpd ZA.rose y2 y1.toNat (0 : Nat) [Cell.dat Zi y0]) y1.toNat (1 : Nat) [Cell.dat Zi (IntKind.i64.wrap (y0 + (1 : Int)))]) y1.toNat (2 : Nat) [Cell.dat Ty.str (Sp.mText (IntKind.i64.wrap (IntKind.i64.wrap (y0 + (1 : Int)) + (1 : Int))))]) y1.toNat (3 : Nat) [Cell.dat Ty.str (Sp.mText (IntKind.i64.wrap (IntKind.i64.wrap (IntKind.i64.wrap (y0 + (1 : Int)) + (1 : Int)) + (1 : Int))))]).length : Int))) (chk (decide ((0 : Int) ≤ y1) && decide (y1 < (↑(rowUpd ZA.rose (rowUpd ZA.rose (rowUpd ZA.rose (rowUpd ZA.rose (rowUpd ZA.rose y2 y1.toNat (0 : Nat) [Cell.dat Zi y0]) y1.toNat (1 : Nat) [Cell.dat Zi (IntKind.i64.wrap (y0 + (1 : Int)))]) y1.toNat (2 : Nat) [Cell.dat Ty.str (Sp.mText (IntKind.i64.wrap (IntKind.i64.wrap (y0 + (1 : Int)) + (1 : Int))))]) y1.toNat (3 : Nat) [Cell.dat Ty.str (Sp.mText (IntKind.i64.wrap (IntKind.i64.wrap (IntKind.i64.wrap (y0 + (1 : Int)) + (1 : Int)) + (1 : Int))))]) y1.toNat (4 : Nat) [Cell.dat Zi (IntKind.i64.wrap (IntKind.i64.wrap (IntKind.i64.wrap (IntKind.i64.wrap (y0 + (1 : Int)) + (1 : Int)) + (1 : Int)) + (1 : Int)))]).length : Int))) (chk (Sp.mOK (IntKind.i64.wrap (IntKind.i64.wrap (IntKind.i64.wrap (IntKind.i64.wrap (IntKind.i64.wrap (IntKind.i64.wrap (y0 + (1 : Int)) + (1 : Int)) + (1 : Int)) + (1 : Int)) + (1 : Int)) + (1 : Int)))) (chk (decide ((0 : Int) ≤ y1) && decide (y1 < (↑(rowUpd ZA.rose (rowUpd ZA.rose (rowUpd ZA.rose (rowUpd ZA.rose (rowUpd ZA.rose (rowUpd ZA.rose y2 y1.toNat (0 : Nat) [Cell.dat Zi y0]) y1.toNat (1 : Nat) [Cell.dat Zi (IntKind.i64.wrap (y0 + (1 : Int)))]) y1.toNat (2 : Nat) [Cell.dat Ty.str (Sp.mText (IntKind.i64.wrap (IntKind.i64.wrap (y0 + (1 : Int)) + (1 : Int))))]) y1.toNat (3 : Nat) [Cell.dat Ty.str (Sp.mText (IntKind.i64.wrap (IntKind.i64.wrap (IntKind.i64.wrap (y0 + (1 : Int)) + (1 : Int)) + (1 : Int))))]) y1.toNat (4 : Nat) [Cell.dat Zi (IntKind.i64.wrap (IntKind.i64.wrap (IntKind.i64.wrap (IntKind.i64.wrap (y0 + (1 : Int)) + (1 : Int)) + (1 : Int)) + (1 : Int)))]) y1.toNat (5 : Nat) [Cell.dat Zi (IntKind.i64.wrap (IntKind.i64.wrap (IntKind.i64.wrap (IntKind.i64.wrap (IntKind.i64.wrap (y0 + (1 : Int)) + (1 : Int)) + (1 : Int)) + (1 : Int)) + (1 : Int)))]).length : Int))) (chk (decide ((0 : Int) ≤ y1) && decide (y1 < (↑(rowUpd ZA.rose (rowUpd ZA.rose (rowUpd ZA.rose (rowUpd ZA.rose (rowUpd ZA.rose (rowUpd ZA.rose (rowUpd ZA.rose y2 y1.toNat (0 : Nat) [Cell.dat Zi y0]) y1.toNat (1 : Nat) [Cell.dat Zi (IntKind.i64.wrap (y0 + (1 : Int)))]) y1.toNat (2 : Nat) [Cell.dat Ty.str (Sp.mText (IntKind.i64.wrap (IntKind.i64.wrap (y0 + (1 : Int)) + (1 : Int))))]) y1.toNat (3 : Nat) [Cell.dat Ty.str (Sp.mText (IntKind.i64.wrap (IntKind.i64.wrap (IntKind.i64.wrap (y0 + (1 : Int)) + (1 : Int)) + (1 : Int))))]) y1.toNat (4 : Nat) [Cell.dat Zi (IntKind.i64.wrap (IntKind.i64.wrap (IntKind.i64.wrap (IntKind.i64.wrap (y0 + (1 : Int)) + (1 : Int)) + (1 : Int)) + (1 : Int)))]) y1.toNat (5 : Nat) [Cell.dat Zi (IntKind.i64.wrap (IntKind.i64.wrap (IntKind.i64.wrap (IntKind.i64.wrap (IntKind.i64.wrap (y0 + (1 : Int)) + (1 : Int)) + (1 : Int)) + (1 : Int)) + (1 : Int)))]) y1.toNat (6 : Nat) [Cell.dat Ty.str (Sp.mText (IntKind.i64.wrap (IntKind.i64.wrap (IntKind.i64.wrap (IntKind.i64.wrap (IntKind.i64.wrap (IntKind.i64.wrap (y0 + (1 : Int)) + (1 : Int)) + (1 : Int)) + (1 : Int)) + (1 : Int)) + (1 : Int))))]).length : Int))) (chk (Sp.smallTs ((rowUpd ZA.rose (rowUpd ZA.rose (rowUpd ZA.rose (rowUpd ZA.rose (rowUpd ZA.rose (rowUpd ZA.rose (rowUpd ZA.rose y2 y1.toNat (0 : Nat) [Cell.dat Zi y0]) y1.toNat (1 : Nat) [Cell.dat Zi (IntKind.i64.wrap (y0 + (1 : Int)))]) y1.toNat (2 : Nat) [Cell.dat Ty.str (Sp.mText (IntKind.i64.wrap (IntKind.i64.wrap (y0 + (1 : Int)) + (1 : Int))))]) y1.toNat (3 : Nat) [Cell.dat Ty.str (Sp.mText (IntKind.i64.wrap (IntKind.i64.wrap (IntKind.i64.wrap (y0 + (1 : Int)) + (1 : Int)) + (1 : Int))))]) y1.toNat (4 : Nat) [Cell.dat Zi (IntKind.i64.wrap (IntKind.i64.wrap (IntKind.i64.wrap (IntKind.i64.wrap (y0 + (1 : Int)) + (1 : Int)) + (1 : Int)) + (1 : Int)))]) y1.toNat (5 : Nat) [Cell.dat Zi (IntKind.i64.wrap (IntKind.i64.wrap (IntKind.i64.wrap (IntKind.i64.wrap (IntKind.i64.wrap (y0 + (1 : Int)) + (1 : Int)) + (1 : Int)) + (1 : Int)) + (1 : Int)))]) y1.toNat (6 : Nat) [Cell.dat Ty.str (Sp.mText (IntKind.i64.wrap (IntKind.i64.wrap (IntKind.i64.wrap (IntKind.i64.wrap (IntKind.i64.wrap (IntKind.i64.wrap (y0 + (1 : Int)) + (1 : Int)) + (1 : Int)) + (1 : Int)) + (1 : Int)) + (1 : Int))))]).getD y1.toNat ZR).kids (IntKind.i64.wrap (IntKind.i64.wrap (IntKind.i64.wrap (IntKind.i64.wrap (IntKind.i64.wrap (IntKind.i64.wrap (IntKind.i64.wrap (y0 + (1 : Int)) + (1 : Int)) + (1 : Int)) + (1 : Int)) + (1 : Int)) + (1 : Int)) + (1 : Int))) && (Sp.rszs ((rowUpd ZA.rose (rowUpd ZA.rose (rowUpd ZA.rose (rowUpd ZA.rose (rowUpd ZA.rose (rowUpd ZA.rose (rowUpd ZA.rose y2 y1.toNat (0 : Nat) [Cell.dat Zi y0]) y1.toNat (1 : Nat) [Cell.dat Zi (IntKind.i64.wrap (y0 + (1 : Int)))]) y1.toNat (2 : Nat) [Cell.dat Ty.str (Sp.mText (IntKind.i64.wrap (IntKind.i64.wrap (y0 + (1 : Int)) + (1 : Int))))]) y1.toNat (3 : Nat) [Cell.dat Ty.str (Sp.mText (IntKind.i64.wrap (IntKind.i64.wrap (IntKind.i64.wrap (y0 + (1 : Int)) + (1 : Int)) + (1 : Int))))]) y1.toNat (4 : Nat) [Cell.dat Zi (IntKind.i64.wrap (IntKind.i64.wrap (IntKind.i64.wrap (IntKind.i64.wrap (y0 + (1 : Int)) + (1 : Int)) + (1 : Int)) + (1 : Int)))]) y1.toNat (5 : Nat) [Cell.dat Zi (IntKind.i64.wrap (IntKind.i64.wrap (IntKind.i64.wrap (IntKind.i64.wrap (IntKind.i64.wrap (y0 + (1 : Int)) + (1 : Int)) + (1 : Int)) + (1 : Int)) + (1 : Int)))]) y1.toNat (6 : Nat) [Cell.dat Ty.str (Sp.mText (IntKind.i64.wrap (IntKind.i64.wrap (IntKind.i64.wrap (IntKind.i64.wrap (IntKind.i64.wrap (IntKind.i64.wrap (y0 + (1 : Int)) + (1 : Int)) + (1 : Int)) + (1 : Int)) + (1 : Int)) + (1 : Int))))]).getD y1.toNat ZR).kids).blt N) (f1009_L0 n N m0 (Sp.addTs ((rowUpd ZA.rose (rowUpd ZA.rose (rowUpd ZA.rose (rowUpd ZA.rose (rowUpd ZA.rose (rowUpd ZA.rose (rowUpd ZA.rose y2 y1.toNat (0 : Nat) [Cell.dat Zi y0]) y1.toNat (1 : Nat) [Cell.dat Zi (IntKind.i64.wrap (y0 + (1 : Int)))]) y1.toNat (2 : Nat) [Cell.dat Ty.str (Sp.mText (IntKind.i64.wrap (IntKind.i64.wrap (y0 + (1 : Int)) + (1 : Int))))]) y1.toNat (3 : Nat) [Cell.dat Ty.str (Sp.mText (IntKind.i64.wrap (IntKind.i64.wrap (IntKind.i64.wrap (y0 + (1 : Int)) + (1 : Int)) + (1 : Int))))]) y1.toNat (4 : Nat) [Cell.dat Zi (IntKind.i64.wrap (IntKind.i64.wrap (IntKind.i64.wrap (IntKind.i64.wrap (y0 + (1 : Int)) + (1 : Int)) + (1 : Int)) + (1 : Int)))]) y1.toNat (5 : Nat) [Cell.dat Zi (IntKind.i64.wrap (IntKind.i64.wrap (IntKind.i64.wrap (IntKind.i64.wrap (IntKind.i64.wrap (y0 + (1 : Int)) + (1 : Int)) + (1 : Int)) + (1 : Int)) + (1 : Int)))]) y1.toNat (6 : Nat) [Cell.dat Ty.str (Sp.mText (IntKind.i64.wrap (IntKind.i64.wrap (IntKind.i64.wrap (IntKind.i64.wrap (IntKind.i64.wrap (IntKind.i64.wrap (y0 + (1 : Int)) + (1 : Int)) + (1 : Int)) + (1 : Int)) + (1 : Int)) + (1 : Int))))]).getD y1.toNat ZR).kids (IntKind.i64.wrap (IntKind.i64.wrap (IntKind.i64.wrap (IntKind.i64.wrap (IntKind.i64.wrap (IntKind.i64.wrap (IntKind.i64.wrap (y0 + (1 : Int)) + (1 : Int)) + (1 : Int)) + (1 : Int)) + (1 : Int)) + (1 : Int)) + (1 : Int)))) (IntKind.i64.wrap (y1 + (1 : Int))) (rowUpd ZA.rose (rowUpd ZA.rose (rowUpd ZA.rose (rowUpd ZA.rose (rowUpd ZA.rose (rowUpd ZA.rose (rowUpd ZA.rose (rowUpd ZA.rose y2 y1.toNat (0 : Nat) [Cell.dat Zi y0]) y1.toNat (1 : Nat) [Cell.dat Zi (IntKind.i64.wrap (y0 + (1 : Int)))]) y1.toNat (2 : Nat) [Cell.dat Ty.str (Sp.mText (IntKind.i64.wrap (IntKind.i64.wrap (y0 + (1 : Int)) + (1 : Int))))]) y1.toNat (3 : Nat) [Cell.dat Ty.str (Sp.mText (IntKind.i64.wrap (IntKind.i64.wrap (IntKind.i64.wrap (y0 + (1 : Int)) + (1 : Int)) + (1 : Int))))]) y1.toNat (4 : Nat) [Cell.dat Zi (IntKind.i64.wrap (IntKind.i64.wrap (IntKind.i64.wrap (IntKind.i64.wrap (y0 + (1 : Int)) + (1 : Int)) + (1 : Int)) + (1 : Int)))]) y1.toNat (5 : Nat) [Cell.dat Zi (IntKind.i64.wrap (IntKind.i64.wrap (IntKind.i64.wrap (IntKind.i64.wrap (IntKind.i64.wrap (y0 + (1 : Int)) + (1 : Int)) + (1 : Int)) + (1 : Int)) + (1 : Int)))]) y1.toNat (6 : Nat) [Cell.dat Ty.str (Sp.mText (IntKind.i64.wrap (IntKind.i64.wrap (IntKind.i64.wrap (IntKind.i64.wrap (IntKind.i64.wrap (IntKind.i64.wrap (y0 + (1 : Int)) + (1 : Int)) + (1 : Int)) + (1 : Int)) + (1 : Int)) + (1 : Int))))]) y1.toNat (7 : Nat) [Cell.dat ZA.rose.slice (Sp.markTs ((rowUpd ZA.rose (rowUpd ZA.rose (rowUpd ZA.rose (rowUpd ZA.rose (rowUpd ZA.rose (rowUpd ZA.rose (rowUpd ZA.rose y2 y1.toNat (0 : Nat) [Cell.dat Zi y0]) y1.toNat (1 : Nat) [Cell.dat Zi (IntKind.i64.wrap (y0 + (1 : Int)))]) y1.toNat (2 : Nat) [Cell.dat Ty.str (Sp.mText (IntKind.i64.wrap (IntKind.i64.wrap (y0 + (1 : Int)) + (1 : Int))))]) y1.toNat (3 : Nat) [Cell.dat Ty.str (Sp.mText (IntKind.i64.wrap (IntKind.i64.wrap (IntKind.i64.wrap (y0 + (1 : Int)) + (1 : Int)) + (1 : Int))))]) y1.toNat (4 : Nat) [Cell.dat Zi (IntKind.i64.wrap (IntKind.i64.wrap (IntKind.i64.wrap (IntKind.i64.wrap (y0 + (1 : Int)) + (1 : Int)) + (1 : Int)) + (1 : Int)))]) y1.toNat (5 : Nat) [Cell.dat Zi (IntKind.i64.wrap (IntKind.i64.wrap (IntKind.i64.wrap (IntKind.i64.wrap (IntKind.i64.wrap (y0 + (1 : Int)) + (1 : Int)) + (1 : Int)) + (1 : Int)) + (1 : Int)))]) y1.toNat (6 : Nat) [Cell.dat Ty.str (Sp.mText (IntKind.i64.wrap (IntKind.i64.wrap (IntKind.i64.wrap (IntKind.i64.wrap (IntKind.i64.wrap (IntKind.i64.wrap (y0 + (1 : Int)) + (1 : Int)) + (1 : Int)) + (1 : Int)) + (1 : Int)) + (1 : Int))))]).getD y1.toNat ZR).kids (IntKind.i64.wrap (IntKind.i64.wrap (IntKind.i64.wrap (IntKind.i64.wrap (IntKind.i64.wrap (IntKind.i64.wrap (IntKind.i64.wrap (y0 + (1 : Int)) + (1 : Int)) + (1 : Int)) + (1 : Int)) + (1 : Int)) + (1 : Int)) + (1 : Int))))]))))))))))))) else some (Res.mk [ZX Zi y0] [X.c (X0.row ZA.rose y2 true)]) := by kernel_rfl
theorem f1009_raw (n N : Nat) (x0 : List ZT) (x1 : Int) : abody Γ (orc [e1009n N, e75]) n 23 [XV.mk false [X.c (X0.row ZA.rose x0 true)], ZX Zi x1] = f1009_L0 n N n x1 (0 : Int) x0 := by kernel_rfl

noncomputable abbrev recMk : List REnt := [⟨e1009, fun a => Sp.rszs a.1⟩]
theorem smallTs_at {x : RT} {v : Int} (h0 : 0 ≤ v) (h1 : v + (Sp.wT x : Int) ≤ 4611686018427387904) : Sp.smallTs x.kids (v + 7) = true ∧ Sp.addTs x.kids (v + 7) = v + (Sp.wT x : Int) ∧ v + 7 ≤ 4611686018427387904 := by
  cases x with
  | mk a ks =>
    rw [Sp.wT] at h1 ⊢
    rw [Int.natCast_add] at h1 ⊢
    have hc : (0 : Int) ≤ (Sp.wTs ks : Int) := Int.natCast_nonneg _
    have e7 : ((7 : Nat) : Int) = 7 := rfl
    rw [e7] at h1 ⊢
    refine ⟨smallU_mk (by omega) ?_, ?_, by omega⟩
    · show (v + 7).toNat + Sp.wtW Sp.wT ks ≤ _
      rw [← wTs_eq]
      omega
    · show v + 7 + (Sp.wTs ks : Int) = _
      omega
theorem e1009_core (xs : List RT) (v : Int) (ha : Sp.smallTs xs v = true) (hl : xs.length ≤ maxLen) : ∃ n, abody Γ (orc (belows (Sp.rszs xs) recMk ++ [e75])) n n1009 (e1009.args (xs, v)) = some (e1009.res (xs, v)) := by
  obtain ⟨h1, h2⟩ := smallU_of ha
  have hl : xs.length ≤ 9223372036854775807 := hl
  refine ⟨xs.length + 1, (f1009_raw _ _ xs v).trans ?_⟩
  show _ = some (rMk tT (v + (Sp.wTs xs : Int)) (Sp.markTs xs v))
  rw [wTs_eq, markTs_eq]
  refine markP_loop (g := Sp.markT) (w := Sp.wT) (R := rMk tT) (fun r => Sp.rszs r.kids < Sp.rszs xs) (fun m v k acc => f1009_L0 (xs.length + 1) (Sp.rszs xs) m v k acc) (fun m v k acc hk => ?_) (fun m w k acc h hlen hb h0 h1 => ?_) xs.length 0 _ v xs (Nat.zero_add _) (Nat.lt_succ_self _) hl (fun r hr => ?_) h1 h2
  · show f1009_L0 _ _ _ _ _ _ = _
    rw [f1009_L0_step, nat_ge hk, cond_false]
  · show f1009_L0 _ _ _ _ _ _ = _
    have h7 : w + 7 ≤ 4611686018427387904 := (smallTs_at h0 h1).2.2
    have s1 := (smallTs_at h0 h1).1
    have s2 := (smallTs_at h0 h1).2.1
    have e1 : IntKind.i64.wrap (w + 1) = w + 1 := wrap64 (by omega) (by omega)
    have e2 : IntKind.i64.wrap (w + 1 + 1) = w + 2 := (wrap64 (by omega) (by omega)).trans (by omega)
    have e3 : IntKind.i64.wrap (w + 2 + 1) = w + 3 := (wrap64 (by omega) (by omega)).trans (by omega)
    have e4 : IntKind.i64.wrap (w + 3 + 1) = w + 4 := (wrap64 (by omega) (by omega)).trans (by omega)
    have e5 : IntKind.i64.wrap (w + 4 + 1) = w + 5 := (wrap64 (by omega) (by omega)).trans (by omega)
    have e6 : IntKind.i64.wrap (w + 5 + 1) = w + 6 := (wrap64 (by omega) (by omega)).trans (by omega)
    have e7 : IntKind.i64.wrap (w + 6 + 1) = w + 7 := (wrap64 (by omega) (by omega)).trans (by omega)
    rw [f1009_L0_step, nat_lt h, cond_true, e1, e2, e3, e4, e5, e6, e7, Int.toNat_natCast]
    cases hx : acc[k] with
    | mk a ks =>
      obtain ⟨a0, a1, a2, a3, a4, a5, a6⟩ := a
      rw [hx] at hb s1 s2
      generalize g0 : rowUpd tT acc k 0 [Cell.dat (.int .i64) w] = A0
      generalize g1 : rowUpd tT A0 k 1 [Cell.dat (.int .i64) (w + 1)] = A1
      generalize g2 : rowUpd tT A1 k 2 [Cell.dat .str (Sp.mText (w + 2))] = A2
      generalize g3 : rowUpd tT A2 k 3 [Cell.dat .str (Sp.mText (w + 3))] = A3
      generalize g4 : rowUpd tT A3 k 4 [Cell.dat (.int .i64) (w + 4)] = A4
      generalize g5 : rowUpd tT A4 k 5 [Cell.dat (.int .i64) (w + 5)] = A5
      generalize g6 : rowUpd tT A5 k 6 [Cell.dat .str (Sp.mText (w + 6))] = A6
      have u0 : A0 = acc.set k (Rose.mk (w, a1, a2, a3, a4, a5, a6) ks) := g0.symm.trans (rowUpd_at h hx rfl)
      have u1 : A1 = acc.set k (Rose.mk (w, w + 1, a2, a3, a4, a5, a6) ks) := g1.symm.trans (upd_next h u0 rfl)
      have u2 : A2 = acc.set k (Rose.mk (w, w + 1, Sp.mText (w + 2), a3, a4, a5, a6) ks) := g2.symm.trans (upd_next h u1 rfl)
      have u3 : A3 = acc.set k (Rose.mk (w, w + 1, Sp.mText (w + 2), Sp.mText (w + 3), a4, a5, a6) ks) := g3.symm.trans (upd_next h u2 rfl)
      have u4 : A4 = acc.set k (Rose.mk (w, w + 1, Sp.mText (w + 2), Sp.mText (w + 3), w + 4, a5, a6) ks) := g4.symm.trans (upd_next h u3 rfl)
      have u5 : A5 = acc.set k (Rose.mk (w, w + 1, Sp.mText (w + 2), Sp.mText (w + 3), w + 4, w + 5, a6) ks) := g5.symm.trans (upd_next h u4 rfl)
      have u6 : A6 = acc.set k (Rose.mk (w, w + 1, Sp.mText (w + 2), Sp.mText (w + 3), w + 4, w + 5, Sp.mText (w + 6)) ks) := g6.symm.trans (upd_next h u5 rfl)
      have l0 : List.length A0 = List.length acc := (congrArg List.length u0).trans (List.length_set ..)
      have l1 : List.length A1 = List.length acc := (congrArg List.length u1).trans (List.length_set ..)
      have l2 : List.length A2 = List.length acc := (congrArg List.length u2).trans (List.length_set ..)
      have l3 : List.length A3 = List.length acc := (congrArg List.length u3).trans (List.length_set ..)
      have l4 : List.length A4 = List.length acc := (congrArg List.length u4).trans (List.length_set ..)
      have l5 : List.length A5 = List.length acc := (congrArg List.length u5).trans (List.length_set ..)
      have l6 : List.length A6 = List.length acc := (congrArg List.length u6).trans (List.length_set ..)
      have gd : List.getD A6 k ZR = Rose.mk (Sp.markA w) ks := getD_eq h u6
      have s1 : Sp.smallTs ks (w + 7) = true := s1
      have s2 : Sp.addTs ks (w + 7) = w + (Sp.wT (Rose.mk (a0, a1, a2, a3, a4, a5, a6) ks) : Int) := s2
      have hb : Sp.rszs ks < Sp.rszs xs := hb
      rw [l0, l1, l2, l3, l4, l5, l6, nat_lt h, guard0, gd]
      simp only [chkT]
      rw [mOK_of (show w + 2 ≤ _ by omega), mOK_of (show w + 3 ≤ _ by omega), mOK_of (show w + 6 ≤ _ by omega)]
      show chk true (chk true (chk true (chk (Sp.smallTs ks (w + 7) && (Sp.rszs ks).blt (Sp.rszs xs)) (f1009_L0 _ _ _ (Sp.addTs ks (w + 7)) _ (rowUpd tT A6 k 7 [Cell.dat (.slice tT) (Sp.markTs ks (w + 7))]))))) = _
      rw [show rowUpd tT A6 k 7 [Cell.dat (.slice tT) (Sp.markTs ks (w + 7))] = acc.set k (Rose.mk (Sp.markA w) (Sp.markTs ks (w + 7))) from upd_next h u6 rfl, s1, blt_mk hb, s2, next64 h hlen, Sp.markT]
      rfl
  · have := rsz1_mem (l := xs) hr
    unfold Sp.rsz1 at this
    omega
theorem recMk_ok : ∀ r ∈ recMk, Valid PP Γ r.e := valid_recs ok _ (rcons ⟨[e75], vcons e75_ok vnil, fun a ha hl => e1009_core a.1 a.2 ha (hl _ (List.mem_cons_self) _ (List.mem_cons_self)).1⟩ rnil)
theorem e1009_ok : Valid PP Γ e1009 := recMk_ok _ (List.mem_cons_self)
end Go.Proofs.GR.T

set_option maxRecDepth 100000
set_option maxHeartbeats 100000000
namespace Go.Proofs.GR.T
open Go Go.Proofs Go.Proofs.GR
def Sp.heldA (a : VA) (k : Int) : Bool :=
  bif a.1 != k then false else bif a.2.1 != k + 1 then false else bif !(a.2.2.1.toList == (Sp.mText (k + 2)).toList) then false else bif !(a.2.2.2.1.toList == (Sp.mText (k + 3)).toList) then false else
  bif a.2.2.2.2.1 != k + 4 then false else bif a.2.2.2.2.2.1 != k + 5 then false else bif !(a.2.2.2.2.2.2.toList == (Sp.mText (k + 6)).toList) then false else true
mutual
def Sp.heldT : RT → Int → Int
  | .mk a ks, k => bif Sp.heldA a k then Sp.heldTs ks (k + 7) else -1
def Sp.heldTs : List RT → Int → Int
  | [], k => k
  | r :: l, k => bif decide (Sp.heldT r k < 0) then -1 else Sp.heldTs l (Sp.heldT r k)
end
def Sp.f1008_pre (x0 x1 : Int) (x2 x3 : ByteArray) (x4 x5 : Int) (x6 : ByteArray) (x7 : List ZT) (x8 : Int) : Bool := (Sp.smallTs x7 x8)
def Sp.f1008 (x0 x1 : Int) (x2 x3 : ByteArray) (x4 x5 : Int) (x6 : ByteArray) (x7 : List ZT) (x8 : Int) := (Sp.addTs x7 x8, Sp.markTs x7 x8)
noncomputable def e1008 : Ent := { f := 10, ins := [Sh.agg [C0.dat Zi, C0.dat Zi, C0.dat Ty.str, C0.dat Ty.str, C0.dat Zi, C0.dat Zi, C0.dat Ty.str, C0.row ZA.rose], Sh.one ZI], outs := [Sh.one ZI], upd := [Sh.one (C0.row ZA.rose)], pre := fun a => Sp.f1008_pre a.1.1 a.1.2.1 a.1.2.2.1 a.1.2.2.2.1 a.1.2.2.2.2.1 a.1.2.2.2.2.2.1 a.1.2.2.2.2.2.2.1 a.1.2.2.2.2.2.2.2 a.2, spec := fun a => (Sp.f1008 a.1.1 a.1.2.1 a.1.2.2.1 a.1.2.2.2.1 a.1.2.2.2.2.1 a.1.2.2.2.2.2.1 a.1.2.2.2.2.2.2.1 a.1.2.2.2.2.2.2.2 a.2).1, wrt := fun a => (Sp.f1008 a.1.1 a.1.2.1 a.1.2.2.1 a.1.2.2.2.1 a.1.2.2.2.2.1 a.1.2.2.2.2.2.1 a.1.2.2.2.2.2.2.1 a.1.2.2.2.2.2.2.2 a.2).2 }
def f1008_g (v : denS [Sh.one ZI] × denS [Sh.one (C0.row ZA.rose)]) : Res := ⟨mkS [Sh.one ZI] v.1, mkU [Sh.one (C0.row ZA.rose)] v.2⟩
theorem f1008_form (x0 x1 : Int) (x2 x3 : ByteArray) (x4 x5 : Int) (x6 : ByteArray) (x7 : List ZT) (x8 : Int) : abody Γ (orc [e1009]) 0 10 [XV.mk true [ZC Zi x0, ZC Zi x1, ZC Ty.str x2, ZC Ty.str x3, ZC Zi x4, ZC Zi x5, ZC Ty.str x6, X.c (X0.row ZA.rose x7 true)], ZX Zi x8] = chk (Sp.f1008_pre x0 x1 x2 x3 x4 x5 x6 x7 x8) (some (f1008_g (Sp.f1008 x0 x1 x2 x3 x4 x5 x6 x7 x8))) := by
  refine Eq.trans (b := chk (Sp.smallTs x7 x8) (some (Res.mk [ZX Zi (Sp.addTs x7 x8)] [X.c (X0.row ZA.rose (Sp.markTs x7 x8) true)]))) (by kernel_rfl) ?_
  unfold Sp.f1008_pre Sp.f1008
  exact (chk_last (rfl))
theorem e1008_ok : Valid PP Γ e1008 := valid_auto ok (vcons e1009_ok vnil) fun a => f1008_form a.1.1 a.1.2.1 a.1.2.2.1 a.1.2.2.2.1 a.1.2.2.2.2.1 a.1.2.2.2.2.2.1 a.1.2.2.2.2.2.2.1 a.1.2.2.2.2.2.2.2 a.2

end Go.Proofs.GR.T

set_option maxRecDepth 100000
set_option maxHeartbeats 100000000
namespace Go.Proofs.GR.T
open Go Go.Proofs Go.Proofs.GR
noncomputable def e1041 : Ent := { f := n1041, ins := [Sh.one cS, Sh.one cS], outs := [Sh.one (C0.row .str)], upd := [], pre := fun a => Nat.blt (ByteArray.size a.1) 4294967281 && Nat.ble 1 (ByteArray.size a.2), spec := fun a => Sp.split a.1 a.2, wrt := fun _ => () }
theorem e1041_ok : Valid PP Γ e1041 := fun a ha => by
  obtain ⟨h1, h2⟩ := Bool.and_eq_true_iff.1 ha
  exact split1041 a.1 a.2 (Nat.le_of_ble_eq_true h1) (Nat.le_of_ble_eq_true h2)
def Sp.f217 (x0 : Int) := (bif decide (x0 ≥ (97 : Int)) then (bif decide (x0 ≤ (122 : Int)) then (true, ()) else (bif decide (x0 ≥ (65 : Int)) then (bif decide (x0 ≤ (90 : Int)) then (true, ()) else (x0 == (95 : Int), ())) else (x0 == (95 : Int), ()))) else (bif decide (x0 ≥ (65 : Int)) then (bif decide (x0 ≤ (90 : Int)) then (true, ()) else (x0 == (95 : Int), ())) else (x0 == (95 : Int), ())))
noncomputable def e217 : Ent := { f := 73, ins := [Sh.one (C0.dat (Ty.int IntKind.u8))], outs := [Sh.one (C0.dat Ty.bool)], upd := [], pre := fun a => true, spec := fun a => (Sp.f217 a).1, wrt := fun a => (Sp.f217 a).2 }
def f217_g (v : denS [Sh.one (C0.dat Ty.bool)] × denS []) : Res := ⟨mkS [Sh.one (C0.dat Ty.bool)] v.1, mkU [] v.2⟩
theorem f217_form (x0 : Int) : abody Γ (orc []) 0 73 [ZX (Ty.int IntKind.u8) x0] = some (f217_g (Sp.f217 x0)) := by
  refine Eq.trans (b := bif decide (x0 ≥ (97 : Int)) then bif decide (x0 ≤ (122 : Int)) then Zt else bif decide (x0 ≥ (65 : Int)) then bif decide (x0 ≤ (90 : Int)) then Zt else ZB (x0 == (95 : Int)) else ZB (x0 == (95 : Int)) else bif decide (x0 ≥ (65 : Int)) then bif decide (x0 ≤ (90 : Int)) then Zt else ZB (x0 == (95 : Int)) else ZB (x0 == (95 : Int))) (by kernel_rfl) ?_
  unfold Sp.f217
  exact (cond_plain f217_g ((cond_plain f217_g (rfl) ((cond_plain f217_g ((cond_plain f217_g (rfl) (rfl))) (rfl))))) ((cond_plain f217_g ((cond_plain f217_g (rfl) (rfl))) (rfl))))
theorem e217_ok : Valid PP Γ e217 := valid_auto ok vnil fun a => f217_form a

def Sp.f218 (x0 : Int) := (bif decide (x0 ≥ (48 : Int)) then (decide (x0 ≤ (57 : Int)), ()) else (false, ()))
noncomputable def e218 : Ent := { f := 74, ins := [Sh.one (C0.dat (Ty.int IntKind.u8))], outs := [Sh.one (C0.dat Ty.bool)], upd := [], pre := fun a => true, spec := fun a => (Sp.f218 a).1, wrt := fun a => (Sp.f218 a).2 }
def f218_g (v : denS [Sh.one (C0.dat Ty.bool)] × denS []) : Res := ⟨mkS [Sh.one (C0.dat Ty.bool)] v.1, mkU [] v.2⟩
theorem f218_form (x0 : Int) : abody Γ (orc []) 0 74 [ZX (Ty.int IntKind.u8) x0] = some (f218_g (Sp.f218 x0)) := by
  refine Eq.trans (b := bif decide (x0 ≥ (48 : Int)) then ZB (decide (x0 ≤ (57 : Int))) else Zf) (by kernel_rfl) ?_
  unfold Sp.f218
  exact (cond_plain f218_g (rfl) (rfl))
theorem e218_ok : Valid PP Γ e218 := valid_auto ok vnil fun a => f218_form a

def Sp.wordB (b : Int) : Bool := bif !(Sp.f217 b).1 then (Sp.f218 b).1 else true
def Sp.isName : List Int → Bool
  | [] => false
  | b :: r => bif decide (r.length + 1 > 40) then false else bif !(Sp.f217 b).1 then false else Sp.allW Sp.wordB r
noncomputable def f214_L0 (n m0 : Nat) (y0 : ByteArray) (y1 : Int) : Option Res := loopAt Γ (orc [e217, e218]) n (63 : Nat) (0 : Nat) [] [Pth.r, Pth.r, Pth.l, Pth.r, Pth.b] m0 (St.mk (ZS Ty.str y0 :: Zn :: Zn :: ZS Zi y1 :: ZN 32 []) [])
theorem f214_L0_step (n m0 : Nat) (y0 : ByteArray) (y1 : Int) : f214_L0 n (m0 + 1) y0 y1 = bif decide (y1 < (↑y0.size : Int)) then chk (decide ((0 : Int) ≤ y1) && decide (y1 < (↑y0.size : Int))) (bif !(Sp.f217 ((strBytes y0).getD y1.toNat (0 : Int))).1 then chk (decide ((0 : Int) ≤ y1) && decide (y1 < (↑y0.size : Int))) (bif !(Sp.f218 ((strBytes y0).getD y1.toNat (0 : Int))).1 then Zf else f214_L0 n m0 y0 (IntKind.i64.wrap (y1 + (1 : Int)))) else f214_L0 n m0 y0 (IntKind.i64.wrap (y1 + (1 : Int)))) else Zt := by kernel_rfl
theorem f214_raw (n : Nat) (x0 : ByteArray) : abody Γ (orc [e217, e218]) n 63 [ZX Ty.str x0] = bif decide ((↑x0.size : Int) < (1 : Int)) then Zf else bif decide ((↑x0.size : Int) > (40 : Int)) then Zf else chk (decide ((0 : Int) < (↑x0.size : Int))) (bif !(Sp.f217 ((strBytes x0).getD (0 : Nat) (0 : Int))).1 then Zf else f214_L0 n n x0 (1 : Int)) := by kernel_rfl

noncomputable def e214 : Ent := { f := n214, ins := [Sh.one cS], outs := [Sh.one cB], upd := [], pre := fun _ => true, spec := fun a => Sp.isName (strBytes a), wrt := fun _ => () }
theorem e214_core (t : ByteArray) : ∃ n, abody Γ (orc [e217, e218]) n n214 [ZX Ty.str t] = some (rBo (Sp.isName (strBytes t))) := by
  refine ⟨41, (f214_raw _ t).trans ?_⟩
  have hs := strBytes_len t
  cases hb : strBytes t with
  | nil =>
    rw [hb] at hs
    have hs : 0 = t.size := hs
    rw [decide_eq_true (show (t.size : Int) < 1 by omega)]
    rfl
  | cons b r =>
    rw [hb, List.length_cons] at hs
    rw [decide_eq_false (show ¬ (t.size : Int) < 1 by omega), cond_false, decide_eq_true (show (0 : Int) < t.size by omega), chkT]
    show _ = some (rBo (bif decide (r.length + 1 > 40) then false else bif !(Sp.f217 b).1 then false else Sp.allW Sp.wordB r))
    rw [condB, condB]
    by_cases hc : (t.size : Int) > 40
    · rw [decide_eq_true hc, decide_eq_true (show r.length + 1 > 40 by omega)]; rfl
    · rw [decide_eq_false hc, decide_eq_false (show ¬ r.length + 1 > 40 by omega), cond_false, cond_false, List.getD_cons_zero]
      cases (Sp.f217 b).1 with
      | false => rfl
      | true =>
        rw [Bool.not_true, cond_false, cond_false]
        have := all_loop (p := Sp.wordB) (R := rBo) (b :: r) (fun m k => f214_L0 41 m t k) (fun m k hk => by
          show f214_L0 _ _ _ _ = _
          rw [f214_L0_step, ← hs, nat_ge (by simpa using hk), cond_false]) (fun m k h => by
          show f214_L0 _ _ _ _ = _
          have h' : k < r.length + 1 := by simpa using h
          rw [f214_L0_step, ← hs, nat_lt h', cond_true, guard0, chkT, chkT, hb, getD_nat (b :: r) k _ h, next64 h' (by omega)]
          unfold Sp.wordB
          cases (Sp.f217 (b :: r)[k]).1 <;> cases (Sp.f218 (b :: r)[k]).1 <;> rfl) r.length 1 41 (by simp; omega) (by omega)
        exact this
theorem e214_ok : Valid PP Γ e214 := valid_of ok (vcons e217_ok (vcons e218_ok vnil)) fun a _ => e214_core a
def Sp.f208 (x0 : ByteArray) := (Sp.isName (strBytes x0), ())
noncomputable def e208 : Ent := { f := 44, ins := [Sh.one (C0.dat Ty.str)], outs := [Sh.one (C0.dat Ty.bool)], upd := [], pre := fun a => true, spec := fun a => (Sp.f208 a).1, wrt := fun a => (Sp.f208 a).2 }
def f208_g (v : denS [Sh.one (C0.dat Ty.bool)] × denS []) : Res := ⟨mkS [Sh.one (C0.dat Ty.bool)] v.1, mkU [] v.2⟩
theorem f208_form (x0 : ByteArray) : abody Γ (orc [e214]) 0 44 [ZX Ty.str x0] = some (f208_g (Sp.f208 x0)) := by
  refine Eq.trans (b := ZB (Sp.isName (strBytes x0))) (by kernel_rfl) ?_
  unfold Sp.f208
  exact rfl
theorem e208_ok : Valid PP Γ e208 := valid_auto ok (vcons e214_ok vnil) fun a => f208_form a

def Sp.f209 := ([ByteArray.mk #[115, 101, 108, 101, 99, 116], ByteArray.mk #[102, 114, 111, 109], ByteArray.mk #[106, 111, 105, 110], ByteArray.mk #[111, 110], ByteArray.mk #[119, 104, 101, 114, 101], ByteArray.mk #[103, 114, 111, 117, 112], ByteArray.mk #[98, 121], ByteArray.mk #[111, 114, 100, 101, 114], ByteArray.mk #[108, 105, 109, 105, 116], ByteArray.mk #[100, 101, 115, 99], ByteArray.mk #[105, 110, 115, 101, 114, 116], ByteArray.mk #[105, 110, 116, 111], ByteArray.mk #[118, 97, 108, 117, 101, 115], ByteArray.mk #[117, 112, 100, 97, 116, 101], ByteArray.mk #[115, 101, 116], ByteArray.mk #[100, 101, 108, 101, 116, 101], ByteArray.mk #[97, 110, 100], ByteArray.mk #[111, 114], ByteArray.mk #[110, 111, 116], ByteArray.mk #[105, 115], ByteArray.mk #[110, 117, 108, 108], ByteArray.mk #[116, 114, 117, 101], ByteArray.mk #[102, 97, 108, 115, 101], ByteArray.mk #[99, 111, 117, 110, 116], ByteArray.mk #[115, 117, 109], ByteArray.mk #[109, 105, 110], ByteArray.mk #[109, 97, 120], ByteArray.mk #[97, 115]], ())
noncomputable def e209 : Ent := { f := 45, ins := [], outs := [Sh.one (C0.row Ty.str)], upd := [], pre := fun a => true, spec := fun a => (Sp.f209).1, wrt := fun a => (Sp.f209).2 }
def f209_g (v : denS [Sh.one (C0.row Ty.str)] × denS []) : Res := ⟨mkS [Sh.one (C0.row Ty.str)] v.1, mkU [] v.2⟩
theorem f209_raw : abody Γ (orc []) 0 45 [] = some (Res.mk [XV.mk false [X.c (X0.row Ty.str [ByteArray.mk #[115, 101, 108, 101, 99, 116], ByteArray.mk #[102, 114, 111, 109], ByteArray.mk #[106, 111, 105, 110], ByteArray.mk #[111, 110], ByteArray.mk #[119, 104, 101, 114, 101], ByteArray.mk #[103, 114, 111, 117, 112], ByteArray.mk #[98, 121], ByteArray.mk #[111, 114, 100, 101, 114], ByteArray.mk #[108, 105, 109, 105, 116], ByteArray.mk #[100, 101, 115, 99], ByteArray.mk #[105, 110, 115, 101, 114, 116], ByteArray.mk #[105, 110, 116, 111], ByteArray.mk #[118, 97, 108, 117, 101, 115], ByteArray.mk #[117, 112, 100, 97, 116, 101], ByteArray.mk #[115, 101, 116], ByteArray.mk #[100, 101, 108, 101, 116, 101], ByteArray.mk #[97, 110, 100], ByteArray.mk #[111, 114], ByteArray.mk #[110, 111, 116], ByteArray.mk #[105, 115], ByteArray.mk #[110, 117, 108, 108], ByteArray.mk #[116, 114, 117, 101], ByteArray.mk #[102, 97, 108, 115, 101], ByteArray.mk #[99, 111, 117, 110, 116], ByteArray.mk #[115, 117, 109], ByteArray.mk #[109, 105, 110], ByteArray.mk #[109, 97, 120], ByteArray.mk #[97, 115]] true)]] []) := by kernel_rfl
theorem f209_form : (some (Res.mk [XV.mk false [X.c (X0.row Ty.str [ByteArray.mk #[115, 101, 108, 101, 99, 116], ByteArray.mk #[102, 114, 111, 109], ByteArray.mk #[106, 111, 105, 110], ByteArray.mk #[111, 110], ByteArray.mk #[119, 104, 101, 114, 101], ByteArray.mk #[103, 114, 111, 117, 112], ByteArray.mk #[98, 121], ByteArray.mk #[111, 114, 100, 101, 114], ByteArray.mk #[108, 105, 109, 105, 116], ByteArray.mk #[100, 101, 115, 99], ByteArray.mk #[105, 110, 115, 101, 114, 116], ByteArray.mk #[105, 110, 116, 111], ByteArray.mk #[118, 97, 108, 117, 101, 115], ByteArray.mk #[117, 112, 100, 97, 116, 101], ByteArray.mk #[115, 101, 116], ByteArray.mk #[100, 101, 108, 101, 116, 101], ByteArray.mk #[97, 110, 100], ByteArray.mk #[111, 114], ByteArray.mk #[110, 111, 116], ByteArray.mk #[105, 115], ByteArray.mk #[110, 117, 108, 108], ByteArray.mk #[116, 114, 117, 101], ByteArray.mk #[102, 97, 108, 115, 101], ByteArray.mk #[99, 111, 117, 110, 116], ByteArray.mk #[115, 117, 109], ByteArray.mk #[109, 105, 110], ByteArray.mk #[109, 97, 120], ByteArray.mk #[97, 115]] true)]] [])) = some (f209_g (Sp.f209)) := by
  unfold Sp.f209
  exact rfl
theorem e209_ok : Valid PP Γ e209 := valid_auto ok vnil fun a => (f209_raw ).trans (f209_form )

noncomputable def f194_L0 (n m0 : Nat) (y0 : ByteArray) (y1 : Int) : Option Res := loopAt Γ (orc [e208, e209]) n (27 : Nat) (0 : Nat) [] [Pth.r, Pth.r, Pth.l, Pth.r, Pth.b] m0 (St.mk (ZS Ty.str y0 :: Zn :: Zn :: ZS Zi y1 :: ZN 15 []) [])
theorem f194_L0_step (n m0 : Nat) (y0 : ByteArray) (y1 : Int) : f194_L0 n (m0 + 1) y0 y1 = bif decide (y1 < (28 : Int)) then chk (decide ((0 : Int) ≤ y1) && decide (y1 < (28 : Int))) (bif (Sp.f209.1.getD y1.toNat (ByteArray.mk #[])).toList == y0.toList then Zf else f194_L0 n m0 y0 (IntKind.i64.wrap (y1 + (1 : Int)))) else Zt := by kernel_rfl
theorem f194_raw (n : Nat) (x0 : ByteArray) : abody Γ (orc [e208, e209]) n 27 [ZX Ty.str x0] = bif !(Sp.f208 x0).1 then Zf else f194_L0 n n x0 (0 : Int) := by kernel_rfl

def Sp.isFreeS (t : ByteArray) : Bool := bif !(Sp.isName (strBytes t)) then false else Sp.allW (fun w : ByteArray => !(w.toList == t.toList)) Sp.f209.1
noncomputable def e194 : Ent := { f := n194, ins := [Sh.one cS], outs := [Sh.one cB], upd := [], pre := fun _ => true, spec := fun a => Sp.isFreeS a, wrt := fun _ => () }
theorem words_len : List.length Sp.f209.1 = 28 := rfl
theorem e194_core (t : ByteArray) : ∃ n, abody Γ (orc [e208, e209]) n n194 [ZX Ty.str t] = some (rBo (Sp.isFreeS t)) := by
  refine ⟨29, (f194_raw _ t).trans ?_⟩
  unfold Sp.isFreeS
  rw [condB]
  show (bif !(Sp.isName (strBytes t)) then _ else _) = _
  have st := fun m k => f194_L0_step 29 m t k
  have hl := words_len
  revert st hl
  generalize Sp.f209.1 = ws
  intro st hl
  cases Sp.isName (strBytes t) with
  | false => rfl
  | true =>
    have := all_loop (p := fun w : ByteArray => !(w.toList == t.toList)) (R := rBo) ws (fun m k => f194_L0 29 m t k) (fun m k hk => by
      show f194_L0 _ _ _ _ = _
      rw [st, decide_eq_false (show ¬ (k : Int) < 28 by omega), cond_false]) (fun m k h => by
      show f194_L0 _ _ _ _ = _
      have h' : k < 28 := by omega
      rw [st, decide_eq_true (show (k : Int) < 28 by omega), cond_true, guard0, chkT, getD_nat ws k _ h, next64 h' (by omega), Bool.not_not]) 28 0 29 (by omega) (by omega)
    rw [List.drop_zero] at this
    rw [Bool.not_true, cond_false, cond_false]
    exact this
theorem e194_ok : Valid PP Γ e194 := valid_of ok (vcons e208_ok (vcons e209_ok vnil)) fun a _ => e194_core a
def Sp.f1039 (x0 : Int) := (bif decide (x0 ≥ (97 : Int)) then (bif decide (x0 ≤ (122 : Int)) then (true, ()) else (bif decide (x0 ≥ (65 : Int)) then (bif decide (x0 ≤ (90 : Int)) then (true, ()) else (x0 == (95 : Int), ())) else (x0 == (95 : Int), ()))) else (bif decide (x0 ≥ (65 : Int)) then (bif decide (x0 ≤ (90 : Int)) then (true, ()) else (x0 == (95 : Int), ())) else (x0 == (95 : Int), ())))
noncomputable def e1039 : Ent := { f := 65, ins := [Sh.one (C0.dat (Ty.int IntKind.u8))], outs := [Sh.one (C0.dat Ty.bool)], upd := [], pre := fun a => true, spec := fun a => (Sp.f1039 a).1, wrt := fun a => (Sp.f1039 a).2 }
def f1039_g (v : denS [Sh.one (C0.dat Ty.bool)] × denS []) : Res := ⟨mkS [Sh.one (C0.dat Ty.bool)] v.1, mkU [] v.2⟩
theorem f1039_form (x0 : Int) : abody Γ (orc []) 0 65 [ZX (Ty.int IntKind.u8) x0] = some (f1039_g (Sp.f1039 x0)) := by
  refine Eq.trans (b := bif decide (x0 ≥ (97 : Int)) then bif decide (x0 ≤ (122 : Int)) then Zt else bif decide (x0 ≥ (65 : Int)) then bif decide (x0 ≤ (90 : Int)) then Zt else ZB (x0 == (95 : Int)) else ZB (x0 == (95 : Int)) else bif decide (x0 ≥ (65 : Int)) then bif decide (x0 ≤ (90 : Int)) then Zt else ZB (x0 == (95 : Int)) else ZB (x0 == (95 : Int))) (by kernel_rfl) ?_
  unfold Sp.f1039
  exact (cond_plain f1039_g ((cond_plain f1039_g (rfl) ((cond_plain f1039_g ((cond_plain f1039_g (rfl) (rfl))) (rfl))))) ((cond_plain f1039_g ((cond_plain f1039_g (rfl) (rfl))) (rfl))))
theorem e1039_ok : Valid PP Γ e1039 := valid_auto ok vnil fun a => f1039_form a

def Sp.f1040 (x0 : Int) := (bif decide (x0 ≥ (48 : Int)) then (decide (x0 ≤ (57 : Int)), ()) else (false, ()))
noncomputable def e1040 : Ent := { f := 66, ins := [Sh.one (C0.dat (Ty.int IntKind.u8))], outs := [Sh.one (C0.dat Ty.bool)], upd := [], pre := fun a => true, spec := fun a => (Sp.f1040 a).1, wrt := fun a => (Sp.f1040 a).2 }
def f1040_g (v : denS [Sh.one (C0.dat Ty.bool)] × denS []) : Res := ⟨mkS [Sh.one (C0.dat Ty.bool)] v.1, mkU [] v.2⟩
theorem f1040_form (x0 : Int) : abody Γ (orc []) 0 66 [ZX (Ty.int IntKind.u8) x0] = some (f1040_g (Sp.f1040 x0)) := by
  refine Eq.trans (b := bif decide (x0 ≥ (48 : Int)) then ZB (decide (x0 ≤ (57 : Int))) else Zf) (by kernel_rfl) ?_
  unfold Sp.f1040
  exact (cond_plain f1040_g (rfl) (rfl))
theorem e1040_ok : Valid PP Γ e1040 := valid_auto ok vnil fun a => f1040_form a

noncomputable def f1036_L0 (n m0 : Nat) (y0 : ByteArray) (y1 y2 : Int) : Option Res := loopAt Γ (orc [e1039, e1040, e70]) n (50 : Nat) (0 : Nat) [] [Pth.r, Pth.l, Pth.r, Pth.b] m0 (St.mk (ZS Ty.str y0 :: ZN 4 (ZS Zi y1 :: ZS Zi y2 :: ZN 22 [])) [])
theorem f1036_L0_step (n m0 : Nat) (y0 : ByteArray) (y1 y2 : Int) : f1036_L0 n (m0 + 1) y0 y1 y2 = bif decide (y2 < y1) then chk (decide ((0 : Int) ≤ y2) && decide (y2 < (↑y0.size : Int))) (bif !(Sp.f1039 ((strBytes y0).getD y2.toNat (0 : Int))).1 then bif y2 == (0 : Int) then Zf else chk (decide ((0 : Int) ≤ y2) && decide (y2 < (↑y0.size : Int))) (bif !(Sp.f1040 ((strBytes y0).getD y2.toNat (0 : Int))).1 then Zf else f1036_L0 n m0 y0 y1 (IntKind.i64.wrap (y2 + (1 : Int)))) else f1036_L0 n m0 y0 y1 (IntKind.i64.wrap (y2 + (1 : Int)))) else ZB (Sp.f70 (↑y0.size : Int) (1 : Int) (40 : Int)).1 := by kernel_rfl
theorem f1036_raw (n : Nat) (x0 : ByteArray) : abody Γ (orc [e1039, e1040, e70]) n 50 [ZX Ty.str x0] = f1036_L0 n n x0 (↑x0.size : Int) (0 : Int) := by kernel_rfl

theorem f1039_eq : Sp.f1039 = Sp.f217 := rfl
theorem f1040_eq : Sp.f1040 = Sp.f218 := rfl
noncomputable def e1036 : Ent := { f := n1036, ins := [Sh.one cS], outs := [Sh.one cB], upd := [], pre := fun a => Nat.ble (ByteArray.size a) 9223372036854775807, spec := fun a => Sp.isName (strBytes a), wrt := fun _ => () }
theorem f1036_step (n m : Nat) (t : ByteArray) (b : Int) (k : Nat) (h : k < t.size) (hb : (strBytes t).getD k 0 = b) (h0 : k ≠ 0) (hs : t.size ≤ 9223372036854775807) : f1036_L0 n (m + 1) t t.size k = bif !Sp.wordB b then some (rBo false) else f1036_L0 n m t t.size ((k + 1 : Nat) : Int) := by
  have e0 : ((k : Int) == 0) = false := by simp; omega
  rw [f1036_L0_step, nat_lt h, cond_true, guard0, chkT, chkT, next64 h hs, Int.toNat_natCast, hb, e0, f1039_eq, f1040_eq]
  unfold Sp.wordB
  cases (Sp.f217 b).1 <;> cases (Sp.f218 b).1 <;> rfl
theorem e1036_core (t : ByteArray) (hs : t.size ≤ 9223372036854775807) : ∃ n, abody Γ (orc [e1039, e1040, e70]) n n1036 [ZX Ty.str t] = some (rBo (Sp.isName (strBytes t))) := by
  have hl := strBytes_len t
  refine ⟨t.size + 1, (f1036_raw _ t).trans ?_⟩
  cases hb : strBytes t with
  | nil =>
    rw [hb] at hl
    have hl : 0 = t.size := hl
    rw [f1036_L0_step, ← hl]
    rfl
  | cons b r =>
    rw [hb, List.length_cons] at hl
    show _ = some (rBo (bif decide (r.length + 1 > 40) then false else bif !(Sp.f217 b).1 then false else Sp.allW Sp.wordB r))
    have hend : (Sp.f70 (t.size : Int) 1 40).1 = !decide (r.length + 1 > 40) := by
      show (bif decide ((t.size : Int) ≥ 1) then (decide ((t.size : Int) ≤ 40), ()) else (false, ())).1 = _
      rw [decide_eq_true (show (t.size : Int) ≥ 1 by omega), cond_true]
      by_cases hc : r.length + 1 > 40
      · rw [decide_eq_true hc]; exact decide_eq_false (by omega)
      · rw [decide_eq_false hc]; exact decide_eq_true (by omega)
    have lp2 : ∀ (d k m : Nat), 0 < k → k + d = r.length + 1 → d < m → f1036_L0 (t.size + 1) m t t.size k = some (bif Sp.allW Sp.wordB ((b :: r).drop k) then rBo (!decide (r.length + 1 > 40)) else rBo false) := by
      intro d
      induction d with
      | zero =>
        intro k m h0 hk hm
        obtain ⟨m, rfl⟩ := succ_of hm
        rw [f1036_L0_step, nat_ge (by omega), cond_false, hend, List.drop_of_length_le (by rw [List.length_cons]; omega)]
        rfl
      | succ d ih =>
        intro k m h0 hk hm
        obtain ⟨m, rfl⟩ := succ_of hm
        have hk2 : k < (b :: r).length := by rw [List.length_cons]; omega
        rw [f1036_step _ _ t (b :: r)[k] k (by omega) (by rw [hb, List.getD, List.getElem?_eq_getElem hk2, Option.getD_some]) (by omega) hs, ih (k + 1) m (by omega) (by omega) (by omega), List.drop_eq_getElem_cons hk2, Sp.allW]
        cases Sp.wordB (b :: r)[k] <;> rfl
    have h1 : (0 : Nat) < t.size := by omega
    have st := f1036_L0_step (t.size + 1) t.size t t.size 0
    rw [decide_eq_true (show (0 : Int) < (t.size : Int) by omega), decide_eq_true (show (0 : Int) ≤ 0 by omega), Bool.and_self, cond_true, chkT, chkT, wrap64 (n := 0 + 1) (by omega) (by omega), hb, show ((0 : Int) == 0) = true from rfl, cond_true, f1039_eq] at st
    have st : f1036_L0 (t.size + 1) (t.size + 1) t t.size 0 = bif !(Sp.f217 b).1 then some (rBo false) else f1036_L0 (t.size + 1) t.size t t.size ((0 + 1 : Nat) : Int) := st
    rw [st, lp2 r.length 1 t.size (by omega) (by omega) (by omega), condB, condB]
    show (bif !(Sp.f217 b).1 then _ else some (bif Sp.allW Sp.wordB r then _ else _)) = _
    cases decide (r.length + 1 > 40) <;> cases (Sp.f217 b).1 <;> cases Sp.allW Sp.wordB r <;> rfl
theorem e1036_ok : Valid PP Γ e1036 := valid_of ok (vcons e1039_ok (vcons e1040_ok (vcons e70_ok vnil))) fun a ha => e1036_core a (Nat.le_of_ble_eq_true ha)
def Sp.f1037 := (Sp.split (ByteArray.mk (([(115 : UInt8), (101 : UInt8), (108 : UInt8), (101 : UInt8), (99 : UInt8), (116 : UInt8), (32 : UInt8), (102 : UInt8), (114 : UInt8), (111 : UInt8), (109 : UInt8), (32 : UInt8), (106 : UInt8), (111 : UInt8), (105 : UInt8), (110 : UInt8), (32 : UInt8), (111 : UInt8), (110 : UInt8), (32 : UInt8), (119 : UInt8), (104 : UInt8), (101 : UInt8), (114 : UInt8), (101 : UInt8), (32 : UInt8), (103 : UInt8), (114 : UInt8), (111 : UInt8), (117 : UInt8), (112 : UInt8), (32 : UInt8), (98 : UInt8), (121 : UInt8)].append [(32 : UInt8), (111 : UInt8), (114 : UInt8), (100 : UInt8), (101 : UInt8), (114 : UInt8), (32 : UInt8), (108 : UInt8), (105 : UInt8), (109 : UInt8), (105 : UInt8), (116 : UInt8), (32 : UInt8), (100 : UInt8), (101 : UInt8), (115 : UInt8), (99 : UInt8), (32 : UInt8), (105 : UInt8), (110 : UInt8), (115 : UInt8), (101 : UInt8), (114 : UInt8), (116 : UInt8), (32 : UInt8), (105 : UInt8), (110 : UInt8), (116 : UInt8), (111 : UInt8), (32 : UInt8), (118 : UInt8), (97 : UInt8), (108 : UInt8), (117 : UInt8), (101 : UInt8)]).append ([(115 : UInt8), (32 : UInt8), (117 : UInt8), (112 : UInt8), (100 : UInt8), (97 : UInt8), (116 : UInt8), (101 : UInt8), (32 : UInt8), (115 : UInt8), (101 : UInt8), (116 : UInt8), (32 : UInt8), (100 : UInt8), (101 : UInt8), (108 : UInt8), (101 : UInt8), (116 : UInt8), (101 : UInt8), (32 : UInt8), (97 : UInt8), (110 : UInt8), (100 : UInt8), (32 : UInt8), (111 : UInt8), (114 : UInt8), (32 : UInt8), (110 : UInt8), (111 : UInt8), (116 : UInt8), (32 : UInt8), (105 : UInt8), (115 : UInt8), (32 : UInt8), (110 : UInt8)].append [(117 : UInt8), (108 : UInt8), (108 : UInt8), (32 : UInt8), (116 : UInt8), (114 : UInt8), (117 : UInt8), (101 : UInt8), (32 : UInt8), (102 : UInt8), (97 : UInt8), (108 : UInt8), (115 : UInt8), (101 : UInt8), (32 : UInt8), (99 : UInt8), (111 : UInt8), (117 : UInt8), (110 : UInt8), (116 : UInt8), (32 : UInt8), (115 : UInt8), (117 : UInt8), (109 : UInt8), (32 : UInt8), (109 : UInt8), (105 : UInt8), (110 : UInt8), (32 : UInt8), (109 : UInt8), (97 : UInt8), (120 : UInt8), (32 : UInt8), (97 : UInt8), (115 : UInt8)])).toArray) (ByteArray.mk #[32]), ())
noncomputable def e1037 : Ent := { f := 52, ins := [], outs := [Sh.one (C0.row Ty.str)], upd := [], pre := fun a => true, spec := fun a => (Sp.f1037).1, wrt := fun a => (Sp.f1037).2 }
def f1037_g (v : denS [Sh.one (C0.row Ty.str)] × denS []) : Res := ⟨mkS [Sh.one (C0.row Ty.str)] v.1, mkU [] v.2⟩
theorem f1037_raw : abody Γ (orc [e1041]) 0 52 [] = some (Res.mk [XV.mk false [X.c (X0.row Ty.str (Sp.split (ByteArray.mk (([(115 : UInt8), (101 : UInt8), (108 : UInt8), (101 : UInt8), (99 : UInt8), (116 : UInt8), (32 : UInt8), (102 : UInt8), (114 : UInt8), (111 : UInt8), (109 : UInt8), (32 : UInt8), (106 : UInt8), (111 : UInt8), (105 : UInt8), (110 : UInt8), (32 : UInt8), (111 : UInt8), (110 : UInt8), (32 : UInt8), (119 : UInt8), (104 : UInt8), (101 : UInt8), (114 : UInt8), (101 : UInt8), (32 : UInt8), (103 : UInt8), (114 : UInt8), (111 : UInt8), (117 : UInt8), (112 : UInt8), (32 : UInt8), (98 : UInt8), (121 : UInt8)].append [(32 : UInt8), (111 : UInt8), (114 : UInt8), (100 : UInt8), (101 : UInt8), (114 : UInt8), (32 : UInt8), (108 : UInt8), (105 : UInt8), (109 : UInt8), (105 : UInt8), (116 : UInt8), (32 : UInt8), (100 : UInt8), (101 : UInt8), (115 : UInt8), (99 : UInt8), (32 : UInt8), (105 : UInt8), (110 : UInt8), (115 : UInt8), (101 : UInt8), (114 : UInt8), (116 : UInt8), (32 : UInt8), (105 : UInt8), (110 : UInt8), (116 : UInt8), (111 : UInt8), (32 : UInt8), (118 : UInt8), (97 : UInt8), (108 : UInt8), (117 : UInt8), (101 : UInt8)]).append ([(115 : UInt8), (32 : UInt8), (117 : UInt8), (112 : UInt8), (100 : UInt8), (97 : UInt8), (116 : UInt8), (101 : UInt8), (32 : UInt8), (115 : UInt8), (101 : UInt8), (116 : UInt8), (32 : UInt8), (100 : UInt8), (101 : UInt8), (108 : UInt8), (101 : UInt8), (116 : UInt8), (101 : UInt8), (32 : UInt8), (97 : UInt8), (110 : UInt8), (100 : UInt8), (32 : UInt8), (111 : UInt8), (114 : UInt8), (32 : UInt8), (110 : UInt8), (111 : UInt8), (116 : UInt8), (32 : UInt8), (105 : UInt8), (115 : UInt8), (32 : UInt8), (110 : UInt8)].append [(117 : UInt8), (108 : UInt8), (108 : UInt8), (32 : UInt8), (116 : UInt8), (114 : UInt8), (117 : UInt8), (101 : UInt8), (32 : UInt8), (102 : UInt8), (97 : UInt8), (108 : UInt8), (115 : UInt8), (101 : UInt8), (32 : UInt8), (99 : UInt8), (111 : UInt8), (117 : UInt8), (110 : UInt8), (116 : UInt8), (32 : UInt8), (115 : UInt8), (117 : UInt8), (109 : UInt8), (32 : UInt8), (109 : UInt8), (105 : UInt8), (110 : UInt8), (32 : UInt8), (109 : UInt8), (97 : UInt8), (120 : UInt8), (32 : UInt8), (97 : UInt8), (115 : UInt8)])).toArray) (ByteArray.mk #[32])) true)]] []) := by kernel_rfl
theorem f1037_form : (some (Res.mk [XV.mk false [X.c (X0.row Ty.str (Sp.split (ByteArray.mk (([(115 : UInt8), (101 : UInt8), (108 : UInt8), (101 : UInt8), (99 : UInt8), (116 : UInt8), (32 : UInt8), (102 : UInt8), (114 : UInt8), (111 : UInt8), (109 : UInt8), (32 : UInt8), (106 : UInt8), (111 : UInt8), (105 : UInt8), (110 : UInt8), (32 : UInt8), (111 : UInt8), (110 : UInt8), (32 : UInt8), (119 : UInt8), (104 : UInt8), (101 : UInt8), (114 : UInt8), (101 : UInt8), (32 : UInt8), (103 : UInt8), (114 : UInt8), (111 : UInt8), (117 : UInt8), (112 : UInt8), (32 : UInt8), (98 : UInt8), (121 : UInt8)].append [(32 : UInt8), (111 : UInt8), (114 : UInt8), (100 : UInt8), (101 : UInt8), (114 : UInt8), (32 : UInt8), (108 : UInt8), (105 : UInt8), (109 : UInt8), (105 : UInt8), (116 : UInt8), (32 : UInt8), (100 : UInt8), (101 : UInt8), (115 : UInt8), (99 : UInt8), (32 : UInt8), (105 : UInt8), (110 : UInt8), (115 : UInt8), (101 : UInt8), (114 : UInt8), (116 : UInt8), (32 : UInt8), (105 : UInt8), (110 : UInt8), (116 : UInt8), (111 : UInt8), (32 : UInt8), (118 : UInt8), (97 : UInt8), (108 : UInt8), (117 : UInt8), (101 : UInt8)]).append ([(115 : UInt8), (32 : UInt8), (117 : UInt8), (112 : UInt8), (100 : UInt8), (97 : UInt8), (116 : UInt8), (101 : UInt8), (32 : UInt8), (115 : UInt8), (101 : UInt8), (116 : UInt8), (32 : UInt8), (100 : UInt8), (101 : UInt8), (108 : UInt8), (101 : UInt8), (116 : UInt8), (101 : UInt8), (32 : UInt8), (97 : UInt8), (110 : UInt8), (100 : UInt8), (32 : UInt8), (111 : UInt8), (114 : UInt8), (32 : UInt8), (110 : UInt8), (111 : UInt8), (116 : UInt8), (32 : UInt8), (105 : UInt8), (115 : UInt8), (32 : UInt8), (110 : UInt8)].append [(117 : UInt8), (108 : UInt8), (108 : UInt8), (32 : UInt8), (116 : UInt8), (114 : UInt8), (117 : UInt8), (101 : UInt8), (32 : UInt8), (102 : UInt8), (97 : UInt8), (108 : UInt8), (115 : UInt8), (101 : UInt8), (32 : UInt8), (99 : UInt8), (111 : UInt8), (117 : UInt8), (110 : UInt8), (116 : UInt8), (32 : UInt8), (115 : UInt8), (117 : UInt8), (109 : UInt8), (32 : UInt8), (109 : UInt8), (105 : UInt8), (110 : UInt8), (32 : UInt8), (109 : UInt8), (97 : UInt8), (120 : UInt8), (32 : UInt8), (97 : UInt8), (115 : UInt8)])).toArray) (ByteArray.mk #[32])) true)]] [])) = some (f1037_g (Sp.f1037)) := by
  unfold Sp.f1037
  exact rfl
theorem e1037_ok : Valid PP Γ e1037 := valid_auto ok (vcons e1041_ok vnil) fun a => (f1037_raw ).trans (f1037_form )

noncomputable def f156_L0 (n m0 : Nat) (y0 : List ByteArray) (y1 : ByteArray) (y2 y3 : Int) : Option Res := loopAt Γ (orc []) n (67 : Nat) (0 : Nat) [] [Pth.r, Pth.l, Pth.r, Pth.b] m0 (St.mk (ZS Ty.str.slice y0 :: ZS Ty.str y1 :: ZN 5 (ZS Zi y2 :: ZS Zi y3 :: ZN 10 [])) [])
theorem f156_L0_step (n m0 : Nat) (y0 : List ByteArray) (y1 : ByteArray) (y2 y3 : Int) : f156_L0 n (m0 + 1) y0 y1 y2 y3 = bif decide (y3 < y2) then chk (decide ((0 : Int) ≤ y3) && decide (y3 < (↑y0.length : Int))) (bif y1.toList == (y0.getD y3.toNat (ByteArray.mk #[])).toList then ZJ y3 else f156_L0 n m0 y0 y1 y2 (IntKind.i64.wrap (y3 + (1 : Int)))) else ZJ (-1 : Int) := by kernel_rfl
theorem f156_raw (n : Nat) (x0 : List ByteArray) (x1 : ByteArray) : abody Γ (orc []) n 67 [ZX Ty.str.slice x0, ZX Ty.str x1] = f156_L0 n n x0 x1 (↑x0.length : Int) (0 : Int) := by kernel_rfl

def Sp.sameS (t w : ByteArray) : Bool := t.toList == w.toList
noncomputable def e156 : Ent := { f := n156, ins := [Sh.one (cL .str), Sh.one cS], outs := [Sh.one cI], upd := [], pre := fun _ => true, spec := fun a => Sp.idx (Sp.sameS a.2) a.1 0, wrt := fun _ => () }
theorem e156_core (xs : List ByteArray) (t : ByteArray) (hl : xs.length ≤ maxLen) : ∃ n, abody Γ (orc []) n n156 [ZX (Ty.slice .str) xs, ZX Ty.str t] = some (rI (Sp.idx (Sp.sameS t) xs 0)) := by
  have hl : xs.length ≤ 9223372036854775807 := hl
  refine ⟨xs.length + 1, (f156_raw _ xs t).trans ?_⟩
  refine idx_loop (p := Sp.sameS t) (R := rI) xs (fun m k => f156_L0 (xs.length + 1) m xs t xs.length k) (fun m k hk => ?_) (fun m k h => ?_) xs.length 0 _ (Nat.zero_add _) (Nat.lt_succ_self _)
  · show f156_L0 _ _ _ _ _ _ = _
    rw [f156_L0_step, nat_ge hk, cond_false]
  · show f156_L0 _ _ _ _ _ _ = _
    rw [f156_L0_step, nat_lt h, cond_true, guard0, chkT, getD_nat xs k _ h, next64 h hl]
    rfl
theorem e156_ok : Valid PP Γ e156 := valid_len ok vnil fun a _ hl => e156_core a.1 a.2 (hl _ (List.mem_cons_self) _ (List.mem_cons_self)).1
def Sp.f1031 (x0 : List ByteArray) (x1 : ByteArray) := (decide (Sp.idx (Sp.sameS x1) x0 (0 : Int) ≥ (0 : Int)), ())
noncomputable def e1031 : Ent := { f := 51, ins := [Sh.one (C0.dat Ty.str.slice), Sh.one (C0.dat Ty.str)], outs := [Sh.one (C0.dat Ty.bool)], upd := [], pre := fun a => true, spec := fun a => (Sp.f1031 a.1 a.2).1, wrt := fun a => (Sp.f1031 a.1 a.2).2 }
def f1031_g (v : denS [Sh.one (C0.dat Ty.bool)] × denS []) : Res := ⟨mkS [Sh.one (C0.dat Ty.bool)] v.1, mkU [] v.2⟩
theorem f1031_form (x0 : List ByteArray) (x1 : ByteArray) : abody Γ (orc [e156]) 0 51 [ZX Ty.str.slice x0, ZX Ty.str x1] = some (f1031_g (Sp.f1031 x0 x1)) := by
  refine Eq.trans (b := ZB (decide (Sp.idx (Sp.sameS x1) x0 (0 : Int) ≥ (0 : Int)))) (by kernel_rfl) ?_
  unfold Sp.f1031
  exact rfl
theorem e1031_ok : Valid PP Γ e1031 := valid_auto ok (vcons e156_ok vnil) fun a => f1031_form a.1 a.2

def Sp.f1023 (x0 : ByteArray) := (bif x0.toList == (ByteArray.mk #[111, 114]).toList then ((1 : Int), ()) else (bif x0.toList == (ByteArray.mk #[97, 110, 100]).toList then ((2 : Int), ()) else (bif x0.toList == (ByteArray.mk #[61]).toList then (bif x0.toList == (ByteArray.mk #[61]).toList then ((4 : Int), ()) else (bif x0.toList == (ByteArray.mk #[43]).toList then (bif x0.toList == (ByteArray.mk #[43]).toList then ((5 : Int), ()) else (bif x0.toList == (ByteArray.mk #[42]).toList then (bif x0.toList == (ByteArray.mk #[42]).toList then ((6 : Int), ()) else ((0 : Int), ())) else (bif x0.toList == (ByteArray.mk #[47]).toList then (bif x0.toList == (ByteArray.mk #[47]).toList then ((6 : Int), ()) else ((0 : Int), ())) else (bif x0.toList == (ByteArray.mk #[37]).toList then ((6 : Int), ()) else ((0 : Int), ()))))) else (bif x0.toList == (ByteArray.mk #[45]).toList then ((5 : Int), ()) else (bif x0.toList == (ByteArray.mk #[42]).toList then (bif x0.toList == (ByteArray.mk #[42]).toList then ((6 : Int), ()) else ((0 : Int), ())) else (bif x0.toList == (ByteArray.mk #[47]).toList then (bif x0.toList == (ByteArray.mk #[47]).toList then ((6 : Int), ()) else ((0 : Int), ())) else (bif x0.toList == (ByteArray.mk #[37]).toList then ((6 : Int), ()) else ((0 : Int), ()))))))) else (bif x0.toList == (ByteArray.mk #[60, 62]).toList then (bif x0.toList == (ByteArray.mk #[60, 62]).toList then ((4 : Int), ()) else (bif x0.toList == (ByteArray.mk #[43]).toList then (bif x0.toList == (ByteArray.mk #[43]).toList then ((5 : Int), ()) else (bif x0.toList == (ByteArray.mk #[42]).toList then (bif x0.toList == (ByteArray.mk #[42]).toList then ((6 : Int), ()) else ((0 : Int), ())) else (bif x0.toList == (ByteArray.mk #[47]).toList then (bif x0.toList == (ByteArray.mk #[47]).toList then ((6 : Int), ()) else ((0 : Int), ())) else (bif x0.toList == (ByteArray.mk #[37]).toList then ((6 : Int), ()) else ((0 : Int), ()))))) else (bif x0.toList == (ByteArray.mk #[45]).toList then ((5 : Int), ()) else (bif x0.toList == (ByteArray.mk #[42]).toList then (bif x0.toList == (ByteArray.mk #[42]).toList then ((6 : Int), ()) else ((0 : Int), ())) else (bif x0.toList == (ByteArray.mk #[47]).toList then (bif x0.toList == (ByteArray.mk #[47]).toList then ((6 : Int), ()) else ((0 : Int), ())) else (bif x0.toList == (ByteArray.mk #[37]).toList then ((6 : Int), ()) else ((0 : Int), ()))))))) else (bif x0.toList == (ByteArray.mk #[60]).toList then (bif x0.toList == (ByteArray.mk #[60]).toList then ((4 : Int), ()) else (bif x0.toList == (ByteArray.mk #[43]).toList then (bif x0.toList == (ByteArray.mk #[43]).toList then ((5 : Int), ()) else (bif x0.toList == (ByteArray.mk #[42]).toList then (bif x0.toList == (ByteArray.mk #[42]).toList then ((6 : Int), ()) else ((0 : Int), ())) else (bif x0.toList == (ByteArray.mk #[47]).toList then (bif x0.toList == (ByteArray.mk #[47]).toList then ((6 : Int), ()) else ((0 : Int), ())) else (bif x0.toList == (ByteArray.mk #[37]).toList then ((6 : Int), ()) else ((0 : Int), ()))))) else (bif x0.toList == (ByteArray.mk #[45]).toList then ((5 : Int), ()) else (bif x0.toList == (ByteArray.mk #[42]).toList then (bif x0.toList == (ByteArray.mk #[42]).toList then ((6 : Int), ()) else ((0 : Int), ())) else (bif x0.toList == (ByteArray.mk #[47]).toList then (bif x0.toList == (ByteArray.mk #[47]).toList then ((6 : Int), ()) else ((0 : Int), ())) else (bif x0.toList == (ByteArray.mk #[37]).toList then ((6 : Int), ()) else ((0 : Int), ()))))))) else (bif x0.toList == (ByteArray.mk #[60, 61]).toList then (bif x0.toList == (ByteArray.mk #[60, 61]).toList then ((4 : Int), ()) else (bif x0.toList == (ByteArray.mk #[43]).toList then (bif x0.toList == (ByteArray.mk #[43]).toList then ((5 : Int), ()) else (bif x0.toList == (ByteArray.mk #[42]).toList then (bif x0.toList == (ByteArray.mk #[42]).toList then ((6 : Int), ()) else ((0 : Int), ())) else (bif x0.toList == (ByteArray.mk #[47]).toList then (bif x0.toList == (ByteArray.mk #[47]).toList then ((6 : Int), ()) else ((0 : Int), ())) else (bif x0.toList == (ByteArray.mk #[37]).toList then ((6 : Int), ()) else ((0 : Int), ()))))) else (bif x0.toList == (ByteArray.mk #[45]).toList then ((5 : Int), ()) else (bif x0.toList == (ByteArray.mk #[42]).toList then (bif x0.toList == (ByteArray.mk #[42]).toList then ((6 : Int), ()) else ((0 : Int), ())) else (bif x0.toList == (ByteArray.mk #[47]).toList then (bif x0.toList == (ByteArray.mk #[47]).toList then ((6 : Int), ()) else ((0 : Int), ())) else (bif x0.toList == (ByteArray.mk #[37]).toList then ((6 : Int), ()) else ((0 : Int), ()))))))) else (bif x0.toList == (ByteArray.mk #[62]).toList then (bif x0.toList == (ByteArray.mk #[62]).toList then ((4 : Int), ()) else (bif x0.toList == (ByteArray.mk #[43]).toList then (bif x0.toList == (ByteArray.mk #[43]).toList then ((5 : Int), ()) else (bif x0.toList == (ByteArray.mk #[42]).toList then (bif x0.toList == (ByteArray.mk #[42]).toList then ((6 : Int), ()) else ((0 : Int), ())) else (bif x0.toList == (ByteArray.mk #[47]).toList then (bif x0.toList == (ByteArray.mk #[47]).toList then ((6 : Int), ()) else ((0 : Int), ())) else (bif x0.toList == (ByteArray.mk #[37]).toList then ((6 : Int), ()) else ((0 : Int), ()))))) else (bif x0.toList == (ByteArray.mk #[45]).toList then ((5 : Int), ()) else (bif x0.toList == (ByteArray.mk #[42]).toList then (bif x0.toList == (ByteArray.mk #[42]).toList then ((6 : Int), ()) else ((0 : Int), ())) else (bif x0.toList == (ByteArray.mk #[47]).toList then (bif x0.toList == (ByteArray.mk #[47]).toList then ((6 : Int), ()) else ((0 : Int), ())) else (bif x0.toList == (ByteArray.mk #[37]).toList then ((6 : Int), ()) else ((0 : Int), ()))))))) else (bif x0.toList == (ByteArray.mk #[62, 61]).toList then ((4 : Int), ()) else (bif x0.toList == (ByteArray.mk #[43]).toList then (bif x0.toList == (ByteArray.mk #[43]).toList then ((5 : Int), ()) else (bif x0.toList == (ByteArray.mk #[42]).toList then (bif x0.toList == (ByteArray.mk #[42]).toList then ((6 : Int), ()) else ((0 : Int), ())) else (bif x0.toList == (ByteArray.mk #[47]).toList then (bif x0.toList == (ByteArray.mk #[47]).toList then ((6 : Int), ()) else ((0 : Int), ())) else (bif x0.toList == (ByteArray.mk #[37]).toList then ((6 : Int), ()) else ((0 : Int), ()))))) else (bif x0.toList == (ByteArray.mk #[45]).toList then ((5 : Int), ()) else (bif x0.toList == (ByteArray.mk #[42]).toList then (bif x0.toList == (ByteArray.mk #[42]).toList then ((6 : Int), ()) else ((0 : Int), ())) else (bif x0.toList == (ByteArray.mk #[47]).toList then (bif x0.toList == (ByteArray.mk #[47]).toList then ((6 : Int), ()) else ((0 : Int), ())) else (bif x0.toList == (ByteArray.mk #[37]).toList then ((6 : Int), ()) else ((0 : Int), ()))))))))))))))
noncomputable def e1023 : Ent := { f := 47, ins := [Sh.one (C0.dat Ty.str)], outs := [Sh.one ZI], upd := [], pre := fun a => true, spec := fun a => (Sp.f1023 a).1, wrt := fun a => (Sp.f1023 a).2 }
def f1023_g (v : denS [Sh.one ZI] × denS []) : Res := ⟨mkS [Sh.one ZI] v.1, mkU [] v.2⟩
theorem f1023_form (x0 : ByteArray) : abody Γ (orc []) 0 47 [ZX Ty.str x0] = some (f1023_g (Sp.f1023 x0)) := by
  refine Eq.trans (b := bif x0.toList == (ByteArray.mk #[111, 114]).toList then ZJ (1 : Int) else bif x0.toList == (ByteArray.mk #[97, 110, 100]).toList then ZJ (2 : Int) else bif x0.toList == (ByteArray.mk #[61]).toList then bif x0.toList == (ByteArray.mk #[61]).toList then ZJ (4 : Int) else bif x0.toList == (ByteArray.mk #[43]).toList then bif x0.toList == (ByteArray.mk #[43]).toList then ZJ (5 : Int) else bif x0.toList == (ByteArray.mk #[42]).toList then bif x0.toList == (ByteArray.mk #[42]).toList then ZJ (6 : Int) else ZJ (0 : Int) else bif x0.toList == (ByteArray.mk #[47]).toList then bif x0.toList == (ByteArray.mk #[47]).toList then ZJ (6 : Int) else ZJ (0 : Int) else bif x0.toList == (ByteArray.mk #[37]).toList then ZJ (6 : Int) else ZJ (0 : Int) else bif x0.toList == (ByteArray.mk #[45]).toList then ZJ (5 : Int) else bif x0.toList == (ByteArray.mk #[42]).toList then bif x0.toList == (ByteArray.mk #[42]).toList then ZJ (6 : Int) else ZJ (0 : Int) else bif x0.toList == (ByteArray.mk #[47]).toList then bif x0.toList == (ByteArray.mk #[47]).toList then ZJ (6 : Int) else ZJ (0 : Int) else bif x0.toList == (ByteArray.mk #[37]).toList then ZJ (6 : Int) else ZJ (0 : Int) else bif x0.toList == (ByteArray.mk #[60, 62]).toList then bif x0.toList == (ByteArray.mk #[60, 62]).toList then ZJ (4 : Int) else bif x0.toList == (ByteArray.mk #[43]).toList then bif x0.toList == (ByteArray.mk #[43]).toList then ZJ (5 : Int) else bif x0.toList == (ByteArray.mk #[42]).toList then bif x0.toList == (ByteArray.mk #[42]).toList then ZJ (6 : Int) else ZJ (0 : Int) else bif x0.toList == (ByteArray.mk #[47]).toList then bif x0.toList == (ByteArray.mk #[47]).toList then ZJ (6 : Int) else ZJ (0 : Int) else bif x0.toList == (ByteArray.mk #[37]).toList then ZJ (6 : Int) else ZJ (0 : Int) else bif x0.toList == (ByteArray.mk #[45]).toList then ZJ (5 : Int) else bif x0.toList == (ByteArray.mk #[42]).toList then bif x0.toList == (ByteArray.mk #[42]).toList then ZJ (6 : Int) else ZJ (0 : Int) else bif x0.toList == (ByteArray.mk #[47]).toList then bif x0.toList == (ByteArray.mk #[47]).toList then ZJ (6 : Int) else ZJ (0 : Int) else bif x0.toList == (ByteArray.mk #[37]).toList then ZJ (6 : Int) else ZJ (0 : Int) else bif x0.toList == (ByteArray.mk #[60]).toList then bif x0.toList == (ByteArray.mk #[60]).toList then ZJ (4 : Int) else bif x0.toList == (ByteArray.mk #[43]).toList then bif x0.toList == (ByteArray.mk #[43]).toList then ZJ (5 : Int) else bif x0.toList == (ByteArray.mk #[42]).toList then bif x0.toList == (ByteArray.mk #[42]).toList then ZJ (6 : Int) else ZJ (0 : Int) else bif x0.toList == (ByteArray.mk #[47]).toList then bif x0.toList == (ByteArray.mk #[47]).toList then ZJ (6 : Int) else ZJ (0 : Int) else bif x0.toList == (ByteArray.mk #[37]).toList then ZJ (6 : Int) else ZJ (0 : Int) else bif x0.toList == (ByteArray.mk #[45]).toList then ZJ (5 : Int) else bif x0.toList == (ByteArray.mk #[42]).toList then bif x0.toList == (ByteArray.mk #[42]).toList then ZJ (6 : Int) else ZJ (0 : Int) else bif x0.toList == (ByteArray.mk #[47]).toList then bif x0.toList == (ByteArray.mk #[47]).toList then ZJ (6 : Int) else ZJ (0 : Int) else bif x0.toList == (ByteArray.mk #[37]).toList then ZJ (6 : Int) else ZJ (0 : Int) else bif x0.toList == (ByteArray.mk #[60, 61]).toList then bif x0.toList == (ByteArray.mk #[60, 61]).toList then ZJ (4 : Int) else bif x0.toList == (ByteArray.mk #[43]).toList then bif x0.toList == (ByteArray.mk #[43]).toList then ZJ (5 : Int) else bif x0.toList == (ByteArray.mk #[42]).toList then bif x0.toList == (ByteArray.mk #[42]).toList then ZJ (6 : Int) else ZJ (0 : Int) else bif x0.toList == (ByteArray.mk #[47]).toList then bif x0.toList == (ByteArray.mk #[47]).toList then ZJ (6 : Int) else ZJ (0 : Int) else bif x0.toList == (ByteArray.mk #[37]).toList then ZJ (6 : Int) else ZJ (0 : Int) else bif x0.toList == (ByteArray.mk #[45]).toList then ZJ (5 : Int) else bif x0.toList == (ByteArray.mk #[42]).toList then bif x0.toList == (ByteArray.mk #[42]).toList then ZJ (6 : Int) else ZJ (0 : Int) else bif x0.toList == (ByteArray.mk #[47]).toList then bif x0.toList == (ByteArray.mk #[47]).toList then ZJ (6 : Int) else ZJ (0 : Int) else bif x0.toList == (ByteArray.mk #[37]).toList then ZJ (6 : Int) else ZJ (0 : Int) else bif x0.toList == (ByteArray.mk #[62]).toList then bif x0.toList == (ByteArray.mk #[62]).toList then ZJ (4 : Int) else bif x0.toList == (ByteArray.mk #[43]).toList then bif x0.toList == (ByteArray.mk #[43]).toList then ZJ (5 : Int) else bif x0.toList == (ByteArray.mk #[42]).toList then bif x0.toList == (ByteArray.mk #[42]).toList then ZJ (6 : Int) else ZJ (0 : Int) else bif x0.toList == (ByteArray.mk #[47]).toList then bif x0.toList == (ByteArray.mk #[47]).toList then ZJ (6 : Int) else ZJ (0 : Int) else bif x0.toList == (ByteArray.mk #[37]).toList then ZJ (6 : Int) else ZJ (0 : Int) else bif x0.toList == (ByteArray.mk #[45]).toList then ZJ (5 : Int) else bif x0.toList == (ByteArray.mk #[42]).toList then bif x0.toList == (ByteArray.mk #[42]).toList then ZJ (6 : Int) else ZJ (0 : Int) else bif x0.toList == (ByteArray.mk #[47]).toList then bif x0.toList == (ByteArray.mk #[47]).toList then ZJ (6 : Int) else ZJ (0 : Int) else bif x0.toList == (ByteArray.mk #[37]).toList then ZJ (6 : Int) else ZJ (0 : Int) else bif x0.toList == (ByteArray.mk #[62, 61]).toList then ZJ (4 : Int) else bif x0.toList == (ByteArray.mk #[43]).toList then bif x0.toList == (ByteArray.mk #[43]).toList then ZJ (5 : Int) else bif x0.toList == (ByteArray.mk #[42]).toList then bif x0.toList == (ByteArray.mk #[42]).toList then ZJ (6 : Int) else ZJ (0 : Int) else bif x0.toList == (ByteArray.mk #[47]).toList then bif x0.toList == (ByteArray.mk #[47]).toList then ZJ (6 : Int) else ZJ (0 : Int) else bif x0.toList == (ByteArray.mk #[37]).toList then ZJ (6 : Int) else ZJ (0 : Int) else bif x0.toList == (ByteArray.mk #[45]).toList then ZJ (5 : Int) else bif x0.toList == (ByteArray.mk #[42]).toList then bif x0.toList == (ByteArray.mk #[42]).toList then ZJ (6 : Int) else ZJ (0 : Int) else bif x0.toList == (ByteArray.mk #[47]).toList then bif x0.toList == (ByteArray.mk #[47]).toList then ZJ (6 : Int) else ZJ (0 : Int) else bif x0.toList == (ByteArray.mk #[37]).toList then ZJ (6 : Int) else ZJ (0 : Int)) (by kernel_rfl) ?_
  unfold Sp.f1023
  exact (cond_plain f1023_g (rfl) ((cond_plain f1023_g (rfl) ((cond_plain f1023_g ((cond_plain f1023_g (rfl) ((cond_plain f1023_g ((cond_plain f1023_g (rfl) ((cond_plain f1023_g ((cond_plain f1023_g (rfl) (rfl))) ((cond_plain f1023_g ((cond_plain f1023_g (rfl) (rfl))) ((cond_plain f1023_g (rfl) (rfl))))))))) ((cond_plain f1023_g (rfl) ((cond_plain f1023_g ((cond_plain f1023_g (rfl) (rfl))) ((cond_plain f1023_g ((cond_plain f1023_g (rfl) (rfl))) ((cond_plain f1023_g (rfl) (rfl))))))))))))) ((cond_plain f1023_g ((cond_plain f1023_g (rfl) ((cond_plain f1023_g ((cond_plain f1023_g (rfl) ((cond_plain f1023_g ((cond_plain f1023_g (rfl) (rfl))) ((cond_plain f1023_g ((cond_plain f1023_g (rfl) (rfl))) ((cond_plain f1023_g (rfl) (rfl))))))))) ((cond_plain f1023_g (rfl) ((cond_plain f1023_g ((cond_plain f1023_g (rfl) (rfl))) ((cond_plain f1023_g ((cond_plain f1023_g (rfl) (rfl))) ((cond_plain f1023_g (rfl) (rfl))))))))))))) ((cond_plain f1023_g ((cond_plain f1023_g (rfl) ((cond_plain f1023_g ((cond_plain f1023_g (rfl) ((cond_plain f1023_g ((cond_plain f1023_g (rfl) (rfl))) ((cond_plain f1023_g ((cond_plain f1023_g (rfl) (rfl))) ((cond_plain f1023_g (rfl) (rfl))))))))) ((cond_plain f1023_g (rfl) ((cond_plain f1023_g ((cond_plain f1023_g (rfl) (rfl))) ((cond_plain f1023_g ((cond_plain f1023_g (rfl) (rfl))) ((cond_plain f1023_g (rfl) (rfl))))))))))))) ((cond_plain f1023_g ((cond_plain f1023_g (rfl) ((cond_plain f1023_g ((cond_plain f1023_g (rfl) ((cond_plain f1023_g ((cond_plain f1023_g (rfl) (rfl))) ((cond_plain f1023_g ((cond_plain f1023_g (rfl) (rfl))) ((cond_plain f1023_g (rfl) (rfl))))))))) ((cond_plain f1023_g (rfl) ((cond_plain f1023_g ((cond_plain f1023_g (rfl) (rfl))) ((cond_plain f1023_g ((cond_plain f1023_g (rfl) (rfl))) ((cond_plain f1023_g (rfl) (rfl))))))))))))) ((cond_plain f1023_g ((cond_plain f1023_g (rfl) ((cond_plain f1023_g ((cond_plain f1023_g (rfl) ((cond_plain f1023_g ((cond_plain f1023_g (rfl) (rfl))) ((cond_plain f1023_g ((cond_plain f1023_g (rfl) (rfl))) ((cond_plain f1023_g (rfl) (rfl))))))))) ((cond_plain f1023_g (rfl) ((cond_plain f1023_g ((cond_plain f1023_g (rfl) (rfl))) ((cond_plain f1023_g ((cond_plain f1023_g (rfl) (rfl))) ((cond_plain f1023_g (rfl) (rfl))))))))))))) ((cond_plain f1023_g (rfl) ((cond_plain f1023_g ((cond_plain f1023_g (rfl) ((cond_plain f1023_g ((cond_plain f1023_g (rfl) (rfl))) ((cond_plain f1023_g ((cond_plain f1023_g (rfl) (rfl))) ((cond_plain f1023_g (rfl) (rfl))))))))) ((cond_plain f1023_g (rfl) ((cond_plain f1023_g ((cond_plain f1023_g (rfl) (rfl))) ((cond_plain f1023_g ((cond_plain f1023_g (rfl) (rfl))) ((cond_plain f1023_g (rfl) (rfl))))))))))))))))))))))))))
theorem e1023_ok : Valid PP Γ e1023 := valid_auto ok vnil fun a => f1023_form a

end Go.Proofs.GR.T

namespace Go.Proofs.GR.T
open Go Go.Proofs Go.Proofs.GR
def Sp.anyW {α : Type} (p : α → Bool) : List α → Bool
  | [] => false
  | x :: r => bif p x then true else Sp.anyW p r
theorem idx_any {α : Type} (p : α → Bool) : ∀ (xs : List α) (k : Int), 0 ≤ k → decide (Sp.idx p xs k ≥ 0) = Sp.anyW p xs
  | [], k, _ => rfl
  | x :: r, k, h => by
    rw [Sp.idx, Sp.anyW]
    cases p x with
    | true => exact decide_eq_true h
    | false => exact idx_any p r (k + 1) (by omega)
theorem anyW_all {α : Type} (p : α → Bool) : ∀ xs : List α, Sp.anyW p xs = !Sp.allW (fun x => !p x) xs
  | [] => rfl
  | x :: r => by rw [Sp.anyW, Sp.allW, anyW_all p r]; cases p x <;> rfl
theorem anyW_congr {α : Type} {p q : α → Bool} : ∀ {xs : List α}, (∀ x ∈ xs, p x = q x) → Sp.anyW p xs = Sp.anyW q xs
  | [], _ => rfl
  | x :: r, h => by rw [Sp.anyW, Sp.anyW, h x (List.mem_cons_self), anyW_congr fun y hy => h y (List.mem_cons_of_mem _ hy)]
theorem reserved_eq : Sp.f1037.1 = Sp.f209.1 := by kernel_rfl
end Go.Proofs.GR.T

set_option maxRecDepth 100000
set_option maxHeartbeats 100000000
namespace Go.Proofs.GR.T
open Go Go.Proofs Go.Proofs.GR
def Sp.predL (l : Int) : Int := IntKind.i64.wrap (l - 1)
mutual
def Sp.deepT : RT → Int → Bool
  | .mk _ ks, l => bif l == 0 then true else Sp.deepTs ks l
def Sp.deepTs : List RT → Int → Bool
  | [], _ => false
  | r :: k, l => bif Sp.deepT r (Sp.predL l) then true else Sp.deepTs k l
end
def Sp.idxD (xs : List RT) (l : Int) : Int := Sp.idx (fun r => Sp.deepT r (Sp.predL l)) xs 0
abbrev fD : C0 := C0.fn n1034 [.int .i64]
noncomputable def e1024 : Ent := { f := n1024, ins := [Sh.agg aT, Sh.one cI], outs := [Sh.one cB], upd := [], pre := fun a => true, spec := fun a => Sp.deepT (Sp.mkT a.1) a.2, wrt := fun _ => () }
noncomputable def e1034 : Ent := { f := n1034, ins := [Sh.agg aT, Sh.one (C0.rptr (.int .i64))], outs := [Sh.one cB], upd := [], pre := fun a => true, spec := fun a => Sp.deepT (Sp.mkT a.1) (Sp.predL a.2), wrt := fun _ => () }
noncomputable def e1026d : Ent := { f := n1026, ins := [Sh.one (cL tT), Sh.one fD], outs := [Sh.one cB], upd := [], pre := fun a => true, spec := fun a => Sp.deepTs a.1 a.2, wrt := fun _ => () }
noncomputable def e1035d : Ent := { f := n1035, ins := [Sh.one (cL tT), Sh.one fD], outs := [Sh.one cI], upd := [], pre := fun a => true, spec := fun a => Sp.idxD a.1 a.2, wrt := fun _ => () }
def Sp.m4 (k : Nat) (l : List RT) : Nat := 4 * Sp.rszs l + k
def Sp.m1 (k : Nat) (l : List RT) : Nat := 4 * Sp.rsz1 l + k
noncomputable def e1024n (N : Nat) : Ent := e1024.below (fun a => Sp.m1 0 a.1.2.2.2.2.2.2.2) N
noncomputable def e1034n (N : Nat) : Ent := e1034.below (fun a => Sp.m1 1 a.1.2.2.2.2.2.2.2) N
noncomputable def e1026dn (N : Nat) : Ent := e1026d.below (fun a => Sp.m4 2 a.1) N
noncomputable def e1035dn (N : Nat) : Ent := e1035d.below (fun a => Sp.m4 1 a.1) N
theorem f1024_raw (N : Nat) (x0 x1 : Int) (x2 x3 : ByteArray) (x4 x5 : Int) (x6 : ByteArray) (x7 : List ZT) (x8 : Int) : abody Γ (orc [e1024n N, e1034n N, e1026dn N, e1035dn N]) 0 48 [XV.mk true [ZC Zi x0, ZC Zi x1, ZC Ty.str x2, ZC Ty.str x3, ZC Zi x4, ZC Zi x5, ZC Ty.str x6, ZC ZA.rose.slice x7], ZX Zi x8] = bif x8 == (0 : Int) then Zt else chk ((Sp.m4 (2 : Nat) x7).blt N) (ZB (Sp.deepTs x7 x8)) := by kernel_rfl

theorem f1034_raw (N : Nat) (x0 x1 : Int) (x2 x3 : ByteArray) (x4 x5 : Int) (x6 : ByteArray) (x7 : List ZT) (x8 : Int) : abody Γ (orc [e1024n N, e1034n N, e1026dn N, e1035dn N]) 0 64 [XV.mk true [ZC Zi x0, ZC Zi x1, ZC Ty.str x2, ZC Ty.str x3, ZC Zi x4, ZC Zi x5, ZC Ty.str x6, ZC ZA.rose.slice x7], XV.mk false [X.c (X0.rptr Zi x8)]] = chk ((Sp.m1 (0 : Nat) x7).blt N) (ZB (Sp.deepT (Sp.mkT (x0, x1, x2, x3, x4, x5, x6, x7)) (IntKind.i64.wrap (x8 - (1 : Int))))) := by kernel_rfl

theorem f1026d_raw (N : Nat) (x0 : List ZT) (x1 : Int) : abody Γ (orc [e1024n N, e1034n N, e1026dn N, e1035dn N]) 0 35 [ZX ZA.rose.slice x0, XV.mk false [X.c (X0.fn (64 : Nat) [Sigma.mk Zi x1])]] = chk ((Sp.m4 (1 : Nat) x0).blt N) (ZB (decide (Sp.idxD x0 x1 ≥ (0 : Int)))) := by kernel_rfl

noncomputable def f1035d_L0 (n N m0 : Nat) (y0 : List ZT) (y1 y2 y3 : Int) : Option Res := loopAt Γ (orc [e1024n N, e1034n N, e1026dn N, e1035dn N]) n (53 : Nat) (0 : Nat) [] [Pth.r, Pth.l, Pth.r, Pth.b] m0 (St.mk (ZS ZA.rose.slice y0 :: Slot.val (Val.one (Cell.fn (64 : Nat) [Sigma.mk Zi y1])) :: ZN 5 (ZS Zi y2 :: ZS Zi y3 :: ZN 10 [])) [])
theorem f1035d_L0_step (n N m0 : Nat) (y0 : List ZT) (y1 y2 y3 : Int) : f1035d_L0 n N (m0 + 1) y0 y1 y2 y3 = bif decide (y3 < y2) then chk (decide ((0 : Int) ≤ y3) && decide (y3 < (↑y0.length : Int))) (chk ((Sp.m1 (1 : Nat) (y0.getD y3.toNat ZR).kids).blt N) (bif Sp.deepT (Sp.mkT ((y0.getD y3.toNat ZR).a.1, (y0.getD y3.toNat ZR).a.2.1, (y0.getD y3.toNat ZR).a.2.2.1, (y0.getD y3.toNat ZR).a.2.2.2.1, (y0.getD y3.toNat ZR).a.2.2.2.2.1, (y0.getD y3.toNat ZR).a.2.2.2.2.2.1, (y0.getD y3.toNat ZR).a.2.2.2.2.2.2, (y0.getD y3.toNat ZR).kids)) (Sp.predL y1) then ZJ y3 else f1035d_L0 n N m0 y0 y1 y2 (IntKind.i64.wrap (y3 + (1 : Int))))) else ZJ (-1 : Int) := by kernel_rfl
theorem f1035d_raw (n N : Nat) (x0 : List ZT) (x1 : Int) : abody Γ (orc [e1024n N, e1034n N, e1026dn N, e1035dn N]) n 53 [ZX ZA.rose.slice x0, XV.mk false [X.c (X0.fn (64 : Nat) [Sigma.mk Zi x1])]] = f1035d_L0 n N n x0 x1 (↑x0.length : Int) (0 : Int) := by kernel_rfl

theorem deepTs_any (l : Int) : ∀ ks : List RT, Sp.anyW (fun r => Sp.deepT r (Sp.predL l)) ks = Sp.deepTs ks l
  | [] => by rw [Sp.deepTs]; rfl
  | r :: k => by rw [Sp.deepTs, Sp.anyW, deepTs_any l k]
noncomputable abbrev recDp : List REnt := [⟨e1024, fun a => Sp.m1 0 a.1.2.2.2.2.2.2.2⟩, ⟨e1034, fun a => Sp.m1 1 a.1.2.2.2.2.2.2.2⟩, ⟨e1026d, fun a => Sp.m4 2 a.1⟩, ⟨e1035d, fun a => Sp.m4 1 a.1⟩]
theorem e1024_core (x0 x1 : Int) (x2 x3 : ByteArray) (x4 x5 : Int) (x6 : ByteArray) (x7 : List RT) (x8 : Int) : abody Γ (orc (belows (Sp.m1 0 x7) recDp ++ [])) 0 n1024 (e1024.args ((x0, x1, x2, x3, x4, x5, x6, x7), x8)) = some (e1024.res ((x0, x1, x2, x3, x4, x5, x6, x7), x8)) := by
  refine (f1024_raw _ x0 x1 x2 x3 x4 x5 x6 x7 x8).trans ?_
  have e : Sp.deepT (Rose.mk (x0, x1, x2, x3, (x4, x5, x6)) x7) x8 = bif x8 == 0 then true else Sp.deepTs x7 x8 := by rw [Sp.deepT]
  refine Eq.trans ?_ (congrArg (fun z => some (rBo z)) e.symm)
  rw [condB, blt_mk (show Sp.m4 2 x7 < Sp.m1 0 x7 by unfold Sp.m4 Sp.m1 Sp.rsz1; omega), chkT]
theorem e1034_core (x0 x1 : Int) (x2 x3 : ByteArray) (x4 x5 : Int) (x6 : ByteArray) (x7 : List RT) (x8 : Int) : abody Γ (orc (belows (Sp.m1 1 x7) recDp ++ [])) 0 n1034 (e1034.args ((x0, x1, x2, x3, x4, x5, x6, x7), x8)) = some (e1034.res ((x0, x1, x2, x3, x4, x5, x6, x7), x8)) := by
  refine (f1034_raw _ x0 x1 x2 x3 x4 x5 x6 x7 x8).trans ?_
  rw [blt_mk (show Sp.m1 0 x7 < Sp.m1 1 x7 by unfold Sp.m1; omega), chkT]
  rfl
theorem e1026d_core (xs : List RT) (l : Int) : abody Γ (orc (belows (Sp.m4 2 xs) recDp ++ [])) 0 n1026 (e1026d.args (xs, l)) = some (e1026d.res (xs, l)) := by
  refine (f1026d_raw _ xs l).trans ?_
  rw [blt_mk (show Sp.m4 1 xs < Sp.m4 2 xs by unfold Sp.m4; omega), chkT]
  have e : decide (Sp.idxD xs l ≥ 0) = Sp.deepTs xs l := by
    rw [← deepTs_any]
    exact idx_any _ xs 0 (Int.le_refl 0)
  exact congrArg (fun z => some (rBo z)) e
theorem e1035d_core (xs : List RT) (l : Int) (hl : xs.length ≤ maxLen) : ∃ n, abody Γ (orc (belows (Sp.m4 1 xs) recDp ++ [])) n n1035 (e1035d.args (xs, l)) = some (e1035d.res (xs, l)) := by
  have hl : xs.length ≤ 9223372036854775807 := hl
  refine ⟨xs.length + 1, (f1035d_raw _ _ xs l).trans ?_⟩
  refine idx_loop (p := fun r => Sp.deepT r (Sp.predL l)) (R := rI) xs (fun m k => f1035d_L0 (xs.length + 1) (Sp.m4 1 xs) m xs l xs.length k) (fun m k hk => ?_) (fun m k h => ?_) xs.length 0 _ (Nat.zero_add _) (Nat.lt_succ_self _)
  · show f1035d_L0 _ _ _ _ _ _ _ = _
    rw [f1035d_L0_step, nat_ge hk, cond_false]
  · show f1035d_L0 _ _ _ _ _ _ _ = _
    have hb := rsz1_mem (List.getElem_mem h)
    rw [f1035d_L0_step, nat_lt h, cond_true, guard0, chkT, getD_nat xs k _ h, next64 h hl, blt_mk (show Sp.m1 1 xs[k].kids < Sp.m4 1 xs by unfold Sp.m1 Sp.m4; omega), chkT]
    show (bif Sp.deepT (Sp.mkT (Sp.unT xs[k])) (Sp.predL l) then _ else _) = _
    rw [mkT_un]
theorem recDp_ok : ∀ r ∈ recDp, Valid PP Γ r.e :=
  valid_recs ok _ (rcons ⟨[], vnil, fun a _ _ => ⟨0, e1024_core a.1.1 a.1.2.1 a.1.2.2.1 a.1.2.2.2.1 a.1.2.2.2.2.1 a.1.2.2.2.2.2.1 a.1.2.2.2.2.2.2.1 a.1.2.2.2.2.2.2.2 a.2⟩⟩
    (rcons ⟨[], vnil, fun a _ _ => ⟨0, e1034_core a.1.1 a.1.2.1 a.1.2.2.1 a.1.2.2.2.1 a.1.2.2.2.2.1 a.1.2.2.2.2.2.1 a.1.2.2.2.2.2.2.1 a.1.2.2.2.2.2.2.2 a.2⟩⟩
    (rcons ⟨[], vnil, fun a _ _ => ⟨0, e1026d_core a.1 a.2⟩⟩ (rcons ⟨[], vnil, fun a _ hl => e1035d_core a.1 a.2 (hl _ (List.mem_cons_self) _ (List.mem_cons_self)).1⟩ rnil))))
theorem e1024_ok : Valid PP Γ e1024 := recDp_ok _ (List.mem_cons_self)
mutual
def Sp.cntT : RT → Nat
  | .mk _ ks => 1 + Sp.cntTs ks
def Sp.cntTs : List RT → Nat
  | [] => 0
  | r :: l => Sp.cntT r + Sp.cntTs l
end
def Sp.cnt32 (l : List RT) : Bool := Nat.ble (Sp.cntTs l) 1000000000000
noncomputable def e1025 : Ent := { f := n1025, ins := [Sh.agg aT], outs := [Sh.one cI], upd := [], pre := fun a => Sp.cnt32 a.2.2.2.2.2.2.2, spec := fun a => ((1 + Sp.cntTs a.2.2.2.2.2.2.2 : Nat) : Int), wrt := fun _ => () }
noncomputable def e1025n (N : Nat) : Ent := e1025.below (fun a => Sp.rsz1 a.2.2.2.2.2.2.2) N
noncomputable def f1025_L0 (n N m0 : Nat) (y0 : Int) (y1 : List ZT) (y2 y3 : Int) : Option Res := loopAt Γ (orc [e1025n N]) n (49 : Nat) (0 : Nat) [] [Pth.r, Pth.r, Pth.l, Pth.r, Pth.b] m0 (St.mk (ZN 3 (ZS Zi y0 :: ZN 3 (ZS ZA.rose.slice y1 :: ZS Zi y2 :: ZS Zi y3 :: ZN 9 []))) [])
theorem f1025_L0_step (n N m0 : Nat) (y0 : Int) (y1 : List ZT) (y2 y3 : Int) : f1025_L0 n N (m0 + 1) y0 y1 y2 y3 = bif decide (y3 < y2) then chk (decide ((0 : Int) ≤ y3) && decide (y3 < (↑y1.length : Int))) (chk (Sp.cnt32 (y1.getD y3.toNat ZR).kids && (Sp.rsz1 (y1.getD y3.toNat ZR).kids).blt N) (f1025_L0 n N m0 (IntKind.i64.wrap (y0 + (↑((1 : Nat) + Sp.cntTs (y1.getD y3.toNat ZR).kids) : Int))) y1 y2 (IntKind.i64.wrap (y3 + (1 : Int))))) else ZJ y0 := by kernel_rfl
theorem f1025_raw (n N : Nat) (x0 x1 : Int) (x2 x3 : ByteArray) (x4 x5 : Int) (x6 : ByteArray) (x7 : List ZT) : abody Γ (orc [e1025n N]) n 49 [XV.mk true [ZC Zi x0, ZC Zi x1, ZC Ty.str x2, ZC Ty.str x3, ZC Zi x4, ZC Zi x5, ZC Ty.str x6, ZC ZA.rose.slice x7]] = f1025_L0 n N n (1 : Int) x7 (↑x7.length : Int) (0 : Int) := by kernel_rfl

def Sp.succL (l : Int) : Int := IntKind.i64.wrap (l + 1)
mutual
def Sp.leftT : RT → Int → Int → Int
  | .mk _ ks, l, d => bif decide (d > 20) then -1 else Sp.leftTs ks (Sp.predL l) d
def Sp.leftTs : List RT → Int → Int → Int
  | [], l, _ => l
  | r :: k, l, d => bif decide (l ≥ 0) then Sp.leftTs k (Sp.leftT r l (Sp.succL d)) d else l
end
noncomputable def e1018 : Ent := { f := n1018, ins := [Sh.agg aT, Sh.one cI, Sh.one cI], outs := [Sh.one cI], upd := [], pre := fun a => true, spec := fun a => Sp.leftT (Sp.mkT a.1) a.2.1 a.2.2, wrt := fun _ => () }
noncomputable def e1018n (N : Nat) : Ent := e1018.below (fun a => Sp.rsz1 a.1.2.2.2.2.2.2.2) N
noncomputable def f1018_L0 (n N m0 : Nat) (y0 y1 y2 y3 y4 : Int) (y5 y6 : ByteArray) (y7 y8 : Int) (y9 : ByteArray) (y10 : List ZT) : Option Res := loopAt Γ (orc [e1018n N]) n (25 : Nat) (0 : Nat) [] [Pth.r, Pth.r, Pth.r, Pth.l, Pth.r, Pth.b] m0 (St.mk (Zn :: ZS Zi y0 :: ZS Zi y1 :: Slot.val (Val.one (Cell.ptr (0 : Nat) (0 : Nat))) :: ZN 3 (ZS Zi y2 :: ZN 25 [])) [AObj.box (34 : Nat) [Cell.dat Zi y3, Cell.dat Zi y4, Cell.dat Ty.str y5, Cell.dat Ty.str y6, Cell.dat Zi y7, Cell.dat Zi y8, Cell.dat Ty.str y9, Cell.dat ZA.rose.slice y10]])
theorem f1018_L0_step (n N m0 : Nat) (y0 y1 y2 y3 y4 : Int) (y5 y6 : ByteArray) (y7 y8 : Int) (y9 : ByteArray) (y10 : List ZT) : f1018_L0 n N (m0 + 1) y0 y1 y2 y3 y4 y5 y6 y7 y8 y9 y10 = bif decide (y2 < (↑y10.length : Int)) then bif decide (y0 ≥ (0 : Int)) then chk (decide ((0 : Int) ≤ y2) && decide (y2 < (↑y10.length : Int))) (chk ((Sp.rsz1 (y10.getD y2.toNat ZR).kids).blt N) (f1018_L0 n N m0 (Sp.leftT (Sp.mkT ((y10.getD y2.toNat ZR).a.1, (y10.getD y2.toNat ZR).a.2.1, (y10.getD y2.toNat ZR).a.2.2.1, (y10.getD y2.toNat ZR).a.2.2.2.1, (y10.getD y2.toNat ZR).a.2.2.2.2.1, (y10.getD y2.toNat ZR).a.2.2.2.2.2.1, (y10.getD y2.toNat ZR).a.2.2.2.2.2.2, (y10.getD y2.toNat ZR).kids)) y0 (IntKind.i64.wrap (y1 + (1 : Int)))) y1 (IntKind.i64.wrap (y2 + (1 : Int))) y3 y4 y5 y6 y7 y8 y9 y10)) else ZJ y0 else ZJ y0 := by kernel_rfl
theorem f1018_raw (n N : Nat) (x0 x1 : Int) (x2 x3 : ByteArray) (x4 x5 : Int) (x6 : ByteArray) (x7 : List ZT) (x8 x9 : Int) : abody Γ (orc [e1018n N]) n 25 [XV.mk true [ZC Zi x0, ZC Zi x1, ZC Ty.str x2, ZC Ty.str x3, ZC Zi x4, ZC Zi x5, ZC Ty.str x6, ZC ZA.rose.slice x7], ZX Zi x8, ZX Zi x9] = bif decide (x9 > (20 : Int)) then ZJ (-1 : Int) else f1018_L0 n N n (IntKind.i64.wrap (x8 - (1 : Int))) x9 (0 : Int) x0 x1 x2 x3 x4 x5 x6 x7 := by kernel_rfl

end Go.Proofs.GR.T

set_option maxRecDepth 100000
set_option maxHeartbeats 100000000
namespace Go.Proofs.GR.T
open Go Go.Proofs Go.Proofs.GR
theorem cnt_kids (r : RT) : 1 + Sp.cntTs r.kids = Sp.cntT r := by cases r with | mk a ks => rw [Sp.cntT]; rfl
theorem cnt_mem : ∀ {l : List RT} {r : RT}, r ∈ l → Sp.cntT r ≤ Sp.cntTs l
  | x :: l, r, h => by
    rw [Sp.cntTs]
    rcases List.mem_cons.1 h with rfl | h
    · omega
    · have := cnt_mem h; omega
theorem cnt32_of {l : List RT} (h : Sp.cnt32 l = true) : Sp.cntTs l ≤ 1000000000000 := Nat.le_of_ble_eq_true h
theorem cnt32_mk {l : List RT} (h : Sp.cntTs l ≤ 1000000000000) : Sp.cnt32 l = true := Nat.ble_eq_true_of_le h
theorem cnt_len : ∀ l : List RT, l.length ≤ Sp.cntTs l
  | [] => Nat.zero_le _
  | r :: l => by rw [Sp.cntTs, List.length_cons, ← cnt_kids]; have := cnt_len l; omega
noncomputable abbrev recSz : List REnt := [⟨e1025, fun a => Sp.rsz1 a.2.2.2.2.2.2.2⟩]
theorem f1025_loop (n : Nat) (xs : List RT) (hc : Sp.cntTs xs ≤ 1000000000000) : ∀ (d k m v : Nat), k + d = xs.length → d < m → v + Sp.cntTs (xs.drop k) ≤ 2000000000000 → f1025_L0 n (Sp.rsz1 xs) m v xs xs.length k = some (rI ((v + Sp.cntTs (xs.drop k) : Nat) : Int)) := by
  have hl := cnt_len xs
  intro d
  induction d with
  | zero =>
    intro k m v hk hm h1
    obtain ⟨m, rfl⟩ := succ_of hm
    rw [f1025_L0_step, nat_ge (by omega), cond_false, List.drop_of_length_le (by omega), Sp.cntTs]
    rfl
  | succ d ih =>
    intro k m v hk hm h1
    obtain ⟨m, rfl⟩ := succ_of hm
    have h : k < xs.length := by omega
    have hb := rsz1_mem (List.getElem_mem h)
    have hm2 := cnt_mem (List.getElem_mem h)
    have hk2 := cnt_kids xs[k]
    rw [List.drop_eq_getElem_cons h, Sp.cntTs] at h1
    rw [f1025_L0_step, nat_lt h, cond_true, guard0, chkT, getD_nat xs k _ h, next64 h (by omega), cnt32_mk (by omega), blt_mk (show Sp.rsz1 xs[k].kids < Sp.rsz1 xs by unfold Sp.rsz1 at hb ⊢; omega), Bool.and_self, chkT, hk2, wrap64 (n := (v : Int) + (Sp.cntT xs[k] : Int)) (by omega) (by omega)]
    have := ih (k + 1) m (v + Sp.cntT xs[k]) (by omega) (by omega) (by omega)
    rw [Int.natCast_add] at this
    rw [this, List.drop_eq_getElem_cons h, Sp.cntTs]
    exact congrArg (fun z => some (rI z)) (by omega)
theorem e1025_core (x0 x1 : Int) (x2 x3 : ByteArray) (x4 x5 : Int) (x6 : ByteArray) (x7 : List RT) (h : Sp.cnt32 x7 = true) : ∃ n, abody Γ (orc (belows (Sp.rsz1 x7) recSz ++ [])) n n1025 (e1025.args (x0, x1, x2, x3, x4, x5, x6, x7)) = some (e1025.res (x0, x1, x2, x3, x4, x5, x6, x7)) := by
  have hc := cnt32_of h
  refine ⟨x7.length + 1, (f1025_raw _ _ x0 x1 x2 x3 x4 x5 x6 x7).trans ?_⟩
  exact f1025_loop _ x7 hc x7.length 0 _ 1 (Nat.zero_add _) (Nat.lt_succ_self _) (by rw [List.drop_zero]; omega)
theorem e1025_ok : Valid PP Γ e1025 := valid_recs ok recSz (rcons ⟨[], vnil, fun a ha _ => e1025_core a.1 a.2.1 a.2.2.1 a.2.2.2.1 a.2.2.2.2.1 a.2.2.2.2.2.1 a.2.2.2.2.2.2.1 a.2.2.2.2.2.2.2 ha⟩ rnil) _ (List.mem_cons_self)
noncomputable abbrev recLf : List REnt := [⟨e1018, fun a => Sp.rsz1 a.1.2.2.2.2.2.2.2⟩]
theorem f1018_loop (n : Nat) (xs : List RT) (hl : xs.length ≤ 9223372036854775807) (dp y3 y4 : Int) (y5 y6 : ByteArray) (y7 y8 : Int) (y9 : ByteArray) : ∀ (d k m : Nat) (v : Int), k + d = xs.length → d < m → f1018_L0 n (Sp.rsz1 xs) m v dp k y3 y4 y5 y6 y7 y8 y9 xs = some (rI (Sp.leftTs (xs.drop k) v dp)) := by
  intro d
  induction d with
  | zero =>
    intro k m v hk hm
    obtain ⟨m, rfl⟩ := succ_of hm
    rw [f1018_L0_step, nat_ge (by omega), cond_false, List.drop_of_length_le (by omega), Sp.leftTs]
  | succ d ih =>
    intro k m v hk hm
    obtain ⟨m, rfl⟩ := succ_of hm
    have h : k < xs.length := by omega
    have hb := rsz1_mem (List.getElem_mem h)
    rw [f1018_L0_step, nat_lt h, cond_true, List.drop_eq_getElem_cons h, Sp.leftTs, guard0, chkT, getD_nat xs k _ h, next64 h hl, blt_mk (show Sp.rsz1 xs[k].kids < Sp.rsz1 xs by unfold Sp.rsz1 at hb ⊢; omega), chkT]
    show (bif decide (v ≥ 0) then f1018_L0 _ _ _ (Sp.leftT (Sp.mkT (Sp.unT xs[k])) v (Sp.succL dp)) _ _ _ _ _ _ _ _ _ _ else _) = _
    rw [mkT_un, ih (k + 1) m _ (by omega) (by omega), condI]
theorem e1018_core (x0 x1 : Int) (x2 x3 : ByteArray) (x4 x5 : Int) (x6 : ByteArray) (x7 : List RT) (x8 x9 : Int) (hl : x7.length ≤ maxLen) : ∃ n, abody Γ (orc (belows (Sp.rsz1 x7) recLf ++ [])) n n1018 (e1018.args ((x0, x1, x2, x3, x4, x5, x6, x7), x8, x9)) = some (e1018.res ((x0, x1, x2, x3, x4, x5, x6, x7), x8, x9)) := by
  refine ⟨x7.length + 1, (f1018_raw _ _ x0 x1 x2 x3 x4 x5 x6 x7 x8 x9).trans ?_⟩
  have e : Sp.leftT (Rose.mk (x0, x1, x2, x3, (x4, x5, x6)) x7) x8 x9 = bif decide (x9 > 20) then -1 else Sp.leftTs x7 (Sp.predL x8) x9 := by rw [Sp.leftT]
  refine Eq.trans ?_ (congrArg (fun z => some (rI z)) e.symm)
  rw [condI]
  have := f1018_loop (x7.length + 1) x7 hl x9 x0 x1 x2 x3 x4 x5 x6 x7.length 0 (x7.length + 1) (Sp.predL x8) (Nat.zero_add _) (Nat.lt_succ_self _)
  rw [List.drop_zero] at this
  rw [← this]
  rfl
theorem e1018_ok : Valid PP Γ e1018 := valid_recs ok recLf (rcons ⟨[], vnil, fun a _ hl => e1018_core a.1.1 a.1.2.1 a.1.2.2.1 a.1.2.2.2.1 a.1.2.2.2.2.1 a.1.2.2.2.2.2.1 a.1.2.2.2.2.2.2.1 a.1.2.2.2.2.2.2.2 a.2.1 a.2.2 (hl _ (List.mem_cons_self) _ (List.mem_cons_of_mem _ (List.mem_cons_of_mem _ (List.mem_cons_of_mem _ (List.mem_cons_of_mem _ (List.mem_cons_of_mem _ (List.mem_cons_of_mem _ (List.mem_cons_of_mem _ (List.mem_cons_self))))))))).1⟩ rnil) _ (List.mem_cons_self)
def Sp.f1020_pre (x0 x1 : Int) (x2 x3 : ByteArray) (x4 x5 : Int) (x6 : ByteArray) (x7 : List ZT) : Bool := (bif !Sp.deepT (Sp.mkT (x0, x1, x2, x3, x4, x5, x6, x7)) (20 : Int) then (Sp.cnt32 x7) else true)
def Sp.f1020 (x0 x1 : Int) (x2 x3 : ByteArray) (x4 x5 : Int) (x6 : ByteArray) (x7 : List ZT) := (bif !Sp.deepT (Sp.mkT (x0, x1, x2, x3, x4, x5, x6, x7)) (20 : Int) then (decide ((↑((1 : Nat) + Sp.cntTs x7) : Int) ≤ (120 : Int)), ()) else (false, ()))
noncomputable def e1020 : Ent := { f := 31, ins := [Sh.agg [C0.dat Zi, C0.dat Zi, C0.dat Ty.str, C0.dat Ty.str, C0.dat Zi, C0.dat Zi, C0.dat Ty.str, C0.dat ZA.rose.slice]], outs := [Sh.one (C0.dat Ty.bool)], upd := [], pre := fun a => Sp.f1020_pre a.1 a.2.1 a.2.2.1 a.2.2.2.1 a.2.2.2.2.1 a.2.2.2.2.2.1 a.2.2.2.2.2.2.1 a.2.2.2.2.2.2.2, spec := fun a => (Sp.f1020 a.1 a.2.1 a.2.2.1 a.2.2.2.1 a.2.2.2.2.1 a.2.2.2.2.2.1 a.2.2.2.2.2.2.1 a.2.2.2.2.2.2.2).1, wrt := fun a => (Sp.f1020 a.1 a.2.1 a.2.2.1 a.2.2.2.1 a.2.2.2.2.1 a.2.2.2.2.2.1 a.2.2.2.2.2.2.1 a.2.2.2.2.2.2.2).2 }
def f1020_g (v : denS [Sh.one (C0.dat Ty.bool)] × denS []) : Res := ⟨mkS [Sh.one (C0.dat Ty.bool)] v.1, mkU [] v.2⟩
theorem f1020_form (x0 x1 : Int) (x2 x3 : ByteArray) (x4 x5 : Int) (x6 : ByteArray) (x7 : List ZT) : abody Γ (orc [e1024, e1025]) 0 31 [XV.mk true [ZC Zi x0, ZC Zi x1, ZC Ty.str x2, ZC Ty.str x3, ZC Zi x4, ZC Zi x5, ZC Ty.str x6, ZC ZA.rose.slice x7]] = chk (Sp.f1020_pre x0 x1 x2 x3 x4 x5 x6 x7) (some (f1020_g (Sp.f1020 x0 x1 x2 x3 x4 x5 x6 x7))) := by
  refine Eq.trans (b := bif !Sp.deepT (Sp.mkT (x0, x1, x2, x3, x4, x5, x6, x7)) (20 : Int) then chk (Sp.cnt32 x7) (ZB (decide ((↑((1 : Nat) + Sp.cntTs x7) : Int) ≤ (120 : Int)))) else Zf) (by kernel_rfl) ?_
  unfold Sp.f1020_pre Sp.f1020
  exact (cond_step f1020_g ((chk_last (rfl))) ((lift_plain (rfl))))
theorem e1020_ok : Valid PP Γ e1020 := valid_auto ok (vcons e1024_ok (vcons e1025_ok vnil)) fun a => f1020_form a.1 a.2.1 a.2.2.1 a.2.2.2.1 a.2.2.2.2.1 a.2.2.2.2.2.1 a.2.2.2.2.2.2.1 a.2.2.2.2.2.2.2

end Go.Proofs.GR.T

set_option maxRecDepth 100000
set_option maxHeartbeats 100000000
namespace Go.Proofs.GR.T
open Go Go.Proofs Go.Proofs.GR
def Sp.f1029_pre (x0 : ByteArray) : Bool := (x0.size.ble (9223372036854775807 : Nat))
def Sp.f1029 (x0 : ByteArray) := (bif Sp.isName (strBytes x0) then (!(Sp.f1031 Sp.f1037.1 x0).1, ()) else (false, ()))
noncomputable def e1029 : Ent := { f := 34, ins := [Sh.one (C0.dat Ty.str)], outs := [Sh.one (C0.dat Ty.bool)], upd := [], pre := fun a => Sp.f1029_pre a, spec := fun a => (Sp.f1029 a).1, wrt := fun a => (Sp.f1029 a).2 }
def f1029_g (v : denS [Sh.one (C0.dat Ty.bool)] × denS []) : Res := ⟨mkS [Sh.one (C0.dat Ty.bool)] v.1, mkU [] v.2⟩
theorem f1029_form (x0 : ByteArray) : abody Γ (orc [e1036, e1037, e1031]) 0 34 [ZX Ty.str x0] = chk (Sp.f1029_pre x0) (some (f1029_g (Sp.f1029 x0))) := by
  refine Eq.trans (b := chk (x0.size.ble (9223372036854775807 : Nat)) (bif Sp.isName (strBytes x0) then some (Res.mk [XV.mk false [X.c (X0.dat Ty.bool !(Sp.f1031 Sp.f1037.1 x0).1)]] []) else Zf)) (by kernel_rfl) ?_
  unfold Sp.f1029_pre Sp.f1029
  exact (chk_last ((cond_plain f1029_g (rfl) (rfl))))
theorem e1029_ok : Valid PP Γ e1029 := valid_auto ok (vcons e1036_ok (vcons e1037_ok (vcons e1031_ok vnil))) fun a => f1029_form a

def Sp.f1030_pre (x0 : ByteArray) : Bool := (bif x0.toList == (ByteArray.mk #[]).toList then true else (Sp.f1029_pre x0))
def Sp.f1030 (x0 : ByteArray) := (bif x0.toList == (ByteArray.mk #[]).toList then (true, ()) else ((Sp.f1029 x0).1, ()))
noncomputable def e1030 : Ent := { f := 57, ins := [Sh.one (C0.dat Ty.str)], outs := [Sh.one (C0.dat Ty.bool)], upd := [], pre := fun a => Sp.f1030_pre a, spec := fun a => (Sp.f1030 a).1, wrt := fun a => (Sp.f1030 a).2 }
def f1030_g (v : denS [Sh.one (C0.dat Ty.bool)] × denS []) : Res := ⟨mkS [Sh.one (C0.dat Ty.bool)] v.1, mkU [] v.2⟩
theorem f1030_form (x0 : ByteArray) : abody Γ (orc [e1029]) 0 57 [ZX Ty.str x0] = chk (Sp.f1030_pre x0) (some (f1030_g (Sp.f1030 x0))) := by
  refine Eq.trans (b := bif x0.toList == (ByteArray.mk #[]).toList then Zt else chk (Sp.f1029_pre x0) (ZB (Sp.f1029 x0).1)) (by kernel_rfl) ?_
  unfold Sp.f1030_pre Sp.f1030
  exact (cond_step f1030_g ((lift_plain (rfl))) ((chk_last (rfl))))
theorem e1030_ok : Valid PP Γ e1030 := valid_auto ok (vcons e1029_ok vnil) fun a => f1030_form a

end Go.Proofs.GR.T

set_option maxRecDepth 100000
set_option maxHeartbeats 100000000
namespace Go.Proofs.GR.T
open Go Go.Proofs Go.Proofs.GR
def Sp.f1033 := ([ByteArray.mk #[99, 111, 117, 110, 116], ByteArray.mk #[115, 117, 109], ByteArray.mk #[109, 105, 110], ByteArray.mk #[109, 97, 120]], ())
noncomputable def e1033 : Ent := { f := 59, ins := [], outs := [Sh.one (C0.row Ty.str)], upd := [], pre := fun a => true, spec := fun a => (Sp.f1033).1, wrt := fun a => (Sp.f1033).2 }
def f1033_g (v : denS [Sh.one (C0.row Ty.str)] × denS []) : Res := ⟨mkS [Sh.one (C0.row Ty.str)] v.1, mkU [] v.2⟩
theorem f1033_raw : abody Γ (orc []) 0 59 [] = some (Res.mk [XV.mk false [X.c (X0.row Ty.str [ByteArray.mk #[99, 111, 117, 110, 116], ByteArray.mk #[115, 117, 109], ByteArray.mk #[109, 105, 110], ByteArray.mk #[109, 97, 120]] true)]] []) := by kernel_rfl
theorem f1033_form : (some (Res.mk [XV.mk false [X.c (X0.row Ty.str [ByteArray.mk #[99, 111, 117, 110, 116], ByteArray.mk #[115, 117, 109], ByteArray.mk #[109, 105, 110], ByteArray.mk #[109, 97, 120]] true)]] [])) = some (f1033_g (Sp.f1033)) := by
  unfold Sp.f1033
  exact rfl
theorem e1033_ok : Valid PP Γ e1033 := valid_auto ok vnil fun a => (f1033_raw ).trans (f1033_form )

def Sp.f1038 (x0 : Int) := (bif x0 == (1 : Int) then ([ByteArray.mk #[111, 114]], ()) else (bif x0 == (2 : Int) then ([ByteArray.mk #[97, 110, 100]], ()) else (bif x0 == (4 : Int) then ([ByteArray.mk #[61], ByteArray.mk #[60, 62], ByteArray.mk #[60], ByteArray.mk #[60, 61], ByteArray.mk #[62], ByteArray.mk #[62, 61]], ()) else (bif x0 == (5 : Int) then ([ByteArray.mk #[43], ByteArray.mk #[45]], ()) else (bif x0 == (6 : Int) then ([ByteArray.mk #[42], ByteArray.mk #[47], ByteArray.mk #[37]], ()) else ([], ()))))))
noncomputable def e1038 : Ent := { f := 70, ins := [Sh.one ZI], outs := [Sh.one (C0.row Ty.str)], upd := [], pre := fun a => true, spec := fun a => (Sp.f1038 a).1, wrt := fun a => (Sp.f1038 a).2 }
def f1038_g (v : denS [Sh.one (C0.row Ty.str)] × denS []) : Res := ⟨mkS [Sh.one (C0.row Ty.str)] v.1, mkU [] v.2⟩
theorem f1038_form (x0 : Int) : abody Γ (orc []) 0 70 [ZX Zi x0] = some (f1038_g (Sp.f1038 x0)) := by
  refine Eq.trans (b := bif x0 == (1 : Int) then some (Res.mk [XV.mk false [X.c (X0.row Ty.str [ByteArray.mk #[111, 114]] true)]] []) else bif x0 == (2 : Int) then some (Res.mk [XV.mk false [X.c (X0.row Ty.str [ByteArray.mk #[97, 110, 100]] true)]] []) else bif x0 == (4 : Int) then some (Res.mk [XV.mk false [X.c (X0.row Ty.str [ByteArray.mk #[61], ByteArray.mk #[60, 62], ByteArray.mk #[60], ByteArray.mk #[60, 61], ByteArray.mk #[62], ByteArray.mk #[62, 61]] true)]] []) else bif x0 == (5 : Int) then some (Res.mk [XV.mk false [X.c (X0.row Ty.str [ByteArray.mk #[43], ByteArray.mk #[45]] true)]] []) else bif x0 == (6 : Int) then some (Res.mk [XV.mk false [X.c (X0.row Ty.str [ByteArray.mk #[42], ByteArray.mk #[47], ByteArray.mk #[37]] true)]] []) else some (Res.mk [XV.mk false [X.c (X0.row Ty.str [] true)]] [])) (by kernel_rfl) ?_
  unfold Sp.f1038
  exact (cond_plain f1038_g (rfl) ((cond_plain f1038_g (rfl) ((cond_plain f1038_g (rfl) ((cond_plain f1038_g (rfl) ((cond_plain f1038_g (rfl) (rfl))))))))))
theorem e1038_ok : Valid PP Γ e1038 := valid_auto ok vnil fun a => f1038_form a

noncomputable def f1032_L0 (n m0 : Nat) (y0 : ByteArray) (y1 : Int) : Option Res := loopAt Γ (orc [e1038, e1031]) n (58 : Nat) (0 : Nat) [] [Pth.r, Pth.l, Pth.r, Pth.b] m0 (St.mk (ZS Ty.str y0 :: ZN 3 (ZS Zi y1 :: ZN 8 [])) [])
theorem f1032_L0_step (n m0 : Nat) (y0 : ByteArray) (y1 : Int) : f1032_L0 n (m0 + 1) y0 y1 = bif decide (y1 < (7 : Int)) then bif (Sp.f1031 (Sp.f1038 y1).1 y0).1 then ZJ y1 else f1032_L0 n m0 y0 (IntKind.i64.wrap (y1 + (1 : Int))) else ZJ (0 : Int) := by kernel_rfl
theorem f1032_raw (n : Nat) (x0 : ByteArray) : abody Γ (orc [e1038, e1031]) n 58 [ZX Ty.str x0] = f1032_L0 n n x0 (0 : Int) := by kernel_rfl

def Sp.inOps (t : ByteArray) (i : Int) : Bool := (Sp.f1031 (Sp.f1038 i).1 t).1
def Sp.lev (t : ByteArray) : Int := bif Sp.inOps t 0 then 0 else bif Sp.inOps t 1 then 1 else bif Sp.inOps t 2 then 2 else bif Sp.inOps t 3 then 3 else bif Sp.inOps t 4 then 4 else bif Sp.inOps t 5 then 5 else bif Sp.inOps t 6 then 6 else 0
noncomputable def e1032 : Ent := { f := n1032, ins := [Sh.one cS], outs := [Sh.one cI], upd := [], pre := fun _ => true, spec := fun a => Sp.lev a, wrt := fun _ => () }
theorem f1032_in (n m : Nat) (t : ByteArray) (i : Int) (h0 : 0 ≤ i) (h : i < 7) : f1032_L0 n (m + 1) t i = bif Sp.inOps t i then some (rI i) else f1032_L0 n m t (i + 1) := by
  rw [f1032_L0_step, decide_eq_true h, cond_true, wrap64 (n := i + 1) (by omega) (by omega)]
  rfl
theorem e1032_core (t : ByteArray) : ∃ n, abody Γ (orc [e1038, e1031]) n n1032 [ZX Ty.str t] = some (rI (Sp.lev t)) := by
  refine ⟨8, (f1032_raw _ t).trans ?_⟩
  unfold Sp.lev
  rw [condI, condI, condI, condI, condI, condI, condI, f1032_in _ _ t 0 (by omega) (by omega), f1032_in _ _ t (0 + 1) (by omega) (by omega), f1032_in _ _ t (0 + 1 + 1) (by omega) (by omega), f1032_in _ _ t (0 + 1 + 1 + 1) (by omega) (by omega), f1032_in _ _ t (0 + 1 + 1 + 1 + 1) (by omega) (by omega), f1032_in _ _ t (0 + 1 + 1 + 1 + 1 + 1) (by omega) (by omega), f1032_in _ _ t (0 + 1 + 1 + 1 + 1 + 1 + 1) (by omega) (by omega), f1032_L0_step, decide_eq_false (show ¬ (0 + 1 + 1 + 1 + 1 + 1 + 1 + 1 : Int) < 7 by omega), cond_false]
  rfl
theorem e1032_ok : Valid PP Γ e1032 := valid_of ok (vcons e1038_ok (vcons e1031_ok vnil)) fun a _ => e1032_core a
def Sp.f1028 (x0 x1 : Int) (x2 x3 : ByteArray) (x4 x5 : Int) (x6 : ByteArray) (x7 : List ZT) (x8 x9 x10 x11 : Bool) (x12 : Int) := (bif x8 then (bif x9 then (bif x10 then (bif x11 then (bif decide (x12 < (0 : Int)) then (true, ()) else ((↑x7.length : Int) == x12, ())) else (bif Go.Proofs.GR.eqI x4 (0 : Int) && (Go.Proofs.GR.eqI x5 (0 : Int) && (Go.Proofs.GR.eqS x6 ByteArray.empty && true)) then (bif decide (x12 < (0 : Int)) then (true, ()) else ((↑x7.length : Int) == x12, ())) else (false, ()))) else (bif x3.toList == (ByteArray.mk #[]).toList then (bif x11 then (bif decide (x12 < (0 : Int)) then (true, ()) else ((↑x7.length : Int) == x12, ())) else (bif Go.Proofs.GR.eqI x4 (0 : Int) && (Go.Proofs.GR.eqI x5 (0 : Int) && (Go.Proofs.GR.eqS x6 ByteArray.empty && true)) then (bif decide (x12 < (0 : Int)) then (true, ()) else ((↑x7.length : Int) == x12, ())) else (false, ()))) else (false, ()))) else (bif x2.toList == (ByteArray.mk #[]).toList then (bif x10 then (bif x11 then (bif decide (x12 < (0 : Int)) then (true, ()) else ((↑x7.length : Int) == x12, ())) else (bif Go.Proofs.GR.eqI x4 (0 : Int) && (Go.Proofs.GR.eqI x5 (0 : Int) && (Go.Proofs.GR.eqS x6 ByteArray.empty && true)) then (bif decide (x12 < (0 : Int)) then (true, ()) else ((↑x7.length : Int) == x12, ())) else (false, ()))) else (bif x3.toList == (ByteArray.mk #[]).toList then (bif x11 then (bif decide (x12 < (0 : Int)) then (true, ()) else ((↑x7.length : Int) == x12, ())) else (bif Go.Proofs.GR.eqI x4 (0 : Int) && (Go.Proofs.GR.eqI x5 (0 : Int) && (Go.Proofs.GR.eqS x6 ByteArray.empty && true)) then (bif decide (x12 < (0 : Int)) then (true, ()) else ((↑x7.length : Int) == x12, ())) else (false, ()))) else (false, ()))) else (false, ()))) else (bif x1 == (0 : Int) then (bif x9 then (bif x10 then (bif x11 then (bif decide (x12 < (0 : Int)) then (true, ()) else ((↑x7.length : Int) == x12, ())) else (bif Go.Proofs.GR.eqI x4 (0 : Int) && (Go.Proofs.GR.eqI x5 (0 : Int) && (Go.Proofs.GR.eqS x6 ByteArray.empty && true)) then (bif decide (x12 < (0 : Int)) then (true, ()) else ((↑x7.length : Int) == x12, ())) else (false, ()))) else (bif x3.toList == (ByteArray.mk #[]).toList then (bif x11 then (bif decide (x12 < (0 : Int)) then (true, ()) else ((↑x7.length : Int) == x12, ())) else (bif Go.Proofs.GR.eqI x4 (0 : Int) && (Go.Proofs.GR.eqI x5 (0 : Int) && (Go.Proofs.GR.eqS x6 ByteArray.empty && true)) then (bif decide (x12 < (0 : Int)) then (true, ()) else ((↑x7.length : Int) == x12, ())) else (false, ()))) else (false, ()))) else (bif x2.toList == (ByteArray.mk #[]).toList then (bif x10 then (bif x11 then (bif decide (x12 < (0 : Int)) then (true, ()) else ((↑x7.length : Int) == x12, ())) else (bif Go.Proofs.GR.eqI x4 (0 : Int) && (Go.Proofs.GR.eqI x5 (0 : Int) && (Go.Proofs.GR.eqS x6 ByteArray.empty && true)) then (bif decide (x12 < (0 : Int)) then (true, ()) else ((↑x7.length : Int) == x12, ())) else (false, ()))) else (bif x3.toList == (ByteArray.mk #[]).toList then (bif x11 then (bif decide (x12 < (0 : Int)) then (true, ()) else ((↑x7.length : Int) == x12, ())) else (bif Go.Proofs.GR.eqI x4 (0 : Int) && (Go.Proofs.GR.eqI x5 (0 : Int) && (Go.Proofs.GR.eqS x6 ByteArray.empty && true)) then (bif decide (x12 < (0 : Int)) then (true, ()) else ((↑x7.length : Int) == x12, ())) else (false, ()))) else (false, ()))) else (false, ()))) else (false, ())))
noncomputable def e1028 : Ent := { f := 32, ins := [Sh.agg [C0.dat Zi, C0.dat Zi, C0.dat Ty.str, C0.dat Ty.str, C0.dat Zi, C0.dat Zi, C0.dat Ty.str, C0.dat ZA.rose.slice], Sh.one (C0.dat Ty.bool), Sh.one (C0.dat Ty.bool), Sh.one (C0.dat Ty.bool), Sh.one (C0.dat Ty.bool), Sh.one ZI], outs := [Sh.one (C0.dat Ty.bool)], upd := [], pre := fun a => true, spec := fun a => (Sp.f1028 a.1.1 a.1.2.1 a.1.2.2.1 a.1.2.2.2.1 a.1.2.2.2.2.1 a.1.2.2.2.2.2.1 a.1.2.2.2.2.2.2.1 a.1.2.2.2.2.2.2.2 a.2.1 a.2.2.1 a.2.2.2.1 a.2.2.2.2.1 a.2.2.2.2.2).1, wrt := fun a => (Sp.f1028 a.1.1 a.1.2.1 a.1.2.2.1 a.1.2.2.2.1 a.1.2.2.2.2.1 a.1.2.2.2.2.2.1 a.1.2.2.2.2.2.2.1 a.1.2.2.2.2.2.2.2 a.2.1 a.2.2.1 a.2.2.2.1 a.2.2.2.2.1 a.2.2.2.2.2).2 }
def f1028_g (v : denS [Sh.one (C0.dat Ty.bool)] × denS []) : Res := ⟨mkS [Sh.one (C0.dat Ty.bool)] v.1, mkU [] v.2⟩
theorem f1028_form (x0 x1 : Int) (x2 x3 : ByteArray) (x4 x5 : Int) (x6 : ByteArray) (x7 : List ZT) (x8 x9 x10 x11 : Bool) (x12 : Int) : abody Γ (orc []) 0 32 [XV.mk true [ZC Zi x0, ZC Zi x1, ZC Ty.str x2, ZC Ty.str x3, ZC Zi x4, ZC Zi x5, ZC Ty.str x6, ZC ZA.rose.slice x7], ZX Ty.bool x8, ZX Ty.bool x9, ZX Ty.bool x10, ZX Ty.bool x11, ZX Zi x12] = some (f1028_g (Sp.f1028 x0 x1 x2 x3 x4 x5 x6 x7 x8 x9 x10 x11 x12)) := by
  refine Eq.trans (b := bif x8 then bif x9 then bif x10 then bif x11 then bif decide (x12 < (0 : Int)) then Zt else ZB ((↑x7.length : Int) == x12) else bif Go.Proofs.GR.eqI x4 (0 : Int) && (Go.Proofs.GR.eqI x5 (0 : Int) && (Go.Proofs.GR.eqS x6 ByteArray.empty && true)) then bif decide (x12 < (0 : Int)) then Zt else ZB ((↑x7.length : Int) == x12) else Zf else bif x3.toList == (ByteArray.mk #[]).toList then bif x11 then bif decide (x12 < (0 : Int)) then Zt else ZB ((↑x7.length : Int) == x12) else bif Go.Proofs.GR.eqI x4 (0 : Int) && (Go.Proofs.GR.eqI x5 (0 : Int) && (Go.Proofs.GR.eqS x6 ByteArray.empty && true)) then bif decide (x12 < (0 : Int)) then Zt else ZB ((↑x7.length : Int) == x12) else Zf else Zf else bif x2.toList == (ByteArray.mk #[]).toList then bif x10 then bif x11 then bif decide (x12 < (0 : Int)) then Zt else ZB ((↑x7.length : Int) == x12) else bif Go.Proofs.GR.eqI x4 (0 : Int) && (Go.Proofs.GR.eqI x5 (0 : Int) && (Go.Proofs.GR.eqS x6 ByteArray.empty && true)) then bif decide (x12 < (0 : Int)) then Zt else ZB ((↑x7.length : Int) == x12) else Zf else bif x3.toList == (ByteArray.mk #[]).toList then bif x11 then bif decide (x12 < (0 : Int)) then Zt else ZB ((↑x7.length : Int) == x12) else bif Go.Proofs.GR.eqI x4 (0 : Int) && (Go.Proofs.GR.eqI x5 (0 : Int) && (Go.Proofs.GR.eqS x6 ByteArray.empty && true)) then bif decide (x12 < (0 : Int)) then Zt else ZB ((↑x7.length : Int) == x12) else Zf else Zf else Zf else bif x1 == (0 : Int) then bif x9 then bif x10 then bif x11 then bif decide (x12 < (0 : Int)) then Zt else ZB ((↑x7.length : Int) == x12) else bif Go.Proofs.GR.eqI x4 (0 : Int) && (Go.Proofs.GR.eqI x5 (0 : Int) && (Go.Proofs.GR.eqS x6 ByteArray.empty && true)) then bif decide (x12 < (0 : Int)) then Zt else ZB ((↑x7.length : Int) == x12) else Zf else bif x3.toList == (ByteArray.mk #[]).toList then bif x11 then bif decide (x12 < (0 : Int)) then Zt else ZB ((↑x7.length : Int) == x12) else bif Go.Proofs.GR.eqI x4 (0 : Int) && (Go.Proofs.GR.eqI x5 (0 : Int) && (Go.Proofs.GR.eqS x6 ByteArray.empty && true)) then bif decide (x12 < (0 : Int)) then Zt else ZB ((↑x7.length : Int) == x12) else Zf else Zf else bif x2.toList == (ByteArray.mk #[]).toList then bif x10 then bif x11 then bif decide (x12 < (0 : Int)) then Zt else ZB ((↑x7.length : Int) == x12) else bif Go.Proofs.GR.eqI x4 (0 : Int) && (Go.Proofs.GR.eqI x5 (0 : Int) && (Go.Proofs.GR.eqS x6 ByteArray.empty && true)) then bif decide (x12 < (0 : Int)) then Zt else ZB ((↑x7.length : Int) == x12) else Zf else bif x3.toList == (ByteArray.mk #[]).toList then bif x11 then bif decide (x12 < (0 : Int)) then Zt else ZB ((↑x7.length : Int) == x12) else bif Go.Proofs.GR.eqI x4 (0 : Int) && (Go.Proofs.GR.eqI x5 (0 : Int) && (Go.Proofs.GR.eqS x6 ByteArray.empty && true)) then bif decide (x12 < (0 : Int)) then Zt else ZB ((↑x7.length : Int) == x12) else Zf else Zf else Zf else Zf) (by kernel_rfl) ?_
  unfold Sp.f1028
  exact (cond_plain f1028_g ((cond_plain f1028_g ((cond_plain f1028_g ((cond_plain f1028_g ((cond_plain f1028_g (rfl) (rfl))) ((cond_plain f1028_g ((cond_plain f1028_g (rfl) (rfl))) (rfl))))) ((cond_plain f1028_g ((cond_plain f1028_g ((cond_plain f1028_g (rfl) (rfl))) ((cond_plain f1028_g ((cond_plain f1028_g (rfl) (rfl))) (rfl))))) (rfl))))) ((cond_plain f1028_g ((cond_plain f1028_g ((cond_plain f1028_g ((cond_plain f1028_g (rfl) (rfl))) ((cond_plain f1028_g ((cond_plain f1028_g (rfl) (rfl))) (rfl))))) ((cond_plain f1028_g ((cond_plain f1028_g ((cond_plain f1028_g (rfl) (rfl))) ((cond_plain f1028_g ((cond_plain f1028_g (rfl) (rfl))) (rfl))))) (rfl))))) (rfl))))) ((cond_plain f1028_g ((cond_plain f1028_g ((cond_plain f1028_g ((cond_plain f1028_g ((cond_plain f1028_g (rfl) (rfl))) ((cond_plain f1028_g ((cond_plain f1028_g (rfl) (rfl))) (rfl))))) ((cond_plain f1028_g ((cond_plain f1028_g ((cond_plain f1028_g (rfl) (rfl))) ((cond_plain f1028_g ((cond_plain f1028_g (rfl) (rfl))) (rfl))))) (rfl))))) ((cond_plain f1028_g ((cond_plain f1028_g ((cond_plain f1028_g ((cond_plain f1028_g (rfl) (rfl))) ((cond_plain f1028_g ((cond_plain f1028_g (rfl) (rfl))) (rfl))))) ((cond_plain f1028_g ((cond_plain f1028_g ((cond_plain f1028_g (rfl) (rfl))) ((cond_plain f1028_g ((cond_plain f1028_g (rfl) (rfl))) (rfl))))) (rfl))))) (rfl))))) (rfl))))
theorem e1028_ok : Valid PP Γ e1028 := valid_auto ok vnil fun a => f1028_form a.1.1 a.1.2.1 a.1.2.2.1 a.1.2.2.2.1 a.1.2.2.2.2.1 a.1.2.2.2.2.2.1 a.1.2.2.2.2.2.2.1 a.1.2.2.2.2.2.2.2 a.2.1 a.2.2.1 a.2.2.2.1 a.2.2.2.2.1 a.2.2.2.2.2

end Go.Proofs.GR.T

set_option maxRecDepth 2000000
set_option maxHeartbeats 100000000
namespace Go.Proofs.GR.T
open Go Go.Proofs Go.Proofs.GR
def Sp.s63 (s : ByteArray) : Bool := Nat.ble s.size 9223372036854775807
mutual
def Sp.strT : RT → Bool
  | .mk a ks => Sp.s63 a.2.2.1 && (Sp.s63 a.2.2.2.1 && Sp.strTs ks)
def Sp.strTs : List RT → Bool
  | [] => true
  | r :: l => Sp.strT r && Sp.strTs l
end
def Sp.hasT (a : VA) (ks : List RT) (num name of val : Bool) (n : Int) : Bool := (Sp.f1028 a.1 a.2.1 a.2.2.1 a.2.2.2.1 a.2.2.2.2.1 a.2.2.2.2.2.1 a.2.2.2.2.2.2 ks num name of val n).1
def Sp.unNames : List ByteArray := [ByteArray.mk #[45], ByteArray.mk #[110, 111, 116], ByteArray.mk #[105, 115, 110, 117, 108, 108], ByteArray.mk #[105, 115, 110, 111, 116, 110, 117, 108, 108]]
def Sp.xNode (a : VA) (ks : List RT) (g : Bool) : Bool :=
  bif a.1 == 13 then (bif Sp.hasT a ks false false false true 0 then (bif (Sp.f171 a.2.2.2.2.1 a.2.2.2.2.2.1 a.2.2.2.2.2.2).1 then (bif a.2.2.2.2.1 != 2 then true else (Sp.f70 a.2.2.2.2.2.1 0 999999999999999999).1) else false) else false)
  else bif a.1 == 14 then (bif Sp.hasT a ks false true true false 0 then (bif (Sp.f1029 a.2.2.1).1 then (Sp.f1030 a.2.2.2.1).1 else false) else false)
  else bif a.1 == 15 then (bif Sp.hasT a ks false true false false 1 then (Sp.f1031 Sp.unNames a.2.2.1).1 else false)
  else bif a.1 == 16 then (bif Sp.hasT a ks false true false false 2 then decide (Sp.lev a.2.2.1 > 0) else false)
  else bif a.1 == 17 then (bif g then (bif Sp.hasT a ks false true false false (-1) then (bif (Sp.f1031 Sp.f1033.1 a.2.2.1).1 then (bif (ks.length : Int) == 1 then true else bif (ks.length : Int) == 0 then a.2.2.1.toList == (ByteArray.mk #[99, 111, 117, 110, 116]).toList else false) else false) else false) else false) else false
mutual
def Sp.xOK : RT → Bool → Bool
  | .mk a ks, g => bif Sp.xBad ks (bif g then a.1 != 17 else false) then false else Sp.xNode a ks g
def Sp.xBad : List RT → Bool → Bool
  | [], _ => false
  | r :: l, g => bif !Sp.xOK r g then true else Sp.xBad l g
end
def Sp.gk (g : Bool) (r : RT) : Bool := bif g then r.a.1 != 17 else false
def Sp.xIdx (l : List RT) (g : Bool) : Int := Sp.idx (fun r => !Sp.xOK r g) l 0
abbrev fX : C0 := C0.fn n1027 [.bool, tT]
noncomputable def e1021 : Ent := { f := n1021, ins := [Sh.agg aT, Sh.one cB], outs := [Sh.one cB], upd := [], pre := fun a => Sp.strT (Sp.mkT a.1), spec := fun a => Sp.xOK (Sp.mkT a.1) a.2, wrt := fun _ => () }
noncomputable def e1027 : Ent := { f := n1027, ins := [Sh.agg aT, Sh.one (C0.rptr .bool), Sh.one (C0.rptr tT)], outs := [Sh.one cB], upd := [], pre := fun a => Sp.strT (Sp.mkT a.1), spec := fun a => !Sp.xOK (Sp.mkT a.1) (Sp.gk a.2.1 a.2.2), wrt := fun _ => () }
noncomputable def e1026x : Ent := { f := n1026, ins := [Sh.one (cL tT), Sh.one fX], outs := [Sh.one cB], upd := [], pre := fun a => Sp.strTs a.1, spec := fun a => Sp.xBad a.1 (Sp.gk a.2.1 a.2.2), wrt := fun _ => () }
noncomputable def e1035x : Ent := { f := n1035, ins := [Sh.one (cL tT), Sh.one fX], outs := [Sh.one cI], upd := [], pre := fun a => Sp.strTs a.1, spec := fun a => Sp.xIdx a.1 (Sp.gk a.2.1 a.2.2), wrt := fun _ => () }
noncomputable def e1021n (N : Nat) : Ent := e1021.below (fun a => Sp.m1 0 a.1.2.2.2.2.2.2.2) N
noncomputable def e1027n (N : Nat) : Ent := e1027.below (fun a => Sp.m1 1 a.1.2.2.2.2.2.2.2) N
noncomputable def e1026xn (N : Nat) : Ent := e1026x.below (fun a => Sp.m4 2 a.1) N
noncomputable def e1035xn (N : Nat) : Ent := e1035x.below (fun a => Sp.m4 1 a.1) N
theorem f1027_raw (N : Nat) (x0 x1 : Int) (x2 x3 : ByteArray) (x4 x5 : Int) (x6 : ByteArray) (x7 : List ZT) (x8 : Bool) (x9 : Rose (Int × Int × ByteArray × ByteArray × Int × Int × ByteArray)) : abody Γ (orc [e1021n N, e1027n N, e1026xn N, e1035xn N]) 0 54 [XV.mk true [ZC Zi x0, ZC Zi x1, ZC Ty.str x2, ZC Ty.str x3, ZC Zi x4, ZC Zi x5, ZC Ty.str x6, ZC ZA.rose.slice x7], XV.mk false [X.c (X0.rptr Ty.bool x8)], XV.mk false [X.c (X0.rptr ZA.rose x9)]] = bif x8 then chk (Sp.strT (Sp.mkT (x0, x1, x2, x3, x4, x5, x6, x7)) && (Sp.m1 (0 : Nat) x7).blt N) (some (Res.mk [XV.mk false [X.c (X0.dat Ty.bool !Sp.xOK (Sp.mkT (x0, x1, x2, x3, x4, x5, x6, x7)) (x9.a.1 != (17 : Int)))]] [])) else chk (Sp.strT (Sp.mkT (x0, x1, x2, x3, x4, x5, x6, x7)) && (Sp.m1 (0 : Nat) x7).blt N) (some (Res.mk [XV.mk false [X.c (X0.dat Ty.bool !Sp.xOK (Sp.mkT (x0, x1, x2, x3, x4, x5, x6, x7)) false)]] [])) := by kernel_rfl

theorem f1026x_raw (N : Nat) (x0 : List ZT) (x1 : Bool) (x2 : Rose (Int × Int × ByteArray × ByteArray × Int × Int × ByteArray)) : abody Γ (orc [e1021n N, e1027n N, e1026xn N, e1035xn N]) 0 35 [ZX ZA.rose.slice x0, XV.mk false [X.c (X0.fn (54 : Nat) [Sigma.mk Ty.bool x1, Sigma.mk ZA.rose x2])]] = chk (Sp.strTs x0 && (Sp.m4 (1 : Nat) x0).blt N) (ZB (decide (Sp.xIdx x0 (Sp.gk x1 x2) ≥ (0 : Int)))) := by kernel_rfl

noncomputable def f1035x_L0 (n N m0 : Nat) (y0 : List ZT) (y1 : Bool) (y2 : Rose (Int × Int × ByteArray × ByteArray × Int × Int × ByteArray)) (y3 y4 : Int) : Option Res := loopAt Γ (orc [e1021n N, e1027n N, e1026xn N, e1035xn N]) n (53 : Nat) (0 : Nat) [] [Pth.r, Pth.l, Pth.r, Pth.b] m0 (St.mk (ZS ZA.rose.slice y0 :: Slot.val (Val.one (Cell.fn (54 : Nat) [Sigma.mk Ty.bool y1, Sigma.mk ZA.rose y2])) :: ZN 5 (ZS Zi y3 :: ZS Zi y4 :: ZN 10 [])) [])
theorem f1035x_L0_step (n N m0 : Nat) (y0 : List ZT) (y1 : Bool) (y2 : Rose (Int × Int × ByteArray × ByteArray × Int × Int × ByteArray)) (y3 y4 : Int) : f1035x_L0 n N (m0 + 1) y0 y1 y2 y3 y4 = bif decide (y4 < y3) then chk (decide ((0 : Int) ≤ y4) && decide (y4 < (↑y0.length : Int))) (chk (Sp.strT (Sp.mkT ((y0.getD y4.toNat ZR).a.1, (y0.getD y4.toNat ZR).a.2.1, (y0.getD y4.toNat ZR).a.2.2.1, (y0.getD y4.toNat ZR).a.2.2.2.1, (y0.getD y4.toNat ZR).a.2.2.2.2.1, (y0.getD y4.toNat ZR).a.2.2.2.2.2.1, (y0.getD y4.toNat ZR).a.2.2.2.2.2.2, (y0.getD y4.toNat ZR).kids)) && (Sp.m1 (1 : Nat) (y0.getD y4.toNat ZR).kids).blt N) (bif !Sp.xOK (Sp.mkT ((y0.getD y4.toNat ZR).a.1, (y0.getD y4.toNat ZR).a.2.1, (y0.getD y4.toNat ZR).a.2.2.1, (y0.getD y4.toNat ZR).a.2.2.2.1, (y0.getD y4.toNat ZR).a.2.2.2.2.1, (y0.getD y4.toNat ZR).a.2.2.2.2.2.1, (y0.getD y4.toNat ZR).a.2.2.2.2.2.2, (y0.getD y4.toNat ZR).kids)) (Sp.gk y1 y2) then ZJ y4 else f1035x_L0 n N m0 y0 y1 y2 y3 (IntKind.i64.wrap (y4 + (1 : Int))))) else ZJ (-1 : Int) := by kernel_rfl
theorem f1035x_raw (n N : Nat) (x0 : List ZT) (x1 : Bool) (x2 : Rose (Int × Int × ByteArray × ByteArray × Int × Int × ByteArray)) : abody Γ (orc [e1021n N, e1027n N, e1026xn N, e1035xn N]) n 53 [ZX ZA.rose.slice x0, XV.mk false [X.c (X0.fn (54 : Nat) [Sigma.mk Ty.bool x1, Sigma.mk ZA.rose x2])]] = f1035x_L0 n N n x0 x1 x2 (↑x0.length : Int) (0 : Int) := by kernel_rfl

theorem f1021_raw (N : Nat) (x0 x1 : Int) (x2 x3 : ByteArray) (x4 x5 : Int) (x6 : ByteArray) (x7 : List ZT) (x8 : Bool) : abody Γ (orc [e1021n N, e1027n N, e1026xn N, e1035xn N, e1028, e171, e70, e1029, e1030, e1031, e1032, e1033]) 0 37 [XV.mk true [ZC Zi x0, ZC Zi x1, ZC Ty.str x2, ZC Ty.str x3, ZC Zi x4, ZC Zi x5, ZC Ty.str x6, ZC ZA.rose.slice x7], ZX Ty.bool x8] = chk (Sp.strTs x7 && (Sp.m4 (2 : Nat) x7).blt N) (bif Sp.xBad x7 (Sp.gk x8 (Rose.mk (x0, x1, x2, x3, x4, x5, x6) x7)) then Zf else bif x0 == (13 : Int) then bif (Sp.f1028 x0 x1 x2 x3 x4 x5 x6 x7 false false false true (0 : Int)).1 then bif (Sp.f171 x4 x5 x6).1 then bif x4 != (2 : Int) then Zt else ZB (Sp.f70 x5 (0 : Int) (999999999999999999 : Int)).1 else Zf else Zf else bif x0 == (14 : Int) then bif (Sp.f1028 x0 x1 x2 x3 x4 x5 x6 x7 false true true false (0 : Int)).1 then chk (Sp.f1029_pre x2) (bif (Sp.f1029 x2).1 then chk (Sp.f1030_pre x3) (ZB (Sp.f1030 x3).1) else Zf) else Zf else bif x0 == (15 : Int) then bif (Sp.f1028 x0 x1 x2 x3 x4 x5 x6 x7 false true false false (1 : Int)).1 then ZB (Sp.f1031 [ByteArray.mk #[45], ByteArray.mk #[110, 111, 116], ByteArray.mk #[105, 115, 110, 117, 108, 108], ByteArray.mk #[105, 115, 110, 111, 116, 110, 117, 108, 108]] x2).1 else Zf else bif x0 == (16 : Int) then bif (Sp.f1028 x0 x1 x2 x3 x4 x5 x6 x7 false true false false (2 : Int)).1 then ZB (decide (Sp.lev x2 > (0 : Int))) else Zf else bif x0 == (17 : Int) then bif x8 then bif (Sp.f1028 x0 x1 x2 x3 x4 x5 x6 x7 false true false false (-1 : Int)).1 then bif (Sp.f1031 Sp.f1033.1 x2).1 then bif (↑x7.length : Int) == (1 : Int) then Zt else bif (↑x7.length : Int) == (0 : Int) then ZB (x2.toList == (ByteArray.mk #[99, 111, 117, 110, 116]).toList) else Zf else Zf else Zf else Zf else Zf) := by kernel_rfl

theorem strTs_mem : ∀ {l : List RT} {r : RT}, Sp.strTs l = true → r ∈ l → Sp.strT r = true
  | x :: l, r, h, hr => by
    rw [Sp.strTs, Bool.and_eq_true_iff] at h
    rcases List.mem_cons.1 hr with rfl | hr
    · exact h.1
    · exact strTs_mem h.2 hr
theorem xBad_any (g : Bool) : ∀ l : List RT, Sp.anyW (fun r => !Sp.xOK r g) l = Sp.xBad l g
  | [] => by rw [Sp.xBad]; rfl
  | r :: l => by rw [Sp.xBad, Sp.anyW, xBad_any g l]
noncomputable abbrev recXp : List REnt := [⟨e1021, fun a => Sp.m1 0 a.1.2.2.2.2.2.2.2⟩, ⟨e1027, fun a => Sp.m1 1 a.1.2.2.2.2.2.2.2⟩, ⟨e1026x, fun a => Sp.m4 2 a.1⟩, ⟨e1035x, fun a => Sp.m4 1 a.1⟩]
theorem e1027_core (x0 x1 : Int) (x2 x3 : ByteArray) (x4 x5 : Int) (x6 : ByteArray) (x7 : List RT) (g : Bool) (r : RT) (h : Sp.strT (Sp.mkT (x0, x1, x2, x3, x4, x5, x6, x7)) = true) : abody Γ (orc (belows (Sp.m1 1 x7) recXp ++ [])) 0 n1027 (e1027.args ((x0, x1, x2, x3, x4, x5, x6, x7), g, r)) = some (e1027.res ((x0, x1, x2, x3, x4, x5, x6, x7), g, r)) := by
  refine (f1027_raw _ x0 x1 x2 x3 x4 x5 x6 x7 g r).trans ?_
  rw [h, blt_mk (show Sp.m1 0 x7 < Sp.m1 1 x7 by unfold Sp.m1; omega), Bool.and_self, chkT, chkT]
  show _ = some (rBo (!Sp.xOK (Sp.mkT (x0, x1, x2, x3, x4, x5, x6, x7)) (bif g then r.a.1 != 17 else false)))
  cases g <;> rfl
theorem e1026x_core (xs : List RT) (g : Bool) (r : RT) (h : Sp.strTs xs = true) : abody Γ (orc (belows (Sp.m4 2 xs) recXp ++ [])) 0 n1026 (e1026x.args (xs, g, r)) = some (e1026x.res (xs, g, r)) := by
  refine (f1026x_raw _ xs g r).trans ?_
  rw [h, blt_mk (show Sp.m4 1 xs < Sp.m4 2 xs by unfold Sp.m4; omega), Bool.and_self, chkT]
  have e : decide (Sp.xIdx xs (Sp.gk g r) ≥ 0) = Sp.xBad xs (Sp.gk g r) := by
    rw [← xBad_any]
    exact idx_any _ xs 0 (Int.le_refl 0)
  exact congrArg (fun z => some (rBo z)) e
theorem e1035x_core (xs : List RT) (g : Bool) (r : RT) (h : Sp.strTs xs = true) (hl : xs.length ≤ maxLen) : ∃ n, abody Γ (orc (belows (Sp.m4 1 xs) recXp ++ [])) n n1035 (e1035x.args (xs, g, r)) = some (e1035x.res (xs, g, r)) := by
  have hl : xs.length ≤ 9223372036854775807 := hl
  refine ⟨xs.length + 1, (f1035x_raw _ _ xs g r).trans ?_⟩
  refine idx_loop (p := fun s => !Sp.xOK s (Sp.gk g r)) (R := rI) xs (fun m k => f1035x_L0 (xs.length + 1) (Sp.m4 1 xs) m xs g r xs.length k) (fun m k hk => ?_) (fun m k hk => ?_) xs.length 0 _ (Nat.zero_add _) (Nat.lt_succ_self _)
  · show f1035x_L0 _ _ _ _ _ _ _ _ = _
    rw [f1035x_L0_step, nat_ge hk, cond_false]
  · show f1035x_L0 _ _ _ _ _ _ _ _ = _
    have hb := rsz1_mem (List.getElem_mem hk)
    have hs := strTs_mem h (List.getElem_mem hk)
    rw [f1035x_L0_step, nat_lt hk, cond_true, guard0, chkT, getD_nat xs k _ hk, next64 hk hl, blt_mk (show Sp.m1 1 xs[k].kids < Sp.m4 1 xs by unfold Sp.m1 Sp.m4; omega)]
    show chk (Sp.strT (Sp.mkT (Sp.unT xs[k])) && true) (bif !Sp.xOK (Sp.mkT (Sp.unT xs[k])) (Sp.gk g r) then _ else _) = _
    rw [mkT_un, hs, Bool.and_self, chkT]
theorem e1021_core (x0 x1 : Int) (x2 x3 : ByteArray) (x4 x5 : Int) (x6 : ByteArray) (x7 : List RT) (g : Bool) (h : Sp.strT (Sp.mkT (x0, x1, x2, x3, x4, x5, x6, x7)) = true) : abody Γ (orc (belows (Sp.m1 0 x7) recXp ++ [e1028, e171, e70, e1029, e1030, e1031, e1032, e1033])) 0 n1021 (e1021.args ((x0, x1, x2, x3, x4, x5, x6, x7), g)) = some (e1021.res ((x0, x1, x2, x3, x4, x5, x6, x7), g)) := by
  refine (f1021_raw _ x0 x1 x2 x3 x4 x5 x6 x7 g).trans ?_
  have h' : (Sp.s63 x2 && (Sp.s63 x3 && Sp.strTs x7)) = true := by
    have e : Sp.strT (Sp.mkT (x0, x1, x2, x3, x4, x5, x6, x7)) = (Sp.s63 x2 && (Sp.s63 x3 && Sp.strTs x7)) := by unfold Sp.mkT; rw [Sp.strT]
    rw [← e]; exact h
  rw [Bool.and_eq_true_iff, Bool.and_eq_true_iff] at h'
  obtain ⟨h1, h2, h3⟩ := h'
  have p1 : Sp.f1029_pre x2 = true := h1
  have p2 : Sp.f1030_pre x3 = true := by
    unfold Sp.f1030_pre
    have : Sp.f1029_pre x3 = true := h2
    rw [this]
    cases x3.toList == (ByteArray.mk #[]).toList <;> rfl
  have e : Sp.xOK (Rose.mk (x0, x1, x2, x3, x4, x5, x6) x7) g = bif Sp.xBad x7 (Sp.gk g (Rose.mk (x0, x1, x2, x3, x4, x5, x6) x7)) then false else Sp.xNode (x0, x1, x2, x3, x4, x5, x6) x7 g := by rw [Sp.xOK]; rfl
  refine Eq.trans ?_ (congrArg (fun z => some (rBo z)) e.symm)
  rw [h3, blt_mk (show Sp.m4 2 x7 < Sp.m1 0 x7 by unfold Sp.m4 Sp.m1 Sp.rsz1; omega), Bool.and_self, chkT, p1, p2]
  simp only [chkT]
  unfold Sp.xNode
  simp only [condB]
  rfl
theorem recXp_ok : ∀ r ∈ recXp, Valid PP Γ r.e :=
  valid_recs ok _ (rcons ⟨[e1028, e171, e70, e1029, e1030, e1031, e1032, e1033], vcons e1028_ok (vcons e171_ok (vcons e70_ok (vcons e1029_ok (vcons e1030_ok (vcons e1031_ok (vcons e1032_ok (vcons e1033_ok vnil))))))), fun a ha _ => ⟨0, e1021_core a.1.1 a.1.2.1 a.1.2.2.1 a.1.2.2.2.1 a.1.2.2.2.2.1 a.1.2.2.2.2.2.1 a.1.2.2.2.2.2.2.1 a.1.2.2.2.2.2.2.2 a.2 ha⟩⟩
    (rcons ⟨[], vnil, fun a ha _ => ⟨0, e1027_core a.1.1 a.1.2.1 a.1.2.2.1 a.1.2.2.2.1 a.1.2.2.2.2.1 a.1.2.2.2.2.2.1 a.1.2.2.2.2.2.2.1 a.1.2.2.2.2.2.2.2 a.2.1 a.2.2 ha⟩⟩
    (rcons ⟨[], vnil, fun a ha _ => ⟨0, e1026x_core a.1 a.2.1 a.2.2 ha⟩⟩ (rcons ⟨[], vnil, fun a ha hl => e1035x_core a.1 a.2.1 a.2.2 ha (hl _ (List.mem_cons_self) _ (List.mem_cons_self)).1⟩ rnil))))
theorem e1021_ok : Valid PP Γ e1021 := recXp_ok _ (List.mem_cons_self)
end Go.Proofs.GR.T

