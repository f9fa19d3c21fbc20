/-
  No statement is proved here: what the functions of the law answer, told as plain functions, and that the law's answer is always true.
  No condition.
-/
import Derived.Test.YtpljgmackfjkdaaGreatDoorQDumpBytest
import Derived.Shelf.Strings.Split
import Derived.KernelRfl
set_option maxHeartbeats 100000000
namespace Go.Proofs.GR.T
open Go Go.Proofs Go.Proofs.GR
abbrev Zf : Option Res := some (Res.mk [XV.mk false [X.c (X0.dat Ty.bool false)]] [])
abbrev Zt : Option Res := some (Res.mk [XV.mk false [X.c (X0.dat Ty.bool true)]] [])
abbrev Zi : Ty := Ty.int IntKind.i64
abbrev Zn : Slot := Slot.nix
abbrev ZX (t : Ty) (v : t.den) : XV := XV.mk false [X.c (X0.dat t v)]
abbrev ZC (t : Ty) (v : t.den) : X := X.c (X0.dat t v)
abbrev ZS (t : Ty) (v : t.den) : Slot := Slot.val (Val.one (Cell.dat t v))
abbrev ZI : C0 := C0.dat (Ty.int IntKind.i64)
def ZN : Nat → List Slot → List Slot
  | 0, l => l
  | n + 1, l => Slot.nix :: ZN n l
abbrev ZB (b : Bool) : Option Res := some (Res.mk [XV.mk false [X.c (X0.dat Ty.bool b)]] [])
abbrev ZJ (n : Int) : Option Res := some (Res.mk [XV.mk false [X.c (X0.dat (Ty.int IntKind.i64) n)]] [])
end Go.Proofs.GR.T
namespace Go.Proofs.GR.T
abbrev n0 : Nat := 0
abbrev n1 : Nat := 1
abbrev n2 : Nat := 2
abbrev n1065 : Nat := 7
abbrev n1362 : Nat := 8
abbrev n1068 : Nat := 11
abbrev n1363 : Nat := 12
abbrev n192 : Nat := 14
abbrev n1070 : Nat := 15
abbrev n1272 : Nat := 16
abbrev n1277 : Nat := 17
abbrev n1278 : Nat := 18
abbrev n161 : Nat := 19
abbrev n24 : Nat := 23
abbrev n25 : Nat := 24
abbrev n26 : Nat := 25
abbrev n96 : Nat := 35
abbrev n1370 : Nat := 42
abbrev n75 : Nat := 47
abbrev n1311 : Nat := 48
abbrev n1312 : Nat := 49
abbrev n1313 : Nat := 50
abbrev n97 : Nat := 51
abbrev n1371 : Nat := 52
abbrev n48 : Nat := 53
abbrev n51 : Nat := 57
abbrev n44 : Nat := 61
abbrev n45 : Nat := 62
abbrev n1111 : Nat := 64
abbrev n1112 : Nat := 65
abbrev n1100 : Nat := 66
abbrev n140 : Nat := 67
abbrev n92 : Nat := 68
abbrev n141 : Nat := 69
abbrev n88 : Nat := 70
abbrev n1113 : Nat := 75
abbrev n1114 : Nat := 76
abbrev n1103 : Nat := 77
abbrev n1090 : Nat := 78
abbrev n1378 : Nat := 79
abbrev n1119 : Nat := 85
abbrev n1120 : Nat := 86
abbrev n1107 : Nat := 87
abbrev n142 : Nat := 88
abbrev n143 : Nat := 89
abbrev n1379 : Nat := 90
abbrev n1381 : Nat := 92
abbrev n1384 : Nat := 98
abbrev n173 : Nat := 109
abbrev n137 : Nat := 114
abbrev n1115 : Nat := 117
abbrev n1390 : Nat := 118
abbrev n1400 : Nat := 122
abbrev n172 : Nat := 126
abbrev n1167 : Nat := 128
abbrev n164 : Nat := 130
abbrev n170 : Nat := 133
abbrev n171 : Nat := 134
abbrev n194 : Nat := 143
abbrev n195 : Nat := 144
abbrev n196 : Nat := 145
abbrev n197 : Nat := 146
abbrev n185 : Nat := 147
abbrev n1399 : Nat := 153
abbrev n1200 : Nat := 155
abbrev n1190 : Nat := 156
abbrev n1166 : Nat := 157
abbrev n1168 : Nat := 158
abbrev n1164 : Nat := 159
abbrev n193 : Nat := 160
abbrev n210 : Nat := 166
abbrev n1036 : Nat := 167
abbrev n1178 : Nat := 170
abbrev n1179 : Nat := 171
abbrev n1180 : Nat := 172
abbrev n1181 : Nat := 174
abbrev n1182 : Nat := 175
abbrev n1183 : Nat := 176
abbrev n1214 : Nat := 177
abbrev n1189 : Nat := 178
abbrev n1202 : Nat := 179
abbrev n1186 : Nat := 180
abbrev n214 : Nat := 183
abbrev n156 : Nat := 186
abbrev n1041 : Nat := 187
abbrev n211 : Nat := 189
abbrev n1044 : Nat := 190
abbrev n1045 : Nat := 191
abbrev n1047 : Nat := 192
abbrev n1201 : Nat := 193
abbrev n1215 : Nat := 194
abbrev n1198 : Nat := 195
abbrev n1042 : Nat := 198
abbrev n1209 : Nat := 199
abbrev n1046 : Nat := 200
abbrev n1048 : Nat := 201
abbrev n1049 : Nat := 202
abbrev n1050 : Nat := 203
abbrev n1210 : Nat := 204
abbrev n1211 : Nat := 205
abbrev n1212 : Nat := 206
abbrev n1213 : Nat := 207
abbrev n1043 : Nat := 208
abbrev n1051 : Nat := 209
abbrev n1052 : Nat := 210
abbrev n1053 : Nat := 211
abbrev n1054 : Nat := 212
abbrev n1218 : Nat := 213
abbrev n1219 : Nat := 214
abbrev n1220 : Nat := 215
abbrev n1221 : Nat := 216
abbrev n1222 : Nat := 217
abbrev n1055 : Nat := 218
abbrev n1056 : Nat := 219
abbrev n1225 : Nat := 220
abbrev n1226 : Nat := 221
abbrev t0 : Nat := 0
abbrev t1 : Nat := 1
abbrev t2 : Nat := 2
abbrev t3 : Nat := 3
abbrev t4 : Nat := 4
abbrev t5 : Nat := 5
abbrev t6 : Nat := 6
abbrev t7 : Nat := 7
abbrev t9 : Nat := 9
abbrev t20 : Nat := 20
abbrev t21 : Nat := 21
abbrev t232 : Nat := 38
abbrev t33 : Nat := 45
abbrev t34 : Nat := 46
abbrev t37 : Nat := 48
abbrev t171 : Nat := 77
abbrev t173 : Nat := 79
abbrev t133 : Nat := 94
abbrev t72 : Nat := 95
abbrev t76 : Nat := 98
abbrev t68 : Nat := 101
abbrev t127 : Nat := 107
abbrev t128 : Nat := 112
abbrev t212 : Nat := 127
abbrev t213 : Nat := 128
abbrev t119 : Nat := 142
abbrev t164 : Nat := 150
abbrev t165 : Nat := 151
abbrev t40 : Nat := 160
abbrev t86 : Nat := 163
abbrev t105 : Nat := 165
abbrev t1139 : Nat := 181
abbrev t1141 : Nat := 183
abbrev t1144 : Nat := 186
abbrev t1145 : Nat := 187
abbrev t166 : Nat := 189
abbrev t233 : Nat := 200
abbrev t1035 : Nat := 206
abbrev t267 : Nat := 208
abbrev t1168 : Nat := 213
abbrev t1171 : Nat := 216
abbrev t1038 : Nat := 220
abbrev t1040 : Nat := 222
abbrev t1041 : Nat := 223
abbrev t1180 : Nat := 225
abbrev t151 : Nat := 226
abbrev t1181 : Nat := 227
abbrev t1042 : Nat := 229
abbrev t1187 : Nat := 232
abbrev t1188 : Nat := 233
abbrev g1 : Nat := 0
abbrev g2 : Nat := 1
abbrev g3 : Nat := 2
abbrev g6 : Nat := 3
abbrev g7 : Nat := 4
abbrev g8 : Nat := 5
end Go.Proofs.GR.T

namespace Go.Proofs.GR.T
noncomputable abbrev PP : Program := Tryz.prog
abbrev tB : Ty := .int .u8
abbrev cI : C0 := .dat (.int .i64)
abbrev cB : C0 := .dat .bool
abbrev cS : C0 := .dat .str
abbrev cL (t : Ty) : C0 := .dat (.slice t)
end Go.Proofs.GR.T


namespace Go.Proofs.GR.T
open Go Go.Proofs Go.Proofs.GR
theorem rowUpd_at {t : Ty} {acc : List t.den} {k off : Nat} {cs : List Cell} {x z : t.den} (h : k < acc.length) (hx : acc[k] = x) (hz : t.putAt x off cs = some z) : rowUpd t acc k off cs = acc.set k z := by
  unfold rowUpd
  rw [List.getD, List.getElem?_eq_getElem h, Option.getD_some, hx, hz]
theorem rowUpd_set {t : Ty} {acc : List t.den} {k off : Nat} {cs : List Cell} {x z : t.den} (h : k < acc.length) (hz : t.putAt x off cs = some z) : rowUpd t (acc.set k x) k off cs = acc.set k z := by
  rw [rowUpd_at (x := x) (by rw [List.length_set]; exact h) (by simp) hz, List.set_set]
theorem upd_next {t : Ty} {acc A : List t.den} {k off : Nat} {cs : List Cell} {x z : t.den} (h : k < acc.length) (e : A = acc.set k x) (hz : t.putAt x off cs = some z) : rowUpd t A k off cs = acc.set k z := by
  rw [e]; exact rowUpd_set h hz
end Go.Proofs.GR.T

set_option maxRecDepth 100000
set_option maxHeartbeats 100000000
namespace Go.Proofs.GR.T
open Go Go.Proofs Go.Proofs.GR
def Sp.f70 (x0 x1 x2 : Int) := (bif decide (x0 ≥ x1) then (decide (x0 ≤ x2), ()) else (false, ()))
noncomputable def e70 : Ent := { f := 81, ins := [Sh.one ZI, Sh.one ZI, Sh.one ZI], outs := [Sh.one (C0.dat Ty.bool)], upd := [], pre := fun a => true, spec := fun a => (Sp.f70 a.1 a.2.1 a.2.2).1, wrt := fun a => (Sp.f70 a.1 a.2.1 a.2.2).2 }
def f70_g (v : denS [Sh.one (C0.dat Ty.bool)] × denS []) : Res := ⟨mkS [Sh.one (C0.dat Ty.bool)] v.1, mkU [] v.2⟩
theorem f70_form (x0 x1 x2 : Int) : abody Γ (orc []) 0 81 [ZX Zi x0, ZX Zi x1, ZX Zi x2] = some (f70_g (Sp.f70 x0 x1 x2)) := by
  refine Eq.trans (b := bif decide (x0 ≥ x1) then ZB (decide (x0 ≤ x2)) else Zf) (by kernel_rfl) ?_
  unfold Sp.f70
  exact (cond_plain f70_g (rfl) (rfl))
theorem e70_ok : Valid PP Γ e70 := valid_auto ok vnil fun a => f70_form a.1 a.2.1 a.2.2

def Sp.idx {α : Type} (p : α → Bool) : List α → Int → Int
  | [], _ => -1
  | x :: r, i => bif p x then i else Sp.idx p r (i + 1)
end Go.Proofs.GR.T

namespace Go.Proofs.GR.T
open Go Go.Proofs Go.Proofs.GR

end Go.Proofs.GR.T

namespace Go.Proofs.GR.T
open Go Go.Proofs Go.Proofs.GR
namespace Sp
def bit (r : Nat) : Nat := if r % 2 = 1 then (r / 2) ^^^ 3988292384 else r / 2
def bits : Nat → Nat → Nat
  | 0, r => r
  | n + 1, r => bits n (bit r)
def isBytes (xs : List Int) : Bool := xs.all fun x => decide (0 ≤ x) && decide (x < 256)
def mark8 : List Int → Int → List Int
  | [], _ => []
  | _ :: r, k => IntKind.u8.wrap k :: mark8 r (k + 1)
def held8 : List Int → Int → Int
  | [], k => k
  | x :: r, k => bif x != IntKind.u8.wrap k then -1 else held8 r (k + 1)
def eqL {α : Type} [DecidableEq α] (xs ys : List α) : Bool := decide (xs = ys)
def small {α : Type} (xs : List α) (k : Int) : Bool := match k with
  | .ofNat n => decide (n + xs.length ≤ 4611686018427387904)
  | .negSucc _ => false
def addLen {α : Type} (xs : List α) (k : Int) : Int := k + (xs.length : Int)
def fits {α : Type} (xs : List α) : Bool := decide (xs.length ≤ 140737488355328)
end Sp
theorem small_of {α : Type} {xs : List α} {k : Int} (h : Sp.small xs k = true) : 0 ≤ k ∧ k + (xs.length : Int) ≤ 4611686018427387904 := by
  cases k with
  | ofNat n =>
    have h1 : n + xs.length ≤ 4611686018427387904 := of_decide_eq_true h
    exact ⟨Int.natCast_nonneg n, by show (n : Int) + (xs.length : Int) ≤ 4611686018427387904; omega⟩
  | negSucc n => cases h
theorem small_mk {α : Type} {xs : List α} {k : Int} (h1 : 0 ≤ k) (h2 : k + (xs.length : Int) ≤ 4611686018427387904) : Sp.small xs k = true := by
  cases k with
  | ofNat n =>
    have h3 : (n : Int) + (xs.length : Int) ≤ 4611686018427387904 := h2
    exact decide_eq_true (show n + xs.length ≤ 4611686018427387904 by omega)
  | negSucc n => exact absurd h1 (by omega)
theorem chkT {ρ : Type} (k : Option ρ) : chk true k = k := rfl
theorem eqL_cons {α : Type} [DecidableEq α] {x y : α} {r s : List α} : Sp.eqL (x :: r) (y :: s) = (decide (x = y) && Sp.eqL r s) := by
  unfold Sp.eqL
  by_cases h1 : x = y <;> by_cases h2 : r = s <;> simp [h1, h2]
theorem eqL_self {α : Type} [DecidableEq α] (xs : List α) : Sp.eqL xs xs = true := decide_eq_true rfl
theorem eqL_len {α : Type} [DecidableEq α] {xs ys : List α} (h : xs.length ≠ ys.length) : Sp.eqL xs ys = false := decide_eq_false fun e => h (by rw [e])
theorem ofInt_toNat (w n : Nat) : (BitVec.ofInt w (n : Int)).toNat = n % 2 ^ w := by
  simp
theorem wrapu64 {n : Int} (h1 : 0 ≤ n) (h2 : n < 18446744073709551616) : IntKind.u64.wrap n = n := by
  simp only [IntKind.wrap, IntKind.signed, IntKind.bits]
  simp
  omega
theorem wrap8 (n : Int) : IntKind.u8.wrap n = n % 256 := by
  simp only [IntKind.wrap, IntKind.signed, IntKind.bits]
  simp
theorem wrap8_byte (n : Int) : 0 ≤ IntKind.u8.wrap n ∧ IntKind.u8.wrap n < 256 := by rw [wrap8]; omega
theorem strBytes_len (s : ByteArray) : (strBytes s).length = s.size := by unfold strBytes; rw [List.length_map, Array.length_toList]; rfl
theorem bytesStr_size (xs : List Int) : (bytesStr xs).size = xs.length := by
  show ((xs.map fun n => UInt8.ofNat n.toNat).toArray).size = _
  rw [List.size_toArray, List.length_map]
theorem held_mark : ∀ (xs : List Int) (k : Int), Sp.held8 (Sp.mark8 xs k) k = k + xs.length
  | [], k => by simp [Sp.held8, Sp.mark8]
  | x :: r, k => by
    simp only [Sp.mark8, Sp.held8, bne_self_eq_false, cond_false, held_mark r, List.length_cons]
    omega
theorem mark8_len : ∀ (xs : List Int) (k : Int), (Sp.mark8 xs k).length = xs.length
  | [], k => rfl
  | x :: r, k => by simp [Sp.mark8, mark8_len r]
end Go.Proofs.GR.T

set_option maxRecDepth 100000
set_option maxHeartbeats 100000000
namespace Go.Proofs.GR.T
open Go Go.Proofs Go.Proofs.GR
abbrev rB (xs : List Int) : Res := Res.mk [XV.mk false [X.c (X0.row (Ty.int IntKind.u8) xs true)]] []
abbrev rI (n : Int) : Res := Res.mk [ZX Zi n] []
abbrev rBo (b : Bool) : Res := Res.mk [ZX Ty.bool b] []
theorem succ_of {d m : Nat} (h : d < m) : ∃ q, m = q + 1 := ⟨m - 1, by omega⟩
noncomputable def f24_L0 (n m0 : Nat) (y0 y1 : List Int) (y2 : Int) : Option Res := loopAt Γ (orc []) n (23 : Nat) (0 : Nat) [] [Pth.r, Pth.r, Pth.l, Pth.r, Pth.b] m0 (St.mk (ZS (Ty.int IntKind.u8).slice y0 :: ZS (Ty.int IntKind.u8).slice y1 :: ZN 3 (ZS Zi y2 :: ZN 20 [])) [])
theorem f24_L0_step (n m0 : Nat) (y0 y1 : List Int) (y2 : Int) : f24_L0 n (m0 + 1) y0 y1 y2 = bif decide (y2 < (↑y0.length : Int)) then chk (decide ((0 : Int) ≤ y2) && decide (y2 < (↑y0.length : Int))) (chk (decide ((0 : Int) ≤ y2) && decide (y2 < (↑y1.length : Int))) (bif y0.getD y2.toNat (0 : Int) != y1.getD y2.toNat (0 : Int) then Zf else f24_L0 n m0 y0 y1 (IntKind.i64.wrap (y2 + (1 : Int))))) else Zt := by kernel_rfl
theorem f24_raw (n : Nat) (x0 x1 : List Int) : abody Γ (orc []) n 23 [ZX (Ty.int IntKind.u8).slice x0, ZX (Ty.int IntKind.u8).slice x1] = bif (↑x0.length : Int) != (↑x1.length : Int) then Zf else f24_L0 n n x0 x1 (0 : Int) := by kernel_rfl

noncomputable def e24 : Ent := { f := n24, ins := [Sh.one (cL tB), Sh.one (cL tB)], outs := [Sh.one cB], upd := [], pre := fun a => true, spec := fun a => Sp.eqL (α := Int) a.1 a.2, wrt := fun _ => () }
theorem f24_loop (n : Nat) (xs ys : List Int) (hl : xs.length ≤ maxLen) (hy : xs.length = ys.length) : ∀ (d k m : Nat), k + d = xs.length → d < m →
    f24_L0 n m xs ys (↑k : Int) = some (rBo (Sp.eqL (xs.drop k) (ys.drop k))) := by
  have hm : (xs.length : Nat) ≤ 9223372036854775807 := hl
  intro d
  induction d with
  | zero =>
    intro k m hk hm
    obtain ⟨m, rfl⟩ := succ_of hm
    rw [f24_L0_step, decide_eq_false (by omega), List.drop_of_length_le (by omega), List.drop_of_length_le (by omega)]
    rfl
  | succ d ih =>
    intro k m hk hm
    obtain ⟨m, rfl⟩ := succ_of hm
    have hlt : k < xs.length := by omega
    have hlt2 : k < ys.length := by omega
    rw [f24_L0_step, decide_eq_true (show (k : Int) < xs.length by omega), decide_eq_true (show (0 : Int) ≤ k by omega), decide_eq_true (show (k : Int) < ys.length by omega), wrap64 (by omega) (by omega), List.drop_eq_getElem_cons hlt, List.drop_eq_getElem_cons hlt2]
    simp only [cond_true, Bool.and_self, chkT, Int.toNat_natCast, List.getD, List.getElem?_eq_getElem hlt, List.getElem?_eq_getElem hlt2, Option.getD_some]
    rw [eqL_cons]
    by_cases he : xs[k] = ys[k]
    · have h1 : (xs[k] != ys[k]) = false := by simp [he]
      rw [h1, decide_eq_true he]
      simp only [cond_false, Bool.true_and]
      exact ih (k + 1) m (by omega) (by omega)
    · have h1 : (xs[k] != ys[k]) = true := by simpa using he
      rw [h1, decide_eq_false he]
      rfl
theorem e24_core (xs ys : List Int) (h1 : xs.length ≤ maxLen) : ∃ n, abody Γ (orc []) n n24 [ZX (Ty.int IntKind.u8).slice xs, ZX (Ty.int IntKind.u8).slice ys] = some (rBo (Sp.eqL xs ys)) := by
  refine ⟨xs.length + 1, (f24_raw _ xs ys).trans ?_⟩
  by_cases he : xs.length = ys.length
  · have h2 : ((xs.length : Int) != (ys.length : Int)) = false := by simp [he]
    rw [h2]
    simp only [cond_false]
    exact f24_loop _ xs ys h1 he xs.length 0 _ (Nat.zero_add _) (Nat.lt_succ_self _)
  · have h2 : ((xs.length : Int) != (ys.length : Int)) = true := by
      simp; omega
    rw [h2, eqL_len he]
    rfl
theorem e24_ok : Valid PP Γ e24 := valid_len ok vnil fun a _ hl => e24_core a.1 a.2 (hl _ (List.mem_cons_self) _ (List.mem_cons_self)).1
noncomputable def f25_L0 (n m0 : Nat) (y0 y1 : Int) (y2 : List Int) : Option Res := loopAt Γ (orc []) n (24 : Nat) (1 : Nat) [(0 : Nat)] [Pth.r, Pth.l, Pth.r, Pth.b] m0 (St.mk (Slot.val (Val.one (Cell.own (0 : Nat))) :: ZS Zi y0 :: ZN 3 (ZS Zi y1 :: ZN 14 [])) [AObj.row (Ty.int IntKind.u8) y2 true])
theorem f25_L0_step (n m0 : Nat) (y0 y1 : Int) (y2 : List Int) : f25_L0 n (m0 + 1) y0 y1 y2 = bif decide (y1 < (↑y2.length : Int)) then chk (decide ((0 : Int) ≤ y1) && decide (y1 < (↑y2.length : Int))) (f25_L0 n m0 (IntKind.i64.wrap (y0 + (1 : Int))) (IntKind.i64.wrap (y1 + (1 : Int))) (y2.set y1.toNat (IntKind.u8.wrap y0))) else some (Res.mk [ZX Zi y0] [X.c (X0.row (Ty.int IntKind.u8) y2 true)]) := by kernel_rfl
theorem f25_raw (n : Nat) (x0 : List Int) (x1 : Int) : abody Γ (orc []) n 24 [XV.mk false [X.c (X0.row (Ty.int IntKind.u8) x0 true)], ZX Zi x1] = f25_L0 n n x1 (0 : Int) x0 := by kernel_rfl

noncomputable def e25 : Ent := { f := n25, ins := [Sh.one (C0.row tB), Sh.one cI], outs := [Sh.one cI], upd := [Sh.one (C0.row tB)], pre := fun a => Sp.small (α := Int) a.1 a.2, spec := fun a => Sp.addLen (α := Int) a.1 a.2, wrt := fun a => Sp.mark8 a.1 a.2 }
theorem f25_loop (n : Nat) : ∀ (d k m : Nat) (v : Int) (acc : List Int), k + d = acc.length → d < m → 0 ≤ v → v + d ≤ 4611686018427387904 → k ≤ v + 4611686018427387904 → acc.length ≤ 4611686018427387904 →
    f25_L0 n m v (↑k : Int) acc = some (Res.mk [ZX Zi (v + (d : Int))] [X.c (X0.row (Ty.int IntKind.u8) (acc.take k ++ Sp.mark8 (acc.drop k) v) true)]) := by
  intro d
  induction d with
  | zero =>
    intro k m v acc hk hm h0 h1 h2 h3
    obtain ⟨m, rfl⟩ := succ_of hm
    rw [f25_L0_step, decide_eq_false (by omega), List.drop_of_length_le (by omega), List.take_of_length_le (by omega)]
    simp [Sp.mark8]
  | succ d ih =>
    intro k m v acc hk hm h0 h1 h2 h3
    obtain ⟨m, rfl⟩ := succ_of hm
    have hlt : k < acc.length := by omega
    rw [f25_L0_step, decide_eq_true (show (k : Int) < acc.length by omega), decide_eq_true (show (0 : Int) ≤ k by omega), wrap64 (by omega) (by omega), wrap64 (n := (k : Int) + 1) (by omega) (by omega)]
    simp only [cond_true, Bool.and_self, chkT, Int.toNat_natCast]
    have := ih (k + 1) m (v + 1) (acc.set k (IntKind.u8.wrap v)) (by simpa using by omega) (by omega) (by omega) (by omega) (by omega) (by simpa using h3)
    refine this.trans ?_
    have e : (acc.set k (IntKind.u8.wrap v)).take (k + 1) = acc.take k ++ [IntKind.u8.wrap v] := by
      rw [List.take_set, List.take_succ_eq_append_getElem (by omega)]
      rw [List.set_append_right _ _ (by simp; omega)]
      simp [Nat.min_eq_left (show k ≤ acc.length by omega)]
    have e2 : (acc.set k (IntKind.u8.wrap v)).drop (k + 1) = acc.drop (k + 1) := by rw [List.drop_set_of_lt (by omega)]
    rw [e, e2, List.append_assoc, List.drop_eq_getElem_cons hlt]
    simp only [Sp.mark8, List.singleton_append]
    rw [show v + 1 + (d : Int) = v + ((d + 1 : Nat) : Int) by omega]
theorem e25_core (xs : List Int) (v : Int) (ha : Sp.small xs v = true) : ∃ n, abody Γ (orc []) n n25 [XV.mk false [X.c (X0.row (Ty.int IntKind.u8) xs true)], ZX Zi v] = some (Res.mk [ZX Zi (Sp.addLen xs v)] [X.c (X0.row (Ty.int IntKind.u8) (Sp.mark8 xs v) true)]) := by
  obtain ⟨h1, h2⟩ := small_of ha
  refine ⟨xs.length + 1, (f25_raw _ xs v).trans ?_⟩
  exact f25_loop _ xs.length 0 _ v xs (Nat.zero_add _) (Nat.lt_succ_self _) h1 h2 (by omega) (by omega)
theorem e25_ok : Valid PP Γ e25 := valid_of ok vnil fun a ha => e25_core a.1 a.2 ha
noncomputable def f26_L0 (n m0 : Nat) (y0 : List Int) (y1 y2 : Int) : Option Res := loopAt Γ (orc []) n (25 : Nat) (0 : Nat) [] [Pth.r, Pth.l, Pth.r, Pth.b] m0 (St.mk (ZS (Ty.int IntKind.u8).slice y0 :: ZS Zi y1 :: ZN 3 (ZS Zi y2 :: ZN 16 [])) [])
theorem f26_L0_step (n m0 : Nat) (y0 : List Int) (y1 y2 : Int) : f26_L0 n (m0 + 1) y0 y1 y2 = bif decide (y2 < (↑y0.length : Int)) then chk (decide ((0 : Int) ≤ y2) && decide (y2 < (↑y0.length : Int))) (bif y0.getD y2.toNat (0 : Int) != IntKind.u8.wrap y1 then ZJ (-1 : Int) else f26_L0 n m0 y0 (IntKind.i64.wrap (y1 + (1 : Int))) (IntKind.i64.wrap (y2 + (1 : Int)))) else ZJ y1 := by kernel_rfl
theorem f26_raw (n : Nat) (x0 : List Int) (x1 : Int) : abody Γ (orc []) n 25 [ZX (Ty.int IntKind.u8).slice x0, ZX Zi x1] = f26_L0 n n x0 x1 (0 : Int) := by kernel_rfl

noncomputable def e26 : Ent := { f := n26, ins := [Sh.one (cL tB), Sh.one cI], outs := [Sh.one cI], upd := [], pre := fun a => Sp.small (α := Int) a.1 a.2, spec := fun a => Sp.held8 a.1 a.2, wrt := fun _ => () }
theorem f26_loop (n : Nat) (xs : List Int) : ∀ (d k m : Nat) (v : Int), k + d = xs.length → d < m → 0 ≤ v → v + d ≤ 4611686018427387904 → xs.length ≤ 4611686018427387904 →
    f26_L0 n m xs v (↑k : Int) = some (rI (Sp.held8 (xs.drop k) v)) := by
  intro d
  induction d with
  | zero =>
    intro k m v hk hm h0 h1 h3
    obtain ⟨m, rfl⟩ := succ_of hm
    rw [f26_L0_step, decide_eq_false (by omega), List.drop_of_length_le (by omega)]
    rfl
  | succ d ih =>
    intro k m v hk hm h0 h1 h3
    obtain ⟨m, rfl⟩ := succ_of hm
    have hlt : k < xs.length := by omega
    rw [f26_L0_step, decide_eq_true (show (k : Int) < xs.length by omega), decide_eq_true (show (0 : Int) ≤ k by omega), wrap64 (by omega) (by omega), wrap64 (n := (k : Int) + 1) (by omega) (by omega), List.drop_eq_getElem_cons hlt]
    simp only [cond_true, Bool.and_self, chkT, Int.toNat_natCast, List.getD, List.getElem?_eq_getElem hlt, Option.getD_some, Sp.held8]
    cases xs[k] != IntKind.u8.wrap v with
    | true => rfl
    | false =>
      simp only [cond_false]
      exact ih (k + 1) m (v + 1) (by omega) (by omega) (by omega) (by omega) h3
theorem e26_core (xs : List Int) (v : Int) (ha : Sp.small xs v = true) : ∃ n, abody Γ (orc []) n n26 [ZX (Ty.int IntKind.u8).slice xs, ZX Zi v] = some (rI (Sp.held8 xs v)) := by
  obtain ⟨h1, h2⟩ := small_of ha
  refine ⟨xs.length + 1, (f26_raw _ xs v).trans ?_⟩
  exact f26_loop _ xs xs.length 0 _ v (Nat.zero_add _) (Nat.lt_succ_self _) h1 h2 (by omega)
theorem e26_ok : Valid PP Γ e26 := valid_of ok vnil fun a ha => e26_core a.1 a.2 ha
end Go.Proofs.GR.T

set_option maxRecDepth 100000
set_option maxHeartbeats 100000000
namespace Go.Proofs.GR.T
open Go Go.Proofs Go.Proofs.GR
noncomputable def f164_L0 (n m0 : Nat) (y0 y1 y2 y3 : Int) (y4 : List Int) : Option Res := loopAt Γ (orc []) n (130 : Nat) (0 : Nat) [] [Pth.r, Pth.r, Pth.l, Pth.r, Pth.b] m0 (St.mk (ZS (Ty.int IntKind.u64) y0 :: ZS Zi y1 :: ZN 3 (Slot.val (Val.one (Cell.own (0 : Nat))) :: ZN 4 (ZS Zi y2 :: ZS Zi y3 :: ZN 15 []))) [AObj.row (Ty.int IntKind.u8) y4 true])
theorem f164_L0_step (n m0 : Nat) (y0 y1 y2 y3 : Int) (y4 : List Int) : f164_L0 n (m0 + 1) y0 y1 y2 y3 y4 = bif decide (y3 < y2) then chk (decide ((0 : Int) ≤ IntKind.i64.wrap ((8 : Int) * IntKind.i64.wrap (IntKind.i64.wrap (y1 - (1 : Int)) - y3)))) (chk (decide ((0 : Int) ≤ y3) && decide (y3 < (↑y4.length : Int))) (f164_L0 n m0 y0 y1 y2 (IntKind.i64.wrap (y3 + (1 : Int))) (y4.set y3.toNat (IntKind.u8.wrap (y0.fdiv ((2 : Int) ^ min (IntKind.i64.wrap ((8 : Int) * IntKind.i64.wrap (IntKind.i64.wrap (y1 - (1 : Int)) - y3))).toNat (64 : Nat))))))) else some (Res.mk [XV.mk false [X.c (X0.row (Ty.int IntKind.u8) y4 true)]] []) := by kernel_rfl
theorem f164_raw (n : Nat) (x0 x1 : Int) : abody Γ (orc []) n 130 [ZX (Ty.int IntKind.u64) x0, ZX Zi x1] = chk (decide ((0 : Int) ≤ x1) && decide (x1 ≤ x1) && decide (x1 ≤ (140737488355328 : Int)) && decide ((1 : Int) * x1 ≤ (140737488355328 : Int))) (f164_L0 n n x0 x1 (↑(List.replicate x1.toNat (0 : Int)).length : Int) (0 : Int) (List.replicate x1.toNat (0 : Int))) := by kernel_rfl

def Sp.highAt (n : Int) (c i : Nat) : Int := IntKind.u8.wrap (n.fdiv ((2 : Int) ^ min (8 * (c - 1 - i)) 64))
def Sp.highN (n : Int) (c : Nat) : List Int := (List.range' 0 c).map (Sp.highAt n c)
def Sp.high (n c : Int) : List Int := Sp.highN n c.toNat
def Sp.few (c : Int) : Bool := match c with
  | .ofNat n => decide (n ≤ 1048576)
  | .negSucc _ => false
theorem few_of {c : Int} (h : Sp.few c = true) : 0 ≤ c ∧ c ≤ 1048576 := by
  cases c with
  | ofNat n =>
    have h1 : n ≤ 1048576 := of_decide_eq_true h
    exact ⟨Int.natCast_nonneg n, by show (n : Int) ≤ 1048576; omega⟩
  | negSucc n => cases h
noncomputable def e164 : Ent := { f := n164, ins := [Sh.one (C0.dat (Ty.int IntKind.u64)), Sh.one cI], outs := [Sh.one (C0.row tB)], upd := [], pre := fun a => Sp.few a.2, spec := fun a => Sp.high a.1 a.2, wrt := fun _ => () }
theorem f164_loop (n : Nat) (x : Int) (c : Nat) (hc : (c : Int) ≤ 1048576) : ∀ (d k m : Nat) (acc : List Int), k + d = c → acc.length = c → d < m →
    f164_L0 n m x (↑c : Int) (↑c : Int) (↑k : Int) acc = some (rB (acc.take k ++ (List.range' k d).map (Sp.highAt x c))) := by
  intro d
  induction d with
  | zero =>
    intro k m acc hk ha hm
    obtain ⟨m, rfl⟩ := succ_of hm
    rw [f164_L0_step, decide_eq_false (by omega), List.take_of_length_le (by omega)]
    simp
  | succ d ih =>
    intro k m acc hk ha hm
    obtain ⟨m, rfl⟩ := succ_of hm
    have hlt : k < acc.length := by omega
    have w1 : IntKind.i64.wrap ((c : Int) - 1) = ((c - 1 : Nat) : Int) := by rw [wrap64 (by omega) (by omega)]; omega
    have w2 : IntKind.i64.wrap (((c - 1 : Nat) : Int) - (k : Int)) = ((c - 1 - k : Nat) : Int) := by rw [wrap64 (by omega) (by omega)]; omega
    have w3 : IntKind.i64.wrap (8 * ((c - 1 - k : Nat) : Int)) = ((8 * (c - 1 - k) : Nat) : Int) := by rw [wrap64 (by omega) (by omega)]; omega
    rw [f164_L0_step, w1, w2, w3, decide_eq_true (show (k : Int) < c by omega), decide_eq_true (show (0 : Int) ≤ ((8 * (c - 1 - k) : Nat) : Int) by omega), decide_eq_true (show (0 : Int) ≤ k by omega), decide_eq_true (show (k : Int) < acc.length by omega), wrap64 (n := (k : Int) + 1) (by omega) (by omega)]
    simp only [cond_true, Bool.and_self, chkT, Int.toNat_natCast]
    refine (ih (k + 1) m (acc.set k (IntKind.u8.wrap (x.fdiv ((2 : Int) ^ min (8 * (c - 1 - k)) 64)))) (by omega) (by simpa using ha) (by omega)).trans ?_
    have e : ∀ v : Int, (acc.set k v).take (k + 1) = acc.take k ++ [v] := by
      intro v
      rw [List.take_set, List.take_succ_eq_append_getElem (by omega)]
      rw [List.set_append_right _ _ (by simp; omega)]
      simp [Nat.min_eq_left (show k ≤ acc.length by omega)]
    rw [e, List.append_assoc, List.range'_succ]
    rfl
theorem f164_full (x : Int) (k : Nat) (h2 : (k : Int) ≤ 1048576) : f164_L0 (k + 1) (k + 1) x (↑k : Int) (↑k : Int) (0 : Int) (List.replicate k 0) = some (rB (Sp.highN x k)) := by
  have := f164_loop (k + 1) x k h2 k 0 (k + 1) (List.replicate k 0) (Nat.zero_add _) (List.length_replicate) (Nat.lt_succ_self _)
  rw [List.take_zero, List.nil_append, Int.natCast_zero] at this
  exact this
theorem e164_nat (x : Int) (k : Nat) (h2 : (k : Int) ≤ 1048576) : abody Γ (orc []) (k + 1) n164 [ZX (Ty.int IntKind.u64) x, ZX Zi (k : Int)] = some (rB (Sp.highN x k)) := by
  have e1 : (decide ((0 : Int) ≤ (k : Int)) && decide ((k : Int) ≤ (k : Int)) && decide ((k : Int) ≤ (140737488355328 : Int)) && decide ((1 : Int) * (k : Int) ≤ (140737488355328 : Int))) = true := by
    simp
    omega
  have e2 : (k : Int).toNat = k := Int.toNat_natCast k
  refine (f164_raw _ x (k : Int)).trans ?_
  rw [e1, chkT, e2, List.length_replicate]
  exact f164_full x k h2
theorem e164_core (x c : Int) (ha : Sp.few c = true) : ∃ n, abody Γ (orc []) n n164 [ZX (Ty.int IntKind.u64) x, ZX Zi c] = some (rB (Sp.high x c)) := by
  obtain ⟨h1, h2⟩ := few_of ha
  have e : c = (c.toNat : Int) := by omega
  have := e164_nat x c.toNat (by omega)
  rw [← e] at this
  exact ⟨c.toNat + 1, this⟩
theorem e164_ok : Valid PP Γ e164 := valid_of ok vnil fun a ha => e164_core a.1 a.2 ha
end Go.Proofs.GR.T

namespace Go.Proofs.GR.T
open Go Go.Proofs Go.Proofs.GR
end Go.Proofs.GR.T

set_option maxRecDepth 100000
set_option maxHeartbeats 100000000
namespace Go.Proofs.GR.T
open Go Go.Proofs Go.Proofs.GR
def Sp.num : Nat → List Int → Nat
  | r, [] => r
  | r, x :: l => Sp.num (r * 256 + x.toNat) l
def Sp.eight (xs : List Int) : Bool := yes2 (decide (xs.length ≤ 8)) (Sp.isBytes xs)
end Go.Proofs.GR.T

namespace Go.Proofs.GR.T
open Go Go.Proofs Go.Proofs.GR
theorem toList_loop (s : ByteArray) : ∀ (d i : Nat) (r : List UInt8), i + d = s.size → ByteArray.toList.loop s i r = r.reverse ++ s.data.toList.drop i := by
  intro d
  have hs : s.size = s.data.toList.length := by rw [Array.length_toList]; rfl
  induction d with
  | zero =>
    intro i r h
    unfold ByteArray.toList.loop
    rw [if_neg (by omega), List.drop_of_length_le (by omega), List.append_nil]
  | succ d ih =>
    intro i r h
    unfold ByteArray.toList.loop
    rw [if_pos (by omega), ih (i + 1) _ (by omega)]
    have hlt : i < s.data.toList.length := by omega
    have hlt2 : i < s.data.size := by rw [Array.length_toList] at hlt; exact hlt
    have hg : s.get! i = s.data.toList[i] := by
      show s.data[i]! = _
      rw [getElem!_pos s.data i hlt2, Array.getElem_toList]
    rw [List.drop_eq_getElem_cons hlt, hg]
    simp
theorem toList_eq (s : ByteArray) : s.toList = s.data.toList := by
  unfold ByteArray.toList
  rw [toList_loop s s.size 0 [] (Nat.zero_add _)]
  rfl
end Go.Proofs.GR.T

namespace Go.Proofs.GR.T
open Go Go.Proofs Go.Proofs.GR
end Go.Proofs.GR.T

set_option maxRecDepth 100000
set_option maxHeartbeats 100000000
namespace Go.Proofs.GR.T
open Go Go.Proofs Go.Proofs.GR
def Sp.mdig : Nat → Int → ByteArray → ByteArray
  | 0, _, acc => acc
  | d + 1, r, acc => bif decide (r > 0) then Sp.mdig d (IntKind.i64.wrap (r.tdiv 10)) (bytesStr [IntKind.u8.wrap (IntKind.i64.wrap (48 + r.tmod 10))] ++ acc) else acc
def Sp.mText (k : Int) : ByteArray := bif decide (k ≤ 0) then ByteArray.mk #[109, 48] else ByteArray.mk #[109] ++ Sp.mdig 19 k (ByteArray.mk #[])
def Sp.mOK (k : Int) : Bool := decide (k.toNat ≤ 4611686018427387904)
noncomputable def f75_L0 (n m0 : Nat) (y0 : Int) (y1 : ByteArray) : Option Res := loopAt Γ (orc []) n (47 : Nat) (0 : Nat) [] [Pth.r, Pth.r, Pth.r, Pth.l, Pth.b] m0 (St.mk (ZS Zi y0 :: Zn :: Zn :: ZS Ty.str y1 :: ZN 16 []) [])
theorem f75_L0_step (n m0 : Nat) (y0 : Int) (y1 : ByteArray) : f75_L0 n (m0 + 1) y0 y1 = bif decide (y0 > (0 : Int)) then chk (decide ((bytesStr [IntKind.u8.wrap (IntKind.i64.wrap ((48 : Int) + y0.tmod (10 : Int)))]).size + y1.size ≤ (9223372036854775807 : Nat))) (f75_L0 n m0 (IntKind.i64.wrap (y0.tdiv (10 : Int))) (bytesStr [IntKind.u8.wrap (IntKind.i64.wrap ((48 : Int) + y0.tmod (10 : Int)))] ++ y1)) else chk (decide ((1 : Nat) + y1.size ≤ (9223372036854775807 : Nat))) (some (Res.mk [ZX Ty.str (ByteArray.mk #[109] ++ y1)] [])) := by kernel_rfl
theorem f75_raw (n : Nat) (x0 : Int) : abody Γ (orc []) n 47 [ZX Zi x0] = bif decide (x0 ≤ (0 : Int)) then some (Res.mk [ZX Ty.str (ByteArray.mk #[109, 48])] []) else f75_L0 n n x0 (ByteArray.mk #[]) := by kernel_rfl

noncomputable def e75 : Ent := { f := n75, ins := [Sh.one cI], outs := [Sh.one cS], upd := [], pre := fun a => Sp.mOK a, spec := fun a => Sp.mText a, wrt := fun _ => () }
abbrev rS (s : ByteArray) : Res := Res.mk [ZX Ty.str s] []
theorem f75_loop (n : Nat) : ∀ (d m : Nat) (r : Int) (acc : ByteArray), r.toNat < 10 ^ d → r.toNat ≤ 4611686018427387904 → acc.size + d ≤ 19 → d < m →
    f75_L0 n m r acc = some (rS (ByteArray.mk #[109] ++ Sp.mdig d r acc)) := by
  intro d
  induction d with
  | zero =>
    intro m r acc hr hr2 ha hm
    obtain ⟨m, rfl⟩ := succ_of hm
    rw [f75_L0_step, decide_eq_false (by omega), decide_eq_true (show 1 + acc.size ≤ 9223372036854775807 by omega), cond_false, chkT, Sp.mdig]
  | succ d ih =>
    intro m r acc hr hr2 ha hm
    obtain ⟨m, rfl⟩ := succ_of hm
    rw [f75_L0_step]
    by_cases h0 : r > 0
    · have hsz : (bytesStr [IntKind.u8.wrap (IntKind.i64.wrap (48 + r.tmod 10))]).size = 1 := by rw [bytesStr_size]; rfl
      rw [decide_eq_true h0, hsz, decide_eq_true (show 1 + acc.size ≤ 9223372036854775807 by omega), cond_true, chkT, Sp.mdig, decide_eq_true h0, cond_true]
      have e : r.tdiv 10 = ((r.toNat / 10 : Nat) : Int) := by
        rw [Int.tdiv_eq_ediv_of_nonneg (by omega)]; omega
      have e2 : IntKind.i64.wrap (r.tdiv 10) = ((r.toNat / 10 : Nat) : Int) := by rw [e]; exact wrap64 (by omega) (by omega)
      rw [e2]
      refine ih m _ _ ?_ ?_ ?_ (by omega)
      · rw [Int.toNat_natCast]; rw [Nat.pow_succ] at hr; omega
      · rw [Int.toNat_natCast]; omega
      · rw [ByteArray.size_append, hsz]; omega
    · rw [decide_eq_false h0, decide_eq_true (show 1 + acc.size ≤ 9223372036854775807 by omega), Sp.mdig, decide_eq_false h0, cond_false, cond_false, chkT]
theorem e75_core (k : Int) (h : Sp.mOK k = true) : ∃ n, abody Γ (orc []) n n75 [ZX Zi k] = some (rS (Sp.mText k)) := by
  have h1 : k.toNat ≤ 4611686018427387904 := of_decide_eq_true h
  refine ⟨20, (f75_raw 20 k).trans ?_⟩
  unfold Sp.mText
  by_cases h0 : k ≤ 0
  · rw [decide_eq_true h0]; rfl
  · rw [decide_eq_false h0, cond_false, cond_false]
    exact f75_loop 20 19 20 k _ (by omega) h1 (by decide) (by omega)
theorem e75_ok : Valid PP Γ e75 := valid_of ok vnil fun a ha => e75_core a ha
def Sp.eqS : List ByteArray → List ByteArray → Bool
  | [], [] => true
  | x :: r, y :: s => bif !(x.toList == y.toList) then false else Sp.eqS r s
  | _, _ => false
end Go.Proofs.GR.T

set_option maxRecDepth 100000
set_option maxHeartbeats 100000000
namespace Go.Proofs.GR.T
open Go Go.Proofs Go.Proofs.GR
end Go.Proofs.GR.T

namespace Go.Proofs.GR.T
open Go Go.Proofs Go.Proofs.GR
end Go.Proofs.GR.T

set_option maxRecDepth 100000
set_option maxHeartbeats 100000000
namespace Go.Proofs.GR.T
open Go Go.Proofs Go.Proofs.GR
def Sp.f79 (x0 x1 x2 : Int) := (bif decide (x0 ≥ x1) then (decide (x0 ≤ x2), ()) else (false, ()))
noncomputable def e79 : Ent := { f := 71, ins := [Sh.one ZI, Sh.one ZI, Sh.one ZI], outs := [Sh.one (C0.dat Ty.bool)], upd := [], pre := fun a => true, spec := fun a => (Sp.f79 a.1 a.2.1 a.2.2).1, wrt := fun a => (Sp.f79 a.1 a.2.1 a.2.2).2 }
def f79_g (v : denS [Sh.one (C0.dat Ty.bool)] × denS []) : Res := ⟨mkS [Sh.one (C0.dat Ty.bool)] v.1, mkU [] v.2⟩
theorem f79_form (x0 x1 x2 : Int) : abody Γ (orc []) 0 71 [ZX Zi x0, ZX Zi x1, ZX Zi x2] = some (f79_g (Sp.f79 x0 x1 x2)) := by
  refine Eq.trans (b := bif decide (x0 ≥ x1) then ZB (decide (x0 ≤ x2)) else Zf) (by kernel_rfl) ?_
  unfold Sp.f79
  exact (cond_plain f79_g (rfl) (rfl))
theorem e79_ok : Valid PP Γ e79 := valid_auto ok vnil fun a => f79_form a.1 a.2.1 a.2.2

def Sp.f136 (x0 x1 : Int) (x2 : ByteArray) := (bif x0 == (0 : Int) then (bif x1 == (0 : Int) then (x2.toList == (ByteArray.mk #[]).toList, ()) else (false, ())) else (bif x0 == (1 : Int) then (bif (Sp.f79 x1 (0 : Int) (1 : Int)).1 then (x2.toList == (ByteArray.mk #[]).toList, ()) else (false, ())) else (bif x0 == (2 : Int) then (x2.toList == (ByteArray.mk #[]).toList, ()) else (bif x0 == (3 : Int) then (bif x0 == (3 : Int) then (bif x1 == (0 : Int) then (decide ((↑x2.size : Int) ≤ (60 : Int)), ()) else (false, ())) else (false, ())) else (bif x0 == (4 : Int) then (bif x1 == (0 : Int) then (decide ((↑x2.size : Int) ≤ (60 : Int)), ()) else (false, ())) else (false, ()))))))
noncomputable def e136 : Ent := { f := 110, ins := [Sh.agg [C0.dat Zi, C0.dat Zi, C0.dat Ty.str]], outs := [Sh.one (C0.dat Ty.bool)], upd := [], pre := fun a => true, spec := fun a => (Sp.f136 a.1 a.2.1 a.2.2).1, wrt := fun a => (Sp.f136 a.1 a.2.1 a.2.2).2 }
def f136_g (v : denS [Sh.one (C0.dat Ty.bool)] × denS []) : Res := ⟨mkS [Sh.one (C0.dat Ty.bool)] v.1, mkU [] v.2⟩
theorem f136_form (x0 x1 : Int) (x2 : ByteArray) : abody Γ (orc [e79]) 0 110 [XV.mk true [ZC Zi x0, ZC Zi x1, ZC Ty.str x2]] = some (f136_g (Sp.f136 x0 x1 x2)) := by
  refine Eq.trans (b := bif x0 == (0 : Int) then bif x1 == (0 : Int) then ZB (x2.toList == (ByteArray.mk #[]).toList) else Zf else bif x0 == (1 : Int) then bif (Sp.f79 x1 (0 : Int) (1 : Int)).1 then ZB (x2.toList == (ByteArray.mk #[]).toList) else Zf else bif x0 == (2 : Int) then ZB (x2.toList == (ByteArray.mk #[]).toList) else bif x0 == (3 : Int) then bif x0 == (3 : Int) then bif x1 == (0 : Int) then ZB (decide ((↑x2.size : Int) ≤ (60 : Int))) else Zf else Zf else bif x0 == (4 : Int) then bif x1 == (0 : Int) then ZB (decide ((↑x2.size : Int) ≤ (60 : Int))) else Zf else Zf) (by kernel_rfl) ?_
  unfold Sp.f136
  exact (cond_plain f136_g ((cond_plain f136_g (rfl) (rfl))) ((cond_plain f136_g ((cond_plain f136_g (rfl) (rfl))) ((cond_plain f136_g (rfl) ((cond_plain f136_g ((cond_plain f136_g ((cond_plain f136_g (rfl) (rfl))) (rfl))) ((cond_plain f136_g ((cond_plain f136_g (rfl) (rfl))) (rfl))))))))))
theorem e136_ok : Valid PP Γ e136 := valid_auto ok (vcons e79_ok vnil) fun a => f136_form a.1 a.2.1 a.2.2

def Sp.f167 (x0 : Int) := (bif x0 == (3 : Int) then (true, ()) else (x0 == (4 : Int), ()))
noncomputable def e167 : Ent := { f := 131, ins := [Sh.one ZI], outs := [Sh.one (C0.dat Ty.bool)], upd := [], pre := fun a => true, spec := fun a => (Sp.f167 a).1, wrt := fun a => (Sp.f167 a).2 }
def f167_g (v : denS [Sh.one (C0.dat Ty.bool)] × denS []) : Res := ⟨mkS [Sh.one (C0.dat Ty.bool)] v.1, mkU [] v.2⟩
theorem f167_form (x0 : Int) : abody Γ (orc []) 0 131 [ZX Zi x0] = some (f167_g (Sp.f167 x0)) := by
  refine Eq.trans (b := bif x0 == (3 : Int) then Zt else ZB (x0 == (4 : Int))) (by kernel_rfl) ?_
  unfold Sp.f167
  exact (cond_plain f167_g (rfl) (rfl))
theorem e167_ok : Valid PP Γ e167 := valid_auto ok vnil fun a => f167_form a

def Sp.f171 (x0 x1 : Int) (x2 : ByteArray) := (bif x0 == (0 : Int) then (bif x1 == (0 : Int) then (x2.toList == (ByteArray.mk #[]).toList, ()) else (false, ())) else (bif x0 == (1 : Int) then (bif (Sp.f70 x1 (0 : Int) (1 : Int)).1 then (x2.toList == (ByteArray.mk #[]).toList, ()) else (false, ())) else (bif x0 == (2 : Int) then (x2.toList == (ByteArray.mk #[]).toList, ()) else (bif (Sp.f167 x0).1 then (bif x1 == (0 : Int) then (decide ((↑x2.size : Int) ≤ (60 : Int)), ()) else (false, ())) else (false, ())))))
noncomputable def e171 : Ent := { f := 134, ins := [Sh.agg [C0.dat Zi, C0.dat Zi, C0.dat Ty.str]], outs := [Sh.one (C0.dat Ty.bool)], upd := [], pre := fun a => true, spec := fun a => (Sp.f171 a.1 a.2.1 a.2.2).1, wrt := fun a => (Sp.f171 a.1 a.2.1 a.2.2).2 }
def f171_g (v : denS [Sh.one (C0.dat Ty.bool)] × denS []) : Res := ⟨mkS [Sh.one (C0.dat Ty.bool)] v.1, mkU [] v.2⟩
theorem f171_form (x0 x1 : Int) (x2 : ByteArray) : abody Γ (orc [e70, e167]) 0 134 [XV.mk true [ZC Zi x0, ZC Zi x1, ZC Ty.str x2]] = some (f171_g (Sp.f171 x0 x1 x2)) := by
  refine Eq.trans (b := bif x0 == (0 : Int) then bif x1 == (0 : Int) then ZB (x2.toList == (ByteArray.mk #[]).toList) else Zf else bif x0 == (1 : Int) then bif (Sp.f70 x1 (0 : Int) (1 : Int)).1 then ZB (x2.toList == (ByteArray.mk #[]).toList) else Zf else bif x0 == (2 : Int) then ZB (x2.toList == (ByteArray.mk #[]).toList) else bif (Sp.f167 x0).1 then bif x1 == (0 : Int) then ZB (decide ((↑x2.size : Int) ≤ (60 : Int))) else Zf else Zf) (by kernel_rfl) ?_
  unfold Sp.f171
  exact (cond_plain f171_g ((cond_plain f171_g (rfl) (rfl))) ((cond_plain f171_g ((cond_plain f171_g (rfl) (rfl))) ((cond_plain f171_g (rfl) ((cond_plain f171_g ((cond_plain f171_g (rfl) (rfl))) (rfl))))))))
theorem e171_ok : Valid PP Γ e171 := valid_auto ok (vcons e70_ok (vcons e167_ok vnil)) fun a => f171_form a.1 a.2.1 a.2.2

def Sp.f170 (x0 x1 : Int) (x2 : ByteArray) := (!(Sp.f171 x0 x1 x2).1, ())
noncomputable def e170 : Ent := { f := 133, ins := [Sh.agg [C0.dat Zi, C0.dat Zi, C0.dat Ty.str]], outs := [Sh.one (C0.dat Ty.bool)], upd := [], pre := fun a => true, spec := fun a => (Sp.f170 a.1 a.2.1 a.2.2).1, wrt := fun a => (Sp.f170 a.1 a.2.1 a.2.2).2 }
def f170_g (v : denS [Sh.one (C0.dat Ty.bool)] × denS []) : Res := ⟨mkS [Sh.one (C0.dat Ty.bool)] v.1, mkU [] v.2⟩
theorem f170_form (x0 x1 : Int) (x2 : ByteArray) : abody Γ (orc [e171]) 0 133 [XV.mk true [ZC Zi x0, ZC Zi x1, ZC Ty.str x2]] = some (f170_g (Sp.f170 x0 x1 x2)) := by
  refine Eq.trans (b := some (Res.mk [XV.mk false [X.c (X0.dat Ty.bool !(Sp.f171 x0 x1 x2).1)]] [])) (by kernel_rfl) ?_
  unfold Sp.f170
  exact rfl
theorem e170_ok : Valid PP Γ e170 := valid_auto ok (vcons e171_ok vnil) fun a => f170_form a.1 a.2.1 a.2.2

def Sp.f86 (x0 x1 : Int) (x2 : ByteArray) (x3 x4 : Int) (x5 : ByteArray) := (bif x0 != x3 then (false, ()) else (bif x1 != x4 then (false, ()) else (bif !x2.toList == x5.toList then (false, ()) else (true, ()))))
noncomputable def e86 : Ent := { f := 105, ins := [Sh.agg [C0.dat Zi, C0.dat Zi, C0.dat Ty.str], Sh.agg [C0.dat Zi, C0.dat Zi, C0.dat Ty.str]], outs := [Sh.one (C0.dat Ty.bool)], upd := [], pre := fun a => true, spec := fun a => (Sp.f86 a.1.1 a.1.2.1 a.1.2.2 a.2.1 a.2.2.1 a.2.2.2).1, wrt := fun a => (Sp.f86 a.1.1 a.1.2.1 a.1.2.2 a.2.1 a.2.2.1 a.2.2.2).2 }
def f86_g (v : denS [Sh.one (C0.dat Ty.bool)] × denS []) : Res := ⟨mkS [Sh.one (C0.dat Ty.bool)] v.1, mkU [] v.2⟩
theorem f86_form (x0 x1 : Int) (x2 : ByteArray) (x3 x4 : Int) (x5 : ByteArray) : abody Γ (orc []) 0 105 [XV.mk true [ZC Zi x0, ZC Zi x1, ZC Ty.str x2], XV.mk true [ZC Zi x3, ZC Zi x4, ZC Ty.str x5]] = some (f86_g (Sp.f86 x0 x1 x2 x3 x4 x5)) := by
  refine Eq.trans (b := bif x0 != x3 then Zf else bif x1 != x4 then Zf else bif !x2.toList == x5.toList then Zf else Zt) (by kernel_rfl) ?_
  unfold Sp.f86
  exact (cond_plain f86_g (rfl) ((cond_plain f86_g (rfl) ((cond_plain f86_g (rfl) (rfl))))))
theorem e86_ok : Valid PP Γ e86 := valid_auto ok vnil fun a => f86_form a.1.1 a.1.2.1 a.1.2.2 a.2.1 a.2.2.1 a.2.2.2

def Sp.takeB (b : List Int) (a : Int) (bad : Bool) (n : Int) : Bool := bif bad then true else bif decide (n < 0) then true else decide (a + n > (b.length : Int))
def Sp.takeV (b : List Int) (a : Int) (bad : Bool) (n : Int) : List Int := bif Sp.takeB b a bad n then List.replicate (maxI 0 (minI n 8)).toNat 0 else (b.drop a.toNat).take n.toNat
def Sp.of8 (xs : List Int) : Int := (Sp.num 0 (xs.take 8) : Int) - 9223372036854775808
theorem xor128_val : ∀ a : Fin 256, a.val ^^^ 128 = if a.val < 128 then a.val + 128 else a.val - 128 := by decide +kernel
theorem p7 : 256 ^ 7 = 72057594037927936 := by decide +kernel
end Go.Proofs.GR.T

set_option maxRecDepth 100000
set_option maxHeartbeats 100000000
namespace Go.Proofs.GR.T
open Go Go.Proofs Go.Proofs.GR
def Sp.kt : List Int → List Int → Int → ByteArray × Int
  | [], _, _ => (ByteArray.mk #[], 0)
  | [x], acc, i => (ByteArray.mk #[], 0)
  | x :: y :: r, acc, i => bif x != 0 then Sp.kt (y :: r) (acc ++ [x]) (i + 1) else bif y == 1 then (bytesStr acc, i + 2) else bif y != 255 then (ByteArray.mk #[], 0) else Sp.kt r (acc ++ [0]) (i + 2)
abbrev V3 := Int × Int × ByteArray
def Sp.zv : V3 := (0, 0, ByteArray.empty)
def Sp.cellC (x : Int) (r : List Int) (row : Bool) : V3 × Int :=
    bif x == 0 then ((0, 0, ByteArray.empty), 1)
    else bif x == 1 then (match r with | [] => (Sp.zv, 0) | y :: _ => ((1, y, ByteArray.empty), 2))
    else bif x == 2 then (bif Nat.ble 8 r.length then ((2, Sp.of8 r, ByteArray.empty), 9) else (Sp.zv, 0))
    else bif (Sp.f167 x).1 then
      bif !row then (bif decide ((Sp.kt r [] 0).2 > 0) then ((x, 0, (Sp.kt r [] 0).1), IntKind.i64.wrap ((Sp.kt r [] 0).2 + 1)) else (Sp.zv, 0))
      else (match r with | [] => (Sp.zv, 0) | y :: r' => bif Nat.ble y.toNat r'.length then ((x, 0, bytesStr (r'.take y.toNat)), 2 + y) else (Sp.zv, 0))
    else (Sp.zv, 0)
def Sp.cell : List Int → Bool → V3 × Int
  | [], _ => (Sp.zv, 0)
  | x :: r, row => Sp.cellC x r row
end Go.Proofs.GR.T

namespace Go.Proofs.GR.T
open Go Go.Proofs Go.Proofs.GR
namespace Sp
def eqW {α β : Type} (q : α → β → Bool) : List α → List β → Bool
  | [], [] => true
  | x :: r, y :: s => bif !q x y then false else eqW q r s
  | _, _ => false
def markW {α : Type} (g : α → Int → α) (c : Int) : List α → Int → List α
  | [], _ => []
  | x :: r, k => g x k :: markW g c r (k + c)
def smallW {α : Type} (c : Nat) (xs : List α) (k : Int) : Bool := match k with
  | .ofNat n => decide (n + c * xs.length ≤ 4611686018427387904)
  | .negSucc _ => false
def addW {α : Type} (c : Int) (xs : List α) (k : Int) : Int := k + c * (xs.length : Int)
def allW {α : Type} (p : α → Bool) : List α → Bool
  | [] => true
  | x :: r => bif !p x then false else allW p r
end Sp
theorem smallW_of {α : Type} {c : Nat} {xs : List α} {k : Int} (h : Sp.smallW c xs k = true) : 0 ≤ k ∧ k + c * (xs.length : Int) ≤ 4611686018427387904 := by
  cases k with
  | ofNat n =>
    have h1 : n + c * xs.length ≤ 4611686018427387904 := of_decide_eq_true h
    refine ⟨Int.natCast_nonneg n, ?_⟩
    show (n : Int) + c * (xs.length : Int) ≤ 4611686018427387904
    rw [← Int.natCast_mul]
    omega
  | negSucc n => cases h
theorem smallW_mk {α : Type} {c : Nat} {xs : List α} {k : Int} (h1 : 0 ≤ k) (h2 : k.toNat + c * xs.length ≤ 4611686018427387904) : Sp.smallW c xs k = true := by
  cases k with
  | ofNat n => exact decide_eq_true h2
  | negSucc n => exact absurd h1 (by omega)
theorem eqW_len {α β : Type} {q : α → β → Bool} : ∀ {xs : List α} {ys : List β}, xs.length ≠ ys.length → Sp.eqW q xs ys = false
  | [], [], h => absurd rfl h
  | [], _ :: _, _ => rfl
  | _ :: _, [], _ => rfl
  | x :: r, y :: s, h => by
    unfold Sp.eqW
    rw [eqW_len (xs := r) (ys := s) (fun e => h (by simp [e]))]
    cases !q x y <;> rfl
theorem eqW_self {α : Type} {q : α → α → Bool} (h : ∀ x, q x x = true) : ∀ xs : List α, Sp.eqW q xs xs = true
  | [] => rfl
  | x :: r => by unfold Sp.eqW; rw [h, eqW_self h r]; rfl
theorem allW_mem {α : Type} {p : α → Bool} : ∀ {xs : List α}, Sp.allW p xs = true ↔ ∀ x ∈ xs, p x = true
  | [] => by simp [Sp.allW]
  | x :: r => by
    unfold Sp.allW
    cases h : p x with
    | true => simp [h, allW_mem (xs := r)]
    | false => simp [h]
theorem eq_loop {α : Type} {ρ : Type} {q : α → α → Bool} {R : Bool → ρ} (xs ys : List α) (L : Nat → Int → Option ρ) (hy : xs.length = ys.length)
    (hend : ∀ m (k : Nat), xs.length ≤ k → L (m + 1) k = some (R true))
    (hstep : ∀ m (k : Nat) (h : k < xs.length) (h2 : k < ys.length), L (m + 1) k = bif !q xs[k] ys[k] then some (R false) else L m ((k + 1 : Nat) : Int)) :
    ∀ (d k m : Nat), k + d = xs.length → d < m → L m k = some (R (Sp.eqW q (xs.drop k) (ys.drop k))) := by
  intro d
  induction d with
  | zero =>
    intro k m hk hm
    obtain ⟨m, rfl⟩ := succ_of hm
    rw [hend m k (by omega), List.drop_of_length_le (by omega), List.drop_of_length_le (by omega)]
    rfl
  | succ d ih =>
    intro k m hk hm
    obtain ⟨m, rfl⟩ := succ_of hm
    rw [hstep m k (by omega) (by omega), ih (k + 1) m (by omega) (by omega), List.drop_eq_getElem_cons (show k < xs.length by omega), List.drop_eq_getElem_cons (show k < ys.length by omega)]
    rw [Sp.eqW]
    cases !q xs[k] ys[k] <;> rfl
theorem all_loop {α : Type} {ρ : Type} {p : α → Bool} {R : Bool → ρ} (xs : List α) (L : Nat → Int → Option ρ)
    (hend : ∀ m (k : Nat), xs.length ≤ k → L (m + 1) k = some (R true))
    (hstep : ∀ m (k : Nat) (h : k < xs.length), L (m + 1) k = bif !p xs[k] then some (R false) else L m ((k + 1 : Nat) : Int)) :
    ∀ (d k m : Nat), k + d = xs.length → d < m → L m k = some (R (Sp.allW p (xs.drop k))) := by
  intro d
  induction d with
  | zero =>
    intro k m hk hm
    obtain ⟨m, rfl⟩ := succ_of hm
    rw [hend m k (by omega), List.drop_of_length_le (by omega)]
    rfl
  | succ d ih =>
    intro k m hk hm
    obtain ⟨m, rfl⟩ := succ_of hm
    rw [hstep m k (by omega), ih (k + 1) m (by omega) (by omega), List.drop_eq_getElem_cons (show k < xs.length by omega)]
    rw [Sp.allW]
    cases !p xs[k] <;> rfl
theorem idx_loop {α : Type} {ρ : Type} {p : α → Bool} {R : Int → ρ} (xs : List α) (L : Nat → Int → Option ρ)
    (hend : ∀ m (k : Nat), xs.length ≤ k → L (m + 1) k = some (R (-1)))
    (hstep : ∀ m (k : Nat) (h : k < xs.length), L (m + 1) k = bif p xs[k] then some (R k) else L m ((k + 1 : Nat) : Int)) :
    ∀ (d k m : Nat), k + d = xs.length → d < m → L m k = some (R (Sp.idx p (xs.drop k) k)) := by
  intro d
  induction d with
  | zero =>
    intro k m hk hm
    obtain ⟨m, rfl⟩ := succ_of hm
    rw [hend m k (by omega), List.drop_of_length_le (by omega)]
    rfl
  | succ d ih =>
    intro k m hk hm
    obtain ⟨m, rfl⟩ := succ_of hm
    rw [hstep m k (by omega), ih (k + 1) m (by omega) (by omega), List.drop_eq_getElem_cons (show k < xs.length by omega)]
    rw [Sp.idx]
    rw [show ((k + 1 : Nat) : Int) = (k : Int) + 1 by omega]
    cases p xs[k] <;> rfl
theorem mark_loop {α : Type} {ρ : Type} {g : α → Int → α} {c : Nat} {R : Int → List α → ρ} (L : Nat → Int → Int → List α → Option ρ)
    (hend : ∀ m (v : Int) (k : Nat) acc, acc.length ≤ k → L (m + 1) v k acc = some (R v acc))
    (hstep : ∀ m (v : Int) (k : Nat) acc (h : k < acc.length), acc.length ≤ 9223372036854775807 → 0 ≤ v → v + c ≤ 4611686018427387904 → L (m + 1) v k acc = L m (v + c) ((k + 1 : Nat) : Int) (acc.set k (g acc[k] v))) :
    ∀ (d k m : Nat) (v : Int) (acc : List α), k + d = acc.length → d < m → acc.length ≤ 9223372036854775807 → 0 ≤ v → v + c * (d : Int) ≤ 4611686018427387904 →
      L m v k acc = some (R (v + c * (d : Int)) (acc.take k ++ Sp.markW g c (acc.drop k) v)) := by
  intro d
  induction d with
  | zero =>
    intro k m v acc hk hm hlen h0 h1
    obtain ⟨m, rfl⟩ := succ_of hm
    rw [hend m v k acc (by omega), List.drop_of_length_le (by omega), List.take_of_length_le (by omega)]
    simp [Sp.markW]
  | succ d ih =>
    intro k m v acc hk hm hlen h0 h1
    obtain ⟨m, rfl⟩ := succ_of hm
    rw [Int.natCast_add, Int.natCast_one, Int.mul_add, Int.mul_one] at h1
    have hp : (0 : Int) ≤ c * (d : Int) := Int.mul_nonneg (Int.natCast_nonneg _) (Int.natCast_nonneg _)
    have hc : (0 : Int) ≤ c := Int.natCast_nonneg _
    have hlt : k < acc.length := by omega
    rw [hstep m v k acc hlt hlen h0 (by omega), ih (k + 1) m (v + c) _ (by rw [List.length_set]; omega) (by omega) (by rw [List.length_set]; exact hlen) (by omega) (by omega)]
    have e : (acc.set k (g acc[k] v)).take (k + 1) = acc.take k ++ [g acc[k] v] := by
      rw [List.take_set, List.take_succ_eq_append_getElem (by omega)]
      rw [List.set_append_right _ _ (by simp; omega)]
      simp [Nat.min_eq_left (show k ≤ acc.length by omega)]
    have e2 : (acc.set k (g acc[k] v)).drop (k + 1) = acc.drop (k + 1) := by rw [List.drop_set_of_lt (by omega)]
    rw [e, e2, List.append_assoc, List.drop_eq_getElem_cons hlt]
    simp only [Sp.markW, List.singleton_append]
    rw [Int.natCast_add, Int.natCast_one, Int.mul_add, Int.mul_one, show v + c + c * (d : Int) = v + (c * (d : Int) + c) by omega]
theorem getD_nat {α : Type} (xs : List α) (k : Nat) (d : α) (h : k < xs.length) : xs.getD (k : Int).toNat d = xs[k] := by
  rw [Int.toNat_natCast, List.getD, List.getElem?_eq_getElem h, Option.getD_some]
theorem guard2 {k n : Nat} (h : k < n) : (decide ((0 : Int) ≤ (k : Int)) && decide ((k : Int) < (n : Int))) = true := by
  rw [decide_eq_true (show (0 : Int) ≤ k by omega), decide_eq_true (show (k : Int) < n by omega)]; rfl
theorem guard0 {k : Nat} : (decide ((0 : Int) ≤ (k : Int)) && true) = true := by
  rw [decide_eq_true (show (0 : Int) ≤ k by omega)]; rfl
theorem getD_set {α : Type} {l : List α} {k : Nat} {y d : α} (h : k < l.length) : (l.set k y).getD k d = y := by
  rw [List.getD, List.getElem?_set_self h, Option.getD_some]
theorem next64 {k n : Nat} (h : k < n) (h2 : n ≤ 9223372036854775807) : IntKind.i64.wrap ((k : Int) + 1) = ((k + 1 : Nat) : Int) := by
  rw [wrap64 (by omega) (by omega)]; omega
theorem nat_lt {k n : Nat} (h : k < n) : decide ((k : Int) < (n : Int)) = true := decide_eq_true (by omega)
theorem nat_ge {k n : Nat} (h : n ≤ k) : decide ((k : Int) < (n : Int)) = false := decide_eq_false (by omega)
end Go.Proofs.GR.T

set_option maxRecDepth 100000
set_option maxHeartbeats 100000000
namespace Go.Proofs.GR.T
open Go Go.Proofs Go.Proofs.GR
abbrev tV : Ty := .pair (.int .i64) (.pair (.int .i64) .str)
def Sp.eqV (x y : V3) : Bool := (Sp.f86 x.1 x.2.1 x.2.2 y.1 y.2.1 y.2.2).1
def Sp.markV (_ : V3) (k : Int) : V3 := (k, k + 1, Sp.mText (k + 2))
noncomputable def f44_L0 (n m0 : Nat) (y0 y1 : List (Int × Int × ByteArray)) (y2 : Int) : Option Res := loopAt Γ (orc [e86]) n (61 : Nat) (0 : Nat) [] [Pth.r, Pth.r, Pth.l, Pth.r, Pth.b] m0 (St.mk (ZS (Zi.pair (Zi.pair Ty.str)).slice y0 :: ZS (Zi.pair (Zi.pair Ty.str)).slice y1 :: ZN 3 (ZS Zi y2 :: ZN 21 [])) [])
theorem f44_L0_step (n m0 : Nat) (y0 y1 : List (Int × Int × ByteArray)) (y2 : Int) : f44_L0 n (m0 + 1) y0 y1 y2 = bif decide (y2 < (↑y0.length : Int)) then chk (decide ((0 : Int) ≤ y2) && decide (y2 < (↑y0.length : Int))) (chk (decide ((0 : Int) ≤ y2) && decide (y2 < (↑y1.length : Int))) (bif !(Sp.f86 (y0.getD y2.toNat ((0 : Int), (0 : Int), ByteArray.mk #[])).1 (y0.getD y2.toNat ((0 : Int), (0 : Int), ByteArray.mk #[])).2.1 (y0.getD y2.toNat ((0 : Int), (0 : Int), ByteArray.mk #[])).2.2 (y1.getD y2.toNat ((0 : Int), (0 : Int), ByteArray.mk #[])).1 (y1.getD y2.toNat ((0 : Int), (0 : Int), ByteArray.mk #[])).2.1 (y1.getD y2.toNat ((0 : Int), (0 : Int), ByteArray.mk #[])).2.2).1 then Zf else f44_L0 n m0 y0 y1 (IntKind.i64.wrap (y2 + (1 : Int))))) else Zt := by kernel_rfl
theorem f44_raw (n : Nat) (x0 x1 : List (Int × Int × ByteArray)) : abody Γ (orc [e86]) n 61 [ZX (Zi.pair (Zi.pair Ty.str)).slice x0, ZX (Zi.pair (Zi.pair Ty.str)).slice x1] = bif (↑x0.length : Int) != (↑x1.length : Int) then Zf else f44_L0 n n x0 x1 (0 : Int) := by kernel_rfl

noncomputable def e44 : Ent := { f := n44, ins := [Sh.one (C0.dat (.slice tV)), Sh.one (C0.dat (.slice tV))], outs := [Sh.one cB], upd := [], pre := fun a => true, spec := fun a => Sp.eqW Sp.eqV a.1 a.2, wrt := fun _ => () }
theorem e44_core (xs ys : List V3) (h1 : xs.length ≤ maxLen) : ∃ n, abody Γ (orc [e86]) n n44 [ZX (Ty.slice tV) xs, ZX (Ty.slice tV) ys] = some (rBo (Sp.eqW Sp.eqV xs ys)) := by
  have h1 : xs.length ≤ 9223372036854775807 := h1
  refine ⟨xs.length + 1, (f44_raw _ xs ys).trans ?_⟩
  by_cases he : xs.length = ys.length
  · rw [show ((xs.length : Int) != (ys.length : Int)) = false by simp [he], cond_false]
    refine eq_loop xs ys (fun m k => f44_L0 _ m xs ys k) he (fun m k hk => ?_) (fun m k h h2 => ?_) xs.length 0 _ (Nat.zero_add _) (Nat.lt_succ_self _)
    · show f44_L0 _ _ _ _ _ = _
      rw [f44_L0_step, nat_ge hk, cond_false]
    · show f44_L0 _ _ _ _ _ = _
      rw [f44_L0_step, nat_lt h, cond_true, guard0, chkT, guard2 h2, chkT, getD_nat xs k _ h, getD_nat ys k _ h2, next64 h2 (by omega)]
      rfl
  · rw [show ((xs.length : Int) != (ys.length : Int)) = true by simp; omega, eqW_len he]
    rfl
theorem e44_ok : Valid PP Γ e44 := valid_len ok (vcons e86_ok vnil) fun a _ hl => e44_core a.1 a.2 (hl _ (List.mem_cons_self) _ (List.mem_cons_self)).1
noncomputable def f45_L0 (n m0 : Nat) (y0 y1 : Int) (y2 : List (Int × Int × ByteArray)) : Option Res := loopAt Γ (orc [e75]) n (62 : Nat) (1 : Nat) [(0 : Nat)] [Pth.r, Pth.l, Pth.r, Pth.b] m0 (St.mk (Slot.val (Val.one (Cell.own (0 : Nat))) :: ZS Zi y0 :: ZN 3 (ZS Zi y1 :: ZN 29 [])) [AObj.row (Zi.pair (Zi.pair Ty.str)) y2 true])
theorem f45_L0_step (n m0 : Nat) (y0 y1 : Int) (y2 : List (Int × Int × ByteArray)) : f45_L0 n (m0 + 1) y0 y1 y2 = bif decide (y1 < (↑y2.length : Int)) then chk (decide ((0 : Int) ≤ y1) && decide (y1 < (↑y2.length : Int))) (chk (decide ((0 : Int) ≤ y1) && decide (y1 < (↑(rowUpd (Zi.pair (Zi.pair Ty.str)) y2 y1.toNat (0 : Nat) [Cell.dat Zi y0]).length : Int))) (chk (Sp.mOK (IntKind.i64.wrap (IntKind.i64.wrap (y0 + (1 : Int)) + (1 : Int)))) (chk (decide ((0 : Int) ≤ y1) && decide (y1 < (↑(rowUpd (Zi.pair (Zi.pair Ty.str)) (rowUpd (Zi.pair (Zi.pair Ty.str)) y2 y1.toNat (0 : Nat) [Cell.dat Zi y0]) y1.toNat (1 : Nat) [Cell.dat Zi (IntKind.i64.wrap (y0 + (1 : Int)))]).length : Int))) (f45_L0 n m0 (IntKind.i64.wrap (IntKind.i64.wrap (IntKind.i64.wrap (y0 + (1 : Int)) + (1 : Int)) + (1 : Int))) (IntKind.i64.wrap (y1 + (1 : Int))) (rowUpd (Zi.pair (Zi.pair Ty.str)) (rowUpd (Zi.pair (Zi.pair Ty.str)) (rowUpd (Zi.pair (Zi.pair Ty.str)) y2 y1.toNat (0 : Nat) [Cell.dat Zi y0]) y1.toNat (1 : Nat) [Cell.dat Zi (IntKind.i64.wrap (y0 + (1 : Int)))]) y1.toNat (2 : Nat) [Cell.dat Ty.str (Sp.mText (IntKind.i64.wrap (IntKind.i64.wrap (y0 + (1 : Int)) + (1 : Int))))]))))) else some (Res.mk [ZX Zi y0] [X.c (X0.row (Zi.pair (Zi.pair Ty.str)) y2 true)]) := by kernel_rfl
theorem f45_raw (n : Nat) (x0 : List (Int × Int × ByteArray)) (x1 : Int) : abody Γ (orc [e75]) n 62 [XV.mk false [X.c (X0.row (Zi.pair (Zi.pair Ty.str)) x0 true)], ZX Zi x1] = f45_L0 n n x1 (0 : Int) x0 := by kernel_rfl

noncomputable def e45 : Ent := { f := n45, ins := [Sh.one (C0.row tV), Sh.one cI], outs := [Sh.one cI], upd := [Sh.one (C0.row tV)], pre := fun a => Sp.smallW (α := V3) 3 a.1 a.2, spec := fun a => Sp.addW (α := V3) 3 a.1 a.2, wrt := fun a => Sp.markW Sp.markV 3 a.1 a.2 }
abbrev rMk (τ : Ty) (v : Int) (xs : List τ.den) : Res := Res.mk [ZX Zi v] [X.c (X0.row τ xs true)]
theorem mOK_of {k : Int} (h : k ≤ 4611686018427387904) : Sp.mOK k = true := decide_eq_true (by omega)
theorem e45_core (xs : List V3) (v : Int) (ha : Sp.smallW 3 xs v = true) (hl : xs.length ≤ maxLen) : ∃ n, abody Γ (orc [e75]) n n45 [XV.mk false [X.c (X0.row tV xs true)], ZX Zi v] = some (rMk tV (Sp.addW 3 xs v) (Sp.markW Sp.markV 3 xs v)) := by
  obtain ⟨h1, h2⟩ := smallW_of ha
  have hl : xs.length ≤ 9223372036854775807 := hl
  refine ⟨xs.length + 1, (f45_raw _ xs v).trans ?_⟩
  refine mark_loop (c := 3) (g := Sp.markV) (R := rMk tV) (fun m v k acc => f45_L0 (xs.length + 1) m v k acc) (fun m v k acc hk => ?_) (fun m v k acc h hlen h0 h1 => ?_) xs.length 0 _ v xs (Nat.zero_add _) (Nat.lt_succ_self _) hl h1 h2
  · show f45_L0 _ _ _ _ _ = _
    rw [f45_L0_step, nat_ge hk, cond_false]
  · show f45_L0 _ _ _ _ _ = _
    have e1 : IntKind.i64.wrap (v + 1) = v + 1 := wrap64 (by omega) (by omega)
    have e2 : IntKind.i64.wrap (v + 1 + 1) = v + 2 := (wrap64 (by omega) (by omega)).trans (by omega)
    have e3 : IntKind.i64.wrap (v + 2 + 1) = v + (3 : Nat) := (wrap64 (by omega) (by omega)).trans (by omega)
    rw [f45_L0_step, nat_lt h, cond_true, e1, e2, e3, Int.toNat_natCast]
    obtain ⟨a0, a1, a2, hx⟩ : ∃ a0 a1 a2, acc[k] = (a0, a1, a2) := ⟨acc[k].1, acc[k].2.1, acc[k].2.2, rfl⟩
    generalize g0 : rowUpd tV acc k 0 [Cell.dat (.int .i64) v] = A0
    generalize g1 : rowUpd tV A0 k 1 [Cell.dat (.int .i64) (v + 1)] = A1
    have u0 : A0 = acc.set k (v, a1, a2) := g0.symm.trans (rowUpd_at h hx rfl)
    have u1 : A1 = acc.set k (v, v + 1, a2) := g1.symm.trans (upd_next h u0 rfl)
    have u2 : rowUpd tV A1 k 2 [Cell.dat .str (Sp.mText (v + 2))] = acc.set k (v, v + 1, Sp.mText (v + 2)) := upd_next h u1 rfl
    have l0 : List.length A0 = List.length acc := (congrArg List.length u0).trans (List.length_set ..)
    have l1 : List.length A1 = List.length acc := (congrArg List.length u1).trans (List.length_set ..)
    rw [l0, l1, nat_lt h, guard0, chkT, chkT, mOK_of (by omega), chkT, chkT, next64 h hlen]
    exact congrArg (fun z => f45_L0 (xs.length + 1) m (v + (3 : Nat)) ((k + 1 : Nat) : Int) z) (u2.trans (congrArg (fun z => acc.set k z) (show (v, v + 1, Sp.mText (v + 2)) = Sp.markV acc[k] v from rfl)))
theorem e45_ok : Valid PP Γ e45 := valid_len ok (vcons e75_ok vnil) fun a ha hl => e45_core a.1 a.2 ha (hl _ (List.mem_cons_self) _ (List.mem_cons_self)).1
def Sp.vOK (x : V3) : Bool := (Sp.f136 x.1 x.2.1 x.2.2).1
def Sp.rowOK (xs : List V3) : Bool := bif decide ((xs.length : Int) > 8) then false else Sp.allW Sp.vOK xs
noncomputable def f92_L0 (n m0 : Nat) (y0 : List (Int × Int × ByteArray)) (y1 : Int) : Option Res := loopAt Γ (orc [e136]) n (68 : Nat) (0 : Nat) [] [Pth.r, Pth.r, Pth.l, Pth.r, Pth.b] m0 (St.mk (ZS (Zi.pair (Zi.pair Ty.str)).slice y0 :: Zn :: Zn :: ZS Zi y1 :: ZN 15 []) [])
theorem f92_L0_step (n m0 : Nat) (y0 : List (Int × Int × ByteArray)) (y1 : Int) : f92_L0 n (m0 + 1) y0 y1 = bif decide (y1 < (↑y0.length : Int)) then chk (decide ((0 : Int) ≤ y1) && decide (y1 < (↑y0.length : Int))) (bif !(Sp.f136 (y0.getD y1.toNat ((0 : Int), (0 : Int), ByteArray.mk #[])).1 (y0.getD y1.toNat ((0 : Int), (0 : Int), ByteArray.mk #[])).2.1 (y0.getD y1.toNat ((0 : Int), (0 : Int), ByteArray.mk #[])).2.2).1 then Zf else f92_L0 n m0 y0 (IntKind.i64.wrap (y1 + (1 : Int)))) else Zt := by kernel_rfl
theorem f92_raw (n : Nat) (x0 : List (Int × Int × ByteArray)) : abody Γ (orc [e136]) n 68 [ZX (Zi.pair (Zi.pair Ty.str)).slice x0] = bif decide ((↑x0.length : Int) > (8 : Int)) then Zf else f92_L0 n n x0 (0 : Int) := by kernel_rfl

noncomputable def e92 : Ent := { f := n92, ins := [Sh.one (C0.dat (.slice tV))], outs := [Sh.one cB], upd := [], pre := fun a => true, spec := fun a => Sp.rowOK a, wrt := fun _ => () }
theorem e92_core (xs : List V3) (hl : xs.length ≤ maxLen) : ∃ n, abody Γ (orc [e136]) n n92 [ZX (Ty.slice tV) xs] = some (rBo (Sp.rowOK xs)) := by
  have hl : xs.length ≤ 9223372036854775807 := hl
  refine ⟨xs.length + 1, (f92_raw _ xs).trans ?_⟩
  unfold Sp.rowOK
  cases decide ((xs.length : Int) > 8) with
  | true => rfl
  | false =>
    rw [cond_false, cond_false]
    refine all_loop (p := Sp.vOK) (R := rBo) xs (fun m k => f92_L0 (xs.length + 1) m xs k) (fun m k hk => ?_) (fun m k h => ?_) xs.length 0 _ (Nat.zero_add _) (Nat.lt_succ_self _)
    · show f92_L0 _ _ _ _ = _
      rw [f92_L0_step, nat_ge hk, cond_false]
    · show f92_L0 _ _ _ _ = _
      rw [f92_L0_step, nat_lt h, cond_true, guard0, chkT, getD_nat xs k _ h, next64 h hl]
      rfl
theorem e92_ok : Valid PP Γ e92 := valid_len ok (vcons e136_ok vnil) fun a _ hl => e92_core a (hl _ (List.mem_cons_self) _ (List.mem_cons_self)).1
def Sp.badV (x : V3) : Bool := (Sp.f170 x.1 x.2.1 x.2.2).1
noncomputable def f193_L0 (n m0 : Nat) (y0 : List (Int × Int × ByteArray)) (y1 y2 : Int) : Option Res := loopAt Γ (orc [e170]) n (160 : Nat) (0 : Nat) [] [Pth.r, Pth.l, Pth.r, Pth.b] m0 (St.mk (ZS (Zi.pair (Zi.pair Ty.str)).slice y0 :: Slot.val (Val.one (Cell.fn (133 : Nat) [])) :: ZN 5 (ZS Zi y1 :: ZS Zi y2 :: ZN 10 [])) [])
theorem f193_L0_step (n m0 : Nat) (y0 : List (Int × Int × ByteArray)) (y1 y2 : Int) : f193_L0 n (m0 + 1) y0 y1 y2 = bif decide (y2 < y1) then chk (decide ((0 : Int) ≤ y2) && decide (y2 < (↑y0.length : Int))) (bif (Sp.f170 (y0.getD y2.toNat ((0 : Int), (0 : Int), ByteArray.mk #[])).1 (y0.getD y2.toNat ((0 : Int), (0 : Int), ByteArray.mk #[])).2.1 (y0.getD y2.toNat ((0 : Int), (0 : Int), ByteArray.mk #[])).2.2).1 then ZJ y2 else f193_L0 n m0 y0 y1 (IntKind.i64.wrap (y2 + (1 : Int)))) else ZJ (-1 : Int) := by kernel_rfl
theorem f193_raw (n : Nat) (x0 : List (Int × Int × ByteArray)) : abody Γ (orc [e170]) n 160 [ZX (Zi.pair (Zi.pair Ty.str)).slice x0, XV.mk false [X.c (X0.fn (133 : Nat) [])]] = f193_L0 n n x0 (↑x0.length : Int) (0 : Int) := by kernel_rfl

noncomputable def e193 : Ent := { f := n193, ins := [Sh.one (C0.dat (.slice tV)), Sh.one (C0.fn n170 [])], outs := [Sh.one cI], upd := [], pre := fun _ => true, spec := fun a => Sp.idx Sp.badV a.1 0, wrt := fun _ => () }
theorem e193_core (xs : List V3) (hl : xs.length ≤ maxLen) : ∃ n, abody Γ (orc [e170]) n n193 [ZX (Ty.slice tV) xs, XV.mk false [X.c (X0.fn n170 [])]] = some (rI (Sp.idx Sp.badV xs 0)) := by
  have hl : xs.length ≤ 9223372036854775807 := hl
  refine ⟨xs.length + 1, (f193_raw _ xs).trans ?_⟩
  refine idx_loop (p := Sp.badV) (R := rI) xs (fun m k => f193_L0 (xs.length + 1) m xs xs.length k) (fun m k hk => ?_) (fun m k h => ?_) xs.length 0 _ (Nat.zero_add _) (Nat.lt_succ_self _)
  · show f193_L0 _ _ _ _ _ = _
    rw [f193_L0_step, nat_ge hk, cond_false]
  · show f193_L0 _ _ _ _ _ = _
    rw [f193_L0_step, nat_lt h, cond_true, guard0, chkT, getD_nat xs k _ h, next64 h hl]
    rfl
theorem e193_ok : Valid PP Γ e193 := valid_len ok (es := [e170]) (vcons e170_ok vnil) fun a _ hl => e193_core a.1 (hl _ (List.mem_cons_self) _ (List.mem_cons_self)).1
def Sp.f169 (x0 : List (Int × Int × ByteArray)) := (decide (Sp.idx Sp.badV x0 (0 : Int) ≥ (0 : Int)), ())
noncomputable def e169 : Ent := { f := 132, ins := [Sh.one (C0.dat (Zi.pair (Zi.pair Ty.str)).slice), Sh.one (C0.fn (133 : Nat) [])], outs := [Sh.one (C0.dat Ty.bool)], upd := [], pre := fun a => true, spec := fun a => (Sp.f169 a.1).1, wrt := fun a => (Sp.f169 a.1).2 }
def f169_g (v : denS [Sh.one (C0.dat Ty.bool)] × denS []) : Res := ⟨mkS [Sh.one (C0.dat Ty.bool)] v.1, mkU [] v.2⟩
theorem f169_form (x0 : List (Int × Int × ByteArray)) : abody Γ (orc [e193, e170]) 0 132 [ZX (Zi.pair (Zi.pair Ty.str)).slice x0, XV.mk false [X.c (X0.fn (133 : Nat) [])]] = some (f169_g (Sp.f169 x0)) := by
  refine Eq.trans (b := ZB (decide (Sp.idx Sp.badV x0 (0 : Int) ≥ (0 : Int)))) (by kernel_rfl) ?_
  unfold Sp.f169
  exact rfl
theorem e169_ok : Valid PP Γ e169 := valid_auto ok (vcons e193_ok (vcons e170_ok vnil)) fun a => f169_form a.1

def Sp.f132 (x0 : List (Int × Int × ByteArray)) := (bif decide ((↑x0.length : Int) ≤ (8 : Int)) then (!(Sp.f169 x0).1, ()) else (false, ()))
noncomputable def e132 : Ent := { f := 97, ins := [Sh.one (C0.dat (Zi.pair (Zi.pair Ty.str)).slice)], outs := [Sh.one (C0.dat Ty.bool)], upd := [], pre := fun a => true, spec := fun a => (Sp.f132 a).1, wrt := fun a => (Sp.f132 a).2 }
def f132_g (v : denS [Sh.one (C0.dat Ty.bool)] × denS []) : Res := ⟨mkS [Sh.one (C0.dat Ty.bool)] v.1, mkU [] v.2⟩
theorem f132_form (x0 : List (Int × Int × ByteArray)) : abody Γ (orc [e169, e170]) 0 97 [ZX (Zi.pair (Zi.pair Ty.str)).slice x0] = some (f132_g (Sp.f132 x0)) := by
  refine Eq.trans (b := bif decide ((↑x0.length : Int) ≤ (8 : Int)) then some (Res.mk [XV.mk false [X.c (X0.dat Ty.bool !(Sp.f169 x0).1)]] []) else Zf) (by kernel_rfl) ?_
  unfold Sp.f132
  exact (cond_plain f132_g (rfl) (rfl))
theorem e132_ok : Valid PP Γ e132 := valid_auto ok (vcons e169_ok (vcons e170_ok vnil)) fun a => f132_form a

end Go.Proofs.GR.T

set_option maxRecDepth 100000
set_option maxHeartbeats 100000000
namespace Go.Proofs.GR.T
open Go Go.Proofs Go.Proofs.GR
def Sp.cells : Nat → List Int → Bool → List V3 → List V3 × Bool
  | 0, _, _, _ => ([], false)
  | d + 1, b, row, out => bif decide (b.length = 0) then (out, (Sp.f132 out).1)
    else bif (Sp.cell b row).2 == 0 then ([], false) else bif decide (out.length = 8) then ([], false)
    else Sp.cells d (b.drop (Sp.cell b row).2.toNat) row (out ++ [(Sp.cell b row).1])
end Go.Proofs.GR.T

namespace Go.Proofs.GR.T
open Go Go.Proofs Go.Proofs.GR
theorem badV_eq (x : V3) : Sp.badV x = !Sp.vOK x := by
  unfold Sp.badV Sp.vOK Sp.f170 Sp.f171 Sp.f136 Sp.f167 Sp.f70 Sp.f79
  cases x.1 == 0 <;> cases x.1 == 1 <;> cases x.1 == 2 <;> cases x.1 == 3 <;> cases x.1 == 4 <;> rfl
theorem idx_ge {α : Type} {p : α → Bool} : ∀ (xs : List α) (i : Int), 0 ≤ i → decide (Sp.idx p xs i ≥ 0) = !Sp.allW (fun x => !p x) xs
  | [], i, _ => by rw [Sp.idx, Sp.allW]; rfl
  | x :: r, i, h => by
    rw [Sp.idx, Sp.allW]
    cases p x with
    | true => exact decide_eq_true h
    | false => exact idx_ge r (i + 1) (by omega)
theorem allW_congr {α : Type} {p q : α → Bool} (h : ∀ x, p x = q x) (xs : List α) : Sp.allW p xs = Sp.allW q xs := by
  rw [show p = q from funext h]
theorem f132_eq (xs : List V3) : (Sp.f132 xs).1 = Sp.rowOK xs := by
  unfold Sp.f132 Sp.rowOK Sp.f169
  rw [idx_ge xs 0 (Int.le_refl _), allW_congr (q := Sp.vOK) (fun x => by rw [badV_eq, Bool.not_not]), Bool.not_not]
  by_cases h : (xs.length : Int) ≤ 8
  · rw [decide_eq_true h, decide_eq_false (show ¬ (xs.length : Int) > 8 by omega)]; rfl
  · rw [decide_eq_false h, decide_eq_true (show (xs.length : Int) > 8 by omega)]; rfl
theorem rowOK_iff {xs : List V3} : Sp.rowOK xs = true ↔ xs.length ≤ 8 ∧ ∀ x ∈ xs, Sp.vOK x = true := by
  unfold Sp.rowOK
  by_cases h : (xs.length : Int) > 8
  · rw [decide_eq_true h, cond_true]
    constructor
    · intro h; cases h
    · rintro ⟨h1, _⟩; omega
  · rw [decide_eq_false h, cond_false, allW_mem]
    exact ⟨fun h2 => ⟨by omega, h2⟩, fun h2 => h2.2⟩
theorem eqV_self (x : V3) : Sp.eqV x x = true := by
  unfold Sp.eqV Sp.f86
  rw [show (x.1 != x.1) = false by simp, show (x.2.1 != x.2.1) = false by simp, beq_self_eq_true]
  rfl
end Go.Proofs.GR.T

set_option maxRecDepth 100000
set_option maxHeartbeats 100000000
namespace Go.Proofs.GR.T
open Go Go.Proofs Go.Proofs.GR
def Sp.hi (n j : Int) : Int := IntKind.u8.wrap (n.fdiv ((2 : Int) ^ min (IntKind.u64.wrap (IntKind.i64.wrap ((8 : Int) * j))).toNat (64 : Nat)))
def Sp.key8 (n : Int) : List Int := [IntKind.u8.wrap (((BitVec.ofInt (8 : Nat) (Sp.hi n 7) ^^^ BitVec.ofInt (8 : Nat) (128 : Int)).toNat : Nat) : Int), Sp.hi n 6, Sp.hi n 5, Sp.hi n 4, Sp.hi n 3, Sp.hi n 2, Sp.hi n 1, Sp.hi n 0]
noncomputable def f137_L0 (n m0 : Nat) (y0 y1 : Int) (y2 : List Int) : Option Res := loopAt Γ (orc []) n (114 : Nat) (0 : Nat) [] [Pth.r, Pth.r, Pth.l, Pth.r, Pth.b] m0 (St.mk (ZS Zi y0 :: Zn :: Zn :: Slot.val (Val.one (Cell.own (0 : Nat))) :: ZS Zi y1 :: ZN 20 []) [AObj.row (Ty.int IntKind.u8) y2 true])
theorem f137_raw (n : Nat) (x0 : Int) : abody Γ (orc []) n 114 [ZX Zi x0] = f137_L0 n n x0 (7 : Int) [] := by kernel_rfl

theorem f137_run (x0 : Int) : f137_L0 9 9 x0 7 [] = some (rB (Sp.key8 x0)) := by kernel_rfl
noncomputable def e137 : Ent := { f := n137, ins := [Sh.one cI], outs := [Sh.one (C0.row tB)], upd := [], pre := fun a => true, spec := fun a => Sp.key8 a, wrt := fun _ => () }
theorem e137_ok : Valid PP Γ e137 := valid_of ok vnil fun a _ => ⟨9, (f137_raw 9 a).trans (f137_run a)⟩
def Sp.left (b : List Int) (a : Int) (bad : Bool) : Nat := bif bad then 0 else (b.length - a.toNat) + 1
def Sp.esc : List Int → List Int
  | [] => []
  | x :: r => bif x == 0 then x :: 255 :: Sp.esc r else x :: Sp.esc r
def Sp.kv1 (v : V3) : List Int :=
  IntKind.u8.wrap v.1 :: (bif v.1 == 1 then [IntKind.u8.wrap v.2.1] else bif v.1 == 2 then Sp.key8 v.2.1
    else bif (bif v.1 == 3 then true else v.1 == 4) then Sp.esc (strBytes v.2.2) ++ [0, 1] else [])
def Sp.key : List V3 → List Int
  | [] => []
  | v :: r => Sp.kv1 v ++ Sp.key r
theorem esc_len : ∀ xs : List Int, (Sp.esc xs).length ≤ 2 * xs.length
  | [] => Nat.le_refl _
  | x :: r => by
    have := esc_len r
    unfold Sp.esc
    cases x == 0 <;> simp [cond] <;> omega
end Go.Proofs.GR.T

set_option maxRecDepth 100000
set_option maxHeartbeats 100000000
namespace Go.Proofs.GR.T
open Go Go.Proofs Go.Proofs.GR
end Go.Proofs.GR.T

namespace Go.Proofs.GR.T
open Go Go.Proofs Go.Proofs.GR
theorem wrap8_id {n : Int} (h0 : 0 ≤ n) (h1 : n < 256) : IntKind.u8.wrap n = n := by rw [wrap8]; omega
theorem hi_eq (n j p : Int) (k : Nat) (hj : j = k) (hk : k ≤ 7) (hp : ((2 ^ (8 * k) : Nat) : Int) = p) : Sp.hi n j = (n / p) % 256 := by
  subst hj
  unfold Sp.hi
  rw [wrap8, wrap64 (n := 8 * (k : Int)) (by omega) (by omega), wrapu64 (by omega) (by omega), show (8 * (k : Int)).toNat = 8 * k by omega, Nat.min_eq_left (show 8 * k ≤ 64 by omega)]
  rw [show ((2 : Int) ^ (8 * k)) = ((2 ^ (8 * k) : Nat) : Int) by rw [Int.natCast_pow]; rfl, Int.fdiv_eq_ediv_of_nonneg _ (Int.natCast_nonneg _), hp]
theorem turn8 {n : Int} (h0 : 0 ≤ n) (h1 : n < 256) : IntKind.u8.wrap (((BitVec.ofInt (8 : Nat) n ^^^ BitVec.ofInt (8 : Nat) (128 : Int)).toNat : Nat) : Int) = if n < 128 then n + 128 else n - 128 := by
  have hx : n.toNat ^^^ 128 < 2 ^ 8 := Nat.xor_lt_two_pow (by omega) (by omega)
  have ea : n = ((n.toNat : Nat) : Int) := by omega
  have hv := xor128_val ⟨n.toNat, by omega⟩
  simp only at hv
  rw [ea, BitVec.toNat_xor, ofInt_toNat, show (BitVec.ofInt 8 (128 : Int)).toNat = 128 from rfl, Nat.mod_eq_of_lt (by omega), wrap8, hv]
  split <;> split <;> omega
theorem key8_val {N b0 b1 b2 b3 b4 b5 b6 b7 : Int} (e : N = (((((((b0 * 256 + b1) * 256 + b2) * 256 + b3) * 256 + b4) * 256 + b5) * 256 + b6) * 256 + b7) - 9223372036854775808) (x0 : 0 ≤ b0) (y0 : b0 < 256) (x1 : 0 ≤ b1) (y1 : b1 < 256) (x2 : 0 ≤ b2) (y2 : b2 < 256) (x3 : 0 ≤ b3) (y3 : b3 < 256) (x4 : 0 ≤ b4) (y4 : b4 < 256) (x5 : 0 ≤ b5) (y5 : b5 < 256) (x6 : 0 ≤ b6) (y6 : b6 < 256) (x7 : 0 ≤ b7) (y7 : b7 < 256) : Sp.key8 N = [b0, b1, b2, b3, b4, b5, b6, b7] := by
  have h7 : Sp.hi N 7 = (N / 72057594037927936) % 256 := hi_eq N 7 72057594037927936 7 rfl (by omega) (by decide)
  have h6 : Sp.hi N 6 = (N / 281474976710656) % 256 := hi_eq N 6 281474976710656 6 rfl (by omega) (by decide)
  have h5 : Sp.hi N 5 = (N / 1099511627776) % 256 := hi_eq N 5 1099511627776 5 rfl (by omega) (by decide)
  have h4 : Sp.hi N 4 = (N / 4294967296) % 256 := hi_eq N 4 4294967296 4 rfl (by omega) (by decide)
  have h3 : Sp.hi N 3 = (N / 16777216) % 256 := hi_eq N 3 16777216 3 rfl (by omega) (by decide)
  have h2 : Sp.hi N 2 = (N / 65536) % 256 := hi_eq N 2 65536 2 rfl (by omega) (by decide)
  have h1 : Sp.hi N 1 = (N / 256) % 256 := hi_eq N 1 256 1 rfl (by omega) (by decide)
  have h0 : Sp.hi N 0 = (N / 1) % 256 := hi_eq N 0 1 0 rfl (by omega) (by decide)
  have a7 : (N / 72057594037927936) % 256 = if b0 < 128 then b0 + 128 else b0 - 128 := by
    clear h0 h1 h2 h3 h4 h5 h6 h7
    split <;> omega
  have e7 : IntKind.u8.wrap (((BitVec.ofInt (8 : Nat) (Sp.hi N 7) ^^^ BitVec.ofInt (8 : Nat) (128 : Int)).toNat : Nat) : Int) = b0 := by
    rw [h7, a7]
    clear h0 h1 h2 h3 h4 h5 h6 h7 a7 e
    rw [turn8 (by split <;> omega) (by split <;> omega)]
    split <;> split <;> omega
  have e6 : Sp.hi N 6 = b1 := by
    rw [h6]
    clear h0 h1 h2 h3 h4 h5 h6 h7 a7 e7
    omega
  have e5 : Sp.hi N 5 = b2 := by
    rw [h5]
    clear h0 h1 h2 h3 h4 h5 h6 h7 a7 e7 e6
    omega
  have e4 : Sp.hi N 4 = b3 := by
    rw [h4]
    clear h0 h1 h2 h3 h4 h5 h6 h7 a7 e7 e6 e5
    omega
  have e3 : Sp.hi N 3 = b4 := by
    rw [h3]
    clear h0 h1 h2 h3 h4 h5 h6 h7 a7 e7 e6 e5 e4
    omega
  have e2 : Sp.hi N 2 = b5 := by
    rw [h2]
    clear h0 h1 h2 h3 h4 h5 h6 h7 a7 e7 e6 e5 e4 e3
    omega
  have e1 : Sp.hi N 1 = b6 := by
    rw [h1]
    clear h0 h1 h2 h3 h4 h5 h6 h7 a7 e7 e6 e5 e4 e3 e2
    omega
  have e0 : Sp.hi N 0 = b7 := by
    rw [h0]
    clear h0 h1 h2 h3 h4 h5 h6 h7 a7 e7 e6 e5 e4 e3 e2 e1
    omega
  unfold Sp.key8
  rw [e7, e6, e5, e4, e3, e2, e1, e0]
end Go.Proofs.GR.T

namespace Go.Proofs.GR.T
open Go Go.Proofs Go.Proofs.GR
namespace Sp
def szW {α : Type} (f : α → Int → Int) : List α → Int → Int
  | [], l => l
  | x :: r, l => bif decide (f x l < 0) then -1 else szW f r (f x l)
def szE {α : Type} (f : α → Int → Int) (xs : List α) (l : Int) : Int := bif decide (IntKind.i64.wrap (l - (xs.length : Int)) < 0) then -1 else szW f xs (IntKind.i64.wrap (l - (xs.length : Int)))
def fits32 {α : Type} (xs : List α) : Bool := Nat.ble xs.length 1000000000000
end Sp
theorem fits32_of {α : Type} {xs : List α} (h : Sp.fits32 xs = true) : xs.length ≤ 1000000000000 := Nat.le_of_ble_eq_true h
theorem fits32_mk {α : Type} {xs : List α} (h : xs.length ≤ 1000000000000) : Sp.fits32 xs = true := Nat.ble_eq_true_of_le h
theorem sz_loop {α : Type} {ρ : Type} {f : α → Int → Int} {R : Int → ρ} (xs : List α) (L : Nat → Int → Int → Option ρ)
    (hend : ∀ m (v : Int) (k : Nat), xs.length ≤ k → L (m + 1) v k = some (R v))
    (hstep : ∀ m (v : Int) (k : Nat) (h : k < xs.length), L (m + 1) v k = bif decide (f xs[k] v < 0) then some (R (-1)) else L m (f xs[k] v) ((k + 1 : Nat) : Int)) :
    ∀ (d k m : Nat) (v : Int), k + d = xs.length → d < m → L m v k = some (R (Sp.szW f (xs.drop k) v)) := by
  intro d
  induction d with
  | zero =>
    intro k m v hk hm
    obtain ⟨m, rfl⟩ := succ_of hm
    rw [hend m v k (by omega), List.drop_of_length_le (by omega)]
    rfl
  | succ d ih =>
    intro k m v hk hm
    obtain ⟨m, rfl⟩ := succ_of hm
    rw [hstep m v k (by omega), ih (k + 1) m _ (by omega) (by omega), List.drop_eq_getElem_cons (show k < xs.length by omega), Sp.szW]
    cases decide (f xs[k] v < 0) <;> rfl
theorem to_loop {α : Type} {ρ : Type} {R : List α → ρ} (xs : List α) (L : Nat → Int → List α → Option ρ)
    (hend : ∀ m (k : Nat) acc, xs.length ≤ k → L (m + 1) k acc = some (R acc))
    (hstep : ∀ m (k : Nat) acc (h : k < xs.length), acc.length = xs.length → L (m + 1) k acc = L m ((k + 1 : Nat) : Int) (acc.set k xs[k])) :
    ∀ (d k m : Nat) (acc : List α), k + d = xs.length → acc.length = xs.length → d < m → L m k acc = some (R (acc.take k ++ xs.drop k)) := by
  intro d
  induction d with
  | zero =>
    intro k m acc hk ha hm
    obtain ⟨m, rfl⟩ := succ_of hm
    rw [hend m k acc (by omega), List.drop_of_length_le (by omega), List.take_of_length_le (by omega), List.append_nil]
  | succ d ih =>
    intro k m acc hk ha hm
    obtain ⟨m, rfl⟩ := succ_of hm
    have hlt : k < xs.length := by omega
    rw [hstep m k acc hlt ha, ih (k + 1) m _ (by omega) (by rw [List.length_set]; exact ha) (by omega)]
    have e : (acc.set k xs[k]).take (k + 1) = acc.take k ++ [xs[k]] := by
      rw [List.take_set, List.take_succ_eq_append_getElem (by omega)]
      rw [List.set_append_right _ _ (by simp; omega)]
      simp [Nat.min_eq_left (show k ≤ acc.length by omega)]
    rw [e, List.append_assoc, List.drop_eq_getElem_cons hlt]
    rfl
theorem to_end {α : Type} {ρ : Type} {R : List α → ρ} (xs : List α) (L : Nat → Int → List α → Option ρ)
    (hend : ∀ m (k : Nat) acc, xs.length ≤ k → L (m + 1) k acc = some (R acc))
    (hstep : ∀ m (k : Nat) acc (h : k < xs.length), acc.length = xs.length → L (m + 1) k acc = L m ((k + 1 : Nat) : Int) (acc.set k xs[k])) (z : α) :
    L (xs.length + 1) 0 (List.replicate (xs.length : Int).toNat z) = some (R xs) := by
  have := to_loop xs L hend hstep xs.length 0 (xs.length + 1) (List.replicate (xs.length : Int).toNat z) (Nat.zero_add _) (by rw [List.length_replicate, Int.toNat_natCast]) (Nat.lt_succ_self _)
  rw [List.take_zero, List.drop_zero, List.nil_append, Int.natCast_zero] at this
  exact this
theorem make32 {n : Nat} (h : n ≤ 1000000000000) : (decide ((0 : Int) ≤ (n : Int)) && decide ((n : Int) ≤ (n : Int)) && decide ((n : Int) ≤ (140737488355328 : Int)) && decide ((32 : Int) * (n : Int) ≤ (140737488355328 : Int))) = true := by
  rw [decide_eq_true (show (0 : Int) ≤ n by omega), decide_eq_true (Int.le_refl (n : Int)), decide_eq_true (show (n : Int) ≤ 140737488355328 by omega), decide_eq_true (show 32 * (n : Int) ≤ 140737488355328 by omega)]
  rfl
end Go.Proofs.GR.T

namespace Go.Proofs.GR.T
open Go Go.Proofs Go.Proofs.GR
theorem bytesLess_dec : ∀ (x y : List UInt8), Op.bytesLess x y = decide (x < y)
  | _, [] => by
    rw [decide_eq_false (List.not_lt_nil _)]
    cases ‹List UInt8› <;> rfl
  | [], _ :: _ => (decide_eq_true (List.nil_lt_cons _ _)).symm
  | a :: x, b :: y => by
    unfold Op.bytesLess
    rw [bytesLess_dec x y]
    by_cases h1 : a < b
    · rw [decide_eq_true h1, decide_eq_true (List.cons_lt_cons_iff.2 (.inl h1)), Bool.true_or]
    · rw [decide_eq_false h1, Bool.false_or]
      by_cases h2 : a = b
      · subst h2
        rw [beq_self_eq_true, Bool.true_and]
        exact decide_eq_decide.2 ⟨fun h => List.cons_lt_cons_iff.2 (.inr ⟨rfl, h⟩), fun h => (List.cons_lt_cons_iff.1 h).elim (fun h => absurd h h1) (fun h => h.2)⟩
      · rw [show (a == b) = false by simp [h2], Bool.false_and]
        exact (decide_eq_false fun h => (List.cons_lt_cons_iff.1 h).elim h1 fun h => h2 h.1).symm
def Sp.lessS (a b : ByteArray) : Bool := Op.bytesLess a.toList b.toList
theorem lessS_trans {a b c : ByteArray} (h1 : Sp.lessS a b = true) (h2 : Sp.lessS b c = true) : Sp.lessS a c = true := by
  unfold Sp.lessS at h1 h2 ⊢
  rw [bytesLess_dec] at h1 h2 ⊢
  exact decide_eq_true (List.lt_trans (of_decide_eq_true h1) (of_decide_eq_true h2))
theorem lessS_irrefl (a : ByteArray) : Sp.lessS a a = false := by
  unfold Sp.lessS
  rw [bytesLess_dec]
  exact decide_eq_false (List.lt_irrefl _)
theorem lessS_asymm {a b : ByteArray} (h : Sp.lessS a b = true) : Sp.lessS b a = false := by
  cases h2 : Sp.lessS b a with
  | false => rfl
  | true => have := lessS_trans h h2; rw [lessS_irrefl] at this; cases this
theorem lessS_tri {a b : ByteArray} (h1 : Sp.lessS a b = false) (h2 : Sp.lessS b a = false) : a.toList = b.toList := by
  unfold Sp.lessS at h1 h2
  rw [bytesLess_dec] at h1 h2
  have h1 := of_decide_eq_false h1
  have h2 := of_decide_eq_false h2
  exact List.le_antisymm (List.not_lt.1 h2) (List.not_lt.1 h1)
theorem lessS_congr' {a b c : ByteArray} (h : a.toList = b.toList) : Sp.lessS c a = Sp.lessS c b := by unfold Sp.lessS; rw [h]
end Go.Proofs.GR.T

set_option maxRecDepth 100000
set_option maxHeartbeats 100000000
namespace Go.Proofs.GR.T
open Go Go.Proofs Go.Proofs.GR
abbrev V2 := ByteArray × ByteArray
def Sp.f87 (x0 x1 : Int) (x2 : ByteArray) (x3 : Int) := (bif decide (IntKind.i64.wrap (x3 - (↑x2.size : Int)) < (0 : Int)) then ((-1 : Int), ()) else (IntKind.i64.wrap (x3 - (↑x2.size : Int)), ()))
noncomputable def e87 : Ent := { f := 93, ins := [Sh.agg [C0.dat Zi, C0.dat Zi, C0.dat Ty.str], Sh.one ZI], outs := [Sh.one ZI], upd := [], pre := fun a => true, spec := fun a => (Sp.f87 a.1.1 a.1.2.1 a.1.2.2 a.2).1, wrt := fun a => (Sp.f87 a.1.1 a.1.2.1 a.1.2.2 a.2).2 }
def f87_g (v : denS [Sh.one ZI] × denS []) : Res := ⟨mkS [Sh.one ZI] v.1, mkU [] v.2⟩
theorem f87_form (x0 x1 : Int) (x2 : ByteArray) (x3 : Int) : abody Γ (orc []) 0 93 [XV.mk true [ZC Zi x0, ZC Zi x1, ZC Ty.str x2], ZX Zi x3] = some (f87_g (Sp.f87 x0 x1 x2 x3)) := by
  refine Eq.trans (b := bif decide (IntKind.i64.wrap (x3 - (↑x2.size : Int)) < (0 : Int)) then ZJ (-1 : Int) else ZJ (IntKind.i64.wrap (x3 - (↑x2.size : Int)))) (by kernel_rfl) ?_
  unfold Sp.f87
  exact (cond_plain f87_g (rfl) (rfl))
theorem e87_ok : Valid PP Γ e87 := valid_auto ok vnil fun a => f87_form a.1.1 a.1.2.1 a.1.2.2 a.2

def Sp.f89 (x0 x1 : Int) (x2 : ByteArray) := ((x0, x1, x2), ())
noncomputable def e89 : Ent := { f := 95, ins := [Sh.agg [C0.dat Zi, C0.dat Zi, C0.dat Ty.str]], outs := [Sh.agg [C0.dat Zi, C0.dat Zi, C0.dat Ty.str]], upd := [], pre := fun a => true, spec := fun a => (Sp.f89 a.1 a.2.1 a.2.2).1, wrt := fun a => (Sp.f89 a.1 a.2.1 a.2.2).2 }
def f89_g (v : denS [Sh.agg [C0.dat Zi, C0.dat Zi, C0.dat Ty.str]] × denS []) : Res := ⟨mkS [Sh.agg [C0.dat Zi, C0.dat Zi, C0.dat Ty.str]] v.1, mkU [] v.2⟩
theorem f89_form (x0 x1 : Int) (x2 : ByteArray) : abody Γ (orc []) 0 95 [XV.mk true [ZC Zi x0, ZC Zi x1, ZC Ty.str x2]] = some (f89_g (Sp.f89 x0 x1 x2)) := by
  refine Eq.trans (b := some (Res.mk [XV.mk true [ZC Zi x0, ZC Zi x1, ZC Ty.str x2]] [])) (by kernel_rfl) ?_
  unfold Sp.f89
  exact rfl
theorem e89_ok : Valid PP Γ e89 := valid_auto ok vnil fun a => f89_form a.1 a.2.1 a.2.2

def Sp.szV (x : V3) (l : Int) : Int := (Sp.f87 x.1 x.2.1 x.2.2 l).1
noncomputable def f48_L0 (n m0 : Nat) (y0 : List (Int × Int × ByteArray)) (y1 y2 : Int) : Option Res := loopAt Γ (orc [e87]) n (53 : Nat) (0 : Nat) [] [Pth.r, Pth.r, Pth.r, Pth.l, Pth.r, Pth.b] m0 (St.mk (ZS (Zi.pair (Zi.pair Ty.str)).slice y0 :: ZS Zi y1 :: ZN 3 (ZS Zi y2 :: ZN 21 [])) [])
theorem f48_L0_step (n m0 : Nat) (y0 : List (Int × Int × ByteArray)) (y1 y2 : Int) : f48_L0 n (m0 + 1) y0 y1 y2 = bif decide (y2 < (↑y0.length : Int)) then chk (decide ((0 : Int) ≤ y2) && decide (y2 < (↑y0.length : Int))) (bif decide ((Sp.f87 (y0.getD y2.toNat ((0 : Int), (0 : Int), ByteArray.mk #[])).1 (y0.getD y2.toNat ((0 : Int), (0 : Int), ByteArray.mk #[])).2.1 (y0.getD y2.toNat ((0 : Int), (0 : Int), ByteArray.mk #[])).2.2 y1).1 < (0 : Int)) then ZJ (-1 : Int) else f48_L0 n m0 y0 (Sp.f87 (y0.getD y2.toNat ((0 : Int), (0 : Int), ByteArray.mk #[])).1 (y0.getD y2.toNat ((0 : Int), (0 : Int), ByteArray.mk #[])).2.1 (y0.getD y2.toNat ((0 : Int), (0 : Int), ByteArray.mk #[])).2.2 y1).1 (IntKind.i64.wrap (y2 + (1 : Int)))) else ZJ y1 := by kernel_rfl
theorem f48_raw (n : Nat) (x0 : List (Int × Int × ByteArray)) (x1 : Int) : abody Γ (orc [e87]) n 53 [ZX (Zi.pair (Zi.pair Ty.str)).slice x0, ZX Zi x1] = bif decide (IntKind.i64.wrap (x1 - (↑x0.length : Int)) < (0 : Int)) then ZJ (-1 : Int) else f48_L0 n n x0 (IntKind.i64.wrap (x1 - (↑x0.length : Int))) (0 : Int) := by kernel_rfl

noncomputable def e48 : Ent := { f := n48, ins := [Sh.one (C0.dat (.slice tV)), Sh.one cI], outs := [Sh.one cI], upd := [], pre := fun a => true, spec := fun a => Sp.szE Sp.szV a.1 a.2, wrt := fun _ => () }
theorem e48_core (xs : List V3) (v : Int) (hl : xs.length ≤ maxLen) : ∃ n, abody Γ (orc [e87]) n n48 [ZX (Ty.slice tV) xs, ZX Zi v] = some (rI (Sp.szE Sp.szV xs v)) := by
  have hl : xs.length ≤ 9223372036854775807 := hl
  refine ⟨xs.length + 1, (f48_raw _ xs v).trans ?_⟩
  unfold Sp.szE
  cases decide (IntKind.i64.wrap (v - (xs.length : Int)) < 0) with
  | true => rfl
  | false =>
    rw [cond_false, cond_false]
    refine sz_loop (f := Sp.szV) (R := rI) xs (fun m v k => f48_L0 (xs.length + 1) m xs v k) (fun m v k hk => ?_) (fun m v k h => ?_) xs.length 0 _ _ (Nat.zero_add _) (Nat.lt_succ_self _)
    · show f48_L0 _ _ _ _ _ = _
      rw [f48_L0_step, nat_ge hk, cond_false]
    · show f48_L0 _ _ _ _ _ = _
      rw [f48_L0_step, nat_lt h, cond_true, guard0, chkT, getD_nat xs k _ h, next64 h hl]
      rfl
theorem e48_ok : Valid PP Γ e48 := valid_len ok (vcons e87_ok vnil) fun a _ hl => e48_core a.1 a.2 (hl _ (List.mem_cons_self) _ (List.mem_cons_self)).1
noncomputable def f51_L0 (n m0 : Nat) (y0 : List (Int × Int × ByteArray)) (y1 : Int) (y2 : List (Int × Int × ByteArray)) : Option Res := loopAt Γ (orc [e89]) n (57 : Nat) (0 : Nat) [] [Pth.r, Pth.r, Pth.l, Pth.r, Pth.b] m0 (St.mk (ZS (Zi.pair (Zi.pair Ty.str)).slice y0 :: Zn :: Zn :: Slot.val (Val.one (Cell.own (0 : Nat))) :: ZS Zi y1 :: ZN 18 []) [AObj.row (Zi.pair (Zi.pair Ty.str)) y2 true])
theorem f51_L0_step (n m0 : Nat) (y0 : List (Int × Int × ByteArray)) (y1 : Int) (y2 : List (Int × Int × ByteArray)) : f51_L0 n (m0 + 1) y0 y1 y2 = bif decide (y1 < (↑y0.length : Int)) then chk (decide ((0 : Int) ≤ y1) && decide (y1 < (↑y0.length : Int))) (chk (decide ((0 : Int) ≤ y1) && decide (y1 < (↑y2.length : Int))) (f51_L0 n m0 y0 (IntKind.i64.wrap (y1 + (1 : Int))) (y2.set y1.toNat ((Sp.f89 (y0.getD y1.toNat ((0 : Int), (0 : Int), ByteArray.mk #[])).1 (y0.getD y1.toNat ((0 : Int), (0 : Int), ByteArray.mk #[])).2.1 (y0.getD y1.toNat ((0 : Int), (0 : Int), ByteArray.mk #[])).2.2).1.1, (Sp.f89 (y0.getD y1.toNat ((0 : Int), (0 : Int), ByteArray.mk #[])).1 (y0.getD y1.toNat ((0 : Int), (0 : Int), ByteArray.mk #[])).2.1 (y0.getD y1.toNat ((0 : Int), (0 : Int), ByteArray.mk #[])).2.2).1.2.1, (Sp.f89 (y0.getD y1.toNat ((0 : Int), (0 : Int), ByteArray.mk #[])).1 (y0.getD y1.toNat ((0 : Int), (0 : Int), ByteArray.mk #[])).2.1 (y0.getD y1.toNat ((0 : Int), (0 : Int), ByteArray.mk #[])).2.2).1.2.2)))) else some (Res.mk [XV.mk false [X.c (X0.row (Zi.pair (Zi.pair Ty.str)) y2 true)]] []) := by kernel_rfl
theorem f51_raw (n : Nat) (x0 : List (Int × Int × ByteArray)) : abody Γ (orc [e89]) n 57 [ZX (Zi.pair (Zi.pair Ty.str)).slice x0] = chk (decide ((0 : Int) ≤ (↑x0.length : Int)) && decide ((↑x0.length : Int) ≤ (↑x0.length : Int)) && decide ((↑x0.length : Int) ≤ (140737488355328 : Int)) && decide ((32 : Int) * (↑x0.length : Int) ≤ (140737488355328 : Int))) (f51_L0 n n x0 (0 : Int) (List.replicate (↑x0.length : Int).toNat ((0 : Int), (0 : Int), ByteArray.empty))) := by kernel_rfl

noncomputable def e51 : Ent := { f := n51, ins := [Sh.one (C0.dat (.slice tV))], outs := [Sh.one (C0.row tV)], upd := [], pre := fun a => Sp.fits32 (α := V3) a, spec := fun a => a, wrt := fun _ => () }
theorem e51_core (xs : List V3) (ha : Sp.fits32 xs = true) : ∃ n, abody Γ (orc [e89]) n n51 [ZX (Ty.slice tV) xs] = some (Res.mk [XV.mk false [X.c (X0.row tV xs true)]] []) := by
  have h1 := fits32_of ha
  refine ⟨xs.length + 1, (f51_raw _ xs).trans ?_⟩
  rw [make32 h1, chkT]
  refine to_end (R := fun l : List V3 => Res.mk [XV.mk false [X.c (X0.row tV l true)]] []) xs (fun m k acc => f51_L0 (xs.length + 1) m xs k acc) (fun m k acc hk => ?_) (fun m k acc h ha => ?_) _
  · show f51_L0 _ _ _ _ _ = _
    rw [f51_L0_step, nat_ge hk, cond_false]
  · show f51_L0 _ _ _ _ _ = _
    rw [f51_L0_step, ha, nat_lt h, cond_true, guard0, chkT, chkT, getD_nat xs k _ h, next64 h (by omega), Int.toNat_natCast]
    rfl
theorem e51_ok : Valid PP Γ e51 := valid_of ok (vcons e89_ok vnil) fun a ha => e51_core a ha
def Sp.f35 (x0 : Int) (x1 : ByteArray) (x2 x3 : List (Int × Int × ByteArray)) (x4 : Int) := (bif decide (IntKind.i64.wrap (x4 - (↑x1.size : Int)) < (0 : Int)) then ((-1 : Int), ()) else (bif decide (Sp.szE Sp.szV x2 (IntKind.i64.wrap (x4 - (↑x1.size : Int))) < (0 : Int)) then ((-1 : Int), ()) else (bif decide (Sp.szE Sp.szV x3 (Sp.szE Sp.szV x2 (IntKind.i64.wrap (x4 - (↑x1.size : Int)))) < (0 : Int)) then ((-1 : Int), ()) else (Sp.szE Sp.szV x3 (Sp.szE Sp.szV x2 (IntKind.i64.wrap (x4 - (↑x1.size : Int)))), ()))))
def Sp.f41 (x0 : Int) (x1 : ByteArray) (x2 x3 : List (Int × Int × ByteArray)) (x4 : Int) (x5 : ByteArray) (x6 x7 : List (Int × Int × ByteArray)) := (bif x0 != x4 then (false, ()) else (bif !x1.toList == x5.toList then (false, ()) else (bif !Sp.eqW Sp.eqV x2 x6 then (false, ()) else (bif !Sp.eqW Sp.eqV x3 x7 then (false, ()) else (true, ())))))
def Sp.may (a b : ByteArray) : List V2 → Bool
  | [] => false
  | x :: r => bif x.1.toList == a.toList then (bif x.2.toList == b.toList then true else Sp.may a b r) else Sp.may a b r
def Sp.txt (xs : List V3) (i : Int) : ByteArray := (xs.getD i.toNat ((0 : Int), (0 : Int), ByteArray.mk #[])).2.2
def Sp.has (xs : List V3) (i : Int) : Bool := bif decide (0 ≤ i) then decide (i < (xs.length : Int)) else false
def Sp.step (gt : ByteArray) (gc : Int) (gs : List V2) (ev : Int) (ct : ByteArray) (old new : List V3) : Bool :=
  bif !(ct.toList == gt.toList) then true else bif ev == 3 then true else bif ev == 2 then
    (bif (Sp.txt old gc).toList == (Sp.txt new gc).toList then true else Sp.may (Sp.txt old gc) (Sp.txt new gc) gs)
  else Sp.may (ByteArray.mk #[]) (Sp.txt new gc) gs
def Sp.stepOK (gt : ByteArray) (gc ev : Int) (ct : ByteArray) (old new : List V3) : Bool :=
  bif !(ct.toList == gt.toList) then true else bif ev == 3 then true else bif Sp.has new gc then (bif ev == 2 then Sp.has old gc else true) else false
end Go.Proofs.GR.T

namespace Go.Proofs.GR.T
open Go Go.Proofs Go.Proofs.GR
theorem szV_le {x : V3} (h1 : x.2.2.size ≤ 9223372036854775807) (l : Int) (h0 : 0 ≤ l) (hl : l ≤ 1048576) : Sp.szV x l ≤ l := by
  unfold Sp.szV Sp.f87
  rw [wrap64 (n := l - (x.2.2.size : Int)) (by omega) (by omega)]
  by_cases c1 : l - (x.2.2.size : Int) < 0
  · rw [decide_eq_true c1]; show (-1 : Int) ≤ l; omega
  · rw [decide_eq_false c1]; show l - (x.2.2.size : Int) ≤ l; omega
end Go.Proofs.GR.T

namespace Go.Proofs.GR.T
open Go Go.Proofs Go.Proofs.GR
namespace Sp
def wtW {α : Type} (w : α → Nat) : List α → Nat
  | [] => 0
  | x :: r => w x + wtW w r
def markU {α : Type} (g : α → Int → α) (w : α → Nat) : List α → Int → List α
  | [], _ => []
  | x :: r, k => g x k :: markU g w r (k + (w x : Int))
def smallU {α : Type} (w : α → Nat) (xs : List α) (k : Int) : Bool := match k with
  | .ofNat n => Nat.ble (n + wtW w xs) 4611686018427387904
  | .negSucc _ => false
def addU {α : Type} (w : α → Nat) (xs : List α) (k : Int) : Int := k + (wtW w xs : Int)
end Sp
theorem smallU_of {α : Type} {w : α → Nat} {xs : List α} {k : Int} (h : Sp.smallU w xs k = true) : 0 ≤ k ∧ k + (Sp.wtW w xs : Int) ≤ 4611686018427387904 := by
  cases k with
  | ofNat n =>
    have h1 : n + Sp.wtW w xs ≤ 4611686018427387904 := Nat.le_of_ble_eq_true h
    refine ⟨Int.natCast_nonneg n, ?_⟩
    show (n : Int) + (Sp.wtW w xs : Int) ≤ 4611686018427387904
    omega
  | negSucc n => cases h
theorem smallU_mk {α : Type} {w : α → Nat} {xs : List α} {k : Int} (h1 : 0 ≤ k) (h2 : k.toNat + Sp.wtW w xs ≤ 4611686018427387904) : Sp.smallU w xs k = true := by
  cases k with
  | ofNat n => exact Nat.ble_eq_true_of_le h2
  | negSucc n => exact absurd h1 (by omega)
theorem wtW_lin {α : Type} {w c : α → Nat} {a b : Nat} : ∀ {xs : List α}, (∀ x ∈ xs, w x ≤ a + b * c x) → Sp.wtW w xs ≤ a * xs.length + b * Sp.wtW c xs
  | [], _ => Nat.zero_le _
  | x :: r, h => by
    have h1 := h x (List.mem_cons_self)
    have h2 := wtW_lin (xs := r) (fun y hy => h y (List.mem_cons_of_mem _ hy))
    rw [Sp.wtW, Sp.wtW, List.length_cons, Nat.mul_add, Nat.mul_add, Nat.mul_one]
    omega
theorem szW_wt {α : Type} {f : α → Int → Int} {c : α → Nat} : ∀ (xs : List α) (l : Int), (∀ x ∈ xs, ∀ l, 0 ≤ l → l ≤ 1048576 → 0 ≤ f x l → f x l + (c x : Int) ≤ l) → 0 ≤ l → l ≤ 1048576 → 0 ≤ Sp.szW f xs l → Sp.szW f xs l + (Sp.wtW c xs : Int) ≤ l
  | [], l, _, _, _, _ => by simp [Sp.szW, Sp.wtW]
  | x :: r, l, h, h0, h1, h2 => by
    rw [Sp.szW] at h2 ⊢
    by_cases hc : f x l < 0
    · rw [decide_eq_true hc, cond_true] at h2; omega
    · rw [decide_eq_false hc, cond_false] at h2 ⊢
      have h3 := h x (List.mem_cons_self) l h0 h1 (by omega)
      have := szW_wt r (f x l) (fun y hy => h y (List.mem_cons_of_mem _ hy)) (by omega) (by omega) h2
      rw [Sp.wtW, Int.natCast_add]
      omega
theorem szE_wt {α : Type} {f : α → Int → Int} {c : α → Nat} {xs : List α} {l : Int} (hl : xs.length ≤ 9223372036854775807) (h : ∀ x ∈ xs, ∀ l, 0 ≤ l → l ≤ 1048576 → 0 ≤ f x l → f x l + (c x : Int) ≤ l) (h0 : 0 ≤ l) (h1 : l ≤ 1048576) (h2 : 0 ≤ Sp.szE f xs l) : Sp.szE f xs l + (xs.length : Int) + (Sp.wtW c xs : Int) ≤ l := by
  unfold Sp.szE at h2 ⊢
  rw [wrap64 (by omega) (by omega)] at h2 ⊢
  by_cases hc : l - (xs.length : Int) < 0
  · rw [decide_eq_true hc, cond_true] at h2; omega
  · rw [decide_eq_false hc, cond_false] at h2 ⊢
    have := szW_wt xs (l - xs.length) h (by omega) (by omega) h2
    omega
theorem markU_loop {α : Type} {ρ : Type} {g : α → Int → α} {w : α → Nat} {R : Int → List α → ρ} (L : Nat → Int → Int → List α → Option ρ)
    (hend : ∀ m (v : Int) (k : Nat) acc, acc.length ≤ k → L (m + 1) v k acc = some (R v acc))
    (hstep : ∀ m (v : Int) (k : Nat) acc (h : k < acc.length), acc.length ≤ 9223372036854775807 → 0 ≤ v → v + (w acc[k] : Int) ≤ 4611686018427387904 → L (m + 1) v k acc = L m (v + (w acc[k] : Int)) ((k + 1 : Nat) : Int) (acc.set k (g acc[k] v))) :
    ∀ (d k m : Nat) (v : Int) (acc : List α), k + d = acc.length → d < m → acc.length ≤ 9223372036854775807 → 0 ≤ v → v + (Sp.wtW w (acc.drop k) : Int) ≤ 4611686018427387904 →
      L m v k acc = some (R (v + (Sp.wtW w (acc.drop k) : Int)) (acc.take k ++ Sp.markU g w (acc.drop k) v)) := by
  intro d
  induction d with
  | zero =>
    intro k m v acc hk hm hlen h0 h1
    obtain ⟨m, rfl⟩ := succ_of hm
    rw [hend m v k acc (by omega), List.drop_of_length_le (by omega), List.take_of_length_le (by omega)]
    simp [Sp.markU, Sp.wtW]
  | succ d ih =>
    intro k m v acc hk hm hlen h0 h1
    obtain ⟨m, rfl⟩ := succ_of hm
    have hlt : k < acc.length := by omega
    have e0 : acc.drop k = acc[k] :: acc.drop (k + 1) := List.drop_eq_getElem_cons hlt
    rw [e0] at h1 ⊢
    rw [Sp.wtW] at h1 ⊢
    rw [Int.natCast_add] at h1 ⊢
    have e2 : (acc.set k (g acc[k] v)).drop (k + 1) = acc.drop (k + 1) := by rw [List.drop_set_of_lt (by omega)]
    rw [hstep m v k acc hlt hlen h0 (by omega), ih (k + 1) m (v + (w acc[k] : Int)) _ (by rw [List.length_set]; omega) (by omega) (by rw [List.length_set]; exact hlen) (by omega) (by rw [e2]; omega)]
    have e : (acc.set k (g acc[k] v)).take (k + 1) = acc.take k ++ [g acc[k] v] := by
      rw [List.take_set, List.take_succ_eq_append_getElem (by omega)]
      rw [List.set_append_right _ _ (by simp; omega)]
      simp [Nat.min_eq_left (show k ≤ acc.length by omega)]
    rw [e, e2, List.append_assoc]
    simp only [Sp.markU, List.singleton_append]
    rw [show v + (w acc[k] : Int) + (Sp.wtW w (acc.drop (k + 1)) : Int) = v + ((w acc[k] : Int) + (Sp.wtW w (acc.drop (k + 1)) : Int)) by omega]
end Go.Proofs.GR.T

set_option maxRecDepth 100000
set_option maxHeartbeats 100000000
namespace Go.Proofs.GR.T
open Go Go.Proofs Go.Proofs.GR
def Sp.f134 (x0 x1 : Bool) := (bif x0 then ((-1 : Int), ()) else (bif x1 then ((0 : Int), ()) else ((1 : Int), ())))
noncomputable def e134 : Ent := { f := 113, ins := [Sh.one (C0.dat Ty.bool), Sh.one (C0.dat Ty.bool)], outs := [Sh.one ZI], upd := [], pre := fun a => true, spec := fun a => (Sp.f134 a.1 a.2).1, wrt := fun a => (Sp.f134 a.1 a.2).2 }
def f134_g (v : denS [Sh.one ZI] × denS []) : Res := ⟨mkS [Sh.one ZI] v.1, mkU [] v.2⟩
theorem f134_form (x0 x1 : Bool) : abody Γ (orc []) 0 113 [ZX Ty.bool x0, ZX Ty.bool x1] = some (f134_g (Sp.f134 x0 x1)) := by
  refine Eq.trans (b := bif x0 then ZJ (-1 : Int) else bif x1 then ZJ (0 : Int) else ZJ (1 : Int)) (by kernel_rfl) ?_
  unfold Sp.f134
  exact (cond_plain f134_g (rfl) ((cond_plain f134_g (rfl) (rfl))))
theorem e134_ok : Valid PP Γ e134 := valid_auto ok vnil fun a => f134_form a.1 a.2

def Sp.f133 (x0 x1 : Int) (x2 : ByteArray) (x3 x4 : Int) (x5 : ByteArray) := (bif x0 != x3 then ((Sp.f134 (decide (x0 < x3)) false).1, ()) else (bif x1 != x4 then ((Sp.f134 (decide (x1 < x4)) false).1, ()) else ((Sp.f134 (Op.bytesLess x2.toList x5.toList) (x2.toList == x5.toList)).1, ())))
noncomputable def e133 : Ent := { f := 112, ins := [Sh.agg [C0.dat Zi, C0.dat Zi, C0.dat Ty.str], Sh.agg [C0.dat Zi, C0.dat Zi, C0.dat Ty.str]], outs := [Sh.one ZI], upd := [], pre := fun a => true, spec := fun a => (Sp.f133 a.1.1 a.1.2.1 a.1.2.2 a.2.1 a.2.2.1 a.2.2.2).1, wrt := fun a => (Sp.f133 a.1.1 a.1.2.1 a.1.2.2 a.2.1 a.2.2.1 a.2.2.2).2 }
def f133_g (v : denS [Sh.one ZI] × denS []) : Res := ⟨mkS [Sh.one ZI] v.1, mkU [] v.2⟩
theorem f133_form (x0 x1 : Int) (x2 : ByteArray) (x3 x4 : Int) (x5 : ByteArray) : abody Γ (orc [e134]) 0 112 [XV.mk true [ZC Zi x0, ZC Zi x1, ZC Ty.str x2], XV.mk true [ZC Zi x3, ZC Zi x4, ZC Ty.str x5]] = some (f133_g (Sp.f133 x0 x1 x2 x3 x4 x5)) := by
  refine Eq.trans (b := bif x0 != x3 then ZJ (Sp.f134 (decide (x0 < x3)) false).1 else bif x1 != x4 then ZJ (Sp.f134 (decide (x1 < x4)) false).1 else ZJ (Sp.f134 (Op.bytesLess x2.toList x5.toList) (x2.toList == x5.toList)).1) (by kernel_rfl) ?_
  unfold Sp.f133
  exact (cond_plain f133_g (rfl) ((cond_plain f133_g (rfl) (rfl))))
theorem e133_ok : Valid PP Γ e133 := valid_auto ok (vcons e134_ok vnil) fun a => f133_form a.1.1 a.1.2.1 a.1.2.2 a.2.1 a.2.2.1 a.2.2.2

def Sp.cmpV (x y : V3) : Int := (Sp.f133 x.1 x.2.1 x.2.2 y.1 y.2.1 y.2.2).1
def Sp.cmpN (n m : Nat) : Int := (Sp.f134 (decide ((n : Int) < (m : Int))) ((n : Int) == (m : Int))).1
def Sp.rows : List V3 → List V3 → Int
  | x :: r, y :: s => bif Sp.cmpV x y != 0 then Sp.cmpV x y else Sp.rows r s
  | a, b => Sp.cmpN a.length b.length
noncomputable def f88_L0 (n m0 : Nat) (y0 y1 : List (Int × Int × ByteArray)) (y2 : Int) : Option Res := loopAt Γ (orc [e133, e134]) n (70 : Nat) (0 : Nat) [] [Pth.r, Pth.l, Pth.r, Pth.b] m0 (St.mk (ZS (Zi.pair (Zi.pair Ty.str)).slice y0 :: ZS (Zi.pair (Zi.pair Ty.str)).slice y1 :: ZN 3 (ZS Zi y2 :: ZN 36 [])) [])
theorem f88_L0_step (n m0 : Nat) (y0 y1 : List (Int × Int × ByteArray)) (y2 : Int) : f88_L0 n (m0 + 1) y0 y1 y2 = bif decide (y2 < (↑y0.length : Int)) then bif decide (y2 < (↑y1.length : Int)) then chk (decide ((0 : Int) ≤ y2) && decide (y2 < (↑y0.length : Int))) (chk (decide ((0 : Int) ≤ y2) && decide (y2 < (↑y1.length : Int))) (bif (Sp.f133 (y0.getD y2.toNat ((0 : Int), (0 : Int), ByteArray.mk #[])).1 (y0.getD y2.toNat ((0 : Int), (0 : Int), ByteArray.mk #[])).2.1 (y0.getD y2.toNat ((0 : Int), (0 : Int), ByteArray.mk #[])).2.2 (y1.getD y2.toNat ((0 : Int), (0 : Int), ByteArray.mk #[])).1 (y1.getD y2.toNat ((0 : Int), (0 : Int), ByteArray.mk #[])).2.1 (y1.getD y2.toNat ((0 : Int), (0 : Int), ByteArray.mk #[])).2.2).1 != (0 : Int) then ZJ (Sp.f133 (y0.getD y2.toNat ((0 : Int), (0 : Int), ByteArray.mk #[])).1 (y0.getD y2.toNat ((0 : Int), (0 : Int), ByteArray.mk #[])).2.1 (y0.getD y2.toNat ((0 : Int), (0 : Int), ByteArray.mk #[])).2.2 (y1.getD y2.toNat ((0 : Int), (0 : Int), ByteArray.mk #[])).1 (y1.getD y2.toNat ((0 : Int), (0 : Int), ByteArray.mk #[])).2.1 (y1.getD y2.toNat ((0 : Int), (0 : Int), ByteArray.mk #[])).2.2).1 else f88_L0 n m0 y0 y1 (IntKind.i64.wrap (y2 + (1 : Int))))) else ZJ (Sp.f134 (decide ((↑y0.length : Int) < (↑y1.length : Int))) ((↑y0.length : Int) == (↑y1.length : Int))).1 else ZJ (Sp.f134 (decide ((↑y0.length : Int) < (↑y1.length : Int))) ((↑y0.length : Int) == (↑y1.length : Int))).1 := by kernel_rfl
theorem f88_raw (n : Nat) (x0 x1 : List (Int × Int × ByteArray)) : abody Γ (orc [e133, e134]) n 70 [ZX (Zi.pair (Zi.pair Ty.str)).slice x0, ZX (Zi.pair (Zi.pair Ty.str)).slice x1] = f88_L0 n n x0 x1 (0 : Int) := by kernel_rfl

noncomputable def e88 : Ent := { f := n88, ins := [Sh.one (C0.dat (.slice tV)), Sh.one (C0.dat (.slice tV))], outs := [Sh.one cI], upd := [], pre := fun a => true, spec := fun a => Sp.rows a.1 a.2, wrt := fun _ => () }
theorem cmpN_shift (k a b : Nat) (ha : k ≤ a) (hb : k ≤ b) : Sp.cmpN (a - k) (b - k) = Sp.cmpN a b := by
  unfold Sp.cmpN
  rw [show decide (((a - k : Nat) : Int) < ((b - k : Nat) : Int)) = decide ((a : Int) < (b : Int)) from decide_eq_decide.2 ⟨fun h => by omega, fun h => by omega⟩]
  rw [show (((a - k : Nat) : Int) == ((b - k : Nat) : Int)) = ((a : Int) == (b : Int)) by
    rw [Bool.eq_iff_iff]; simp only [beq_iff_eq]; exact ⟨fun h => by omega, fun h => by omega⟩]
theorem f88_loop (n : Nat) (xs ys : List V3) (hl : xs.length ≤ 9223372036854775807) : ∀ (d k m : Nat), k + d = xs.length → k ≤ ys.length → d < m → f88_L0 n m xs ys k = some (rI (Sp.rows (xs.drop k) (ys.drop k))) := by
  intro d
  induction d with
  | zero =>
    intro k m hk hy hm
    obtain ⟨m, rfl⟩ := succ_of hm
    rw [f88_L0_step, nat_ge (by omega), cond_false, List.drop_of_length_le (show xs.length ≤ k by omega)]
    have e : Sp.rows [] (ys.drop k) = Sp.cmpN 0 (ys.drop k).length := by cases ys.drop k <;> rfl
    rw [e, List.length_drop, show (0 : Nat) = xs.length - k by omega, cmpN_shift k _ _ (by omega) hy]
    rfl
  | succ d ih =>
    intro k m hk hy hm
    obtain ⟨m, rfl⟩ := succ_of hm
    have h : k < xs.length := by omega
    rw [f88_L0_step, nat_lt h, cond_true]
    by_cases h2 : k < ys.length
    · rw [nat_lt h2, cond_true, guard0, chkT, chkT, getD_nat xs k _ h, getD_nat ys k _ h2, next64 h hl, ih (k + 1) m (by omega) (by omega) (by omega), List.drop_eq_getElem_cons h, List.drop_eq_getElem_cons h2, Sp.rows]
      show (bif Sp.cmpV xs[k] ys[k] != 0 then some (rI (Sp.cmpV xs[k] ys[k])) else _) = _
      cases Sp.cmpV xs[k] ys[k] != 0 <;> rfl
    · rw [nat_ge (show ys.length ≤ k by omega), cond_false, List.drop_of_length_le (show ys.length ≤ k by omega)]
      have e : Sp.rows (xs.drop k) [] = Sp.cmpN (xs.drop k).length 0 := by cases xs.drop k <;> rfl
      rw [e, List.length_drop, show (0 : Nat) = ys.length - k by omega, cmpN_shift k _ _ (by omega) hy]
      rfl
theorem e88_ok : Valid PP Γ e88 := valid_len ok (vcons e133_ok (vcons e134_ok vnil)) fun a _ hl => ⟨List.length (α := V3) a.1 + 1, (f88_raw _ a.1 a.2).trans (f88_loop _ a.1 a.2 (hl _ (List.mem_cons_self) _ (List.mem_cons_self)).1 (List.length (α := V3) a.1) 0 _ (Nat.zero_add _) (Nat.zero_le _) (Nat.lt_succ_self _))⟩
theorem make72 {n : Nat} (h : n ≤ 1000000000000) : (decide ((0 : Int) ≤ (n : Int)) && decide ((n : Int) ≤ (n : Int)) && decide ((n : Int) ≤ (140737488355328 : Int)) && decide ((72 : Int) * (n : Int) ≤ (140737488355328 : Int))) = true := by
  rw [decide_eq_true (show (0 : Int) ≤ n by omega), decide_eq_true (Int.le_refl (n : Int)), decide_eq_true (show (n : Int) ≤ 140737488355328 by omega), decide_eq_true (show 72 * (n : Int) ≤ 140737488355328 by omega)]
  rfl
end Go.Proofs.GR.T

namespace Go.Proofs.GR.T
open Go Go.Proofs Go.Proofs.GR Go.Shelf
def ren1041 : Ren := ⟨fun k => if k = 146 then n1041 else if k = 221 then n1042 else if k = 268 then n1043 else if k = 138 then n1044 else if k = 143 then n1045 else if k = 195 then n1046 else if k = 197 then n1047 else if k = 218 then n1048 else if k = 219 then n1049 else if k = 260 then n1050 else if k = 217 then n1051 else if k = 225 then n1052 else if k = 224 then n1053 else if k = 267 then n1054 else if k = 266 then n1055 else if k = 314 then n1056 else k, fun k => if k = 9 then t9 else if k = 31 then t40 else if k = 3 then t3 else if k = 4 then t4 else if k = 0 then t0 else if k = 105 then t1035 else if k = 21 then t21 else if k = 5 then t5 else if k = 46 then t86 else if k = 119 then t1038 else if k = 139 then t1041 else if k = 138 then t1040 else if k = 146 then t1042 else if k = 51 then t151 else k, fun k => if k = 1 then g1 else if k = 3 then g2 else if k = 4 then g3 else k⟩
theorem lays1041 : Lays.n146 PP ren1041 where
  mixed := by kernel_rfl
  f138 := by kernel_rfl
  f143 := by kernel_rfl
  f146 := by kernel_rfl
  f195 := by kernel_rfl
  f197 := by kernel_rfl
  f217 := by kernel_rfl
  f218 := by kernel_rfl
  f219 := by kernel_rfl
  f221 := by kernel_rfl
  f224 := by kernel_rfl
  f225 := by kernel_rfl
  f260 := by kernel_rfl
  f266 := by kernel_rfl
  f267 := by kernel_rfl
  f268 := by kernel_rfl
  f314 := by kernel_rfl
  t0 := by kernel_rfl
  a0 := fun _ => by kernel_rfl
  z0 := fun _ => by kernel_rfl
  v0 := fun _ => by kernel_rfl
  t3 := by kernel_rfl
  a3 := fun _ => by kernel_rfl
  z3 := fun _ => by kernel_rfl
  v3 := fun _ => by kernel_rfl
  t4 := by kernel_rfl
  a4 := fun _ => by kernel_rfl
  z4 := fun _ => by kernel_rfl
  v4 := fun _ => by kernel_rfl
  t5 := by kernel_rfl
  a5 := fun _ => by kernel_rfl
  z5 := fun _ => by kernel_rfl
  v5 := fun _ => by kernel_rfl
  t9 := by kernel_rfl
  a9 := fun _ => by kernel_rfl
  z9 := fun _ => by kernel_rfl
  v9 := fun _ => by kernel_rfl
  t21 := by kernel_rfl
  a21 := fun _ => by kernel_rfl
  z21 := fun _ => by kernel_rfl
  v21 := fun _ => by kernel_rfl
  t31 := by kernel_rfl
  a31 := fun _ => by kernel_rfl
  z31 := fun _ => by kernel_rfl
  v31 := fun _ => by kernel_rfl
  t46 := by kernel_rfl
  a46 := fun _ => by kernel_rfl
  z46 := fun _ => by kernel_rfl
  v46 := fun _ => by kernel_rfl
  t51 := by kernel_rfl
  a51 := fun _ => by kernel_rfl
  z51 := fun _ => by kernel_rfl
  v51 := fun _ => by kernel_rfl
  t105 := by kernel_rfl
  a105 := fun _ => by kernel_rfl
  z105 := fun _ => by kernel_rfl
  v105 := fun _ => by kernel_rfl
  t119 := by kernel_rfl
  a119 := fun _ => by kernel_rfl
  z119 := fun _ => by kernel_rfl
  t138 := by kernel_rfl
  a138 := fun _ => by kernel_rfl
  z138 := fun _ => by kernel_rfl
  v138 := fun _ => by kernel_rfl
  t139 := by kernel_rfl
  a139 := fun _ => by kernel_rfl
  z139 := fun _ => by kernel_rfl
  v139 := fun _ => by kernel_rfl
  t146 := by kernel_rfl
  a146 := fun _ => by kernel_rfl
  z146 := fun _ => by kernel_rfl
  v146 := fun _ => by kernel_rfl
  g1 := by kernel_rfl
  g3 := by kernel_rfl
  g4 := by kernel_rfl
theorem i1041 : (Tryz.prog.info? (ren1041.t 9)).map (fun i => (i.zero, i.size, i.bytes)) = some (some (Value.string ByteArray.empty), 1, 16) := by kernel_rfl
def Sp.split (s sep : ByteArray) : List ByteArray := Lib.splitB sep 0 (Lib.countB s sep) s
theorem gls1041 : ∀ w : World, (∀ p ∈ Γ.gls, p.1 < w.heap.size ∧ p.2 w.heap[p.1]?) → ∃ m, w.cell? ⟨g1, 0, none⟩ = some (.int .i64 m) := fun w h => intAt0_cell (h (g1, intAt0) (List.mem_cons_self)).2
theorem split1041 (s sep : ByteArray) (h : s.size < 4294967281) (h1 : 1 ≤ sep.size) : Contract PP Γ n1041 [⟨false, [.c (.dat .str s)]⟩, ⟨false, [.c (.dat .str sep)]⟩] ⟨[⟨false, [.c (.row .str (Sp.split s sep) true)]⟩], []⟩ := by
  have hlen : (Sp.split s sep).length = Lib.countB s sep + 1 := Lib.splitB_all sep h1 0 _ s rfl
  have hle := Lib.countB_le sep h1 s.size s (Nat.le_refl _)
  refine contract_row_str (t := ren1041.t 9) (by kernel_rfl) (by rw [hlen]; unfold maxLen; omega) fun w hw => ?_
  obtain ⟨m, hm⟩ := gls1041 w hw
  rw [hlen]
  exact Any.strings_Split lays1041 i1041 s sep m w h hm h1
end Go.Proofs.GR.T

namespace Go.Proofs.GR.T
open Go Go.Proofs Go.Proofs.GR
abbrev VA := Int × Int × ByteArray × ByteArray × V3
abbrev RT := Rose VA
namespace Sp
def nsum : List Nat → Nat
  | [] => 0
  | n :: r => n + nsum r
def rsz {α : Type} : Rose α → Nat := Rose.fold fun _ ns => 2 + nsum ns
def rszs {α : Type} (l : List (Rose α)) : Nat := 1 + nsum (l.map rsz)
def rsz1 {α : Type} (l : List (Rose α)) : Nat := 1 + rszs l
end Sp
theorem condB (c a b : Bool) : some (rBo (bif c then a else b)) = bif c then some (rBo a) else some (rBo b) := by cases c <;> rfl
end Go.Proofs.GR.T

set_option maxRecDepth 100000
set_option maxHeartbeats 100000000
namespace Go.Proofs.GR.T
open Go Go.Proofs Go.Proofs.GR
end Go.Proofs.GR.T

set_option maxRecDepth 100000
set_option maxHeartbeats 100000000
namespace Go.Proofs.GR.T
open Go Go.Proofs Go.Proofs.GR
mutual
def Sp.fitT : RT → Bool
  | .mk _ ks => Sp.fitTs ks
def Sp.fitTs : List RT → Bool
  | [] => true
  | r :: l => Nat.ble (r :: l).length 1000000000000 && (Sp.fitT r && Sp.fitTs l)
end
def Sp.eqVt (x y : V3) : Bool := (Sp.f86 x.1 x.2.1 x.2.2 y.1 y.2.1 y.2.2).1
def Sp.eqA (a b : VA) : Bool :=
  bif a.1 != b.1 then false else bif a.2.1 != b.2.1 then false else bif !(a.2.2.1.toList == b.2.2.1.toList) then false else bif !(a.2.2.2.1.toList == b.2.2.2.1.toList) then false else bif !Sp.eqVt a.2.2.2.2 b.2.2.2.2 then false else true
mutual
def Sp.eqT : RT → RT → Bool
  | .mk a ks, .mk b js => bif !Sp.eqA a b then false else Sp.eqTs ks js
def Sp.eqTs : List RT → List RT → Bool
  | [], [] => true
  | r :: l, s :: m => bif !Sp.eqT r s then false else Sp.eqTs l m
  | _, _ => false
end
end Go.Proofs.GR.T

set_option maxRecDepth 100000
set_option maxHeartbeats 100000000
namespace Go.Proofs.GR.T
open Go Go.Proofs Go.Proofs.GR
mutual
def Sp.wT : RT → Nat
  | .mk _ ks => 7 + Sp.wTs ks
def Sp.wTs : List RT → Nat
  | [] => 0
  | r :: l => Sp.wT r + Sp.wTs l
end
def Sp.markA (k : Int) : VA := (k, k + 1, Sp.mText (k + 2), Sp.mText (k + 3), (k + 4, k + 5, Sp.mText (k + 6)))
mutual
def Sp.markT : RT → Int → RT
  | .mk _ ks, k => .mk (Sp.markA k) (Sp.markTs ks (k + 7))
def Sp.markTs : List RT → Int → List RT
  | [], _ => []
  | r :: l, k => Sp.markT r k :: Sp.markTs l (k + (Sp.wT r : Int))
end
end Go.Proofs.GR.T

set_option maxRecDepth 100000
set_option maxHeartbeats 100000000
namespace Go.Proofs.GR.T
open Go Go.Proofs Go.Proofs.GR
def Sp.heldA (a : VA) (k : Int) : Bool :=
  bif a.1 != k then false else bif a.2.1 != k + 1 then false else bif !(a.2.2.1.toList == (Sp.mText (k + 2)).toList) then false else bif !(a.2.2.2.1.toList == (Sp.mText (k + 3)).toList) then false else
  bif a.2.2.2.2.1 != k + 4 then false else bif a.2.2.2.2.2.1 != k + 5 then false else bif !(a.2.2.2.2.2.2.toList == (Sp.mText (k + 6)).toList) then false else true
mutual
def Sp.heldT : RT → Int → Int
  | .mk a ks, k => bif Sp.heldA a k then Sp.heldTs ks (k + 7) else -1
def Sp.heldTs : List RT → Int → Int
  | [], k => k
  | r :: l, k => bif decide (Sp.heldT r k < 0) then -1 else Sp.heldTs l (Sp.heldT r k)
end
end Go.Proofs.GR.T

set_option maxRecDepth 100000
set_option maxHeartbeats 100000000
namespace Go.Proofs.GR.T
open Go Go.Proofs Go.Proofs.GR
noncomputable def e1041 : Ent := { f := n1041, ins := [Sh.one cS, Sh.one cS], outs := [Sh.one (C0.row .str)], upd := [], pre := fun a => Nat.blt (ByteArray.size a.1) 4294967281 && Nat.ble 1 (ByteArray.size a.2), spec := fun a => Sp.split a.1 a.2, wrt := fun _ => () }
theorem e1041_ok : Valid PP Γ e1041 := fun a ha => by
  obtain ⟨h1, h2⟩ := Bool.and_eq_true_iff.1 ha
  exact split1041 a.1 a.2 (Nat.le_of_ble_eq_true h1) (Nat.le_of_ble_eq_true h2)
def Sp.f217 (x0 : Int) := (bif decide (x0 ≥ (97 : Int)) then (bif decide (x0 ≤ (122 : Int)) then (true, ()) else (bif decide (x0 ≥ (65 : Int)) then (bif decide (x0 ≤ (90 : Int)) then (true, ()) else (x0 == (95 : Int), ())) else (x0 == (95 : Int), ()))) else (bif decide (x0 ≥ (65 : Int)) then (bif decide (x0 ≤ (90 : Int)) then (true, ()) else (x0 == (95 : Int), ())) else (x0 == (95 : Int), ())))
noncomputable def e217 : Ent := { f := 196, ins := [Sh.one (C0.dat (Ty.int IntKind.u8))], outs := [Sh.one (C0.dat Ty.bool)], upd := [], pre := fun a => true, spec := fun a => (Sp.f217 a).1, wrt := fun a => (Sp.f217 a).2 }
def f217_g (v : denS [Sh.one (C0.dat Ty.bool)] × denS []) : Res := ⟨mkS [Sh.one (C0.dat Ty.bool)] v.1, mkU [] v.2⟩
theorem f217_form (x0 : Int) : abody Γ (orc []) 0 196 [ZX (Ty.int IntKind.u8) x0] = some (f217_g (Sp.f217 x0)) := by
  refine Eq.trans (b := bif decide (x0 ≥ (97 : Int)) then bif decide (x0 ≤ (122 : Int)) then Zt else bif decide (x0 ≥ (65 : Int)) then bif decide (x0 ≤ (90 : Int)) then Zt else ZB (x0 == (95 : Int)) else ZB (x0 == (95 : Int)) else bif decide (x0 ≥ (65 : Int)) then bif decide (x0 ≤ (90 : Int)) then Zt else ZB (x0 == (95 : Int)) else ZB (x0 == (95 : Int))) (by kernel_rfl) ?_
  unfold Sp.f217
  exact (cond_plain f217_g ((cond_plain f217_g (rfl) ((cond_plain f217_g ((cond_plain f217_g (rfl) (rfl))) (rfl))))) ((cond_plain f217_g ((cond_plain f217_g (rfl) (rfl))) (rfl))))
theorem e217_ok : Valid PP Γ e217 := valid_auto ok vnil fun a => f217_form a

def Sp.f218 (x0 : Int) := (bif decide (x0 ≥ (48 : Int)) then (decide (x0 ≤ (57 : Int)), ()) else (false, ()))
noncomputable def e218 : Ent := { f := 197, ins := [Sh.one (C0.dat (Ty.int IntKind.u8))], outs := [Sh.one (C0.dat Ty.bool)], upd := [], pre := fun a => true, spec := fun a => (Sp.f218 a).1, wrt := fun a => (Sp.f218 a).2 }
def f218_g (v : denS [Sh.one (C0.dat Ty.bool)] × denS []) : Res := ⟨mkS [Sh.one (C0.dat Ty.bool)] v.1, mkU [] v.2⟩
theorem f218_form (x0 : Int) : abody Γ (orc []) 0 197 [ZX (Ty.int IntKind.u8) x0] = some (f218_g (Sp.f218 x0)) := by
  refine Eq.trans (b := bif decide (x0 ≥ (48 : Int)) then ZB (decide (x0 ≤ (57 : Int))) else Zf) (by kernel_rfl) ?_
  unfold Sp.f218
  exact (cond_plain f218_g (rfl) (rfl))
theorem e218_ok : Valid PP Γ e218 := valid_auto ok vnil fun a => f218_form a

def Sp.wordB (b : Int) : Bool := bif !(Sp.f217 b).1 then (Sp.f218 b).1 else true
def Sp.isName : List Int → Bool
  | [] => false
  | b :: r => bif decide (r.length + 1 > 40) then false else bif !(Sp.f217 b).1 then false else Sp.allW Sp.wordB r
noncomputable def f214_L0 (n m0 : Nat) (y0 : ByteArray) (y1 : Int) : Option Res := loopAt Γ (orc [e217, e218]) n (183 : Nat) (0 : Nat) [] [Pth.r, Pth.r, Pth.l, Pth.r, Pth.b] m0 (St.mk (ZS Ty.str y0 :: Zn :: Zn :: ZS Zi y1 :: ZN 32 []) [])
theorem f214_L0_step (n m0 : Nat) (y0 : ByteArray) (y1 : Int) : f214_L0 n (m0 + 1) y0 y1 = bif decide (y1 < (↑y0.size : Int)) then chk (decide ((0 : Int) ≤ y1) && decide (y1 < (↑y0.size : Int))) (bif !(Sp.f217 ((strBytes y0).getD y1.toNat (0 : Int))).1 then chk (decide ((0 : Int) ≤ y1) && decide (y1 < (↑y0.size : Int))) (bif !(Sp.f218 ((strBytes y0).getD y1.toNat (0 : Int))).1 then Zf else f214_L0 n m0 y0 (IntKind.i64.wrap (y1 + (1 : Int)))) else f214_L0 n m0 y0 (IntKind.i64.wrap (y1 + (1 : Int)))) else Zt := by kernel_rfl
theorem f214_raw (n : Nat) (x0 : ByteArray) : abody Γ (orc [e217, e218]) n 183 [ZX Ty.str x0] = bif decide ((↑x0.size : Int) < (1 : Int)) then Zf else bif decide ((↑x0.size : Int) > (40 : Int)) then Zf else chk (decide ((0 : Int) < (↑x0.size : Int))) (bif !(Sp.f217 ((strBytes x0).getD (0 : Nat) (0 : Int))).1 then Zf else f214_L0 n n x0 (1 : Int)) := by kernel_rfl

noncomputable def e214 : Ent := { f := n214, ins := [Sh.one cS], outs := [Sh.one cB], upd := [], pre := fun _ => true, spec := fun a => Sp.isName (strBytes a), wrt := fun _ => () }
theorem e214_core (t : ByteArray) : ∃ n, abody Γ (orc [e217, e218]) n n214 [ZX Ty.str t] = some (rBo (Sp.isName (strBytes t))) := by
  refine ⟨41, (f214_raw _ t).trans ?_⟩
  have hs := strBytes_len t
  cases hb : strBytes t with
  | nil =>
    rw [hb] at hs
    have hs : 0 = t.size := hs
    rw [decide_eq_true (show (t.size : Int) < 1 by omega)]
    rfl
  | cons b r =>
    rw [hb, List.length_cons] at hs
    rw [decide_eq_false (show ¬ (t.size : Int) < 1 by omega), cond_false, decide_eq_true (show (0 : Int) < t.size by omega), chkT]
    show _ = some (rBo (bif decide (r.length + 1 > 40) then false else bif !(Sp.f217 b).1 then false else Sp.allW Sp.wordB r))
    rw [condB, condB]
    by_cases hc : (t.size : Int) > 40
    · rw [decide_eq_true hc, decide_eq_true (show r.length + 1 > 40 by omega)]; rfl
    · rw [decide_eq_false hc, decide_eq_false (show ¬ r.length + 1 > 40 by omega), cond_false, cond_false, List.getD_cons_zero]
      cases (Sp.f217 b).1 with
      | false => rfl
      | true =>
        rw [Bool.not_true, cond_false, cond_false]
        have := all_loop (p := Sp.wordB) (R := rBo) (b :: r) (fun m k => f214_L0 41 m t k) (fun m k hk => by
          show f214_L0 _ _ _ _ = _
          rw [f214_L0_step, ← hs, nat_ge (by simpa using hk), cond_false]) (fun m k h => by
          show f214_L0 _ _ _ _ = _
          have h' : k < r.length + 1 := by simpa using h
          rw [f214_L0_step, ← hs, nat_lt h', cond_true, guard0, chkT, chkT, hb, getD_nat (b :: r) k _ h, next64 h' (by omega)]
          unfold Sp.wordB
          cases (Sp.f217 (b :: r)[k]).1 <;> cases (Sp.f218 (b :: r)[k]).1 <;> rfl) r.length 1 41 (by simp; omega) (by omega)
        exact this
theorem e214_ok : Valid PP Γ e214 := valid_of ok (vcons e217_ok (vcons e218_ok vnil)) fun a _ => e214_core a
def Sp.f208 (x0 : ByteArray) := (Sp.isName (strBytes x0), ())
noncomputable def e208 : Ent := { f := 164, ins := [Sh.one (C0.dat Ty.str)], outs := [Sh.one (C0.dat Ty.bool)], upd := [], pre := fun a => true, spec := fun a => (Sp.f208 a).1, wrt := fun a => (Sp.f208 a).2 }
def f208_g (v : denS [Sh.one (C0.dat Ty.bool)] × denS []) : Res := ⟨mkS [Sh.one (C0.dat Ty.bool)] v.1, mkU [] v.2⟩
theorem f208_form (x0 : ByteArray) : abody Γ (orc [e214]) 0 164 [ZX Ty.str x0] = some (f208_g (Sp.f208 x0)) := by
  refine Eq.trans (b := ZB (Sp.isName (strBytes x0))) (by kernel_rfl) ?_
  unfold Sp.f208
  exact rfl
theorem e208_ok : Valid PP Γ e208 := valid_auto ok (vcons e214_ok vnil) fun a => f208_form a

def Sp.f209 := ([ByteArray.mk #[115, 101, 108, 101, 99, 116], ByteArray.mk #[102, 114, 111, 109], ByteArray.mk #[106, 111, 105, 110], ByteArray.mk #[111, 110], ByteArray.mk #[119, 104, 101, 114, 101], ByteArray.mk #[103, 114, 111, 117, 112], ByteArray.mk #[98, 121], ByteArray.mk #[111, 114, 100, 101, 114], ByteArray.mk #[108, 105, 109, 105, 116], ByteArray.mk #[100, 101, 115, 99], ByteArray.mk #[105, 110, 115, 101, 114, 116], ByteArray.mk #[105, 110, 116, 111], ByteArray.mk #[118, 97, 108, 117, 101, 115], ByteArray.mk #[117, 112, 100, 97, 116, 101], ByteArray.mk #[115, 101, 116], ByteArray.mk #[100, 101, 108, 101, 116, 101], ByteArray.mk #[97, 110, 100], ByteArray.mk #[111, 114], ByteArray.mk #[110, 111, 116], ByteArray.mk #[105, 115], ByteArray.mk #[110, 117, 108, 108], ByteArray.mk #[116, 114, 117, 101], ByteArray.mk #[102, 97, 108, 115, 101], ByteArray.mk #[99, 111, 117, 110, 116], ByteArray.mk #[115, 117, 109], ByteArray.mk #[109, 105, 110], ByteArray.mk #[109, 97, 120], ByteArray.mk #[97, 115]], ())
noncomputable def e209 : Ent := { f := 165, ins := [], outs := [Sh.one (C0.row Ty.str)], upd := [], pre := fun a => true, spec := fun a => (Sp.f209).1, wrt := fun a => (Sp.f209).2 }
def f209_g (v : denS [Sh.one (C0.row Ty.str)] × denS []) : Res := ⟨mkS [Sh.one (C0.row Ty.str)] v.1, mkU [] v.2⟩
theorem f209_raw : abody Γ (orc []) 0 165 [] = some (Res.mk [XV.mk false [X.c (X0.row Ty.str [ByteArray.mk #[115, 101, 108, 101, 99, 116], ByteArray.mk #[102, 114, 111, 109], ByteArray.mk #[106, 111, 105, 110], ByteArray.mk #[111, 110], ByteArray.mk #[119, 104, 101, 114, 101], ByteArray.mk #[103, 114, 111, 117, 112], ByteArray.mk #[98, 121], ByteArray.mk #[111, 114, 100, 101, 114], ByteArray.mk #[108, 105, 109, 105, 116], ByteArray.mk #[100, 101, 115, 99], ByteArray.mk #[105, 110, 115, 101, 114, 116], ByteArray.mk #[105, 110, 116, 111], ByteArray.mk #[118, 97, 108, 117, 101, 115], ByteArray.mk #[117, 112, 100, 97, 116, 101], ByteArray.mk #[115, 101, 116], ByteArray.mk #[100, 101, 108, 101, 116, 101], ByteArray.mk #[97, 110, 100], ByteArray.mk #[111, 114], ByteArray.mk #[110, 111, 116], ByteArray.mk #[105, 115], ByteArray.mk #[110, 117, 108, 108], ByteArray.mk #[116, 114, 117, 101], ByteArray.mk #[102, 97, 108, 115, 101], ByteArray.mk #[99, 111, 117, 110, 116], ByteArray.mk #[115, 117, 109], ByteArray.mk #[109, 105, 110], ByteArray.mk #[109, 97, 120], ByteArray.mk #[97, 115]] true)]] []) := by kernel_rfl
theorem f209_form : (some (Res.mk [XV.mk false [X.c (X0.row Ty.str [ByteArray.mk #[115, 101, 108, 101, 99, 116], ByteArray.mk #[102, 114, 111, 109], ByteArray.mk #[106, 111, 105, 110], ByteArray.mk #[111, 110], ByteArray.mk #[119, 104, 101, 114, 101], ByteArray.mk #[103, 114, 111, 117, 112], ByteArray.mk #[98, 121], ByteArray.mk #[111, 114, 100, 101, 114], ByteArray.mk #[108, 105, 109, 105, 116], ByteArray.mk #[100, 101, 115, 99], ByteArray.mk #[105, 110, 115, 101, 114, 116], ByteArray.mk #[105, 110, 116, 111], ByteArray.mk #[118, 97, 108, 117, 101, 115], ByteArray.mk #[117, 112, 100, 97, 116, 101], ByteArray.mk #[115, 101, 116], ByteArray.mk #[100, 101, 108, 101, 116, 101], ByteArray.mk #[97, 110, 100], ByteArray.mk #[111, 114], ByteArray.mk #[110, 111, 116], ByteArray.mk #[105, 115], ByteArray.mk #[110, 117, 108, 108], ByteArray.mk #[116, 114, 117, 101], ByteArray.mk #[102, 97, 108, 115, 101], ByteArray.mk #[99, 111, 117, 110, 116], ByteArray.mk #[115, 117, 109], ByteArray.mk #[109, 105, 110], ByteArray.mk #[109, 97, 120], ByteArray.mk #[97, 115]] true)]] [])) = some (f209_g (Sp.f209)) := by
  unfold Sp.f209
  exact rfl
theorem e209_ok : Valid PP Γ e209 := valid_auto ok vnil fun a => (f209_raw ).trans (f209_form )

noncomputable def f194_L0 (n m0 : Nat) (y0 : ByteArray) (y1 : Int) : Option Res := loopAt Γ (orc [e208, e209]) n (143 : Nat) (0 : Nat) [] [Pth.r, Pth.r, Pth.l, Pth.r, Pth.b] m0 (St.mk (ZS Ty.str y0 :: Zn :: Zn :: ZS Zi y1 :: ZN 15 []) [])
theorem f194_L0_step (n m0 : Nat) (y0 : ByteArray) (y1 : Int) : f194_L0 n (m0 + 1) y0 y1 = bif decide (y1 < (28 : Int)) then chk (decide ((0 : Int) ≤ y1) && decide (y1 < (28 : Int))) (bif (Sp.f209.1.getD y1.toNat (ByteArray.mk #[])).toList == y0.toList then Zf else f194_L0 n m0 y0 (IntKind.i64.wrap (y1 + (1 : Int)))) else Zt := by kernel_rfl
theorem f194_raw (n : Nat) (x0 : ByteArray) : abody Γ (orc [e208, e209]) n 143 [ZX Ty.str x0] = bif !(Sp.f208 x0).1 then Zf else f194_L0 n n x0 (0 : Int) := by kernel_rfl

def Sp.isFreeS (t : ByteArray) : Bool := bif !(Sp.isName (strBytes t)) then false else Sp.allW (fun w : ByteArray => !(w.toList == t.toList)) Sp.f209.1
noncomputable def e194 : Ent := { f := n194, ins := [Sh.one cS], outs := [Sh.one cB], upd := [], pre := fun _ => true, spec := fun a => Sp.isFreeS a, wrt := fun _ => () }
theorem words_len : List.length Sp.f209.1 = 28 := rfl
theorem e194_core (t : ByteArray) : ∃ n, abody Γ (orc [e208, e209]) n n194 [ZX Ty.str t] = some (rBo (Sp.isFreeS t)) := by
  refine ⟨29, (f194_raw _ t).trans ?_⟩
  unfold Sp.isFreeS
  rw [condB]
  show (bif !(Sp.isName (strBytes t)) then _ else _) = _
  have st := fun m k => f194_L0_step 29 m t k
  have hl := words_len
  revert st hl
  generalize Sp.f209.1 = ws
  intro st hl
  cases Sp.isName (strBytes t) with
  | false => rfl
  | true =>
    have := all_loop (p := fun w : ByteArray => !(w.toList == t.toList)) (R := rBo) ws (fun m k => f194_L0 29 m t k) (fun m k hk => by
      show f194_L0 _ _ _ _ = _
      rw [st, decide_eq_false (show ¬ (k : Int) < 28 by omega), cond_false]) (fun m k h => by
      show f194_L0 _ _ _ _ = _
      have h' : k < 28 := by omega
      rw [st, decide_eq_true (show (k : Int) < 28 by omega), cond_true, guard0, chkT, getD_nat ws k _ h, next64 h' (by omega), Bool.not_not]) 28 0 29 (by omega) (by omega)
    rw [List.drop_zero] at this
    rw [Bool.not_true, cond_false, cond_false]
    exact this
theorem e194_ok : Valid PP Γ e194 := valid_of ok (vcons e208_ok (vcons e209_ok vnil)) fun a _ => e194_core a
def Sp.f1039 (x0 : Int) := (bif decide (x0 ≥ (97 : Int)) then (bif decide (x0 ≤ (122 : Int)) then (true, ()) else (bif decide (x0 ≥ (65 : Int)) then (bif decide (x0 ≤ (90 : Int)) then (true, ()) else (x0 == (95 : Int), ())) else (x0 == (95 : Int), ()))) else (bif decide (x0 ≥ (65 : Int)) then (bif decide (x0 ≤ (90 : Int)) then (true, ()) else (x0 == (95 : Int), ())) else (x0 == (95 : Int), ())))
noncomputable def e1039 : Ent := { f := 184, ins := [Sh.one (C0.dat (Ty.int IntKind.u8))], outs := [Sh.one (C0.dat Ty.bool)], upd := [], pre := fun a => true, spec := fun a => (Sp.f1039 a).1, wrt := fun a => (Sp.f1039 a).2 }
def f1039_g (v : denS [Sh.one (C0.dat Ty.bool)] × denS []) : Res := ⟨mkS [Sh.one (C0.dat Ty.bool)] v.1, mkU [] v.2⟩
theorem f1039_form (x0 : Int) : abody Γ (orc []) 0 184 [ZX (Ty.int IntKind.u8) x0] = some (f1039_g (Sp.f1039 x0)) := by
  refine Eq.trans (b := bif decide (x0 ≥ (97 : Int)) then bif decide (x0 ≤ (122 : Int)) then Zt else bif decide (x0 ≥ (65 : Int)) then bif decide (x0 ≤ (90 : Int)) then Zt else ZB (x0 == (95 : Int)) else ZB (x0 == (95 : Int)) else bif decide (x0 ≥ (65 : Int)) then bif decide (x0 ≤ (90 : Int)) then Zt else ZB (x0 == (95 : Int)) else ZB (x0 == (95 : Int))) (by kernel_rfl) ?_
  unfold Sp.f1039
  exact (cond_plain f1039_g ((cond_plain f1039_g (rfl) ((cond_plain f1039_g ((cond_plain f1039_g (rfl) (rfl))) (rfl))))) ((cond_plain f1039_g ((cond_plain f1039_g (rfl) (rfl))) (rfl))))
theorem e1039_ok : Valid PP Γ e1039 := valid_auto ok vnil fun a => f1039_form a

def Sp.f1040 (x0 : Int) := (bif decide (x0 ≥ (48 : Int)) then (decide (x0 ≤ (57 : Int)), ()) else (false, ()))
noncomputable def e1040 : Ent := { f := 185, ins := [Sh.one (C0.dat (Ty.int IntKind.u8))], outs := [Sh.one (C0.dat Ty.bool)], upd := [], pre := fun a => true, spec := fun a => (Sp.f1040 a).1, wrt := fun a => (Sp.f1040 a).2 }
def f1040_g (v : denS [Sh.one (C0.dat Ty.bool)] × denS []) : Res := ⟨mkS [Sh.one (C0.dat Ty.bool)] v.1, mkU [] v.2⟩
theorem f1040_form (x0 : Int) : abody Γ (orc []) 0 185 [ZX (Ty.int IntKind.u8) x0] = some (f1040_g (Sp.f1040 x0)) := by
  refine Eq.trans (b := bif decide (x0 ≥ (48 : Int)) then ZB (decide (x0 ≤ (57 : Int))) else Zf) (by kernel_rfl) ?_
  unfold Sp.f1040
  exact (cond_plain f1040_g (rfl) (rfl))
theorem e1040_ok : Valid PP Γ e1040 := valid_auto ok vnil fun a => f1040_form a

noncomputable def f1036_L0 (n m0 : Nat) (y0 : ByteArray) (y1 y2 : Int) : Option Res := loopAt Γ (orc [e1039, e1040, e70]) n (167 : Nat) (0 : Nat) [] [Pth.r, Pth.l, Pth.r, Pth.b] m0 (St.mk (ZS Ty.str y0 :: ZN 4 (ZS Zi y1 :: ZS Zi y2 :: ZN 22 [])) [])
theorem f1036_L0_step (n m0 : Nat) (y0 : ByteArray) (y1 y2 : Int) : f1036_L0 n (m0 + 1) y0 y1 y2 = bif decide (y2 < y1) then chk (decide ((0 : Int) ≤ y2) && decide (y2 < (↑y0.size : Int))) (bif !(Sp.f1039 ((strBytes y0).getD y2.toNat (0 : Int))).1 then bif y2 == (0 : Int) then Zf else chk (decide ((0 : Int) ≤ y2) && decide (y2 < (↑y0.size : Int))) (bif !(Sp.f1040 ((strBytes y0).getD y2.toNat (0 : Int))).1 then Zf else f1036_L0 n m0 y0 y1 (IntKind.i64.wrap (y2 + (1 : Int)))) else f1036_L0 n m0 y0 y1 (IntKind.i64.wrap (y2 + (1 : Int)))) else ZB (Sp.f70 (↑y0.size : Int) (1 : Int) (40 : Int)).1 := by kernel_rfl
theorem f1036_raw (n : Nat) (x0 : ByteArray) : abody Γ (orc [e1039, e1040, e70]) n 167 [ZX Ty.str x0] = f1036_L0 n n x0 (↑x0.size : Int) (0 : Int) := by kernel_rfl

theorem f1039_eq : Sp.f1039 = Sp.f217 := rfl
theorem f1040_eq : Sp.f1040 = Sp.f218 := rfl
noncomputable def e1036 : Ent := { f := n1036, ins := [Sh.one cS], outs := [Sh.one cB], upd := [], pre := fun a => Nat.ble (ByteArray.size a) 9223372036854775807, spec := fun a => Sp.isName (strBytes a), wrt := fun _ => () }
theorem f1036_step (n m : Nat) (t : ByteArray) (b : Int) (k : Nat) (h : k < t.size) (hb : (strBytes t).getD k 0 = b) (h0 : k ≠ 0) (hs : t.size ≤ 9223372036854775807) : f1036_L0 n (m + 1) t t.size k = bif !Sp.wordB b then some (rBo false) else f1036_L0 n m t t.size ((k + 1 : Nat) : Int) := by
  have e0 : ((k : Int) == 0) = false := by simp; omega
  rw [f1036_L0_step, nat_lt h, cond_true, guard0, chkT, chkT, next64 h hs, Int.toNat_natCast, hb, e0, f1039_eq, f1040_eq]
  unfold Sp.wordB
  cases (Sp.f217 b).1 <;> cases (Sp.f218 b).1 <;> rfl
theorem e1036_core (t : ByteArray) (hs : t.size ≤ 9223372036854775807) : ∃ n, abody Γ (orc [e1039, e1040, e70]) n n1036 [ZX Ty.str t] = some (rBo (Sp.isName (strBytes t))) := by
  have hl := strBytes_len t
  refine ⟨t.size + 1, (f1036_raw _ t).trans ?_⟩
  cases hb : strBytes t with
  | nil =>
    rw [hb] at hl
    have hl : 0 = t.size := hl
    rw [f1036_L0_step, ← hl]
    rfl
  | cons b r =>
    rw [hb, List.length_cons] at hl
    show _ = some (rBo (bif decide (r.length + 1 > 40) then false else bif !(Sp.f217 b).1 then false else Sp.allW Sp.wordB r))
    have hend : (Sp.f70 (t.size : Int) 1 40).1 = !decide (r.length + 1 > 40) := by
      show (bif decide ((t.size : Int) ≥ 1) then (decide ((t.size : Int) ≤ 40), ()) else (false, ())).1 = _
      rw [decide_eq_true (show (t.size : Int) ≥ 1 by omega), cond_true]
      by_cases hc : r.length + 1 > 40
      · rw [decide_eq_true hc]; exact decide_eq_false (by omega)
      · rw [decide_eq_false hc]; exact decide_eq_true (by omega)
    have lp2 : ∀ (d k m : Nat), 0 < k → k + d = r.length + 1 → d < m → f1036_L0 (t.size + 1) m t t.size k = some (bif Sp.allW Sp.wordB ((b :: r).drop k) then rBo (!decide (r.length + 1 > 40)) else rBo false) := by
      intro d
      induction d with
      | zero =>
        intro k m h0 hk hm
        obtain ⟨m, rfl⟩ := succ_of hm
        rw [f1036_L0_step, nat_ge (by omega), cond_false, hend, List.drop_of_length_le (by rw [List.length_cons]; omega)]
        rfl
      | succ d ih =>
        intro k m h0 hk hm
        obtain ⟨m, rfl⟩ := succ_of hm
        have hk2 : k < (b :: r).length := by rw [List.length_cons]; omega
        rw [f1036_step _ _ t (b :: r)[k] k (by omega) (by rw [hb, List.getD, List.getElem?_eq_getElem hk2, Option.getD_some]) (by omega) hs, ih (k + 1) m (by omega) (by omega) (by omega), List.drop_eq_getElem_cons hk2, Sp.allW]
        cases Sp.wordB (b :: r)[k] <;> rfl
    have h1 : (0 : Nat) < t.size := by omega
    have st := f1036_L0_step (t.size + 1) t.size t t.size 0
    rw [decide_eq_true (show (0 : Int) < (t.size : Int) by omega), decide_eq_true (show (0 : Int) ≤ 0 by omega), Bool.and_self, cond_true, chkT, chkT, wrap64 (n := 0 + 1) (by omega) (by omega), hb, show ((0 : Int) == 0) = true from rfl, cond_true, f1039_eq] at st
    have st : f1036_L0 (t.size + 1) (t.size + 1) t t.size 0 = bif !(Sp.f217 b).1 then some (rBo false) else f1036_L0 (t.size + 1) t.size t t.size ((0 + 1 : Nat) : Int) := st
    rw [st, lp2 r.length 1 t.size (by omega) (by omega) (by omega), condB, condB]
    show (bif !(Sp.f217 b).1 then _ else some (bif Sp.allW Sp.wordB r then _ else _)) = _
    cases decide (r.length + 1 > 40) <;> cases (Sp.f217 b).1 <;> cases Sp.allW Sp.wordB r <;> rfl
theorem e1036_ok : Valid PP Γ e1036 := valid_of ok (vcons e1039_ok (vcons e1040_ok (vcons e70_ok vnil))) fun a ha => e1036_core a (Nat.le_of_ble_eq_true ha)
def Sp.f1037 := (Sp.split (ByteArray.mk (([(115 : UInt8), (101 : UInt8), (108 : UInt8), (101 : UInt8), (99 : UInt8), (116 : UInt8), (32 : UInt8), (102 : UInt8), (114 : UInt8), (111 : UInt8), (109 : UInt8), (32 : UInt8), (106 : UInt8), (111 : UInt8), (105 : UInt8), (110 : UInt8), (32 : UInt8), (111 : UInt8), (110 : UInt8), (32 : UInt8), (119 : UInt8), (104 : UInt8), (101 : UInt8), (114 : UInt8), (101 : UInt8), (32 : UInt8), (103 : UInt8), (114 : UInt8), (111 : UInt8), (117 : UInt8), (112 : UInt8), (32 : UInt8), (98 : UInt8), (121 : UInt8)].append [(32 : UInt8), (111 : UInt8), (114 : UInt8), (100 : UInt8), (101 : UInt8), (114 : UInt8), (32 : UInt8), (108 : UInt8), (105 : UInt8), (109 : UInt8), (105 : UInt8), (116 : UInt8), (32 : UInt8), (100 : UInt8), (101 : UInt8), (115 : UInt8), (99 : UInt8), (32 : UInt8), (105 : UInt8), (110 : UInt8), (115 : UInt8), (101 : UInt8), (114 : UInt8), (116 : UInt8), (32 : UInt8), (105 : UInt8), (110 : UInt8), (116 : UInt8), (111 : UInt8), (32 : UInt8), (118 : UInt8), (97 : UInt8), (108 : UInt8), (117 : UInt8), (101 : UInt8)]).append ([(115 : UInt8), (32 : UInt8), (117 : UInt8), (112 : UInt8), (100 : UInt8), (97 : UInt8), (116 : UInt8), (101 : UInt8), (32 : UInt8), (115 : UInt8), (101 : UInt8), (116 : UInt8), (32 : UInt8), (100 : UInt8), (101 : UInt8), (108 : UInt8), (101 : UInt8), (116 : UInt8), (101 : UInt8), (32 : UInt8), (97 : UInt8), (110 : UInt8), (100 : UInt8), (32 : UInt8), (111 : UInt8), (114 : UInt8), (32 : UInt8), (110 : UInt8), (111 : UInt8), (116 : UInt8), (32 : UInt8), (105 : UInt8), (115 : UInt8), (32 : UInt8), (110 : UInt8)].append [(117 : UInt8), (108 : UInt8), (108 : UInt8), (32 : UInt8), (116 : UInt8), (114 : UInt8), (117 : UInt8), (101 : UInt8), (32 : UInt8), (102 : UInt8), (97 : UInt8), (108 : UInt8), (115 : UInt8), (101 : UInt8), (32 : UInt8), (99 : UInt8), (111 : UInt8), (117 : UInt8), (110 : UInt8), (116 : UInt8), (32 : UInt8), (115 : UInt8), (117 : UInt8), (109 : UInt8), (32 : UInt8), (109 : UInt8), (105 : UInt8), (110 : UInt8), (32 : UInt8), (109 : UInt8), (97 : UInt8), (120 : UInt8), (32 : UInt8), (97 : UInt8), (115 : UInt8)])).toArray) (ByteArray.mk #[32]), ())
noncomputable def e1037 : Ent := { f := 169, ins := [], outs := [Sh.one (C0.row Ty.str)], upd := [], pre := fun a => true, spec := fun a => (Sp.f1037).1, wrt := fun a => (Sp.f1037).2 }
def f1037_g (v : denS [Sh.one (C0.row Ty.str)] × denS []) : Res := ⟨mkS [Sh.one (C0.row Ty.str)] v.1, mkU [] v.2⟩
theorem f1037_raw : abody Γ (orc [e1041]) 0 169 [] = some (Res.mk [XV.mk false [X.c (X0.row Ty.str (Sp.split (ByteArray.mk (([(115 : UInt8), (101 : UInt8), (108 : UInt8), (101 : UInt8), (99 : UInt8), (116 : UInt8), (32 : UInt8), (102 : UInt8), (114 : UInt8), (111 : UInt8), (109 : UInt8), (32 : UInt8), (106 : UInt8), (111 : UInt8), (105 : UInt8), (110 : UInt8), (32 : UInt8), (111 : UInt8), (110 : UInt8), (32 : UInt8), (119 : UInt8), (104 : UInt8), (101 : UInt8), (114 : UInt8), (101 : UInt8), (32 : UInt8), (103 : UInt8), (114 : UInt8), (111 : UInt8), (117 : UInt8), (112 : UInt8), (32 : UInt8), (98 : UInt8), (121 : UInt8)].append [(32 : UInt8), (111 : UInt8), (114 : UInt8), (100 : UInt8), (101 : UInt8), (114 : UInt8), (32 : UInt8), (108 : UInt8), (105 : UInt8), (109 : UInt8), (105 : UInt8), (116 : UInt8), (32 : UInt8), (100 : UInt8), (101 : UInt8), (115 : UInt8), (99 : UInt8), (32 : UInt8), (105 : UInt8), (110 : UInt8), (115 : UInt8), (101 : UInt8), (114 : UInt8), (116 : UInt8), (32 : UInt8), (105 : UInt8), (110 : UInt8), (116 : UInt8), (111 : UInt8), (32 : UInt8), (118 : UInt8), (97 : UInt8), (108 : UInt8), (117 : UInt8), (101 : UInt8)]).append ([(115 : UInt8), (32 : UInt8), (117 : UInt8), (112 : UInt8), (100 : UInt8), (97 : UInt8), (116 : UInt8), (101 : UInt8), (32 : UInt8), (115 : UInt8), (101 : UInt8), (116 : UInt8), (32 : UInt8), (100 : UInt8), (101 : UInt8), (108 : UInt8), (101 : UInt8), (116 : UInt8), (101 : UInt8), (32 : UInt8), (97 : UInt8), (110 : UInt8), (100 : UInt8), (32 : UInt8), (111 : UInt8), (114 : UInt8), (32 : UInt8), (110 : UInt8), (111 : UInt8), (116 : UInt8), (32 : UInt8), (105 : UInt8), (115 : UInt8), (32 : UInt8), (110 : UInt8)].append [(117 : UInt8), (108 : UInt8), (108 : UInt8), (32 : UInt8), (116 : UInt8), (114 : UInt8), (117 : UInt8), (101 : UInt8), (32 : UInt8), (102 : UInt8), (97 : UInt8), (108 : UInt8), (115 : UInt8), (101 : UInt8), (32 : UInt8), (99 : UInt8), (111 : UInt8), (117 : UInt8), (110 : UInt8), (116 : UInt8), (32 : UInt8), (115 : UInt8), (117 : UInt8), (109 : UInt8), (32 : UInt8), (109 : UInt8), (105 : UInt8), (110 : UInt8), (32 : UInt8), (109 : UInt8), (97 : UInt8), (120 : UInt8), (32 : UInt8), (97 : UInt8), (115 : UInt8)])).toArray) (ByteArray.mk #[32])) true)]] []) := by kernel_rfl
theorem f1037_form : (some (Res.mk [XV.mk false [X.c (X0.row Ty.str (Sp.split (ByteArray.mk (([(115 : UInt8), (101 : UInt8), (108 : UInt8), (101 : UInt8), (99 : UInt8), (116 : UInt8), (32 : UInt8), (102 : UInt8), (114 : UInt8), (111 : UInt8), (109 : UInt8), (32 : UInt8), (106 : UInt8), (111 : UInt8), (105 : UInt8), (110 : UInt8), (32 : UInt8), (111 : UInt8), (110 : UInt8), (32 : UInt8), (119 : UInt8), (104 : UInt8), (101 : UInt8), (114 : UInt8), (101 : UInt8), (32 : UInt8), (103 : UInt8), (114 : UInt8), (111 : UInt8), (117 : UInt8), (112 : UInt8), (32 : UInt8), (98 : UInt8), (121 : UInt8)].append [(32 : UInt8), (111 : UInt8), (114 : UInt8), (100 : UInt8), (101 : UInt8), (114 : UInt8), (32 : UInt8), (108 : UInt8), (105 : UInt8), (109 : UInt8), (105 : UInt8), (116 : UInt8), (32 : UInt8), (100 : UInt8), (101 : UInt8), (115 : UInt8), (99 : UInt8), (32 : UInt8), (105 : UInt8), (110 : UInt8), (115 : UInt8), (101 : UInt8), (114 : UInt8), (116 : UInt8), (32 : UInt8), (105 : UInt8), (110 : UInt8), (116 : UInt8), (111 : UInt8), (32 : UInt8), (118 : UInt8), (97 : UInt8), (108 : UInt8), (117 : UInt8), (101 : UInt8)]).append ([(115 : UInt8), (32 : UInt8), (117 : UInt8), (112 : UInt8), (100 : UInt8), (97 : UInt8), (116 : UInt8), (101 : UInt8), (32 : UInt8), (115 : UInt8), (101 : UInt8), (116 : UInt8), (32 : UInt8), (100 : UInt8), (101 : UInt8), (108 : UInt8), (101 : UInt8), (116 : UInt8), (101 : UInt8), (32 : UInt8), (97 : UInt8), (110 : UInt8), (100 : UInt8), (32 : UInt8), (111 : UInt8), (114 : UInt8), (32 : UInt8), (110 : UInt8), (111 : UInt8), (116 : UInt8), (32 : UInt8), (105 : UInt8), (115 : UInt8), (32 : UInt8), (110 : UInt8)].append [(117 : UInt8), (108 : UInt8), (108 : UInt8), (32 : UInt8), (116 : UInt8), (114 : UInt8), (117 : UInt8), (101 : UInt8), (32 : UInt8), (102 : UInt8), (97 : UInt8), (108 : UInt8), (115 : UInt8), (101 : UInt8), (32 : UInt8), (99 : UInt8), (111 : UInt8), (117 : UInt8), (110 : UInt8), (116 : UInt8), (32 : UInt8), (115 : UInt8), (117 : UInt8), (109 : UInt8), (32 : UInt8), (109 : UInt8), (105 : UInt8), (110 : UInt8), (32 : UInt8), (109 : UInt8), (97 : UInt8), (120 : UInt8), (32 : UInt8), (97 : UInt8), (115 : UInt8)])).toArray) (ByteArray.mk #[32])) true)]] [])) = some (f1037_g (Sp.f1037)) := by
  unfold Sp.f1037
  exact rfl
theorem e1037_ok : Valid PP Γ e1037 := valid_auto ok (vcons e1041_ok vnil) fun a => (f1037_raw ).trans (f1037_form )

noncomputable def f156_L0 (n m0 : Nat) (y0 : List ByteArray) (y1 : ByteArray) (y2 y3 : Int) : Option Res := loopAt Γ (orc []) n (186 : Nat) (0 : Nat) [] [Pth.r, Pth.l, Pth.r, Pth.b] m0 (St.mk (ZS Ty.str.slice y0 :: ZS Ty.str y1 :: ZN 5 (ZS Zi y2 :: ZS Zi y3 :: ZN 10 [])) [])
theorem f156_L0_step (n m0 : Nat) (y0 : List ByteArray) (y1 : ByteArray) (y2 y3 : Int) : f156_L0 n (m0 + 1) y0 y1 y2 y3 = bif decide (y3 < y2) then chk (decide ((0 : Int) ≤ y3) && decide (y3 < (↑y0.length : Int))) (bif y1.toList == (y0.getD y3.toNat (ByteArray.mk #[])).toList then ZJ y3 else f156_L0 n m0 y0 y1 y2 (IntKind.i64.wrap (y3 + (1 : Int)))) else ZJ (-1 : Int) := by kernel_rfl
theorem f156_raw (n : Nat) (x0 : List ByteArray) (x1 : ByteArray) : abody Γ (orc []) n 186 [ZX Ty.str.slice x0, ZX Ty.str x1] = f156_L0 n n x0 x1 (↑x0.length : Int) (0 : Int) := by kernel_rfl

def Sp.sameS (t w : ByteArray) : Bool := t.toList == w.toList
noncomputable def e156 : Ent := { f := n156, ins := [Sh.one (cL .str), Sh.one cS], outs := [Sh.one cI], upd := [], pre := fun _ => true, spec := fun a => Sp.idx (Sp.sameS a.2) a.1 0, wrt := fun _ => () }
theorem e156_core (xs : List ByteArray) (t : ByteArray) (hl : xs.length ≤ maxLen) : ∃ n, abody Γ (orc []) n n156 [ZX (Ty.slice .str) xs, ZX Ty.str t] = some (rI (Sp.idx (Sp.sameS t) xs 0)) := by
  have hl : xs.length ≤ 9223372036854775807 := hl
  refine ⟨xs.length + 1, (f156_raw _ xs t).trans ?_⟩
  refine idx_loop (p := Sp.sameS t) (R := rI) xs (fun m k => f156_L0 (xs.length + 1) m xs t xs.length k) (fun m k hk => ?_) (fun m k h => ?_) xs.length 0 _ (Nat.zero_add _) (Nat.lt_succ_self _)
  · show f156_L0 _ _ _ _ _ _ = _
    rw [f156_L0_step, nat_ge hk, cond_false]
  · show f156_L0 _ _ _ _ _ _ = _
    rw [f156_L0_step, nat_lt h, cond_true, guard0, chkT, getD_nat xs k _ h, next64 h hl]
    rfl
theorem e156_ok : Valid PP Γ e156 := valid_len ok vnil fun a _ hl => e156_core a.1 a.2 (hl _ (List.mem_cons_self) _ (List.mem_cons_self)).1
def Sp.f1031 (x0 : List ByteArray) (x1 : ByteArray) := (decide (Sp.idx (Sp.sameS x1) x0 (0 : Int) ≥ (0 : Int)), ())
noncomputable def e1031 : Ent := { f := 168, ins := [Sh.one (C0.dat Ty.str.slice), Sh.one (C0.dat Ty.str)], outs := [Sh.one (C0.dat Ty.bool)], upd := [], pre := fun a => true, spec := fun a => (Sp.f1031 a.1 a.2).1, wrt := fun a => (Sp.f1031 a.1 a.2).2 }
def f1031_g (v : denS [Sh.one (C0.dat Ty.bool)] × denS []) : Res := ⟨mkS [Sh.one (C0.dat Ty.bool)] v.1, mkU [] v.2⟩
theorem f1031_form (x0 : List ByteArray) (x1 : ByteArray) : abody Γ (orc [e156]) 0 168 [ZX Ty.str.slice x0, ZX Ty.str x1] = some (f1031_g (Sp.f1031 x0 x1)) := by
  refine Eq.trans (b := ZB (decide (Sp.idx (Sp.sameS x1) x0 (0 : Int) ≥ (0 : Int)))) (by kernel_rfl) ?_
  unfold Sp.f1031
  exact rfl
theorem e1031_ok : Valid PP Γ e1031 := valid_auto ok (vcons e156_ok vnil) fun a => f1031_form a.1 a.2

end Go.Proofs.GR.T

namespace Go.Proofs.GR.T
open Go Go.Proofs Go.Proofs.GR
def Sp.anyW {α : Type} (p : α → Bool) : List α → Bool
  | [] => false
  | x :: r => bif p x then true else Sp.anyW p r
theorem idx_any {α : Type} (p : α → Bool) : ∀ (xs : List α) (k : Int), 0 ≤ k → decide (Sp.idx p xs k ≥ 0) = Sp.anyW p xs
  | [], k, _ => rfl
  | x :: r, k, h => by
    rw [Sp.idx, Sp.anyW]
    cases p x with
    | true => exact decide_eq_true h
    | false => exact idx_any p r (k + 1) (by omega)
theorem anyW_all {α : Type} (p : α → Bool) : ∀ xs : List α, Sp.anyW p xs = !Sp.allW (fun x => !p x) xs
  | [] => rfl
  | x :: r => by rw [Sp.anyW, Sp.allW, anyW_all p r]; cases p x <;> rfl
theorem reserved_eq : Sp.f1037.1 = Sp.f209.1 := by kernel_rfl
end Go.Proofs.GR.T

set_option maxRecDepth 100000
set_option maxHeartbeats 100000000
namespace Go.Proofs.GR.T
open Go Go.Proofs Go.Proofs.GR
def Sp.predL (l : Int) : Int := IntKind.i64.wrap (l - 1)
mutual
def Sp.deepT : RT → Int → Bool
  | .mk _ ks, l => bif l == 0 then true else Sp.deepTs ks l
def Sp.deepTs : List RT → Int → Bool
  | [], _ => false
  | r :: k, l => bif Sp.deepT r (Sp.predL l) then true else Sp.deepTs k l
end
def Sp.m4 (k : Nat) (l : List RT) : Nat := 4 * Sp.rszs l + k
def Sp.m1 (k : Nat) (l : List RT) : Nat := 4 * Sp.rsz1 l + k
mutual
def Sp.cntT : RT → Nat
  | .mk _ ks => 1 + Sp.cntTs ks
def Sp.cntTs : List RT → Nat
  | [] => 0
  | r :: l => Sp.cntT r + Sp.cntTs l
end
def Sp.succL (l : Int) : Int := IntKind.i64.wrap (l + 1)
mutual
def Sp.leftT : RT → Int → Int → Int
  | .mk _ ks, l, d => bif decide (d > 20) then -1 else Sp.leftTs ks (Sp.predL l) d
def Sp.leftTs : List RT → Int → Int → Int
  | [], l, _ => l
  | r :: k, l, d => bif decide (l ≥ 0) then Sp.leftTs k (Sp.leftT r l (Sp.succL d)) d else l
end
end Go.Proofs.GR.T

set_option maxRecDepth 100000
set_option maxHeartbeats 100000000
namespace Go.Proofs.GR.T
open Go Go.Proofs Go.Proofs.GR
end Go.Proofs.GR.T

set_option maxRecDepth 100000
set_option maxHeartbeats 100000000
namespace Go.Proofs.GR.T
open Go Go.Proofs Go.Proofs.GR
def Sp.f1029_pre (x0 : ByteArray) : Bool := (x0.size.ble (9223372036854775807 : Nat))
def Sp.f1029 (x0 : ByteArray) := (bif Sp.isName (strBytes x0) then (!(Sp.f1031 Sp.f1037.1 x0).1, ()) else (false, ()))
noncomputable def e1029 : Ent := { f := 148, ins := [Sh.one (C0.dat Ty.str)], outs := [Sh.one (C0.dat Ty.bool)], upd := [], pre := fun a => Sp.f1029_pre a, spec := fun a => (Sp.f1029 a).1, wrt := fun a => (Sp.f1029 a).2 }
def f1029_g (v : denS [Sh.one (C0.dat Ty.bool)] × denS []) : Res := ⟨mkS [Sh.one (C0.dat Ty.bool)] v.1, mkU [] v.2⟩
theorem f1029_form (x0 : ByteArray) : abody Γ (orc [e1036, e1037, e1031]) 0 148 [ZX Ty.str x0] = chk (Sp.f1029_pre x0) (some (f1029_g (Sp.f1029 x0))) := by
  refine Eq.trans (b := chk (x0.size.ble (9223372036854775807 : Nat)) (bif Sp.isName (strBytes x0) then some (Res.mk [XV.mk false [X.c (X0.dat Ty.bool !(Sp.f1031 Sp.f1037.1 x0).1)]] []) else Zf)) (by kernel_rfl) ?_
  unfold Sp.f1029_pre Sp.f1029
  exact (chk_last ((cond_plain f1029_g (rfl) (rfl))))
theorem e1029_ok : Valid PP Γ e1029 := valid_auto ok (vcons e1036_ok (vcons e1037_ok (vcons e1031_ok vnil))) fun a => f1029_form a

end Go.Proofs.GR.T

