/-
  No statement is proved here: what the functions of the law answer, told as plain functions, and that the law's answer is always true.
  No condition.
-/
import Derived.Test.YtpljgmackfjkdaaQBurstt
import Derived.Shelf.Strconv.Clone
import Derived.Shelf.Strings.Split
import Derived.KernelRfl
set_option maxHeartbeats 100000000
namespace Go.Proofs.GR.T
open Go Go.Proofs Go.Proofs.GR
abbrev Zf : Option Res := some (Res.mk [XV.mk false [X.c (X0.dat Ty.bool false)]] [])
abbrev Zt : Option Res := some (Res.mk [XV.mk false [X.c (X0.dat Ty.bool true)]] [])
abbrev Zi : Ty := Ty.int IntKind.i64
abbrev Zn : Slot := Slot.nix
abbrev ZX (t : Ty) (v : t.den) : XV := XV.mk false [X.c (X0.dat t v)]
abbrev ZC (t : Ty) (v : t.den) : X := X.c (X0.dat t v)
abbrev ZS (t : Ty) (v : t.den) : Slot := Slot.val (Val.one (Cell.dat t v))
abbrev ZI : C0 := C0.dat (Ty.int IntKind.i64)
def ZN : Nat → List Slot → List Slot
  | 0, l => l
  | n + 1, l => Slot.nix :: ZN n l
abbrev ZB (b : Bool) : Option Res := some (Res.mk [XV.mk false [X.c (X0.dat Ty.bool b)]] [])
abbrev ZJ (n : Int) : Option Res := some (Res.mk [XV.mk false [X.c (X0.dat (Ty.int IntKind.i64) n)]] [])
end Go.Proofs.GR.T
namespace Go.Proofs.GR.T
abbrev n0 : Nat := 0
abbrev n1 : Nat := 1
abbrev n2 : Nat := 2
abbrev n12 : Nat := 4
abbrev n95 : Nat := 45
abbrev n96 : Nat := 46
abbrev n97 : Nat := 47
abbrev n98 : Nat := 48
abbrev n77 : Nat := 51
abbrev n138 : Nat := 78
abbrev n140 : Nat := 80
abbrev n92 : Nat := 81
abbrev n141 : Nat := 82
abbrev n88 : Nat := 83
abbrev n142 : Nat := 84
abbrev n143 : Nat := 85
abbrev n146 : Nat := 88
abbrev n147 : Nat := 89
abbrev n120 : Nat := 91
abbrev n118 : Nat := 94
abbrev n122 : Nat := 95
abbrev n172 : Nat := 114
abbrev n173 : Nat := 115
abbrev n137 : Nat := 121
abbrev n177 : Nat := 123
abbrev n164 : Nat := 124
abbrev n194 : Nat := 136
abbrev n195 : Nat := 137
abbrev n196 : Nat := 138
abbrev n197 : Nat := 139
abbrev n210 : Nat := 146
abbrev n214 : Nat := 147
abbrev t0 : Nat := 0
abbrev t1 : Nat := 1
abbrev t2 : Nat := 2
abbrev t3 : Nat := 3
abbrev t4 : Nat := 4
abbrev t5 : Nat := 5
abbrev t6 : Nat := 6
abbrev t7 : Nat := 7
abbrev t9 : Nat := 9
abbrev t80 : Nat := 22
abbrev t82 : Nat := 42
abbrev t84 : Nat := 43
abbrev t86 : Nat := 46
abbrev t179 : Nat := 86
abbrev t169 : Nat := 113
abbrev g1 : Nat := 0
end Go.Proofs.GR.T

namespace Go.Proofs.GR.T
noncomputable abbrev PP : Program := Try.prog
abbrev tB : Ty := .int .u8
abbrev cI : C0 := .dat (.int .i64)
abbrev cB : C0 := .dat .bool
abbrev cS : C0 := .dat .str
abbrev cL (t : Ty) : C0 := .dat (.slice t)
end Go.Proofs.GR.T


namespace Go.Proofs.GR.T
open Go Go.Proofs Go.Proofs.GR
end Go.Proofs.GR.T

set_option maxRecDepth 100000
set_option maxHeartbeats 100000000
namespace Go.Proofs.GR.T
open Go Go.Proofs Go.Proofs.GR
def Sp.idx {α : Type} (p : α → Bool) : List α → Int → Int
  | [], _ => -1
  | x :: r, i => bif p x then i else Sp.idx p r (i + 1)
end Go.Proofs.GR.T

namespace Go.Proofs.GR.T
open Go Go.Proofs Go.Proofs.GR

end Go.Proofs.GR.T

namespace Go.Proofs.GR.T
open Go Go.Proofs Go.Proofs.GR
namespace Sp
def bit (r : Nat) : Nat := if r % 2 = 1 then (r / 2) ^^^ 3988292384 else r / 2
def bits : Nat → Nat → Nat
  | 0, r => r
  | n + 1, r => bits n (bit r)
def crc (r : Nat) : List Int → Nat
  | [] => r
  | x :: l => crc (bits 8 (r ^^^ x.toNat)) l
def sum (xs : List Int) : Int := ((crc 4294967295 xs) ^^^ 4294967295 : Nat)
def isBytes (xs : List Int) : Bool := xs.all fun x => decide (0 ≤ x) && decide (x < 256)
def eqL {α : Type} [DecidableEq α] (xs ys : List α) : Bool := decide (xs = ys)
def fits {α : Type} (xs : List α) : Bool := decide (xs.length ≤ 140737488355328)
end Sp
theorem chkT {ρ : Type} (k : Option ρ) : chk true k = k := rfl
theorem eqL_self {α : Type} [DecidableEq α] (xs : List α) : Sp.eqL xs xs = true := decide_eq_true rfl
theorem eqL_of {α : Type} [DecidableEq α] {xs ys : List α} (h : Sp.eqL xs ys = true) : xs = ys := of_decide_eq_true h
theorem bit_lt {r : Nat} (h : r < 2 ^ 32) : Sp.bit r < 2 ^ 32 := by
  unfold Sp.bit
  split
  · exact Nat.xor_lt_two_pow (by omega) (by omega)
  · omega
theorem bits_lt : ∀ (n : Nat) {r : Nat}, r < 2 ^ 32 → Sp.bits n r < 2 ^ 32
  | 0, _, h => h
  | n + 1, _, h => bits_lt n (bit_lt h)
theorem ofInt_toNat (w n : Nat) : (BitVec.ofInt w (n : Int)).toNat = n % 2 ^ w := by
  simp
theorem xor32 {a b : Nat} (ha : a < 2 ^ 32) (hb : b < 2 ^ 32) : IntKind.u32.wrap (((BitVec.ofInt 32 (a : Int) ^^^ BitVec.ofInt 32 (b : Int)).toNat : Nat) : Int) = ((a ^^^ b : Nat) : Int) := by
  rw [BitVec.toNat_xor, ofInt_toNat, ofInt_toNat, Nat.mod_eq_of_lt ha, Nat.mod_eq_of_lt hb]
  have : a ^^^ b < 2 ^ 32 := Nat.xor_lt_two_pow ha hb
  simp only [IntKind.wrap, IntKind.signed, IntKind.bits]
  simp
  omega
theorem xor64 {a b : Nat} (ha : a < 2 ^ 32) (hb : b < 2 ^ 32) : IntKind.i64.wrap (((BitVec.ofInt 64 (a : Int) ^^^ BitVec.ofInt 64 (b : Int)).toNat : Nat) : Int) = ((a ^^^ b : Nat) : Int) := by
  rw [BitVec.toNat_xor, ofInt_toNat, ofInt_toNat, Nat.mod_eq_of_lt (by omega), Nat.mod_eq_of_lt (by omega)]
  have : a ^^^ b < 2 ^ 32 := Nat.xor_lt_two_pow ha hb
  rw [wrap64 (by omega) (by omega)]
theorem and32 {a : Nat} (ha : a < 2 ^ 32) : IntKind.u32.wrap (((BitVec.ofInt 32 (a : Int) &&& BitVec.ofInt 32 (1 : Int)).toNat : Nat) : Int) = ((a % 2 : Nat) : Int) := by
  rw [BitVec.toNat_and, ofInt_toNat, Nat.mod_eq_of_lt ha]
  have h1 : (BitVec.ofInt 32 (1 : Int)).toNat = 1 := rfl
  rw [h1, Nat.and_one_is_mod]
  simp only [IntKind.wrap, IntKind.signed, IntKind.bits]
  simp
  omega
theorem wrap32 {n : Int} (h1 : 0 ≤ n) (h2 : n < 4294967296) : IntKind.u32.wrap n = n := by
  simp only [IntKind.wrap, IntKind.signed, IntKind.bits]
  simp
  omega
theorem wrapu64 {n : Int} (h1 : 0 ≤ n) (h2 : n < 18446744073709551616) : IntKind.u64.wrap n = n := by
  simp only [IntKind.wrap, IntKind.signed, IntKind.bits]
  simp
  omega
theorem wrap8 (n : Int) : IntKind.u8.wrap n = n % 256 := by
  simp only [IntKind.wrap, IntKind.signed, IntKind.bits]
  simp
theorem isBytes_cons {x : Int} {r : List Int} : Sp.isBytes (x :: r) = true ↔ (0 ≤ x ∧ x < 256) ∧ Sp.isBytes r = true := by
  simp [Sp.isBytes, List.all_cons]
theorem isBytes_mem {xs : List Int} (h : Sp.isBytes xs = true) {x : Int} (hx : x ∈ xs) : 0 ≤ x ∧ x < 256 := by
  have := List.all_eq_true.1 h x hx
  simpa using this
theorem isBytes_of {xs : List Int} (h : ∀ x ∈ xs, 0 ≤ x ∧ x < 256) : Sp.isBytes xs = true := by
  refine List.all_eq_true.2 fun x hx => ?_
  simpa using h x hx
theorem isBytes_append {xs ys : List Int} (h1 : Sp.isBytes xs = true) (h2 : Sp.isBytes ys = true) : Sp.isBytes (xs ++ ys) = true :=
  isBytes_of fun x hx => by
    rcases List.mem_append.1 hx with h | h
    · exact isBytes_mem h1 h
    · exact isBytes_mem h2 h
theorem wrap8_byte (n : Int) : 0 ≤ IntKind.u8.wrap n ∧ IntKind.u8.wrap n < 256 := by rw [wrap8]; omega
theorem strBytes_len (s : ByteArray) : (strBytes s).length = s.size := by unfold strBytes; rw [List.length_map, Array.length_toList]; rfl
theorem strBytes_bytes (s : ByteArray) : Sp.isBytes (strBytes s) = true := isBytes_of fun x hx => by
  simp only [strBytes, List.mem_map] at hx
  obtain ⟨b, _, rfl⟩ := hx
  have := b.toNat_lt
  omega
theorem strBytes_append (s t : ByteArray) : strBytes (s ++ t) = strBytes s ++ strBytes t := by
  simp [strBytes]
theorem strBytes_bytesStr {xs : List Int} (h : Sp.isBytes xs = true) : strBytes (bytesStr xs) = xs := by
  simp only [strBytes, bytesStr, List.map_map]
  conv => rhs; rw [← List.map_id xs]
  refine List.map_congr_left fun x hx => ?_
  have := isBytes_mem h hx
  simp only [Function.comp, id, UInt8.toNat_ofNat']
  omega
theorem bytesStr_strBytes (s : ByteArray) : bytesStr (strBytes s) = s := by
  have : (strBytes s).map (fun n => UInt8.ofNat n.toNat) = s.data.toList := by
    simp only [strBytes, List.map_map]
    conv => rhs; rw [← List.map_id s.data.toList]
    refine List.map_congr_left fun x _ => ?_
    simp
  unfold bytesStr
  rw [this]
theorem bytesStr_size (xs : List Int) : (bytesStr xs).size = xs.length := by
  show ((xs.map fun n => UInt8.ofNat n.toNat).toArray).size = _
  rw [List.size_toArray, List.length_map]
end Go.Proofs.GR.T

set_option maxRecDepth 100000
set_option maxHeartbeats 100000000
namespace Go.Proofs.GR.T
open Go Go.Proofs Go.Proofs.GR
abbrev rB (xs : List Int) : Res := Res.mk [XV.mk false [X.c (X0.row (Ty.int IntKind.u8) xs true)]] []
abbrev rI (n : Int) : Res := Res.mk [ZX Zi n] []
abbrev rBo (b : Bool) : Res := Res.mk [ZX Ty.bool b] []
theorem succ_of {d m : Nat} (h : d < m) : ∃ q, m = q + 1 := ⟨m - 1, by omega⟩
def Sp.f116 (x0 : Int) := ([IntKind.u8.wrap (x0.fdiv (16777216 : Int)), IntKind.u8.wrap (x0.fdiv (65536 : Int)), IntKind.u8.wrap (x0.fdiv (256 : Int)), IntKind.u8.wrap x0], ())
noncomputable def e116 : Ent := { f := 92, ins := [Sh.one ZI], outs := [Sh.one (C0.row (Ty.int IntKind.u8))], upd := [], pre := fun a => true, spec := fun a => (Sp.f116 a).1, wrt := fun a => (Sp.f116 a).2 }
def f116_g (v : denS [Sh.one (C0.row (Ty.int IntKind.u8))] × denS []) : Res := ⟨mkS [Sh.one (C0.row (Ty.int IntKind.u8))] v.1, mkU [] v.2⟩
theorem f116_form (x0 : Int) : abody Γ (orc []) 0 92 [ZX Zi x0] = some (f116_g (Sp.f116 x0)) := by
  refine Eq.trans (b := some (Res.mk [XV.mk false [X.c (X0.row (Ty.int IntKind.u8) [IntKind.u8.wrap (x0.fdiv (16777216 : Int)), IntKind.u8.wrap (x0.fdiv (65536 : Int)), IntKind.u8.wrap (x0.fdiv (256 : Int)), IntKind.u8.wrap x0] true)]] [])) (by kernel_rfl) ?_
  unfold Sp.f116
  exact rfl
theorem e116_ok : Valid PP Γ e116 := valid_auto ok vnil fun a => f116_form a

def Sp.f117 (x0 : Int) := ([IntKind.u8.wrap x0, IntKind.u8.wrap (x0.fdiv (256 : Int)), IntKind.u8.wrap (x0.fdiv (65536 : Int)), IntKind.u8.wrap (x0.fdiv (16777216 : Int))], ())
noncomputable def e117 : Ent := { f := 93, ins := [Sh.one ZI], outs := [Sh.one (C0.row (Ty.int IntKind.u8))], upd := [], pre := fun a => true, spec := fun a => (Sp.f117 a).1, wrt := fun a => (Sp.f117 a).2 }
def f117_g (v : denS [Sh.one (C0.row (Ty.int IntKind.u8))] × denS []) : Res := ⟨mkS [Sh.one (C0.row (Ty.int IntKind.u8))] v.1, mkU [] v.2⟩
theorem f117_form (x0 : Int) : abody Γ (orc []) 0 93 [ZX Zi x0] = some (f117_g (Sp.f117 x0)) := by
  refine Eq.trans (b := some (Res.mk [XV.mk false [X.c (X0.row (Ty.int IntKind.u8) [IntKind.u8.wrap x0, IntKind.u8.wrap (x0.fdiv (256 : Int)), IntKind.u8.wrap (x0.fdiv (65536 : Int)), IntKind.u8.wrap (x0.fdiv (16777216 : Int))] true)]] [])) (by kernel_rfl) ?_
  unfold Sp.f117
  exact rfl
theorem e117_ok : Valid PP Γ e117 := valid_auto ok vnil fun a => f117_form a

end Go.Proofs.GR.T

set_option maxRecDepth 100000
set_option maxHeartbeats 100000000
namespace Go.Proofs.GR.T
open Go Go.Proofs Go.Proofs.GR
noncomputable def f164_L0 (n m0 : Nat) (y0 y1 y2 y3 : Int) (y4 : List Int) : Option Res := loopAt Γ (orc []) n (124 : Nat) (0 : Nat) [] [Pth.r, Pth.r, Pth.l, Pth.r, Pth.b] m0 (St.mk (ZS (Ty.int IntKind.u64) y0 :: ZS Zi y1 :: ZN 3 (Slot.val (Val.one (Cell.own (0 : Nat))) :: ZN 4 (ZS Zi y2 :: ZS Zi y3 :: ZN 15 []))) [AObj.row (Ty.int IntKind.u8) y4 true])
theorem f164_L0_step (n m0 : Nat) (y0 y1 y2 y3 : Int) (y4 : List Int) : f164_L0 n (m0 + 1) y0 y1 y2 y3 y4 = bif decide (y3 < y2) then chk (decide ((0 : Int) ≤ IntKind.i64.wrap ((8 : Int) * IntKind.i64.wrap (IntKind.i64.wrap (y1 - (1 : Int)) - y3)))) (chk (decide ((0 : Int) ≤ y3) && decide (y3 < (↑y4.length : Int))) (f164_L0 n m0 y0 y1 y2 (IntKind.i64.wrap (y3 + (1 : Int))) (y4.set y3.toNat (IntKind.u8.wrap (y0.fdiv ((2 : Int) ^ min (IntKind.i64.wrap ((8 : Int) * IntKind.i64.wrap (IntKind.i64.wrap (y1 - (1 : Int)) - y3))).toNat (64 : Nat))))))) else some (Res.mk [XV.mk false [X.c (X0.row (Ty.int IntKind.u8) y4 true)]] []) := by kernel_rfl
theorem f164_raw (n : Nat) (x0 x1 : Int) : abody Γ (orc []) n 124 [ZX (Ty.int IntKind.u64) x0, ZX Zi x1] = chk (decide ((0 : Int) ≤ x1) && decide (x1 ≤ x1) && decide (x1 ≤ (140737488355328 : Int)) && decide ((1 : Int) * x1 ≤ (140737488355328 : Int))) (f164_L0 n n x0 x1 (↑(List.replicate x1.toNat (0 : Int)).length : Int) (0 : Int) (List.replicate x1.toNat (0 : Int))) := by kernel_rfl

def Sp.highAt (n : Int) (c i : Nat) : Int := IntKind.u8.wrap (n.fdiv ((2 : Int) ^ min (8 * (c - 1 - i)) 64))
def Sp.highN (n : Int) (c : Nat) : List Int := (List.range' 0 c).map (Sp.highAt n c)
def Sp.high (n c : Int) : List Int := Sp.highN n c.toNat
def Sp.few (c : Int) : Bool := match c with
  | .ofNat n => decide (n ≤ 1048576)
  | .negSucc _ => false
theorem few_of {c : Int} (h : Sp.few c = true) : 0 ≤ c ∧ c ≤ 1048576 := by
  cases c with
  | ofNat n =>
    have h1 : n ≤ 1048576 := of_decide_eq_true h
    exact ⟨Int.natCast_nonneg n, by show (n : Int) ≤ 1048576; omega⟩
  | negSucc n => cases h
noncomputable def e164 : Ent := { f := n164, ins := [Sh.one (C0.dat (Ty.int IntKind.u64)), Sh.one cI], outs := [Sh.one (C0.row tB)], upd := [], pre := fun a => Sp.few a.2, spec := fun a => Sp.high a.1 a.2, wrt := fun _ => () }
theorem f164_loop (n : Nat) (x : Int) (c : Nat) (hc : (c : Int) ≤ 1048576) : ∀ (d k m : Nat) (acc : List Int), k + d = c → acc.length = c → d < m →
    f164_L0 n m x (↑c : Int) (↑c : Int) (↑k : Int) acc = some (rB (acc.take k ++ (List.range' k d).map (Sp.highAt x c))) := by
  intro d
  induction d with
  | zero =>
    intro k m acc hk ha hm
    obtain ⟨m, rfl⟩ := succ_of hm
    rw [f164_L0_step, decide_eq_false (by omega), List.take_of_length_le (by omega)]
    simp
  | succ d ih =>
    intro k m acc hk ha hm
    obtain ⟨m, rfl⟩ := succ_of hm
    have hlt : k < acc.length := by omega
    have w1 : IntKind.i64.wrap ((c : Int) - 1) = ((c - 1 : Nat) : Int) := by rw [wrap64 (by omega) (by omega)]; omega
    have w2 : IntKind.i64.wrap (((c - 1 : Nat) : Int) - (k : Int)) = ((c - 1 - k : Nat) : Int) := by rw [wrap64 (by omega) (by omega)]; omega
    have w3 : IntKind.i64.wrap (8 * ((c - 1 - k : Nat) : Int)) = ((8 * (c - 1 - k) : Nat) : Int) := by rw [wrap64 (by omega) (by omega)]; omega
    rw [f164_L0_step, w1, w2, w3, decide_eq_true (show (k : Int) < c by omega), decide_eq_true (show (0 : Int) ≤ ((8 * (c - 1 - k) : Nat) : Int) by omega), decide_eq_true (show (0 : Int) ≤ k by omega), decide_eq_true (show (k : Int) < acc.length by omega), wrap64 (n := (k : Int) + 1) (by omega) (by omega)]
    simp only [cond_true, Bool.and_self, chkT, Int.toNat_natCast]
    refine (ih (k + 1) m (acc.set k (IntKind.u8.wrap (x.fdiv ((2 : Int) ^ min (8 * (c - 1 - k)) 64)))) (by omega) (by simpa using ha) (by omega)).trans ?_
    have e : ∀ v : Int, (acc.set k v).take (k + 1) = acc.take k ++ [v] := by
      intro v
      rw [List.take_set, List.take_succ_eq_append_getElem (by omega)]
      rw [List.set_append_right _ _ (by simp; omega)]
      simp [Nat.min_eq_left (show k ≤ acc.length by omega)]
    rw [e, List.append_assoc, List.range'_succ]
    rfl
theorem f164_full (x : Int) (k : Nat) (h2 : (k : Int) ≤ 1048576) : f164_L0 (k + 1) (k + 1) x (↑k : Int) (↑k : Int) (0 : Int) (List.replicate k 0) = some (rB (Sp.highN x k)) := by
  have := f164_loop (k + 1) x k h2 k 0 (k + 1) (List.replicate k 0) (Nat.zero_add _) (List.length_replicate) (Nat.lt_succ_self _)
  rw [List.take_zero, List.nil_append, Int.natCast_zero] at this
  exact this
theorem e164_nat (x : Int) (k : Nat) (h2 : (k : Int) ≤ 1048576) : abody Γ (orc []) (k + 1) n164 [ZX (Ty.int IntKind.u64) x, ZX Zi (k : Int)] = some (rB (Sp.highN x k)) := by
  have e1 : (decide ((0 : Int) ≤ (k : Int)) && decide ((k : Int) ≤ (k : Int)) && decide ((k : Int) ≤ (140737488355328 : Int)) && decide ((1 : Int) * (k : Int) ≤ (140737488355328 : Int))) = true := by
    simp
    omega
  have e2 : (k : Int).toNat = k := Int.toNat_natCast k
  refine (f164_raw _ x (k : Int)).trans ?_
  rw [e1, chkT, e2, List.length_replicate]
  exact f164_full x k h2
theorem e164_core (x c : Int) (ha : Sp.few c = true) : ∃ n, abody Γ (orc []) n n164 [ZX (Ty.int IntKind.u64) x, ZX Zi c] = some (rB (Sp.high x c)) := by
  obtain ⟨h1, h2⟩ := few_of ha
  have e : c = (c.toNat : Int) := by omega
  have := e164_nat x c.toNat (by omega)
  rw [← e] at this
  exact ⟨c.toNat + 1, this⟩
theorem e164_ok : Valid PP Γ e164 := valid_of ok vnil fun a ha => e164_core a.1 a.2 ha
noncomputable def f118_L0 (n m0 : Nat) (y0 : List Int) (y1 y2 : Int) : Option Res := loopAt Γ (orc []) n (94 : Nat) (0 : Nat) [] [Pth.r, Pth.r, Pth.l, Pth.r, Pth.b] m0 (St.mk (ZS (Ty.int IntKind.u8).slice y0 :: Zn :: Zn :: ZS Zi y1 :: ZS Zi y2 :: ZN 28 []) [])
noncomputable def f118_L1 (n m0 m1 : Nat) (y0 : List Int) (y1 y2 y3 : Int) : Option Res := loopAt Γ (orc []) n (94 : Nat) (0 : Nat) [] [Pth.r, Pth.r, Pth.l, Pth.r, Pth.b, Pth.p m0, Pth.r, Pth.l, Pth.b, Pth.r, Pth.r, Pth.b] m1 (St.mk (ZS (Ty.int IntKind.u8).slice y0 :: Zn :: Zn :: ZS Zi y1 :: ZS Zi y2 :: ZS Zi y3 :: ZN 27 []) [])
theorem f118_L0_step (n m0 : Nat) (y0 : List Int) (y1 y2 : Int) : f118_L0 n (m0 + 1) y0 y1 y2 = bif decide (y2 < (↑y0.length : Int)) then chk (decide ((0 : Int) ≤ y2) && decide (y2 < (↑y0.length : Int))) (f118_L1 n m0 n y0 (IntKind.i64.wrap (↑(BitVec.ofInt (64 : Nat) y1 ^^^ BitVec.ofInt (64 : Nat) (IntKind.i64.wrap (y0.getD y2.toNat (0 : Int)))).toNat : Int)) y2 (0 : Int)) else ZJ (IntKind.i64.wrap (↑(BitVec.ofInt (64 : Nat) y1 ^^^ BitVec.ofInt (64 : Nat) (4294967295 : Int)).toNat : Int)) := by kernel_rfl
theorem f118_L1_step (n m0 m1 : Nat) (y0 : List Int) (y1 y2 y3 : Int) : f118_L1 n m0 (m1 + 1) y0 y1 y2 y3 = bif decide (y3 < (8 : Int)) then bif y1.tmod (2 : Int) == (1 : Int) then f118_L1 n m0 m1 y0 (IntKind.i64.wrap (↑(BitVec.ofInt (64 : Nat) (IntKind.i64.wrap (y1.tdiv (2 : Int))) ^^^ BitVec.ofInt (64 : Nat) (3988292384 : Int)).toNat : Int)) y2 (IntKind.i64.wrap (y3 + (1 : Int))) else f118_L1 n m0 m1 y0 (IntKind.i64.wrap (y1.tdiv (2 : Int))) y2 (IntKind.i64.wrap (y3 + (1 : Int))) else f118_L0 n m0 y0 y1 (IntKind.i64.wrap (y2 + (1 : Int))) := by kernel_rfl
theorem f118_raw (n : Nat) (x0 : List Int) : abody Γ (orc []) n 94 [ZX (Ty.int IntKind.u8).slice x0] = f118_L0 n n x0 (4294967295 : Int) (0 : Int) := by kernel_rfl

noncomputable def e118 : Ent := { f := n118, ins := [Sh.one (cL tB)], outs := [Sh.one cI], upd := [], pre := fun a => Sp.isBytes a, spec := fun a => Sp.sum a, wrt := fun _ => () }
theorem f118_bits (n m0 : Nat) (xs : List Int) (i : Int) : ∀ (d k m r : Nat), k + d = 8 → d < m → r < 2 ^ 32 →
    f118_L1 n m0 m xs (↑r : Int) i (↑k : Int) = f118_L0 n m0 xs (↑(Sp.bits d r) : Int) (IntKind.i64.wrap (i + 1)) := by
  intro d
  induction d with
  | zero =>
    intro k m r hk hm hr
    obtain ⟨m, rfl⟩ := succ_of hm
    rw [f118_L1_step, decide_eq_false (by omega)]
    rfl
  | succ d ih =>
    intro k m r hk hm hr
    obtain ⟨m, rfl⟩ := succ_of hm
    have e1 : ((r : Int).tmod 2 == 1) = decide (r % 2 = 1) := by
      rw [Int.tmod_eq_emod_of_nonneg (by omega)]
      by_cases h : r % 2 = 1
      · rw [decide_eq_true h]; simp; omega
      · rw [decide_eq_false h]; simp; omega
    have e2 : IntKind.i64.wrap ((r : Int).tdiv 2) = ((r / 2 : Nat) : Int) := by
      rw [Int.tdiv_eq_ediv_of_nonneg (by omega), wrap64 (by omega) (by omega)]; omega
    have e3 : IntKind.i64.wrap (((BitVec.ofInt 64 ((r / 2 : Nat) : Int) ^^^ BitVec.ofInt 64 (3988292384 : Int)).toNat : Nat) : Int) = ((r / 2 ^^^ 3988292384 : Nat) : Int) := xor64 (b := 3988292384) (by omega) (by omega)
    rw [f118_L1_step, decide_eq_true (show (k : Int) < 8 by omega), e1, e2, e3, wrap64 (n := (k : Int) + 1) (by omega) (by omega)]
    simp only [cond_true, Sp.bits]
    by_cases h : r % 2 = 1
    · have hb : Sp.bit r = r / 2 ^^^ 3988292384 := by unfold Sp.bit; rw [if_pos h]
      rw [decide_eq_true h, ← hb]
      simp only [cond_true]
      exact ih (k + 1) m (Sp.bit r) (by omega) (by omega) (bit_lt hr)
    · have hb : Sp.bit r = r / 2 := by unfold Sp.bit; rw [if_neg h]
      rw [decide_eq_false h, ← hb]
      simp only [cond_false]
      exact ih (k + 1) m (Sp.bit r) (by omega) (by omega) (bit_lt hr)
theorem f118_loop (n : Nat) (hn : 8 < n) (xs : List Int) (hl : xs.length ≤ maxLen) (hb : Sp.isBytes xs = true) : ∀ (d k m r : Nat), k + d = xs.length → d < m → r < 2 ^ 32 →
    f118_L0 n m xs (↑r : Int) (↑k : Int) = some (rI ((Sp.crc r (xs.drop k) ^^^ 4294967295 : Nat) : Int)) := by
  have hm : (xs.length : Nat) ≤ 9223372036854775807 := hl
  intro d
  induction d with
  | zero =>
    intro k m r hk hm hr
    obtain ⟨m, rfl⟩ := succ_of hm
    have e3 : IntKind.i64.wrap (((BitVec.ofInt 64 ((r : Nat) : Int) ^^^ BitVec.ofInt 64 (4294967295 : Int)).toNat : Nat) : Int) = ((r ^^^ 4294967295 : Nat) : Int) := xor64 (b := 4294967295) (by omega) (by omega)
    rw [f118_L0_step, decide_eq_false (by omega), List.drop_of_length_le (by omega), e3]
    rfl
  | succ d ih =>
    intro k m r hk hm hr
    obtain ⟨m, rfl⟩ := succ_of hm
    have hlt : k < xs.length := by omega
    obtain ⟨b1, b2⟩ := isBytes_mem hb (List.getElem_mem hlt)
    have e1 : IntKind.i64.wrap xs[k] = ((xs[k].toNat : Nat) : Int) := by rw [wrap64 (by omega) (by omega)]; omega
    have e3 : IntKind.i64.wrap (((BitVec.ofInt 64 ((r : Nat) : Int) ^^^ BitVec.ofInt 64 ((xs[k].toNat : Nat) : Int)).toNat : Nat) : Int) = ((r ^^^ xs[k].toNat : Nat) : Int) := xor64 (by omega) (by omega)
    have hx : r ^^^ xs[k].toNat < 2 ^ 32 := Nat.xor_lt_two_pow hr (by omega)
    have e0 : xs.getD (k : Int).toNat 0 = xs[k] := by rw [Int.toNat_natCast, List.getD, List.getElem?_eq_getElem hlt, Option.getD_some]
    rw [f118_L0_step, decide_eq_true (show (k : Int) < xs.length by omega), decide_eq_true (show (0 : Int) ≤ k by omega), List.drop_eq_getElem_cons hlt, e0, e1, e3, Bool.and_self, chkT, cond_true]
    have hbits := f118_bits n m xs k 8 0 n (r ^^^ xs[k].toNat) rfl hn hx
    rw [wrap64 (by omega) (by omega)] at hbits
    refine Eq.trans hbits ?_
    exact ih (k + 1) m _ (by omega) (by omega) (bits_lt 8 hx)
theorem e118_core (xs : List Int) (hb : Sp.isBytes xs = true) (hl : xs.length ≤ maxLen) : ∃ n, abody Γ (orc []) n n118 [ZX (Ty.int IntKind.u8).slice xs] = some (rI (Sp.sum xs)) :=
  ⟨xs.length + 9, (f118_raw _ xs).trans (f118_loop _ (by omega) xs hl hb xs.length 0 _ 4294967295 (Nat.zero_add _) (by omega) (by omega))⟩
theorem e118_ok : Valid PP Γ e118 := valid_len ok vnil fun a ha hl => e118_core a ha (hl _ (List.mem_cons_self) _ (List.mem_cons_self)).1
noncomputable def f120_L0 (n m0 : Nat) (y0 : ByteArray) (y1 y2 y3 : Int) : Option Res := loopAt Γ (orc []) n (91 : Nat) (0 : Nat) [] [Pth.r, Pth.r, Pth.l, Pth.r, Pth.b] m0 (St.mk (ZS Ty.str y0 :: Zn :: Zn :: ZS (Ty.int IntKind.u32) y1 :: ZN 3 (ZS Zi y2 :: ZS Zi y3 :: ZN 23 [])) [])
noncomputable def f120_L1 (n m0 m1 : Nat) (y0 : ByteArray) (y1 y2 y3 y4 : Int) : Option Res := loopAt Γ (orc []) n (91 : Nat) (0 : Nat) [] [Pth.r, Pth.r, Pth.l, Pth.r, Pth.b, Pth.p m0, Pth.r, Pth.r, Pth.l, Pth.b, Pth.r, Pth.r, Pth.r, Pth.b] m1 (St.mk (ZS Ty.str y0 :: Zn :: Zn :: ZS (Ty.int IntKind.u32) y1 :: ZN 3 (ZS Zi y2 :: ZS Zi y3 :: ZN 8 (ZS Zi y4 :: ZN 14 []))) [])
theorem f120_L0_step (n m0 : Nat) (y0 : ByteArray) (y1 y2 y3 : Int) : f120_L0 n (m0 + 1) y0 y1 y2 y3 = bif decide (y3 < y2) then chk (decide ((0 : Int) ≤ y3) && decide (y3 < (↑y0.size : Int))) (f120_L1 n m0 n y0 (IntKind.u32.wrap (↑(BitVec.ofInt (32 : Nat) y1 ^^^ BitVec.ofInt (32 : Nat) (IntKind.u32.wrap ((strBytes y0).getD y3.toNat (0 : Int)))).toNat : Int)) y2 y3 (0 : Int)) else ZJ (IntKind.i64.wrap (IntKind.u32.wrap (↑(BitVec.ofInt (32 : Nat) (4294967295 : Int) ^^^ BitVec.ofInt (32 : Nat) y1).toNat : Int))) := by kernel_rfl
theorem f120_L1_step (n m0 m1 : Nat) (y0 : ByteArray) (y1 y2 y3 y4 : Int) : f120_L1 n m0 (m1 + 1) y0 y1 y2 y3 y4 = bif decide (y4 < (8 : Int)) then bif IntKind.u32.wrap (↑(BitVec.ofInt (32 : Nat) y1 &&& BitVec.ofInt (32 : Nat) (1 : Int)).toNat : Int) == (1 : Int) then f120_L1 n m0 m1 y0 (IntKind.u32.wrap (↑(BitVec.ofInt (32 : Nat) (y1.fdiv (2 : Int)) ^^^ BitVec.ofInt (32 : Nat) (3988292384 : Int)).toNat : Int)) y2 y3 (IntKind.i64.wrap (y4 + (1 : Int))) else f120_L1 n m0 m1 y0 (y1.fdiv (2 : Int)) y2 y3 (IntKind.i64.wrap (y4 + (1 : Int))) else f120_L0 n m0 y0 y1 y2 (IntKind.i64.wrap (y3 + (1 : Int))) := by kernel_rfl
theorem f120_raw (n : Nat) (x0 : ByteArray) : abody Γ (orc []) n 91 [ZX Ty.str x0] = f120_L0 n n x0 (4294967295 : Int) (↑x0.size : Int) (0 : Int) := by kernel_rfl

def Sp.shortS (s : ByteArray) : Bool := decide (s.size ≤ 9223372036854775807)
theorem short_of {s : ByteArray} (h : Sp.shortS s = true) : (s.size : Int) ≤ 9223372036854775807 := by
  have h1 : s.size ≤ 9223372036854775807 := of_decide_eq_true h
  omega
noncomputable def e120 : Ent := { f := n120, ins := [Sh.one cS], outs := [Sh.one cI], upd := [], pre := fun a => Sp.shortS a, spec := fun a => Sp.sum (strBytes a), wrt := fun _ => () }
theorem f120_bits (n m0 : Nat) (xs : ByteArray) (l i : Int) : ∀ (d k m r : Nat), k + d = 8 → d < m → r < 2 ^ 32 →
    f120_L1 n m0 m xs (↑r : Int) l i (↑k : Int) = f120_L0 n m0 xs (↑(Sp.bits d r) : Int) l (IntKind.i64.wrap (i + 1)) := by
  intro d
  induction d with
  | zero =>
    intro k m r hk hm hr
    obtain ⟨m, rfl⟩ := succ_of hm
    rw [f120_L1_step, decide_eq_false (by omega)]
    rfl
  | succ d ih =>
    intro k m r hk hm hr
    obtain ⟨m, rfl⟩ := succ_of hm
    have e1 : (((r % 2 : Nat) : Int) == 1) = decide (r % 2 = 1) := by
      by_cases h : r % 2 = 1
      · rw [decide_eq_true h]; simp; omega
      · rw [decide_eq_false h]; simp; omega
    have e2 : ((r : Int).fdiv 2) = ((r / 2 : Nat) : Int) := by
      rw [Int.fdiv_eq_ediv_of_nonneg _ (by omega)]; omega
    have e3 : IntKind.u32.wrap (((BitVec.ofInt 32 ((r / 2 : Nat) : Int) ^^^ BitVec.ofInt 32 (3988292384 : Int)).toNat : Nat) : Int) = ((r / 2 ^^^ 3988292384 : Nat) : Int) := xor32 (b := 3988292384) (by omega) (by omega)
    rw [f120_L1_step, decide_eq_true (show (k : Int) < 8 by omega), and32 hr, e1, e2, e3, wrap64 (n := (k : Int) + 1) (by omega) (by omega)]
    simp only [cond_true, Sp.bits]
    by_cases h : r % 2 = 1
    · have hb : Sp.bit r = r / 2 ^^^ 3988292384 := by unfold Sp.bit; rw [if_pos h]
      rw [decide_eq_true h, ← hb]
      simp only [cond_true]
      exact ih (k + 1) m (Sp.bit r) (by omega) (by omega) (bit_lt hr)
    · have hb : Sp.bit r = r / 2 := by unfold Sp.bit; rw [if_neg h]
      rw [decide_eq_false h, ← hb]
      simp only [cond_false]
      exact ih (k + 1) m (Sp.bit r) (by omega) (by omega) (bit_lt hr)
theorem f120_loop (n : Nat) (hn : 8 < n) (s : ByteArray) (hl : (s.size : Int) ≤ 9223372036854775807) : ∀ (d k m r : Nat), k + d = s.size → d < m → r < 2 ^ 32 →
    f120_L0 n m s (↑r : Int) (↑s.size : Int) (↑k : Int) = some (rI ((Sp.crc r ((strBytes s).drop k) ^^^ 4294967295 : Nat) : Int)) := by
  intro d
  induction d with
  | zero =>
    intro k m r hk hm hr
    obtain ⟨m, rfl⟩ := succ_of hm
    have e3 : IntKind.u32.wrap (((BitVec.ofInt 32 (4294967295 : Int) ^^^ BitVec.ofInt 32 ((r : Nat) : Int)).toNat : Nat) : Int) = ((4294967295 ^^^ r : Nat) : Int) := xor32 (a := 4294967295) (by omega) (by omega)
    have hx : 4294967295 ^^^ r < 2 ^ 32 := Nat.xor_lt_two_pow (by omega) (by omega)
    rw [f120_L0_step, decide_eq_false (by omega), List.drop_of_length_le (by rw [strBytes_len]; omega), e3, wrap64 (by omega) (by omega), Nat.xor_comm]
    rfl
  | succ d ih =>
    intro k m r hk hm hr
    obtain ⟨m, rfl⟩ := succ_of hm
    have hlt : k < (strBytes s).length := by rw [strBytes_len]; omega
    obtain ⟨b1, b2⟩ := isBytes_mem (strBytes_bytes s) (List.getElem_mem hlt)
    have e1 : IntKind.u32.wrap (strBytes s)[k] = (((strBytes s)[k].toNat : Nat) : Int) := by rw [wrap32 (by omega) (by omega)]; omega
    have e3 : IntKind.u32.wrap (((BitVec.ofInt 32 ((r : Nat) : Int) ^^^ BitVec.ofInt 32 (((strBytes s)[k].toNat : Nat) : Int)).toNat : Nat) : Int) = ((r ^^^ (strBytes s)[k].toNat : Nat) : Int) := xor32 (by omega) (by omega)
    have hx : r ^^^ (strBytes s)[k].toNat < 2 ^ 32 := Nat.xor_lt_two_pow hr (by omega)
    have e0 : (strBytes s).getD (k : Int).toNat 0 = (strBytes s)[k] := by rw [Int.toNat_natCast, List.getD, List.getElem?_eq_getElem hlt, Option.getD_some]
    rw [f120_L0_step, decide_eq_true (show (k : Int) < s.size by omega), decide_eq_true (show (0 : Int) ≤ k by omega), List.drop_eq_getElem_cons hlt, e0, e1, e3, Bool.and_self, chkT, cond_true]
    have hbits := f120_bits n m s s.size k 8 0 n (r ^^^ (strBytes s)[k].toNat) rfl hn hx
    rw [wrap64 (by omega) (by omega)] at hbits
    refine Eq.trans hbits ?_
    exact ih (k + 1) m _ (by omega) (by omega) (bits_lt 8 hx)
theorem e120_core (s : ByteArray) (hb : Sp.shortS s = true) : ∃ n, abody Γ (orc []) n n120 [ZX Ty.str s] = some (rI (Sp.sum (strBytes s))) :=
  ⟨s.size + 9, (f120_raw _ s).trans (f120_loop _ (by omega) s (short_of hb) s.size 0 _ 4294967295 (Nat.zero_add _) (by omega) (by omega))⟩
theorem e120_ok : Valid PP Γ e120 := valid_of ok vnil fun a ha => e120_core a ha
def Sp.f119_pre (x0 : Int) : Bool := (Sp.few (4 : Int))
def Sp.f119 (x0 : Int) := (bytesStr (Sp.high (IntKind.u64.wrap (IntKind.u32.wrap x0)) (4 : Int)), ())
noncomputable def e119 : Ent := { f := 90, ins := [Sh.one ZI], outs := [Sh.one (C0.dat Ty.str)], upd := [], pre := fun a => Sp.f119_pre a, spec := fun a => (Sp.f119 a).1, wrt := fun a => (Sp.f119 a).2 }
def f119_g (v : denS [Sh.one (C0.dat Ty.str)] × denS []) : Res := ⟨mkS [Sh.one (C0.dat Ty.str)] v.1, mkU [] v.2⟩
theorem f119_form (x0 : Int) : abody Γ (orc [e164]) 0 90 [ZX Zi x0] = chk (Sp.f119_pre x0) (some (f119_g (Sp.f119 x0))) := by
  refine Eq.trans (b := chk (Sp.few (4 : Int)) (some (Res.mk [ZX Ty.str (bytesStr (Sp.high (IntKind.u64.wrap (IntKind.u32.wrap x0)) (4 : Int)))] []))) (by kernel_rfl) ?_
  unfold Sp.f119_pre Sp.f119
  exact (chk_last (rfl))
theorem e119_ok : Valid PP Γ e119 := valid_auto ok (vcons e164_ok vnil) fun a => f119_form a

def Sp.f71_pre (x0 : List Int) : Bool := (decide (((2 : Nat) + (Sp.f116 (↑x0.length : Int)).1.length) * (1 : Nat) ≤ (140737488355328 : Nat)) && (decide ((([(66 : Int), (75 : Int)] ++ (Sp.f116 (↑x0.length : Int)).1).length + x0.length) * (1 : Nat) ≤ (140737488355328 : Nat)) && (Sp.isBytes ([(66 : Int), (75 : Int)] ++ (Sp.f116 (↑x0.length : Int)).1 ++ x0) && (decide ((([(66 : Int), (75 : Int)] ++ (Sp.f116 (↑x0.length : Int)).1 ++ x0).length + (Sp.f117 (Sp.sum ([(66 : Int), (75 : Int)] ++ (Sp.f116 (↑x0.length : Int)).1 ++ x0))).1.length) * (1 : Nat) ≤ (140737488355328 : Nat))))))
def Sp.f71 (x0 : List Int) := ([(66 : Int), (75 : Int)] ++ (Sp.f116 (↑x0.length : Int)).1 ++ x0 ++ (Sp.f117 (Sp.sum ([(66 : Int), (75 : Int)] ++ (Sp.f116 (↑x0.length : Int)).1 ++ x0))).1, ())
noncomputable def e71 : Ent := { f := 50, ins := [Sh.one (C0.dat (Ty.int IntKind.u8).slice)], outs := [Sh.one (C0.row (Ty.int IntKind.u8))], upd := [], pre := fun a => Sp.f71_pre a, spec := fun a => (Sp.f71 a).1, wrt := fun a => (Sp.f71 a).2 }
def f71_g (v : denS [Sh.one (C0.row (Ty.int IntKind.u8))] × denS []) : Res := ⟨mkS [Sh.one (C0.row (Ty.int IntKind.u8))] v.1, mkU [] v.2⟩
theorem f71_form (x0 : List Int) : abody Γ (orc [e116, e118, e117]) 0 50 [ZX (Ty.int IntKind.u8).slice x0] = chk (Sp.f71_pre x0) (some (f71_g (Sp.f71 x0))) := by
  refine Eq.trans (b := chk (decide (((2 : Nat) + (Sp.f116 (↑x0.length : Int)).1.length) * (1 : Nat) ≤ (140737488355328 : Nat))) (chk (decide ((([(66 : Int), (75 : Int)] ++ (Sp.f116 (↑x0.length : Int)).1).length + x0.length) * (1 : Nat) ≤ (140737488355328 : Nat))) (chk (Sp.isBytes ([(66 : Int), (75 : Int)] ++ (Sp.f116 (↑x0.length : Int)).1 ++ x0)) (chk (decide ((([(66 : Int), (75 : Int)] ++ (Sp.f116 (↑x0.length : Int)).1 ++ x0).length + (Sp.f117 (Sp.sum ([(66 : Int), (75 : Int)] ++ (Sp.f116 (↑x0.length : Int)).1 ++ x0))).1.length) * (1 : Nat) ≤ (140737488355328 : Nat))) (some (Res.mk [XV.mk false [X.c (X0.row (Ty.int IntKind.u8) ([(66 : Int), (75 : Int)] ++ (Sp.f116 (↑x0.length : Int)).1 ++ x0 ++ (Sp.f117 (Sp.sum ([(66 : Int), (75 : Int)] ++ (Sp.f116 (↑x0.length : Int)).1 ++ x0))).1) true)]] [])))))) (by kernel_rfl) ?_
  unfold Sp.f71_pre Sp.f71
  exact (chk_step ((chk_step ((chk_step ((chk_last (rfl))))))))
theorem e71_ok : Valid PP Γ e71 := valid_auto ok (vcons e116_ok (vcons e118_ok (vcons e117_ok vnil))) fun a => f71_form a

def Sp.f72_pre (x0 : List Int) : Bool := (Sp.f119_pre (↑x0.length : Int) && (decide ((2 : Nat) + (Sp.f119 (↑x0.length : Int)).1.size ≤ (9223372036854775807 : Nat)) && (decide ((ByteArray.mk #[66, 75] ++ (Sp.f119 (↑x0.length : Int)).1).size ≤ (9223372036854775807 : Nat)) && (decide (((strBytes (ByteArray.mk #[66, 75] ++ (Sp.f119 (↑x0.length : Int)).1)).length + x0.length) * (1 : Nat) ≤ (140737488355328 : Nat)) && (Sp.shortS (bytesStr (strBytes (ByteArray.mk #[66, 75] ++ (Sp.f119 (↑x0.length : Int)).1) ++ x0)) && (decide (((strBytes (ByteArray.mk #[66, 75] ++ (Sp.f119 (↑x0.length : Int)).1) ++ x0).length + [IntKind.u8.wrap (IntKind.u32.wrap (Sp.sum (strBytes (bytesStr (strBytes (ByteArray.mk #[66, 75] ++ (Sp.f119 (↑x0.length : Int)).1) ++ x0))))), IntKind.u8.wrap ((IntKind.u32.wrap (Sp.sum (strBytes (bytesStr (strBytes (ByteArray.mk #[66, 75] ++ (Sp.f119 (↑x0.length : Int)).1) ++ x0))))).fdiv (256 : Int)), IntKind.u8.wrap ((IntKind.u32.wrap (Sp.sum (strBytes (bytesStr (strBytes (ByteArray.mk #[66, 75] ++ (Sp.f119 (↑x0.length : Int)).1) ++ x0))))).fdiv (65536 : Int)), IntKind.u8.wrap ((IntKind.u32.wrap (Sp.sum (strBytes (bytesStr (strBytes (ByteArray.mk #[66, 75] ++ (Sp.f119 (↑x0.length : Int)).1) ++ x0))))).fdiv (16777216 : Int))].length) * (1 : Nat) ≤ (140737488355328 : Nat))))))))
def Sp.f72 (x0 : List Int) := (strBytes (ByteArray.mk #[66, 75] ++ (Sp.f119 (↑x0.length : Int)).1) ++ x0 ++ [IntKind.u8.wrap (IntKind.u32.wrap (Sp.sum (strBytes (bytesStr (strBytes (ByteArray.mk #[66, 75] ++ (Sp.f119 (↑x0.length : Int)).1) ++ x0))))), IntKind.u8.wrap ((IntKind.u32.wrap (Sp.sum (strBytes (bytesStr (strBytes (ByteArray.mk #[66, 75] ++ (Sp.f119 (↑x0.length : Int)).1) ++ x0))))).fdiv (256 : Int)), IntKind.u8.wrap ((IntKind.u32.wrap (Sp.sum (strBytes (bytesStr (strBytes (ByteArray.mk #[66, 75] ++ (Sp.f119 (↑x0.length : Int)).1) ++ x0))))).fdiv (65536 : Int)), IntKind.u8.wrap ((IntKind.u32.wrap (Sp.sum (strBytes (bytesStr (strBytes (ByteArray.mk #[66, 75] ++ (Sp.f119 (↑x0.length : Int)).1) ++ x0))))).fdiv (16777216 : Int))], ())
noncomputable def e72 : Ent := { f := 49, ins := [Sh.one (C0.dat (Ty.int IntKind.u8).slice)], outs := [Sh.one (C0.row (Ty.int IntKind.u8))], upd := [], pre := fun a => Sp.f72_pre a, spec := fun a => (Sp.f72 a).1, wrt := fun a => (Sp.f72 a).2 }
def f72_g (v : denS [Sh.one (C0.row (Ty.int IntKind.u8))] × denS []) : Res := ⟨mkS [Sh.one (C0.row (Ty.int IntKind.u8))] v.1, mkU [] v.2⟩
theorem f72_form (x0 : List Int) : abody Γ (orc [e119, e120]) 0 49 [ZX (Ty.int IntKind.u8).slice x0] = chk (Sp.f72_pre x0) (some (f72_g (Sp.f72 x0))) := by
  refine Eq.trans (b := chk (Sp.f119_pre (↑x0.length : Int)) (chk (decide ((2 : Nat) + (Sp.f119 (↑x0.length : Int)).1.size ≤ (9223372036854775807 : Nat))) (chk (decide ((ByteArray.mk #[66, 75] ++ (Sp.f119 (↑x0.length : Int)).1).size ≤ (9223372036854775807 : Nat))) (chk (decide (((strBytes (ByteArray.mk #[66, 75] ++ (Sp.f119 (↑x0.length : Int)).1)).length + x0.length) * (1 : Nat) ≤ (140737488355328 : Nat))) (chk (Sp.shortS (bytesStr (strBytes (ByteArray.mk #[66, 75] ++ (Sp.f119 (↑x0.length : Int)).1) ++ x0))) (chk (decide (((strBytes (ByteArray.mk #[66, 75] ++ (Sp.f119 (↑x0.length : Int)).1) ++ x0).length + [IntKind.u8.wrap (IntKind.u32.wrap (Sp.sum (strBytes (bytesStr (strBytes (ByteArray.mk #[66, 75] ++ (Sp.f119 (↑x0.length : Int)).1) ++ x0))))), IntKind.u8.wrap ((IntKind.u32.wrap (Sp.sum (strBytes (bytesStr (strBytes (ByteArray.mk #[66, 75] ++ (Sp.f119 (↑x0.length : Int)).1) ++ x0))))).fdiv (256 : Int)), IntKind.u8.wrap ((IntKind.u32.wrap (Sp.sum (strBytes (bytesStr (strBytes (ByteArray.mk #[66, 75] ++ (Sp.f119 (↑x0.length : Int)).1) ++ x0))))).fdiv (65536 : Int)), IntKind.u8.wrap ((IntKind.u32.wrap (Sp.sum (strBytes (bytesStr (strBytes (ByteArray.mk #[66, 75] ++ (Sp.f119 (↑x0.length : Int)).1) ++ x0))))).fdiv (16777216 : Int))].length) * (1 : Nat) ≤ (140737488355328 : Nat))) (some (Res.mk [XV.mk false [X.c (X0.row (Ty.int IntKind.u8) (strBytes (ByteArray.mk #[66, 75] ++ (Sp.f119 (↑x0.length : Int)).1) ++ x0 ++ [IntKind.u8.wrap (IntKind.u32.wrap (Sp.sum (strBytes (bytesStr (strBytes (ByteArray.mk #[66, 75] ++ (Sp.f119 (↑x0.length : Int)).1) ++ x0))))), IntKind.u8.wrap ((IntKind.u32.wrap (Sp.sum (strBytes (bytesStr (strBytes (ByteArray.mk #[66, 75] ++ (Sp.f119 (↑x0.length : Int)).1) ++ x0))))).fdiv (256 : Int)), IntKind.u8.wrap ((IntKind.u32.wrap (Sp.sum (strBytes (bytesStr (strBytes (ByteArray.mk #[66, 75] ++ (Sp.f119 (↑x0.length : Int)).1) ++ x0))))).fdiv (65536 : Int)), IntKind.u8.wrap ((IntKind.u32.wrap (Sp.sum (strBytes (bytesStr (strBytes (ByteArray.mk #[66, 75] ++ (Sp.f119 (↑x0.length : Int)).1) ++ x0))))).fdiv (16777216 : Int))]) true)]] [])))))))) (by kernel_rfl) ?_
  unfold Sp.f72_pre Sp.f72
  exact (chk_step ((chk_step ((chk_step ((chk_step ((chk_step ((chk_last (rfl))))))))))))
theorem e72_ok : Valid PP Γ e72 := valid_auto ok (vcons e119_ok (vcons e120_ok vnil)) fun a => f72_form a

def Sp.f21_pre (x0 : List Int) : Bool := (bif decide ((↑x0.length : Int) > (65526 : Int)) then true else (Sp.f71_pre x0))
def Sp.f21 (x0 : List Int) := (bif decide ((↑x0.length : Int) > (65526 : Int)) then (([], (2 : Int)), ()) else (((Sp.f71 x0).1, (0 : Int)), ()))
noncomputable def e21 : Ent := { f := 14, ins := [Sh.one (C0.dat (Ty.int IntKind.u8).slice)], outs := [Sh.one (C0.row (Ty.int IntKind.u8)), Sh.one ZI], upd := [], pre := fun a => Sp.f21_pre a, spec := fun a => (Sp.f21 a).1, wrt := fun a => (Sp.f21 a).2 }
def f21_g (v : denS [Sh.one (C0.row (Ty.int IntKind.u8)), Sh.one ZI] × denS []) : Res := ⟨mkS [Sh.one (C0.row (Ty.int IntKind.u8)), Sh.one ZI] v.1, mkU [] v.2⟩
theorem f21_form (x0 : List Int) : abody Γ (orc [e71]) 0 14 [ZX (Ty.int IntKind.u8).slice x0] = chk (Sp.f21_pre x0) (some (f21_g (Sp.f21 x0))) := by
  refine Eq.trans (b := bif decide ((↑x0.length : Int) > (65526 : Int)) then some (Res.mk [XV.mk false [X.c (X0.row (Ty.int IntKind.u8) [] true)], ZX Zi (2 : Int)] []) else chk (Sp.f71_pre x0) (some (Res.mk [XV.mk false [X.c (X0.row (Ty.int IntKind.u8) (Sp.f71 x0).1 true)], ZX Zi (0 : Int)] []))) (by kernel_rfl) ?_
  unfold Sp.f21_pre Sp.f21
  exact (cond_step f21_g ((lift_plain (rfl))) ((chk_last (rfl))))
theorem e21_ok : Valid PP Γ e21 := valid_auto ok (vcons e71_ok vnil) fun a => f21_form a

def Sp.f23_pre (x0 : List Int) : Bool := (bif decide ((↑x0.length : Int) > (65526 : Int)) then true else (Sp.f72_pre x0))
def Sp.f23 (x0 : List Int) := (bif decide ((↑x0.length : Int) > (65526 : Int)) then (([], (2 : Int)), ()) else (((Sp.f72 x0).1, (0 : Int)), ()))
noncomputable def e23 : Ent := { f := 13, ins := [Sh.one (C0.dat (Ty.int IntKind.u8).slice)], outs := [Sh.one (C0.row (Ty.int IntKind.u8)), Sh.one ZI], upd := [], pre := fun a => Sp.f23_pre a, spec := fun a => (Sp.f23 a).1, wrt := fun a => (Sp.f23 a).2 }
def f23_g (v : denS [Sh.one (C0.row (Ty.int IntKind.u8)), Sh.one ZI] × denS []) : Res := ⟨mkS [Sh.one (C0.row (Ty.int IntKind.u8)), Sh.one ZI] v.1, mkU [] v.2⟩
theorem f23_form (x0 : List Int) : abody Γ (orc [e72]) 0 13 [ZX (Ty.int IntKind.u8).slice x0] = chk (Sp.f23_pre x0) (some (f23_g (Sp.f23 x0))) := by
  refine Eq.trans (b := bif decide ((↑x0.length : Int) > (65526 : Int)) then some (Res.mk [XV.mk false [X.c (X0.row (Ty.int IntKind.u8) [] true)], ZX Zi (2 : Int)] []) else chk (Sp.f72_pre x0) (some (Res.mk [XV.mk false [X.c (X0.row (Ty.int IntKind.u8) (Sp.f72 x0).1 true)], ZX Zi (0 : Int)] []))) (by kernel_rfl) ?_
  unfold Sp.f23_pre Sp.f23
  exact (cond_step f23_g ((lift_plain (rfl))) ((chk_last (rfl))))
theorem e23_ok : Valid PP Γ e23 := valid_auto ok (vcons e72_ok vnil) fun a => f23_form a

end Go.Proofs.GR.T

namespace Go.Proofs.GR.T
open Go Go.Proofs Go.Proofs.GR
theorem crc_lt : ∀ (xs : List Int) (r : Nat), r < 2 ^ 32 → Sp.isBytes xs = true → Sp.crc r xs < 2 ^ 32
  | [], _, h, _ => h
  | x :: xs, r, h, hb => by
    obtain ⟨⟨h1, h2⟩, h3⟩ := isBytes_cons.1 hb
    exact crc_lt xs _ (bits_lt 8 (Nat.xor_lt_two_pow h (by omega))) h3
theorem sum_lt {xs : List Int} (hb : Sp.isBytes xs = true) : 0 ≤ Sp.sum xs ∧ Sp.sum xs < 4294967296 := by
  unfold Sp.sum
  have := Nat.xor_lt_two_pow (crc_lt xs 4294967295 (by omega) hb) (show 4294967295 < 2 ^ 32 by omega)
  omega
theorem high_four (n : Int) : Sp.high n 4 = [IntKind.u8.wrap (n.fdiv 16777216), IntKind.u8.wrap (n.fdiv 65536), IntKind.u8.wrap (n.fdiv 256), IntKind.u8.wrap n] := by
  show [IntKind.u8.wrap (n.fdiv (2 ^ 24)), IntKind.u8.wrap (n.fdiv (2 ^ 16)), IntKind.u8.wrap (n.fdiv (2 ^ 8)), IntKind.u8.wrap (n.fdiv (2 ^ 0))] = _
  rw [show (2 : Int) ^ 0 = 1 from rfl, Int.fdiv_one]
  rfl
theorem four_bytes (n : Int) : Sp.isBytes (Sp.f116 n).1 = true := isBytes_of fun x hx => by
  simp only [Sp.f116, List.mem_cons, List.not_mem_nil, or_false] at hx
  rcases hx with rfl | rfl | rfl | rfl <;> exact wrap8_byte _
theorem head_bytes : Sp.isBytes [(66 : Int), (75 : Int)] = true := by decide
theorem head_eq {n : Int} (h0 : 0 ≤ n) (h1 : n < 4294967296) : strBytes (ByteArray.mk #[66, 75] ++ (Sp.f119 n).1) = [(66 : Int), (75 : Int)] ++ (Sp.f116 n).1 := by
  have e : (Sp.f119 n).1 = bytesStr (Sp.f116 n).1 := by
    unfold Sp.f119
    rw [wrap32 h0 h1, wrapu64 h0 (by omega), high_four]
    rfl
  rw [strBytes_append, e, strBytes_bytesStr (four_bytes n)]
  rfl
theorem f72_eq {xs : List Int} (hb : Sp.isBytes xs = true) (hl : (xs.length : Int) < 4294967296) : Sp.f72 xs = Sp.f71 xs := by
  have hB : Sp.isBytes ([(66 : Int), (75 : Int)] ++ (Sp.f116 (xs.length : Int)).1 ++ xs) = true := isBytes_append (isBytes_append head_bytes (four_bytes _)) hb
  obtain ⟨s1, s2⟩ := sum_lt hB
  unfold Sp.f72 Sp.f71
  rw [head_eq (by omega) hl, strBytes_bytesStr hB, wrap32 s1 s2]
  rfl
theorem f23_eq {xs : List Int} (hb : Sp.isBytes xs = true) : Sp.f23 xs = Sp.f21 xs := by
  unfold Sp.f23 Sp.f21
  by_cases h : (xs.length : Int) > 65526
  · rw [decide_eq_true h]; rfl
  · rw [f72_eq hb (by omega)]
theorem f71_len (xs : List Int) : (Sp.f71 xs).1.length = xs.length + 10 := by
  simp only [Sp.f71, Sp.f116, Sp.f117, List.length_append, List.length_cons, List.length_nil]
  omega
theorem f71_pre {xs : List Int} (hb : Sp.isBytes xs = true) (hl : (xs.length : Int) ≤ 65526) : Sp.f71_pre xs = true := by
  have hB : Sp.isBytes ([(66 : Int), (75 : Int)] ++ (Sp.f116 (xs.length : Int)).1 ++ xs) = true := isBytes_append (isBytes_append head_bytes (four_bytes _)) hb
  unfold Sp.f71_pre
  rw [hB]
  simp [Sp.f116, Sp.f117]
  omega
theorem f72_pre {xs : List Int} (hb : Sp.isBytes xs = true) (hl : (xs.length : Int) ≤ 65526) : Sp.f72_pre xs = true := by
  have e : (Sp.f119 (xs.length : Int)).1.size = 4 := by
    unfold Sp.f119
    rw [wrap32 (by omega) (by omega), wrapu64 (by omega) (by omega), high_four, bytesStr_size]
    rfl
  have e2 : (ByteArray.mk #[66, 75] ++ (Sp.f119 (xs.length : Int)).1).size = 6 := by
    rw [ByteArray.size_append, e]; rfl
  unfold Sp.f72_pre
  rw [e, e2]
  have h1 : Sp.f119_pre (xs.length : Int) = true := rfl
  have h3 : Sp.shortS (bytesStr (strBytes (ByteArray.mk #[66, 75] ++ (Sp.f119 (xs.length : Int)).1) ++ xs)) = true := by
    refine decide_eq_true ?_
    rw [bytesStr_size, List.length_append, strBytes_len, e2]
    omega
  rw [h1, h3]
  simp [strBytes_len, e2]
  all_goals omega
end Go.Proofs.GR.T

set_option maxRecDepth 100000
set_option maxHeartbeats 100000000
namespace Go.Proofs.GR.T
open Go Go.Proofs Go.Proofs.GR
def Sp.num : Nat → List Int → Nat
  | r, [] => r
  | r, x :: l => Sp.num (r * 256 + x.toNat) l
def Sp.four (xs : List Int) : Bool := yes2 (decide (xs.length ≤ 4)) (Sp.isBytes xs)
theorem four_of {xs : List Int} (h : Sp.four xs = true) : xs.length ≤ 4 ∧ Sp.isBytes xs = true := by
  obtain ⟨h1, h2⟩ := yes2_true h
  exact ⟨of_decide_eq_true h1, h2⟩
def Sp.eight (xs : List Int) : Bool := yes2 (decide (xs.length ≤ 8)) (Sp.isBytes xs)
theorem eight_of {xs : List Int} (h : Sp.eight xs = true) : xs.length ≤ 8 ∧ Sp.isBytes xs = true := by
  obtain ⟨h1, h2⟩ := yes2_true h
  exact ⟨of_decide_eq_true h1, h2⟩
theorem or64 {a b : Nat} (ha : a < 2 ^ 56) (hb : b < 256) : IntKind.u64.wrap (((BitVec.ofInt 64 (IntKind.u64.wrap ((a : Int) * 256)) ||| BitVec.ofInt 64 (IntKind.u64.wrap (b : Int))).toNat : Nat) : Int) = ((a * 256 + b : Nat) : Int) := by
  rw [wrapu64 (n := (a : Int) * 256) (by omega) (by omega), wrapu64 (n := (b : Int)) (by omega) (by omega)]
  rw [show (a : Int) * 256 = ((a * 256 : Nat) : Int) by omega, BitVec.toNat_or, ofInt_toNat, ofInt_toNat, Nat.mod_eq_of_lt (by omega), Nat.mod_eq_of_lt (by omega)]
  have e : a * 256 ||| b = a * 256 + b := by
    have := Nat.shiftLeft_add_eq_or_of_lt (i := 8) (show b < 2 ^ 8 by omega) a
    rw [Nat.shiftLeft_eq] at this
    exact this.symm
  rw [e, wrapu64 (by omega) (by omega)]
noncomputable def f77_L0 (n m0 : Nat) (y0 : List Int) (y1 y2 y3 : Int) : Option Res := loopAt Γ (orc []) n (51 : Nat) (0 : Nat) [] [Pth.r, Pth.r, Pth.l, Pth.r, Pth.b] m0 (St.mk (ZS (Ty.int IntKind.u8).slice y0 :: Zn :: Zn :: ZS (Ty.int IntKind.u64) y1 :: Zn :: Zn :: ZS Zi y2 :: ZS Zi y3 :: ZN 12 []) [])
theorem f77_L0_step (n m0 : Nat) (y0 : List Int) (y1 y2 y3 : Int) : f77_L0 n (m0 + 1) y0 y1 y2 y3 = bif decide (y3 < y2) then chk (decide ((0 : Int) ≤ y3) && decide (y3 < (↑y0.length : Int))) (f77_L0 n m0 y0 (IntKind.u64.wrap (↑(BitVec.ofInt (64 : Nat) (IntKind.u64.wrap (y1 * (256 : Int))) ||| BitVec.ofInt (64 : Nat) (IntKind.u64.wrap (y0.getD y3.toNat (0 : Int)))).toNat : Int)) y2 (IntKind.i64.wrap (y3 + (1 : Int)))) else some (Res.mk [ZX (Ty.int IntKind.u64) y1] []) := by kernel_rfl
theorem f77_raw (n : Nat) (x0 : List Int) : abody Γ (orc []) n 51 [ZX (Ty.int IntKind.u8).slice x0] = f77_L0 n n x0 (0 : Int) (↑x0.length : Int) (0 : Int) := by kernel_rfl

noncomputable def e77 : Ent := { f := n77, ins := [Sh.one (cL tB)], outs := [Sh.one (C0.dat (.int .u64))], upd := [], pre := fun a => Sp.eight a, spec := fun a => (Sp.num 0 a : Int), wrt := fun _ => () }
theorem f77_loop (n : Nat) (xs : List Int) (hl : xs.length ≤ 8) (hb : Sp.isBytes xs = true) : ∀ (d k m r : Nat), k + d = xs.length → d < m → r < 256 ^ k →
    f77_L0 n m xs (↑r : Int) (↑xs.length : Int) (↑k : Int) = some (Res.mk [ZX (Ty.int IntKind.u64) (Sp.num r (xs.drop k) : Int)] []) := by
  intro d
  induction d with
  | zero =>
    intro k m r hk hm hr
    obtain ⟨m, rfl⟩ := succ_of hm
    rw [f77_L0_step, decide_eq_false (by omega), List.drop_of_length_le (by omega)]
    rfl
  | succ d ih =>
    intro k m r hk hm hr
    obtain ⟨m, rfl⟩ := succ_of hm
    have hlt : k < xs.length := by omega
    obtain ⟨b1, b2⟩ := isBytes_mem hb (List.getElem_mem hlt)
    have e0 : xs.getD (k : Int).toNat 0 = xs[k] := by rw [Int.toNat_natCast, List.getD, List.getElem?_eq_getElem hlt, Option.getD_some]
    have e1 : xs[k] = ((xs[k].toNat : Nat) : Int) := by omega
    have hr2 : r < 2 ^ 56 := Nat.lt_of_lt_of_le hr (Nat.le_trans (Nat.pow_le_pow_right (by omega) (show k ≤ 7 by omega)) (by decide))
    have e2 := or64 hr2 (show xs[k].toNat < 256 by omega)
    rw [← e1] at e2
    rw [f77_L0_step, decide_eq_true (show (k : Int) < xs.length by omega), decide_eq_true (show (0 : Int) ≤ k by omega), List.drop_eq_getElem_cons hlt, e0, e2, Bool.and_self, chkT, cond_true, wrap64 (by omega) (by omega)]
    exact ih (k + 1) m _ (by omega) (by omega) (by rw [Nat.pow_succ]; omega)
theorem e77_core (xs : List Int) (h : Sp.eight xs = true) : ∃ n, abody Γ (orc []) n n77 [ZX (Ty.int IntKind.u8).slice xs] = some (Res.mk [ZX (Ty.int IntKind.u64) (Sp.num 0 xs : Int)] []) := by
  obtain ⟨h1, h2⟩ := eight_of h
  have := f77_loop (xs.length + 1) xs h1 h2 xs.length 0 (xs.length + 1) 0 (Nat.zero_add _) (Nat.lt_succ_self _) (by decide)
  rw [Int.natCast_zero] at this
  exact ⟨xs.length + 1, (f77_raw _ xs).trans this⟩
theorem e77_ok : Valid PP Γ e77 := valid_of ok vnil fun a ha => e77_core a ha
noncomputable def f122_L0 (n m0 : Nat) (y0 : ByteArray) (y1 y2 : Int) : Option Res := loopAt Γ (orc []) n (95 : Nat) (0 : Nat) [] [Pth.r, Pth.r, Pth.l, Pth.r, Pth.b] m0 (St.mk (ZS Ty.str y0 :: Zn :: Zn :: ZS Zi y1 :: ZS Zi y2 :: ZN 14 []) [])
theorem f122_L0_step (n m0 : Nat) (y0 : ByteArray) (y1 y2 : Int) : f122_L0 n (m0 + 1) y0 y1 y2 = bif decide (y2 < (↑y0.size : Int)) then chk (decide ((0 : Int) ≤ y2) && decide (y2 < (↑y0.size : Int))) (f122_L0 n m0 y0 (IntKind.i64.wrap (IntKind.i64.wrap (y1 * (256 : Int)) + IntKind.i64.wrap ((strBytes y0).getD y2.toNat (0 : Int)))) (IntKind.i64.wrap (y2 + (1 : Int)))) else ZJ y1 := by kernel_rfl
theorem f122_raw (n : Nat) (x0 : ByteArray) : abody Γ (orc []) n 95 [ZX Ty.str x0] = f122_L0 n n x0 (0 : Int) (0 : Int) := by kernel_rfl

noncomputable def e122 : Ent := { f := n122, ins := [Sh.one cS], outs := [Sh.one cI], upd := [], pre := fun a => Sp.four (strBytes a), spec := fun a => (Sp.num 0 (strBytes a) : Int), wrt := fun _ => () }
theorem f122_loop (n : Nat) (s : ByteArray) (hl : (strBytes s).length ≤ 4) : ∀ (d k m r : Nat), k + d = (strBytes s).length → d < m → r < 256 ^ k →
    f122_L0 n m s (↑r : Int) (↑k : Int) = some (rI (Sp.num r ((strBytes s).drop k) : Int)) := by
  have hs := strBytes_len s
  intro d
  induction d with
  | zero =>
    intro k m r hk hm hr
    obtain ⟨m, rfl⟩ := succ_of hm
    rw [f122_L0_step, decide_eq_false (by omega), List.drop_of_length_le (by omega)]
    rfl
  | succ d ih =>
    intro k m r hk hm hr
    obtain ⟨m, rfl⟩ := succ_of hm
    have hlt : k < (strBytes s).length := by omega
    obtain ⟨b1, b2⟩ := isBytes_mem (strBytes_bytes s) (List.getElem_mem hlt)
    have e0 : (strBytes s).getD (k : Int).toNat 0 = (strBytes s)[k] := by rw [Int.toNat_natCast, List.getD, List.getElem?_eq_getElem hlt, Option.getD_some]
    have hr2 : r < 2 ^ 32 := Nat.lt_of_lt_of_le hr (Nat.le_trans (Nat.pow_le_pow_right (by omega) (show k ≤ 4 by omega)) (by decide))
    have e2 : IntKind.i64.wrap (IntKind.i64.wrap ((r : Int) * 256) + IntKind.i64.wrap (strBytes s)[k]) = ((r * 256 + (strBytes s)[k].toNat : Nat) : Int) := by
      rw [wrap64 (n := (r : Int) * 256) (by omega) (by omega), wrap64 (n := (strBytes s)[k]) (by omega) (by omega), wrap64 (by omega) (by omega)]
      omega
    rw [f122_L0_step, decide_eq_true (show (k : Int) < s.size by omega), decide_eq_true (show (0 : Int) ≤ k by omega), List.drop_eq_getElem_cons hlt, e0, e2, Bool.and_self, chkT, cond_true, wrap64 (by omega) (by omega)]
    exact ih (k + 1) m _ (by omega) (by omega) (by rw [Nat.pow_succ]; omega)
theorem e122_core (s : ByteArray) (h : Sp.four (strBytes s) = true) : ∃ n, abody Γ (orc []) n n122 [ZX Ty.str s] = some (rI (Sp.num 0 (strBytes s) : Int)) := by
  obtain ⟨h1, _⟩ := four_of h
  have := f122_loop ((strBytes s).length + 1) s h1 (strBytes s).length 0 ((strBytes s).length + 1) 0 (Nat.zero_add _) (Nat.lt_succ_self _) (by decide)
  rw [Int.natCast_zero] at this
  exact ⟨(strBytes s).length + 1, (f122_raw _ s).trans this⟩
theorem e122_ok : Valid PP Γ e122 := valid_of ok vnil fun a ha => e122_core a ha
def Sp.f76_pre (x0 : List Int) : Bool := (bif decide ((↑x0.length : Int) < (10 : Int)) then true else (decide ((2 : Int) ≤ (↑x0.length : Int)) && (bif !(bytesStr (List.take (2 : Nat) (List.drop (0 : Nat) x0))).toList == (ByteArray.mk #[66, 75]).toList then true else (decide ((6 : Int) ≤ (↑x0.length : Int)) && (Sp.four (strBytes (bytesStr (List.take (4 : Nat) (List.drop (2 : Nat) x0)))) && (bif (↑(Sp.num (0 : Nat) (strBytes (bytesStr (List.take (4 : Nat) (List.drop (2 : Nat) x0))))) : Int) != IntKind.i64.wrap ((↑x0.length : Int) - (10 : Int)) then true else (decide ((0 : Int) ≤ IntKind.i64.wrap ((↑x0.length : Int) - (4 : Int))) && decide (IntKind.i64.wrap ((↑x0.length : Int) - (4 : Int)) ≤ (↑x0.length : Int)) && (Sp.isBytes (List.take ((IntKind.i64.wrap ((↑x0.length : Int) - (4 : Int))).toNat - (0 : Nat)) (List.drop (0 : Nat) x0)) && (decide ((0 : Int) ≤ IntKind.i64.wrap ((↑x0.length : Int) - (4 : Int))) && decide (IntKind.i64.wrap ((↑x0.length : Int) - (4 : Int)) ≤ (↑x0.length : Int)) && (bif !(bytesStr (Sp.f117 (Sp.sum (List.take ((IntKind.i64.wrap ((↑x0.length : Int) - (4 : Int))).toNat - (0 : Nat)) (List.drop (0 : Nat) x0)))).1).toList == (bytesStr (List.take (x0.length - (IntKind.i64.wrap ((↑x0.length : Int) - (4 : Int))).toNat) (List.drop (IntKind.i64.wrap ((↑x0.length : Int) - (4 : Int))).toNat x0))).toList then true else (decide ((6 : Int) ≤ IntKind.i64.wrap ((↑x0.length : Int) - (4 : Int))) && decide (IntKind.i64.wrap ((↑x0.length : Int) - (4 : Int)) ≤ (↑x0.length : Int)) && (decide (((0 : Nat) + (List.take ((IntKind.i64.wrap ((↑x0.length : Int) - (4 : Int))).toNat - (6 : Nat)) (List.drop (6 : Nat) x0)).length) * (1 : Nat) ≤ (140737488355328 : Nat))))))))))))))
def Sp.f76 (x0 : List Int) := (bif decide ((↑x0.length : Int) < (10 : Int)) then (([], (3 : Int)), ()) else (bif !(bytesStr (List.take (2 : Nat) (List.drop (0 : Nat) x0))).toList == (ByteArray.mk #[66, 75]).toList then (([], (3 : Int)), ()) else (bif (↑(Sp.num (0 : Nat) (strBytes (bytesStr (List.take (4 : Nat) (List.drop (2 : Nat) x0))))) : Int) != IntKind.i64.wrap ((↑x0.length : Int) - (10 : Int)) then (([], (3 : Int)), ()) else (bif !(bytesStr (Sp.f117 (Sp.sum (List.take ((IntKind.i64.wrap ((↑x0.length : Int) - (4 : Int))).toNat - (0 : Nat)) (List.drop (0 : Nat) x0)))).1).toList == (bytesStr (List.take (x0.length - (IntKind.i64.wrap ((↑x0.length : Int) - (4 : Int))).toNat) (List.drop (IntKind.i64.wrap ((↑x0.length : Int) - (4 : Int))).toNat x0))).toList then (([], (8 : Int)), ()) else (([] ++ List.take ((IntKind.i64.wrap ((↑x0.length : Int) - (4 : Int))).toNat - (6 : Nat)) (List.drop (6 : Nat) x0), (0 : Int)), ())))))
noncomputable def e76 : Ent := { f := 52, ins := [Sh.one (C0.dat (Ty.int IntKind.u8).slice)], outs := [Sh.one (C0.row (Ty.int IntKind.u8)), Sh.one ZI], upd := [], pre := fun a => Sp.f76_pre a, spec := fun a => (Sp.f76 a).1, wrt := fun a => (Sp.f76 a).2 }
def f76_g (v : denS [Sh.one (C0.row (Ty.int IntKind.u8)), Sh.one ZI] × denS []) : Res := ⟨mkS [Sh.one (C0.row (Ty.int IntKind.u8)), Sh.one ZI] v.1, mkU [] v.2⟩
theorem f76_form (x0 : List Int) : abody Γ (orc [e122, e118, e117]) 0 52 [ZX (Ty.int IntKind.u8).slice x0] = chk (Sp.f76_pre x0) (some (f76_g (Sp.f76 x0))) := by
  refine Eq.trans (b := bif decide ((↑x0.length : Int) < (10 : Int)) then some (Res.mk [XV.mk false [X.c (X0.row (Ty.int IntKind.u8) [] true)], ZX Zi (3 : Int)] []) else chk (decide ((2 : Int) ≤ (↑x0.length : Int))) (bif !(bytesStr (List.take (2 : Nat) (List.drop (0 : Nat) x0))).toList == (ByteArray.mk #[66, 75]).toList then some (Res.mk [XV.mk false [X.c (X0.row (Ty.int IntKind.u8) [] true)], ZX Zi (3 : Int)] []) else chk (decide ((6 : Int) ≤ (↑x0.length : Int))) (chk (Sp.four (strBytes (bytesStr (List.take (4 : Nat) (List.drop (2 : Nat) x0))))) (bif (↑(Sp.num (0 : Nat) (strBytes (bytesStr (List.take (4 : Nat) (List.drop (2 : Nat) x0))))) : Int) != IntKind.i64.wrap ((↑x0.length : Int) - (10 : Int)) then some (Res.mk [XV.mk false [X.c (X0.row (Ty.int IntKind.u8) [] true)], ZX Zi (3 : Int)] []) else chk (decide ((0 : Int) ≤ IntKind.i64.wrap ((↑x0.length : Int) - (4 : Int))) && decide (IntKind.i64.wrap ((↑x0.length : Int) - (4 : Int)) ≤ (↑x0.length : Int))) (chk (Sp.isBytes (List.take ((IntKind.i64.wrap ((↑x0.length : Int) - (4 : Int))).toNat - (0 : Nat)) (List.drop (0 : Nat) x0))) (chk (decide ((0 : Int) ≤ IntKind.i64.wrap ((↑x0.length : Int) - (4 : Int))) && decide (IntKind.i64.wrap ((↑x0.length : Int) - (4 : Int)) ≤ (↑x0.length : Int))) (bif !(bytesStr (Sp.f117 (Sp.sum (List.take ((IntKind.i64.wrap ((↑x0.length : Int) - (4 : Int))).toNat - (0 : Nat)) (List.drop (0 : Nat) x0)))).1).toList == (bytesStr (List.take (x0.length - (IntKind.i64.wrap ((↑x0.length : Int) - (4 : Int))).toNat) (List.drop (IntKind.i64.wrap ((↑x0.length : Int) - (4 : Int))).toNat x0))).toList then some (Res.mk [XV.mk false [X.c (X0.row (Ty.int IntKind.u8) [] true)], ZX Zi (8 : Int)] []) else chk (decide ((6 : Int) ≤ IntKind.i64.wrap ((↑x0.length : Int) - (4 : Int))) && decide (IntKind.i64.wrap ((↑x0.length : Int) - (4 : Int)) ≤ (↑x0.length : Int))) (chk (decide (((0 : Nat) + (List.take ((IntKind.i64.wrap ((↑x0.length : Int) - (4 : Int))).toNat - (6 : Nat)) (List.drop (6 : Nat) x0)).length) * (1 : Nat) ≤ (140737488355328 : Nat))) (some (Res.mk [XV.mk false [X.c (X0.row (Ty.int IntKind.u8) ([] ++ List.take ((IntKind.i64.wrap ((↑x0.length : Int) - (4 : Int))).toNat - (6 : Nat)) (List.drop (6 : Nat) x0)) true)], ZX Zi (0 : Int)] [])))))))))) (by kernel_rfl) ?_
  unfold Sp.f76_pre Sp.f76
  exact (cond_step f76_g ((lift_plain (rfl))) ((chk_step ((cond_step f76_g ((lift_plain (rfl))) ((chk_step ((chk_step ((cond_step f76_g ((lift_plain (rfl))) ((chk_step ((chk_step ((chk_step ((cond_step f76_g ((lift_plain (rfl))) ((chk_step ((chk_last (rfl))))))))))))))))))))))))
theorem e76_ok : Valid PP Γ e76 := valid_auto ok (vcons e122_ok (vcons e118_ok (vcons e117_ok vnil))) fun a => f76_form a

def Sp.f32_pre (x0 : List Int) : Bool := (bif decide ((↑x0.length : Int) > (65536 : Int)) then true else (Sp.f76_pre x0))
def Sp.f32 (x0 : List Int) := (bif decide ((↑x0.length : Int) > (65536 : Int)) then (([], (2 : Int)), ()) else (((Sp.f76 x0).1.1, (Sp.f76 x0).1.2), ()))
noncomputable def e32 : Ent := { f := 17, ins := [Sh.one (C0.dat (Ty.int IntKind.u8).slice)], outs := [Sh.one (C0.row (Ty.int IntKind.u8)), Sh.one ZI], upd := [], pre := fun a => Sp.f32_pre a, spec := fun a => (Sp.f32 a).1, wrt := fun a => (Sp.f32 a).2 }
def f32_g (v : denS [Sh.one (C0.row (Ty.int IntKind.u8)), Sh.one ZI] × denS []) : Res := ⟨mkS [Sh.one (C0.row (Ty.int IntKind.u8)), Sh.one ZI] v.1, mkU [] v.2⟩
theorem f32_form (x0 : List Int) : abody Γ (orc [e76]) 0 17 [ZX (Ty.int IntKind.u8).slice x0] = chk (Sp.f32_pre x0) (some (f32_g (Sp.f32 x0))) := by
  refine Eq.trans (b := bif decide ((↑x0.length : Int) > (65536 : Int)) then some (Res.mk [XV.mk false [X.c (X0.row (Ty.int IntKind.u8) [] true)], ZX Zi (2 : Int)] []) else chk (Sp.f76_pre x0) (some (Res.mk [XV.mk false [X.c (X0.row (Ty.int IntKind.u8) (Sp.f76 x0).1.1 true)], ZX Zi (Sp.f76 x0).1.2] []))) (by kernel_rfl) ?_
  unfold Sp.f32_pre Sp.f32
  exact (cond_step f32_g ((lift_plain (rfl))) ((chk_last (rfl))))
theorem e32_ok : Valid PP Γ e32 := valid_auto ok (vcons e76_ok vnil) fun a => f32_form a

def Sp.f33_pre (x0 : List Int) : Bool := (bif decide ((↑x0.length : Int) > (65536 : Int)) then true else (bif decide ((↑x0.length : Int) < (10 : Int)) then true else (decide ((2 : Int) ≤ (↑x0.length : Int)) && (bif !(bytesStr (List.take (2 : Nat) (List.drop (0 : Nat) x0))).toList == (ByteArray.mk #[66, 75]).toList then true else (decide ((6 : Int) ≤ (↑x0.length : Int)) && (Sp.eight (List.take (4 : Nat) (List.drop (2 : Nat) x0)) && (bif IntKind.i64.wrap (↑(Sp.num (0 : Nat) (List.take (4 : Nat) (List.drop (2 : Nat) x0))) : Int) != IntKind.i64.wrap ((↑x0.length : Int) - (10 : Int)) then true else (decide ((6 : Int) ≤ IntKind.i64.wrap ((↑x0.length : Int) - (4 : Int))) && decide (IntKind.i64.wrap ((↑x0.length : Int) - (4 : Int)) ≤ (↑x0.length : Int)) && (decide (((0 : Nat) + (List.take ((IntKind.i64.wrap ((↑x0.length : Int) - (4 : Int))).toNat - (6 : Nat)) (List.drop (6 : Nat) x0)).length) * (1 : Nat) ≤ (140737488355328 : Nat)) && (Sp.f72_pre ([] ++ List.take ((IntKind.i64.wrap ((↑x0.length : Int) - (4 : Int))).toNat - (6 : Nat)) (List.drop (6 : Nat) x0))))))))))))
def Sp.f33 (x0 : List Int) := (bif decide ((↑x0.length : Int) > (65536 : Int)) then (([], (2 : Int)), ()) else (bif decide ((↑x0.length : Int) < (10 : Int)) then (([], (3 : Int)), ()) else (bif !(bytesStr (List.take (2 : Nat) (List.drop (0 : Nat) x0))).toList == (ByteArray.mk #[66, 75]).toList then (([], (3 : Int)), ()) else (bif IntKind.i64.wrap (↑(Sp.num (0 : Nat) (List.take (4 : Nat) (List.drop (2 : Nat) x0))) : Int) != IntKind.i64.wrap ((↑x0.length : Int) - (10 : Int)) then (([], (3 : Int)), ()) else (bif !(bytesStr (Sp.f72 ([] ++ List.take ((IntKind.i64.wrap ((↑x0.length : Int) - (4 : Int))).toNat - (6 : Nat)) (List.drop (6 : Nat) x0))).1).toList == (bytesStr x0).toList then (([], (8 : Int)), ()) else (([] ++ List.take ((IntKind.i64.wrap ((↑x0.length : Int) - (4 : Int))).toNat - (6 : Nat)) (List.drop (6 : Nat) x0), (0 : Int)), ()))))))
noncomputable def e33 : Ent := { f := 15, ins := [Sh.one (C0.dat (Ty.int IntKind.u8).slice)], outs := [Sh.one (C0.row (Ty.int IntKind.u8)), Sh.one ZI], upd := [], pre := fun a => Sp.f33_pre a, spec := fun a => (Sp.f33 a).1, wrt := fun a => (Sp.f33 a).2 }
def f33_g (v : denS [Sh.one (C0.row (Ty.int IntKind.u8)), Sh.one ZI] × denS []) : Res := ⟨mkS [Sh.one (C0.row (Ty.int IntKind.u8)), Sh.one ZI] v.1, mkU [] v.2⟩
theorem f33_form (x0 : List Int) : abody Γ (orc [e77, e72]) 0 15 [ZX (Ty.int IntKind.u8).slice x0] = chk (Sp.f33_pre x0) (some (f33_g (Sp.f33 x0))) := by
  refine Eq.trans (b := bif decide ((↑x0.length : Int) > (65536 : Int)) then some (Res.mk [XV.mk false [X.c (X0.row (Ty.int IntKind.u8) [] true)], ZX Zi (2 : Int)] []) else bif decide ((↑x0.length : Int) < (10 : Int)) then some (Res.mk [XV.mk false [X.c (X0.row (Ty.int IntKind.u8) [] true)], ZX Zi (3 : Int)] []) else chk (decide ((2 : Int) ≤ (↑x0.length : Int))) (bif !(bytesStr (List.take (2 : Nat) (List.drop (0 : Nat) x0))).toList == (ByteArray.mk #[66, 75]).toList then some (Res.mk [XV.mk false [X.c (X0.row (Ty.int IntKind.u8) [] true)], ZX Zi (3 : Int)] []) else chk (decide ((6 : Int) ≤ (↑x0.length : Int))) (chk (Sp.eight (List.take (4 : Nat) (List.drop (2 : Nat) x0))) (bif IntKind.i64.wrap (↑(Sp.num (0 : Nat) (List.take (4 : Nat) (List.drop (2 : Nat) x0))) : Int) != IntKind.i64.wrap ((↑x0.length : Int) - (10 : Int)) then some (Res.mk [XV.mk false [X.c (X0.row (Ty.int IntKind.u8) [] true)], ZX Zi (3 : Int)] []) else chk (decide ((6 : Int) ≤ IntKind.i64.wrap ((↑x0.length : Int) - (4 : Int))) && decide (IntKind.i64.wrap ((↑x0.length : Int) - (4 : Int)) ≤ (↑x0.length : Int))) (chk (decide (((0 : Nat) + (List.take ((IntKind.i64.wrap ((↑x0.length : Int) - (4 : Int))).toNat - (6 : Nat)) (List.drop (6 : Nat) x0)).length) * (1 : Nat) ≤ (140737488355328 : Nat))) (chk (Sp.f72_pre ([] ++ List.take ((IntKind.i64.wrap ((↑x0.length : Int) - (4 : Int))).toNat - (6 : Nat)) (List.drop (6 : Nat) x0))) (bif !(bytesStr (Sp.f72 ([] ++ List.take ((IntKind.i64.wrap ((↑x0.length : Int) - (4 : Int))).toNat - (6 : Nat)) (List.drop (6 : Nat) x0))).1).toList == (bytesStr x0).toList then some (Res.mk [XV.mk false [X.c (X0.row (Ty.int IntKind.u8) [] true)], ZX Zi (8 : Int)] []) else some (Res.mk [XV.mk false [X.c (X0.row (Ty.int IntKind.u8) ([] ++ List.take ((IntKind.i64.wrap ((↑x0.length : Int) - (4 : Int))).toNat - (6 : Nat)) (List.drop (6 : Nat) x0)) true)], ZX Zi (0 : Int)] [])))))))) (by kernel_rfl) ?_
  unfold Sp.f33_pre Sp.f33
  exact (cond_step f33_g ((lift_plain (rfl))) ((cond_step f33_g ((lift_plain (rfl))) ((chk_step ((cond_step f33_g ((lift_plain (rfl))) ((chk_step ((chk_step ((cond_step f33_g ((lift_plain (rfl))) ((chk_step ((chk_step ((chk_last ((cond_plain f33_g (rfl) (rfl))))))))))))))))))))))
theorem e33_ok : Valid PP Γ e33 := valid_auto ok (vcons e77_ok (vcons e72_ok vnil)) fun a => f33_form a

end Go.Proofs.GR.T

namespace Go.Proofs.GR.T
open Go Go.Proofs Go.Proofs.GR
theorem toList_loop (s : ByteArray) : ∀ (d i : Nat) (r : List UInt8), i + d = s.size → ByteArray.toList.loop s i r = r.reverse ++ s.data.toList.drop i := by
  intro d
  have hs : s.size = s.data.toList.length := by rw [Array.length_toList]; rfl
  induction d with
  | zero =>
    intro i r h
    unfold ByteArray.toList.loop
    rw [if_neg (by omega), List.drop_of_length_le (by omega), List.append_nil]
  | succ d ih =>
    intro i r h
    unfold ByteArray.toList.loop
    rw [if_pos (by omega), ih (i + 1) _ (by omega)]
    have hlt : i < s.data.toList.length := by omega
    have hlt2 : i < s.data.size := by rw [Array.length_toList] at hlt; exact hlt
    have hg : s.get! i = s.data.toList[i] := by
      show s.data[i]! = _
      rw [getElem!_pos s.data i hlt2, Array.getElem_toList]
    rw [List.drop_eq_getElem_cons hlt, hg]
    simp
theorem toList_eq (s : ByteArray) : s.toList = s.data.toList := by
  unfold ByteArray.toList
  rw [toList_loop s s.size 0 [] (Nat.zero_add _)]
  rfl
theorem beq_strBytes (s t : ByteArray) : (s.toList == t.toList) = Sp.eqL (strBytes s) (strBytes t) := by
  rw [toList_eq, toList_eq]
  by_cases h : s.data.toList = t.data.toList
  · rw [h, beq_self_eq_true]
    have e : strBytes s = strBytes t := by unfold strBytes; rw [h]
    rw [e, eqL_self]
  · rw [beq_false_of_ne h]
    refine (decide_eq_false fun e => h ?_).symm
    have e2 : bytesStr (strBytes s) = bytesStr (strBytes t) := by rw [e]
    rw [bytesStr_strBytes, bytesStr_strBytes] at e2
    rw [e2]
theorem beq_bytes {a b : List Int} (ha : Sp.isBytes a = true) (hb : Sp.isBytes b = true) : ((bytesStr a).toList == (bytesStr b).toList) = Sp.eqL a b := by
  rw [beq_strBytes, strBytes_bytesStr ha, strBytes_bytesStr hb]
theorem isBytes_take {xs : List Int} (h : Sp.isBytes xs = true) (n : Nat) : Sp.isBytes (xs.take n) = true := isBytes_of fun _ hx => isBytes_mem h (List.mem_of_mem_take hx)
theorem isBytes_drop {xs : List Int} (h : Sp.isBytes xs = true) (n : Nat) : Sp.isBytes (xs.drop n) = true := isBytes_of fun _ hx => isBytes_mem h (List.mem_of_mem_drop hx)
end Go.Proofs.GR.T

namespace Go.Proofs.GR.T
open Go Go.Proofs Go.Proofs.GR
theorem num_lt : ∀ (l : List Int) (r : Nat), Sp.isBytes l = true → Sp.num r l < (r + 1) * 256 ^ l.length
  | [], r, _ => by simp [Sp.num]
  | x :: l, r, h => by
    obtain ⟨⟨h1, h2⟩, h3⟩ := isBytes_cons.1 h
    have := num_lt l (r * 256 + x.toNat) h3
    rw [List.length_cons, Nat.pow_succ]
    show Sp.num (r * 256 + x.toNat) l < _
    have h4 : (r * 256 + x.toNat + 1) * 256 ^ l.length ≤ ((r + 1) * 256) * 256 ^ l.length := Nat.mul_le_mul_right _ (by omega)
    rw [Nat.mul_assoc, Nat.mul_comm 256] at h4
    omega
theorem four_num {l : List Int} (hl : l.length = 4) (hb : Sp.isBytes l = true) : l = (Sp.f116 (Sp.num 0 l : Int)).1 := by
  match l, hl with
  | [a, b, c, d], _ =>
    obtain ⟨⟨a1, a2⟩, hb⟩ := isBytes_cons.1 hb
    obtain ⟨⟨b1, b2⟩, hb⟩ := isBytes_cons.1 hb
    obtain ⟨⟨c1, c2⟩, hb⟩ := isBytes_cons.1 hb
    obtain ⟨⟨d1, d2⟩, hb⟩ := isBytes_cons.1 hb
    simp only [Sp.f116, Sp.num, wrap8]
    have e : ((((0 * 256 + a.toNat) * 256 + b.toNat) * 256 + c.toNat) * 256 + d.toNat : Nat) = (((a * 256 + b) * 256 + c) * 256 + d : Int) := by omega
    rw [e]
    rw [Int.fdiv_eq_ediv_of_nonneg _ (by omega), Int.fdiv_eq_ediv_of_nonneg _ (by omega), Int.fdiv_eq_ediv_of_nonneg _ (by omega)]
    simp only [List.cons.injEq, and_true]
    refine ⟨?_, ?_, ?_, ?_⟩ <;> omega
theorem low_bytes (n : Int) : Sp.isBytes (Sp.f117 n).1 = true := isBytes_of fun x hx => by
  simp only [Sp.f117, List.mem_cons, List.not_mem_nil, or_false] at hx
  rcases hx with rfl | rfl | rfl | rfl <;> exact wrap8_byte _
theorem head_beq {xs : List Int} (hb : Sp.isBytes xs = true) : ((bytesStr (List.take 2 (List.drop 0 xs))).toList == (ByteArray.mk #[66, 75]).toList) = Sp.eqL (xs.take 2) [66, 75] := by
  rw [List.drop_zero]
  exact beq_bytes (isBytes_take hb 2) head_bytes
theorem seal_eq {xs : List Int} (hb : Sp.isBytes xs = true) (h10 : 10 ≤ xs.length) (h65 : xs.length ≤ 65536) (h2 : xs.take 2 = [66, 75]) (h4 : (Sp.num 0 ((xs.drop 2).take 4) : Int) = (xs.length : Int) - 10) :
    (Sp.f72 ((xs.drop 6).take (xs.length - 10))).1 = xs.take (xs.length - 4) ++ (Sp.f117 (Sp.sum (xs.take (xs.length - 4)))).1 := by
  have hl : ((xs.drop 6).take (xs.length - 10)).length = xs.length - 10 := by rw [List.length_take, List.length_drop]; omega
  have hi : Sp.isBytes ((xs.drop 6).take (xs.length - 10)) = true := isBytes_take (isBytes_drop hb _) _
  have e4 : (xs.drop 2).take 4 = (Sp.f116 ((xs.length : Int) - 10)).1 := by
    rw [← h4]
    exact four_num (by rw [List.length_take, List.length_drop]; omega) (isBytes_take (isBytes_drop hb _) _)
  have hpre : [(66 : Int), 75] ++ (Sp.f116 (((xs.length - 10 : Nat)) : Int)).1 ++ (xs.drop 6).take (xs.length - 10) = xs.take (xs.length - 4) := by
    rw [show ((xs.length - 10 : Nat) : Int) = (xs.length : Int) - 10 by omega, ← e4, ← h2]
    have e1 : xs.drop 6 = (xs.drop 2).drop 4 := by rw [List.drop_drop]
    have e2 : xs.take (xs.length - 4) = xs.take (2 + (4 + (xs.length - 10))) := by congr 1; omega
    rw [e2, List.take_add, List.take_add, e1, List.append_assoc]
  rw [f72_eq hi (by rw [hl]; omega)]
  unfold Sp.f71
  rw [hl, hpre]
theorem inner_nat {n : Nat} (h1 : 10 ≤ n) (h2 : n ≤ 65536) : (IntKind.i64.wrap ((n : Int) - 4)).toNat - 6 = n - 10 := by
  rw [wrap64 (by omega) (by omega)]; omega
theorem f33_eq {xs : List Int} (hb : Sp.isBytes xs = true) : Sp.f33 xs = Sp.f32 xs := by
  unfold Sp.f33 Sp.f32
  by_cases c0 : (xs.length : Int) > 65536
  · rw [decide_eq_true c0]; rfl
  rw [decide_eq_false c0]
  unfold Sp.f76
  by_cases c1 : (xs.length : Int) < 10
  · rw [decide_eq_true c1]; rfl
  rw [decide_eq_false c1, head_beq hb, strBytes_bytesStr (isBytes_take (isBytes_drop hb _) _), inner_nat (by omega) (by omega), wrap64 (n := (xs.length : Int) - 4) (by omega) (by omega), wrap64 (n := (xs.length : Int) - 10) (by omega) (by omega)]
  have hn : Sp.num 0 ((xs.drop 2).take 4) < 4294967296 := by
    have := num_lt ((xs.drop 2).take 4) 0 (isBytes_take (isBytes_drop hb _) _)
    have e : ((xs.drop 2).take 4).length = 4 := by rw [List.length_take, List.length_drop]; omega
    rw [e] at this
    omega
  rw [wrap64 (n := (Sp.num 0 ((xs.drop 2).take 4) : Int)) (by omega) (by omega)]
  by_cases c2 : Sp.eqL (xs.take 2) [66, 75] = true
  case neg => rw [Bool.eq_false_iff.2 c2]; rfl
  rw [c2]
  by_cases c3 : (Sp.num 0 ((xs.drop 2).take 4) : Int) = (xs.length : Int) - 10
  case neg => rw [show ((Sp.num 0 ((xs.drop 2).take 4) : Int) != (xs.length : Int) - 10) = true from bne_iff_ne.2 c3]; rfl
  have h2 := eqL_of c2
  have e3 : ((Sp.num 0 ((xs.drop 2).take 4) : Int) != (xs.length : Int) - 10) = false := by rw [c3]; simp
  rw [e3, List.nil_append, seal_eq hb (by omega) (by omega) h2 c3]
  rw [show ((xs.length : Int) - 4).toNat = xs.length - 4 by omega, show xs.length - 4 - 0 = xs.length - 4 from rfl, List.drop_zero]
  have hp : Sp.isBytes (xs.take (xs.length - 4) ++ (Sp.f117 (Sp.sum (xs.take (xs.length - 4)))).1) = true := isBytes_append (isBytes_take hb _) (low_bytes _)
  rw [beq_bytes hp hb, beq_bytes (low_bytes _) (isBytes_take (isBytes_drop hb _) _)]
  have ed : (xs.drop (xs.length - 4)).take (xs.length - (xs.length - 4)) = xs.drop (xs.length - 4) := List.take_of_length_le (by rw [List.length_drop]; omega)
  rw [ed]
  have ek : Sp.eqL (xs.take (xs.length - 4) ++ (Sp.f117 (Sp.sum (xs.take (xs.length - 4)))).1) xs = Sp.eqL (Sp.f117 (Sp.sum (xs.take (xs.length - 4)))).1 (xs.drop (xs.length - 4)) := by
    unfold Sp.eqL
    refine decide_eq_decide.2 ⟨fun h => ?_, fun h => ?_⟩
    · have h' := h.trans (List.take_append_drop (xs.length - 4) xs).symm
      exact List.append_cancel_left h'
    · rw [h]; exact List.take_append_drop _ _
  rw [ek]
theorem f76_pre {xs : List Int} (hb : Sp.isBytes xs = true) (hl : (xs.length : Int) ≤ 65536) : Sp.f76_pre xs = true := by
  unfold Sp.f76_pre
  by_cases c1 : (xs.length : Int) < 10
  · rw [decide_eq_true c1]; rfl
  rw [decide_eq_false c1, strBytes_bytesStr (isBytes_take (isBytes_drop hb _) _), wrap64 (n := (xs.length : Int) - 4) (by omega) (by omega)]
  have f4 : Sp.four ((xs.drop 2).take 4) = true := by
    unfold Sp.four
    rw [isBytes_take (isBytes_drop hb _) _, decide_eq_true (by rw [List.length_take]; omega)]; rfl
  rw [f4, isBytes_take (isBytes_drop hb _) _, decide_eq_true (show (2 : Int) ≤ xs.length by omega), decide_eq_true (show (6 : Int) ≤ xs.length by omega), decide_eq_true (show (0 : Int) ≤ (xs.length : Int) - 4 by omega), decide_eq_true (show (xs.length : Int) - 4 ≤ xs.length by omega), decide_eq_true (show (6 : Int) ≤ (xs.length : Int) - 4 by omega)]
  have hs : decide ((0 + (List.take (((xs.length : Int) - 4).toNat - 6) (List.drop 6 xs)).length) * 1 ≤ 140737488355328) = true := decide_eq_true (by rw [List.length_take, List.length_drop]; omega)
  rw [hs]
  simp only [Bool.and_self, Bool.true_and, Bool.cond_true_right, Bool.or_true, Bool.cond_false_left, cond_false]
theorem f33_pre {xs : List Int} (hb : Sp.isBytes xs = true) : Sp.f33_pre xs = true := by
  unfold Sp.f33_pre
  by_cases c0 : (xs.length : Int) > 65536
  · rw [decide_eq_true c0]; rfl
  rw [decide_eq_false c0]
  by_cases c1 : (xs.length : Int) < 10
  · rw [decide_eq_true c1]; rfl
  rw [decide_eq_false c1, inner_nat (by omega) (by omega), wrap64 (n := (xs.length : Int) - 4) (by omega) (by omega)]
  have f4 : Sp.eight ((xs.drop 2).take 4) = true := by
    unfold Sp.eight
    rw [isBytes_take (isBytes_drop hb _) _, decide_eq_true (by rw [List.length_take]; omega)]; rfl
  have hi := f72_pre (isBytes_take (isBytes_drop hb 6) (xs.length - 10)) (by rw [List.length_take, List.length_drop]; omega)
  have hs : decide ((0 + (List.take (xs.length - 10) (List.drop 6 xs)).length) * 1 ≤ 140737488355328) = true := decide_eq_true (by rw [List.length_take, List.length_drop]; omega)
  rw [f4, List.nil_append, hi, hs, decide_eq_true (show (2 : Int) ≤ xs.length by omega), decide_eq_true (show (6 : Int) ≤ xs.length by omega), decide_eq_true (show (xs.length : Int) - 4 ≤ xs.length by omega), decide_eq_true (show (6 : Int) ≤ (xs.length : Int) - 4 by omega)]
  simp only [Bool.and_self, Bool.true_and, Bool.cond_true_right, Bool.or_true, Bool.cond_false_left, cond_false]
end Go.Proofs.GR.T

set_option maxRecDepth 100000
set_option maxHeartbeats 100000000
namespace Go.Proofs.GR.T
open Go Go.Proofs Go.Proofs.GR
def Sp.mdig : Nat → Int → ByteArray → ByteArray
  | 0, _, acc => acc
  | d + 1, r, acc => bif decide (r > 0) then Sp.mdig d (IntKind.i64.wrap (r.tdiv 10)) (bytesStr [IntKind.u8.wrap (IntKind.i64.wrap (48 + r.tmod 10))] ++ acc) else acc
def Sp.mText (k : Int) : ByteArray := bif decide (k ≤ 0) then ByteArray.mk #[109, 48] else ByteArray.mk #[109] ++ Sp.mdig 19 k (ByteArray.mk #[])
def Sp.eqS : List ByteArray → List ByteArray → Bool
  | [], [] => true
  | x :: r, y :: s => bif !(x.toList == y.toList) then false else Sp.eqS r s
  | _, _ => false
end Go.Proofs.GR.T

set_option maxRecDepth 100000
set_option maxHeartbeats 100000000
namespace Go.Proofs.GR.T
open Go Go.Proofs Go.Proofs.GR
end Go.Proofs.GR.T

namespace Go.Proofs.GR.T
open Go Go.Proofs Go.Proofs.GR
end Go.Proofs.GR.T

set_option maxRecDepth 100000
set_option maxHeartbeats 100000000
namespace Go.Proofs.GR.T
open Go Go.Proofs Go.Proofs.GR
def Sp.f79 (x0 x1 x2 : Int) := (bif decide (x0 ≥ x1) then (decide (x0 ≤ x2), ()) else (false, ()))
noncomputable def e79 : Ent := { f := 96, ins := [Sh.one ZI, Sh.one ZI, Sh.one ZI], outs := [Sh.one (C0.dat Ty.bool)], upd := [], pre := fun a => true, spec := fun a => (Sp.f79 a.1 a.2.1 a.2.2).1, wrt := fun a => (Sp.f79 a.1 a.2.1 a.2.2).2 }
def f79_g (v : denS [Sh.one (C0.dat Ty.bool)] × denS []) : Res := ⟨mkS [Sh.one (C0.dat Ty.bool)] v.1, mkU [] v.2⟩
theorem f79_form (x0 x1 x2 : Int) : abody Γ (orc []) 0 96 [ZX Zi x0, ZX Zi x1, ZX Zi x2] = some (f79_g (Sp.f79 x0 x1 x2)) := by
  refine Eq.trans (b := bif decide (x0 ≥ x1) then ZB (decide (x0 ≤ x2)) else Zf) (by kernel_rfl) ?_
  unfold Sp.f79
  exact (cond_plain f79_g (rfl) (rfl))
theorem e79_ok : Valid PP Γ e79 := valid_auto ok vnil fun a => f79_form a.1 a.2.1 a.2.2

def Sp.f136 (x0 x1 : Int) (x2 : ByteArray) := (bif x0 == (0 : Int) then (bif x1 == (0 : Int) then (x2.toList == (ByteArray.mk #[]).toList, ()) else (false, ())) else (bif x0 == (1 : Int) then (bif (Sp.f79 x1 (0 : Int) (1 : Int)).1 then (x2.toList == (ByteArray.mk #[]).toList, ()) else (false, ())) else (bif x0 == (2 : Int) then (x2.toList == (ByteArray.mk #[]).toList, ()) else (bif x0 == (3 : Int) then (bif x0 == (3 : Int) then (bif x1 == (0 : Int) then (decide ((↑x2.size : Int) ≤ (60 : Int)), ()) else (false, ())) else (false, ())) else (bif x0 == (4 : Int) then (bif x1 == (0 : Int) then (decide ((↑x2.size : Int) ≤ (60 : Int)), ()) else (false, ())) else (false, ()))))))
noncomputable def e136 : Ent := { f := 116, ins := [Sh.agg [C0.dat Zi, C0.dat Zi, C0.dat Ty.str]], outs := [Sh.one (C0.dat Ty.bool)], upd := [], pre := fun a => true, spec := fun a => (Sp.f136 a.1 a.2.1 a.2.2).1, wrt := fun a => (Sp.f136 a.1 a.2.1 a.2.2).2 }
def f136_g (v : denS [Sh.one (C0.dat Ty.bool)] × denS []) : Res := ⟨mkS [Sh.one (C0.dat Ty.bool)] v.1, mkU [] v.2⟩
theorem f136_form (x0 x1 : Int) (x2 : ByteArray) : abody Γ (orc [e79]) 0 116 [XV.mk true [ZC Zi x0, ZC Zi x1, ZC Ty.str x2]] = some (f136_g (Sp.f136 x0 x1 x2)) := by
  refine Eq.trans (b := bif x0 == (0 : Int) then bif x1 == (0 : Int) then ZB (x2.toList == (ByteArray.mk #[]).toList) else Zf else bif x0 == (1 : Int) then bif (Sp.f79 x1 (0 : Int) (1 : Int)).1 then ZB (x2.toList == (ByteArray.mk #[]).toList) else Zf else bif x0 == (2 : Int) then ZB (x2.toList == (ByteArray.mk #[]).toList) else bif x0 == (3 : Int) then bif x0 == (3 : Int) then bif x1 == (0 : Int) then ZB (decide ((↑x2.size : Int) ≤ (60 : Int))) else Zf else Zf else bif x0 == (4 : Int) then bif x1 == (0 : Int) then ZB (decide ((↑x2.size : Int) ≤ (60 : Int))) else Zf else Zf) (by kernel_rfl) ?_
  unfold Sp.f136
  exact (cond_plain f136_g ((cond_plain f136_g (rfl) (rfl))) ((cond_plain f136_g ((cond_plain f136_g (rfl) (rfl))) ((cond_plain f136_g (rfl) ((cond_plain f136_g ((cond_plain f136_g ((cond_plain f136_g (rfl) (rfl))) (rfl))) ((cond_plain f136_g ((cond_plain f136_g (rfl) (rfl))) (rfl))))))))))
theorem e136_ok : Valid PP Γ e136 := valid_auto ok (vcons e79_ok vnil) fun a => f136_form a.1 a.2.1 a.2.2

def Sp.f86 (x0 x1 : Int) (x2 : ByteArray) (x3 x4 : Int) (x5 : ByteArray) := (bif x0 != x3 then (false, ()) else (bif x1 != x4 then (false, ()) else (bif !x2.toList == x5.toList then (false, ()) else (true, ()))))
def Sp.takeB (b : List Int) (a : Int) (bad : Bool) (n : Int) : Bool := bif bad then true else bif decide (n < 0) then true else decide (a + n > (b.length : Int))
def Sp.takeV (b : List Int) (a : Int) (bad : Bool) (n : Int) : List Int := bif Sp.takeB b a bad n then List.replicate (maxI 0 (minI n 8)).toNat 0 else (b.drop a.toNat).take n.toNat
end Go.Proofs.GR.T

set_option maxRecDepth 100000
set_option maxHeartbeats 100000000
namespace Go.Proofs.GR.T
open Go Go.Proofs Go.Proofs.GR
abbrev V3 := Int × Int × ByteArray
def Sp.zv : V3 := (0, 0, ByteArray.empty)
end Go.Proofs.GR.T

namespace Go.Proofs.GR.T
open Go Go.Proofs Go.Proofs.GR
namespace Sp
def allW {α : Type} (p : α → Bool) : List α → Bool
  | [] => true
  | x :: r => bif !p x then false else allW p r
end Sp
theorem allW_mem {α : Type} {p : α → Bool} : ∀ {xs : List α}, Sp.allW p xs = true ↔ ∀ x ∈ xs, p x = true
  | [] => by simp [Sp.allW]
  | x :: r => by
    unfold Sp.allW
    cases h : p x with
    | true => simp [h, allW_mem (xs := r)]
    | false => simp [h]
theorem all_loop {α : Type} {ρ : Type} {p : α → Bool} {R : Bool → ρ} (xs : List α) (L : Nat → Int → Option ρ)
    (hend : ∀ m (k : Nat), xs.length ≤ k → L (m + 1) k = some (R true))
    (hstep : ∀ m (k : Nat) (h : k < xs.length), L (m + 1) k = bif !p xs[k] then some (R false) else L m ((k + 1 : Nat) : Int)) :
    ∀ (d k m : Nat), k + d = xs.length → d < m → L m k = some (R (Sp.allW p (xs.drop k))) := by
  intro d
  induction d with
  | zero =>
    intro k m hk hm
    obtain ⟨m, rfl⟩ := succ_of hm
    rw [hend m k (by omega), List.drop_of_length_le (by omega)]
    rfl
  | succ d ih =>
    intro k m hk hm
    obtain ⟨m, rfl⟩ := succ_of hm
    rw [hstep m k (by omega), ih (k + 1) m (by omega) (by omega), List.drop_eq_getElem_cons (show k < xs.length by omega)]
    rw [Sp.allW]
    cases !p xs[k] <;> rfl
theorem idx_loop {α : Type} {ρ : Type} {p : α → Bool} {R : Int → ρ} (xs : List α) (L : Nat → Int → Option ρ)
    (hend : ∀ m (k : Nat), xs.length ≤ k → L (m + 1) k = some (R (-1)))
    (hstep : ∀ m (k : Nat) (h : k < xs.length), L (m + 1) k = bif p xs[k] then some (R k) else L m ((k + 1 : Nat) : Int)) :
    ∀ (d k m : Nat), k + d = xs.length → d < m → L m k = some (R (Sp.idx p (xs.drop k) k)) := by
  intro d
  induction d with
  | zero =>
    intro k m hk hm
    obtain ⟨m, rfl⟩ := succ_of hm
    rw [hend m k (by omega), List.drop_of_length_le (by omega)]
    rfl
  | succ d ih =>
    intro k m hk hm
    obtain ⟨m, rfl⟩ := succ_of hm
    rw [hstep m k (by omega), ih (k + 1) m (by omega) (by omega), List.drop_eq_getElem_cons (show k < xs.length by omega)]
    rw [Sp.idx]
    rw [show ((k + 1 : Nat) : Int) = (k : Int) + 1 by omega]
    cases p xs[k] <;> rfl
theorem getD_nat {α : Type} (xs : List α) (k : Nat) (d : α) (h : k < xs.length) : xs.getD (k : Int).toNat d = xs[k] := by
  rw [Int.toNat_natCast, List.getD, List.getElem?_eq_getElem h, Option.getD_some]
theorem guard2 {k n : Nat} (h : k < n) : (decide ((0 : Int) ≤ (k : Int)) && decide ((k : Int) < (n : Int))) = true := by
  rw [decide_eq_true (show (0 : Int) ≤ k by omega), decide_eq_true (show (k : Int) < n by omega)]; rfl
theorem guard0 {k : Nat} : (decide ((0 : Int) ≤ (k : Int)) && true) = true := by
  rw [decide_eq_true (show (0 : Int) ≤ k by omega)]; rfl
theorem next64 {k n : Nat} (h : k < n) (h2 : n ≤ 9223372036854775807) : IntKind.i64.wrap ((k : Int) + 1) = ((k + 1 : Nat) : Int) := by
  rw [wrap64 (by omega) (by omega)]; omega
theorem nat_lt {k n : Nat} (h : k < n) : decide ((k : Int) < (n : Int)) = true := decide_eq_true (by omega)
theorem nat_ge {k n : Nat} (h : n ≤ k) : decide ((k : Int) < (n : Int)) = false := decide_eq_false (by omega)
end Go.Proofs.GR.T

set_option maxRecDepth 100000
set_option maxHeartbeats 100000000
namespace Go.Proofs.GR.T
open Go Go.Proofs Go.Proofs.GR
abbrev tV : Ty := .pair (.int .i64) (.pair (.int .i64) .str)
def Sp.vOK (x : V3) : Bool := (Sp.f136 x.1 x.2.1 x.2.2).1
def Sp.rowOK (xs : List V3) : Bool := bif decide ((xs.length : Int) > 8) then false else Sp.allW Sp.vOK xs
noncomputable def f92_L0 (n m0 : Nat) (y0 : List (Int × Int × ByteArray)) (y1 : Int) : Option Res := loopAt Γ (orc [e136]) n (81 : Nat) (0 : Nat) [] [Pth.r, Pth.r, Pth.l, Pth.r, Pth.b] m0 (St.mk (ZS (Zi.pair (Zi.pair Ty.str)).slice y0 :: Zn :: Zn :: ZS Zi y1 :: ZN 15 []) [])
theorem f92_L0_step (n m0 : Nat) (y0 : List (Int × Int × ByteArray)) (y1 : Int) : f92_L0 n (m0 + 1) y0 y1 = bif decide (y1 < (↑y0.length : Int)) then chk (decide ((0 : Int) ≤ y1) && decide (y1 < (↑y0.length : Int))) (bif !(Sp.f136 (y0.getD y1.toNat ((0 : Int), (0 : Int), ByteArray.mk #[])).1 (y0.getD y1.toNat ((0 : Int), (0 : Int), ByteArray.mk #[])).2.1 (y0.getD y1.toNat ((0 : Int), (0 : Int), ByteArray.mk #[])).2.2).1 then Zf else f92_L0 n m0 y0 (IntKind.i64.wrap (y1 + (1 : Int)))) else Zt := by kernel_rfl
theorem f92_raw (n : Nat) (x0 : List (Int × Int × ByteArray)) : abody Γ (orc [e136]) n 81 [ZX (Zi.pair (Zi.pair Ty.str)).slice x0] = bif decide ((↑x0.length : Int) > (8 : Int)) then Zf else f92_L0 n n x0 (0 : Int) := by kernel_rfl

noncomputable def e92 : Ent := { f := n92, ins := [Sh.one (C0.dat (.slice tV))], outs := [Sh.one cB], upd := [], pre := fun a => true, spec := fun a => Sp.rowOK a, wrt := fun _ => () }
theorem e92_core (xs : List V3) (hl : xs.length ≤ maxLen) : ∃ n, abody Γ (orc [e136]) n n92 [ZX (Ty.slice tV) xs] = some (rBo (Sp.rowOK xs)) := by
  have hl : xs.length ≤ 9223372036854775807 := hl
  refine ⟨xs.length + 1, (f92_raw _ xs).trans ?_⟩
  unfold Sp.rowOK
  cases decide ((xs.length : Int) > 8) with
  | true => rfl
  | false =>
    rw [cond_false, cond_false]
    refine all_loop (p := Sp.vOK) (R := rBo) xs (fun m k => f92_L0 (xs.length + 1) m xs k) (fun m k hk => ?_) (fun m k h => ?_) xs.length 0 _ (Nat.zero_add _) (Nat.lt_succ_self _)
    · show f92_L0 _ _ _ _ = _
      rw [f92_L0_step, nat_ge hk, cond_false]
    · show f92_L0 _ _ _ _ = _
      rw [f92_L0_step, nat_lt h, cond_true, guard0, chkT, getD_nat xs k _ h, next64 h hl]
      rfl
theorem e92_ok : Valid PP Γ e92 := valid_len ok (vcons e136_ok vnil) fun a _ hl => e92_core a (hl _ (List.mem_cons_self) _ (List.mem_cons_self)).1
end Go.Proofs.GR.T

set_option maxRecDepth 100000
set_option maxHeartbeats 100000000
namespace Go.Proofs.GR.T
open Go Go.Proofs Go.Proofs.GR
end Go.Proofs.GR.T

namespace Go.Proofs.GR.T
open Go Go.Proofs Go.Proofs.GR
theorem rowOK_iff {xs : List V3} : Sp.rowOK xs = true ↔ xs.length ≤ 8 ∧ ∀ x ∈ xs, Sp.vOK x = true := by
  unfold Sp.rowOK
  by_cases h : (xs.length : Int) > 8
  · rw [decide_eq_true h, cond_true]
    constructor
    · intro h; cases h
    · rintro ⟨h1, _⟩; omega
  · rw [decide_eq_false h, cond_false, allW_mem]
    exact ⟨fun h2 => ⟨by omega, h2⟩, fun h2 => h2.2⟩
end Go.Proofs.GR.T

set_option maxRecDepth 100000
set_option maxHeartbeats 100000000
namespace Go.Proofs.GR.T
open Go Go.Proofs Go.Proofs.GR
def Sp.hi (n j : Int) : Int := IntKind.u8.wrap (n.fdiv ((2 : Int) ^ min (IntKind.u64.wrap (IntKind.i64.wrap ((8 : Int) * j))).toNat (64 : Nat)))
def Sp.key8 (n : Int) : List Int := [IntKind.u8.wrap (((BitVec.ofInt (8 : Nat) (Sp.hi n 7) ^^^ BitVec.ofInt (8 : Nat) (128 : Int)).toNat : Nat) : Int), Sp.hi n 6, Sp.hi n 5, Sp.hi n 4, Sp.hi n 3, Sp.hi n 2, Sp.hi n 1, Sp.hi n 0]
noncomputable def f137_L0 (n m0 : Nat) (y0 y1 : Int) (y2 : List Int) : Option Res := loopAt Γ (orc []) n (121 : Nat) (0 : Nat) [] [Pth.r, Pth.r, Pth.l, Pth.r, Pth.b] m0 (St.mk (ZS Zi y0 :: Zn :: Zn :: Slot.val (Val.one (Cell.own (0 : Nat))) :: ZS Zi y1 :: ZN 20 []) [AObj.row (Ty.int IntKind.u8) y2 true])
theorem f137_raw (n : Nat) (x0 : Int) : abody Γ (orc []) n 121 [ZX Zi x0] = f137_L0 n n x0 (7 : Int) [] := by kernel_rfl

theorem f137_run (x0 : Int) : f137_L0 9 9 x0 7 [] = some (rB (Sp.key8 x0)) := by kernel_rfl
noncomputable def e137 : Ent := { f := n137, ins := [Sh.one cI], outs := [Sh.one (C0.row tB)], upd := [], pre := fun a => true, spec := fun a => Sp.key8 a, wrt := fun _ => () }
theorem e137_ok : Valid PP Γ e137 := valid_of ok vnil fun a _ => ⟨9, (f137_raw 9 a).trans (f137_run a)⟩
def Sp.left (b : List Int) (a : Int) (bad : Bool) : Nat := bif bad then 0 else (b.length - a.toNat) + 1
def Sp.esc : List Int → List Int
  | [] => []
  | x :: r => bif x == 0 then x :: 255 :: Sp.esc r else x :: Sp.esc r
def Sp.kv1 (v : V3) : List Int :=
  IntKind.u8.wrap v.1 :: (bif v.1 == 1 then [IntKind.u8.wrap v.2.1] else bif v.1 == 2 then Sp.key8 v.2.1
    else bif (bif v.1 == 3 then true else v.1 == 4) then Sp.esc (strBytes v.2.2) ++ [0, 1] else [])
def Sp.key : List V3 → List Int
  | [] => []
  | v :: r => Sp.kv1 v ++ Sp.key r
end Go.Proofs.GR.T

set_option maxRecDepth 100000
set_option maxHeartbeats 100000000
namespace Go.Proofs.GR.T
open Go Go.Proofs Go.Proofs.GR
end Go.Proofs.GR.T

namespace Go.Proofs.GR.T
open Go Go.Proofs Go.Proofs.GR
end Go.Proofs.GR.T

namespace Go.Proofs.GR.T
open Go Go.Proofs Go.Proofs.GR
namespace Sp
end Sp
end Go.Proofs.GR.T

namespace Go.Proofs.GR.T
open Go Go.Proofs Go.Proofs.GR
def Sp.lessS (a b : ByteArray) : Bool := Op.bytesLess a.toList b.toList
end Go.Proofs.GR.T

set_option maxRecDepth 100000
set_option maxHeartbeats 100000000
namespace Go.Proofs.GR.T
open Go Go.Proofs Go.Proofs.GR
abbrev V2 := ByteArray × ByteArray
def Sp.may (a b : ByteArray) : List V2 → Bool
  | [] => false
  | x :: r => bif x.1.toList == a.toList then (bif x.2.toList == b.toList then true else Sp.may a b r) else Sp.may a b r
def Sp.txt (xs : List V3) (i : Int) : ByteArray := (xs.getD i.toNat ((0 : Int), (0 : Int), ByteArray.mk #[])).2.2
def Sp.has (xs : List V3) (i : Int) : Bool := bif decide (0 ≤ i) then decide (i < (xs.length : Int)) else false
def Sp.step (gt : ByteArray) (gc : Int) (gs : List V2) (ev : Int) (ct : ByteArray) (old new : List V3) : Bool :=
  bif !(ct.toList == gt.toList) then true else bif ev == 3 then true else bif ev == 2 then
    (bif (Sp.txt old gc).toList == (Sp.txt new gc).toList then true else Sp.may (Sp.txt old gc) (Sp.txt new gc) gs)
  else Sp.may (ByteArray.mk #[]) (Sp.txt new gc) gs
def Sp.stepOK (gt : ByteArray) (gc ev : Int) (ct : ByteArray) (old new : List V3) : Bool :=
  bif !(ct.toList == gt.toList) then true else bif ev == 3 then true else bif Sp.has new gc then (bif ev == 2 then Sp.has old gc else true) else false
end Go.Proofs.GR.T

namespace Go.Proofs.GR.T
open Go Go.Proofs Go.Proofs.GR
end Go.Proofs.GR.T

namespace Go.Proofs.GR.T
open Go Go.Proofs Go.Proofs.GR
namespace Sp
end Sp
end Go.Proofs.GR.T

set_option maxRecDepth 100000
set_option maxHeartbeats 100000000
namespace Go.Proofs.GR.T
open Go Go.Proofs Go.Proofs.GR
def Sp.f134 (x0 x1 : Bool) := (bif x0 then ((-1 : Int), ()) else (bif x1 then ((0 : Int), ()) else ((1 : Int), ())))
noncomputable def e134 : Ent := { f := 119, ins := [Sh.one (C0.dat Ty.bool), Sh.one (C0.dat Ty.bool)], outs := [Sh.one ZI], upd := [], pre := fun a => true, spec := fun a => (Sp.f134 a.1 a.2).1, wrt := fun a => (Sp.f134 a.1 a.2).2 }
def f134_g (v : denS [Sh.one ZI] × denS []) : Res := ⟨mkS [Sh.one ZI] v.1, mkU [] v.2⟩
theorem f134_form (x0 x1 : Bool) : abody Γ (orc []) 0 119 [ZX Ty.bool x0, ZX Ty.bool x1] = some (f134_g (Sp.f134 x0 x1)) := by
  refine Eq.trans (b := bif x0 then ZJ (-1 : Int) else bif x1 then ZJ (0 : Int) else ZJ (1 : Int)) (by kernel_rfl) ?_
  unfold Sp.f134
  exact (cond_plain f134_g (rfl) ((cond_plain f134_g (rfl) (rfl))))
theorem e134_ok : Valid PP Γ e134 := valid_auto ok vnil fun a => f134_form a.1 a.2

def Sp.f133 (x0 x1 : Int) (x2 : ByteArray) (x3 x4 : Int) (x5 : ByteArray) := (bif x0 != x3 then ((Sp.f134 (decide (x0 < x3)) false).1, ()) else (bif x1 != x4 then ((Sp.f134 (decide (x1 < x4)) false).1, ()) else ((Sp.f134 (Op.bytesLess x2.toList x5.toList) (x2.toList == x5.toList)).1, ())))
noncomputable def e133 : Ent := { f := 118, ins := [Sh.agg [C0.dat Zi, C0.dat Zi, C0.dat Ty.str], Sh.agg [C0.dat Zi, C0.dat Zi, C0.dat Ty.str]], outs := [Sh.one ZI], upd := [], pre := fun a => true, spec := fun a => (Sp.f133 a.1.1 a.1.2.1 a.1.2.2 a.2.1 a.2.2.1 a.2.2.2).1, wrt := fun a => (Sp.f133 a.1.1 a.1.2.1 a.1.2.2 a.2.1 a.2.2.1 a.2.2.2).2 }
def f133_g (v : denS [Sh.one ZI] × denS []) : Res := ⟨mkS [Sh.one ZI] v.1, mkU [] v.2⟩
theorem f133_form (x0 x1 : Int) (x2 : ByteArray) (x3 x4 : Int) (x5 : ByteArray) : abody Γ (orc [e134]) 0 118 [XV.mk true [ZC Zi x0, ZC Zi x1, ZC Ty.str x2], XV.mk true [ZC Zi x3, ZC Zi x4, ZC Ty.str x5]] = some (f133_g (Sp.f133 x0 x1 x2 x3 x4 x5)) := by
  refine Eq.trans (b := bif x0 != x3 then ZJ (Sp.f134 (decide (x0 < x3)) false).1 else bif x1 != x4 then ZJ (Sp.f134 (decide (x1 < x4)) false).1 else ZJ (Sp.f134 (Op.bytesLess x2.toList x5.toList) (x2.toList == x5.toList)).1) (by kernel_rfl) ?_
  unfold Sp.f133
  exact (cond_plain f133_g (rfl) ((cond_plain f133_g (rfl) (rfl))))
theorem e133_ok : Valid PP Γ e133 := valid_auto ok (vcons e134_ok vnil) fun a => f133_form a.1.1 a.1.2.1 a.1.2.2 a.2.1 a.2.2.1 a.2.2.2

def Sp.cmpV (x y : V3) : Int := (Sp.f133 x.1 x.2.1 x.2.2 y.1 y.2.1 y.2.2).1
def Sp.cmpN (n m : Nat) : Int := (Sp.f134 (decide ((n : Int) < (m : Int))) ((n : Int) == (m : Int))).1
def Sp.rows : List V3 → List V3 → Int
  | x :: r, y :: s => bif Sp.cmpV x y != 0 then Sp.cmpV x y else Sp.rows r s
  | a, b => Sp.cmpN a.length b.length
noncomputable def f88_L0 (n m0 : Nat) (y0 y1 : List (Int × Int × ByteArray)) (y2 : Int) : Option Res := loopAt Γ (orc [e133, e134]) n (83 : Nat) (0 : Nat) [] [Pth.r, Pth.l, Pth.r, Pth.b] m0 (St.mk (ZS (Zi.pair (Zi.pair Ty.str)).slice y0 :: ZS (Zi.pair (Zi.pair Ty.str)).slice y1 :: ZN 3 (ZS Zi y2 :: ZN 36 [])) [])
theorem f88_L0_step (n m0 : Nat) (y0 y1 : List (Int × Int × ByteArray)) (y2 : Int) : f88_L0 n (m0 + 1) y0 y1 y2 = bif decide (y2 < (↑y0.length : Int)) then bif decide (y2 < (↑y1.length : Int)) then chk (decide ((0 : Int) ≤ y2) && decide (y2 < (↑y0.length : Int))) (chk (decide ((0 : Int) ≤ y2) && decide (y2 < (↑y1.length : Int))) (bif (Sp.f133 (y0.getD y2.toNat ((0 : Int), (0 : Int), ByteArray.mk #[])).1 (y0.getD y2.toNat ((0 : Int), (0 : Int), ByteArray.mk #[])).2.1 (y0.getD y2.toNat ((0 : Int), (0 : Int), ByteArray.mk #[])).2.2 (y1.getD y2.toNat ((0 : Int), (0 : Int), ByteArray.mk #[])).1 (y1.getD y2.toNat ((0 : Int), (0 : Int), ByteArray.mk #[])).2.1 (y1.getD y2.toNat ((0 : Int), (0 : Int), ByteArray.mk #[])).2.2).1 != (0 : Int) then ZJ (Sp.f133 (y0.getD y2.toNat ((0 : Int), (0 : Int), ByteArray.mk #[])).1 (y0.getD y2.toNat ((0 : Int), (0 : Int), ByteArray.mk #[])).2.1 (y0.getD y2.toNat ((0 : Int), (0 : Int), ByteArray.mk #[])).2.2 (y1.getD y2.toNat ((0 : Int), (0 : Int), ByteArray.mk #[])).1 (y1.getD y2.toNat ((0 : Int), (0 : Int), ByteArray.mk #[])).2.1 (y1.getD y2.toNat ((0 : Int), (0 : Int), ByteArray.mk #[])).2.2).1 else f88_L0 n m0 y0 y1 (IntKind.i64.wrap (y2 + (1 : Int))))) else ZJ (Sp.f134 (decide ((↑y0.length : Int) < (↑y1.length : Int))) ((↑y0.length : Int) == (↑y1.length : Int))).1 else ZJ (Sp.f134 (decide ((↑y0.length : Int) < (↑y1.length : Int))) ((↑y0.length : Int) == (↑y1.length : Int))).1 := by kernel_rfl
theorem f88_raw (n : Nat) (x0 x1 : List (Int × Int × ByteArray)) : abody Γ (orc [e133, e134]) n 83 [ZX (Zi.pair (Zi.pair Ty.str)).slice x0, ZX (Zi.pair (Zi.pair Ty.str)).slice x1] = f88_L0 n n x0 x1 (0 : Int) := by kernel_rfl

noncomputable def e88 : Ent := { f := n88, ins := [Sh.one (C0.dat (.slice tV)), Sh.one (C0.dat (.slice tV))], outs := [Sh.one cI], upd := [], pre := fun a => true, spec := fun a => Sp.rows a.1 a.2, wrt := fun _ => () }
theorem cmpN_shift (k a b : Nat) (ha : k ≤ a) (hb : k ≤ b) : Sp.cmpN (a - k) (b - k) = Sp.cmpN a b := by
  unfold Sp.cmpN
  rw [show decide (((a - k : Nat) : Int) < ((b - k : Nat) : Int)) = decide ((a : Int) < (b : Int)) from decide_eq_decide.2 ⟨fun h => by omega, fun h => by omega⟩]
  rw [show (((a - k : Nat) : Int) == ((b - k : Nat) : Int)) = ((a : Int) == (b : Int)) by
    rw [Bool.eq_iff_iff]; simp only [beq_iff_eq]; exact ⟨fun h => by omega, fun h => by omega⟩]
theorem f88_loop (n : Nat) (xs ys : List V3) (hl : xs.length ≤ 9223372036854775807) : ∀ (d k m : Nat), k + d = xs.length → k ≤ ys.length → d < m → f88_L0 n m xs ys k = some (rI (Sp.rows (xs.drop k) (ys.drop k))) := by
  intro d
  induction d with
  | zero =>
    intro k m hk hy hm
    obtain ⟨m, rfl⟩ := succ_of hm
    rw [f88_L0_step, nat_ge (by omega), cond_false, List.drop_of_length_le (show xs.length ≤ k by omega)]
    have e : Sp.rows [] (ys.drop k) = Sp.cmpN 0 (ys.drop k).length := by cases ys.drop k <;> rfl
    rw [e, List.length_drop, show (0 : Nat) = xs.length - k by omega, cmpN_shift k _ _ (by omega) hy]
    rfl
  | succ d ih =>
    intro k m hk hy hm
    obtain ⟨m, rfl⟩ := succ_of hm
    have h : k < xs.length := by omega
    rw [f88_L0_step, nat_lt h, cond_true]
    by_cases h2 : k < ys.length
    · rw [nat_lt h2, cond_true, guard0, chkT, chkT, getD_nat xs k _ h, getD_nat ys k _ h2, next64 h hl, ih (k + 1) m (by omega) (by omega) (by omega), List.drop_eq_getElem_cons h, List.drop_eq_getElem_cons h2, Sp.rows]
      show (bif Sp.cmpV xs[k] ys[k] != 0 then some (rI (Sp.cmpV xs[k] ys[k])) else _) = _
      cases Sp.cmpV xs[k] ys[k] != 0 <;> rfl
    · rw [nat_ge (show ys.length ≤ k by omega), cond_false, List.drop_of_length_le (show ys.length ≤ k by omega)]
      have e : Sp.rows (xs.drop k) [] = Sp.cmpN (xs.drop k).length 0 := by cases xs.drop k <;> rfl
      rw [e, List.length_drop, show (0 : Nat) = ys.length - k by omega, cmpN_shift k _ _ (by omega) hy]
      rfl
theorem e88_ok : Valid PP Γ e88 := valid_len ok (vcons e133_ok (vcons e134_ok vnil)) fun a _ hl => ⟨List.length (α := V3) a.1 + 1, (f88_raw _ a.1 a.2).trans (f88_loop _ a.1 a.2 (hl _ (List.mem_cons_self) _ (List.mem_cons_self)).1 (List.length (α := V3) a.1) 0 _ (Nat.zero_add _) (Nat.zero_le _) (Nat.lt_succ_self _))⟩
end Go.Proofs.GR.T


namespace Go.Proofs.GR.T
open Go Go.Proofs Go.Proofs.GR
abbrev VA := Int × Int × ByteArray × ByteArray × V3
abbrev RT := Rose VA
namespace Sp
def nsum : List Nat → Nat
  | [] => 0
  | n :: r => n + nsum r
def rsz {α : Type} : Rose α → Nat := Rose.fold fun _ ns => 2 + nsum ns
def rszs {α : Type} (l : List (Rose α)) : Nat := 1 + nsum (l.map rsz)
def rsz1 {α : Type} (l : List (Rose α)) : Nat := 1 + rszs l
end Sp
theorem condB (c a b : Bool) : some (rBo (bif c then a else b)) = bif c then some (rBo a) else some (rBo b) := by cases c <;> rfl
end Go.Proofs.GR.T

set_option maxRecDepth 100000
set_option maxHeartbeats 100000000
namespace Go.Proofs.GR.T
open Go Go.Proofs Go.Proofs.GR
end Go.Proofs.GR.T

set_option maxRecDepth 100000
set_option maxHeartbeats 100000000
namespace Go.Proofs.GR.T
open Go Go.Proofs Go.Proofs.GR
mutual
def Sp.fitT : RT → Bool
  | .mk _ ks => Sp.fitTs ks
def Sp.fitTs : List RT → Bool
  | [] => true
  | r :: l => Nat.ble (r :: l).length 1000000000000 && (Sp.fitT r && Sp.fitTs l)
end
def Sp.eqVt (x y : V3) : Bool := (Sp.f86 x.1 x.2.1 x.2.2 y.1 y.2.1 y.2.2).1
def Sp.eqA (a b : VA) : Bool :=
  bif a.1 != b.1 then false else bif a.2.1 != b.2.1 then false else bif !(a.2.2.1.toList == b.2.2.1.toList) then false else bif !(a.2.2.2.1.toList == b.2.2.2.1.toList) then false else bif !Sp.eqVt a.2.2.2.2 b.2.2.2.2 then false else true
mutual
def Sp.eqT : RT → RT → Bool
  | .mk a ks, .mk b js => bif !Sp.eqA a b then false else Sp.eqTs ks js
def Sp.eqTs : List RT → List RT → Bool
  | [], [] => true
  | r :: l, s :: m => bif !Sp.eqT r s then false else Sp.eqTs l m
  | _, _ => false
end
end Go.Proofs.GR.T

set_option maxRecDepth 100000
set_option maxHeartbeats 100000000
namespace Go.Proofs.GR.T
open Go Go.Proofs Go.Proofs.GR
mutual
def Sp.wT : RT → Nat
  | .mk _ ks => 7 + Sp.wTs ks
def Sp.wTs : List RT → Nat
  | [] => 0
  | r :: l => Sp.wT r + Sp.wTs l
end
def Sp.markA (k : Int) : VA := (k, k + 1, Sp.mText (k + 2), Sp.mText (k + 3), (k + 4, k + 5, Sp.mText (k + 6)))
mutual
def Sp.markT : RT → Int → RT
  | .mk _ ks, k => .mk (Sp.markA k) (Sp.markTs ks (k + 7))
def Sp.markTs : List RT → Int → List RT
  | [], _ => []
  | r :: l, k => Sp.markT r k :: Sp.markTs l (k + (Sp.wT r : Int))
end
end Go.Proofs.GR.T

set_option maxRecDepth 100000
set_option maxHeartbeats 100000000
namespace Go.Proofs.GR.T
open Go Go.Proofs Go.Proofs.GR
def Sp.heldA (a : VA) (k : Int) : Bool :=
  bif a.1 != k then false else bif a.2.1 != k + 1 then false else bif !(a.2.2.1.toList == (Sp.mText (k + 2)).toList) then false else bif !(a.2.2.2.1.toList == (Sp.mText (k + 3)).toList) then false else
  bif a.2.2.2.2.1 != k + 4 then false else bif a.2.2.2.2.2.1 != k + 5 then false else bif !(a.2.2.2.2.2.2.toList == (Sp.mText (k + 6)).toList) then false else true
mutual
def Sp.heldT : RT → Int → Int
  | .mk a ks, k => bif Sp.heldA a k then Sp.heldTs ks (k + 7) else -1
def Sp.heldTs : List RT → Int → Int
  | [], k => k
  | r :: l, k => bif decide (Sp.heldT r k < 0) then -1 else Sp.heldTs l (Sp.heldT r k)
end
end Go.Proofs.GR.T

set_option maxRecDepth 100000
set_option maxHeartbeats 100000000
namespace Go.Proofs.GR.T
open Go Go.Proofs Go.Proofs.GR
def Sp.f217 (x0 : Int) := (bif decide (x0 ≥ (97 : Int)) then (bif decide (x0 ≤ (122 : Int)) then (true, ()) else (bif decide (x0 ≥ (65 : Int)) then (bif decide (x0 ≤ (90 : Int)) then (true, ()) else (x0 == (95 : Int), ())) else (x0 == (95 : Int), ()))) else (bif decide (x0 ≥ (65 : Int)) then (bif decide (x0 ≤ (90 : Int)) then (true, ()) else (x0 == (95 : Int), ())) else (x0 == (95 : Int), ())))
noncomputable def e217 : Ent := { f := 148, ins := [Sh.one (C0.dat (Ty.int IntKind.u8))], outs := [Sh.one (C0.dat Ty.bool)], upd := [], pre := fun a => true, spec := fun a => (Sp.f217 a).1, wrt := fun a => (Sp.f217 a).2 }
def f217_g (v : denS [Sh.one (C0.dat Ty.bool)] × denS []) : Res := ⟨mkS [Sh.one (C0.dat Ty.bool)] v.1, mkU [] v.2⟩
theorem f217_form (x0 : Int) : abody Γ (orc []) 0 148 [ZX (Ty.int IntKind.u8) x0] = some (f217_g (Sp.f217 x0)) := by
  refine Eq.trans (b := bif decide (x0 ≥ (97 : Int)) then bif decide (x0 ≤ (122 : Int)) then Zt else bif decide (x0 ≥ (65 : Int)) then bif decide (x0 ≤ (90 : Int)) then Zt else ZB (x0 == (95 : Int)) else ZB (x0 == (95 : Int)) else bif decide (x0 ≥ (65 : Int)) then bif decide (x0 ≤ (90 : Int)) then Zt else ZB (x0 == (95 : Int)) else ZB (x0 == (95 : Int))) (by kernel_rfl) ?_
  unfold Sp.f217
  exact (cond_plain f217_g ((cond_plain f217_g (rfl) ((cond_plain f217_g ((cond_plain f217_g (rfl) (rfl))) (rfl))))) ((cond_plain f217_g ((cond_plain f217_g (rfl) (rfl))) (rfl))))
theorem e217_ok : Valid PP Γ e217 := valid_auto ok vnil fun a => f217_form a

def Sp.f218 (x0 : Int) := (bif decide (x0 ≥ (48 : Int)) then (decide (x0 ≤ (57 : Int)), ()) else (false, ()))
noncomputable def e218 : Ent := { f := 149, ins := [Sh.one (C0.dat (Ty.int IntKind.u8))], outs := [Sh.one (C0.dat Ty.bool)], upd := [], pre := fun a => true, spec := fun a => (Sp.f218 a).1, wrt := fun a => (Sp.f218 a).2 }
def f218_g (v : denS [Sh.one (C0.dat Ty.bool)] × denS []) : Res := ⟨mkS [Sh.one (C0.dat Ty.bool)] v.1, mkU [] v.2⟩
theorem f218_form (x0 : Int) : abody Γ (orc []) 0 149 [ZX (Ty.int IntKind.u8) x0] = some (f218_g (Sp.f218 x0)) := by
  refine Eq.trans (b := bif decide (x0 ≥ (48 : Int)) then ZB (decide (x0 ≤ (57 : Int))) else Zf) (by kernel_rfl) ?_
  unfold Sp.f218
  exact (cond_plain f218_g (rfl) (rfl))
theorem e218_ok : Valid PP Γ e218 := valid_auto ok vnil fun a => f218_form a

def Sp.wordB (b : Int) : Bool := bif !(Sp.f217 b).1 then (Sp.f218 b).1 else true
def Sp.isName : List Int → Bool
  | [] => false
  | b :: r => bif decide (r.length + 1 > 40) then false else bif !(Sp.f217 b).1 then false else Sp.allW Sp.wordB r
noncomputable def f214_L0 (n m0 : Nat) (y0 : ByteArray) (y1 : Int) : Option Res := loopAt Γ (orc [e217, e218]) n (147 : Nat) (0 : Nat) [] [Pth.r, Pth.r, Pth.l, Pth.r, Pth.b] m0 (St.mk (ZS Ty.str y0 :: Zn :: Zn :: ZS Zi y1 :: ZN 32 []) [])
theorem f214_L0_step (n m0 : Nat) (y0 : ByteArray) (y1 : Int) : f214_L0 n (m0 + 1) y0 y1 = bif decide (y1 < (↑y0.size : Int)) then chk (decide ((0 : Int) ≤ y1) && decide (y1 < (↑y0.size : Int))) (bif !(Sp.f217 ((strBytes y0).getD y1.toNat (0 : Int))).1 then chk (decide ((0 : Int) ≤ y1) && decide (y1 < (↑y0.size : Int))) (bif !(Sp.f218 ((strBytes y0).getD y1.toNat (0 : Int))).1 then Zf else f214_L0 n m0 y0 (IntKind.i64.wrap (y1 + (1 : Int)))) else f214_L0 n m0 y0 (IntKind.i64.wrap (y1 + (1 : Int)))) else Zt := by kernel_rfl
theorem f214_raw (n : Nat) (x0 : ByteArray) : abody Γ (orc [e217, e218]) n 147 [ZX Ty.str x0] = bif decide ((↑x0.size : Int) < (1 : Int)) then Zf else bif decide ((↑x0.size : Int) > (40 : Int)) then Zf else chk (decide ((0 : Int) < (↑x0.size : Int))) (bif !(Sp.f217 ((strBytes x0).getD (0 : Nat) (0 : Int))).1 then Zf else f214_L0 n n x0 (1 : Int)) := by kernel_rfl

noncomputable def e214 : Ent := { f := n214, ins := [Sh.one cS], outs := [Sh.one cB], upd := [], pre := fun _ => true, spec := fun a => Sp.isName (strBytes a), wrt := fun _ => () }
theorem e214_core (t : ByteArray) : ∃ n, abody Γ (orc [e217, e218]) n n214 [ZX Ty.str t] = some (rBo (Sp.isName (strBytes t))) := by
  refine ⟨41, (f214_raw _ t).trans ?_⟩
  have hs := strBytes_len t
  cases hb : strBytes t with
  | nil =>
    rw [hb] at hs
    have hs : 0 = t.size := hs
    rw [decide_eq_true (show (t.size : Int) < 1 by omega)]
    rfl
  | cons b r =>
    rw [hb, List.length_cons] at hs
    rw [decide_eq_false (show ¬ (t.size : Int) < 1 by omega), cond_false, decide_eq_true (show (0 : Int) < t.size by omega), chkT]
    show _ = some (rBo (bif decide (r.length + 1 > 40) then false else bif !(Sp.f217 b).1 then false else Sp.allW Sp.wordB r))
    rw [condB, condB]
    by_cases hc : (t.size : Int) > 40
    · rw [decide_eq_true hc, decide_eq_true (show r.length + 1 > 40 by omega)]; rfl
    · rw [decide_eq_false hc, decide_eq_false (show ¬ r.length + 1 > 40 by omega), cond_false, cond_false, List.getD_cons_zero]
      cases (Sp.f217 b).1 with
      | false => rfl
      | true =>
        rw [Bool.not_true, cond_false, cond_false]
        have := all_loop (p := Sp.wordB) (R := rBo) (b :: r) (fun m k => f214_L0 41 m t k) (fun m k hk => by
          show f214_L0 _ _ _ _ = _
          rw [f214_L0_step, ← hs, nat_ge (by simpa using hk), cond_false]) (fun m k h => by
          show f214_L0 _ _ _ _ = _
          have h' : k < r.length + 1 := by simpa using h
          rw [f214_L0_step, ← hs, nat_lt h', cond_true, guard0, chkT, chkT, hb, getD_nat (b :: r) k _ h, next64 h' (by omega)]
          unfold Sp.wordB
          cases (Sp.f217 (b :: r)[k]).1 <;> cases (Sp.f218 (b :: r)[k]).1 <;> rfl) r.length 1 41 (by simp; omega) (by omega)
        exact this
theorem e214_ok : Valid PP Γ e214 := valid_of ok (vcons e217_ok (vcons e218_ok vnil)) fun a _ => e214_core a
def Sp.f208 (x0 : ByteArray) := (Sp.isName (strBytes x0), ())
noncomputable def e208 : Ent := { f := 144, ins := [Sh.one (C0.dat Ty.str)], outs := [Sh.one (C0.dat Ty.bool)], upd := [], pre := fun a => true, spec := fun a => (Sp.f208 a).1, wrt := fun a => (Sp.f208 a).2 }
def f208_g (v : denS [Sh.one (C0.dat Ty.bool)] × denS []) : Res := ⟨mkS [Sh.one (C0.dat Ty.bool)] v.1, mkU [] v.2⟩
theorem f208_form (x0 : ByteArray) : abody Γ (orc [e214]) 0 144 [ZX Ty.str x0] = some (f208_g (Sp.f208 x0)) := by
  refine Eq.trans (b := ZB (Sp.isName (strBytes x0))) (by kernel_rfl) ?_
  unfold Sp.f208
  exact rfl
theorem e208_ok : Valid PP Γ e208 := valid_auto ok (vcons e214_ok vnil) fun a => f208_form a

def Sp.f209 := ([ByteArray.mk #[115, 101, 108, 101, 99, 116], ByteArray.mk #[102, 114, 111, 109], ByteArray.mk #[106, 111, 105, 110], ByteArray.mk #[111, 110], ByteArray.mk #[119, 104, 101, 114, 101], ByteArray.mk #[103, 114, 111, 117, 112], ByteArray.mk #[98, 121], ByteArray.mk #[111, 114, 100, 101, 114], ByteArray.mk #[108, 105, 109, 105, 116], ByteArray.mk #[100, 101, 115, 99], ByteArray.mk #[105, 110, 115, 101, 114, 116], ByteArray.mk #[105, 110, 116, 111], ByteArray.mk #[118, 97, 108, 117, 101, 115], ByteArray.mk #[117, 112, 100, 97, 116, 101], ByteArray.mk #[115, 101, 116], ByteArray.mk #[100, 101, 108, 101, 116, 101], ByteArray.mk #[97, 110, 100], ByteArray.mk #[111, 114], ByteArray.mk #[110, 111, 116], ByteArray.mk #[105, 115], ByteArray.mk #[110, 117, 108, 108], ByteArray.mk #[116, 114, 117, 101], ByteArray.mk #[102, 97, 108, 115, 101], ByteArray.mk #[99, 111, 117, 110, 116], ByteArray.mk #[115, 117, 109], ByteArray.mk #[109, 105, 110], ByteArray.mk #[109, 97, 120], ByteArray.mk #[97, 115]], ())
noncomputable def e209 : Ent := { f := 145, ins := [], outs := [Sh.one (C0.row Ty.str)], upd := [], pre := fun a => true, spec := fun a => (Sp.f209).1, wrt := fun a => (Sp.f209).2 }
def f209_g (v : denS [Sh.one (C0.row Ty.str)] × denS []) : Res := ⟨mkS [Sh.one (C0.row Ty.str)] v.1, mkU [] v.2⟩
theorem f209_raw : abody Γ (orc []) 0 145 [] = some (Res.mk [XV.mk false [X.c (X0.row Ty.str [ByteArray.mk #[115, 101, 108, 101, 99, 116], ByteArray.mk #[102, 114, 111, 109], ByteArray.mk #[106, 111, 105, 110], ByteArray.mk #[111, 110], ByteArray.mk #[119, 104, 101, 114, 101], ByteArray.mk #[103, 114, 111, 117, 112], ByteArray.mk #[98, 121], ByteArray.mk #[111, 114, 100, 101, 114], ByteArray.mk #[108, 105, 109, 105, 116], ByteArray.mk #[100, 101, 115, 99], ByteArray.mk #[105, 110, 115, 101, 114, 116], ByteArray.mk #[105, 110, 116, 111], ByteArray.mk #[118, 97, 108, 117, 101, 115], ByteArray.mk #[117, 112, 100, 97, 116, 101], ByteArray.mk #[115, 101, 116], ByteArray.mk #[100, 101, 108, 101, 116, 101], ByteArray.mk #[97, 110, 100], ByteArray.mk #[111, 114], ByteArray.mk #[110, 111, 116], ByteArray.mk #[105, 115], ByteArray.mk #[110, 117, 108, 108], ByteArray.mk #[116, 114, 117, 101], ByteArray.mk #[102, 97, 108, 115, 101], ByteArray.mk #[99, 111, 117, 110, 116], ByteArray.mk #[115, 117, 109], ByteArray.mk #[109, 105, 110], ByteArray.mk #[109, 97, 120], ByteArray.mk #[97, 115]] true)]] []) := by kernel_rfl
theorem f209_form : (some (Res.mk [XV.mk false [X.c (X0.row Ty.str [ByteArray.mk #[115, 101, 108, 101, 99, 116], ByteArray.mk #[102, 114, 111, 109], ByteArray.mk #[106, 111, 105, 110], ByteArray.mk #[111, 110], ByteArray.mk #[119, 104, 101, 114, 101], ByteArray.mk #[103, 114, 111, 117, 112], ByteArray.mk #[98, 121], ByteArray.mk #[111, 114, 100, 101, 114], ByteArray.mk #[108, 105, 109, 105, 116], ByteArray.mk #[100, 101, 115, 99], ByteArray.mk #[105, 110, 115, 101, 114, 116], ByteArray.mk #[105, 110, 116, 111], ByteArray.mk #[118, 97, 108, 117, 101, 115], ByteArray.mk #[117, 112, 100, 97, 116, 101], ByteArray.mk #[115, 101, 116], ByteArray.mk #[100, 101, 108, 101, 116, 101], ByteArray.mk #[97, 110, 100], ByteArray.mk #[111, 114], ByteArray.mk #[110, 111, 116], ByteArray.mk #[105, 115], ByteArray.mk #[110, 117, 108, 108], ByteArray.mk #[116, 114, 117, 101], ByteArray.mk #[102, 97, 108, 115, 101], ByteArray.mk #[99, 111, 117, 110, 116], ByteArray.mk #[115, 117, 109], ByteArray.mk #[109, 105, 110], ByteArray.mk #[109, 97, 120], ByteArray.mk #[97, 115]] true)]] [])) = some (f209_g (Sp.f209)) := by
  unfold Sp.f209
  exact rfl
theorem e209_ok : Valid PP Γ e209 := valid_auto ok vnil fun a => (f209_raw ).trans (f209_form )

noncomputable def f194_L0 (n m0 : Nat) (y0 : ByteArray) (y1 : Int) : Option Res := loopAt Γ (orc [e208, e209]) n (136 : Nat) (0 : Nat) [] [Pth.r, Pth.r, Pth.l, Pth.r, Pth.b] m0 (St.mk (ZS Ty.str y0 :: Zn :: Zn :: ZS Zi y1 :: ZN 15 []) [])
theorem f194_L0_step (n m0 : Nat) (y0 : ByteArray) (y1 : Int) : f194_L0 n (m0 + 1) y0 y1 = bif decide (y1 < (28 : Int)) then chk (decide ((0 : Int) ≤ y1) && decide (y1 < (28 : Int))) (bif (Sp.f209.1.getD y1.toNat (ByteArray.mk #[])).toList == y0.toList then Zf else f194_L0 n m0 y0 (IntKind.i64.wrap (y1 + (1 : Int)))) else Zt := by kernel_rfl
theorem f194_raw (n : Nat) (x0 : ByteArray) : abody Γ (orc [e208, e209]) n 136 [ZX Ty.str x0] = bif !(Sp.f208 x0).1 then Zf else f194_L0 n n x0 (0 : Int) := by kernel_rfl

def Sp.isFreeS (t : ByteArray) : Bool := bif !(Sp.isName (strBytes t)) then false else Sp.allW (fun w : ByteArray => !(w.toList == t.toList)) Sp.f209.1
noncomputable def e194 : Ent := { f := n194, ins := [Sh.one cS], outs := [Sh.one cB], upd := [], pre := fun _ => true, spec := fun a => Sp.isFreeS a, wrt := fun _ => () }
theorem words_len : List.length Sp.f209.1 = 28 := rfl
theorem e194_core (t : ByteArray) : ∃ n, abody Γ (orc [e208, e209]) n n194 [ZX Ty.str t] = some (rBo (Sp.isFreeS t)) := by
  refine ⟨29, (f194_raw _ t).trans ?_⟩
  unfold Sp.isFreeS
  rw [condB]
  show (bif !(Sp.isName (strBytes t)) then _ else _) = _
  have st := fun m k => f194_L0_step 29 m t k
  have hl := words_len
  revert st hl
  generalize Sp.f209.1 = ws
  intro st hl
  cases Sp.isName (strBytes t) with
  | false => rfl
  | true =>
    have := all_loop (p := fun w : ByteArray => !(w.toList == t.toList)) (R := rBo) ws (fun m k => f194_L0 29 m t k) (fun m k hk => by
      show f194_L0 _ _ _ _ = _
      rw [st, decide_eq_false (show ¬ (k : Int) < 28 by omega), cond_false]) (fun m k h => by
      show f194_L0 _ _ _ _ = _
      have h' : k < 28 := by omega
      rw [st, decide_eq_true (show (k : Int) < 28 by omega), cond_true, guard0, chkT, getD_nat ws k _ h, next64 h' (by omega), Bool.not_not]) 28 0 29 (by omega) (by omega)
    rw [List.drop_zero] at this
    rw [Bool.not_true, cond_false, cond_false]
    exact this
theorem e194_ok : Valid PP Γ e194 := valid_of ok (vcons e208_ok (vcons e209_ok vnil)) fun a _ => e194_core a
end Go.Proofs.GR.T

namespace Go.Proofs.GR.T
open Go Go.Proofs Go.Proofs.GR
def Sp.anyW {α : Type} (p : α → Bool) : List α → Bool
  | [] => false
  | x :: r => bif p x then true else Sp.anyW p r
theorem idx_any {α : Type} (p : α → Bool) : ∀ (xs : List α) (k : Int), 0 ≤ k → decide (Sp.idx p xs k ≥ 0) = Sp.anyW p xs
  | [], k, _ => rfl
  | x :: r, k, h => by
    rw [Sp.idx, Sp.anyW]
    cases p x with
    | true => exact decide_eq_true h
    | false => exact idx_any p r (k + 1) (by omega)
end Go.Proofs.GR.T

set_option maxRecDepth 100000
set_option maxHeartbeats 100000000
namespace Go.Proofs.GR.T
open Go Go.Proofs Go.Proofs.GR
def Sp.predL (l : Int) : Int := IntKind.i64.wrap (l - 1)
mutual
def Sp.deepT : RT → Int → Bool
  | .mk _ ks, l => bif l == 0 then true else Sp.deepTs ks l
def Sp.deepTs : List RT → Int → Bool
  | [], _ => false
  | r :: k, l => bif Sp.deepT r (Sp.predL l) then true else Sp.deepTs k l
end
def Sp.m4 (k : Nat) (l : List RT) : Nat := 4 * Sp.rszs l + k
def Sp.m1 (k : Nat) (l : List RT) : Nat := 4 * Sp.rsz1 l + k
mutual
def Sp.cntT : RT → Nat
  | .mk _ ks => 1 + Sp.cntTs ks
def Sp.cntTs : List RT → Nat
  | [] => 0
  | r :: l => Sp.cntT r + Sp.cntTs l
end
def Sp.succL (l : Int) : Int := IntKind.i64.wrap (l + 1)
mutual
def Sp.leftT : RT → Int → Int → Int
  | .mk _ ks, l, d => bif decide (d > 20) then -1 else Sp.leftTs ks (Sp.predL l) d
def Sp.leftTs : List RT → Int → Int → Int
  | [], l, _ => l
  | r :: k, l, d => bif decide (l ≥ 0) then Sp.leftTs k (Sp.leftT r l (Sp.succL d)) d else l
end
end Go.Proofs.GR.T

set_option maxRecDepth 100000
set_option maxHeartbeats 100000000
namespace Go.Proofs.GR.T
open Go Go.Proofs Go.Proofs.GR
end Go.Proofs.GR.T

set_option maxRecDepth 100000
set_option maxHeartbeats 100000000
namespace Go.Proofs.GR.T
open Go Go.Proofs Go.Proofs.GR
end Go.Proofs.GR.T

