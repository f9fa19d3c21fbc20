/-
  No statement is proved here: what the functions of the law answer, told as plain functions, and that the law's answer is always true.
  No condition.
-/
import Derived.Test.YtpljgmackfjkdaaTBursti
set_option maxRecDepth 3000000
set_option maxHeartbeats 100000000
namespace Go.Proofs.GR.T
open Go Go.Proofs Go.Proofs.GR
abbrev Src : Type := List Int × Int × Int
abbrev shSrc : Sh := Sh.box t169 [C0.dat (.slice (.int .u8)), C0.dat (.int .i64), C0.dat (.int .i64)]
def Sp.srcP (k : Nat) (s : Src) : Bool := yes2 (Sp.isBytes s.1) (yes2 (Nat.ble s.1.length 1048576) (yes2 (decide (0 ≤ s.2.1)) (yes2 (decide (s.2.1 + (k : Int) ≤ 2000000)) (yes2 (decide (0 ≤ s.2.2)) (decide (s.2.2 < 2147483648))))))
theorem srcP_is {k : Nat} {s : Src} (h : Sp.srcP k s = true) : Sp.isBytes s.1 = true ∧ s.1.length ≤ 1048576 ∧ 0 ≤ s.2.1 ∧ s.2.1 + (k : Int) ≤ 2000000 ∧ 0 ≤ s.2.2 ∧ s.2.2 < 2147483648 := by
  obtain ⟨h1, h⟩ := yes2_true h
  obtain ⟨h2, h⟩ := yes2_true h
  obtain ⟨h3, h⟩ := yes2_true h
  obtain ⟨h4, h⟩ := yes2_true h
  obtain ⟨h5, h6⟩ := yes2_true h
  exact ⟨h1, Nat.le_of_ble_eq_true h2, of_decide_eq_true h3, of_decide_eq_true h4, of_decide_eq_true h5, of_decide_eq_true h6⟩
theorem srcP_mk {k : Nat} {s : Src} (h1 : Sp.isBytes s.1 = true) (h2 : s.1.length ≤ 1048576) (h3 : 0 ≤ s.2.1) (h4 : s.2.1 + (k : Int) ≤ 2000000) (h5 : 0 ≤ s.2.2) (h6 : s.2.2 < 2147483648) : Sp.srcP k s = true :=
  yes2Q h1 (yes2Q (Nat.ble_eq_true_of_le h2) (yes2Q (decide_eq_true h3) (yes2Q (decide_eq_true h4) (yes2Q (decide_eq_true h5) (decide_eq_true h6)))))
theorem srcP_le {k l : Nat} {s : Src} (h : Sp.srcP k s = true) (hl : l ≤ k) : Sp.srcP l s = true := by
  obtain ⟨a, b, c, d, e, f⟩ := srcP_is h
  exact srcP_mk a b c (by omega) e f
def Sp.f176x_pre (x0 : List Int) (x1 x2 : Int) : Bool := (bif decide (IntKind.i64.wrap (x1 + (1 : Int)) ≤ (↑x0.length : Int)) then (decide ((0 : Int) ≤ IntKind.i64.wrap (IntKind.i64.wrap (x1 + (1 : Int)) - (1 : Int))) && decide (IntKind.i64.wrap (IntKind.i64.wrap (x1 + (1 : Int)) - (1 : Int)) < (↑x0.length : Int)) && (decide ((0 : Int) ≤ IntKind.i64.wrap (IntKind.i64.wrap (x1 + (1 : Int)) - (1 : Int))) && decide (IntKind.i64.wrap (IntKind.i64.wrap (x1 + (1 : Int)) - (1 : Int)) < (↑x0.length : Int)))) else true)
def Sp.f176x (x0 : List Int) (x1 x2 : Int) := (bif decide (IntKind.i64.wrap (x1 + (1 : Int)) ≤ (↑x0.length : Int)) then (IntKind.i64.wrap (x0.getD (IntKind.i64.wrap (IntKind.i64.wrap (x1 + (1 : Int)) - (1 : Int))).toNat (0 : Int)), x0, IntKind.i64.wrap (x1 + (1 : Int)), (IntKind.i64.wrap (IntKind.i64.wrap (IntKind.i64.wrap (x2 * (31 : Int)) + IntKind.i64.wrap (x0.getD (IntKind.i64.wrap (IntKind.i64.wrap (x1 + (1 : Int)) - (1 : Int))).toNat (0 : Int))) + (7 : Int))).tmod (2147483648 : Int)) else (bif decide (IntKind.i64.wrap (x1 + (1 : Int)) > (3000 : Int)) then ((0 : Int), x0, IntKind.i64.wrap (x1 + (1 : Int)), x2) else ((IntKind.i64.wrap (((IntKind.i64.wrap (IntKind.i64.wrap (x2 * (1103515245 : Int)) + (12345 : Int))).tmod (2147483648 : Int)).tdiv (65536 : Int))).tmod (256 : Int), x0, IntKind.i64.wrap (x1 + (1 : Int)), (IntKind.i64.wrap (IntKind.i64.wrap (x2 * (1103515245 : Int)) + (12345 : Int))).tmod (2147483648 : Int))))
noncomputable def e176x : Ent := { f := 122, ins := [Sh.box (113 : Nat) [C0.dat (Ty.int IntKind.u8).slice, C0.dat Zi, C0.dat Zi]], outs := [Sh.one ZI], upd := [Sh.box (113 : Nat) [C0.dat (Ty.int IntKind.u8).slice, C0.dat Zi, C0.dat Zi]], pre := fun a => Sp.f176x_pre a.1 a.2.1 a.2.2, spec := fun a => (Sp.f176x a.1 a.2.1 a.2.2).1, wrt := fun a => (Sp.f176x a.1 a.2.1 a.2.2).2 }
def f176x_g (v : denS [Sh.one ZI] × denS [Sh.box (113 : Nat) [C0.dat (Ty.int IntKind.u8).slice, C0.dat Zi, C0.dat Zi]]) : Res := ⟨mkS [Sh.one ZI] v.1, mkU [Sh.box (113 : Nat) [C0.dat (Ty.int IntKind.u8).slice, C0.dat Zi, C0.dat Zi]] v.2⟩
theorem f176x_form (x0 : List Int) (x1 x2 : Int) : abody Γ (orc []) 0 122 [XV.mk false [X.box (113 : Nat) [X0.dat (Ty.int IntKind.u8).slice x0, X0.dat Zi x1, X0.dat Zi x2]]] = chk (Sp.f176x_pre x0 x1 x2) (some (f176x_g (Sp.f176x x0 x1 x2))) := by
  refine Eq.trans (b := bif decide (IntKind.i64.wrap (x1 + (1 : Int)) ≤ (↑x0.length : Int)) then chk (decide ((0 : Int) ≤ IntKind.i64.wrap (IntKind.i64.wrap (x1 + (1 : Int)) - (1 : Int))) && decide (IntKind.i64.wrap (IntKind.i64.wrap (x1 + (1 : Int)) - (1 : Int)) < (↑x0.length : Int))) (chk (decide ((0 : Int) ≤ IntKind.i64.wrap (IntKind.i64.wrap (x1 + (1 : Int)) - (1 : Int))) && decide (IntKind.i64.wrap (IntKind.i64.wrap (x1 + (1 : Int)) - (1 : Int)) < (↑x0.length : Int))) (some (Res.mk [ZX Zi (IntKind.i64.wrap (x0.getD (IntKind.i64.wrap (IntKind.i64.wrap (x1 + (1 : Int)) - (1 : Int))).toNat (0 : Int)))] [X.box (113 : Nat) [X0.dat (Ty.int IntKind.u8).slice x0, X0.dat Zi (IntKind.i64.wrap (x1 + (1 : Int))), X0.dat Zi ((IntKind.i64.wrap (IntKind.i64.wrap (IntKind.i64.wrap (x2 * (31 : Int)) + IntKind.i64.wrap (x0.getD (IntKind.i64.wrap (IntKind.i64.wrap (x1 + (1 : Int)) - (1 : Int))).toNat (0 : Int))) + (7 : Int))).tmod (2147483648 : Int))]]))) else bif decide (IntKind.i64.wrap (x1 + (1 : Int)) > (3000 : Int)) then some (Res.mk [ZX Zi (0 : Int)] [X.box (113 : Nat) [X0.dat (Ty.int IntKind.u8).slice x0, X0.dat Zi (IntKind.i64.wrap (x1 + (1 : Int))), X0.dat Zi x2]]) else some (Res.mk [ZX Zi ((IntKind.i64.wrap (((IntKind.i64.wrap (IntKind.i64.wrap (x2 * (1103515245 : Int)) + (12345 : Int))).tmod (2147483648 : Int)).tdiv (65536 : Int))).tmod (256 : Int))] [X.box (113 : Nat) [X0.dat (Ty.int IntKind.u8).slice x0, X0.dat Zi (IntKind.i64.wrap (x1 + (1 : Int))), X0.dat Zi ((IntKind.i64.wrap (IntKind.i64.wrap (x2 * (1103515245 : Int)) + (12345 : Int))).tmod (2147483648 : Int))]])) (by kernel_rfl) ?_
  unfold Sp.f176x_pre Sp.f176x
  exact (cond_step f176x_g ((chk_step ((chk_last (rfl))))) ((lift_plain ((cond_plain f176x_g (rfl) (rfl))))))
theorem e176x_ok : Valid PP Γ e176x := valid_auto ok vnil fun a => f176x_form a.1 a.2.1 a.2.2

def Sp.by (s : Src) : Int × Src := Sp.f176x s.1 s.2.1 s.2.2
theorem by_is {k : Nat} {s : Src} (h : Sp.srcP (k + 1) s = true) : Sp.srcP k (Sp.by s).2 = true ∧ 0 ≤ (Sp.by s).1 ∧ (Sp.by s).1 < 256 ∧ Sp.f176x_pre s.1 s.2.1 s.2.2 = true := by
  obtain ⟨a, b, c, d, e, f⟩ := srcP_is h
  obtain ⟨l, at', seed⟩ := s
  dsimp only at a b c d e f
  unfold Sp.by Sp.f176x Sp.f176x_pre
  dsimp only
  have w1 : IntKind.i64.wrap (at' + 1) = at' + 1 := wrap64 (by omega) (by omega)
  have w2 : IntKind.i64.wrap (at' + 1 - 1) = at' := (wrap64 (by omega) (by omega)).trans (by omega)
  rw [w1, w2]
  by_cases h1 : at' + 1 ≤ (l.length : Int)
  · have hlt : at'.toNat < l.length := by omega
    have e0 : l.getD at'.toNat 0 = l[at'.toNat] := by rw [List.getD, List.getElem?_eq_getElem hlt, Option.getD_some]
    obtain ⟨b1, b2⟩ := isBytes_mem a (List.getElem_mem hlt)
    rw [decide_eq_true h1, cond_true, cond_true, e0, decide_eq_true (show (0 : Int) ≤ at' by omega), decide_eq_true (show at' < (l.length : Int) by omega)]
    generalize l[at'.toNat] = u at b1 b2 ⊢
    have w3 : IntKind.i64.wrap u = u := wrap64 (by omega) (by omega)
    have w4 : IntKind.i64.wrap (seed * 31) = seed * 31 := wrap64 (by omega) (by omega)
    have w5 : IntKind.i64.wrap (seed * 31 + u) = seed * 31 + u := wrap64 (by omega) (by omega)
    have w6 : IntKind.i64.wrap (seed * 31 + u + 7) = seed * 31 + u + 7 := wrap64 (by omega) (by omega)
    rw [w3, w4, w5, w6, Int.tmod_eq_emod_of_nonneg (by omega)]
    refine ⟨srcP_mk a b (show (0 : Int) ≤ at' + 1 by omega) (show at' + 1 + (k : Int) ≤ 2000000 by omega) (show 0 ≤ (seed * 31 + u + 7) % 2147483648 by omega) (show (seed * 31 + u + 7) % 2147483648 < 2147483648 by omega), b1, b2, rfl⟩
  · rw [decide_eq_false h1, cond_false, cond_false]
    by_cases h2 : at' + 1 > 3000
    · rw [decide_eq_true h2, cond_true]
      exact ⟨srcP_mk a b (show (0 : Int) ≤ at' + 1 by omega) (show at' + 1 + (k : Int) ≤ 2000000 by omega) e f, Int.le_refl _, show (0 : Int) < 256 by omega, rfl⟩
    · have w4 : IntKind.i64.wrap (seed * 1103515245) = seed * 1103515245 := wrap64 (by omega) (by omega)
      have w5 : IntKind.i64.wrap (seed * 1103515245 + 12345) = seed * 1103515245 + 12345 := wrap64 (by omega) (by omega)
      have t1 : (seed * 1103515245 + 12345).tmod 2147483648 = (seed * 1103515245 + 12345) % 2147483648 := Int.tmod_eq_emod_of_nonneg (by omega)
      rw [decide_eq_false h2, cond_false, w4, w5, t1]
      generalize hq : (seed * 1103515245 + 12345) % 2147483648 = q
      have q1 : 0 ≤ q := by omega
      have q2 : q < 2147483648 := by omega
      rw [Int.tdiv_eq_ediv_of_nonneg q1, wrap64 (n := q / 65536) (by omega) (by omega), Int.tmod_eq_emod_of_nonneg (by omega)]
      exact ⟨srcP_mk a b (show (0 : Int) ≤ at' + 1 by omega) (show at' + 1 + (k : Int) ≤ 2000000 by omega) q1 q2, show 0 ≤ q / 65536 % 256 by omega, show q / 65536 % 256 < 256 by omega, rfl⟩
noncomputable def e176 : Ent := { e176x with pre := fun a => Sp.srcP 1 a, spec := fun a => (Sp.by a).1, wrt := fun a => (Sp.by a).2 }
theorem e176_ok : Valid PP Γ e176 := fun a ha => e176x_ok a (by_is (k := 0) (s := a) ha).2.2.2
def Sp.f144x_pre (x0 : List Int) (x1 x2 x3 : Int) : Bool := (bif decide (x3 ≤ (1 : Int)) then true else (bif decide (x3 ≤ (256 : Int)) then (Sp.srcP (1 : Nat) (x0, x1, x2) && (!x3 == (0 : Int))) else (Sp.srcP (1 : Nat) (x0, x1, x2) && (Sp.srcP (1 : Nat) ((Sp.by (x0, x1, x2)).2.1, (Sp.by (x0, x1, x2)).2.2.1, (Sp.by (x0, x1, x2)).2.2.2) && (Sp.srcP (1 : Nat) ((Sp.by ((Sp.by (x0, x1, x2)).2.1, (Sp.by (x0, x1, x2)).2.2.1, (Sp.by (x0, x1, x2)).2.2.2)).2.1, (Sp.by ((Sp.by (x0, x1, x2)).2.1, (Sp.by (x0, x1, x2)).2.2.1, (Sp.by (x0, x1, x2)).2.2.2)).2.2.1, (Sp.by ((Sp.by (x0, x1, x2)).2.1, (Sp.by (x0, x1, x2)).2.2.1, (Sp.by (x0, x1, x2)).2.2.2)).2.2.2) && (!x3 == (0 : Int)))))))
def Sp.f144x (x0 : List Int) (x1 x2 x3 : Int) := (bif decide (x3 ≤ (1 : Int)) then ((0 : Int), x0, x1, x2) else (bif decide (x3 ≤ (256 : Int)) then ((Sp.by (x0, x1, x2)).1.tmod x3, (Sp.by (x0, x1, x2)).2.1, (Sp.by (x0, x1, x2)).2.2.1, (Sp.by (x0, x1, x2)).2.2.2) else ((IntKind.i64.wrap (IntKind.i64.wrap (IntKind.i64.wrap ((Sp.by (x0, x1, x2)).1 * (65536 : Int)) + IntKind.i64.wrap ((Sp.by ((Sp.by (x0, x1, x2)).2.1, (Sp.by (x0, x1, x2)).2.2.1, (Sp.by (x0, x1, x2)).2.2.2)).1 * (256 : Int))) + (Sp.by ((Sp.by ((Sp.by (x0, x1, x2)).2.1, (Sp.by (x0, x1, x2)).2.2.1, (Sp.by (x0, x1, x2)).2.2.2)).2.1, (Sp.by ((Sp.by (x0, x1, x2)).2.1, (Sp.by (x0, x1, x2)).2.2.1, (Sp.by (x0, x1, x2)).2.2.2)).2.2.1, (Sp.by ((Sp.by (x0, x1, x2)).2.1, (Sp.by (x0, x1, x2)).2.2.1, (Sp.by (x0, x1, x2)).2.2.2)).2.2.2)).1)).tmod x3, (Sp.by ((Sp.by ((Sp.by (x0, x1, x2)).2.1, (Sp.by (x0, x1, x2)).2.2.1, (Sp.by (x0, x1, x2)).2.2.2)).2.1, (Sp.by ((Sp.by (x0, x1, x2)).2.1, (Sp.by (x0, x1, x2)).2.2.1, (Sp.by (x0, x1, x2)).2.2.2)).2.2.1, (Sp.by ((Sp.by (x0, x1, x2)).2.1, (Sp.by (x0, x1, x2)).2.2.1, (Sp.by (x0, x1, x2)).2.2.2)).2.2.2)).2.1, (Sp.by ((Sp.by ((Sp.by (x0, x1, x2)).2.1, (Sp.by (x0, x1, x2)).2.2.1, (Sp.by (x0, x1, x2)).2.2.2)).2.1, (Sp.by ((Sp.by (x0, x1, x2)).2.1, (Sp.by (x0, x1, x2)).2.2.1, (Sp.by (x0, x1, x2)).2.2.2)).2.2.1, (Sp.by ((Sp.by (x0, x1, x2)).2.1, (Sp.by (x0, x1, x2)).2.2.1, (Sp.by (x0, x1, x2)).2.2.2)).2.2.2)).2.2.1, (Sp.by ((Sp.by ((Sp.by (x0, x1, x2)).2.1, (Sp.by (x0, x1, x2)).2.2.1, (Sp.by (x0, x1, x2)).2.2.2)).2.1, (Sp.by ((Sp.by (x0, x1, x2)).2.1, (Sp.by (x0, x1, x2)).2.2.1, (Sp.by (x0, x1, x2)).2.2.2)).2.2.1, (Sp.by ((Sp.by (x0, x1, x2)).2.1, (Sp.by (x0, x1, x2)).2.2.1, (Sp.by (x0, x1, x2)).2.2.2)).2.2.2)).2.2.2)))
noncomputable def e144x : Ent := { f := 86, ins := [Sh.box (113 : Nat) [C0.dat (Ty.int IntKind.u8).slice, C0.dat Zi, C0.dat Zi], Sh.one ZI], outs := [Sh.one ZI], upd := [Sh.box (113 : Nat) [C0.dat (Ty.int IntKind.u8).slice, C0.dat Zi, C0.dat Zi]], pre := fun a => Sp.f144x_pre a.1.1 a.1.2.1 a.1.2.2 a.2, spec := fun a => (Sp.f144x a.1.1 a.1.2.1 a.1.2.2 a.2).1, wrt := fun a => (Sp.f144x a.1.1 a.1.2.1 a.1.2.2 a.2).2 }
def f144x_g (v : denS [Sh.one ZI] × denS [Sh.box (113 : Nat) [C0.dat (Ty.int IntKind.u8).slice, C0.dat Zi, C0.dat Zi]]) : Res := ⟨mkS [Sh.one ZI] v.1, mkU [Sh.box (113 : Nat) [C0.dat (Ty.int IntKind.u8).slice, C0.dat Zi, C0.dat Zi]] v.2⟩
theorem f144x_form (x0 : List Int) (x1 x2 x3 : Int) : abody Γ (orc [e176]) 0 86 [XV.mk false [X.box (113 : Nat) [X0.dat (Ty.int IntKind.u8).slice x0, X0.dat Zi x1, X0.dat Zi x2]], ZX Zi x3] = chk (Sp.f144x_pre x0 x1 x2 x3) (some (f144x_g (Sp.f144x x0 x1 x2 x3))) := by
  refine Eq.trans (b := bif decide (x3 ≤ (1 : Int)) then some (Res.mk [ZX Zi (0 : Int)] [X.box (113 : Nat) [X0.dat (Ty.int IntKind.u8).slice x0, X0.dat Zi x1, X0.dat Zi x2]]) else bif decide (x3 ≤ (256 : Int)) then chk (Sp.srcP (1 : Nat) (x0, x1, x2)) (chk (!x3 == (0 : Int)) (some (Res.mk [ZX Zi ((Sp.by (x0, x1, x2)).1.tmod x3)] [X.box (113 : Nat) [X0.dat (Ty.int IntKind.u8).slice (Sp.by (x0, x1, x2)).2.1, X0.dat Zi (Sp.by (x0, x1, x2)).2.2.1, X0.dat Zi (Sp.by (x0, x1, x2)).2.2.2]]))) else chk (Sp.srcP (1 : Nat) (x0, x1, x2)) (chk (Sp.srcP (1 : Nat) ((Sp.by (x0, x1, x2)).2.1, (Sp.by (x0, x1, x2)).2.2.1, (Sp.by (x0, x1, x2)).2.2.2)) (chk (Sp.srcP (1 : Nat) ((Sp.by ((Sp.by (x0, x1, x2)).2.1, (Sp.by (x0, x1, x2)).2.2.1, (Sp.by (x0, x1, x2)).2.2.2)).2.1, (Sp.by ((Sp.by (x0, x1, x2)).2.1, (Sp.by (x0, x1, x2)).2.2.1, (Sp.by (x0, x1, x2)).2.2.2)).2.2.1, (Sp.by ((Sp.by (x0, x1, x2)).2.1, (Sp.by (x0, x1, x2)).2.2.1, (Sp.by (x0, x1, x2)).2.2.2)).2.2.2)) (chk (!x3 == (0 : Int)) (some (Res.mk [ZX Zi ((IntKind.i64.wrap (IntKind.i64.wrap (IntKind.i64.wrap ((Sp.by (x0, x1, x2)).1 * (65536 : Int)) + IntKind.i64.wrap ((Sp.by ((Sp.by (x0, x1, x2)).2.1, (Sp.by (x0, x1, x2)).2.2.1, (Sp.by (x0, x1, x2)).2.2.2)).1 * (256 : Int))) + (Sp.by ((Sp.by ((Sp.by (x0, x1, x2)).2.1, (Sp.by (x0, x1, x2)).2.2.1, (Sp.by (x0, x1, x2)).2.2.2)).2.1, (Sp.by ((Sp.by (x0, x1, x2)).2.1, (Sp.by (x0, x1, x2)).2.2.1, (Sp.by (x0, x1, x2)).2.2.2)).2.2.1, (Sp.by ((Sp.by (x0, x1, x2)).2.1, (Sp.by (x0, x1, x2)).2.2.1, (Sp.by (x0, x1, x2)).2.2.2)).2.2.2)).1)).tmod x3)] [X.box (113 : Nat) [X0.dat (Ty.int IntKind.u8).slice (Sp.by ((Sp.by ((Sp.by (x0, x1, x2)).2.1, (Sp.by (x0, x1, x2)).2.2.1, (Sp.by (x0, x1, x2)).2.2.2)).2.1, (Sp.by ((Sp.by (x0, x1, x2)).2.1, (Sp.by (x0, x1, x2)).2.2.1, (Sp.by (x0, x1, x2)).2.2.2)).2.2.1, (Sp.by ((Sp.by (x0, x1, x2)).2.1, (Sp.by (x0, x1, x2)).2.2.1, (Sp.by (x0, x1, x2)).2.2.2)).2.2.2)).2.1, X0.dat Zi (Sp.by ((Sp.by ((Sp.by (x0, x1, x2)).2.1, (Sp.by (x0, x1, x2)).2.2.1, (Sp.by (x0, x1, x2)).2.2.2)).2.1, (Sp.by ((Sp.by (x0, x1, x2)).2.1, (Sp.by (x0, x1, x2)).2.2.1, (Sp.by (x0, x1, x2)).2.2.2)).2.2.1, (Sp.by ((Sp.by (x0, x1, x2)).2.1, (Sp.by (x0, x1, x2)).2.2.1, (Sp.by (x0, x1, x2)).2.2.2)).2.2.2)).2.2.1, X0.dat Zi (Sp.by ((Sp.by ((Sp.by (x0, x1, x2)).2.1, (Sp.by (x0, x1, x2)).2.2.1, (Sp.by (x0, x1, x2)).2.2.2)).2.1, (Sp.by ((Sp.by (x0, x1, x2)).2.1, (Sp.by (x0, x1, x2)).2.2.1, (Sp.by (x0, x1, x2)).2.2.2)).2.2.1, (Sp.by ((Sp.by (x0, x1, x2)).2.1, (Sp.by (x0, x1, x2)).2.2.1, (Sp.by (x0, x1, x2)).2.2.2)).2.2.2)).2.2.2]])))))) (by kernel_rfl) ?_
  unfold Sp.f144x_pre Sp.f144x
  exact (cond_step f144x_g ((lift_plain (rfl))) ((cond_step f144x_g ((chk_step ((chk_last (rfl))))) ((chk_step ((chk_step ((chk_step ((chk_last (rfl))))))))))))
theorem e144x_ok : Valid PP Γ e144x := valid_auto ok (vcons e176_ok vnil) fun a => f144x_form a.1.1 a.1.2.1 a.1.2.2 a.2

def Sp.nx (s : Src) (n : Int) : Int × Src := bif decide (n ≤ 1) then (0, s) else ((Sp.by s).1.tmod n, (Sp.by s).2)
def Sp.nxP (s : Src) (n : Int) : Bool := yes2 (Sp.srcP 1 s) (decide (n ≤ 256))
theorem nxP_mk {s : Src} {n : Int} (h : Sp.srcP 1 s = true) (hn : n ≤ 256) : Sp.nxP s n = true := yes2Q h (decide_eq_true hn)
theorem nx_is {k : Nat} {s : Src} {n : Int} (h : Sp.srcP (k + 1) s = true) : Sp.srcP k (Sp.nx s n).2 = true ∧ 0 ≤ (Sp.nx s n).1 ∧ (1 ≤ n → (Sp.nx s n).1 < n) := by
  obtain ⟨h1, h2, h3, _⟩ := by_is h
  unfold Sp.nx
  by_cases c : n ≤ 1
  · rw [decide_eq_true c, cond_true]
    exact ⟨srcP_le h (Nat.le_succ k), Int.le_refl _, fun q => show (0 : Int) < n by omega⟩
  · rw [decide_eq_false c, cond_false]
    refine ⟨h1, ?_, fun _ => ?_⟩
    · show 0 ≤ (Sp.by s).1.tmod n
      rw [Int.tmod_eq_emod_of_nonneg h2]
      exact Int.emod_nonneg _ (by omega)
    · show (Sp.by s).1.tmod n < n
      rw [Int.tmod_eq_emod_of_nonneg h2]
      exact Int.emod_lt_of_pos _ (by omega)
noncomputable def e144 : Ent := { e144x with pre := fun a => Sp.nxP a.1 a.2, spec := fun a => (Sp.nx a.1 a.2).1, wrt := fun a => (Sp.nx a.1 a.2).2 }
theorem nx_at (s : Src) (n : Int) (ha : Sp.nxP s n = true) : Sp.f144x_pre s.1 s.2.1 s.2.2 n = true ∧ Sp.f144x s.1 s.2.1 s.2.2 n = Sp.nx s n := by
  obtain ⟨h1, h2⟩ := yes2_true ha
  have h2 := of_decide_eq_true h2
  refine ⟨?_, ?_⟩
  · unfold Sp.f144x_pre
    by_cases c : n ≤ 1
    · rw [decide_eq_true c]; rfl
    · rw [decide_eq_false c, decide_eq_true h2, cond_false, cond_true, show (n == (0 : Int)) = false from beq_false_of_ne (by omega)]
      exact (Bool.and_true _).trans h1
  · unfold Sp.f144x Sp.nx
    rw [decide_eq_true h2]
    cases decide (n ≤ 1) <;> rfl
theorem e144_ok : Valid PP Γ e144 := fun a ha => by
  obtain ⟨hp, e2⟩ := nx_at a.1 a.2 ha
  have h := e144x_ok a hp
  have e : e144x.res a = e144.res a := by
    show (⟨mkS e144x.outs (Sp.f144x a.1.1 a.1.2.1 a.1.2.2 a.2).1, mkU e144x.upd (Sp.f144x a.1.1 a.1.2.1 a.1.2.2 a.2).2⟩ : Res) = _
    rw [e2]
    rfl
  rw [e] at h
  exact h
def Sp.f139x_pre (x0 : List Int) (x1 x2 x3 : Int) : Bool := (Sp.nxP (x0, x1, x2) x3)
def Sp.f139x (x0 : List Int) (x1 x2 x3 : Int) := ((Sp.nx (x0, x1, x2) x3).1 == IntKind.i64.wrap (x3 - (1 : Int)), (Sp.nx (x0, x1, x2) x3).2.1, (Sp.nx (x0, x1, x2) x3).2.2.1, (Sp.nx (x0, x1, x2) x3).2.2.2)
noncomputable def e139x : Ent := { f := 79, ins := [Sh.box (113 : Nat) [C0.dat (Ty.int IntKind.u8).slice, C0.dat Zi, C0.dat Zi], Sh.one ZI], outs := [Sh.one (C0.dat Ty.bool)], upd := [Sh.box (113 : Nat) [C0.dat (Ty.int IntKind.u8).slice, C0.dat Zi, C0.dat Zi]], pre := fun a => Sp.f139x_pre a.1.1 a.1.2.1 a.1.2.2 a.2, spec := fun a => (Sp.f139x a.1.1 a.1.2.1 a.1.2.2 a.2).1, wrt := fun a => (Sp.f139x a.1.1 a.1.2.1 a.1.2.2 a.2).2 }
def f139x_g (v : denS [Sh.one (C0.dat Ty.bool)] × denS [Sh.box (113 : Nat) [C0.dat (Ty.int IntKind.u8).slice, C0.dat Zi, C0.dat Zi]]) : Res := ⟨mkS [Sh.one (C0.dat Ty.bool)] v.1, mkU [Sh.box (113 : Nat) [C0.dat (Ty.int IntKind.u8).slice, C0.dat Zi, C0.dat Zi]] v.2⟩
theorem f139x_form (x0 : List Int) (x1 x2 x3 : Int) : abody Γ (orc [e144]) 0 79 [XV.mk false [X.box (113 : Nat) [X0.dat (Ty.int IntKind.u8).slice x0, X0.dat Zi x1, X0.dat Zi x2]], ZX Zi x3] = chk (Sp.f139x_pre x0 x1 x2 x3) (some (f139x_g (Sp.f139x x0 x1 x2 x3))) := by
  refine Eq.trans (b := chk (Sp.nxP (x0, x1, x2) x3) (some (Res.mk [ZX Ty.bool ((Sp.nx (x0, x1, x2) x3).1 == IntKind.i64.wrap (x3 - (1 : Int)))] [X.box (113 : Nat) [X0.dat (Ty.int IntKind.u8).slice (Sp.nx (x0, x1, x2) x3).2.1, X0.dat Zi (Sp.nx (x0, x1, x2) x3).2.2.1, X0.dat Zi (Sp.nx (x0, x1, x2) x3).2.2.2]]))) (by kernel_rfl) ?_
  unfold Sp.f139x_pre Sp.f139x
  exact (chk_last (rfl))
theorem e139x_ok : Valid PP Γ e139x := valid_auto ok (vcons e144_ok vnil) fun a => f139x_form a.1.1 a.1.2.1 a.1.2.2 a.2

def Sp.f145 (x0 : List Int) (x1 x2 x3 : Int) := (minI (IntKind.i64.wrap ((1 : Int) + IntKind.i64.wrap ((↑x0.length : Int).tdiv (12 : Int)))) x3, ())
noncomputable def e145 : Ent := { f := 87, ins := [Sh.one (C0.rptr ((Ty.int IntKind.u8).slice.pair (Zi.pair Zi))), Sh.one ZI], outs := [Sh.one ZI], upd := [], pre := fun a => true, spec := fun a => (Sp.f145 a.1.1 a.1.2.1 a.1.2.2 a.2).1, wrt := fun a => (Sp.f145 a.1.1 a.1.2.1 a.1.2.2 a.2).2 }
def f145_g (v : denS [Sh.one ZI] × denS []) : Res := ⟨mkS [Sh.one ZI] v.1, mkU [] v.2⟩
theorem f145_form (x0 : List Int) (x1 x2 x3 : Int) : abody Γ (orc []) 0 87 [XV.mk false [X.c (X0.rptr ((Ty.int IntKind.u8).slice.pair (Zi.pair Zi)) (x0, x1, x2))], ZX Zi x3] = some (f145_g (Sp.f145 x0 x1 x2 x3)) := by
  refine Eq.trans (b := ZJ (minI (IntKind.i64.wrap ((1 : Int) + IntKind.i64.wrap ((↑x0.length : Int).tdiv (12 : Int)))) x3)) (by kernel_rfl) ?_
  unfold Sp.f145
  exact rfl
theorem e145_ok : Valid PP Γ e145 := valid_auto ok vnil fun a => f145_form a.1.1 a.1.2.1 a.1.2.2 a.2

def Sp.f199x_pre (x0 : List Int) (x1 x2 : Int) (x3 : List ByteArray) : Bool := (bif (↑x3.length : Int) == (0 : Int) then true else (Sp.nxP (x0, x1, x2) (↑x3.length : Int) && (decide ((0 : Int) ≤ (Sp.nx (x0, x1, x2) (↑x3.length : Int)).1) && decide ((Sp.nx (x0, x1, x2) (↑x3.length : Int)).1 < (↑x3.length : Int)))))
def Sp.f199x (x0 : List Int) (x1 x2 : Int) (x3 : List ByteArray) := (bif (↑x3.length : Int) == (0 : Int) then (ByteArray.mk #[], x0, x1, x2) else (x3.getD (Sp.nx (x0, x1, x2) (↑x3.length : Int)).1.toNat (ByteArray.mk #[]), (Sp.nx (x0, x1, x2) (↑x3.length : Int)).2.1, (Sp.nx (x0, x1, x2) (↑x3.length : Int)).2.2.1, (Sp.nx (x0, x1, x2) (↑x3.length : Int)).2.2.2))
noncomputable def e199x : Ent := { f := 141, ins := [Sh.box (113 : Nat) [C0.dat (Ty.int IntKind.u8).slice, C0.dat Zi, C0.dat Zi], Sh.one (C0.row Ty.str)], outs := [Sh.one (C0.dat Ty.str)], upd := [Sh.box (113 : Nat) [C0.dat (Ty.int IntKind.u8).slice, C0.dat Zi, C0.dat Zi]], pre := fun a => Sp.f199x_pre a.1.1 a.1.2.1 a.1.2.2 a.2, spec := fun a => (Sp.f199x a.1.1 a.1.2.1 a.1.2.2 a.2).1, wrt := fun a => (Sp.f199x a.1.1 a.1.2.1 a.1.2.2 a.2).2 }
def f199x_g (v : denS [Sh.one (C0.dat Ty.str)] × denS [Sh.box (113 : Nat) [C0.dat (Ty.int IntKind.u8).slice, C0.dat Zi, C0.dat Zi]]) : Res := ⟨mkS [Sh.one (C0.dat Ty.str)] v.1, mkU [Sh.box (113 : Nat) [C0.dat (Ty.int IntKind.u8).slice, C0.dat Zi, C0.dat Zi]] v.2⟩
theorem f199x_form (x0 : List Int) (x1 x2 : Int) (x3 : List ByteArray) : abody Γ (orc [e144]) 0 141 [XV.mk false [X.box (113 : Nat) [X0.dat (Ty.int IntKind.u8).slice x0, X0.dat Zi x1, X0.dat Zi x2]], XV.mk false [X.c (X0.row Ty.str x3 true)]] = chk (Sp.f199x_pre x0 x1 x2 x3) (some (f199x_g (Sp.f199x x0 x1 x2 x3))) := by
  refine Eq.trans (b := bif (↑x3.length : Int) == (0 : Int) then some (Res.mk [ZX Ty.str (ByteArray.mk #[])] [X.box (113 : Nat) [X0.dat (Ty.int IntKind.u8).slice x0, X0.dat Zi x1, X0.dat Zi x2]]) else chk (Sp.nxP (x0, x1, x2) (↑x3.length : Int)) (chk (decide ((0 : Int) ≤ (Sp.nx (x0, x1, x2) (↑x3.length : Int)).1) && decide ((Sp.nx (x0, x1, x2) (↑x3.length : Int)).1 < (↑x3.length : Int))) (some (Res.mk [ZX Ty.str (x3.getD (Sp.nx (x0, x1, x2) (↑x3.length : Int)).1.toNat (ByteArray.mk #[]))] [X.box (113 : Nat) [X0.dat (Ty.int IntKind.u8).slice (Sp.nx (x0, x1, x2) (↑x3.length : Int)).2.1, X0.dat Zi (Sp.nx (x0, x1, x2) (↑x3.length : Int)).2.2.1, X0.dat Zi (Sp.nx (x0, x1, x2) (↑x3.length : Int)).2.2.2]])))) (by kernel_rfl) ?_
  unfold Sp.f199x_pre Sp.f199x
  exact (cond_step f199x_g ((lift_plain (rfl))) ((chk_step ((chk_last (rfl))))))
theorem e199x_ok : Valid PP Γ e199x := valid_auto ok (vcons e144_ok vnil) fun a => f199x_form a.1.1 a.1.2.1 a.1.2.2 a.2

def Sp.f198x_pre (x0 : List Int) (x1 x2 : Int) : Bool := (Sp.nxP (x0, x1, x2) (12 : Int) && (decide ((0 : Int) ≤ (Sp.nx (x0, x1, x2) (12 : Int)).1) && decide ((Sp.nx (x0, x1, x2) (12 : Int)).1 < (12 : Int))))
def Sp.f198x (x0 : List Int) (x1 x2 : Int) := ([(0 : Int), (-1 : Int), (1 : Int), (2 : Int), (63 : Int), (64 : Int), (65 : Int), (4096 : Int), (4097 : Int), (9223372036854775807 : Int), (-9223372036854775808 : Int), (30 : Int)].getD (Sp.nx (x0, x1, x2) (12 : Int)).1.toNat (0 : Int), (Sp.nx (x0, x1, x2) (12 : Int)).2.1, (Sp.nx (x0, x1, x2) (12 : Int)).2.2.1, (Sp.nx (x0, x1, x2) (12 : Int)).2.2.2)
noncomputable def e198x : Ent := { f := 140, ins := [Sh.box (113 : Nat) [C0.dat (Ty.int IntKind.u8).slice, C0.dat Zi, C0.dat Zi]], outs := [Sh.one ZI], upd := [Sh.box (113 : Nat) [C0.dat (Ty.int IntKind.u8).slice, C0.dat Zi, C0.dat Zi]], pre := fun a => Sp.f198x_pre a.1 a.2.1 a.2.2, spec := fun a => (Sp.f198x a.1 a.2.1 a.2.2).1, wrt := fun a => (Sp.f198x a.1 a.2.1 a.2.2).2 }
def f198x_g (v : denS [Sh.one ZI] × denS [Sh.box (113 : Nat) [C0.dat (Ty.int IntKind.u8).slice, C0.dat Zi, C0.dat Zi]]) : Res := ⟨mkS [Sh.one ZI] v.1, mkU [Sh.box (113 : Nat) [C0.dat (Ty.int IntKind.u8).slice, C0.dat Zi, C0.dat Zi]] v.2⟩
theorem f198x_form (x0 : List Int) (x1 x2 : Int) : abody Γ (orc [e144]) 0 140 [XV.mk false [X.box (113 : Nat) [X0.dat (Ty.int IntKind.u8).slice x0, X0.dat Zi x1, X0.dat Zi x2]]] = chk (Sp.f198x_pre x0 x1 x2) (some (f198x_g (Sp.f198x x0 x1 x2))) := by
  refine Eq.trans (b := chk (Sp.nxP (x0, x1, x2) (12 : Int)) (chk (decide ((0 : Int) ≤ (Sp.nx (x0, x1, x2) (12 : Int)).1) && decide ((Sp.nx (x0, x1, x2) (12 : Int)).1 < (12 : Int))) (some (Res.mk [ZX Zi ([(0 : Int), (-1 : Int), (1 : Int), (2 : Int), (63 : Int), (64 : Int), (65 : Int), (4096 : Int), (4097 : Int), (9223372036854775807 : Int), (-9223372036854775808 : Int), (30 : Int)].getD (Sp.nx (x0, x1, x2) (12 : Int)).1.toNat (0 : Int))] [X.box (113 : Nat) [X0.dat (Ty.int IntKind.u8).slice (Sp.nx (x0, x1, x2) (12 : Int)).2.1, X0.dat Zi (Sp.nx (x0, x1, x2) (12 : Int)).2.2.1, X0.dat Zi (Sp.nx (x0, x1, x2) (12 : Int)).2.2.2]])))) (by kernel_rfl) ?_
  unfold Sp.f198x_pre Sp.f198x
  exact (chk_step ((chk_last (rfl))))
theorem e198x_ok : Valid PP Γ e198x := valid_auto ok (vcons e144_ok vnil) fun a => f198x_form a.1 a.2.1 a.2.2

def Sp.ch (s : Src) (n : Int) : Bool × Src := ((Sp.nx s n).1 == IntKind.i64.wrap (n - (1 : Int)), (Sp.nx s n).2)
noncomputable def e139 : Ent := { e139x with pre := fun a => Sp.nxP a.1 a.2, spec := fun a => (Sp.ch a.1 a.2).1, wrt := fun a => (Sp.ch a.1 a.2).2 }
theorem e139_ok : Valid PP Γ e139 := fun a ha => e139x_ok a ha
def Sp.odds : List Int := [(0 : Int), (-1 : Int), (1 : Int), (2 : Int), (63 : Int), (64 : Int), (65 : Int), (4096 : Int), (4097 : Int), (9223372036854775807 : Int), (-9223372036854775808 : Int), (30 : Int)]
def Sp.od (s : Src) : Int × Src := (Sp.odds.getD (Sp.nx s 12).1.toNat (0 : Int), (Sp.nx s 12).2)
theorem nx_in {s : Src} {n : Int} (h : Sp.srcP 1 s = true) (hn : 1 ≤ n) : (decide ((0 : Int) ≤ (Sp.nx s n).1) && decide ((Sp.nx s n).1 < n)) = true := by
  obtain ⟨_, h2, h3⟩ := nx_is (k := 0) (n := n) h
  rw [decide_eq_true h2, decide_eq_true (h3 hn)]; rfl
noncomputable def e198 : Ent := { e198x with pre := fun a => Sp.srcP 1 a, spec := fun a => (Sp.od a).1, wrt := fun a => (Sp.od a).2 }
theorem od_pre (s : Src) (h : Sp.srcP 1 s = true) : Sp.f198x_pre s.1 s.2.1 s.2.2 = true := by
  unfold Sp.f198x_pre
  have h1 : Sp.nxP s 12 = true := nxP_mk h (by omega)
  have h2 := nx_in (n := 12) h (by omega)
  exact Bool.and_eq_true_iff.2 ⟨h1, h2⟩
theorem e198_ok : Valid PP Γ e198 := fun a ha => e198x_ok a (od_pre a ha)
def Sp.pk (s : Src) (l : List ByteArray) : ByteArray × Src := (l.getD (Sp.nx s (l.length : Int)).1.toNat (ByteArray.mk #[]), (Sp.nx s (l.length : Int)).2)
def Sp.pkP (s : Src) (l : List ByteArray) : Bool := yes2 (Sp.srcP 1 s) (yes2 (Nat.ble 1 l.length) (Nat.ble l.length 256))
noncomputable def e199 : Ent := { e199x with pre := fun a => Sp.pkP a.1 a.2, spec := fun a => (Sp.pk a.1 a.2).1, wrt := fun a => (Sp.pk a.1 a.2).2 }
theorem pk_at (s : Src) (l : List ByteArray) (ha : Sp.pkP s l = true) : Sp.f199x_pre s.1 s.2.1 s.2.2 l = true ∧ Sp.f199x s.1 s.2.1 s.2.2 l = Sp.pk s l := by
  obtain ⟨h1, h2⟩ := yes2_true ha
  obtain ⟨h2, h3⟩ := yes2_true h2
  have h2 := Nat.le_of_ble_eq_true h2
  have h3 := Nat.le_of_ble_eq_true h3
  have e : ((l.length : Int) == (0 : Int)) = false := beq_false_of_ne (by omega)
  refine ⟨?_, ?_⟩
  · unfold Sp.f199x_pre
    rw [e, cond_false]
    exact Bool.and_eq_true_iff.2 ⟨nxP_mk h1 (by omega), nx_in h1 (by omega)⟩
  · unfold Sp.f199x Sp.pk
    rw [e]
    rfl
theorem e199_ok : Valid PP Γ e199 := fun a ha => by
  obtain ⟨hp, e2⟩ := pk_at a.1 a.2 ha
  have h := e199x_ok a hp
  have e : e199x.res a = e199.res a := by
    show (⟨mkS e199x.outs (Sp.f199x a.1.1 a.1.2.1 a.1.2.2 a.2).1, mkU e199x.upd (Sp.f199x a.1.1 a.1.2.1 a.1.2.2 a.2).2⟩ : Res) = _
    rw [e2]
    rfl
  rw [e] at h
  exact h
abbrev rSrc (s : Src) : X := X.box t169 [X0.dat (Ty.int IntKind.u8).slice s.1, X0.dat Zi s.2.1, X0.dat Zi s.2.2]
abbrev rC (p : V3 × Src) : Res := Res.mk [XV.mk true [ZC Zi p.1.1, ZC Zi p.1.2.1, ZC Ty.str p.1.2.2]] [rSrc p.2]
def Sp.words5 : List ByteArray := [ByteArray.mk #[111, 112, 101, 110], ByteArray.mk #[100, 111, 110, 101], ByteArray.mk #[97, 110, 110], ByteArray.mk #[98, 111, 98], ByteArray.mk #[]]
abbrev Sp.s1 (s : Src) : Src := (Sp.nx s 6).2
abbrev Sp.s2 (s : Src) : Src := (Sp.nx (Sp.s1 s) 6).2
abbrev Sp.s3 (s : Src) : Src := (Sp.nx (Sp.s2 s) 20).2
abbrev Sp.s4 (s : Src) : Src := (Sp.od (Sp.s3 s)).2
abbrev Sp.s5 (s : Src) : Src := (Sp.nx (Sp.s4 s) 4).2
def Sp.cellX (s : Src) : V3 × Src := (((2 : Int), [(Sp.nx s 6).1, (Sp.nx (Sp.s1 s) 6).1, IntKind.i64.wrap ((Sp.nx (Sp.s2 s) 20).1 - (10 : Int)), (Sp.od (Sp.s3 s)).1].getD (Sp.nx (Sp.s4 s) 4).1.toNat (0 : Int), ByteArray.mk #[]), Sp.s5 s)
noncomputable def Sp.cellH (s : Src) : Option Res := chk (Sp.nxP s 6) (chk (Sp.nxP (Sp.s1 s) 6) (chk (Sp.nxP (Sp.s2 s) 20) (chk (Sp.srcP 1 (Sp.s3 s)) (chk (Sp.nxP (Sp.s4 s) 4) (chk (decide ((0 : Int) ≤ (Sp.nx (Sp.s4 s) 4).1) && decide ((Sp.nx (Sp.s4 s) 4).1 < (4 : Int))) (some (rC (Sp.cellX s))))))))
noncomputable def Sp.cellG (s : Src) (c : VCo) : Option Res := bif c.2.1 == (1 : Int) then chk (Sp.nxP s 2) (some (rC (((1 : Int), (Sp.nx s 2).1, ByteArray.mk #[]), (Sp.nx s 2).2))) else bif c.2.1 == (2 : Int) then Sp.cellH s else chk (Sp.pkP s Sp.words5) (some (rC ((c.2.1, (0 : Int), (Sp.pk s Sp.words5).1), (Sp.pk s Sp.words5).2)))
noncomputable def Sp.cellF (s : Src) (c : VCo) : Option Res := bif c.2.2 then chk (Sp.nxP s 4) (bif (Sp.ch s 4).1 then some (rC (((0 : Int), (0 : Int), ByteArray.mk #[]), (Sp.ch s 4).2)) else Sp.cellG (Sp.ch s 4).2 c) else Sp.cellG s c
theorem f177_raw (n : Nat) (s : Src) (c : VCo) : abody Γ (orc [e139, e144, e198, e199]) n n177 [XV.mk false [rSrc s], XV.mk true [ZC Ty.str c.1, ZC Zi c.2.1, ZC Ty.bool c.2.2]] = Sp.cellF s c := by kernel_rfl
theorem ch_is {k : Nat} {s : Src} {n : Int} (h : Sp.srcP (k + 1) s = true) : Sp.srcP k (Sp.ch s n).2 = true := (nx_is h).1
def Sp.rng (x : Int) : Bool := yes2 (decide (-9223372036854775808 ≤ x)) (decide (x < 9223372036854775808))
theorem rng_mk {x : Int} (h1 : -9223372036854775808 ≤ x) (h2 : x < 9223372036854775808) : Sp.rng x = true := yes2Q (decide_eq_true h1) (decide_eq_true h2)
theorem getD_all {α : Type} {p : α → Bool} {d : α} (hd : p d = true) : ∀ (xs : List α) (i : Nat), (∀ x ∈ xs, p x = true) → p (xs.getD i d) = true := fun xs i h => by
  by_cases hl : i < xs.length
  · rw [List.getD, List.getElem?_eq_getElem hl, Option.getD_some]
    exact h _ (List.getElem_mem hl)
  · rw [List.getD, List.getElem?_eq_none (by omega)]
    exact hd
theorem od_is {k : Nat} {s : Src} (h : Sp.srcP (k + 1) s = true) : Sp.srcP k (Sp.od s).2 = true ∧ Sp.rng (Sp.od s).1 = true := by
  refine ⟨(nx_is h).1, getD_all (p := Sp.rng) rfl _ _ fun x hx => ?_⟩
  have : Sp.odds.all Sp.rng = true := by decide
  exact List.all_eq_true.1 this x hx
theorem pk_is {k : Nat} {s : Src} {l : List ByteArray} (h : Sp.srcP (k + 1) s = true) : Sp.srcP k (Sp.pk s l).2 = true := (nx_is h).1
theorem cellX_is {k : Nat} {s : Src} (h : Sp.srcP (k + 5) s = true) : Sp.cellH s = some (rC (Sp.cellX s)) ∧ Sp.srcP k (Sp.cellX s).2 = true ∧ Sp.rng (Sp.cellX s).1.2.1 = true := by
  obtain ⟨a1, a2, a3⟩ := nx_is (k := k + 4) (n := 6) h
  obtain ⟨b1, b2, b3⟩ := nx_is (k := k + 3) (s := Sp.s1 s) (n := 6) a1
  obtain ⟨c1, c2, c3⟩ := nx_is (k := k + 2) (s := Sp.s2 s) (n := 20) b1
  obtain ⟨d1, d2⟩ := od_is (k := k + 1) (s := Sp.s3 s) c1
  obtain ⟨e1, e2, e3⟩ := nx_is (k := k) (s := Sp.s4 s) (n := 4) d1
  have i := nx_in (s := Sp.s4 s) (n := 4) (srcP_le d1 (by omega)) (by omega)
  refine ⟨?_, e1, ?_⟩
  · unfold Sp.cellH
    rw [nxP_mk (srcP_le h (by omega)) (show (6 : Int) ≤ 256 by omega), chkT, nxP_mk (srcP_le a1 (by omega)) (show (6 : Int) ≤ 256 by omega), chkT, nxP_mk (srcP_le b1 (by omega)) (show (20 : Int) ≤ 256 by omega), chkT, srcP_le c1 (by omega), chkT, nxP_mk (srcP_le d1 (by omega)) (show (4 : Int) ≤ 256 by omega), chkT, i, chkT]
  · refine getD_all (p := Sp.rng) rfl _ _ fun x hx => ?_
    have a4 := a3 (by omega)
    have b4 := b3 (by omega)
    have c4 := c3 (by omega)
    rcases List.mem_cons.1 hx with rfl | hx
    · exact rng_mk (by omega) (by omega)
    rcases List.mem_cons.1 hx with rfl | hx
    · exact rng_mk (by omega) (by omega)
    rcases List.mem_cons.1 hx with rfl | hx
    · have w : IntKind.i64.wrap ((Sp.nx (Sp.s2 s) 20).1 - 10) = (Sp.nx (Sp.s2 s) 20).1 - 10 := wrap64 (by omega) (by omega)
      rw [w]
      exact rng_mk (by omega) (by omega)
    · rw [List.mem_singleton] at hx
      rw [hx]; exact d2
def Sp.cellW (s : Src) (c : VCo) : V3 × Src := bif c.2.1 == (1 : Int) then (((1 : Int), (Sp.nx s 2).1, ByteArray.mk #[]), (Sp.nx s 2).2) else bif c.2.1 == (2 : Int) then Sp.cellX s else ((c.2.1, (0 : Int), (Sp.pk s Sp.words5).1), (Sp.pk s Sp.words5).2)
theorem cellW_is {k : Nat} {s : Src} (c : VCo) (h : Sp.srcP (k + 5) s = true) : Sp.cellG s c = some (rC (Sp.cellW s c)) ∧ Sp.srcP k (Sp.cellW s c).2 = true ∧ Sp.rng (Sp.cellW s c).1.2.1 = true := by
  unfold Sp.cellG Sp.cellW
  cases c.2.1 == (1 : Int) with
  | true =>
    obtain ⟨a1, a2, a3⟩ := nx_is (k := k + 4) (n := 2) h
    have a4 := a3 (by omega)
    rw [cond_true, cond_true, nxP_mk (srcP_le h (by omega)) (show (2 : Int) ≤ 256 by omega), chkT]
    exact ⟨rfl, srcP_le a1 (by omega), rng_mk (show -9223372036854775808 ≤ (Sp.nx s 2).1 by omega) (show (Sp.nx s 2).1 < 9223372036854775808 by omega)⟩
  | false =>
  rw [cond_false, cond_false]
  cases c.2.1 == (2 : Int) with
  | true => rw [cond_true, cond_true]; exact cellX_is h
  | false =>
    have hp : Sp.pkP s Sp.words5 = true := yes2Q (srcP_le h (by omega)) rfl
    rw [cond_false, cond_false, hp, chkT]
    exact ⟨rfl, srcP_le (pk_is (k := k + 4) h) (by omega), rfl⟩
def Sp.cellV (s : Src) (c : VCo) : V3 × Src := bif c.2.2 then bif (Sp.ch s 4).1 then (((0 : Int), (0 : Int), ByteArray.mk #[]), (Sp.ch s 4).2) else Sp.cellW (Sp.ch s 4).2 c else Sp.cellW s c
theorem cellV_is {k : Nat} {s : Src} (c : VCo) (h : Sp.srcP (k + 6) s = true) : Sp.cellF s c = some (rC (Sp.cellV s c)) ∧ Sp.srcP k (Sp.cellV s c).2 = true ∧ Sp.rng (Sp.cellV s c).1.2.1 = true := by
  unfold Sp.cellF Sp.cellV
  cases c.2.2 with
  | false => rw [cond_false, cond_false]; exact cellW_is c (srcP_le h (by omega))
  | true =>
    have h1 := ch_is (k := k + 5) (n := 4) h
    rw [cond_true, cond_true, nxP_mk (srcP_le h (by omega)) (show (4 : Int) ≤ 256 by omega), chkT]
    cases (Sp.ch s 4).1 with
    | true => rw [cond_true, cond_true]; exact ⟨rfl, srcP_le h1 (by omega), rfl⟩
    | false => rw [cond_false, cond_false]; exact cellW_is c h1
noncomputable def e177 : Ent := { f := n177, ins := [shSrc, Sh.agg [cS, cI, cB]], outs := [Sh.agg [cI, cI, cS]], upd := [shSrc], pre := fun a => Sp.srcP 6 a.1, spec := fun a => (Sp.cellV a.1 a.2).1, wrt := fun a => (Sp.cellV a.1 a.2).2 }
theorem e177_ok : Valid PP Γ e177 := valid_of ok (vcons e139_ok (vcons e144_ok (vcons e198_ok (vcons e199_ok vnil)))) fun a ha => ⟨0, (f177_raw 0 a.1 a.2).trans (cellV_is (k := 0) a.2 ha).1⟩
noncomputable def f147_L0 (n m0 : Nat) (y0 : Int) (y1 : List Int) (y2 y3 : Int) (y4 : ByteArray) (y5 : List (ByteArray × Int × Bool)) (y6 : Int) (y7 : List (ByteArray × List Int)) (y8 : List (Int × Int × ByteArray)) : Option Res := loopAt Γ (orc [e177]) n (89 : Nat) (1 : Nat) [(0 : Nat)] [Pth.r, Pth.r, Pth.l, Pth.r, Pth.b] m0 (St.mk (Slot.val (Val.one (Cell.ptr (0 : Nat) (0 : Nat))) :: Zn :: Zn :: Slot.val (Val.one (Cell.ptr (1 : Nat) (0 : Nat))) :: Zn :: Slot.val (Val.one (Cell.own (2 : Nat))) :: ZS Zi y0 :: ZN 19 []) [AObj.box (113 : Nat) [Cell.dat (Ty.int IntKind.u8).slice y1, Cell.dat Zi y2, Cell.dat Zi y3], AObj.box (82 : Nat) [Cell.dat Ty.str y4, Cell.dat (Ty.str.pair (Zi.pair Ty.bool)).slice y5, Cell.dat Zi y6, Cell.dat (Ty.str.pair Zi.slice).slice y7], AObj.row (Zi.pair (Zi.pair Ty.str)) y8 true])
theorem f147_raw (n : Nat) (x0 : List Int) (x1 x2 : Int) (x3 : ByteArray) (x4 : List (ByteArray × Int × Bool)) (x5 : Int) (x6 : List (ByteArray × List Int)) : abody Γ (orc [e177]) n 89 [XV.mk false [X.box (113 : Nat) [X0.dat (Ty.int IntKind.u8).slice x0, X0.dat Zi x1, X0.dat Zi x2]], XV.mk true [ZC Ty.str x3, ZC (Ty.str.pair (Zi.pair Ty.bool)).slice x4, ZC Zi x5, ZC (Ty.str.pair Zi.slice).slice x6]] = f147_L0 n n (0 : Int) x0 x1 x2 x3 x4 x5 x6 [] := by kernel_rfl

abbrev rR (p : List V3 × Src) : Res := Res.mk [ZX (Ty.slice tV) p.1] [rSrc p.2]
theorem f147_L0_at (n m : Nat) (k : Int) (s : Src) (x3 : ByteArray) (cs : List VCo) (x5 : Int) (x6 : List VIx) (acc : List V3) : f147_L0 n (m + 1) k s.1 s.2.1 s.2.2 x3 cs x5 x6 acc = bif decide (k < (cs.length : Int)) then chk (decide ((0 : Int) ≤ k) && decide (k < (cs.length : Int))) (chk (Sp.srcP 6 s) (chk (decide ((acc.length + 1) * 32 ≤ 140737488355328)) (f147_L0 n m (IntKind.i64.wrap (k + 1)) (Sp.cellV s (cs.getD k.toNat zCo)).2.1 (Sp.cellV s (cs.getD k.toNat zCo)).2.2.1 (Sp.cellV s (cs.getD k.toNat zCo)).2.2.2 x3 cs x5 x6 (acc ++ [(Sp.cellV s (cs.getD k.toNat zCo)).1])))) else some (rR (acc, s)) := by kernel_rfl
def Sp.rowV : Src → List VCo → List V3 × Src
  | s, [] => ([], s)
  | s, c :: cs => ((Sp.cellV s c).1 :: (Sp.rowV (Sp.cellV s c).2 cs).1, (Sp.rowV (Sp.cellV s c).2 cs).2)
theorem rowV_len : ∀ (cs : List VCo) (s : Src), (Sp.rowV s cs).1.length = cs.length
  | [], _ => rfl
  | c :: cs, s => by rw [Sp.rowV, List.length_cons, List.length_cons, rowV_len cs]
theorem rowV_is {j : Nat} : ∀ (cs : List VCo) (s : Src), Sp.srcP (j + 6 * cs.length) s = true → Sp.srcP j (Sp.rowV s cs).2 = true ∧ ∀ v ∈ (Sp.rowV s cs).1, Sp.rng v.2.1 = true
  | [], s, h => ⟨h, fun v hv => by cases hv⟩
  | c :: cs, s, h => by
    obtain ⟨_, h1, h2⟩ := cellV_is (k := j + 6 * cs.length) (s := s) c (srcP_le h (by rw [List.length_cons]; omega))
    obtain ⟨h3, h4⟩ := rowV_is (j := j) cs _ h1
    rw [Sp.rowV]
    refine ⟨h3, fun v hv => ?_⟩
    rcases List.mem_cons.1 hv with rfl | hv
    · exact h2
    · exact h4 v hv
theorem f147_loop (n : Nat) (x3 : ByteArray) (cs : List VCo) (x5 : Int) (x6 : List VIx) (hl : cs.length ≤ 100) : ∀ (d k m : Nat) (s : Src) (acc : List V3), k + d = cs.length → d < m → acc.length ≤ k → Sp.srcP (6 * d) s = true → f147_L0 n m k s.1 s.2.1 s.2.2 x3 cs x5 x6 acc = some (rR (acc ++ (Sp.rowV s (cs.drop k)).1, (Sp.rowV s (cs.drop k)).2)) := by
  intro d
  induction d with
  | zero =>
    intro k m s acc hk hm _ _
    obtain ⟨m, rfl⟩ := succ_of hm
    rw [f147_L0_at, nat_ge (show cs.length ≤ k by omega), cond_false, List.drop_of_length_le (show cs.length ≤ k by omega), Sp.rowV, List.append_nil]
  | succ d ih =>
    intro k m s acc hk hm ha hs
    obtain ⟨m, rfl⟩ := succ_of hm
    have h : k < cs.length := by omega
    obtain ⟨_, h1, _⟩ := cellV_is (k := 6 * d) (s := s) cs[k] (srcP_le hs (by omega))
    rw [f147_L0_at, nat_lt h, cond_true, guard0, chkT, srcP_le hs (show 6 ≤ 6 * (d + 1) by omega), chkT, decide_eq_true (show (acc.length + 1) * 32 ≤ 140737488355328 by omega), chkT, getD_nat cs k _ h, next64 h (by omega), ih (k + 1) m _ _ (by omega) (by omega) (by rw [List.length_append, List.length_singleton]; omega) h1, List.drop_eq_getElem_cons h, Sp.rowV, List.append_assoc, List.singleton_append]
def Sp.rowVP (s : Src) (cs : List VCo) : Bool := yes2 (Nat.ble cs.length 100) (Sp.srcP 600 s)
noncomputable def e147 : Ent := { f := n147, ins := [shSrc, shTb], outs := [Sh.one (cL tV)], upd := [shSrc], pre := fun a => Sp.rowVP a.1 a.2.2.1, spec := fun a => (Sp.rowV a.1 a.2.2.1).1, wrt := fun a => (Sp.rowV a.1 a.2.2.1).2 }
theorem e147_core (s : Src) (x3 : ByteArray) (cs : List VCo) (x5 : Int) (x6 : List VIx) (h : Sp.rowVP s cs = true) : ∃ n, abody Γ (orc [e177]) n n147 (e147.args (s, x3, cs, x5, x6)) = some (rR (Sp.rowV s cs)) := by
  obtain ⟨h1, h2⟩ := yes2_true h
  have h1 := Nat.le_of_ble_eq_true h1
  exact ⟨cs.length + 1, (f147_raw _ s.1 s.2.1 s.2.2 x3 cs x5 x6).trans (f147_loop _ x3 cs x5 x6 h1 cs.length 0 _ s [] (Nat.zero_add _) (Nat.lt_succ_self _) (Nat.le_refl _) (srcP_le h2 (by omega)))⟩
theorem e147_ok : Valid PP Γ e147 := valid_of ok (vcons e177_ok vnil) fun a ha => e147_core a.1 a.2.1 a.2.2.1 a.2.2.2.1 a.2.2.2.2 ha
noncomputable def f138_L0 (n m0 : Nat) (y0 : Int) (y1 : List Int) (y2 y3 : Int) (y4 : ByteArray) (y5 : Int) (y6 : ByteArray) (y7 : Int) (y8 : List ByteArray) (y9 : List (ByteArray × Int × Bool)) : Option Res := loopAt Γ (orc [e139, e144, e172]) n (78 : Nat) (1 : Nat) [(0 : Nat)] [Pth.r, Pth.r, Pth.r, Pth.l, Pth.r, Pth.b] m0 (St.mk (Slot.val (Val.one (Cell.ptr (0 : Nat) (0 : Nat))) :: ZN 3 (Slot.val (Val.one (Cell.ptr (1 : Nat) (0 : Nat))) :: Slot.val (Val.one (Cell.ptr (2 : Nat) (0 : Nat))) :: Slot.val (Val.one (Cell.own (3 : Nat))) :: ZS Zi y0 :: ZN 93 [])) [AObj.box (113 : Nat) [Cell.dat (Ty.int IntKind.u8).slice y1, Cell.dat Zi y2, Cell.dat Zi y3], AObj.box (82 : Nat) [Cell.dat Ty.str y4, Cell.nilS, Cell.dat Zi y5, Cell.nilS], AObj.box (82 : Nat) [Cell.dat Ty.str y6, Cell.own (4 : Nat), Cell.dat Zi y7, Cell.nilS], AObj.row Ty.str y8 true, AObj.row (Ty.str.pair (Zi.pair Ty.bool)) y9 true])
noncomputable def f138_L1 (n m1 : Nat) (y0 : Int) (y1 : List Int) (y2 y3 : Int) (y4 : ByteArray) (y5 : Int) (y6 : ByteArray) (y7 : Int) (y8 : List (ByteArray × Int × Bool)) : Option Res := loopAt Γ (orc [e139, e144, e172]) n (78 : Nat) (1 : Nat) [(0 : Nat)] [Pth.r, Pth.r, Pth.r, Pth.r, Pth.r, Pth.l, Pth.r, Pth.b] m1 (St.mk (Slot.val (Val.one (Cell.ptr (0 : Nat) (0 : Nat))) :: ZN 3 (Slot.val (Val.one (Cell.ptr (1 : Nat) (0 : Nat))) :: Slot.val (Val.one (Cell.ptr (2 : Nat) (0 : Nat))) :: Zn :: Zn :: ZS Zi y0 :: ZN 92 [])) [AObj.box (113 : Nat) [Cell.dat (Ty.int IntKind.u8).slice y1, Cell.dat Zi y2, Cell.dat Zi y3], AObj.box (82 : Nat) [Cell.dat Ty.str y4, Cell.nilS, Cell.dat Zi y5, Cell.nilS], AObj.box (82 : Nat) [Cell.dat Ty.str y6, Cell.own (3 : Nat), Cell.dat Zi y7, Cell.nilS], AObj.row (Ty.str.pair (Zi.pair Ty.bool)) y8 true])
noncomputable def f138_L2 (n m1 : Nat) (y0 : Int) (y1 : List Int) (y2 y3 : Int) (y4 : ByteArray) (y5 : Int) (y6 : ByteArray) (y7 : Int) (y8 : List (ByteArray × Int × Bool)) (y9 : List (ByteArray × List Int)) : Option Res := loopAt Γ (orc [e139, e144, e172]) n (78 : Nat) (1 : Nat) [(0 : Nat)] [Pth.r, Pth.r, Pth.r, Pth.r, Pth.r, Pth.l, Pth.r, Pth.b] m1 (St.mk (Slot.val (Val.one (Cell.ptr (0 : Nat) (0 : Nat))) :: ZN 3 (Slot.val (Val.one (Cell.ptr (1 : Nat) (0 : Nat))) :: Slot.val (Val.one (Cell.ptr (2 : Nat) (0 : Nat))) :: Zn :: Zn :: ZS Zi y0 :: ZN 92 [])) [AObj.box (113 : Nat) [Cell.dat (Ty.int IntKind.u8).slice y1, Cell.dat Zi y2, Cell.dat Zi y3], AObj.box (82 : Nat) [Cell.dat Ty.str y4, Cell.nilS, Cell.dat Zi y5, Cell.nilS], AObj.box (82 : Nat) [Cell.dat Ty.str y6, Cell.own (3 : Nat), Cell.dat Zi y7, Cell.own (4 : Nat)], AObj.row (Ty.str.pair (Zi.pair Ty.bool)) y8 true, AObj.row (Ty.str.pair Zi.slice) y9 true])
theorem f138_raw (n : Nat) (x0 : List Int) (x1 x2 : Int) (x3 : ByteArray) : abody Γ (orc [e139, e144, e172]) n 78 [XV.mk false [X.box (113 : Nat) [X0.dat (Ty.int IntKind.u8).slice x0, X0.dat Zi x1, X0.dat Zi x2]], ZX Ty.str x3] = f138_L0 n n (0 : Int) x0 x1 x2 ByteArray.empty (0 : Int) x3 (1 : Int) [ByteArray.mk #[115, 116, 97, 116, 117, 115], ByteArray.mk #[111, 119, 110, 101, 114], ByteArray.mk #[110], ByteArray.mk #[102, 108, 97, 103], ByteArray.mk #[100, 97, 116, 97]] [(ByteArray.mk #[105, 100], (2 : Int), false)] := by kernel_rfl

abbrev rTbl (t : VTb) (s : Src) : Res := Res.mk [XV.mk true [ZC Ty.str t.1, ZC (Ty.slice tCo) t.2.1, ZC Zi t.2.2.1, ZC (Ty.slice tIx) t.2.2.2]] [rSrc s]
def Sp.by2 (i : Int) : ByteArray := ByteArray.mk #[98, 121] ++ Sp.dig i
noncomputable def Sp.ixK (s : Src) (n i : Int) (l : Nat) (K : VIx → Src → Option Res) : Option Res :=
  chk (Sp.d10 i) (chk (decide (2 + (Sp.dig i).size ≤ 9223372036854775807)) (chk (Sp.nxP s n) (chk (Sp.nxP (Sp.nx s n).2 n) (
    bif (Sp.nx (Sp.nx s n).2 n).1 != (Sp.nx s n).1 then chk (Sp.nxP (Sp.nx (Sp.nx s n).2 n).2 2) (
      bif (Sp.ch (Sp.nx (Sp.nx s n).2 n).2 2).1 then chk (decide ((l + 1) * 40 ≤ 140737488355328)) (K (Sp.by2 i, [(Sp.nx s n).1, (Sp.nx (Sp.nx s n).2 n).1]) (Sp.ch (Sp.nx (Sp.nx s n).2 n).2 2).2)
      else chk (decide ((l + 1) * 40 ≤ 140737488355328)) (K (Sp.by2 i, [(Sp.nx s n).1]) (Sp.ch (Sp.nx (Sp.nx s n).2 n).2 2).2))
    else chk (decide ((l + 1) * 40 ≤ 140737488355328)) (K (Sp.by2 i, [(Sp.nx s n).1]) (Sp.nx (Sp.nx s n).2 n).2)))))
theorem f138_L2_at (n m : Nat) (i : Int) (s : Src) (y4 : ByteArray) (y5 : Int) (y6 : ByteArray) (y7 : Int) (cs : List VCo) (xs : List VIx) : f138_L2 n (m + 1) i s.1 s.2.1 s.2.2 y4 y5 y6 y7 cs xs = bif decide (i > (0 : Int)) then Sp.ixK s cs.length i xs.length (fun x s' => f138_L2 n m (IntKind.i64.wrap (i - 1)) s'.1 s'.2.1 s'.2.2 y4 y5 y6 y7 cs (xs ++ [x])) else some (rTbl (y6, cs, y7, xs) s) := by kernel_rfl
theorem f138_L1_at (n m : Nat) (i : Int) (s : Src) (y4 : ByteArray) (y5 : Int) (y6 : ByteArray) (y7 : Int) (cs : List VCo) : f138_L1 n (m + 1) i s.1 s.2.1 s.2.2 y4 y5 y6 y7 cs = bif decide (i > (0 : Int)) then Sp.ixK s cs.length i 0 (fun x s' => f138_L2 n m (IntKind.i64.wrap (i - 1)) s'.1 s'.2.1 s'.2.2 y4 y5 y6 y7 cs [x]) else some (rTbl (y6, cs, y7, []) s) := by kernel_rfl
def Sp.ixV (s : Src) (n i : Int) : VIx × Src :=
  bif (Sp.nx (Sp.nx s n).2 n).1 != (Sp.nx s n).1 then (bif (Sp.ch (Sp.nx (Sp.nx s n).2 n).2 2).1 then ((Sp.by2 i, [(Sp.nx s n).1, (Sp.nx (Sp.nx s n).2 n).1]), (Sp.ch (Sp.nx (Sp.nx s n).2 n).2 2).2) else ((Sp.by2 i, [(Sp.nx s n).1]), (Sp.ch (Sp.nx (Sp.nx s n).2 n).2 2).2)) else ((Sp.by2 i, [(Sp.nx s n).1]), (Sp.nx (Sp.nx s n).2 n).2)
theorem ixK_is {j : Nat} {s : Src} {n i : Int} {l : Nat} {K : VIx → Src → Option Res} (h : Sp.srcP (j + 3) s = true) (hn : n ≤ 256) (h0 : 0 ≤ i) (hi : i < 10) (hl : l ≤ 1000) : Sp.ixK s n i l K = K (Sp.ixV s n i).1 (Sp.ixV s n i).2 ∧ Sp.srcP j (Sp.ixV s n i).2 = true := by
  obtain ⟨a1, _, _⟩ := nx_is (k := j + 2) (n := n) h
  obtain ⟨b1, _, _⟩ := nx_is (k := j + 1) (s := (Sp.nx s n).2) (n := n) a1
  have c1 := ch_is (k := j) (s := (Sp.nx (Sp.nx s n).2 n).2) (n := 2) b1
  have hd := dig_size h0 hi
  unfold Sp.ixK Sp.ixV
  rw [show Sp.d10 i = true from yes2Q (decide_eq_true h0) (decide_eq_true hi), chkT, decide_eq_true (show 2 + (Sp.dig i).size ≤ 9223372036854775807 by omega), chkT, nxP_mk (srcP_le h (by omega)) hn, chkT, nxP_mk (srcP_le a1 (by omega)) hn, chkT, decide_eq_true (show (l + 1) * 40 ≤ 140737488355328 by omega), chkT, chkT, nxP_mk (srcP_le b1 (by omega)) (show (2 : Int) ≤ 256 by omega), chkT]
  cases (Sp.nx (Sp.nx s n).2 n).1 != (Sp.nx s n).1 with
  | false => rw [cond_false, cond_false]; exact ⟨rfl, srcP_le b1 (by omega)⟩
  | true =>
    rw [cond_true, cond_true]
    cases (Sp.ch (Sp.nx (Sp.nx s n).2 n).2 2).1 with
    | false => rw [cond_false, cond_false]; exact ⟨rfl, c1⟩
    | true => rw [cond_true, cond_true]; exact ⟨rfl, c1⟩
def Sp.ixsV : Nat → Src → Int → List VIx × Src
  | 0, s, _ => ([], s)
  | i + 1, s, n => ((Sp.ixV s n ((i + 1 : Nat) : Int)).1 :: (Sp.ixsV i (Sp.ixV s n ((i + 1 : Nat) : Int)).2 n).1, (Sp.ixsV i (Sp.ixV s n ((i + 1 : Nat) : Int)).2 n).2)
theorem ixsV_is {j : Nat} : ∀ (i : Nat) (s : Src) (n : Int), i < 10 → n ≤ 256 → Sp.srcP (j + 3 * i) s = true → Sp.srcP j (Sp.ixsV i s n).2 = true
  | 0, _, _, _, _, h => h
  | i + 1, s, n, hi, hn, h => by
    have h1 := (ixK_is (j := j + 3 * i) (s := s) (n := n) (i := ((i + 1 : Nat) : Int)) (l := 0) (K := fun _ _ => none) (srcP_le h (by omega)) hn (by omega) (by omega) (by omega)).2
    rw [Sp.ixsV]
    exact ixsV_is i _ n (by omega) hn h1
theorem prev64 {i : Nat} (h : i + 1 ≤ 10) : IntKind.i64.wrap (((i + 1 : Nat) : Int) - 1) = (i : Int) := (wrap64 (by omega) (by omega)).trans (by omega)
theorem f138_L2_loop (n : Nat) (y4 : ByteArray) (y5 : Int) (y6 : ByteArray) (y7 : Int) (cs : List VCo) (hc : cs.length ≤ 100) : ∀ (i m : Nat) (s : Src) (xs : List VIx), i < m → i < 10 → xs.length + i ≤ 100 → Sp.srcP (3 * i) s = true → f138_L2 n m i s.1 s.2.1 s.2.2 y4 y5 y6 y7 cs xs = some (rTbl (y6, cs, y7, xs ++ (Sp.ixsV i s cs.length).1) (Sp.ixsV i s cs.length).2) := by
  intro i
  induction i with
  | zero =>
    intro m s xs hm _ _ _
    obtain ⟨m, rfl⟩ := succ_of hm
    rw [f138_L2_at, decide_eq_false (show ¬ ((0 : Nat) : Int) > 0 by omega), cond_false, Sp.ixsV, List.append_nil]
  | succ i ih =>
    intro m s xs hm hi hx hs
    obtain ⟨m, rfl⟩ := succ_of hm
    obtain ⟨e1, e2⟩ := ixK_is (j := 3 * i) (s := s) (n := (cs.length : Int)) (i := ((i + 1 : Nat) : Int)) (l := xs.length) (K := fun x s' => f138_L2 n m (IntKind.i64.wrap (((i + 1 : Nat) : Int) - 1)) s'.1 s'.2.1 s'.2.2 y4 y5 y6 y7 cs (xs ++ [x])) (srcP_le hs (by omega)) (by omega) (by omega) (by omega) (by omega)
    rw [f138_L2_at, decide_eq_true (show ((i + 1 : Nat) : Int) > 0 by omega), cond_true, e1, prev64 (by omega), ih m _ _ (by omega) (by omega) (by rw [List.length_append, List.length_singleton]; omega) e2, Sp.ixsV, List.append_assoc, List.singleton_append]
theorem f138_L1_run (n : Nat) (y4 : ByteArray) (y5 : Int) (y6 : ByteArray) (y7 : Int) (cs : List VCo) (hc : cs.length ≤ 100) (i m : Nat) (s : Src) (hm : i < m) (hi : i < 10) (hs : Sp.srcP (3 * i) s = true) : f138_L1 n m i s.1 s.2.1 s.2.2 y4 y5 y6 y7 cs = some (rTbl (y6, cs, y7, (Sp.ixsV i s cs.length).1) (Sp.ixsV i s cs.length).2) := by
  obtain ⟨m, rfl⟩ := succ_of hm
  cases i with
  | zero => rw [f138_L1_at, decide_eq_false (show ¬ ((0 : Nat) : Int) > 0 by omega), cond_false, Sp.ixsV]
  | succ i =>
    obtain ⟨e1, e2⟩ := ixK_is (j := 3 * i) (s := s) (n := (cs.length : Int)) (i := ((i + 1 : Nat) : Int)) (l := 0) (K := fun x s' => f138_L2 n m (IntKind.i64.wrap (((i + 1 : Nat) : Int) - 1)) s'.1 s'.2.1 s'.2.2 y4 y5 y6 y7 cs [x]) (srcP_le hs (by omega)) (by omega) (by omega) (by omega) (by omega)
    rw [f138_L1_at, decide_eq_true (show ((i + 1 : Nat) : Int) > 0 by omega), cond_true, e1, prev64 (by omega), f138_L2_loop n y4 y5 y6 y7 cs hc i m _ _ (by omega) (by omega) (by rw [List.length_singleton]; omega) e2, Sp.ixsV, List.singleton_append]
def Sp.nm5 : List ByteArray := [ByteArray.mk #[115, 116, 97, 116, 117, 115], ByteArray.mk #[111, 119, 110, 101, 114], ByteArray.mk #[110], ByteArray.mk #[102, 108, 97, 103], ByteArray.mk #[100, 97, 116, 97]]
def Sp.ty5 : List Int := [(3 : Int), (3 : Int), (2 : Int), (1 : Int), (4 : Int)]
def Sp.idCo : VCo := (ByteArray.mk #[105, 100], (2 : Int), false)
noncomputable def Sp.keyK (n : Nat) (s : Src) (y4 : ByteArray) (y5 : Int) (y6 : ByteArray) (y7 : Int) (cs : List VCo) : Option Res :=
  chk (Sp.nxP s 4) (bif (Sp.ch s 4).1 then bif decide ((cs.length : Int) > (1 : Int)) then chk (decide ((1 : Int) < (cs.length : Int))) (bif !(cs.getD 1 zCo).2.2 then chk (Sp.nxP (Sp.ch s 4).2 3) (f138_L1 n n (Sp.nx (Sp.ch s 4).2 3).1 (Sp.nx (Sp.ch s 4).2 3).2.1 (Sp.nx (Sp.ch s 4).2 3).2.2.1 (Sp.nx (Sp.ch s 4).2 3).2.2.2 y4 y5 y6 2 cs) else chk (Sp.nxP (Sp.ch s 4).2 3) (f138_L1 n n (Sp.nx (Sp.ch s 4).2 3).1 (Sp.nx (Sp.ch s 4).2 3).2.1 (Sp.nx (Sp.ch s 4).2 3).2.2.1 (Sp.nx (Sp.ch s 4).2 3).2.2.2 y4 y5 y6 y7 cs))
    else chk (Sp.nxP (Sp.ch s 4).2 3) (f138_L1 n n (Sp.nx (Sp.ch s 4).2 3).1 (Sp.nx (Sp.ch s 4).2 3).2.1 (Sp.nx (Sp.ch s 4).2 3).2.2.1 (Sp.nx (Sp.ch s 4).2 3).2.2.2 y4 y5 y6 y7 cs)
    else chk (Sp.nxP (Sp.ch s 4).2 3) (f138_L1 n n (Sp.nx (Sp.ch s 4).2 3).1 (Sp.nx (Sp.ch s 4).2 3).2.1 (Sp.nx (Sp.ch s 4).2 3).2.2.1 (Sp.nx (Sp.ch s 4).2 3).2.2.2 y4 y5 y6 y7 cs))
theorem f138_L0_at (n m : Nat) (k : Int) (s : Src) (y4 : ByteArray) (y5 : Int) (y6 : ByteArray) (y7 : Int) (nms : List ByteArray) (cs : List VCo) : f138_L0 n (m + 1) k s.1 s.2.1 s.2.2 y4 y5 y6 y7 nms cs = bif decide (k < (nms.length : Int)) then chk (Sp.nxP s 2) (bif (Sp.ch s 2).1 then chk (decide ((0 : Int) ≤ k) && decide (k < (nms.length : Int))) (chk (decide ((0 : Int) ≤ k) && decide (k < (5 : Int))) (chk (Sp.nxP (Sp.ch s 2).2 2) (chk (decide ((cs.length + 1) * 32 ≤ 140737488355328)) (f138_L0 n m (IntKind.i64.wrap (k + 1)) (Sp.ch (Sp.ch s 2).2 2).2.1 (Sp.ch (Sp.ch s 2).2 2).2.2.1 (Sp.ch (Sp.ch s 2).2 2).2.2.2 y4 y5 y6 y7 nms (cs ++ [(nms.getD k.toNat (ByteArray.mk #[]), Sp.ty5.getD k.toNat (0 : Int), (Sp.ch (Sp.ch s 2).2 2).1)]))))) else f138_L0 n m (IntKind.i64.wrap (k + 1)) (Sp.ch s 2).2.1 (Sp.ch s 2).2.2.1 (Sp.ch s 2).2.2.2 y4 y5 y6 y7 nms cs) else Sp.keyK n s y4 y5 y6 y7 cs := by kernel_rfl
def Sp.keyV (s : Src) (cs : List VCo) : Int := bif (Sp.ch s 4).1 then bif decide ((cs.length : Int) > (1 : Int)) then bif !(cs.getD 1 zCo).2.2 then 2 else 1 else 1 else 1
theorem keyV_is (s : Src) {cs : List VCo} (h : 1 ≤ cs.length) : 1 ≤ Sp.keyV s cs ∧ Sp.keyV s cs ≤ cs.length := by
  unfold Sp.keyV
  cases (Sp.ch s 4).1 with
  | false => rw [cond_false]; omega
  | true =>
  by_cases hc : (cs.length : Int) > 1
  · rw [decide_eq_true hc, cond_true, cond_true]
    cases !(cs.getD 1 zCo).2.2 with
    | true => rw [cond_true]; omega
    | false => rw [cond_false]; omega
  · rw [decide_eq_false hc, cond_true, cond_false]; omega
def Sp.ixsOf (s : Src) (n : Int) : List VIx × Src := Sp.ixsV (Sp.nx (Sp.ch s 4).2 3).1.toNat (Sp.nx (Sp.ch s 4).2 3).2 n
theorem keyK_is {j : Nat} (n : Nat) (hn : 9 < n) (s : Src) (y4 : ByteArray) (y5 : Int) (y6 : ByteArray) (cs : List VCo) (hc : cs.length ≤ 100) (h : Sp.srcP (j + 8) s = true) : Sp.keyK n s y4 y5 y6 1 cs = some (rTbl (y6, cs, Sp.keyV s cs, (Sp.ixsOf s cs.length).1) (Sp.ixsOf s cs.length).2) ∧ Sp.srcP j (Sp.ixsOf s cs.length).2 = true := by
  have c1 := ch_is (k := j + 7) (s := s) (n := 4) h
  obtain ⟨d1, d2, d3⟩ := nx_is (k := j + 6) (s := (Sp.ch s 4).2) (n := 3) c1
  have d3 := d3 (by omega)
  have e : (((Sp.nx (Sp.ch s 4).2 3).1.toNat : Nat) : Int) = (Sp.nx (Sp.ch s 4).2 3).1 := by omega
  have L : ∀ y7 : Int, f138_L1 n n (Sp.nx (Sp.ch s 4).2 3).1 (Sp.nx (Sp.ch s 4).2 3).2.1 (Sp.nx (Sp.ch s 4).2 3).2.2.1 (Sp.nx (Sp.ch s 4).2 3).2.2.2 y4 y5 y6 y7 cs = some (rTbl (y6, cs, y7, (Sp.ixsOf s cs.length).1) (Sp.ixsOf s cs.length).2) := fun y7 => by
    have := f138_L1_run n y4 y5 y6 y7 cs hc (Sp.nx (Sp.ch s 4).2 3).1.toNat n (Sp.nx (Sp.ch s 4).2 3).2 (by omega) (by omega) (srcP_le d1 (by omega))
    rw [e] at this
    exact this
  refine ⟨?_, ixsV_is _ _ _ (by omega) (by omega) (srcP_le d1 (by omega))⟩
  unfold Sp.keyK Sp.keyV
  rw [nxP_mk (srcP_le h (by omega)) (show (4 : Int) ≤ 256 by omega), chkT, nxP_mk (srcP_le c1 (by omega)) (show (3 : Int) ≤ 256 by omega), chkT, chkT, L, L]
  cases (Sp.ch s 4).1 with
  | false => rfl
  | true =>
  by_cases hl : (cs.length : Int) > 1
  · have hl2 : decide ((1 : Int) < (cs.length : Int)) = true := decide_eq_true (by omega)
    have hl3 : decide ((cs.length : Int) > (1 : Int)) = true := hl2
    rw [hl3]
    try rw [hl2]
    cases !(cs.getD 1 zCo).2.2 <;> rfl
  · rw [decide_eq_false hl]; rfl
def Sp.colsV : Src → Nat → Nat → List VCo × Src
  | s, _, 0 => ([], s)
  | s, k, d + 1 => bif (Sp.ch s 2).1 then ((Sp.nm5.getD k (ByteArray.mk #[]), Sp.ty5.getD k (0 : Int), (Sp.ch (Sp.ch s 2).2 2).1) :: (Sp.colsV (Sp.ch (Sp.ch s 2).2 2).2 (k + 1) d).1, (Sp.colsV (Sp.ch (Sp.ch s 2).2 2).2 (k + 1) d).2) else Sp.colsV (Sp.ch s 2).2 (k + 1) d
theorem colsV_is {j : Nat} : ∀ (d k : Nat) (s : Src), Sp.srcP (j + 2 * d) s = true → Sp.srcP j (Sp.colsV s k d).2 = true ∧ (Sp.colsV s k d).1.length ≤ d
  | 0, _, _, h => ⟨h, Nat.le_refl _⟩
  | d + 1, k, s, h => by
    have c1 := ch_is (k := j + 2 * d + 1) (s := s) (n := 2) (srcP_le h (by omega))
    have c2 := ch_is (k := j + 2 * d) (s := (Sp.ch s 2).2) (n := 2) c1
    rw [Sp.colsV]
    cases (Sp.ch s 2).1 with
    | true =>
      rw [cond_true]
      obtain ⟨a, b⟩ := colsV_is (j := j) d (k + 1) _ c2
      exact ⟨a, Nat.succ_le_succ b⟩
    | false =>
      rw [cond_false]
      obtain ⟨a, b⟩ := colsV_is (j := j) d (k + 1) _ (srcP_le c1 (by omega))
      exact ⟨a, Nat.le_succ_of_le b⟩
def Sp.tabC (s : Src) : List VCo := Sp.idCo :: (Sp.colsV s 0 5).1
def Sp.tabV (s : Src) (nm : ByteArray) : VTb × Src := ((nm, Sp.tabC s, Sp.keyV (Sp.colsV s 0 5).2 (Sp.tabC s), (Sp.ixsOf (Sp.colsV s 0 5).2 (Sp.tabC s).length).1), (Sp.ixsOf (Sp.colsV s 0 5).2 (Sp.tabC s).length).2)
theorem f138_L0_loop {j : Nat} (n : Nat) (hn : 9 < n) (y4 : ByteArray) (y5 : Int) (y6 : ByteArray) : ∀ (d k m : Nat) (s : Src) (cs : List VCo), k + d = 5 → d < m → cs.length ≤ k + 1 → Sp.srcP (j + 8 + 2 * d) s = true →
    f138_L0 n m k s.1 s.2.1 s.2.2 y4 y5 y6 1 Sp.nm5 cs = some (rTbl (y6, cs ++ (Sp.colsV s k d).1, Sp.keyV (Sp.colsV s k d).2 (cs ++ (Sp.colsV s k d).1), (Sp.ixsOf (Sp.colsV s k d).2 (cs ++ (Sp.colsV s k d).1).length).1) (Sp.ixsOf (Sp.colsV s k d).2 (cs ++ (Sp.colsV s k d).1).length).2) := by
  intro d
  induction d with
  | zero =>
    intro k m s cs hk hm hc hs
    obtain ⟨m, rfl⟩ := succ_of hm
    rw [f138_L0_at, nat_ge (show Sp.nm5.length ≤ k from show 5 ≤ k by omega), cond_false, Sp.colsV, List.append_nil]
    exact (keyK_is (j := j) n hn s y4 y5 y6 cs (by omega) hs).1
  | succ d ih =>
    intro k m s cs hk hm hc hs
    obtain ⟨m, rfl⟩ := succ_of hm
    have h : k < Sp.nm5.length := show k < 5 by omega
    have c1 := ch_is (k := j + 8 + 2 * d + 1) (s := s) (n := 2) (srcP_le hs (by omega))
    have c2 := ch_is (k := j + 8 + 2 * d) (s := (Sp.ch s 2).2) (n := 2) c1
    have g : (decide ((0 : Int) ≤ (k : Int)) && decide ((k : Int) < (5 : Int))) = true := guard2 (n := 5) (by omega)
    rw [f138_L0_at, nat_lt h, cond_true, guard0, chkT, g, chkT, nxP_mk (srcP_le hs (by omega)) (show (2 : Int) ≤ 256 by omega), chkT, nxP_mk (srcP_le c1 (by omega)) (show (2 : Int) ≤ 256 by omega), chkT, decide_eq_true (show (cs.length + 1) * 32 ≤ 140737488355328 by omega), chkT, next64 h (show (5 : Nat) ≤ 9223372036854775807 by omega), Sp.colsV]
    cases (Sp.ch s 2).1 with
    | true =>
      rw [cond_true, cond_true, ih (k + 1) m _ _ (by omega) (by omega) (by rw [List.length_append, List.length_singleton]; omega) c2, List.append_assoc, List.singleton_append]
      rfl
    | false => rw [cond_false, cond_false, ih (k + 1) m _ _ (by omega) (by omega) (by omega) (srcP_le c1 (by omega))]
theorem tabV_is {j : Nat} {s : Src} (nm : ByteArray) (h : Sp.srcP (j + 18) s = true) : Sp.srcP j (Sp.tabV s nm).2 = true ∧ (Sp.tabV s nm).1.2.1.length ≤ 6 ∧ 1 ≤ (Sp.tabV s nm).1.2.2.1 ∧ (Sp.tabV s nm).1.2.2.1 ≤ (Sp.tabV s nm).1.2.1.length := by
  obtain ⟨a, b⟩ := colsV_is (j := j + 8) 5 0 s h
  have hl : (Sp.tabC s).length ≤ 6 := Nat.succ_le_succ b
  have hk := keyV_is (Sp.colsV s 0 5).2 (cs := Sp.tabC s) (Nat.succ_le_succ (Nat.zero_le _))
  exact ⟨(keyK_is (j := j) 10 (by omega) _ (ByteArray.mk #[]) 0 nm (Sp.tabC s) (by omega) a).2, hl, hk.1, hk.2⟩
noncomputable def e138 : Ent := { f := n138, ins := [shSrc, Sh.one cS], outs := [Sh.agg [cS, cL tCo, cI, cL tIx]], upd := [shSrc], pre := fun a => Sp.srcP 18 a.1, spec := fun a => (Sp.tabV a.1 a.2).1, wrt := fun a => (Sp.tabV a.1 a.2).2 }
theorem e138_core (s : Src) (nm : ByteArray) (h : Sp.srcP 18 s = true) : ∃ n, abody Γ (orc [e139, e144, e172]) n n138 (e138.args (s, nm)) = some (rTbl (Sp.tabV s nm).1 (Sp.tabV s nm).2) :=
  ⟨10, (f138_raw 10 s.1 s.2.1 s.2.2 nm).trans (f138_L0_loop (j := 0) 10 (by omega) ByteArray.empty 0 nm 5 0 10 s [Sp.idCo] rfl (by omega) (Nat.le_refl _) h)⟩
theorem e138_ok : Valid PP Γ e138 := valid_of ok (vcons e139_ok (vcons e144_ok (vcons e172_ok vnil))) fun a ha => e138_core a.1 a.2 ha
abbrev rCat (l : List VTb) (s : Src) : Res := Res.mk [ZX (Ty.slice tTb) l] [rSrc s]
def Sp.nCases : ByteArray := ByteArray.mk #[99, 97, 115, 101, 115]
def Sp.nNotes : ByteArray := ByteArray.mk #[110, 111, 116, 101, 115]
def Sp.catV (s : Src) : List VTb × Src := bif (Sp.ch (Sp.tabV s Sp.nCases).2 2).1 then ([(Sp.tabV s Sp.nCases).1, (Sp.tabV (Sp.ch (Sp.tabV s Sp.nCases).2 2).2 Sp.nNotes).1], (Sp.tabV (Sp.ch (Sp.tabV s Sp.nCases).2 2).2 Sp.nNotes).2) else ([(Sp.tabV s Sp.nCases).1], (Sp.ch (Sp.tabV s Sp.nCases).2 2).2)
theorem f95_raw (n : Nat) (s : Src) : abody Γ (orc [e138, e139]) n n95 [XV.mk false [rSrc s]] = chk (Sp.srcP 18 s) (chk (Sp.nxP (Sp.tabV s Sp.nCases).2 2) (bif (Sp.ch (Sp.tabV s Sp.nCases).2 2).1 then chk (Sp.srcP 18 (Sp.ch (Sp.tabV s Sp.nCases).2 2).2) (some (rCat [(Sp.tabV s Sp.nCases).1, (Sp.tabV (Sp.ch (Sp.tabV s Sp.nCases).2 2).2 Sp.nNotes).1] (Sp.tabV (Sp.ch (Sp.tabV s Sp.nCases).2 2).2 Sp.nNotes).2)) else some (rCat [(Sp.tabV s Sp.nCases).1] (Sp.ch (Sp.tabV s Sp.nCases).2 2).2))) := by kernel_rfl
noncomputable def e95 : Ent := { f := n95, ins := [shSrc], outs := [Sh.one (cL tTb)], upd := [shSrc], pre := fun a => Sp.srcP 40 a, spec := fun a => (Sp.catV a).1, wrt := fun a => (Sp.catV a).2 }
theorem e95_core (s : Src) (h : Sp.srcP 40 s = true) : ∃ n, abody Γ (orc [e138, e139]) n n95 (e95.args s) = some (rCat (Sp.catV s).1 (Sp.catV s).2) := by
  refine ⟨0, (f95_raw 0 s).trans ?_⟩
  obtain ⟨a, _⟩ := tabV_is (j := 22) Sp.nCases h
  have b := ch_is (k := 21) (n := 2) a
  unfold Sp.catV
  rw [srcP_le h (show 18 ≤ 40 by omega), chkT, nxP_mk (srcP_le a (by omega)) (show (2 : Int) ≤ 256 by omega), chkT, srcP_le b (show 18 ≤ 21 by omega), chkT]
  cases (Sp.ch (Sp.tabV s Sp.nCases).2 2).1 <;> rfl
theorem e95_ok : Valid PP Γ e95 := valid_of ok (vcons e138_ok (vcons e139_ok vnil)) fun a ha => e95_core a ha
def Sp.f94 (x0 : List Int) := ((x0, (0 : Int), (↑x0.length : Int).tmod (1000 : Int)), ())
noncomputable def e94 : Ent := { f := 44, ins := [Sh.one (C0.dat (Ty.int IntKind.u8).slice)], outs := [Sh.box (113 : Nat) [C0.dat (Ty.int IntKind.u8).slice, C0.dat Zi, C0.dat Zi]], upd := [], pre := fun a => true, spec := fun a => (Sp.f94 a).1, wrt := fun a => (Sp.f94 a).2 }
def f94_g (v : denS [Sh.box (113 : Nat) [C0.dat (Ty.int IntKind.u8).slice, C0.dat Zi, C0.dat Zi]] × denS []) : Res := ⟨mkS [Sh.box (113 : Nat) [C0.dat (Ty.int IntKind.u8).slice, C0.dat Zi, C0.dat Zi]] v.1, mkU [] v.2⟩
theorem f94_form (x0 : List Int) : abody Γ (orc []) 0 44 [ZX (Ty.int IntKind.u8).slice x0] = some (f94_g (Sp.f94 x0)) := by
  refine Eq.trans (b := some (Res.mk [XV.mk false [X.box (113 : Nat) [X0.dat (Ty.int IntKind.u8).slice x0, X0.dat Zi (0 : Int), X0.dat Zi ((↑x0.length : Int).tmod (1000 : Int))]]] [])) (by kernel_rfl) ?_
  unfold Sp.f94
  exact rfl
theorem e94_ok : Valid PP Γ e94 := valid_auto ok vnil fun a => f94_form a

def Sp.f57_pre (x0 : List Int) : Bool := (Sp.srcP (40 : Nat) ((Sp.f94 x0).1.1, (Sp.f94 x0).1.2.1, (Sp.f94 x0).1.2.2))
def Sp.f57 (x0 : List Int) := ((Sp.catV ((Sp.f94 x0).1.1, (Sp.f94 x0).1.2.1, (Sp.f94 x0).1.2.2)).1, ())
noncomputable def e57 : Ent := { f := 10, ins := [Sh.one (C0.dat (Ty.int IntKind.u8).slice)], outs := [Sh.one (C0.dat (Ty.str.pair ((Ty.str.pair (Zi.pair Ty.bool)).slice.pair (Zi.pair (Ty.str.pair Zi.slice).slice))).slice)], upd := [], pre := fun a => Sp.f57_pre a, spec := fun a => (Sp.f57 a).1, wrt := fun a => (Sp.f57 a).2 }
def f57_g (v : denS [Sh.one (C0.dat (Ty.str.pair ((Ty.str.pair (Zi.pair Ty.bool)).slice.pair (Zi.pair (Ty.str.pair Zi.slice).slice))).slice)] × denS []) : Res := ⟨mkS [Sh.one (C0.dat (Ty.str.pair ((Ty.str.pair (Zi.pair Ty.bool)).slice.pair (Zi.pair (Ty.str.pair Zi.slice).slice))).slice)] v.1, mkU [] v.2⟩
theorem f57_form (x0 : List Int) : abody Γ (orc [e94, e95]) 0 10 [ZX (Ty.int IntKind.u8).slice x0] = chk (Sp.f57_pre x0) (some (f57_g (Sp.f57 x0))) := by
  refine Eq.trans (b := chk (Sp.srcP (40 : Nat) ((Sp.f94 x0).1.1, (Sp.f94 x0).1.2.1, (Sp.f94 x0).1.2.2)) (some (Res.mk [ZX (Ty.str.pair ((Ty.str.pair (Zi.pair Ty.bool)).slice.pair (Zi.pair (Ty.str.pair Zi.slice).slice))).slice (Sp.catV ((Sp.f94 x0).1.1, (Sp.f94 x0).1.2.1, (Sp.f94 x0).1.2.2)).1] []))) (by kernel_rfl) ?_
  unfold Sp.f57_pre Sp.f57
  exact (chk_last (rfl))
theorem e57_ok : Valid PP Γ e57 := valid_auto ok (vcons e94_ok (vcons e95_ok vnil)) fun a => f57_form a

end Go.Proofs.GR.T

