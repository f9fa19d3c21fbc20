/-
  No statement is proved here: what the functions of the law answer, told as plain functions, and that the law's answer is always true.
  No condition.
-/
import Derived.Test.YtfihkpknhkbciaaGreatDoorTRuleOKj
set_option maxRecDepth 3000000
set_option maxHeartbeats 100000000
namespace Go.Proofs.GR.T
open Go Go.Proofs Go.Proofs.GR
def Sp.f1177 (x0 x1 : ByteArray) := (bif decide ((↑x0.size : Int) ≥ (↑x1.size : Int)) then ((x0.extract (0 : Nat) (↑x1.size : Int).toNat).toList == x1.toList, ()) else (false, ()))
def Sp.f1146 (x0 x1 : ByteArray) := ((Sp.f1177 x0 x1).1, ())
noncomputable def f1160_L0 (n m0 : Nat) (y0 : Int) (y1 : List ZT) (y2 y3 : Int) : Option Res := loopAt Γ (orc [e1025]) n (223 : Nat) (0 : Nat) [] [Pth.r, Pth.r, Pth.l, Pth.r, Pth.b] m0 (St.mk (Zn :: ZS Zi y0 :: ZN 12 (ZS ZA.rose.slice y1 :: ZS Zi y2 :: ZS Zi y3 :: ZN 9 [])) [])
theorem f1160_L0_step (n m0 : Nat) (y0 : Int) (y1 : List ZT) (y2 y3 : Int) : f1160_L0 n (m0 + 1) y0 y1 y2 y3 = bif decide (y3 < y2) then chk (decide ((0 : Int) ≤ y3) && decide (y3 < (↑y1.length : Int))) (chk (Sp.cnt32 (y1.getD y3.toNat ZR).kids) (f1160_L0 n m0 (IntKind.i64.wrap (y0 + (↑((1 : Nat) + Sp.cntTs (y1.getD y3.toNat ZR).kids) : Int))) y1 y2 (IntKind.i64.wrap (y3 + (1 : Int))))) else ZJ y0 := by kernel_rfl
theorem f1160_raw (n : Nat) (x0 x1 : Int) (x2 x3 : ByteArray) (x4 x5 : Int) (x6 : ByteArray) (x7 : List ZT) (x8 x9 : Int) : abody Γ (orc [e1025]) n 223 [XV.mk true [ZC Zi x0, ZC Zi x1, ZC Ty.str x2, ZC Ty.str x3, ZC Zi x4, ZC Zi x5, ZC Ty.str x6, ZC ZA.rose.slice x7], ZX Zi x8, ZX Zi x9] = chk (decide ((0 : Int) ≤ x9) && decide (x9 ≤ (↑x7.length : Int))) (f1160_L0 n n (IntKind.i64.wrap (x8 + (1 : Int))) (List.take (x9.toNat - (0 : Nat)) (List.drop (0 : Nat) x7)) (↑(List.take (x9.toNat - (0 : Nat)) (List.drop (0 : Nat) x7)).length : Int) (0 : Int)) := by kernel_rfl

end Go.Proofs.GR.T

set_option maxRecDepth 3000000
set_option maxHeartbeats 100000000
namespace Go.Proofs.GR.T
open Go Go.Proofs Go.Proofs.GR
def Sp.isS (t w : ByteArray) : Bool := w.toList == t.toList
def Sp.cutB (c : ByteArray) : Nat → ByteArray → ByteArray
  | 0, t => t
  | m + 1, t => bif (Sp.f1146 t c).1 then Sp.cutB c m (t.extract 1 t.size) else t
def Sp.cutN (c : ByteArray) : Nat → ByteArray → Nat
  | 0, _ => 0
  | m + 1, t => bif (Sp.f1146 t c).1 then Sp.cutN c m (t.extract 1 t.size) + 1 else 0
def Sp.cut (t c : ByteArray) (m : Int) : ByteArray × Int := (Sp.cutB c m.toNat t, (Sp.cutN c m.toNat t : Nat))
def Sp.kidAt (ks : List RT) (p i : Int) : Int := p + 1 + (Sp.cntTs (ks.take i.toNat) : Nat)
def Sp.kidP (ks : List RT) (p i : Int) : Bool := yes2 (Sp.cnt32 ks) (yes2 (decide (0 ≤ p)) (yes2 (decide (p ≤ 1000000000000)) (yes2 (decide (0 ≤ i)) (decide (i ≤ (ks.length : Int))))))
noncomputable def e1160 : Ent := { f := n1160, ins := [Sh.agg aT, Sh.one cI, Sh.one cI], outs := [Sh.one cI], upd := [], pre := fun a => Sp.kidP a.1.2.2.2.2.2.2.2 a.2.1 a.2.2, spec := fun a => Sp.kidAt a.1.2.2.2.2.2.2.2 a.2.1 a.2.2, wrt := fun _ => () }
theorem cntTs_cat : ∀ (a b : List RT), Sp.cntTs (a ++ b) = Sp.cntTs a + Sp.cntTs b
  | [], b => by rw [List.nil_append, show Sp.cntTs [] = 0 by rw [Sp.cntTs], Nat.zero_add]
  | r :: a, b => by rw [List.cons_append, Sp.cntTs, Sp.cntTs, cntTs_cat a b]; omega
theorem cntTs_len : ∀ l : List RT, l.length ≤ Sp.cntTs l
  | [] => Nat.zero_le _
  | r :: l => by
    rw [Sp.cntTs, List.length_cons]
    have := cntTs_len l
    cases r with | mk a ks => rw [Sp.cntT]; omega
theorem kid_loop (n : Nat) (xs : List RT) (h : Sp.cntTs xs ≤ 1000000000000) : ∀ (d k m : Nat) (v : Int), k + d = xs.length → d < m → 0 ≤ v → v + Sp.cntTs (xs.drop k) ≤ 3000000000000 → f1160_L0 n m v xs xs.length k = some (rI (v + (Sp.cntTs (xs.drop k) : Nat))) := by
  have hlen := cntTs_len xs
  intro d
  induction d with
  | zero =>
    intro k m v hk hm _ _
    obtain ⟨m, rfl⟩ := succ_of hm
    rw [f1160_L0_step, nat_ge (by omega), cond_false, List.drop_of_length_le (by omega), show Sp.cntTs [] = 0 by rw [Sp.cntTs]]
    show some (rI v) = _
    rw [show v + ((0 : Nat) : Int) = v by omega]
  | succ d ih =>
    intro k m v hk hm h0 hv
    obtain ⟨m, rfl⟩ := succ_of hm
    have hlt : k < xs.length := by omega
    have e0 : Sp.cntTs (xs.drop k) = Sp.cntT xs[k] + Sp.cntTs (xs.drop (k + 1)) := by rw [List.drop_eq_getElem_cons hlt, Sp.cntTs]
    have e1 : Sp.cntT xs[k] = 1 + Sp.cntTs xs[k].kids := by cases xs[k] with | mk a ks => rw [Sp.cntT]; rfl
    have hsub : Sp.cntTs (xs.take k) + Sp.cntTs (xs.drop k) = Sp.cntTs xs := by rw [← cntTs_cat, List.take_append_drop]
    rw [e0] at hv hsub ⊢
    have hk2 : Sp.cnt32 xs[k].kids = true := cnt32_mk (by omega)
    rw [f1160_L0_step, nat_lt hlt, cond_true, guard0, chkT, getD_nat xs k _ hlt, hk2, chkT, next64 hlt (by omega), ← e1, wrap64 (by omega) (by omega), ih (k + 1) m _ (by omega) (by omega) (by omega) (by omega), show v + ((Sp.cntT xs[k] : Nat) : Int) + ((Sp.cntTs (xs.drop (k + 1)) : Nat) : Int) = v + ((Sp.cntT xs[k] + Sp.cntTs (xs.drop (k + 1)) : Nat) : Int) by omega]
theorem e1160_core (x0 x1 : Int) (x2 x3 : ByteArray) (x4 x5 : Int) (x6 : ByteArray) (x7 : List RT) (p i : Int) (ha : Sp.kidP x7 p i = true) : ∃ n, abody Γ (orc [e1025]) n n1160 (e1160.args ((x0, x1, x2, x3, x4, x5, x6, x7), p, i)) = some (e1160.res ((x0, x1, x2, x3, x4, x5, x6, x7), p, i)) := by
  obtain ⟨hc, ha⟩ := yes2_true ha
  obtain ⟨h0, ha⟩ := yes2_true ha
  obtain ⟨h1, ha⟩ := yes2_true ha
  obtain ⟨h2, h3⟩ := yes2_true ha
  have hc := cnt32_of hc
  have h0 := of_decide_eq_true h0
  have h1 := of_decide_eq_true h1
  have h2 := of_decide_eq_true h2
  have h3 := of_decide_eq_true h3
  have hsp : Sp.cntTs (x7.take i.toNat) + Sp.cntTs (x7.drop i.toNat) = Sp.cntTs x7 := by rw [← cntTs_cat, List.take_append_drop]
  refine ⟨(x7.take i.toNat).length + 1, (f1160_raw _ x0 x1 x2 x3 x4 x5 x6 x7 p i).trans ?_⟩
  rw [decide_eq_true h2, decide_eq_true h3, Bool.and_self, chkT, Nat.sub_zero, List.drop_zero, wrap64 (n := p + 1) (by omega) (by omega)]
  have := kid_loop ((x7.take i.toNat).length + 1) (x7.take i.toNat) (by omega) (x7.take i.toNat).length 0 ((x7.take i.toNat).length + 1) (p + 1) (Nat.zero_add _) (Nat.lt_succ_self _) (by omega) (by rw [List.drop_zero]; omega)
  rw [List.drop_zero] at this
  exact this
theorem e1160_ok : Valid PP Γ e1160 := valid_of ok (vcons e1025_ok vnil) fun a ha => e1160_core a.1.1 a.1.2.1 a.1.2.2.1 a.1.2.2.2.1 a.1.2.2.2.2.1 a.1.2.2.2.2.2.1 a.1.2.2.2.2.2.2.1 a.1.2.2.2.2.2.2.2 a.2.1 a.2.2 ha
end Go.Proofs.GR.T

set_option maxRecDepth 3000000
set_option maxHeartbeats 100000000
namespace Go.Proofs.GR.T
open Go Go.Proofs Go.Proofs.GR
end Go.Proofs.GR.T

set_option maxRecDepth 3000000
set_option maxHeartbeats 100000000
namespace Go.Proofs.GR.T
open Go Go.Proofs Go.Proofs.GR
def Sp.named (r : RT) : Bool := bif r.a.1 == (6 : Int) then !(r.a.2.2.1.toList == (ByteArray.mk #[]).toList) else true
end Go.Proofs.GR.T

set_option maxRecDepth 3000000
set_option maxHeartbeats 100000000
namespace Go.Proofs.GR.T
open Go Go.Proofs Go.Proofs.GR
end Go.Proofs.GR.T

