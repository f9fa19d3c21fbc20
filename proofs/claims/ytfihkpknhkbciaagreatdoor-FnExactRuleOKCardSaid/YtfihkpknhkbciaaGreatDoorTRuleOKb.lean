/-
  No statement is proved here: what the functions of the law answer, told as plain functions, and that the law's answer is always true.
  No condition.
-/
import Derived.Test.YtfihkpknhkbciaaGreatDoorTRuleOKa
set_option maxRecDepth 2000000
set_option maxHeartbeats 100000000
namespace Go.Proofs.GR.T
open Go Go.Proofs Go.Proofs.GR
def Sp.noV (v : V3) : Bool := Go.Proofs.GR.eqI v.1 0 && (Go.Proofs.GR.eqI v.2.1 0 && (Go.Proofs.GR.eqS v.2.2 ByteArray.empty && true))
def Sp.mt (t : ByteArray) : Bool := t.toList == (ByteArray.mk #[]).toList
def Sp.isW (l : Array UInt8) (t : ByteArray) : Bool := t.toList == (ByteArray.mk l).toList
def Sp.un4 (t : ByteArray) : Bool := bif Sp.isW #[45] t then true else bif Sp.isW #[110, 111, 116] t then true else bif Sp.isW #[105, 115, 110, 117, 108, 108] t then true else Sp.isW #[105, 115, 110, 111, 116, 110, 117, 108, 108] t
def Sp.ag4 (t : ByteArray) : Bool := bif Sp.isW #[99, 111, 117, 110, 116] t then true else bif Sp.isW #[115, 117, 109] t then true else bif Sp.isW #[109, 105, 110] t then true else Sp.isW #[109, 97, 120] t
def Sp.lNode (a : VA) (fs : List (Bool → Bool)) (g : Bool) : Bool :=
  bif a.1 == 13 then (bif a.2.1 == 0 then bif Sp.mt a.2.2.1 then bif Sp.mt a.2.2.2.1 then bif (fs.length : Int) == 0 then bif (Sp.f136 a.2.2.2.2.1 a.2.2.2.2.2.1 a.2.2.2.2.2.2).1 then bif a.2.2.2.2.1 != 2 then true else (Sp.f79 a.2.2.2.2.2.1 0 999999999999999999).1 else false else false else false else false else false)
  else bif a.1 == 14 then (bif a.2.1 == 0 then bif Sp.noV a.2.2.2.2 then bif Sp.isFreeS a.2.2.1 then bif Sp.mt a.2.2.2.1 then (fs.length : Int) == 0 else bif Sp.isFreeS a.2.2.2.1 then (fs.length : Int) == 0 else false else false else false else false)
  else bif a.1 == 15 then (bif a.2.1 == 0 then bif Sp.noV a.2.2.2.2 then bif Sp.mt a.2.2.2.1 then bif Sp.un4 a.2.2.1 then bif (fs.length : Int) == 1 then fs.getD 0 (fun _ => false) g else false else false else false else false else false)
  else bif a.1 == 16 then (bif a.2.1 == 0 then bif Sp.noV a.2.2.2.2 then bif Sp.mt a.2.2.2.1 then bif decide ((Sp.f1023 a.2.2.1).1 > 0) then bif (fs.length : Int) == 2 then bif fs.getD 0 (fun _ => false) g then fs.getD 1 (fun _ => false) g else false else false else false else false else false else false)
  else bif a.1 == 17 then (bif g then bif a.2.1 == 0 then bif Sp.noV a.2.2.2.2 then bif Sp.mt a.2.2.2.1 then bif Sp.ag4 a.2.2.1 then bif (fs.length : Int) == 1 then fs.getD 0 (fun _ => false) false else bif (fs.length : Int) == 0 then Sp.isW #[99, 111, 117, 110, 116] a.2.2.1 else false else false else false else false else false else false) else false
def Sp.lT : RT → Bool → Bool := Rose.fold Sp.lNode
theorem lT_mk (a : VA) (ks : List RT) (g : Bool) : Sp.lT (Rose.mk a ks) g = Sp.lNode a (ks.map Sp.lT) g := by unfold Sp.lT; rw [Rose.fold_mk]
noncomputable def e1019 : Ent := { f := n1019, ins := [Sh.agg aT, Sh.one cB], outs := [Sh.one cB], upd := [], pre := fun a => true, spec := fun a => Sp.lT (Sp.mkT a.1) a.2, wrt := fun _ => () }
noncomputable def e1019n (N : Nat) : Ent := e1019.below (fun a => Sp.rsz1 a.1.2.2.2.2.2.2.2) N
noncomputable def Sp.l1019 (N : Nat) (x0 x1 : Int) (x2 x3 : ByteArray) (x4 x5 : Int) (x6 : ByteArray) (x7 : List ZT) (x8 : Bool) : Option Res := abody Γ (orc [e1019n N, e136, e79, e194, e1023]) 0 180 [XV.mk true [ZC Zi x0, ZC Zi x1, ZC Ty.str x2, ZC Ty.str x3, ZC Zi x4, ZC Zi x5, ZC Ty.str x6, ZC ZA.rose.slice x7], ZX Ty.bool x8]
def Sp.r1019 (N : Nat) (x0 x1 : Int) (x2 x3 : ByteArray) (x4 x5 : Int) (x6 : ByteArray) (x7 : List ZT) (x8 : Bool) : Option Res := bif x0 == (13 : Int) then bif x1 == (0 : Int) then bif x2.toList == (ByteArray.mk #[]).toList then bif x3.toList == (ByteArray.mk #[]).toList then bif (↑x7.length : Int) == (0 : Int) then bif (Sp.f136 x4 x5 x6).1 then bif x4 != (2 : Int) then Zt else ZB (Sp.f79 x5 (0 : Int) (999999999999999999 : Int)).1 else Zf else Zf else Zf else Zf else Zf else bif x0 == (14 : Int) then bif x1 == (0 : Int) then bif Go.Proofs.GR.eqI x4 (0 : Int) && (Go.Proofs.GR.eqI x5 (0 : Int) && (Go.Proofs.GR.eqS x6 ByteArray.empty && true)) then bif Sp.isFreeS x2 then bif x3.toList == (ByteArray.mk #[]).toList then ZB ((↑x7.length : Int) == (0 : Int)) else bif Sp.isFreeS x3 then ZB ((↑x7.length : Int) == (0 : Int)) else Zf else Zf else Zf else Zf else bif x0 == (15 : Int) then bif x1 == (0 : Int) then bif Go.Proofs.GR.eqI x4 (0 : Int) && (Go.Proofs.GR.eqI x5 (0 : Int) && (Go.Proofs.GR.eqS x6 ByteArray.empty && true)) then bif x3.toList == (ByteArray.mk #[]).toList then bif x2.toList == (ByteArray.mk #[45]).toList then bif (↑x7.length : Int) == (1 : Int) then chk (decide ((0 : Int) < (↑x7.length : Int))) (chk ((Sp.rsz1 (x7.getD (0 : Nat) ZR).kids).blt N) (ZB (Sp.lT (Sp.mkT ((x7.getD (0 : Nat) ZR).a.1, (x7.getD (0 : Nat) ZR).a.2.1, (x7.getD (0 : Nat) ZR).a.2.2.1, (x7.getD (0 : Nat) ZR).a.2.2.2.1, (x7.getD (0 : Nat) ZR).a.2.2.2.2.1, (x7.getD (0 : Nat) ZR).a.2.2.2.2.2.1, (x7.getD (0 : Nat) ZR).a.2.2.2.2.2.2, (x7.getD (0 : Nat) ZR).kids)) x8))) else Zf else bif x2.toList == (ByteArray.mk #[110, 111, 116]).toList then bif (↑x7.length : Int) == (1 : Int) then chk (decide ((0 : Int) < (↑x7.length : Int))) (chk ((Sp.rsz1 (x7.getD (0 : Nat) ZR).kids).blt N) (ZB (Sp.lT (Sp.mkT ((x7.getD (0 : Nat) ZR).a.1, (x7.getD (0 : Nat) ZR).a.2.1, (x7.getD (0 : Nat) ZR).a.2.2.1, (x7.getD (0 : Nat) ZR).a.2.2.2.1, (x7.getD (0 : Nat) ZR).a.2.2.2.2.1, (x7.getD (0 : Nat) ZR).a.2.2.2.2.2.1, (x7.getD (0 : Nat) ZR).a.2.2.2.2.2.2, (x7.getD (0 : Nat) ZR).kids)) x8))) else Zf else bif x2.toList == (ByteArray.mk #[105, 115, 110, 117, 108, 108]).toList then bif (↑x7.length : Int) == (1 : Int) then chk (decide ((0 : Int) < (↑x7.length : Int))) (chk ((Sp.rsz1 (x7.getD (0 : Nat) ZR).kids).blt N) (ZB (Sp.lT (Sp.mkT ((x7.getD (0 : Nat) ZR).a.1, (x7.getD (0 : Nat) ZR).a.2.1, (x7.getD (0 : Nat) ZR).a.2.2.1, (x7.getD (0 : Nat) ZR).a.2.2.2.1, (x7.getD (0 : Nat) ZR).a.2.2.2.2.1, (x7.getD (0 : Nat) ZR).a.2.2.2.2.2.1, (x7.getD (0 : Nat) ZR).a.2.2.2.2.2.2, (x7.getD (0 : Nat) ZR).kids)) x8))) else Zf else bif x2.toList == (ByteArray.mk #[105, 115, 110, 111, 116, 110, 117, 108, 108]).toList then bif (↑x7.length : Int) == (1 : Int) then chk (decide ((0 : Int) < (↑x7.length : Int))) (chk ((Sp.rsz1 (x7.getD (0 : Nat) ZR).kids).blt N) (ZB (Sp.lT (Sp.mkT ((x7.getD (0 : Nat) ZR).a.1, (x7.getD (0 : Nat) ZR).a.2.1, (x7.getD (0 : Nat) ZR).a.2.2.1, (x7.getD (0 : Nat) ZR).a.2.2.2.1, (x7.getD (0 : Nat) ZR).a.2.2.2.2.1, (x7.getD (0 : Nat) ZR).a.2.2.2.2.2.1, (x7.getD (0 : Nat) ZR).a.2.2.2.2.2.2, (x7.getD (0 : Nat) ZR).kids)) x8))) else Zf else Zf else Zf else Zf else Zf else bif x0 == (16 : Int) then bif x1 == (0 : Int) then bif Go.Proofs.GR.eqI x4 (0 : Int) && (Go.Proofs.GR.eqI x5 (0 : Int) && (Go.Proofs.GR.eqS x6 ByteArray.empty && true)) then bif x3.toList == (ByteArray.mk #[]).toList then bif decide ((Sp.f1023 x2).1 > (0 : Int)) then bif (↑x7.length : Int) == (2 : Int) then chk (decide ((0 : Int) < (↑x7.length : Int))) (chk ((Sp.rsz1 (x7.getD (0 : Nat) ZR).kids).blt N) (bif Sp.lT (Sp.mkT ((x7.getD (0 : Nat) ZR).a.1, (x7.getD (0 : Nat) ZR).a.2.1, (x7.getD (0 : Nat) ZR).a.2.2.1, (x7.getD (0 : Nat) ZR).a.2.2.2.1, (x7.getD (0 : Nat) ZR).a.2.2.2.2.1, (x7.getD (0 : Nat) ZR).a.2.2.2.2.2.1, (x7.getD (0 : Nat) ZR).a.2.2.2.2.2.2, (x7.getD (0 : Nat) ZR).kids)) x8 then chk (decide ((1 : Int) < (↑x7.length : Int))) (chk ((Sp.rsz1 (x7.getD (1 : Nat) ZR).kids).blt N) (ZB (Sp.lT (Sp.mkT ((x7.getD (1 : Nat) ZR).a.1, (x7.getD (1 : Nat) ZR).a.2.1, (x7.getD (1 : Nat) ZR).a.2.2.1, (x7.getD (1 : Nat) ZR).a.2.2.2.1, (x7.getD (1 : Nat) ZR).a.2.2.2.2.1, (x7.getD (1 : Nat) ZR).a.2.2.2.2.2.1, (x7.getD (1 : Nat) ZR).a.2.2.2.2.2.2, (x7.getD (1 : Nat) ZR).kids)) x8))) else Zf)) else Zf else Zf else Zf else Zf else Zf else bif x0 == (17 : Int) then bif x2.toList == (ByteArray.mk #[99, 111, 117, 110, 116]).toList then bif x8 then bif x1 == (0 : Int) then bif Go.Proofs.GR.eqI x4 (0 : Int) && (Go.Proofs.GR.eqI x5 (0 : Int) && (Go.Proofs.GR.eqS x6 ByteArray.empty && true)) then bif x3.toList == (ByteArray.mk #[]).toList then bif (↑x7.length : Int) == (1 : Int) then chk (decide ((0 : Int) < (↑x7.length : Int))) (chk ((Sp.rsz1 (x7.getD (0 : Nat) ZR).kids).blt N) (bif Sp.lT (Sp.mkT ((x7.getD (0 : Nat) ZR).a.1, (x7.getD (0 : Nat) ZR).a.2.1, (x7.getD (0 : Nat) ZR).a.2.2.1, (x7.getD (0 : Nat) ZR).a.2.2.2.1, (x7.getD (0 : Nat) ZR).a.2.2.2.2.1, (x7.getD (0 : Nat) ZR).a.2.2.2.2.2.1, (x7.getD (0 : Nat) ZR).a.2.2.2.2.2.2, (x7.getD (0 : Nat) ZR).kids)) false then Zt else bif (↑x7.length : Int) == (0 : Int) then ZB (x2.toList == (ByteArray.mk #[99, 111, 117, 110, 116]).toList) else Zf)) else bif (↑x7.length : Int) == (0 : Int) then ZB (x2.toList == (ByteArray.mk #[99, 111, 117, 110, 116]).toList) else Zf else Zf else Zf else Zf else Zf else bif x2.toList == (ByteArray.mk #[115, 117, 109]).toList then bif x8 then bif x1 == (0 : Int) then bif Go.Proofs.GR.eqI x4 (0 : Int) && (Go.Proofs.GR.eqI x5 (0 : Int) && (Go.Proofs.GR.eqS x6 ByteArray.empty && true)) then bif x3.toList == (ByteArray.mk #[]).toList then bif (↑x7.length : Int) == (1 : Int) then chk (decide ((0 : Int) < (↑x7.length : Int))) (chk ((Sp.rsz1 (x7.getD (0 : Nat) ZR).kids).blt N) (bif Sp.lT (Sp.mkT ((x7.getD (0 : Nat) ZR).a.1, (x7.getD (0 : Nat) ZR).a.2.1, (x7.getD (0 : Nat) ZR).a.2.2.1, (x7.getD (0 : Nat) ZR).a.2.2.2.1, (x7.getD (0 : Nat) ZR).a.2.2.2.2.1, (x7.getD (0 : Nat) ZR).a.2.2.2.2.2.1, (x7.getD (0 : Nat) ZR).a.2.2.2.2.2.2, (x7.getD (0 : Nat) ZR).kids)) false then Zt else bif (↑x7.length : Int) == (0 : Int) then ZB (x2.toList == (ByteArray.mk #[99, 111, 117, 110, 116]).toList) else Zf)) else bif (↑x7.length : Int) == (0 : Int) then ZB (x2.toList == (ByteArray.mk #[99, 111, 117, 110, 116]).toList) else Zf else Zf else Zf else Zf else Zf else bif x2.toList == (ByteArray.mk #[109, 105, 110]).toList then bif x8 then bif x1 == (0 : Int) then bif Go.Proofs.GR.eqI x4 (0 : Int) && (Go.Proofs.GR.eqI x5 (0 : Int) && (Go.Proofs.GR.eqS x6 ByteArray.empty && true)) then bif x3.toList == (ByteArray.mk #[]).toList then bif (↑x7.length : Int) == (1 : Int) then chk (decide ((0 : Int) < (↑x7.length : Int))) (chk ((Sp.rsz1 (x7.getD (0 : Nat) ZR).kids).blt N) (bif Sp.lT (Sp.mkT ((x7.getD (0 : Nat) ZR).a.1, (x7.getD (0 : Nat) ZR).a.2.1, (x7.getD (0 : Nat) ZR).a.2.2.1, (x7.getD (0 : Nat) ZR).a.2.2.2.1, (x7.getD (0 : Nat) ZR).a.2.2.2.2.1, (x7.getD (0 : Nat) ZR).a.2.2.2.2.2.1, (x7.getD (0 : Nat) ZR).a.2.2.2.2.2.2, (x7.getD (0 : Nat) ZR).kids)) false then Zt else bif (↑x7.length : Int) == (0 : Int) then ZB (x2.toList == (ByteArray.mk #[99, 111, 117, 110, 116]).toList) else Zf)) else bif (↑x7.length : Int) == (0 : Int) then ZB (x2.toList == (ByteArray.mk #[99, 111, 117, 110, 116]).toList) else Zf else Zf else Zf else Zf else Zf else bif x8 then bif x1 == (0 : Int) then bif Go.Proofs.GR.eqI x4 (0 : Int) && (Go.Proofs.GR.eqI x5 (0 : Int) && (Go.Proofs.GR.eqS x6 ByteArray.empty && true)) then bif x3.toList == (ByteArray.mk #[]).toList then bif x2.toList == (ByteArray.mk #[109, 97, 120]).toList then bif (↑x7.length : Int) == (1 : Int) then chk (decide ((0 : Int) < (↑x7.length : Int))) (chk ((Sp.rsz1 (x7.getD (0 : Nat) ZR).kids).blt N) (bif Sp.lT (Sp.mkT ((x7.getD (0 : Nat) ZR).a.1, (x7.getD (0 : Nat) ZR).a.2.1, (x7.getD (0 : Nat) ZR).a.2.2.1, (x7.getD (0 : Nat) ZR).a.2.2.2.1, (x7.getD (0 : Nat) ZR).a.2.2.2.2.1, (x7.getD (0 : Nat) ZR).a.2.2.2.2.2.1, (x7.getD (0 : Nat) ZR).a.2.2.2.2.2.2, (x7.getD (0 : Nat) ZR).kids)) false then Zt else bif (↑x7.length : Int) == (0 : Int) then ZB (x2.toList == (ByteArray.mk #[99, 111, 117, 110, 116]).toList) else Zf)) else bif (↑x7.length : Int) == (0 : Int) then ZB (x2.toList == (ByteArray.mk #[99, 111, 117, 110, 116]).toList) else Zf else Zf else Zf else Zf else Zf else Zf else Zf
theorem f1019_raw13 (N : Nat) (x1 : Int) (x2 x3 : ByteArray) (x4 x5 : Int) (x6 : ByteArray) (x7 : List ZT) (x8 : Bool) : Sp.l1019 N (Int.ofNat 13) x1 x2 x3 x4 x5 x6 x7 x8 = Sp.r1019 N (Int.ofNat 13) x1 x2 x3 x4 x5 x6 x7 x8 := by kernel_rfl
theorem f1019_raw14 (N : Nat) (x1 : Int) (x2 x3 : ByteArray) (x4 x5 : Int) (x6 : ByteArray) (x7 : List ZT) (x8 : Bool) : Sp.l1019 N (Int.ofNat 14) x1 x2 x3 x4 x5 x6 x7 x8 = Sp.r1019 N (Int.ofNat 14) x1 x2 x3 x4 x5 x6 x7 x8 := by kernel_rfl
theorem f1019_raw15 (N : Nat) (x1 : Int) (x2 x3 : ByteArray) (x4 x5 : Int) (x6 : ByteArray) (x7 : List ZT) (x8 : Bool) : Sp.l1019 N (Int.ofNat 15) x1 x2 x3 x4 x5 x6 x7 x8 = Sp.r1019 N (Int.ofNat 15) x1 x2 x3 x4 x5 x6 x7 x8 := by kernel_rfl
theorem f1019_raw16 (N : Nat) (x1 : Int) (x2 x3 : ByteArray) (x4 x5 : Int) (x6 : ByteArray) (x7 : List ZT) (x8 : Bool) : Sp.l1019 N (Int.ofNat 16) x1 x2 x3 x4 x5 x6 x7 x8 = Sp.r1019 N (Int.ofNat 16) x1 x2 x3 x4 x5 x6 x7 x8 := by kernel_rfl
theorem f1019_raw17 (N : Nat) (x1 : Int) (x2 x3 : ByteArray) (x4 x5 : Int) (x6 : ByteArray) (x7 : List ZT) (x8 : Bool) : Sp.l1019 N (Int.ofNat 17) x1 x2 x3 x4 x5 x6 x7 x8 = Sp.r1019 N (Int.ofNat 17) x1 x2 x3 x4 x5 x6 x7 x8 := by kernel_rfl
theorem f1019_raw0 (N : Nat) (x1 : Int) (x2 x3 : ByteArray) (x4 x5 : Int) (x6 : ByteArray) (x7 : List ZT) (x8 : Bool) : Sp.l1019 N (Int.ofNat 0) x1 x2 x3 x4 x5 x6 x7 x8 = Zf := by kernel_rfl
theorem f1019_raw1 (N : Nat) (x1 : Int) (x2 x3 : ByteArray) (x4 x5 : Int) (x6 : ByteArray) (x7 : List ZT) (x8 : Bool) : Sp.l1019 N (Int.ofNat 1) x1 x2 x3 x4 x5 x6 x7 x8 = Zf := by kernel_rfl
theorem f1019_raw2 (N : Nat) (x1 : Int) (x2 x3 : ByteArray) (x4 x5 : Int) (x6 : ByteArray) (x7 : List ZT) (x8 : Bool) : Sp.l1019 N (Int.ofNat 2) x1 x2 x3 x4 x5 x6 x7 x8 = Zf := by kernel_rfl
theorem f1019_raw3 (N : Nat) (x1 : Int) (x2 x3 : ByteArray) (x4 x5 : Int) (x6 : ByteArray) (x7 : List ZT) (x8 : Bool) : Sp.l1019 N (Int.ofNat 3) x1 x2 x3 x4 x5 x6 x7 x8 = Zf := by kernel_rfl
theorem f1019_raw4 (N : Nat) (x1 : Int) (x2 x3 : ByteArray) (x4 x5 : Int) (x6 : ByteArray) (x7 : List ZT) (x8 : Bool) : Sp.l1019 N (Int.ofNat 4) x1 x2 x3 x4 x5 x6 x7 x8 = Zf := by kernel_rfl
theorem f1019_raw5 (N : Nat) (x1 : Int) (x2 x3 : ByteArray) (x4 x5 : Int) (x6 : ByteArray) (x7 : List ZT) (x8 : Bool) : Sp.l1019 N (Int.ofNat 5) x1 x2 x3 x4 x5 x6 x7 x8 = Zf := by kernel_rfl
theorem f1019_raw6 (N : Nat) (x1 : Int) (x2 x3 : ByteArray) (x4 x5 : Int) (x6 : ByteArray) (x7 : List ZT) (x8 : Bool) : Sp.l1019 N (Int.ofNat 6) x1 x2 x3 x4 x5 x6 x7 x8 = Zf := by kernel_rfl
theorem f1019_raw7 (N : Nat) (x1 : Int) (x2 x3 : ByteArray) (x4 x5 : Int) (x6 : ByteArray) (x7 : List ZT) (x8 : Bool) : Sp.l1019 N (Int.ofNat 7) x1 x2 x3 x4 x5 x6 x7 x8 = Zf := by kernel_rfl
theorem f1019_raw8 (N : Nat) (x1 : Int) (x2 x3 : ByteArray) (x4 x5 : Int) (x6 : ByteArray) (x7 : List ZT) (x8 : Bool) : Sp.l1019 N (Int.ofNat 8) x1 x2 x3 x4 x5 x6 x7 x8 = Zf := by kernel_rfl
theorem f1019_raw9 (N : Nat) (x1 : Int) (x2 x3 : ByteArray) (x4 x5 : Int) (x6 : ByteArray) (x7 : List ZT) (x8 : Bool) : Sp.l1019 N (Int.ofNat 9) x1 x2 x3 x4 x5 x6 x7 x8 = Zf := by kernel_rfl
theorem f1019_raw10 (N : Nat) (x1 : Int) (x2 x3 : ByteArray) (x4 x5 : Int) (x6 : ByteArray) (x7 : List ZT) (x8 : Bool) : Sp.l1019 N (Int.ofNat 10) x1 x2 x3 x4 x5 x6 x7 x8 = Zf := by kernel_rfl
theorem f1019_raw11 (N : Nat) (x1 : Int) (x2 x3 : ByteArray) (x4 x5 : Int) (x6 : ByteArray) (x7 : List ZT) (x8 : Bool) : Sp.l1019 N (Int.ofNat 11) x1 x2 x3 x4 x5 x6 x7 x8 = Zf := by kernel_rfl
theorem f1019_raw12 (N : Nat) (x1 : Int) (x2 x3 : ByteArray) (x4 x5 : Int) (x6 : ByteArray) (x7 : List ZT) (x8 : Bool) : Sp.l1019 N (Int.ofNat 12) x1 x2 x3 x4 x5 x6 x7 x8 = Zf := by kernel_rfl
theorem f1019_rawP (n18 N : Nat) (x1 : Int) (x2 x3 : ByteArray) (x4 x5 : Int) (x6 : ByteArray) (x7 : List ZT) (x8 : Bool) : Sp.l1019 N (Int.ofNat (n18 + 18)) x1 x2 x3 x4 x5 x6 x7 x8 = Zf := by kernel_rfl
theorem f1019_rawN (n18 N : Nat) (x1 : Int) (x2 x3 : ByteArray) (x4 x5 : Int) (x6 : ByteArray) (x7 : List ZT) (x8 : Bool) : Sp.l1019 N (Int.negSucc n18) x1 x2 x3 x4 x5 x6 x7 x8 = Zf := by kernel_rfl
theorem f1019_raw (N : Nat) (x0 x1 : Int) (x2 x3 : ByteArray) (x4 x5 : Int) (x6 : ByteArray) (x7 : List ZT) (x8 : Bool) : abody Γ (orc [e1019n N, e136, e79, e194, e1023]) 0 180 [XV.mk true [ZC Zi x0, ZC Zi x1, ZC Ty.str x2, ZC Ty.str x3, ZC Zi x4, ZC Zi x5, ZC Ty.str x6, ZC ZA.rose.slice x7], ZX Ty.bool x8] = Sp.r1019 N x0 x1 x2 x3 x4 x5 x6 x7 x8 := by
  show Sp.l1019 N x0 x1 x2 x3 x4 x5 x6 x7 x8 = _
  match x0 with
  | Int.ofNat 0 => exact f1019_raw0 N x1 x2 x3 x4 x5 x6 x7 x8
  | Int.ofNat 1 => exact f1019_raw1 N x1 x2 x3 x4 x5 x6 x7 x8
  | Int.ofNat 2 => exact f1019_raw2 N x1 x2 x3 x4 x5 x6 x7 x8
  | Int.ofNat 3 => exact f1019_raw3 N x1 x2 x3 x4 x5 x6 x7 x8
  | Int.ofNat 4 => exact f1019_raw4 N x1 x2 x3 x4 x5 x6 x7 x8
  | Int.ofNat 5 => exact f1019_raw5 N x1 x2 x3 x4 x5 x6 x7 x8
  | Int.ofNat 6 => exact f1019_raw6 N x1 x2 x3 x4 x5 x6 x7 x8
  | Int.ofNat 7 => exact f1019_raw7 N x1 x2 x3 x4 x5 x6 x7 x8
  | Int.ofNat 8 => exact f1019_raw8 N x1 x2 x3 x4 x5 x6 x7 x8
  | Int.ofNat 9 => exact f1019_raw9 N x1 x2 x3 x4 x5 x6 x7 x8
  | Int.ofNat 10 => exact f1019_raw10 N x1 x2 x3 x4 x5 x6 x7 x8
  | Int.ofNat 11 => exact f1019_raw11 N x1 x2 x3 x4 x5 x6 x7 x8
  | Int.ofNat 12 => exact f1019_raw12 N x1 x2 x3 x4 x5 x6 x7 x8
  | Int.ofNat 13 => exact f1019_raw13 N x1 x2 x3 x4 x5 x6 x7 x8
  | Int.ofNat 14 => exact f1019_raw14 N x1 x2 x3 x4 x5 x6 x7 x8
  | Int.ofNat 15 => exact f1019_raw15 N x1 x2 x3 x4 x5 x6 x7 x8
  | Int.ofNat 16 => exact f1019_raw16 N x1 x2 x3 x4 x5 x6 x7 x8
  | Int.ofNat 17 => exact f1019_raw17 N x1 x2 x3 x4 x5 x6 x7 x8
  | Int.ofNat (n18 + 18) => exact f1019_rawP n18 N x1 x2 x3 x4 x5 x6 x7 x8
  | Int.negSucc n18 => exact f1019_rawN n18 N x1 x2 x3 x4 x5 x6 x7 x8

theorem mkT_flds (r : RT) : Sp.mkT (r.a.1, r.a.2.1, r.a.2.2.1, r.a.2.2.2.1, r.a.2.2.2.2.1, r.a.2.2.2.2.2.1, r.a.2.2.2.2.2.2, r.kids) = r := by cases r; rfl
noncomputable abbrev recLx : List REnt := [⟨e1019, fun a => Sp.rsz1 a.1.2.2.2.2.2.2.2⟩]
theorem e1019_core (x0 x1 : Int) (x2 x3 : ByteArray) (x4 x5 : Int) (x6 : ByteArray) (x7 : List RT) (g : Bool) : abody Γ (orc (belows (Sp.rsz1 x7) recLx ++ [e136, e79, e194, e1023])) 0 n1019 (e1019.args ((x0, x1, x2, x3, x4, x5, x6, x7), g)) = some (e1019.res ((x0, x1, x2, x3, x4, x5, x6, x7), g)) := by
  refine (f1019_raw _ x0 x1 x2 x3 x4 x5 x6 x7 g).trans ?_
  unfold Sp.r1019
  refine Eq.trans ?_ (congrArg (fun z => some (rBo z)) (lT_mk (x0, x1, x2, x3, (x4, x5, x6)) x7 g).symm)
  dsimp only [Sp.lNode, Sp.mt, Sp.noV, Sp.isW, Sp.un4, Sp.ag4]
  match x7 with
  | [] =>
    have a0 : ((([] : List RT).length : Int) == 0) = true := rfl
    have a1 : ((([] : List RT).length : Int) == 1) = false := rfl
    have a2 : ((([] : List RT).length : Int) == 2) = false := rfl
    have r : RT := Rose.mk (0, 0, ByteArray.empty, ByteArray.empty, 0, 0, ByteArray.empty) []
    simp only [List.map_nil, List.length_nil, List.length_map, a0, a1, a2, cond_true, cond_false]
    cases (x0 == (13 : Int)) with
    | true => cases (x1 == (0 : Int)) <;> cases (x2.toList == (ByteArray.mk #[]).toList) <;> cases (x3.toList == (ByteArray.mk #[]).toList) <;> cases (Sp.f136 x4 x5 x6).1 <;> cases (x4 != (2 : Int)) <;> rfl
    | false => cases (x0 == (14 : Int)) with
      | true => cases (x1 == (0 : Int)) <;> cases (Go.Proofs.GR.eqI x4 0 && (Go.Proofs.GR.eqI x5 0 && (Go.Proofs.GR.eqS x6 ByteArray.empty && true))) <;> cases Sp.isFreeS x2 <;> cases (x3.toList == (ByteArray.mk #[]).toList) <;> cases Sp.isFreeS x3 <;> rfl
      | false => cases (x0 == (15 : Int)) with
        | true => cases (x1 == (0 : Int)) <;> cases (Go.Proofs.GR.eqI x4 0 && (Go.Proofs.GR.eqI x5 0 && (Go.Proofs.GR.eqS x6 ByteArray.empty && true))) <;> cases (x3.toList == (ByteArray.mk #[]).toList) <;> cases (x2.toList == (ByteArray.mk #[45]).toList) <;> cases (x2.toList == (ByteArray.mk #[110, 111, 116]).toList) <;> cases (x2.toList == (ByteArray.mk #[105, 115, 110, 117, 108, 108]).toList) <;> cases (x2.toList == (ByteArray.mk #[105, 115, 110, 111, 116, 110, 117, 108, 108]).toList) <;> rfl
        | false => cases (x0 == (16 : Int)) with
          | true => cases (x1 == (0 : Int)) <;> cases (Go.Proofs.GR.eqI x4 0 && (Go.Proofs.GR.eqI x5 0 && (Go.Proofs.GR.eqS x6 ByteArray.empty && true))) <;> cases (x3.toList == (ByteArray.mk #[]).toList) <;> cases decide ((Sp.f1023 x2).1 > 0) <;> first | rfl | (cases Sp.lT r g <;> rfl)
          | false => cases (x0 == (17 : Int)) with
            | true => cases g <;> cases (x1 == (0 : Int)) <;> cases (Go.Proofs.GR.eqI x4 0 && (Go.Proofs.GR.eqI x5 0 && (Go.Proofs.GR.eqS x6 ByteArray.empty && true))) <;> cases (x3.toList == (ByteArray.mk #[]).toList) <;> cases (x2.toList == (ByteArray.mk #[99, 111, 117, 110, 116]).toList) <;> cases (x2.toList == (ByteArray.mk #[115, 117, 109]).toList) <;> cases (x2.toList == (ByteArray.mk #[109, 105, 110]).toList) <;> cases (x2.toList == (ByteArray.mk #[109, 97, 120]).toList) <;> first | rfl | (cases Sp.lT r false <;> rfl)
            | false => rfl
  | [r] =>
    have a0 : ((([r] : List RT).length : Int) == 0) = false := rfl
    have a1 : ((([r] : List RT).length : Int) == 1) = true := rfl
    have a2 : ((([r] : List RT).length : Int) == 2) = false := rfl
    have p0 : decide ((0 : Int) < (([r] : List RT).length : Int)) = true := rfl
    have g0 : ∀ d, ([r] : List RT).getD 0 d = r := fun _ => rfl
    have gf : ([r].map Sp.lT).getD 0 (fun _ => false) = Sp.lT r := rfl
    have b0 : (Sp.rsz1 r.kids).blt (Sp.rsz1 [r]) = true := blt_mk (by have := rsz1_mem (l := [r]) (r := r) (by simp); unfold Sp.rsz1 at this ⊢; omega)
    simp only [List.length_map, a0, a1, a2, p0, g0, gf, b0, chkT, mkT_flds, cond_true, cond_false]
    cases (x0 == (13 : Int)) with
    | true => cases (x1 == (0 : Int)) <;> cases (x2.toList == (ByteArray.mk #[]).toList) <;> cases (x3.toList == (ByteArray.mk #[]).toList) <;> cases (Sp.f136 x4 x5 x6).1 <;> cases (x4 != (2 : Int)) <;> rfl
    | false => cases (x0 == (14 : Int)) with
      | true => cases (x1 == (0 : Int)) <;> cases (Go.Proofs.GR.eqI x4 0 && (Go.Proofs.GR.eqI x5 0 && (Go.Proofs.GR.eqS x6 ByteArray.empty && true))) <;> cases Sp.isFreeS x2 <;> cases (x3.toList == (ByteArray.mk #[]).toList) <;> cases Sp.isFreeS x3 <;> rfl
      | false => cases (x0 == (15 : Int)) with
        | true => cases (x1 == (0 : Int)) <;> cases (Go.Proofs.GR.eqI x4 0 && (Go.Proofs.GR.eqI x5 0 && (Go.Proofs.GR.eqS x6 ByteArray.empty && true))) <;> cases (x3.toList == (ByteArray.mk #[]).toList) <;> cases (x2.toList == (ByteArray.mk #[45]).toList) <;> cases (x2.toList == (ByteArray.mk #[110, 111, 116]).toList) <;> cases (x2.toList == (ByteArray.mk #[105, 115, 110, 117, 108, 108]).toList) <;> cases (x2.toList == (ByteArray.mk #[105, 115, 110, 111, 116, 110, 117, 108, 108]).toList) <;> rfl
        | false => cases (x0 == (16 : Int)) with
          | true => cases (x1 == (0 : Int)) <;> cases (Go.Proofs.GR.eqI x4 0 && (Go.Proofs.GR.eqI x5 0 && (Go.Proofs.GR.eqS x6 ByteArray.empty && true))) <;> cases (x3.toList == (ByteArray.mk #[]).toList) <;> cases decide ((Sp.f1023 x2).1 > 0) <;> first | rfl | (cases Sp.lT r g <;> rfl)
          | false => cases (x0 == (17 : Int)) with
            | true => cases g <;> cases (x1 == (0 : Int)) <;> cases (Go.Proofs.GR.eqI x4 0 && (Go.Proofs.GR.eqI x5 0 && (Go.Proofs.GR.eqS x6 ByteArray.empty && true))) <;> cases (x3.toList == (ByteArray.mk #[]).toList) <;> cases (x2.toList == (ByteArray.mk #[99, 111, 117, 110, 116]).toList) <;> cases (x2.toList == (ByteArray.mk #[115, 117, 109]).toList) <;> cases (x2.toList == (ByteArray.mk #[109, 105, 110]).toList) <;> cases (x2.toList == (ByteArray.mk #[109, 97, 120]).toList) <;> first | rfl | (cases Sp.lT r false <;> rfl)
            | false => rfl
  | [r, s] =>
    have a0 : ((([r, s] : List RT).length : Int) == 0) = false := rfl
    have a1 : ((([r, s] : List RT).length : Int) == 1) = false := rfl
    have a2 : ((([r, s] : List RT).length : Int) == 2) = true := rfl
    have p0 : decide ((0 : Int) < (([r, s] : List RT).length : Int)) = true := rfl
    have p1 : decide ((1 : Int) < (([r, s] : List RT).length : Int)) = true := rfl
    have g0 : ∀ d, ([r, s] : List RT).getD 0 d = r := fun _ => rfl
    have g1 : ∀ d, ([r, s] : List RT).getD 1 d = s := fun _ => rfl
    have gf : ([r, s].map Sp.lT).getD 0 (fun _ => false) = Sp.lT r := rfl
    have gs : ([r, s].map Sp.lT).getD 1 (fun _ => false) = Sp.lT s := rfl
    have b0 : (Sp.rsz1 r.kids).blt (Sp.rsz1 [r, s]) = true := blt_mk (by have := rsz1_mem (l := [r, s]) (r := r) (by simp); unfold Sp.rsz1 at this ⊢; omega)
    have b1 : (Sp.rsz1 s.kids).blt (Sp.rsz1 [r, s]) = true := blt_mk (by have := rsz1_mem (l := [r, s]) (r := s) (by simp); unfold Sp.rsz1 at this ⊢; omega)
    simp only [List.length_map, a0, a1, a2, p0, p1, g0, g1, gf, gs, b0, b1, chkT, mkT_flds, cond_true, cond_false]
    cases (x0 == (13 : Int)) with
    | true => cases (x1 == (0 : Int)) <;> cases (x2.toList == (ByteArray.mk #[]).toList) <;> cases (x3.toList == (ByteArray.mk #[]).toList) <;> cases (Sp.f136 x4 x5 x6).1 <;> cases (x4 != (2 : Int)) <;> rfl
    | false => cases (x0 == (14 : Int)) with
      | true => cases (x1 == (0 : Int)) <;> cases (Go.Proofs.GR.eqI x4 0 && (Go.Proofs.GR.eqI x5 0 && (Go.Proofs.GR.eqS x6 ByteArray.empty && true))) <;> cases Sp.isFreeS x2 <;> cases (x3.toList == (ByteArray.mk #[]).toList) <;> cases Sp.isFreeS x3 <;> rfl
      | false => cases (x0 == (15 : Int)) with
        | true => cases (x1 == (0 : Int)) <;> cases (Go.Proofs.GR.eqI x4 0 && (Go.Proofs.GR.eqI x5 0 && (Go.Proofs.GR.eqS x6 ByteArray.empty && true))) <;> cases (x3.toList == (ByteArray.mk #[]).toList) <;> cases (x2.toList == (ByteArray.mk #[45]).toList) <;> cases (x2.toList == (ByteArray.mk #[110, 111, 116]).toList) <;> cases (x2.toList == (ByteArray.mk #[105, 115, 110, 117, 108, 108]).toList) <;> cases (x2.toList == (ByteArray.mk #[105, 115, 110, 111, 116, 110, 117, 108, 108]).toList) <;> rfl
        | false => cases (x0 == (16 : Int)) with
          | true => cases (x1 == (0 : Int)) <;> cases (Go.Proofs.GR.eqI x4 0 && (Go.Proofs.GR.eqI x5 0 && (Go.Proofs.GR.eqS x6 ByteArray.empty && true))) <;> cases (x3.toList == (ByteArray.mk #[]).toList) <;> cases decide ((Sp.f1023 x2).1 > 0) <;> first | rfl | (cases Sp.lT r g <;> rfl)
          | false => cases (x0 == (17 : Int)) with
            | true => cases g <;> cases (x1 == (0 : Int)) <;> cases (Go.Proofs.GR.eqI x4 0 && (Go.Proofs.GR.eqI x5 0 && (Go.Proofs.GR.eqS x6 ByteArray.empty && true))) <;> cases (x3.toList == (ByteArray.mk #[]).toList) <;> cases (x2.toList == (ByteArray.mk #[99, 111, 117, 110, 116]).toList) <;> cases (x2.toList == (ByteArray.mk #[115, 117, 109]).toList) <;> cases (x2.toList == (ByteArray.mk #[109, 105, 110]).toList) <;> cases (x2.toList == (ByteArray.mk #[109, 97, 120]).toList) <;> first | rfl | (cases Sp.lT r false <;> rfl)
            | false => rfl
  | r :: s :: t :: l =>
    have ln : ((r :: s :: t :: l : List RT).length : Int) = (l.length : Int) + 3 := by simp only [List.length_cons]; omega
    have a0 : (((r :: s :: t :: l : List RT).length : Int) == 0) = false := by rw [ln]; exact beq_false_of_ne (by omega)
    have a1 : (((r :: s :: t :: l : List RT).length : Int) == 1) = false := by rw [ln]; exact beq_false_of_ne (by omega)
    have a2 : (((r :: s :: t :: l : List RT).length : Int) == 2) = false := by rw [ln]; exact beq_false_of_ne (by omega)
    simp only [List.length_map, a0, a1, a2, cond_true, cond_false]
    cases (x0 == (13 : Int)) with
    | true => cases (x1 == (0 : Int)) <;> cases (x2.toList == (ByteArray.mk #[]).toList) <;> cases (x3.toList == (ByteArray.mk #[]).toList) <;> cases (Sp.f136 x4 x5 x6).1 <;> cases (x4 != (2 : Int)) <;> rfl
    | false => cases (x0 == (14 : Int)) with
      | true => cases (x1 == (0 : Int)) <;> cases (Go.Proofs.GR.eqI x4 0 && (Go.Proofs.GR.eqI x5 0 && (Go.Proofs.GR.eqS x6 ByteArray.empty && true))) <;> cases Sp.isFreeS x2 <;> cases (x3.toList == (ByteArray.mk #[]).toList) <;> cases Sp.isFreeS x3 <;> rfl
      | false => cases (x0 == (15 : Int)) with
        | true => cases (x1 == (0 : Int)) <;> cases (Go.Proofs.GR.eqI x4 0 && (Go.Proofs.GR.eqI x5 0 && (Go.Proofs.GR.eqS x6 ByteArray.empty && true))) <;> cases (x3.toList == (ByteArray.mk #[]).toList) <;> cases (x2.toList == (ByteArray.mk #[45]).toList) <;> cases (x2.toList == (ByteArray.mk #[110, 111, 116]).toList) <;> cases (x2.toList == (ByteArray.mk #[105, 115, 110, 117, 108, 108]).toList) <;> cases (x2.toList == (ByteArray.mk #[105, 115, 110, 111, 116, 110, 117, 108, 108]).toList) <;> rfl
        | false => cases (x0 == (16 : Int)) with
          | true => cases (x1 == (0 : Int)) <;> cases (Go.Proofs.GR.eqI x4 0 && (Go.Proofs.GR.eqI x5 0 && (Go.Proofs.GR.eqS x6 ByteArray.empty && true))) <;> cases (x3.toList == (ByteArray.mk #[]).toList) <;> cases decide ((Sp.f1023 x2).1 > 0) <;> first | rfl | (cases Sp.lT r g <;> rfl)
          | false => cases (x0 == (17 : Int)) with
            | true => cases g <;> cases (x1 == (0 : Int)) <;> cases (Go.Proofs.GR.eqI x4 0 && (Go.Proofs.GR.eqI x5 0 && (Go.Proofs.GR.eqS x6 ByteArray.empty && true))) <;> cases (x3.toList == (ByteArray.mk #[]).toList) <;> cases (x2.toList == (ByteArray.mk #[99, 111, 117, 110, 116]).toList) <;> cases (x2.toList == (ByteArray.mk #[115, 117, 109]).toList) <;> cases (x2.toList == (ByteArray.mk #[109, 105, 110]).toList) <;> cases (x2.toList == (ByteArray.mk #[109, 97, 120]).toList) <;> first | rfl | (cases Sp.lT r false <;> rfl)
            | false => rfl
theorem e1019_ok : Valid PP Γ e1019 := valid_recs ok recLx (rcons ⟨[e136, e79, e194, e1023], vcons e136_ok (vcons e79_ok (vcons e194_ok (vcons e1023_ok vnil))), fun a _ _ => ⟨0, e1019_core a.1.1 a.1.2.1 a.1.2.2.1 a.1.2.2.2.1 a.1.2.2.2.2.1 a.1.2.2.2.2.2.1 a.1.2.2.2.2.2.2.1 a.1.2.2.2.2.2.2.2 a.2⟩⟩ rnil) _ (List.mem_cons_self)
def Sp.f1012 (x0 x1 : Int) (x2 x3 : ByteArray) (x4 x5 : Int) (x6 : ByteArray) (x7 : List ZT) := (bif decide (Sp.leftT (Sp.mkT (x0, x1, x2, x3, x4, x5, x6, x7)) (120 : Int) (1 : Int) ≥ (0 : Int)) then (Sp.lT (Sp.mkT (x0, x1, x2, x3, x4, x5, x6, x7)) true, ()) else (false, ()))
noncomputable def e1012 : Ent := { f := 120, ins := [Sh.agg [C0.dat Zi, C0.dat Zi, C0.dat Ty.str, C0.dat Ty.str, C0.dat Zi, C0.dat Zi, C0.dat Ty.str, C0.dat ZA.rose.slice]], outs := [Sh.one (C0.dat Ty.bool)], upd := [], pre := fun a => true, spec := fun a => (Sp.f1012 a.1 a.2.1 a.2.2.1 a.2.2.2.1 a.2.2.2.2.1 a.2.2.2.2.2.1 a.2.2.2.2.2.2.1 a.2.2.2.2.2.2.2).1, wrt := fun a => (Sp.f1012 a.1 a.2.1 a.2.2.1 a.2.2.2.1 a.2.2.2.2.1 a.2.2.2.2.2.1 a.2.2.2.2.2.2.1 a.2.2.2.2.2.2.2).2 }
def f1012_g (v : denS [Sh.one (C0.dat Ty.bool)] × denS []) : Res := ⟨mkS [Sh.one (C0.dat Ty.bool)] v.1, mkU [] v.2⟩
theorem f1012_form (x0 x1 : Int) (x2 x3 : ByteArray) (x4 x5 : Int) (x6 : ByteArray) (x7 : List ZT) : abody Γ (orc [e1018, e1019]) 0 120 [XV.mk true [ZC Zi x0, ZC Zi x1, ZC Ty.str x2, ZC Ty.str x3, ZC Zi x4, ZC Zi x5, ZC Ty.str x6, ZC ZA.rose.slice x7]] = some (f1012_g (Sp.f1012 x0 x1 x2 x3 x4 x5 x6 x7)) := by
  refine Eq.trans (b := bif decide (Sp.leftT (Sp.mkT (x0, x1, x2, x3, x4, x5, x6, x7)) (120 : Int) (1 : Int) ≥ (0 : Int)) then ZB (Sp.lT (Sp.mkT (x0, x1, x2, x3, x4, x5, x6, x7)) true) else Zf) (by kernel_rfl) ?_
  unfold Sp.f1012
  exact (cond_plain f1012_g (rfl) (rfl))
theorem e1012_ok : Valid PP Γ e1012 := valid_auto ok (vcons e1018_ok (vcons e1019_ok vnil)) fun a => f1012_form a.1 a.2.1 a.2.2.1 a.2.2.2.1 a.2.2.2.2.1 a.2.2.2.2.2.1 a.2.2.2.2.2.2.1 a.2.2.2.2.2.2.2

end Go.Proofs.GR.T

