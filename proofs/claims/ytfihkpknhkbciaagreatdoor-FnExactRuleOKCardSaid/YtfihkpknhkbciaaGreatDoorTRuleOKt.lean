/-
  No statement is proved here: what the functions of the law answer, told as plain functions, and that the law's answer is always true.
  No condition.
-/
import Derived.Test.YtfihkpknhkbciaaGreatDoorTRuleOKs
set_option maxRecDepth 3000000
set_option maxHeartbeats 100000000
namespace Go.Proofs.GR.T
open Go Go.Proofs Go.Proofs.GR
noncomputable def f1413_L0 (n m0 : Nat) (y0 : List (ByteArray × List (ByteArray × Int × Bool) × Int × List (ByteArray × List Int))) (y1 : Int) (y2 y3 : ByteArray) (y4 y5 y6 y7 : Int) (y8 y9 : ByteArray) (y10 y11 : Int) (y12 : ByteArray) (y13 : List ZT) (y14 : List (Int × Rose (Int × Int × ByteArray × ByteArray × Int × Int × ByteArray))) (y15 : ByteArray) (y16 : List ZT) (y17 : ByteArray) (y18 : List (ByteArray × Int × Bool)) (y19 : Int) (y20 : List (ByteArray × List Int)) : Option Res := loopAt Γ (orc [e1088, e140, e194, e79, e1427]) n (23 : Nat) (0 : Nat) [] [Pth.r, Pth.r, Pth.r, Pth.r, Pth.r, Pth.l, Pth.r, Pth.b] m0 (St.mk (Zn :: ZS (Ty.str.pair ((Ty.str.pair (Zi.pair Ty.bool)).slice.pair (Zi.pair (Ty.str.pair Zi.slice).slice))).slice y0 :: Slot.val (Val.one (Cell.ptr (0 : Nat) (0 : Nat))) :: ZN 3 (Slot.val (Val.one (Cell.ptr (1 : Nat) (0 : Nat))) :: ZS Zi y1 :: ZN 160 [])) [AObj.box (61 : Nat) [Cell.dat Ty.str y2, Cell.dat Ty.str y3, Cell.dat Zi y4, Cell.dat Zi y5, Cell.dat Zi y6, Cell.dat Zi y7, Cell.dat Ty.str y8, Cell.dat Ty.str y9, Cell.dat Zi y10, Cell.dat Zi y11, Cell.dat Ty.str y12, Cell.dat ZA.rose.slice y13, Cell.dat (Zi.pair ZA.rose).slice y14, Cell.dat Ty.str y15, Cell.dat ZA.rose.slice y16], AObj.box (109 : Nat) [Cell.dat Ty.str y17, Cell.dat (Ty.str.pair (Zi.pair Ty.bool)).slice y18, Cell.dat Zi y19, Cell.dat (Ty.str.pair Zi.slice).slice y20]])
noncomputable def f1413_L1 (n m0 m1 : Nat) (y0 : List (ByteArray × List (ByteArray × Int × Bool) × Int × List (ByteArray × List Int))) (y1 y2 : Int) (y3 y4 : ByteArray) (y5 y6 y7 y8 : Int) (y9 y10 : ByteArray) (y11 y12 : Int) (y13 : ByteArray) (y14 : List ZT) (y15 : List (Int × Rose (Int × Int × ByteArray × ByteArray × Int × Int × ByteArray))) (y16 : ByteArray) (y17 : List ZT) (y18 : ByteArray) (y19 : List (ByteArray × Int × Bool)) (y20 : Int) (y21 : List (ByteArray × List Int)) (y22 y23 y24 : Int) (y25 y26 : ByteArray) (y27 y28 : Int) (y29 : ByteArray) (y30 : List ZT) : Option Res := loopAt Γ (orc [e1088, e140, e194, e79, e1427]) n (23 : Nat) (0 : Nat) [] [Pth.r, Pth.r, Pth.r, Pth.r, Pth.r, Pth.l, Pth.r, Pth.b, Pth.p m0, Pth.r, Pth.l, Pth.b, Pth.r, Pth.r, Pth.r, Pth.b] m1 (St.mk (Zn :: ZS (Ty.str.pair ((Ty.str.pair (Zi.pair Ty.bool)).slice.pair (Zi.pair (Ty.str.pair Zi.slice).slice))).slice y0 :: Slot.val (Val.one (Cell.ptr (0 : Nat) (0 : Nat))) :: ZN 3 (Slot.val (Val.one (Cell.ptr (1 : Nat) (0 : Nat))) :: ZS Zi y1 :: Slot.val (Val.one (Cell.ptr (2 : Nat) (0 : Nat))) :: ZS Zi y2 :: ZN 158 [])) [AObj.box (61 : Nat) [Cell.dat Ty.str y3, Cell.dat Ty.str y4, Cell.dat Zi y5, Cell.dat Zi y6, Cell.dat Zi y7, Cell.dat Zi y8, Cell.dat Ty.str y9, Cell.dat Ty.str y10, Cell.dat Zi y11, Cell.dat Zi y12, Cell.dat Ty.str y13, Cell.dat ZA.rose.slice y14, Cell.dat (Zi.pair ZA.rose).slice y15, Cell.dat Ty.str y16, Cell.dat ZA.rose.slice y17], AObj.box (109 : Nat) [Cell.dat Ty.str y18, Cell.dat (Ty.str.pair (Zi.pair Ty.bool)).slice y19, Cell.dat Zi y20, Cell.dat (Ty.str.pair Zi.slice).slice y21], AObj.box (131 : Nat) [Cell.dat Zi y22, Cell.dat Zi y23, Cell.dat Zi y24, Cell.dat Ty.str y25, Cell.dat Ty.str y26, Cell.dat Zi y27, Cell.dat Zi y28, Cell.dat Ty.str y29, Cell.dat ZA.rose.slice y30]])
noncomputable def f1413_L2 (n m2 : Nat) (y0 : List (ByteArray × List (ByteArray × Int × Bool) × Int × List (ByteArray × List Int))) (y1 y2 : Int) (y3 y4 : ByteArray) (y5 y6 y7 y8 : Int) (y9 y10 : ByteArray) (y11 y12 : Int) (y13 : ByteArray) (y14 : List ZT) (y15 : List (Int × Rose (Int × Int × ByteArray × ByteArray × Int × Int × ByteArray))) (y16 : ByteArray) (y17 : List ZT) (y18 : ByteArray) (y19 : List (ByteArray × Int × Bool)) (y20 : Int) (y21 : List (ByteArray × List Int)) : Option Res := loopAt Γ (orc [e1088, e140, e194, e79, e1427]) n (23 : Nat) (0 : Nat) [] [Pth.r, Pth.r, Pth.r, Pth.r, Pth.r, Pth.r, Pth.r, Pth.r, Pth.r, Pth.l, Pth.r, Pth.b] m2 (St.mk (Zn :: ZS (Ty.str.pair ((Ty.str.pair (Zi.pair Ty.bool)).slice.pair (Zi.pair (Ty.str.pair Zi.slice).slice))).slice y0 :: Slot.val (Val.one (Cell.ptr (0 : Nat) (0 : Nat))) :: ZN 3 (Slot.val (Val.one (Cell.ptr (1 : Nat) (0 : Nat))) :: ZN 3 (ZS Zi y1 :: ZS Zi y2 :: ZN 156 []))) [AObj.box (61 : Nat) [Cell.dat Ty.str y3, Cell.dat Ty.str y4, Cell.dat Zi y5, Cell.dat Zi y6, Cell.dat Zi y7, Cell.dat Zi y8, Cell.dat Ty.str y9, Cell.dat Ty.str y10, Cell.dat Zi y11, Cell.dat Zi y12, Cell.dat Ty.str y13, Cell.dat ZA.rose.slice y14, Cell.dat (Zi.pair ZA.rose).slice y15, Cell.dat Ty.str y16, Cell.dat ZA.rose.slice y17], AObj.box (109 : Nat) [Cell.dat Ty.str y18, Cell.dat (Ty.str.pair (Zi.pair Ty.bool)).slice y19, Cell.dat Zi y20, Cell.dat (Ty.str.pair Zi.slice).slice y21]])
theorem f1413_L0_step (n m0 : Nat) (y0 : List (ByteArray × List (ByteArray × Int × Bool) × Int × List (ByteArray × List Int))) (y1 : Int) (y2 y3 : ByteArray) (y4 y5 y6 y7 : Int) (y8 y9 : ByteArray) (y10 y11 : Int) (y12 : ByteArray) (y13 : List ZT) (y14 : List (Int × Rose (Int × Int × ByteArray × ByteArray × Int × Int × ByteArray))) (y15 : ByteArray) (y16 : List ZT) (y17 : ByteArray) (y18 : List (ByteArray × Int × Bool)) (y19 : Int) (y20 : List (ByteArray × List Int)) : f1413_L0 n (m0 + 1) y0 y1 y2 y3 y4 y5 y6 y7 y8 y9 y10 y11 y12 y13 y14 y15 y16 y17 y18 y19 y20 = bif decide (y1 < (↑y14.length : Int)) then chk (decide ((0 : Int) ≤ y1) && decide (y1 < (↑y14.length : Int))) (bif y4 == (3 : Int) then Zf else bif !(Sp.f79 (y14.getD y1.toNat ((0 : Int), Rose.mk ((0 : Int), (0 : Int), ByteArray.mk #[], ByteArray.mk #[], (0 : Int), (0 : Int), ByteArray.mk #[]) [])).1 y19 (IntKind.i64.wrap ((↑y18.length : Int) - (1 : Int)))).1 then Zf else chk (decide ((0 : Int) ≤ (y14.getD y1.toNat ((0 : Int), Rose.mk ((0 : Int), (0 : Int), ByteArray.mk #[], ByteArray.mk #[], (0 : Int), (0 : Int), ByteArray.mk #[]) [])).1) && decide ((y14.getD y1.toNat ((0 : Int), Rose.mk ((0 : Int), (0 : Int), ByteArray.mk #[], ByteArray.mk #[], (0 : Int), (0 : Int), ByteArray.mk #[]) [])).1 < (↑y18.length : Int))) (chk (Sp.f1427_pre (y14.getD y1.toNat ((0 : Int), Rose.mk ((0 : Int), (0 : Int), ByteArray.mk #[], ByteArray.mk #[], (0 : Int), (0 : Int), ByteArray.mk #[]) [])).2.a.1 (y14.getD y1.toNat ((0 : Int), Rose.mk ((0 : Int), (0 : Int), ByteArray.mk #[], ByteArray.mk #[], (0 : Int), (0 : Int), ByteArray.mk #[]) [])).2.a.2.1 (y14.getD y1.toNat ((0 : Int), Rose.mk ((0 : Int), (0 : Int), ByteArray.mk #[], ByteArray.mk #[], (0 : Int), (0 : Int), ByteArray.mk #[]) [])).2.a.2.2.1 (y14.getD y1.toNat ((0 : Int), Rose.mk ((0 : Int), (0 : Int), ByteArray.mk #[], ByteArray.mk #[], (0 : Int), (0 : Int), ByteArray.mk #[]) [])).2.a.2.2.2.1 (y14.getD y1.toNat ((0 : Int), Rose.mk ((0 : Int), (0 : Int), ByteArray.mk #[], ByteArray.mk #[], (0 : Int), (0 : Int), ByteArray.mk #[]) [])).2.a.2.2.2.2.1 (y14.getD y1.toNat ((0 : Int), Rose.mk ((0 : Int), (0 : Int), ByteArray.mk #[], ByteArray.mk #[], (0 : Int), (0 : Int), ByteArray.mk #[]) [])).2.a.2.2.2.2.2.1 (y14.getD y1.toNat ((0 : Int), Rose.mk ((0 : Int), (0 : Int), ByteArray.mk #[], ByteArray.mk #[], (0 : Int), (0 : Int), ByteArray.mk #[]) [])).2.a.2.2.2.2.2.2 (y14.getD y1.toNat ((0 : Int), Rose.mk ((0 : Int), (0 : Int), ByteArray.mk #[], ByteArray.mk #[], (0 : Int), (0 : Int), ByteArray.mk #[]) [])).2.kids y17 y18 y19 y20 (y18.getD (y14.getD y1.toNat ((0 : Int), Rose.mk ((0 : Int), (0 : Int), ByteArray.mk #[], ByteArray.mk #[], (0 : Int), (0 : Int), ByteArray.mk #[]) [])).1.toNat (ByteArray.mk #[], (0 : Int), false)).2.1) (bif !(Sp.f1427 (y14.getD y1.toNat ((0 : Int), Rose.mk ((0 : Int), (0 : Int), ByteArray.mk #[], ByteArray.mk #[], (0 : Int), (0 : Int), ByteArray.mk #[]) [])).2.a.1 (y14.getD y1.toNat ((0 : Int), Rose.mk ((0 : Int), (0 : Int), ByteArray.mk #[], ByteArray.mk #[], (0 : Int), (0 : Int), ByteArray.mk #[]) [])).2.a.2.1 (y14.getD y1.toNat ((0 : Int), Rose.mk ((0 : Int), (0 : Int), ByteArray.mk #[], ByteArray.mk #[], (0 : Int), (0 : Int), ByteArray.mk #[]) [])).2.a.2.2.1 (y14.getD y1.toNat ((0 : Int), Rose.mk ((0 : Int), (0 : Int), ByteArray.mk #[], ByteArray.mk #[], (0 : Int), (0 : Int), ByteArray.mk #[]) [])).2.a.2.2.2.1 (y14.getD y1.toNat ((0 : Int), Rose.mk ((0 : Int), (0 : Int), ByteArray.mk #[], ByteArray.mk #[], (0 : Int), (0 : Int), ByteArray.mk #[]) [])).2.a.2.2.2.2.1 (y14.getD y1.toNat ((0 : Int), Rose.mk ((0 : Int), (0 : Int), ByteArray.mk #[], ByteArray.mk #[], (0 : Int), (0 : Int), ByteArray.mk #[]) [])).2.a.2.2.2.2.2.1 (y14.getD y1.toNat ((0 : Int), Rose.mk ((0 : Int), (0 : Int), ByteArray.mk #[], ByteArray.mk #[], (0 : Int), (0 : Int), ByteArray.mk #[]) [])).2.a.2.2.2.2.2.2 (y14.getD y1.toNat ((0 : Int), Rose.mk ((0 : Int), (0 : Int), ByteArray.mk #[], ByteArray.mk #[], (0 : Int), (0 : Int), ByteArray.mk #[]) [])).2.kids y17 y18 y19 y20 (y18.getD (y14.getD y1.toNat ((0 : Int), Rose.mk ((0 : Int), (0 : Int), ByteArray.mk #[], ByteArray.mk #[], (0 : Int), (0 : Int), ByteArray.mk #[]) [])).1.toNat (ByteArray.mk #[], (0 : Int), false)).2.1).1 then Zf else f1413_L1 n m0 n y0 y1 (0 : Int) y2 y3 y4 y5 y6 y7 y8 y9 y10 y11 y12 y13 y14 y15 y16 y17 y18 y19 y20 (y14.getD y1.toNat ((0 : Int), Rose.mk ((0 : Int), (0 : Int), ByteArray.mk #[], ByteArray.mk #[], (0 : Int), (0 : Int), ByteArray.mk #[]) [])).1 (y14.getD y1.toNat ((0 : Int), Rose.mk ((0 : Int), (0 : Int), ByteArray.mk #[], ByteArray.mk #[], (0 : Int), (0 : Int), ByteArray.mk #[]) [])).2.a.1 (y14.getD y1.toNat ((0 : Int), Rose.mk ((0 : Int), (0 : Int), ByteArray.mk #[], ByteArray.mk #[], (0 : Int), (0 : Int), ByteArray.mk #[]) [])).2.a.2.1 (y14.getD y1.toNat ((0 : Int), Rose.mk ((0 : Int), (0 : Int), ByteArray.mk #[], ByteArray.mk #[], (0 : Int), (0 : Int), ByteArray.mk #[]) [])).2.a.2.2.1 (y14.getD y1.toNat ((0 : Int), Rose.mk ((0 : Int), (0 : Int), ByteArray.mk #[], ByteArray.mk #[], (0 : Int), (0 : Int), ByteArray.mk #[]) [])).2.a.2.2.2.1 (y14.getD y1.toNat ((0 : Int), Rose.mk ((0 : Int), (0 : Int), ByteArray.mk #[], ByteArray.mk #[], (0 : Int), (0 : Int), ByteArray.mk #[]) [])).2.a.2.2.2.2.1 (y14.getD y1.toNat ((0 : Int), Rose.mk ((0 : Int), (0 : Int), ByteArray.mk #[], ByteArray.mk #[], (0 : Int), (0 : Int), ByteArray.mk #[]) [])).2.a.2.2.2.2.2.1 (y14.getD y1.toNat ((0 : Int), Rose.mk ((0 : Int), (0 : Int), ByteArray.mk #[], ByteArray.mk #[], (0 : Int), (0 : Int), ByteArray.mk #[]) [])).2.a.2.2.2.2.2.2 (y14.getD y1.toNat ((0 : Int), Rose.mk ((0 : Int), (0 : Int), ByteArray.mk #[], ByteArray.mk #[], (0 : Int), (0 : Int), ByteArray.mk #[]) [])).2.kids))) else bif y15.toList == (ByteArray.mk #[]).toList then ZB ((↑y16.length : Int) == (0 : Int)) else bif decide (Sp.idx (Sp.nmTb y15) y0 (0 : Int) < (0 : Int)) then Zf else chk (decide ((0 : Int) ≤ Sp.idx (Sp.nmTb y15) y0 (0 : Int)) && decide (Sp.idx (Sp.nmTb y15) y0 (0 : Int) < (↑y0.length : Int))) (bif (↑y16.length : Int) != (↑(y0.getD (Sp.idx (Sp.nmTb y15) y0 (0 : Int)).toNat (ByteArray.mk #[], [], (0 : Int), [])).2.1.length : Int) then Zf else f1413_L2 n n y0 (Sp.idx (Sp.nmTb y15) y0 (0 : Int)) (0 : Int) y2 y3 y4 y5 y6 y7 y8 y9 y10 y11 y12 y13 y14 y15 y16 y17 y18 y19 y20) := by kernel_rfl
theorem f1413_L1_step (n m0 m1 : Nat) (y0 : List (ByteArray × List (ByteArray × Int × Bool) × Int × List (ByteArray × List Int))) (y1 y2 : Int) (y3 y4 : ByteArray) (y5 y6 y7 y8 : Int) (y9 y10 : ByteArray) (y11 y12 : Int) (y13 : ByteArray) (y14 : List ZT) (y15 : List (Int × Rose (Int × Int × ByteArray × ByteArray × Int × Int × ByteArray))) (y16 : ByteArray) (y17 : List ZT) (y18 : ByteArray) (y19 : List (ByteArray × Int × Bool)) (y20 : Int) (y21 : List (ByteArray × List Int)) (y22 y23 y24 : Int) (y25 y26 : ByteArray) (y27 y28 : Int) (y29 : ByteArray) (y30 : List ZT) : f1413_L1 n m0 (m1 + 1) y0 y1 y2 y3 y4 y5 y6 y7 y8 y9 y10 y11 y12 y13 y14 y15 y16 y17 y18 y19 y20 y21 y22 y23 y24 y25 y26 y27 y28 y29 y30 = bif decide (y2 < y1) then chk (decide ((0 : Int) ≤ y2) && decide (y2 < (↑y15.length : Int))) (bif (y15.getD y2.toNat ((0 : Int), Rose.mk ((0 : Int), (0 : Int), ByteArray.mk #[], ByteArray.mk #[], (0 : Int), (0 : Int), ByteArray.mk #[]) [])).1 == y22 then Zf else f1413_L1 n m0 m1 y0 y1 (IntKind.i64.wrap (y2 + (1 : Int))) y3 y4 y5 y6 y7 y8 y9 y10 y11 y12 y13 y14 y15 y16 y17 y18 y19 y20 y21 y22 y23 y24 y25 y26 y27 y28 y29 y30) else f1413_L0 n m0 y0 (IntKind.i64.wrap (y1 + (1 : Int))) y3 y4 y5 y6 y7 y8 y9 y10 y11 y12 y13 y14 y15 y16 y17 y18 y19 y20 y21 := by kernel_rfl
theorem f1413_L2_step (n m2 : Nat) (y0 : List (ByteArray × List (ByteArray × Int × Bool) × Int × List (ByteArray × List Int))) (y1 y2 : Int) (y3 y4 : ByteArray) (y5 y6 y7 y8 : Int) (y9 y10 : ByteArray) (y11 y12 : Int) (y13 : ByteArray) (y14 : List ZT) (y15 : List (Int × Rose (Int × Int × ByteArray × ByteArray × Int × Int × ByteArray))) (y16 : ByteArray) (y17 : List ZT) (y18 : ByteArray) (y19 : List (ByteArray × Int × Bool)) (y20 : Int) (y21 : List (ByteArray × List Int)) : f1413_L2 n (m2 + 1) y0 y1 y2 y3 y4 y5 y6 y7 y8 y9 y10 y11 y12 y13 y14 y15 y16 y17 y18 y19 y20 y21 = bif decide (y2 < (↑y17.length : Int)) then chk (decide ((0 : Int) ≤ y2) && decide (y2 < (↑y17.length : Int))) (chk (decide ((0 : Int) ≤ y1) && decide (y1 < (↑y0.length : Int))) (chk (decide ((0 : Int) ≤ y2) && decide (y2 < (↑(y0.getD y1.toNat (ByteArray.mk #[], [], (0 : Int), [])).2.1.length : Int))) (chk (Sp.f1427_pre (y17.getD y2.toNat ZR).a.1 (y17.getD y2.toNat ZR).a.2.1 (y17.getD y2.toNat ZR).a.2.2.1 (y17.getD y2.toNat ZR).a.2.2.2.1 (y17.getD y2.toNat ZR).a.2.2.2.2.1 (y17.getD y2.toNat ZR).a.2.2.2.2.2.1 (y17.getD y2.toNat ZR).a.2.2.2.2.2.2 (y17.getD y2.toNat ZR).kids y18 y19 y20 y21 ((y0.getD y1.toNat (ByteArray.mk #[], [], (0 : Int), [])).2.1.getD y2.toNat (ByteArray.mk #[], (0 : Int), false)).2.1) (bif !(Sp.f1427 (y17.getD y2.toNat ZR).a.1 (y17.getD y2.toNat ZR).a.2.1 (y17.getD y2.toNat ZR).a.2.2.1 (y17.getD y2.toNat ZR).a.2.2.2.1 (y17.getD y2.toNat ZR).a.2.2.2.2.1 (y17.getD y2.toNat ZR).a.2.2.2.2.2.1 (y17.getD y2.toNat ZR).a.2.2.2.2.2.2 (y17.getD y2.toNat ZR).kids y18 y19 y20 y21 ((y0.getD y1.toNat (ByteArray.mk #[], [], (0 : Int), [])).2.1.getD y2.toNat (ByteArray.mk #[], (0 : Int), false)).2.1).1 then Zf else f1413_L2 n m2 y0 y1 (IntKind.i64.wrap (y2 + (1 : Int))) y3 y4 y5 y6 y7 y8 y9 y10 y11 y12 y13 y14 y15 y16 y17 y18 y19 y20 y21)))) else Zt := by kernel_rfl
theorem f1413_raw (n : Nat) (x0 x1 : ByteArray) (x2 x3 x4 x5 : Int) (x6 x7 : ByteArray) (x8 x9 : Int) (x10 : ByteArray) (x11 : List ZT) (x12 : List (Int × Rose (Int × Int × ByteArray × ByteArray × Int × Int × ByteArray))) (x13 : ByteArray) (x14 : List ZT) (x15 : List (ByteArray × List (ByteArray × Int × Bool) × Int × List (ByteArray × List Int))) : abody Γ (orc [e1088, e140, e194, e79, e1427]) n 23 [XV.mk true [ZC Ty.str x0, ZC Ty.str x1, ZC Zi x2, ZC Zi x3, ZC Zi x4, ZC Zi x5, ZC Ty.str x6, ZC Ty.str x7, ZC Zi x8, ZC Zi x9, ZC Ty.str x10, ZC ZA.rose.slice x11, ZC (Zi.pair ZA.rose).slice x12, ZC Ty.str x13, ZC ZA.rose.slice x14], ZX (Ty.str.pair ((Ty.str.pair (Zi.pair Ty.bool)).slice.pair (Zi.pair (Ty.str.pair Zi.slice).slice))).slice x15] = bif decide ((↑x15.length : Int) > (4096 : Int)) then Zf else bif !Sp.catOK x15 then Zf else bif !Sp.isFreeS x0 then Zf else bif decide (Sp.idx (Sp.nmTb x1) x15 (0 : Int) < (0 : Int)) then Zf else bif !(Sp.f79 x2 (1 : Int) (3 : Int)).1 then Zf else bif !(Sp.f79 x3 (0 : Int) (100 : Int)).1 then Zf else chk (decide ((0 : Int) ≤ Sp.idx (Sp.nmTb x1) x15 (0 : Int)) && decide (Sp.idx (Sp.nmTb x1) x15 (0 : Int) < (↑x15.length : Int))) (chk (Sp.f1427_pre x4 x5 x6 x7 x8 x9 x10 x11 (x15.getD (Sp.idx (Sp.nmTb x1) x15 (0 : Int)).toNat (ByteArray.mk #[], [], (0 : Int), [])).1 (x15.getD (Sp.idx (Sp.nmTb x1) x15 (0 : Int)).toNat (ByteArray.mk #[], [], (0 : Int), [])).2.1 (x15.getD (Sp.idx (Sp.nmTb x1) x15 (0 : Int)).toNat (ByteArray.mk #[], [], (0 : Int), [])).2.2.1 (x15.getD (Sp.idx (Sp.nmTb x1) x15 (0 : Int)).toNat (ByteArray.mk #[], [], (0 : Int), [])).2.2.2 (1 : Int)) (bif !(Sp.f1427 x4 x5 x6 x7 x8 x9 x10 x11 (x15.getD (Sp.idx (Sp.nmTb x1) x15 (0 : Int)).toNat (ByteArray.mk #[], [], (0 : Int), [])).1 (x15.getD (Sp.idx (Sp.nmTb x1) x15 (0 : Int)).toNat (ByteArray.mk #[], [], (0 : Int), [])).2.1 (x15.getD (Sp.idx (Sp.nmTb x1) x15 (0 : Int)).toNat (ByteArray.mk #[], [], (0 : Int), [])).2.2.1 (x15.getD (Sp.idx (Sp.nmTb x1) x15 (0 : Int)).toNat (ByteArray.mk #[], [], (0 : Int), [])).2.2.2 (1 : Int)).1 then Zf else bif decide ((↑x12.length : Int) > (8 : Int)) then Zf else chk (decide ((0 : Int) ≤ Sp.idx (Sp.nmTb x1) x15 (0 : Int)) && decide (Sp.idx (Sp.nmTb x1) x15 (0 : Int) < (↑x15.length : Int))) (f1413_L0 n n x15 (0 : Int) x0 x1 x2 x3 x4 x5 x6 x7 x8 x9 x10 x11 x12 x13 x14 (x15.getD (Sp.idx (Sp.nmTb x1) x15 (0 : Int)).toNat (ByteArray.mk #[], [], (0 : Int), [])).1 (x15.getD (Sp.idx (Sp.nmTb x1) x15 (0 : Int)).toNat (ByteArray.mk #[], [], (0 : Int), [])).2.1 (x15.getD (Sp.idx (Sp.nmTb x1) x15 (0 : Int)).toNat (ByteArray.mk #[], [], (0 : Int), [])).2.2.1 (x15.getD (Sp.idx (Sp.nmTb x1) x15 (0 : Int)).toNat (ByteArray.mk #[], [], (0 : Int), [])).2.2.2))) := by kernel_rfl

end Go.Proofs.GR.T

set_option maxRecDepth 3000000
set_option maxHeartbeats 100000000
namespace Go.Proofs.GR.T
open Go Go.Proofs Go.Proofs.GR
def Sp.tdR (t : VTb) (r : RT) (due : Int) : Bool := (Sp.f1427 r.a.1 r.a.2.1 r.a.2.2.1 r.a.2.2.2.1 r.a.2.2.2.2.1 r.a.2.2.2.2.2.1 r.a.2.2.2.2.2.2 r.kids t.1 t.2.1 t.2.2.1 t.2.2.2 due).1
def Sp.tdRP (t : VTb) (r : RT) : Bool := Sp.f1427_pre r.a.1 r.a.2.1 r.a.2.2.1 r.a.2.2.2.1 r.a.2.2.2.2.1 r.a.2.2.2.2.2.1 r.a.2.2.2.2.2.2 r.kids t.1 t.2.1 t.2.2.1 t.2.2.2 0
def Sp.tdRS (t : VTb) (x : VSg) : Bool := Sp.tdRP t x.2
def Sp.setR (t : VTb) (ev : Int) (pre : List VSg) (x : VSg) : Bool := bif ev == 3 then false else bif Sp.inCol t.2.2.1 t.2.1.length x.1 then (bif Sp.tdR t x.2 (Sp.colAt t.2.1 x.1) then !Sp.anyW (Sp.sameCol x) pre else false) else false
def Sp.zipR (t : VTb) : List RT → List VCo → Bool
  | r :: l, c :: k => bif Sp.tdR t r c.2.1 then Sp.zipR t l k else false
  | _, _ => true
def Sp.intoR (into : ByteArray) (es : List RT) (ts : List VTb) (t : VTb) : Bool :=
  bif into.toList == (ByteArray.mk #[]).toList then (es.length : Int) == 0
  else bif decide (Sp.idx (Sp.nmTb into) ts 0 < 0) then false
  else bif (es.length : Int) != ((Sp.tAt ts (Sp.idx (Sp.nmTb into) ts 0)).2.1.length : Int) then false
  else Sp.zipR t es (Sp.tAt ts (Sp.idx (Sp.nmTb into) ts 0)).2.1
def Sp.ruR (t : VTb) (ev : Int) (w : RT) (xs : List VSg) (into : ByteArray) (es : List RT) (ts : List VTb) : Bool :=
  bif !Sp.tdR t w 1 then false else bif decide ((xs.length : Int) > 8) then false else bif Sp.allP (Sp.setR t ev) [] xs then Sp.intoR into es ts t else false
def Sp.ruS (name table : ByteArray) (ev pri : Int) (w : RT) (xs : List VSg) (into : ByteArray) (es : List RT) (ts : List VTb) : Bool :=
  bif decide ((ts.length : Int) > 4096) then false else bif !Sp.catOK ts then false else bif !Sp.isFreeS name then false
  else bif decide (Sp.idx (Sp.nmTb table) ts 0 < 0) then false else bif !(Sp.f79 ev 1 3).1 then false else bif !(Sp.f79 pri 0 100).1 then false
  else Sp.ruR (Sp.tAt ts (Sp.idx (Sp.nmTb table) ts 0)) ev w xs into es ts
def Sp.ruQ (t : VTb) (w : RT) (xs : List VSg) (es : List RT) : Bool := yes2 (Sp.fits32 t.2.1) (yes2 (decide (0 ≤ t.2.2.1)) (yes2 (Sp.tdRP t w) (yes2 (Sp.allW (Sp.tdRS t) xs) (Sp.allW (Sp.tdRP t) es))))
def Sp.ruP (table : ByteArray) (w : RT) (xs : List VSg) (es : List RT) (ts : List VTb) : Bool :=
  yes2 (Sp.fits32 xs) (yes2 (Sp.fits32 es) (bif Sp.catOK ts then (bif decide (Sp.idx (Sp.nmTb table) ts 0 < 0) then true else Sp.ruQ (Sp.tAt ts (Sp.idx (Sp.nmTb table) ts 0)) w xs es) else true))
def Sp.rlW (a : denC aRl) : RT := Sp.mkT (a.2.2.2.2.1, a.2.2.2.2.2.1, a.2.2.2.2.2.2.1, a.2.2.2.2.2.2.2.1, a.2.2.2.2.2.2.2.2.1, a.2.2.2.2.2.2.2.2.2.1, a.2.2.2.2.2.2.2.2.2.2.1, a.2.2.2.2.2.2.2.2.2.2.2.1)
noncomputable def e1413 : Ent := { f := n1413, ins := [Sh.agg aRl, Sh.one (cL tTb)], outs := [Sh.one cB], upd := [], pre := fun a => Sp.ruP a.1.2.1 (Sp.rlW a.1) a.1.2.2.2.2.2.2.2.2.2.2.2.2.1 a.1.2.2.2.2.2.2.2.2.2.2.2.2.2.2 a.2, spec := fun a => Sp.ruS a.1.1 a.1.2.1 a.1.2.2.1 a.1.2.2.2.1 (Sp.rlW a.1) a.1.2.2.2.2.2.2.2.2.2.2.2.2.1 a.1.2.2.2.2.2.2.2.2.2.2.2.2.2.1 a.1.2.2.2.2.2.2.2.2.2.2.2.2.2.2 a.2, wrt := fun _ => () }
theorem idxK_lt {α : Type} (p : α → Bool) : ∀ (xs : List α) (k : Int), 0 ≤ k → Sp.idx p xs k < k + (xs.length : Int)
  | [], k, h => by rw [Sp.idx]; rw [List.length_nil]; omega
  | x :: r, k, h => by
    rw [Sp.idx, List.length_cons]
    cases p x with
    | true => rw [cond_true]; omega
    | false => rw [cond_false]; have := idxK_lt p r (k + 1) (by omega); omega
theorem twice_loop (n m0 : Nat) (ts : List VTb) (x0 x1 : ByteArray) (x2 x3 x4 x5 : Int) (x6 x7 : ByteArray) (x8 x9 : Int) (x10 : ByteArray) (x11 : List RT) (xs : List VSg) (x13 : ByteArray) (x14 : List RT) (t : VTb) (i : Nat) (hi : i < xs.length) (h1 : xs.length ≤ 1000000000000) (c z1 z2 : Int) (z3 z4 : ByteArray) (z5 z6 : Int) (z7 : ByteArray) (z8 : List RT) :
    ∀ (d k m : Nat), k + d = i → d < m → f1413_L1 n m0 m ts (i : Int) (k : Int) x0 x1 x2 x3 x4 x5 x6 x7 x8 x9 x10 x11 xs x13 x14 t.1 t.2.1 t.2.2.1 t.2.2.2 c z1 z2 z3 z4 z5 z6 z7 z8 =
      bif Sp.anyW (fun y : VSg => y.1 == c) ((xs.take i).drop k) then some (rBo false) else f1413_L0 n m0 ts ((i + 1 : Nat) : Int) x0 x1 x2 x3 x4 x5 x6 x7 x8 x9 x10 x11 xs x13 x14 t.1 t.2.1 t.2.2.1 t.2.2.2 := by
  intro d
  have hl : (xs.take i).length = i := by rw [List.length_take]; omega
  induction d with
  | zero =>
    intro k m hk hm
    obtain ⟨m, rfl⟩ := succ_of hm
    rw [f1413_L1_step, nat_ge (show i ≤ k by omega), cond_false, List.drop_eq_nil_of_le (by omega), next64 hi (by omega)]
    rfl
  | succ d ih =>
    intro k m hk hm
    obtain ⟨m, rfl⟩ := succ_of hm
    have h : k < xs.length := by omega
    have h2 : k < (xs.take i).length := by omega
    rw [f1413_L1_step, nat_lt (show k < i by omega), cond_true, guard2 h, chkT, getD_nat xs k _ h, List.drop_eq_getElem_cons h2, List.getElem_take, next64 (show k < xs.length by omega) (by omega)]
    show (bif xs[k].1 == c then _ else _) = bif (bif xs[k].1 == c then true else Sp.anyW _ _) then _ else _
    cases xs[k].1 == c with
    | true => rfl
    | false => exact ih (k + 1) m (by omega) (by omega)
theorem intoR_loop (n : Nat) (ts : List VTb) (i : Int) (hi0 : 0 ≤ i) (hi : i < (ts.length : Int)) (x0 x1 : ByteArray) (x2 x3 x4 x5 : Int) (x6 x7 : ByteArray) (x8 x9 : Int) (x10 : ByteArray) (x11 : List RT) (x12 : List VSg) (x13 : ByteArray) (es : List RT) (t : VTb)
    (hn : es.length = (Sp.tAt ts i).2.1.length) (h1 : es.length ≤ 1000000000000) (ha : ∀ r ∈ es, Sp.tdRP t r = true) :
    ∀ (d k m : Nat), k + d = es.length → d < m → f1413_L2 n m ts i (k : Int) x0 x1 x2 x3 x4 x5 x6 x7 x8 x9 x10 x11 x12 x13 es t.1 t.2.1 t.2.2.1 t.2.2.2 = some (rBo (Sp.zipR t (es.drop k) ((Sp.tAt ts i).2.1.drop k))) := by
  intro d
  induction d with
  | zero =>
    intro k m hk hm
    obtain ⟨m, rfl⟩ := succ_of hm
    rw [f1413_L2_step, nat_ge (show es.length ≤ k by omega), cond_false, List.drop_eq_nil_of_le (by omega), Sp.zipR]
    intro _ _ _ _ e
    cases e
  | succ d ih =>
    intro k m hk hm
    obtain ⟨m, rfl⟩ := succ_of hm
    have h : k < es.length := by omega
    have hc : k < (Sp.tAt ts i).2.1.length := by omega
    have hp : Sp.tdRP t es[k] = true := ha _ (List.getElem_mem h)
    have et : ts.getD i.toNat (ByteArray.mk #[], [], (0 : Int), []) = Sp.tAt ts i := rfl
    rw [f1413_L2_step, nat_lt h, cond_true, guard0, chkT, getD_nat es k _ h, et, decide_eq_true hi0, decide_eq_true hi, Bool.and_self, chkT, guardI hc, chkT, next64 h (by omega), getD_nat _ k _ hc]
    refine (congrArg (fun b => chk b _) hp).trans ?_
    rw [chkT, List.drop_eq_getElem_cons h, List.drop_eq_getElem_cons hc, Sp.zipR]
    show (bif !Sp.tdR t es[k] (Sp.tAt ts i).2.1[k].2.1 then _ else _) = _
    cases Sp.tdR t es[k] (Sp.tAt ts i).2.1[k].2.1 with
    | false => rfl
    | true => exact ih (k + 1) m (by omega) (by omega)
theorem e1413_core (x0 x1 : ByteArray) (x2 x3 x4 x5 : Int) (x6 x7 : ByteArray) (x8 x9 : Int) (x10 : ByteArray) (x11 : List RT) (xs : List VSg) (into : ByteArray) (es : List RT) (ts : List VTb) (ha : Sp.ruP x1 (Sp.mkT (x4, x5, x6, x7, x8, x9, x10, x11)) xs es ts = true) :
    ∃ n, abody Γ (orc [e1088, e140, e194, e79, e1427]) n n1413 (e1413.args ((x0, x1, x2, x3, x4, x5, x6, x7, x8, x9, x10, x11, xs, into, es), ts)) = some (rBo (Sp.ruS x0 x1 x2 x3 (Sp.mkT (x4, x5, x6, x7, x8, x9, x10, x11)) xs into es ts)) := by
  obtain ⟨h1, ha⟩ := yes2_true ha
  obtain ⟨h2, ha⟩ := yes2_true ha
  have h1 := fits32_of h1
  have h2 := fits32_of h2
  refine ⟨xs.length + es.length + 1, (f1413_raw _ x0 x1 x2 x3 x4 x5 x6 x7 x8 x9 x10 x11 xs into es ts).trans ?_⟩
  unfold Sp.ruS
  cases decide ((ts.length : Int) > 4096) with
  | true => rfl
  | false =>
  rw [cond_false, cond_false]
  cases hc : Sp.catOK ts with
  | false => rfl
  | true =>
  rw [hc, cond_true] at ha
  rw [Bool.not_true, cond_false, cond_false]
  cases Sp.isFreeS x0 with
  | false => rfl
  | true =>
  rw [Bool.not_true, cond_false, cond_false]
  cases hi : decide (Sp.idx (Sp.nmTb x1) ts 0 < 0) with
  | true => rfl
  | false =>
  rw [hi, cond_false] at ha
  rw [cond_false, cond_false]
  cases (Sp.f79 x2 1 3).1 with
  | false => rfl
  | true =>
  rw [Bool.not_true, cond_false, cond_false]
  cases (Sp.f79 x3 0 100).1 with
  | false => rfl
  | true =>
  rw [Bool.not_true, cond_false, cond_false]
  have hi0 : 0 ≤ Sp.idx (Sp.nmTb x1) ts 0 := by have := of_decide_eq_false hi; omega
  have hi1 : Sp.idx (Sp.nmTb x1) ts 0 < (ts.length : Int) := by have := idxK_lt (Sp.nmTb x1) ts 0 (Int.le_refl 0); omega
  have et : ts.getD (Sp.idx (Sp.nmTb x1) ts 0).toNat (ByteArray.mk #[], [], (0 : Int), []) = Sp.tAt ts (Sp.idx (Sp.nmTb x1) ts 0) := rfl
  rw [decide_eq_true hi0, decide_eq_true hi1, Bool.and_self, chkT, chkT, et]
  generalize Sp.tAt ts (Sp.idx (Sp.nmTb x1) ts 0) = t at ha ⊢
  obtain ⟨h3, ha⟩ := yes2_true ha
  obtain ⟨h4, ha⟩ := yes2_true ha
  obtain ⟨h5, ha⟩ := yes2_true ha
  obtain ⟨h6, h7⟩ := yes2_true ha
  have h3 := fits32_of h3
  have h4 := of_decide_eq_true h4
  have h6 := allW_mem.1 h6
  have h7 := allW_mem.1 h7
  refine (congrArg (fun b => chk b _) h5).trans ?_
  rw [chkT]
  unfold Sp.ruR
  show (bif !Sp.tdR t (Sp.mkT (x4, x5, x6, x7, x8, x9, x10, x11)) 1 then _ else _) = _
  cases Sp.tdR t (Sp.mkT (x4, x5, x6, x7, x8, x9, x10, x11)) 1 with
  | false => rfl
  | true =>
  rw [Bool.not_true, cond_false, cond_false]
  cases decide ((xs.length : Int) > 8) with
  | true => rfl
  | false =>
  rw [cond_false, cond_false]
  have L0 := allP_end (p := Sp.setR t x2) (z := some (rBo (Sp.intoR into es ts t))) (F := some (rBo false)) xs
    (fun m k => f1413_L0 (xs.length + es.length + 1) m ts k x0 x1 x2 x3 x4 x5 x6 x7 x8 x9 x10 x11 xs into es t.1 t.2.1 t.2.2.1 t.2.2.2) (fun m k hk => by
    show f1413_L0 _ _ _ _ _ _ _ _ _ _ _ _ _ _ _ _ _ _ _ _ _ _ _ = _
    rw [f1413_L0_step, nat_ge hk, cond_false]
    unfold Sp.intoR
    cases into.toList == (ByteArray.mk #[]).toList with
    | true => rfl
    | false =>
    rw [cond_false, cond_false]
    cases hj : decide (Sp.idx (Sp.nmTb into) ts 0 < 0) with
    | true => rfl
    | false =>
    have hj0 : 0 ≤ Sp.idx (Sp.nmTb into) ts 0 := by have := of_decide_eq_false hj; omega
    have hj1 : Sp.idx (Sp.nmTb into) ts 0 < (ts.length : Int) := by have := idxK_lt (Sp.nmTb into) ts 0 (Int.le_refl 0); omega
    have et : ts.getD (Sp.idx (Sp.nmTb into) ts 0).toNat (ByteArray.mk #[], [], (0 : Int), []) = Sp.tAt ts (Sp.idx (Sp.nmTb into) ts 0) := rfl
    rw [cond_false, cond_false, decide_eq_true hj0, decide_eq_true hj1, Bool.and_self, chkT, et]
    by_cases hn : es.length = (Sp.tAt ts (Sp.idx (Sp.nmTb into) ts 0)).2.1.length
    · rw [show ((es.length : Int) != ((Sp.tAt ts (Sp.idx (Sp.nmTb into) ts 0)).2.1.length : Int)) = false by rw [hn]; simp, cond_false, cond_false]
      exact intoR_loop _ ts _ hj0 hj1 x0 x1 x2 x3 x4 x5 x6 x7 x8 x9 x10 x11 xs into es t hn h2 h7 es.length 0 _ (Nat.zero_add _) (by omega)
    · rw [show ((es.length : Int) != ((Sp.tAt ts (Sp.idx (Sp.nmTb into) ts 0)).2.1.length : Int)) = true by simp; omega]
      rfl) (fun m k h _ => by
    show f1413_L0 _ _ _ _ _ _ _ _ _ _ _ _ _ _ _ _ _ _ _ _ _ _ _ = _
    have hp : Sp.tdRP t xs[k].2 = true := h6 _ (List.getElem_mem h)
    rw [f1413_L0_step, nat_lt h, cond_true, guard0, chkT, getD_nat xs k _ h]
    unfold Sp.setR
    cases x2 == 3 with
    | true => rfl
    | false =>
    rw [cond_false, cond_false]
    have e1 : (Sp.f79 xs[k].1 t.2.2.1 (IntKind.i64.wrap ((t.2.1.length : Int) - 1))).1 = Sp.inCol t.2.2.1 t.2.1.length xs[k].1 := by
      unfold Sp.f79 Sp.inCol
      cases decide (xs[k].1 ≥ t.2.2.1) <;> rfl
    rw [e1]
    cases hin : Sp.inCol t.2.2.1 t.2.1.length xs[k].1 with
    | false => rfl
    | true =>
      obtain ⟨q0, q1⟩ := inCol_lt h4 h3 hin
      rw [decide_eq_true q0, decide_eq_true q1, Bool.and_self, chkT, Bool.not_true, cond_false, cond_true]
      refine (congrArg (fun b => chk b _) hp).trans ?_
      rw [chkT]
      show (bif !Sp.tdR t xs[k].2 (Sp.colAt t.2.1 xs[k].1) then _ else _) = _
      cases Sp.tdR t xs[k].2 (Sp.colAt t.2.1 xs[k].1) with
      | false => rfl
      | true =>
        rw [Bool.not_true, cond_false, cond_true, Bool.not_not]
        exact twice_loop _ m ts x0 x1 x2 x3 x4 x5 x6 x7 x8 x9 x10 x11 xs into es t k h h1 _ _ _ _ _ _ _ _ _ k 0 (xs.length + es.length + 1) (Nat.zero_add _) (by omega)) (xs.length + es.length + 1) (by omega)
  refine L0.trans ?_
  cases Sp.allP (Sp.setR t x2) [] xs <;> rfl
theorem e1413_ok : Valid PP Γ e1413 := valid_of ok (vcons e1088_ok (vcons e140_ok (vcons e194_ok (vcons e79_ok (vcons e1427_ok vnil))))) fun a ha => e1413_core a.1.1 a.1.2.1 a.1.2.2.1 a.1.2.2.2.1 a.1.2.2.2.2.1 a.1.2.2.2.2.2.1 a.1.2.2.2.2.2.2.1 a.1.2.2.2.2.2.2.2.1 a.1.2.2.2.2.2.2.2.2.1 a.1.2.2.2.2.2.2.2.2.2.1 a.1.2.2.2.2.2.2.2.2.2.2.1 a.1.2.2.2.2.2.2.2.2.2.2.2.1 a.1.2.2.2.2.2.2.2.2.2.2.2.2.1 a.1.2.2.2.2.2.2.2.2.2.2.2.2.2.1 a.1.2.2.2.2.2.2.2.2.2.2.2.2.2.2 a.2 ha
end Go.Proofs.GR.T

set_option maxRecDepth 3000000
set_option maxHeartbeats 100000000
namespace Go.Proofs.GR.T
open Go Go.Proofs Go.Proofs.GR
def Sp.f1407_pre (x0 x1 : ByteArray) (x2 x3 x4 x5 : Int) (x6 x7 : ByteArray) (x8 x9 : Int) (x10 : ByteArray) (x11 : List ZT) (x12 : List (Int × Rose (Int × Int × ByteArray × ByteArray × Int × Int × ByteArray))) (x13 : ByteArray) (x14 : List ZT) (x15 : List (ByteArray × List (ByteArray × Int × Bool) × Int × List (ByteArray × List Int))) : Bool := (bif decide ((Sp.f1412 x0 x1 x2 x3 x4 x5 x6 x7 x8 x9 x10 x11 x12 x13 x14 (1048576 : Int)).1 < (0 : Int)) then true else (bif decide (Sp.szE Sp.szTb x15 (Sp.f1412 x0 x1 x2 x3 x4 x5 x6 x7 x8 x9 x10 x11 x12 x13 x14 (1048576 : Int)).1 < (0 : Int)) then true else (Sp.rlP (x0, x1, x2, x3, x4, x5, x6, x7, x8, x9, x10, x11, x12, x13, x14) && (Sp.fits1068 x15 && (Sp.ruP x1 (Sp.rlW (x0, x1, x2, x3, x4, x5, x6, x7, x8, x9, x10, x11, x12, x13, x14)) x12 x14 x15 && (Sp.rlP (x0, x1, x2, x3, x4, x5, x6, x7, x8, x9, x10, x11, x12, x13, x14) && (Sp.fits1068 x15 && (Sp.f1415_pre x0 x1 x2 x3 x4 x5 x6 x7 x8 x9 x10 x11 x12 x13 x14 x15 && (bif !eqB (Sp.f1415 x0 x1 x2 x3 x4 x5 x6 x7 x8 x9 x10 x11 x12 x13 x14 x15).1 (Sp.ruS x0 x1 x2 x3 (Sp.rlW (x0, x1, x2, x3, x4, x5, x6, x7, x8, x9, x10, x11, x12, x13, x14)) x12 x13 x14 x15) then true else (Sp.rlP (x0, x1, x2, x3, x4, x5, x6, x7, x8, x9, x10, x11, x12, x13, x14) && (bif !(Sp.f1308 x0 x1 x2 x3 x4 x5 x6 x7 x8 x9 x10 x11 x12 x13 x14 x0 x1 x2 x3 x4 x5 x6 x7 x8 x9 x10 x11 x12 x13 x14).1 then true else (Sp.fits1068 x15))))))))))))
def Sp.f1407 (x0 x1 : ByteArray) (x2 x3 x4 x5 : Int) (x6 x7 : ByteArray) (x8 x9 : Int) (x10 : ByteArray) (x11 : List ZT) (x12 : List (Int × Rose (Int × Int × ByteArray × ByteArray × Int × Int × ByteArray))) (x13 : ByteArray) (x14 : List ZT) (x15 : List (ByteArray × List (ByteArray × Int × Bool) × Int × List (ByteArray × List Int))) := (bif decide ((Sp.f1412 x0 x1 x2 x3 x4 x5 x6 x7 x8 x9 x10 x11 x12 x13 x14 (1048576 : Int)).1 < (0 : Int)) then (true, ()) else (bif decide (Sp.szE Sp.szTb x15 (Sp.f1412 x0 x1 x2 x3 x4 x5 x6 x7 x8 x9 x10 x11 x12 x13 x14 (1048576 : Int)).1 < (0 : Int)) then (true, ()) else (bif !eqB (Sp.f1415 x0 x1 x2 x3 x4 x5 x6 x7 x8 x9 x10 x11 x12 x13 x14 x15).1 (Sp.ruS x0 x1 x2 x3 (Sp.rlW (x0, x1, x2, x3, x4, x5, x6, x7, x8, x9, x10, x11, x12, x13, x14)) x12 x13 x14 x15) then (false, ()) else (bif !(Sp.f1308 x0 x1 x2 x3 x4 x5 x6 x7 x8 x9 x10 x11 x12 x13 x14 x0 x1 x2 x3 x4 x5 x6 x7 x8 x9 x10 x11 x12 x13 x14).1 then (false, ()) else (bif !Sp.eqW Sp.eqTb x15 x15 then (false, ()) else (true, ()))))))
noncomputable def e1407 : Ent := { f := 4, ins := [Sh.agg [C0.dat Ty.str, C0.dat Ty.str, C0.dat Zi, C0.dat Zi, C0.dat Zi, C0.dat Zi, C0.dat Ty.str, C0.dat Ty.str, C0.dat Zi, C0.dat Zi, C0.dat Ty.str, C0.dat ZA.rose.slice, C0.dat (Zi.pair ZA.rose).slice, C0.dat Ty.str, C0.dat ZA.rose.slice], Sh.one (C0.dat (Ty.str.pair ((Ty.str.pair (Zi.pair Ty.bool)).slice.pair (Zi.pair (Ty.str.pair Zi.slice).slice))).slice)], outs := [Sh.one (C0.dat Ty.bool)], upd := [], pre := fun a => Sp.f1407_pre a.1.1 a.1.2.1 a.1.2.2.1 a.1.2.2.2.1 a.1.2.2.2.2.1 a.1.2.2.2.2.2.1 a.1.2.2.2.2.2.2.1 a.1.2.2.2.2.2.2.2.1 a.1.2.2.2.2.2.2.2.2.1 a.1.2.2.2.2.2.2.2.2.2.1 a.1.2.2.2.2.2.2.2.2.2.2.1 a.1.2.2.2.2.2.2.2.2.2.2.2.1 a.1.2.2.2.2.2.2.2.2.2.2.2.2.1 a.1.2.2.2.2.2.2.2.2.2.2.2.2.2.1 a.1.2.2.2.2.2.2.2.2.2.2.2.2.2.2 a.2, spec := fun a => (Sp.f1407 a.1.1 a.1.2.1 a.1.2.2.1 a.1.2.2.2.1 a.1.2.2.2.2.1 a.1.2.2.2.2.2.1 a.1.2.2.2.2.2.2.1 a.1.2.2.2.2.2.2.2.1 a.1.2.2.2.2.2.2.2.2.1 a.1.2.2.2.2.2.2.2.2.2.1 a.1.2.2.2.2.2.2.2.2.2.2.1 a.1.2.2.2.2.2.2.2.2.2.2.2.1 a.1.2.2.2.2.2.2.2.2.2.2.2.2.1 a.1.2.2.2.2.2.2.2.2.2.2.2.2.2.1 a.1.2.2.2.2.2.2.2.2.2.2.2.2.2.2 a.2).1, wrt := fun a => (Sp.f1407 a.1.1 a.1.2.1 a.1.2.2.1 a.1.2.2.2.1 a.1.2.2.2.2.1 a.1.2.2.2.2.2.1 a.1.2.2.2.2.2.2.1 a.1.2.2.2.2.2.2.2.1 a.1.2.2.2.2.2.2.2.2.1 a.1.2.2.2.2.2.2.2.2.2.1 a.1.2.2.2.2.2.2.2.2.2.2.1 a.1.2.2.2.2.2.2.2.2.2.2.2.1 a.1.2.2.2.2.2.2.2.2.2.2.2.2.1 a.1.2.2.2.2.2.2.2.2.2.2.2.2.2.1 a.1.2.2.2.2.2.2.2.2.2.2.2.2.2.2 a.2).2 }
def f1407_g (v : denS [Sh.one (C0.dat Ty.bool)] × denS []) : Res := ⟨mkS [Sh.one (C0.dat Ty.bool)] v.1, mkU [] v.2⟩
theorem f1407_form (x0 x1 : ByteArray) (x2 x3 x4 x5 : Int) (x6 x7 : ByteArray) (x8 x9 : Int) (x10 : ByteArray) (x11 : List ZT) (x12 : List (Int × Rose (Int × Int × ByteArray × ByteArray × Int × Int × ByteArray))) (x13 : ByteArray) (x14 : List ZT) (x15 : List (ByteArray × List (ByteArray × Int × Bool) × Int × List (ByteArray × List Int))) : abody Γ (orc [e1412, e1065, e1414, e1068, e1413, e1415, e1308, e1070]) 0 4 [XV.mk true [ZC Ty.str x0, ZC Ty.str x1, ZC Zi x2, ZC Zi x3, ZC Zi x4, ZC Zi x5, ZC Ty.str x6, ZC Ty.str x7, ZC Zi x8, ZC Zi x9, ZC Ty.str x10, ZC ZA.rose.slice x11, ZC (Zi.pair ZA.rose).slice x12, ZC Ty.str x13, ZC ZA.rose.slice x14], ZX (Ty.str.pair ((Ty.str.pair (Zi.pair Ty.bool)).slice.pair (Zi.pair (Ty.str.pair Zi.slice).slice))).slice x15] = chk (Sp.f1407_pre x0 x1 x2 x3 x4 x5 x6 x7 x8 x9 x10 x11 x12 x13 x14 x15) (some (f1407_g (Sp.f1407 x0 x1 x2 x3 x4 x5 x6 x7 x8 x9 x10 x11 x12 x13 x14 x15))) := by
  refine Eq.trans (b := bif decide ((Sp.f1412 x0 x1 x2 x3 x4 x5 x6 x7 x8 x9 x10 x11 x12 x13 x14 (1048576 : Int)).1 < (0 : Int)) then Zt else bif decide (Sp.szE Sp.szTb x15 (Sp.f1412 x0 x1 x2 x3 x4 x5 x6 x7 x8 x9 x10 x11 x12 x13 x14 (1048576 : Int)).1 < (0 : Int)) then Zt else chk (Sp.rlP (x0, x1, x2, x3, x4, x5, x6, x7, x8, x9, x10, x11, x12, x13, x14)) (chk (Sp.fits1068 x15) (chk (Sp.ruP x1 (Sp.rlW (x0, x1, x2, x3, x4, x5, x6, x7, x8, x9, x10, x11, x12, x13, x14)) x12 x14 x15) (chk (Sp.rlP (x0, x1, x2, x3, x4, x5, x6, x7, x8, x9, x10, x11, x12, x13, x14)) (chk (Sp.fits1068 x15) (chk (Sp.f1415_pre x0 x1 x2 x3 x4 x5 x6 x7 x8 x9 x10 x11 x12 x13 x14 x15) (bif !eqB (Sp.f1415 x0 x1 x2 x3 x4 x5 x6 x7 x8 x9 x10 x11 x12 x13 x14 x15).1 (Sp.ruS x0 x1 x2 x3 (Sp.rlW (x0, x1, x2, x3, x4, x5, x6, x7, x8, x9, x10, x11, x12, x13, x14)) x12 x13 x14 x15) then Zf else chk (Sp.rlP (x0, x1, x2, x3, x4, x5, x6, x7, x8, x9, x10, x11, x12, x13, x14)) (bif !(Sp.f1308 x0 x1 x2 x3 x4 x5 x6 x7 x8 x9 x10 x11 x12 x13 x14 x0 x1 x2 x3 x4 x5 x6 x7 x8 x9 x10 x11 x12 x13 x14).1 then Zf else chk (Sp.fits1068 x15) (bif !Sp.eqW Sp.eqTb x15 x15 then Zf else Zt))))))))) (by kernel_rfl) ?_
  unfold Sp.f1407_pre Sp.f1407
  exact (cond_step f1407_g ((lift_plain (rfl))) ((cond_step f1407_g ((lift_plain (rfl))) ((chk_step ((chk_step ((chk_step ((chk_step ((chk_step ((chk_step ((cond_step f1407_g ((lift_plain (rfl))) ((chk_step ((cond_step f1407_g ((lift_plain (rfl))) ((chk_last ((cond_plain f1407_g (rfl) (rfl))))))))))))))))))))))))))
theorem e1407_ok : Valid PP Γ e1407 := valid_auto ok (vcons e1412_ok (vcons e1065_ok (vcons e1414_ok (vcons e1068_ok (vcons e1413_ok (vcons e1415_ok (vcons e1308_ok (vcons e1070_ok vnil)))))))) fun a => f1407_form a.1.1 a.1.2.1 a.1.2.2.1 a.1.2.2.2.1 a.1.2.2.2.2.1 a.1.2.2.2.2.2.1 a.1.2.2.2.2.2.2.1 a.1.2.2.2.2.2.2.2.1 a.1.2.2.2.2.2.2.2.2.1 a.1.2.2.2.2.2.2.2.2.2.1 a.1.2.2.2.2.2.2.2.2.2.2.1 a.1.2.2.2.2.2.2.2.2.2.2.2.1 a.1.2.2.2.2.2.2.2.2.2.2.2.2.1 a.1.2.2.2.2.2.2.2.2.2.2.2.2.2.1 a.1.2.2.2.2.2.2.2.2.2.2.2.2.2.2 a.2

end Go.Proofs.GR.T

set_option maxRecDepth 1000000
set_option maxHeartbeats 100000000
namespace Go.Proofs.GR.T
open Go Go.Proofs Go.Proofs.GR
theorem negK_nat {n : Nat} : decide (((n : Nat) : Int) < 0) = false := decide_eq_false (by omega)
theorem okS_eq (r : RT) : (Sp.f1012 r.a.1 r.a.2.1 r.a.2.2.1 r.a.2.2.2.1 r.a.2.2.2.2.1 r.a.2.2.2.2.2.1 r.a.2.2.2.2.2.2 r.kids).1 = bif (Sp.f1020 r.a.1 r.a.2.1 r.a.2.2.1 r.a.2.2.2.1 r.a.2.2.2.2.1 r.a.2.2.2.2.2.1 r.a.2.2.2.2.2.2 r.kids).1 then Sp.xOK r true else false := by
  unfold Sp.f1012 Sp.f1020
  rw [mkT_flds, left_ok, xOK_eq]
  cases Sp.deepT r 20 with
  | true => rfl
  | false =>
    rw [Bool.not_false, cond_true, cond_true]
    cases decide ((((1 : Nat) + Sp.cntTs r.kids : Nat) : Int) ≤ 120) <;> rfl
theorem cnt120_of (r : RT) (h : (Sp.f1020 r.a.1 r.a.2.1 r.a.2.2.1 r.a.2.2.2.1 r.a.2.2.2.2.1 r.a.2.2.2.2.2.1 r.a.2.2.2.2.2.2 r.kids).1 = true) : Sp.cntT r ≤ 120 := by
  unfold Sp.f1020 at h
  have hk := cnt_kids r
  cases hd : Sp.deepT (Sp.mkT (r.a.1, r.a.2.1, r.a.2.2.1, r.a.2.2.2.1, r.a.2.2.2.2.1, r.a.2.2.2.2.2.1, r.a.2.2.2.2.2.2, r.kids)) 20 with
  | true => rw [hd] at h; cases h
  | false =>
    rw [hd] at h
    have := of_decide_eq_true h
    omega
theorem badF_eq (f : VF) : (!Sp.badF f) = Sp.scS f := by
  have e : (Sp.f70 f.2.2 0 4).1 = (Sp.f79 f.2.2 0 4).1 := rfl
  unfold Sp.badF Sp.f1511 Sp.scS
  rw [free_eq, free_eq, e]
  cases Sp.isFreeS f.2.1 <;> cases f.1.toList == (ByteArray.mk #[]).toList <;> cases Sp.isFreeS f.1 <;> cases (Sp.f79 f.2.2 0 4).1 <;> rfl
theorem fields_ok (sc : List VF) : (Sp.f1504 sc).1 = Sp.scFS sc := by
  have e : (Sp.f1510 sc).1 = Sp.anyW Sp.badF sc := idx_any Sp.badF sc 0 (Int.le_refl 0)
  have e2 : (fun f => !Sp.badF f) = Sp.scS := funext badF_eq
  unfold Sp.f1504 Sp.scFS
  rw [e, anyW_all, Bool.not_not, e2]
  by_cases h : (sc.length : Int) ≤ 16
  · rw [decide_eq_true h, decide_eq_false (by omega)]; rfl
  · rw [decide_eq_false h, decide_eq_true (by omega)]; rfl
theorem td_eq (t : VTb) (r : RT) (due : Int) : Sp.tdI (Sp.flds t.2.1 t.1) r due = Sp.tdR t r due := by
  unfold Sp.tdI Sp.tdR Sp.f1446 Sp.f1427 Sp.f1466 Sp.f1442 Sp.f1489
  rw [okS_eq, fields_ok, mkT_flds, f1468_eq]
  generalize hsc : Sp.flds t.2.1 t.1 = sc
  cases decide ((sc.length : Int) > 4096) with
  | true => cases (Sp.f1020 r.a.1 r.a.2.1 r.a.2.2.1 r.a.2.2.2.1 r.a.2.2.2.2.1 r.a.2.2.2.2.2.1 r.a.2.2.2.2.2.2 r.kids).1 <;> cases Sp.xOK r true <;> cases Sp.aggT r <;> rfl
  | false =>
  cases hf : (Sp.f1020 r.a.1 r.a.2.1 r.a.2.2.1 r.a.2.2.2.1 r.a.2.2.2.2.1 r.a.2.2.2.2.2.1 r.a.2.2.2.2.2.2 r.kids).1 with
  | false => rfl
  | true =>
  cases hx : Sp.xOK r true with
  | false => rfl
  | true =>
  rw [xOK_eq] at hx
  have hc := cnt120_of r hf
  obtain ⟨_, _, h3⟩ := ty_eq (sc, false, []) r true hx false 0 0 0 (Int.le_refl 0) (by omega)
  obtain ⟨h4, h5⟩ := h3 rfl
  cases Sp.scFS sc with
  | false => cases Sp.aggT r <;> rfl
  | true =>
  simp only [cond_true, cond_false, Bool.not_true, show ((0 : Int) != 0) = false from rfl]
  by_cases hq : (Sp.tyI (sc, false, []) r 0 false).2.1 = 0
  · obtain ⟨q1, q2⟩ := h4 hq
    have e1 : ((Sp.tyI (sc, false, []) r 0 false).2.1 != 0) = false := by rw [hq]; rfl
    have e2 : ((Sp.tyS (sc, false, []) r false (0, 0, 0)).2.2.1 != 0) = false := by rw [q2]; rfl
    rw [e1, e2, q1]
    unfold Sp.isOf
    simp only [cond_false, show ((0 : Int) == 0) = true from rfl, cond_true]
    cases Sp.aggT r <;> cases (Sp.tyI (sc, false, []) r 0 false).1 == due <;> rfl
  · have e1 : ((Sp.tyI (sc, false, []) r 0 false).2.1 != 0) = true := by rw [bne, beq_false_of_ne hq]; rfl
    have e2 : ((Sp.tyS (sc, false, []) r false (0, 0, 0)).2.2.1 != 0) = true := by rw [h5 hq]; exact e1
    have e3 : ((Sp.tyI (sc, false, []) r 0 false).2.1 == 0) = false := beq_false_of_ne hq
    have e4 : ((Sp.tyS (sc, false, []) r false (0, 0, 0)).2.2.1 == 0) = false := by rw [h5 hq]; exact e3
    rw [e1, e2]
    simp only [cond_true, e3, e4, cond_false]
    cases Sp.aggT r <;> rfl
def Sp.fnT (t : VTb) : Prop := t.1.size ≤ 9223372036854775807 ∧ t.2.1.length ≤ 1000000000000 ∧ ∀ c ∈ t.2.1, c.1.size ≤ 9223372036854775807
def Sp.fnR (r : RT) : Prop := Wf tT r ∧ Sp.cntT r ≤ 100000000
theorem okF_of {t : VTb} (h : Sp.fnT t) : Sp.allW Sp.okF (Sp.flds t.2.1 t.1) = true := by
  refine allW_mem.2 fun f hf => ?_
  obtain ⟨c, hc, rfl⟩ := List.mem_map.1 hf
  unfold Sp.okF Sp.f1511_pre Sp.f1029_pre Sp.fld
  dsimp only
  rw [Nat.ble_eq_true_of_le (h.2.2 c hc), Nat.ble_eq_true_of_le h.1]
  cases (Sp.f1029 c.1).1 <;> cases t.1.toList == (ByteArray.mk #[]).toList <;> rfl
theorem tdP_of {t : VTb} {r : RT} (ht : Sp.fnT t) (hr : Sp.fnR r) : Sp.tdP (Sp.flds t.2.1 t.1) r = true := by
  have hk := cnt_kids r
  have hc : Sp.cntT r ≤ 100000000 := hr.2
  have h5 : Sp.f1504_pre (Sp.flds t.2.1 t.1) = true := by
    unfold Sp.f1504_pre Sp.f1510_pre
    rw [okF_of ht]
    cases decide (((Sp.flds t.2.1 t.1).length : Int) ≤ 16) <;> rfl
  have h2 : Sp.f1020_pre r.a.1 r.a.2.1 r.a.2.2.1 r.a.2.2.2.1 r.a.2.2.2.2.1 r.a.2.2.2.2.2.1 r.a.2.2.2.2.2.2 r.kids = true := by
    unfold Sp.f1020_pre
    rw [cnt32_mk (by omega)]
    cases !Sp.deepT (Sp.mkT (r.a.1, r.a.2.1, r.a.2.2.1, r.a.2.2.2.1, r.a.2.2.2.2.1, r.a.2.2.2.2.2.1, r.a.2.2.2.2.2.2, r.kids)) 20 <;> rfl
  unfold Sp.tdP Sp.f1466_pre Sp.f1489_pre
  rw [h2, h5, mkT_flds, strT_of r hr.1]
  unfold Sp.f1489
  rw [mkT_flds]
  cases decide (((Sp.flds t.2.1 t.1).length : Int) > 4096) with
  | true => rfl
  | false =>
  cases (Sp.f1020 r.a.1 r.a.2.1 r.a.2.2.1 r.a.2.2.2.1 r.a.2.2.2.2.1 r.a.2.2.2.2.2.1 r.a.2.2.2.2.2.2 r.kids).1 with
  | false => rfl
  | true =>
  cases hx : Sp.xOK r true with
  | false => rfl
  | true =>
  rw [xOK_eq] at hx
  have hT : Sp.tyP r 0 = true := yes2_mk (ar_of r true hx) (yes2_mk (decide_eq_true (Int.le_refl 0)) (decide_eq_true (by omega)))
  rw [hT]
  cases (Sp.f1504 (Sp.flds t.2.1 t.1)).1 <;> rfl
theorem tdRP_of {t : VTb} {r : RT} (ht : Sp.fnT t) : Sp.tdRP t r = true := by
  unfold Sp.tdRP Sp.f1427_pre Sp.f1442_pre
  rw [mkT_flds, show Sp.fits32 t.2.1 = true from Nat.ble_eq_true_of_le ht.2.1]
  cases ho : (Sp.f1012 r.a.1 r.a.2.1 r.a.2.2.1 r.a.2.2.2.1 r.a.2.2.2.2.1 r.a.2.2.2.2.2.1 r.a.2.2.2.2.2.2 r.kids).1 with
  | false => rfl
  | true =>
  rw [okS_eq] at ho
  have hx : Sp.xOK r true = true := by
    cases hf : (Sp.f1020 r.a.1 r.a.2.1 r.a.2.2.1 r.a.2.2.2.1 r.a.2.2.2.2.1 r.a.2.2.2.2.2.1 r.a.2.2.2.2.2.2 r.kids).1 with
    | true => rw [hf] at ho; exact ho
    | false => rw [hf] at ho; cases ho
  rw [xOK_eq] at hx
  have hz : Sp.tzP false r = true := yes2_mk rfl (ar_of r true hx)
  rw [hz]
  cases Sp.aggT r <;> cases decide (((Sp.flds t.2.1 t.1).length : Int) > 4096) <;> cases Sp.scFS (Sp.flds t.2.1 t.1) <;> rfl
theorem bytes_eq {a b : ByteArray} (h : (a.toList == b.toList) = true) : a = b := by
  have h := eq_of_beq h
  rw [toList_eq, toList_eq] at h
  cases a
  cases b
  exact congrArg ByteArray.mk (Array.toList_inj.1 h)
theorem set_eq (t : VTb) (ev : Int) (he : (ev == 3) = false) (pre : List VSg) (x : VSg) : Sp.setR t ev pre x = Sp.setP t.2.1 t.2.2.1 (Sp.flds t.2.1 t.1) pre x := by
  unfold Sp.setR Sp.setP
  rw [he, cond_false, td_eq]
theorem sets_eq (t : VTb) (ev : Int) (xs : List VSg) (z : Bool) : (bif decide ((xs.length : Int) > 8) then false else bif Sp.allP (Sp.setR t ev) [] xs then z else false) = bif Sp.setsI ev xs t.2.1 t.2.2.1 (Sp.flds t.2.1 t.1) then z else false := by
  unfold Sp.setsI
  cases he : ev == 3 with
  | false =>
    have e : Sp.setR t ev = Sp.setP t.2.1 t.2.2.1 (Sp.flds t.2.1 t.1) := funext fun p => funext fun x => set_eq t ev he p x
    rw [e, bne, he]
    by_cases h : (xs.length : Int) ≤ 8
    · rw [decide_eq_true h, decide_eq_false (by omega)]
      cases Sp.allP (Sp.setP t.2.1 t.2.2.1 (Sp.flds t.2.1 t.1)) [] xs <;> cases (xs.length : Int) == 0 <;> rfl
    · rw [decide_eq_false h, decide_eq_true (by omega)]
      cases Sp.allP (Sp.setP t.2.1 t.2.2.1 (Sp.flds t.2.1 t.1)) [] xs <;> rfl
  | true =>
    cases xs with
    | nil => cases z <;> rfl
    | cons x l =>
      have e : Sp.allP (Sp.setR t ev) [] (x :: l) = false := by
        unfold Sp.allP Sp.setR
        rw [he]
        rfl
      rw [e, bne, he, lenC_ne]
      cases decide ((((x :: l).length : Nat) : Int) > 8) <;> cases Sp.allP (Sp.setP t.2.1 t.2.2.1 (Sp.flds t.2.1 t.1)) [] (x :: l) <;> cases decide ((((x :: l).length : Nat) : Int) ≤ 8) <;> rfl
theorem zip_eq (t : VTb) : ∀ (es : List RT) (cs : List VCo), Sp.zipR t es cs = Sp.zipI (Sp.flds t.2.1 t.1) es cs
  | [], cs => by rw [Sp.zipR, Sp.zipI] <;> (intros; contradiction)
  | r :: l, [] => by rw [Sp.zipR, Sp.zipI] <;> (intros; contradiction)
  | r :: l, c :: k => by rw [Sp.zipR, Sp.zipI, td_eq, zip_eq t l k]
theorem into_eq {ts : List VTb} (hc : Sp.catOK ts = true) (into : ByteArray) (es : List RT) (t : VTb) : Sp.intoR into es ts t = Sp.intoI into es ts (Sp.flds t.2.1 t.1) := by
  unfold Sp.intoR Sp.intoI
  rw [seek_idx into hc]
  cases into.toList == (ByteArray.mk #[]).toList with
  | true => rfl
  | false =>
    cases Sp.hitT ts into with
    | false => rfl
    | true =>
      rw [cond_true, negK_nat, zip_eq]
      rfl
theorem rule_eq (x0 x1 : ByteArray) (x2 x3 x4 x5 : Int) (x6 x7 : ByteArray) (x8 x9 : Int) (x10 : ByteArray) (x11 : List RT) (xs : List VSg) (into : ByteArray) (es : List RT) (ts : List VTb) :
    (Sp.f1415 x0 x1 x2 x3 x4 x5 x6 x7 x8 x9 x10 x11 xs into es ts).1 = Sp.ruS x0 x1 x2 x3 (Sp.mkT (x4, x5, x6, x7, x8, x9, x10, x11)) xs into es ts := by
  unfold Sp.f1415 Sp.ruS
  cases hc : Sp.catOK ts with
  | false => cases decide ((ts.length : Int) > 4096) <;> rfl
  | true =>
  have hl := (cat_of hc).1
  rw [decide_eq_false (show ¬ (ts.length : Int) > 4096 by omega), cond_false, Bool.not_true, cond_false, cond_true, seek_idx x1 hc]
  unfold Sp.f1429 Sp.f1092
  rw [free_eq]
  show (bif !Sp.hitT ts x1 then _ else _ : Bool × Unit).1 = _
  cases hh : Sp.hitT ts x1 with
  | false => cases Sp.isFreeS x0 <;> rfl
  | true =>
  rw [cond_true, negK_nat, cond_false, Bool.not_true, cond_false]
  have e1 : (Sp.f70 x2 1 3).1 = (Sp.f79 x2 1 3).1 := rfl
  have e2 : (Sp.f70 x3 0 100).1 = (Sp.f79 x3 0 100).1 := rfl
  rw [e1, e2]
  have hn : (Sp.tAt ts (Sp.lowT ts x1 : Nat)).1 = x1 := by
    have h := hh
    unfold Sp.hitT at h
    rw [decide_eq_true (hit_lt hh), cond_true] at h
    exact bytes_eq h
  have et : ts.getD ((Sp.seekT ts x1).1).toNat (ByteArray.mk #[], [], (0 : Int), []) = Sp.tAt ts (Sp.lowT ts x1 : Nat) := rfl
  show (bif !Sp.isFreeS x0 then (false, ()) else bif !(Sp.f79 x2 1 3).1 then (false, ()) else bif !(Sp.f79 x3 0 100).1 then (false, ()) else bif Sp.tdI (Sp.flds (Sp.tAt ts (Sp.lowT ts x1 : Nat)).2.1 x1) (Sp.mkT (x4, x5, x6, x7, x8, x9, x10, x11)) 1 then (bif Sp.setsI x2 xs (Sp.tAt ts (Sp.lowT ts x1 : Nat)).2.1 (Sp.tAt ts (Sp.lowT ts x1 : Nat)).2.2.1 (Sp.flds (Sp.tAt ts (Sp.lowT ts x1 : Nat)).2.1 x1) then (Sp.intoI into es ts (Sp.flds (Sp.tAt ts (Sp.lowT ts x1 : Nat)).2.1 x1), ()) else (false, ())) else (false, ()) : Bool × Unit).1 = _
  have es1 : Sp.flds (Sp.tAt ts (Sp.lowT ts x1 : Nat)).2.1 x1 = Sp.flds (Sp.tAt ts (Sp.lowT ts x1 : Nat)).2.1 (Sp.tAt ts (Sp.lowT ts x1 : Nat)).1 := by rw [hn]
  rw [es1]
  generalize Sp.tAt ts (Sp.lowT ts x1 : Nat) = t
  unfold Sp.ruR
  rw [td_eq, sets_eq, into_eq hc]
  cases Sp.isFreeS x0 <;> cases (Sp.f79 x2 1 3).1 <;> cases (Sp.f79 x3 0 100).1 <;> cases Sp.tdR t (Sp.mkT (x4, x5, x6, x7, x8, x9, x10, x11)) 1 <;> cases Sp.setsI x2 xs t.2.1 t.2.2.1 (Sp.flds t.2.1 t.1) <;> rfl
end Go.Proofs.GR.T

set_option maxRecDepth 1000000
set_option maxHeartbeats 100000000
namespace Go.Proofs.GR.T
open Go Go.Proofs Go.Proofs.GR
theorem eqSg_self (x : VSg) : Sp.eqSg x x = true := by
  unfold Sp.eqSg Sp.f1351
  rw [bne, beq_self_eq_true, mkT_flds, eqT_self]
  rfl
def Sp.ctKid (r : RT) : Nat := Sp.cntTs r.kids
def Sp.ctSg (x : VSg) : Nat := Sp.cntTs x.2.kids
theorem szSg_wt {x : VSg} (hw : Wf tT x.2) (l : Int) (h0 : 0 ≤ l) (hl : l ≤ 1048576) (h : 0 ≤ Sp.szSg x l) : Sp.szSg x l + (Sp.ctSg x : Int) ≤ l := by
  have e : Sp.szSg x l = bif decide (Sp.szT x.2 l < 0) then -1 else Sp.szT x.2 l := by
    unfold Sp.szSg Sp.f1440
    rw [mkT_flds]
    cases decide (Sp.szT x.2 l < 0) <;> rfl
  rw [e] at h ⊢
  by_cases hn : Sp.szT x.2 l < 0
  · rw [decide_eq_true hn, cond_true] at h; omega
  · rw [decide_eq_false hn, cond_false]
    exact szT_wt x.2 hw l h0 hl (by omega)
theorem cntTs_kids : ∀ l : List RT, Sp.cntTs l = l.length + Sp.wtW Sp.ctKid l
  | [] => by rw [Sp.cntTs]; rfl
  | r :: l => by
    have := cnt_kids r
    rw [Sp.cntTs, Sp.wtW, List.length_cons, cntTs_kids l]
    unfold Sp.ctKid
    omega
theorem catP_mem : ∀ (xs pre : List VTb), Sp.allP Sp.catP pre xs = true → ∀ x ∈ xs, Sp.okT x = true
  | [], _, _, x, hx => by cases hx
  | y :: r, pre, h, x, hx => by
    unfold Sp.allP at h
    cases hp : Sp.catP pre y with
    | false => rw [hp] at h; cases h
    | true =>
      rw [hp, Bool.not_true, cond_false] at h
      rcases List.mem_cons.1 hx with rfl | hx
      · unfold Sp.catP at hp
        cases ho : Sp.okT x with
        | true => rfl
        | false => rw [ho] at hp; cases hp
      · exact catP_mem r _ h x hx
theorem key_pos {ts : List VTb} (hc : Sp.catOK ts = true) {t : VTb} (ht : t ∈ ts) : 0 ≤ t.2.2.1 := by
  unfold Sp.catOK at hc
  have ho : Sp.okT t = true := by
    cases h1 : decide ((ts.length : Int) > 4096) with
    | true => rw [h1] at hc; cases hc
    | false =>
      rw [h1, cond_false] at hc
      cases h2 : decide ((ts.length : Int) > 6) with
      | true => rw [h2] at hc; cases hc
      | false => rw [h2, cond_false] at hc; exact catP_mem ts [] hc t ht
  unfold Sp.okT Sp.tbOK at ho
  cases h1 : Sp.isFreeS t.1 with
  | false => rw [h1] at ho; cases ho
  | true =>
    rw [h1, Bool.not_true, cond_false] at ho
    cases h2 : (Sp.f79 (t.2.1.length : Int) 1 8).1 with
    | false => rw [h2] at ho; cases ho
    | true =>
      rw [h2, Bool.not_true, cond_false] at ho
      cases h3 : (Sp.f79 t.2.2.1 1 (t.2.1.length : Int)).1 with
      | false => rw [h3] at ho; cases ho
      | true =>
        unfold Sp.f79 at h3
        by_cases h4 : t.2.2.1 ≥ 1
        · omega
        · rw [decide_eq_false h4] at h3; cases h3
theorem tAtK_mem {ts : List VTb} {i : Int} (h0 : 0 ≤ i) (h1 : i < (ts.length : Int)) : Sp.tAt ts i ∈ ts := by
  have e : Sp.tAt ts i = ts[i.toNat]'(by omega) := by
    have := getD_nat ts i.toNat (ByteArray.mk #[], [], (0 : Int), []) (by omega)
    rw [Int.toNat_of_nonneg h0] at this
    exact this
  rw [e]
  exact List.getElem_mem _
theorem fnT_of {ts : List VTb} (h : Sp.okTbs ts) (hs : Sp.smallTbs ts) {t : VTb} (ht : t ∈ ts) : Sp.fnT t := by
  have h1 := h.2 t ht
  have h2 := hs.2 t ht
  unfold Sp.ctTb at h2
  exact ⟨h1.1, by omega, h1.2.1.2⟩
structure FnRl (x0 x1 : ByteArray) (w : RT) (xs : List VSg) (into : ByteArray) (es : List RT) : Prop where
  b0 : x0.size ≤ 9223372036854775807
  b1 : x1.size ≤ 9223372036854775807
  hw : Wf tT w
  xl : xs.length ≤ 9223372036854775807
  hx : ∀ x ∈ xs, Wf tT x.2
  b2 : into.size ≤ 9223372036854775807
  el : es.length ≤ 9223372036854775807
  he : ∀ r ∈ es, Wf tT r
theorem rule_pre {x0 x1 : ByteArray} {x2 x3 x4 x5 : Int} {x6 x7 : ByteArray} {x8 x9 : Int} {x10 : ByteArray} {x11 : List RT} {xs : List VSg} {into : ByteArray} {es : List RT} {ts : List VTb}
    (h : FnRl x0 x1 (Sp.mkT (x4, x5, x6, x7, x8, x9, x10, x11)) xs into es) (ht : Sp.okTbs ts) (hs : Sp.smallTbs ts)
    (kw : Sp.cntTs x11 ≤ 1048576) (kx : xs.length ≤ 1048576) (kx2 : ∀ x ∈ xs, Sp.cntTs x.2.kids ≤ 1048576) (ke : es.length ≤ 1048576) (ke2 : ∀ r ∈ es, Sp.cntTs r.kids ≤ 1048576) :
    Sp.ruP x1 (Sp.mkT (x4, x5, x6, x7, x8, x9, x10, x11)) xs es ts = true ∧ Sp.f1415_pre x0 x1 x2 x3 x4 x5 x6 x7 x8 x9 x10 x11 xs into es ts = true := by
  have f1 : Sp.fits32 xs = true := Nat.ble_eq_true_of_le (by omega)
  have f2 : Sp.fits32 es = true := Nat.ble_eq_true_of_le (by omega)
  have rw0 : Sp.fnR (Sp.mkT (x4, x5, x6, x7, x8, x9, x10, x11)) := ⟨h.hw, by
    have hk : 1 + Sp.cntTs x11 = Sp.cntT (Sp.mkT (x4, x5, x6, x7, x8, x9, x10, x11)) := cnt_kids (Sp.mkT (x4, x5, x6, x7, x8, x9, x10, x11))
    omega⟩
  have rx : ∀ x ∈ xs, Sp.fnR x.2 := fun x hx => ⟨h.hx x hx, by have := cnt_kids x.2; have := kx2 x hx; omega⟩
  have re : ∀ r ∈ es, Sp.fnR r := fun r hr => ⟨h.he r hr, by have := cnt_kids r; have := ke2 r hr; omega⟩
  constructor
  · unfold Sp.ruP
    refine yes2_mk f1 (yes2_mk f2 ?_)
    cases hc : Sp.catOK ts with
    | false => rfl
    | true =>
    rw [cond_true]
    cases hi : decide (Sp.idx (Sp.nmTb x1) ts 0 < 0) with
    | true => rfl
    | false =>
    rw [cond_false]
    have hi0 : 0 ≤ Sp.idx (Sp.nmTb x1) ts 0 := by have := of_decide_eq_false hi; omega
    have hi1 : Sp.idx (Sp.nmTb x1) ts 0 < (ts.length : Int) := by have := idxK_lt (Sp.nmTb x1) ts 0 (Int.le_refl 0); omega
    have hm := tAtK_mem hi0 hi1
    have hf := fnT_of ht hs hm
    exact yes2_mk (Nat.ble_eq_true_of_le hf.2.1) (yes2_mk (decide_eq_true (key_pos hc hm)) (yes2_mk (tdRP_of hf) (yes2_mk (allW_mem.2 fun x _ => tdRP_of hf) (allW_mem.2 fun r _ => tdRP_of hf))))
  · unfold Sp.f1415_pre
    rw [fine_of ht, Bool.true_and]
    cases hc : Sp.catOK ts with
    | false => rfl
    | true =>
    rw [cond_true]
    have hr := rist_of hc
    unfold Sp.f1429_pre
    rw [show Sp.f1092_pre ts x1 = true from hr, Bool.true_and]
    show (bif !Sp.hitT ts x1 then true else _) = true
    cases hh : Sp.hitT ts x1 with
    | false => rfl
    | true =>
    have hl := hit_lt hh
    have hn : (Sp.tAt ts (Sp.lowT ts x1 : Nat)).1 = x1 := by
      have h := hh
      unfold Sp.hitT at h
      rw [decide_eq_true hl, cond_true] at h
      exact bytes_eq h
    have hm : Sp.tAt ts (Sp.lowT ts x1 : Nat) ∈ ts := tAtK_mem (by omega) (by omega)
    have hf := fnT_of ht hs hm
    have p0 : Sp.f1029_pre x0 = true := Nat.ble_eq_true_of_le h.b0
    have g1 : (decide ((0 : Int) ≤ (Sp.f1092 ts x1).1.1) && decide ((Sp.f1092 ts x1).1.1 < (ts.length : Int))) = true := guardI hl
    have p1 : Sp.fits32 (ts.getD (Sp.f1092 ts x1).1.1.toNat (ByteArray.mk #[], [], (0 : Int), [])).2.1 = true := Nat.ble_eq_true_of_le hf.2.1
    have esc : Sp.flds (ts.getD (Sp.f1092 ts x1).1.1.toNat (ByteArray.mk #[], [], (0 : Int), [])).2.1 x1 = Sp.flds (Sp.tAt ts (Sp.lowT ts x1 : Nat)).2.1 (Sp.tAt ts (Sp.lowT ts x1 : Nat)).1 := by rw [hn]; rfl
    have p2 : Sp.f1446_pre x4 x5 x6 x7 x8 x9 x10 x11 (Sp.flds (ts.getD (Sp.f1092 ts x1).1.1.toNat (ByteArray.mk #[], [], (0 : Int), [])).2.1 x1) 1 = true := by
      rw [esc]
      exact tdP_of hf rw0
    have p3 : Sp.setsP xs (ts.getD (Sp.f1092 ts x1).1.1.toNat (ByteArray.mk #[], [], (0 : Int), [])).2.1 (ts.getD (Sp.f1092 ts x1).1.1.toNat (ByteArray.mk #[], [], (0 : Int), [])).2.2.1 (Sp.flds (ts.getD (Sp.f1092 ts x1).1.1.toNat (ByteArray.mk #[], [], (0 : Int), [])).2.1 x1) = true := by
      rw [esc]
      exact yes2_mk f1 (yes2_mk p1 (yes2_mk (decide_eq_true (key_pos hc hm)) (allW_mem.2 fun x hx => tdP_of hf (rx x hx))))
    have p4 : Sp.intoP es ts (Sp.flds (ts.getD (Sp.f1092 ts x1).1.1.toNat (ByteArray.mk #[], [], (0 : Int), [])).2.1 x1) = true := by
      rw [esc]
      exact yes2_mk f2 (yes2_mk hr (allW_mem.2 fun r hr => tdP_of hf (re r hr)))
    rw [p0, g1, p1, p2, p3, p4, Bool.not_true, cond_false]
    cases !(Sp.f1029 x0).1 <;> cases !(Sp.f70 x2 1 3).1 <;> cases !(Sp.f70 x3 0 100).1 <;> simp
theorem law1407_pre (x0 x1 : ByteArray) (x2 x3 x4 x5 : Int) (x6 x7 : ByteArray) (x8 x9 : Int) (x10 : ByteArray) (x11 : List RT) (xs : List VSg) (into : ByteArray) (es : List RT) (ts : List VTb)
    (h : FnRl x0 x1 (Sp.mkT (x4, x5, x6, x7, x8, x9, x10, x11)) xs into es) (ht : Sp.okTbs ts) : Sp.f1407_pre x0 x1 x2 x3 x4 x5 x6 x7 x8 x9 x10 x11 xs into es ts = true := by
  unfold Sp.f1407_pre
  by_cases c1 : (Sp.f1412 x0 x1 x2 x3 x4 x5 x6 x7 x8 x9 x10 x11 xs into es (1048576 : Int)).1 < 0
  · rw [decide_eq_true c1]; rfl
  have c1' := c1
  have hv : ∃ v6 : Int, (Sp.f1412 x0 x1 x2 x3 x4 x5 x6 x7 x8 x9 x10 x11 xs into es (1048576 : Int)).1 = v6 ∧ v6 ≤ 1048576 ∧ Sp.cntTs x11 ≤ 1048576 ∧ xs.length ≤ 1048576 ∧ (∀ x ∈ xs, Sp.cntTs x.2.kids ≤ 1048576) ∧ es.length ≤ 1048576 ∧ (∀ r ∈ es, Sp.cntTs r.kids ≤ 1048576) ∧ Sp.cntTs es ≤ 1048576 := by
    refine ⟨_, rfl, ?_⟩
    have b0 := h.b0
    have b1 := h.b1
    have b2 := h.b2
    unfold Sp.f1412 at c1' ⊢
    rw [wrap64 (n := 1048576 - (x0.size : Int)) (by omega) (by omega)] at c1' ⊢
    by_cases k1 : 1048576 - (x0.size : Int) < 0
    · rw [decide_eq_true k1] at c1'; exact absurd (show (-1 : Int) < 0 by decide) c1'
    rw [decide_eq_false k1, cond_false] at c1' ⊢
    rw [wrap64 (n := 1048576 - (x0.size : Int) - (x1.size : Int)) (by omega) (by omega)] at c1' ⊢
    by_cases k2 : 1048576 - (x0.size : Int) - (x1.size : Int) < 0
    · rw [decide_eq_true k2] at c1'; exact absurd (show (-1 : Int) < 0 by decide) c1'
    rw [decide_eq_false k2, cond_false] at c1' ⊢
    have hz := szT_wt (Sp.mkT (x4, x5, x6, x7, x8, x9, x10, x11)) h.hw (1048576 - (x0.size : Int) - (x1.size : Int)) (by omega) (by omega)
    have hz : 0 ≤ Sp.szT (Sp.mkT (x4, x5, x6, x7, x8, x9, x10, x11)) (1048576 - (x0.size : Int) - (x1.size : Int)) → Sp.szT (Sp.mkT (x4, x5, x6, x7, x8, x9, x10, x11)) (1048576 - (x0.size : Int) - (x1.size : Int)) + (Sp.cntTs x11 : Int) ≤ 1048576 - (x0.size : Int) - (x1.size : Int) := hz
    generalize Sp.szT (Sp.mkT (x4, x5, x6, x7, x8, x9, x10, x11)) (1048576 - (x0.size : Int) - (x1.size : Int)) = v3 at hz c1' ⊢
    by_cases k3 : v3 < 0
    · rw [decide_eq_true k3] at c1'; exact absurd (show (-1 : Int) < 0 by decide) c1'
    rw [decide_eq_false k3, cond_false] at c1' ⊢
    have hz := hz (by omega)
    have hy := szE_wt (f := Sp.szSg) (c := Sp.ctSg) (xs := xs) (l := v3) h.xl (fun x hx l a b c => szSg_wt (h.hx x hx) l a b c) (by omega) (by omega)
    generalize Sp.szE Sp.szSg xs v3 = v4 at hy c1' ⊢
    by_cases k4 : v4 < 0
    · rw [decide_eq_true k4] at c1'; exact absurd (show (-1 : Int) < 0 by decide) c1'
    rw [decide_eq_false k4, cond_false] at c1' ⊢
    have hy := hy (by omega)
    rw [wrap64 (n := v4 - (into.size : Int)) (by omega) (by omega)] at c1' ⊢
    by_cases k5 : v4 - (into.size : Int) < 0
    · rw [decide_eq_true k5] at c1'; exact absurd (show (-1 : Int) < 0 by decide) c1'
    rw [decide_eq_false k5, cond_false] at c1' ⊢
    have hu := szE_wt (f := Sp.szT) (c := Sp.ctKid) (xs := es) (l := v4 - (into.size : Int)) h.el (fun r hr l a b c => szT_wt r (h.he r hr) l a b c) (by omega) (by omega)
    generalize Sp.szE Sp.szT es (v4 - (into.size : Int)) = v6 at hu c1' ⊢
    by_cases k6 : v6 < 0
    · rw [decide_eq_true k6] at c1'; exact absurd (show (-1 : Int) < 0 by decide) c1'
    rw [decide_eq_false k6, cond_false]
    have hu := hu (by omega)
    have hce := cntTs_kids es
    refine ⟨by show v6 ≤ 1048576; omega, by omega, by omega, fun x hx => ?_, by omega, fun r hr => ?_, by omega⟩
    · have := wtW_one (w := Sp.ctSg) hx
      have e : Sp.ctSg x = Sp.cntTs x.2.kids := rfl
      omega
    · have := wtW_one (w := Sp.ctKid) hr
      have e : Sp.ctKid r = Sp.cntTs r.kids := rfl
      omega
  obtain ⟨v6, hv, l6, kw, kx, kx2, ke, ke2, kes⟩ := hv
  rw [hv] at c1 ⊢
  by_cases c2 : Sp.szE Sp.szTb ts v6 < 0
  · rw [decide_eq_false c1, decide_eq_true c2]; rfl
  have hs := smallTb_of ht (l := v6) (by omega) l6 c2
  have p2 := fits_of hs
  have p1 : Sp.rlP (x0, x1, x2, x3, x4, x5, x6, x7, x8, x9, x10, x11, xs, into, es) = true := by
    unfold Sp.rlP
    rw [fitTs_cnt (l := x11) (by omega), fitTs_cnt (l := es) (by omega), show Sp.fits1428 xs = true from yes2_mk (Nat.ble_eq_true_of_le (by omega)) (allW_mem.2 fun x hx => fitTs_cnt (l := x.2.kids) (by have := kx2 x hx; omega))]
    rfl
  obtain ⟨p3, p4⟩ := rule_pre (x2 := x2) (x3 := x3) h ht hs kw kx kx2 ke ke2
  have p3' : Sp.ruP x1 (Sp.rlW (x0, x1, x2, x3, x4, x5, x6, x7, x8, x9, x10, x11, xs, into, es)) xs es ts = true := p3
  rw [decide_eq_false c1, decide_eq_false c2, cond_false, cond_false, p1, p2]
  show (true && (true && (Sp.ruP x1 (Sp.rlW (x0, x1, x2, x3, x4, x5, x6, x7, x8, x9, x10, x11, xs, into, es)) xs es ts && (true && (true && (Sp.f1415_pre x0 x1 x2 x3 x4 x5 x6 x7 x8 x9 x10 x11 xs into es ts && _)))))) = true
  rw [p3', p4]
  simp
theorem law1407 (x0 x1 : ByteArray) (x2 x3 x4 x5 : Int) (x6 x7 : ByteArray) (x8 x9 : Int) (x10 : ByteArray) (x11 : List RT) (xs : List VSg) (into : ByteArray) (es : List RT) (ts : List VTb) : (Sp.f1407 x0 x1 x2 x3 x4 x5 x6 x7 x8 x9 x10 x11 xs into es ts).1 = true := by
  have hself : (Sp.f1308 x0 x1 x2 x3 x4 x5 x6 x7 x8 x9 x10 x11 xs into es x0 x1 x2 x3 x4 x5 x6 x7 x8 x9 x10 x11 xs into es).1 = true := by
    unfold Sp.f1308
    rw [bne, bne, beq_self_eq_true, beq_self_eq_true, beq_self_eq_true, beq_self_eq_true, beq_self_eq_true, eqT_self, eqTs_self, eqW_self eqSg_self]
    rfl
  have hr := rule_eq x0 x1 x2 x3 x4 x5 x6 x7 x8 x9 x10 x11 xs into es ts
  have ht : Sp.eqW Sp.eqTb ts ts = true := eqW_self eqTb_self ts
  unfold Sp.f1407
  show (bif decide ((Sp.f1412 x0 x1 x2 x3 x4 x5 x6 x7 x8 x9 x10 x11 xs into es (1048576 : Int)).1 < 0) then (true, ()) else bif decide (Sp.szE Sp.szTb ts (Sp.f1412 x0 x1 x2 x3 x4 x5 x6 x7 x8 x9 x10 x11 xs into es (1048576 : Int)).1 < 0) then (true, ()) else bif !Go.Proofs.GR.eqB (Sp.f1415 x0 x1 x2 x3 x4 x5 x6 x7 x8 x9 x10 x11 xs into es ts).1 (Sp.ruS x0 x1 x2 x3 (Sp.mkT (x4, x5, x6, x7, x8, x9, x10, x11)) xs into es ts) then (false, ()) else bif !(Sp.f1308 x0 x1 x2 x3 x4 x5 x6 x7 x8 x9 x10 x11 xs into es x0 x1 x2 x3 x4 x5 x6 x7 x8 x9 x10 x11 xs into es).1 then (false, ()) else bif !Sp.eqW Sp.eqTb ts ts then (false, ()) else (true, ()) : Bool × Unit).1 = true
  rw [hr, hself, ht]
  have he : ∀ b : Bool, Go.Proofs.GR.eqB b b = true := fun b => by cases b <;> rfl
  rw [he]
  cases decide ((Sp.f1412 x0 x1 x2 x3 x4 x5 x6 x7 x8 x9 x10 x11 xs into es (1048576 : Int)).1 < 0) <;> cases decide (Sp.szE Sp.szTb ts (Sp.f1412 x0 x1 x2 x3 x4 x5 x6 x7 x8 x9 x10 x11 xs into es (1048576 : Int)).1 < 0) <;> rfl
end Go.Proofs.GR.T

